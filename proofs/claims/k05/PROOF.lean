import PyProof.Rows.All
import Wide.All
import OpenK.AllK
import Wide.FinOn
import HandS.ForMost
import HandS.Exc
import HandS.TryOnly
import HandS.Lambda
import KE.KDictKeyed
import KE.DataEq
import HandS.TupAny
import HandS.TupMul
import HandS.Style
import HandS.Deep
import HandS.IsInst
import HandS.Wide
import HandS.CallSlots
import HandS.WordsExc
import HandS.Property
import HandS.Defaults
import HandS.Iter
import HandS.Zip
import KE.GoesMore
import KE.GoesZip
import HandS.Small
import HandS.Head0
import HandS.Head1
import HandS.Head2
import HandS.HeadEnd
import HandS.HeadHook1
import HandS.HeadHook2
import KE.KExcSuper
import KE.KSuper
import HandS.ExcInit
import HandS.ExcField
import PyProof.ReprRoads
import PyProof.ReprLen
import PyProof.CallFns
import KE.KRevSl
import HandS.Flt
import HandS.TryMany
import HandS.TupLe
import HandS.SetBool
import HandS.Strs
import HandS.SortInts
import HandS.HeadHook3
import HandS.More
import HandS.WordsDict
import HandS.DictComp
import HandS.Text
import KE.GoesEnum
import KE.KExcIs
import PyProof.CollectStr
import HandS.Conv
import HandS.EndTab
import KE.KDictDisplayH
import KE.KDictWalk
import HandS.SetFor
import KE.GoesEnumKw
import KE.DataMinMax
import HandS.SortRule
import PySem.Challenge.RW_tilewright_k05_corners_and_triangles_mad
set_option Elab.async false
set_option linter.all false
set_option maxRecDepth 100000
set_option maxHeartbeats 4000000
namespace L3
open PySem PySem.Spec L2
inductive D where
  | non | bl (b : Bool) | int (i : Int) | str (x : List Nat) | tup (ds : List D) | lst (ds : List D)
  | dic (ks vs : List D) | obj (c : Nat) (ds : List D) | ref (n : Nat) | scr (ds : List D)
deriving Inhabited
structure Src where
  a : List Int
  b : List Int
  c : Int
  d : Int
inductive O where
  | lst (ds : List D) | dic (ks vs : List D) | dicL (ks vs : List D) | dit (ks : List (List Int)) (vs : List D) | dkn (ks vs : List D) | obj (c : Nat) (ds : List D) | src (s : Src) | dead | err (c : Nat) (ds : List D) | tab (q : List Nat) | lam (q : List Nat) (cap : List (Option D)) | dkL (ks vs : List D) | itr (ds : List D) (i : Nat)
abbrev Hh := List O
abbrev De := List (Option D)
inductive R (α : Type) where
  | ok (x : α) (h : Hh) | exc (c : Nat) (ds : List D) (h : Hh) | stk
inductive RS where
  | nx (δ : De) (h : Hh) | rt (d : D) (h : Hh) | bk (δ : De) (h : Hh) | ct (δ : De) (h : Hh) | exc (c : Nat) (ds : List D) (δ : De) (h : Hh) | stk
def R.bind {α β : Type} (r : R α) (k : α → Hh → R β) : R β := match r with
  | .ok x h => k x h
  | .exc c ds h => .exc c ds h
  | .stk => .stk
structure Gst where
  ι : List Addr
  own : Addr → Option Nat
  fz : Hp
  pr : Hp
  lk : Addr → Option (Nat × HO)
abbrev NRow := NestedKey × Addr × V
structure Tx where
  nd : Addr → List NRow → HO := fun _ _ => .ext fun _ => False
  cls : Nat → Option (Addr × List Str)
  exc : Nat → Option (Addr × List Str)
  src : Src → Addr → (Addr → Prop) → Hp → Prop
  srcAt : ∀ s a p H, src s a p H → p a
  srcStay : ∀ s a p H H', src s a p H → (∀ b, p b → H' b = H b) → src s a p H'
  ep : Nat → Option (Addr × Value × Option Addr) := fun _ => none
  tb : List Nat → Option Addr := fun _ => none
  cs : Nat → St := fun _ => []
mutual
inductive RD (K : PySem.W.Frag) (T : Tx) (G : Gst) : D → V → Prop where
  | non : RD K T G .non .non
  | bl {b} : RD K T G (.bl b) (.bl b)
  | int {i} : RD K T G (.int i) (.int i)
  | str {x} : RD K T G (.str x) (.str ⟨x.toArray⟩)
  | tup {ds a vs} (h : SqT K G.fz a vs) (r : RDs K T G ds vs) (n : ds.length = 2 → G.fz a = some (.tup vs)) : RD K T G (.tup ds) (.ref a)
  | lst {ds a vs} (h : G.fz a = some (.lst vs)) (r : RDs K T G ds vs) : RD K T G (.lst ds) (.ref a)
  | scr {ds a vs} (h : SqL K G.fz a vs) (r : RDs K T G ds vs) : RD K T G (.scr ds) (.ref a)
  | dic {ks vs a kvs} (h : G.fz a = some (.dK kvs)) (k : RDs K T G ks (kvs.map fun p => kV p.1)) (r : RDs K T G vs (kvs.map (·.2))) : RD K T G (.dic ks vs) (.ref a)
  | obj {c ds a C dx nm fs} (h : G.fz a = some (.ins C dx fs)) (hc : T.cls c = some (C, nm)) (hn : fs.map (·.1) = nm) (r : RDs K T G ds (fs.map (·.2))) : RD K T G (.obj c ds) (.ref a)
  | ref {n a} (h : G.ι[n]? = some a) : RD K T G (.ref n) (.ref a)
inductive RDs (K : PySem.W.Frag) (T : Tx) (G : Gst) : List D → List V → Prop where
  | nil : RDs K T G [] []
  | cons {d v ds vs} (h : RD K T G d v) (t : RDs K T G ds vs) : RDs K T G (d :: ds) (v :: vs)
end
structure Ext (G G' : Gst) : Prop where
  ι : ∃ t, G'.ι = G.ι ++ t
  fz : ∀ a o, G.fz a = some o → G'.fz a = some o
  pr : G'.pr = G.pr
  lk : G'.lk = G.lk
theorem Ext.refl (G : Gst) : Ext G G := ⟨⟨[], by simp⟩, fun _ _ h => h, rfl, rfl⟩
theorem Ext.trans {G G1 G2 : Gst} (a : Ext G G1) (b : Ext G1 G2) : Ext G G2 := by
  obtain ⟨t, e⟩ := a.ι
  obtain ⟨u, e'⟩ := b.ι
  exact ⟨⟨t ++ u, by rw [e', e, List.append_assoc]⟩, fun x o h => b.fz x o (a.fz x o h), b.pr.trans a.pr, b.lk.trans a.lk⟩
structure Ext0 (G G' : Gst) : Prop where
  ι : ∃ t, G'.ι = G.ι ++ t
  fz : ∀ a o, G.fz a = some o → G'.fz a = some o
  lk : G'.lk = G.lk
theorem Ext.e0 {G G' : Gst} (x : Ext G G') : Ext0 G G' := ⟨x.ι, x.fz, x.lk⟩
structure ExtV (G G' : Gst) : Prop where
  ι : ∃ t, G'.ι = G.ι ++ t
  fz : ∀ a o, G.fz a = some o → G'.fz a = some o
theorem Rd.sub {H H' : Hp} {a : Addr} {u : HO} (s : ∀ a o, H a = some o → H' a = some o) (h : Rd H a u) : Rd H' a u := by
  rcases h with h | ⟨o, h⟩
  · exact .inl (s _ _ h)
  · exact .inr ⟨o, s _ _ h⟩
theorem SqL.sub {K : PySem.W.Frag} {H H' : Hp} {a : Addr} {xs : List V} (s : ∀ a o, H a = some o → H' a = some o) (h : SqL K H a xs) : SqL K H' a xs := by
  rcases h with h | h
  · exact .inl (Rd.sub s h)
  · exact .inr h
theorem SqT.sub {K : PySem.W.Frag} {H H' : Hp} {a : Addr} {xs : List V} (s : ∀ a o, H a = some o → H' a = some o) (h : SqT K H a xs) : SqT K H' a xs := by
  rcases h with h | h
  · exact .inl (Rd.sub s h)
  · exact .inr h
mutual
theorem RD.monoV {K : PySem.W.Frag} {T : Tx} {G G' : Gst} (x : ExtV G G') : ∀ {d v}, RD K T G d v → RD K T G' d v
  | _, _, .non => .non
  | _, _, .bl => .bl
  | _, _, .int => .int
  | _, _, .str => .str
  | _, _, .tup h r n => .tup (SqT.sub x.fz h) (RDs.monoV x r) fun e => x.fz _ _ (n e)
  | _, _, .lst h r => .lst (x.fz _ _ h) (RDs.monoV x r)
  | _, _, .scr h r => .scr (SqL.sub x.fz h) (RDs.monoV x r)
  | _, _, .dic h k r => .dic (x.fz _ _ h) (RDs.monoV x k) (RDs.monoV x r)
  | _, _, .obj h hc hn r => .obj (x.fz _ _ h) hc hn (RDs.monoV x r)
  | _, _, .ref h => by
    obtain ⟨t, e⟩ := x.ι
    refine .ref ?_
    rw [e, List.getElem?_append_left (List.getElem?_eq_some_iff.mp h).1]
    exact h
theorem RDs.monoV {K : PySem.W.Frag} {T : Tx} {G G' : Gst} (x : ExtV G G') : ∀ {ds vs}, RDs K T G ds vs → RDs K T G' ds vs
  | _, _, .nil => .nil
  | _, _, .cons h t => .cons (RD.monoV x h) (RDs.monoV x t)
end
theorem RD.mono0 {K : PySem.W.Frag} {T : Tx} {G G' : Gst} (x : Ext0 G G') {d v} (r : RD K T G d v) : RD K T G' d v := RD.monoV ⟨x.ι, x.fz⟩ r
theorem RDs.mono0 {K : PySem.W.Frag} {T : Tx} {G G' : Gst} (x : Ext0 G G') {d v} (r : RDs K T G d v) : RDs K T G' d v := RDs.monoV ⟨x.ι, x.fz⟩ r
theorem RD.mono {K : PySem.W.Frag} {T : Tx} {G G' : Gst} (x : Ext G G') {d v} (r : RD K T G d v) : RD K T G' d v := RD.mono0 x.e0 r
theorem RDs.mono {K : PySem.W.Frag} {T : Tx} {G G' : Gst} (x : Ext G G') {d v} (r : RDs K T G d v) : RDs K T G' d v := RDs.mono0 x.e0 r
theorem RDs.length {K : PySem.W.Frag} {T : Tx} {G : Gst} : ∀ {ds vs}, RDs K T G ds vs → ds.length = vs.length
  | _, _, .nil => rfl
  | _, _, .cons _ t => by simp [RDs.length t]
theorem RDs.append {K : PySem.W.Frag} {T : Tx} {G : Gst} : ∀ {ds vs es ws}, RDs K T G ds vs → RDs K T G es ws → RDs K T G (ds ++ es) (vs ++ ws)
  | _, _, _, _, .nil, s => s
  | _, _, _, _, .cons h t, s => .cons h (RDs.append t s)
theorem RDs.get {K : PySem.W.Frag} {T : Tx} {G : Gst} : ∀ {ds vs} {i : Nat} {d}, RDs K T G ds vs → ds[i]? = some d → ∃ v, vs[i]? = some v ∧ RD K T G d v
  | _, _, _, _, .nil, e => by simp at e
  | _, _, 0, _, .cons h _, e => by simp at e; subst e; exact ⟨_, rfl, h⟩
  | _, _, i + 1, d, .cons _ t, e => by
    obtain ⟨v, h1, h2⟩ := RDs.get (i := i) (d := d) t (by simpa using e)
    exact ⟨v, by simpa using h1, h2⟩
theorem RDs.set {K : PySem.W.Frag} {T : Tx} {G : Gst} {d v} (r : RD K T G d v) : ∀ {ds vs} (i : Nat), RDs K T G ds vs → RDs K T G (ds.set i d) (vs.set i v)
  | _, _, _, .nil => .nil
  | _, _, 0, .cons _ t => .cons r t
  | _, _, i + 1, .cons h t => .cons h (RDs.set r i t)
theorem RDs.take {K : PySem.W.Frag} {T : Tx} {G : Gst} : ∀ {ds vs} (n : Nat), RDs K T G ds vs → RDs K T G (ds.take n) (vs.take n)
  | _, _, 0, _ => by simpa using RDs.nil
  | _, _, _ + 1, .nil => .nil
  | _, _, n + 1, .cons h t => .cons h (RDs.take n t)
theorem RDs.drop {K : PySem.W.Frag} {T : Tx} {G : Gst} : ∀ {ds vs} (n : Nat), RDs K T G ds vs → RDs K T G (ds.drop n) (vs.drop n)
  | _, _, 0, r => r
  | _, _, _ + 1, .nil => .nil
  | _, _, n + 1, .cons _ t => RDs.drop n t
theorem RDs.rep {K : PySem.W.Frag} {T : Tx} {G : Gst} {ds vs} (h : RDs K T G ds vs) : ∀ k : Nat, RDs K T G (List.replicate k ds).flatten (List.replicate k vs).flatten
  | 0 => .nil
  | k + 1 => by
    rw [List.replicate_succ, List.replicate_succ, List.flatten_cons, List.flatten_cons]
    exact h.append (h.rep k)
theorem RDs.reverse {K : PySem.W.Frag} {T : Tx} {G : Gst} : ∀ {ds vs}, RDs K T G ds vs → RDs K T G ds.reverse vs.reverse
  | _, _, .nil => .nil
  | _, _, .cons h t => by
    rw [List.reverse_cons, List.reverse_cons]
    exact (RDs.reverse t).append (.cons h .nil)
def RX (K : PySem.W.Frag) (T : Tx) (G : Gst) (c : Nat) (ds : List D) (cls : Value) (dd : Option Addr) : Prop :=
  ∃ C nm, T.exc c = some (C, nm) ∧ cls = .ref C ∧ ((ds = [] ∧ nm = []) ∨ ∃ dx fs, dd = some dx ∧ G.fz dx = some (.xd fs) ∧ fs.map (·.1) = nm ∧ RDs K T G ds (fs.map (·.2)))
theorem RX.monoV {K : PySem.W.Frag} {T : Tx} {G G' : Gst} (x : ExtV G G') {c : Nat} {ds : List D} {cls : Value} {dd : Option Addr} (r : RX K T G c ds cls dd) : RX K T G' c ds cls dd := by
  obtain ⟨C, nm, e1, e2, e3⟩ := r
  refine ⟨C, nm, e1, e2, ?_⟩
  rcases e3 with e3 | ⟨dx, fs, q1, q2, q3, q4⟩
  · exact .inl e3
  · exact .inr ⟨dx, fs, q1, x.fz _ _ q2, q3, RDs.monoV x q4⟩
structure RSl (K : PySem.W.Frag) (T : Tx) (G : Gst) (δ : De) (σ : St) : Prop where
  len : δ.length = σ.length
  at_ : ∀ (i : Nat) d, δ[i]? = some (some d) → ∃ v, σ[i]? = some (some v) ∧ RD K T G d v
theorem RSl.monoV {K : PySem.W.Frag} {T : Tx} {G G' : Gst} {δ : De} {σ : St} (x : ExtV G G') (r : RSl K T G δ σ) : RSl K T G' δ σ :=
  ⟨r.len, fun i d e => let ⟨v, h1, h2⟩ := r.at_ i d e; ⟨v, h1, RD.monoV x h2⟩⟩
mutual
def kN : D → Option NestedKey
  | .non => some .none
  | .int i => some (.num i)
  | .str x => some (.text ⟨x.toArray⟩)
  | .tup ds => match kNs ds with
    | some ks => some (.tup ks)
    | none => none
  | _ => none
def kNs : List D → Option (List NestedKey)
  | [] => some []
  | d :: ds => match kN d, kNs ds with
    | some k, some ks => some (k :: ks)
    | _, _ => none
end
def keyN (d : D) : Option NestedKey := match d with
  | .tup ds => match kNs ds with
    | some ks => if NestedKey.depth (.tup ks) ≤ 8 then some (.tup ks) else none
    | none => none
  | _ => none
def RT (G : Gst) (q : List Nat) (ps : Array Value) : Prop := TriplesOk ps.toList ∧ ∀ (pos : Pos) (cv : Value), codeAmong pos ps.toList = some cv → ∃ c, cv = .ref c ∧ G.fz c = some (LamX.CodeO c ⟨q.toArray⟩)
theorem RT.monoV {G G' : Gst} {q : List Nat} {ps : Array Value} (r : RT G q ps) (x : ∀ a o, G.fz a = some o → G'.fz a = some o) : RT G' q ps := ⟨r.1, fun pos cv e => let ⟨c, e1, e2⟩ := r.2 pos cv e; ⟨c, e1, x _ _ e2⟩⟩
def TitO (a l : Addr) (i : Nat) : HO := .ext fun h => h.IsTupleIter a l i
def RO (K : PySem.W.Frag) (T : Tx) (G : Gst) (H : Hp) (n : Nat) : O → Prop
  | .lst ds => ∃ a vs, G.ι[n]? = some a ∧ G.own a = some n ∧ H a = some (.lst vs) ∧ RDs K T G ds vs
  | .dic ks vs => ∃ a kvs, G.ι[n]? = some a ∧ G.own a = some n ∧ H a = some (.dK kvs) ∧ RDs K T G ks (kvs.map fun p => kV p.1) ∧ RDs K T G vs (kvs.map (·.2))
  | .dicL ks vs => ∃ a od kvs, G.ι[n]? = some a ∧ G.lk a = some (n, .frz od (.dK kvs)) ∧ RDs K T G ks (kvs.map fun p => kV p.1) ∧ RDs K T G vs (kvs.map (·.2))
  | .dit ks vs => ∃ a kvs, G.ι[n]? = some a ∧ G.own a = some n ∧ H a = some (.dT kvs) ∧ kvs.map (·.1) = ks.map (fun k => k.map Sum.inl) ∧ RDs K T G vs (kvs.map (·.2))
  | .dkn ks vs => ∃ a xs, G.ι[n]? = some a ∧ G.own a = some n ∧ H a = some (T.nd a xs) ∧ ks.map keyN = xs.map (fun x => some x.1) ∧ RDs K T G ks (xs.map fun x => V.ref x.2.1) ∧ RDs K T G vs (xs.map (·.2.2))
  | .obj c ds => ∃ a C dx nm fs, G.ι[n]? = some a ∧ G.own a = some n ∧ H a = some (.ins C dx fs) ∧ T.cls c = some (C, nm) ∧ fs.map (·.1) = nm.take ds.length ∧ RDs K T G ds (fs.map (·.2))
  | .src s => ∃ a, G.ι[n]? = some a ∧ T.src s a (fun b => G.own b = some n) H
  | .dead => True
  | .err c ds => ∃ a cls dd, G.ι[n]? = some a ∧ T.ep n = some (a, cls, dd) ∧ RX K T G c ds cls dd
  | .tab q => ∃ a ps, G.ι[n]? = some a ∧ G.own a = some n ∧ H a = some (.tbl ps) ∧ T.tb q = some a ∧ RT G q ps
  | .lam q cap => ∃ f c, G.ι[n]? = some f ∧ T.ep n = some (f, .ref c, none) ∧ G.fz c = some (LamX.CodeO c ⟨q.toArray⟩) ∧ RSl K T G cap (T.cs n)
  | .dkL ks vs => ∃ a od xs, G.ι[n]? = some a ∧ G.lk a = some (n, .frz od (T.nd a xs)) ∧ ks.map keyN = xs.map (fun x => some x.1) ∧ RDs K T G ks (xs.map fun x => V.ref x.2.1) ∧ RDs K T G vs (xs.map (·.2.2))
  | .itr ds i => ∃ a l vs, G.ι[n]? = some a ∧ G.own a = some n ∧ H a = some (TitO a l i) ∧ SqT K G.fz l vs ∧ RDs K T G ds vs
structure Rel (K : PySem.W.Frag) (T : Tx) (G : Gst) (h : Hh) (H : Hp) : Prop where
  len : G.ι.length = h.length
  sub : ∀ a o, G.fz a = some o → H a = some o
  own : ∀ a n, G.own a = some n → n < h.length ∧ G.fz a = none ∧ H a ≠ none
  pr : ∀ a o, G.pr a = some o → H a = some o ∧ G.fz a = none ∧ G.own a = none ∧ G.lk a = none
  lk : ∀ a o, G.lk a = some o → H a = some o.2 ∧ G.fz a = none ∧ G.own a = none
  obj : ∀ n o, h[n]? = some o → RO K T G H n o
theorem RSl.mono {K : PySem.W.Frag} {T : Tx} {G G' : Gst} {δ : De} {σ : St} (x : Ext G G') (r : RSl K T G δ σ) : RSl K T G' δ σ :=
  ⟨r.len, fun i d e => let ⟨v, h1, h2⟩ := r.at_ i d e; ⟨v, h1, h2.mono x⟩⟩
theorem RSl.set {K : PySem.W.Frag} {T : Tx} {G : Gst} {δ : De} {σ : St} {d : D} {v : V} (r : RSl K T G δ σ) (h : RD K T G d v) (i : Nat) : RSl K T G (δ.set i (some d)) (σ.set i (some v)) := by
  refine ⟨by simp [r.len], fun j e q => ?_⟩
  by_cases hj : j = i
  · subst hj
    by_cases hl : j < δ.length
    · rw [List.getElem?_set_self hl] at q
      cases q
      exact ⟨v, List.getElem?_set_self (by rw [← r.len]; exact hl), h⟩
    · rw [List.getElem?_eq_none (by simpa using hl)] at q
      cases q
  · rw [List.getElem?_set_ne (Ne.symm hj)] at q ⊢
    exact r.at_ j e q
theorem RSl.unset {K : PySem.W.Frag} {T : Tx} {G : Gst} {δ : De} {σ : St} (r : RSl K T G δ σ) (i : Nat) (x : Option V) : RSl K T G (δ.set i none) (σ.set i x) := by
  refine ⟨by simp [r.len], fun j e q => ?_⟩
  by_cases hj : j = i
  · subst hj
    by_cases hl : j < δ.length
    · rw [List.getElem?_set_self hl] at q
      cases q
    · rw [List.getElem?_eq_none (by simpa using hl)] at q
      cases q
  · rw [List.getElem?_set_ne (Ne.symm hj)] at q ⊢
    exact r.at_ j e q
section
variable {K : PySem.W.Frag} {T : Tx} {G : Gst} {h : Hh} {H : Hp}
theorem RO.stay {n : Nat} {o : O} {G' : Gst} {H' : Hp} (r : RO K T G H n o) (x : Ext G G') (ho : ∀ b, G.own b = some n → G'.own b = some n) (hb : ∀ b, G'.own b = some n → H' b = H b) (hc : ∀ b, G'.own b = some n → G.own b = some n) : RO K T G' H' n o := by
  have hi : ∀ a, G.ι[n]? = some a → G'.ι[n]? = some a := fun a e => by
    obtain ⟨t, q⟩ := x.ι
    rw [q, List.getElem?_append_left (List.getElem?_eq_some_iff.mp e).1]; exact e
  cases o with
  | lst ds => obtain ⟨a, vs, e1, e2, e3, e4⟩ := r; exact ⟨a, vs, hi _ e1, ho _ e2, by rw [hb _ (ho _ e2)]; exact e3, e4.mono x⟩
  | dic ks vs => obtain ⟨a, kvs, e1, e2, e3, e4, e5⟩ := r; exact ⟨a, kvs, hi _ e1, ho _ e2, by rw [hb _ (ho _ e2)]; exact e3, e4.mono x, e5.mono x⟩
  | dicL ks vs => obtain ⟨a, od, kvs, e1, e2, e4, e5⟩ := r; exact ⟨a, od, kvs, hi _ e1, by rw [x.lk]; exact e2, e4.mono x, e5.mono x⟩
  | dit ks vs => obtain ⟨a, kvs, e1, e2, e3, e4, e5⟩ := r; exact ⟨a, kvs, hi _ e1, ho _ e2, by rw [hb _ (ho _ e2)]; exact e3, e4, e5.mono x⟩
  | dkn ks vs => obtain ⟨a, xs, e1, e2, e3, e4, e5, e6⟩ := r; exact ⟨a, xs, hi _ e1, ho _ e2, by rw [hb _ (ho _ e2)]; exact e3, e4, e5.mono x, e6.mono x⟩
  | obj c ds => obtain ⟨a, C, dx, nm, fs, e1, e2, e3, e4, e5, e6⟩ := r; exact ⟨a, C, dx, nm, fs, hi _ e1, ho _ e2, by rw [hb _ (ho _ e2)]; exact e3, e4, e5, e6.mono x⟩
  | src s =>
    obtain ⟨a, e1, e2⟩ := r
    refine ⟨a, hi _ e1, ?_⟩
    have e : (fun b => G'.own b = some n) = (fun b => G.own b = some n) := funext fun b => propext ⟨hc b, ho b⟩
    rw [e]
    exact T.srcStay _ _ _ _ _ e2 fun b q => hb b (ho b q)
  | dead => trivial
  | err c ds => obtain ⟨a, cls, dd, e1, e2, e3⟩ := r; exact ⟨a, cls, dd, hi _ e1, e2, RX.monoV ⟨x.ι, x.fz⟩ e3⟩
  | tab q => obtain ⟨a, ps, e1, e2, e3, e4, e5⟩ := r; exact ⟨a, ps, hi _ e1, ho _ e2, by rw [hb _ (ho _ e2)]; exact e3, e4, e5.monoV x.fz⟩
  | lam q cap => obtain ⟨a, c, e1, e2, e3, e4⟩ := r; exact ⟨a, c, hi _ e1, e2, x.fz _ _ e3, e4.monoV ⟨x.ι, x.fz⟩⟩
  | dkL ks vs => obtain ⟨a, od, xs, e1, e2, e4, e5, e6⟩ := r; exact ⟨a, od, xs, hi _ e1, by rw [x.lk]; exact e2, e4, e5.mono x, e6.mono x⟩
  | itr ds i => obtain ⟨a, l, vs, e1, e2, e3, e4, e5⟩ := r; exact ⟨a, l, vs, hi _ e1, ho _ e2, by rw [hb _ (ho _ e2)]; exact e3, SqT.sub x.fz e4, e5.mono x⟩
def Gst.frz (G : Gst) (p : Addr) (o : HO) : Gst := { G with fz := upd G.fz p o }
theorem Rel.fzNone (r : Rel K T G h H) {p : Addr} (hp : H p = none) : G.fz p = none := by
  cases e : G.fz p with
  | none => rfl
  | some o => rw [r.sub _ _ e] at hp; cases hp
theorem Gst.frz_ext {p : Addr} {o : HO} (e : G.fz p = none) : Ext G (G.frz p o) :=
  ⟨⟨[], by simp [Gst.frz]⟩, fun a u q => by
    show upd G.fz p o a = some u
    rw [upd_ne (ne_of_none q e)]; exact q, rfl, rfl⟩
theorem Rel.newF (r : Rel K T G h H) {p : Addr} {o : HO} (hp : H p = none) : Ext G (G.frz p o) ∧ Rel K T (G.frz p o) h (upd H p o) := by
  have e := r.fzNone hp
  have x := Gst.frz_ext (o := o) e
  refine ⟨x, r.len, fun a u q => ?_, fun a n q => ?_, fun a u q => ?_, fun a u q => ?_, fun n u q => ?_⟩
  · have q' : upd G.fz p o a = some u := q
    by_cases ha : a = p
    · subst ha; rw [upd_same] at q' ⊢; exact q'
    · rw [upd_ne ha] at q' ⊢; exact r.sub _ _ q'
  · have q' : G.own a = some n := q
    obtain ⟨h1, h2, h3⟩ := r.own a n q'
    have na : a ≠ p := fun z => h3 (by rw [z]; exact hp)
    exact ⟨h1, by show upd G.fz p o a = none; rw [upd_ne na]; exact h2, by rw [upd_ne na]; exact h3⟩
  · obtain ⟨h1, h2, h3⟩ := r.pr a u q
    have na : a ≠ p := ne_of_none h1 hp
    exact ⟨by rw [upd_ne na]; exact h1, by show upd G.fz p o a = none; rw [upd_ne na]; exact h2, h3⟩
  · obtain ⟨h1, h2, h3⟩ := r.lk a u q
    have na : a ≠ p := ne_of_none h1 hp
    exact ⟨by rw [upd_ne na]; exact h1, by show upd G.fz p o a = none; rw [upd_ne na]; exact h2, h3⟩
  · refine (r.obj n u q).stay x (fun _ z => z) (fun b z => ?_) fun _ z => z
    have z' : G.own b = some n := z
    exact upd_ne fun w => (r.own b n z').2.2 (by rw [w]; exact hp)
def Gst.new (G : Gst) (p : Addr) : Gst := { ι := G.ι ++ [p], own := fun b => if b = p then some G.ι.length else G.own b, fz := G.fz, pr := G.pr, lk := G.lk }
theorem Gst.new_ext {p : Addr} : Ext G (G.new p) := ⟨⟨[p], rfl⟩, fun _ _ q => q, rfl, rfl⟩
theorem Rel.newO (r : Rel K T G h H) {p : Addr} {o : HO} {u : O} (hp : H p = none) (ho : ∀ G', Ext G G' → G'.ι[h.length]? = some p → G'.own p = some h.length → (∀ b, G'.own b = some h.length → b = p) → RO K T G' (upd H p o) h.length u) : Ext G (G.new p) ∧ Rel K T (G.new p) (h ++ [u]) (upd H p o) := by
  have nown : ∀ b n, G.own b = some n → b ≠ p := fun b n q z => (r.own b n q).2.2 (by rw [z]; exact hp)
  refine ⟨Gst.new_ext, by simp [Gst.new, r.len], fun a v q => ?_, fun a n q => ?_, fun a v q => ?_, fun a v q => ?_, fun n v q => ?_⟩
  · have := r.sub a v q
    rw [upd_ne (ne_of_none this hp)]; exact this
  · have q' : (if a = p then some G.ι.length else G.own a) = some n := q
    by_cases ha : a = p
    · rw [if_pos ha] at q'
      cases q'
      refine ⟨by simp [r.len], ?_, ?_⟩
      · rw [ha]; exact r.fzNone hp
      · rw [ha, upd_same]; simp
    · rw [if_neg ha] at q'
      obtain ⟨h1, h2, h3⟩ := r.own a n q'
      exact ⟨by simp; omega, h2, by rw [upd_ne ha]; exact h3⟩
  · obtain ⟨h1, h2, h3, h4⟩ := r.pr a v q
    have na : a ≠ p := ne_of_none h1 hp
    exact ⟨by rw [upd_ne na]; exact h1, h2, by show (if a = p then some G.ι.length else G.own a) = none; rw [if_neg na]; exact h3, h4⟩
  · obtain ⟨h1, h2, h3⟩ := r.lk a v q
    have na : a ≠ p := ne_of_none h1 hp
    exact ⟨by rw [upd_ne na]; exact h1, h2, by show (if a = p then some G.ι.length else G.own a) = none; rw [if_neg na]; exact h3⟩
  · by_cases hn : n < h.length
    · rw [List.getElem?_append_left hn] at q
      have old : ∀ b, (if b = p then some G.ι.length else G.own b) = some n → G.own b = some n := fun b z => by
        by_cases hb : b = p
        · rw [if_pos hb] at z; cases z; rw [r.len] at hn; omega
        · rw [if_neg hb] at z; exact z
      refine (r.obj n v q).stay Gst.new_ext (fun b z => ?_) (fun b z => ?_) old
      · show (if b = p then some G.ι.length else G.own b) = some n
        rw [if_neg (nown b n z)]; exact z
      · exact upd_ne (nown b n (old b z))
    · have hn' : n = h.length := by
        have := (List.getElem?_eq_some_iff.mp q).1
        simp at this; omega
      subst hn'
      simp at q
      subst q
      refine ho _ Gst.new_ext ?_ ?_ ?_
      · show (G.ι ++ [p])[h.length]? = some p
        rw [← r.len]; simp
      · show (if p = p then some G.ι.length else G.own p) = some h.length
        rw [if_pos rfl, r.len]
      · intro b z
        have z' : (if b = p then some G.ι.length else G.own b) = some h.length := z
        by_cases hb : b = p
        · exact hb
        · rw [if_neg hb] at z'
          have := (r.own b _ z').1
          omega
theorem Rel.put (r : Rel K T G h H) {n : Nat} {a : Addr} {o : HO} {u : O} (hn : n < h.length) (ha : G.own a = some n) (ho : RO K T G (upd H a o) n u) : Rel K T G (h.set n u) (upd H a o) := by
  obtain ⟨_, f0, _⟩ := r.own a n ha
  refine ⟨by simpa using r.len, fun b v q => ?_, fun b m q => ?_, fun b v q => ?_, fun b v q => ?_, fun m v q => ?_⟩
  · have nb : b ≠ a := fun z => by rw [z, f0] at q; cases q
    rw [upd_ne nb]; exact r.sub b v q
  · obtain ⟨h1, h2, h3⟩ := r.own b m q
    refine ⟨by simpa using h1, h2, ?_⟩
    by_cases hb : b = a
    · rw [hb, upd_same]; simp
    · rw [upd_ne hb]; exact h3
  · obtain ⟨h1, h2, h3, h4⟩ := r.pr b v q
    have nb : b ≠ a := fun z => by rw [z, ha] at h3; cases h3
    exact ⟨by rw [upd_ne nb]; exact h1, h2, h3, h4⟩
  · obtain ⟨h1, h2, h3⟩ := r.lk b v q
    have nb : b ≠ a := fun z => by rw [z, ha] at h3; cases h3
    exact ⟨by rw [upd_ne nb]; exact h1, h2, h3⟩
  · by_cases hm : m = n
    · subst hm
      rw [List.getElem?_set_self hn] at q
      cases q
      exact ho
    · rw [List.getElem?_set_ne (Ne.symm hm)] at q
      refine (r.obj m v q).stay (Ext.refl G) (fun _ z => z) (fun b z => ?_) fun _ z => z
      exact upd_ne fun w => by rw [w, ha] at z; cases z; exact hm rfl
end
end L3
set_option autoImplicit false
set_option maxHeartbeats 4000000
namespace L3
open PySem PySem.Spec L2
abbrev FnE := De → Hh → R D
abbrev FnA := De → Hh → R (List D)
abbrev FnT := De → Hh → R Bool
abbrev FnS := De → Hh → RS
def okR {α β : Type} (K : PySem.W.Frag) (T : Tx) (W : WX) (G : Gst) (σ : L2.St) (rel : Gst → α → β → Prop) (r : R α) (Q : β → Hp → Prop) : Prop := match r with
  | .ok x h => ∀ G' H' v, Ext G G' → Rel K T G' h H' → rel G' x v → Q v H'
  | .exc c ds h => ∀ G' H' cls dd, Ext G G' → Rel K T G' h H' → RX K T G' c ds cls dd → W cls dd σ H'
  | .stk => False
theorem okR.ext {α β : Type} {K : PySem.W.Frag} {T : Tx} {W : WX} {G G' : Gst} {σ : L2.St} {rel : Gst → α → β → Prop} {r : R α} {Q : β → Hp → Prop} (x : Ext G G') (h : okR K T W G σ rel r Q) : okR K T W G' σ rel r Q := by
  cases r with
  | ok y hh => exact fun G2 H2 v e => h G2 H2 v (x.trans e)
  | exc c ds hh => exact fun G2 H2 cls dd e => h G2 H2 cls dd (x.trans e)
  | stk => exact h
theorem okR.mono {α β : Type} {K : PySem.W.Frag} {T : Tx} {W : WX} {G : Gst} {σ : L2.St} {rel : Gst → α → β → Prop} {r : R α} {Q Q' : β → Hp → Prop} (h : okR K T W G σ rel r Q) (q : ∀ v H, Q v H → Q' v H) : okR K T W G σ rel r Q' := by
  cases r with
  | ok y hh => exact fun G2 H2 v e a b => q _ _ (h G2 H2 v e a b)
  | exc c ds hh => exact h
  | stk => exact h
theorem okR.bind {α β γ ε : Type} {K : PySem.W.Frag} {T : Tx} {W : WX} {G : Gst} {σ : L2.St} {rel : Gst → α → β → Prop} {rel' : Gst → γ → ε → Prop} {r : R α} {k : α → Hh → R γ} {Q : ε → Hp → Prop} (h : okR K T W G σ rel' (r.bind k) Q) :
    okR K T W G σ rel r fun v H1 => ∃ G1 x h1, Ext G G1 ∧ Rel K T G1 h1 H1 ∧ rel G1 x v ∧ okR K T W G1 σ rel' (k x h1) Q := by
  cases r with
  | ok y hh => exact fun G2 H2 v e a b => ⟨G2, y, hh, e, a, b, okR.ext e h⟩
  | exc c ds hh => exact h
  | stk => exact h
theorem okR.at {α β : Type} {K : PySem.W.Frag} {T : Tx} {W : WX} {G : Gst} {σ : L2.St} {rel : Gst → α → β → Prop} {x : α} {v : β} {h : Hh} {H : Hp} {Q : β → Hp → Prop} (q : okR K T W G σ rel (.ok x h) Q) (r : Rel K T G h H) (d : rel G x v) : Q v H := q G H v (Ext.refl G) r d
abbrev relB : Gst → Bool → Bool → Prop := fun _ a b => a = b
def tF {α β : Type} (K : PySem.W.Frag) (T : Tx) (W : WX) (rel : Gst → α → β → Prop) (f : De → Hh → R α) : L2.St → Hp → (β → Hp → Prop) → Prop := fun σ H Q =>
  ∃ G h δ, Rel K T G h H ∧ RSl K T G δ σ ∧ okR K T W G σ rel (f δ h) Q
abbrev tE (K : PySem.W.Frag) (T : Tx) (W : WX) (f : FnE) : TE := tF K T W (RD K T) f
abbrev tA (K : PySem.W.Frag) (T : Tx) (W : WX) (f : FnA) : TA := tF K T W (RDs K T) f
abbrev tT (K : PySem.W.Frag) (T : Tx) (W : WX) (f : FnT) : TT := tF K T W relB f
theorem tF.bind {α β γ ε : Type} {K : PySem.W.Frag} {T : Tx} {W : WX} {rel : Gst → α → β → Prop} {rel' : Gst → γ → ε → Prop} {f : De → Hh → R α} {k : De → α → Hh → R γ} {σ : L2.St} {H : Hp} {Q : ε → Hp → Prop} {Q' : β → Hp → Prop}
    (h : tF K T W rel' (fun δ h => (f δ h).bind (k δ)) σ H Q)
    (q : ∀ G δ x v h1 H1, Rel K T G h1 H1 → RSl K T G δ σ → rel G x v → okR K T W G σ rel' (k δ x h1) Q → Q' v H1) : tF K T W rel f σ H Q' := by
  obtain ⟨G, h0, δ, r, s, o⟩ := h
  refine ⟨G, h0, δ, r, s, (okR.bind (rel := rel) o).mono ?_⟩
  rintro v H1 ⟨G1, x, h1, e, r1, d, o1⟩
  exact q G1 δ x v h1 H1 r1 (s.mono e) d o1
theorem tF.of {α β : Type} {K : PySem.W.Frag} {T : Tx} {W : WX} {rel : Gst → α → β → Prop} {f : De → Hh → R α} {σ : L2.St} {H : Hp} {Q : β → Hp → Prop} {G : Gst} {h : Hh} {δ : De} (r : Rel K T G h H) (s : RSl K T G δ σ) (o : okR K T W G σ rel (f δ h) Q) : tF K T W rel f σ H Q := ⟨G, h, δ, r, s, o⟩
def okS (K : PySem.W.Frag) (T : Tx) (W : WX) (G : Gst) (r : RS) (D : Ends) : Prop := match r with
  | .nx δ h => ∀ G' H' σ', Ext G G' → Rel K T G' h H' → RSl K T G' δ σ' → D.nx σ' H'
  | .rt d h => ∀ G' H' v, Ext G G' → Rel K T G' h H' → RD K T G' d v → D.rt v H'
  | .bk δ h => ∀ G' H' σ', Ext G G' → Rel K T G' h H' → RSl K T G' δ σ' → D.bk σ' H'
  | .ct δ h => ∀ G' H' σ', Ext G G' → Rel K T G' h H' → RSl K T G' δ σ' → D.ct σ' H'
  | .exc c ds δ h => ∀ G' H' σ' cls dd, Ext G G' → Rel K T G' h H' → RSl K T G' δ σ' → RX K T G' c ds cls dd → W cls dd σ' H'
  | .stk => False
theorem okS.ext {K : PySem.W.Frag} {T : Tx} {W : WX} {G G' : Gst} {r : RS} {D : Ends} (x : Ext G G') (h : okS K T W G r D) : okS K T W G' r D := by
  cases r with
  | nx δ hh => exact fun G2 H2 v e => h G2 H2 v (x.trans e)
  | rt δ hh => exact fun G2 H2 v e => h G2 H2 v (x.trans e)
  | bk δ hh => exact fun G2 H2 v e => h G2 H2 v (x.trans e)
  | ct δ hh => exact fun G2 H2 v e => h G2 H2 v (x.trans e)
  | exc c ds δ hh => exact fun G2 H2 v c d e => h G2 H2 v c d (x.trans e)
  | stk => exact h
def tS (K : PySem.W.Frag) (T : Tx) (W : WX) (u : FnS) : TS := fun D σ H => ∃ G h δ, Rel K T G h H ∧ RSl K T G δ σ ∧ okS K T W G (u δ h) D
def R.toS {α : Type} (r : R α) (δ : De) (k : α → Hh → RS) : RS := match r with
  | .ok x h => k x h
  | .exc c ds h => .exc c ds δ h
  | .stk => .stk
theorem okS.toS {α β : Type} {K : PySem.W.Frag} {T : Tx} {W : WX} {G : Gst} {δ : De} {σ : L2.St} {rel : Gst → α → β → Prop} {r : R α} {k : α → Hh → RS} {D : Ends} (s : RSl K T G δ σ) (h : okS K T W G (r.toS δ k) D) :
    okR K T W G σ rel r fun v H1 => ∃ G1 x h1, Ext G G1 ∧ Rel K T G1 h1 H1 ∧ rel G1 x v ∧ okS K T W G1 (k x h1) D := by
  cases r with
  | ok y hh => exact fun G2 H2 v e a b => ⟨G2, y, hh, e, a, b, okS.ext e h⟩
  | exc c ds hh => exact fun G2 H2 cls dd e a b => h G2 H2 σ cls dd e a (s.mono e) b
  | stk => exact h
theorem tS.bind {α β : Type} {K : PySem.W.Frag} {T : Tx} {W : WX} {rel : Gst → α → β → Prop} {f : De → Hh → R α} {k : De → α → Hh → RS} {σ : L2.St} {H : Hp} {D : Ends} {Q' : β → Hp → Prop}
    (h : tS K T W (fun δ h => (f δ h).toS δ (k δ)) D σ H)
    (q : ∀ G δ x v h1 H1, Rel K T G h1 H1 → RSl K T G δ σ → rel G x v → okS K T W G (k δ x h1) D → Q' v H1) : tF K T W rel f σ H Q' := by
  obtain ⟨G, h0, δ, r, s, o⟩ := h
  refine ⟨G, h0, δ, r, s, (okS.toS (rel := rel) s o).mono ?_⟩
  rintro v H1 ⟨G1, x, h1, e, r1, d, o1⟩
  exact q G1 δ x v h1 H1 r1 (s.mono e) d o1
abbrev FE (X : Cx) (T : Tx) (W : WX) (e : Expr) (f : FnE) : Prop := PE X e (tE X.K T W f)
abbrev FA (X : Cx) (T : Tx) (W : WX) (es : List Expr) (f : FnA) : Prop := PA X es (tA X.K T W f)
abbrev FT (X : Cx) (T : Tx) (W : WX) (e : Expr) (f : FnT) : Prop := PT X e (tT X.K T W f)
abbrev FS (X : Cx) (T : Tx) (W : WX) (st : Stmt) (u : FnS) : Prop := PS X st (tS X.K T W u)
abbrev FSs (X : Cx) (T : Tx) (W : WX) (st : List Stmt) (u : FnS) : Prop := PSs X st (tS X.K T W u)
theorem PE.imp {X : Cx} {e : Expr} {t t' : TE} (h : PE X e t) (q : ∀ σ H Q, t' σ H Q → t σ H Q) : PE X e t' := ⟨fun pins s σ H Q I z => h.run pins s σ H Q I (q _ _ _ z)⟩
theorem PT.imp {X : Cx} {e : Expr} {t t' : TT} (h : PT X e t) (q : ∀ σ H Q, t' σ H Q → t σ H Q) : PT X e t' := ⟨fun pins s σ H Q I z => h.run pins s σ H Q I (q _ _ _ z)⟩
theorem PA.imp {X : Cx} {e : List Expr} {t t' : TA} (h : PA X e t) (q : ∀ σ H Q, t' σ H Q → t σ H Q) : PA X e t' := ⟨fun pos pins s σ H Q I z => h.run pos pins s σ H Q I (q _ _ _ z)⟩
theorem PS.imp {X : Cx} {e : Stmt} {t t' : TS} (h : PS X e t) (q : ∀ D σ H, t' D σ H → t D σ H) : PS X e t' := ⟨fun pins s σ H D I z => h.run pins s σ H D I (q _ _ _ z)⟩
theorem PSs.imp {X : Cx} {e : List Stmt} {t t' : TS} (h : PSs X e t) (q : ∀ D σ H, t' D σ H → t D σ H) : PSs X e t' := ⟨fun pins s σ H D I z => h.run pins s σ H D I (q _ _ _ z)⟩
section
variable {X : Cx} {T : Tx} {W : WX} {pos : Pos}
def eVar (i : Nat) : FnE := fun δ h => match δ[i]? with
  | some (some d) => .ok d h
  | _ => .stk
def eC (d : D) : FnE := fun _ h => .ok d h
theorem fe_var (i : Nat) {x : Str} (h : PE X (.Name x pos) (tVar i)) : FE X T W (.Name x pos) (eVar i) := by
  refine PE.imp h fun σ H Q => ?_
  rintro ⟨G, h0, δ, r, s, o⟩
  unfold eVar at o
  cases e : δ[i]? with
  | none => rw [e] at o; exact o.elim
  | some z =>
    cases z with
    | none => rw [e] at o; exact o.elim
    | some d =>
      rw [e] at o
      obtain ⟨v, h1, h2⟩ := s.at_ i d e
      exact ⟨v, h1, o.at r h2⟩
def Cst (K : PySem.W.Frag) (T : Tx) (d : D) (v : V) : Prop := ∀ G, RD K T G d v
theorem fe_const {e : Expr} {d : D} {v : V} (h : PE X e (tC v)) (c : Cst X.K T d v) : FE X T W e (eC d) := by
  refine PE.imp h fun σ H Q => ?_
  rintro ⟨G, h0, δ, r, s, o⟩
  exact okR.at o r (c G)
theorem fe_int {i j} : FE X T W (.Constant (.int i) j pos) (eC (.int i)) := fe_const pe_int fun _ => .int
theorem fe_bl {b j} : FE X T W (.Constant (.bool b) j pos) (eC (.bl b)) := fe_const pe_bl fun _ => .bl
theorem fe_non {j} : FE X T W (.Constant .none j pos) (eC .non) := fe_const pe_non fun _ => .non
theorem fe_str {x : Str} {y : List Nat} {j} (e : x = ⟨y.toArray⟩) : FE X T W (.Constant (.str x) j pos) (eC (.str y)) := by
  subst e
  exact fe_const pe_str fun _ => .str
theorem fe_glob {x : Str} {d : D} {v : V} {u : Value} (hg : Gl X x) (hm : X.mg x = some u) (r : RelV v u) (c : Cst X.K T d v) (hd : (x == ("__debug__" : Str)) = false := by decide) : FE X T W (.Name x pos) (eC d) := fe_const (pe_glob hg hm r hd) c
abbrev F2 := D → D → Hh → R D
def eBin (g : F2) (fa fb : FnE) : FnE := fun δ h => (fa δ h).bind fun x h1 => (fb δ h1).bind fun y h2 => g x y h2
def OpS (X : Cx) (T : Tx) (rd : R2) (g : F2) : Prop := ∀ (W : WX) G h H σ x y v w Q, Rel X.K T G h H → RD X.K T G x v → RD X.K T G y w → okR X.K T W G σ (RD X.K T) (g x y h) Q → rd v w H Q
theorem tE_bin {rd : R2} {g : F2} (hs : OpS X T rd g) {fa fb : FnE} {σ : L2.St} {H : Hp} {Q : VK} (h : tE X.K T W (eBin g fa fb) σ H Q) : tOp rd (tE X.K T W fa) (tE X.K T W fb) σ H Q := by
  obtain ⟨G, h0, δ, r, s, o⟩ := h
  refine ⟨G, h0, δ, r, s, (okR.bind (rel := RD X.K T) o).mono ?_⟩
  rintro v H1 ⟨G1, x, h1, e1, r1, d1, o1⟩
  refine ⟨G1, h1, δ, r1, s.mono e1, (okR.bind (rel := RD X.K T) o1).mono ?_⟩
  rintro w H2 ⟨G2, y, h2, e2, r2, d2, o2⟩
  exact hs W G2 h2 H2 σ x y v w Q r2 (d1.mono e2) d2 o2
theorem fe_op {op : Operator} {rd : R2} {g : F2} {a b : Expr} {fa fb : FnE} (ho : OpR X (binaryOp op) rd) (hs : OpS X T rd g) (ha : FE X T W a fa) (hb : FE X T W b fb) : FE X T W (.BinOp a op b pos) (eBin g fa fb) :=
  PE.imp (pe_op ho ha hb) fun _ _ _ h => tE_bin hs h
theorem fe_cmp {op : CmpOp} {rd : R2} {g : F2} {a b : Expr} {fa fb : FnE} (ho : OpR X (compareOp op) rd) (hs : OpS X T rd g) (hm : behindInMarks op b = false) (ha : FE X T W a fa) (hb : FE X T W b fb) : FE X T W (.Compare a [op] [b] pos) (eBin g fa fb) :=
  PE.imp (pe_cmpR ho ha hb hm) fun _ _ _ h => tE_bin hs h
def eTest (f : FnE) : FnT := fun δ h => (f δ h).bind fun x h1 => match x with
  | .bl c => .ok c h1
  | _ => .stk
theorem tE_test {f : FnE} {σ : L2.St} {H : Hp} {Q : Bool → Hp → Prop} (h : tT X.K T W (eTest f) σ H Q) : tE X.K T W f σ H fun x H1 => ∃ c, x = .bl c ∧ Q c H1 := by
  refine tF.bind (k := fun _ x h1 => match x with | .bl c => .ok c h1 | _ => .stk) h fun G δ x v h1 H1 r1 s1 d1 o1 => ?_
  cases d1 with
  | bl => exact ⟨_, rfl, okR.at o1 r1 rfl⟩
  | _ => exact o1.elim
theorem ft_val {e : Expr} {f : FnE} (h : FE X T W e f) (he : ∀ whole, isTrue e X.env whole = (do let v ← whole; standAt e.pos; holding [v] (truthy v)) := by intro _; rfl) : FT X T W e (eTest f) :=
  PT.imp (pt_val h he) fun _ _ _ h => tE_test h
theorem tF.app {α β : Type} {K : PySem.W.Frag} {rel : Gst → α → β → Prop} {f : De → Hh → R α} {σ : L2.St} {H : Hp} {Q Q' : β → Hp → Prop} (h : tF K T W rel f σ H Q) (q : ∀ v H, Q v H → Q' v H) : tF K T W rel f σ H Q' := by
  obtain ⟨G, h0, δ, r, s, o⟩ := h
  exact ⟨G, h0, δ, r, s, o.mono q⟩
theorem ft_cmp {op : CmpOp} {rd : R2} {g : F2} {a b : Expr} {fa fb : FnE} (ho : OpR X (compareOp op) rd) (hs : OpS X T rd g) (hm : behindInMarks op b = false) (ha : FE X T W a fa) (hb : FE X T W b fb) : FT X T W (.Compare a [op] [b] pos) (eTest (eBin g fa fb)) :=
  PT.imp (pt_cmpR ho ha hb hm) fun _ _ _ h => tE_bin hs (tE_test h)
def eChain (g g' : F2) (fa fb fc : FnE) : FnE := fun δ h => (fa δ h).bind fun x h1 => (fb δ h1).bind fun y h2 => (g x y h2).bind fun z h3 => match z with
  | .bl c => if c = true then (fc δ h3).bind fun w h4 => g' y w h4 else .ok (.bl false) h3
  | _ => .stk
theorem tE_chain {rd rd' : R2} {g g' : F2} (hs : OpS X T rd g) (hs' : OpS X T rd' g') {fa fb fc : FnE} {σ : L2.St} {H : Hp} {Q : VK} (h : tE X.K T W (eChain g g' fa fb fc) σ H Q) : tChain rd rd' (tE X.K T W fa) (tE X.K T W fb) (tE X.K T W fc) σ H Q := by
  obtain ⟨G, h0, δ, r, s, o⟩ := h
  refine ⟨G, h0, δ, r, s, (okR.bind (rel := RD X.K T) o).mono ?_⟩
  rintro v H1 ⟨G1, x, h1, e1, r1, d1, o1⟩
  refine ⟨G1, h1, δ, r1, s.mono e1, (okR.bind (rel := RD X.K T) o1).mono ?_⟩
  rintro w H2 ⟨G2, y, h2, e2, r2, d2, o2⟩
  refine hs W G2 h2 H2 σ x y v w _ r2 (d1.mono e2) d2 ((okR.bind (rel := RD X.K T) o2).mono ?_)
  rintro z H3 ⟨G3, z', h3, e3, r3, d3, o3⟩
  cases d3 with
  | @bl c =>
    refine ⟨_, rfl, ?_⟩
    cases c with
    | false => exact okR.at o3 r3 .bl
    | true =>
      refine ⟨G3, h3, δ, r3, s.mono (e1.trans (e2.trans e3)), (okR.bind (rel := RD X.K T) o3).mono ?_⟩
      rintro u H4 ⟨G4, y4, h4, e4, r4, d4, o4⟩
      exact hs' W G4 h4 H4 σ y y4 w u Q r4 (d2.mono (e3.trans e4)) d4 o4
  | _ => exact o3.elim
theorem fe_chain {op op' : CmpOp} {rd rd' : R2} {g g' : F2} {a b c : Expr} {fa fb fc : FnE} (ho : OpR X (compareOp op) rd) (ho' : OpR X (compareOp op') rd') (hs : OpS X T rd g) (hs' : OpS X T rd' g') (hm : lastMarks [op, op'] [b, c] = false) (ha : FE X T W a fa) (hb : FE X T W b fb) (hc : FE X T W c fc) :
    FE X T W (.Compare a [op, op'] [b, c] pos) (eChain g g' fa fb fc) := PE.imp (pe_chain ho ho' ha hb hc hm) fun _ _ _ h => tE_chain hs hs' h
theorem ft_chain {op op' : CmpOp} {rd rd' : R2} {g g' : F2} {a b c : Expr} {fa fb fc : FnE} (ho : OpR X (compareOp op) rd) (ho' : OpR X (compareOp op') rd') (hs : OpS X T rd g) (hs' : OpS X T rd' g') (hm : lastMarks [op, op'] [b, c] = false) (ha : FE X T W a fa) (hb : FE X T W b fb) (hc : FE X T W c fc) :
    FT X T W (.Compare a [op, op'] [b, c] pos) (eTest (eChain g g' fa fb fc)) := PT.imp (pt_chain ho ho' ha hb hc hm) fun _ _ _ h => tE_chain hs hs' (tE_test h)
def eUn (g : D → Hh → R D) (fa : FnE) : FnE := fun δ h => (fa δ h).bind g
def UnS (X : Cx) (T : Tx) (rd : V → Hp → VK → Prop) (g : D → Hh → R D) : Prop := ∀ (W : WX) G h H σ x v Q, Rel X.K T G h H → RD X.K T G x v → okR X.K T W G σ (RD X.K T) (g x h) Q → rd v H Q
theorem fe_un {op : UnaryOp} {rd : V → Hp → VK → Prop} {g : D → Hh → R D} {a : Expr} {fa : FnE} (ho : UnR X (unaryOp op) rd) (hs : UnS X T rd g) (ha : FE X T W a fa) : FE X T W (.UnaryOp op a pos) (eUn g fa) := by
  refine PE.imp (pe_un ho ha) fun σ H Q h => ?_
  exact tF.bind (k := fun _ => g) h fun G δ x v h1 H1 r1 s1 d1 o1 => hs W G h1 H1 σ x v Q r1 d1 o1
def tAnd3 (a b : FnT) : FnT := fun δ h => (a δ h).bind fun c h1 => if c = true then b δ h1 else .ok false h1
def tOr3 (a b : FnT) : FnT := fun δ h => (a δ h).bind fun c h1 => if c = true then .ok true h1 else b δ h1
def tNot3 (a : FnT) : FnT := fun δ h => (a δ h).bind fun c h1 => .ok (!c) h1
abbrev FW (X : Cx) (T : Tx) (W : WX) (e : Expr) (f : FnT) : Prop := PW X e (tT X.K T W f)
theorem PW.imp {e : Expr} {t t' : TT} (h : PW X e t) (q : ∀ σ H Q, t' σ H Q → t σ H Q) : PW X e t' := ⟨fun wh pins s σ H Q I z => h.run wh pins s σ H Q I (q _ _ _ z)⟩
theorem fw_and1 {a : Expr} {fa : FnT} (ha : FT X T W a fa) : FW X T W (.BoolOp .And [a] pos) fa := pw_and1 ha
theorem fw_or1 {a : Expr} {fa : FnT} (ha : FT X T W a fa) : FW X T W (.BoolOp .Or [a] pos) fa := pw_or1 ha
theorem fw_and {a b : Expr} {rest : List Expr} {fa fb : FnT} (ha : FT X T W a fa) (hb : FW X T W (.BoolOp .And (b :: rest) pos) fb) : FW X T W (.BoolOp .And (a :: b :: rest) pos) (tAnd3 fa fb) := by
  refine PW.imp (pw_and ha hb) fun σ H Q h => ?_
  refine tF.bind (k := fun δ c h1 => if c = true then fb δ h1 else .ok false h1) h fun G δ x v h1 H1 r1 s1 d1 o1 => ?_
  have d : x = v := d1
  subst d
  cases x with
  | true => exact tF.of r1 s1 o1
  | false => exact okR.at o1 r1 rfl
theorem fw_or {a b : Expr} {rest : List Expr} {fa fb : FnT} (ha : FT X T W a fa) (hb : FW X T W (.BoolOp .Or (b :: rest) pos) fb) : FW X T W (.BoolOp .Or (a :: b :: rest) pos) (tOr3 fa fb) := by
  refine PW.imp (pw_or ha hb) fun σ H Q h => ?_
  refine tF.bind (k := fun δ c h1 => if c = true then .ok true h1 else fb δ h1) h fun G δ x v h1 H1 r1 s1 d1 o1 => ?_
  have d : x = v := d1
  subst d
  cases x with
  | true => exact okR.at o1 r1 rfl
  | false => exact tF.of r1 s1 o1
theorem ft_bool {e : Expr} {f : FnT} (h : FW X T W e f) : FT X T W e f := PW.pt h
theorem ft_not {a : Expr} {fa : FnT} (ha : FT X T W a fa) : FT X T W (.UnaryOp .Not a pos) (tNot3 fa) := by
  refine PT.imp (pt_not ha) fun σ H Q h => ?_
  refine tF.bind (k := fun δ c h1 => .ok (!c) h1) h fun G δ x v h1 H1 r1 s1 d1 o1 => ?_
  have d : x = v := d1
  subst d
  exact okR.at o1 r1 rfl
def eAnd (a b : FnE) : FnE := fun δ h => (a δ h).bind fun x h1 => match x with
  | .bl c => if c = true then b δ h1 else .ok (.bl false) h1
  | _ => .stk
def eOr (a b : FnE) : FnE := fun δ h => (a δ h).bind fun x h1 => match x with
  | .bl c => if c = true then .ok (.bl true) h1 else b δ h1
  | _ => .stk
def eNot (a : FnE) : FnE := fun δ h => (a δ h).bind fun x h1 => match x with
  | .bl c => .ok (.bl (!c)) h1
  | _ => .stk
theorem fe_one {op} {a : Expr} {fa : FnE} (ha : FE X T W a fa) : FE X T W (.BoolOp op [a] pos) fa := pe_one ha
theorem fe_and {a b : Expr} {rest : List Expr} {fa fb : FnE} (ha : FE X T W a fa) (hb : FE X T W (.BoolOp .And (b :: rest) pos) fb) : FE X T W (.BoolOp .And (a :: b :: rest) pos) (eAnd fa fb) := by
  refine PE.imp (pe_and ha hb) fun σ H Q h => ?_
  refine tF.bind (k := fun δ x h1 => match x with | .bl c => if c = true then fb δ h1 else .ok (.bl false) h1 | _ => .stk) h fun G δ x v h1 H1 r1 s1 d1 o1 => ?_
  cases d1 with
  | @bl c =>
    refine ⟨_, rfl, ?_⟩
    cases c with
    | true => exact tF.of r1 s1 o1
    | false => exact okR.at o1 r1 .bl
  | _ => exact o1.elim
theorem fe_or {a b : Expr} {rest : List Expr} {fa fb : FnE} (ha : FE X T W a fa) (hb : FE X T W (.BoolOp .Or (b :: rest) pos) fb) : FE X T W (.BoolOp .Or (a :: b :: rest) pos) (eOr fa fb) := by
  refine PE.imp (pe_or ha hb) fun σ H Q h => ?_
  refine tF.bind (k := fun δ x h1 => match x with | .bl c => if c = true then .ok (.bl true) h1 else fb δ h1 | _ => .stk) h fun G δ x v h1 H1 r1 s1 d1 o1 => ?_
  cases d1 with
  | @bl c =>
    refine ⟨_, rfl, ?_⟩
    cases c with
    | true => exact okR.at o1 r1 .bl
    | false => exact tF.of r1 s1 o1
  | _ => exact o1.elim
theorem fe_not {a : Expr} {fa : FnE} (ha : FE X T W a fa) : FE X T W (.UnaryOp .Not a pos) (eNot fa) := by
  refine PE.imp (pe_not ha) fun σ H Q h => ?_
  refine tF.bind (k := fun δ x h1 => match x with | .bl c => .ok (D.bl (!c)) h1 | _ => .stk) h fun G δ x v h1 H1 r1 s1 d1 o1 => ?_
  cases d1 with
  | bl => exact ⟨_, rfl, okR.at o1 r1 .bl⟩
  | _ => exact o1.elim
def eIf (t : FnT) (a b : FnE) : FnE := fun δ h => (t δ h).bind fun c h1 => if c = true then a δ h1 else b δ h1
theorem fe_if {c a b : Expr} {fc : FnT} {fa fb : FnE} (hc : FT X T W c fc) (ha : FE X T W a fa) (hb : FE X T W b fb) : FE X T W (.IfExp c a b pos) (eIf fc fa fb) := by
  refine PE.imp (pe_ifExp hc ha hb) fun σ H Q h => ?_
  refine tF.bind (k := fun δ c h1 => if c = true then fa δ h1 else fb δ h1) h fun G δ x v h1 H1 r1 s1 d1 o1 => ?_
  have d : x = v := d1
  subst d
  cases x with
  | true => exact tF.of r1 s1 o1
  | false => exact tF.of r1 s1 o1
def aNil : FnA := fun _ h => .ok [] h
def aCons (f : FnE) (r : FnA) : FnA := fun δ h => (f δ h).bind fun x h1 => (r δ h1).bind fun xs h2 => .ok (x :: xs) h2
theorem fa_nil : FA X T W [] aNil := by
  refine PA.imp pa_nil fun σ H Q => ?_
  rintro ⟨G, h0, δ, r, s, o⟩
  exact okR.at o r .nil
theorem fa_cons {e : Expr} {es : List Expr} {f : FnE} {fr : FnA} (ha : FE X T W e f) (hr : FA X T W es fr) (hs : starEach (e :: es) X.env = (false, eval e X.env) :: starEach es X.env := by rfl) : FA X T W (e :: es) (aCons f fr) := by
  refine PA.imp (pa_cons ha hr hs) fun σ H Q => ?_
  rintro ⟨G, h0, δ, r, s, o⟩
  refine ⟨G, h0, δ, r, s, (okR.bind (rel := RD X.K T) o).mono ?_⟩
  rintro v H1 ⟨G1, x, h1, e1, r1, d1, o1⟩
  refine ⟨G1, h1, δ, r1, s.mono e1, (okR.bind (rel := RDs X.K T) o1).mono ?_⟩
  rintro w H2 ⟨G2, y, h2, e2, r2, d2, o2⟩
  exact okR.at o2 r2 (.cons (d1.mono e2) d2)
def lineOk (n : Nat) : Bool := decide (n ≤ 16777216)
theorem lineOk_le {n : Nat} (h : lineOk n = true) : n ≤ sizeLine := by rw [sizeLine_eq]; exact of_decide_eq_true h
def eTup (f : FnA) : FnE := fun δ h => (f δ h).bind fun xs h1 => if lineOk xs.length = true then .ok (.tup xs) h1 else .stk
def eLst (f : FnA) : FnE := fun δ h => (f δ h).bind fun xs h1 => if lineOk xs.length = true then .ok (.lst xs) h1 else .stk
def eLstM (f : FnA) : FnE := fun δ h => (f δ h).bind fun xs h1 => if lineOk xs.length = true then .ok (.ref h1.length) (h1 ++ [.lst xs]) else .stk
theorem newTup {K : PySem.W.Frag} {W : WX} {G : Gst} {h : Hh} {H : Hp} {σ : L2.St} {ds : List D} {vs : List V} {Q : VK} {p : Addr} (r : Rel K T G h H) (d : RDs K T G ds vs) (hp : H p = none) (o : okR K T W G σ (RD K T) (.ok (.tup ds) h) Q) : Q (.ref p) (upd H p (.tup vs)) := by
  obtain ⟨x, r'⟩ := r.newF (o := .tup vs) hp
  exact o _ _ _ x r' (.tup (.inl (.inl upd_same)) (d.mono x) fun _ => upd_same)
theorem newLst {K : PySem.W.Frag} {W : WX} {G : Gst} {h : Hh} {H : Hp} {σ : L2.St} {ds : List D} {vs : List V} {Q : VK} {p : Addr} (r : Rel K T G h H) (d : RDs K T G ds vs) (hp : H p = none) (o : okR K T W G σ (RD K T) (.ok (.lst ds) h) Q) : Q (.ref p) (upd H p (.lst vs)) := by
  obtain ⟨x, r'⟩ := r.newF (o := .lst vs) hp
  exact o _ _ _ x r' (.lst upd_same (d.mono x))
theorem newLstM {K : PySem.W.Frag} {W : WX} {G : Gst} {h : Hh} {H : Hp} {σ : L2.St} {ds : List D} {vs : List V} {Q : VK} {p : Addr} (r : Rel K T G h H) (d : RDs K T G ds vs) (hp : H p = none) (o : okR K T W G σ (RD K T) (.ok (.ref h.length) (h ++ [.lst ds])) Q) : Q (.ref p) (upd H p (.lst vs)) := by
  obtain ⟨x, r'⟩ := r.newO (o := .lst vs) (u := .lst ds) hp fun G' x hi ho _ => ⟨p, vs, hi, ho, upd_same, d.mono x⟩
  refine o _ _ _ x r' (.ref ?_)
  show (G.ι ++ [p])[h.length]? = some p
  rw [← r.len]; simp
theorem fe_tup {es : List Expr} {f : FnA} {x1} (h : FA X T W es f) : FE X T W (.Tuple es x1 pos) (eTup f) := by
  refine PE.imp (pe_tup h) fun σ H Q h => ?_
  refine tF.bind (k := fun _ xs h1 => if lineOk xs.length = true then .ok (D.tup xs) h1 else .stk) h fun G δ x v h1 H1 r1 s1 d1 o1 => ?_
  by_cases hl : lineOk x.length = true
  · rw [if_pos hl] at o1
    exact ⟨by rw [← d1.length]; exact lineOk_le hl, fun p hp => newTup r1 d1 hp o1⟩
  · rw [if_neg hl] at o1; exact o1.elim
theorem fe_lst {es : List Expr} {f : FnA} (h : FA X T W es f) : FE X T W (.List es pos) (eLst f) := by
  refine PE.imp (pe_lst h) fun σ H Q h => ?_
  refine tF.bind (k := fun _ xs h1 => if lineOk xs.length = true then .ok (D.lst xs) h1 else .stk) h fun G δ x v h1 H1 r1 s1 d1 o1 => ?_
  by_cases hl : lineOk x.length = true
  · rw [if_pos hl] at o1
    exact ⟨by rw [← d1.length]; exact lineOk_le hl, fun p hp => newLst r1 d1 hp o1⟩
  · rw [if_neg hl] at o1; exact o1.elim
theorem fe_lstM {es : List Expr} {f : FnA} (h : FA X T W es f) : FE X T W (.List es pos) (eLstM f) := by
  refine PE.imp (pe_lst h) fun σ H Q h => ?_
  refine tF.bind (k := fun _ xs h1 => if lineOk xs.length = true then .ok (D.ref h1.length) (h1 ++ [O.lst xs]) else .stk) h fun G δ x v h1 H1 r1 s1 d1 o1 => ?_
  by_cases hl : lineOk x.length = true
  · rw [if_pos hl] at o1
    exact ⟨by rw [← d1.length]; exact lineOk_le hl, fun p hp => newLstM r1 d1 hp o1⟩
  · rw [if_neg hl] at o1; exact o1.elim
def sSeq (u v : FnS) : FnS := fun δ h => match u δ h with
  | .nx δ' h' => v δ' h'
  | r => r
def sNil : FnS := fun δ h => .nx δ h
theorem fss_nil : FSs X T W [] sNil := by
  refine PSs.imp pss_nil fun D σ H => ?_
  rintro ⟨G, h0, δ, r, s, o⟩
  exact o G H σ (Ext.refl G) r s
theorem tS_seq {u v : FnS} {D : Ends} {σ : L2.St} {H : Hp} {K : PySem.W.Frag} (h : tS K T W (sSeq u v) D σ H) : tSeq (tS K T W u) (tS K T W v) D σ H := by
  obtain ⟨G, h0, δ, r, s, o⟩ := h
  refine ⟨G, h0, δ, r, s, ?_⟩
  unfold sSeq at o
  cases e : u δ h0 with
  | nx δ' h' => rw [e] at o; exact fun G' H' σ' x r' s' => ⟨G', h', δ', r', s', okS.ext x o⟩
  | rt d h' => rw [e] at o; exact o
  | bk δ' h' => rw [e] at o; exact o
  | ct δ' h' => rw [e] at o; exact o
  | exc c ds δ' h' => rw [e] at o; exact o
  | stk => rw [e] at o; exact o
theorem fss_cons {st : Stmt} {rest : List Stmt} {u v : FnS} (h1 : FS X T W st u) (h2 : FSs X T W rest v) : FSs X T W (st :: rest) (sSeq u v) := PSs.imp (pss_cons h1 h2) fun _ _ _ h => tS_seq h
theorem fss_one {st : Stmt} {u : FnS} (h1 : FS X T W st u) : FSs X T W [st] u := pss_one h1
def sPass : FnS := fun δ h => .nx δ h
def sBreak : FnS := fun δ h => .bk δ h
def sCont : FnS := fun δ h => .ct δ h
def sIf (t : FnT) (u v : FnS) : FnS := fun δ h => (t δ h).toS δ fun c h1 => if c = true then u δ h1 else v δ h1
theorem fs_if {c : Expr} {a b : List Stmt} {fc : FnT} {u v : FnS} (hc : FT X T W c fc) (ha : FSs X T W a u) (hb : FSs X T W b v) : FS X T W (.If c a b pos) (sIf fc u v) := by
  refine PS.imp (ps_if hc ha hb) fun D σ H h => ?_
  refine tS.bind (k := fun δ c h1 => if c = true then u δ h1 else v δ h1) h fun G δ x w h1 H1 r1 s1 d1 o1 => ?_
  have d : x = w := d1
  subst d
  cases x with
  | true => exact ⟨G, h1, δ, r1, s1, o1⟩
  | false => exact ⟨G, h1, δ, r1, s1, o1⟩
def sRet (f : FnE) : FnS := fun δ h => (f δ h).toS δ fun x h1 => .rt x h1
theorem fs_ret {e : Expr} {f : FnE} (h : FE X T W e f) : FS X T W (.Return (some e) pos) (sRet f) := by
  refine PS.imp (ps_ret h) fun D σ H h => ?_
  exact tS.bind (k := fun _ x h1 => .rt x h1) h fun G δ x w h1 H1 r1 s1 d1 o1 => o1 G H1 w (Ext.refl G) r1 d1
def sRetN : FnS := fun _ h => .rt .non h
def sExpr (f : FnE) : FnS := fun δ h => (f δ h).toS δ fun _ h1 => .nx δ h1
theorem fs_expr {e : Expr} {f : FnE} (h : FE X T W e f) (hs : swapsWith e none pos.line X.env = pure false := by rfl) : FS X T W (.Expr e pos) (sExpr f) := by
  refine PS.imp (ps_expr h hs) fun D σ H h => ?_
  exact tS.bind (k := fun δ _ h1 => .nx δ h1) h fun G δ x w h1 H1 r1 s1 d1 o1 => o1 G H1 σ (Ext.refl G) r1 s1
def sSet (i : Nat) (f : FnE) : FnS := fun δ h => (f δ h).toS δ fun x h1 => .nx (δ.set i (some x)) h1
theorem fs_set {i : Nat} {x : Str} {e : Expr} {f : FnE} {pos' : Pos} (hN : X.N.Nodup) (hi : X.N[i]? = some x) (hx : Loc X.env.scope x) (he : FE X T W e f) (hs : swapsWith e (some (.Name x pos')) pos.line X.env = pure false := by rfl) (hf : X.fn x = true ∨ X.env.scope.names.lookup x = some .local := by first | exact .inl rfl | exact .inr rfl | assumption) :
    FS X T W (.Assign [.Name x pos'] e pos) (sSet i f) := by
  refine PS.imp (ps_set hN hi hx he hs hf) fun D σ H h => ?_
  exact tS.bind (k := fun δ x h1 => .nx (δ.set i (some x)) h1) h fun G δ x w h1 H1 r1 s1 d1 o1 => o1 G H1 _ (Ext.refl G) r1 (s1.set d1 i)
end
end L3
set_option autoImplicit false
set_option maxHeartbeats 4000000
namespace L3
open PySem PySem.Spec L2
section
open PyProof.Rows
def rSame (K : PySem.W.Frag) : R2 := fun x y H Q => ∃ a xs, x = .ref a ∧ y = .int 1 ∧ SqT K H a xs ∧ Q (.ref a) H
theorem once_tup (a : Addr) (its : Array Value) (n : Nat) (u : Tok) (dd : Option Addr) (sl : Array (Option Value)) : Meets (Builtin.«tuple.__mul__» ⟨[.ref a, .int 1 u], []⟩) (fun _ R s => s.heap.get? a = some { cls := .type "tuple", dict := dd, data := .seq its n, slots := sl } ∧ R (.ok (.ret (.ref a))) s) :=
  .of_wp fun prog w A R s h => by
    obtain ⟨hp, g, d, tk, os⟩ := s
    obtain ⟨hl, q⟩ := h
    have f1 := AutoSeq1.idx_int
    wp_walk using wpAny_loadPart' hl
    repeat (first
      | (refine wpAny_ite_false (by decide) ?_; wp_walk using wpAny_loadPart' hl)
      | (refine wpAny_ite_true (by simp) ?_; wp_walk using wpAny_loadPart' hl))
    exact ⟨_, rfl, q⟩
def rRep0 (K : PySem.W.Frag) : R2 := fun x y H Q => ∃ l xs, x = .ref l ∧ y = .int 0 ∧ SqT K H l xs ∧ xs ≠ [] ∧ ∀ p, H p = none → Q (.ref p) (upd H p (.tup []))
theorem none_tup (l : Addr) (items : Array Value) (n : Nat) (dd : Option Addr) (sl : Array (Option Value)) (u : Tok) (c1 : (items.isEmpty || (0 : Int) == 1) = false) :
    Meets (Builtin.«tuple.__mul__» ⟨[.ref l, .int 0 u], []⟩) (fun _ R s => s.heap.get? l = some { cls := .type "tuple", dict := dd, data := .seq items n, slots := sl } ∧
      R (.ok (.ret (Value.ref s.heap.objs.size))) { s with heap := s.heap.push { cls := Value.type "tuple", data := Data.seq #[] }, toks := s.toks }) :=
  .of_wp fun prog w A R s h => by
    obtain ⟨hp, g, d, tk, os⟩ := s
    obtain ⟨hl, h⟩ := h
    have f1 := AutoSeq1.idx_int
    wp_walk using wpAny_loadPart' hl
    repeat (first
      | (refine wpAny_ite_false (by decide) ?_; wp_walk using wpAny_loadPart' hl)
      | (refine wpAny_ite_false (decide_eq_false (by rw [c1]; exact Bool.false_ne_true)) ?_; wp_walk using wpAny_loadPart' hl)
      | (refine wpAny_ite_true (by simp) ?_; wp_walk using wpAny_loadPart' hl))
    exact ⟨_, rfl, h⟩
theorem op_rep0 {X : Cx} : OpR X (binaryOp .Mult) (rRep0 X.K) := by
  intro pins s σ H x y v u Q I rx ry h
  obtain ⟨l, xs, rfl, rfl, hT, hne, q⟩ := h
  cases rx
  obtain ⟨t, rfl⟩ := ry
  obtain ⟨its, r, ⟨⟨cls, dd, data, sl⟩, ho, hc, n, hd⟩, hs⟩ := I.tuple hT
  simp only at hc hd
  subst hc hd
  have hle : its.length = xs.length := r.length.symm
  have hi : its.toArray.isEmpty = false := by
    cases its with
    | nil => exact absurd (List.eq_nil_of_length_eq_zero hle.symm) hne
    | cons a b => rfl
  have c1 : (its.toArray.isEmpty || (0 : Int) == 1) = false := by rw [hi]; rfl
  refine wpAny_binaryOp_repeat_ref (T := "tuple") (U := "int") (by decide) ⟨_, ho, rfl⟩ (fun s' => typeIs_int s' 0 t) noFill_tuple_mul F.fills_int_mul F.slot_int_rmul repeat_tuple F.slot_int_index.lookup
    (call_meets F.slot_int_rmul (typeIs_int s 0 t) F.entry_int_rmul (F.args_int_rmul_2 _ _) (int_rmul_tuple 0 t l its.toArray n dd sl)
      ⟨ho, rfl, ⟨_, ho, rfl⟩, call_meets F.slot_tuple_mul ⟨_, ho, rfl⟩ F.entry_tuple_mul (F.args_tuple_mul_2 _ _) (none_tup l its.toArray n dd sl t c1) ⟨ho, ?_⟩⟩)
  refine ⟨.ref s.heap.objs.size, _, I.laid (t' := s.toks) (o := .tup []) (fun b ob q => Heap.get?_push_of_some _ q) (Nat.le_refl _) ?_, rfl, q _ (I.hok.fresh (Nat.le_refl _))⟩
  exact ⟨by rw [sizeLine_eq]; decide, _, .nil, IsTup.new _ _⟩
theorem op_same {X : Cx} : OpR X (binaryOp .Mult) (rSame X.K) := by
  rintro pins s σ H x y v u Q I rx ry ⟨a, xs, rfl, rfl, hT, q⟩
  cases rx
  obtain ⟨t, rfl⟩ := ry
  obtain ⟨its, r, ⟨⟨cls, dd, data, sl⟩, ho, hc, n, hd⟩, _⟩ := I.tuple hT
  dsimp only at hc hd
  subst hc hd
  refine wpAny_binaryOp_repeat_ref (T := "tuple") (U := "int") (by decide) ⟨_, ho, rfl⟩ (fun s' => typeIs_int s' 1 t) noFill_tuple_mul F.fills_int_mul F.slot_int_rmul repeat_tuple F.slot_int_index.lookup
    (call_meets F.slot_int_rmul (typeIs_int s 1 t) F.entry_int_rmul (F.args_int_rmul_2 _ _) (int_rmul_tuple 1 t a its.toArray n dd sl)
      ⟨ho, rfl, ⟨_, ho, rfl⟩, call_meets F.slot_tuple_mul ⟨_, ho, rfl⟩ F.entry_tuple_mul (F.args_tuple_mul_2 _ _) (once_tup a its.toArray n t dd sl) ⟨ho, ?_⟩⟩)
  exact ⟨.ref a, H, I, rfl, q⟩
end
section
variable {X : Cx} {T : Tx}
def asL (h : Hh) : D → Option (List D)
  | .lst ds => some ds
  | .ref n => match h[n]? with
    | some (.lst ds) => some ds
    | _ => none
  | _ => none
theorem asL_ok {K : PySem.W.Frag} {G : Gst} {h : Hh} {H : Hp} {d : D} {v : V} {ds : List D} (r : Rel K T G h H) (d1 : RD K T G d v) (e : asL h d = some ds) : ∃ a vs, v = .ref a ∧ H a = some (.lst vs) ∧ RDs K T G ds vs := by
  cases d1 with
  | lst h1 h2 => cases e; exact ⟨_, _, rfl, r.sub _ _ h1, h2⟩
  | @ref n a h1 =>
    unfold asL at e
    dsimp only at e
    cases q : h[n]? with
    | none => rw [q] at e; cases e
    | some o =>
      rw [q] at e
      cases o with
      | lst es =>
        cases e
        obtain ⟨a', vs, e1, e2, e3, e4⟩ := r.obj n _ q
        rw [h1] at e1; cases e1
        exact ⟨a, vs, rfl, e3, e4⟩
      | _ => cases e
  | _ => cases e
def addD : F2 := fun x y h => match x, y with
  | .int i, .int j => .ok (.int (i + j)) h
  | .tup xs, .tup ys => if lineOk (xs.length + ys.length) = true then .ok (.tup (xs ++ ys)) h else .stk
  | .str a, .str b => if lineOk (a.length + b.length) = true then .ok (.str (a ++ b)) h else .stk
  | x, y => match asL h x, asL h y with
    | some xs, some ys => if lineOk (xs.length + ys.length) = true then .ok (.lst (xs ++ ys)) h else .stk
    | _, _ => .stk
def rdAdd (K : PySem.W.Frag) : R2 := fun x y H Q => (rI0 fun i j => .int (i + j)) x y H Q ∨ rCatA K x y H Q ∨ (fun x y H Q => ∃ i j, x = .str i ∧ y = .str j ∧ i.length + j.length ≤ sizeLine ∧ Q (.str (i ++ j)) H : R2) x y H Q ∨ rCat x y H Q
theorem op_addA : OpR X (binaryOp .Add) (rdAdd X.K) := OpR.or op_add (OpR.or op_catA (OpR.or op_add_str op_cat))
theorem os_add : OpS X T (rdAdd X.K) addD := by
  intro W G h H σ x y v w Q r d1 d2 o
  have lists : (match asL h x, asL h y with
    | some xs, some ys => if lineOk (xs.length + ys.length) = true then R.ok (.lst (xs ++ ys)) h else .stk
    | _, _ => .stk) = addD x y h → rdAdd X.K v w H Q := fun e => by
    rw [← e] at o
    cases ex : asL h x with
    | none => rw [ex] at o; exact o.elim
    | some xs =>
      cases ey : asL h y with
      | none => rw [ex, ey] at o; exact o.elim
      | some ys =>
        rw [ex, ey] at o
        dsimp only at o
        by_cases hl : lineOk (xs.length + ys.length) = true
        · rw [if_pos hl] at o
          obtain ⟨a, vs, rfl, h1, q1⟩ := asL_ok r d1 ex
          obtain ⟨b, ws, rfl, h2, q2⟩ := asL_ok r d2 ey
          exact .inr (.inr (.inr ⟨a, b, vs, ws, rfl, rfl, h1, h2, by rw [← q1.length, ← q2.length]; exact lineOk_le hl, fun p hp => newLst r (q1.append q2) hp o⟩))
        · rw [if_neg hl] at o; exact o.elim
  cases d1 with
  | int =>
    cases d2 with
    | int => exact .inl ⟨_, _, rfl, rfl, o.at r .int⟩
    | _ => first | exact lists rfl | exact o.elim
  | @str a =>
    cases d2 with
    | @str b =>
      unfold addD at o
      dsimp only at o
      by_cases hl : lineOk (a.length + b.length) = true
      · rw [if_pos hl] at o
        refine .inr (.inr (.inl ⟨_, _, rfl, rfl, ?_, ?_⟩))
        · show a.toArray.size + b.toArray.size ≤ sizeLine
          simpa using lineOk_le hl
        · have e : (⟨a.toArray⟩ : Str) ++ (⟨b.toArray⟩ : Str) = ⟨(a ++ b).toArray⟩ := by
            show (⟨a.toArray ++ b.toArray⟩ : Str) = _
            simp
          rw [e]
          exact o.at r .str
      · rw [if_neg hl] at o; exact o.elim
    | _ => first | exact lists rfl | exact o.elim
  | @tup xs a vs h1 q1 n1 =>
    cases d2 with
    | @tup ys b ws h2 q2 n2 =>
      unfold addD at o
      dsimp only at o
      by_cases hl : lineOk (xs.length + ys.length) = true
      · rw [if_pos hl] at o
        refine .inr (.inl ⟨a, b, vs, ws, rfl, rfl, SqT.sub r.sub h1, SqT.sub r.sub h2, by rw [← q1.length, ← q2.length]; exact lineOk_le hl, fun e => ?_, fun _ e => ?_, fun _ _ p hp => newTup r (q1.append q2) hp o⟩)
        · subst e; cases q1; exact o.at r (.tup h2 q2 n2)
        · subst e; cases q2; rw [List.append_nil] at o; exact o.at r (.tup h1 q1 n1)
      · rw [if_neg hl] at o; exact o.elim
    | _ => first | exact lists rfl | exact o.elim
  | _ => first | exact lists rfl | (cases d2 <;> first | exact lists rfl | exact o.elim)
def subD : F2 := fun x y h => match x, y with
  | .int i, .int j => .ok (.int (i - j)) h
  | _, _ => .stk
theorem os_sub : OpS X T (rI0 fun i j => .int (i - j)) subD := by
  intro W G h H σ x y v w Q r d1 d2 o
  cases d1 with
  | int => cases d2 with
    | int => exact ⟨_, _, rfl, rfl, o.at r .int⟩
    | _ => exact o.elim
  | _ => exact o.elim
def mulOk (i j : Int) : Bool := (decide (-(2 ^ 64) < i) && decide (i < 2 ^ 64) || (decide (-(2 ^ 64) < j) && decide (j < 2 ^ 64))) || decide (i.natAbs.log2 + j.natAbs.log2 < 1000000)
theorem mulOk_C {i j : Int} (h : mulOk i j = true) : CMul i j ∨ CMulW i j := by
  unfold mulOk at h
  simp only [Bool.or_eq_true, Bool.and_eq_true, decide_eq_true_eq] at h
  exact h
def mulD : F2 := fun x y h => match x, y with
  | .int i, .int j => if mulOk i j = true then .ok (.int (i * j)) h else .stk
  | .tup xs, .int k => if k = 1 then .ok (.tup xs) h else if xs.isEmpty = false ∧ 2 ≤ k ∧ k ≤ 1000 ∧ xs.length ≤ 1000 then .ok (.tup (List.replicate k.toNat xs).flatten) h else if k = 0 ∧ xs.isEmpty = false then .ok (.tup []) h else .stk
  | x, .int k => match asL h x with
    | some xs => if 0 ≤ k ∧ k ≤ 1000 ∧ xs.length ≤ 1000 then .ok (.lst (List.replicate k.toNat xs).flatten) h else .stk
    | none => .stk
  | _, _ => .stk
def rdMul (K : PySem.W.Frag) : R2 := fun x y H Q => rI CMul (fun i j => .int (i * j)) x y H Q ∨ rI CMulW (fun i j => .int (i * j)) x y H Q ∨ rSame K x y H Q ∨ rRepT K x y H Q ∨ rRep x y H Q ∨ rRep0 K x y H Q
theorem op_mulA : OpR X (binaryOp .Mult) (rdMul X.K) := OpR.or op_mul (OpR.or op_mulW (OpR.or op_same (OpR.or op_repT (OpR.or op_rep op_rep0))))
theorem os_mul : OpS X T (rdMul X.K) mulD := by
  intro W G h H σ x y v w Q r d1 d2 o
  cases d2 with
  | @int k =>
    have lists : (match asL h x with
      | some xs => if 0 ≤ k ∧ k ≤ 1000 ∧ xs.length ≤ 1000 then R.ok (.lst (List.replicate k.toNat xs).flatten) h else .stk
      | none => .stk) = mulD x (.int k) h → rdMul X.K v (.int k) H Q := fun e => by
      rw [← e] at o
      cases ex : asL h x with
      | none => rw [ex] at o; exact o.elim
      | some xs =>
        rw [ex] at o
        dsimp only at o
        by_cases hl : 0 ≤ k ∧ k ≤ 1000 ∧ xs.length ≤ 1000
        · rw [if_pos hl] at o
          obtain ⟨a, vs, rfl, h1, q1⟩ := asL_ok r d1 ex
          refine .inr (.inr (.inr (.inr (.inl ⟨a, k, vs, rfl, rfl, h1, by omega, by omega, ?_, fun p hp => newLst r (q1.rep k.toNat) hp o⟩))))
          have z := Nat.mul_le_mul (show vs.length ≤ 1000 by rw [← q1.length]; exact hl.2.2) (show k.toNat ≤ 1000 by omega)
          rw [sizeLine_eq]; omega
        · rw [if_neg hl] at o; exact o.elim
    cases d1 with
    | @int i =>
      unfold mulD at o
      dsimp only at o
      by_cases hl : mulOk i k = true
      · rw [if_pos hl] at o
        rcases mulOk_C hl with c | c
        · exact .inl ⟨_, _, rfl, rfl, c, o.at r .int⟩
        · exact .inr (.inl ⟨_, _, rfl, rfl, c, o.at r .int⟩)
      · rw [if_neg hl] at o; exact o.elim
    | @tup xs a vs h1 q1 N2 =>
      unfold mulD at o
      dsimp only at o
      by_cases hk : k = 1
      · rw [if_pos hk] at o
        subst hk
        exact .inr (.inr (.inl ⟨a, vs, rfl, rfl, SqT.sub r.sub h1, o.at r (.tup h1 q1 N2)⟩))
      rw [if_neg hk] at o
      by_cases hl : xs.isEmpty = false ∧ 2 ≤ k ∧ k ≤ 1000 ∧ xs.length ≤ 1000
      · rw [if_pos hl] at o
        refine .inr (.inr (.inr (.inl ⟨a, k, vs, rfl, rfl, SqT.sub r.sub h1, fun e => ?_, hl.2.1, hl.2.2.1, by rw [← q1.length]; exact hl.2.2.2, fun p hp => newTup r (q1.rep k.toNat) hp o⟩)))
        subst e; cases q1; exact Bool.noConfusion hl.1
      · rw [if_neg hl] at o
        by_cases h0 : k = 0 ∧ xs.isEmpty = false
        · rw [if_pos h0] at o
          obtain ⟨rfl, hx⟩ := h0
          refine .inr (.inr (.inr (.inr (.inr ⟨a, vs, rfl, rfl, SqT.sub r.sub h1, fun e => ?_, fun p hp => newTup r (.nil) hp o⟩))))
          subst e; cases q1; exact Bool.noConfusion hx
        · rw [if_neg h0] at o; exact o.elim
    | _ => first | exact lists rfl | exact o.elim
  | _ => cases d1 <;> exact o.elim
def divD : F2 := fun x y h => match x, y with
  | .int i, .int j => if 0 < j ∧ j.natAbs.log2 < 9000 then .ok (.int (i / j)) h else .stk
  | _, _ => .stk
theorem os_div : OpS X T (rI CDivW fun i j => .int (i / j)) divD := by
  intro W G h H σ x y v w Q r d1 d2 o
  cases d1 with
  | @int i => cases d2 with
    | @int j =>
      unfold divD at o
      dsimp only at o
      by_cases hl : 0 < j ∧ j.natAbs.log2 < 9000
      · rw [if_pos hl] at o; exact ⟨_, _, rfl, rfl, ⟨hl.1, hl.2⟩, o.at r .int⟩
      · rw [if_neg hl] at o; exact o.elim
    | _ => exact o.elim
  | _ => exact o.elim
def modD : F2 := fun x y h => match x, y with
  | .int i, .int j => if 0 < j then .ok (.int (i % j)) h else .stk
  | _, _ => .stk
theorem os_mod : OpS X T (rI (fun _ j => 0 < j) fun i j => .int (i % j)) modD := by
  intro W G h H σ x y v w Q r d1 d2 o
  cases d1 with
  | @int i => cases d2 with
    | @int j =>
      unfold modD at o
      dsimp only at o
      by_cases hl : 0 < j
      · rw [if_pos hl] at o; exact ⟨_, _, rfl, rfl, hl, o.at r .int⟩
      · rw [if_neg hl] at o; exact o.elim
    | _ => exact o.elim
  | _ => exact o.elim
def powD : F2 := fun x y h => match x, y with
  | .int i, .int j => if 0 ≤ j ∧ j ≤ 1000000 ∧ i.natAbs < 2 ^ 64 then .ok (.int (i ^ j.toNat)) h else .stk
  | _, _ => .stk
theorem os_pow : OpS X T (rI CPow fun i j => .int (i ^ j.toNat)) powD := by
  intro W G h H σ x y v w Q r d1 d2 o
  cases d1 with
  | @int i => cases d2 with
    | @int j =>
      unfold powD at o
      dsimp only at o
      by_cases hl : 0 ≤ j ∧ j ≤ 1000000 ∧ i.natAbs < 2 ^ 64
      · rw [if_pos hl] at o; exact ⟨_, _, rfl, rfl, hl, o.at r .int⟩
      · rw [if_neg hl] at o; exact o.elim
    | _ => exact o.elim
  | _ => exact o.elim
def negD : D → Hh → R D := fun x h => match x with
  | .int i => .ok (.int (-i)) h
  | _ => .stk
theorem us_neg : UnS X T (rU fun i => .int (-i)) negD := by
  intro W G h H σ x v Q r d o
  cases d with
  | int => exact ⟨_, rfl, o.at r .int⟩
  | _ => exact o.elim
def cmpD (p : Int → Int → Bool) : F2 := fun x y h => match x, y with
  | .int i, .int j => .ok (.bl (p i j)) h
  | _, _ => .stk
theorem os_cmp {p : Int → Int → Bool} : OpS X T (rI0 fun i j => .bl (p i j)) (cmpD p) := by
  intro W G h H σ x y v w Q r d1 d2 o
  cases d1 with
  | int => cases d2 with
    | int => exact ⟨_, _, rfl, rfl, o.at r .bl⟩
    | _ => exact o.elim
  | _ => exact o.elim
abbrev ltD : F2 := cmpD fun i j => decide (i < j)
abbrev leD : F2 := cmpD fun i j => decide (i ≤ j)
abbrev gtD : F2 := cmpD fun i j => decide (j < i)
abbrev geD : F2 := cmpD fun i j => decide (j ≤ i)
mutual
def pd : D → PyData
  | .bl b => .bool b
  | .int i => .int i
  | .str x => .str ⟨x.toArray⟩
  | .tup ds => .tuple (pds ds)
  | .lst ds => .list (pds ds)
  | _ => .none
def pds : List D → List PyData
  | [] => []
  | d :: ds => pd d :: pds ds
end
mutual
def flat : Nat → D → Bool
  | _, .non => true
  | _, .bl _ => true
  | _, .int _ => true
  | _, .str _ => true
  | k + 1, .tup ds => flats k ds
  | k + 1, .lst ds => flats k ds
  | _, _ => false
def flats : Nat → List D → Bool
  | _, [] => true
  | k, d :: ds => flat k d && flats k ds
end
mutual
theorem flat_pd : ∀ (d : D) (k : Nat), flat k d = true → (pd d).plain = true ∧ (pd d).depth ≤ k
  | .non, _, _ => ⟨rfl, Nat.zero_le _⟩
  | .bl _, _, _ => ⟨rfl, Nat.zero_le _⟩
  | .int _, _, _ => ⟨rfl, Nat.zero_le _⟩
  | .str _, _, _ => ⟨rfl, Nat.zero_le _⟩
  | .tup ds, 0, h => nomatch (show false = true by simpa [flat] using h)
  | .tup ds, k + 1, h => by
    obtain ⟨a, b⟩ := flats_pd ds k (by simpa [flat] using h)
    simp only [pd, PyData.plain, PyData.depth]
    exact ⟨a, by omega⟩
  | .lst ds, 0, h => nomatch (show false = true by simpa [flat] using h)
  | .lst ds, k + 1, h => by
    obtain ⟨a, b⟩ := flats_pd ds k (by simpa [flat] using h)
    simp only [pd, PyData.plain, PyData.depth]
    exact ⟨a, by omega⟩
  | .dic _ _, k, h => by cases k <;> exact nomatch (show false = true by simpa [flat] using h)
  | .obj _ _, k, h => by cases k <;> exact nomatch (show false = true by simpa [flat] using h)
  | .ref _, k, h => by cases k <;> exact nomatch (show false = true by simpa [flat] using h)
  | .scr _, k, h => by cases k <;> exact nomatch (show false = true by simpa [flat] using h)
theorem flats_pd : ∀ (ds : List D) (k : Nat), flats k ds = true → PyData.plainAll (pds ds) = true ∧ PyData.depthAll (pds ds) ≤ k
  | [], _, _ => ⟨by simp [pds, PyData.plainAll], by simp [pds, PyData.depthAll]⟩
  | d :: ds, k, h => by
    have h' : flat k d = true ∧ flats k ds = true := by simpa [flats] using h
    obtain ⟨a, b⟩ := flat_pd d k h'.1
    obtain ⟨a', b'⟩ := flats_pd ds k h'.2
    simp only [pds, PyData.plainAll, PyData.depthAll]
    exact ⟨by rw [a, a']; rfl, by omega⟩
end
mutual
theorem RD.dp {K : PySem.W.Frag} {G : Gst} {H : Hp} (s : ∀ a o, G.fz a = some o → H a = some o) : ∀ (d : D) (k : Nat) (v : V), flat k d = true → RD K T G d v → Dp K H v (pd d)
  | .non, _, _, _, r => by cases r; simp only [pd]; exact .non
  | .bl _, _, _, _, r => by cases r; simp only [pd]; exact .bl _
  | .int _, _, _, _, r => by cases r; simp only [pd]; exact .int _
  | .str _, _, _, _, r => by cases r; simp only [pd]; exact .str _
  | .tup ds, 0, _, h, _ => nomatch (show false = true by simpa [flat] using h)
  | .tup ds, k + 1, _, h, r => by
    cases r with
    | tup h1 q => simp only [pd]; exact .tup (SqT.sub s h1) (RDs.dp s ds k _ (by simpa [flat] using h) q)
  | .lst ds, 0, _, h, _ => nomatch (show false = true by simpa [flat] using h)
  | .lst ds, k + 1, _, h, r => by
    cases r with
    | lst h1 q => simp only [pd]; exact .lst (.inl (.inl (s _ _ h1))) (RDs.dp s ds k _ (by simpa [flat] using h) q)
  | .dic _ _, k, _, h, _ => by cases k <;> exact nomatch (show false = true by simpa [flat] using h)
  | .obj _ _, k, _, h, _ => by cases k <;> exact nomatch (show false = true by simpa [flat] using h)
  | .ref _, k, _, h, _ => by cases k <;> exact nomatch (show false = true by simpa [flat] using h)
  | .scr _, k, _, h, _ => by cases k <;> exact nomatch (show false = true by simpa [flat] using h)
theorem RDs.dp {K : PySem.W.Frag} {G : Gst} {H : Hp} (s : ∀ a o, G.fz a = some o → H a = some o) : ∀ (ds : List D) (k : Nat) (vs : List V), flats k ds = true → RDs K T G ds vs → DpAll K H vs (pds ds)
  | [], _, _, _, r => by cases r; simp only [pds]; exact .nil
  | d :: ds, k, _, h, r => by
    have h' : flat k d = true ∧ flats k ds = true := by simpa [flats] using h
    cases r with
    | cons h1 h2 => simp only [pds]; exact .cons (RD.dp s d k _ h'.1 h1) (RDs.dp s ds k _ h'.2 h2)
end
def deref (h : Hh) (d : D) : D := match d with
  | .ref n => match h[n]? with
    | some (.lst ds) => .lst ds
    | _ => .ref n
  | .scr ds => .lst ds
  | d => d
theorem deref_dp {K : PySem.W.Frag} {G : Gst} {h : Hh} {H : Hp} {d : D} {v : V} {k : Nat} (r : Rel K T G h H) (d1 : RD K T G d v) (f : flat k (deref h d) = true) : Dp K H v (pd (deref h d)) := by
  cases d with
  | ref n =>
    unfold deref at f ⊢
    dsimp only at f ⊢
    cases q : h[n]? with
    | none =>
      rw [q] at f
      cases k <;> exact nomatch (show false = true by simpa [flat] using f)
    | some o =>
      rw [q] at f
      cases o with
      | lst es =>
        dsimp only at f ⊢
        cases d1 with
        | ref h1 =>
          obtain ⟨a', vs, e1, e2, e3, e4⟩ := r.obj n _ q
          rw [h1] at e1; cases e1
          cases k with
          | zero => exact nomatch (show false = true by simpa [flat] using f)
          | succ k => simp only [pd]; exact .lst (.inl (.inl e3)) (RDs.dp r.sub es k _ (by simpa [flat] using f) e4)
      | _ => cases k <;> exact nomatch (show false = true by simpa [flat] using f)
  | scr es =>
    have f' : flat k (D.lst es) = true := f
    show Dp K H v (pd (.lst es))
    cases d1 with
    | @scr _ a vs h1 h2 =>
      cases k with
      | zero => exact nomatch (show false = true by simpa [flat] using f')
      | succ k => simp only [pd]; exact .lst (SqL.sub r.sub h1) (RDs.dp r.sub es k _ (by simpa [flat] using f') h2)
  | _ => exact RD.dp r.sub _ k _ f d1
def eqv (x y : D) : Bool := PyData.eqv (pd x) (pd y)
def eqD : F2 := fun x y h => if flat 60 (deref h x) = true ∧ flat 60 (deref h y) = true then .ok (.bl (eqv (deref h x) (deref h y))) h else .stk
def neD : F2 := fun x y h => if flat 60 (deref h x) = true ∧ flat 60 (deref h y) = true then .ok (.bl (!eqv (deref h x) (deref h y))) h else .stk
def rEqP (K : PySem.W.Frag) : R2 := fun x y H Q => ∃ d e, Dp K H x d ∧ Dp K H y e ∧ d.plain = true ∧ e.plain = true ∧ d.depth ≤ 60 ∧ e.depth ≤ 60 ∧ Q (.bl (PyData.eqv d e)) H
def rNeP (K : PySem.W.Frag) : R2 := fun x y H Q => ∃ d e, Dp K H x d ∧ Dp K H y e ∧ d.plain = true ∧ e.plain = true ∧ d.depth ≤ 60 ∧ e.depth ≤ 60 ∧ Q (.bl (!PyData.eqv d e)) H
theorem op_eqP (hu : X.A.units + 64 < cLine) : OpR X (compareOp .Eq) (rEqP X.K) := by
  intro pins s σ H x y v u Q I rx ry h
  obtain ⟨d, e, hd, he, pd, pe, nd, ne, q⟩ := h
  obtain ⟨as, r1⟩ := Dp.reads I d x v hd rx
  obtain ⟨bs, r2⟩ := Dp.reads I e y u he ry
  exact SeqAt.eq_plain r1 r2 pd pe (by omega) ⟨.bl _, H, I, rfl, q⟩
theorem op_neP (hu : X.A.units + 64 < cLine) : OpR X (compareOp .NotEq) (rNeP X.K) := by
  intro pins s σ H x y v u Q I rx ry h
  obtain ⟨d, e, hd, he, pd, pe, nd, ne, q⟩ := h
  obtain ⟨as, r1⟩ := Dp.reads I d x v hd rx
  obtain ⟨bs, r2⟩ := Dp.reads I e y u he ry
  exact SeqAt.ne_plain r1 r2 pd pe (by omega) ⟨.bl _, H, I, rfl, q⟩
theorem os_eq : OpS X T (rEqP X.K) eqD := by
  intro W G h H σ x y v w Q r d1 d2 o
  unfold eqD at o
  by_cases hl : flat 60 (deref h x) = true ∧ flat 60 (deref h y) = true
  · rw [if_pos hl] at o
    obtain ⟨p1, n1⟩ := flat_pd _ _ hl.1
    obtain ⟨p2, n2⟩ := flat_pd _ _ hl.2
    exact ⟨_, _, deref_dp r d1 hl.1, deref_dp r d2 hl.2, p1, p2, n1, n2, o.at r .bl⟩
  · rw [if_neg hl] at o; exact o.elim
theorem os_ne : OpS X T (rNeP X.K) neD := by
  intro W G h H σ x y v w Q r d1 d2 o
  unfold neD at o
  by_cases hl : flat 60 (deref h x) = true ∧ flat 60 (deref h y) = true
  · rw [if_pos hl] at o
    obtain ⟨p1, n1⟩ := flat_pd _ _ hl.1
    obtain ⟨p2, n2⟩ := flat_pd _ _ hl.2
    exact ⟨_, _, deref_dp r d1 hl.1, deref_dp r d2 hl.2, p1, p2, n1, n2, o.at r .bl⟩
  · rw [if_neg hl] at o; exact o.elim
def isNon : D → Bool
  | .non => true
  | _ => false
def isD : F2 := fun x y h => match y with
  | .non => .ok (.bl (isNon x)) h
  | .bl b => match x with
    | .bl a => .ok (.bl (decide (a = b))) h
    | _ => .stk
  | _ => .stk
def isnD : F2 := fun x y h => match y with
  | .non => .ok (.bl (!isNon x)) h
  | .bl b => match x with
    | .bl a => .ok (.bl (!decide (a = b))) h
    | _ => .stk
  | _ => .stk
def rIsA : R2 := fun x y H Q => (fun x y H Q => y = .non ∧ Q (.bl (decide (x = .non))) H : R2) x y H Q ∨ rIsB x y H Q
def rIsnA : R2 := fun x y H Q => (fun x y H Q => y = .non ∧ Q (.bl (!decide (x = .non))) H : R2) x y H Q ∨ rNotB x y H Q
theorem op_isA : OpR X (compareOp .Is) rIsA := OpR.or op_isN op_isBl
theorem op_isnA : OpR X (compareOp .IsNot) rIsnA := OpR.or op_notN op_notBl
theorem isNon_v {K : PySem.W.Frag} {G : Gst} {d : D} {v : V} (d1 : RD K T G d v) : decide (v = .non) = isNon d := by
  cases d1 <;> simp [isNon]
theorem os_is : OpS X T rIsA isD := by
  intro W G h H σ x y v w Q r d1 d2 o
  cases d2 with
  | non => exact .inl ⟨rfl, by rw [isNon_v d1]; exact o.at r .bl⟩
  | bl => cases d1 with
    | bl => exact .inr ⟨_, _, rfl, rfl, o.at r .bl⟩
    | _ => exact o.elim
  | _ => exact o.elim
theorem os_isn : OpS X T rIsnA isnD := by
  intro W G h H σ x y v w Q r d1 d2 o
  cases d2 with
  | non => exact .inl ⟨rfl, by rw [isNon_v d1]; exact o.at r .bl⟩
  | bl => cases d1 with
    | bl => exact .inr ⟨_, _, rfl, rfl, o.at r .bl⟩
    | _ => exact o.elim
  | _ => exact o.elim
end
end L3
set_option autoImplicit false
set_option maxHeartbeats 4000000
namespace L3
open PySem PySem.Spec L2
section
variable {X : Cx} {T : Tx} {W : WX} {pos : Pos}
theorem RDs.ati {K : PySem.W.Frag} {G : Gst} {ds : List D} {vs : List V} {i : Int} {d : D} (r : RDs K T G ds vs) (e : atI ds i = some d) : ∃ v, atI vs i = some v ∧ RD K T G d v := by
  unfold atI at e ⊢
  rw [← r.length]
  cases q : ixN ds.length i with
  | none => rw [q] at e; cases e
  | some j =>
    rw [q] at e
    exact r.get e
def ixD : F2 := fun x y h => match x, y with
  | .tup xs, .int i => match atI xs i with
    | some d => .ok d h
    | none => .stk
  | .str s, .int i => if lineOk s.length = true then match atI s i with
    | some c => .ok (.str [c]) h
    | none => .stk else .stk
  | .scr xs, .int i => match atI xs i with
    | some d => .ok d h
    | none => .stk
  | x, .int i => match asL h x with
    | some xs => match atI xs i with
      | some d => .ok d h
      | none => .stk
    | none => .stk
  | _, _ => .stk
theorem os_ix : OpS X T (rIx X.K) ixD := by
  intro W G h H σ x y v w Q r d1 d2 o
  cases d2 with
  | @int i =>
    have lists : (match asL h x with
      | some xs => match atI xs i with
        | some d => R.ok d h
        | none => .stk
      | none => .stk) = ixD x (.int i) h → rIx X.K v (.int i) H Q := fun e => by
      rw [← e] at o
      cases ex : asL h x with
      | none => rw [ex] at o; exact o.elim
      | some xs =>
        rw [ex] at o
        dsimp only at o
        cases ea : atI xs i with
        | none => rw [ea] at o; exact o.elim
        | some d =>
          rw [ea] at o
          obtain ⟨a, vs, rfl, h1, q1⟩ := asL_ok r d1 ex
          obtain ⟨u, eu, du⟩ := q1.ati ea
          exact .inl ⟨a, vs, i, u, rfl, rfl, .inl (.inl h1), eu, o.at r du⟩
    cases d1 with
    | @tup xs a vs h1 q1 =>
      unfold ixD at o
      dsimp only at o
      cases ea : atI xs i with
      | none => rw [ea] at o; exact o.elim
      | some d =>
        rw [ea] at o
        obtain ⟨u, eu, du⟩ := q1.ati ea
        exact .inr (.inl ⟨a, vs, i, u, rfl, rfl, SqT.sub r.sub h1, eu, o.at r du⟩)
    | @scr xs a vs h1 q1 =>
      unfold ixD at o
      dsimp only at o
      cases ea : atI xs i with
      | none => rw [ea] at o; exact o.elim
      | some d =>
        rw [ea] at o
        obtain ⟨u, eu, du⟩ := q1.ati ea
        exact .inl ⟨a, vs, i, u, rfl, rfl, SqL.sub r.sub h1, eu, o.at r du⟩
    | @str s =>
      unfold ixD at o
      dsimp only at o
      by_cases hl : lineOk s.length = true
      · rw [if_pos hl] at o
        cases ea : atI s i with
        | none => rw [ea] at o; exact o.elim
        | some c =>
          rw [ea] at o
          refine .inr (.inr ⟨_, i, c, rfl, rfl, ?_, by simpa using ea, ?_⟩)
          · show s.toArray.size ≤ sizeLine
            simpa using lineOk_le hl
          · exact o.at r .str
      · rw [if_neg hl] at o; exact o.elim
    | _ => first | exact lists rfl | exact o.elim
  | _ => cases d1 <;> exact o.elim
abbrev FnO := De → Hh → R (Option Int)
abbrev tO (K : PySem.W.Frag) (T : Tx) (W : WX) (f : FnO) : TO := tF K T W (fun _ a b => a = b) f
abbrev FO (X : Cx) (T : Tx) (W : WX) (e : Option Expr) (f : FnO) : Prop := PO X e (tO X.K T W f)
theorem PO.imp {e : Option Expr} {t t' : TO} (h : PO X e t) (q : ∀ σ H Q, t' σ H Q → t σ H Q) : PO X e t' := ⟨fun pins s σ H Q I z => h.run pins s σ H Q I (q _ _ _ z)⟩
def oNone : FnO := fun _ h => .ok none h
def oSome (f : FnE) : FnO := fun δ h => (f δ h).bind fun x h1 => match x with
  | .int i => .ok (some i) h1
  | _ => .stk
theorem fo_none : FO X T W none oNone := by
  refine PO.imp po_none fun σ H Q => ?_
  rintro ⟨G, h0, δ, r, s, o⟩
  exact okR.at o r rfl
theorem fo_some {e : Expr} {f : FnE} (h : FE X T W e f) : FO X T W (some e) (oSome f) := by
  refine PO.imp (po_some h) fun σ H Q h => ?_
  refine tF.bind (k := fun _ x h1 => match x with | .int i => .ok (some i) h1 | _ => .stk) h fun G δ x v h1 H1 r1 s1 d1 o1 => ?_
  cases d1 with
  | int => exact ⟨_, rfl, okR.at o1 r1 rfl⟩
  | _ => exact o1.elim
def cutL {α : Type} (xs : List α) (lo hi : Option Int) : List α := (xs.drop (HT.sIx xs.length 0 lo)).take (HT.sIx xs.length xs.length hi - HT.sIx xs.length 0 lo)
theorem RDs.cut {K : PySem.W.Frag} {G : Gst} {ds : List D} {vs : List V} (r : RDs K T G ds vs) (lo hi : Option Int) : RDs K T G (cutL ds lo hi) (cutV vs lo hi) := by
  unfold cutL cutV
  rw [← r.length]
  exact (r.drop _).take _
def sliceD (x : D) (lo hi : Option Int) (h : Hh) : R D := match x with
  | .tup xs => .ok (.tup (cutL xs lo hi)) h
  | x => match asL h x with
    | some xs => .ok (.lst (cutL xs lo hi)) h
    | none => .stk
def eSlice (f : FnE) (fl fh : FnO) : FnE := fun δ h => (f δ h).bind fun x h1 => (fl δ h1).bind fun l h2 => (fh δ h2).bind fun u h3 => sliceD x l u h3
def AttrOk (X : Cx) (T : Tx) (f : Str) (ix : Nat → Option Nat) : Prop := ∀ c k, ix c = some k → ∃ C nm, T.cls c = some (C, nm) ∧ nm[k]? = some f ∧ nm.Nodup ∧ nm.length < 1000 ∧ Cls X.K C ∧ NoAttr X.K C f
theorem look_at {f : Str} : ∀ {fs : List (Str × V)} {k : Nat} {v : V}, (fs.map (·.1)).Nodup → (fs.map (·.1))[k]? = some f → (fs.map (·.2))[k]? = some v → fs.lookup f = some v
  | [], _, _, _, e, _ => by simp at e
  | (g, y) :: r, 0, v, _, e, q => by
    simp at e q
    subst e; subst q
    simp [List.lookup]
  | (g, y) :: r, k + 1, v, n, e, q => by
    have n' : g ∉ r.map (·.1) ∧ (r.map (·.1)).Nodup := by simpa using n
    have e' : (r.map (·.1))[k]? = some f := by simpa using e
    have ne : f ≠ g := fun z => n'.1 (z ▸ List.mem_of_getElem? e')
    have b : (f == g) = false := beq_eq_false_iff_ne.mpr ne
    simp only [List.lookup, b]
    exact look_at n'.2 e' (by simpa using q)
def optR (o : Option D) (h : Hh) : R D := match o with
  | some d => .ok d h
  | none => .stk
def fieldAt (ix : Nat → Option Nat) (c : Nat) (ds : List D) : Option D := match ix c with
  | some k => ds[k]?
  | none => none
def fldD (ix : Nat → Option Nat) (x : D) (h : Hh) : R D := match x with
  | .obj c ds => optR (fieldAt ix c ds) h
  | .ref n => match h[n]? with
    | some (.obj c ds) => optR (fieldAt ix c ds) h
    | _ => .stk
  | _ => .stk
def eFld (ix : Nat → Option Nat) (fa : FnE) : FnE := fun δ h => (fa δ h).bind (fldD ix)
theorem fe_fld {e : Expr} {f : Str} {ix : Nat → Option Nat} {fa : FnE} (a : AttrOk X T f ix) (he : FE X T W e fa) (hb : attributeBase e f X.env (eval e X.env) = eval e X.env := by rfl) : FE X T W (.Attribute e f pos) (eFld ix fa) := by
  refine PE.imp (pe_fld he hb) fun σ H Q h => ?_
  refine tF.bind (k := fun _ => fldD ix) h fun G δ x v h1 H1 r1 s1 d1 o1 => ?_
  have fin : ∀ {c : Nat} {ds : List D} {a' C dx : Addr} {nm : List Str} {fs : List (Str × V)}, H1 a' = some (.ins C dx fs) → T.cls c = some (C, nm) → fs.map (·.1) = nm.take ds.length → RDs X.K T G ds (fs.map (·.2)) →
      okR X.K T W G σ (RD X.K T) (optR (fieldAt ix c ds) h1) Q →
      ∃ a C dx fs v, V.ref a' = .ref a ∧ H1 a = some (.ins C dx fs) ∧ Cls X.K C ∧ NoAttr X.K C f ∧ fs.lookup f = some v ∧ Q v H1 := fun {c ds a' C dx nm fs} q1 q2 q3 q4 o2 => by
    unfold fieldAt at o2
    cases ei : ix c with
    | none => rw [ei] at o2; exact o2.elim
    | some k =>
      rw [ei] at o2
      dsimp only at o2
      cases ed : ds[k]? with
      | none => rw [ed] at o2; exact o2.elim
      | some d =>
        rw [ed] at o2
        obtain ⟨C', nm', c1, c2, c3, _, c4, c5⟩ := a c k ei
        rw [q2] at c1; cases c1
        obtain ⟨u, eu, du⟩ := q4.get ed
        have hk : k < ds.length := (List.getElem?_eq_some_iff.mp ed).1
        refine ⟨a', C, dx, fs, u, rfl, q1, c4, c5, look_at (k := k) (by rw [q3]; exact c3.sublist (List.take_sublist _ _)) (by rw [q3, List.getElem?_take_of_lt hk]; exact c2) eu, o2.at r1 du⟩
  cases d1 with
  | @obj c ds a' C dx nm fs q1 q2 q3 q4 =>
    exact fin (r1.sub _ _ q1) q2 (by rw [q3, List.take_of_length_le (by rw [q4.length, ← q3]; simp)]) q4 o1
  | @ref n a' q1 =>
    unfold fldD at o1
    dsimp only at o1
    cases q : h1[n]? with
    | none => rw [q] at o1; exact o1.elim
    | some ob =>
      rw [q] at o1
      cases ob with
      | obj c ds =>
        obtain ⟨a2, C, dx, nm, fs, e1, e2, e3, e4, e5, e6⟩ := r1.obj n _ q
        rw [q1] at e1; cases e1
        exact fin e3 e4 e5 e6 o1
      | _ => exact o1.elim
  | _ => exact o1.elim
def putAt (ds : List D) (k : Nat) (d : D) : Option (List D) := if k < ds.length then some (ds.set k d) else if k = ds.length then some (ds ++ [d]) else none
def sFld (ix : Nat → Option Nat) (fo fv : FnE) : FnS := fun δ h => (fv δ h).toS δ fun y h1 => (fo δ h1).toS δ fun x h2 => match x with
  | .ref n => match h2[n]? with
    | some (.obj c ds) => match ix c with
      | some k => match putAt ds k y with
        | some ds' => .nx δ (h2.set n (.obj c ds'))
        | none => .stk
      | none => .stk
    | _ => .stk
  | _ => .stk
theorem putF_new {f : Str} {v : V} : ∀ {fs : List (Str × V)}, f ∉ fs.map (·.1) → putF f v fs = fs ++ [(f, v)]
  | [], _ => rfl
  | (g, y) :: r, h => by
    have h' : ¬ f = g ∧ f ∉ r.map (·.1) := by simpa using h
    show (if g = f then _ else _) = _
    rw [if_neg (fun e => h'.1 e.symm), putF_new h'.2]
    rfl
theorem putF_at {f : Str} {v : V} : ∀ {fs : List (Str × V)} {k : Nat}, (fs.map (·.1)).Nodup → (fs.map (·.1))[k]? = some f → (putF f v fs).map (·.1) = fs.map (·.1) ∧ (putF f v fs).map (·.2) = (fs.map (·.2)).set k v
  | [], _, _, e => by simp at e
  | (g, y) :: r, 0, _, e => by
    simp at e
    subst e
    show (List.map _ (if g = g then _ else _)) = _ ∧ (List.map _ (if g = g then _ else _)) = _
    rw [if_pos rfl]
    simp
  | (g, y) :: r, k + 1, n, e => by
    have n' : g ∉ r.map (·.1) ∧ (r.map (·.1)).Nodup := by simpa using n
    have e' : (r.map (·.1))[k]? = some f := by simpa using e
    have ne : ¬ g = f := fun z => n'.1 (z ▸ List.mem_of_getElem? e')
    obtain ⟨a, b⟩ := putF_at (v := v) n'.2 e'
    show (List.map _ (if g = f then _ else _)) = _ ∧ (List.map _ (if g = f then _ else _)) = _
    rw [if_neg ne]
    simp [a, b]
theorem fs_fld {o value : Expr} {f : Str} {ix : Nat → Option Nat} {fo fv : FnE} {pos' : Pos} (a : AttrOk X T f ix) (ho : FE X T W o fo) (hv : FE X T W value fv) (hs : swapsWith value (some (.Attribute o f pos')) pos.line X.env = pure false := by rfl) :
    FS X T W (.Assign [.Attribute o f pos'] value pos) (sFld ix fo fv) := by
  refine PS.imp (ps_fld ho hv hs) fun D σ H => ?_
  rintro ⟨G, h0, δ, r, s, oo⟩
  refine ⟨G, h0, δ, r, s, (okS.toS (rel := RD X.K T) s oo).mono ?_⟩
  rintro v H1 ⟨G1, y, h1, e1, r1, d1, o1⟩
  refine ⟨G1, h1, δ, r1, s.mono e1, (okS.toS (rel := RD X.K T) (s.mono e1) o1).mono ?_⟩
  rintro w H2 ⟨G2, x, h2, e2, r2, d2, o2⟩
  have d1' := d1.mono e2
  cases d2 with
  | @ref n a' q1 =>
    dsimp only at o2
    cases q : h2[n]? with
    | none => rw [q] at o2; exact o2.elim
    | some ob =>
      rw [q] at o2
      cases ob with
      | obj c ds =>
        dsimp only at o2
        obtain ⟨a2, C, dx, nm, fs, z1, z2, z3, z4, z5, z6⟩ := r2.obj n _ q
        rw [q1] at z1; cases z1
        cases ei : ix c with
        | none => rw [ei] at o2; exact o2.elim
        | some k =>
          rw [ei] at o2
          dsimp only at o2
          cases ep : putAt ds k y with
          | none => rw [ep] at o2; exact o2.elim
          | some ds' =>
            rw [ep] at o2
            dsimp only at o2
            obtain ⟨C', nm', c1, c2, c3, c4, c5, c6⟩ := a c k ei
            rw [z4] at c1; cases c1
            have nd : (fs.map (·.1)).Nodup := by rw [z5]; exact c3.sublist (List.take_sublist _ _)
            have lf : fs.length = ds.length := by have := z6.length; simpa using this.symm
            have lle : ds.length ≤ nm.length := by
              have := congrArg List.length z5
              rw [List.length_map, List.length_take] at this
              omega
            have hn : n < h2.length := (List.getElem?_eq_some_iff.mp q).1
            refine ⟨a', C, dx, fs, rfl, z3, c5, c6, by omega, ?_⟩
            have key : (putF f v fs).map (·.1) = nm.take ds'.length ∧ RDs X.K T G2 ds' ((putF f v fs).map (·.2)) := by
              unfold putAt at ep
              by_cases hk : k < ds.length
              · rw [if_pos hk] at ep; cases ep
                obtain ⟨p1, p2⟩ := putF_at (v := v) (k := k) nd (by rw [z5, List.getElem?_take_of_lt hk]; exact c2)
                rw [p1, p2, z5]
                exact ⟨by rw [List.length_set], z6.set d1' k⟩
              · rw [if_neg hk] at ep
                by_cases hk2 : k = ds.length
                · rw [if_pos hk2] at ep; cases ep
                  subst hk2
                  have nf : f ∉ fs.map (·.1) := fun m => by
                    rw [z5] at m
                    obtain ⟨j, hj⟩ := List.mem_iff_getElem?.mp m
                    have hjl : j < ds.length := by
                      have := (List.getElem?_eq_some_iff.mp hj).1
                      rw [List.length_take] at this; omega
                    rw [List.getElem?_take_of_lt hjl] at hj
                    have := nodup_ix c3 hj c2
                    omega
                  rw [putF_new nf, List.map_append, List.map_append, z5]
                  refine ⟨?_, z6.append (.cons d1' .nil)⟩
                  rw [List.length_append, List.length_singleton, List.take_add_one, c2]
                  rfl
                · rw [if_neg hk2] at ep; cases ep
            refine o2 G2 _ σ (Ext.refl G2) (r2.put hn z2 ?_) (s.mono (e1.trans e2))
            exact ⟨a', C, dx, nm, _, q1, z2, upd_same, z4, key.1, key.2⟩
      | _ => exact o2.elim
  | _ => exact o2.elim
end
end L3
set_option autoImplicit false
set_option maxHeartbeats 4000000
namespace L3
open PySem PySem.Spec L2
section
variable {X : Cx} {T : Tx} {W : WX} {pos : Pos}
abbrev FnG := D → De → Option De
abbrev FnGs := List D → De → Option De
def SameOut (is : List Nat) (σ σ' : L2.St) : Prop := σ'.length = σ.length ∧ ∀ i, i ∉ is → σ'[i]? = σ[i]?
theorem SameOut.refl (is : List Nat) (σ : L2.St) : SameOut is σ σ := ⟨rfl, fun _ _ => rfl⟩
theorem SameOut.trans {is js : List Nat} {σ σ1 σ2 : L2.St} (a : SameOut is σ σ1) (b : SameOut js σ1 σ2) : SameOut (is ++ js) σ σ2 :=
  ⟨b.1.trans a.1, fun i h => by
    have h' : i ∉ is ∧ i ∉ js := by simpa using h
    exact (b.2 i h'.2).trans (a.2 i h'.1)⟩
theorem SameOut.set (σ : L2.St) (i : Nat) (x : Option V) : SameOut [i] σ (σ.set i x) := ⟨by simp, fun j h => by
  have h' : j ≠ i := by simpa using h
  exact List.getElem?_set_ne (Ne.symm h')⟩
def tG (K : PySem.W.Frag) (T : Tx) (is : List Nat) (g : FnG) : TG := fun v σ H Q => ∃ G h δ d δ', Rel K T G h H ∧ RSl K T G δ σ ∧ RD K T G d v ∧ g d δ = some δ' ∧ ∀ σ', RSl K T G δ' σ' → SameOut is σ σ' → Q σ' H
def tGs (K : PySem.W.Frag) (T : Tx) (is : List Nat) (g : FnGs) : TGs := fun vs σ H Q => ∃ G h δ ds δ', Rel K T G h H ∧ RSl K T G δ σ ∧ RDs K T G ds vs ∧ g ds δ = some δ' ∧ ∀ σ', RSl K T G δ' σ' → SameOut is σ σ' → Q σ' H
abbrev FG (X : Cx) (T : Tx) (e : Expr) (is : List Nat) (g : FnG) : Prop := PG X e (tG X.K T is g)
abbrev FGs (X : Cx) (T : Tx) (es : List Expr) (is : List Nat) (g : FnGs) : Prop := PGs X es (tGs X.K T is g)
theorem PG.imp {e : Expr} {t t' : TG} (h : PG X e t) (q : ∀ v σ H Q, t' v σ H Q → t v σ H Q) : PG X e t' := ⟨fun pins s σ H v u Q I r z => h.run pins s σ H v u Q I r (q _ _ _ _ z)⟩
theorem PGs.imp {e : List Expr} {t t' : TGs} (h : PGs X e t) (q : ∀ v σ H Q, t' v σ H Q → t v σ H Q) : PGs X e t' := ⟨fun pins s σ H v u Q I r z => h.run pins s σ H v u Q I r (q _ _ _ _ z)⟩
theorem PG.or {e : Expr} {t t' : TG} (h : PG X e t) (h' : PG X e t') : PG X e (fun v σ H Q => t v σ H Q ∨ t' v σ H Q) := ⟨fun pins s σ H v u Q I r z => z.elim (h.run pins s σ H v u Q I r) (h'.run pins s σ H v u Q I r)⟩
def gSet (i : Nat) : FnG := fun d δ => some (δ.set i (some d))
theorem fg_name (i : Nat) {x : Str} (hN : X.N.Nodup) (hi : X.N[i]? = some x) (hx : Loc X.env.scope x) (hf : X.fn x = true ∨ X.env.scope.names.lookup x = some .local := by first | exact .inl rfl | exact .inr rfl | assumption) : FG X T (.Name x pos) [i] (gSet i) := by
  refine PG.imp (pg_name hN hi hx hf) fun v σ H Q => ?_
  rintro ⟨G, h, δ, d, δ', r, s, rd, e, k⟩
  cases e
  exact k _ (s.set rd i) (SameOut.set σ i _)
def gsNil : FnGs := fun ds δ => match ds with
  | [] => some δ
  | _ => none
def gsCons (g : FnG) (gs : FnGs) : FnGs := fun ds δ => match ds with
  | d :: r => match g d δ with
    | some δ' => gs r δ'
    | none => none
  | [] => none
theorem fgs_nil : FGs X T [] [] gsNil := by
  refine PGs.imp pgs_nil fun v σ H Q => ?_
  rintro ⟨G, h, δ, ds, δ', r, s, rd, e, k⟩
  cases rd with
  | nil => cases e; exact ⟨rfl, k _ s (SameOut.refl _ _)⟩
  | cons _ _ => cases e
theorem fgs_cons {e : Expr} {es : List Expr} {is js : List Nat} {g : FnG} {gs : FnGs} (h1 : FG X T e is g) (h2 : FGs X T es js gs) (hs : (assignEach (e :: es) X.env).map (·.2) = assign e X.env :: (assignEach es X.env).map (·.2) := by rfl) : FGs X T (e :: es) (is ++ js) (gsCons g gs) := by
  refine PGs.imp (pgs_cons h1 h2 hs) fun v σ H Q => ?_
  rintro ⟨G, h, δ, ds, δ', r, s, rd, e, k⟩
  cases rd with
  | nil => cases e
  | @cons d v ds vs q1 q2 =>
    unfold gsCons at e
    dsimp only at e
    cases eg : g d δ with
    | none => rw [eg] at e; cases e
    | some δ1 =>
      rw [eg] at e
      exact ⟨v, vs, rfl, G, h, δ, d, δ1, r, s, q1, eg, fun σ1 s1 o1 => ⟨G, h, δ1, ds, δ', r, s1, q2, e, fun σ2 s2 o2 => k σ2 s2 (o1.trans o2)⟩⟩
def gTupD (n : Nat) (gs : FnGs) : FnG := fun d δ => match d with
  | .tup ds => if ds.length = n then gs ds δ else none
  | .lst ds => if ds.length = n then gs ds δ else none
  | _ => none
theorem fg_tup {es : List Expr} {k : Nat} {is : List Nat} {gs : FnGs} {n : Nat} (hc : X.calm = true) (h : FGs X T es is gs) (hn : (assignEach es X.env).length = n := by rfl) (hst : (assignEach es X.env).findIdx? (·.1) = none := by rfl) : FG X T (.Tuple es k pos) is (gTupD n gs) := by
  refine PG.imp (PG.or (pg_tup hc h hn hst) (pg_lst hc h hn hst)) fun v σ H Q => ?_
  rintro ⟨G, h, δ, d, δ', r, s, rd, e, k⟩
  cases rd with
  | @tup ds a vs q1 q2 =>
    unfold gTupD at e
    dsimp only at e
    by_cases hl : ds.length = n
    · rw [if_pos hl] at e
      exact .inl ⟨a, vs, rfl, SqT.sub r.sub q1, q2.length.symm.trans hl, G, h, δ, ds, δ', r, s, q2, e, k⟩
    · rw [if_neg hl] at e; cases e
  | @lst ds a vs q1 q2 =>
    unfold gTupD at e
    dsimp only at e
    by_cases hl : ds.length = n
    · rw [if_pos hl] at e
      exact .inr ⟨a, vs, rfl, .inl (.inl (r.sub _ _ q1)), q2.length.symm.trans hl, G, h, δ, ds, δ', r, s, q2, e, k⟩
    · rw [if_neg hl] at e; cases e
  | _ => cases e
def sAsg (g : FnG) (f : FnE) : FnS := fun δ h => (f δ h).toS δ fun x h1 => match g x δ with
  | some δ' => .nx δ' h1
  | none => .stk
theorem fs_asg {tg e : Expr} {f : FnE} {is : List Nat} {g : FnG} (hg : FG X T tg is g) (he : FE X T W e f) (hs : swapsWithSole [tg] e pos.line X.env = pure false := by rfl) (hw : swappedStores [tg] e X.env = pure none := by rfl)
    (h1 : (assignEach [tg] X.env).map (·.2) = [assign tg X.env] := by rfl) : FS X T W (.Assign [tg] e pos) (sAsg g f) := by
  refine PS.imp (ps_asg he hg hs hw h1) fun D σ H h => ?_
  refine tS.bind (k := fun δ x h1 => match g x δ with | some δ' => .nx δ' h1 | none => .stk) h fun G δ x w h1 H1 r1 s1 d1 o1 => ?_
  cases eg : g x δ with
  | none => rw [eg] at o1; exact o1.elim
  | some δ' =>
    rw [eg] at o1
    exact ⟨G, h1, δ, x, δ', r1, s1, d1, eg, fun σ' s' _ => o1 G H1 σ' (Ext.refl G) r1 s'⟩
def setAll (ix : List Nat) (ds : List D) (δ : De) : De := match ix, ds with
  | i :: ix, d :: ds => setAll ix ds (δ.set i (some d))
  | _, _ => δ
def kPar (ix : List Nat) (δ : De) (ds : List D) (h1 : Hh) : RS := if ds.length = ix.length then .nx (setAll ix ds δ) h1 else .stk
def sPar (ix : List Nat) (fa : FnA) : FnS := fun δ h => (fa δ h).toS δ (kPar ix δ)
theorem fs_par {i j : Nat} {x y : Str} {a b : Expr} {fa : FnA} {px py pt : Pos} {kt k2 pt2} (hc : X.calm = true) (hN : X.N.Nodup) (hi : X.N[i]? = some x) (hj : X.N[j]? = some y) (hij : i ≠ j)
    (hx : X.env.scope.names.lookup x = some .local) (hy : X.env.scope.names.lookup y = some .local) (ha : FA X T W [a, b] fa)
    (hw : swappedStores [.Tuple [.Name x px, .Name y py] kt pt] (.Tuple [a, b] k2 pt2) X.env = pure (some [x, y]))
    (hs : swapsWithSole [.Tuple [.Name x px, .Name y py] kt pt] (.Tuple [a, b] k2 pt2) pos.line X.env = pure false := by rfl) :
    FS X T W (.Assign [.Tuple [.Name x px, .Name y py] kt pt] (.Tuple [a, b] k2 pt2) pos) (sPar [i, j] fa) := by
  refine PS.imp (ps_par hc hN hi hj hij hx hy ha hw hs) fun D σ H h => ?_
  refine tS.bind (k := kPar [i, j]) h fun G δ ds vs h1 H1 r1 s1 d1 o1 => ?_
  unfold kPar at o1
  by_cases hl : ds.length = [i, j].length
  · rw [if_pos hl] at o1
    match ds, vs, d1, hl, o1 with
    | [d, e], [v, w], .cons q1 (.cons q2 .nil), _, o1 => exact ⟨v, w, rfl, o1 G H1 _ (Ext.refl G) r1 ((s1.set q1 i).set q2 j)⟩
  · rw [if_neg hl] at o1; exact o1.elim
def Walk3 (K : PySem.W.Frag) (T : Tx) (J : It) (G : Gst) (items : List D) : Prop := ∀ (i : Nat) G2 h2 H2, Ext0 G G2 → Rel K T G2 h2 H2 →
  (∀ d, items[i]? = some d → J.go i H2 ∧ ∀ x H3, J.yld i H2 x H3 → ∃ G3, Ext G2 G3 ∧ Rel K T G3 h2 H3 ∧ RD K T G3 d x) ∧ (i = items.length → J.stop i H2)
abbrev FnI := De → Hh → R (List D)
def tI (K : PySem.W.Frag) (T : Tx) (W : WX) (f : FnI) : TI := fun σ H Q => ∃ G h δ, Rel K T G h H ∧ RSl K T G δ σ ∧ okR K T W G σ (fun G ds J => Walk3 K T J G ds) (f δ h) Q
abbrev FI (X : Cx) (T : Tx) (W : WX) (tg e : Expr) (f : FnI) : Prop := PI X tg e (tI X.K T W f)
theorem PI.imp {tg e : Expr} {t t' : TI} (h : PI X tg e t) (q : ∀ σ H Q, t' σ H Q → t σ H Q) : PI X tg e t' := ⟨fun pins s σ H Q I z => h.run pins s σ H Q I (q _ _ _ z)⟩
theorem PI.or {tg e : Expr} {t t' : TI} (h : PI X tg e t) (h' : PI X tg e t') : PI X tg e (fun σ H Q => t σ H Q ∨ t' σ H Q) := ⟨fun pins s σ H Q I z => z.elim (h.run pins s σ H Q I) (h'.run pins s σ H Q I)⟩
def iSeq (f : FnE) : FnI := fun δ h => (f δ h).bind fun x h1 => match x with
  | .tup ds => .ok ds h1
  | .lst ds => .ok ds h1
  | .scr ds => .ok ds h1
  | _ => .stk
def rgD (lo : Int) (n : Nat) : List D := (List.range n).map fun (i : Nat) => D.int (lo + i)
theorem walk_rng {K : PySem.W.Frag} {G : Gst} {lo : Int} {n : Nat} : Walk3 K T (Itr lo n) G (rgD lo n) := fun i G2 h2 H2 x r => by
  refine ⟨fun d e => ?_, fun hl => by
    have hl' : i = n := by simpa [rgD] using hl
    exact Nat.le_of_eq hl'.symm⟩
  unfold rgD at e
  rw [List.getElem?_map] at e
  obtain ⟨j, ej, rfl⟩ := Option.map_eq_some_iff.mp e
  obtain ⟨hj, e2⟩ := List.getElem?_eq_some_iff.mp ej
  simp at e2 hj
  subst e2
  exact ⟨hj, fun y H3 ⟨e1, e3⟩ => by subst e1; subst e3; exact ⟨G2, Ext.refl G2, r, .int⟩⟩
def iRg1 (f : FnE) : FnI := fun δ h => (f δ h).bind fun x h1 => match x with
  | .int j => if -(2 ^ 62) ≤ j ∧ j < 2 ^ 62 then .ok (rgD 0 j.toNat) h1 else .stk
  | _ => .stk
theorem fi_range1 {tg a : Expr} {f : FnE} {p : Pos} (hg : Gl X "range") (hm : X.mg "range" = none) (ha : FE X T W a f) (hs : starEach [a] X.env = [(false, eval a X.env)] := by rfl) : FI X T W tg (.Call (.Name "range" p) [a] [] pos) (iRg1 f) := by
  refine PI.imp (pi_range1 hg hm (fa_cons ha fa_nil hs) hs) fun σ H Q => ?_
  rintro ⟨G, h0, δ, r, s, o⟩
  refine ⟨G, h0, δ, r, s, ?_⟩
  show okR X.K T W G σ (RDs X.K T) ((f δ h0).bind fun x h1 => R.ok [x] h1) _
  unfold iRg1 at o
  cases ef : f δ h0 with
  | stk => rw [ef] at o; exact o.elim
  | exc c ds h' => rw [ef] at o; exact o
  | ok x h' =>
    rw [ef] at o
    intro G' H' vs e r' d
    match vs, d with
    | [v], .cons q .nil =>
      cases q with
      | @int j =>
        have o' : okR X.K T W G σ (fun G ds J => Walk3 X.K T J G ds) (if -(2 ^ 62) ≤ j ∧ j < 2 ^ 62 then R.ok (rgD 0 j.toNat) h' else .stk) Q := o
        by_cases hl : -(2 ^ 62) ≤ j ∧ j < 2 ^ 62
        · rw [if_pos hl] at o'
          exact ⟨j, rfl, hl.1, hl.2, o' G' H' _ e r' walk_rng⟩
        · rw [if_neg hl] at o'; exact o'.elim
      | _ => exact o.elim
def loop3 (g : FnG) (u : FnS) : List D → De → Hh → RS
  | [], δ, h => .nx δ h
  | d :: ds, δ, h => match g d δ with
    | none => .stk
    | some δ1 => match u δ1 h with
      | .nx δ2 h2 => loop3 g u ds δ2 h2
      | .ct δ2 h2 => loop3 g u ds δ2 h2
      | .bk δ2 h2 => .nx δ2 h2
      | r => r
def sFor (f : FnI) (g : FnG) (u : FnS) : FnS := fun δ h => (f δ h).toS δ fun items h1 => loop3 g u items δ h1
theorem fs_for {tg iter : Expr} {body : List Stmt} {f : FnI} {is : List Nat} {g : FnG} {u : FnS} (hp : PassesOwn (model X.prog X.w) X.A X.env X.xe) (hc : X.calm = true) (hi : FI X T W tg iter f) (hg : FG X T tg is g) (hb : FSs X T W body u)
    (hs : ∀ x, foldedSetIterable iter X.env x = pure x := by intro _; rfl) : FS X T W (.For tg iter body [] pos) (sFor f g u) := by
  refine PS.imp (ps_for hp hc hi hg hb hs) fun D σ H => ?_
  rintro ⟨G, h0, δ, r, s, o⟩
  refine ⟨G, h0, δ, r, s, (okS.toS (rel := fun G ds J => Walk3 X.K T J G ds) s o).mono ?_⟩
  rintro J H1 ⟨G1, items, h1, e1, r1, w, o1⟩
  refine ⟨fun i m σ' H' => i ≤ items.length ∧ m = items.length - i ∧ ∃ G2 h2 δ2, Ext G1 G2 ∧ Rel X.K T G2 h2 H' ∧ RSl X.K T G2 δ2 σ' ∧ okS X.K T W G2 (loop3 g u (items.drop i) δ2 h2) D,
    ⟨_, Nat.zero_le _, rfl, G1, h1, δ, Ext.refl G1, r1, s.mono e1, o1⟩, ?_⟩
  rintro i m σ' H' ⟨hi', rfl, G2, h2, δ2, e2, r2, s2, o2⟩
  by_cases hlt : i < items.length
  · refine .inr ?_
    have ed : items[i]? = some items[i] := by simp [hlt]
    obtain ⟨go, yl⟩ := (w i G2 h2 H' e2.e0 r2).1 _ ed
    rw [List.drop_eq_getElem_cons hlt] at o2
    unfold loop3 at o2
    refine ⟨go, fun σ3 H3 => ∃ m', m' < items.length - i ∧ i + 1 ≤ items.length ∧ m' = items.length - (i + 1) ∧ ∃ G2 h2 δ2, Ext G1 G2 ∧ Rel X.K T G2 h2 H3 ∧ RSl X.K T G2 δ2 σ3 ∧ okS X.K T W G2 (loop3 g u (items.drop (i + 1)) δ2 h2) D,
      fun σ3 H3 ⟨m', a, b, c, d⟩ => ⟨m', a, b, c, d⟩, fun x H3 y => ?_⟩
    obtain ⟨G3, e3, r3, d3⟩ := yl x H3 y
    cases eg : g items[i] δ2 with
    | none => rw [eg] at o2; exact o2.elim
    | some δ3 =>
      rw [eg] at o2
      dsimp only at o2
      refine ⟨G3, h2, δ2, items[i], δ3, r3, s2.mono e3, d3, eg, fun σ4 s4 _ => ⟨G3, h2, δ3, r3, s4, ?_⟩⟩
      have again : ∀ {δ5 : De} {h5 : Hh}, okS X.K T W G2 (loop3 g u (items.drop (i + 1)) δ5 h5) D → ∀ G' H' σ', Ext G3 G' → Rel X.K T G' h5 H' → RSl X.K T G' δ5 σ' →
          ∃ m', m' < items.length - i ∧ i + 1 ≤ items.length ∧ m' = items.length - (i + 1) ∧ ∃ G2 h2 δ2, Ext G1 G2 ∧ Rel X.K T G2 h2 H' ∧ RSl X.K T G2 δ2 σ' ∧ okS X.K T W G2 (loop3 g u (items.drop (i + 1)) δ2 h2) D :=
        fun {δ5 h5} o5 G' H' σ' e r' s' => ⟨_, by omega, hlt, rfl, G', h5, δ5, e2.trans (e3.trans e), r', s', okS.ext (e3.trans e) o5⟩
      cases eu : u δ3 h2 with
      | nx δ5 h5 => rw [eu] at o2; exact again o2
      | ct δ5 h5 => rw [eu] at o2; exact again o2
      | bk δ5 h5 => rw [eu] at o2; exact okS.ext e3 o2
      | rt d h5 => rw [eu] at o2; exact okS.ext e3 o2
      | exc c ds δ5 h5 => rw [eu] at o2; exact okS.ext e3 o2
      | stk => rw [eu] at o2; exact o2
  · refine .inl ⟨(w i G2 h2 H' e2.e0 r2).2 (by omega), ?_⟩
    rw [List.drop_eq_nil_of_le (by omega)] at o2
    exact o2 G2 H' σ' (Ext.refl G2) r2 s2
end
end L3
set_option autoImplicit false
set_option maxHeartbeats 4000000
namespace L3
open PySem PySem.Spec L2
open PyProof.Rows (envOfC)
section
variable {X : Cx} {T : Tx} {W : WX} {pos : Pos}
abbrev W0 : WX := fun _ _ _ _ => False
def wipeD (δ : De) : List Nat → De
  | [] => δ
  | v :: vs => (wipeD δ vs).set v none
theorem RSl.wipe {K : PySem.W.Frag} {G : Gst} {δ : De} {σ : L2.St} (r : RSl K T G δ σ) : ∀ vs : List Nat, RSl K T G (wipeD δ vs) (L2.wipe σ vs)
  | [] => r
  | v :: vs => (RSl.wipe r vs).unset v none
theorem wipe_get {σ : L2.St} : ∀ {vs : List Nat} {i : Nat}, i ∉ vs → (L2.wipe σ vs)[i]? = σ[i]?
  | [], _, _ => rfl
  | v :: vs, i, h => by
    have h' : i ≠ v ∧ i ∉ vs := by simpa using h
    unfold L2.wipe
    rw [List.getElem?_set_ne (Ne.symm h'.1)]
    exact wipe_get h'.2
theorem wipe_in {σ : L2.St} : ∀ {vs : List Nat} {i : Nat}, i ∈ vs → i < σ.length → (L2.wipe σ vs)[i]? = some none
  | v :: vs, i, h, hl => by
    unfold L2.wipe
    by_cases e : i = v
    · subst e
      exact List.getElem?_set_self (by rw [wipe_length]; exact hl)
    · rw [List.getElem?_set_ne (Ne.symm e)]
      exact wipe_in (by simpa [e] using h) hl
theorem wipe_same {σ σ' : L2.St} {vs is : List Nat} (o : SameOut is (L2.wipe σ vs) σ') (hs : ∀ i ∈ is, i ∈ vs) : L2.wipe σ' vs = L2.wipe σ vs := by
  have hl : σ'.length = σ.length := by rw [o.1, wipe_length]
  refine List.ext_getElem? fun i => ?_
  by_cases hi : i ∈ vs
  · by_cases h : i < σ.length
    · rw [wipe_in hi (by omega), wipe_in hi h]
    · rw [List.getElem?_eq_none (by rw [wipe_length]; omega), List.getElem?_eq_none (by rw [wipe_length]; omega)]
  · rw [wipe_get hi, o.2 i (fun m => hi (hs i m))]
def lcs (g : FnG) (t : FnT) (e : FnE) (δ : De) : List D → Hh → R (List D)
  | [], h => .ok [] h
  | d :: ds, h => match g d δ with
    | none => .stk
    | some δ1 => match t δ1 h with
      | .ok b h1 => if b = true then
          match e δ1 h1 with
          | .ok y h2 => (lcs g t e δ ds h2).bind fun ys h3 => .ok (y :: ys) h3
          | _ => .stk
        else lcs g t e δ ds h1
      | _ => .stk
def kLst (mu : Bool) (xs : List D) (h1 : Hh) : R D := if lineOk xs.length = true then (if mu = true then .ok (.ref h1.length) (h1 ++ [.lst xs]) else .ok (.lst xs) h1) else .stk
def eLc (mu : Bool) (f : FnI) (g : FnG) (t : FnT) (e : FnE) (vs : List Nat) : FnE := fun δ h => (f δ h).bind fun items h1 => (lcs g t e (wipeD δ vs) items h1).bind (kLst mu)
def tYes3 : FnT := fun _ h => .ok true h
abbrev FTs (X : Cx) (T : Tx) (W : WX) (ifs : List Expr) (t : FnT) : Prop := PTs X ifs (tT X.K T W t)
theorem fts_nil : FTs X T W [] tYes3 := ⟨fun pins s σ H Q I ⟨G, h0, δ, r, s', o⟩ => pts_nil.run pins s σ H Q I (o.at r rfl)⟩
theorem fts_one {c : Expr} {t : FnT} (h : FT X T W c t) : FTs X T W [c] t := pts_one h
def Gst.guard (G : Gst) (p : Addr) (o : HO) : Gst := { G with pr := upd G.pr p o }
theorem Ext0.of {G G' : Gst} (e1 : G'.ι = G.ι) (e2 : ∀ a o, G.fz a = some o → G'.fz a = some o) (e4 : G'.lk = G.lk := by rfl) : Ext0 G G' := ⟨⟨[], by simp [e1]⟩, e2, e4⟩
theorem RO.ghost {K : PySem.W.Frag} {G : Gst} {H H' : Hp} {n : Nat} {o : O} (r : RO K T G H n o) (G' : Gst) (e1 : G'.ι = G.ι) (e2 : ∀ a o, G.fz a = some o → G'.fz a = some o) (e3 : G'.own = G.own) (hb : ∀ b, G.own b = some n → H' b = H b) (e4 : G'.lk = G.lk := by rfl) : RO K T G' H' n o := by
  cases o with
  | lst ds => obtain ⟨a, vs, z1, z2, z3, z4⟩ := r; exact ⟨a, vs, by rw [e1]; exact z1, by rw [e3]; exact z2, by rw [hb _ z2]; exact z3, z4.mono0 (.of e1 e2 e4)⟩
  | dic ks vs => obtain ⟨a, kvs, z1, z2, z3, z4, z5⟩ := r; exact ⟨a, kvs, by rw [e1]; exact z1, by rw [e3]; exact z2, by rw [hb _ z2]; exact z3, z4.mono0 (.of e1 e2 e4), z5.mono0 (.of e1 e2 e4)⟩
  | dicL ks vs => obtain ⟨a, od, kvs, z1, z2, z4, z5⟩ := r; exact ⟨a, od, kvs, by rw [e1]; exact z1, by rw [e4]; exact z2, z4.mono0 (.of e1 e2 e4), z5.mono0 (.of e1 e2 e4)⟩
  | dit ks vs => obtain ⟨a, kvs, z1, z2, z3, z4, z5⟩ := r; exact ⟨a, kvs, by rw [e1]; exact z1, by rw [e3]; exact z2, by rw [hb _ z2]; exact z3, z4, z5.mono0 (.of e1 e2 e4)⟩
  | dkn ks vs => obtain ⟨a, xs, z1, z2, z3, z4, z5, z6⟩ := r; exact ⟨a, xs, by rw [e1]; exact z1, by rw [e3]; exact z2, by rw [hb _ z2]; exact z3, z4, z5.mono0 (.of e1 e2 e4), z6.mono0 (.of e1 e2 e4)⟩
  | obj c ds => obtain ⟨a, C, dx, nm, fs, z1, z2, z3, z4, z5, z6⟩ := r; exact ⟨a, C, dx, nm, fs, by rw [e1]; exact z1, by rw [e3]; exact z2, by rw [hb _ z2]; exact z3, z4, z5, z6.mono0 (.of e1 e2 e4)⟩
  | src s => obtain ⟨a, z1, z2⟩ := r; exact ⟨a, by rw [e1]; exact z1, by rw [e3]; exact T.srcStay _ _ _ _ _ z2 hb⟩
  | dead => trivial
  | err c ds => obtain ⟨a, cls, dd, z1, z2, z3⟩ := r; exact ⟨a, cls, dd, by rw [e1]; exact z1, z2, RX.monoV ⟨⟨[], by simp [e1]⟩, e2⟩ z3⟩
  | tab q => obtain ⟨a, ps, z1, z2, z3, z4, z5⟩ := r; exact ⟨a, ps, by rw [e1]; exact z1, by rw [e3]; exact z2, by rw [hb _ z2]; exact z3, z4, z5.monoV e2⟩
  | lam q cap => obtain ⟨a, c, z1, z2, z3, z4⟩ := r; exact ⟨a, c, by rw [e1]; exact z1, z2, e2 _ _ z3, z4.monoV ⟨⟨[], by simp [e1]⟩, e2⟩⟩
  | dkL ks vs => obtain ⟨a, od, xs, z1, z2, z4, z5, z6⟩ := r; exact ⟨a, od, xs, by rw [e1]; exact z1, by rw [e4]; exact z2, z4, z5.mono0 (.of e1 e2 e4), z6.mono0 (.of e1 e2 e4)⟩
  | itr ds i => obtain ⟨a, l, vs, z1, z2, z3, z4, z5⟩ := r; exact ⟨a, l, vs, by rw [e1]; exact z1, by rw [e3]; exact z2, by rw [hb _ z2]; exact z3, SqT.sub e2 z4, z5.mono0 (.of e1 e2 e4)⟩
theorem RSl.ghost {K : PySem.W.Frag} {G G' : Gst} {δ : De} {σ : L2.St} (e1 : G'.ι = G.ι) (e2 : ∀ a o, G.fz a = some o → G'.fz a = some o) (r : RSl K T G δ σ) (e4 : G'.lk = G.lk := by rfl) : RSl K T G' δ σ :=
  ⟨r.len, fun i d e => let ⟨v, h1, h2⟩ := r.at_ i d e; ⟨v, h1, h2.mono0 (.of e1 e2 e4)⟩⟩
theorem Rel.guard {K : PySem.W.Frag} {G : Gst} {h : Hh} {H : Hp} (r : Rel K T G h H) {p : Addr} {o : HO} (hp : H p = none) : Rel K T (G.guard p o) h (upd H p o) := by
  have nown : ∀ b n, G.own b = some n → b ≠ p := fun b n q z => (r.own b n q).2.2 (by rw [z]; exact hp)
  refine ⟨r.len, fun a u q => ?_, fun a n q => ?_, fun a u q => ?_, fun a u q => ?_, fun n u q => ?_⟩
  · have := r.sub a u q
    rw [upd_ne (ne_of_none this hp)]; exact this
  · obtain ⟨h1, h2, h3⟩ := r.own a n q
    exact ⟨h1, h2, by rw [upd_ne (nown a n q)]; exact h3⟩
  · have q' : upd G.pr p o a = some u := q
    by_cases ha : a = p
    · subst ha
      rw [upd_same] at q' ⊢
      refine ⟨q', r.fzNone hp, ?_, ?_⟩
      · show G.own a = none
        cases e : G.own a with
        | none => rfl
        | some n => exact absurd rfl (nown a n e)
      · show G.lk a = none
        cases e : G.lk a with
        | none => rfl
        | some v => have := (r.lk a v e).1; rw [hp] at this; cases this
    · rw [upd_ne ha] at q' ⊢
      exact r.pr a u q'
  · have z := r.lk a u q
    rw [upd_ne (ne_of_none z.1 hp)]; exact z
  · exact (r.obj n u q).ghost (G.guard p o) rfl (fun _ _ e => e) rfl fun b e => upd_ne (nown b n e)
theorem Rel.reguard {K : PySem.W.Frag} {G : Gst} {h : Hh} {H : Hp} (r : Rel K T G h H) {p : Addr} {o u : HO} (hp : G.pr p = some o) : Rel K T { G with pr := upd G.pr p u } h (upd H p u) := by
  obtain ⟨h1, h2, h3, h4⟩ := r.pr p o hp
  have nown : ∀ b n, G.own b = some n → b ≠ p := fun b n q z => by rw [z, h3] at q; cases q
  refine ⟨r.len, fun a v q => ?_, fun a n q => ?_, fun a v q => ?_, fun a v q => ?_, fun n v q => ?_⟩
  · have na : a ≠ p := fun z => by rw [z, h2] at q; cases q
    rw [upd_ne na]; exact r.sub a v q
  · obtain ⟨z1, z2, z3⟩ := r.own a n q
    exact ⟨z1, z2, by rw [upd_ne (nown a n q)]; exact z3⟩
  · have q' : upd G.pr p u a = some v := q
    by_cases ha : a = p
    · subst ha
      rw [upd_same] at q' ⊢
      exact ⟨q', h2, h3, h4⟩
    · rw [upd_ne ha] at q' ⊢
      exact r.pr a v q'
  · have na : a ≠ p := fun z => by have q' : G.lk a = some v := q; rw [z, h4] at q'; cases q'
    rw [upd_ne na]; exact r.lk a v q
  · exact (r.obj n v q).ghost { G with pr := upd G.pr p u } rfl (fun _ _ e => e) rfl fun b e => upd_ne (nown b n e)
theorem Rel.unguard {K : PySem.W.Frag} {G : Gst} {h : Hh} {H : Hp} (r : Rel K T G h H) {p : Addr} {o : HO} {pr0 : Hp} (hp : G.pr p = some o) (h0 : ∀ a u, pr0 a = some u → a ≠ p ∧ G.pr a = some u) :
    Rel K T { G with pr := pr0, fz := upd G.fz p o } h H := by
  obtain ⟨h1, h2, h3, h4⟩ := r.pr p o hp
  have nown : ∀ b n, G.own b = some n → b ≠ p := fun b n q z => by rw [z, h3] at q; cases q
  refine ⟨r.len, fun a v q => ?_, fun a n q => ?_, fun a v q => ?_, fun a v q => ?_, fun n v q => ?_⟩
  · have q' : upd G.fz p o a = some v := q
    by_cases ha : a = p
    · subst ha; rw [upd_same] at q'; cases q'; exact h1
    · rw [upd_ne ha] at q'; exact r.sub a v q'
  · obtain ⟨z1, z2, z3⟩ := r.own a n q
    exact ⟨z1, by show upd G.fz p o a = none; rw [upd_ne (nown a n q)]; exact z2, z3⟩
  · obtain ⟨na, q'⟩ := h0 a v q
    obtain ⟨z1, z2, z3⟩ := r.pr a v q'
    exact ⟨z1, by show upd G.fz p o a = none; rw [upd_ne na]; exact z2, z3⟩
  · obtain ⟨z1, z2, z3⟩ := r.lk a v q
    have na : a ≠ p := fun z => by have q' : G.lk a = some v := q; rw [z, h4] at q'; cases q'
    exact ⟨z1, by show upd G.fz p o a = none; rw [upd_ne na]; exact z2, z3⟩
  · refine (r.obj n v q).ghost { G with pr := pr0, fz := upd G.fz p o } rfl (fun a u e => ?_) rfl fun b e => rfl
    show upd G.fz p o a = some u
    have na : a ≠ p := fun z => by rw [z, h2] at e; cases e
    rw [upd_ne na]; exact e
def Gst.give (G : Gst) (p : Addr) (pr0 : Hp) : Gst := { ι := G.ι ++ [p], own := fun b => if b = p then some G.ι.length else G.own b, fz := G.fz, pr := pr0, lk := G.lk }
theorem Rel.unguardO {K : PySem.W.Frag} {G : Gst} {h : Hh} {H : Hp} {u : O} (r : Rel K T G h H) {p : Addr} {o : HO} {pr0 : Hp} (hp : G.pr p = some o) (h0 : ∀ a u, pr0 a = some u → a ≠ p ∧ G.pr a = some u)
    (ho : ∀ G', Ext0 G G' → G'.ι[h.length]? = some p → G'.own p = some h.length → (∀ b, G'.own b = some h.length → b = p) → RO K T G' H h.length u) : Ext0 G (G.give p pr0) ∧ Rel K T (G.give p pr0) (h ++ [u]) H := by
  obtain ⟨h1, h2, h3, h4⟩ := r.pr p o hp
  have nown : ∀ b n, G.own b = some n → b ≠ p := fun b n q z => by rw [z, h3] at q; cases q
  have x0 : Ext0 G (G.give p pr0) := ⟨⟨[p], rfl⟩, fun _ _ q => q, rfl⟩
  refine ⟨x0, by simp [Gst.give, r.len], fun a v q => r.sub a v q, fun a n q => ?_, fun a v q => ?_, fun a v q => ?_, fun n v q => ?_⟩
  · have q' : (if a = p then some G.ι.length else G.own a) = some n := q
    by_cases ha : a = p
    · rw [if_pos ha] at q'
      cases q'
      exact ⟨by simp [r.len], by rw [ha]; exact h2, by rw [ha, h1]; simp⟩
    · rw [if_neg ha] at q'
      obtain ⟨z1, z2, z3⟩ := r.own a n q'
      exact ⟨by simp; omega, z2, z3⟩
  · obtain ⟨na, q'⟩ := h0 a v q
    obtain ⟨z1, z2, z3, z4⟩ := r.pr a v q'
    exact ⟨z1, z2, by show (if a = p then some G.ι.length else G.own a) = none; rw [if_neg na]; exact z3, z4⟩
  · obtain ⟨z1, z2, z3⟩ := r.lk a v q
    have na : a ≠ p := fun z => by have q' : G.lk a = some v := q; rw [z, h4] at q'; cases q'
    exact ⟨z1, z2, by show (if a = p then some G.ι.length else G.own a) = none; rw [if_neg na]; exact z3⟩
  · by_cases hn : n < h.length
    · rw [List.getElem?_append_left hn] at q
      have old : ∀ b, (if b = p then some G.ι.length else G.own b) = some n → G.own b = some n := fun b z => by
        by_cases hb : b = p
        · rw [if_pos hb] at z; cases z; rw [r.len] at hn; omega
        · rw [if_neg hb] at z; exact z
      have new : ∀ b, G.own b = some n → (if b = p then some G.ι.length else G.own b) = some n := fun b z => by
        rw [if_neg (nown b n z)]; exact z
      have hi : ∀ a, G.ι[n]? = some a → (G.ι ++ [p])[n]? = some a := fun a e => by
        rw [List.getElem?_append_left (List.getElem?_eq_some_iff.mp e).1]; exact e
      have ro := r.obj n v q
      cases v with
      | lst ds => obtain ⟨a, vs, z1, z2, z3, z4⟩ := ro; exact ⟨a, vs, hi _ z1, new _ z2, z3, z4.mono0 x0⟩
      | dic ks vs => obtain ⟨a, kvs, z1, z2, z3, z4, z5⟩ := ro; exact ⟨a, kvs, hi _ z1, new _ z2, z3, z4.mono0 x0, z5.mono0 x0⟩
      | dicL ks vs => obtain ⟨a, od, kvs, z1, z2, z4, z5⟩ := ro; exact ⟨a, od, kvs, hi _ z1, z2, z4.mono0 x0, z5.mono0 x0⟩
      | dit ks vs => obtain ⟨a, kvs, z1, z2, z3, z4, z5⟩ := ro; exact ⟨a, kvs, hi _ z1, new _ z2, z3, z4, z5.mono0 x0⟩
      | dkn ks vs => obtain ⟨a, xs, z1, z2, z3, z4, z5, z6⟩ := ro; exact ⟨a, xs, hi _ z1, new _ z2, z3, z4, z5.mono0 x0, z6.mono0 x0⟩
      | obj c ds => obtain ⟨a, C, dx, nm, fs, z1, z2, z3, z4, z5, z6⟩ := ro; exact ⟨a, C, dx, nm, fs, hi _ z1, new _ z2, z3, z4, z5, z6.mono0 x0⟩
      | src s =>
        obtain ⟨a, z1, z2⟩ := ro
        refine ⟨a, hi _ z1, ?_⟩
        have e : (fun b => (G.give p pr0).own b = some n) = (fun b => G.own b = some n) := funext fun b => propext ⟨old b, new b⟩
        rw [e]; exact z2
      | dead => trivial
      | err c ds => obtain ⟨a, cls, dd, z1, z2, z3⟩ := ro; exact ⟨a, cls, dd, hi _ z1, z2, RX.monoV ⟨x0.ι, x0.fz⟩ z3⟩
      | tab q => obtain ⟨a, ps, z1, z2, z3, z4, z5⟩ := ro; exact ⟨a, ps, hi _ z1, new _ z2, z3, z4, z5.monoV x0.fz⟩
      | lam q cap => obtain ⟨a, c, z1, z2, z3, z4⟩ := ro; exact ⟨a, c, hi _ z1, z2, x0.fz _ _ z3, z4.monoV ⟨x0.ι, x0.fz⟩⟩
      | dkL ks vs => obtain ⟨a, od, xs, z1, z2, z4, z5, z6⟩ := ro; exact ⟨a, od, xs, hi _ z1, z2, z4, z5.mono0 x0, z6.mono0 x0⟩
      | itr ds i => obtain ⟨a, l, vs, z1, z2, z3, z4, z5⟩ := ro; exact ⟨a, l, vs, hi _ z1, new _ z2, z3, SqT.sub x0.fz z4, z5.mono0 x0⟩
    · have hn' : n = h.length := by
        have := (List.getElem?_eq_some_iff.mp q).1
        simp at this; omega
      subst hn'
      simp at q
      subst q
      refine ho _ x0 ?_ ?_ ?_
      · show (G.ι ++ [p])[h.length]? = some p
        rw [← r.len]; simp
      · show (if p = p then some G.ι.length else G.own p) = some h.length
        rw [if_pos rfl, r.len]
      · intro b z
        have z' : (if b = p then some G.ι.length else G.own b) = some h.length := z
        by_cases hb : b = p
        · exact hb
        · rw [if_neg hb] at z'
          have := (r.own b _ z').1
          omega
theorem okR.w0 {α β : Type} {K : PySem.W.Frag} {G : Gst} {σ σ' : L2.St} {rel : Gst → α → β → Prop} {x : α} {h : Hh} {Q : β → Hp → Prop} (o : ∀ G' H' v, Ext G G' → Rel K T G' h H' → rel G' x v → Q v H') : okR K T W0 G σ' rel (.ok x h) Q := o
structure LcAt (K : PySem.W.Frag) (T : Tx) (G1 : Gst) (p : Addr) (G : Gst) (acc : List D) (h : Hh) (H : Hp) : Prop where
  ι : ∃ t, G.ι = G1.ι ++ t
  fz : ∀ a o, G1.fz a = some o → G.fz a = some o
  lk : G.lk = G1.lk
  pr : ∃ avs, G.pr = upd G1.pr p (.lst avs) ∧ RDs K T G acc avs
  rel : Rel K T G h H
theorem LcAt.ext {K : PySem.W.Frag} {G1 G : Gst} {p : Addr} {acc : List D} {h : Hh} {H : Hp} (l : LcAt K T G1 p G acc h H) : Ext G1 { G with pr := G1.pr } := ⟨l.ι, l.fz, rfl, l.lk⟩
theorem LcAt.step {K : PySem.W.Frag} {G1 G G' : Gst} {p : Addr} {acc : List D} {h h' : Hh} {H H' : Hp} (l : LcAt K T G1 p G acc h H) (x : Ext G G') (r : Rel K T G' h' H') : LcAt K T G1 p G' acc h' H' := by
  obtain ⟨t, e⟩ := l.ι
  obtain ⟨u, e'⟩ := x.ι
  obtain ⟨avs, e2, d⟩ := l.pr
  exact ⟨⟨t ++ u, by rw [e', e, List.append_assoc]⟩, fun a o q => x.fz a o (l.fz a o q), x.lk.trans l.lk, ⟨avs, x.pr.trans e2, d.mono x⟩, r⟩
abbrev Sem3 := List D → Hh → R D
def sp3 (K : PySem.W.Frag) (T : Tx) (np : Nat) (sem : Sem3) : Sp := fun vs H Q E => vs.length = np ∧ ∃ G h ds, Rel K T G h H ∧ RDs K T G ds vs ∧ okR K T (fun c d _ H => E c d H) G [] (RD K T) (sem ds h) Q
def startD (n : Nat) (ds : List D) : De := ds.map some ++ List.replicate (n - ds.length) none
def endD (r : RS) : R D := match r with
  | .nx _ h => .ok .non h
  | .rt d h => .ok d h
  | .exc c ds _ h => .exc c ds h
  | _ => .stk
def runD (n : Nat) (u : FnS) : Sem3 := fun ds h => endD (u (startD n ds) h)
structure RoomG (k : Nat) (A : Around) : Prop where
  r : Room k A
  g : A.guards = some []
theorem RoomG.mono {j k : Nat} {A : Around} (x : RoomG k A) (h : j ≤ k) : RoomG j A := ⟨x.r.mono h, x.g⟩
theorem RoomG.units {k : Nat} {A : Around} (x : RoomG k A) : A.units + 64 < cLine := x.r.units
structure FnQ (P : Program) (w : World) (K : PySem.W.Frag) (mg : Str → Option Value) (base : Heap) (CX : CXT) (k : Nat) (f : Addr) (fd : FuncData) (ps : List Str) (sp : Sp) : Prop where
  size : ∀ vs H Q E, sp vs H Q E → vs.length = ps.length
  go : ∀ (A : Around) (outer : List Env) (s : Shared) (H : Hp) (args : Args) (us : List Value) (vs : List V) (Q : VK) (E : XK), RoomG k A → Env0 P w K mg base A outer s H → BindsTo s fd args (ps.zip us) → Vals vs us → sp vs H Q E →
    codeAny (model P w) A (.call (.ref f) args) (CR CX outer P w H s Q E) s
abbrev FnL (P : Program) (w : World) (K : PySem.W.Frag) (mg : Str → Option Value) (base : Heap) (T : Tx) (k : Nat) (f : Addr) (fd : FuncData) (ps : List Str) (sem : Sem3) : Prop := FnQ P w K mg base (L2.CX P w) k f fd ps (sp3 K T ps.length sem)
theorem fnQ_of {CX : CXT} {P : Program} {w : World} {K : PySem.W.Frag} {mg : Str → Option Value} {base : Heap} {k : Nat} {f : Addr} {x qual : Str} {params : Arguments} {body : List Stmt} {scope : Scope} {dvs : List V} {kws : List (Str × V)} {fd : FuncData} {N ps : List Str} {sp : Sp}
    (F : FunD K x qual params body scope dvs kws f fd) (S : FnScope N ps scope) (size : ∀ vs H Q E, sp vs H Q E → vs.length = ps.length)
    (hb : ∀ (cdv : Value) (A : Around) (outer : List Env) (s : Shared) (H : Hp) (vs : List V) (Q : VK) (E : XK), RoomG k (A.deeper (envOfC qual scope s.heap.objs.size f cdv)) → sp vs H Q E →
      ∃ t, PSs (cxOf CX P w K mg base N qual scope f cdv A outer s H E) body t ∧ t { nx := fun _ H' => Q .non H', rt := Q } (L2.start N vs) H) : FnQ P w K mg base CX (k + 1) f fd ps sp := by
  obtain ⟨oc, od, dV, kV, doc, pm, an, cdv, ct, osl, rfl, lk, hcd, _, _⟩ := F.ex
  refine ⟨size, fun A outer s H args us vs Q E room e0 bd r hsp => ?_⟩
  have many := size _ _ _ _ hsp
  have here : K.In s.heap := e0.mod.kin.keeps fun b o e => (e0.bs b o e).1
  have free : s.heap.NoLimit := e0.mod.nolimit.keeps fun b o e => (e0.bs b o e).1
  have kinds : ∀ y ∈ ps.zip us, scope.names.lookup y.1 = some .local ∨ (scope.names.lookup y.1 = some .cell ∧ ((cellsFrom (s.heap.objs.size + 1) scope.names []).lookup y.1).isSome = true) := by
    rintro ⟨n, v⟩ hy
    exact (S.par n (List.of_mem_zip hy).1).elim .inl fun q => .inr ⟨q, PySem.W.cellsFrom_some _ _ _ (.inl q)⟩
  refine codeAny_call_function room.r.depth (here _ _ lk) rfl S.co S.gen rfl (PySem.W.codeRec_of here hcd) (bd _ _ _ _ (wpAny_newFunctionEnv_cells S.kind kinds fun env he s1 z => ?_))
  cases he
  refine ⟨free.keeps z.toInCall.keep, codeAny_func ?_⟩
  obtain ⟨t, ht, ends⟩ := hb cdv A outer s H vs Q E ⟨room.r.deeper _, room.g⟩ hsp
  have J := inv_start (CX := CX) (P := P) (w := w) (mg := mg) (base := base) (qual := qual) (f := f) (cd := cdv) (E := E) S room.r.hd e0 many r z
  refine wpAny_mono (ht.run [] s1 (L2.start N vs) H _ J ends) (fun fl s' q => ?_) fun e s' q => q
  match fl, q with
  | .ret u, ⟨v, σ', H', J', rv, q⟩ => exact (⟨v, H', J'.os, J'.bare, J'.base, J'.hok, rv, q⟩ : CE outer P w H s Q u s')
  | .next, ⟨σ', H', J', q⟩ => exact (⟨V.non, H', J'.os, J'.bare, J'.base, J'.hok, rfl, q⟩ : CE outer P w H s Q Value.none s')
  | .brk, ⟨_, _, _, q⟩ => exact q.elim
  | .cont, ⟨_, _, _, q⟩ => exact q.elim
theorem runG {X : Cx} {CX : CXT} {k : Nat} {f : Addr} {fd : FuncData} {ps : List Str} {sp : Sp} {ds : List Value} {dvs : List V} {E : L2.St → XK} {pins : List (Addr × Obj)} {σ : L2.St} {H : Hp} {s : Shared} {Q : VK} {us : List Value} {vs : List V} (F : FnQ X.prog X.w X.K X.mg X.base CX k f fd ps sp) (hr : RoomG k X.A) (bd : Binds X.K fd ps ds) (hd : Vals dvs ds)
    (hx : PassesAt CX X σ (E σ)) (I : Inv X pins σ H s) (r : Vals vs us) (h : sp (vs ++ dvs) H Q (E σ)) : wpAny (model X.prog X.w) X.A (call (.ref f) us) (EP X pins σ Q) X.xe s := by
  have all := r.append hd
  refine wpAny_call (codeAny_mono (F.go X.A X.stack s H ⟨us, []⟩ (us ++ ds) (vs ++ dvs) Q (E σ) hr I.env0 (bd s us I.kIn ?_) all h) fun res s' q => ?_)
  · rw [← all.length]; exact F.size _ _ _ _ h
  · match res, q with
    | .error e, q => exact hx pins H s e s' I q
    | .ok (.ret u), q => exact I.after q
    | .ok .next, q => exact q.elim
    | .ok .brk, q => exact q.elim
    | .ok .cont, q => exact q.elim
theorem RSl.start {K : PySem.W.Frag} {G : Gst} {ds : List D} {vs : List V} (r : RDs K T G ds vs) (N : List Str) : RSl K T G (startD N.length ds) (L2.start N vs) := by
  refine ⟨?_, fun i d e => ?_⟩
  · unfold startD L2.start
    simp [r.length]
  · unfold startD at e
    by_cases hi : i < ds.length
    · rw [List.getElem?_append_left (by simpa using hi), List.getElem?_map] at e
      obtain ⟨d', e1, e2⟩ := Option.map_eq_some_iff.mp e
      cases e2
      obtain ⟨v, ev, dv⟩ := r.get e1
      refine ⟨v, ?_, dv⟩
      unfold L2.start
      rw [List.getElem?_append_left (by simpa [r.length] using (List.getElem?_eq_some_iff.mp ev).1), List.getElem?_map, ev]
      rfl
    · rw [List.getElem?_append_right (by simpa using hi), List.getElem?_replicate] at e
      split at e <;> cases e
theorem def_read {K : PySem.W.Frag} {N : List Str} {np : Nat} {u : FnS} {vs : List V} {H : Hp} {Q : VK} {E : XK} (h : sp3 K T np (runD N.length u) vs H Q E) :
    tS K T (fun c d _ H => E c d H) u { nx := fun _ H' => Q .non H', rt := Q } (L2.start N vs) H := by
  obtain ⟨_, G, h0, ds, r, rd, o⟩ := h
  refine ⟨G, h0, startD N.length ds, r, RSl.start rd N, ?_⟩
  unfold runD at o
  cases e : u (startD N.length ds) h0 with
  | nx δ h' => rw [e] at o; exact fun G' H' σ' x r' _ => o G' H' .non x r' .non
  | rt d h' => rw [e] at o; exact o
  | bk δ h' => rw [e] at o; exact o.elim
  | ct δ h' => rw [e] at o; exact o.elim
  | exc c ds δ h' => rw [e] at o; exact fun G' H' σ' cls dd x r' _ z => o G' H' cls dd x r' z
  | stk => rw [e] at o; exact o.elim
def kCall (np : Nat) (sem : Sem3) (dds : List D) (ds : List D) (h1 : Hh) : R D := if (ds ++ dds).length = np then sem (ds ++ dds) h1 else .stk
def eCall (np : Nat) (sem : Sem3) (fa : FnA) (dds : List D) : FnE := fun δ h => (fa δ h).bind (kCall np sem dds)
structure Dfl (K : PySem.W.Frag) (T : Tx) (dds : List D) (dvs : List V) (us : List Value) : Prop where
  rel : ∀ G, RDs K T G dds dvs
  val : Vals dvs us
theorem Dfl.nil {K : PySem.W.Frag} : Dfl K T [] [] [] := ⟨fun _ => .nil, .nil⟩
theorem Dfl.cons {K : PySem.W.Frag} {d : D} {v : V} {u : Value} {dds : List D} {dvs : List V} {us : List Value} (h : Cst K T d v) (r : RelV v u) (t : Dfl K T dds dvs us) : Dfl K T (d :: dds) (v :: dvs) (u :: us) := ⟨fun G => .cons (h G) (t.rel G), .cons r t.val⟩
theorem sp3_of {K : PySem.W.Frag} {np : Nat} {sem : Sem3} {G : Gst} {h : Hh} {H : Hp} {ds dds : List D} {vs dvs : List V} {us : List Value} {Q : VK} {σ : L2.St} (D0 : Dfl K T dds dvs us) (r : Rel K T G h H) (d : RDs K T G ds vs) (o : okR K T W G σ (RD K T) (kCall np sem dds ds h) Q) : sp3 K T np sem (vs ++ dvs) H Q (WE W σ) := by
  unfold kCall at o
  have dd := d.append (D0.rel G)
  by_cases hl : (ds ++ dds).length = np
  · rw [if_pos hl] at o
    refine ⟨by rw [← dd.length]; exact hl, G, h, ds ++ dds, r, dd, ?_⟩
    cases e : sem (ds ++ dds) h with
    | ok y hh => rw [e] at o; exact o
    | exc c es hh => rw [e] at o; exact o
    | stk => rw [e] at o; exact o.elim
  · rw [if_neg hl] at o; exact o.elim
theorem fe_call {np : Nat} {x : Str} {p : Pos} {e : Expr} {es : List Expr} {k : Nat} {f : Addr} {fd : FuncData} {ps : List Str} {sem : Sem3} {fa : FnA} {dds : List D} {dvs : List V} {us : List Value} (tk : Takes X W) (F : FnL X.prog X.w X.K X.mg X.base T k f fd ps sem) (hr : RoomG k X.A) (hg : Gl X x) (hm : X.mg x = some (.ref f)) (hk : PySem.W.keepIn X.K (.ref f) = true)
    (hb : Binds X.K fd ps us) (D0 : Dfl X.K T dds dvs us) (ha : FA X T W (e :: es) fa) (hdb : (x == ("__debug__" : Str)) = false := by decide) (he : starEach (e :: es) X.env = (false, eval e X.env) :: starEach es X.env := by rfl) (hpl : (backTo pos (starEach es X.env)).any (·.1) = false := by rfl)  (hnp : ps.length = np := by rfl) :
    FE X T W (.Call (.Name x p) (e :: es) [] pos) (eCall np sem fa dds) := by
  subst hnp
  refine ⟨fun pins s σ H Q I h => ?_⟩
  have h' : tA X.K T W fa σ H fun vs H1 => sp3 X.K T ps.length sem (vs ++ dvs) H1 Q (WE W σ) :=
    tF.bind (k := fun _ => kCall ps.length sem dds) h fun G δ ds vs h1 H1 r1 s1 d1 o1 => sp3_of D0 r1 d1 o1
  refine wpAny_Call_Name_kw (ld_glob I hg hm (PySem.W.callWith_K (h₀ := X.base) I.ok.mod.kin hk (thn (ha.run pos pins s σ H _ I h') fun us s1 ⟨vs, H1, I1, r, q⟩ => ⟨I1.kIn, ?_⟩) he hpl) hdb)
  exact runG (E := WE W) F hr hb D0.val (passAt tk σ) I1 r q
structure MethOk (X : Cx) (T : Tx) (c : Nat) (C : Addr) (m : Str) (f : Addr) : Prop where
  cls : ∃ nm, T.cls c = some (C, nm) ∧ m ∉ nm
  cl : Cls X.K C
  meth : Meth X.K C m f
def clsOf (h : Hh) : D → Option Nat
  | .obj c _ => some c
  | .ref n => match h[n]? with
    | some (.obj c _) => some c
    | _ => none
  | _ => none
theorem clsOf_ok {K : PySem.W.Frag} {G : Gst} {h : Hh} {H : Hp} {d : D} {v : V} {c : Nat} (r : Rel K T G h H) (d1 : RD K T G d v) (e : clsOf h d = some c) : ∃ a C dx nm fs, v = .ref a ∧ H a = some (.ins C dx fs) ∧ T.cls c = some (C, nm) ∧ ∀ g ∈ fs.map (·.1), g ∈ nm := by
  cases d1 with
  | @obj c' ds a C dx nm fs h1 hc hn q => cases e; exact ⟨a, C, dx, nm, fs, rfl, r.sub _ _ h1, hc, fun g hg => by rw [← hn]; exact hg⟩
  | @ref n a h1 =>
    unfold clsOf at e
    dsimp only at e
    cases q : h[n]? with
    | none => rw [q] at e; cases e
    | some o =>
      rw [q] at e
      cases o with
      | obj c' ds =>
        cases e
        obtain ⟨a', C, dx, nm, fs, e1, e2, e3, e4, e5, e6⟩ := r.obj n _ q
        rw [h1] at e1; cases e1
        exact ⟨a, C, dx, nm, fs, rfl, e3, e4, fun g hg => by rw [e5] at hg; exact List.mem_of_mem_take hg⟩
      | _ => cases e
  | _ => cases e
theorem look_none {f : Str} : ∀ {fs : List (Str × V)}, f ∉ fs.map (·.1) → fs.lookup f = none
  | [], _ => rfl
  | (g, y) :: r, h => by
    have h' : ¬ f = g ∧ f ∉ r.map (·.1) := by simpa using h
    have b : (f == g) = false := beq_eq_false_iff_ne.mpr h'.1
    simp only [List.lookup, b]
    exact look_none h'.2
def kMeth (c : Nat) (np : Nat) (sem : Sem3) (fa : FnA) (dds : List D) (δ : De) (x : D) (h1 : Hh) : R D := if clsOf h1 x = some c then (fa δ h1).bind fun ds h2 => kCall np sem dds (x :: ds) h2 else .stk
def eMeth (c : Nat) (np : Nat) (sem : Sem3) (fo : FnE) (fa : FnA) (dds : List D) : FnE := fun δ h => (fo δ h).bind (kMeth c np sem fa dds δ)
theorem fe_meth {np : Nat} {c : Nat} {C : Addr} {m : Str} {o e : Expr} {es : List Expr} {apos : Pos} {k : Nat} {f : Addr} {fd : FuncData} {ps : List Str} {sem : Sem3} {fo : FnE} {fa : FnA} {dds : List D} {dvs : List V} {us : List Value} {pl : Sem Bool} (tk : Takes X W) (M : MethOk X T c C m f) (F : FnL X.prog X.w X.K X.mg X.base T k f fd ps sem) (hr : RoomG k X.A)
    (hb : Binds X.K fd ps us) (D0 : Dfl X.K T dds dvs us) (ho : FE X T W o fo) (ha : FA X T W (e :: es) fa)
    (hst : starEach (e :: es) X.env = (false, eval e X.env) :: starEach es X.env := by rfl) (hpl : (backTo pos (starEach es X.env)).any (·.1) = false := by rfl)
    (ht : eval (.Call (.Attribute o m apos) (e :: es) [] pos) X.env = (do
      let ov ← eval o X.env
      standAt apos.atName
      let (f, first) ← holding [ov] (getMethod ov m pl)
      callWith pos f first (backTo pos (starEach (e :: es) X.env)) (backToKw pos (keywordEach [] X.env))) := by rfl)  (hnp : ps.length = np := by rfl) :
    FE X T W (.Call (.Attribute o m apos) (e :: es) [] pos) (eMeth c np sem fo fa dds) := by
  subst hnp
  refine ⟨fun pins s σ H Q I h => ?_⟩
  obtain ⟨nm, hcl, hnm⟩ := M.cls
  have h' : tE X.K T W fo σ H fun x H1 => ∃ a dx fs, x = .ref a ∧ H1 a = some (.ins C dx fs) ∧ fs.lookup m = none ∧ tA X.K T W fa σ H1 fun vs H2 => sp3 X.K T ps.length sem (x :: (vs ++ dvs)) H2 Q (WE W σ) := by
    obtain ⟨G, h0, δ, r, s', oo⟩ := h
    refine ⟨G, h0, δ, r, s', (okR.bind (rel := RD X.K T) oo).mono ?_⟩
    rintro v H1 ⟨G1, x, h1, e1, r1, d1, o1⟩
    unfold kMeth at o1
    by_cases hc : clsOf h1 x = some c
    · rw [if_pos hc] at o1
      obtain ⟨a, C', dx, nm', fs, rfl, q1, q2, q3⟩ := clsOf_ok r1 d1 hc
      rw [hcl] at q2; cases q2
      refine ⟨a, dx, fs, rfl, q1, look_none fun z => hnm (q3 _ z), G1, h1, δ, r1, s'.mono e1, (okR.bind (rel := RDs X.K T) o1).mono ?_⟩
      rintro vs H2 ⟨G2, ds, h2, e2, r2, d2, o2⟩
      exact sp3_of (ds := x :: ds) (vs := .ref a :: vs) D0 r2 (.cons (d1.mono e2) d2) o2
    · rw [if_neg hc] at o1; exact o1.elim
  refine PySem.W.methodCall_KW (pl := pl) (thn (ho.run pins s σ H _ I h') fun u s1 ⟨x, H1, I1, rx, a, dx, fs, ex, ea, l, q⟩ => ?_) ht
  subst ex
  obtain rfl : u = Value.ref a := rx
  refine getmeth_ok I1 ea M.cl M.meth l ?_
  refine PySem.W.callWith_K (first := [.ref a]) (h₀ := X.base) I.ok.mod.kin M.meth.kp (thn (ha.run pos pins s1 σ H1 _ I1 q) fun us s2 ⟨vs, H2, I2, r, q2⟩ => ⟨I2.kIn, ?_⟩) hst hpl
  exact runG (us := .ref a :: us) (vs := .ref a :: vs) (E := WE W) F hr hb D0.val (passAt tk σ) I2 (.cons rfl r) q2
end
end L3
set_option autoImplicit false
set_option maxHeartbeats 4000000
namespace L3
open PySem PySem.Spec L2
section
variable {X : Cx} {T : Tx} {W : WX} {pos : Pos}
theorem Rel.freeze {K : PySem.W.Frag} {G : Gst} {h : Hh} {H : Hp} (r : Rel K T G h H) {n : Nat} {a : Addr} {o : HO} (hn : n < h.length) (ha : G.own a = some n) (hH : H a = some o) :
    Rel K T { G with own := fun b => if b = a then none else G.own b, fz := upd G.fz a o } (h.set n .dead) H ∧ Ext G { G with own := fun b => if b = a then none else G.own b, fz := upd G.fz a o } := by
  obtain ⟨_, f0, _⟩ := r.own a n ha
  have fzm : ∀ b u, G.fz b = some u → upd G.fz a o b = some u := fun b u z => by
    have nb : b ≠ a := fun y => by rw [y, f0] at z; cases z
    rw [upd_ne nb]; exact z
  have x : Ext G { G with own := fun b => if b = a then none else G.own b, fz := upd G.fz a o } := ⟨⟨[], by simp⟩, fzm, rfl, rfl⟩
  refine ⟨⟨by simpa using r.len, fun b v q => ?_, fun b m q => ?_, fun b v q => ?_, fun b v q => ?_, fun m v q => ?_⟩, x⟩
  · have q' : upd G.fz a o b = some v := q
    by_cases hb : b = a
    · subst hb; rw [upd_same] at q'; cases q'; exact hH
    · rw [upd_ne hb] at q'; exact r.sub b v q'
  · have q' : (if b = a then none else G.own b) = some m := q
    by_cases hb : b = a
    · rw [if_pos hb] at q'; cases q'
    · rw [if_neg hb] at q'
      obtain ⟨h1, h2, h3⟩ := r.own b m q'
      exact ⟨by simpa using h1, by show upd G.fz a o b = none; rw [upd_ne hb]; exact h2, h3⟩
  · obtain ⟨h1, h2, h3, h4⟩ := r.pr b v q
    have nb : b ≠ a := fun y => by rw [y, ha] at h3; cases h3
    exact ⟨h1, by show upd G.fz a o b = none; rw [upd_ne nb]; exact h2, by show (if b = a then none else G.own b) = none; rw [if_neg nb]; exact h3, h4⟩
  · obtain ⟨h1, h2, h3⟩ := r.lk b v q
    have nb : b ≠ a := fun y => by rw [y, ha] at h3; cases h3
    exact ⟨h1, by show upd G.fz a o b = none; rw [upd_ne nb]; exact h2, by show (if b = a then none else G.own b) = none; rw [if_neg nb]; exact h3⟩
  · by_cases hm : m = n
    · subst hm
      rw [List.getElem?_set_self hn] at q
      cases q
      trivial
    · rw [List.getElem?_set_ne (Ne.symm hm)] at q
      have keep : ∀ b, G.own b = some m → b ≠ a := fun b z y => by rw [y, ha] at z; cases z; exact hm rfl
      refine (r.obj m v q).stay x (fun b z => ?_) (fun b z => rfl) (fun b z => ?_)
      · show (if b = a then none else G.own b) = some m
        rw [if_neg (keep b z)]; exact z
      · have z' : (if b = a then none else G.own b) = some m := z
        by_cases hb : b = a
        · rw [if_pos hb] at z'; cases z'
        · rw [if_neg hb] at z'; exact z'
structure MakeOk (X : Cx) (T : Tx) (c : Nat) (C : Addr) (f : Addr) (na : Nat) : Prop where
  cls : ∃ nm, T.cls c = some (C, nm) ∧ nm.length = na
  make : Mk X.K C f
def endMake (c na n : Nat) (r : R D) : R D := match r with
  | .ok .non h2 => match h2[n]? with
    | some (.obj c' es) => if c' = c ∧ es.length = na then .ok (.obj c es) (h2.set n .dead) else .stk
    | _ => .stk
  | .exc c ds h => .exc c ds h
  | _ => .stk
def kMake (c na np : Nat) (sem : Sem3) (dds ds : List D) (h1 : Hh) : R D := if (D.ref h1.length :: (ds ++ dds)).length = np then
  endMake c na h1.length (sem (.ref h1.length :: (ds ++ dds)) (h1 ++ [.obj c []])) else .stk
def eMake (c na np : Nat) (sem : Sem3) (fa : FnA) (dds : List D) : FnE := fun δ h => (fa δ h).bind (kMake c na np sem dds)
theorem Rel.track {K : PySem.W.Frag} {G : Gst} {h : Hh} {H : Hp} (r : Rel K T G h H) {p : Addr} {o : HO} (hp : H p = none) : Rel K T G h (upd H p o) := by
  have nown : ∀ b n, G.own b = some n → b ≠ p := fun b n q z => (r.own b n q).2.2 (by rw [z]; exact hp)
  refine ⟨r.len, fun a u q => ?_, fun a n q => ?_, fun a u q => ?_, fun a u q => ?_, fun n u q => ?_⟩
  · have := r.sub a u q
    rw [upd_ne (ne_of_none this hp)]; exact this
  · obtain ⟨h1, h2, h3⟩ := r.own a n q
    exact ⟨h1, h2, by rw [upd_ne (nown a n q)]; exact h3⟩
  · obtain ⟨h1, h2, h3⟩ := r.pr a u q
    exact ⟨by rw [upd_ne (ne_of_none h1 hp)]; exact h1, h2, h3⟩
  · obtain ⟨h1, h2, h3⟩ := r.lk a u q
    exact ⟨by rw [upd_ne (ne_of_none h1 hp)]; exact h1, h2, h3⟩
  · exact (r.obj n u q).ghost G rfl (fun _ _ e => e) rfl fun b e => upd_ne (nown b n e)
theorem make_read {c na np : Nat} {C : Addr} {sem : Sem3} {nm : List Str} {dds ds : List D} {dvs vs : List V} {us : List Value} {G1 : Gst} {h1 : Hh} {H1 : Hp} {σ : L2.St} {Q : VK} {K : PySem.W.Frag} (hc : T.cls c = some (C, nm)) (hna : nm.length = na) (D0 : Dfl K T dds dvs us)
    (r1 : Rel K T G1 h1 H1) (d1 : RDs K T G1 ds vs) (o : okR K T W G1 σ (RD K T) (kMake c na np sem dds ds h1) Q) (x dx : Addr) (hx : H1 x = none) (hdx : H1 dx = none) (ne : dx ≠ x) :
    sp3 K T np sem (.ref x :: (vs ++ dvs)) (upd (upd H1 dx (.own x)) x (.ins C dx [])) (fun v H2 => v = .non ∧ Q (.ref x) H2) (WE W σ) := by
  unfold kMake at o
  by_cases hl : (D.ref h1.length :: (ds ++ dds)).length = np
  · rw [if_pos hl] at o
    have r2 := r1.track (o := .own x) hdx
    have hx2 : upd H1 dx (.own x) x = none := by rw [upd_ne (Ne.symm ne)]; exact hx
    obtain ⟨x3, r3⟩ := r2.newO (o := .ins C dx []) (u := .obj c []) hx2 fun G' _ hi ho _ => ⟨x, C, dx, nm, [], hi, ho, upd_same, hc, by simp, .nil⟩
    have hix : (G1.new x).ι[h1.length]? = some x := by
      show (G1.ι ++ [x])[h1.length]? = some x
      rw [← r1.len]; simp
    have dd : RDs K T (G1.new x) (D.ref h1.length :: (ds ++ dds)) (V.ref x :: (vs ++ dvs)) := .cons (.ref hix) ((d1.mono x3).append (D0.rel _))
    refine ⟨by rw [← dd.length]; exact hl, G1.new x, _, _, r3, dd, ?_⟩
    cases e : sem (D.ref h1.length :: (ds ++ dds)) (h1 ++ [.obj c []]) with
    | stk => rw [e] at o; exact o.elim
    | exc c' es h' => rw [e] at o; exact okR.ext (W := W) (rel := RD K T) (σ := σ) (r := .exc c' es h') x3 o
    | ok y h2 =>
      rw [e] at o
      unfold endMake at o
      cases y with
      | non =>
        dsimp only at o
        intro G' H' v x4 r4 dv
        cases dv
        refine ⟨rfl, ?_⟩
        cases q : h2[h1.length]? with
        | none => rw [q] at o; exact o.elim
        | some ob =>
          rw [q] at o
          cases ob with
          | obj c' es =>
            dsimp only at o
            by_cases hce : c' = c ∧ es.length = na
            · rw [if_pos hce] at o
              obtain ⟨rfl, hlen⟩ := hce
              obtain ⟨a, C', dx', nm', fs, z1, z2, z3, z4, z5, z6⟩ := r4.obj _ _ q
              rw [hc] at z4; cases z4
              obtain ⟨tt, ht⟩ := x4.ι
              have hax : a = x := by
                have h0 : h1.length < (G1.new x).ι.length := (List.getElem?_eq_some_iff.mp hix).1
                rw [ht, List.getElem?_append_left h0, hix] at z1
                cases z1; rfl
              subst hax
              have hn : h1.length < h2.length := (List.getElem?_eq_some_iff.mp q).1
              obtain ⟨r5, x5⟩ := r4.freeze hn z2 z3
              refine o _ H' (.ref a) (x3.trans (x4.trans x5)) r5 (.obj (C := C) (dx := dx') (nm := nm) (fs := fs) upd_same hc ?_ (z6.mono x5))
              rw [z5, hlen, ← hna, List.take_length]
            · rw [if_neg hce] at o; exact o.elim
          | _ => exact o.elim
      | _ => exact o.elim
  · rw [if_neg hl] at o; exact o.elim
theorem underG {A : Around} {C : Addr} {us : List Value} {kw : List (Str × Value)} (h : A.guards = some []) : (A.under (.builtin "type.__call__" ⟨.ref C :: us, kw⟩)).guards = some [] := by
  have e : (Code.builtin "type.__call__" ⟨.ref C :: us, kw⟩).guards = [] := rfl
  show pushGuards (Code.builtin "type.__call__" ⟨.ref C :: us, kw⟩).guards A.guards = some []
  rw [e, h]; rfl
theorem run_makeS {CX : CXT} {C f : Addr} {k : Nat} {fd : FuncData} {ps : List Str} {sp : Sp} {ds : List Value} {dvs : List V} {E : XK} {pins : List (Addr × Obj)} {σ : L2.St} {H : Hp} {s : Shared} {Q : VK} {us : List Value} {vs : List V} (M : Mk X.K C f) (F : FnQ X.prog X.w X.K X.mg X.base CX k f fd ps sp) (hr : RoomG (k + 1) X.A) (hb : Binds X.K fd ps ds) (hd : Vals dvs ds)
    (hx : PassesAt CX X σ E) (I : Inv X pins σ H s) (r : Vals vs us)
    (h : ∀ x dx, H x = none → H dx = none → dx ≠ x → sp (.ref x :: (vs ++ dvs)) (upd (upd H dx (.own x)) x (.ins C dx [])) (fun v H2 => v = .non ∧ Q (.ref x) H2) E) :
    wpAny (model X.prog X.w) X.A (call (.ref C) us) (EP X pins σ Q) X.xe s := by
  have go_ := h (s.heap.objs.size + 1) s.heap.objs.size (I.hok.fresh (Nat.le_succ _)) (I.hok.fresh (Nat.le_refl _)) (Nat.ne_of_lt (Nat.lt_succ_self _))
  have J := Inv.made (C := C) I
  have args : Vals (V.ref (s.heap.objs.size + 1) :: (vs ++ dvs)) (Value.ref (s.heap.objs.size + 1) :: (us ++ ds)) := .cons rfl (r.append hd)
  have many : (Value.ref (s.heap.objs.size + 1) :: us ++ ds).length = ps.length := by
    have e := args.length
    rw [F.size _ _ _ _ go_] at e
    exact e.symm
  refine wpAny_call (make_map (f := f) I.kIn M.makes M.init (beq_iff_eq.mp M.fn) (codeAny_mono (F.go _ X.stack _ _ ⟨Value.ref (s.heap.objs.size + 1) :: us, []⟩ (Value.ref (s.heap.objs.size + 1) :: (us ++ ds)) _ _ E ⟨hr.r.make C us [], underG hr.g⟩
    (J.env0.make C us []) (hb _ (Value.ref (s.heap.objs.size + 1) :: us) J.kIn many) args go_) fun r s' end_ => ?_))
  cases r with
  | error e => exact hx pins _ _ e s' J end_
  | ok fw =>
    cases fw with
    | ret u =>
      obtain ⟨v, H', J3, rel_, same_, fin_⟩ := J.after end_
      subst same_
      exact ⟨rel_, ⟨V.ref (s.heap.objs.size + 1), H', J3, rfl, fin_⟩⟩
    | next => exact False.elim end_
    | brk => exact False.elim end_
    | cont => exact False.elim end_
theorem fe_make {np : Nat} {x : Str} {p : Pos} {c na : Nat} {C f : Addr} {e : Expr} {es : List Expr} {k : Nat} {fd : FuncData} {ps : List Str} {sem : Sem3} {fa : FnA} {dds : List D} {dvs : List V} {us : List Value} (tk : Takes X W) (M : MakeOk X T c C f na) (F : FnL X.prog X.w X.K X.mg X.base T k f fd ps sem) (hr : RoomG (k + 1) X.A) (hg : Gl X x) (hm : X.mg x = some (.ref C))
    (hb : Binds X.K fd ps us) (D0 : Dfl X.K T dds dvs us) (ha : FA X T W (e :: es) fa) (hdb : (x == ("__debug__" : Str)) = false := by decide) (he : starEach (e :: es) X.env = (false, eval e X.env) :: starEach es X.env := by rfl) (hpl : (backTo pos (starEach es X.env)).any (·.1) = false := by rfl)  (hnp : ps.length = np := by rfl) :
    FE X T W (.Call (.Name x p) (e :: es) [] pos) (eMake c na np sem fa dds) := by
  subst hnp
  obtain ⟨nm, hc, hna⟩ := M.cls
  refine ⟨fun pins s σ H Q I h => ?_⟩
  refine wpAny_Call_Name_kw (ld_glob I hg hm ?_ hdb)
  have h' : tA X.K T W fa σ H fun vs H1 => ∀ x dx, H1 x = none → H1 dx = none → dx ≠ x → sp3 X.K T ps.length sem (.ref x :: (vs ++ dvs)) (upd (upd H1 dx (.own x)) x (.ins C dx [])) (fun v H2 => v = .non ∧ Q (.ref x) H2) (WE W σ) :=
    tF.bind (k := fun _ => kMake c na ps.length sem dds) h fun G δ ds vs h1 H1 r1 s1 d1 o1 x dx => make_read hc hna D0 r1 d1 o1 x dx
  refine PySem.W.callWith_K (h₀ := X.base) I.ok.mod.kin M.make.kp (thn (ha.run pos pins s σ H _ I h') fun us s1 ⟨vs, H1, I1, r, q⟩ => ⟨I1.kIn, ?_⟩) he hpl
  exact run_makeS M.make F hr hb D0.val (passAt tk σ) I1 r q
def noX (r : R D) : R D := match r with
  | .ok d h => .ok d h
  | _ => .stk
def kProp (c np : Nat) (sem : Sem3) (x : D) (h : Hh) : R D := if clsOf h x = some c ∧ np = 1 then noX (sem [x] h) else .stk
def eProp (c np : Nat) (sem : Sem3) (fo : FnE) : FnE := fun δ h => (fo δ h).bind (kProp c np sem)
abbrev FB := List D → Hh → R D
def CallS (X : Cx) (T : Tx) (rd : List V → Hp → VK → Prop) (g : FB) : Prop := ∀ (W : WX) G h H σ ds vs Q, Rel X.K T G h H → RDs X.K T G ds vs → okR X.K T W G σ (RD X.K T) (g ds h) Q → rd vs H Q
def eB (g : FB) (fa : FnA) : FnE := fun δ h => (fa δ h).bind g
theorem fe_b {x : Str} {p : Pos} {e : Expr} {es : List Expr} {id : String} {rd : List V → Hp → VK → Prop} {g : FB} {fa : FnA} (hc : CallR X (.builtin id) rd) (hs : CallS X T rd g) (hg : Gl X x) (hm : X.mg x = none) (hv : bootBuiltins x = some (.builtin id)) (ha : FA X T W (e :: es) fa) (hn : x ≠ "__name__" := by decide) (hdb : (x == ("__debug__" : Str)) = false := by decide)
    (he : starEach (e :: es) X.env = (false, eval e X.env) :: starEach es X.env := by rfl) (hpl : (backTo pos (starEach es X.env)).any (·.1) = false := by rfl) : FE X T W (.Call (.Name x p) (e :: es) [] pos) (eB g fa) := by
  refine PE.imp (pe_callB hc hg hm hv ha hn hdb he hpl) fun σ H Q h => ?_
  exact tF.bind (k := fun _ => g) h fun G δ ds vs h1 H1 r1 s1 d1 o1 => hs W G h1 H1 σ ds vs Q r1 d1 o1
theorem fe_bt {x : Str} {p : Pos} {e : Expr} {es : List Expr} {id : String} {rd : List V → Hp → VK → Prop} {g : FB} {fa : FnA} (hc : CallR X (.type id) rd) (hs : CallS X T rd g) (hg : Gl X x) (hm : X.mg x = none) (hv : bootBuiltins x = some (.type id)) (ha : FA X T W (e :: es) fa) (hn : x ≠ "__name__" := by decide) (hdb : (x == ("__debug__" : Str)) = false := by decide)
    (he : starEach (e :: es) X.env = (false, eval e X.env) :: starEach es X.env := by rfl) (hpl : (backTo pos (starEach es X.env)).any (·.1) = false := by rfl) : FE X T W (.Call (.Name x p) (e :: es) [] pos) (eB g fa) := by
  refine PE.imp (pe_callTy hc hg hm hv ha hn hdb he hpl) fun σ H Q h => ?_
  exact tF.bind (k := fun _ => g) h fun G δ ds vs h1 H1 r1 s1 d1 o1 => hs W G h1 H1 σ ds vs Q r1 d1 o1
def one (g : D → Hh → R D) : FB := fun ds h => match ds with
  | [x] => g x h
  | _ => .stk
def lenD (x : D) (h : Hh) : R D := match x with
  | .tup xs => .ok (.int xs.length) h
  | .scr xs => .ok (.int xs.length) h
  | .str x => if lineOk x.length = true then .ok (.int x.length) h else .stk
  | x => match asL h x with
    | some xs => .ok (.int xs.length) h
    | none => .stk
abbrev lenB : FB := one lenD
def rLenA (K : PySem.W.Frag) : List V → Hp → VK → Prop := fun xs H Q => ∃ x n, xs = [x] ∧ LenV K x H n ∧ Q (.int n) H
theorem cs_len : CallS X T (rLenA X.K) lenB := by
  intro W G h H σ ds vs Q r d o
  match ds, vs, d with
  | [], _, _ => exact o.elim
  | _ :: _ :: _, _, _ => exact o.elim
  | [x], [v], .cons d1 .nil =>
    have lists : (match asL h x with
      | some xs => R.ok (.int xs.length) h
      | none => .stk) = lenB [x] h → rLenA X.K [v] H Q := fun e => by
      rw [← e] at o
      cases ex : asL h x with
      | none => rw [ex] at o; exact o.elim
      | some xs =>
        rw [ex] at o
        obtain ⟨a, ws, rfl, h1, q1⟩ := asL_ok r d1 ex
        exact ⟨_, ws.length, rfl, .inl ⟨ws, .inl (.inl h1), rfl⟩, by rw [← q1.length]; exact o.at r .int⟩
    cases d1 with
    | @tup xs a ws h1 q1 => exact ⟨_, ws.length, rfl, .inr ⟨ws, SqT.sub r.sub h1, rfl⟩, by rw [← q1.length]; exact o.at r .int⟩
    | @scr xs a ws h1 q1 => exact ⟨_, ws.length, rfl, .inl ⟨ws, SqL.sub r.sub h1, rfl⟩, by rw [← q1.length]; exact o.at r .int⟩
    | @str x =>
      have o : okR X.K T W G σ (RD X.K T) (if lineOk x.length = true then R.ok (.int x.length) h else .stk) Q := o
      by_cases hl : lineOk x.length = true
      · rw [if_pos hl] at o
        refine ⟨_, x.length, rfl, ⟨?_, ?_⟩, o.at r .int⟩
        · show x.toArray.size ≤ sizeLine
          simpa using lineOk_le hl
        · show x.length = x.toArray.size
          simp
      · rw [if_neg hl] at o; exact o.elim
    | _ => first | exact lists rfl | exact o.elim
def tupleD (x : D) (h : Hh) : R D := match x with
  | .tup xs => .ok (.tup xs) h
  | x => match asL h x with
    | some xs => .ok (.tup xs) h
    | none => .stk
abbrev tupleB : FB := one tupleD
def rTupA (K : PySem.W.Frag) : List V → Hp → VK → Prop := fun xs H Q => ∃ p ys, xs = [.ref p] ∧ ((SqL K H p ys ∧ ∀ l, H l = none → Q (.ref l) (upd H l (.tup ys))) ∨ (SqT K H p ys ∧ Q (.ref p) H))
theorem cs_tuple : CallS X T (rTupA X.K) tupleB := by
  intro W G h H σ ds vs Q r d o
  match ds, vs, d with
  | [], _, _ => exact o.elim
  | _ :: _ :: _, _, _ => exact o.elim
  | [x], [v], .cons d1 .nil =>
    have lists : (match asL h x with
      | some xs => R.ok (.tup xs) h
      | none => .stk) = tupleB [x] h → rTupA X.K [v] H Q := fun e => by
      rw [← e] at o
      cases ex : asL h x with
      | none => rw [ex] at o; exact o.elim
      | some xs =>
        rw [ex] at o
        obtain ⟨a, ws, rfl, h1, q1⟩ := asL_ok r d1 ex
        exact ⟨a, ws, rfl, .inl ⟨.inl (.inl h1), fun l hl => newTup r q1 hl o⟩⟩
    cases d1 with
    | @tup xs a ws h1 q1 n1 => exact ⟨a, ws, rfl, .inr ⟨SqT.sub r.sub h1, o.at r (.tup h1 q1 n1)⟩⟩
    | _ => first | exact lists rfl | exact o.elim
def asSeq (h : Hh) : D → Option (List D)
  | .tup ds => some ds
  | .scr ds => some ds
  | x => asL h x
def listMB : FB := fun ds h => match ds with
  | [x] => match asSeq h x with
    | some xs => .ok (.ref h.length) (h ++ [.lst xs])
    | none => .stk
  | _ => .stk
def rListA (K : PySem.W.Frag) : List V → Hp → VK → Prop := fun xs H Q => ∃ p ys, xs = [.ref p] ∧ (SqL K H p ys ∨ SqT K H p ys) ∧ ∀ l, H l = none → Q (.ref l) (upd H l (.lst ys))
theorem asSeq_ok {K : PySem.W.Frag} {G : Gst} {h : Hh} {H : Hp} {d : D} {v : V} {ds : List D} (r : Rel K T G h H) (d1 : RD K T G d v) (e : asSeq h d = some ds) : ∃ a vs, v = .ref a ∧ (SqL K H a vs ∨ SqT K H a vs) ∧ RDs K T G ds vs := by
  cases d1 with
  | tup h1 q => cases e; exact ⟨_, _, rfl, .inr (SqT.sub r.sub h1), q⟩
  | scr h1 q => cases e; exact ⟨_, _, rfl, .inl (SqL.sub r.sub h1), q⟩
  | lst h1 q => cases e; exact ⟨_, _, rfl, .inl (.inl (.inl (r.sub _ _ h1))), q⟩
  | ref h1 =>
    obtain ⟨a, vs, ev, h2, q⟩ := asL_ok r (.ref h1) (show asL h (.ref _) = some ds from e)
    exact ⟨a, vs, ev, .inl (.inl (.inl h2)), q⟩
  | _ => cases e
theorem cs_listM : CallS X T (rListA X.K) listMB := by
  intro W G h H σ ds vs Q r d o
  match ds, vs, d with
  | [], _, _ => exact o.elim
  | _ :: _ :: _, _, _ => exact o.elim
  | [x], [v], .cons d1 .nil =>
    unfold listMB at o
    dsimp only at o
    cases ex : asSeq h x with
    | none => rw [ex] at o; exact o.elim
    | some xs =>
      rw [ex] at o
      obtain ⟨a, ws, rfl, h1, q1⟩ := asSeq_ok r d1 ex
      exact ⟨a, ws, rfl, h1, fun l hl => newLstM r q1 hl o⟩
def intD (x : D) (h : Hh) : R D := match x with
  | .int i => .ok (.int i) h
  | .bl k => .ok (.int (if k then 1 else 0)) h
  | _ => .stk
abbrev intB : FB := one intD
theorem cs_int : CallS X T (fun xs H Q => (∃ i, xs = [.int i] ∧ Q (.int i) H) ∨ ∃ k, xs = [.bl k] ∧ Q (.int (if k then 1 else 0)) H) intB := by
  intro W G h H σ ds vs Q r d o
  match ds, vs, d with
  | [], _, _ => exact o.elim
  | _ :: _ :: _, _, _ => exact o.elim
  | [x], [v], .cons d1 .nil =>
    cases d1 with
    | int => exact .inl ⟨_, rfl, o.at r .int⟩
    | bl => exact .inr ⟨_, rfl, o.at r .int⟩
    | _ => exact o.elim
def absD (x : D) (h : Hh) : R D := match x with
  | .int i => .ok (.int (if i < 0 then -i else i)) h
  | _ => .stk
abbrev absB : FB := one absD
theorem cs_abs : CallS X T (fun xs H Q => ∃ i, xs = [.int i] ∧ Q (.int (if i < 0 then -i else i)) H) absB := by
  intro W G h H σ ds vs Q r d o
  match ds, vs, d with
  | [], _, _ => exact o.elim
  | _ :: _ :: _, _, _ => exact o.elim
  | [x], [v], .cons d1 .nil =>
    cases d1 with
    | int => exact ⟨_, rfl, o.at r .int⟩
    | _ => exact o.elim
def max2B : FB := fun ds h => match ds with
  | [.int i, .int j] => .ok (.int (if j > i then j else i)) h
  | _ => .stk
def min2B : FB := fun ds h => match ds with
  | [.int i, .int j] => .ok (.int (if j < i then j else i)) h
  | _ => .stk
theorem two_ints {K : PySem.W.Frag} {G : Gst} {ds : List D} {vs : List V} {P : Prop} (d : RDs K T G ds vs) (k : ∀ i j, ds = [.int i, .int j] → vs = [.int i, .int j] → P) (n : (∀ i j, ds ≠ [.int i, .int j]) → P) : P := by
  match ds, vs, d with
  | [x, y], [v, w], .cons d1 (.cons d2 .nil) =>
    cases d1 with
    | int => cases d2 with
      | int => exact k _ _ rfl rfl
      | _ => exact n (fun _ _ z => by cases z)
    | _ => exact n (fun _ _ z => by cases z)
  | [], _, _ => exact n (fun _ _ z => by cases z)
  | [_], _, _ => exact n (fun _ _ z => by cases z)
  | _ :: _ :: _ :: _, _, _ => exact n (fun _ _ z => by cases z)
theorem cs_max2 : CallS X T (fun xs H Q => ∃ i j, xs = [.int i, .int j] ∧ Q (.int (if j > i then j else i)) H) max2B := by
  intro W G h H σ ds vs Q r d o
  refine two_ints d (fun i j e1 e2 => ?_) fun n => ?_
  · subst e1; subst e2; exact ⟨i, j, rfl, o.at r .int⟩
  · unfold max2B at o
    split at o
    · exact absurd rfl (n _ _)
    · exact o.elim
theorem cs_min2 : CallS X T (fun xs H Q => ∃ i j, xs = [.int i, .int j] ∧ Q (.int (if j < i then j else i)) H) min2B := by
  intro W G h H σ ds vs Q r d o
  refine two_ints d (fun i j e1 e2 => ?_) fun n => ?_
  · subst e1; subst e2; exact ⟨i, j, rfl, o.at r .int⟩
  · unfold min2B at o
    split at o
    · exact absurd rfl (n _ _)
    · exact o.elim
def intsOf : List D → Option (List Int)
  | [] => some []
  | .int i :: r => (intsOf r).map (i :: ·)
  | _ => none
def blsOf : List D → Option (List Bool)
  | [] => some []
  | .bl i :: r => (blsOf r).map (i :: ·)
  | _ => none
theorem intsOf_ok {K : PySem.W.Frag} {G : Gst} : ∀ {ds : List D} {vs : List V} {ns : List Int}, RDs K T G ds vs → intsOf ds = some ns → vs = ns.map V.int
  | _, _, _, .nil, e => by cases e; rfl
  | _, _, _, .cons d t, e => by
    cases d with
    | int =>
      unfold intsOf at e
      obtain ⟨ms, e1, e2⟩ := Option.map_eq_some_iff.mp e
      subst e2
      rw [intsOf_ok t e1]
      rfl
    | _ => cases e
theorem blsOf_ok {K : PySem.W.Frag} {G : Gst} : ∀ {ds : List D} {vs : List V} {ns : List Bool}, RDs K T G ds vs → blsOf ds = some ns → vs = ns.map V.bl
  | _, _, _, .nil, e => by cases e; rfl
  | _, _, _, .cons d t, e => by
    cases d with
    | bl =>
      unfold blsOf at e
      obtain ⟨ms, e1, e2⟩ := Option.map_eq_some_iff.mp e
      subst e2
      rw [blsOf_ok t e1]
      rfl
    | _ => cases e
def listOf (h : Hh) (ds : List D) : Option (List D) := match ds with
  | [x] => asL h x
  | _ => none
theorem listOf_ok {K : PySem.W.Frag} {G : Gst} {h : Hh} {H : Hp} {ds : List D} {vs : List V} {es : List D} (r : Rel K T G h H) (d : RDs K T G ds vs) (e : listOf h ds = some es) : ∃ a ws, vs = [.ref a] ∧ H a = some (.lst ws) ∧ RDs K T G es ws := by
  match ds, vs, d with
  | [], _, _ => cases e
  | _ :: _ :: _, _, _ => cases e
  | [x], [v], .cons d1 .nil =>
    obtain ⟨a, ws, ev, h1, q⟩ := asL_ok r d1 e
    exact ⟨a, ws, by rw [ev], h1, q⟩
def sumB : FB := fun ds h => match (listOf h ds).bind intsOf with
  | some ns => .ok (.int ns.sum) h
  | none => .stk
def allB : FB := fun ds h => match (listOf h ds).bind blsOf with
  | some bs => .ok (.bl (bs.all id)) h
  | none => .stk
def anyB : FB := fun ds h => match (listOf h ds).bind blsOf with
  | some bs => .ok (.bl (bs.any id)) h
  | none => .stk
theorem cs_sum : CallS X T (rSum X.K) sumB := by
  intro W G h H σ ds vs Q r d o
  unfold sumB at o
  cases e : (listOf h ds).bind intsOf with
  | none => rw [e] at o; exact o.elim
  | some ns =>
    rw [e] at o
    obtain ⟨es, e1, e2⟩ := Option.bind_eq_some_iff.mp e
    obtain ⟨a, ws, ev, h1, q⟩ := listOf_ok r d e1
    have := intsOf_ok q e2
    subst this
    exact ⟨a, ns, ev, .inl (.inl h1), o.at r .int⟩
theorem cs_all : CallS X T (rAll X.K) allB := by
  intro W G h H σ ds vs Q r d o
  unfold allB at o
  cases e : (listOf h ds).bind blsOf with
  | none => rw [e] at o; exact o.elim
  | some ns =>
    rw [e] at o
    obtain ⟨es, e1, e2⟩ := Option.bind_eq_some_iff.mp e
    obtain ⟨a, ws, ev, h1, q⟩ := listOf_ok r d e1
    have := blsOf_ok q e2
    subst this
    exact ⟨a, ns, ev, .inl (.inl h1), o.at r .bl⟩
end
end L3
set_option autoImplicit false
set_option maxHeartbeats 4000000
namespace L3
open PySem PySem.Spec L2
def SqX (K : PySem.W.Frag) : Bool → Hp → Addr → List V → Prop
  | true, H, a, xs => SqT K H a xs
  | false, H, a, xs => SqL K H a xs
def HasX : Bool → Heap → Addr → Array Value → Prop
  | true, h, a, x => h.IsTuple a x
  | false, h, a, x => h.IsList a x
def IterX : Bool → Heap → Addr → Addr → Nat → Prop
  | true, h, it, a, i => h.IsTupleIter it a i
  | false, h, it, a, i => h.IsListIter it a i
def objX : Bool → Addr → Obj
  | true, a => { cls := .type "tuple_iterator", data := .fields #[.ref a, .int 0 0] }
  | false, a => { cls := .type "list_iterator", data := .fields #[.ref a, .int 0 0] }
theorem drawsX {prog : Program} {w : World} {A : Around} (hh : A.handled = none) (b : Bool) (it l : Addr) (hne : l ≠ it) (items : Array Value) :
    Draws prog w A it [it, l] items.size (fun i v => items[i]? = some v) (fun i h => IterX b h it l i ∧ HasX b h l items) := by
  cases b with
  | true => exact Draws.tuple hh it l hne items
  | false => exact Draws.list hh it l hne items
theorem beginsX (b : Bool) (l : Addr) (items : Array Value) : Begins (.ref l) (objX b l) fun h => HasX b h l items := by
  cases b with
  | true => exact begins_tuple l items
  | false => exact begins_list l items
theorem iterX_of {b : Bool} {h : Heap} {it a : Addr} (e : h.get? it = some (objX b a)) : IterX b h it a 0 := by
  cases b with
  | true => exact ⟨_, e, rfl, rfl⟩
  | false => exact ⟨_, e, rfl, rfl⟩
theorem IterX.at {b : Bool} {h h' : Heap} {it a : Addr} {i : Nat} (x : IterX b h it a i) (k : ∀ o, h.get? it = some o → h'.get? it = some o) : IterX b h' it a i := by
  cases b with
  | true => exact Heap.IsTupleIter.at x k
  | false => exact Heap.IsListIter.at x k
theorem IterX.obj {b : Bool} {h : Heap} {it a : Addr} {i : Nat} (x : IterX b h it a i) : ∃ o, h.get? it = some o ∧ ∀ v, o.data ≠ .cell v := by
  cases b with
  | true => obtain ⟨o, e, _, d⟩ := x; exact ⟨o, e, fun v q => by rw [d] at q; cases q⟩
  | false => obtain ⟨o, e, _, d⟩ := x; exact ⟨o, e, fun v q => by rw [d] at q; cases q⟩
theorem HasX.lt {b : Bool} {h : Heap} {a : Addr} {x : Array Value} (q : HasX b h a x) : a < h.objs.size := by
  cases b with
  | true => obtain ⟨o, e, _⟩ := q; exact Heap.lt_size e
  | false => obtain ⟨o, e, _⟩ := q; exact Heap.lt_size e
theorem SqX.has {X : Cx} {pins : List (Addr × Obj)} {σ : L2.St} {H : Hp} {s : Shared} {b : Bool} {a : Addr} {xs : List V} (I : Inv X pins σ H s) (q : SqX X.K b H a xs) : ∃ its : List Value, Vals xs its ∧ HasX b s.heap a its.toArray := by
  cases b with
  | true => obtain ⟨its, r, p, _⟩ := I.tuple q; exact ⟨its, r, p⟩
  | false => obtain ⟨its, r, p, _⟩ := I.list q; exact ⟨its, r, p.isList⟩
theorem SqX.inj {X : Cx} {pins : List (Addr × Obj)} {σ : L2.St} {H : Hp} {s : Shared} {b : Bool} {a : Addr} {xs ys : List V} (I : Inv X pins σ H s) (q : SqX X.K b H a xs) (q' : SqX X.K b H a ys) : xs = ys := by
  cases b with
  | true => exact I.tuple_inj q q'
  | false => exact I.list_inj q q'
def ItzX (K : PySem.W.Frag) (b1 b2 : Bool) (a b : Addr) : It :=
  ⟨fun i H => ∃ (xs ys : List V) (x y : V), SqX K b1 H a xs ∧ SqX K b2 H b ys ∧ xs[i]? = some x ∧ ys[i]? = some y,
    fun i H v H' => ∃ T x y, v = .ref T ∧ H T = none ∧ H' = upd H T (.tup [x, y]) ∧ (∀ xs, SqX K b1 H a xs → xs[i]? = some x) ∧ ∀ ys, SqX K b2 H b ys → ys[i]? = some y,
    fun i H => ∃ xs ys : List V, SqX K b1 H a xs ∧ SqX K b2 H b ys ∧ i ≤ xs.length ∧ i ≤ ys.length ∧ (i = xs.length ∨ i = ys.length)⟩
theorem sep_of {a b z TI TO i1 i2 : Addr} (D : ZipApart z TI TO i1 i2 a b) : ZipSep2 z TI TO i1 i2 [i1, a] [i2, b] where
  TIz := D.TIz
  TOz := D.TOz
  TITO := D.TITO
  TIi1 := D.TIi1
  mem1 := by simp
  zf1 := by simp [Ne.symm D.i1z, Ne.symm D.l1z]
  Tf1 := by simp [D.TOi1, Ne.symm D.l1TO]
  TIi2 := D.TIi2
  mem2 := by simp
  zf2 := by simp [Ne.symm D.i2z, Ne.symm D.l2z]
  Tf2 := by simp [D.TOi2, Ne.symm D.l2TO]
  sep1_2 := by simp [D.i12, Ne.symm D.l2i1]
  sep2_1 := by simp [Ne.symm D.i12, Ne.symm D.l1i2]
theorem turn_zipX {P : Program} {w : World} {K : PySem.W.Frag} {elts : List Expr} {kk : Nat} {tpos : Pos} (b1 b2 : Bool) {a b z TI TO i1 i2 : Addr} (D : ZipApart z TI TO i1 i2 a b) :
    Turn P w K (.Tuple elts kk tpos) (ItzX K b1 b2 a b) [z, TI, TO, i1, i2] z (fun i h => IsZip h z TI TO .none ∧ IsPair h TI (.ref i1) (.ref i2) ∧ (∃ x y, IsPair h TO x y) ∧ IterX b1 h i1 a i ∧ IterX b2 h i2 b i) where
  mem := by simp
  obj := fun i h st0 c hc => by
    obtain ⟨hz, hTI, ⟨x, y, hTO⟩, j1, j2⟩ := st0
    have alt : (((c = z ∨ c = TI) ∨ c = TO) ∨ c = i1) ∨ c = i2 := by simpa [or_assoc] using hc
    rcases alt with (((q | q) | q) | q) | q <;> subst q
    · exact ⟨_, hz, fun v q => nomatch q⟩
    · exact ⟨_, hTI, fun v q => nomatch q⟩
    · exact ⟨_, hTO, fun v q => nomatch q⟩
    · exact j1.obj
    · exact j2.obj
  keep := fun i h h' st0 k => by
    obtain ⟨hz, hTI, ⟨x, y, hTO⟩, j1, j2⟩ := st0
    exact ⟨k z (by simp) _ hz, k TI (by simp) _ hTI, ⟨x, y, k TO (by simp) _ hTO⟩, j1.at fun o q => k i1 (by simp) o q, j2.at fun o q => k i2 (by simp) o q⟩
  item := by
    intro X hP hw hK hc i pins s σ H E I free_ st0 go_
    subst hP hw hK
    obtain ⟨hz, hTI, ⟨x0, y0, hTO⟩, j1, j2⟩ := st0
    obtain ⟨xs, ys, x, y, qa, qb, ix, iy⟩ := go_
    obtain ⟨us1, va, p⟩ := qa.has I
    obtain ⟨us2, vb, p2⟩ := qb.has I
    obtain ⟨p1v, gu, wa⟩ := va.get ix
    obtain ⟨p2v, gu2, wb⟩ := vb.get iy
    have lt1 : i < us1.toArray.size := by have := (List.getElem?_eq_some_iff.mp gu).1; simpa using this
    have lt2 : i < us2.toArray.size := by have := (List.getElem?_eq_some_iff.mp gu2).1; simpa using this
    have zl : z < s.heap.objs.size := Heap.lt_size hz
    have D1 := drawsX (prog := X.prog) (w := X.w) (A := X.A.in1) (I.ok.hd hc) b1 i1 a D.l1i1 us1.toArray
    have D2 := drawsX (prog := X.prog) (w := X.w) (A := X.A.in1) (I.ok.hd hc) b2 i2 b D.l2i2 us2.toArray
    refine wpAny_pyNext_zipD2_item (sep_of D) D1 D2 hz hTI hTO ⟨j1, p⟩ ⟨j2, p2⟩ lt1 lt2 fun x1 x2 h' tk y1 y2 zn out_ st1 st2 hT size_ kept_ => ?_
    have e1 : x1 = p1v := by simp at y1; rw [gu] at y1; exact (Option.some.inj y1).symm
    have e2 : x2 = p2v := by simp at y2; rw [gu2] at y2; exact (Option.some.inj y2).symm
    subst e1
    subst e2
    refine ⟨_, rfl, wpAny_letOwnedTupleGo_zip (s := { s with heap := h', toks := tk }) zn fun h'' zn2 same_ => ?_⟩
    have pair_ : h''.get? s.heap.objs.size = some { cls := .type "tuple", data := .seq #[x1, x2] } := (same_.2 _ (Nat.ne_of_gt zl)).trans hT
    have laid : ObjOk X.prog X.w (upd H s.heap.objs.size (.tup [x, y])) h'' s.heap.objs.size (.tup [x, y]) :=
      ⟨by show 2 ≤ sizeLine; decide, [x1, x2], .cons wa (.cons wb .nil), ⟨_, pair_, rfl, _, rfl⟩⟩
    have J1 : Inv X pins σ (upd H s.heap.objs.size (.tup [x, y])) { s with heap := h'', toks := tk } :=
      I.turnedNew (t' := tk) (ch := [z, TI, TO, i1, i2]) (fun c o hb q => (same_.2 c (fun q' => hb (by simp [q']))).trans (kept_ c o (fun q' => hb (by simp [q'])) (fun q' => hb (by simp [q'])) (fun q' => hb (by simp [q'])) (fun q' => hb (by simp [q'])) q)) free_ (Nat.le_refl _) laid
    refine ⟨.ref s.heap.objs.size, _, J1, rfl, ⟨_, x, y, rfl, I.hok.fresh (Nat.le_refl _), rfl, fun l hl => by rw [SqX.inj I hl qa]; exact ix, fun l hl => by rw [SqX.inj I hl qb]; exact iy⟩, ⟨zn2, ?_, ⟨x1, x2, ?_⟩, ?_, ?_⟩, fun c mem_ => ?_⟩
    · exact (same_.2 _ D.TIz).trans (kept_ _ _ D.TIz D.TITO D.TIi1 D.TIi2 hTI)
    · exact (same_.2 _ D.TOz).trans out_
    · exact st1.1.at fun o q => (same_.2 _ D.i1z).trans q
    · exact st2.1.at fun o q => (same_.2 _ D.i2z).trans q
    · have below : c < s.heap.objs.size := by
        have alt : (((c = z ∨ c = TI) ∨ c = TO) ∨ c = i1) ∨ c = i2 := by simpa [or_assoc] using mem_
        rcases alt with (((q | q) | q) | q) | q
        · rw [q]; exact zl
        · rw [q]; exact Heap.lt_size hTI
        · rw [q]; exact Heap.lt_size hTO
        · rw [q]; obtain ⟨_, e1, _⟩ := j1.obj; exact Heap.lt_size e1
        · rw [q]; obtain ⟨_, e2, _⟩ := j2.obj; exact Heap.lt_size e2
      rw [upd_ne (Nat.ne_of_lt below)]
      exact (free_ c mem_).1
  done := by
    intro X hP hw hK hc i pins s σ H E I free_ st0 go_
    subst hP hw hK
    obtain ⟨hz, hTI, ⟨x0, y0, hTO⟩, j1, j2⟩ := st0
    obtain ⟨xs, ys, qa, qb, l1, l2, end_⟩ := go_
    obtain ⟨us1, va, p⟩ := qa.has I
    obtain ⟨us2, vb, p2⟩ := qb.has I
    have n1 := va.length
    have n2 := vb.length
    have D1 := drawsX (prog := X.prog) (w := X.w) (A := X.A.in1) (I.ok.hd hc) b1 i1 a D.l1i1 us1.toArray
    have D2 := drawsX (prog := X.prog) (w := X.w) (A := X.A.in1) (I.ok.hd hc) b2 i2 b D.l2i2 us2.toArray
    exact wpAny_pyNext_zipD2_end (sep_of D) D1 D2 hz hTI hTO ⟨j1, p⟩ ⟨j2, p2⟩ (by simp; omega) (by simp; omega) (by simp; omega) fun h' tk kept_ => ⟨rfl, I.turnedL (t' := tk) (ch := [z, TI, TO, i1, i2]) (fun c o hb q =>
      kept_ c o (fun q' => hb (by simp [q'])) (fun q' => hb (by simp [q'])) (fun q' => hb (by simp [q'])) (fun q' => hb (by simp [q'])) q) free_⟩
  self := fun A i s Q E st0 h => wpAny_pyIter_zip st0.1 h
def iZipX (K : PySem.W.Frag) (ta : TA) : TI := fun σ H R => ta σ H fun vs H1 => ∃ b1 b2 a b xs ys, vs = [.ref a, .ref b] ∧ SqX K b1 H1 a xs ∧ SqX K b2 H1 b ys ∧ R (ItzX K b1 b2 a b) H1
theorem pi_zipX {X : Cx} {e e2 : Expr} {ta : TA} {p pos tpos : Pos} {elts : List Expr} {kk : Nat} (go_ : Gl X "zip") (hm : X.mg "zip" = none) (ha : PA X [e, e2] ta)
    (hs : starEach [e, e2] X.env = (false, eval e X.env) :: starEach [e2] X.env := by rfl) (hpl : (backTo pos (starEach [e2] X.env)).any (·.1) = false := by rfl) :
    PI X (.Tuple elts kk tpos) (.Call (.Name "zip" p) [e, e2] [] pos) (iZipX X.K ta) := by
  refine ⟨fun pins s σ H R I h => ?_⟩
  refine PyProof.Rows.Call_ (ld_blt I go_ hm PyProof.Rows.boot_zip (PyProof.Rows.callWith_type1 (thn (ha.run pos pins s σ H _ I h) fun us sh ⟨vs, H1, J1, r1, q1⟩ => ?_) hs hpl))
  obtain ⟨b1, b2, a, b, xs, ys, ex, qa, qb, q⟩ := q1
  subst ex
  cases r1 with
  | cons r rr =>
    cases rr with
    | cons r' rr =>
      cases rr
      cases r
      cases r'
      obtain ⟨us1, va, p1⟩ := qa.has J1
      obtain ⟨us2, vb, p2⟩ := qb.has J1
      refine zip_begins2 (beginsX b1 a us1.toArray) (beginsX b2 b us2.toArray) p1 p2 fun h' hz hTI hTO h1 h2 size_ kept_ => wpAny_pyIter_zip hz ?_
      have J2 : Inv X pins σ H1 { sh with heap := h' } := J1.kept (t' := sh.toks) kept_
      refine ⟨sh.heap.objs.size + 4, [sh.heap.objs.size + 4, sh.heap.objs.size + 2, sh.heap.objs.size + 3, sh.heap.objs.size, sh.heap.objs.size + 1], _, _, H1, rfl, J2, turn_zipX b1 b2 (PySem.W.ktu_apart sh.heap.objs.size a b p1.lt p2.lt), ⟨hz, hTI, ⟨_, _, hTO⟩, iterX_of h1, iterX_of h2⟩, fun c mem_ => ?_, q⟩
      have after_ : sh.heap.objs.size ≤ c := by
        have alt : c = sh.heap.objs.size + 4 ∨ c = sh.heap.objs.size + 2 ∨ c = sh.heap.objs.size + 3 ∨ c = sh.heap.objs.size ∨ c = sh.heap.objs.size + 1 := by simpa using mem_
        rcases alt with z | z | z | z | z <;> (rw [z]; omega)
      exact J1.fpOk after_ (J1.hok.fresh after_)
section
variable {X : Cx} {T : Tx} {W : WX} {pos : Pos}
def immS : D → Option (Bool × List D)
  | .tup ds => some (true, ds)
  | .lst ds => some (false, ds)
  | .scr ds => some (false, ds)
  | _ => none
theorem immS_ok {K : PySem.W.Frag} {G : Gst} {d : D} {v : V} {b : Bool} {ds : List D} (d1 : RD K T G d v) (e : immS d = some (b, ds)) : ∃ a vs, v = .ref a ∧ SqX K b G.fz a vs ∧ RDs K T G ds vs := by
  cases d1 with
  | tup h r => cases e; exact ⟨_, _, rfl, h, r⟩
  | lst h r => cases e; exact ⟨_, _, rfl, .inl (.inl h), r⟩
  | scr h r => cases e; exact ⟨_, _, rfl, h, r⟩
  | _ => cases e
theorem SqX.sub {K : PySem.W.Frag} {b : Bool} {H H' : Hp} {a : Addr} {xs : List V} (s : ∀ a o, H a = some o → H' a = some o) (h : SqX K b H a xs) : SqX K b H' a xs := by
  cases b with
  | true => exact SqT.sub s h
  | false => exact SqL.sub s h
def zipL : List D → List D → List D
  | x :: xs, y :: ys => .tup [x, y] :: zipL xs ys
  | _, _ => []
theorem zipL_len : ∀ xs ys : List D, (zipL xs ys).length = min xs.length ys.length
  | [], _ => by simp [zipL]
  | _ :: _, [] => by simp [zipL]
  | x :: xs, y :: ys => by simp [zipL, zipL_len xs ys]
theorem zipL_get : ∀ (xs ys : List D) (i : Nat) (d : D), (zipL xs ys)[i]? = some d → ∃ x y, xs[i]? = some x ∧ ys[i]? = some y ∧ d = .tup [x, y]
  | [], _, _, _, e => by simp [zipL] at e
  | _ :: _, [], _, _, e => by simp [zipL] at e
  | x :: xs, y :: ys, 0, d, e => by simp [zipL] at e; exact ⟨x, y, rfl, rfl, e.symm⟩
  | x :: xs, y :: ys, i + 1, d, e => by
    obtain ⟨x', y', h1, h2, h3⟩ := zipL_get xs ys i d (by simpa [zipL] using e)
    exact ⟨x', y', by simpa using h1, by simpa using h2, h3⟩
theorem walk_zip {K : PySem.W.Frag} {G : Gst} {b1 b2 : Bool} {a b : Addr} {ds es : List D} {vs ws : List V} (q1 : SqX K b1 G.fz a vs) (q2 : RDs K T G ds vs) (q3 : SqX K b2 G.fz b ws) (q4 : RDs K T G es ws) : Walk3 K T (ItzX K b1 b2 a b) G (zipL ds es) := fun i G2 h2 H2 x r => by
  have z1 : SqX K b1 H2 a vs := SqX.sub r.sub (SqX.sub x.fz q1)
  have z2 : SqX K b2 H2 b ws := SqX.sub r.sub (SqX.sub x.fz q3)
  have l1 := q2.length
  have l2 := q4.length
  refine ⟨fun d e => ?_, fun hl => ⟨vs, ws, z1, z2, ?_⟩⟩
  · obtain ⟨d1, d2, e1, e2, rfl⟩ := zipL_get ds es i d e
    obtain ⟨v, ev, dv⟩ := q2.get e1
    obtain ⟨w, ew, dw⟩ := q4.get e2
    refine ⟨⟨vs, ws, v, w, z1, z2, ev, ew⟩, ?_⟩
    rintro y H3 ⟨p, v', w', rfl, hp, rfl, f1, f2⟩
    have g1 := f1 vs z1
    have g2 := f2 ws z2
    rw [ev] at g1; cases g1
    rw [ew] at g2; cases g2
    obtain ⟨x', r'⟩ := r.newF (o := .tup [v, w]) hp
    exact ⟨_, x', r', .tup (.inl (.inl upd_same)) (.cons ((dv.mono0 x).mono x') (.cons ((dw.mono0 x).mono x') .nil)) fun _ => upd_same⟩
  · rw [zipL_len] at hl
    omega
def kZip (ds : List D) (h : Hh) : R (List D) := match ds with
  | [x, y] => match immS x, immS y with
    | some (_, xs), some (_, ys) => .ok (zipL xs ys) h
    | _, _ => .stk
  | _ => .stk
def iZip (fa : FnA) : FnI := fun δ h => (fa δ h).bind kZip
def enumL : Nat → List D → List D
  | _, [] => []
  | k, x :: xs => .tup [.int k, x] :: enumL (k + 1) xs
inductive Ty | int | bool | str | tuple | list | dict
deriving DecidableEq
def Ty.nm : Ty → String
  | .int => "int" | .bool => "bool" | .str => "str" | .tuple => "tuple" | .list => "list" | .dict => "dict"
inductive Kd | non | bool | int | str | tuple | list | dict
def Kd.nm : Kd → String
  | .non => "NoneType" | .bool => "bool" | .int => "int" | .str => "str" | .tuple => "tuple" | .list => "list" | .dict => "dict"
def isK : Kd → Ty → Bool
  | .bool, .bool => true
  | .bool, .int => true
  | .int, .int => true
  | .str, .str => true
  | .tuple, .tuple => true
  | .list, .list => true
  | .dict, .dict => true
  | _, _ => false
theorem isK_kit (k : Kd) (t : Ty) : kitB k.nm t.nm = some (isK k t) := by
  cases k <;> cases t <;> decide +kernel
def kdOf (h : Hh) : D → Option Kd
  | .non => some .non
  | .bl _ => some .bool
  | .int _ => some .int
  | .str _ => some .str
  | .tup _ => some .tuple
  | .lst _ => some .list
  | .scr _ => some .list
  | .dic _ _ => some .dict
  | .ref n => match h[n]? with
    | some (.lst _) => some .list
    | some (.dic _ _) => some .dict
    | _ => none
  | .obj _ _ => none
theorem kd_list {K : PySem.W.Frag} {H : Hp} {a : Addr} {vs : List V} (q : SqL K H a vs) : TyX K H (.ref a) (.type "list") := by
  rcases q with (h | ⟨o, h⟩) | ⟨o, its, n, h1, h2, _⟩
  · exact .base (.lst h)
  · exact .base (.frz h)
  · exact .kList h1 h2
theorem kd_tup {K : PySem.W.Frag} {H : Hp} {a : Addr} {vs : List V} (q : SqT K H a vs) : TyX K H (.ref a) (.type "tuple") := by
  rcases q with (h | ⟨o, h⟩) | ⟨o, its, n, h1, h2, _⟩
  · exact .base (.tup h)
  · exact .fTuple h
  · exact .kTuple h1 h2
theorem kd_ok {K : PySem.W.Frag} {G : Gst} {h : Hh} {H : Hp} {d : D} {v : V} {k : Kd} (r : Rel K T G h H) (d1 : RD K T G d v) (e : kdOf h d = some k) : TyX K H v (.type k.nm) := by
  cases d1 with
  | non => cases e; exact .base .non
  | bl => cases e; exact .base (.bl _)
  | int => cases e; exact .base (.int _)
  | str => cases e; exact .base (.str _)
  | tup q _ => cases e; exact kd_tup (SqT.sub r.sub q)
  | lst q _ => cases e; exact .base (.lst (r.sub _ _ q))
  | scr q _ => cases e; exact kd_list (SqL.sub r.sub q)
  | dic q _ _ => cases e; exact .base (.dK (r.sub _ _ q))
  | obj => cases e
  | @ref n a q =>
    unfold kdOf at e
    dsimp only at e
    cases z : h[n]? with
    | none => rw [z] at e; cases e
    | some o =>
      rw [z] at e
      cases o with
      | lst ds =>
        cases e
        obtain ⟨a', vs, e1, e2, e3, _⟩ := r.obj n _ z
        rw [q] at e1; cases e1
        exact .base (.lst e3)
      | dic ks vs =>
        cases e
        obtain ⟨a', kvs, e1, e2, e3, _⟩ := r.obj n _ z
        rw [q] at e1; cases e1
        exact .base (.dK e3)
      | _ => cases e
def isiD (t : Ty) (x : D) (h : Hh) : R D := match kdOf h x with
  | some k => .ok (.bl (isK k t)) h
  | none => .stk
def eIsi (t : Ty) (fa : FnE) : FnE := fun δ h => (fa δ h).bind (isiD t)
theorem fe_isi {t : Ty} {x : Str} {p p2 : Pos} {e : Expr} {fa : FnE} (he : FE X T W e fa) (hg : Gl X "isinstance") (hm : X.mg "isinstance" = none) (hgt : Gl X x) (hmt : X.mg x = none) (hv : bootBuiltins x = some (.type t.nm)) (hv0 : bootBuiltins "isinstance" = some (.builtin "isinstance")) (hn : x ≠ "__name__" := by decide) (hdb : (x == ("__debug__" : Str)) = false := by decide)
    (hs : starEach [e, .Name x p2] X.env = (false, eval e X.env) :: starEach [.Name x p2] X.env := by rfl) (hs2 : starEach [.Name x p2] X.env = (false, eval (.Name x p2) X.env) :: starEach [] X.env := by rfl) (hpl : (backTo pos (starEach [.Name x p2] X.env)).any (·.1) = false := by rfl) :
    FE X T W (.Call (.Name "isinstance" p) [e, .Name x p2] [] pos) (eIsi t fa) := by
  have hty : PE X (.Name x p2) (tC (.ty t.nm)) := pe_bltn hgt hmt hv rfl hn hdb
  refine PE.imp (pe_callB call_isi hg hm hv0 (pa_cons he (pa_cons hty pa_nil hs2) hs) (by decide) (by decide) hs hpl) fun σ H Q h => ?_
  refine tF.bind (k := fun _ => isiD t) h fun G δ x v h1 H1 r1 s1 d1 o1 => ?_
  unfold isiD at o1
  cases ek : kdOf h1 x with
  | none => rw [ek] at o1; exact o1.elim
  | some k =>
    rw [ek] at o1
    exact ⟨v, .ty t.nm, .type k.nm, .type t.nm, isK k t, rfl, .ty _, kd_ok r1 d1 ek, kit_ty (isK_kit k t), o1.at r1 .bl⟩
end
end L3
set_option autoImplicit false
set_option maxHeartbeats 4000000
namespace L3
open PySem PySem.Spec L2
def keyEq : D → D → Bool
  | .int i, .int j => decide (i = j)
  | .str a, .str b => decide (a = b)
  | _, _ => false
def isKey : D → Bool
  | .int _ => true
  | .str _ => true
  | _ => false
def keyOf : D → Key
  | .int i => .inl i
  | .str x => .inr ⟨x.toArray⟩
  | _ => .inl 0
theorem keyEq_iff {a b : D} (ha : isKey a = true) (hb : isKey b = true) : keyEq a b = decide (keyOf a = keyOf b) := by
  cases a <;> first | (cases ha; done) | skip
  all_goals (cases b <;> first | (cases hb; done) | skip)
  all_goals simp [keyEq, keyOf]
section
variable {T : Tx} {K : PySem.W.Frag} {G : Gst}
theorem RD.key {d : D} {v : V} (d1 : RD K T G d v) (h : isKey d = true) : v = kV (keyOf d) := by
  cases d1 <;> first | rfl | cases h
theorem RD.unkey {d : D} {k : Key} (d1 : RD K T G d (kV k)) : isKey d = true ∧ keyOf d = k := by
  cases k with
  | inl i =>
    have e : kV (.inl i) = V.int i := rfl
    rw [e] at d1
    cases d1; exact ⟨rfl, rfl⟩
  | inr x =>
    have e : kV (.inr x) = V.str x := rfl
    rw [e] at d1
    cases d1; exact ⟨rfl, rfl⟩
def lookD : List D → List D → D → Option D
  | k :: ks, v :: vs, x => if keyEq k x = true then some v else lookD ks vs x
  | _, _, _ => none
theorem lookD_ok {x d : D} (hx : isKey x = true) : ∀ {kvs : List (Key × V)} {ks vs : List D}, RDs K T G ks (kvs.map fun p => kV p.1) → RDs K T G vs (kvs.map (·.2)) → lookD ks vs x = some d → ∃ v, valV kvs (keyOf x) = some v ∧ RD K T G d v
  | [], _, _, hk, hv, e => by cases hk; cases hv; cases e
  | p :: kvs, _, _, hk, hv, e => by
    rw [List.map_cons] at hk hv
    cases hk with
    | cons k1 k2 => cases hv with
      | cons v1 v2 =>
        obtain ⟨z1, z2⟩ := k1.unkey
        unfold lookD at e
        rw [keyEq_iff z1 hx, z2] at e
        by_cases q : p.1 = keyOf x
        · rw [if_pos (decide_eq_true q)] at e
          cases e
          exact ⟨p.2, valV_pos q, v1⟩
        · rw [if_neg (by simpa using q)] at e
          obtain ⟨v, w1, w2⟩ := lookD_ok hx k2 v2 e
          exact ⟨v, by rw [valV_neg q]; exact w1, w2⟩
def hasK (ks : List D) (x : D) : Bool := ks.any fun k => keyEq k x
def replD : List D → List D → D → D → List D
  | k :: ks, v :: vs, x, y => (if keyEq k x = true then y else v) :: replD ks vs x y
  | _, _, _, _ => []
def putKs (ks : List D) (x : D) : List D := if hasK ks x = true then ks else ks ++ [x]
def putVs (ks vs : List D) (x y : D) : List D := if hasK ks x = true then replD ks vs x y else vs ++ [y]
theorem hasK_ok {x : D} (hx : isKey x = true) : ∀ {kvs : List (Key × V)} {ks : List D}, RDs K T G ks (kvs.map fun p => kV p.1) → hasK ks x = kvs.any fun kv => decide (kv.1 = keyOf x)
  | [], _, hk => by cases hk; rfl
  | p :: kvs, _, hk => by
    rw [List.map_cons] at hk
    cases hk with
    | cons k1 k2 =>
      obtain ⟨z1, z2⟩ := k1.unkey
      unfold hasK
      rw [List.any_cons, List.any_cons, keyEq_iff z1 hx, z2]
      congr 1
      exact hasK_ok hx k2
theorem replD_ok {x y : D} {w : V} (hx : isKey x = true) (hy : RD K T G y w) : ∀ {kvs : List (Key × V)} {ks vs : List D}, RDs K T G ks (kvs.map fun p => kV p.1) → RDs K T G vs (kvs.map (·.2)) →
    RDs K T G (replD ks vs x y) ((kvs.map fun kv => if kv.1 = keyOf x then (kv.1, w) else kv).map (·.2))
  | [], _, _, hk, hv => by cases hk; cases hv; exact .nil
  | p :: kvs, _, _, hk, hv => by
    rw [List.map_cons] at hk hv
    cases hk with
    | cons k1 k2 => cases hv with
      | cons v1 v2 =>
        obtain ⟨z1, z2⟩ := k1.unkey
        unfold replD
        rw [List.map_cons, List.map_cons, keyEq_iff z1 hx, z2]
        refine .cons ?_ (replD_ok hx hy k2 v2)
        by_cases q : p.1 = keyOf x
        · rw [if_pos (decide_eq_true q), if_pos q]; exact hy
        · rw [if_neg (by simpa using q), if_neg q]; exact v1
theorem repl_keys (k : Key) (w : V) : ∀ kvs : List (Key × V), ((kvs.map fun kv => if kv.1 = k then (kv.1, w) else kv).map fun p => kV p.1) = kvs.map fun p => kV p.1
  | [] => rfl
  | p :: kvs => by
    rw [List.map_cons, List.map_cons, List.map_cons, repl_keys k w kvs]
    congr 1
    by_cases q : p.1 = k
    · rw [if_pos q]
    · rw [if_neg q]
theorem putD_ok {x y : D} {w : V} {kvs : List (Key × V)} {ks vs : List D} (hx : isKey x = true) (hy : RD K T G y w) (hk : RDs K T G ks (kvs.map fun p => kV p.1)) (hv : RDs K T G vs (kvs.map (·.2))) :
    RDs K T G (putKs ks x) ((putK kvs (keyOf x) w).map fun p => kV p.1) ∧ RDs K T G (putVs ks vs x y) ((putK kvs (keyOf x) w).map (·.2)) := by
  unfold putKs putVs putK
  rw [hasK_ok hx hk]
  by_cases q : (kvs.any fun kv => decide (kv.1 = keyOf x)) = true
  · rw [if_pos q, if_pos q, if_pos q, repl_keys]
    exact ⟨hk, replD_ok hx hy hk hv⟩
  · rw [if_neg q, if_neg q, if_neg q, List.map_append, List.map_append]
    refine ⟨hk.append (.cons ?_ .nil), hv.append (.cons hy .nil)⟩
    cases x with
    | int => exact .int
    | str => exact .str
    | _ => cases hx
end
section
variable {X : Cx} {T : Tx} {W : WX} {pos : Pos}
def asDic (h : Hh) : D → Option (List D × List D)
  | .dic ks vs => some (ks, vs)
  | .ref n => match h[n]? with
    | some (.dic ks vs) => some (ks, vs)
    | some (.dicL ks vs) => some (ks, vs)
    | _ => none
  | _ => none
theorem asDic_ok {K : PySem.W.Frag} {G : Gst} {h : Hh} {H : Hp} {d : D} {v : V} {ks vs : List D} (r : Rel K T G h H) (d1 : RD K T G d v) (e : asDic h d = some (ks, vs)) :
    ∃ a kvs, v = .ref a ∧ Rd H a (.dK kvs) ∧ RDs K T G ks (kvs.map fun p => kV p.1) ∧ RDs K T G vs (kvs.map (·.2)) := by
  cases d1 with
  | dic q1 q2 q3 => cases e; exact ⟨_, _, rfl, .inl (r.sub _ _ q1), q2, q3⟩
  | @ref n a q =>
    unfold asDic at e
    dsimp only at e
    cases z : h[n]? with
    | none => rw [z] at e; cases e
    | some o =>
      rw [z] at e
      cases o with
      | dic ks' vs' =>
        cases e
        obtain ⟨a', kvs, e1, e2, e3, e4, e5⟩ := r.obj n _ z
        rw [q] at e1; cases e1
        exact ⟨a, kvs, rfl, .inl e3, e4, e5⟩
      | dicL ks' vs' =>
        cases e
        obtain ⟨a', od, kvs, e1, e2, e4, e5⟩ := r.obj n _ z
        rw [q] at e1; cases e1
        exact ⟨a, kvs, rfl, .inr ⟨od, (r.lk a _ e2).1⟩, e4, e5⟩
      | _ => cases e
  | _ => cases e
def rIxH : R2 := fun x y H Q => ∃ a v, x = .ref a ∧ DGet H a y (some v) ∧ Q v H
theorem ix_dict (hu : X.A.units + 1 < cLine) : IxR X rIxH := by
  intro value slice pins s σ H x y v u Q I rx ry h hs
  obtain ⟨a, w, ex, g, q⟩ := h
  subst ex
  obtain rfl : v = Value.ref a := rx
  have hT := dict_typeIs I g
  unfold PyProof.Rows.subscriptTail
  refine wpAny_bind ?_
  rw [getitemInPython_of_ne hT.not_modules]
  refine wpAny_bind (wpAny_specialOf hT PySem.F.slot_dict_getitem.lookup ?_)
  have fin : wpAny (model X.prog X.w) X.A (subscripted slice false (.ref a) u) (fun r s₃ => wpAny (model X.prog X.w) X.A (letTemporaryGo value (.ref a) r >>= fun _ => pure r) (EP X pins σ Q) X.xe s₃) X.xe s := by
    rw [hs]
    exact wpAny_operating (d_getItem hu I g ry fun w' s3 I3 rw' => wpAny_bind (wpAny_letTemporaryGo (wpAny_pure ⟨w, H, I3, rw', q⟩)))
  first
    | exact wpAny_pure (wpAny_bind fin)
    | exact wpAny_bind (wpAny_pure (wpAny_bind fin))
    | exact wpAny_bind fin
def ixA : F2 := fun x y h => match asDic h x with
  | some (ks, vs) => if isKey y = true then optR (lookD ks vs y) h else .stk
  | none => ixD x y h
def rIxAll (K : PySem.W.Frag) : R2 := fun x y H Q => rIx K x y H Q ∨ rIxH x y H Q
theorem os_ixA : OpS X T (rIxAll X.K) ixA := by
  intro W G h H σ x y v w Q r d1 d2 o
  unfold ixA at o
  cases e : asDic h x with
  | none => rw [e] at o; exact .inl (os_ix W G h H σ x y v w Q r d1 d2 o)
  | some p =>
    obtain ⟨ks, vs⟩ := p
    rw [e] at o
    dsimp only at o
    by_cases hy : isKey y = true
    · rw [if_pos hy] at o
      cases el : lookD ks vs y with
      | none => rw [el] at o; exact o.elim
      | some d =>
        rw [el] at o
        obtain ⟨a, kvs, rfl, q1, q2, q3⟩ := asDic_ok r d1 e
        obtain ⟨u, w1, w2⟩ := lookD_ok hy q2 q3 el
        have ew := d2.key hy
        subst ew
        exact .inr ⟨a, u, rfl, by rw [← w1]; exact .inl ⟨kvs, _, q1, rfl, rfl⟩, o.at r w2⟩
    · rw [if_neg hy] at o; exact o.elim
theorem fe_ixA {a b : Expr} {fa fb : FnE} (hu : X.A.units + 1 < cLine) (hs : PlainIx b) (ha : FE X T W a fa) (hb : FE X T W b fb) : FE X T W (.Subscript a b pos) (eBin ixA fa fb) :=
  PE.imp (pe_ix (IxR.or ix_seq (ix_dict hu)) ha hb hs) fun _ _ _ h => tE_bin os_ixA h
def setOne (x i y : D) (h : Hh) : Option Hh := match x with
  | .ref n => match h[n]? with
    | some (.lst ds) => match i with
      | .int k => match ixN ds.length k with
        | some j => some (h.set n (.lst (ds.set j y)))
        | none => none
      | _ => none
    | some (.dic ks vs) => if isKey i = true ∧ ks.length < 1000000 then some (h.set n (.dic (putKs ks i) (putVs ks vs i y))) else none
    | _ => none
  | _ => none
def rSetA : TSet := fun o i v H Q => rSetL o i v H Q ∨ rSetD o i v H Q
theorem set_A (hu : X.A.units + 1 < cLine) : PSet X rSetA := fun pins s σ H o i v ov iv u Q I ro ri rv h => h.elim (set_list pins s σ H o i v ov iv u Q I ro ri rv) (set_dict hu pins s σ H o i v ov iv u Q I ro ri rv)
theorem setOne_ok {K : PySem.W.Frag} {G : Gst} {h h' : Hh} {H : Hp} {x i y : D} {vx vi vy : V} {Q : Hp → Prop} (r : Rel K T G h H) (dx : RD K T G x vx) (di : RD K T G i vi) (dy : RD K T G y vy) (e : setOne x i y h = some h') (q : ∀ H', Rel K T G h' H' → Q H') : rSetA vx vi vy H Q := by
  cases dx with
  | @ref n a q1 =>
    unfold setOne at e
    dsimp only at e
    cases z : h[n]? with
    | none => rw [z] at e; cases e
    | some o =>
      rw [z] at e
      have hn : n < h.length := (List.getElem?_eq_some_iff.mp z).1
      cases o with
      | lst ds =>
        cases di with
        | @int k =>
          dsimp only at e
          cases ej : ixN ds.length k with
          | none => rw [ej] at e; cases e
          | some j =>
            rw [ej] at e
            cases e
            obtain ⟨a', vs, e1, e2, e3, e4⟩ := r.obj n _ z
            rw [q1] at e1; cases e1
            refine .inl ⟨a, vs, k, j, rfl, rfl, e3, by rw [← e4.length]; exact ej, q _ (r.put hn e2 ⟨a, _, q1, e2, upd_same, e4.set dy j⟩)⟩
        | _ => cases e
      | dic ks vs =>
        dsimp only at e
        by_cases hk : isKey i = true ∧ ks.length < 1000000
        · rw [if_pos hk] at e
          cases e
          obtain ⟨a', kvs, e1, e2, e3, e4, e5⟩ := r.obj n _ z
          rw [q1] at e1; cases e1
          have ei := di.key hk.1
          subst ei
          obtain ⟨p1, p2⟩ := putD_ok hk.1 dy e4 e5
          have hl : kvs.length < sizeLine := by
            have := e4.length
            rw [List.length_map] at this
            rw [← this, sizeLine_eq]; omega
          exact .inr ⟨a, _, rfl, DPut.k e3 hl, q _ (r.put hn e2 ⟨a, _, q1, e2, upd_same, p1, p2⟩)⟩
        · rw [if_neg hk] at e; cases e
      | _ => cases e
  | _ => cases e
def kSet (δ : De) (x i y : D) (h : Hh) : RS := match setOne x i y h with
  | some h' => .nx δ h'
  | none => .stk
def sIxS (fo fi fv : FnE) : FnS := fun δ h => (fv δ h).toS δ fun y h1 => (fo δ h1).toS δ fun x h2 => (fi δ h2).toS δ fun i h3 => kSet δ x i y h3
theorem fs_ix {o i value : Expr} {fo fi fv : FnE} {pos' : Pos} (hu : X.A.units + 1 < cLine) (ho : FE X T W o fo) (hi : FE X T W i fi) (hv : FE X T W value fv)
    (ha : ∀ v, assign (.Subscript o i pos') X.env v = (do
      let ov ← holding [v] (eval o X.env)
      let iv ← holding [v, ov] (eval i X.env)
      standAt pos'
      holding [v, ov, iv] (setItem ov iv v)
      release [v, ov, iv] []) := by intro _; rfl)
    (hs : swapsWithSole [.Subscript o i pos'] value pos.line X.env = pure false := by rfl) (hw : swappedStores [.Subscript o i pos'] value X.env = pure none := by rfl) (h1 : (assignEach [.Subscript o i pos'] X.env).map (·.2) = [assign (.Subscript o i pos') X.env] := by rfl) :
    FS X T W (.Assign [.Subscript o i pos'] value pos) (sIxS fo fi fv) := by
  refine PS.imp (ps_asg hv (pg_sub ho hi (set_A hu) ha) hs hw h1) fun D σ H => ?_
  rintro ⟨G, h0, δ, r, s, oo⟩
  refine ⟨G, h0, δ, r, s, (okS.toS (rel := RD X.K T) s oo).mono ?_⟩
  rintro vy H1 ⟨G1, y, h1, e1, r1, d1, o1⟩
  refine ⟨G1, h1, δ, r1, s.mono e1, (okS.toS (rel := RD X.K T) (s.mono e1) o1).mono ?_⟩
  rintro vx H2 ⟨G2, x, h2, e2, r2, d2, o2⟩
  refine ⟨G2, h2, δ, r2, s.mono (e1.trans e2), (okS.toS (rel := RD X.K T) (s.mono (e1.trans e2)) o2).mono ?_⟩
  rintro vi H3 ⟨G3, i', h3, e3, r3, d3, o3⟩
  unfold kSet at o3
  cases es : setOne x i' y h3 with
  | none => rw [es] at o3; exact o3.elim
  | some h4 =>
    rw [es] at o3
    exact setOne_ok r3 (d2.mono e3) d3 (d1.mono (e2.trans e3)) es fun H' r' => o3 G3 H' σ (Ext.refl G3) r' (s.mono (e1.trans (e2.trans e3)))
def whileN (t : FnT) (u : FnS) : Nat → FnS
  | 0 => fun _ _ => .stk
  | n + 1 => fun δ h => (t δ h).toS δ fun c h1 => if c = true then (match u δ h1 with
      | .nx δ2 h2 => whileN t u n δ2 h2
      | .ct δ2 h2 => whileN t u n δ2 h2
      | .bk δ2 h2 => .nx δ2 h2
      | r => r) else .nx δ h1
theorem fs_while {N : Nat} {c : Expr} {body : List Stmt} {t : FnT} {u : FnS} (hp : PassesOwn (model X.prog X.w) X.A X.env X.xe) (hc : FT X T W c t) (hb : FSs X T W body u) : FS X T W (.While c body [] pos) (whileN t u N) := by
  refine PS.imp (ps_while hp hc hb) fun D σ H => ?_
  intro hh
  refine ⟨fun m σ H => tS X.K T W (whileN t u m) D σ H, ⟨N, hh⟩, ?_⟩
  rintro m σ' H' ⟨G1, h1, δ1, r1, s1, o1⟩
  cases m with
  | zero => exact o1.elim
  | succ n =>
    unfold whileN at o1
    refine ⟨G1, h1, δ1, r1, s1, (okS.toS (rel := relB) s1 o1).mono ?_⟩
    rintro b H2 ⟨G2, x, h2, e2, r2, d2, o2⟩
    have d : x = b := d2
    subst d
    cases x with
    | false =>
      rw [if_neg Bool.false_ne_true] at o2 ⊢
      exact o2 G2 H2 σ' (Ext.refl G2) r2 (s1.mono e2)
    | true =>
      rw [if_pos rfl] at o2 ⊢
      refine ⟨fun σ3 H3 => tS X.K T W (whileN t u n) D σ3 H3, fun σ3 H3 z => ⟨n, Nat.lt_succ_self n, z⟩, G2, h2, δ1, r2, s1.mono e2, ?_⟩
      cases eu : u δ1 h2 with
      | nx δ5 h5 => rw [eu] at o2; exact fun G' H'' σ'' x' r' s' => ⟨G', h5, δ5, r', s', okS.ext x' o2⟩
      | ct δ5 h5 => rw [eu] at o2; exact fun G' H'' σ'' x' r' s' => ⟨G', h5, δ5, r', s', okS.ext x' o2⟩
      | bk δ5 h5 => rw [eu] at o2; exact o2
      | rt d h5 => rw [eu] at o2; exact o2
      | exc c ds δ5 h5 => rw [eu] at o2; exact o2
      | stk => rw [eu] at o2; exact o2
theorem whileN_mono {t : FnT} {u : FnS} : ∀ (n m : Nat) (δ : De) (h : Hh), n ≤ m → whileN t u n δ h ≠ .stk → whileN t u m δ h = whileN t u n δ h
  | 0, _, _, _, _, e => absurd rfl e
  | n + 1, 0, _, _, hl, _ => by omega
  | n + 1, m + 1, δ, h, hl, e => by
    unfold whileN at e ⊢
    cases et : t δ h with
    | stk => rfl
    | exc => rfl
    | ok c h1 =>
      rw [et] at e
      simp only [R.toS] at e ⊢
      cases c with
      | false => rfl
      | true =>
        simp only [if_true] at e ⊢
        cases eu : u δ h1 with
        | nx δ2 h2 => rw [eu] at e; exact whileN_mono n m δ2 h2 (by omega) e
        | ct δ2 h2 => rw [eu] at e; exact whileN_mono n m δ2 h2 (by omega) e
        | bk δ2 h2 => rfl
        | rt d h2 => rfl
        | exc c ds δ2 h2 => rfl
        | stk => rfl
abbrev FM := D → List D → Hh → R D
def MtS (X : Cx) (T : Tx) (rd : V → List V → Hp → VK → Prop) (g : FM) : Prop := ∀ (W : WX) G h H σ x v ds vs Q, Rel X.K T G h H → RD X.K T G x v → RDs X.K T G ds vs → okR X.K T W G σ (RD X.K T) (g x ds h) Q → rd v vs H Q
def kM (g : FM) (fa : FnA) (δ : De) (x : D) (h1 : Hh) : R D := if (asL h1 x).isSome = true then (fa δ h1).bind (g x) else .stk
def eM (g : FM) (fo : FnE) (fa : FnA) : FnE := fun δ h => (fo δ h).bind (kM g fa δ)
theorem asL_ty {K : PySem.W.Frag} {G : Gst} {h : Hh} {H : Hp} {d : D} {v : V} (r : Rel K T G h H) (d1 : RD K T G d v) (e : (asL h d).isSome = true) : tyV K "list" v H := by
  obtain ⟨ds, ed⟩ := Option.isSome_iff_exists.mp e
  obtain ⟨a, vs, rfl, h1, _⟩ := asL_ok r d1 ed
  exact .inl ⟨rfl, vs, .inl (.inl h1)⟩
theorem fe_m {o e : Expr} {es : List Expr} {name : Str} {id : String} {apos : Pos} {rd : V → List V → Hp → VK → Prop} {g : FM} {fo : FnE} {fa : FnA} (slot : Slot "list" name id) (hty : typeOf (.builtin id) = pure (.type "method_descriptor")) (hm : MtR X id rd) (hs : MtS X T rd g) (ho : FE X T W o fo) (ha : FA X T W (e :: es) fa)
    (hbase : attributeBase o name X.env (eval o X.env) = eval o X.env := by rfl)
    (hfew : ((backTo pos (starEach (e :: es) X.env)).all (fun x => !x.1) && (backToKw pos (keywordEach [] X.env)).all (fun x => x.1.isSome)
      && decide ((e :: es).length + ([] : List Keyword).length + (if ([] : List Keyword).isEmpty then 0 else 1) < 30)) = true := by rfl)
    (hline : (apos.endLine == pos.line) = true := by rfl) (hs1 : starEach (e :: es) X.env = (false, eval e X.env) :: starEach es X.env := by rfl) (hplain : (backTo pos (starEach es X.env)).any (·.1) = false := by rfl) :
    FE X T W (.Call (.Attribute o name apos) (e :: es) [] pos) (eM g fo fa) := by
  refine PE.imp (pe_bm PySem.F.plainAttrs_list slot hty hm ho ha hbase hfew hline hs1 hplain) fun σ H Q => ?_
  rintro ⟨G, h0, δ, r, s, oo⟩
  refine ⟨G, h0, δ, r, s, (okR.bind (rel := RD X.K T) oo).mono ?_⟩
  rintro v H1 ⟨G1, x, h1, e1, r1, d1, o1⟩
  unfold kM at o1
  by_cases hl : (asL h1 x).isSome = true
  · rw [if_pos hl] at o1
    refine ⟨asL_ty r1 d1 hl, G1, h1, δ, r1, s.mono e1, (okR.bind (rel := RDs X.K T) o1).mono ?_⟩
    rintro vs H2 ⟨G2, ds, h2, e2, r2, d2, o2⟩
    exact hs W G2 h2 H2 σ x v ds vs Q r2 (d1.mono e2) d2 o2
  · rw [if_neg hl] at o1; exact o1.elim
def mutL (h : Hh) : D → Option (Nat × List D)
  | .ref n => match h[n]? with
    | some (.lst ds) => some (n, ds)
    | _ => none
  | _ => none
theorem mutL_ok {K : PySem.W.Frag} {G : Gst} {h : Hh} {H : Hp} {d : D} {v : V} {n : Nat} {ds : List D} (r : Rel K T G h H) (d1 : RD K T G d v) (e : mutL h d = some (n, ds)) :
    ∃ a vs, v = .ref a ∧ H a = some (.lst vs) ∧ RDs K T G ds vs ∧ ∀ es ws, RDs K T G es ws → Rel K T G (h.set n (.lst es)) (upd H a (.lst ws)) := by
  cases d1 with
  | @ref m a q =>
    unfold mutL at e
    dsimp only at e
    cases z : h[m]? with
    | none => rw [z] at e; cases e
    | some o =>
      rw [z] at e
      cases o with
      | lst es =>
        cases e
        obtain ⟨a', vs, e1, e2, e3, e4⟩ := r.obj _ _ z
        rw [q] at e1; cases e1
        exact ⟨a, vs, rfl, e3, e4, fun es ws d => r.put (List.getElem?_eq_some_iff.mp z).1 e2 (show RO K T G (upd H a (.lst ws)) _ (.lst es) from ⟨a, ws, q, e2, upd_same, d⟩)⟩
      | _ => cases e
  | _ => cases e
def appendM : FM := fun x as h => match mutL h x, as with
  | some (n, ds), [y] => if ds.length < 16777216 then .ok .non (h.set n (.lst (ds ++ [y]))) else .stk
  | _, _ => .stk
theorem ms_append : MtS X T rAppend appendM := by
  intro W G h H σ x v as vs Q r d1 d2 o
  unfold appendM at o
  cases e : mutL h x with
  | none => rw [e] at o; exact o.elim
  | some p =>
    obtain ⟨n, ds⟩ := p
    rw [e] at o
    match as, vs, d2 with
    | [], _, _ => exact o.elim
    | _ :: _ :: _, _, _ => exact o.elim
    | [y], [w], .cons dy .nil =>
      dsimp only at o
      by_cases hl : ds.length < 16777216
      · rw [if_pos hl] at o
        obtain ⟨a, us, rfl, q1, q2, q3⟩ := mutL_ok r d1 e
        exact ⟨a, us, w, rfl, rfl, q1, by rw [← q2.length, sizeLine_eq]; exact hl, o.at (q3 _ _ (q2.append (.cons dy .nil))) .non⟩
      · rw [if_neg hl] at o; exact o.elim
def sliceM (x : D) (lo hi : Option Int) (h : Hh) : R D := match asL h x with
  | some xs => .ok (.ref h.length) (h ++ [.lst (cutL xs lo hi)])
  | none => .stk
def eSliceM (f : FnE) (fl fh : FnO) : FnE := fun δ h => (f δ h).bind fun x h1 => (fl δ h1).bind fun l h2 => (fh δ h2).bind fun u h3 => sliceM x l u h3
theorem fe_sliceM {e : Expr} {lo hi : Option Expr} {p2 : Pos} {f : FnE} {fl fh : FnO} (he : FE X T W e f) (hl : FO X T W lo fl) (hh : FO X T W hi fh) : FE X T W (.Subscript e (.Slice lo hi none p2) pos) (eSliceM f fl fh) := by
  refine PE.imp (pe_slice (r := rSlL X.K) sl_list he hl hh) fun σ H Q => ?_
  rintro ⟨G, h0, δ, r, s, o⟩
  refine ⟨G, h0, δ, r, s, (okR.bind (rel := RD X.K T) o).mono ?_⟩
  rintro v H1 ⟨G1, x, h1, e1, r1, d1, o1⟩
  refine ⟨G1, h1, δ, r1, s.mono e1, (okR.bind (rel := fun _ a b => a = b) o1).mono ?_⟩
  rintro l H2 ⟨G2, l', h2, e2, r2, rfl, o2⟩
  refine ⟨G2, h2, δ, r2, s.mono (e1.trans e2), (okR.bind (rel := fun _ a b => a = b) o2).mono ?_⟩
  rintro u H3 ⟨G3, u', h3, e3, r3, rfl, o3⟩
  have d3 := d1.mono (e2.trans e3)
  unfold sliceM at o3
  cases ex : asL h3 x with
  | none => rw [ex] at o3; exact o3.elim
  | some xs =>
    rw [ex] at o3
    obtain ⟨a, vs, rfl, q1, q2⟩ := asL_ok r3 d3 ex
    exact ⟨a, vs, rfl, .inl (.inl q1), fun p hp => newLstM r3 (q2.cut l' u') hp o3⟩
def dPairs : List (FnE × FnE) → De → Hh → R (List D × List D)
  | [], _, h => .ok ([], []) h
  | (fk, fv) :: r, δ, h => (fk δ h).bind fun k h1 => (fv δ h1).bind fun v h2 => (dPairs r δ h2).bind fun p h3 => .ok (k :: p.1, v :: p.2) h3
abbrev FPs (X : Cx) (T : Tx) (W : WX) (pos : Pos) (keys : List (Option Expr)) (values : List Expr) (fs : List (FnE × FnE)) : Prop := PPs X pos keys values (fs.map fun p => (tE X.K T W p.1, tE X.K T W p.2))
theorem fps_nil : FPs X T W pos [] [] [] := pps_nil
theorem fps_cons {k v : Expr} {ks : List (Option Expr)} {vs : List Expr} {fk fv : FnE} {fs : List (FnE × FnE)} (hk : FE X T W k fk) (hv : FE X T W v fv) (hr : FPs X T W pos ks vs fs) : FPs X T W pos (some k :: ks) (v :: vs) ((fk, fv) :: fs) := pps_cons hk hv hr
def relP (K : PySem.W.Frag) (T : Tx) (G : Gst) (p : List D × List D) (ps : List (V × V)) : Prop := RDs K T G p.1 (ps.map (·.1)) ∧ RDs K T G p.2 (ps.map (·.2))
theorem dPairs_ok {K : PySem.W.Frag} {σ : L2.St} : ∀ (fs : List (FnE × FnE)) (G : Gst) (h : Hh) (δ : De) (H : Hp) (Q : List (V × V) → Hp → Prop), Rel K T G h H → RSl K T G δ σ → okR K T W G σ (relP K T) (dPairs fs δ h) Q → tPairs (fs.map fun p => (tE K T W p.1, tE K T W p.2)) σ H Q
  | [], G, h, δ, H, Q, r, s, o => o G H [] (Ext.refl G) r ⟨.nil, .nil⟩
  | (fk, fv) :: fs, G, h, δ, H, Q, r, s, o => by
    refine ⟨G, h, δ, r, s, (okR.bind (rel := RD K T) o).mono ?_⟩
    rintro v H1 ⟨G1, x, h1, e1, r1, d1, o1⟩
    refine ⟨G1, h1, δ, r1, s.mono e1, (okR.bind (rel := RD K T) o1).mono ?_⟩
    rintro w H2 ⟨G2, y, h2, e2, r2, d2, o2⟩
    refine dPairs_ok fs G2 h2 δ H2 _ r2 (s.mono (e1.trans e2)) ((okR.bind (rel := relP K T) o2).mono ?_)
    rintro ps H3 ⟨G3, p, h3, e3, r3, d3, o3⟩
    exact o3 G3 H3 ((v, w) :: ps) (Ext.refl G3) r3 ⟨.cons (d1.mono (e2.trans e3)) d3.1, .cons (d2.mono e3) d3.2⟩
def keysOk : List D → Bool
  | [] => true
  | k :: ks => isKey k && !hasK ks k && keysOk ks
theorem keys_of {K : PySem.W.Frag} {G : Gst} : ∀ {ks vs : List D} {ps : List (V × V)}, keysOk ks = true → RDs K T G ks (ps.map (·.1)) → RDs K T G vs (ps.map (·.2)) →
    ∃ kvs : List (Key × V), ps = kvs.map (fun kv => (kV kv.1, kv.2)) ∧ (kvs.map (·.1)).Nodup ∧ RDs K T G ks (kvs.map fun p => kV p.1) ∧ RDs K T G vs (kvs.map (·.2))
  | _, _, [], _, hk, hv => by cases hk; cases hv; exact ⟨[], rfl, by simp, .nil, .nil⟩
  | _, _, p :: ps, e, hk, hv => by
    rw [List.map_cons] at hk hv
    cases hk with
    | @cons k v ks _ k1 k2 => cases hv with
      | cons v1 v2 =>
        simp only [keysOk, Bool.and_eq_true, Bool.not_eq_true'] at e
        obtain ⟨⟨z1, z2⟩, z3⟩ := e
        obtain ⟨kvs, e1, e2, e3, e4⟩ := keys_of z3 k2 v2
        have ek := k1.key z1
        have nk : keyOf k ∉ kvs.map (·.1) := fun m => by
          rw [hasK_ok z1 e3] at z2
          obtain ⟨q, q1, q2⟩ := List.mem_map.mp m
          have : (kvs.any fun kv => decide (kv.1 = keyOf k)) = true := List.any_eq_true.mpr ⟨q, q1, decide_eq_true q2⟩
          rw [this] at z2; cases z2
        refine ⟨(keyOf k, p.2) :: kvs, ?_, ?_, ?_, .cons v1 e4⟩
        · rw [List.map_cons, ← e1, ← ek]
        · rw [List.map_cons]; exact List.nodup_cons.mpr ⟨nk, e2⟩
        · rw [List.map_cons]; show RDs K T G (k :: ks) (kV (keyOf k) :: _); rw [← ek]; exact .cons k1 e3
theorem merge_nil : ∀ (more kvs : List (Key × V)), ((kvs ++ more).map (·.1)).Nodup → mergeK kvs more = kvs ++ more
  | [], kvs, _ => by simp [mergeK]
  | p :: r, kvs, nd => by
    have hn : valV kvs p.1 = none := by
      unfold valV
      rw [Option.map_eq_none_iff, List.find?_eq_none]
      intro q hq
      have : q.1 ≠ p.1 := fun e => by
        rw [List.map_append, List.nodup_append] at nd
        exact nd.2.2 _ (List.mem_map.mpr ⟨q, hq, rfl⟩) _ (List.mem_map.mpr ⟨p, List.mem_cons_self, rfl⟩) e
      simpa using this
    show mergeK (putK kvs p.1 p.2) r = _
    rw [putK_new _ hn]
    have e : kvs ++ p :: r = (kvs ++ [(p.1, p.2)]) ++ r := by simp
    rw [e]
    exact merge_nil r _ (by rw [← e]; exact nd)
def kDic (mu : Bool) (p : List D × List D) (h1 : Hh) : R D := if keysOk p.1 = true ∧ p.1.length ≤ 15 then (if mu = true then .ok (.ref h1.length) (h1 ++ [.dic p.1 p.2]) else .ok (.dic p.1 p.2) h1) else .stk
def noXP {α : Type} (r : R α) : R α := match r with
  | .ok x h => .ok x h
  | _ => .stk
def eDic (mu : Bool) (fs : List (FnE × FnE)) : FnE := fun δ h => (noXP (dPairs fs δ h)).bind (kDic mu)
theorem fe_dict {mu : Bool} {keys : List (Option Expr)} {values : List Expr} {fs : List (FnE × FnE)} (h : FPs X T W0 pos keys values fs) (hall : keys.all (·.isSome) = true) (hl : keys.length = values.length) (h0 : keys ≠ []) (h15 : keys.length ≤ 15) :
    FE X T W (.Dict keys values pos) (eDic mu fs) := by
  refine PE.imp (pe_disp h hall hl h0 h15) fun σ H Q => ?_
  rintro ⟨G, hh, δ, r, s, o⟩
  intro p hp
  have rg := r.guard (o := .dK []) hp
  have sg : RSl X.K T (G.guard p (.dK [])) δ σ := RSl.ghost (G := G) (G' := G.guard p (.dK [])) rfl (fun _ _ z => z) s
  refine dPairs_ok fs (G.guard p (.dK [])) hh δ _ _ rg sg ?_
  unfold eDic at o
  cases ed : dPairs fs δ hh with
  | stk => rw [ed] at o; exact o.elim
  | exc c ds h' => rw [ed] at o; exact o.elim
  | ok q h1 =>
    rw [ed] at o
    obtain ⟨ks, vs⟩ := q
    have o1 : okR X.K T W G σ (RD X.K T) (kDic mu (ks, vs) h1) Q := o
    intro G2 H2 ps x2 r2 d2
    obtain ⟨d2k, d2v⟩ := d2
    have hpr : G2.pr p = some (.dK []) := by rw [x2.pr]; exact upd_same
    obtain ⟨z1, z2, z3⟩ := r2.pr p _ hpr
    refine ⟨z1, ?_⟩
    unfold kDic at o1
    by_cases hk : keysOk ks = true ∧ ks.length ≤ 15
    · rw [if_pos hk] at o1
      obtain ⟨kvs, e1, e2, e3, e4⟩ := keys_of hk.1 d2k d2v
      have hlen : kvs.length ≤ 15 := by
        have := e3.length
        rw [List.length_map] at this
        omega
      refine ⟨kvs, e1, hlen, ?_⟩
      rw [merge_nil kvs [] (by simpa using e2), List.nil_append]
      have r3 := r2.reguard (u := .dK kvs) hpr
      have pn : G.pr p = none := by
        cases z : G.pr p with
        | none => rfl
        | some u => have := (r.pr p u z).1; rw [hp] at this; cases this
      have hpr3 : ({ G2 with pr := upd G2.pr p (.dK kvs) } : Gst).pr p = some (.dK kvs) := upd_same
      have hpr0 : ∀ a u, G.pr a = some u → a ≠ p ∧ ({ G2 with pr := upd G2.pr p (.dK kvs) } : Gst).pr a = some u := fun a u z => by
        have na : a ≠ p := fun y => by rw [y, pn] at z; cases z
        refine ⟨na, ?_⟩
        show upd G2.pr p (.dK kvs) a = some u
        rw [upd_ne na, x2.pr]
        show upd G.pr p _ a = some u
        rw [upd_ne na]; exact z
      obtain ⟨tt, et⟩ := x2.ι
      cases mu with
      | false =>
        rw [if_neg Bool.false_ne_true] at o1
        have fzm : ∀ a u, G2.fz a = some u → upd G2.fz p (.dK kvs) a = some u := fun a u z => by
          have na : a ≠ p := fun y => by rw [y, z2] at z; cases z
          rw [upd_ne na]; exact z
        have x0 : Ext0 G2 { G2 with pr := G.pr, fz := upd G2.fz p (.dK kvs) } := ⟨⟨[], (List.append_nil _).symm⟩, fzm, rfl⟩
        exact o1 { G2 with pr := G.pr, fz := upd G2.fz p (.dK kvs) } _ (.ref p) ⟨⟨tt, et⟩, fun a u z => fzm a u (x2.fz a u z), rfl, x2.lk⟩ (r3.unguard hpr3 hpr0) (.dic upd_same (e3.mono0 x0) (e4.mono0 x0))
      | true =>
        rw [if_pos rfl] at o1
        obtain ⟨x5, r5⟩ := r3.unguardO (u := .dic ks vs) hpr3 hpr0 fun G' x hi ho _ => ⟨p, kvs, hi, ho, upd_same, RDs.mono0 (G := G2) ⟨x.ι, x.fz, x.lk⟩ e3, RDs.mono0 (G := G2) ⟨x.ι, x.fz, x.lk⟩ e4⟩
        refine o1 (Gst.give { G2 with pr := upd G2.pr p (.dK kvs) } p G.pr) _ (.ref p) ⟨⟨tt ++ [p], ?_⟩, fun a u z => x2.fz a u z, rfl, x2.lk⟩ r5 (.ref ?_)
        · show G2.ι ++ [p] = G.ι ++ (tt ++ [p])
          rw [et, List.append_assoc]; rfl
        · show (G2.ι ++ [p])[h1.length]? = some p
          rw [← r2.len]; simp
    · rw [if_neg hk] at o1; exact o1.elim
def eDic0 (mu : Bool) : FnE := fun _ h1 => if mu = true then .ok (.ref h1.length) (h1 ++ [.dic [] []]) else .ok (.dic [] []) h1
theorem fe_dict0 {mu : Bool} : FE X T W (.Dict [] [] pos) (eDic0 mu) := by
  refine PE.imp pe_dnewK fun σ H Q => ?_
  rintro ⟨G, hh, δ, r, s, o⟩
  intro p hp
  unfold eDic0 at o
  cases mu with
  | false =>
    rw [if_neg Bool.false_ne_true] at o
    obtain ⟨x, r'⟩ := r.newF (o := .dK []) hp
    exact o _ _ _ x r' (.dic upd_same .nil .nil)
  | true =>
    rw [if_pos rfl] at o
    obtain ⟨x, r'⟩ := r.newO (o := .dK []) (u := .dic [] []) hp fun G' x hi ho _ => ⟨p, [], hi, ho, upd_same, .nil, .nil⟩
    refine o _ _ _ x r' (.ref ?_)
    show (G.ι ++ [p])[hh.length]? = some p
    rw [← r.len]; simp
end
end L3
set_option autoImplicit false
set_option maxHeartbeats 4000000
namespace L3
open PySem PySem.Spec L2
open PyProof.Rows (envOfC IntsAre AllBare)
section
variable {X : Cx} {T : Tx} {W : WX} {pos : Pos}
end
mutual
def cstB (K : PySem.W.Frag) : D → Value → Bool
  | .non, .none => true
  | .bl b, .bool c => b == c
  | .int i, .int j _ => decide (i = j)
  | .str x, .str y _ => decide (y = ⟨x.toArray⟩)
  | .tup ds, .ref a => (match K.lookup a with
    | some ⟨.type c, _, .seq its _, _⟩ => decide (c = "tuple") && (decide (its.size ≤ sizeLine) && (cstsB K ds its.toList && !decide (ds.length = 2)))
    | _ => false)
  | _, _ => false
def cstsB (K : PySem.W.Frag) : List D → List Value → Bool
  | [], [] => true
  | d :: ds, v :: vs => cstB K d v && cstsB K ds vs
  | _, _ => false
end
theorem two {a b : Bool} (h : (a && b) = true) : a = true ∧ b = true := by simpa using h
mutual
theorem cstB_ok {K : PySem.W.Frag} : ∀ (d : D) (u : Value), cstB K d u = true → ∃ v, RelV v u ∧ ∀ T, Cst K T d v
  | .non, u, h => by
    cases u <;> first | (exact ⟨.non, rfl, fun _ _ => .non⟩) | (simp [cstB] at h)
  | .bl b, u, h => by
    cases u with
    | bool c =>
      have e : b = c := by simpa [cstB] using h
      subst e
      exact ⟨.bl b, rfl, fun _ _ => .bl⟩
    | _ => simp [cstB] at h
  | .int i, u, h => by
    cases u with
    | int j t =>
      have e : i = j := by simpa [cstB] using h
      subst e
      exact ⟨.int i, ⟨t, rfl⟩, fun _ _ => .int⟩
    | _ => simp [cstB] at h
  | .str x, u, h => by
    cases u with
    | str y t =>
      have e : y = ⟨x.toArray⟩ := by simpa [cstB] using h
      subst e
      exact ⟨.str ⟨x.toArray⟩, ⟨t, rfl⟩, fun _ _ => .str⟩
    | _ => simp [cstB] at h
  | .tup ds, u, h => by
    cases u with
    | ref a =>
      unfold cstB at h
      cases q : K.lookup a with
      | none => rw [q] at h; cases h
      | some o =>
        obtain ⟨oc, od, dt, osl⟩ := o
        rw [q] at h
        cases oc with
        | type c =>
          cases dt with
          | seq its n =>
            obtain ⟨h1, h2⟩ := two h
            obtain ⟨h3, h4⟩ := two h2
            obtain ⟨h5, h6⟩ := two h4
            obtain ⟨vs, r, rd⟩ := cstsB_ok ds its.toList h5
            exact ⟨.ref a, rfl, fun T G => .tup (.inr ⟨_, its, n, q, congrArg Value.type (of_decide_eq_true h1), rfl, of_decide_eq_true h3, r⟩) (rd T G) fun e => by rw [decide_eq_true e] at h6; cases h6⟩
          | _ => cases h
        | _ => cases dt <;> cases h
    | _ => simp [cstB] at h
  | .lst _, u, h => by simp [cstB] at h
  | .dic _ _, u, h => by simp [cstB] at h
  | .obj _ _, u, h => by simp [cstB] at h
  | .ref _, u, h => by simp [cstB] at h
  | .scr _, u, h => by simp [cstB] at h
theorem cstsB_ok {K : PySem.W.Frag} : ∀ (ds : List D) (us : List Value), cstsB K ds us = true → ∃ vs, Vals vs us ∧ ∀ T G, RDs K T G ds vs
  | [], us, h => by
    cases us with
    | nil => exact ⟨[], .nil, fun _ _ => .nil⟩
    | cons _ _ => simp [cstsB] at h
  | d :: ds, us, h => by
    cases us with
    | nil => simp [cstsB] at h
    | cons u us =>
      have h' : cstB K d u = true ∧ cstsB K ds us = true := by simpa [cstsB] using h
      obtain ⟨v, r, c⟩ := cstB_ok d u h'.1
      obtain ⟨vs, rs, cs⟩ := cstsB_ok ds us h'.2
      exact ⟨v :: vs, .cons r rs, fun T G => .cons (c T G) (cs T G)⟩
end
open He (ga ma fAd eqO eqO_ok FnW)
def pgA (K : PySem.W.Frag) (x f : Str) : Addr × Addr := match PySem.W.findIn K (.ref (ga K x)) f with
  | some (some (.ref p)) => (match PySem.W.recIn K p "property" with
    | some (.ref g :: _) => (p, g)
    | _ => (p, 0))
  | _ => (0, 0)
def prB (K : PySem.W.Frag) (x f : Str) (p g : Addr) : Bool := eqO (PySem.W.findIn K (.ref (ga K x)) f) (some (some (.ref p))) && (eqO (PySem.W.specialIn K (.ref p) "__get__") (some (some (.builtin "property.__get__"))) &&
  (decide (PySem.W.takesIn K (.ref p) = some true) && (match PySem.W.recIn K p "property" with
    | some (.ref g' :: _) => decide (g' = g)
    | _ => false)))
theorem prB_ok {K : PySem.W.Frag} {x f : Str} {p g : Addr} (h : prB K x f p g = true) : PropOf K (ga K x) f p g := by
  obtain ⟨h1, h2⟩ := two h
  obtain ⟨h3, h4⟩ := two h2
  obtain ⟨h5, h6⟩ := two h4
  refine ⟨eqO_ok h1, eqO_ok h3, of_decide_eq_true h5, ?_⟩
  cases q : PySem.W.recIn K p "property" with
  | none => rw [q] at h6; cases h6
  | some r =>
    rw [q] at h6
    match r, h6 with
    | .ref g' :: rest, h6 =>
      have e : g' = g := of_decide_eq_true h6
      subst e
      exact ⟨rest, rfl⟩
def isiB (K : PySem.W.Frag) (C : Addr) : Bool := eqO (PySem.W.findIn K (.ref C) "__class__") (some (some (.builtin "object.__class__"))) && (eqO (PySem.W.specialIn K (.builtin "object.__class__") "__get__") (some (some (.builtin "getset_descriptor.__get__"))) &&
  (decide (PySem.W.takesIn K (.builtin "object.__class__") = some true) && (decide (PySem.W.mroIn K C (.type "object") = some true) && (decide (PySem.W.kitOne K (.ref C) (.ref C) = some true) &&
  (decide (PySem.W.kitOne K (.type "NoneType") (.ref C) = some false) && (decide (PySem.W.kitOne K (.type "bool") (.ref C) = some false) && (decide (PySem.W.kitOne K (.type "int") (.ref C) = some false) && (decide (PySem.W.kitOne K (.type "str") (.ref C) = some false) &&
  (decide (PySem.W.kitOne K (.type "tuple") (.ref C) = some false) && (decide (PySem.W.kitOne K (.type "list") (.ref C) = some false) && decide (PySem.W.kitOne K (.type "dict") (.ref C) = some false)))))))))))
structure IsiC (K : PySem.W.Frag) (C : Addr) : Prop where
  ha : PySem.W.findIn K (.ref C) "__class__" = some (some (.builtin "object.__class__"))
  hn : PySem.W.specialIn K (.builtin "object.__class__") "__get__" = some (some (.builtin "getset_descriptor.__get__"))
  ht : PySem.W.takesIn K (.builtin "object.__class__") = some true
  hm : PySem.W.mroIn K C (.type "object") = some true
  me : PySem.W.kitOne K (.ref C) (.ref C) = some true
  n0 : PySem.W.kitOne K (.type "NoneType") (.ref C) = some false
  n1 : PySem.W.kitOne K (.type "bool") (.ref C) = some false
  n2 : PySem.W.kitOne K (.type "int") (.ref C) = some false
  n3 : PySem.W.kitOne K (.type "str") (.ref C) = some false
  n4 : PySem.W.kitOne K (.type "tuple") (.ref C) = some false
  n5 : PySem.W.kitOne K (.type "list") (.ref C) = some false
  n6 : PySem.W.kitOne K (.type "dict") (.ref C) = some false
theorem isiB_ok {K : PySem.W.Frag} {C : Addr} (h : isiB K C = true) : IsiC K C := by
  obtain ⟨a1, h⟩ := two h
  obtain ⟨a2, h⟩ := two h
  obtain ⟨a3, h⟩ := two h
  obtain ⟨a4, h⟩ := two h
  obtain ⟨a5, h⟩ := two h
  obtain ⟨a6, h⟩ := two h
  obtain ⟨a7, h⟩ := two h
  obtain ⟨a8, h⟩ := two h
  obtain ⟨a9, h⟩ := two h
  obtain ⟨b1, h⟩ := two h
  obtain ⟨b2, b3⟩ := two h
  exact ⟨eqO_ok a1, eqO_ok a2, of_decide_eq_true a3, of_decide_eq_true a4, of_decide_eq_true a5, of_decide_eq_true a6, of_decide_eq_true a7, of_decide_eq_true a8, of_decide_eq_true a9, of_decide_eq_true b1, of_decide_eq_true b2, of_decide_eq_true b3⟩
section
open PySem.W
abbrev sSelf : Str := "self"
inductive EB where
  | v | a | l
def EB.ty : EB → String
  | .v => "ValueError" | .a => "ArithmeticError" | .l => "LookupError"
def EB.nw : EB → String
  | .v => "ValueError.__new__" | .a => "ArithmeticError.__new__" | .l => "LookupError.__new__"
def EB.ini : EB → String
  | .v => "ValueError.__init__" | .a => "ArithmeticError.__init__" | .l => "LookupError.__init__"
def EB.mro (b : EB) : List Value := [.type b.ty, .type "Exception", .type "BaseException", .type "object"]
def refsB (b : EB) : List Value → Bool
  | .ref _ :: r => refsB b r
  | l => l == b.mro
structure OexB (b : EB) (K : PySem.W.Frag) (C : Addr) : Prop where
  cls : ∃ nm q N bs bm sn sub ab col dd k0 k1 k2 k3 k5, K.lookup C = some (excClassObj nm q C N bs bm true sn sub ab col dd k0 k1 k2 k3 k5 b.nw) ∧ refsB b bm = true
  sa : findIn K (.ref C) "__setattr__" = some (some (.builtin "object.__setattr__"))
  exC : subIn K (.ref C) (.type "BaseException") = some true
  tyC : typeIn K (.ref C) = some (.type "type")
  kC : keepIn K (.ref C) = true
structure ErrT (a f : Str) (params : Arguments) (body : List Stmt) (scope : Scope) : Prop where
  par : ∃ p1 p2, params = ⟨[], [⟨"self", none, p1⟩, ⟨a, none, p2⟩], none, [], [], none, []⟩
  ne : (a == sSelf) = false
  db : (a == ("__debug__" : Str)) = false
  body : ∃ txt j p0 p1 p2 p3 p4 p5 p6 p7 p8 p9, body = [.Expr (.Call (.Attribute (.Call (.Name "super" p0) [] [] p1) "__init__" p2) [.Constant (.str txt) j p3] [] p4) p5, .Assign [.Attribute (.Name "self" p6) f p7] (.Name a p8) p9] ∧ (p2.endLine == p4.line) = true
  su : scope.names.lookup ("super" : Str) = some .globalImplicit
  cl : scope.names.lookup ("__class__" : Str) = some .free
  se : scope.names.lookup sSelf = some .local
  aa : scope.names.lookup a = some .local
  ce : ∀ x ∈ scope.names, x.2 ≠ .cell
  co : scope.isCoroutine = false
  ge : scope.isGenerator = false
  ki : scope.kind = .function
structure ErrD (b : EB) (K : PySem.W.Frag) (C fI : Addr) (a f file : Str) : Prop where
  T : OexB b K C
  xi : excInitIn K C b.mro b.nw = true
  iC : findIn K (.ref C) "__init__" = some (some (.ref fI))
  tI : typeIn K (.ref fI) = some (.type "function")
  fn : ∃ oc od osl name qual params body scope doc pm an cdA ct cc, K.lookup fI = some ⟨oc, od, .func (ksFn name qual params body scope .none .none doc pm an (.ref cdA) ct cc), osl⟩ ∧ codeIn K (.ref cdA) qual = true ∧
    (∃ ccl cdd vs ccs tf, K.lookup cdA = some ⟨ccl, cdd, .fields vs, ccs⟩ ∧ vs[2]? = some (.str file tf)) ∧ (∃ cl cld csl, K.lookup cc = some ⟨cl, cld, .cell (some (.ref C)), csl⟩) ∧ ErrT a f params body scope
  sf : mroIn K C (.ref C) = some true
  su : nsIn K mainGlobals "super" = some none
  tp : nsIn K cStatics "thirdparty.any" = some none
  sm : ks_superIn K C C "__init__" = some (some (.builtin b.ini))
  sv : subIn K (.ref C) (.type b.ty) = some true
  nf : findIn K (.ref C) f = some none
def ErrC (K : PySem.W.Frag) (C fI : Addr) (a f file : Str) : Prop := ∃ b, ErrD b K C fI a f file
end
def oexB (b : EB) (K : PySem.W.Frag) (C : Addr) : Bool := match K.lookup C with
  | some ⟨.type "type", _, .cls cd, sl⟩ => (match cd.mro, sl.toList with
    | .ref C' :: bm, [_, _, _, _, some (.builtin n), _] => C' == C && (n == b.nw && (!cd.hasDel && (cd.hasDict && (cd.qualname == cd.qualname && refsB b bm))))
    | _, _ => false)
  | _ => false
theorem oexB_ok {b : EB} {K : PySem.W.Frag} {C : Addr} (q : oexB b K C = true) : ∃ nm q N bs bm sn sub ab col dd k0 k1 k2 k3 k5, K.lookup C = some (excClassObj nm q C N bs bm true sn sub ab col dd k0 k1 k2 k3 k5 b.nw) ∧ refsB b bm = true := by
  unfold oexB at q
  split at q
  · rename_i dd cd sl ho
    split at q
    · rename_i C' bm k0 k1 k2 k3 n k5 hm hs
      simp only [Bool.and_eq_true, beq_iff_eq, Bool.not_eq_true'] at q
      obtain ⟨rfl, rfl, hdel, hd, _, hb⟩ := q
      obtain ⟨nm, bs, mro, ns, qn, hd', sn, sub, ab, col, del⟩ := cd
      dsimp only at hm hdel hd
      subst hm hdel hd
      have hsl : sl = #[k0, k1, k2, k3, some (.builtin b.nw), k5] := by
        obtain ⟨l⟩ := sl
        simp only at hs
        rw [hs]
      subst hsl
      exact ⟨nm, qn, ns, bs, bm, sn, sub, ab, col, dd, k0, k1, k2, k3, k5, ho, hb⟩
    · cases q
  · cases q
def initB (K : PySem.W.Frag) (C fI : Addr) (qual file : Str) : Bool := match K.lookup fI with
  | some ⟨_, _, .func g, _⟩ => PySem.W.codeIn K g.code qual && ((match g.defaults, g.kwdefaults with | .none, .none => true | _, _ => false) && ((match g.code with
    | .ref c => (match K.lookup c with
      | some ⟨_, _, .fields vs, _⟩ => (match (vs[2]? : Option Value) with | some (.str z _) => z == file | _ => false)
      | _ => false)
    | _ => false) && (match g.closure with
    | [(y, cc)] => y == ("__class__" : Str) && (match K.lookup cc with
      | some ⟨_, _, .cell (some (.ref D)), _⟩ => D == C
      | _ => false)
    | _ => false)))
  | _ => false
def errBb (b : EB) (K : PySem.W.Frag) (C fI : Addr) (qual f file : Str) : Bool := oexB b K C && (initB K C fI qual file && (PySem.W.excInitIn K C b.mro b.nw && (eqO (PySem.W.findIn K (.ref C) "__setattr__") (some (some (.builtin "object.__setattr__"))) && (decide (PySem.W.subIn K (.ref C) (.type "BaseException") = some true) &&
  ((PySem.W.typeIn K (.ref C) == some (.type "type")) && (PySem.W.keepIn K (.ref C) && (eqO (PySem.W.findIn K (.ref C) "__init__") (some (some (.ref fI))) && ((PySem.W.typeIn K (.ref fI) == some (.type "function")) && (decide (PySem.W.mroIn K C (.ref C) = some true) &&
  (eqO (PySem.W.nsIn K mainGlobals "super") (some none) && (eqO (PySem.W.nsIn K cStatics "thirdparty.any") (some none) && (eqO (PySem.W.ks_superIn K C C "__init__") (some (some (.builtin b.ini))) && (decide (PySem.W.subIn K (.ref C) (.type b.ty) = some true) && eqO (PySem.W.findIn K (.ref C) f) (some none))))))))))))))
def errB (K : PySem.W.Frag) (C fI : Addr) (qual f file : Str) : Bool := errBb .v K C fI qual f file || (errBb .a K C fI qual f file || errBb .l K C fI qual f file)
def kwdB (K : PySem.W.Frag) (f : Addr) (ms : List (Str × D)) : Bool := match K.lookup f with
  | some ⟨_, _, .func g, _⟩ => (match g.kwdefaults with
    | .ref D => ms.all fun q => (match PySem.W.nsIn K D q.1 with
      | some (some u) => cstB K q.2 u
      | _ => false)
    | _ => false)
  | _ => false
inductive Fl where
  | kwd (p : Str × Option Str) (ms : List (Str × D))
  | ne (x : Str)
  | nty (x : Str) (t : String)
  | exm (x y : Str) (b : Bool)
  | isi (x : Str)
  | k (f : He.Fa)
  | gc (x : Str) (d : D)
  | pr (x f : Str)
  | kd (x : Str) (kvs : List (List Nat × D))
  | xf (x f : Str)
  | xi (x : Str)
  | xk (x : Str) (t : String) (b : Bool)
  | xo (x y : Str) (b : Bool)
def xiB (K : PySem.W.Frag) (C : Addr) : Bool := (PySem.W.clsIn K C).isSome && (xfB K C && (eqO (PySem.W.findIn K (.ref C) "__class__") (some (some (.builtin "object.__class__"))) && (eqO (PySem.W.specialIn K (.builtin "object.__class__") "__get__") (some (some (.builtin "getset_descriptor.__get__"))) && (decide (PySem.W.takesIn K (.builtin "object.__class__") = some true) && decide (PySem.W.mroIn K C (.type "object") = some true)))))
def Fl.ok (K : PySem.W.Frag) : Fl → Bool
  | .isi x => isiB K (ga K x)
  | .kwd p ms => kwdB K (fAd K p) ms
  | .nty x t => decide (PySem.W.kitOne K (.ref (ga K x)) (.type t) = some false)
  | .ne x => eqO (PySem.W.findIn K (.ref (ga K x)) "__ne__") (some (some (.builtin "object.__ne__")))
  | .exm x y b => decide (PySem.W.exmOne K (.ref (ga K x)) (.ref (ga K y)) = some b)
  | .xf x f => xfB K (ga K x) && decide (PySem.W.findIn K (.ref (ga K x)) f = some none)
  | .xi x => xiB K (ga K x)
  | .xk x t b => decide (PySem.W.kitOne K (.ref (ga K x)) (.type t) = some b)
  | .xo x y b => decide (PySem.W.kitOne K (.ref (ga K x)) (.ref (ga K y)) = some b)
  | .k f => f.ok K
  | .gc x d => (match PySem.W.nsIn K mainGlobals x with
    | some (some u) => cstB K d u
    | _ => false)
  | .pr x f => prB K x f (pgA K x f).1 (pgA K x f).2
  | .kd x kvs => kvs.all fun q => (match PySem.W.nsIn K (ga K x) ⟨q.1.toArray⟩ with
    | some (some u) => cstB K q.2 u
    | _ => false)
theorem gc_ok {K : PySem.W.Frag} {h : Heap} {mg : Str → Option Value} {x : Str} {d : D} (X : K.In h) (G : h.Ns mainGlobals mg) (c : (Fl.gc x d).ok K = true) : ∃ u v, mg x = some u ∧ RelV v u ∧ ∀ T, Cst K T d v := by
  have c2 : (match PySem.W.nsIn K mainGlobals x with
    | some (some u) => cstB K d u
    | _ => false) = true := c
  cases e : PySem.W.nsIn K mainGlobals x with
  | none => rw [e] at c2; cases c2
  | some o =>
    cases o with
    | none => rw [e] at c2; cases c2
    | some u =>
      rw [e] at c2
      obtain ⟨v, r, k⟩ := cstB_ok d u c2
      exact ⟨u, v, PySem.W.mg_of X G e, r, k⟩
structure DefL where
  at_ : Str × Option Str
  pr : Bool
  name : Str
  qual : Str
  params : Arguments
  body : List Stmt
  scope : Scope
  dfl : List He.Dv := []
  err : Option (Str × Str) := none
def DefL.ad (K : PySem.W.Frag) (d : DefL) : Addr := match d.pr, d.at_ with
  | true, (x, some f) => (pgA K x f).2
  | _, p => fAd K p
def DefL.val (d : DefL) : FnW := some (d.name, d.qual, d.params, .stmts d.body, d.scope, mainGlobals, [], builtinsNs)
def fnL (K : PySem.W.Frag) (a : Addr) : FnW := match K.lookup a with
  | some ⟨_, _, .func g, _⟩ => some (g.name, g.qualname, g.params, g.body, g.scope, g.globals, g.closure, g.builtins)
  | _ => none
def fnE (K : PySem.W.Frag) (a : Addr) : FnW := match K.lookup a with
  | some ⟨_, _, .func g, _⟩ => some (g.name, g.qualname, g.params, g.body, g.scope, g.globals, [], g.builtins)
  | _ => none
def DefL.fw (K : PySem.W.Frag) (d : DefL) : FnW := match d.err with
  | none => fnL K (d.ad K)
  | some _ => fnE K (d.ad K)
def DefL.ok0 (K : PySem.W.Frag) (d : DefL) : Bool := PySem.W.keepIn K (.ref (d.ad K)) && (match K.lookup (d.ad K) with
  | some ⟨_, _, .func g, _⟩ => PySem.W.codeIn K g.code d.qual && He.dflB K g.defaults (d.dfl.map (He.Dv.v K))
  | _ => false)
def DefL.ok (K : PySem.W.Frag) (d : DefL) : Bool := match d.err with
  | none => d.ok0 K
  | some (f, file) => errB K (ga K d.at_.1) (d.ad K) d.qual f file
theorem DefL.funD {K : PySem.W.Frag} {d : DefL} (e : fnL K (d.ad K) = d.val) (c : d.ok0 K = true) : ∃ fd, FunD K d.name d.qual d.params d.body d.scope (d.dfl.map (He.Dv.v K)) [] (d.ad K) fd := by
  obtain ⟨kp, c2⟩ := two c
  unfold fnL at e
  cases q : K.lookup (d.ad K) with
  | none => rw [q] at c2; cases c2
  | some o =>
    obtain ⟨oc, od, dt, osl⟩ := o
    rw [q] at c2 e
    cases dt with
    | func g =>
      obtain ⟨a1, a2, a3, a4, a5, a6, a7, a8, a9, a10, a11, a12, a13, a14, a15⟩ := g
      have said : (some (a1, a2, a3, a4, a5, a6, a7, a15) : FnW) = some (d.name, d.qual, d.params, .stmts d.body, d.scope, mainGlobals, [], builtinsNs) := e
      simp only [Option.some.injEq, Prod.mk.injEq] at said
      obtain ⟨z1, z2, z3, z4, z5, z6, z7, z8⟩ := said
      subst z1 z2 z3 z4 z5 z6 z7 z8
      obtain ⟨k1, k2⟩ := two (show (PySem.W.codeIn K a13 d.qual && He.dflB K a8 (d.dfl.map (He.Dv.v K))) = true from c2)
      exact ⟨_, ⟨oc, od, a8, a9, a10, a11, a12, a13, a14, osl, rfl, q, k1, He.dflB_ok k2, .inl rfl⟩, kp⟩
    | _ => cases c2
abbrev AlL : Type := Bool × List FnW
def obsL (fl : List Fl) (fn : List DefL) (K : PySem.W.Frag) : AlL := ((fl.all fun f => f.ok K) && fn.all fun d => d.ok K, fn.map fun d => d.fw K)
def valL (fn : List DefL) : AlL := (true, fn.map DefL.val)
def SaysL (fl : List Fl) (fn : List DefL) (K : PySem.W.Frag) : Prop := obsL fl fn K = valL fn
theorem SaysL.fact {fl : List Fl} {fn : List DefL} {K : PySem.W.Frag} (c : SaysL fl fn K) (i : Nat) {f : Fl} (h : fl[i]? = some f := by rfl) : f.ok K = true := by
  have c1 := (two (show ((fl.all fun f => f.ok K) && fn.all fun d => d.ok K) = true from congrArg (fun z : AlL => z.1) c)).1
  exact List.all_eq_true.mp c1 f (List.mem_of_getElem? h)
theorem SaysL.def0 {fl : List Fl} {fn : List DefL} {K : PySem.W.Frag} (c : SaysL fl fn K) (i : Nat) {d : DefL} (h : fn[i]? = some d) : d.fw K = d.val ∧ d.ok K = true := by
  have c2 := (two (show ((fl.all fun f => f.ok K) && fn.all fun d => d.ok K) = true from congrArg (fun z : AlL => z.1) c)).2
  have e : fn.map (fun d => d.fw K) = fn.map DefL.val := congrArg (fun z : AlL => z.2) c
  have e2 : (fn.map fun d => d.fw K)[i]? = (fn.map DefL.val)[i]? := by rw [e]
  rw [List.getElem?_map, List.getElem?_map, h] at e2
  exact ⟨Option.some.inj e2, List.all_eq_true.mp c2 d (List.mem_of_getElem? h)⟩
theorem SaysL.def_ {fl : List Fl} {fn : List DefL} {K : PySem.W.Frag} (c : SaysL fl fn K) (i : Nat) {d : DefL} (h : fn[i]? = some d := by rfl) (he : d.err = none := by rfl) : ∃ fd, FunD K d.name d.qual d.params d.body d.scope (d.dfl.map (He.Dv.v K)) [] (d.ad K) fd := by
  obtain ⟨e, k⟩ := c.def0 i h
  unfold DefL.fw at e
  unfold DefL.ok at k
  rw [he] at e k
  exact DefL.funD e k
theorem errBb_ok {b : EB} {K : PySem.W.Frag} {C fI : Addr} {name qual f file a : Str} {params : Arguments} {body : List Stmt} {scope : Scope} (e : fnE K fI = some (name, qual, params, .stmts body, scope, mainGlobals, [], builtinsNs)) (c : errBb b K C fI qual f file = true) (ET : ErrT a f params body scope) : ErrD b K C fI a f file := by
  obtain ⟨c1, c⟩ := two c
  obtain ⟨c2, c⟩ := two c
  obtain ⟨c3, c⟩ := two c
  obtain ⟨c4, c⟩ := two c
  obtain ⟨c5, c⟩ := two c
  obtain ⟨c6, c⟩ := two c
  obtain ⟨c7, c⟩ := two c
  obtain ⟨c8, c⟩ := two c
  obtain ⟨c9, c⟩ := two c
  obtain ⟨c10, c⟩ := two c
  obtain ⟨c11, c⟩ := two c
  obtain ⟨c12, c⟩ := two c
  obtain ⟨c13, c⟩ := two c
  obtain ⟨c14, c15⟩ := two c
  refine ⟨⟨oexB_ok c1, eqO_ok c4, of_decide_eq_true c5, beq_iff_eq.mp c6, c7⟩, c3, eqO_ok c8, beq_iff_eq.mp c9, ?_, of_decide_eq_true c10, eqO_ok c11, eqO_ok c12, eqO_ok c13, of_decide_eq_true c14, eqO_ok c15⟩
  unfold fnE at e
  unfold initB at c2
  cases q : K.lookup fI with
  | none => rw [q] at e; cases e
  | some o =>
    obtain ⟨oc, od, dt, osl⟩ := o
    rw [q] at c2 e
    cases dt with
    | func g =>
      obtain ⟨a1, a2, a3, a4, a5, a6, a7, a8, a9, a10, a11, a12, a13, a14, a15⟩ := g
      have said : (some (a1, a2, a3, a4, a5, a6, ([] : List (Str × Addr)), a15) : FnW) = some (name, qual, params, .stmts body, scope, mainGlobals, [], builtinsNs) := e
      simp only [Option.some.injEq, Prod.mk.injEq] at said
      obtain ⟨z1, z2, z3, z4, z5, z6, z7, z8⟩ := said
      subst z1 z2 z3 z4 z5 z6 z8
      obtain ⟨k1, k⟩ := two c2
      obtain ⟨k2, k⟩ := two k
      obtain ⟨k3, k4⟩ := two k
      dsimp only at k1 k2 k3 k4
      split at k2
      · split at k3
        · skip
          split at k3
          · rename_i ccl cdd vs ccs hco
            split at k3
            · rename_i z tf hz
              split at k4
              · rename_i y cc
                obtain ⟨k5, k6⟩ := two k4
                split at k6
                · rename_i cl cld D csl hcc
                  have e1 := beq_iff_eq.mp k5
                  have e2 := beq_iff_eq.mp k6
                  have e3 := beq_iff_eq.mp k3
                  subst e1 e2 e3
                  exact ⟨oc, od, osl, a1, a2, a3, body, a5, _, _, _, _, _, _, rfl, k1, ⟨_, _, _, _, _, hco, hz⟩, ⟨_, _, _, hcc⟩, ET⟩
                · cases k6
              · cases k4
            · cases k3
          · cases k3
        · cases k3
      · cases k2
    | _ => cases e
theorem errB_ok {K : PySem.W.Frag} {C fI : Addr} {name qual f file a : Str} {params : Arguments} {body : List Stmt} {scope : Scope} (e : fnE K fI = some (name, qual, params, .stmts body, scope, mainGlobals, [], builtinsNs)) (c : errB K C fI qual f file = true) (ET : ErrT a f params body scope) : ErrC K C fI a f file := by
  unfold errB at c
  rw [Bool.or_eq_true, Bool.or_eq_true] at c
  rcases c with c | c | c
  · exact ⟨.v, errBb_ok e c ET⟩
  · exact ⟨.a, errBb_ok e c ET⟩
  · exact ⟨.l, errBb_ok e c ET⟩
theorem SaysL.err_ {fl : List Fl} {fn : List DefL} {K : PySem.W.Frag} (c : SaysL fl fn K) (i : Nat) {d : DefL} {a f file : Str} (h : fn[i]? = some d) (he : d.err = some (f, file)) (ET : ErrT a f d.params d.body d.scope) : ErrC K (ga K d.at_.1) (d.ad K) a f file := by
  obtain ⟨e, k⟩ := c.def0 i h
  unfold DefL.fw at e
  unfold DefL.ok at k
  rw [he] at e k
  exact errB_ok e k ET
structure Bs (fl : List Fl) (fn : List DefL) (K : PySem.W.Frag) (mg : Str → Option Value) : Prop where
  c : SaysL fl fn K
  h : ∃ h : Heap, K.In h ∧ h.Ns mainGlobals mg
section
variable {fl : List Fl} {fn : List DefL} {K : PySem.W.Frag} {mg : Str → Option Value}
theorem Bs.glo (B : Bs fl fn K mg) (i : Nat) {x : Str} (h : fl[i]? = some (.k (.glo x)) := by rfl) : mg x = some (.ref (ga K x)) := by
  obtain ⟨hp, X, G⟩ := B.h
  exact He.glo_ok X G (B.c.fact i h)
theorem Bs.free (B : Bs fl fn K mg) (i : Nat) {x : Str} (h : fl[i]? = some (.k (.free x)) := by rfl) : mg x = none := by
  obtain ⟨hp, X, G⟩ := B.h
  exact He.free_ok X G (B.c.fact i h)
theorem Bs.gc (B : Bs fl fn K mg) (i : Nat) {x : Str} {d : D} (h : fl[i]? = some (.gc x d) := by rfl) : ∃ u v, mg x = some u ∧ RelV v u ∧ ∀ T, Cst K T d v := by
  obtain ⟨hp, X, G⟩ := B.h
  exact gc_ok X G (B.c.fact i h)
theorem Bs.cls (B : Bs fl fn K mg) (i : Nat) {x : Str} (h : fl[i]? = some (.k (.cls x)) := by rfl) : Cls K (ga K x) := He.cls_ok (B.c.fact i h)
theorem Bs.xf (B : Bs fl fn K mg) (i : Nat) {x f : Str} (h : fl[i]? = some (.xf x f) := by rfl) : XfC K (ga K x) ∧ PySem.W.findIn K (.ref (ga K x)) f = some none := by
  obtain ⟨h1, h2⟩ := Bool.and_eq_true_iff.mp (B.c.fact i h)
  exact ⟨xfB_ok h1, of_decide_eq_true h2⟩
theorem Bs.xi (B : Bs fl fn K mg) (i : Nat) {x : Str} (h : fl[i]? = some (.xi x) := by rfl) : xiB K (ga K x) = true := B.c.fact i h
theorem Bs.xk (B : Bs fl fn K mg) (i : Nat) {x : Str} {t : String} {b : Bool} (h : fl[i]? = some (.xk x t b) := by rfl) : PySem.W.kitOne K (.ref (ga K x)) (.type t) = some b := of_decide_eq_true (B.c.fact i h)
theorem Bs.xo (B : Bs fl fn K mg) (i : Nat) {x y : Str} {b : Bool} (h : fl[i]? = some (.xo x y b) := by rfl) : PySem.W.kitOne K (.ref (ga K x)) (.ref (ga K y)) = some b := of_decide_eq_true (B.c.fact i h)
theorem Bs.exm (B : Bs fl fn K mg) (i : Nat) {x y : Str} {b : Bool} (h : fl[i]? = some (.exm x y b) := by rfl) : PySem.W.exmOne K (.ref (ga K x)) (.ref (ga K y)) = some b := of_decide_eq_true (B.c.fact i h)
theorem Bs.nty (B : Bs fl fn K mg) (i : Nat) {x : Str} {t : String} (h : fl[i]? = some (.nty x t) := by rfl) : PySem.W.kitOne K (.ref (ga K x)) (.type t) = some false := of_decide_eq_true (B.c.fact i h)
theorem Bs.ne (B : Bs fl fn K mg) (i : Nat) {x : Str} (h : fl[i]? = some (.ne x) := by rfl) : PySem.W.findIn K (.ref (ga K x)) "__ne__" = some (some (.builtin "object.__ne__")) := eqO_ok (B.c.fact i h)
theorem Bs.isi (B : Bs fl fn K mg) (i : Nat) {x : Str} (h : fl[i]? = some (.isi x) := by rfl) : IsiC K (ga K x) := isiB_ok (B.c.fact i h)
theorem Bs.noat (B : Bs fl fn K mg) (i : Nat) {x f : Str} (h : fl[i]? = some (.k (.noat x f)) := by rfl) : NoAttr K (ga K x) f := He.noat_ok (B.c.fact i h)
theorem Bs.meth (B : Bs fl fn K mg) (i : Nat) {x m : Str} (h : fl[i]? = some (.k (.meth x m)) := by rfl) : Meth K (ga K x) m (ma K (ga K x) m) := He.meth_ok (B.c.fact i h)
theorem Bs.mkr (B : Bs fl fn K mg) (i : Nat) {x : Str} (h : fl[i]? = some (.k (.mkr x)) := by rfl) : Mk K (ga K x) (ma K (ga K x) "__init__") := He.mkr_ok (B.c.fact i h)
theorem Bs.pr (B : Bs fl fn K mg) (i : Nat) {x f : Str} (h : fl[i]? = some (.pr x f) := by rfl) : PropOf K (ga K x) f (pgA K x f).1 (pgA K x f).2 := prB_ok (B.c.fact i h)
end
theorem fe_gc {X : Cx} {T : Tx} {W : WX} {pos : Pos} {x : Str} {d : D} (hg : Gl X x) (h : ∃ u v, X.mg x = some u ∧ RelV v u ∧ ∀ T, Cst X.K T d v) (hd : (x == ("__debug__" : Str)) = false := by decide) : FE X T W (.Name x pos) (eC d) := by
  obtain ⟨u, v, h1, h2, h3⟩ := h
  exact fe_glob hg h1 h2 (h3 T) hd
theorem def_okD {P : Program} {w : World} {K : PySem.W.Frag} {mg : Str → Option Value} {base : Heap} {T : Tx} {x qual : Str} {params : Arguments} {body : List Stmt} {scope : Scope} {dvs : List V} {kws : List (Str × V)} {f : Addr} {fd : FuncData} {N ps : List Str} {k : Nat} {u : FnS} (F : FunD K x qual params body scope dvs kws f fd) (S : FnScope N ps scope)
    (hb : ∀ (cdv : Value) (A : Around) (outer : List Env) (s : Shared) (H : Hp) (E : XK) (W : WX), RoomG k (A.deeper (envOfC qual scope s.heap.objs.size f cdv)) →
      Takes (cxOf (L2.CX P w) P w K mg base N qual scope f cdv A outer s H E) W → FSs (cxOf (L2.CX P w) P w K mg base N qual scope f cdv A outer s H E) T W body u) :
    FnL P w K mg base T (k + 1) f fd ps (runD N.length u) :=
  fnQ_of F S (fun vs H Q E h => h.1) fun cdv A outer s H vs Q E hr h => ⟨_, hb cdv A outer s H E _ hr (takes_of rfl rfl rfl rfl), def_read h⟩
def noH : Hp := fun _ => none
end L3
set_option autoImplicit false
set_option maxHeartbeats 4000000
namespace L3
open PySem PySem.Spec L2
theorem addI (i j : Int) (h : Hh) : addD (.int i) (.int j) h = .ok (.int (i + j)) h := rfl
theorem subI (i j : Int) (h : Hh) : subD (.int i) (.int j) h = .ok (.int (i - j)) h := rfl
theorem negI (i : Int) (h : Hh) : negD (.int i) h = .ok (.int (-i)) h := rfl
theorem mulL {i j : Int} (h : Hh) (h1 : -18446744073709551616 < i) (h2 : i < 18446744073709551616) : mulD (.int i) (.int j) h = .ok (.int (i * j)) h := by
  have e : mulOk i j = true := by
    unfold mulOk
    simp only [Bool.or_eq_true, Bool.and_eq_true, decide_eq_true_eq]
    exact .inl (.inl ⟨by omega, by omega⟩)
  show (if mulOk i j = true then R.ok (D.int (i * j)) h else .stk) = _
  rw [if_pos e]
theorem mulR {i j : Int} (h : Hh) (h1 : -18446744073709551616 < j) (h2 : j < 18446744073709551616) : mulD (.int i) (.int j) h = .ok (.int (i * j)) h := by
  have e : mulOk i j = true := by
    unfold mulOk
    simp only [Bool.or_eq_true, Bool.and_eq_true, decide_eq_true_eq]
    exact .inl (.inr ⟨by omega, by omega⟩)
  show (if mulOk i j = true then R.ok (D.int (i * j)) h else .stk) = _
  rw [if_pos e]
theorem divI {i j : Int} (h : Hh) (h1 : 0 < j) (h2 : j < 18446744073709551616) : divD (.int i) (.int j) h = .ok (.int (i / j)) h := by
  show (if 0 < j ∧ j.natAbs.log2 < 9000 then R.ok (D.int (i / j)) h else .stk) = _
  rw [if_pos ⟨h1, (wide_div (i := i) (b := 64) h1 (by omega) (by decide) (by decide)).2⟩]
theorem modI {i j : Int} (h : Hh) (h1 : 0 < j) : modD (.int i) (.int j) h = .ok (.int (i % j)) h := by
  show (if 0 < j then R.ok (D.int (i % j)) h else .stk) = _
  rw [if_pos h1]
theorem ltI (i j : Int) (h : Hh) : ltD (.int i) (.int j) h = .ok (.bl (decide (i < j))) h := rfl
theorem leI (i j : Int) (h : Hh) : leD (.int i) (.int j) h = .ok (.bl (decide (i ≤ j))) h := rfl
theorem gtI (i j : Int) (h : Hh) : gtD (.int i) (.int j) h = .ok (.bl (decide (j < i))) h := rfl
theorem geI (i j : Int) (h : Hh) : geD (.int i) (.int j) h = .ok (.bl (decide (j ≤ i))) h := rfl
theorem eqvI (i j : Int) : eqv (.int i) (.int j) = decide (i = j) := by simp [eqv, pd, PyData.eqv]; rfl
theorem eqI (i j : Int) (h : Hh) : eqD (.int i) (.int j) h = .ok (.bl (decide (i = j))) h := by
  simp [eqD, deref, flat, eqvI]
theorem neI (i j : Int) (h : Hh) : neD (.int i) (.int j) h = .ok (.bl (!decide (i = j))) h := by
  simp [neD, deref, flat, eqvI]
theorem flats_ints (k : Nat) : ∀ xs : List Int, flats k (xs.map D.int) = true
  | [] => by simp [flats]
  | x :: xs => by simp [flats, flat, flats_ints k xs]
theorem eqv_nil (ds : List D) : eqv (.lst ds) (.lst []) = ds.isEmpty := by
  cases ds <;> simp [eqv, pd, pds, PyData.eqv, PyData.eqvAll]
theorem neNil {h : Hh} {n : Nat} {xs : List Int} (e : h[n]? = some (.lst (xs.map D.int))) : neD (.ref n) (.lst []) h = .ok (.bl (!xs.isEmpty)) h := by
  have d : deref h (.ref n) = .lst (xs.map D.int) := by unfold deref; dsimp only; rw [e]
  have f : flat 60 (D.lst (xs.map D.int)) = true := by simp only [flat]; exact flats_ints 59 xs
  have f0 : flat 60 (D.lst []) = true := by simp [flat, flats]
  have d0 : deref h (.lst []) = .lst [] := rfl
  unfold neD
  rw [d, d0, if_pos ⟨f, f0⟩, eqv_nil]
  cases xs <;> rfl
theorem ixDic {h : Hh} {n : Nat} {ks vs : List D} {x : D} (e : h[n]? = some (.dic ks vs)) (hx : isKey x = true) : ixA (.ref n) x h = optR (lookD ks vs x) h := by
  have a : asDic h (.ref n) = some (ks, vs) := by unfold asDic; dsimp only; rw [e]
  unfold ixA
  rw [a]
  simp only [hx, if_true]
theorem ixLstR {h : Hh} {n : Nat} {ds : List D} {x : D} (e : h[n]? = some (.lst ds)) : ixA (.ref n) x h = ixD (.lst ds) x h := by
  have a : asDic h (.ref n) = none := by unfold asDic; dsimp only; rw [e]
  have l : asL h (.ref n) = some ds := by unfold asL; dsimp only; rw [e]
  unfold ixA
  rw [a]
  have l2 : asL h (.lst ds) = some ds := rfl
  cases x <;> simp only [ixD, l, l2]
theorem ixTup {ds : List D} {x : D} {h : Hh} : ixA (.tup ds) x h = ixD (.tup ds) x h := rfl
theorem ixLst {ds : List D} {x : D} {h : Hh} : ixA (.lst ds) x h = ixD (.lst ds) x h := rfl
theorem atI_some {α : Type} {xs : List α} {i : Int} {d : α} (h0 : 0 ≤ i) (e : xs[i.toNat]? = some d) : atI xs i = some d := by
  have hl := (List.getElem?_eq_some_iff.mp e).1
  unfold atI ixN
  rw [if_pos h0, if_pos (by omega)]
  exact e
theorem ixTupAt {ds : List D} {i : Int} {d : D} {h : Hh} (h0 : 0 ≤ i) (e : ds[i.toNat]? = some d) : ixA (.tup ds) (.int i) h = .ok d h := by
  rw [ixTup]; unfold ixD; dsimp only; rw [atI_some h0 e]
theorem ixLstAt {ds : List D} {i : Int} {d : D} {h : Hh} (h0 : 0 ≤ i) (e : ds[i.toNat]? = some d) : ixA (.lst ds) (.int i) h = .ok d h := by
  rw [ixLst]
  have a : asL h (.lst ds) = some ds := rfl
  unfold ixD
  simp only [a, atI_some h0 e]
theorem ixRefAt {h : Hh} {n : Nat} {ds : List D} {i : Int} {d : D} (e : h[n]? = some (.lst ds)) (h0 : 0 ≤ i) (e2 : ds[i.toNat]? = some d) : ixA (.ref n) (.int i) h = .ok d h := by
  rw [ixLstR e, ← ixLst]
  exact ixLstAt h0 e2
theorem tup0 {a0 : D} {r : List D} {h : Hh} : ixA (.tup (a0 :: r)) (.int 0) h = .ok a0 h := ixTupAt (by omega) rfl
theorem tup1 {a0 a1 : D} {r : List D} {h : Hh} : ixA (.tup (a0 :: a1 :: r)) (.int 1) h = .ok a1 h := ixTupAt (by omega) rfl
theorem tup2 {a0 a1 a2 : D} {r : List D} {h : Hh} : ixA (.tup (a0 :: a1 :: a2 :: r)) (.int 2) h = .ok a2 h := ixTupAt (by omega) rfl
theorem tup3 {a0 a1 a2 a3 : D} {r : List D} {h : Hh} : ixA (.tup (a0 :: a1 :: a2 :: a3 :: r)) (.int 3) h = .ok a3 h := ixTupAt (by omega) rfl
theorem tup4 {a0 a1 a2 a3 a4 : D} {r : List D} {h : Hh} : ixA (.tup (a0 :: a1 :: a2 :: a3 :: a4 :: r)) (.int 4) h = .ok a4 h := ixTupAt (by omega) rfl
theorem tup5 {a0 a1 a2 a3 a4 a5 : D} {r : List D} {h : Hh} : ixA (.tup (a0 :: a1 :: a2 :: a3 :: a4 :: a5 :: r)) (.int 5) h = .ok a5 h := ixTupAt (by omega) rfl
theorem lst0 {a0 : D} {r : List D} {h : Hh} : ixA (.lst (a0 :: r)) (.int 0) h = .ok a0 h := ixLstAt (by omega) rfl
theorem lst1 {a0 a1 : D} {r : List D} {h : Hh} : ixA (.lst (a0 :: a1 :: r)) (.int 1) h = .ok a1 h := ixLstAt (by omega) rfl
theorem lst2 {a0 a1 a2 : D} {r : List D} {h : Hh} : ixA (.lst (a0 :: a1 :: a2 :: r)) (.int 2) h = .ok a2 h := ixLstAt (by omega) rfl
theorem lst3 {a0 a1 a2 a3 : D} {r : List D} {h : Hh} : ixA (.lst (a0 :: a1 :: a2 :: a3 :: r)) (.int 3) h = .ok a3 h := ixLstAt (by omega) rfl
theorem intB1 (i : Int) (h : Hh) : intB [.int i] h = .ok (.int i) h := rfl
theorem intB2 (b : Bool) (h : Hh) : intB [.bl b] h = .ok (.int (if b then 1 else 0)) h := rfl
theorem lenTup (ds : List D) (h : Hh) : lenB [.tup ds] h = .ok (.int ds.length) h := rfl
theorem lenLst (ds : List D) (h : Hh) : lenB [.lst ds] h = .ok (.int ds.length) h := rfl
theorem lenScr (ds : List D) (h : Hh) : lenB [.scr ds] h = .ok (.int ds.length) h := rfl
theorem lenRef {h : Hh} {n : Nat} {ds : List D} (e : h[n]? = some (.lst ds)) : lenB [.ref n] h = .ok (.int ds.length) h := by
  show lenD (.ref n) h = _
  have l : asL h (.ref n) = some ds := by unfold asL; dsimp only; rw [e]
  unfold lenD
  simp only [l]
theorem setRef {h : Hh} {n : Nat} {ds : List D} {i : Int} {y : D} (e : h[n]? = some (.lst ds)) (h0 : 0 ≤ i) (h1 : i < ds.length) : setOne (.ref n) (.int i) y h = some (h.set n (.lst (ds.set i.toNat y))) := by
  unfold setOne ixN
  dsimp only
  rw [e]
  dsimp only
  rw [if_pos h0, if_pos h1]
theorem setDic {h : Hh} {n : Nat} {ks vs : List D} {i y : D} (e : h[n]? = some (.dic ks vs)) (h0 : isKey i = true) (h1 : ks.length < 1000000) : setOne (.ref n) i y h = some (h.set n (.dic (putKs ks i) (putVs ks vs i y))) := by
  unfold setOne
  dsimp only
  rw [e]
  dsimp only
  rw [if_pos ⟨h0, h1⟩]
def Keep (h h' : Hh) : Prop := h.length ≤ h'.length ∧ ∀ j, j < h.length → h'[j]? = h[j]?
theorem Keep.refl (h : Hh) : Keep h h := ⟨Nat.le_refl _, fun _ _ => rfl⟩
theorem Keep.trans {h h1 h2 : Hh} (a : Keep h h1) (b : Keep h1 h2) : Keep h h2 := ⟨Nat.le_trans a.1 b.1, fun j hj => (b.2 j (Nat.lt_of_lt_of_le hj a.1)).trans (a.2 j hj)⟩
theorem Keep.app (h t : Hh) : Keep h (h ++ t) := ⟨by simp, fun j hj => List.getElem?_append_left hj⟩
theorem bindOk {α β : Type} (x : α) (h : Hh) (k : α → Hh → R β) : (R.ok x h).bind k = k x h := rfl
theorem bindExc {α β : Type} (c : Nat) (ds : List D) (h : Hh) (k : α → Hh → R β) : (R.exc (α := α) c ds h).bind k = .exc c ds h := rfl
theorem bindStk {α β : Type} (k : α → Hh → R β) : (R.stk (α := α)).bind k = .stk := rfl
theorem toSOk {α : Type} (x : α) (h : Hh) (δ : De) (k : α → Hh → RS) : (R.ok x h).toS δ k = k x h := rfl
theorem toSExc {α : Type} (c : Nat) (ds : List D) (h : Hh) (δ : De) (k : α → Hh → RS) : (R.exc (α := α) c ds h).toS δ k = .exc c ds δ h := rfl
def seqK (r : RS) (v : FnS) : RS := match r with
  | .nx δ' h' => v δ' h'
  | r => r
theorem seqE (u v : FnS) (δ : De) (h : Hh) : sSeq u v δ h = seqK (u δ h) v := by
  unfold sSeq seqK; cases u δ h <;> rfl
theorem seqNx (δ : De) (h : Hh) (v : FnS) : seqK (.nx δ h) v = v δ h := rfl
theorem seqRt (d : D) (h : Hh) (v : FnS) : seqK (.rt d h) v = .rt d h := rfl
theorem seqExc (c : Nat) (ds : List D) (δ : De) (h : Hh) (v : FnS) : seqK (.exc c ds δ h) v = .exc c ds δ h := rfl
theorem endRt (d : D) (h : Hh) : endD (.rt d h) = .ok d h := rfl
theorem endNx (δ : De) (h : Hh) : endD (.nx δ h) = .ok .non h := rfl
theorem endExc (c : Nat) (ds : List D) (δ : De) (h : Hh) : endD (.exc c ds δ h) = .exc c ds h := rfl
def lcC (r : R D) (k : Hh → R (List D)) : R (List D) := match r with
  | .ok y h2 => (k h2).bind fun ys h3 => .ok (y :: ys) h3
  | _ => .stk
def lcB (r : R Bool) (e : Hh → R D) (k : Hh → R (List D)) : R (List D) := match r with
  | .ok b h1 => if b = true then lcC (e h1) k else k h1
  | _ => .stk
def lcA (o : Option De) (t : FnT) (e : FnE) (k : Hh → R (List D)) (h : Hh) : R (List D) := match o with
  | none => .stk
  | some δ1 => lcB (t δ1 h) (e δ1) k
theorem lcNil (g : FnG) (t : FnT) (e : FnE) (δ : De) (h : Hh) : lcs g t e δ [] h = .ok [] h := rfl
theorem lcCons (g : FnG) (t : FnT) (e : FnE) (δ : De) (d : D) (ds : List D) (h : Hh) : lcs g t e δ (d :: ds) h = lcA (g d δ) t e (fun h => lcs g t e δ ds h) h := by
  show (match g d δ with
    | none => R.stk
    | some δ1 => match t δ1 h with
      | .ok b h1 => if b = true then
          match e δ1 h1 with
          | .ok y h2 => (lcs g t e δ ds h2).bind fun ys h3 => .ok (y :: ys) h3
          | _ => .stk
        else lcs g t e δ ds h1
      | _ => .stk) = _
  unfold lcA lcB lcC
  cases g d δ with
  | none => rfl
  | some δ1 => rfl
theorem lcAS (δ1 : De) (t : FnT) (e : FnE) (k : Hh → R (List D)) (h : Hh) : lcA (some δ1) t e k h = lcB (t δ1 h) (e δ1) k := rfl
theorem lcBT (h1 : Hh) (e : Hh → R D) (k : Hh → R (List D)) : lcB (.ok true h1) e k = lcC (e h1) k := rfl
theorem lcBF (h1 : Hh) (e : Hh → R D) (k : Hh → R (List D)) : lcB (.ok false h1) e k = k h1 := rfl
theorem lcCO (y : D) (h2 : Hh) (k : Hh → R (List D)) : lcC (.ok y h2) k = (k h2).bind fun ys h3 => .ok (y :: ys) h3 := rfl
def loK (r : RS) (k : De → Hh → RS) : RS := match r with
  | .nx δ2 h2 => k δ2 h2
  | .ct δ2 h2 => k δ2 h2
  | .bk δ2 h2 => .nx δ2 h2
  | r => r
def loA (o : Option De) (u : FnS) (k : De → Hh → RS) (h : Hh) : RS := match o with
  | none => .stk
  | some δ1 => loK (u δ1 h) k
theorem loNil (g : FnG) (u : FnS) (δ : De) (h : Hh) : loop3 g u [] δ h = .nx δ h := rfl
theorem loCons (g : FnG) (u : FnS) (d : D) (ds : List D) (δ : De) (h : Hh) : loop3 g u (d :: ds) δ h = loA (g d δ) u (fun δ h => loop3 g u ds δ h) h := by
  show (match g d δ with
    | none => RS.stk
    | some δ1 => match u δ1 h with
      | .nx δ2 h2 => loop3 g u ds δ2 h2
      | .ct δ2 h2 => loop3 g u ds δ2 h2
      | .bk δ2 h2 => .nx δ2 h2
      | r => r) = _
  unfold loA loK
  cases g d δ with
  | none => rfl
  | some δ1 => rfl
theorem loAS (δ1 : De) (u : FnS) (k : De → Hh → RS) (h : Hh) : loA (some δ1) u k h = loK (u δ1 h) k := rfl
theorem loNx (δ : De) (h : Hh) (k : De → Hh → RS) : loK (.nx δ h) k = k δ h := rfl
theorem loCt (δ : De) (h : Hh) (k : De → Hh → RS) : loK (.ct δ h) k = k δ h := rfl
theorem loBk (δ : De) (h : Hh) (k : De → Hh → RS) : loK (.bk δ h) k = .nx δ h := rfl
theorem loRt (d : D) (h : Hh) (k : De → Hh → RS) : loK (.rt d h) k = .rt d h := rfl
theorem clsObj (c : Nat) (ds : List D) (h : Hh) : clsOf h (.obj c ds) = some c := rfl
theorem set_last (h : Hh) (o u : O) : (h ++ [o]).set h.length u = h ++ [u] := by simp
theorem get_last (h : Hh) (o : O) : (h ++ [o])[h.length]? = some o := by simp
theorem optS (d : D) (h : Hh) : optR (some d) h = .ok d h := rfl
end L3
set_option autoImplicit false
set_option maxHeartbeats 4000000
namespace L3
open PySem PySem.Spec L2
mutual
def smallD : D → Bool
  | .int i => decide (i.natAbs < 10 ^ 40)
  | .str x => x.all fun c => decide (c < 16 ^ 8)
  | .tup ds => smallDs ds
  | .lst ds => smallDs ds
  | _ => true
def smallDs : List D → Bool
  | [] => true
  | d :: ds => smallD d && smallDs ds
end
mutual
def wtD : D → Nat
  | .int _ => 140
  | .str x => x.length
  | .tup ds => wtDs ds
  | .lst ds => wtDs ds
  | _ => 0
def wtDs : List D → Nat
  | [] => 0
  | d :: ds => wtD d + 1 + wtDs ds
end
mutual
theorem small_ok : ∀ (d : D) (k : Nat), flat k d = true → smallD d = true → (pd d).showable = true ∧ (pd d).leavesShort 41 = true ∧ (pd d).weight ≤ wtD d ∧ (pd d).hasDict = false
  | .non, _, _, _ => ⟨rfl, rfl, Nat.zero_le _, rfl⟩
  | .bl _, _, _, _ => by simp [pd, PyData.showable, PyData.leavesShort, PyData.weight, PyData.hasDict]
  | .int i, _, _, s => by
    have s' : i.natAbs < 10 ^ 40 := by simpa [smallD] using s
    have e := int_text_length_le10 (k := 40) (by decide) s'
    have e2 : (PyData.shown (.int i)).length ≤ 41 := by
      show (Str.ofString (toString i)).length ≤ 41
      rw [ofString_length]; exact e
    have big : (10 : Nat) ^ 40 < 2 ^ 139 := by decide
    have lg : i.natAbs = 0 ∨ i.natAbs.log2 < 139 := by
      by_cases z : i.natAbs = 0
      · exact .inl z
      · exact .inr ((Nat.log2_lt z).mpr (by omega))
    have lg2 : i.natAbs.log2 < 139 := by
      rcases lg with z | z
      · rw [z]; decide
      · exact z
    refine ⟨?_, ?_, ?_, ?_⟩
    · simp only [pd, PyData.showable, decide_eq_true_eq]; omega
    · simp only [pd, PyData.leavesShort, decide_eq_true_eq]; exact e2
    · simp only [pd, PyData.weight, wtD]; split <;> omega
    · simp only [pd, PyData.hasDict]
  | .str x, _, _, s => by
    refine ⟨?_, ?_, ?_, ?_⟩
    · simp only [pd, PyData.showable]
    · simp only [pd, PyData.leavesShort]; simpa [smallD] using s
    · simp [pd, PyData.weight, wtD]
    · simp only [pd, PyData.hasDict]
  | .tup ds, 0, h, _ => nomatch (show false = true by simpa [flat] using h)
  | .tup ds, k + 1, h, s => by
    obtain ⟨a, b, c, e⟩ := smalls_ok ds k (by simpa [flat] using h) (by simpa [smallD] using s)
    refine ⟨?_, ?_, ?_, ?_⟩
    · simp only [pd, PyData.showable]; exact a
    · simp only [pd, PyData.leavesShort]; exact b
    · simp only [pd, PyData.weight, wtD]; exact c
    · simp only [pd, PyData.hasDict]; exact e
  | .lst ds, 0, h, _ => nomatch (show false = true by simpa [flat] using h)
  | .lst ds, k + 1, h, s => by
    obtain ⟨a, b, c, e⟩ := smalls_ok ds k (by simpa [flat] using h) (by simpa [smallD] using s)
    refine ⟨?_, ?_, ?_, ?_⟩
    · simp only [pd, PyData.showable]; exact a
    · simp only [pd, PyData.leavesShort]; exact b
    · simp only [pd, PyData.weight, wtD]; exact c
    · simp only [pd, PyData.hasDict]; exact e
  | .dic _ _, k, h, _ => by cases k <;> exact nomatch (show false = true by simpa [flat] using h)
  | .obj _ _, k, h, _ => by cases k <;> exact nomatch (show false = true by simpa [flat] using h)
  | .ref _, k, h, _ => by cases k <;> exact nomatch (show false = true by simpa [flat] using h)
  | .scr _, k, h, _ => by cases k <;> exact nomatch (show false = true by simpa [flat] using h)
theorem smalls_ok : ∀ (ds : List D) (k : Nat), flats k ds = true → smallDs ds = true → PyData.showableAll (pds ds) = true ∧ PyData.leavesShortAll 41 (pds ds) = true ∧ PyData.weightAll (pds ds) ≤ wtDs ds ∧ PyData.hasDictAll (pds ds) = false
  | [], _, _, _ => ⟨rfl, rfl, Nat.le_refl _, rfl⟩
  | d :: ds, k, h, s => by
    have h' : flat k d = true ∧ flats k ds = true := by simpa [flats] using h
    have s' : smallD d = true ∧ smallDs ds = true := by simpa [smallDs] using s
    obtain ⟨a, b, c, e⟩ := small_ok d k h'.1 s'.1
    obtain ⟨a', b', c', e'⟩ := smalls_ok ds k h'.2 s'.2
    refine ⟨?_, ?_, ?_, ?_⟩
    · simp only [pds, PyData.showableAll, a, a', Bool.and_self]
    · simp only [pds, PyData.leavesShortAll, b, b', Bool.and_self]
    · simp only [pds, PyData.weightAll, wtDs]; omega
    · simp only [pds, PyData.hasDictAll, e, e', Bool.or_self]
end
def showL (d : D) : List Nat := (pd d).shown.cps.toList
def reprD (x : D) (h : Hh) : R D := if (flat 60 (deref h x) && (smallD (deref h x) && decide (wtD (deref h x) ≤ 300000))) = true then .ok (.str (showL (deref h x))) h else .stk
abbrev reprB : FB := one reprD
section
variable {X : Cx} {T : Tx} {W : WX} {pos : Pos}
def rRepr (K : PySem.W.Frag) : List V → Hp → VK → Prop := fun xs H Q => ∃ x d, xs = [x] ∧ Dp K H x d ∧ d.showable = true ∧ d.hasDict = false ∧ d.depth ≤ 60 ∧ d.shown.length ≤ sizeLine ∧ Q (.str d.shown) H
theorem call_reprP (hu : X.A.units + 64 < cLine) (hg : X.A.guards = some []) : CallR X (.builtin "repr") (rRepr X.K) := by
  intro pins s σ H xs us Q I r h
  obtain ⟨x, d, rfl, dp, hs, hd, hn, hz, q⟩ := h
  obtain ⟨u, rfl, ru⟩ := vals1 r
  obtain ⟨as, rd⟩ := Dp.reads I d x u dp ru
  cases rd with
  | none => exact PySem.P.repr_of_none ⟨.str "None", H, I.tok _, ⟨_, rfl⟩, q⟩
  | bool b => exact PySem.P.repr_of_bool ⟨.str _, H, I.tok _, ⟨_, rfl⟩, q⟩
  | int i t => exact PySem.P.repr_of_int (by simpa [PyData.showable] using hs) ⟨.str _, H, I.tok _, ⟨_, rfl⟩, q⟩
  | str y t => exact PySem.P.repr_of_str ⟨.str _, H, I.tok _, ⟨_, rfl⟩, q⟩ (by simpa only [PyData.shown] using hz)
  | list h1 h2 h3 h4 => exact repr_of_reads' (.list h1 h2 h3 h4) hs (PyData.noDict_hsm hd) hg (by omega) (fun _ _ e => e) (fun h' v tk hk => ⟨.str _, H, I.kept hk, ⟨_, rfl⟩, q⟩) hz
  | tuple h1 h2 h3 h4 => exact repr_of_reads' (.tuple h1 h2 h3 h4) hs (PyData.noDict_hsm hd) hg (by omega) (fun _ _ e => e) (fun h' v tk hk => ⟨.str _, H, I.kept hk, ⟨_, rfl⟩, q⟩) hz
  | dict => exact absurd hd (by simp [PyData.hasDict])
theorem cs_repr : CallS X T (rRepr X.K) reprB := by
  intro W G h H σ ds vs Q r d o
  match ds, vs, d with
  | [], _, _ => exact o.elim
  | _ :: _ :: _, _, _ => exact o.elim
  | [x], [v], .cons d1 .nil =>
    have o : okR X.K T W G σ (RD X.K T) (reprD x h) Q := o
    unfold reprD at o
    by_cases c : (flat 60 (deref h x) && (smallD (deref h x) && decide (wtD (deref h x) ≤ 300000))) = true
    · rw [if_pos c] at o
      simp only [Bool.and_eq_true, decide_eq_true_eq] at c
      obtain ⟨p1, n1⟩ := flat_pd _ _ c.1
      obtain ⟨z1, z2, z3, z4⟩ := small_ok _ _ c.1 c.2.1
      have len := PyData.shown_le 41 (by decide) _ z2
      refine ⟨v, pd (deref h x), rfl, deref_dp r d1 c.1, z1, z4, n1, ?_, ?_⟩
      · rw [sizeLine_eq]; omega
      · have e : (pd (deref h x)).shown = ⟨(showL (deref h x)).toArray⟩ := by simp [showL]
        rw [e]
        exact o.at r .str
    · rw [if_neg c] at o; exact o.elim
end
theorem neStr (a b : List Nat) (h : Hh) : neD (.str a) (.str b) h = .ok (.bl (!decide (a = b))) h := by
  have e : eqv (.str a) (.str b) = decide (a = b) := by
    simp only [eqv, pd, PyData.eqv]
    by_cases c : a = b
    · subst c; simp
    · have : ¬ (⟨a.toArray⟩ : Str) = ⟨b.toArray⟩ := fun z => c (by simpa using congrArg (fun y : Str => y.cps.toList) z)
      simp [c]
  simp [neD, deref, flat, e]
end L3
set_option autoImplicit false
set_option maxHeartbeats 4000000
namespace L3
open PySem PySem.Spec L2 PyProof.Rows
section
variable {X : Cx} {T : Tx} {W : WX} {pos p2 : Pos} {e st : Expr} {te : TE} {ts : TO}
end
end L3
set_option autoImplicit false
set_option maxHeartbeats 4000000
namespace L3
open PySem PySem.Spec L2
section
variable {X : Cx} {T : Tx} {W : WX} {pos : Pos}
inductive Wk where
  | im (ds : List D)
  | hp (n : Nat)
  | zp (x y : D)
  | en (n : Nat)
def seqS (h : Hh) : D → Option (List D)
  | .ref n => match h[n]? with
    | some (.lst ds) => some ds
    | _ => none
  | d => (immS d).map (·.2)
def look (w : Wk) (h : Hh) : Option (List D) := match w with
  | .im ds => some ds
  | .hp n => match h[n]? with
    | some (.lst ds) => some ds
    | _ => none
  | .zp x y => match seqS h x, seqS h y with
    | some xs, some ys => some (zipL xs ys)
    | _, _ => none
  | .en n => match h[n]? with
    | some (.lst ds) => some (enumL 0 ds)
    | _ => none
def Walk4 (K : PySem.W.Frag) (T : Tx) (J : It) (G : Gst) (w : Wk) : Prop := ∀ (i : Nat) G2 h2 H2 ds, Ext0 G G2 → Rel K T G2 h2 H2 → look w h2 = some ds →
  (∀ d, ds[i]? = some d → J.go i H2 ∧ ∀ x H3, J.yld i H2 x H3 → ∃ G3, Ext G2 G3 ∧ Rel K T G3 h2 H3 ∧ RD K T G3 d x) ∧ (i = ds.length → J.stop i H2)
abbrev FnW := De → Hh → R Wk
def tW4 (K : PySem.W.Frag) (T : Tx) (W : WX) (f : FnW) : TI := fun σ H Q => ∃ G h δ, Rel K T G h H ∧ RSl K T G δ σ ∧ okR K T W G σ (fun G w J => Walk4 K T J G w) (f δ h) Q
abbrev FWk (X : Cx) (T : Tx) (W : WX) (tg e : Expr) (f : FnW) : Prop := PI X tg e (tW4 X.K T W f)
def wSeq (f : FnE) : FnW := fun δ h => (f δ h).bind fun x h1 => match x with
  | .tup ds => .ok (.im ds) h1
  | .lst ds => .ok (.im ds) h1
  | .scr ds => .ok (.im ds) h1
  | .ref n => match h1[n]? with
    | some (.lst _) => .ok (.hp n) h1
    | _ => .stk
  | _ => .stk
theorem walk_tup4 {K : PySem.W.Frag} {G : Gst} {a : Addr} {ds : List D} {vs : List V} (q1 : SqT K G.fz a vs) (q2 : RDs K T G ds vs) : Walk4 K T (Itt K a) G (.im ds) := fun i G2 h2 H2 es x r e => by
  cases e
  have z : SqT K H2 a vs := SqT.sub r.sub (SqT.sub x.fz q1)
  refine ⟨fun d e => ?_, fun hl => ⟨vs, z, by rw [← q2.length]; omega⟩⟩
  obtain ⟨v, ev, dv⟩ := q2.get e
  exact ⟨⟨vs, v, z, ev⟩, fun y H3 ⟨e1, e2⟩ => by
    subst e1
    have := e2 vs z
    rw [ev] at this; cases this
    exact ⟨G2, Ext.refl G2, r, dv.mono0 x⟩⟩
theorem walk_lst4 {K : PySem.W.Frag} {G : Gst} {a : Addr} {ds : List D} {vs : List V} (q1 : SqL K G.fz a vs) (q2 : RDs K T G ds vs) : Walk4 K T (Itl K a) G (.im ds) := fun i G2 h2 H2 es x r e => by
  cases e
  have z : SqL K H2 a vs := SqL.sub r.sub (SqL.sub x.fz q1)
  refine ⟨fun d e => ?_, fun hl => ⟨vs, z, by rw [← q2.length]; omega⟩⟩
  obtain ⟨v, ev, dv⟩ := q2.get e
  exact ⟨⟨vs, v, z, ev⟩, fun y H3 ⟨e1, e2⟩ => by
    subst e1
    have := e2 vs z
    rw [ev] at this; cases this
    exact ⟨G2, Ext.refl G2, r, dv.mono0 x⟩⟩
theorem walk_ref4 {K : PySem.W.Frag} {G : Gst} {a : Addr} {n : Nat} (q : G.ι[n]? = some a) : Walk4 K T (Itl K a) G (.hp n) := fun i G2 h2 H2 es x r e => by
  have d : RD K T G2 (.ref n) (.ref a) := (RD.ref q).mono0 x
  have el : asL h2 (.ref n) = some es := by
    unfold look at e; unfold asL; dsimp only at e ⊢
    cases z : h2[n]? with
    | none => rw [z] at e; cases e
    | some o =>
      rw [z] at e
      cases o with
      | lst ds => exact e
      | _ => cases e
  obtain ⟨a', vs, e1, e2, q2⟩ := asL_ok r d el
  cases e1
  have z : SqL K H2 a vs := .inl (.inl e2)
  refine ⟨fun d e => ?_, fun hl => ⟨vs, z, by rw [← q2.length]; omega⟩⟩
  obtain ⟨v, ev, dv⟩ := q2.get e
  exact ⟨⟨vs, v, z, ev⟩, fun y H3 ⟨e1, e2⟩ => by
    subst e1
    have := e2 vs z
    rw [ev] at this; cases this
    exact ⟨G2, Ext.refl G2, r, dv⟩⟩
theorem fw_seq {tg e : Expr} {f : FnE} (he : FE X T W e f) : FWk X T W tg e (wSeq f) := by
  refine PI.imp (PI.or (pi_tup he) (pi_list he)) fun σ H Q => ?_
  rintro ⟨G, h0, δ, r, s, o⟩
  cases ef : f δ h0 with
  | stk => unfold wSeq at o; rw [ef] at o; exact o.elim
  | exc c ds h' =>
    unfold wSeq at o; rw [ef] at o
    refine .inl ⟨G, h0, δ, r, s, ?_⟩
    rw [ef]; exact o
  | ok x h' =>
    unfold wSeq at o
    rw [ef] at o
    cases x with
    | tup ds =>
      refine .inl ⟨G, h0, δ, r, s, ?_⟩
      rw [ef]
      intro G' H' v x r' d
      cases d with
      | @tup _ a vs q1 q2 => exact ⟨a, rfl, ⟨vs, SqT.sub r'.sub q1⟩, o G' H' _ x r' (walk_tup4 q1 q2)⟩
    | lst ds =>
      refine .inr ⟨G, h0, δ, r, s, ?_⟩
      rw [ef]
      intro G' H' v x r' d
      cases d with
      | @lst _ a vs q1 q2 => exact ⟨a, rfl, ⟨vs, .inl (.inl (r'.sub _ _ q1))⟩, o G' H' _ x r' (walk_lst4 (.inl (.inl q1)) q2)⟩
    | scr ds =>
      refine .inr ⟨G, h0, δ, r, s, ?_⟩
      rw [ef]
      intro G' H' v x r' d
      cases d with
      | @scr _ a vs q1 q2 => exact ⟨a, rfl, ⟨vs, SqL.sub r'.sub q1⟩, o G' H' _ x r' (walk_lst4 q1 q2)⟩
    | ref n =>
      refine .inr ⟨G, h0, δ, r, s, ?_⟩
      rw [ef]
      intro G' H' v x r' d
      cases z : h'[n]? with
      | none =>
        have o' : okR X.K T W G σ (fun G w J => Walk4 X.K T J G w) (match h'[n]? with | some (.lst _) => R.ok (Wk.hp n) h' | _ => .stk) Q := o
        rw [z] at o'; exact o'.elim
      | some ob =>
        have o' : okR X.K T W G σ (fun G w J => Walk4 X.K T J G w) (match h'[n]? with | some (.lst _) => R.ok (Wk.hp n) h' | _ => .stk) Q := o
        rw [z] at o'
        cases ob with
        | lst ds =>
          have el : asL h' (.ref n) = some ds := by unfold asL; dsimp only; rw [z]
          obtain ⟨a', vs, e1, e2, q2⟩ := asL_ok r' d el
          subst e1
          cases d with
          | @ref _ _ q => exact ⟨_, rfl, ⟨vs, .inl (.inl e2)⟩, o' G' H' _ x r' (walk_ref4 q)⟩
        | _ => exact o'.elim
    | _ => exact o.elim
def loopR (g : FnG) (u : FnS) (wk : Wk) : Nat → Nat → De → Hh → RS
  | 0, _, _, _ => .stk
  | k + 1, i, δ, h => match look wk h with
    | none => .stk
    | some ds => match ds[i]? with
      | none => if i = ds.length then .nx δ h else .stk
      | some d => match g d δ with
        | none => .stk
        | some δ1 => match u δ1 h with
          | .nx δ2 h2 => loopR g u wk k (i + 1) δ2 h2
          | .ct δ2 h2 => loopR g u wk k (i + 1) δ2 h2
          | .bk δ2 h2 => .nx δ2 h2
          | r => r
def loopW (g : FnG) (u : FnS) : Wk → De → Hh → RS
  | .im ds, δ, h => loop3 g u ds δ h
  | .hp n, δ, h => loopR g u (.hp n) 4611686018427387904 0 δ h
  | .zp x y, δ, h => loopR g u (.zp x y) 4611686018427387904 0 δ h
  | .en n, δ, h => loopR g u (.en n) 4611686018427387904 0 δ h
def sForW (f : FnW) (g : FnG) (u : FnS) : FnS := fun δ h => (f δ h).toS δ fun w h1 => loopW g u w δ h1
theorem fs_forW {tg iter : Expr} {body : List Stmt} {f : FnW} {is : List Nat} {g : FnG} {u : FnS} (hp : PassesOwn (model X.prog X.w) X.A X.env X.xe) (hc : X.calm = true) (hi : FWk X T W tg iter f) (hg : FG X T tg is g) (hb : FSs X T W body u)
    (hs : ∀ x, foldedSetIterable iter X.env x = pure x := by intro _; rfl) : FS X T W (.For tg iter body [] pos) (sForW f g u) := by
  refine PS.imp (ps_for hp hc hi hg hb hs) fun D σ H => ?_
  rintro ⟨G, h0, δ, r, s, o⟩
  refine ⟨G, h0, δ, r, s, (okS.toS (rel := fun G w J => Walk4 X.K T J G w) s o).mono ?_⟩
  rintro J H1 ⟨G1, wk, h1, e1, r1, w, o1⟩
  cases wk with
  | im items =>
    change okS X.K T W G1 (loop3 g u items δ h1) D at o1
    refine ⟨fun i m σ' H' => i ≤ items.length ∧ m = items.length - i ∧ ∃ G2 h2 δ2, Ext G1 G2 ∧ Rel X.K T G2 h2 H' ∧ RSl X.K T G2 δ2 σ' ∧ okS X.K T W G2 (loop3 g u (items.drop i) δ2 h2) D,
      ⟨_, Nat.zero_le _, rfl, G1, h1, δ, Ext.refl G1, r1, s.mono e1, o1⟩, ?_⟩
    rintro i m σ' H' ⟨hi', rfl, G2, h2, δ2, e2, r2, s2, o2⟩
    by_cases hlt : i < items.length
    · refine .inr ?_
      have ed : items[i]? = some items[i] := by simp [hlt]
      obtain ⟨go, yl⟩ := (w i G2 h2 H' items e2.e0 r2 rfl).1 _ ed
      rw [List.drop_eq_getElem_cons hlt] at o2
      unfold loop3 at o2
      refine ⟨go, fun σ3 H3 => ∃ m', m' < items.length - i ∧ i + 1 ≤ items.length ∧ m' = items.length - (i + 1) ∧ ∃ G2 h2 δ2, Ext G1 G2 ∧ Rel X.K T G2 h2 H3 ∧ RSl X.K T G2 δ2 σ3 ∧ okS X.K T W G2 (loop3 g u (items.drop (i + 1)) δ2 h2) D,
        fun σ3 H3 ⟨m', a, b, c, d⟩ => ⟨m', a, b, c, d⟩, fun x H3 y => ?_⟩
      obtain ⟨G3, e3, r3, d3⟩ := yl x H3 y
      cases eg : g items[i] δ2 with
      | none => rw [eg] at o2; exact o2.elim
      | some δ3 =>
        rw [eg] at o2
        dsimp only at o2
        refine ⟨G3, h2, δ2, items[i], δ3, r3, s2.mono e3, d3, eg, fun σ4 s4 _ => ⟨G3, h2, δ3, r3, s4, ?_⟩⟩
        have again : ∀ {δ5 : De} {h5 : Hh}, okS X.K T W G2 (loop3 g u (items.drop (i + 1)) δ5 h5) D → ∀ G' H' σ', Ext G3 G' → Rel X.K T G' h5 H' → RSl X.K T G' δ5 σ' →
            ∃ m', m' < items.length - i ∧ i + 1 ≤ items.length ∧ m' = items.length - (i + 1) ∧ ∃ G2 h2 δ2, Ext G1 G2 ∧ Rel X.K T G2 h2 H' ∧ RSl X.K T G2 δ2 σ' ∧ okS X.K T W G2 (loop3 g u (items.drop (i + 1)) δ2 h2) D :=
          fun {δ5 h5} o5 G' H' σ' e r' s' => ⟨_, by omega, hlt, rfl, G', h5, δ5, e2.trans (e3.trans e), r', s', okS.ext (e3.trans e) o5⟩
        cases eu : u δ3 h2 with
        | nx δ5 h5 => rw [eu] at o2; exact again o2
        | ct δ5 h5 => rw [eu] at o2; exact again o2
        | bk δ5 h5 => rw [eu] at o2; exact okS.ext e3 o2
        | rt d h5 => rw [eu] at o2; exact okS.ext e3 o2
        | exc c ds δ5 h5 => rw [eu] at o2; exact okS.ext e3 o2
        | stk => rw [eu] at o2; exact o2
    · refine .inl ⟨(w i G2 h2 H' items e2.e0 r2 rfl).2 (by omega), ?_⟩
      rw [List.drop_eq_nil_of_le (by omega)] at o2
      exact o2 G2 H' σ' (Ext.refl G2) r2 s2
  | hp n =>
    change okS X.K T W G1 (loopR g u (.hp n) 4611686018427387904 0 δ h1) D at o1
    refine ⟨fun i m σ' H' => ∃ G2 h2 δ2, Ext G1 G2 ∧ Rel X.K T G2 h2 H' ∧ RSl X.K T G2 δ2 σ' ∧ okS X.K T W G2 (loopR g u (.hp n) m i δ2 h2) D,
      ⟨4611686018427387904, G1, h1, δ, Ext.refl G1, r1, s.mono e1, o1⟩, ?_⟩
    rintro i m σ' H' ⟨G2, h2, δ2, e2, r2, s2, o2⟩
    cases m with
    | zero => exact o2.elim
    | succ k =>
      unfold loopR at o2
      cases el : look (.hp n) h2 with
      | none => rw [el] at o2; exact o2.elim
      | some items =>
        rw [el] at o2
        dsimp only at o2
        cases ed : items[i]? with
        | none =>
          rw [ed] at o2
          dsimp only at o2
          by_cases hend : i = items.length
          · rw [if_pos hend] at o2
            refine .inl ⟨(w i G2 h2 H' items e2.e0 r2 el).2 hend, ?_⟩
            exact o2 G2 H' σ' (Ext.refl G2) r2 s2
          · rw [if_neg hend] at o2
            exact o2.elim
        | some d0 =>
          rw [ed] at o2
          dsimp only at o2
          refine .inr ?_
          obtain ⟨go, yl⟩ := (w i G2 h2 H' items e2.e0 r2 el).1 _ ed
          refine ⟨go, fun σ3 H3 => ∃ m', m' < k + 1 ∧ ∃ G2 h2 δ2, Ext G1 G2 ∧ Rel X.K T G2 h2 H3 ∧ RSl X.K T G2 δ2 σ3 ∧ okS X.K T W G2 (loopR g u (.hp n) m' (i + 1) δ2 h2) D,
            fun σ3 H3 ⟨m', a, b⟩ => ⟨m', a, b⟩, fun x H3 y => ?_⟩
          obtain ⟨G3, e3, r3, d3⟩ := yl x H3 y
          cases eg : g d0 δ2 with
          | none => rw [eg] at o2; exact o2.elim
          | some δ3 =>
            rw [eg] at o2
            dsimp only at o2
            refine ⟨G3, h2, δ2, d0, δ3, r3, s2.mono e3, d3, eg, fun σ4 s4 _ => ⟨G3, h2, δ3, r3, s4, ?_⟩⟩
            have again : ∀ {δ5 : De} {h5 : Hh}, okS X.K T W G2 (loopR g u (.hp n) k (i + 1) δ5 h5) D → ∀ G' H' σ', Ext G3 G' → Rel X.K T G' h5 H' → RSl X.K T G' δ5 σ' →
                ∃ m', m' < k + 1 ∧ ∃ G2 h2 δ2, Ext G1 G2 ∧ Rel X.K T G2 h2 H' ∧ RSl X.K T G2 δ2 σ' ∧ okS X.K T W G2 (loopR g u (.hp n) m' (i + 1) δ2 h2) D :=
              fun {δ5 h5} o5 G' H' σ' e r' s' => ⟨k, by omega, G', h5, δ5, e2.trans (e3.trans e), r', s', okS.ext (e3.trans e) o5⟩
            cases eu : u δ3 h2 with
            | nx δ5 h5 => rw [eu] at o2; exact again o2
            | ct δ5 h5 => rw [eu] at o2; exact again o2
            | bk δ5 h5 => rw [eu] at o2; exact okS.ext e3 o2
            | rt d h5 => rw [eu] at o2; exact okS.ext e3 o2
            | exc c ds δ5 h5 => rw [eu] at o2; exact okS.ext e3 o2
            | stk => rw [eu] at o2; exact o2
  | en n =>
    change okS X.K T W G1 (loopR g u (.en n) 4611686018427387904 0 δ h1) D at o1
    refine ⟨fun i m σ' H' => ∃ G2 h2 δ2, Ext G1 G2 ∧ Rel X.K T G2 h2 H' ∧ RSl X.K T G2 δ2 σ' ∧ okS X.K T W G2 (loopR g u (.en n) m i δ2 h2) D,
      ⟨4611686018427387904, G1, h1, δ, Ext.refl G1, r1, s.mono e1, o1⟩, ?_⟩
    rintro i m σ' H' ⟨G2, h2, δ2, e2, r2, s2, o2⟩
    cases m with
    | zero => exact o2.elim
    | succ k =>
      unfold loopR at o2
      cases el : look (.en n) h2 with
      | none => rw [el] at o2; exact o2.elim
      | some items =>
        rw [el] at o2
        dsimp only at o2
        cases ed : items[i]? with
        | none =>
          rw [ed] at o2
          dsimp only at o2
          by_cases hend : i = items.length
          · rw [if_pos hend] at o2
            refine .inl ⟨(w i G2 h2 H' items e2.e0 r2 el).2 hend, ?_⟩
            exact o2 G2 H' σ' (Ext.refl G2) r2 s2
          · rw [if_neg hend] at o2
            exact o2.elim
        | some d0 =>
          rw [ed] at o2
          dsimp only at o2
          refine .inr ?_
          obtain ⟨go, yl⟩ := (w i G2 h2 H' items e2.e0 r2 el).1 _ ed
          refine ⟨go, fun σ3 H3 => ∃ m', m' < k + 1 ∧ ∃ G2 h2 δ2, Ext G1 G2 ∧ Rel X.K T G2 h2 H3 ∧ RSl X.K T G2 δ2 σ3 ∧ okS X.K T W G2 (loopR g u (.en n) m' (i + 1) δ2 h2) D,
            fun σ3 H3 ⟨m', a, b⟩ => ⟨m', a, b⟩, fun x H3 y => ?_⟩
          obtain ⟨G3, e3, r3, d3⟩ := yl x H3 y
          cases eg : g d0 δ2 with
          | none => rw [eg] at o2; exact o2.elim
          | some δ3 =>
            rw [eg] at o2
            dsimp only at o2
            refine ⟨G3, h2, δ2, d0, δ3, r3, s2.mono e3, d3, eg, fun σ4 s4 _ => ⟨G3, h2, δ3, r3, s4, ?_⟩⟩
            have again : ∀ {δ5 : De} {h5 : Hh}, okS X.K T W G2 (loopR g u (.en n) k (i + 1) δ5 h5) D → ∀ G' H' σ', Ext G3 G' → Rel X.K T G' h5 H' → RSl X.K T G' δ5 σ' →
                ∃ m', m' < k + 1 ∧ ∃ G2 h2 δ2, Ext G1 G2 ∧ Rel X.K T G2 h2 H' ∧ RSl X.K T G2 δ2 σ' ∧ okS X.K T W G2 (loopR g u (.en n) m' (i + 1) δ2 h2) D :=
              fun {δ5 h5} o5 G' H' σ' e r' s' => ⟨k, by omega, G', h5, δ5, e2.trans (e3.trans e), r', s', okS.ext (e3.trans e) o5⟩
            cases eu : u δ3 h2 with
            | nx δ5 h5 => rw [eu] at o2; exact again o2
            | ct δ5 h5 => rw [eu] at o2; exact again o2
            | bk δ5 h5 => rw [eu] at o2; exact okS.ext e3 o2
            | rt d h5 => rw [eu] at o2; exact okS.ext e3 o2
            | exc c ds δ5 h5 => rw [eu] at o2; exact okS.ext e3 o2
            | stk => rw [eu] at o2; exact o2
  | zp x0 y0 =>
    change okS X.K T W G1 (loopR g u (.zp x0 y0) 4611686018427387904 0 δ h1) D at o1
    refine ⟨fun i m σ' H' => ∃ G2 h2 δ2, Ext G1 G2 ∧ Rel X.K T G2 h2 H' ∧ RSl X.K T G2 δ2 σ' ∧ okS X.K T W G2 (loopR g u (.zp x0 y0) m i δ2 h2) D,
      ⟨4611686018427387904, G1, h1, δ, Ext.refl G1, r1, s.mono e1, o1⟩, ?_⟩
    rintro i m σ' H' ⟨G2, h2, δ2, e2, r2, s2, o2⟩
    cases m with
    | zero => exact o2.elim
    | succ k =>
      unfold loopR at o2
      cases el : look (.zp x0 y0) h2 with
      | none => rw [el] at o2; exact o2.elim
      | some items =>
        rw [el] at o2
        dsimp only at o2
        cases ed : items[i]? with
        | none =>
          rw [ed] at o2
          dsimp only at o2
          by_cases hend : i = items.length
          · rw [if_pos hend] at o2
            refine .inl ⟨(w i G2 h2 H' items e2.e0 r2 el).2 hend, ?_⟩
            exact o2 G2 H' σ' (Ext.refl G2) r2 s2
          · rw [if_neg hend] at o2
            exact o2.elim
        | some d0 =>
          rw [ed] at o2
          dsimp only at o2
          refine .inr ?_
          obtain ⟨go, yl⟩ := (w i G2 h2 H' items e2.e0 r2 el).1 _ ed
          refine ⟨go, fun σ3 H3 => ∃ m', m' < k + 1 ∧ ∃ G2 h2 δ2, Ext G1 G2 ∧ Rel X.K T G2 h2 H3 ∧ RSl X.K T G2 δ2 σ3 ∧ okS X.K T W G2 (loopR g u (.zp x0 y0) m' (i + 1) δ2 h2) D,
            fun σ3 H3 ⟨m', a, b⟩ => ⟨m', a, b⟩, fun x H3 y => ?_⟩
          obtain ⟨G3, e3, r3, d3⟩ := yl x H3 y
          cases eg : g d0 δ2 with
          | none => rw [eg] at o2; exact o2.elim
          | some δ3 =>
            rw [eg] at o2
            dsimp only at o2
            refine ⟨G3, h2, δ2, d0, δ3, r3, s2.mono e3, d3, eg, fun σ4 s4 _ => ⟨G3, h2, δ3, r3, s4, ?_⟩⟩
            have again : ∀ {δ5 : De} {h5 : Hh}, okS X.K T W G2 (loopR g u (.zp x0 y0) k (i + 1) δ5 h5) D → ∀ G' H' σ', Ext G3 G' → Rel X.K T G' h5 H' → RSl X.K T G' δ5 σ' →
                ∃ m', m' < k + 1 ∧ ∃ G2 h2 δ2, Ext G1 G2 ∧ Rel X.K T G2 h2 H' ∧ RSl X.K T G2 δ2 σ' ∧ okS X.K T W G2 (loopR g u (.zp x0 y0) m' (i + 1) δ2 h2) D :=
              fun {δ5 h5} o5 G' H' σ' e r' s' => ⟨k, by omega, G', h5, δ5, e2.trans (e3.trans e), r', s', okS.ext (e3.trans e) o5⟩
            cases eu : u δ3 h2 with
            | nx δ5 h5 => rw [eu] at o2; exact again o2
            | ct δ5 h5 => rw [eu] at o2; exact again o2
            | bk δ5 h5 => rw [eu] at o2; exact okS.ext e3 o2
            | rt d h5 => rw [eu] at o2; exact okS.ext e3 o2
            | exc c ds δ5 h5 => rw [eu] at o2; exact okS.ext e3 o2
            | stk => rw [eu] at o2; exact o2
theorem seqS_ok {K : PySem.W.Frag} {G : Gst} {h : Hh} {H : Hp} {d : D} {v : V} {ds : List D} (r : Rel K T G h H) (d1 : RD K T G d v) (e : seqS h d = some ds) : ∃ b a vs, v = .ref a ∧ SqX K b H a vs ∧ RDs K T G ds vs ∧ ∀ G2 h2 H2 es, Ext0 G G2 → Rel K T G2 h2 H2 → seqS h2 d = some es → ∃ ws, SqX K b H2 a ws ∧ RDs K T G2 es ws := by
  cases d1 with
  | @ref n a q =>
    have el : ∀ {h : Hh} {es : List D}, seqS h (.ref n) = some es → asL h (.ref n) = some es := fun {h es} e => by
      unfold seqS at e; unfold asL; dsimp only at e ⊢
      cases z : h[n]? with
      | none => rw [z] at e; cases e
      | some o =>
        rw [z] at e
        cases o with
        | lst ds => exact e
        | _ => cases e
    obtain ⟨a', vs, e1, e2, q2⟩ := asL_ok r (RD.ref q) (el e)
    cases e1
    refine ⟨false, a, vs, rfl, .inl (.inl e2), q2, fun G2 h2 H2 es x r2 e' => ?_⟩
    obtain ⟨a', ws, e1, e2, q2⟩ := asL_ok r2 ((RD.ref q).mono0 x) (el e')
    cases e1
    exact ⟨ws, .inl (.inl e2), q2⟩
  | tup z1 z2 => cases e; exact ⟨true, _, _, rfl, SqX.sub (b := true) r.sub z1, z2, fun G2 h2 H2 es x r2 e' => by cases e'; exact ⟨_, SqX.sub (b := true) r2.sub (SqX.sub (b := true) x.fz z1), z2.mono0 x⟩⟩
  | lst z1 z2 => cases e; exact ⟨false, _, _, rfl, SqX.sub (b := false) r.sub (.inl (.inl z1)), z2, fun G2 h2 H2 es x r2 e' => by cases e'; exact ⟨_, SqX.sub (b := false) r2.sub (SqX.sub (b := false) x.fz (.inl (.inl z1))), z2.mono0 x⟩⟩
  | scr z1 z2 => cases e; exact ⟨false, _, _, rfl, SqX.sub (b := false) r.sub z1, z2, fun G2 h2 H2 es x r2 e' => by cases e'; exact ⟨_, SqX.sub (b := false) r2.sub (SqX.sub (b := false) x.fz z1), z2.mono0 x⟩⟩
  | _ => cases e
def kZipW (ds : List D) (h : Hh) : R Wk := match ds with
  | [x, y] => match immS x, immS y with
    | some (_, xs), some (_, ys) => .ok (.im (zipL xs ys)) h
    | _, _ => match seqS h x, seqS h y with
      | some _, some _ => .ok (.zp x y) h
      | _, _ => .stk
  | _ => .stk
def wZip (fa : FnA) : FnW := fun δ h => (fa δ h).bind kZipW
theorem walk_zipW {K : PySem.W.Frag} {G : Gst} {b1 b2 : Bool} {a b : Addr} {x0 y0 : D} (f1 : ∀ G2 h2 H2 es, Ext0 G G2 → Rel K T G2 h2 H2 → seqS h2 x0 = some es → ∃ ws, SqX K b1 H2 a ws ∧ RDs K T G2 es ws) (f2 : ∀ G2 h2 H2 es, Ext0 G G2 → Rel K T G2 h2 H2 → seqS h2 y0 = some es → ∃ ws, SqX K b2 H2 b ws ∧ RDs K T G2 es ws) : Walk4 K T (ItzX K b1 b2 a b) G (.zp x0 y0) := fun i G2 h2 H2 zs x r el => by
  unfold look at el
  dsimp only at el
  cases ex : seqS h2 x0 with
  | none => rw [ex] at el; cases el
  | some ds =>
    cases ey : seqS h2 y0 with
    | none => rw [ex, ey] at el; cases el
    | some es =>
      rw [ex, ey] at el
      cases el
      obtain ⟨vs, z1, q2⟩ := f1 G2 h2 H2 ds x r ex
      obtain ⟨ws, z2, q4⟩ := f2 G2 h2 H2 es x r ey
      have l1 := q2.length
      have l2 := q4.length
      refine ⟨fun d e => ?_, fun hl => ⟨vs, ws, z1, z2, ?_⟩⟩
      · obtain ⟨d1, d2, e1, e2, rfl⟩ := zipL_get ds es i d e
        obtain ⟨v, ev, dv⟩ := q2.get e1
        obtain ⟨w, ew, dw⟩ := q4.get e2
        refine ⟨⟨vs, ws, v, w, z1, z2, ev, ew⟩, ?_⟩
        rintro y H3 ⟨p, v', w', rfl, hp, rfl, f1, f2⟩
        have g1 := f1 vs z1
        have g2 := f2 ws z2
        rw [ev] at g1; cases g1
        rw [ew] at g2; cases g2
        obtain ⟨x', r'⟩ := r.newF (o := .tup [v, w]) hp
        exact ⟨_, x', r', .tup (.inl (.inl upd_same)) (.cons (dv.mono x') (.cons (dw.mono x') .nil)) fun _ => upd_same⟩
      · rw [zipL_len] at hl
        omega
theorem walk_im {K : PySem.W.Frag} {J : It} {G : Gst} {ds : List D} (w : Walk3 K T J G ds) : Walk4 K T J G (.im ds) := fun i G2 h2 H2 es x r e => by
  cases e
  exact w i G2 h2 H2 x r
theorem fw_zip {e e2 : Expr} {fa : FnA} {p tpos : Pos} {elts : List Expr} {kk : Nat} (hg : Gl X "zip") (hm : X.mg "zip" = none) (ha : FA X T W [e, e2] fa)
    (hs : starEach [e, e2] X.env = (false, eval e X.env) :: starEach [e2] X.env := by rfl) (hpl : (backTo pos (starEach [e2] X.env)).any (·.1) = false := by rfl) :
    FWk X T W (.Tuple elts kk tpos) (.Call (.Name "zip" p) [e, e2] [] pos) (wZip fa) := by
  refine PI.imp (pi_zipX hg hm ha hs hpl) fun σ H Q => ?_
  rintro ⟨G, h0, δ, r, s, o⟩
  refine ⟨G, h0, δ, r, s, (okR.bind (rel := RDs X.K T) o).mono ?_⟩
  rintro vs H1 ⟨G1, ds, h1, e1, r1, d1, o1⟩
  match ds, vs, d1 with
  | [], _, _ => exact o1.elim
  | [_], _, _ => exact o1.elim
  | _ :: _ :: _ :: _, _, _ => exact o1.elim
  | [x, y], [v, w], .cons d1 (.cons d2 .nil) =>
    unfold kZipW at o1
    dsimp only at o1
    have slow : okR X.K T W G1 σ (fun G w J => Walk4 X.K T J G w) (match seqS h1 x, seqS h1 y with
      | some _, some _ => R.ok (Wk.zp x y) h1
      | _, _ => .stk) Q → ∃ b1 b2 a b xs ys, [v, w] = [V.ref a, V.ref b] ∧ SqX X.K b1 H1 a xs ∧ SqX X.K b2 H1 b ys ∧ Q (ItzX X.K b1 b2 a b) H1 := fun o2 => by
      cases ex : seqS h1 x with
      | none => rw [ex] at o2; exact o2.elim
      | some xs =>
        cases ey : seqS h1 y with
        | none => rw [ex, ey] at o2; exact o2.elim
        | some ys =>
          rw [ex, ey] at o2
          obtain ⟨b1, a, us, rfl, z1, _, f1⟩ := seqS_ok r1 d1 ex
          obtain ⟨b2, b, ws, rfl, z3, _, f2⟩ := seqS_ok r1 d2 ey
          exact ⟨b1, b2, a, b, us, ws, rfl, z1, z3, o2 G1 H1 _ (Ext.refl G1) r1 (walk_zipW f1 f2)⟩
    cases ex : immS x with
    | none => rw [ex] at o1; exact slow o1
    | some p =>
      cases ey : immS y with
      | none => rw [ex, ey] at o1; exact slow o1
      | some q =>
        rw [ex, ey] at o1
        obtain ⟨b1, xs⟩ := p
        obtain ⟨b2, ys⟩ := q
        obtain ⟨a, us, rfl, z1, z2⟩ := immS_ok d1 ex
        obtain ⟨b, ws, rfl, z3, z4⟩ := immS_ok d2 ey
        exact ⟨b1, b2, a, b, us, ws, rfl, SqX.sub r1.sub z1, SqX.sub r1.sub z3, o1 G1 H1 _ (Ext.refl G1) r1 (walk_im (walk_zip z1 z2 z3 z4))⟩
end
end L3
set_option autoImplicit false
set_option maxHeartbeats 4000000
namespace L3
open PySem PySem.Spec L2
section
variable {X : Cx} {T : Tx} {W : WX} {pos : Pos}
def lcsN (g : FnG) (t : FnT) (e : FnE) (δ : De) (w : Wk) : Nat → Nat → Hh → R (List D)
  | 0, _, _ => .stk
  | k + 1, i, h => match look w h with
    | none => .stk
    | some ds => match ds[i]? with
      | none => if i = ds.length then .ok [] h else .stk
      | some d => match g d δ with
        | none => .stk
        | some δ1 => match t δ1 h with
          | .ok b h1 => if b = true then
              match e δ1 h1 with
              | .ok y h2 => (lcsN g t e δ w k (i + 1) h2).bind fun ys h3 => .ok (y :: ys) h3
              | _ => .stk
            else lcsN g t e δ w k (i + 1) h1
          | _ => .stk
theorem lcsN_exc (g : FnG) (t : FnT) (e : FnE) (δ : De) (w : Wk) : ∀ (k i : Nat) (h : Hh) c es h', lcsN g t e δ w k i h ≠ .exc c es h'
  | 0, _, _, _, _, _ => fun z => by cases z
  | k + 1, i, h, c, es, h' => fun z => by
    unfold lcsN at z
    split at z
    · cases z
    · split at z
      · split at z <;> cases z
      · split at z
        · cases z
        · split at z
          · split at z
            · split at z
              · rename_i yy hh _
                cases zz : lcsN g t e δ w k (i + 1) hh with
                | ok a b => rw [zz] at z; cases z
                | exc a b cc => exact lcsN_exc g t e δ w k (i + 1) _ _ _ _ zz
                | stk => rw [zz] at z; cases z
              · cases z
            · exact lcsN_exc g t e δ w k (i + 1) _ _ _ _ z
          · cases z
theorem lcs_is (g : FnG) (t : FnT) (e : FnE) (δ : De) (ds : List D) : ∀ (k i : Nat) (h : Hh), i ≤ ds.length → ds.length < k + i → lcs g t e δ (ds.drop i) h = lcsN g t e δ (.im ds) k i h
  | 0, i, h, hi, hk => by omega
  | k + 1, i, h, hi, hk => by
    unfold lcsN
    have el : look (.im ds) h = some ds := rfl
    rw [el]
    dsimp only
    cases ed : ds[i]? with
    | none =>
      have hl := List.getElem?_eq_none_iff.mp ed
      rw [List.drop_eq_nil_of_le hl]
      dsimp only
      rw [if_pos (by omega)]
      rfl
    | some d =>
      obtain ⟨hl, e2⟩ := List.getElem?_eq_some_iff.mp ed
      subst e2
      rw [List.drop_eq_getElem_cons hl]
      have ih := fun h => lcs_is g t e δ ds k (i + 1) h (by omega) (by omega)
      unfold lcs
      simp only [ih]
      all_goals rfl
def lcW (g : FnG) (t : FnT) (e : FnE) (δ : De) : Wk → Hh → R (List D)
  | .im ds, h => lcs g t e δ ds h
  | .hp n, h => lcsN g t e δ (.hp n) 4611686018427387904 0 h
  | .zp x y, h => lcsN g t e δ (.zp x y) 4611686018427387904 0 h
  | .en n, h => lcsN g t e δ (.en n) 4611686018427387904 0 h
theorem lcW_is (g : FnG) (t : FnT) (e : FnE) (δ : De) (w : Wk) (h : Hh) : ∃ k, lcW g t e δ w h = lcsN g t e δ w k 0 h := by
  cases w with
  | im ds => exact ⟨ds.length + 1, lcs_is g t e δ ds (ds.length + 1) 0 h (by omega) (by omega)⟩
  | hp n => exact ⟨_, rfl⟩
  | zp x y => exact ⟨_, rfl⟩
  | en n => exact ⟨_, rfl⟩
def eLcW (mu : Bool) (f : FnW) (g : FnG) (t : FnT) (e : FnE) (own : List Nat) : FnE := fun δ h => (f δ h).bind fun w h1 => (lcW g t e (wipeD δ own) w h1).bind (kLst mu)
theorem tE_lcW {mu : Bool} {f : FnW} {is : List Nat} {g : FnG} {t : FnT} {e : FnE} {own : List (Str × Nat)} (hin : ∀ i ∈ is, i ∈ own.map (·.2)) {σ : L2.St} {H : Hp} {Q : VK} (hh : tE X.K T W (eLcW mu f g t e (own.map (·.2))) σ H Q) :
    tLc (tW4 X.K T W f) (tG X.K T is g) (tT X.K T W0 t) (tE X.K T W0 e) (own.map (·.2)) σ H Q := by
  revert hh
  rintro ⟨G, h0, δ, r, s, o⟩
  refine ⟨G, h0, δ, r, s, (okR.bind (rel := fun G w J => Walk4 X.K T J G w) o).mono ?_⟩
  rintro J H1 ⟨G1, wk, h1, e1, r1, w, o1⟩
  obtain ⟨k0, ek0⟩ := lcW_is g t e (wipeD δ (own.map (·.2))) wk h1
  rw [ek0] at o1
  intro Dn hD
  have s1 := (s.mono e1).wipe (own.map (·.2))
  refine ⟨fun i m H' => ∃ G2 h2 acc, LcAt X.K T G1 Dn G2 acc h2 H' ∧ okR X.K T W G1 σ (RD X.K T) ((lcsN g t e (wipeD δ (own.map (·.2))) wk m i h2).bind fun ys h3 => kLst mu (acc ++ ys) h3) Q,
    ⟨k0, G1.guard Dn (.lst []), h1, [], ⟨⟨[], by simp [Gst.guard]⟩, fun _ _ q => q, rfl, ⟨[], rfl, .nil⟩, r1.guard hD⟩, o1⟩, ?_⟩
  rintro i m H' ⟨G2, h2, acc, l, o2⟩
  have x02 : Ext0 G1 G2 := ⟨l.ι, l.fz, l.lk⟩
  cases m with
  | zero => exact o2.elim
  | succ k =>
  unfold lcsN at o2
  cases ek : look wk h2 with
  | none => rw [ek] at o2; exact o2.elim
  | some items =>
  rw [ek] at o2
  dsimp only at o2
  cases ed : items[i]? with
  | some d0 =>
    rw [ed] at o2
    dsimp only at o2
    refine .inr ?_
    obtain ⟨go, yl⟩ := (w i G2 h2 H' items x02 l.rel ek).1 _ ed
    refine ⟨go, fun H3 => ∃ m', m' < k + 1 ∧ ∃ G2 h2 acc, LcAt X.K T G1 Dn G2 acc h2 H3 ∧ okR X.K T W G1 σ (RD X.K T) ((lcsN g t e (wipeD δ (own.map (·.2))) wk m' (i + 1) h2).bind fun ys h3 => kLst mu (acc ++ ys) h3) Q,
      fun H3 ⟨m', a, b⟩ => ⟨m', a, b⟩, fun x H3 y => ?_⟩
    obtain ⟨G3, e3, r3, d3⟩ := yl x H3 y
    have l3 := l.step e3 r3
    have s3 : RSl X.K T G3 (wipeD δ (own.map (·.2))) (L2.wipe σ (own.map (·.2))) := ⟨s1.len, fun j d q => let ⟨v, a, b⟩ := s1.at_ j d q; ⟨v, a, b.mono0 ⟨l3.ι, l3.fz, l3.lk⟩⟩⟩
    cases eg : g d0 (wipeD δ (own.map (·.2))) with
    | none => rw [eg] at o2; exact o2.elim
    | some δ3 =>
      rw [eg] at o2
      dsimp only at o2
      refine ⟨G3, h2, _, d0, δ3, r3, s3, d3, eg, fun σ4 s4 so => ⟨wipe_same so hin, G3, h2, δ3, r3, s4, ?_⟩⟩
      cases et : t δ3 h2 with
      | stk => rw [et] at o2; exact o2.elim
      | exc c ds h' => rw [et] at o2; exact o2.elim
      | ok b h3 =>
        rw [et] at o2
        dsimp only at o2
        intro G4 H4 b' x4 r4 eb
        have eb' : b = b' := eb
        subst eb'
        have l4 := l3.step x4 r4
        cases b with
        | false =>
          rw [if_neg Bool.false_ne_true] at o2 ⊢
          exact ⟨k, by omega, G4, h3, acc, l4, o2⟩
        | true =>
          rw [if_pos rfl] at o2 ⊢
          refine ⟨G4, h3, δ3, r4, s4.mono x4, ?_⟩
          cases ee : e δ3 h3 with
          | stk => rw [ee] at o2; exact o2.elim
          | exc c ds h' => rw [ee] at o2; exact o2.elim
          | ok y h4 =>
            rw [ee] at o2
            dsimp only at o2
            intro G5 H5 v x5 r5 d5
            have l5 := l4.step x5 r5
            obtain ⟨avs, ep, dacc⟩ := l5.pr
            have hpr : G5.pr Dn = some (.lst avs) := by rw [ep, upd_same]
            obtain ⟨q1, q2, q3⟩ := r5.pr Dn _ hpr
            refine ⟨avs, q1, ?_, k, by omega, { G5 with pr := upd G5.pr Dn (.lst (avs ++ [v])) }, h4, acc ++ [y], ⟨l5.ι, l5.fz, l5.lk, ⟨avs ++ [v], ?_, ?_⟩, r5.reguard hpr⟩, ?_⟩
            · -- the size
              have sz : avs.length < 16777216 := by
                rw [← dacc.length]
                cases el : lcsN g t e (wipeD δ (own.map (·.2))) wk k (i + 1) h4 with
                | stk => rw [el] at o2; exact o2.elim
                | exc c ds h' => rw [el] at o2; exact absurd el (lcsN_exc _ _ _ _ _ _ _ _ _ _ _)
                | ok ys h5 =>
                  rw [el] at o2
                  have o3 : okR X.K T W G1 σ (RD X.K T) (kLst mu (acc ++ y :: ys) h5) Q := o2
                  unfold kLst at o3
                  by_cases hl : lineOk (acc ++ y :: ys).length = true
                  · have := of_decide_eq_true hl
                    rw [List.length_append, List.length_cons] at this
                    omega
                  · rw [if_neg hl] at o3; exact o3.elim
              rw [sizeLine_eq]; exact sz
            · show upd G5.pr Dn (.lst (avs ++ [v])) = upd G1.pr Dn (.lst (avs ++ [v]))
              rw [ep, upd_upd]
            · exact RDs.mono0 (G := G5) (G' := { G5 with pr := upd G5.pr Dn (.lst (avs ++ [v])) }) ⟨⟨[], (List.append_nil _).symm⟩, fun _ _ z => z, rfl⟩ (dacc.append (.cons d5 .nil))
            · have ea : ∀ (rr : R (List D)), ((rr.bind fun ys h3 => R.ok (y :: ys) h3).bind fun ys h3 => kLst mu (acc ++ ys) h3) = rr.bind fun ys h3 => kLst mu (acc ++ [y] ++ ys) h3 := fun rr => by
                cases rr with
                | ok a b => show kLst mu (acc ++ y :: a) b = kLst mu (acc ++ [y] ++ a) b; rw [List.append_assoc]; rfl
                | exc _ _ _ => rfl
                | stk => rfl
              rw [ea] at o2
              exact o2
  | none =>
    rw [ed] at o2
    dsimp only at o2
    by_cases hend : i = items.length
    case neg => rw [if_neg hend] at o2; exact o2.elim
    rw [if_pos hend] at o2
    refine .inl ⟨(w i G2 h2 H' items x02 l.rel ek).2 hend, ?_⟩
    have o3 : okR X.K T W G1 σ (RD X.K T) (kLst mu (acc ++ []) h2) Q := o2
    rw [List.append_nil] at o3
    unfold kLst at o3
    by_cases hl : lineOk acc.length = true
    · rw [if_pos hl] at o3
      obtain ⟨avs, ep, dacc⟩ := l.pr
      have hpr : G2.pr Dn = some (.lst avs) := by rw [ep, upd_same]
      have pn : G1.pr Dn = none := by
        cases z : G1.pr Dn with
        | none => rfl
        | some u => have := (r1.pr Dn u z).1; rw [hD] at this; cases this
      obtain ⟨q1, q2, q3⟩ := l.rel.pr Dn _ hpr
      have fzm : ∀ a u, G2.fz a = some u → upd G2.fz Dn (.lst avs) a = some u := fun a u z => by
        have na : a ≠ Dn := fun y => by rw [y, q2] at z; cases z
        rw [upd_ne na]; exact z
      have hpr0 : ∀ a u, G1.pr a = some u → a ≠ Dn ∧ G2.pr a = some u := fun a u z => by
        have na : a ≠ Dn := fun y => by rw [y, pn] at z; cases z
        exact ⟨na, by rw [ep, upd_ne na]; exact z⟩
      cases mu with
      | false =>
        rw [if_neg Bool.false_ne_true] at o3
        exact o3 { G2 with pr := G1.pr, fz := upd G2.fz Dn (.lst avs) } H' (.ref Dn) ⟨l.ι, fun a u z => fzm a u (l.fz a u z), rfl, l.lk⟩ (l.rel.unguard hpr hpr0) (.lst upd_same (RDs.mono0 (G := G2) (G' := { G2 with pr := G1.pr, fz := upd G2.fz Dn (.lst avs) }) ⟨⟨[], (List.append_nil _).symm⟩, fzm, rfl⟩ dacc))
      | true =>
        rw [if_pos rfl] at o3
        obtain ⟨x5, r5⟩ := l.rel.unguardO (u := .lst acc) hpr hpr0 fun G' x hi ho _ => ⟨Dn, avs, hi, ho, q1, dacc.mono0 x⟩
        obtain ⟨tt, et⟩ := l.ι
        refine o3 (G2.give Dn G1.pr) H' (.ref Dn) ⟨⟨tt ++ [Dn], ?_⟩, fun a u z => l.fz a u z, rfl, l.lk⟩ r5 (.ref ?_)
        · show G2.ι ++ [Dn] = G1.ι ++ (tt ++ [Dn])
          rw [et, List.append_assoc]
        · show (G2.ι ++ [Dn])[h2.length]? = some Dn
          rw [← l.rel.len]; simp
    · rw [if_neg hl] at o3; exact o3.elim
theorem fe_lcW {mu : Bool} {elt tg iter : Expr} {ifs : List Expr} {scope : Scope} {own : List (Str × Nat)} {f : FnW} {is : List Nat} {g : FnG} {t : FnT} {e : FnE} (hc : X.calm = true) (hN : X.N.Nodup) (hi : FWk X T W tg iter f) (ok : BlkOk X.N X.env.scope scope own)
    (hg : ∀ (s : Shared) (H : Hp) (C : Addr) (cl : List (Str × Addr)) (fp : List Addr), FG (X.blk s H scope (compEnvC scope cl C X.env) fp) T tg is g) (ht : ∀ (s : Shared) (H : Hp) (C : Addr) (cl : List (Str × Addr)) (fp : List Addr), FTs (X.blk s H scope (compEnvC scope cl C X.env) fp) T W0 ifs t)
    (he : ∀ (s : Shared) (H : Hp) (C : Addr) (cl : List (Str × Addr)) (fp : List Addr), FE (X.blk s H scope (compEnvC scope cl C X.env) fp) T W0 elt e) (hin : ∀ i ∈ is, i ∈ own.map (·.2)) (hs : ∀ x, foldedSetIterable iter X.env x = pure x := by intro _; rfl) :
    FE X T W (.ListComp elt [⟨tg, iter, ifs, 0⟩] scope pos) (eLcW mu f g t e (own.map (·.2))) :=
  PE.imp (pe_lc (wi := tW4 X.K T W f) (g := tG X.K T is g) (tt := tT X.K T W0 t) (te := tE X.K T W0 e) hc hN hi ok hg ht he hs) fun _ _ _ hh => tE_lcW hin hh
theorem fs_setLcW {mu : Bool} {i : Nat} {y : Str} {py spos : Pos} {elt tg iter : Expr} {ifs : List Expr} {scope : Scope} {own : List (Str × Nat)} {f : FnW} {is : List Nat} {g : FnG} {t : FnT} {e : FnE} (hc : X.calm = true) (hN : X.N.Nodup) (hy : X.N[i]? = some y) (hyl : X.env.scope.names.lookup y = some .local)
    (hsw : swapsWith (.ListComp elt [⟨tg, iter, ifs, 0⟩] scope pos) (some (.Name y py)) spos.line X.env = pure true) (hi : FWk X T W tg iter f) (ok : BlkOk X.N X.env.scope scope own)
    (hg : ∀ (s : Shared) (H : Hp) (C : Addr) (cl : List (Str × Addr)) (fp : List Addr), FG (X.blk s H scope (compEnvC scope cl C X.env) fp) T tg is g) (ht : ∀ (s : Shared) (H : Hp) (C : Addr) (cl : List (Str × Addr)) (fp : List Addr), FTs (X.blk s H scope (compEnvC scope cl C X.env) fp) T W0 ifs t)
    (he : ∀ (s : Shared) (H : Hp) (C : Addr) (cl : List (Str × Addr)) (fp : List Addr), FE (X.blk s H scope (compEnvC scope cl C X.env) fp) T W0 elt e) (hin : ∀ i ∈ is, i ∈ own.map (·.2)) (hs : ∀ x, foldedSetIterable iter X.env x = pure x := by intro _; rfl) :
    FS X T W (.Assign [.Name y py] (.ListComp elt [⟨tg, iter, ifs, 0⟩] scope pos) spos) (sSet i (eLcW mu f g t e (own.map (·.2)))) := by
  refine PS.imp (ps_setLc (wi := tW4 X.K T W f) (g := tG X.K T is g) (tt := tT X.K T W0 t) (te := tE X.K T W0 e) hc hN hy hyl hsw hi ok hg ht he hs) fun D σ H h => ?_
  refine tE_lcW (mu := mu) hin ?_
  exact tS.bind (k := fun δ x h1 => .nx (δ.set i (some x)) h1) h fun G δ x w h1 H1 r1 s1 d1 o1 => o1 G H1 _ (Ext.refl G) r1 (s1.set d1 i)
end
end L3
set_option autoImplicit false
set_option maxHeartbeats 4000000
namespace PySem
open Sem (wp)
section
variable {prog : Program} {w : World} {A : Around} {E : Value → Shared → Prop} {s : Shared}
end
section
variable {prog : Program} {w : World} {A : Around} {E : Value → Shared → Prop} {s : Shared}
end
end PySem
namespace L3
open PySem PySem.Spec L2 PyProof.Rows
section
variable {X : Cx} {T : Tx}
end
end L3
set_option autoImplicit false
set_option maxHeartbeats 4000000
namespace L3
open PySem PySem.Spec L2
section
variable {X : Cx} {T : Tx} {W : WX} {pos : Pos}
def isoD (c : Nat) (x : D) (h : Hh) : R D := match clsOf h x with
  | some c' => if c' = c then .ok (.bl true) h else .stk
  | none => match kdOf h x with
    | some _ => .ok (.bl false) h
    | none => .stk
def eIso (c : Nat) (fa : FnE) : FnE := fun δ h => (fa δ h).bind (isoD c)
theorem iso_no {K : PySem.W.Frag} {C : Addr} (I : IsiC K C) (k : Kd) : PySem.W.kitOne K (.type k.nm) (.ref C) = some false := by
  cases k
  · exact I.n0
  · exact I.n1
  · exact I.n2
  · exact I.n3
  · exact I.n4
  · exact I.n5
  · exact I.n6
theorem fe_iso {c : Nat} {C : Addr} {x : Str} {p p2 : Pos} {e : Expr} {fa : FnE} (hcl : ∃ nm, T.cls c = some (C, nm)) (cl : Cls X.K C) (J : IsiC X.K C) (he : FE X T W e fa) (hg : Gl X "isinstance") (hm : X.mg "isinstance" = none) (hgt : Gl X x) (hmt : X.mg x = some (.ref C)) (hv0 : bootBuiltins "isinstance" = some (.builtin "isinstance")) (hdb : (x == ("__debug__" : Str)) = false := by decide)
    (hs : starEach [e, .Name x p2] X.env = (false, eval e X.env) :: starEach [.Name x p2] X.env := by rfl) (hs2 : starEach [.Name x p2] X.env = (false, eval (.Name x p2) X.env) :: starEach [] X.env := by rfl) (hpl : (backTo pos (starEach [.Name x p2] X.env)).any (·.1) = false := by rfl) :
    FE X T W (.Call (.Name "isinstance" p) [e, .Name x p2] [] pos) (eIso c fa) := by
  have hty : PE X (.Name x p2) (tC (.ref C)) := pe_glob hgt hmt rfl hdb
  refine PE.imp (pe_callB call_isi hg hm hv0 (pa_cons he (pa_cons hty pa_nil hs2) hs) (by decide) (by decide) hs hpl) fun σ H Q h => ?_
  refine tF.bind (k := fun _ => isoD c) h fun G δ x v h1 H1 r1 s1 d1 o1 => ?_
  unfold isoD at o1
  cases ec : clsOf h1 x with
  | some c' =>
    rw [ec] at o1
    dsimp only at o1
    by_cases hc : c' = c
    · subst hc
      rw [if_pos rfl] at o1
      obtain ⟨a, C', dx, nm, fs, rfl, q1, q2, _⟩ := clsOf_ok r1 d1 ec
      obtain ⟨nm2, hcl⟩ := hcl
      rw [hcl] at q2; cases q2
      exact ⟨_, .ref C, .ref C, .ref C, true, rfl, .own C, .base (.ins q1 cl J.ha J.hn J.ht J.hm), J.me, o1.at r1 .bl⟩
    · rw [if_neg hc] at o1; exact o1.elim
  | none =>
    rw [ec] at o1
    dsimp only at o1
    cases ek : kdOf h1 x with
    | none => rw [ek] at o1; exact o1.elim
    | some k =>
      rw [ek] at o1
      exact ⟨v, .ref C, .type k.nm, .ref C, false, rfl, .own C, kd_ok r1 d1 ek, iso_no J k, o1.at r1 .bl⟩
def isiO (t : Ty) (c : Nat) (x : D) (h : Hh) : R D := match clsOf h x with
  | some c' => if c' = c then .ok (.bl false) h else .stk
  | none => isiD t x h
def eIsiO (t : Ty) (c : Nat) (fa : FnE) : FnE := fun δ h => (fa δ h).bind (isiO t c)
def rEqO (K : PySem.W.Frag) (T : Tx) (C : Addr) (sem : Sem3) : R2 := fun x y H Q => ∃ a b dx dy fs gs, x = .ref a ∧ y = .ref b ∧ H a = some (.ins C dx fs) ∧ H b = some (.ins C dy gs) ∧ sp3 K T 2 sem [x, y] H Q E0
theorem op_eqO {C f : Addr} {k : Nat} {fd : FuncData} {ps : List Str} {sem : Sem3} (M : Meth X.K C "__eq__" f) (F : FnL X.prog X.w X.K X.mg X.base T k f fd ps sem) (hr : RoomG k X.A) (hb : Binds X.K fd ps []) (h2 : ps.length = 2 := by rfl) : OpR X (compareOp .Eq) (rEqO X.K T C sem) := by
  intro pins s σ H x y v u Q I rx ry hq
  obtain ⟨a, b, dx, dy, fs, gs, rfl, rfl, ha, hb', hsp⟩ := hq
  cases rx
  cases ry
  obtain ⟨mA, J, _⟩ := ins_get I.hok ha
  obtain ⟨mB, J', _⟩ := ins_get I.hok hb'
  obtain ⟨od, J, _⟩ := J.look
  obtain ⟨od', J', _⟩ := J'.look
  obtain ⟨m, hF⟩ := I.fr
  show wpAny (model X.prog X.w) X.A (richCompare .Eq (.ref a) (.ref b)) (EP X pins σ Q) X.xe s
  refine PySem.W.cmp_K (op := .Eq) (tb := .ref C) hr.r.units0 hF I.ok.mod.kin J J'.type (by simp [PySem.W.notFirst]) M.at_ M.fn ?_
  have hsp' : sp3 X.K T ps.length sem [.ref a, .ref b] H Q E0 := by rw [h2]; exact hsp
  have hl : [Value.ref a, Value.ref b].length = ps.length := by rw [h2]; rfl
  refine wpAny_call (codeAny_mono (F.go X.A X.stack s H ⟨[.ref a, .ref b], []⟩ [.ref a, .ref b] [.ref a, .ref b] Q E0 hr I.env0 (by
    have := hb s [.ref a, .ref b] I.kIn (by simpa using hl)
    simpa using this) (.cons rfl (.cons rfl .nil)) hsp') fun r s' e => ?_)
  match r, e with
  | .error er, e => exact False.elim ((passL : Passes (L2.CX X.prog X.w) X.nox E0) pins σ H _ er s' (I.wish _) e)
  | .ok (.ret w), e =>
    obtain ⟨z, H', I', rz, q3⟩ := I.after e
    cases w with
    | notImplemented => cases z <;> first | (cases rz; done) | exact (show False from by simp [RelV] at rz)
    | _ => exact ⟨z, H', I', rz, q3⟩
  | .ok .next, e => exact e.elim
  | .ok .brk, e => exact e.elim
  | .ok .cont, e => exact e.elim
def eqO (c : Nat) (sem : Sem3) : F2 := fun x y h => if clsOf h x = some c ∧ clsOf h y = some c then noX (sem [x, y] h) else .stk
theorem os_eqO {c : Nat} {C : Addr} {sem : Sem3} (hcl : ∃ nm, T.cls c = some (C, nm)) : OpS X T (rEqO X.K T C sem) (eqO c sem) := by
  intro W G h H σ x y v w Q r d1 d2 o
  obtain ⟨nm, hcl⟩ := hcl
  unfold eqO at o
  by_cases hc : clsOf h x = some c ∧ clsOf h y = some c
  · rw [if_pos hc] at o
    obtain ⟨a, C', dx, nm', fs, rfl, q1, q2, _⟩ := clsOf_ok r d1 hc.1
    rw [hcl] at q2; cases q2
    obtain ⟨b, C', dy, nm', gs, rfl, p1, p2, _⟩ := clsOf_ok r d2 hc.2
    rw [hcl] at p2; cases p2
    refine ⟨a, b, dx, dy, fs, gs, rfl, rfl, q1, p1, rfl, G, h, [x, y], r, .cons d1 (.cons d2 .nil), ?_⟩
    cases es : sem [x, y] h with
    | ok z hh => rw [es] at o; exact o
    | exc c es' hh => rw [es] at o; exact o.elim
    | stk => rw [es] at o; exact o.elim
  · rw [if_neg hc] at o; exact o.elim
end
end L3
set_option autoImplicit false
set_option maxHeartbeats 4000000
namespace L3
open PySem PySem.Spec L2
section
variable {X : Cx} {T : Tx} {W : WX} {pos : Pos}
end
end L3
set_option autoImplicit false
set_option maxHeartbeats 4000000
namespace L3
open PySem PySem.Spec L2
section
variable {X : Cx} {T : Tx} {W : WX} {pos p2 : Pos}
end
end L3
set_option autoImplicit false
set_option maxHeartbeats 4000000
namespace L3
open PySem PySem.Spec L2 PySem.W PySem.Calls PyProof.Rows
theorem EB.kxs : ∀ b : EB, KxsFacts b.ty b.ini
  | .v => kxs_ValueError
  | .a => kxs_ArithmeticError
  | .l => kxs_LookupError
theorem EB.exb : ∀ b : EB, ExcBaseFacts b.ty b.nw b.ini b.mro
  | .v => PySem.F.excBase_ValueError
  | .a => PySem.F.excBase_ArithmeticError
  | .l => PySem.F.excBase_LookupError
theorem EB.passes : ∀ (b : EB) (self : Value), refuseLoop self "__setattr__" b.mro = pure ()
  | .v, self => PySem.F.store_ValueError.passes self
  | .a, self => PySem.F.store_ArithmeticError.passes self
  | .l, self => PySem.F.store_LookupError.passes self
theorem refsB_cases {b : EB} : ∀ l : List Value, refsB b l = true → (∃ c r, l = .ref c :: r ∧ refsB b r = true) ∨ l = b.mro := by
  intro l e
  unfold refsB at e
  split at e
  · exact .inl ⟨_, _, rfl, e⟩
  · exact .inr (beq_iff_eq.mp e)
theorem refsB_ne {b : EB} {l : List Value} (e : refsB b l = true) : l.isEmpty = false := by
  rcases refsB_cases l e with ⟨c, r, rfl, _⟩ | rfl <;> rfl
theorem refsB_has {b : EB} (X : String) : ∀ l : List Value, refsB b l = true → l.contains (.type X) = b.mro.contains (.type X)
  | [], e => by
    rcases refsB_cases [] e with ⟨c, r, q, _⟩ | q <;> cases q
  | a :: r, e => by
    rcases refsB_cases (a :: r) e with ⟨c, r', q, h⟩ | q
    · obtain ⟨rfl, rfl⟩ := List.cons.inj q
      rw [List.contains_cons, refsB_has X _ h]
      rfl
    · rw [q]
theorem refsB_pass {b : EB} (self : Value) : ∀ l : List Value, refsB b l = true → refuseLoop self "__setattr__" l = pure ()
  | [], e => by
    rcases refsB_cases [] e with ⟨c, r, q, _⟩ | q <;> cases q
  | a :: r, e => by
    rcases refsB_cases (a :: r) e with ⟨c, r', q, h⟩ | q
    · obtain ⟨rfl, rfl⟩ := List.cons.inj q
      rw [refuseLoop_ref]
      exact refsB_pass self _ h
    · rw [q]; exact b.passes self
section
open Builtin Builtin.ObjectAttr HandSPX
variable {prog : Program} {w : World} {A : Around} {R : Result → Shared → Prop} {hp : Heap} {g : Array GenState} {d : Drawn} {t : Nat} {os : OsState}
theorem exc_osaB {b : EB} {K : PySem.W.Frag} {name : Str} {tk : Tok} {v : Value} {x C : Addr} {fv : Array Value} {cd : ClassData} (X : K.In hp) (hx : hp.get? x = some { cls := .ref C, data := .fields fv }) (hcd : clsIn K C = some cd) (hm : refsB b cd.mro = true) (hh : cd.hasDict = true) (ha : findIn K (.ref C) name = some none)
    (hq : ∀ h' tk' dx, (∀ c o, c ≠ x → hp.get? c = some o → h'.get? c = some o) → hp.objs.size ≤ dx → dx ≠ x → h'.get? x = some { cls := .ref C, dict := some dx, data := .fields fv } → h'.Ns1 dx (fun y => if y = name then some v else none) → R (.ok (.ret .none)) ⟨h', g, d, tk', os⟩) :
    codeAny (model prog w) A (.call (.builtin "object.__setattr__") ⟨[.ref x, .str name tk, v], []⟩) R ⟨hp, g, d, t, os⟩ := by
  have I : InstAt hp x { cls := .ref C, data := .fields fv } C none := ⟨hx, rfl, rfl, trivial⟩
  have so := F.store_object
  have hxs : x ≠ hp.objs.size := Nat.ne_of_lt (Heap.lt_size hx)
  have ob : cd.mro.contains (.type "object") = true := (refsB_has "object" _ hm).trans (by cases b <;> decide +kernel)
  have isO : Looks (model prog w) hp (isInstance (.ref x) (.type "object")) true := I.type.andThen (looks_mroIn X (by unfold mroIn; rw [hcd, Option.bind_some, if_neg (by rw [refsB_ne hm]; decide), ob]))
  have hmr : Looks (model prog w) hp (mroOf (.ref C)) cd.mro := (looks_clsIn X hcd).andThen .now
  have hnt : Looks (model prog w) hp (storeTaker? none) none := .now
  have hcl : Looks (model prog w) hp (classData C) cd := looks_clsIn X hcd
  refine codeAny_call_builtin so.slot.plain so.entry (@check_slot (model prog w) _ _ ⟨hp, g, d, t, os⟩ "object.__setattr__" "object" "__setattr__" (.ref x) [.str name tk, v] [] _ so.kind so.split isO (so.args (.ref x) (.str name tk) v) ?_)
  rw [osa_eq, refuse_eq]
  refine wpAny_bind (wpAny_bind (I.type.at (wpAny_bind (hmr.at ?_))))
  rw [refsB_pass _ _ hm]
  refine wpAny_pure (wpAny_bind (I.type.at (wpAny_bind ((looks_findIn X ha).at (wpAny_bind (hnt.at ?_))))))
  show wpAny _ _ (storeInOwnDict (.ref x) (.ref C) (.str name tk) name v false) _ _ _
  obtain ⟨nm, bs, mro, ns, qn, hd, sn, sb, ab, col, del⟩ := cd
  dsimp only at hh
  subst hh
  unfold storeInOwnDict ownDictForStores
  repeat (first | with_reducible refine store_in_new ?_ ?_ | with_reducible refine wpAny_loadPart_at hx ?_ | with_reducible refine hcl.at ?_ | wp_step)
  · exact ⟨_, #[], _, (Heap.get?_update_ne _ _ _ _ hxs.symm).trans (Heap.get?_push_at rfl rfl), rfl, fun e he => absurd he (by simp), fun _ => rfl⟩
  · intro h' tk' hn' hs
    have hx₁ : (hp.push { cls := .type "dict", data := .dict #[] }).get? x = some { cls := .ref C, data := .fields fv } := Heap.get?_push_of_some _ hx
    refine hq h' tk' hp.objs.size (fun c o hc ho => ?_) (Nat.le_refl _) hxs.symm ?_ hn'
    · exact (hs.2 c (Nat.ne_of_lt (Heap.lt_size ho))).trans ((Heap.get?_update_ne _ _ _ _ hc).trans (Heap.get?_push_of_some _ ho))
    · exact (hs.2 x hxs).trans (Heap.get?_update_self _ hx₁ rfl)
end
structure PrgOk (P : Program) (file : Str) : Prop where
  file : ((P.main.file : Str) == file) = true
  top : (P.main.scope.names.lookup ("super" : Str)).isSome = false
section
variable {prog : Program} {w : World} {K : PySem.W.Frag} {mg mb : Str → Option Value} {A : Around} {E : Value → Shared → Prop} {R : Result → Shared → Prop} {C fI : Addr} {a f file : Str} {hp : Heap} {g : Array GenState} {d : Drawn} {t : Nat} {os : OsState} {u : Value}
theorem bind2 {params : Arguments} {p1 p2 : Pos} {name qual : Str} {body : List Stmt} {scope : Scope} {doc pm ct cdv : Value} {an : Option Addr} {cc : Addr} {x y : Value} (hp : params = ⟨[], [⟨"self", none, p1⟩, ⟨a, none, p2⟩], none, [], [], none, []⟩) (hn : (a == sSelf) = false) :
    bindArgs (ksFn name qual params body scope .none .none doc pm an cdv ct cc) ⟨[x, y], []⟩ = pure [(sSelf, x), (a, y)] := by
  subst hp
  have e1 : ((a : Str) == "self") = false := hn
  unfold bindArgs
  simp [seqItems?, List.lookup, e1, notAStandIn]
theorem meth_line {o : Expr} {name : Str} {apos pos p3 : Pos} {txt : Str} {j : Nat} {env : Env} (hl : (apos.endLine == pos.line) = true) : eval (.Call (.Attribute o name apos) [.Constant (.str txt) j p3] [] pos) env = (do
      let ov ← attributeBase o name env (eval o env)
      standAt apos.atName
      let (f, first) ← holding [ov] (getMethod ov name (do return (← importBound o env).getD true))
      callWith pos f first (backTo pos (starEach [.Constant (.str txt) j p3] env)) []) := by
  have e1 : methodCallPos true o env apos pos = pure pos := by unfold methodCallPos; rw [hl]; rfl
  show (do
      let ov ← attributeBase o name env (eval o env)
      standAt apos.atName
      methodCall o name apos pos env ov 1 (backTo pos (starEach [.Constant (.str txt) j p3] env)) []) = _
  unfold methodCall
  have e2 : methodCallForm 1 (backTo pos (starEach [.Constant (.str txt) j p3] env)) [] = true := rfl
  rw [e2, e1]
  rfl
theorem init_run {b : EB} (EC : ErrD b K C fI a f file) (PO : PrgOk prog file) (KX : K.In hp) (hg : hp.Ns mainGlobals mg) (hb : hp.Ns builtinsNs mb) (hbb : ∀ x : Str, x ≠ "__name__" → mb x = bootBuiltins x) (hlim : hp.NoLimit) (hroom : A.depth < recursionLimit)
    (h : ∀ (h' : Heap) (tk' : Nat) (dx t1 : Addr), (∀ b o, hp.get? b = some o → h'.get? b = some o) → hp.objs.size ≤ dx → dx ≠ hp.objs.size + 1 → h'.get? (hp.objs.size + 1) = some (excObj C t1 (some dx) .none) →
      h'.Ns1 dx (fun y => if y = f then some u else none) → R (.ok (.ret .none)) ⟨h', g, d, tk', os⟩) :
    codeAny (model prog w) A (.call (.ref fI) ⟨[.ref (hp.objs.size + 1), u], []⟩) R ⟨(hp.push (kdv_tup [u])).push (HandSPX.excO C hp.objs.size), g, d, t, os⟩ := by
  obtain ⟨oc, od, osl, name, qual, params, body, scope, doc, pm, an, cdA, ct, cc, hl, hcd, ⟨ccl, cdd, vs, ccs, tf, hco, hvs⟩, ⟨cl, cld, csl, hcc⟩, ET⟩ := EC.fn
  have eki := ET.ki
  obtain ⟨kind, names, gen, co, more⟩ := scope
  dsimp only at eki
  subst eki
  obtain ⟨pp1, pp2, epar⟩ := ET.par
  obtain ⟨txt, j, p0, p1, p2, p3, p4, p5, p6, p7, p8, p9, ebody, hln⟩ := ET.body
  have kk : ∀ b o, hp.get? b = some o → ((hp.push (kdv_tup [u])).push (HandSPX.excO C hp.objs.size)).get? b = some o := fun b o e => Heap.get?_push_of_some _ (Heap.get?_push_of_some _ e)
  have hget : ((hp.push (kdv_tup [u])).push (HandSPX.excO C hp.objs.size)).get? (hp.objs.size + 1) = some (HandSPX.excO C hp.objs.size) := by heap_get
  have hsz : ((hp.push (kdv_tup [u])).push (HandSPX.excO C hp.objs.size)).objs.size = hp.objs.size + 2 := by rw [Heap.size_push, Heap.size_push]
  refine ks_codeAny_call_defAt (fd := ksFn name qual params body ⟨.function, names, gen, co, more⟩ .none .none doc pm an (.ref cdA) ct cc) (body := body) (binds := [(sSelf, .ref (hp.objs.size + 1)), (a, u)]) hroom (kk _ _ (KX _ _ hl)) rfl (hlim.keeps kk) (codeRec_of (KX.keeps kk) hcd) rfl
    (.of_eq (bind2 epar ET.ne)) ET.ce (fun x hx => ?_) (fun h₀ hns hk => ?_) ET.co ET.ge ET.ki
  · rcases List.mem_cons.mp hx with e | hx
    · subst e; exact ET.se
    · rcases List.mem_cons.mp hx with e | hx
      · subst e; exact ET.aa
      · cases hx
  · have Xo : K.In h₀ := fun b o e => hk b o (kk b o (KX b o e))
    have up : ∀ b o, hp.get? b = some o → h₀.get? b = some o := fun b o e => hk b o (kk b o e)
    have F : Fr hp ((hp.push (kdv_tup [u])).push (HandSPX.excO C hp.objs.size)).objs.size h₀ (fun x => [(sSelf, Value.ref (hp.objs.size + 1)), (a, u)].reverse.lookup x) := ⟨hns, up, by first | exact Nat.le_add_right _ _ | (rw [hsz]; exact Nat.le_add_right _ _)⟩
    have none_ : hp.get? (hp.objs.size + 1) = none := by
      cases e : hp.get? (hp.objs.size + 1) with
      | none => rfl
      | some o => exact absurd (Nat.lt_of_succ_lt (Heap.lt_size e)) (Nat.lt_irrefl _)
    have N : News hp ((hp.push (kdv_tup [u])).push (HandSPX.excO C hp.objs.size)).objs.size h₀ [(hp.objs.size + 1, excObj C hp.objs.size none .none)] := fun p hp_ => by
      rcases List.mem_cons.mp hp_ with e | hp_
      · subst e; exact ⟨hk _ _ hget, by rw [hsz]; exact Nat.ne_of_lt (Nat.lt_succ_self _), none_⟩
      · cases hp_
    have ms : [(sSelf, Value.ref (hp.objs.size + 1)), (a, u)].reverse.lookup sSelf = some (Value.ref (hp.objs.size + 1)) := by
      have e1 : (sSelf == a) = false := by
        cases q : (sSelf == a) with
        | false => rfl
        | true => have := beq_iff_eq.mp q; rw [← this] at ET; exact absurd ET.ne (by simp)
      simp [List.lookup, e1]
    have ma : [(sSelf, Value.ref (hp.objs.size + 1)), (a, u)].reverse.lookup a = some u := by simp [List.lookup]
    obtain ⟨cdD, hD⟩ : ∃ cd, clsIn K C = some cd := by
      cases e : clsIn K C with
      | none => have := EC.sf; unfold mroIn at this; rw [e] at this; cases this
      | some cd => exact ⟨cd, rfl⟩
    obtain ⟨oD, hD1, hD2⟩ : ∃ oD, h₀.get? C = some oD ∧ oD.data = .cls cdD := by
      unfold clsIn at hD
      split at hD
      · rename_i c d cd' sl ho
        cases hD
        exact ⟨_, Xo _ _ ho, rfl⟩
      · cases hD
    subst ebody
    refine ks_wpAt_execs_cons (ks_wpAt_Expr_any (ks_wpAt_MethodCall ?_ (meth_line hln)))
    have I0 : InstAt h₀ (hp.objs.size + 1) (excObj C hp.objs.size none .none) C none := ⟨hk _ _ hget, rfl, rfl, trivial⟩
    refine ks_wpAt_super_base (ar := ⟨"self", none, pp1⟩) ET.su ET.cl rfl rfl (Xo _ _ hl) rfl (by rw [epar]; rfl) rfl (Xo _ _ hco) rfl hvs PO.file PO.top ?_
    refine ks_loadName_global rfl ET.su (loadGlobal_builtin (hg.keeps up) (mg_none_of KX hg EC.su) (hb.keeps up) ((hbb _ (by decide +kernel)).trans (by rfl)) ⟨rfl, ?_⟩)
    refine wpAny_loadName_free rfl ET.cl rfl ⟨_, Xo _ _ hcc, rfl⟩ ?_
    refine wpAny_loadName_local rfl ET.se F.ns ms ?_
    refine ks_wpAny_isType_cls hD1 hD2 ⟨rfl, ?_⟩
    refine ks_wpAny_call_super hD1 hD2 I0.at_ I0.cls (fun c e => by cases e) (looks_mroIn Xo EC.sf) (fun h1 e1 k1 => ?_)
    obtain ⟨F1, N1, l1⟩ := ks_newsPush (s := ⟨h₀, g, d, t, os⟩) F N rfl e1 k1
    have I1 : InstAt h1 (hp.objs.size + 1) (excObj C hp.objs.size none .none) C none := ⟨k1 _ _ I0.at_, rfl, rfl, trivial⟩
    refine kxs_method b.kxs F1 KX N1 (List.mem_cons_self ..) I1 EC.tp EC.sm EC.sv (by decide) (fun q h2 F2 N2 l2 => ?_)
    refine kxs_callWith1 N2 (List.mem_cons_self ..) ?_
    refine Calls.spliced_cons ?_
    refine Calls.Constant_str (x := txt) (k := j) (pos := p3) ?_
    refine Calls.spliced_nil ⟨kxs_at N2 (List.mem_cons_self ..), ?_⟩
    refine kxs_call F2 KX N2 b.exb EC.xi (List.mem_cons_self ..) (.tail (Nat.ne_of_gt (l2 _ (List.mem_cons_of_mem _ (List.mem_cons_self ..)))) (.tail (Nat.ne_of_gt (l1 _ (List.mem_cons_self ..))) (.head fun p hp => by cases hp))) (by rw [sizeLine_eq]; simp) (fun t1 h3 F3 N3 l3 => ?_)
    refine ks_wpAt_execs_cons (ks_wpAt_Assign_Attr (wpAt_of_wpAny ?_))
    refine wpAny_Name (wpAny_loadName_local rfl ET.aa F3.ns ma ?_) ET.db
    refine wpAny_Name (wpAny_loadName_local rfl ET.se F3.ns ms ?_) (by decide)
    obtain ⟨nm, qn, Nn, bs, bm, sn, sub, ab, col, dd, k0, k1', k2, k3, k5, hC, hbm⟩ := EC.T.cls
    have hcl : clsIn K C = some { name := nm, bases := bs, mro := .ref C :: bm, ns := Nn, qualname := qn, hasDict := true, slotNames := sn, subclasses := sub, abstract := ab, collection := col, hasDel := false } := by unfold clsIn; rw [hC] <;> rfl
    have he3 : h3.get? (hp.objs.size + 1) = some (excObj C t1 none .none) := (N3 (hp.objs.size + 1, excObj C t1 none .none) (by simp)).1
    refine set_plain (KX.keeps F3.keep) (ox := excObj C t1 none .none) (od := none) ⟨he3, rfl, rfl, trivial⟩ EC.T.sa ?_
    refine exc_osaB (KX.keeps F3.keep) he3 hcl (show refsB b (.ref C :: bm) = true from hbm) rfl EC.nf (fun h' tk' dx kx dn dne hx hn => ?_)
    refine wpAt_of_wpAny (wpAny_execs_nil ?_)
    refine h h' _ dx t1 (fun b o e => kx b o (fun z => by rw [z, none_] at e; cases e) (F3.keep b o e)) ?_ dne hx hn
    refine Nat.le_trans ?_ dn
    exact Nat.le_of_lt (Nat.lt_of_succ_lt (Heap.lt_size he3))
end
section
variable {X : Cx} {T : Tx} {W : WX} {pos : Pos}
def tMkE (C : Addr) (f : Str) (ta : TA) : L2.St → Hp → XK → Prop := fun σ H Q => ta σ H fun vs H1 => ∃ v, vs = [v] ∧ ∀ dx, H1 dx = none → Q (.ref C) (some dx) (upd H1 dx (.xd [(f, v)]))
theorem pmk_err {x : Str} {e : Expr} {es : List Expr} {ta : TA} {p : Pos} {C fI : Addr} {a f file : Str} (EC : ErrC X.K C fI a f file) (PO : PrgOk X.prog file) (hr : Room 1 X.A) (hg : Gl X x) (hm : X.mg x = some (.ref C)) (ha : PA X (e :: es) ta)
    (hdb : (x == ("__debug__" : Str)) = false := by decide) (he : starEach (e :: es) X.env = (false, eval e X.env) :: starEach es X.env := by rfl) (hpl : (backTo pos (starEach es X.env)).any (·.1) = false := by rfl) :
    PMk X (.Call (.Name x p) (e :: es) [] pos) (tMkE C f ta) := by
  obtain ⟨b, EC⟩ := EC
  intro pins s σ H Q I h
  obtain ⟨nm, qn, Nn, bs, bm, sn, sub, ab, col, dd, k0, k1, k2, k3, k5, hC, hbm⟩ := EC.T.cls
  refine wpAny_Call_Name_kw (ld_glob I hg hm ?_ hdb)
  refine PySem.W.callWith_K (h₀ := X.base) I.ok.mod.kin EC.T.kC (thn (ha.run pos pins s σ H _ I h) fun us s1 ⟨vs, H1, I1, r1, q1⟩ => ⟨I1.kIn, ?_⟩) he hpl
  obtain ⟨v, rfl, q⟩ := q1
  obtain ⟨u, us', rfl, ru, ru'⟩ : ∃ u us', us = u :: us' ∧ RelV v u ∧ Vals [] us' := by
    cases r1 with
    | cons a b => exact ⟨_, _, rfl, a, b⟩
  cases ru'
  obtain ⟨mb, hb1, hb2⟩ := I1.mod.blt
  have hng := I1.mod.glob.keeps I1.bk
  have hnb := hb1.keeps I1.bk
  have hnl := I1.nolimit
  have hk1 := I1.kIn
  obtain ⟨hp, g, dr, tk, os⟩ := s1
  show wpAny _ _ (call (.ref C) [u]) _ _ _
  refine wpAny_call (PySem.HandSPX.call_own b.exb (fun Y => refsB_has Y bm hbm) (hk1 _ _ hC) (PySem.W.looks_findIn hk1 EC.iC) (fun self => PySem.W.bind_fn hk1 self EC.tI) (by rw [sizeLine_eq]; simp)
    (init_run EC PO hk1 hng hnb hb2 hnl (by have := (hr.make C [u] []).depth; exact this) (fun h' tk' dx t1 k dn dne hx hn => ?_)))
  refine ⟨rfl, ?_⟩
  obtain ⟨G, g1, g2⟩ := restrict h' fun b => decide (b ≠ hp.objs.size + 1)
  have gk : ∀ b, b ≠ hp.objs.size + 1 → G.get? b = h'.get? b := fun b hb => g1 b (decide_eq_true hb)
  have ge : G.get? (hp.objs.size + 1) = none := g2 _ (by simp)
  have ne_ : ∀ b o, hp.get? b = some o → b ≠ hp.objs.size + 1 := fun b o e z => by
    rw [z] at e; exact absurd (Nat.lt_of_succ_lt (Heap.lt_size e)) (Nat.lt_irrefl _)
  have kG : ∀ b o, G.get? b = some o → h'.get? b = some o := fun b o e => by
    by_cases hb : b = hp.objs.size + 1
    · rw [hb, ge] at e; cases e
    · rw [← gk b hb]; exact e
  have na : H1 (hp.objs.size + 1) = none := I1.hok.fresh (Nat.le_succ _)
  have nd : H1 dx = none := I1.hok.fresh dn
  have J : Inv X pins σ (upd H1 dx (.xd [(f, v)])) ⟨G, g, dr, tk', os⟩ :=
    I1.laid (t' := tk') (a := dx) (o := .xd [(f, v)]) (h' := G) (fun b o e => (gk b (ne_ b o e)).trans (k b o e)) dn ⟨_, hn.at (fun o y => (gk dx dne).trans y), relO_put (fs := []) ru fun _ => True.intro⟩
  exact ⟨hp.objs.size + 1, _, _, ⟨G, g, dr, tk', os⟩, _, .ref C, some dx, rfl, J, kG, ge, hx, ⟨rfl, rfl⟩, rfl, rfl, by rw [upd_ne (fun z => dne z.symm)]; exact na, rfl, I1.bare, raises_own EC.T.exC EC.T.tyC, q dx nd⟩
def sRaise (c : Nat) (f : FnE) : FnS := fun δ h => (f δ h).toS δ fun x h1 => .exc c [x] δ h1
theorem fs_raise {c : Nat} {x : Str} {e : Expr} {fe : FnE} {p pos' : Pos} {C fI : Addr} {a f file : Str} (hc : X.calm = true) (tk : Takes X W) (EC : ErrC X.K C fI a f file) (hx : T.exc c = some (C, [f])) (PO : PrgOk X.prog file) (hr : RoomG 1 X.A) (hg : Gl X x) (hm : X.mg x = some (.ref C)) (he : FE X T W e fe)
    (hdb : (x == ("__debug__" : Str)) = false := by decide) (hs : starEach [e] X.env = (false, eval e X.env) :: starEach [] X.env := by rfl) (hpl : (backTo pos (starEach [] X.env)).any (·.1) = false := by rfl) :
    FS X T W (.Raise (some (.Call (.Name x p) [e] [] pos)) none pos') (sRaise c fe) := by
  have hp : PA X [e] (tCons (tE X.K T W fe) tNil) := pa_cons he pa_nil hs
  refine PS.imp (ps_raise hc tk (pmk_err EC PO hr.r hg hm hp hdb hs hpl)) fun D σ H h => ?_
  refine tS.bind (k := fun δ x h1 => .exc c [x] δ h1) h fun G δ x1 v h1 H1 r1 s1 d1 o1 => ?_
  refine ⟨v, rfl, fun dx nd => ?_⟩
  obtain ⟨x2, r2⟩ := r1.newF (o := .xd [(f, v)]) nd
  exact o1 _ _ σ (.ref C) (some dx) x2 r2 (s1.mono x2) ⟨C, [f], hx, rfl, .inr ⟨dx, [(f, v)], rfl, upd_same, rfl, .cons (d1.mono x2) .nil⟩⟩
end
section
variable {X : Cx} {T : Tx} {W : WX} {pos : Pos}
def noXS : RS → RS
  | .exc _ _ _ _ => .stk
  | r => r
def handle (c : Nat) (ds : List D) (δ : De) (h : Hh) : List ((Nat → Bool) × FnS) → RS
  | [] => .exc c ds δ h
  | (m, v) :: r => if m c = true then noXS (v δ h) else handle c ds δ h r
inductive FHds (X : Cx) (T : Tx) : List ExceptHandler → List ((Nat → Bool) × FnS) → Prop
  | nil : FHds X T [] []
  | cons {x : Str} {c : Value} {m : Nat → Bool} {v : FnS} {b₀ : Stmt} {suite : List Stmt} {np pos' : Pos} {hds : List ExceptHandler} {l : List ((Nat → Bool) × FnS)} (hc : Names X x c) (hm : ∀ n C nm, T.exc n = some (C, nm) → exmOne X.K (.ref C) c = some (m n))
      (hsu : ∀ (a : Addr) (oe : Obj) (pn : List (Addr × Obj)), FSs (X.suite a ((a, oe) :: pn)) T W0 (b₀ :: suite) v) (r : FHds X T hds l) : FHds X T (.ExceptHandler (some (.Name x np)) none (b₀ :: suite) pos' :: hds) ((m, v) :: l)
theorem okS.noX {K : PySem.W.Frag} {G : Gst} {r : RS} {D : Ends} (o : okS K T W G (noXS r) D) : okS K T W0 G r D := by
  cases r with
  | nx δ h => exact o
  | rt d h => exact o
  | bk δ h => exact o
  | ct δ h => exact o
  | exc c ds δ h => exact o.elim
  | stk => exact o
theorem FHds.ok {hds : List ExceptHandler} {l : List ((Nat → Bool) × FnS)} (F : FHds X T hds l) : ∃ l', HdsOk X hds l' ∧ ∀ (DE : Ends) (c : Nat) (ds : List D) (δ : De) (h : Hh) G H (σ : L2.St) cls dd, Rel X.K T G h H → RSl X.K T G δ σ → RX X.K T G c ds cls dd → okS X.K T W G (handle c ds δ h l) DE → wMany X.K W DE l' cls dd σ H := by
  induction F with
  | nil => exact ⟨[], .nil, fun D c ds δ h G H σ cls dd r s x o => o G H σ cls dd (Ext.refl G) r s x⟩
  | @cons x c0 m v b₀ suite np pos' hds l hc hm hsu r ih =>
    obtain ⟨l', ok', rd⟩ := ih
    refine ⟨(c0, fun _ _ _ => tS X.K T W0 v) :: l', .cons hc (fun a oe cls d pn _ _ => hsu a oe pn) ok', fun D c ds δ h G H σ cls dd r s x o => ?_⟩
    obtain ⟨C, nm, e1, e2, e3⟩ := id x
    subst e2
    refine ⟨m c, hm c C nm e1, fun hy a na => ?_, fun hn => ?_⟩
    · unfold handle at o
      rw [if_pos hy] at o
      exact ⟨G, h, δ, r, s, okS.noX o⟩
    · unfold handle at o
      rw [if_neg (by rw [hn]; exact Bool.false_ne_true)] at o
      exact rd D c ds δ h G H σ _ dd r s x o
end
inductive Pk where
  | p (i : Nat) | k (i : Nat) | d (i : Nat)
def Pk.at_ {α : Type} (us ds ws : List α) : Pk → Option α
  | .p i => us[i]?
  | .k i => ws[i]?
  | .d i => ds[i]?
def pick {α : Type} (us ds ws : List α) : List Pk → List α
  | [] => []
  | x :: l => match x.at_ us ds ws with
    | some v => v :: pick us ds ws l
    | none => pick us ds ws l
theorem Vals.gets {vs : List V} {us : List Value} (r : Vals vs us) (i : Nat) : (vs[i]? = none ∧ us[i]? = none) ∨ ∃ v u, vs[i]? = some v ∧ us[i]? = some u ∧ RelV v u := by
  induction r generalizing i with
  | nil => exact .inl ⟨by simp, by simp⟩
  | cons a b ih =>
    cases i with
    | zero => exact .inr ⟨_, _, rfl, rfl, a⟩
    | succ i => simpa using ih i
theorem Vals.pick {vs dvs zs : List V} {us dus ws : List Value} (r : Vals vs us) (d : Vals dvs dus) (z : Vals zs ws) : ∀ l : List Pk, Vals (L3.pick vs dvs zs l) (L3.pick us dus ws l)
  | [] => .nil
  | x :: l => by
    have ih := Vals.pick r d z l
    have e : (x.at_ vs dvs zs = none ∧ x.at_ us dus ws = none) ∨ ∃ v u, x.at_ vs dvs zs = some v ∧ x.at_ us dus ws = some u ∧ RelV v u := by
      cases x with
      | p i => exact Vals.gets r i
      | k i => exact Vals.gets z i
      | d i => exact Vals.gets d i
    unfold L3.pick
    rcases e with ⟨e1, e2⟩ | ⟨v, u, e1, e2, q⟩
    · rw [e1, e2]; exact ih
    · rw [e1, e2]; exact .cons q ih
theorem RDs.gets {K : PySem.W.Frag} {T : Tx} {G : Gst} {ds : List D} {vs : List V} (r : RDs K T G ds vs) (i : Nat) : (ds[i]? = none ∧ vs[i]? = none) ∨ ∃ d v, ds[i]? = some d ∧ vs[i]? = some v ∧ RD K T G d v := by
  by_cases h : i < ds.length
  · obtain ⟨v, e1, e2⟩ := r.get (i := i) (d := ds[i]) (by simp [h])
    exact .inr ⟨_, v, by simp [h], e1, e2⟩
  · exact .inl ⟨by simpa using h, by rw [List.getElem?_eq_none]; rw [← r.length]; omega⟩
theorem RDs.pick {K : PySem.W.Frag} {T : Tx} {G : Gst} {ds dds zs : List D} {vs dvs ws : List V} (r : RDs K T G ds vs) (d : RDs K T G dds dvs) (z : RDs K T G zs ws) : ∀ l : List Pk, RDs K T G (L3.pick ds dds zs l) (L3.pick vs dvs ws l)
  | [] => .nil
  | x :: l => by
    have ih := RDs.pick r d z l
    have e : (x.at_ ds dds zs = none ∧ x.at_ vs dvs ws = none) ∨ ∃ d v, x.at_ ds dds zs = some d ∧ x.at_ vs dvs ws = some v ∧ RD K T G d v := by
      cases x with
      | p i => exact RDs.gets r i
      | k i => exact RDs.gets z i
      | d i => exact RDs.gets d i
    unfold L3.pick
    rcases e with ⟨e1, e2⟩ | ⟨v, u, e1, e2, q⟩
    · rw [e1, e2]; exact ih
    · rw [e1, e2]; exact .cons q ih
def KBp (K : PySem.W.Frag) (fd : FuncData) (ps : List Str) (n : Nat) (ks : List Str) (us : List Value) (l : List Pk) : Prop :=
  ∀ (s : Shared) (vs ws : List Value), K.In s.heap → vs.length = n → ws.length = ks.length → BindsTo s fd ⟨vs, ks.zip ws⟩ (ps.zip (pick vs us ws l))
theorem kbp0 {K : PySem.W.Frag} {x qual : Str} {params : Arguments} {body : List Stmt} {scope : Scope} {kws : List (Str × V)} {f : Addr} {fd : FuncData} {ps : List Str} (F : FunD K x qual params body scope [] kws f fd) (n : Nat) (ks : List Str) (l : List Pk)
    (h : ∀ (kV doc pm : Value) (an : Option Addr) (cdv ct : Value) (us ws : List Value), us.length = n → ws.length = ks.length → bindArgs (PySem.W.fnOf x qual params body scope .none kV doc pm an cdv ct) ⟨us, ks.zip ws⟩ = pure (ps.zip (pick us [] ws l))) : KBp K fd ps n ks [] l := by
  obtain ⟨oc, od, dV, kV, doc, pm, an, cdv, ct, osl, rfl, lk, hcd, hD, hK⟩ := F.ex
  rcases hD with ⟨_, rfl⟩ | ⟨e, _⟩
  · exact fun s us ws X l1 l2 => .of_eq (h kV doc pm an cdv ct us ws l1 l2)
  · exact absurd rfl e
section
variable {X : Cx} {T : Tx} {W : WX} {pos : Pos}
abbrev FK (X : Cx) (T : Tx) (W : WX) (kws : List Keyword) (f : FnA) : Prop := PK X kws (tA X.K T W f)
theorem PK.imp {X : Cx} {e : List Keyword} {t t' : TA} (h : PK X e t) (q : ∀ σ H Q, t' σ H Q → t σ H Q) : PK X e t' := ⟨fun pos pins s σ H Q I z => h.run pos pins s σ H Q I (q _ _ _ z)⟩
theorem fk_nil : FK X T W [] aNil := by
  refine PK.imp pk_nil fun σ H Q => ?_
  rintro ⟨G, h0, δ, r, s, o⟩
  exact okR.at o r .nil
theorem fk_cons {nm : Option Str} {e : Expr} {kpos : Pos} {kws : List Keyword} {f : FnE} {fr : FnA} (ha : FE X T W e f) (hr : FK X T W kws fr) : FK X T W (⟨nm, e, kpos⟩ :: kws) (aCons f fr) := by
  refine PK.imp (pk_cons ha hr) fun σ H Q => ?_
  rintro ⟨G, h0, δ, r, s, o⟩
  refine ⟨G, h0, δ, r, s, (okR.bind (rel := RD X.K T) o).mono ?_⟩
  rintro v H1 ⟨G1, x, h1, e1, r1, d1, o1⟩
  refine ⟨G1, h1, δ, r1, s.mono e1, (okR.bind (rel := RDs X.K T) o1).mono ?_⟩
  rintro w H2 ⟨G2, y, h2, e2, r2, d2, o2⟩
  exact okR.at o2 r2 (.cons (d1.mono e2) d2)
def eKw (fa fk : FnA) (k : List D → List D → Hh → R D) : FnE := fun δ h => (fa δ h).bind fun ds h1 => (fk δ h1).bind fun zs h2 => k ds zs h2
def kCallK (n m np : Nat) (sem : Sem3) (dds : List D) (l : List Pk) (ds zs : List D) (h : Hh) : R D := if ds.length = n ∧ zs.length = m ∧ (pick ds dds zs l).length = np then sem (pick ds dds zs l) h else .stk
theorem runGK {CX : CXT} {k n : Nat} {f : Addr} {fd : FuncData} {ps ks : List Str} {sp : Sp} {ds : List Value} {dvs : List V} {E : L2.St → XK} {pins : List (Addr × Obj)} {σ : L2.St} {H : Hp} {s : Shared} {Q : VK} {us ws : List Value} {vs zs : List V} {l : List Pk} (F : FnQ X.prog X.w X.K X.mg X.base CX k f fd ps sp) (hr : RoomG k X.A)
    (bd : KBp X.K fd ps n ks ds l) (hd : Vals dvs ds) (hx : PassesAt CX X σ (E σ)) (I : Inv X pins σ H s) (r : Vals vs us) (rz : Vals zs ws) (l1 : vs.length = n) (l2 : zs.length = ks.length) (h : sp (pick vs dvs zs l) H Q (E σ)) : wpAny (model X.prog X.w) X.A (call (.ref f) us (ks.zip ws)) (EP X pins σ Q) X.xe s := by
  have all := Vals.pick r hd rz l
  refine wpAny_call (codeAny_mono (F.go X.A X.stack s H ⟨us, ks.zip ws⟩ (pick us ds ws l) (pick vs dvs zs l) Q (E σ) hr I.env0 (bd s us ws I.kIn (r.length.symm.trans l1) (rz.length.symm.trans l2)) all h) fun res s' q => ?_)
  match res, q with
  | .error e, q => exact hx pins H s e s' I q
  | .ok (.ret u), q => exact I.after q
  | .ok .next, q => exact q.elim
  | .ok .brk, q => exact q.elim
  | .ok .cont, q => exact q.elim
theorem sp3_ofK {K : PySem.W.Frag} {n m np : Nat} {sem : Sem3} {G : Gst} {h : Hh} {H : Hp} {ds zs dds : List D} {vs ws dvs : List V} {us : List Value} {Q : VK} {σ : L2.St} {l : List Pk} (D0 : Dfl K T dds dvs us) (r : Rel K T G h H) (d : RDs K T G ds vs) (z : RDs K T G zs ws) (o : okR K T W G σ (RD K T) (kCallK n m np sem dds l ds zs h) Q) :
    vs.length = n ∧ ws.length = m ∧ sp3 K T np sem (pick vs dvs ws l) H Q (WE W σ) := by
  unfold kCallK at o
  have dd := RDs.pick d (D0.rel G) z l
  by_cases hl : ds.length = n ∧ zs.length = m ∧ (pick ds dds zs l).length = np
  · rw [if_pos hl] at o
    refine ⟨by rw [← d.length]; exact hl.1, by rw [← z.length]; exact hl.2.1, by rw [← dd.length]; exact hl.2.2, G, h, pick ds dds zs l, r, dd, ?_⟩
    cases e : sem (pick ds dds zs l) h with
    | ok y hh => rw [e] at o; exact o
    | exc c es hh => rw [e] at o; exact o
    | stk => rw [e] at o; exact o.elim
  · rw [if_neg hl] at o; exact o.elim
end
end L3
set_option autoImplicit false
set_option maxHeartbeats 4000000
namespace L3
open PySem PySem.Spec L2
section
variable {X : Cx} {T : Tx} {W : WX} {pos : Pos}
def kMakeK (c na m np : Nat) (sem : Sem3) (dds : List D) (l : List Pk) (ds zs : List D) (h1 : Hh) : R D := if ds.length = 0 ∧ zs.length = m ∧ (pick [D.ref h1.length] dds zs l).length = np then
  endMake c na h1.length (sem (pick [D.ref h1.length] dds zs l) (h1 ++ [.obj c []])) else .stk
theorem make_readK {c na m np : Nat} {C : Addr} {sem : Sem3} {nm : List Str} {dds zs : List D} {dvs ws : List V} {us : List Value} {l : List Pk} {G1 : Gst} {h1 : Hh} {H1 : Hp} {σ : L2.St} {Q : VK} {K : PySem.W.Frag} (hc : T.cls c = some (C, nm)) (hna : nm.length = na) (D0 : Dfl K T dds dvs us)
    (r1 : Rel K T G1 h1 H1) (d1 : RDs K T G1 zs ws) (o : okR K T W G1 σ (RD K T) (kMakeK c na m np sem dds l [] zs h1) Q) : ws.length = m ∧ ∀ x dx, H1 x = none → H1 dx = none → dx ≠ x →
    sp3 K T np sem (pick [.ref x] dvs ws l) (upd (upd H1 dx (.own x)) x (.ins C dx [])) (fun v H2 => v = .non ∧ Q (.ref x) H2) (WE W σ) := by
  unfold kMakeK at o
  by_cases hl : ([] : List D).length = 0 ∧ zs.length = m ∧ (pick [D.ref h1.length] dds zs l).length = np
  · rw [if_pos hl] at o
    refine ⟨by rw [← d1.length]; exact hl.2.1, fun x dx hx hdx ne => ?_⟩
    have r2 := r1.track (o := .own x) hdx
    have hx2 : upd H1 dx (.own x) x = none := by rw [upd_ne (Ne.symm ne)]; exact hx
    obtain ⟨x3, r3⟩ := r2.newO (o := .ins C dx []) (u := .obj c []) hx2 fun G' _ hi ho _ => ⟨x, C, dx, nm, [], hi, ho, upd_same, hc, by simp, .nil⟩
    have hix : (G1.new x).ι[h1.length]? = some x := by
      show (G1.ι ++ [x])[h1.length]? = some x
      rw [← r1.len]; simp
    have dd : RDs K T (G1.new x) (pick [D.ref h1.length] dds zs l) (pick [V.ref x] dvs ws l) := RDs.pick (.cons (.ref hix) .nil) (D0.rel _) (d1.mono x3) l
    refine ⟨by rw [← dd.length]; exact hl.2.2, G1.new x, _, _, r3, dd, ?_⟩
    cases e : sem (pick [D.ref h1.length] dds zs l) (h1 ++ [.obj c []]) with
    | stk => rw [e] at o; exact o.elim
    | exc c' es h' => rw [e] at o; exact okR.ext (W := W) (rel := RD K T) (σ := σ) (r := .exc c' es h') x3 o
    | ok y h2 =>
      rw [e] at o
      unfold endMake at o
      cases y with
      | non =>
        dsimp only at o
        intro G' H' v x4 r4 dv
        cases dv
        refine ⟨rfl, ?_⟩
        cases q : h2[h1.length]? with
        | none => rw [q] at o; exact o.elim
        | some ob =>
          rw [q] at o
          cases ob with
          | obj c' es =>
            dsimp only at o
            by_cases hce : c' = c ∧ es.length = na
            · rw [if_pos hce] at o
              obtain ⟨rfl, hlen⟩ := hce
              obtain ⟨a, C', dx', nm', fs, z1, z2, z3, z4, z5, z6⟩ := r4.obj _ _ q
              rw [hc] at z4; cases z4
              obtain ⟨tt, ht⟩ := x4.ι
              have hax : a = x := by
                have h0 : h1.length < (G1.new x).ι.length := (List.getElem?_eq_some_iff.mp hix).1
                rw [ht, List.getElem?_append_left h0, hix] at z1
                cases z1; rfl
              subst hax
              have hn : h1.length < h2.length := (List.getElem?_eq_some_iff.mp q).1
              obtain ⟨r5, x5⟩ := r4.freeze hn z2 z3
              refine o _ H' (.ref a) (x3.trans (x4.trans x5)) r5 (.obj (C := C) (dx := dx') (nm := nm) (fs := fs) upd_same hc ?_ (z6.mono x5))
              rw [z5, hlen, ← hna, List.take_length]
            · rw [if_neg hce] at o; exact o.elim
          | _ => exact o.elim
      | _ => exact o.elim
  · rw [if_neg hl] at o; exact o.elim
theorem run_makeSK {CX : CXT} {C f : Addr} {k : Nat} {fd : FuncData} {ps ks : List Str} {sp : Sp} {ds : List Value} {dvs : List V} {E : XK} {pins : List (Addr × Obj)} {σ : L2.St} {H : Hp} {s : Shared} {Q : VK} {ws : List Value} {zs : List V} {l : List Pk} (M : Mk X.K C f) (F : FnQ X.prog X.w X.K X.mg X.base CX k f fd ps sp) (hr : RoomG (k + 1) X.A) (hb : KBp X.K fd ps 1 ks ds l) (hd : Vals dvs ds)
    (hx : PassesAt CX X σ E) (I : Inv X pins σ H s) (rz : Vals zs ws) (l2 : zs.length = ks.length)
    (h : ∀ x dx, H x = none → H dx = none → dx ≠ x → sp (pick [.ref x] dvs zs l) (upd (upd H dx (.own x)) x (.ins C dx [])) (fun v H2 => v = .non ∧ Q (.ref x) H2) E) :
    wpAny (model X.prog X.w) X.A (call (.ref C) [] (ks.zip ws)) (EP X pins σ Q) X.xe s := by
  have go_ := h (s.heap.objs.size + 1) s.heap.objs.size (I.hok.fresh (Nat.le_succ _)) (I.hok.fresh (Nat.le_refl _)) (Nat.ne_of_lt (Nat.lt_succ_self _))
  have J := Inv.made (C := C) I
  have r0 : Vals [V.ref (s.heap.objs.size + 1)] [Value.ref (s.heap.objs.size + 1)] := .cons rfl .nil
  have args : Vals (pick [V.ref (s.heap.objs.size + 1)] dvs zs l) (pick [Value.ref (s.heap.objs.size + 1)] ds ws l) := Vals.pick r0 hd rz l
  refine wpAny_call (make_map (f := f) I.kIn M.makes M.init (beq_iff_eq.mp M.fn) (codeAny_mono (F.go _ X.stack _ _ ⟨[Value.ref (s.heap.objs.size + 1)], ks.zip ws⟩ (pick [Value.ref (s.heap.objs.size + 1)] ds ws l) _ _ E ⟨hr.r.make C [] (ks.zip ws), underG hr.g⟩
    (J.env0.make C [] (ks.zip ws)) (hb _ [Value.ref (s.heap.objs.size + 1)] ws J.kIn rfl (rz.length.symm.trans l2)) args go_) fun r s' end_ => ?_))
  cases r with
  | error e => exact hx pins _ _ e s' J end_
  | ok fw =>
    cases fw with
    | ret u =>
      obtain ⟨v, H', J3, rel_, same_, fin_⟩ := J.after end_
      subst same_
      exact ⟨rel_, ⟨V.ref (s.heap.objs.size + 1), H', J3, rfl, fin_⟩⟩
    | next => exact False.elim end_
    | brk => exact False.elim end_
    | cont => exact False.elim end_
theorem fe_makeK0 {np m : Nat} {x : Str} {p : Pos} {c na : Nat} {C f : Addr} {kws : List Keyword} {k : Nat} {fd : FuncData} {ps ks : List Str} {sem : Sem3} {fk : FnA} {dds : List D} {dvs : List V} {us : List Value} {l : List Pk} (tk : Takes X W) (M : MakeOk X T c C f na) (F : FnL X.prog X.w X.K X.mg X.base T k f fd ps sem) (hr : RoomG (k + 1) X.A) (hg : Gl X x) (hm : X.mg x = some (.ref C))
    (hb : KBp X.K fd ps 1 ks us l) (D0 : Dfl X.K T dds dvs us) (hkw : FK X T W kws fk) (hall : (backToKw pos (keywordEach kws X.env)).all (·.1.isSome) = true := by rfl) (hks : (backToKw pos (keywordEach kws X.env)).filterMap (·.1) = ks := by rfl) (hdb : (x == ("__debug__" : Str)) = false := by decide)
    (hpl : ((backTo pos (starEach [] X.env)).any (·.1) || (backToKw pos (keywordEach kws X.env)).any (·.1.isNone)) = false := by rfl) (hnp : ps.length = np := by rfl) (hnm : ks.length = m := by rfl) :
    FE X T W (.Call (.Name x p) [] kws pos) (eKw aNil fk (kMakeK c na m np sem dds l)) := by
  subst hnp
  subst hnm
  obtain ⟨nm, hc, hna⟩ := M.cls
  refine ⟨fun pins s σ H Q I h => ?_⟩
  refine wpAny_Call_Name_kw (ld_glob I hg hm ?_ hdb)
  have h' : tA X.K T W fk σ H fun zs H1 => zs.length = ks.length ∧ ∀ x dx, H1 x = none → H1 dx = none → dx ≠ x → sp3 X.K T ps.length sem (pick [.ref x] dvs zs l) (upd (upd H1 dx (.own x)) x (.ins C dx [])) (fun v H2 => v = .non ∧ Q (.ref x) H2) (WE W σ) :=
    tF.bind (k := fun _ zs h1 => kMakeK c na ks.length ps.length sem dds l [] zs h1) h fun G δ ds vs h1 H1 r1 s1 d1 o1 => make_readK hc hna D0 r1 d1 o1
  refine PySem.W.callWith_KW0 (h₀ := X.base) I.ok.mod.kin M.make.kp hall ?_ hpl
  refine thn (hkw.run pos pins s σ H _ I h') fun ws s2 ⟨zs, H2, I2, rz, l2, q2⟩ => ⟨I2.kIn, ?_⟩
  rw [hks]
  exact run_makeSK M.make F hr hb D0.val (passAt tk σ) I2 rz l2 q2
def eMethK (c m np : Nat) (sem : Sem3) (fo : FnE) (fk : FnA) (dds : List D) (l : List Pk) : FnE := fun δ h => (fo δ h).bind fun x h1 => if clsOf h1 x = some c then (fk δ h1).bind fun zs h2 => kCallK 1 m np sem dds l [x] zs h2 else .stk
theorem fe_methK0 {np n : Nat} {c : Nat} {C : Addr} {m : Str} {o : Expr} {kws : List Keyword} {apos : Pos} {k : Nat} {f : Addr} {fd : FuncData} {ps ks : List Str} {sem : Sem3} {fo : FnE} {fk : FnA} {dds : List D} {dvs : List V} {us : List Value} {l : List Pk} {pl : Sem Bool} (tk : Takes X W) (M : MethOk X T c C m f) (F : FnL X.prog X.w X.K X.mg X.base T k f fd ps sem) (hr : RoomG k X.A)
    (hb : KBp X.K fd ps 1 ks us l) (D0 : Dfl X.K T dds dvs us) (ho : FE X T W o fo) (hkw : FK X T W kws fk) (hall : (backToKw pos (keywordEach kws X.env)).all (·.1.isSome) = true := by rfl) (hks : (backToKw pos (keywordEach kws X.env)).filterMap (·.1) = ks := by rfl)
    (hpl : ((backTo pos (starEach [] X.env)).any (·.1) || (backToKw pos (keywordEach kws X.env)).any (·.1.isNone)) = false := by rfl)
    (ht : eval (.Call (.Attribute o m apos) [] kws pos) X.env = (do
      let ov ← eval o X.env
      standAt apos.atName
      let (f, first) ← holding [ov] (getMethod ov m pl)
      callWith pos f first (backTo pos (starEach [] X.env)) (backToKw pos (keywordEach kws X.env))) := by rfl) (hnp : ps.length = np := by rfl) (hnm : ks.length = n := by rfl) :
    FE X T W (.Call (.Attribute o m apos) [] kws pos) (eMethK c n np sem fo fk dds l) := by
  subst hnp
  subst hnm
  refine ⟨fun pins s σ H Q I h => ?_⟩
  obtain ⟨nm, hcl, hnm⟩ := M.cls
  have h' : tE X.K T W fo σ H fun x H1 => ∃ a dx fs, x = .ref a ∧ H1 a = some (.ins C dx fs) ∧ fs.lookup m = none ∧ tA X.K T W fk σ H1 fun zs H2 => zs.length = ks.length ∧ sp3 X.K T ps.length sem (pick [x] dvs zs l) H2 Q (WE W σ) := by
    obtain ⟨G, h0, δ, r, s', oo⟩ := h
    refine ⟨G, h0, δ, r, s', (okR.bind (rel := RD X.K T) oo).mono ?_⟩
    rintro v H1 ⟨G1, x, h1, e1, r1, d1, o1⟩
    by_cases hc : clsOf h1 x = some c
    · rw [if_pos hc] at o1
      obtain ⟨a, C', dx, nm', fs, rfl, q1, q2, q3⟩ := clsOf_ok r1 d1 hc
      rw [hcl] at q2; cases q2
      refine ⟨a, dx, fs, rfl, q1, look_none fun z => hnm (q3 _ z), G1, h1, δ, r1, s'.mono e1, (okR.bind (rel := RDs X.K T) o1).mono ?_⟩
      rintro ws H2 ⟨G2, zs, h2, e2, r2, d2, o2⟩
      obtain ⟨_, a2, a3⟩ := sp3_ofK (ds := [x]) (vs := [.ref a]) D0 r2 (.cons (d1.mono e2) .nil) d2 o2
      exact ⟨a2, a3⟩
    · rw [if_neg hc] at o1; exact o1.elim
  refine PySem.W.methodCall_KW (pl := pl) (thn (ho.run pins s σ H _ I h') fun u s1 ⟨x, H1, I1, rx, a, dx, fs, ex, ea, l, q⟩ => ?_) ht
  subst ex
  obtain rfl : u = Value.ref a := rx
  refine getmeth_ok I1 ea M.cl M.meth l ?_
  refine PySem.W.callWith_KW0 (first := [.ref a]) (h₀ := X.base) I.ok.mod.kin M.meth.kp hall ?_ hpl
  refine thn (hkw.run pos pins s1 σ H1 _ I1 q) fun ws s2 ⟨zs, H2, I2, rz, l2, q2⟩ => ⟨I2.kIn, ?_⟩
  rw [hks]
  exact runGK (us := [.ref a]) (vs := [.ref a]) (E := WE W) F hr hb D0.val (passAt tk σ) I2 (.cons rfl .nil) rz rfl l2 q2
end
end L3
set_option autoImplicit false
set_option maxHeartbeats 4000000
namespace PySem
open Sem (wp)
section
variable {prog : Program} {w : World} {A : Around} {E : Value → Shared → Prop} {s : Shared}
end
section
variable {prog : Program} {w : World} {A : Around} {E : Value → Shared → Prop} {s : Shared}
end
end PySem
namespace L3
open PySem PySem.Spec L2 PyProof.Rows
section
variable {X : Cx} {T : Tx}
end
end L3
set_option autoImplicit false
set_option maxHeartbeats 4000000
namespace PySem.W
open PySem PySem.Calls PyProof.Rows Builtin
section
variable {prog : Program} {w : World} {A : Around} {E : Value → Shared → Prop} {s : Shared} {K : Frag} {x y C L f : Addr} {h₀ : Heap} {m : Str → Option Value} {ox oy : Obj} {od od' : Option Obj} {name : Str}
theorem l3_boundB {M : Model} {args : List Value} {id Tn : String} {Q : Option Value → Shared → Prop} (X : K.In s.heap) (I : InstAt s.heap x ox C od) (hs : findIn K (.ref C) name = some (some (.builtin id))) (S : Slot Tn name id)
    (h : wpAny M A (call (.builtin id) (.ref x :: args)) (fun v => Q (some v)) E s) : wpAny M A (callSpecialIfBound? (.ref x) name args) Q E s := by
  simp only [callSpecialIfBound?, bindSpecialIfBound?]
  refine wpAny_holding (wpAny_bind (wpAny_bind (wpAny_bind (I.type.here ((looks_findIn X hs).here ?_)))))
  simp only [S.bind]
  refine wpAny_bind (wpAny_askSetting (wpAny_ite ?_))
  have fin : wpAny M A (call (.builtin id) ([.ref x] ++ args) >>= fun v => pure (some v)) Q E s := wpAny_bind (wpAny_mono h (fun v s' h' => wpAny_pure h') fun _ _ h' => h')
  split
  · exact wpAny_bind (wpAny_pure (wpAny_pure fin))
  · exact wpAny_tryCatch (wpAny_bind (wpAny_pure (wpAny_pure fin)))
theorem l3_objNe (X : K.In s.heap) (I : InstAt s.heap x ox C od) (hs : findIn K (.ref C) "__eq__" = some (some (.ref f))) (hf : isFn K (.ref f) = true) (hu : A.units < cLine) {Q : Fin → Shared → Prop}
    (hcall : wpAny (model prog w) A (call (.ref f) [.ref x, .ref y]) (fun v s' => ∃ b, v = .bool b ∧ Q (.done (.ret (.bool (!b)))) s') E s) :
    wpAny (model prog w) A (Builtin.«object.__ne__» ⟨[.ref x, .ref y], []⟩) Q E s := by
  unfold Builtin.«object.__ne__»
  repeat (first
    | with_reducible refine wpAny_cRoomFor hu ?_
    | (refine wpAny_bind (m := callSpecialIfBound? (.ref x) (Str.ofString "__eq__") [.ref y])
            (ifBound_K X I hs hf (wpAny_mono hcall (fun r s' hr => by
              obtain ⟨b, rfl, hq⟩ := hr
              repeat (first | exact hq | exact wpAny_pure hq | exact wpAny_truthy_bool hq | (refine wpAny_bind (m := truthy (.bool _)) (wpAny_truthy_bool ?_)) | wp_step)) fun _ _ e => e)))
    | wp_step)
theorem l3_ne_K {Q : Value → Shared → Prop} (hu : A.units + 1 < cLine) (F : Fr h₀ L s.heap m) (X₀ : K.In h₀) (I : InstAt s.heap x ox C od) (hb : Looks (model prog w) s.heap (typeOf (.ref y)) (.ref C))
    (hn : findIn K (.ref C) "__ne__" = some (some (.builtin "object.__ne__"))) (hm : mroIn K C (.type "object") = some true) (hs : findIn K (.ref C) "__eq__" = some (some (.ref f))) (hf : isFn K (.ref f) = true)
    (h : wpAny (model prog w) A.in1 (call (.ref f) [.ref x, .ref y]) (fun v s' => ∃ b, v = .bool b ∧ Q (.bool (!b)) s') E s) :
    wpAny (model prog w) A (richCompare .NotEq (.ref x) (.ref y)) Q E s := by
  have X := X₀.keeps F.keep
  have FB := PySem.F.cmp_object
  have top : Looks (model prog w) s.heap (isInstance (.ref x) (.type "object")) true := I.type.andThen (looks_mroIn X hm)
  have one : wpAny (model prog w) A (tryCompare (.ref x) "__ne__" (.ref y)) (fun r s' => ∃ v, r = some v ∧ Q v s') E s := by
    unfold tryCompare
    refine wpAny_bind (l3_boundB X I hn FB.ne (wpAny_call (codeAny_call_builtin FB.ne.plain PySem.F.cmpEntry_ne
      (check_slot PySem.F.cmpKind_ne PySem.F.cmpSplit_ne top (PySem.F.cmpArgs_ne _ _) (l3_objNe (A := A.in1) X I hs hf hu (wpAny_mono h (fun v s' hv => ?_) fun _ _ e => e))))))
    obtain ⟨b, rfl, hq⟩ := hv
    first | exact ⟨b, rfl, wpAny_pure ⟨_, rfl, hq⟩⟩ | exact ⟨b, rfl, wpAny_pure (wpAny_pure ⟨_, rfl, hq⟩)⟩ | exact ⟨b, rfl, ⟨_, rfl, hq⟩⟩
  unfold richCompare
  simp only [oneThing_ref]
  refine wpAny_holding (wpAny_bind (wpAny_cRoomFor (Nat.lt_of_succ_lt hu) ?_))
  rw [cmpInfo_NotEq]
  dsimp only
  refine wpAny_bind (I.type.here (wpAny_bind (hb.here ?_)))
  rw [show (Value.ref C != Value.ref C) = false from by simp]
  simp only [Bool.false_eq_true, if_false]
  refine wpAny_bind (wpAny_pure ?_)
  simp only [Bool.false_eq_true, if_false]
  refine wpAny_bind (wpAny_mono one (fun r s' hr => ?_) fun _ _ e => e)
  obtain ⟨v, rfl, hq⟩ := hr
  first | exact wpAny_pure hq | exact wpAny_pure (wpAny_pure hq)
end
end PySem.W
namespace L3
open PySem PySem.Spec L2
section
variable {X : Cx} {T : Tx} {W : WX} {pos : Pos}
def rNeO (K : PySem.W.Frag) (T : Tx) (C : Addr) (sem : Sem3) : R2 := fun x y H Q => ∃ a b dx dy fs gs, x = .ref a ∧ y = .ref b ∧ H a = some (.ins C dx fs) ∧ H b = some (.ins C dy gs) ∧ sp3 K T 2 sem [x, y] H (fun z H' => ∃ c, z = .bl c ∧ Q (.bl (!c)) H') E0
theorem op_neO {C f : Addr} {k : Nat} {fd : FuncData} {ps : List Str} {sem : Sem3} (J0 : IsiC X.K C) (hn : PySem.W.findIn X.K (.ref C) "__ne__" = some (some (.builtin "object.__ne__"))) (M : Meth X.K C "__eq__" f) (F : FnL X.prog X.w X.K X.mg X.base T k f fd ps sem) (hr : RoomG (k + 1) X.A) (hb : Binds X.K fd ps []) (h2 : ps.length = 2 := by rfl) : OpR X (compareOp .NotEq) (rNeO X.K T C sem) := by
  intro pins s σ H x y v u Q I rx ry hq
  obtain ⟨a, b, dx, dy, fs, gs, rfl, rfl, ha, hb', hsp⟩ := hq
  cases rx
  cases ry
  obtain ⟨mA, J, _⟩ := ins_get I.hok ha
  obtain ⟨mB, J', _⟩ := ins_get I.hok hb'
  obtain ⟨od, J, _⟩ := J.look
  obtain ⟨od', J', _⟩ := J'.look
  obtain ⟨m, hF⟩ := I.fr
  have hr1 : RoomG k X.A.in1 := ⟨hr.r.in1, hr.g⟩
  show wpAny (model X.prog X.w) X.A (richCompare .NotEq (.ref a) (.ref b)) (EP X pins σ Q) X.xe s
  refine PySem.W.l3_ne_K (by have := hr.r.un; omega) hF I.ok.mod.kin J J'.type hn J0.hm M.at_ M.fn ?_
  have hsp' : sp3 X.K T ps.length sem [.ref a, .ref b] H (fun z H' => ∃ c, z = .bl c ∧ Q (.bl (!c)) H') E0 := by rw [h2]; exact hsp
  have hl : [Value.ref a, Value.ref b].length = ps.length := by rw [h2]; rfl
  refine wpAny_call (codeAny_mono (F.go X.A.in1 X.stack s H ⟨[.ref a, .ref b], []⟩ [.ref a, .ref b] [.ref a, .ref b] (fun z H' => ∃ c, z = .bl c ∧ Q (.bl (!c)) H') E0 hr1 I.env0.in1 (by
    have := hb s [.ref a, .ref b] I.kIn (by simpa using hl)
    simpa using this) (.cons rfl (.cons rfl .nil)) hsp') fun r s' e => ?_)
  match r, e with
  | .error er, e => exact False.elim ((passL : Passes (L2.CX X.prog X.w) X.nox E0) pins σ H _ er s' (I.wish _) e)
  | .ok (.ret w), e =>
    obtain ⟨z, H', I', rz, c, rfl, q3⟩ := I.after e
    have : w = .bool c := rz
    subst this
    exact ⟨c, rfl, .bl (!c), H', I', rfl, q3⟩
  | .ok .next, e => exact e.elim
  | .ok .brk, e => exact e.elim
  | .ok .cont, e => exact e.elim
def notR (r : R D) : R D := match r with
  | .ok (.bl b) h => .ok (.bl (!b)) h
  | _ => .stk
def neO (c : Nat) (sem : Sem3) : F2 := fun x y h => if clsOf h x = some c ∧ clsOf h y = some c then notR (sem [x, y] h) else .stk
theorem os_neO {c : Nat} {C : Addr} {sem : Sem3} (hcl : ∃ nm, T.cls c = some (C, nm)) : OpS X T (rNeO X.K T C sem) (neO c sem) := by
  intro W G h H σ x y v w Q r d1 d2 o
  obtain ⟨nm, hcl⟩ := hcl
  unfold neO at o
  by_cases hc : clsOf h x = some c ∧ clsOf h y = some c
  · rw [if_pos hc] at o
    obtain ⟨a, C', dx, nm', fs, rfl, q1, q2, _⟩ := clsOf_ok r d1 hc.1
    rw [hcl] at q2; cases q2
    obtain ⟨b, C', dy, nm', gs, rfl, p1, p2, _⟩ := clsOf_ok r d2 hc.2
    rw [hcl] at p2; cases p2
    refine ⟨a, b, dx, dy, fs, gs, rfl, rfl, q1, p1, rfl, G, h, [x, y], r, .cons d1 (.cons d2 .nil), ?_⟩
    cases es : sem [x, y] h with
    | ok z hh =>
      rw [es] at o
      cases z with
      | bl b =>
        intro G' H' v x' r' d'
        cases d'
        exact ⟨b, rfl, o G' H' _ x' r' .bl⟩
      | _ => exact o.elim
    | exc c es' hh => rw [es] at o; exact o.elim
    | stk => rw [es] at o; exact o.elim
  · rw [if_neg hc] at o; exact o.elim
end
end L3
set_option autoImplicit false
set_option maxHeartbeats 4000000
namespace HT
open PySem PySem.Calls PyProof.Rows Builtin
section
variable {prog : Program} {w : World} {A : Around} {E : Value → Shared → Prop} {s : Shared}
end
end HT
namespace L3
open PySem PySem.Spec L2 PyProof.Rows
section
variable {X : Cx} {T : Tx} {W : WX} {pos p2 : Pos} {e st : Expr} {te : TE} {ts : TO}
end
end L3
set_option autoImplicit false
set_option maxHeartbeats 4000000
namespace L3
open PySem PySem.Spec L2 PyProof.Rows
section
variable {X : Cx} {T : Tx} {W : WX} {pos : Pos}
def lexG (ns ms : List Int) : Bool := Ob.lexAt (fun j => decide (ns.getD j 0 = ms.getD j 0)) (fun j => decide (ms.getD j 0 < ns.getD j 0)) (decide (ns.length > ms.length)) 0 (min ns.length ms.length)
def gtTD (ds es : List D) (h : Hh) : R D := match intsOf ds, intsOf es with
  | some ns, some ms => .ok (.bl (lexG ns ms)) h
  | _, _ => .stk
def gtA : F2 := fun x y h => match x, y with
  | .tup ds, .tup es => gtTD ds es h
  | x, y => gtD x y h
end
end L3
set_option autoImplicit false
set_option maxHeartbeats 4000000
namespace PySem.W
open PySem PySem.Calls PyProof.Rows Builtin
section
variable {prog : Program} {w : World} {A : Around} {E : Value → Shared → Prop} {s : Shared} {K : Frag} {x C L f : Addr} {h₀ : Heap} {m : Str → Option Value} {ox : Obj} {od : Option Obj} {b tb : Value}
end
end PySem.W
namespace L3
open PySem PySem.Spec L2
section
variable {X : Cx} {T : Tx} {W : WX} {pos : Pos}
theorem kd_nf {K : PySem.W.Frag} {C : Addr} (k : Kd) : PySem.W.notFirst K C (.type k.nm) = true := by
  cases k <;> rfl
def rEqK (K : PySem.W.Frag) (T : Tx) (C : Addr) (sem : Sem3) : R2 := fun x y H Q => ∃ a dx fs, ∃ k : Kd, x = .ref a ∧ H a = some (.ins C dx fs) ∧ TyX K H y (.type k.nm) ∧ sp3 K T 2 sem [x, y] H Q E0
theorem op_eqK {C f : Addr} {k : Nat} {fd : FuncData} {ps : List Str} {sem : Sem3} (M : Meth X.K C "__eq__" f) (F : FnL X.prog X.w X.K X.mg X.base T k f fd ps sem) (hr : RoomG k X.A) (hb : Binds X.K fd ps []) (h2 : ps.length = 2 := by rfl) : OpR X (compareOp .Eq) (rEqK X.K T C sem) := by
  intro pins s σ H x y v u Q I rx ry hq
  obtain ⟨a, dx, fs, kk, rfl, ha, ty, hsp⟩ := hq
  cases rx
  obtain ⟨mA, J, _⟩ := ins_get I.hok ha
  obtain ⟨od, J, _⟩ := J.look
  obtain ⟨m, hF⟩ := I.fr
  obtain ⟨P, KX, hP, _⟩ := kit_of I ry ty
  show wpAny (model X.prog X.w) X.A (richCompare .Eq (.ref a) u) (EP X pins σ Q) X.xe s
  refine PySem.W.cmp_K (op := .Eq) (tb := .type kk.nm) hr.r.units0 hF I.ok.mod.kin J (KX.ty _ _ I.kIn hP) (kd_nf kk) M.at_ M.fn ?_
  have hsp' : sp3 X.K T ps.length sem [.ref a, y] H Q E0 := by rw [h2]; exact hsp
  have hl : [Value.ref a, u].length = ps.length := by rw [h2]; rfl
  refine wpAny_call (codeAny_mono (F.go X.A X.stack s H ⟨[.ref a, u], []⟩ [.ref a, u] [.ref a, y] Q E0 hr I.env0 (by
    have := hb s [.ref a, u] I.kIn (by simpa using hl)
    simpa using this) (.cons rfl (.cons ry .nil)) hsp') fun r s' e => ?_)
  match r, e with
  | .error er, e => exact False.elim ((passL : Passes (L2.CX X.prog X.w) X.nox E0) pins σ H _ er s' (I.wish _) e)
  | .ok (.ret w), e =>
    obtain ⟨z, H', I', rz, q3⟩ := I.after e
    cases w with
    | notImplemented => cases z <;> first | (cases rz; done) | exact (show False from by simp [RelV] at rz)
    | _ => exact ⟨z, H', I', rz, q3⟩
  | .ok .next, e => exact e.elim
  | .ok .brk, e => exact e.elim
  | .ok .cont, e => exact e.elim
def eqV (c : Nat) (sem : Sem3) : F2 := fun x y h => if clsOf h x = some c ∧ (kdOf h y).isSome = true then noX (sem [x, y] h) else eqO c sem x y h
theorem os_eqV {c : Nat} {C : Addr} {sem : Sem3} (hcl : ∃ nm, T.cls c = some (C, nm)) : OpS X T (fun x y H Q => rEqK X.K T C sem x y H Q ∨ rEqO X.K T C sem x y H Q) (eqV c sem) := by
  intro W G h H σ x y v w Q r d1 d2 o
  unfold eqV at o
  by_cases hc : clsOf h x = some c ∧ (kdOf h y).isSome = true
  · rw [if_pos hc] at o
    obtain ⟨nm, hcl⟩ := hcl
    obtain ⟨a, C', dx, nm', fs, rfl, q1, q2, _⟩ := clsOf_ok r d1 hc.1
    rw [hcl] at q2; cases q2
    obtain ⟨k, ek⟩ := Option.isSome_iff_exists.mp hc.2
    refine .inl ⟨a, dx, fs, k, rfl, q1, kd_ok r d2 ek, rfl, G, h, [x, y], r, .cons d1 (.cons d2 .nil), ?_⟩
    cases es : sem [x, y] h with
    | ok z hh => rw [es] at o; exact o
    | exc c es' hh => rw [es] at o; exact o.elim
    | stk => rw [es] at o; exact o.elim
  · rw [if_neg hc] at o
    exact .inr (os_eqO hcl _ _ _ _ _ _ _ _ _ _ r d1 d2 o)
end
end L3
set_option autoImplicit false
set_option maxHeartbeats 4000000
namespace L3
open PySem PySem.Spec L2 PySem.W PyProof.Rows
section
variable {X : Cx}
end
structure ScAt (K : PySem.W.Frag) (T : Tx) (w : World) (G1 : Gst) (p : Addr) (G : Gst) (acc : List Int) (h : Hh) (H : Hp) : Prop where
  ι : ∃ t, G.ι = G1.ι ++ t
  fz : ∀ a o, G1.fz a = some o → G.fz a = some o
  lk : G.lk = G1.lk
  pr : ∃ S n, G.pr = upd G1.pr p (SetO w p S n) ∧ (∀ k, S k = true ↔ k ∈ acc) ∧ n ≤ acc.length
  rel : Rel K T G h H
theorem ScAt.step {K : PySem.W.Frag} {T : Tx} {w : World} {G1 G G' : Gst} {p : Addr} {acc : List Int} {h h' : Hh} {H H' : Hp} (l : ScAt K T w G1 p G acc h H) (x : Ext G G') (r : Rel K T G' h' H') : ScAt K T w G1 p G' acc h' H' := by
  obtain ⟨t, e⟩ := l.ι
  obtain ⟨u, e'⟩ := x.ι
  exact ⟨⟨t ++ u, by rw [e', e, List.append_assoc]⟩, fun a o q => x.fz a o (l.fz a o q), x.lk.trans l.lk, by rw [x.pr]; exact l.pr, r⟩
section
variable {X : Cx} {T : Tx} {W : WX} {pos : Pos}
end
end L3
set_option autoImplicit false
set_option maxHeartbeats 4000000
namespace L3
open PySem PySem.Spec L2 PySem.W PyProof.Rows
section
variable {X : Cx} {T : Tx} {W : WX} {pos : Pos}
end
section
variable {X : Cx} {T : Tx} {W : WX} {pos : Pos}
end
end L3
set_option autoImplicit false
set_option maxHeartbeats 4000000
namespace L3
open PySem PySem.Spec L2 PyProof.Rows
open He (ga)
abbrev sOf (x : List Nat) : Str := ⟨x.toArray⟩
def tabF : Fl → Option (Str × List Str)
  | .kd x kvs => some (x, kvs.map fun q => sOf q.1)
  | _ => none
def tabs (fl : List Fl) : List (Str × List Str) := fl.filterMap tabF
abbrev AlLT : Type := AlL × List (Option (List (Option (Str × Int))))
def obsLT (fl : List Fl) (fn : List DefL) (K : PySem.W.Frag) : AlLT := (obsL fl fn K, (tabs fl).map fun t => He.dicW K (ga K t.1))
def valLT (fl : List Fl) (fn : List DefL) (w : World) : AlLT := (valL fn, (tabs fl).map fun t => some (He.keysIn w.params t.2))
def Tb (fl : List Fl) (w : World) (K : PySem.W.Frag) : Prop := ∀ x kvs, Fl.kd x kvs ∈ fl → He.dicW K (ga K x) = some (He.keysIn w.params (kvs.map fun q => sOf q.1))
def SaysLT (fl : List Fl) (fn : List DefL) (w : World) (K : PySem.W.Frag) : Prop := obsLT fl fn K = valLT fl fn w
theorem SaysLT.l {fl : List Fl} {fn : List DefL} {w : World} {K : PySem.W.Frag} (c : SaysLT fl fn w K) : SaysL fl fn K := congrArg (fun z : AlLT => z.1) c
theorem map_same {α β : Type} {f g : α → β} : ∀ {l : List α}, l.map f = l.map g → ∀ x ∈ l, f x = g x
  | y :: l, e, x, m => by
    injection e with e1 e2
    rcases List.mem_cons.mp m with rfl | m
    · exact e1
    · exact map_same e2 x m
theorem SaysLT.tb {fl : List Fl} {fn : List DefL} {w : World} {K : PySem.W.Frag} (c : SaysLT fl fn w K) : Tb fl w K := fun x kvs m => by
  have e : ((tabs fl).map fun t => He.dicW K (ga K t.1)) = (tabs fl).map fun t => some (He.keysIn w.params t.2) := congrArg (fun z : AlLT => z.2) c
  exact map_same e (x, kvs.map fun q => sOf q.1) (List.mem_filterMap.mpr ⟨_, m, rfl⟩)
structure KdC (w : World) (K : PySem.W.Frag) (a : Addr) (kvs : List (List Nat × D)) : Prop where
  d : ∃ es n, KDict K w a es n
  has : ∀ z d, kvs.lookup z = some d → ∃ u v, PySem.W.nsIn K a (sOf z) = some (some u) ∧ RelV v u ∧ ∀ T, Cst K T d v
  no : ∀ z, kvs.lookup z = none → PySem.W.nsIn K a (sOf z) = some none
theorem look_mem {β : Type} {z : List Nat} {d : β} : ∀ {l : List (List Nat × β)}, l.lookup z = some d → (z, d) ∈ l
  | (k, v) :: l, e => by
    rw [List.lookup_cons] at e
    cases q : z == k with
    | true =>
      rw [q] at e
      have := beq_iff_eq.mp q
      subst this
      cases e
      exact List.mem_cons_self
    | false =>
      rw [q] at e
      exact List.mem_cons_of_mem _ (look_mem e)
theorem look_no {β : Type} {z : List Nat} : ∀ {l : List (List Nat × β)}, l.lookup z = none → ∀ q ∈ l, q.1 ≠ z
  | (k, v) :: l, e, q, m => by
    rw [List.lookup_cons] at e
    cases h : z == k with
    | true => rw [h] at e; cases e
    | false =>
      rw [h] at e
      rcases List.mem_cons.mp m with rfl | m
      · intro c; rw [← c] at h; simp at h
      · exact look_no e q m
theorem keys_no {P : Params} {z : Str} : ∀ {l : List DictEntry} {ks : List Str}, l.map He.keyOf = He.keysIn P ks → z ∉ ks → l.find? (·.key.isStr z) = none ∧ l.any (·.refKey) = false
  | [], _, _, _ => ⟨rfl, rfl⟩
  | e :: r, [], h, _ => by cases h
  | e :: r, k :: ks, h, hz => by
    have h1 : He.keyOf e :: r.map He.keyOf = some (k, PyData.keyHash P k) :: He.keysIn P ks := h
    injection h1 with h2 h3
    obtain ⟨i1, i2⟩ := keys_no h3 fun m => hz (List.mem_cons_of_mem _ m)
    unfold He.keyOf at h2
    split at h2
    · rename_i x t q
      obtain ⟨h5, _⟩ := Prod.mk.inj (Option.some.inj h2)
      have ne : x ≠ z := fun c => hz (by rw [← c, h5]; exact List.mem_cons_self)
      constructor
      · rw [List.find?_cons, q]
        have : (Value.str x t).isStr z = false := by simp [Value.isStr, ne]
        rw [this]
        exact i1
      · rw [List.any_cons, i2]
        simp [DictEntry.refKey, q]
    · cases h2
theorem Bs.kd {fl : List Fl} {fn : List DefL} {K : PySem.W.Frag} {mg : Str → Option Value} {w : World} (B : Bs fl fn K mg) (hT : Tb fl w K) (i : Nat) {x : Str} {kvs : List (List Nat × D)} (h : fl[i]? = some (.kd x kvs) := by rfl) : KdC w K (ga K x) kvs := by
  have e := hT x kvs (List.mem_of_getElem? h)
  have ok := B.c.fact i h
  refine ⟨He.dicW_ok e, fun z d l => ?_, fun z l => ?_⟩
  · have m := look_mem l
    have k := List.all_eq_true.mp (show (kvs.all fun q => (match PySem.W.nsIn K (ga K x) ⟨q.1.toArray⟩ with
      | some (some u) => cstB K q.2 u
      | _ => false)) = true from ok) _ m
    dsimp only at k
    cases q : PySem.W.nsIn K (ga K x) ⟨z.toArray⟩ with
    | none => rw [q] at k; cases k
    | some o =>
      cases o with
      | none => rw [q] at k; cases k
      | some u =>
        rw [q] at k
        obtain ⟨v, r, c⟩ := cstB_ok d u k
        exact ⟨u, v, rfl, r, c⟩
  · obtain ⟨es, n, D⟩ := He.dicW_ok e
    have nz : sOf z ∉ kvs.map fun q => sOf q.1 := fun m => by
      obtain ⟨q, mq, eq⟩ := List.mem_map.mp m
      refine look_no l q mq ?_
      injection eq with e1
      simpa using congrArg Array.toList e1
    have e2 : es.toList.map He.keyOf = He.keysIn w.params (kvs.map fun q => sOf q.1) := by
      unfold He.dicW at e
      rw [D.at_] at e
      dsimp only at e
      split at e
      · exact Option.some.inj e
      · cases e
    obtain ⟨k1, k2⟩ := keys_no e2 nz
    unfold PySem.W.nsIn
    rw [D.at_]
    dsimp only
    rw [k1, k2]
    rfl
section
variable {X : Cx} {T : Tx} {W : WX} {pos : Pos}
end
abbrev Mst : Type := PySem.W.SharedT × Thread
def goK (st : PySem.W.SharedT → Thread → Option Mst) (n0 : Nat) (ann : Option Value) : Nat → PySem.W.SharedT → Thread → Option Mst
  | 0, s, t => some (s, t)
  | m + 1, s, t => match PySem.W.through t with
    | true => none
    | false => match PySem.W.stepOk n0 ann t with
      | false => none
      | true => match st s t with
        | some (s', t') => HandSHeadRun.frS s' fun s' => goK st n0 ann m s' t'
        | none => none
noncomputable def segO (st : PySem.W.SharedT → Thread → Option Mst) (p : Program) (w : World) (os : OsState) (n0 k : Nat) : Option Mst := match HandSHeadRun.putAll (PySem.W.boot_heap w.params).objs.toList .nil 0 with
  | some (t, _) => goK st n0 (HandSHeadRun.bootAnn w) k (HandSHeadRun.bootT w os (t, n0)) (PySem.W.topStub p)
  | none => none
def skT (f : Nat → Obj) (n : Nat) : Nat → Nat → Nat → PySem.W.BT
  | 0, _, _ => .nil
  | k + 1, a, d => HandSHeadRun.frNat a fun a => HandSHeadRun.frNat d fun d => match Nat.blt a n with
    | true => .node (f a) (skT f n k (a + d) (2 * d)) (skT f n k (a + 2 * d) (2 * d))
    | false => .nil
noncomputable def segS (f : Nat → Obj) (n toks : Nat) (w : World) (os : OsState) : PySem.W.SharedT := ⟨skT f n 14 0 1, n, (PySem.W.boot_heap w.params).life, #[], PySem.W.boot_drawn, toks, os⟩
end L3
set_option autoImplicit false
set_option maxHeartbeats 4000000
namespace L3
open PySem PySem.Spec L2 PyProof.Rows
section
variable {X : Cx} {T : Tx} {W : WX} {o e f : Expr} {apos cpos : Pos} {fo fe ff : FnE}
end
end L3
set_option autoImplicit false
set_option maxHeartbeats 4000000
namespace L3
open PySem PySem.Spec L2 PyProof.Rows
section
variable {X : Cx} {T : Tx} {W : WX}
inductive PdR (K : PySem.W.Frag) (T : Tx) (G : Gst) : List (D × D) → List (Key × V) → Prop where
  | nil : PdR K T G [] []
  | cons {k v : D} {w : V} {ps : List (D × D)} {kvs : List (Key × V)} : isKey k = true → RD K T G v w → PdR K T G ps kvs → PdR K T G ((k, v) :: ps) ((keyOf k, w) :: kvs)
end
end L3
set_option autoImplicit false
set_option maxHeartbeats 4000000
namespace L3
open PySem PySem.Spec L2 PyProof.Rows
section
variable {X : Cx} {T : Tx} {W : WX}
end
end L3
set_option autoImplicit false
set_option maxHeartbeats 4000000
namespace L3
open PySem PySem.Spec L2 PyProof.Rows
theorem RO.move {K : PySem.W.Frag} {T : Tx} {G G' : Gst} {H H' : Hp} {n : Nat} {o : O} (r : RO K T G H n o) (xv : ExtV G G') (ho : ∀ b, G.own b = some n → G'.own b = some n) (hc : ∀ b, G'.own b = some n → G.own b = some n) (hb : ∀ b, G.own b = some n → H' b = H b)
    (hl : ∀ b u, G.lk b = some (n, u) → G'.lk b = some (n, u)) : RO K T G' H' n o := by
  have hi : ∀ a, G.ι[n]? = some a → G'.ι[n]? = some a := fun a e => by
    obtain ⟨t, q⟩ := xv.ι
    rw [q, List.getElem?_append_left (List.getElem?_eq_some_iff.mp e).1]; exact e
  cases o with
  | lst ds => obtain ⟨a, vs, e1, e2, e3, e4⟩ := r; exact ⟨a, vs, hi _ e1, ho _ e2, by rw [hb _ e2]; exact e3, RDs.monoV xv e4⟩
  | dic ks vs => obtain ⟨a, kvs, e1, e2, e3, e4, e5⟩ := r; exact ⟨a, kvs, hi _ e1, ho _ e2, by rw [hb _ e2]; exact e3, RDs.monoV xv e4, RDs.monoV xv e5⟩
  | dicL ks vs => obtain ⟨a, od, kvs, e1, e2, e4, e5⟩ := r; exact ⟨a, od, kvs, hi _ e1, hl _ _ e2, RDs.monoV xv e4, RDs.monoV xv e5⟩
  | dit ks vs => obtain ⟨a, kvs, e1, e2, e3, e4, e5⟩ := r; exact ⟨a, kvs, hi _ e1, ho _ e2, by rw [hb _ e2]; exact e3, e4, RDs.monoV xv e5⟩
  | dkn ks vs => obtain ⟨a, xs, e1, e2, e3, e4, e5, e6⟩ := r; exact ⟨a, xs, hi _ e1, ho _ e2, by rw [hb _ e2]; exact e3, e4, RDs.monoV xv e5, RDs.monoV xv e6⟩
  | obj c ds => obtain ⟨a, C, dx, nm, fs, e1, e2, e3, e4, e5, e6⟩ := r; exact ⟨a, C, dx, nm, fs, hi _ e1, ho _ e2, by rw [hb _ e2]; exact e3, e4, e5, RDs.monoV xv e6⟩
  | src s =>
    obtain ⟨a, e1, e2⟩ := r
    refine ⟨a, hi _ e1, ?_⟩
    have e : (fun b => G'.own b = some n) = (fun b => G.own b = some n) := funext fun b => propext ⟨hc b, ho b⟩
    rw [e]
    exact T.srcStay _ _ _ _ _ e2 hb
  | dead => trivial
  | err c ds => obtain ⟨a, cls, dd, e1, e2, e3⟩ := r; exact ⟨a, cls, dd, hi _ e1, e2, RX.monoV xv e3⟩
  | tab q => obtain ⟨a, ps, e1, e2, e3, e4, e5⟩ := r; exact ⟨a, ps, hi _ e1, ho _ e2, by rw [hb _ e2]; exact e3, e4, e5.monoV xv.fz⟩
  | lam q cap => obtain ⟨a, c, e1, e2, e3, e4⟩ := r; exact ⟨a, c, hi _ e1, e2, xv.fz _ _ e3, e4.monoV xv⟩
  | dkL ks vs => obtain ⟨a, od, xs, e1, e2, e4, e5, e6⟩ := r; exact ⟨a, od, xs, hi _ e1, hl _ _ e2, e4, RDs.monoV xv e5, RDs.monoV xv e6⟩
  | itr ds i => obtain ⟨a, l, vs, e1, e2, e3, e4, e5⟩ := r; exact ⟨a, l, vs, hi _ e1, ho _ e2, by rw [hb _ e2]; exact e3, SqT.sub xv.fz e4, RDs.monoV xv e5⟩
def Gst.lock (G : Gst) (a : Addr) (n : Nat) (u : HO) : Gst := { G with own := fun b => if b = a then none else G.own b, lk := fun b => if b = a then some (n, u) else G.lk b }
def Gst.unlock (G : Gst) (a : Addr) (n : Nat) (l : Addr → Option (Nat × HO)) : Gst := { G with own := fun b => if b = a then some n else G.own b, lk := l }
section
variable {K : PySem.W.Frag} {T : Tx} {G : Gst} {h : Hh} {H : Hp}
theorem Gst.lock_v {a : Addr} {n : Nat} {u : HO} : ExtV G (G.lock a n u) := ⟨⟨[], (List.append_nil _).symm⟩, fun _ _ z => z⟩
theorem Rel.lockG (r : Rel K T G h H) {n : Nat} {a : Addr} {u : HO} {od : Obj} {o' : O} (hn : n < h.length) (ho : G.own a = some n) (new : RO K T (G.lock a n (.frz od u)) (upd H a (.frz od u)) n o') :
    Rel K T (G.lock a n (.frz od u)) (h.set n o') (upd H a (.frz od u)) := by
  obtain ⟨_, f0, _⟩ := r.own a n ho
  have l0 : G.lk a = none := by
    cases e : G.lk a with
    | none => rfl
    | some u => have := (r.lk a u e).2.2; rw [ho] at this; cases this
  refine ⟨by rw [List.length_set]; exact r.len, fun b o q => ?_, fun b m q => ?_, fun b o q => ?_, fun b o q => ?_, fun m o q => ?_⟩
  · have nb : b ≠ a := fun y => by have q' : G.fz b = some o := q; rw [y, f0] at q'; cases q'
    rw [upd_ne nb]; exact r.sub b o q
  · have q' : (if b = a then none else G.own b) = some m := q
    by_cases hb : b = a
    · rw [if_pos hb] at q'; cases q'
    · rw [if_neg hb] at q'
      obtain ⟨h1, h2, h3⟩ := r.own b m q'
      exact ⟨by simpa using h1, h2, by rw [upd_ne hb]; exact h3⟩
  · obtain ⟨h1, h2, h3, h4⟩ := r.pr b o q
    have nb : b ≠ a := fun y => by rw [y, ho] at h3; cases h3
    exact ⟨by rw [upd_ne nb]; exact h1, h2, by show (if b = a then none else G.own b) = none; rw [if_neg nb]; exact h3, by show (if b = a then _ else G.lk b) = none; rw [if_neg nb]; exact h4⟩
  · have q' : (if b = a then some (n, HO.frz od u) else G.lk b) = some o := q
    by_cases hb : b = a
    · rw [if_pos hb] at q'
      cases q'
      subst hb
      exact ⟨upd_same, f0, by show (if b = b then none else G.own b) = none; rw [if_pos rfl]⟩
    · rw [if_neg hb] at q'
      obtain ⟨h1, h2, h3⟩ := r.lk b o q'
      exact ⟨by rw [upd_ne hb]; exact h1, h2, by show (if b = a then none else G.own b) = none; rw [if_neg hb]; exact h3⟩
  · by_cases hm : m = n
    · subst hm
      rw [List.getElem?_set_self hn] at q
      cases q
      exact new
    · rw [List.getElem?_set_ne (Ne.symm hm)] at q
      have keep : ∀ b, G.own b = some m → b ≠ a := fun b w y => by rw [y, ho] at w; cases w; exact hm rfl
      refine (r.obj m o q).move Gst.lock_v (fun b w => ?_) (fun b w => ?_) (fun b w => upd_ne (keep b w)) fun b u w => ?_
      · show (if b = a then none else G.own b) = some m
        rw [if_neg (keep b w)]; exact w
      · have w' : (if b = a then none else G.own b) = some m := w
        by_cases hb : b = a
        · rw [if_pos hb] at w'; cases w'
        · rw [if_neg hb] at w'; exact w'
      · show (if b = a then _ else G.lk b) = _
        rw [if_neg (fun y => by rw [y, l0] at w; cases w)]; exact w
theorem Rel.lock (r : Rel K T G h H) {n : Nat} {a : Addr} {ks vs : List D} {kvs : List (Key × V)} {od : Obj} (z : h[n]? = some (.dic ks vs)) (hi : G.ι[n]? = some a) (ho : G.own a = some n) (hH : H a = some (.dK kvs))
    (k : RDs K T G ks (kvs.map fun p => kV p.1)) (v : RDs K T G vs (kvs.map (·.2))) : Rel K T (G.lock a n (.frz od (.dK kvs))) (h.set n (.dicL ks vs)) (upd H a (.frz od (.dK kvs))) :=
  r.lockG (List.getElem?_eq_some_iff.mp z).1 ho ⟨a, od, kvs, hi, by show (if a = a then _ else G.lk a) = _; rw [if_pos rfl], RDs.monoV Gst.lock_v k, RDs.monoV Gst.lock_v v⟩
theorem Rel.unlockG (r : Rel K T G h H) {n : Nat} {a : Addr} {u : HO} {od : Obj} {o' : O} {l0 : Addr → Option (Nat × HO)} (hn : n < h.length) (hl : G.lk = fun b => if b = a then some (n, .frz od u) else l0 b) (h0 : l0 a = none)
    (new : RO K T (G.unlock a n l0) (upd H a u) n o') : H a = some (.frz od u) ∧ Rel K T (G.unlock a n l0) (h.set n o') (upd H a u) := by
  have la : G.lk a = some (n, .frz od u) := by rw [hl]; exact if_pos rfl
  have lb : ∀ b, b ≠ a → G.lk b = l0 b := fun b nb => by rw [hl]; exact if_neg nb
  obtain ⟨a1, a2, a3⟩ := r.lk a _ la
  have xv : ExtV G (G.unlock a n l0) := ⟨⟨[], (List.append_nil _).symm⟩, fun _ _ z => z⟩
  refine ⟨a1, by rw [List.length_set]; exact r.len, fun b o q => ?_, fun b m q => ?_, fun b o q => ?_, fun b o q => ?_, fun m o q => ?_⟩
  · have nb : b ≠ a := fun y => by have q' : G.fz b = some o := q; rw [y, a2] at q'; cases q'
    rw [upd_ne nb]; exact r.sub b o q
  · have q' : (if b = a then some n else G.own b) = some m := q
    by_cases hb : b = a
    · rw [if_pos hb] at q'
      cases q'
      subst hb
      exact ⟨by simpa using hn, a2, by rw [upd_same]; simp⟩
    · rw [if_neg hb] at q'
      obtain ⟨h1, h2, h3⟩ := r.own b m q'
      exact ⟨by simpa using h1, h2, by rw [upd_ne hb]; exact h3⟩
  · obtain ⟨h1, h2, h3, h4⟩ := r.pr b o q
    have nb : b ≠ a := fun y => by rw [y, la] at h4; cases h4
    exact ⟨by rw [upd_ne nb]; exact h1, h2, by show (if b = a then some n else G.own b) = none; rw [if_neg nb]; exact h3, by rw [lb b nb] at h4; exact h4⟩
  · have q' : l0 b = some o := q
    have nb : b ≠ a := fun y => by rw [y, h0] at q'; cases q'
    obtain ⟨h1, h2, h3⟩ := r.lk b o (by rw [lb b nb]; exact q')
    exact ⟨by rw [upd_ne nb]; exact h1, h2, by show (if b = a then some n else G.own b) = none; rw [if_neg nb]; exact h3⟩
  · by_cases hm : m = n
    · subst hm
      rw [List.getElem?_set_self hn] at q
      cases q
      exact new
    · rw [List.getElem?_set_ne (Ne.symm hm)] at q
      have keep : ∀ b, G.own b = some m → b ≠ a := fun b w y => by rw [y, a3] at w; cases w
      refine (r.obj m o q).move xv (fun b w => ?_) (fun b w => ?_) (fun b w => upd_ne (keep b w)) fun b u w => ?_
      · show (if b = a then some n else G.own b) = some m
        rw [if_neg (keep b w)]; exact w
      · have w' : (if b = a then some n else G.own b) = some m := w
        by_cases hb : b = a
        · rw [if_pos hb] at w'; cases w'; exact absurd rfl hm
        · rw [if_neg hb] at w'; exact w'
      · have nb : b ≠ a := fun y => by rw [y, la] at w; cases w; exact hm rfl
        show l0 b = _
        rw [← lb b nb]; exact w
theorem Rel.unlock (r : Rel K T G h H) {n : Nat} {a : Addr} {ks vs : List D} {kvs : List (Key × V)} {od : Obj} {l0 : Addr → Option (Nat × HO)} (z : h[n]? = some (.dicL ks vs)) (hl : G.lk = fun b => if b = a then some (n, .frz od (.dK kvs)) else l0 b) (h0 : l0 a = none) (hi : G.ι[n]? = some a) :
    H a = some (.frz od (.dK kvs)) ∧ Rel K T (G.unlock a n l0) (h.set n (.dic ks vs)) (upd H a (.dK kvs)) := by
  have la : G.lk a = some (n, .frz od (.dK kvs)) := by rw [hl]; exact if_pos rfl
  have xv : ExtV G (G.unlock a n l0) := ⟨⟨[], (List.append_nil _).symm⟩, fun _ _ z => z⟩
  obtain ⟨a', od', kvs', e1, e2, e4, e5⟩ := r.obj n _ z
  rw [hi] at e1; cases e1
  rw [la] at e2; cases e2
  exact r.unlockG (List.getElem?_eq_some_iff.mp z).1 hl h0 ⟨a, kvs, hi, by show (if a = a then some n else G.own a) = _; rw [if_pos rfl], upd_same, RDs.monoV xv e4, RDs.monoV xv e5⟩
end
def unlD (n : Nat) (h : Hh) : Option Hh := match h[n]? with
  | some (.dicL ks vs) => some (h.set n (.dic ks vs))
  | _ => none
section
variable {X : Cx} {T : Tx} {W : WX} {pos : Pos}
theorem PE.or {e : Expr} {t t' : TE} (h : PE X e t) (h' : PE X e t') : PE X e (fun σ H Q => t σ H Q ∨ t' σ H Q) := ⟨fun pins s σ H Q I z => z.elim (h.run pins s σ H Q I) (h'.run pins s σ H Q I)⟩
theorem PS.or {e : Stmt} {t t' : TS} (h : PS X e t) (h' : PS X e t') : PS X e (fun D σ H => t D σ H ∨ t' D σ H) := ⟨fun pins s σ H D I z => z.elim (h.run pins s σ H D I) (h'.run pins s σ H D I)⟩
def kKey (x : D) (h1 : Hh) : R (List D) := match x with
  | .ref n => match h1[n]? with
    | some (.dicL ks _) => .ok ks h1
    | _ => .stk
  | .tup ds => .ok ds h1
  | .lst ds => .ok ds h1
  | .scr ds => .ok ds h1
  | .str z => .ok (z.map fun c => .str [c]) h1
  | _ => .stk
def iKey (f : FnE) : FnI := fun δ h => (f δ h).bind kKey
end
end L3
set_option autoImplicit false
set_option maxHeartbeats 4000000
namespace L3
open PySem PySem.Spec L2 PyProof.Rows
structure DcAt (K : PySem.W.Frag) (T : Tx) (G1 : Gst) (p : Addr) (G : Gst) (ks vs : List D) (h : Hh) (H : Hp) : Prop where
  ι : ∃ t, G.ι = G1.ι ++ t
  fz : ∀ a o, G1.fz a = some o → G.fz a = some o
  lk : G.lk = G1.lk
  pr : ∃ kvs : List (Key × V), G.pr = upd G1.pr p (.dK kvs) ∧ RDs K T G ks (kvs.map fun p => kV p.1) ∧ RDs K T G vs (kvs.map (·.2))
  rel : Rel K T G h H
theorem DcAt.step {K : PySem.W.Frag} {T : Tx} {G1 G G' : Gst} {p : Addr} {ks vs : List D} {h h' : Hh} {H H' : Hp} (l : DcAt K T G1 p G ks vs h H) (x : Ext G G') (r : Rel K T G' h' H') : DcAt K T G1 p G' ks vs h' H' := by
  obtain ⟨t, e⟩ := l.ι
  obtain ⟨u, e'⟩ := x.ι
  obtain ⟨avs, e2, d, d'⟩ := l.pr
  exact ⟨⟨t ++ u, by rw [e', e, List.append_assoc]⟩, fun a o q => x.fz a o (l.fz a o q), x.lk.trans l.lk, ⟨avs, x.pr.trans e2, d.mono x, d'.mono x⟩, r⟩
section
variable {X : Cx} {T : Tx} {W : WX} {pos : Pos}
end
end L3
set_option autoImplicit false
set_option maxHeartbeats 4000000
namespace L3
open PySem PySem.Spec L2 PyProof.Rows
section
variable {X : Cx} {T : Tx} {W : WX} {pos : Pos}
end
end L3
set_option autoImplicit false
set_option maxHeartbeats 4000000
namespace L3E
open PySem
set_option maxHeartbeats 1000000 in
section
variable {prog : Program} {w : World} {A : Around} {E : Value → Shared → Prop} {s : Shared}
end
end L3E
namespace L3
open PySem PySem.Spec L2 PyProof.Rows
section
variable {X : Cx} {T : Tx} {W : WX} {pos : Pos}
def kEnumX (ds : List D) (h : Hh) : R (List D) := match ds with
  | [x] => match immS x with
    | some (_, xs) => .ok (enumL 0 xs) h
    | none => .stk
  | _ => .stk
def iEnumA (fa : FnA) : FnI := fun δ h => (fa δ h).bind kEnumX
end
end L3
set_option autoImplicit false
set_option maxHeartbeats 4000000
namespace L3
open PySem PySem.Spec L2 PyProof.Rows
inductive Cw where
  | un (c : Value) (w : Addr → Value → Option Addr → TS)
  | nm (c : Value) (i : Nat) (w : Addr → Value → Option Addr → TS)
  | stop
abbrev bareE (D : Ends) (i : Nat) : Ends := { nx := fun σ1 H1 => D.nx (σ1.set i none) H1, rt := D.rt, bk := fun σ1 H1 => D.bk (σ1.set i none) H1, ct := fun σ1 H1 => D.ct (σ1.set i none) H1 }
def wAll (K : PySem.W.Frag) (Wo : WX) (D : Ends) : List Cw → WX
  | [] => Wo
  | .un c w :: r => fun cl dd σ H => ∃ b, PySem.W.exmOne K cl c = some b ∧ (b = true → ∀ a, H a = none → w a cl dd D σ H) ∧ (b = false → wAll K Wo D r cl dd σ H)
  | .nm c i w :: r => fun cl dd σ H => ∃ b, PySem.W.exmOne K cl c = some b ∧ (b = true → ∀ a, H a = none → w a cl dd (bareE D i) (σ.set i (some (.ref a))) H) ∧ (b = false → wAll K Wo D r cl dd σ H)
  | .stop :: _ => fun _ _ _ _ => False
inductive ClsOk (X : Cx) : List ExceptHandler → List Cw → Prop
  | nil : ClsOk X [] []
  | un {x : Str} {c : Value} {w : Addr → Value → Option Addr → TS} {t₀ : Stmt} {ts : List Stmt} {q q' : Pos} {r : List ExceptHandler} {l : List Cw} (hn : Names X x c)
      (hw : ∀ (a : Addr) (ob : Obj) (cl : Value) (dd : Option Addr) (pn : List (Addr × Obj)), Zc cl dd ob → (∃ vs, ob.data = .fields vs) → PSs (X.suite a ((a, ob) :: pn)) (t₀ :: ts) (w a cl dd)) (hr : ClsOk X r l) :
      ClsOk X (.ExceptHandler (some (.Name x q)) none (t₀ :: ts) q' :: r) (.un c w :: l)
  | nm {x n : Str} {i : Nat} {c : Value} {w : Addr → Value → Option Addr → TS} {t₀ : Stmt} {ts : List Stmt} {q q' : Pos} {r : List ExceptHandler} {l : List Cw} (hn : Names X x c) (hi : X.N[i]? = some n) (hk : X.env.kindOf n = some .local)
      (hw : ∀ (a : Addr) (ob : Obj) (cl : Value) (dd : Option Addr) (pn : List (Addr × Obj)), Zc cl dd ob → (∃ vs, ob.data = .fields vs) → PSs (X.suite a ((a, ob) :: pn)) (t₀ :: ts) (w a cl dd)) (hr : ClsOk X r l) :
      ClsOk X (.ExceptHandler (some (.Name x q)) (some n) (t₀ :: ts) q' :: r) (.nm c i w :: l)
  | stop {h : ExceptHandler} {r : List ExceptHandler} : ClsOk X (h :: r) [.stop]
section
variable {X : Cx} {body : List Stmt} {h₀ : ExceptHandler} {hds : List ExceptHandler} {l : List Cw} {pos : Pos} {tb : WX → TS} {Wo : WX}
theorem ps_try_all (hs : X.stack = X.env :: X.outer) (hf : X.env.frame = some X.env.locals) (hN : X.N.Nodup) (tk : Takes X Wo)
    (hb : ∀ (W : WX) (pn : List (Addr × Obj)) (xe : Value → Shared → Prop), Takes (X.tr pn xe) W → PSs (X.tr pn xe) body (tb W))
    (hh : ClsOk X (h₀ :: hds) l) : PS X (.Try body (h₀ :: hds) [] [] pos) (fun D σ H => tb (wAll X.K Wo D l) D σ H) := by
  refine ⟨fun pins s σ H D I0 z0 => ?_⟩
  have okX := I0.ok
  have frX : X.A.frames = some (X.env :: X.outer) := by rw [okX.frames, hs]
  refine wpAny_Try_except ?_
  refine wpAny_mono ((hb (wAll X.K Wo D l) (X.pn ++ pins) (fun e t1 => wpAny (model X.prog X.w) X.A (noteFrame e X.env) (fun _ t2 => wpAny (model X.prog X.w) X.A (setFlight e none) (fun _ t3 => wpAny (model X.prog X.w) X.A (handleBy e X.env (h₀ :: hds)) (SP X pins D) X.xe t3) X.xe t2) X.xe t1)
    (fun u t' xx => ?_)).run [] s σ H D (I0.toTry _) z0) (fun f t1 sp => ?_) (fun e t1 z => z)
  · obtain ⟨a, B, sJ, pins1, σ1, H1, cl, dd, rfl, J1, nb, up1, sky1, na, os, ag, wa⟩ := xx
    have J : Inv X pins σ1 H1 sJ := J1.ofTry okX
    have sky2 : Sky B (X.env :: X.outer) a (Zc cl dd) X.env.locals t'.heap := by rw [← hs]; exact sky1
    show wpAny (model X.prog X.w) X.A (noteFrame (.ref a) X.env) _ _ _
    refine Sky.land Zc.steady frX hf sky2 fun g3 fly3 up3 => ?_
    have J3 : Inv X pins σ1 H1 { t' with heap := g3 } := J.landed nb fly3.1 (up1.trans up3) os ag
    obtain ⟨ob3, us3, at3, zc3, da3⟩ := fly3.there
    have nfr : a ∉ frs (X.env :: X.outer) := fun hm => by
      obtain ⟨_, o1, e1, no1⟩ := fly3.2.2.1.mem hm
      rw [at3] at e1; cases e1
      exact no1 _ da3
    have nL : a ≠ X.env.locals := fun z => nfr (List.mem_filterMap.mpr ⟨X.env, List.mem_cons_self, by rw [hf, z]⟩)
    have nF : a ∉ X.fs := fun hm => by
      obtain ⟨e, he, q⟩ := List.mem_filterMap.mp hm
      exact nfr (List.mem_filterMap.mpr ⟨e, List.mem_cons_of_mem _ he, q⟩)
    have S3 := J3.suite at3 da3 na nL nF
    have ty3 : PySem.W.Looks (model X.prog X.w) g3 (typeOf (.ref a)) cl := fun A Q E s k q => wpAny_typeOf_ref (k _ _ at3) (by rw [zc3.1]; exact q)
    have ask : ∀ {x : Str} {c : Value} {q : Pos} {Q : Value → Shared → Prop} {E : Value → Shared → Prop}, Names X x c → Q c { t' with heap := g3 } → wpAny (model X.prog X.w) (X.A.mark (some (.ref a))) (eval (.Name x q) X.env) Q E { t' with heap := g3 } := fun {x c q Q E} hc k => by
      obtain ⟨hg, hdbg, hm | ⟨hm, hv, hnn⟩⟩ := hc
      · exact ld_glob (X := X.suite a ((a, ob3) :: (X.pn ++ pins))) S3 hg hm k hdbg
      · exact ld_blt (X := X.suite a ((a, ob3) :: (X.pn ++ pins))) S3 hg hm hv k hnn hdbg
    have go : ∀ {hds1 : List ExceptHandler} {l1 : List Cw}, ClsOk X hds1 l1 → wAll X.K Wo D l1 cl dd σ1 H1 → wpAny (model X.prog X.w) X.A (handleBy (.ref a) X.env hds1) (SP X pins D) X.xe { t' with heap := g3 } := by
      intro hds1 l1 hk
      induction hk with
      | stop => exact fun z => z.elim
      | nil =>
        intro w
        refine wpAny_handleBy_nil ?_
        obtain ⟨k1, k2, k3, ob, us, T, oT, ts', he, hz, hd, hh1, hr⟩ := id fly3
        unfold PySem.passOn
        refine wpAny_bind (wpAny_field he hd hh1 ?_)
        rw [if_neg (show ¬ ((Value.ref T == Value.none) = true) from by simp)]
        have out : wpAny (model X.prog X.w) X.A (setFlight (.ref a) X.env.frame) (fun _ t4 => wpAny (model X.prog X.w) X.A (throw (.ref a) : Sem Flow) (SP X pins D) X.xe t4) X.xe { t' with heap := g3 } := by
          rw [hf]
          refine HandSPX.setFlight_upZ fly3 fun g4 held4 up4 => wpAny_throw (tk _ _ ?_)
          exact ⟨a, B, sJ, pins, σ1, H1, cl, dd, rfl, J, nb, (up1.trans up3).trans up4, .inr (.inr (by rw [hs]; exact held4)), na, os, ag, w⟩
        first
          | exact wpAny_bind (wpAny_pure (wpAny_bind out))
          | exact wpAny_bind out
      | @un x c w t₀ ts q q' r l2 hn hw hr ih =>
        rintro ⟨b, ex, yes, no⟩
        refine wpAny_handleBy_cons (codeAny_handlers_test ?_) (by intro z; cases z)
        have mat := PySem.W.exm_one (M := model X.prog X.w) (J3.kIn) ty3 ex
        refine ask hn (mat.here ?_)
        cases b with
        | false =>
          show wpAny _ X.A (handleBy (.ref a) X.env r) _ _ _
          exact ih (no rfl)
        | true =>
          refine codeAny_handlers_suite ?_
          refine HandSPX.lands_againZ fly3 fun g4 fly4 up4 => ?_
          have J4 : Inv X pins σ1 H1 { t' with heap := g4 } := J.landed nb fly4.1 ((up1.trans up3).trans up4) os ag
          obtain ⟨ob4, us4, at4, zc4, da4⟩ := fly4.there
          have S4 := J4.suite at4 da4 na nL nF
          refine wpAny_mono ((hw a ob4 cl dd (X.pn ++ pins) zc4 ⟨_, da4⟩).run [] _ _ H1 _ S4 (yes rfl a na)) (fun f s6 sp => ?_) (fun _ _ z => False.elim z)
          cases f with
          | ret u =>
            obtain ⟨v6, σ6, H6, S6, r6, q6⟩ := sp
            exact ⟨_, _, _, S6.unsuite okX, r6, q6⟩
          | _ =>
            obtain ⟨σ6, H6, S6, q6⟩ := sp
            exact ⟨_, _, S6.unsuite okX, q6⟩
      | @nm x n i c w t₀ ts q q' r l2 hn hi hk hw hr ih =>
        rintro ⟨b, ex, yes, no⟩
        refine wpAny_handleBy_cons (codeAny_handlers_test ?_) (by intro z; cases z)
        have mat := PySem.W.exm_one (M := model X.prog X.w) (J3.kIn) ty3 ex
        refine ask hn (mat.here ?_)
        cases b with
        | false =>
          show wpAny _ X.A (handleBy (.ref a) X.env r) _ _ _
          exact ih (no rfl)
        | true =>
          refine codeAny_handlers_suite_as ?_
          refine HandSPX.lands_againZ fly3 fun g4 fly4 up4 => ?_
          have J4 : Inv X pins σ1 H1 { t' with heap := g4 } := J.landed nb fly4.1 ((up1.trans up3).trans up4) os ag
          obtain ⟨ob4, us4, at4, zc4, da4⟩ := fly4.there
          have S4 := J4.suite at4 da4 na nL nF
          have lo : Loc X.env.scope n := .inl hk
          refine store_ok (X := X.suite a ((a, ob4) :: (X.pn ++ pins))) (v := .ref a) S4 hN hi lo rfl (fun s5 S5 => ?_) (.inr hk)
          refine wpAny_mono ((hw a ob4 cl dd (X.pn ++ pins) zc4 ⟨_, da4⟩).run [] s5 _ H1 _ S5 (yes rfl a na)) (fun f s6 sp => ?_) (fun _ _ z => False.elim z)
          have bare : ∀ {σ6 : L2.St} {H6 : Hp} {P : Shared → Prop}, Inv (X.suite a ((a, ob4) :: (X.pn ++ pins))) [] σ6 H6 s6 → (∀ s7, Inv X pins (σ6.set i none) H6 s7 → P s7) → wpAny (model X.prog X.w) X.A (do bindName X.env n .none; unbindBehindTheSuite X.env n q') (fun _ s7 => P s7) X.xe s6 :=
            fun {σ6 H6 P} S6 k => gone_ok (S6.unsuite okX) hN hi hk k
          cases f with
          | ret u =>
            obtain ⟨v6, σ6, H6, S6, r6, q6⟩ := sp
            exact bare S6 fun s7 J7 => ⟨_, _, _, J7, r6, q6⟩
          | _ =>
            obtain ⟨σ6, H6, S6, q6⟩ := sp
            exact bare S6 fun s7 J7 => ⟨_, _, J7, q6⟩
    exact go hh wa
  · cases f with
    | next =>
      obtain ⟨σ1, H1, J1, q⟩ := sp
      exact wpAny_execs_nil ⟨σ1, H1, J1.ofTry okX, q⟩
    | ret u =>
      obtain ⟨v, σ1, H1, J1, r, q⟩ := sp
      exact ⟨v, σ1, H1, J1.ofTry okX, r, q⟩
    | _ =>
      obtain ⟨σ1, H1, J1, q⟩ := sp
      exact ⟨σ1, H1, J1.ofTry okX, q⟩
end
abbrev Tx.re (T : Tx) (e : Nat → Option (Addr × Value × Option Addr)) : Tx := { T with ep := e }
abbrev Tx.er (T : Tx) (n : Nat) (a : Addr) (cl : Value) (dd : Option Addr) : Tx := T.re fun k => if k = n then some (a, cl, dd) else T.ep k
mutual
theorem RD.re {K : PySem.W.Frag} {T : Tx} {G : Gst} (e : Nat → Option (Addr × Value × Option Addr)) : ∀ {d v}, RD K T G d v → RD K (T.re e) G d v
  | _, _, .non => .non
  | _, _, .bl => .bl
  | _, _, .int => .int
  | _, _, .str => .str
  | _, _, .tup h r n => .tup h (RDs.re e r) n
  | _, _, .lst h r => .lst h (RDs.re e r)
  | _, _, .scr h r => .scr h (RDs.re e r)
  | _, _, .dic h k r => .dic h (RDs.re e k) (RDs.re e r)
  | _, _, .obj h hc hn r => .obj h hc hn (RDs.re e r)
  | _, _, .ref h => .ref h
theorem RDs.re {K : PySem.W.Frag} {T : Tx} {G : Gst} (e : Nat → Option (Addr × Value × Option Addr)) : ∀ {ds vs}, RDs K T G ds vs → RDs K (T.re e) G ds vs
  | _, _, .nil => .nil
  | _, _, .cons h t => .cons (RD.re e h) (RDs.re e t)
end
section
variable {K : PySem.W.Frag} {T : Tx} {G : Gst} {h : Hh} {H : Hp} (e : Nat → Option (Addr × Value × Option Addr))
theorem RX.re {c : Nat} {ds : List D} {cls : Value} {dd : Option Addr} (r : RX K T G c ds cls dd) : RX K (T.re e) G c ds cls dd := by
  obtain ⟨C, nm, e1, e2, e3⟩ := r
  refine ⟨C, nm, e1, e2, ?_⟩
  rcases e3 with e3 | ⟨dx, fs, q1, q2, q3, q4⟩
  · exact .inl e3
  · exact .inr ⟨dx, fs, q1, q2, q3, RDs.re e q4⟩
theorem RO.re {n : Nat} {o : O} (r : RO K T G H n o) (he : ((∃ c ds, o = .err c ds) ∨ ∃ q cap, o = .lam q cap) → e n = T.ep n) : RO K (T.re e) G H n o := by
  cases o with
  | lst ds => obtain ⟨a, vs, e1, e2, e3, e4⟩ := r; exact ⟨a, vs, e1, e2, e3, RDs.re e e4⟩
  | dic ks vs => obtain ⟨a, kvs, e1, e2, e3, e4, e5⟩ := r; exact ⟨a, kvs, e1, e2, e3, RDs.re e e4, RDs.re e e5⟩
  | dicL ks vs => obtain ⟨a, od, kvs, e1, e2, e4, e5⟩ := r; exact ⟨a, od, kvs, e1, e2, RDs.re e e4, RDs.re e e5⟩
  | dit ks vs => obtain ⟨a, kvs, e1, e2, e3, e4, e5⟩ := r; exact ⟨a, kvs, e1, e2, e3, e4, RDs.re e e5⟩
  | dkn ks vs => obtain ⟨a, xs, e1, e2, e3, e4, e5, e6⟩ := r; exact ⟨a, xs, e1, e2, e3, e4, RDs.re e e5, RDs.re e e6⟩
  | obj c ds => obtain ⟨a, C, dx, nm, fs, e1, e2, e3, e4, e5, e6⟩ := r; exact ⟨a, C, dx, nm, fs, e1, e2, e3, e4, e5, RDs.re e e6⟩
  | src s => exact r
  | dead => trivial
  | err c ds => obtain ⟨a, cls, dd, e1, e2, e3⟩ := r; exact ⟨a, cls, dd, e1, by show e n = _; rw [he (.inl ⟨c, ds, rfl⟩)]; exact e2, RX.re e e3⟩
  | tab q => exact r
  | lam q cap => obtain ⟨f, c, e1, e2, e3, e4⟩ := r; exact ⟨f, c, e1, by show e n = _; rw [he (.inr ⟨q, cap, rfl⟩)]; exact e2, e3, ⟨e4.len, fun i d z => let ⟨v, w1, w2⟩ := e4.at_ i d z; ⟨v, w1, RD.re e w2⟩⟩⟩
  | dkL ks vs => obtain ⟨a, od, xs, e1, e2, e4, e5, e6⟩ := r; exact ⟨a, od, xs, e1, e2, e4, RDs.re e e5, RDs.re e e6⟩
  | itr ds i => obtain ⟨a, l, vs, e1, e2, e3, e4, e5⟩ := r; exact ⟨a, l, vs, e1, e2, e3, e4, RDs.re e e5⟩
theorem RSl.re {δ : De} {σ : L2.St} (r : RSl K T G δ σ) : RSl K (T.re e) G δ σ := ⟨r.len, fun i d q => let ⟨v, h1, h2⟩ := r.at_ i d q; ⟨v, h1, RD.re e h2⟩⟩
theorem Rel.re (r : Rel K T G h H) (he : ∀ n, ((∃ c ds, h[n]? = some (.err c ds)) ∨ ∃ q cap, h[n]? = some (.lam q cap)) → e n = T.ep n) : Rel K (T.re e) G h H :=
  ⟨r.len, r.sub, r.own, r.pr, r.lk, fun n o q => (r.obj n o q).re e fun z => he n (z.imp (fun ⟨c, ds, w⟩ => ⟨c, ds, by rw [q, w]⟩) fun ⟨q', cap, w⟩ => ⟨q', cap, by rw [q, w]⟩)⟩
end
section
variable {K : PySem.W.Frag} {T : Tx} {G : Gst} {h : Hh} {H : Hp}
def endE (n i : Nat) : RS → RS
  | .nx δ h => .nx (δ.set i none) (h.set n .dead)
  | .rt d h => .rt d (h.set n .dead)
  | .bk δ h => .bk (δ.set i none) (h.set n .dead)
  | .ct δ h => .ct (δ.set i none) (h.set n .dead)
  | _ => .stk
def Gst.held (G : Gst) (a : Addr) : Gst := { G with ι := G.ι ++ [a] }
theorem Rel.hold {a : Addr} {cl : Value} {dd : Option Addr} {c : Nat} {ds : List D} (r : Rel K T G h H) (x : RX K T G c ds cl dd) : Ext G (G.held a) ∧ Rel K (T.er h.length a cl dd) (G.held a) (h ++ [.err c ds]) H := by
  have ext : Ext G (G.held a) := ⟨⟨[a], rfl⟩, fun _ _ q => q, rfl, rfl⟩
  refine ⟨ext, by simp [Gst.held, r.len], r.sub, fun b n q => ?_, r.pr, r.lk, fun n o q => ?_⟩
  · obtain ⟨z1, z2⟩ := r.own b n q
    exact ⟨by simp; omega, z2⟩
  · by_cases hn : n < h.length
    · rw [List.getElem?_append_left hn] at q
      exact ((r.obj n o q).stay ext (fun _ z => z) (fun _ _ => rfl) fun _ z => z).re _ fun _ => if_neg (by omega)
    · have hn' : n = h.length := by
        have := (List.getElem?_eq_some_iff.mp q).1
        simp at this; omega
      subst hn'
      simp at q
      subst q
      exact ⟨a, cl, dd, by show (G.ι ++ [a])[h.length]? = some a; rw [← r.len]; simp, if_pos rfl, RX.re _ (RX.monoV ⟨ext.ι, ext.fz⟩ x)⟩
theorem Rel.drop {n : Nat} {a : Addr} {cl : Value} {dd : Option Addr} (r : Rel K (T.er n a cl dd) G h H) : Rel K T G (h.set n .dead) H := by
  refine ⟨by rw [List.length_set]; exact r.len, r.sub, fun b k q => by rw [List.length_set]; exact r.own b k q, r.pr, r.lk, fun k o q => ?_⟩
  by_cases hk : k = n
  · subst hk
    by_cases hl : k < h.length
    · rw [List.getElem?_set_self hl] at q
      cases q; trivial
    · rw [List.getElem?_eq_none (by simpa using hl)] at q
      cases q
  · rw [List.getElem?_set_ne (Ne.symm hk)] at q
    exact (r.obj k o q).re T.ep fun _ => (if_neg hk).symm
theorem okS.leave {W : WX} {n i : Nat} {a : Addr} {cl : Value} {dd : Option Addr} {r : RS} {D : Ends} (o : okS K T W G (endE n i r) D) : okS K (T.er n a cl dd) W0 G r (bareE D i) := by
  cases r with
  | nx δ h => exact fun G' H' σ' x r s => o G' H' _ x r.drop ((s.re T.ep).unset i none)
  | rt d h => exact fun G' H' v x r d => o G' H' v x r.drop (d.re T.ep)
  | bk δ h => exact fun G' H' σ' x r s => o G' H' _ x r.drop ((s.re T.ep).unset i none)
  | ct δ h => exact fun G' H' σ' x r s => o G' H' _ x r.drop ((s.re T.ep).unset i none)
  | exc c ds δ h => exact o.elim
  | stk => exact o
end
inductive Cn where
  | un (m : Nat → Bool) (v : FnS)
  | nm (m : Nat → Bool) (i : Nat) (v : FnS)
  | stop
def handleN (c : Nat) (ds : List D) (δ : De) (h : Hh) : List Cn → RS
  | [] => .exc c ds δ h
  | .un m v :: r => if m c = true then noXS (v δ h) else handleN c ds δ h r
  | .nm m i v :: r => if m c = true then endE h.length i (v (δ.set i (some (.ref h.length))) (h ++ [.err c ds])) else handleN c ds δ h r
  | .stop :: _ => .stk
def sTryN (u : FnS) (l : List Cn) : FnS := fun δ h => match u δ h with
  | .exc c ds δ' h' => handleN c ds δ' h' l
  | r => r
section
variable {X : Cx} {T : Tx} {W : WX} {pos : Pos}
inductive FHn (X : Cx) (T : Tx) : List ExceptHandler → List Cn → Prop
  | nil : FHn X T [] []
  | un {x : Str} {c : Value} {m : Nat → Bool} {v : FnS} {b₀ : Stmt} {suite : List Stmt} {np pos' : Pos} {hds : List ExceptHandler} {l : List Cn} (hc : Names X x c) (hm : ∀ n C nm, T.exc n = some (C, nm) → PySem.W.exmOne X.K (.ref C) c = some (m n))
      (hsu : ∀ (a : Addr) (oe : Obj) (pn : List (Addr × Obj)), FSs (X.suite a ((a, oe) :: pn)) T W0 (b₀ :: suite) v) (r : FHn X T hds l) : FHn X T (.ExceptHandler (some (.Name x np)) none (b₀ :: suite) pos' :: hds) (.un m v :: l)
  | nm {x y : Str} {i : Nat} {c : Value} {m : Nat → Bool} {v : FnS} {b₀ : Stmt} {suite : List Stmt} {np pos' : Pos} {hds : List ExceptHandler} {l : List Cn} (hc : Names X x c) (hi : X.N[i]? = some y) (hk : X.env.kindOf y = some .local) (hm : ∀ n C nm, T.exc n = some (C, nm) → PySem.W.exmOne X.K (.ref C) c = some (m n))
      (hsu : ∀ (n0 : Nat) (a : Addr) (oe : Obj) (cl : Value) (dd : Option Addr) (pn : List (Addr × Obj)), Zc cl dd oe → (∃ vs, oe.data = .fields vs) → FSs (X.suite a ((a, oe) :: pn)) (T.er n0 a cl dd) W0 (b₀ :: suite) v) (r : FHn X T hds l) :
      FHn X T (.ExceptHandler (some (.Name x np)) (some y) (b₀ :: suite) pos' :: hds) (.nm m i v :: l)
  | stop {h : ExceptHandler} {hds : List ExceptHandler} : FHn X T (h :: hds) [.stop]
theorem FHn.ok {hds : List ExceptHandler} {l : List Cn} (F : FHn X T hds l) : ∃ l', ClsOk X hds l' ∧ ∀ (DE : Ends) (c : Nat) (ds : List D) (δ : De) (h : Hh) G H (σ : L2.St) cls dd, Rel X.K T G h H → RSl X.K T G δ σ → RX X.K T G c ds cls dd → okS X.K T W G (handleN c ds δ h l) DE → wAll X.K W DE l' cls dd σ H := by
  induction F with
  | nil => exact ⟨[], .nil, fun D c ds δ h G H σ cls dd r s x o => o G H σ cls dd (Ext.refl G) r s x⟩
  | stop => exact ⟨[.stop], .stop, fun D c ds δ h G H σ cls dd r s x o => o.elim⟩
  | @un x c0 m v b₀ suite np pos' hds l hc hm hsu r ih =>
    obtain ⟨l', ok', rd⟩ := ih
    refine ⟨.un c0 (fun _ _ _ => tS X.K T W0 v) :: l', .un hc (fun a oe cls d pn _ _ => hsu a oe pn) ok', fun D c ds δ h G H σ cls dd r s x o => ?_⟩
    obtain ⟨C, nm, e1, e2, e3⟩ := id x
    subst e2
    refine ⟨m c, hm c C nm e1, fun hy a na => ?_, fun hn => ?_⟩
    · unfold handleN at o
      rw [if_pos hy] at o
      exact ⟨G, h, δ, r, s, okS.noX o⟩
    · unfold handleN at o
      rw [if_neg (by rw [hn]; exact Bool.false_ne_true)] at o
      exact rd D c ds δ h G H σ _ dd r s x o
  | @nm x y i c0 m v b₀ suite np pos' hds l hc hi hk hm hsu r ih =>
    obtain ⟨l', ok', rd⟩ := ih
    refine ⟨.nm c0 i (fun a cl dd D σ H => ∃ n0, tS X.K (T.er n0 a cl dd) W0 v D σ H) :: l', .nm hc hi hk (fun a oe cls d pn hz hd => ⟨fun pins s σ H D I ⟨n0, z⟩ => (hsu n0 a oe cls d pn hz hd).run pins s σ H D I z⟩) ok', fun D c ds δ h G H σ cls dd r s x o => ?_⟩
    obtain ⟨C, nm, e1, e2, e3⟩ := id x
    refine ⟨m c, by rw [e2]; exact hm c C nm e1, fun hy a na => ?_, fun hn => ?_⟩
    · unfold handleN at o
      rw [if_pos hy] at o
      obtain ⟨ext, r2⟩ := r.hold (a := a) x
      refine ⟨h.length, G.held a, _, _, r2, ((s.mono ext).re _).set (.ref (by show (G.ι ++ [a])[h.length]? = some a; rw [← r.len]; simp)) i, okS.leave (okS.ext ext o)⟩
    · unfold handleN at o
      rw [if_neg (by rw [hn]; exact Bool.false_ne_true)] at o
      exact rd D c ds δ h G H σ _ dd r s x o
theorem fs_tryN {body : List Stmt} {h₀ : ExceptHandler} {hds : List ExceptHandler} {u : FnS} {l : List Cn} (hs : X.stack = X.env :: X.outer) (hf : X.env.frame = some X.env.locals) (hN : X.N.Nodup) (tk : Takes X W)
    (hb : ∀ (W : WX) (pn : List (Addr × Obj)) (xe : Value → Shared → Prop), Takes (X.tr pn xe) W → FSs (X.tr pn xe) T W body u) (hh : FHn X T (h₀ :: hds) l) : FS X T W (.Try body (h₀ :: hds) [] [] pos) (sTryN u l) := by
  obtain ⟨l', ok', rd⟩ := hh.ok (W := W)
  refine PS.imp (ps_try_all (tb := fun W' => tS X.K T W' u) hs hf hN tk (fun W' pn xe tk' => hb W' pn xe tk') ok') fun D σ H => ?_
  rintro ⟨G, h0, δ, r, s, o⟩
  refine ⟨G, h0, δ, r, s, ?_⟩
  unfold sTryN at o
  cases e : u δ h0 with
  | nx δ' h' => rw [e] at o; exact o
  | rt d h' => rw [e] at o; exact o
  | bk δ' h' => rw [e] at o; exact o
  | ct δ' h' => rw [e] at o; exact o
  | stk => rw [e] at o; exact o.elim
  | exc c ds δ' h' =>
    rw [e] at o
    intro G' H' σ' cls dd x r' s' q
    exact rd D c ds δ' h' G' H' σ' cls dd r' s' q (okS.ext x o)
end
section
variable {X : Cx} {T : Tx} {W : WX} {pos : Pos}
theorem Rel.err {K : PySem.W.Frag} {G : Gst} {h : Hh} {H : Hp} {n0 n c : Nat} {a : Addr} {cl : Value} {dd : Option Addr} {ds : List D} {v : V} (r : Rel K (T.er n0 a cl dd) G h H) (h0 : ∀ n, T.ep n = none) (d : RD K (T.er n0 a cl dd) G (.ref n) v) (e : h[n]? = some (.err c ds)) :
    v = .ref a ∧ RX K T G c ds cl dd := by
  obtain ⟨a', cl', dd', e1, e2, e3⟩ := r.obj n _ e
  have e2' : (if n = n0 then some (a, cl, dd) else T.ep n) = some (a', cl', dd') := e2
  rw [h0 n] at e2'
  by_cases hn : n = n0
  · rw [if_pos hn] at e2'
    cases e2'
    cases d with
    | ref z =>
      rw [e1] at z; cases z
      exact ⟨rfl, RX.re (T := T.er n0 a cl dd) T.ep e3⟩
  · rw [if_neg hn] at e2'; cases e2'
structure XiC (K : PySem.W.Frag) (C : Addr) : Prop where
  cl : (PySem.W.clsIn K C).isSome = true
  xf : XfC K C
  ha : PySem.W.findIn K (.ref C) "__class__" = some (some (.builtin "object.__class__"))
  hn : PySem.W.specialIn K (.builtin "object.__class__") "__get__" = some (some (.builtin "getset_descriptor.__get__"))
  tk : PySem.W.takesIn K (.builtin "object.__class__") = some true
  hm : PySem.W.mroIn K C (.type "object") = some true
end
end L3
set_option autoImplicit false
set_option maxHeartbeats 4000000
namespace L3
open PySem PySem.Spec L2
section
variable {prog : Program} {w : World} {A : Around} {E : Value → Shared → Prop} {s : Shared}
open PyProof.Rows
end
section
open PyProof.Rows
variable {X : Cx} {T : Tx} {W : WX} {pos p2 : Pos}
def letD (x : D) (h : Hh) : R D := match x with
  | .str s => if lineOk s.length = true then .ok (.tup (s.map fun c => .str [c])) h else .stk
  | _ => .stk
abbrev letB : FB := one letD
end
end L3
set_option autoImplicit false
set_option maxHeartbeats 4000000
namespace L3
open PySem PySem.Spec L2 PyProof.Rows
abbrev Tx.lm (T : Tx) (n : Nat) (f c : Addr) (σ : L2.St) : Tx := { T with ep := fun k => if k = n then some (f, .ref c, none) else none, cs := fun _ => σ }
section
variable {K : PySem.W.Frag} {T T' : Tx} {G : Gst} {h : Hh} {H : Hp}
mutual
theorem RD.cl (e : T'.cls = T.cls) : ∀ {d v}, RD K T G d v → RD K T' G d v
  | _, _, .non => .non
  | _, _, .bl => .bl
  | _, _, .int => .int
  | _, _, .str => .str
  | _, _, .tup h r n => .tup h (RDs.cl e r) n
  | _, _, .lst h r => .lst h (RDs.cl e r)
  | _, _, .scr h r => .scr h (RDs.cl e r)
  | _, _, .dic h k r => .dic h (RDs.cl e k) (RDs.cl e r)
  | _, _, .obj h hc hn r => .obj h (by rw [e]; exact hc) hn (RDs.cl e r)
  | _, _, .ref h => .ref h
theorem RDs.cl (e : T'.cls = T.cls) : ∀ {d v}, RDs K T G d v → RDs K T' G d v
  | _, _, .nil => .nil
  | _, _, .cons h t => .cons (RD.cl e h) (RDs.cl e t)
end
theorem RSl.cl (e : T'.cls = T.cls) {δ : De} {σ : L2.St} (r : RSl K T G δ σ) : RSl K T' G δ σ := ⟨r.len, fun i d q => let ⟨v, h1, h2⟩ := r.at_ i d q; ⟨v, h1, RD.cl e h2⟩⟩
theorem RX.cl (e : T'.cls = T.cls) (e' : T'.exc = T.exc) {c : Nat} {ds : List D} {cls : Value} {dd : Option Addr} (r : RX K T G c ds cls dd) : RX K T' G c ds cls dd := by
  obtain ⟨C, nm, e1, e2, e3⟩ := r
  exact ⟨C, nm, by rw [e']; exact e1, e2, e3.imp id fun ⟨dx, fs, q1, q2, q3, q4⟩ => ⟨dx, fs, q1, q2, q3, RDs.cl e q4⟩⟩
theorem RO.lm {n k : Nat} {f c : Addr} {σ : L2.St} {o : O} (r : RO K T G H k o) (hT : ∀ k, T.ep k = none) : RO K (T.lm n f c σ) G H k o := by
  have e : (T.lm n f c σ).cls = T.cls := rfl
  cases o with
  | lst ds => obtain ⟨a, vs, e1, e2, e3, e4⟩ := r; exact ⟨a, vs, e1, e2, e3, RDs.cl e e4⟩
  | dic ks vs => obtain ⟨a, kvs, e1, e2, e3, e4, e5⟩ := r; exact ⟨a, kvs, e1, e2, e3, RDs.cl e e4, RDs.cl e e5⟩
  | dicL ks vs => obtain ⟨a, od, kvs, e1, e2, e4, e5⟩ := r; exact ⟨a, od, kvs, e1, e2, RDs.cl e e4, RDs.cl e e5⟩
  | dit ks vs => obtain ⟨a, kvs, e1, e2, e3, e4, e5⟩ := r; exact ⟨a, kvs, e1, e2, e3, e4, RDs.cl e e5⟩
  | dkn ks vs => obtain ⟨a, xs, e1, e2, e3, e4, e5, e6⟩ := r; exact ⟨a, xs, e1, e2, e3, e4, RDs.cl e e5, RDs.cl e e6⟩
  | obj c ds => obtain ⟨a, C, dx, nm, fs, e1, e2, e3, e4, e5, e6⟩ := r; exact ⟨a, C, dx, nm, fs, e1, e2, e3, e4, e5, RDs.cl e e6⟩
  | src s => exact r
  | dead => trivial
  | err c ds => obtain ⟨a, cls, dd, e1, e2, e3⟩ := r; rw [hT] at e2; cases e2
  | tab q => exact r
  | lam q cap => obtain ⟨f, c, e1, e2, e3⟩ := r; rw [hT] at e2; cases e2
  | dkL ks vs => obtain ⟨a, od, xs, e1, e2, e4, e5, e6⟩ := r; exact ⟨a, od, xs, e1, e2, e4, RDs.cl e e5, RDs.cl e e6⟩
  | itr ds i => obtain ⟨a, l, vs, e1, e2, e3, e4, e5⟩ := r; exact ⟨a, l, vs, e1, e2, e3, e4, RDs.cl e e5⟩
theorem RO.unlm {n k : Nat} {f c : Addr} {σ : L2.St} {o : O} (r : RO K (T.lm n f c σ) G H k o) (hk : k ≠ n) : RO K T G H k o := by
  have e : T.cls = (T.lm n f c σ).cls := rfl
  have en : (T.lm n f c σ).ep k = none := if_neg hk
  cases o with
  | lst ds => obtain ⟨a, vs, e1, e2, e3, e4⟩ := r; exact ⟨a, vs, e1, e2, e3, RDs.cl e e4⟩
  | dic ks vs => obtain ⟨a, kvs, e1, e2, e3, e4, e5⟩ := r; exact ⟨a, kvs, e1, e2, e3, RDs.cl e e4, RDs.cl e e5⟩
  | dicL ks vs => obtain ⟨a, od, kvs, e1, e2, e4, e5⟩ := r; exact ⟨a, od, kvs, e1, e2, RDs.cl e e4, RDs.cl e e5⟩
  | dit ks vs => obtain ⟨a, kvs, e1, e2, e3, e4, e5⟩ := r; exact ⟨a, kvs, e1, e2, e3, e4, RDs.cl e e5⟩
  | dkn ks vs => obtain ⟨a, xs, e1, e2, e3, e4, e5, e6⟩ := r; exact ⟨a, xs, e1, e2, e3, e4, RDs.cl e e5, RDs.cl e e6⟩
  | obj c ds => obtain ⟨a, C, dx, nm, fs, e1, e2, e3, e4, e5, e6⟩ := r; exact ⟨a, C, dx, nm, fs, e1, e2, e3, e4, e5, RDs.cl e e6⟩
  | src s => exact r
  | dead => trivial
  | err c ds => obtain ⟨a, cls, dd, e1, e2, e3⟩ := r; rw [en] at e2; cases e2
  | tab q => exact r
  | lam q cap => obtain ⟨f, c, e1, e2, e3⟩ := r; rw [en] at e2; cases e2
  | dkL ks vs => obtain ⟨a, od, xs, e1, e2, e4, e5, e6⟩ := r; exact ⟨a, od, xs, e1, e2, e4, RDs.cl e e5, RDs.cl e e6⟩
  | itr ds i => obtain ⟨a, l, vs, e1, e2, e3, e4, e5⟩ := r; exact ⟨a, l, vs, e1, e2, e3, e4, RDs.cl e e5⟩
theorem Rel.away {n : Nat} {f c : Addr} {σ : L2.St} (r : Rel K (T.lm n f c σ) G h H) : Rel K T G (h.set n .dead) H := by
  refine ⟨by rw [List.length_set]; exact r.len, r.sub, fun b k q => by rw [List.length_set]; exact r.own b k q, r.pr, r.lk, fun k o q => ?_⟩
  by_cases hk : k = n
  · subst hk
    by_cases hl : k < h.length
    · rw [List.getElem?_set_self hl] at q
      cases q; trivial
    · rw [List.getElem?_eq_none (by simpa using hl)] at q
      cases q
  · rw [List.getElem?_set_ne (Ne.symm hk)] at q
    exact (r.obj k o q).unlm hk
theorem Rel.back {n : Nat} {f c : Addr} {σ : L2.St} {q : List Nat} {cap : De} (r : Rel K T G h H) (hT : ∀ k, T.ep k = none) (hf : G.ι[n]? = some f) (hc : G.fz c = some (LamX.CodeO c ⟨q.toArray⟩)) (hs : RSl K T G cap σ) : Rel K (T.lm n f c σ) G (h.set n (.lam q cap)) H := by
  refine ⟨by rw [List.length_set]; exact r.len, r.sub, fun b k q => by rw [List.length_set]; exact r.own b k q, r.pr, r.lk, fun k o q => ?_⟩
  by_cases hk : k = n
  · subst hk
    by_cases hl : k < h.length
    · rw [List.getElem?_set_self hl] at q
      cases q
      exact ⟨f, c, hf, if_pos rfl, hc, RSl.cl (T := T) (T' := T.lm k f c σ) rfl hs⟩
    · rw [List.getElem?_eq_none (by simpa using hl)] at q
      cases q
  · rw [List.getElem?_set_ne (Ne.symm hk)] at q
    exact (r.obj k o q).lm hT
theorem Rel.lam {f c : Addr} {σ : L2.St} {q : List Nat} {cap : De} (r : Rel K T G h H) (hT : ∀ k, T.ep k = none) (hc : G.fz c = some (LamX.CodeO c ⟨q.toArray⟩)) (hs : RSl K T G cap σ) :
    Ext G (G.held f) ∧ (G.held f).ι[h.length]? = some f ∧ Rel K (T.lm h.length f c σ) (G.held f) (h ++ [.lam q cap]) H := by
  have ext : Ext G (G.held f) := ⟨⟨[f], rfl⟩, fun _ _ q => q, rfl, rfl⟩
  have at_ : (G.held f).ι[h.length]? = some f := by show (G.ι ++ [f])[h.length]? = some f; rw [← r.len]; simp
  refine ⟨ext, at_, by simp [Gst.held, r.len], r.sub, fun b n q => ?_, r.pr, r.lk, fun n o q => ?_⟩
  · obtain ⟨z1, z2⟩ := r.own b n q
    exact ⟨by simp; omega, z2⟩
  · by_cases hn : n < h.length
    · rw [List.getElem?_append_left hn] at q
      exact ((r.obj n o q).stay ext (fun _ z => z) (fun _ _ => rfl) fun _ z => z).lm hT
    · have hn' : n = h.length := by
        have := (List.getElem?_eq_some_iff.mp q).1
        simp at this; omega
      subst hn'
      simp at q
      subst q
      exact ⟨f, c, at_, if_pos rfl, hc, RSl.cl (T := T) (T' := T.lm h.length f c σ) rfl (hs.mono ext)⟩
end
section
variable {X : Cx} {T : Tx} {pins : List (Addr × Obj)} {σ : L2.St} {H : Hp} {s : Shared}
theorem lam_new {G : Gst} {h : Hh} {n : Nat} {q : List Nat} {c P : Addr} {params : Arguments} {body : Expr} {scope : Scope} {pos : Pos} {E : Value → Shared → Prop} {Q : Value → Shared → Prop} (I : Inv X pins σ H s) (TB : LamX.TabB X.base X.mg c P) (hcode : X.env.code = .ref c)
    (ht : T.tb q = some P) (hq : X.env.qual ++ "<lambda>" = ⟨q.toArray⟩) (r : Rel X.K T G h H) (hn : h[n]? = some (.tab q)) (hdef : defaultsOf params X.env = ([], [])) (hfree : ∀ y ∈ scope.names, y.2 = .free → ∃ c, X.env.cells.lookup y.1 = some c)
    (k : ∀ (f c' : Addr) (pm ctv : Value) (G1 : Gst) (H1 : Hp) (s' : Shared), Inv X pins σ H1 s' → Ext G G1 → Rel X.K T G1 h H1 → G1.fz c' = some (LamX.CodeO c' ⟨q.toArray⟩) →
      s'.heap.get? f = some (PySem.W.kla_obj "<lambda>" (X.env.qual ++ "<lambda>") params body scope (cloFrom X.env.cells scope.names []) pm c' ctv) → H1 f = none → f ∉ frs X.stack → Q (.ref f) s') :
    wpAny (model X.prog X.w) X.A (eval (.Lambda params body scope pos) X.env) Q E s := by
  obtain ⟨a, ps, e1, e2, hP, e4, tr, among⟩ := r.obj n _ hn
  rw [ht] at e4
  cases e4
  have atP : s.heap.get? P = some { cls := .none, data := .fields ps } := I.hok P _ hP
  have bP : s.heap.BuiltinsAt X.mg P := TB.bm.keeps I.bk
  have fresh : ∀ f, s.heap.objs.size ≤ f → f ∉ frs X.stack := fun f hf z => (List.mem_cons.mp (I.stkSub _ z)).elim
    (fun e => absurd I.lt (by rw [← e]; exact Nat.not_lt.mpr hf)) fun e => I.nofs hf e
  refine PySem.W.kla_eval hdef ?_
  cases hc : codeAmong pos ps.toList with
  | some cv =>
    obtain ⟨c', ec, hz⟩ := among pos cv hc
    subst ec
    refine PySem.W.kla_makeFunctionHit (mg := X.mg) (c := c) (P := P) (ps := ps) (closure_ok hfree) I.ok.glob (I.mod.glob.keeps I.bk) hcode (TB.code.keeps I.bk) atP tr hc bP fun ctv h' tk hx big => ?_
    have J := I.kept (h' := h'.push (PySem.W.kla_obj "<lambda>" (X.env.qual ++ "<lambda>") params body scope (cloFrom X.env.cells scope.names []) ((X.mg "__name__").getD .none) c' ctv)) (t' := tk) fun b o e => Heap.get?_push_of_some _ (hx b o e)
    exact k h'.objs.size c' ((X.mg "__name__").getD .none) ctv G H _ J (Ext.refl G) r hz (Heap.get?_push_size _ rfl) (I.hok.fresh big) (fresh _ big)
  | none =>
    refine PySem.W.kla_makeFunction (mg := X.mg) (c := c) (P := P) (ps := ps) (closure_ok hfree) I.ok.glob (I.mod.glob.keeps I.bk) hcode (TB.code.keeps I.bk) atP tr hc TB.gP bP fun c' ctv h' tk hx hge hlt hrec htb => ?_
    obtain ⟨c2, oc, vs, t, ec, hoc, hd, hv⟩ := hrec
    cases ec
    have big : s.heap.objs.size ≤ h'.objs.size := Nat.le_trans hge (Nat.le_of_lt hlt)
    have nC : H c' = none := I.hok.fresh hge
    have nPc : P ≠ c' := ne_of_none hP nC
    have J := LamX.inv_table (t' := tk) (more := #[rawInt pos.line, rawInt pos.col, .ref c']) (q := X.env.qual ++ "<lambda>") (h' := h'.push (PySem.W.kla_obj "<lambda>" (X.env.qual ++ "<lambda>") params body scope (cloFrom X.env.cells scope.names []) ((X.mg "__name__").getD .none) c' ctv)) I hP
      (fun b o hb e => Heap.get?_push_of_some _ (hx b o hb e)) (Heap.get?_push_of_some _ htb) hge ⟨oc, vs, t, Heap.get?_push_of_some _ hoc, hd, hv⟩
    have eC : LamX.CodeO c' (X.env.qual ++ "<lambda>") = LamX.CodeO c' ⟨q.toArray⟩ := by rw [hq]
    rw [eC] at J
    obtain ⟨x1, r1⟩ := r.newF (o := LamX.CodeO c' ⟨q.toArray⟩) nC
    have hz : (G.frz c' (LamX.CodeO c' ⟨q.toArray⟩)).fz c' = some (LamX.CodeO c' ⟨q.toArray⟩) := upd_same
    have eL : (ps ++ #[rawInt pos.line, rawInt pos.col, .ref c']).toList = ps.toList ++ [rawInt pos.line, rawInt pos.col, .ref c'] := by simp
    have hl : n < h.length := (List.getElem?_eq_some_iff.mp hn).1
    have eH : upd (upd H P (.tbl (ps ++ #[rawInt pos.line, rawInt pos.col, .ref c']))) c' (LamX.CodeO c' ⟨q.toArray⟩) = upd (upd H c' (LamX.CodeO c' ⟨q.toArray⟩)) P (.tbl (ps ++ #[rawInt pos.line, rawInt pos.col, .ref c'])) := funext fun b => by
      by_cases h1 : b = c'
      · subst h1; rw [upd_same, upd_ne (Ne.symm nPc), upd_same]
      · rw [upd_ne h1]
        by_cases h2 : b = P
        · subst h2; rw [upd_same, upd_same]
        · rw [upd_ne h2, upd_ne h2, upd_ne h1]
    have r2 := r1.put (n := n) (a := P) (o := .tbl (ps ++ #[rawInt pos.line, rawInt pos.col, .ref c'])) (u := .tab q) hl e2 ⟨P, _, e1, e2, upd_same, ht, by rw [eL]; exact PySem.TriplesOk_snoc _ _ _ _ tr, fun p' cv hcv => by
      rw [eL] at hcv
      rcases LamX.among_app _ tr hcv with z | z
      · obtain ⟨c0, w1, w2⟩ := among p' cv z
        exact ⟨c0, w1, x1.fz _ _ w2⟩
      · exact ⟨c', z, hz⟩⟩
    have e3 : h.set n (.tab q) = h := by
      obtain ⟨_, w⟩ := List.getElem?_eq_some_iff.mp hn
      rw [← w, List.set_getElem_self]
    rw [e3, ← eH] at r2
    refine k h'.objs.size c' ((X.mg "__name__").getD .none) ctv _ _ _ J x1 r2 hz (Heap.get?_push_size _ rfl) ?_ (fresh _ big)
    have n1 : h'.objs.size ≠ c' := Nat.ne_of_gt hlt
    have n2 : h'.objs.size ≠ P := Nat.ne_of_gt (Nat.lt_of_lt_of_le (Heap.lt_size atP) big)
    rw [upd_ne n1, upd_ne n2]
    exact I.hok.fresh big
end
def actR (n : Nat) (q : List Nat) (cap : De) : R D → R D
  | .ok x h => .ok x (h.set n (.lam q cap))
  | .exc c ds h => .exc c ds (h.set n (.lam q cap))
  | .stk => .stk
def eAct (q : List Nat) (fb : FnE) (i : Nat) : FnE := fun δ h => match δ[i]? with
  | some (some (.ref n)) => match h[n]? with
    | some (.lam q' cap) => if q' = q then actR n q cap (fb cap (h.set n .dead)) else .stk
    | _ => .stk
  | _ => .stk
theorem okR.act {K : PySem.W.Frag} {T : Tx} {W W1 : WX} {G : Gst} {n : Nat} {f c : Addr} {q : List Nat} {cap : De} {σ σZ : L2.St} {r : R D} {Q : VK} (hT : ∀ k, T.ep k = none) (hf : G.ι[n]? = some f) (hc : G.fz c = some (LamX.CodeO c ⟨q.toArray⟩)) (hs : RSl K T G cap σ)
    (hW : ∀ cls dd H', W cls dd σZ H' → W1 cls dd σ H') (o : okR K (T.lm n f c σ) W G σZ (RD K (T.lm n f c σ)) (actR n q cap r) Q) : okR K T W1 G σ (RD K T) r Q := by
  have at_ : ∀ G', Ext G G' → G'.ι[n]? = some f := fun G' x => by
    obtain ⟨t, e⟩ := x.ι
    rw [e, List.getElem?_append_left (List.getElem?_eq_some_iff.mp hf).1]; exact hf
  cases r with
  | ok y h => exact fun G' H' v x r d => o G' H' v x (r.back hT (at_ G' x) (x.fz _ _ hc) (hs.mono x)) (RD.cl (T := T) (T' := T.lm n f c σ) rfl d)
  | exc c0 ds h => exact fun G' H' cls dd x r d => hW _ _ _ (o G' H' cls dd x (r.back hT (at_ G' x) (x.fz _ _ hc) (hs.mono x)) (RX.cl (T := T) (T' := T.lm n f c σ) rfl rfl d))
  | stk => exact o
section
variable {X : Cx} {T : Tx} {W : WX} {pins : List (Addr × Obj)} {σ : L2.St} {H : Hp} {s : Shared}
abbrev lamK (X : Cx) (outer : List Env) (A : Around) (s : Shared) (H : Hp) (E : XK) (scope : Scope) (f c : Addr) : Cx := LamX.lamCx X A outer s H E scope f c
theorem lam_takes {A : Around} {outer : List Env} {E : XK} {scope : Scope} {f c : Addr} : Takes (lamK X outer A s H E scope f c) (fun cls d _ H => E cls d H) := takes_of rfl rfl rfl rfl
def LamB (X : Cx) (T : Tx) (k : Nat) (scope : Scope) (body : Expr) (fb : FnE) : Prop :=
  ∀ (A : Around) (outer : List Env) (s : Shared) (H : Hp) (E : XK) (W : WX) (f c : Addr), RoomG k (A.deeper (LamX.lamEnv X scope s.heap.objs.size f c)) → Takes (lamK X outer A s H E scope f c) W → FE (lamK X outer A s H E scope f c) T W body fb
theorem fe_act {CXg : CXT} {Eg : XK} {Ng : List Str} {qg : Str} {sg : Scope} {g f c : Addr} {cdg pm ctv : Value} {q : List Nat} {params : Arguments} {body : Expr} {fb : FnE} {scope : Scope} {k i n : Nat} {a : Str} {pn : List (Addr × Obj)} {xe : Value → Shared → Prop} {p1 p2 : Pos}
    (I : Inv X pins σ H s) (L : LamX.LamS X.env.scope scope) (hq : X.env.qual ++ "<lambda>" = ⟨q.toArray⟩) (hf : s.heap.get? f = some (PySem.W.kla_obj "<lambda>" (X.env.qual ++ "<lambda>") params body scope (cloFrom X.env.cells scope.names []) pm c ctv)) (hfn : H f = none) (hfr : f ∉ frs X.stack)
    (hbind : bindArgs (PySem.W.kla_fn "<lambda>" (X.env.qual ++ "<lambda>") params body scope (cloFrom X.env.cells scope.names []) pm (.ref c) ctv) ⟨[], []⟩ = pure []) (hT : ∀ k, T.ep k = none)
    (tk : Takes ((cxOf CXg X.prog X.w X.K X.mg X.base Ng qg sg g cdg X.A X.stack s H Eg).tr pn xe) W) (hr : RoomG (k + 1) (X.A.deeper (envOfC qg sg s.heap.objs.size g cdg))) (hb : LamB X T k scope body fb)
    (hN : Ng[i]? = some a) (hv : Vis sg a) (hd : (a == ("__debug__" : Str)) = false) (hcd : (a == ("__classdict__" : Str)) = false) :
    FE ((cxOf CXg X.prog X.w X.K X.mg X.base Ng qg sg g cdg X.A X.stack s H Eg).tr pn xe) (T.lm n f c σ) W (.Call (.Name a p1) [] [] p2) (eAct q fb i) := by
  refine ⟨fun pinsZ sZ σZ HZ Q IZ ⟨G, h, δ, r, sl, o⟩ => ?_⟩
  unfold eAct at o
  cases e : δ[i]? with
  | none => rw [e] at o; exact o.elim
  | some od =>
    cases od with
    | none => rw [e] at o; exact o.elim
    | some d =>
      rw [e] at o
      cases d with
      | ref m =>
        dsimp only at o
        cases z : h[m]? with
        | none => rw [z] at o; exact o.elim
        | some ob =>
          rw [z] at o
          cases ob with
          | lam q' cap =>
            dsimp only at o
            by_cases eq : q' = q
            · subst eq
              rw [if_pos rfl] at o
              obtain ⟨f2, c2, w1, w2, w3, w4⟩ := r.obj m _ z
              have hm : m = n := by
                by_cases hm : m = n
                · exact hm
                · have w2' : (if m = n then some (f, Value.ref c, (none : Option Addr)) else none) = some (f2, Value.ref c2, none) := w2
                  rw [if_neg hm] at w2'; cases w2'
              subst hm
              have w2' : (if m = m then some (f, Value.ref c, (none : Option Addr)) else none) = some (f2, Value.ref c2, none) := w2
              rw [if_pos rfl] at w2'
              cases w2'
              have ws : RSl X.K T G cap σ := RSl.cl (T := T.lm m f c σ) (T' := T) rfl w4
              obtain ⟨v, v1, v2⟩ := sl.at_ i _ e
              have ev : v = .ref f := by
                cases v2 with
                | ref hι => rw [w1] at hι; cases hι; rfl
              subst ev
              have o2 : okR X.K T (fun cls d _ H' => W cls d σZ H') G σ (RD X.K T) (fb cap (h.set m .dead)) Q := okR.act hT w1 w3 ws (fun _ _ _ y => y) o
              refine wpAny_Call_Name_kw (thn ((pe_var (pos := p1) hN hv hd hcd).run pinsZ sZ σZ HZ (fun v H1 => v = .ref f ∧ H1 = HZ) IZ ⟨.ref f, v1, rfl, rfl⟩) fun u s1 y => ?_)
              obtain ⟨_, H1, J, ru, rfl, rfl⟩ := y
              cases (show u = Value.ref f from ru)
              have there := J.base.keep f _ hf hfn hfr (fun y => nomatch (show f ∈ ([] : List Addr) from y))
              obtain ⟨⟨oc, vs, t, k1, k2, k3⟩, _⟩ := J.hok c _ (r.sub _ _ w3)
              refine PySem.W.callWith_F0 ⟨_, _, _, _, there⟩ (wpAny_call (codeAny_mono (R := CR (L2.CX X.prog X.w) (envOfC qg sg s.heap.objs.size g cdg :: X.stack) X.prog X.w H1 s1 Q fun cls d H' => W cls d σZ H') ?_ fun res s' y => ?_))
              · refine PySem.W.kla_callFunE hr.r.depth there rfl L.co L.gen rfl ⟨c, oc, vs, t, rfl, k1, k2, by rw [hq]; exact k3⟩ ?_
                show wpAny _ _ (bindArgs _ ⟨[], []⟩) _ _ _
                rw [hbind]
                refine wpAny_pure (wpAny_newFunctionEnv (fun y hy => (L.own y hy).2) (fun y hy => absurd hy (by simp)) (fun h1 ns ext => ⟨J.nolimit.fresh _ ext, PySem.W.kla_codeExpr ?_⟩) L.kind)
                have kept : ∀ b o, s1.heap.get? b = some o → h1.get? b = some o := fun b o y => ext.extBut b o (Nat.ne_of_lt (Heap.lt_size y)) (Heap.get?_push_of_some _ y)
                have J2 := LamX.lam_start2 (tk := s1.toks + ([] : List (Str × Value)).length) (E := fun cls d H' => W cls d σZ H') (f := f) (c' := c) I L J.env0 hr.r.hd J.base ns kept
                exact wpAny_mono ((hb _ _ s1 H1 _ _ f c ⟨hr.r.deeper _, hr.g⟩ lam_takes).run [] _ σ H1 Q J2 ⟨G, _, cap, r.away, ws, o2⟩) (fun v s' y => let ⟨w', H', J', rv, q⟩ := y; ⟨w', H', J'.os, J'.bare, J'.base, J'.hok, rv, q⟩) fun _ _ y => y
              · match res, y with
                | .error e, y => exact tk e s' (XE.of_call J (fun _ _ _ y => y) y)
                | .ok (.ret u), y => exact J.after y
                | .ok .next, y => exact y.elim
                | .ok .brk, y => exact y.elim
                | .ok .cont, y => exact y.elim
            · rw [if_neg eq] at o; exact o.elim
          | _ => exact o.elim
      | _ => exact o.elim
def noXK : XK := fun _ _ _ => False
def GivL (X : Cx) (T : Tx) (k : Nat) (Ng : List Str) (x : Str) (sg : Scope) (g : Addr) (cdg : Value) (bg : List Stmt) (a : Str) (u : List Nat → FnE → FnS) : Prop :=
  ∀ (q : List Nat) (fb : FnE) (n : Nat) (f c : Addr) (σ : L2.St) (s : Shared) (H : Hp) (W : WX),
    (∀ (W : WX) (pn : List (Addr × Obj)) (xe : Value → Shared → Prop) (p1 p2 : Pos), Takes ((cxOf (L2.CX X.prog X.w) X.prog X.w X.K X.mg X.base Ng x sg g cdg X.A X.stack s H noXK).tr pn xe) W →
      FE ((cxOf (L2.CX X.prog X.w) X.prog X.w X.K X.mg X.base Ng x sg g cdg X.A X.stack s H noXK).tr pn xe) (T.lm n f c σ) W (.Call (.Name a p1) [] [] p2) (eAct q fb 0)) →
    RoomG k (X.A.deeper (envOfC x sg s.heap.objs.size g cdg)) → Takes (cxOf (L2.CX X.prog X.w) X.prog X.w X.K X.mg X.base Ng x sg g cdg X.A X.stack s H noXK) W →
    FSs (cxOf (L2.CX X.prog X.w) X.prog X.w X.K X.mg X.base Ng x sg g cdg X.A X.stack s H noXK) (T.lm n f c σ) W bg (u q fb)
def lamEnd (n : Nat) : R D → R D
  | .ok x h => .ok x (h.set n .dead)
  | _ => .stk
def eLam (t : Nat) (q : List Nat) (sem : List Nat → FnE → Sem3) (fb : FnE) : FnE := fun δ h => match h[t]? with
  | some (.tab q') => if q' = q then lamEnd h.length (sem q fb [.ref h.length] (h ++ [.lam q δ])) else .stk
  | _ => .stk
theorem fe_lamcall {x a : Str} {g c P : Addr} {k t : Nat} {pg : Arguments} {bg : List Stmt} {sg : Scope} {fd : FuncData} {Ng : List Str} {q : List Nat} {params : Arguments} {body : Expr} {scope : Scope} {u : List Nat → FnE → FnS} {fb : FnE} {p lpos pos : Pos}
    (F : FunD X.K x x pg bg sg [] [] g fd) (S : FnScope Ng [a] sg) (bd : L2.Binds X.K fd [a] []) (hN : Ng[0]? = some a) (hv : Vis sg a) (hg : Gl X x) (hm : X.mg x = some (.ref g))
    (hG : ∀ cdg, GivL X T (k + 1) Ng x sg g cdg bg a u) (TB : LamX.TabB X.base X.mg c P) (hcode : X.env.code = .ref c) (ht : T.tb q = some P) (hq : X.env.qual ++ "<lambda>" = ⟨q.toArray⟩) (hT : ∀ k, T.ep k = none)
    (hr : RoomG (k + 2) X.A) (L : LamX.LamS X.env.scope scope) (hdef : defaultsOf params X.env = ([], [])) (hbind : ∀ (q : Str) (cl : List (Str × Addr)) (pm cv ctv : Value), bindArgs (PySem.W.kla_fn "<lambda>" q params body scope cl pm cv ctv) ⟨[], []⟩ = pure [])
    (hb : LamB X T k scope body fb) (hdb : (x == ("__debug__" : Str)) = false := by decide) (hd : (a == ("__debug__" : Str)) = false := by decide) (hcd : (a == ("__classdict__" : Str)) = false := by decide) :
    FE X T W (.Call (.Name x p) [.Lambda params body scope lpos] [] pos) (eLam t q (fun q fb => runD Ng.length (u q fb)) fb) := by
  refine ⟨fun pins s σ H Q I ⟨G, h, δ, r, sl, o⟩ => ?_⟩
  unfold eLam at o
  cases z : h[t]? with
  | none => rw [z] at o; exact o.elim
  | some ob =>
    rw [z] at o
    cases ob with
    | tab q' =>
      dsimp only at o
      by_cases eq : q' = q
      · subst eq
        rw [if_pos rfl] at o
        obtain ⟨oc, od, dV, kV, doc, pmg, an, cdg, ct, osl, rfl, lk, hcg, _, _⟩ := F.ex
        refine wpAny_Call_Name_kw (ld_glob I hg hm (PySem.W.callWith_K (h₀ := X.base) I.ok.mod.kin F.kp ?_ (by rfl) (by rfl)) hdb)
        show wpAny _ _ (spliced ((false, eval (.Lambda params body scope lpos) X.env) :: backTo pos (starEach [] X.env))) _ _ s
        refine Calls.spliced_cons (lam_new I TB hcode ht hq r z hdef (L.has I.ok) fun f c' pm ctv G1 H1 s' I1 x1 r1 hz hf hfn hfr => Calls.spliced_nil ⟨I1.kIn, ?_⟩)
        obtain ⟨x2, at2, r2⟩ := r1.lam (f := f) (cap := δ) (σ := σ) hT hz (sl.mono x1)
        have o2 : okR X.K (T.lm h.length f c' σ) (fun cls d _ H => noXK cls d H) (G1.held f) ([] : L2.St) (RD X.K (T.lm h.length f c' σ)) (runD Ng.length (u q' fb) [.ref h.length] (h ++ [.lam q' δ])) Q := by
          cases e : runD Ng.length (u q' fb) [.ref h.length] (h ++ [.lam q' δ]) with
          | ok y h' => rw [e] at o; exact fun G' H' v x r d => o G' H' v (x1.trans (x2.trans x)) r.away (RD.cl (T := T.lm h.length f c' σ) (T' := T) rfl d)
          | exc c0 ds h' => rw [e] at o; exact o.elim
          | stk => rw [e] at o; exact o.elim
        have run := LamX.run_ofS (CX := L2.CX X.prog X.w) (A := X.A) (outer := X.stack) (s := s') (H := H1) (Q := Q) (E := noXK) (k := k + 1) (N := Ng) (ps := [a]) (us := [.ref f]) (vs := [.ref f]) lk hcg S hr.r I1.env0 (bd s' [.ref f] I1.kIn rfl) (.cons rfl .nil) rfl fun hr' =>
          ⟨_, hG cdg q' fb h.length f c' σ s' H1 _ (fun W pn xe p1 p2 tk => fe_act I1 L hq hf hfn hfr (hbind _ _ _ _ _) hT tk ⟨hr', hr.g⟩ hb hN hv hd hcd) ⟨hr', hr.g⟩ (takes_of rfl rfl rfl rfl), def_read ⟨rfl, _, _, [.ref h.length], r2, .cons (.ref at2) .nil, o2⟩⟩
        refine wpAny_call (codeAny_mono run fun res s2 y => ?_)
        match res, y with
        | .error e, y =>
          obtain ⟨_, _, _, _, _, _, _, _, _, _, _, _, w⟩ := y
          exact (show False from w).elim
        | .ok (.ret u), y => exact I1.after y
        | .ok .next, y => exact y.elim
        | .ok .brk, y => exact y.elim
        | .ok .cont, y => exact y.elim
      · rw [if_neg eq] at o; exact o.elim
    | _ => exact o.elim
end
end L3
set_option autoImplicit false
set_option maxHeartbeats 4000000
namespace L3
open PySem PySem.Spec L2 PyProof.Rows
open He (ga ma)
def cdV (K : PySem.W.Frag) (f : Addr) : Value := match K.lookup f with
  | some ⟨_, _, .func fd, _⟩ => fd.code
  | _ => .none
def cdA (K : PySem.W.Frag) (f : Addr) : Addr := match cdV K f with
  | .ref c => c
  | _ => 0
def tbA (K : PySem.W.Frag) (f : Addr) : Addr := match K.lookup (cdA K f) with
  | some ⟨_, _, .fields vs, _⟩ => (match (vs[11]? : Option Value) with
    | some (.ref P) => P
    | _ => 0)
  | _ => 0
def hdB (o : Option Obj) (c P : Addr) : Bool := match o with
  | some ⟨.type t, _, .fields vs, _⟩ => t == "code" && ((match (vs[11]? : Option Value) with | some (.ref P') => P' == P | _ => false) && ((match vs.getD 18 .none with | .str _ _ => true | _ => false) && ((match vs.getD 7 .none with | .int _ _ => true | _ => false) &&
    ((match vs.getD 9 .none with | .bool _ => true | _ => false) && ((match vs.getD 10 .none with | .int _ _ => true | _ => false) && c != P)))))
  | _ => false
def tabB (K : PySem.W.Frag) (f : Addr) : Bool := (match cdV K f with | .ref _ => true | _ => false) && ((K.lookup (tbA K f)).isNone && hdB (K.lookup (cdA K f)) (cdA K f) (tbA K f))
theorem hd_ok {h : Heap} {c P : Addr} {o : Obj} (e : h.get? c = some o) (q : hdB (some o) c P = true) : PySem.W.CodeHd h c P := by
  unfold hdB at q
  split at q
  · rename_i t d vs sl ho
    cases ho
    simp only [Bool.and_eq_true, beq_iff_eq, bne_iff_ne] at q
    obtain ⟨q1, q2, q3, q4, q5, q6, q7⟩ := q
    have p11 : (vs[11]? : Option Value) = some (.ref P) := by
      split at q2
      · rename_i P' e; rw [e, eq_of_beq q2]
      · cases q2
    refine ⟨⟨.type t, d, .fields vs, sl⟩, vs, ?_⟩
    cases e18 : vs.getD 18 .none with
    | str file tf =>
      cases e7 : vs.getD 7 .none with
      | int flags tg =>
        cases e9 : vs.getD 9 .none with
        | bool inF =>
          cases e10 : vs.getD 10 .none with
          | int text tt => exact ⟨file, tf, flags, tg, inF, text, tt, e, by rw [q1], rfl, p11, by rw [Array.getD_eq_getD_getElem?, p11]; rfl, rfl, rfl, rfl, rfl, q7⟩
          | _ => rw [e10] at q6; cases q6
        | _ => rw [e9] at q5; cases q5
      | _ => rw [e7] at q4; cases q4
    | _ => rw [e18] at q3; cases q3
  · cases q
theorem tab_ok {K : PySem.W.Frag} {h : Heap} {f : Addr} (X : K.In h) (q : tabB K f = true) : cdV K f = .ref (cdA K f) ∧ K.lookup (tbA K f) = none ∧ PySem.W.CodeHd h (cdA K f) (tbA K f) := by
  unfold tabB at q
  simp only [Bool.and_eq_true] at q
  obtain ⟨q1, q2, q3⟩ := q
  refine ⟨?_, Option.isNone_iff_eq_none.mp q2, ?_⟩
  · unfold cdA
    cases e : cdV K f with
    | ref c => rfl
    | _ => rw [e] at q1; cases q1
  · cases e : K.lookup (cdA K f) with
    | none => rw [e] at q3; cases q3
    | some o => rw [e] at q3; exact hd_ok (X _ _ e) q3
def empB (g : Addr → Option Obj) (P : Addr) : Bool := match g P with
  | some ⟨.none, none, .fields ⟨[]⟩, ⟨[]⟩⟩ => true
  | _ => false
theorem emp_ok {g : Addr → Option Obj} {P : Addr} (q : empB g P = true) : g P = some { cls := .none, data := .fields #[] } := by
  unfold empB at q
  split at q
  · rename_i e; rw [e] <;> rfl
  · cases q
def noTab (g : Addr → Option Obj) (a : Addr) : Bool := match g a with
  | some ⟨.none, _, .fields _, _⟩ => false
  | _ => true
def frM (g : Addr → Option Obj) (n : Nat) : PySem.W.Frag := He.frG g ((He.asD g n ++ [cStatics]).filter (noTab g))
def obsM (fl : List Fl) (fn : List DefL) (tbs : List Str) (g : Addr → Option Obj) (K : PySem.W.Frag) : Bool × AlL := (decide (tbs.map fun x => tbA K (ga K x)).Nodup && tbs.all fun x => tabB K (ga K x) && empB g (tbA K (ga K x)), obsL fl fn K)
def valM (fn : List DefL) : Bool × AlL := (true, valL fn)
def obsMG (n : Nat) (fl : List Fl) (fn : List DefL) (tbs : List Str) (g : Addr → Option Obj) : Bool × AlL := obsM fl fn tbs g (frM g n)
def TabsAt (tbs : List Str) (K : PySem.W.Frag) (h : Heap) : Prop := ∀ x ∈ tbs, tabB K (ga K x) = true ∧ h.get? (tbA K (ga K x)) = some { cls := .none, data := .fields #[] }
def hookM (n : Nat) (fl : List Fl) (fn : List DefL) (tbs : List Str) : PySem.W.Hook where
  α := Bool × AlL
  obs := fun s => obsMG n fl fn tbs s.heap.get?
  val := fun _ => valM fn
  says := fun _ h => ∃ K : PySem.W.Frag, K.In h ∧ SaysL fl fn K ∧ (tbs.map fun x => tbA K (ga K x)).Nodup ∧ TabsAt tbs K h
  of := fun _ s e => by
    have e1 : (decide (tbs.map fun x => tbA (frM s.heap.get? n) (ga (frM s.heap.get? n) x)).Nodup && tbs.all fun x => tabB (frM s.heap.get? n) (ga (frM s.heap.get? n) x) && empB s.heap.get? (tbA (frM s.heap.get? n) (ga (frM s.heap.get? n) x))) = true := congrArg (fun z : Bool × AlL => z.1) e
    rw [Bool.and_eq_true] at e1
    refine ⟨frM s.heap.get? n, He.frG_in, congrArg (fun z : Bool × AlL => z.2) e, of_decide_eq_true e1.1, fun x hx => ?_⟩
    have e2 := List.all_eq_true.mp e1.2 x hx
    rw [Bool.and_eq_true] at e2
    exact ⟨e2.1, emp_ok e2.2⟩
  keeps := fun _ _ _ ⟨K, hK, c, nd, t⟩ k => ⟨K, PySem.W.Frag.In.keeps hK k, c, nd, fun x hx => ⟨(t x hx).1, k _ _ (t x hx).2⟩⟩
theorem obsMG_eq {n : Nat} {fl : List Fl} {fn : List DefL} {tbs : List Str} {g : Addr → Option Obj} {s : Shared} (h : ∀ a, g a = s.heap.get? a) : obsMG n fl fn tbs g = (hookM n fl fn tbs).obs s := by
  have e : g = s.heap.get? := funext h
  rw [e] <;> rfl
def TbsOk (tbs : List Str) (K : PySem.W.Frag) (mg : Str → Option Value) (base : Heap) : Prop := ∀ x ∈ tbs, cdV K (ga K x) = .ref (cdA K (ga K x)) ∧ LamX.TabB base mg (cdA K (ga K x)) (tbA K (ga K x))
theorem fnQ_ofC {CX : CXT} {P : Program} {w : World} {K : PySem.W.Frag} {mg : Str → Option Value} {base : Heap} {k : Nat} {f : Addr} {x qual : Str} {params : Arguments} {body : List Stmt} {scope : Scope} {dvs : List V} {kws : List (Str × V)} {fd : FuncData} {N ps : List Str} {sp : Sp}
    (F : FunD K x qual params body scope dvs kws f fd) (S : FnScope N ps scope) (size : ∀ vs H Q E, sp vs H Q E → vs.length = ps.length)
    (hb : ∀ (A : Around) (outer : List Env) (s : Shared) (H : Hp) (vs : List V) (Q : VK) (E : XK), RoomG k (A.deeper (envOfC qual scope s.heap.objs.size f (cdV K f))) → sp vs H Q E →
      ∃ t, PSs (cxOf CX P w K mg base N qual scope f (cdV K f) A outer s H E) body t ∧ t { nx := fun _ H' => Q .non H', rt := Q } (L2.start N vs) H) : FnQ P w K mg base CX (k + 1) f fd ps sp := by
  obtain ⟨oc, od, dV, kV, doc, pm, an, cdv, ct, osl, rfl, lk, hcd, _, _⟩ := F.ex
  have ec : cdV K f = cdv := by unfold cdV; rw [lk]
  subst ec
  refine ⟨size, fun A outer s H args us vs Q E room e0 bd r hsp => ?_⟩
  have many := size _ _ _ _ hsp
  have here : K.In s.heap := e0.mod.kin.keeps fun b o e => (e0.bs b o e).1
  have free : s.heap.NoLimit := e0.mod.nolimit.keeps fun b o e => (e0.bs b o e).1
  have kinds : ∀ y ∈ ps.zip us, scope.names.lookup y.1 = some .local ∨ (scope.names.lookup y.1 = some .cell ∧ ((cellsFrom (s.heap.objs.size + 1) scope.names []).lookup y.1).isSome = true) := by
    rintro ⟨n, v⟩ hy
    exact (S.par n (List.of_mem_zip hy).1).elim .inl fun q => .inr ⟨q, PySem.W.cellsFrom_some _ _ _ (.inl q)⟩
  refine codeAny_call_function room.r.depth (here _ _ lk) rfl S.co S.gen rfl (PySem.W.codeRec_of here hcd) (bd _ _ _ _ (wpAny_newFunctionEnv_cells S.kind kinds fun env he s1 z => ?_))
  cases he
  refine ⟨free.keeps z.toInCall.keep, codeAny_func ?_⟩
  obtain ⟨t, ht, ends⟩ := hb A outer s H vs Q E ⟨room.r.deeper _, room.g⟩ hsp
  have J := inv_start (CX := CX) (P := P) (w := w) (mg := mg) (base := base) (qual := qual) (f := f) (cd := cdV K f) (E := E) S room.r.hd e0 many r z
  refine wpAny_mono (ht.run [] s1 (L2.start N vs) H _ J ends) (fun fl s' q => ?_) fun e s' q => q
  match fl, q with
  | .ret u, ⟨v, σ', H', J', rv, q⟩ => exact (⟨v, H', J'.os, J'.bare, J'.base, J'.hok, rv, q⟩ : CE outer P w H s Q u s')
  | .next, ⟨σ', H', J', q⟩ => exact (⟨V.non, H', J'.os, J'.bare, J'.base, J'.hok, rfl, q⟩ : CE outer P w H s Q Value.none s')
  | .brk, ⟨_, _, _, q⟩ => exact q.elim
  | .cont, ⟨_, _, _, q⟩ => exact q.elim
theorem def_okC {P : Program} {w : World} {K : PySem.W.Frag} {mg : Str → Option Value} {base : Heap} {T : Tx} {x qual : Str} {params : Arguments} {body : List Stmt} {scope : Scope} {dvs : List V} {kws : List (Str × V)} {f : Addr} {fd : FuncData} {N ps : List Str} {k : Nat} {u : FnS} (F : FunD K x qual params body scope dvs kws f fd) (S : FnScope N ps scope)
    (hb : ∀ (A : Around) (outer : List Env) (s : Shared) (H : Hp) (E : XK) (W : WX), RoomG k (A.deeper (envOfC qual scope s.heap.objs.size f (cdV K f))) →
      Takes (cxOf (L2.CX P w) P w K mg base N qual scope f (cdV K f) A outer s H E) W → FSs (cxOf (L2.CX P w) P w K mg base N qual scope f (cdV K f) A outer s H E) T W body u) :
    FnL P w K mg base T (k + 1) f fd ps (runD N.length u) :=
  fnQ_ofC F S (fun vs H Q E h => h.1) fun A outer s H vs Q E hr h => ⟨_, hb A outer s H E _ hr (takes_of rfl rfl rfl rfl), def_read h⟩
def tabH (qs : List (List Nat)) : Hh := qs.map O.tab
theorem law_spM {K : PySem.W.Frag} {T : Tx} {sem : Sem3} {H : Hp} {a : Addr} {ns : List Int} {tbs : List Str} {qs : List (List Nat)} (hq : qs.length = tbs.length) (hnd : (tbs.map fun x => tbA K (ga K x)).Nodup) (hT : ∀ (i : Nat) x q, tbs[i]? = some x → qs[i]? = some q → T.tb q = some (tbA K (ga K x)))
    (hH : ∀ x ∈ tbs, H (tbA K (ga K x)) = some (.tbl #[])) (Hz : Hp) (hz : ∀ b o, Hz b = some o → H b = some o) (hzt : ∀ x ∈ tbs, Hz (tbA K (ga K x)) = none) (hS : SqL K Hz a (ns.map V.int)) (hp : ∃ h', sem [.scr (ns.map D.int)] (tabH qs) = .ok (.bl true) h') : sp3 K T 1 sem [.ref a] H (fun v _ => v = .bl true) fun _ _ _ => False := by
  obtain ⟨h', e⟩ := hp
  have ld : ∀ (G : Gst) (ns : List Int), RDs K T G (ns.map D.int) (ns.map V.int) := fun G ns => by
    induction ns with
    | nil => exact .nil
    | cons n ns ih => exact .cons .int ih
  let ps := tbs.map fun x => tbA K (ga K x)
  let ow : Addr → Option Nat := fun b => ps.findIdx? (· == b)
  have mem : ∀ b n, ow b = some n → n < ps.length ∧ ps[n]? = some b := fun b n z => by
    obtain ⟨h1, h2, _⟩ := List.findIdx?_eq_some_iff_getElem.mp z
    exact ⟨h1, by rw [List.getElem?_eq_getElem h1]; exact congrArg some (eq_of_beq h2)⟩
  have back : ∀ (n : Nat) b, ps[n]? = some b → ow b = some n := fun n b z => by
    obtain ⟨h1, h2⟩ := List.getElem?_eq_some_iff.mp z
    refine List.findIdx?_eq_some_iff_getElem.mpr ⟨h1, by rw [h2]; exact beq_self_eq_true b, fun j hj => ?_⟩
    simp only [Bool.not_eq_true, beq_eq_false_iff_ne]
    intro w
    have := (List.getElem_inj hnd).mp (w.trans h2.symm)
    omega
  have inT : ∀ (n : Nat) b, ps[n]? = some b → ∃ x ∈ tbs, b = tbA K (ga K x) := fun n b z => by
    obtain ⟨x, hx, e⟩ := List.mem_map.mp (List.mem_of_getElem? z)
    exact ⟨x, hx, e.symm⟩
  refine ⟨rfl, ⟨ps, ow, Hz, noH, fun _ => none⟩, tabH qs, [.scr (ns.map D.int)], ⟨by simp [tabH, ps, hq], hz, fun b n z => ?_, fun a o h => absurd h (by simp [noH]), fun a o h => absurd h (by simp), fun n o z => ?_⟩, .cons (.scr hS (ld _ _)) .nil, ?_⟩
  · obtain ⟨h1, h2⟩ := mem b n z
    obtain ⟨x, hx, rfl⟩ := inT n b h2
    exact ⟨by rw [show (tabH qs).length = ps.length by simp [tabH, ps, hq]]; exact h1, hzt x hx, by rw [hH x hx]; simp⟩
  · unfold tabH at z
    rw [List.getElem?_map] at z
    obtain ⟨q, e1, rfl⟩ := Option.map_eq_some_iff.mp z
    have hn : n < tbs.length := by rw [← hq]; exact (List.getElem?_eq_some_iff.mp e1).1
    have e2 : tbs[n]? = some tbs[n] := List.getElem?_eq_getElem hn
    have e3 : ps[n]? = some (tbA K (ga K tbs[n])) := by rw [List.getElem?_map, e2]; rfl
    exact ⟨_, #[], e3, back n _ e3, hH _ (List.mem_of_getElem? e2), hT n _ _ e2 e1, trivial, fun pos cv w => by
      have w' : codeAmong pos [] = some cv := w
      simp [codeAmong] at w'⟩
  · rw [e]
    intro G' H' v x r d
    cases d
    rfl
theorem law_callM {P : Program} {w : World} {K : PySem.W.Frag} {mg mb : Str → Option Value} {CX : CXT} {k : Nat} {fa a : Addr} {fd : FuncData} {x : Str} {sp : Sp} {s : Shared} {vs : List Value} {ns : List Int} {tbs : List Str}
    (KX : K.In s.heap) (tt : TabsAt tbs K s.heap) (hns : s.heap.Ns mainGlobals mg) (hb : s.heap.Ns builtinsNs mb) (hbb : ∀ x : Str, x ≠ "__name__" → mb x = bootBuiltins x) (hlim : s.heap.NoLimit) (hg : s.gens = #[])
    (hbm : ∃ (bm : Addr) (ob : Obj), mg "__builtins__" = some (.ref bm) ∧ bm ≠ builtinsNs ∧ s.heap.get? bm = some ob ∧ ob.cls = .type "module" ∧ ob.dict = some builtinsNs ∧ ob.data = .plain)
    (ha : s.heap.get? a = some { cls := .type "list", data := .seq vs.toArray }) (hi : IntsAre vs ns) (hl : ns.length ≤ sizeLine) (hr : Room k callerA)
    (F : ∀ base : Heap, TbsOk tbs K mg base → FnQ P w K mg base CX k fa fd [x] sp) (bd : ∀ (s : Shared) (u : Value), BindsTo s fd ⟨[u], []⟩ [(x, u)])
    (hsp : ∀ H Hz : Hp, (∀ x ∈ tbs, H (tbA K (ga K x)) = some (.tbl #[])) → (∀ b o, Hz b = some o → H b = some o) → (∀ x ∈ tbs, Hz (tbA K (ga K x)) = none) → SqL K Hz a (ns.map V.int) → sp [.ref a] H (fun v _ => v = .bl true) fun _ _ _ => False)
    (noex : ∀ H e s', CX [] H s (fun _ _ _ => False) e s' → False) :
    codeAny (model P w) callerA (.call (.ref fa) ⟨[.ref a], []⟩) (fun r s' => r = .ok (.ret (.bool true)) ∧ OldK s.heap s'.heap ∧ s'.os = s.os ∧ AllBare s'.gens) s := by
  have valsI := vals_ints hi
  have many := hi.length
  let PT : Addr → Prop := fun b => ∃ x ∈ tbs, b = tbA K (ga K x)
  have isT : ∀ b, PT b → s.heap.get? b = some { cls := .none, data := .fields #[] } := fun b ⟨x, hx, e⟩ => by rw [e]; exact (tt x hx).2
  have nK : ∀ b, PT b → K.lookup b = none := fun b ⟨x, hx, e⟩ => by rw [e]; exact (tab_ok KX (tt x hx).1).2.1
  have aT : ¬ PT a := fun z => by
    have q := isT a z
    rw [ha] at q
    exact absurd (congrArg Obj.data (Option.some.inj q) : Data.seq vs.toArray _ = Data.fields #[]) (by simp)
  have main : ∀ H Hz : Hp, (∀ b, PT b → H b = some (.tbl #[])) → (∀ b, ¬ PT b → H b = Hz b) → (∀ b, PT b → Hz b = none) → (∀ b, Hz b = none ∨ (b = a ∧ K.lookup a = none ∧ ∃ o xs, Hz b = some (.frz o (.lst xs)))) → SqL K Hz a (ns.map V.int) → HOk P w H s.heap →
      codeAny (model P w) callerA (.call (.ref fa) ⟨[.ref a], []⟩) (fun r s' => r = .ok (.ret (.bool true)) ∧ OldK s.heap s'.heap ∧ s'.os = s.os ∧ AllBare s'.gens) s := by
    intro H Hz hH hHz hzT told hS hok
    have notold : ∀ {b : Addr} {o : Obj}, s.heap.get? b = some o → (b = a → K.lookup a = none → False) → ¬ PT b → H b = none := fun {b o} e n nt => by
      rw [hHz b nt]
      exact (told b).elim id fun q => (n q.1 q.2.1).elim
    have notT : ∀ {b : Addr} {o : Obj}, s.heap.get? b = some o → o.data ≠ .fields #[] → ¬ PT b := fun {b o} e n z => by
      rw [isT b z] at e; cases e; exact n rfl
    have notA : ∀ {b : Addr} {o : Obj}, s.heap.get? b = some o → (∀ vs n, o.data ≠ .seq vs n) → b = a → K.lookup a = none → False := fun {b o} e n q _ => by
      subst q
      rw [ha] at e; cases e
      exact n _ _ rfl
    have at_ : ∀ {b : Addr} {o : Obj}, s.heap.get? b = some o → (∀ vs n, o.data ≠ .seq vs n) → o.data ≠ .fields #[] → (hidT s.heap H).get? b = some o := fun {b o} e n1 n2 => hidT_get e (notold e (notA e n1) (notT e n2))
    have dicts : ∀ {b : Addr} {m : Str → Option Value}, s.heap.Ns b m → (hidT s.heap H).Ns b m := fun {b m} ⟨o, es, ep, e, d, r⟩ => ⟨o, es, ep, at_ e (fun vs n => by rw [d]; simp) (by rw [d]; simp), d, r⟩
    have kin : K.In (hidT s.heap H) := fun b o e => hidT_get (KX b o e) (notold (KX b o e) (fun q n => by subst q; rw [n] at e; cases e) fun z => by rw [nK b z] at e; cases e)
    have md : Mod K mg (hidT s.heap H) := ⟨kin, dicts hns, ⟨mb, dicts hb, hbb⟩, let ⟨mc, h1, h2⟩ := hlim; ⟨mc, dicts h1, h2⟩⟩
    have e0 : Env0 P w K mg (hidT s.heap H) callerA [] s H := ⟨rfl, md, fun b o e => of_hidT e, Nat.le_of_eq (hidT_size _ _), trivial, fun b hb => absurd (show b ∈ ([] : List Addr) from hb) (by simp), hok, .of_eq hg⟩
    have tb : TbsOk tbs K mg (hidT s.heap H) := fun x hx => by
      have hT := (tt x hx).2
      refine ⟨(tab_ok kin (tt x hx).1).1, (tab_ok kin (tt x hx).1).2.2, ?_, fun z => ?_⟩
      · obtain ⟨bm, ob, b1, b2, b3, b4, b5, b6⟩ := hbm
        have nG : bm ≠ mainGlobals := fun q => by
          obtain ⟨o, es, ep, e, hd, _⟩ := hns
          rw [q, e] at b3
          cases b3
          rw [hd] at b6
          cases b6
        have nP : bm ≠ tbA K (ga K x) := fun q => by
          rw [q, hT] at b3
          cases b3
          cases b6
        exact ⟨bm, ob, b1, b2, nG, nP, at_ b3 (fun vs n => by rw [b6]; simp) (by rw [b6]; simp), b4, b5, b6⟩
      · obtain ⟨o, es, ep, e, hd, _⟩ := hns
        rw [z, hT] at e
        cases e
        cases hd
    refine codeAny_mono ((F (hidT s.heap H) tb).go callerA [] s H ⟨[.ref a], []⟩ [.ref a] [.ref a] _ _ ⟨hr, rfl⟩ e0 (bd s (.ref a)) (.cons rfl .nil) (hsp H Hz (fun x hx => hH _ ⟨x, hx, rfl⟩) (fun b o z => by
      by_cases q : PT b
      · rw [hzT b q] at z; cases z
      · rw [hHz b q]; exact z) (fun x hx => hzT _ ⟨x, hx, rfl⟩) hS)) fun r s' h => ?_
    match r, h with
    | .error e, h => exact (noex H e s' h).elim
    | .ok .next, h => exact h.elim
    | .ok .brk, h => exact h.elim
    | .ok .cont, h => exact h.elim
    | .ok (.ret u), ⟨v, H', os, bare, un, hok', r', q⟩ =>
      have eq : v = .bl true := q
      subst eq
      cases (show u = Value.bool true from r')
      have key : ∀ b o, ¬ PT b → s.heap.get? b = some o → s'.heap.get? b = some o := fun b o nt e => by
        rcases told b with q | ⟨_, _, ob, xs, q⟩
        · exact un.keep b o e (by rw [hHz b nt]; exact q) (by intro z; exact absurd (show b ∈ ([] : List Addr) from z) (by simp)) (by simp)
        · have q' : H b = some (.frz ob (.lst xs)) := by rw [hHz b nt]; exact q
          obtain ⟨e1, _⟩ := hok b _ q'
          obtain ⟨e2, _⟩ := hok' b _ (un.frzs b ob _ q')
          rw [e] at e1; cases e1
          exact e2
      have grown : ∀ b, PT b → ∃ more : Array Value, s'.heap.get? b = some { cls := .none, data := .fields more } := fun b z => by
        obtain ⟨more, y⟩ := un.tbls b #[] (hH b z)
        exact ⟨_, hok' b _ y⟩
      refine ⟨rfl, ⟨fun b o e => ?_, fun b o e => ?_⟩, os, bare⟩
      · by_cases z : PT b
        · obtain ⟨more, hm⟩ := grown b z
          have e' := isT b z
          rw [e'] at e
          cases e
          obtain ⟨x, hx, eb⟩ := z
          have hT := (tt x hx).2
          rw [eb] at hm ⊢
          exact .inr (.inl ⟨((tab_ok KX (tt x hx).1).2.2.tab hT).isCodeTable, rfl, #[], more, rfl, by rw [Array.empty_append]; exact hm⟩)
        · exact .inl (key b o z e)
      · by_cases z : PT b
        · obtain ⟨more, hm⟩ := grown b z
          exact ⟨_, hm⟩
        · exact ⟨o, key b o z e⟩
  have dec : ∀ b, Decidable (PT b) := fun b => Classical.propDecidable _
  cases hk : K.lookup a with
  | some o =>
    have e := KX a o hk
    rw [ha] at e
    cases e
    refine main (fun b => if PT b then some (.tbl #[]) else none) (fun _ => none) (fun b z => if_pos z) (fun b z => if_neg z) (fun _ _ => rfl) (fun _ => .inl rfl) (.inr ⟨_, vs.toArray, _, hk, rfl, rfl, rfl, by rw [List.size_toArray, many]; exact hl, by simpa using valsI⟩) fun b u z => ?_
    by_cases q : PT b
    · have z' := (if_pos q).symm.trans z
      cases z'
      exact isT b q
    · have z' := (if_neg q).symm.trans z
      cases z'
  | none =>
    refine main (fun b => if PT b then some (.tbl #[]) else if b = a then some (.frz { cls := .type "list", data := .seq vs.toArray } (.lst (ns.map V.int))) else none) (fun b => if b = a then some (.frz { cls := .type "list", data := .seq vs.toArray } (.lst (ns.map V.int))) else none) (fun b z => if_pos z) (fun b z => if_neg z)
      (fun b z => if_neg fun y => aT (by rw [← y]; exact z)) (fun b => ?_) (.inl (.inr ⟨{ cls := .type "list", data := .seq vs.toArray }, if_pos rfl⟩)) fun b u z => ?_
    · by_cases q : b = a
      · exact .inr ⟨q, hk, _, _, if_pos q⟩
      · exact .inl (if_neg q)
    · by_cases q : PT b
      · have z' := (if_pos q).symm.trans z
        cases z'
        exact isT b q
      · have z1 := (if_neg q).symm.trans z
        by_cases q2 : b = a
        · have z' := (if_pos q2).symm.trans z1
          cases z'
          subst q2
          exact ⟨ha, by rw [List.length_map]; exact hl, vs, _, valsI, ha⟩
        · have z' := (if_neg q2).symm.trans z1
          cases z'
theorem law_endM {l : PySem.W.OpenLaw} {n k : Nat} {q : Program} {loose : List Str} {XP : (Str → Option Value) → Heap → Prop} {d : DefRec} {x : Str} {fl : List Fl} {fn : List DefL} {m : Nat} {sem : Sem3} {tbs : List Str} {qs : List (List Nat)} {TX : World → PySem.W.Frag → Tx} (hn : l.most = some n) (hn2 : n ≤ sizeLine) (hdf : d.params.defaults = []) (hr : Room k callerA)
    (hnm : d.name = x) (i : Nat) (hi : fl[i]? = some (.k (.glo x))) (hq : qs.length = tbs.length)
    (hT : ∀ (w : World) (K : PySem.W.Frag) (i : Nat) x q, tbs[i]? = some x → qs[i]? = some q → (TX w K).tb q = some (tbA K (ga K x)))
    (F : ∀ (w : World) (mg : Str → Option Value) (K : PySem.W.Frag), Bs fl fn K mg → ∃ fd, (∀ base, TbsOk tbs K mg base → FnL l.prog w K mg base (TX w K) k (ga K x) fd ["_law_script"] sem) ∧ ∀ (s : Shared) (u : Value), BindsTo s fd ⟨[u], []⟩ [("_law_script", u)])
    (hp : ∀ ns : List Int, ns.length ≤ n → ∃ h', sem [.scr (ns.map D.int)] (tabH qs) = .ok (.bl true) h') :
    PySem.W.WalkO q loose XP (hookM m fl fn tbs).says l.row.toRowW d [] (fun f vs => PySem.call f vs) := by
  refine Att.attach_call hn hdf fun w s0 s1 mg mb fa o pm cd doc a vs ns G Y ho hd hcd hmg hobj hints hlen hg => ?_
  obtain ⟨K, KX, c, nd, tt⟩ := Y
  have B : Bs fl fn K mg := ⟨c, _, KX, G.T.g⟩
  obtain ⟨fd, hF, hb⟩ := F w mg K B
  have e := (hnm ▸ hmg : mg x = some (.ref fa)).symm.trans (B.glo i hi)
  cases e
  exact law_callM KX tt G.T.g G.T.b G.T.builtins G.T.nolimit hg G.T.bmain hobj hints (Nat.le_trans hlen hn2) hr hF hb (fun H Hz h1 h2 h3 hS => law_spM hq nd (hT w K) h1 Hz h2 h3 hS (hp ns hlen)) fun H e s' z => by
    obtain ⟨_, _, _, _, _, _, _, _, _, _, _, _, f⟩ := z
    exact f
end L3
set_option autoImplicit false
set_option maxHeartbeats 4000000
namespace L3
open PySem PySem.Spec L2 PyProof.Rows
open He (ga)
end L3
set_option autoImplicit false
set_option maxHeartbeats 4000000
namespace L3
open PySem PySem.Spec L2 PyProof.Rows
section
variable {X : Cx} {T : Tx} {W : WX} {pos : Pos}
end
end L3
set_option autoImplicit false
set_option maxHeartbeats 4000000
namespace L3
open PySem PySem.Spec L2 PyProof.Rows
def NPr (p : NRow) (q : NestedKey × Addr × Value) : Prop := p.1 = q.1 ∧ p.2.1 = q.2.1 ∧ RelV p.2.2 q.2.2
def ndEnt (w : World) (y : NestedKey × Addr × Value) : DictEntry := ⟨y.1.hash w, .ref y.2.1, y.2.2⟩
def NdF (w : World) (a : Addr) (xs : List NRow) (h : Heap) : Prop := xs.length ≤ sizeLine ∧ (a == sysModules) = false ∧ ∃ ys : List (NestedKey × Addr × Value), Paired NPr xs ys ∧
  ∃ o es ep, h.get? a = some o ∧ o.ExactDict ∧ o.data = .dict es ep ∧ es.toList = ys.map (ndEnt w) ∧ (ys.map (·.1)).Nodup
def NdO (w : World) (a : Addr) (xs : List NRow) : HO := .ext (NdF w a xs)
def NK (K : PySem.W.Frag) (H : Hp) (k : NestedKey) (a : Addr) : Prop := Dp K H (.ref a) k.data ∧ k.depth ≤ 8
structure NAt (K : PySem.W.Frag) (w : World) (H : Hp) (a : Addr) (xs : List NRow) : Prop where
  e : H a = some (NdO w a xs) ∨ ∃ od, H a = some (.frz od (NdO w a xs))
  nk : ∀ x ∈ xs, NK K H x.1 x.2.1
section
variable {X : Cx} {pins : List (Addr × Obj)} {σ : L2.St} {H : Hp} {s : Shared}
mutual
theorem Dp.nested (I : Inv X pins σ H s) : ∀ (k : NestedKey) (v : V) (u : Value), Dp X.K H v k.data → RelV v u → NestedIs s.heap k u
  | .none, _, _, h, r => by
    simp only [NestedKey.data] at h
    cases h; cases r; exact .none
  | .num i, _, _, h, r => by
    simp only [NestedKey.data] at h
    cases h
    obtain ⟨t, rfl⟩ := r
    exact .int i t
  | .text x, _, _, h, r => by
    simp only [NestedKey.data] at h
    cases h
    obtain ⟨t, rfl⟩ := r
    exact .text x t
  | .tup ks, _, _, h, r => by
    simp only [NestedKey.data] at h
    cases h with
    | tup hs ha =>
      cases r
      obtain ⟨its, rv, ⟨o, ho, hc, n, hd⟩, _⟩ := I.tuple hs
      exact .tup ho hc hd (by simpa using Dp.nestedAll I ks _ its ha rv)
theorem Dp.nestedAll (I : Inv X pins σ H s) : ∀ (ks : List NestedKey) (vs : List V) (us : List Value), DpAll X.K H vs (NestedKey.datas ks) → Vals vs us → NestedAll s.heap ks us
  | [], _, _, h, r => by
    simp only [NestedKey.datas] at h
    cases h; cases r; exact .nil
  | k :: ks, _, _, h, r => by
    simp only [NestedKey.datas] at h
    cases h with
    | cons h1 h2 =>
      cases r with
      | cons r1 r2 => exact .cons (Dp.nested I k _ _ h1 r1) (Dp.nestedAll I ks _ _ h2 r2)
end
theorem NK.is {k : NestedKey} {a : Addr} (I : Inv X pins σ H s) (h : NK X.K H k a) : (nestedKind X.prog X.w).is s.heap k a := ⟨Dp.nested I k _ _ h.1 rfl, h.2⟩
variable {A : Around} {E : Value → Shared → Prop} {a b : Addr} {xs : List NRow} {k : NestedKey} {v : V}
end
mutual
theorem kN_dp {K : PySem.W.Frag} {T : Tx} {G : Gst} {H : Hp} (sb : ∀ a o, G.fz a = some o → H a = some o) : ∀ (d : D) (k : NestedKey) (v : V), kN d = some k → RD K T G d v → Dp K H v k.data
  | .non, k, _, e, r => by simp only [kN] at e; cases e; cases r; simp only [NestedKey.data]; exact .non
  | .int _, k, _, e, r => by simp only [kN] at e; cases e; cases r; simp only [NestedKey.data]; exact .int _
  | .str _, k, _, e, r => by simp only [kN] at e; cases e; cases r; simp only [NestedKey.data]; exact .str _
  | .tup ds, k, _, e, r => by
    simp only [kN] at e
    cases q : kNs ds with
    | none => rw [q] at e; cases e
    | some ks =>
      rw [q] at e
      cases e
      cases r with
      | tup h1 h2 => simp only [NestedKey.data]; exact .tup (SqT.sub sb h1) (kNs_dp sb ds ks _ q h2)
  | .bl _, _, _, e, _ => by simp only [kN] at e; cases e
  | .lst _, _, _, e, _ => by simp only [kN] at e; cases e
  | .dic _ _, _, _, e, _ => by simp only [kN] at e; cases e
  | .obj _ _, _, _, e, _ => by simp only [kN] at e; cases e
  | .ref _, _, _, e, _ => by simp only [kN] at e; cases e
  | .scr _, _, _, e, _ => by simp only [kN] at e; cases e
theorem kNs_dp {K : PySem.W.Frag} {T : Tx} {G : Gst} {H : Hp} (sb : ∀ a o, G.fz a = some o → H a = some o) : ∀ (ds : List D) (ks : List NestedKey) (vs : List V), kNs ds = some ks → RDs K T G ds vs → DpAll K H vs (NestedKey.datas ks)
  | [], ks, _, e, r => by simp only [kNs] at e; cases e; cases r; simp only [NestedKey.datas]; exact .nil
  | d :: ds, ks, _, e, r => by
    simp only [kNs] at e
    cases q1 : kN d with
    | none => rw [q1] at e; cases e
    | some k1 =>
      cases q2 : kNs ds with
      | none => rw [q1, q2] at e; cases e
      | some k2 =>
        rw [q1, q2] at e
        cases e
        cases r with
        | cons r1 r2 => simp only [NestedKey.datas]; exact .cons (kN_dp sb d k1 _ q1 r1) (kNs_dp sb ds k2 _ q2 r2)
end
section
variable {X : Cx} {T : Tx} {W : WX} {pos p2 : Pos}
end
end L3
set_option autoImplicit false
set_option maxHeartbeats 4000000
namespace L3
open PySem PySem.Spec L2 PyProof.Rows
open AutoSeq1 (wpAny_loadPart')
open PySem.W (KdlSrc kdl_extend)
theorem RoomG.u65 {k : Nat} {A : Around} (x : RoomG k A) : A.units + 65 < cLine := by have := x.r.un; omega
section
variable {X : Cx} {T : Tx} {W : WX} {pos p2 : Pos}
end
end L3
set_option autoImplicit false
set_option maxHeartbeats 4000000
namespace L3
open PySem PySem.Spec L2 PyProof.Rows
section
variable {X : Cx}
end
section
variable {X : Cx} {T : Tx} {W : WX} {pos : Pos}
end
end L3
set_option autoImplicit false
set_option maxHeartbeats 4000000
namespace L3
open PySem PySem.Spec PySem.Calls PyProof PyProof.Rows PyProof.V L2
section
variable {prog : Program} {w : World} {A : Around} {E : Value → Shared → Prop} {s : Shared} {z TI TO i1 i2 : Addr} {fp1 fp2 : List Addr} {n1 n2 i : Nat} {P1 P2 : Nat → Value → Prop} {St1 St2 : Nat → Heap → Prop} {a1 a2 : Value}
end
set_option maxHeartbeats 1000000 in
section
variable {prog : Program} {w : World} {A : Around} {E : Value → Shared → Prop} {s : Shared}
end
section
variable {X : Cx} {T : Tx} {W : WX} {pos : Pos}
end
section
variable {X : Cx} {T : Tx} {W : WX} {pos : Pos}
end
end L3
set_option autoImplicit false
set_option maxHeartbeats 4000000
namespace L3
open PySem PySem.Spec L2
section
variable {X : Cx} {T : Tx} {W : WX} {pos : Pos}
end
end L3
set_option autoImplicit false
set_option maxHeartbeats 4000000
namespace L3
open PySem PySem.Spec L2
open PySem.W (dataLt AlikeAll readsAll_len iter_listW iter_tupleW cmpIn_gt moved_old alike)
section
variable {prog : Program} {w : World} {A : Around} {E : Value → Shared → Prop} {s : Shared}
end
section
variable {X : Cx} {T : Tx}
end
end L3
set_option autoImplicit false
set_option maxHeartbeats 4000000
namespace L3
open PySem PySem.Spec L2
section
variable {X : Cx} {T : Tx}
end
end L3
set_option autoImplicit false
set_option maxHeartbeats 4000000
namespace L3
open PySem PySem.Spec L2 PyProof.Rows
section
variable {X : Cx} {pins : List (Addr × Obj)} {σ : L2.St} {H : Hp} {s : Shared}
end
section
variable {X : Cx} {body rest : List Stmt} {pos : Pos} {tb : WX → TS} {Wo : WX} {t0 : TS}
end
section
variable {K : PySem.W.Frag} {T : Tx} {G : Gst} {h : Hh} {H : Hp}
end
section
variable {X : Cx} {T : Tx} {W : WX} {pos : Pos}
end
section
variable {X : Cx} {T : Tx} {W : WX} {pos : Pos}
def isoE (c c2 : Nat) (x : D) (h : Hh) : R D := match clsOf h x with
  | some c' => if c' = c then .ok (.bl true) h else if c' = c2 then .ok (.bl false) h else .stk
  | none => match kdOf h x with
    | some _ => .ok (.bl false) h
    | none => .stk
def eIsoE (c c2 : Nat) (fa : FnE) : FnE := fun δ h => (fa δ h).bind (isoE c c2)
end
end L3
set_option autoImplicit false
set_option maxHeartbeats 4000000
namespace L3
open PySem PySem.Spec L2 PyProof.Rows
section
variable {X : Cx} {pins : List (Addr × Obj)} {σ : L2.St} {H : Hp} {s : Shared} {d : Addr} {o : Obj}
end
section
variable {X : Cx} {T : Tx} {W : WX} {pos : Pos}
end
section
variable {X : Cx} {pins : List (Addr × Obj)} {σ : L2.St} {H : Hp} {s : Shared}
end
structure DnAt (K : PySem.W.Frag) (T : Tx) (w : World) (G1 : Gst) (p : Addr) (G : Gst) (ks vs : List D) (h : Hh) (H : Hp) : Prop where
  ι : ∃ t, G.ι = G1.ι ++ t
  fz : ∀ a o, G1.fz a = some o → G.fz a = some o
  lk : G.lk = G1.lk
  pr : ∃ xs : List NRow, G.pr = upd G1.pr p (NdO w p xs) ∧ (xs.map (·.1)).Nodup ∧ ks.map keyN = xs.map (fun x => some x.1) ∧ RDs K T G ks (xs.map fun x => V.ref x.2.1) ∧ RDs K T G vs (xs.map (·.2.2))
  rel : Rel K T G h H
theorem DnAt.step {K : PySem.W.Frag} {T : Tx} {w : World} {G1 G G' : Gst} {p : Addr} {ks vs : List D} {h h' : Hh} {H H' : Hp} (l : DnAt K T w G1 p G ks vs h H) (x : Ext G G') (r : Rel K T G' h' H') : DnAt K T w G1 p G' ks vs h' H' := by
  obtain ⟨t, e⟩ := l.ι
  obtain ⟨u, e'⟩ := x.ι
  obtain ⟨xs, e2, n, k, d, d'⟩ := l.pr
  exact ⟨⟨t ++ u, by rw [e', e, List.append_assoc]⟩, fun a o q => x.fz a o (l.fz a o q), x.lk.trans l.lk, ⟨xs, x.pr.trans e2, n, k, d.mono x, d'.mono x⟩, r⟩
section
variable {X : Cx} {T : Tx} {W : WX} {pos : Pos}
end
end L3
set_option autoImplicit false
set_option maxHeartbeats 4000000
namespace L3
open PySem PySem.Spec L2 PyProof.Rows PySem.W
section
variable {X : Cx} {T : Tx} {W : WX}
end
end L3
set_option autoImplicit false
set_option maxHeartbeats 4000000
namespace L3
open PySem PySem.Spec L2 PyProof.Rows PySem.W SrtO
section
variable {P : Program} {w : World} {A : Around} {E : Value → Shared → Prop} {s : Shared}
end
section
variable {X : Cx} {T : Tx} {W : WX} {pos : Pos}
end
end L3
set_option autoImplicit false
set_option maxHeartbeats 4000000
namespace L3
open PySem PySem.Spec L2 PyProof.Rows
abbrev oneP (y : Str) (an : Option Expr) (ap : Pos) (i : Int) (dj : Nat) (dp : Pos) : Arguments := ⟨[], [⟨y, an, ap⟩], none, [], [], none, [.Constant (.int i) dj dp]⟩
abbrev dfFn (qu : Str) (pr : Arguments) (bd : Expr) (sp : Scope) (cl : List (Str × Addr)) (pm cv tv : Value) (d : Addr) : FuncData :=
  { PySem.W.kla_fn "<lambda>" qu pr bd sp cl pm cv tv with defaults := .ref d }
abbrev dfOb (qu : Str) (pr : Arguments) (bd : Expr) (sp : Scope) (cl : List (Str × Addr)) (pm cv tv : Value) (d : Addr) : Obj := { cls := .type "function", data := .func (dfFn qu pr bd sp cl pm cv tv d) }
abbrev dfTu (v : Value) : Obj := { cls := .type "tuple", data := .seq #[v] }
theorem dfBind (qu : Str) (y : Str) (an : Option Expr) (ap : Pos) (i : Int) (dj : Nat) (dp : Pos) (bd : Expr) (sp : Scope) (cl : List (Str × Addr)) (pm cv tv : Value) (d : Addr) (v : Value) :
    ∃ k, bindArgs (dfFn qu (oneP y an ap i dj dp) bd sp cl pm cv tv d) ⟨[], []⟩ = seqItems? (.ref d) >>= k ∧ k (some #[v]) = pure [(y, v)] := ⟨_, rfl, by simp [List.lookup]⟩
section
variable {M : Model} {A : Around} {E : Value → Shared → Prop} {s : Shared}
theorem if_jp {c : Prop} [Decidable c] {jp : Value → Sem Value} {m1 m2 : Sem Value} {R Q : Value → Shared → Prop} (h1 : wpAny M A m1 R E s) (h2 : wpAny M A m2 R E s) (k : ∀ v s', R v s' → wpAny M A (jp v) Q E s') :
    wpAny M A (if c then m1 >>= jp else m2 >>= jp) Q E s := by
  split
  · exact wpAny_bind (wpAny_mono h1 k fun _ _ z => z)
  · exact wpAny_bind (wpAny_mono h2 k fun _ _ z => z)
theorem tail_d {qu : Str} {pr : Arguments} {bd : Expr} {sp : Scope} {env : Env} {P : Addr} {mg : Str → Option Value} {cl : List (Str × Addr)} {d : Addr} {pos : Pos} {fl : Nat} {Gd : Heap → Value → Prop} {Q : Value → Shared → Prop}
    (e1 : closureFor sp env = pure cl) (e2 : env.globals = mainGlobals) (g : s.heap.Ns mainGlobals mg) (gP : mainGlobals ≠ P) (b : s.heap.BuiltinsAt mg P)
    (fc : ∀ h1 : Heap, (∀ b o, s.heap.get? b = some o → h1.get? b = some o) → s.heap.objs.size ≤ h1.objs.size →
      wpAny M A (functionCode env pos fl "<lambda>" qu pr sp (.expr bd)) (fun cv s2 => ∃ h2 tk, s2 = { s with heap := h2, toks := tk } ∧ Heap.ExtBut P h1 h2 ∧ h1.objs.size ≤ h2.objs.size ∧ Gd h2 cv) E { s with heap := h1 })
    (k : ∀ (cv tv : Value) (h2 : Heap) (tk : Nat), Heap.ExtBut P s.heap h2 → s.heap.objs.size ≤ h2.objs.size → Gd h2 cv → Q (.ref h2.objs.size) { s with heap := h2.push (dfOb qu pr bd sp cl ((mg "__name__").getD .none) cv tv d), toks := tk }) :
    wpAny M A (makeTail "<lambda>" qu pr (.expr bd) sp env (.ref d) .none none pos fl) Q E s := by
  unfold makeTail
  rw [e1, e2]
  refine wpAny_bind (wpAny_pure (if_jp (R := fun _ s1 => ∃ h1, s1 = { s with heap := h1 } ∧ (∀ b o, s.heap.get? b = some o → h1.get? b = some o) ∧ s.heap.objs.size ≤ h1.objs.size) (wpAny_pure ⟨s.heap, rfl, fun _ _ z => z, Nat.le_refl _⟩)
    (wpAny_newTextTuple ⟨_, rfl, fun _ _ z => Heap.get?_push_of_some _ z, by rw [Heap.size_push]; exact Nat.le_succ _⟩) fun tv s1 z => ?_))
  · obtain ⟨h1, rfl, k1, z1⟩ := z
    refine wpAny_bind (wpAny_mono (fc h1 k1 z1) (fun cv s2 z => ?_) fun _ _ z => z)
    obtain ⟨h2, tk, rfl, x, z2, gd⟩ := z
    have ex : Heap.ExtBut P s.heap h2 := fun b o n z => x b o n (k1 b o z)
    obtain ⟨bm, ob, b1, b2, _, b4, b5, b6, b7, b8⟩ := b
    refine wpAny_bind (wpAny_builtinsFor (g.extBut ex gP) b1 b2 (ex _ _ b4 b5) b6 b7 b8 (wpAny_bind (wpAny_nsGet (g.extBut ex gP) (wpAny_bind (wpAny_pure (wpAny_newObj_type (k cv tv h2 tk ex (Nat.le_trans z1 z2) gd) (by size_fits)))))))
theorem eval_d {y : Str} {an : Option Expr} {ap dp : Pos} {i : Int} {dj : Nat} {bd : Expr} {sp : Scope} {env : Env} {pos : Pos} {Q : Value → Shared → Prop}
    (h : ∀ (v : Value) (tk : Nat), wpAny M A (makeTail "<lambda>" (env.qual ++ "<lambda>") (oneP y an ap i dj dp) (.expr bd) sp env (.ref s.heap.objs.size) .none none pos pos.line) Q E { s with heap := s.heap.push (dfTu v), toks := tk }) :
    wpAny M A (eval (.Lambda (oneP y an ap i dj dp) bd sp pos) env) Q E s := by
  rw [arm_eval_Lambda]
  show wpAny M A (do let dv ← evalAll [eval (.Constant (.int i) dj dp) env]; let kdv ← holding dv (evalAllOpt []); makeFunction "<lambda>" (env.qual ++ "<lambda>") (oneP y an ap i dj dp) (.expr bd) sp env dv kdv [] pos pos.line) Q E s
  refine wpAny_bind (wpAny_bind (wpAny_Constant_int (wpAny_bind (wpAny_holding (wpAny_pure (wpAny_pure (wpAny_bind (wpAny_holding (wpAny_pure ?_)))))))))
  rw [makeFunction_eq]
  simp only [List.zip_nil_right, List.filterMap_nil, List.isEmpty_nil, List.isEmpty_cons, if_true, pure_bind, Bool.false_eq_true, if_false]
  exact wpAny_bind (wpAny_newTextTuple (h _ _))
end
section
variable {X : Cx} {T : Tx} {pins : List (Addr × Obj)} {σ : L2.St} {H : Hp} {s : Shared}
structure LamD (X : Cx) (H : Hp) (s : Shared) (pr : Arguments) (bd : Expr) (sp : Scope) (f c d : Addr) (v pm tv : Value) : Prop where
  fo : s.heap.get? f = some (dfOb (X.env.qual ++ "<lambda>") pr bd sp (cloFrom X.env.cells sp.names []) pm (.ref c) tv d)
  fn : H f = none
  fr : f ∉ frs X.stack
  od : s.heap.get? d = some (dfTu v)
  dn : H d = none
  dr : d ∉ frs X.stack
theorem lam_newD {G : Gst} {h : Hh} {n : Nat} {q : List Nat} {c P : Addr} {y : Str} {an : Option Expr} {ap dp : Pos} {i : Int} {dj : Nat} {body : Expr} {scope : Scope} {pos : Pos} {E : Value → Shared → Prop} {Q : Value → Shared → Prop} (I : Inv X pins σ H s) (TB : LamX.TabB X.base X.mg c P) (hcode : X.env.code = .ref c)
    (ht : T.tb q = some P) (hq : X.env.qual ++ "<lambda>" = ⟨q.toArray⟩) (r : Rel X.K T G h H) (hn : h[n]? = some (.tab q)) (hfree : ∀ y ∈ scope.names, y.2 = .free → ∃ c, X.env.cells.lookup y.1 = some c)
    (k : ∀ (f c' d : Addr) (v pm ctv : Value) (G1 : Gst) (H1 : Hp) (s' : Shared), Inv X pins σ H1 s' → Ext G G1 → Rel X.K T G1 h H1 → G1.fz c' = some (LamX.CodeO c' ⟨q.toArray⟩) →
      LamD X H1 s' (oneP y an ap i dj dp) body scope f c' d v pm ctv → Q (.ref f) s') :
    wpAny (model X.prog X.w) X.A (eval (.Lambda (oneP y an ap i dj dp) body scope pos) X.env) Q E s := by
  obtain ⟨a, ps, e1, e2, hP, e4, tr, among⟩ := r.obj n _ hn
  rw [ht] at e4
  cases e4
  refine eval_d fun v tk0 => ?_
  have I0 : Inv X pins σ H { s with heap := s.heap.push (dfTu v), toks := tk0 } := I.kept fun b o e => Heap.get?_push_of_some _ e
  have od : (s.heap.push (dfTu v)).get? s.heap.objs.size = some (dfTu v) := Heap.get?_push_size _ rfl
  have dn : H s.heap.objs.size = none := I.hok.fresh (Nat.le_refl _)
  have fresh : ∀ f, s.heap.objs.size ≤ f → f ∉ frs X.stack := fun f hf z => (List.mem_cons.mp (I.stkSub _ z)).elim
    (fun e => absurd I.lt (by rw [← e]; exact Nat.not_lt.mpr hf)) fun e => I.nofs hf e
  have dr := fresh _ (Nat.le_refl _)
  have up : s.heap.objs.size ≤ (s.heap.push (dfTu v)).objs.size := by rw [Heap.size_push]; exact Nat.le_succ _
  have atP : (s.heap.push (dfTu v)).get? P = some { cls := .none, data := .fields ps } := I0.hok P _ hP
  have code : ∀ h1 : Heap, (∀ b o, (s.heap.push (dfTu v)).get? b = some o → h1.get? b = some o) → PySem.W.CodeHd h1 c P := fun h1 k1 => TB.code.keeps fun b o e => k1 b o (I0.bk b o e)
  cases hc : codeAmong pos ps.toList with
  | some cv =>
    obtain ⟨c', ec, hz⟩ := among pos cv hc
    subst ec
    refine tail_d (s := { s with heap := s.heap.push (dfTu v), toks := tk0 }) (P := P) (mg := X.mg) (Gd := fun h2 cv => cv = .ref c' ∧ ∀ b o, (s.heap.push (dfTu v)).get? b = some o → h2.get? b = some o) (closure_ok hfree) I.ok.glob (I.mod.glob.keeps I0.bk) TB.gP (TB.bm.keeps I0.bk)
      (fun h1 k1 z1 => PySem.wpAny_functionCode_hit hcode ((code h1 k1).code (k1 _ _ atP) tr) hc ⟨h1, tk0, rfl, fun _ _ _ z => z, Nat.le_refl _, rfl, k1⟩) fun cv tv h2 tk x big gd => ?_
    obtain ⟨rfl, k2⟩ := gd
    have big' := Nat.le_trans up big
    have J := I0.kept (h' := h2.push (dfOb (X.env.qual ++ "<lambda>") (oneP y an ap i dj dp) body scope (cloFrom X.env.cells scope.names []) ((X.mg "__name__").getD .none) (.ref c') tv s.heap.objs.size)) (t' := tk) fun b o e => Heap.get?_push_of_some _ (k2 b o e)
    exact k h2.objs.size c' s.heap.objs.size v ((X.mg "__name__").getD .none) tv G H _ J (Ext.refl G) r hz ⟨Heap.get?_push_size _ rfl, I.hok.fresh big', fresh _ big', Heap.get?_push_of_some _ (k2 _ _ od), dn, dr⟩
  | none =>
    refine tail_d (s := { s with heap := s.heap.push (dfTu v), toks := tk0 }) (P := P) (mg := X.mg)
      (Gd := fun h2 cv => ∃ c', cv = .ref c' ∧ (s.heap.push (dfTu v)).objs.size ≤ c' ∧ c' < h2.objs.size ∧ h2.CodeRec (.ref c') (X.env.qual ++ "<lambda>") ∧ h2.get? P = some { cls := .none, data := .fields (ps ++ #[rawInt pos.line, rawInt pos.col, .ref c']) }) (closure_ok hfree) I.ok.glob (I.mod.glob.keeps I0.bk) TB.gP (TB.bm.keeps I0.bk)
      (fun h1 k1 z1 => PySem.wpAny_functionCodeX hcode ((code h1 k1).code (k1 _ _ atP) tr) ((code h1 k1).tab (k1 _ _ atP)) hc fun c' h2 tk x ge lt _ rec tab _ => ⟨h2, tk, rfl, x, Nat.le_trans ge (Nat.le_of_lt lt), c', rfl, Nat.le_trans z1 ge, lt, rec, tab.2⟩) fun cv tv h2 tk x big gd => ?_
    obtain ⟨c', rfl, ge, lt, rec, tab⟩ := gd
    obtain ⟨c2, oc, vs, t, ec, hoc, hd, hv⟩ := rec
    cases ec
    have big' := Nat.le_trans up big
    have nC : H c' = none := I0.hok.fresh ge
    have nPc : P ≠ c' := ne_of_none hP nC
    have J := LamX.inv_table (t' := tk) (more := #[rawInt pos.line, rawInt pos.col, .ref c']) (q := X.env.qual ++ "<lambda>") (h' := h2.push (dfOb (X.env.qual ++ "<lambda>") (oneP y an ap i dj dp) body scope (cloFrom X.env.cells scope.names []) ((X.mg "__name__").getD .none) (.ref c') tv s.heap.objs.size)) I0 hP
      (fun b o hb e => Heap.get?_push_of_some _ (x b o hb e)) (Heap.get?_push_of_some _ tab) ge ⟨oc, vs, t, Heap.get?_push_of_some _ hoc, hd, hv⟩
    have eC : LamX.CodeO c' (X.env.qual ++ "<lambda>") = LamX.CodeO c' ⟨q.toArray⟩ := by rw [hq]
    rw [eC] at J
    obtain ⟨x1, r1⟩ := r.newF (o := LamX.CodeO c' ⟨q.toArray⟩) nC
    have hz : (G.frz c' (LamX.CodeO c' ⟨q.toArray⟩)).fz c' = some (LamX.CodeO c' ⟨q.toArray⟩) := upd_same
    have eL : (ps ++ #[rawInt pos.line, rawInt pos.col, .ref c']).toList = ps.toList ++ [rawInt pos.line, rawInt pos.col, .ref c'] := by simp
    have hl : n < h.length := (List.getElem?_eq_some_iff.mp hn).1
    have eH : upd (upd H P (.tbl (ps ++ #[rawInt pos.line, rawInt pos.col, .ref c']))) c' (LamX.CodeO c' ⟨q.toArray⟩) = upd (upd H c' (LamX.CodeO c' ⟨q.toArray⟩)) P (.tbl (ps ++ #[rawInt pos.line, rawInt pos.col, .ref c'])) := funext fun b => by
      by_cases h1 : b = c'
      · subst h1; rw [upd_same, upd_ne (Ne.symm nPc), upd_same]
      · rw [upd_ne h1]
        by_cases h2 : b = P
        · subst h2; rw [upd_same, upd_same]
        · rw [upd_ne h2, upd_ne h2, upd_ne h1]
    have r2 := r1.put (n := n) (a := P) (o := .tbl (ps ++ #[rawInt pos.line, rawInt pos.col, .ref c'])) (u := .tab q) hl e2 ⟨P, _, e1, e2, upd_same, ht, by rw [eL]; exact PySem.TriplesOk_snoc _ _ _ _ tr, fun p' cv hcv => by
      rw [eL] at hcv
      rcases LamX.among_app _ tr hcv with z | z
      · obtain ⟨c0, w1, w2⟩ := among p' cv z
        exact ⟨c0, w1, x1.fz _ _ w2⟩
      · exact ⟨c', z, hz⟩⟩
    have e3 : h.set n (.tab q) = h := by
      obtain ⟨_, w⟩ := List.getElem?_eq_some_iff.mp hn
      rw [← w, List.set_getElem_self]
    rw [e3, ← eH] at r2
    have nPd : s.heap.objs.size ≠ P := fun z => by rw [← z, dn] at hP; cases hP
    have ncd : s.heap.objs.size ≠ c' := Nat.ne_of_lt (Nat.lt_of_lt_of_le (by rw [Heap.size_push]; exact Nat.lt_succ_self _) ge)
    refine k h2.objs.size c' s.heap.objs.size v ((X.mg "__name__").getD .none) tv _ _ _ J x1 r2 hz ⟨Heap.get?_push_size _ rfl, ?_, fresh _ big', Heap.get?_push_of_some _ (x _ _ nPd od), ?_, dr⟩
    · rw [upd_ne (Nat.ne_of_gt lt), upd_ne (Nat.ne_of_gt (Nat.lt_of_lt_of_le (Heap.lt_size atP) big))]
      exact I.hok.fresh big'
    · rw [upd_ne ncd, upd_ne nPd]
      exact dn
end
structure LamP (sc sp : Scope) (N : List Str) (y : Str) : Prop where
  kd : sp.kind = .function
  co : sp.isCoroutine = false
  ge : sp.isGenerator = false
  nc : ∀ z ∈ sp.names, z.2 ≠ .cell
  lo : ∀ z ∈ sp.names, z.2 = .local → z.1 ∉ N
  yl : sp.names.lookup y = some .local
  fr : ∀ z ∈ sp.names, z.2 = .free → sc.names.lookup z.1 = some .cell ∨ sc.names.lookup z.1 = some .free
def lamPB (sc sp : Scope) (N : List Str) (y : Str) : Bool :=
  decide (sp.kind = .function) && (!sp.isCoroutine && (!sp.isGenerator && (decide (sp.names.lookup y = some .local) && sp.names.all fun z => !decide (z.2 = .cell) && ((!decide (z.2 = .local) || !N.contains z.1) && (!decide (z.2 = .free) || (decide (sc.names.lookup z.1 = some .cell) || decide (sc.names.lookup z.1 = some .free)))))))
theorem lamP_by {sc sp : Scope} {N : List Str} {y : Str} (h : lamPB sc sp N y = true) : LamP sc sp N y := by
  unfold lamPB at h
  simp only [Bool.and_eq_true, Bool.or_eq_true, Bool.not_eq_true', decide_eq_true_eq, decide_eq_false_iff_not, List.all_eq_true] at h
  obtain ⟨a, b, c, d, e⟩ := h
  exact ⟨a, b, c, fun z hz => (e z hz).1, fun z hz w => by
    rcases (e z hz).2.1 with g | g
    · exact absurd w g
    · simpa using g, d, fun z hz w => (e z hz).2.2.resolve_left fun g => g w⟩
theorem LamP.has {X : Cx} {sp : Scope} {y : Str} (L : LamP X.env.scope sp X.N y) (ok : X.Ok) : ∀ z ∈ sp.names, z.2 = .free → ∃ c, X.env.cells.lookup z.1 = some c := fun z hz w => ok.has _ (L.fr z hz w)
section
variable {X : Cx} {T : Tx} {W : WX} {pins : List (Addr × Obj)} {σ : L2.St} {H HZ : Hp} {s s1 : Shared}
theorem lam_startD {A : Around} {outer : List Env} {E : XK} {sp : Scope} {f c : Addr} {h1 : Heap} {tk : Nat} {y : Str} {v : Value} (I : Inv X pins σ H s) (L : LamP X.env.scope sp X.N y) (e0 : Env0 X.prog X.w X.K X.mg X.base A outer s1 HZ) (hd : A.handled = none)
    (un : Un (frs X.stack) [] H HZ s.heap s1.heap) (ns : h1.Ns s1.heap.objs.size fun z => ([(y, v)] : List (Str × Value)).reverse.lookup z) (kp : ∀ b o, s1.heap.get? b = some o → h1.get? b = some o) :
    Inv (LamX.lamCx X A outer s1 HZ E sp f c) [] σ HZ { s1 with heap := h1, toks := tk } := by
  have free := L.has I.ok
  have back : ∀ z b, (cloFrom X.env.cells sp.names []).lookup z = some b → X.env.cells.lookup z = some b := fun z b e => by
    rcases cloFrom_mem (PySem.mem_of_lookup e) with w | ⟨w1, w2⟩
    · cases w
    · obtain ⟨b', g⟩ := free _ w1 rfl
      rw [show b = b' by rw [w2, g] <;> rfl]
      exact g
  have forth : ∀ z, sp.names.lookup z = some .free → ∃ b, (cloFrom X.env.cells sp.names []).lookup z = some b := fun z e => mem_lookup (cloFrom_has (cells := X.env.cells) (acc := []) (PySem.mem_of_lookup e))
  have cell : ∀ b u, H b = none → s.heap.IsCell b u → h1.IsCell b u := fun b u n ⟨o, g, w⟩ => let ⟨_, q⟩ := un.any g n (by simp); ⟨_, kp _ _ q, w⟩
  have none : ∀ b : Addr, b ∈ (LamX.lamCx X A outer s1 HZ E sp f c).ex → False := fun b z => nomatch (show b ∈ ([] : List Addr) from z)
  have ok : (LamX.lamCx X A outer s1 HZ E sp f c).Ok :=
    { mod := e0.mod, kind := L.kd, glob := rfl, blt := rfl, above := Nat.le_refl _
      inj := fun z z' b g1 g2 => I.ok.inj z z' b (back z b g1) (back z' b g2)
      has := fun z hz => hz.elim (fun (g : sp.names.lookup z = some .cell) => absurd rfl (L.nc _ (PySem.mem_of_lookup g))) (forth z)
      cab := fun z b g _ => absurd (show false = true from g) Bool.false_ne_true
      hd := fun _ => hd, frames := Around.frames_deeper e0.frames, stk := .inr ⟨rfl, rfl⟩
      exf := fun b z => (none b z).elim, bs := e0.bs, bsz := e0.bsz, noex := fun b _ _ z => none b z, exfs := fun b z => (none b z).elim, funs := e0.funs, frf := e0.frf }
  refine { ok := ok, os := rfl, bare := e0.bare, base := Un.kept kp, loc := ⟨_, ns, fun i z u g1 g2 g3 => ?_⟩, cell := fun z b g => ?_, free := e0.hok.fresh (Nat.le_refl _), freeC := fun z b g => ?_, pin := fun p hp => (nomatch (show p ∈ ([] : List (Addr × Obj)) from hp)), hok := e0.hok.kept kp, len := I.len }
  · rcases (show Vis sp z from g3) with k | k | k
    · exact absurd (List.mem_of_getElem? (show X.N[i]? = some z from g1)) (L.lo _ (PySem.mem_of_lookup k) rfl)
    · exact absurd rfl (L.nc _ (PySem.mem_of_lookup k))
    · obtain ⟨m, hn, hl⟩ := I.loc
      have w := L.fr _ (PySem.mem_of_lookup k) rfl
      obtain ⟨u', r, q⟩ := hl i z u g1 g2 (w.elim (fun g => .inr (.inl g)) fun g => .inr (.inr g))
      obtain ⟨b, gb⟩ := forth z k
      refine ⟨u', r, .inr ⟨.inr k, b, gb, ?_⟩⟩
      rcases q with ⟨k', _⟩ | ⟨_, b', e', iz⟩
      · have k2 : X.env.scope.names.lookup z = some .local := k'
        rcases w with w | w <;> · rw [k2] at w; cases w
      · rw [back z b gb] at e'
        cases e'
        exact cell b _ (I.freeC z b (back z b gb)) iz
  · obtain ⟨u, q⟩ := I.cell z b (back z b g)
    exact ⟨u, cell b u (I.freeC z b (back z b g)) q⟩
  · obtain ⟨u, o, q, w⟩ := I.cell z b (back z b g)
    exact un.free b o q (I.freeC z b (back z b g)) (by simp)
theorem fe_actD {CXg : CXT} {Eg : XK} {Ng : List Str} {qg : Str} {sg : Scope} {g f c d : Addr} {cdg v pm ctv : Value} {q : List Nat} {y : Str} {an : Option Expr} {ap dp : Pos} {iz : Int} {dj : Nat} {body : Expr} {fb : FnE} {scope : Scope} {k i n : Nat} {a : Str} {pn : List (Addr × Obj)} {xe : Value → Shared → Prop} {p1 p2 : Pos}
    (I : Inv X pins σ H s) (L : LamP X.env.scope scope X.N y) (hq : X.env.qual ++ "<lambda>" = ⟨q.toArray⟩) (F : LamD X H s (oneP y an ap iz dj dp) body scope f c d v pm ctv) (hT : ∀ k, T.ep k = none)
    (tk : Takes ((cxOf CXg X.prog X.w X.K X.mg X.base Ng qg sg g cdg X.A X.stack s H Eg).tr pn xe) W) (hr : RoomG (k + 1) (X.A.deeper (envOfC qg sg s.heap.objs.size g cdg))) (hb : LamB X T k scope body fb)
    (hN : Ng[i]? = some a) (hv : Vis sg a) (hd : (a == ("__debug__" : Str)) = false) (hcd : (a == ("__classdict__" : Str)) = false) :
    FE ((cxOf CXg X.prog X.w X.K X.mg X.base Ng qg sg g cdg X.A X.stack s H Eg).tr pn xe) (T.lm n f c σ) W (.Call (.Name a p1) [] [] p2) (eAct q fb i) := by
  refine ⟨fun pinsZ sZ σZ HZ Q IZ ⟨G, h, δ, r, sl, o⟩ => ?_⟩
  unfold eAct at o
  split at o
  · next m e =>
    split at o
    · next q' cap z =>
      by_cases eq : q' = q
      · subst eq
        rw [if_pos rfl] at o
        obtain ⟨f2, c2, w1, w2, w3, w4⟩ := r.obj m _ z
        have w2' : (if m = n then some (f, Value.ref c, (none : Option Addr)) else none) = some (f2, Value.ref c2, none) := w2
        by_cases hm : m = n
        · subst hm
          rw [if_pos rfl] at w2'
          cases w2'
          have ws : RSl X.K T G cap σ := RSl.cl (T := T.lm m f c σ) (T' := T) rfl w4
          obtain ⟨u0, v1, v2⟩ := sl.at_ i _ e
          have ev : u0 = .ref f := by
            cases v2 with
            | ref hι => rw [w1] at hι; cases hι; rfl
          subst ev
          have o2 : okR X.K T (fun cls dd _ H' => W cls dd σZ H') G σ (RD X.K T) (fb cap (h.set m .dead)) Q := okR.act hT w1 w3 ws (fun _ _ _ y => y) o
          refine wpAny_Call_Name_kw (thn ((pe_var (pos := p1) hN hv hd hcd).run pinsZ sZ σZ HZ (fun v H1 => v = .ref f ∧ H1 = HZ) IZ ⟨.ref f, v1, rfl, rfl⟩) fun u s1 y1 => ?_)
          obtain ⟨_, H1, J, ru, rfl, rfl⟩ := y1
          cases (show u = Value.ref f from ru)
          have nil : ∀ b : Addr, b ∈ ([] : List Addr) → False := fun _ z => nomatch z
          have there := J.base.keep f _ F.fo F.fn F.fr (nil f)
          have thereD := J.base.keep d _ F.od F.dn F.dr (nil d)
          obtain ⟨⟨oc, vs, t, k1, k2, k3⟩, _⟩ := J.hok c _ (r.sub _ _ w3)
          refine PySem.W.callWith_F0 ⟨_, _, _, _, there⟩ (wpAny_call (codeAny_mono (R := CR (L2.CX X.prog X.w) (envOfC qg sg s.heap.objs.size g cdg :: X.stack) X.prog X.w H1 s1 Q fun cls dd H' => W cls dd σZ H') ?_ fun res s' z' => ?_))
          · refine PySem.W.kla_callFunE hr.r.depth there rfl L.co L.ge rfl ⟨c, oc, vs, t, rfl, k1, k2, by rw [hq]; exact k3⟩ ?_
            show wpAny _ _ (bindArgs _ ⟨[], []⟩) _ _ _
            obtain ⟨kb, b1, b2⟩ := dfBind (X.env.qual ++ "<lambda>") y an ap iz dj dp body scope (cloFrom X.env.cells scope.names []) pm (.ref c) ctv d v
            rw [b1]
            refine wpAny_bind (wpAny_seqItems thereD rfl ?_)
            rw [b2]
            refine wpAny_pure (wpAny_newFunctionEnv L.nc (fun z hz => by rw [List.mem_singleton.mp hz]; exact L.yl) (fun h1 ns ext => ⟨J.nolimit.fresh _ ext, PySem.W.kla_codeExpr ?_⟩) L.kd)
            have kept : ∀ b o, s1.heap.get? b = some o → h1.get? b = some o := fun b o z => ext.extBut b o (Nat.ne_of_lt (Heap.lt_size z)) (Heap.get?_push_of_some _ z)
            have J2 := lam_startD (tk := s1.toks + ([(y, v)] : List (Str × Value)).length) (E := fun cls dd H' => W cls dd σZ H') (f := f) (c := c) I L J.env0 hr.r.hd J.base ns kept
            exact wpAny_mono ((hb _ _ s1 H1 _ _ f c ⟨hr.r.deeper _, hr.g⟩ lam_takes).run [] _ σ H1 Q J2 ⟨G, _, cap, r.away, ws, o2⟩) (fun v s' z => let ⟨w', H', J', rv, q⟩ := z; ⟨w', H', J'.os, J'.bare, J'.base, J'.hok, rv, q⟩) fun _ _ z => z
          · match res, z' with
            | .error e, z' => exact tk e s' (XE.of_call J (fun _ _ _ z => z) z')
            | .ok (.ret u), z' => exact J.after z'
            | .ok .next, z' => exact z'.elim
            | .ok .brk, z' => exact z'.elim
            | .ok .cont, z' => exact z'.elim
        · rw [if_neg hm] at w2'; cases w2'
      · rw [if_neg eq] at o; exact o.elim
    · exact o.elim
  · exact o.elim
theorem fe_lamcallD {x a : Str} {g c P : Addr} {k t : Nat} {pg : Arguments} {bg : List Stmt} {sg : Scope} {fd : FuncData} {Ng : List Str} {q : List Nat} {y : Str} {an : Option Expr} {ap dp : Pos} {iz : Int} {dj : Nat} {body : Expr} {scope : Scope} {u : List Nat → FnE → FnS} {fb : FnE} {p lpos pos : Pos}
    (F : FunD X.K x x pg bg sg [] [] g fd) (S : FnScope Ng [a] sg) (bd : L2.Binds X.K fd [a] []) (hN : Ng[0]? = some a) (hv : Vis sg a) (hg : Gl X x) (hm : X.mg x = some (.ref g))
    (hG : ∀ cdg, GivL X T (k + 1) Ng x sg g cdg bg a u) (TB : LamX.TabB X.base X.mg c P) (hcode : X.env.code = .ref c) (ht : T.tb q = some P) (hq : X.env.qual ++ "<lambda>" = ⟨q.toArray⟩) (hT : ∀ k, T.ep k = none)
    (hr : RoomG (k + 2) X.A) (L : LamP X.env.scope scope X.N y)
    (hb : LamB X T k scope body fb) (hdb : (x == ("__debug__" : Str)) = false := by decide) (hd : (a == ("__debug__" : Str)) = false := by decide) (hcd : (a == ("__classdict__" : Str)) = false := by decide) :
    FE X T W (.Call (.Name x p) [.Lambda (oneP y an ap iz dj dp) body scope lpos] [] pos) (eLam t q (fun q fb => runD Ng.length (u q fb)) fb) := by
  refine ⟨fun pins s σ H Q I ⟨G, h, δ, r, sl, o⟩ => ?_⟩
  unfold eLam at o
  split at o
  · next q' z =>
    by_cases eq : q' = q
    · subst eq
      rw [if_pos rfl] at o
      obtain ⟨oc, od, dV, kV, doc, pmg, ang, cdg, ct, osl, rfl, lk, hcg, _, _⟩ := F.ex
      refine wpAny_Call_Name_kw (ld_glob I hg hm (PySem.W.callWith_K (h₀ := X.base) I.ok.mod.kin F.kp ?_ (by rfl) (by rfl)) hdb)
      show wpAny _ _ (spliced ((false, eval (.Lambda (oneP y an ap iz dj dp) body scope lpos) X.env) :: backTo pos (starEach [] X.env))) _ _ s
      refine Calls.spliced_cons (lam_newD I TB hcode ht hq r z (L.has I.ok) fun f c' d v pm ctv G1 H1 s' I1 x1 r1 hz FD => Calls.spliced_nil ⟨I1.kIn, ?_⟩)
      obtain ⟨x2, at2, r2⟩ := r1.lam (f := f) (cap := δ) (σ := σ) hT hz (sl.mono x1)
      dsimp only at o
      have o2 : okR X.K (T.lm h.length f c' σ) (fun cls d _ H => noXK cls d H) (G1.held f) ([] : L2.St) (RD X.K (T.lm h.length f c' σ)) (runD Ng.length (u q' fb) [.ref h.length] (h ++ [.lam q' δ])) Q := by
        cases e : runD Ng.length (u q' fb) [.ref h.length] (h ++ [.lam q' δ]) with
        | ok y h' => rw [e] at o; exact fun G' H' v x r d => o G' H' v (x1.trans (x2.trans x)) r.away (RD.cl (T := T.lm h.length f c' σ) (T' := T) rfl d)
        | exc c0 ds h' => rw [e] at o; exact o.elim
        | stk => rw [e] at o; exact o.elim
      have run := LamX.run_ofS (CX := L2.CX X.prog X.w) (A := X.A) (outer := X.stack) (s := s') (H := H1) (Q := Q) (E := noXK) (k := k + 1) (N := Ng) (ps := [a]) (us := [.ref f]) (vs := [.ref f]) lk hcg S hr.r I1.env0 (bd s' [.ref f] I1.kIn rfl) (.cons rfl .nil) rfl fun hr' =>
        ⟨_, hG cdg q' fb h.length f c' σ s' H1 _ (fun W pn xe p1 p2 tk => fe_actD I1 L hq FD hT tk ⟨hr', hr.g⟩ hb hN hv hd hcd) ⟨hr', hr.g⟩ (takes_of rfl rfl rfl rfl), def_read ⟨rfl, _, _, [.ref h.length], r2, .cons (.ref at2) .nil, o2⟩⟩
      refine wpAny_call (codeAny_mono run fun res s2 z2 => ?_)
      match res, z2 with
      | .error e, z2 =>
        obtain ⟨_, _, _, _, _, _, _, _, _, _, _, _, w⟩ := z2
        exact (show False from w).elim
      | .ok (.ret u), z2 => exact I1.after z2
      | .ok .next, z2 => exact z2.elim
      | .ok .brk, z2 => exact z2.elim
      | .ok .cont, z2 => exact z2.elim
    · rw [if_neg eq] at o; exact o.elim
  · exact o.elim
end
end L3
set_option autoImplicit false
set_option maxHeartbeats 8000000
namespace Lw
open PySem PySem.Spec L2 L3
open He (ga ma)
abbrev fuel : Nat := 4611686018427387904
abbrev c_MAX_NUMBER : D := .int 1000
abbrev c_DEPTHS : D := .int 8
abbrev c_COLORS : D := .int 8
def ix_corners : Nat → Option Nat := fun c => match c with
  | 0 => some 0
  | _ => none
def ix_own_size : Nat → Option Nat := fun c => match c with
  | 0 => some 1
  | _ => none
def ix_own_edges : Nat → Option Nat := fun c => match c with
  | 0 => some 2
  | _ => none
def mH_BadPlace : Nat → Bool := fun c => match c with
  | 0 => false
  | 1 => true
  | 2 => false
  | _ => false
def mH_BadNumber : Nat → Bool := fun c => match c with
  | 0 => false
  | 1 => false
  | 2 => true
  | _ => false
def mH_BadCorner : Nat → Bool := fun c => match c with
  | 0 => true
  | 1 => false
  | 2 => false
  | _ => false
def q__law_refused_right : List Nat := [95, 108, 97, 119, 95, 114, 101, 102, 117, 115, 101, 100, 95, 114, 105, 103, 104, 116, 46, 60, 108, 111, 99, 97, 108, 115, 62, 46, 60, 108, 97, 109, 98, 100, 97, 62]
def q_law : List Nat := [108, 97, 119, 46, 60, 108, 111, 99, 97, 108, 115, 62, 46, 60, 108, 97, 109, 98, 100, 97, 62]
def qs : List (List Nat) := [q__law_refused_right, q_law]
def tbs : List Str := ["_law_refused_right", "law"]
def u__law_said_1 (q : List Nat) (fb : FnE) : FnS := (sSet 1 (eC (.str [110, 111, 110, 101])))
def u__law_said_2_t_1 (q : List Nat) (fb : FnE) : FnS := (sExpr (eAct q fb 0))
def u__law_said_2_h2_1 (q : List Nat) (fb : FnE) : FnS := (sSet 1 (eC (.str [112, 108, 97, 99, 101])))
def u__law_said_2_h1_1 (q : List Nat) (fb : FnE) : FnS := (sSet 1 (eC (.str [110, 117, 109, 98, 101, 114])))
def u__law_said_2_h0_1 (q : List Nat) (fb : FnE) : FnS := (sSet 1 (eC (.str [99, 111, 114, 110, 101, 114])))
def u__law_said_2 (q : List Nat) (fb : FnE) : FnS := (sTryN (u__law_said_2_t_1 q fb) [.un mH_BadCorner (u__law_said_2_h0_1 q fb), .un mH_BadNumber (u__law_said_2_h1_1 q fb), .un mH_BadPlace (u__law_said_2_h2_1 q fb), .stop])
def u__law_said_3 (q : List Nat) (fb : FnE) : FnS := (sRet (eVar 1))
def u__law_said (q : List Nat) (fb : FnE) : FnS := (sSeq (u__law_said_1 q fb) (sSeq (u__law_said_2 q fb) (u__law_said_3 q fb)))
def f__law_said (q : List Nat) (fb : FnE) : Sem3 := runD 2 (u__law_said q fb)
def u__law_begun_1 : FnS := (sRet (eDic true [((eC (.str [99, 101, 108, 108, 115])), (eB listMB (aCons (eVar 0) aNil))), ((eC (.str [108, 101, 102, 116])), (eLcW true (wSeq (eVar 0)) (gSet 1) (eTest (eBin geD (eVar 1) (eBin powD (eC (.int 10)) (eC (.int 18))))) (eVar 1) [1])), ((eC (.str [97, 116])), (eC (.int 0)))]))
def u__law_begun : FnS := u__law_begun_1
def f__law_begun : Sem3 := runD 2 u__law_begun
def u__law_next_1_1 : FnS := (sIxS (eVar 0) (eC (.str [108, 101, 102, 116])) (eSliceM (eBin ixA (eVar 0) (eC (.str [108, 101, 102, 116]))) (oSome (eC (.int 1))) oNone))
def u__law_next_1 : FnS := (whileN (tAnd3 (eTest (eBin neD (eBin ixA (eVar 0) (eC (.str [108, 101, 102, 116]))) (eLst aNil))) (eTest (eBin eqD (eBin ixA (eBin ixA (eVar 0) (eC (.str [108, 101, 102, 116]))) (eC (.int 0))) (eC (.int 0))))) u__law_next_1_1 fuel)
def u__law_next_2_a_1 : FnS := (sSet 2 (eB intB (aCons (eBin ixA (eBin ixA (eVar 0) (eC (.str [108, 101, 102, 116]))) (eC (.int 0))) aNil)))
def u__law_next_2_a_2 : FnS := (sIxS (eBin ixA (eVar 0) (eC (.str [108, 101, 102, 116]))) (eC (.int 0)) (eBin divD (eVar 2) (eVar 1)))
def u__law_next_2_a_3 : FnS := (sRet (eBin modD (eVar 2) (eVar 1)))
def u__law_next_2 : FnS := (sIf (eTest (eBin neD (eBin ixA (eVar 0) (eC (.str [108, 101, 102, 116]))) (eLst aNil))) (sSeq u__law_next_2_a_1 (sSeq u__law_next_2_a_2 u__law_next_2_a_3)) sNil)
def u__law_next_3 : FnS := (sSet 3 (eBin addD (eBin ixA (eVar 0) (eC (.str [97, 116]))) (eC (.int 1))))
def u__law_next_4 : FnS := (sIxS (eVar 0) (eC (.str [97, 116])) (eVar 3))
def u__law_next_5 : FnS := (sSet 4 (eIf (eTest (eBin neD (eBin ixA (eVar 0) (eC (.str [99, 101, 108, 108, 115]))) (eLst aNil))) (eBin ixA (eBin ixA (eVar 0) (eC (.str [99, 101, 108, 108, 115]))) (eBin modD (eB intB (aCons (eVar 3) aNil)) (eB lenB (aCons (eBin ixA (eVar 0) (eC (.str [99, 101, 108, 108, 115]))) aNil)))) (eC (.int 5))))
def u__law_next_6 : FnS := (sSet 5 (eBin mulD (eB intB (aCons (eBin addD (eBin addD (eBin modD (eB intB (aCons (eVar 4) aNil)) (eC (.int 2147483629))) (eBin mulD (eC (.int 7919)) (eVar 3))) (eBin mulD (eBin mulD (eC (.int 17)) (eVar 3)) (eVar 3))) aNil)) (eC (.int 48271))))
def u__law_next_7 : FnS := (sSet 5 (eBin mulD (eB intB (aCons (eBin addD (eBin modD (eB intB (aCons (eVar 5) aNil)) (eC (.int 2147483647))) (eBin mulD (eC (.int 104729)) (eVar 3))) aNil)) (eC (.int 69621))))
def u__law_next_8 : FnS := (sRet (eBin modD (eB intB (aCons (eBin divD (eBin modD (eB intB (aCons (eVar 5) aNil)) (eC (.int 2147483587))) (eC (.int 13))) aNil)) (eVar 1)))
def u__law_next : FnS := (sSeq u__law_next_1 (sSeq u__law_next_2 (sSeq u__law_next_3 (sSeq u__law_next_4 (sSeq u__law_next_5 (sSeq u__law_next_6 (sSeq u__law_next_7 u__law_next_8)))))))
def f__law_next : Sem3 := runD 6 u__law_next
def u__law_corner_1 : FnS := (sSet 1 (eLstM aNil))
def u__law_corner_2_1 : FnS := (sExpr (eM appendM (eVar 1) (aCons (eBin ixA (eLst (aCons (eC (.int 1000)) (aCons (eUn negD (eC (.int 1000))) (aCons (eC (.int 0)) (aCons (eC (.int 1)) (aCons (eBin subD (eCall 2 f__law_next (aCons (eVar 0) (aCons (eC (.int 2001)) aNil)) []) (eC (.int 1000))) (aCons (eBin subD (eCall 2 f__law_next (aCons (eVar 0) (aCons (eC (.int 21)) aNil)) []) (eC (.int 10))) aNil))))))) (eCall 2 f__law_next (aCons (eVar 0) (aCons (eC (.int 6)) aNil)) [])) aNil)))
def u__law_corner_2 : FnS := (sFor (iRg1 (eC (.int 5))) (gSet 2) u__law_corner_2_1)
def u__law_corner_3 : FnS := (sRet (eBin addD (eB tupleB (aCons (eVar 1) aNil)) (eTup (aCons (eBin ixA (eLst (aCons (eC (.int 1)) (aCons (eC (.int 1000)) (aCons (eBin addD (eC (.int 1)) (eCall 2 f__law_next (aCons (eVar 0) (aCons (eC (.int 1000)) aNil)) [])) aNil)))) (eCall 2 f__law_next (aCons (eVar 0) (aCons (eC (.int 3)) aNil)) [])) aNil))))
def u__law_corner : FnS := (sSeq u__law_corner_1 (sSeq u__law_corner_2 u__law_corner_3))
def f__law_corner : Sem3 := runD 3 u__law_corner
def u_is_whole_in_1 : FnS := (sRet (eAnd (eIsi .int (eVar 0)) (eAnd (eNot (eIsi .bool (eVar 0))) (eChain leD leD (eVar 1) (eVar 0) (eVar 2)))))
def u_is_whole_in : FnS := u_is_whole_in_1
def f_is_whole_in : Sem3 := runD 3 u_is_whole_in
def u_are_whole_in_1_a_1 : FnS := (sRet (eC (.bl false)))
def u_are_whole_in_1 : FnS := (sIf (tOr3 (tNot3 (eTest (eIsi .tuple (eVar 0)))) (eTest (eBin neD (eB lenB (aCons (eVar 0) aNil)) (eVar 1)))) u_are_whole_in_1_a_1 sNil)
def u_are_whole_in_2 : FnS := (sRet (eB allB (aCons (eLcW false (wSeq (eVar 0)) (gSet 4) tYes3 (eCall 3 f_is_whole_in (aCons (eVar 4) (aCons (eVar 2) (aCons (eVar 3) aNil))) []) [4]) aNil)))
def u_are_whole_in : FnS := (sSeq u_are_whole_in_1 u_are_whole_in_2)
def f_are_whole_in : Sem3 := runD 5 u_are_whole_in
def u_is_corner_1 : FnS := (sRet (eAnd (eCall 4 f_are_whole_in (aCons (eVar 0) (aCons (eC (.int 6)) (aCons (eUn negD (eC c_MAX_NUMBER)) (aCons (eC c_MAX_NUMBER) aNil)))) []) (eBin geD (eBin ixA (eVar 0) (eC (.int 5))) (eC (.int 1)))))
def u_is_corner : FnS := u_is_corner_1
def f_is_corner : Sem3 := runD 1 u_is_corner
def u_eye_row_1 : FnS := (sRet (eTup (aCons (eBin ixA (eVar 0) (eC (.int 0))) (aCons (eBin ixA (eVar 0) (eC (.int 1))) (aCons (eBin ixA (eVar 0) (eC (.int 3))) aNil)))))
def u_eye_row : FnS := u_eye_row_1
def f_eye_row : Sem3 := runD 1 u_eye_row
def u_crossed_rows_1 : FnS := (sRet (eTup (aCons (eBin subD (eBin mulD (eBin ixA (eVar 0) (eC (.int 1))) (eBin ixA (eVar 1) (eC (.int 2)))) (eBin mulD (eBin ixA (eVar 0) (eC (.int 2))) (eBin ixA (eVar 1) (eC (.int 1))))) (aCons (eBin subD (eBin mulD (eBin ixA (eVar 0) (eC (.int 2))) (eBin ixA (eVar 1) (eC (.int 0)))) (eBin mulD (eBin ixA (eVar 0) (eC (.int 0))) (eBin ixA (eVar 1) (eC (.int 2))))) (aCons (eBin subD (eBin mulD (eBin ixA (eVar 0) (eC (.int 0))) (eBin ixA (eVar 1) (eC (.int 1)))) (eBin mulD (eBin ixA (eVar 0) (eC (.int 1))) (eBin ixA (eVar 1) (eC (.int 0))))) aNil)))))
def u_crossed_rows : FnS := u_crossed_rows_1
def f_crossed_rows : Sem3 := runD 2 u_crossed_rows
def u_linear_edge_1 : FnS := (sAsg (gTupD 3 (gsCons (gSet 3) (gsCons (gSet 4) (gsCons (gSet 5) gsNil)))) (eCall 2 f_crossed_rows (aCons (eVar 0) (aCons (eVar 1) aNil)) []))
def u_linear_edge_2 : FnS := (sRet (eTup (aCons (eBin mulD (eBin mulD (eVar 2) (eC (.int 2))) (eVar 3)) (aCons (eBin mulD (eBin mulD (eVar 2) (eC (.int 2))) (eVar 4)) (aCons (eBin mulD (eVar 2) (eBin addD (eBin addD (eVar 3) (eVar 4)) (eBin mulD (eC (.int 2)) (eVar 5)))) aNil)))))
def u_linear_edge : FnS := (sSeq u_linear_edge_1 u_linear_edge_2)
def f_linear_edge : Sem3 := runD 6 u_linear_edge
def u_Triangle___init___1_a_1 : FnS := (sRaise 0 (eC (.str [110, 111, 32, 99, 111, 114, 110, 101, 114])))
def u_Triangle___init___1 : FnS := (sIf (tNot3 (eTest (eB allB (aCons (eLcW false (wSeq (eTup (aCons (eVar 1) (aCons (eVar 2) (aCons (eVar 3) aNil))))) (gSet 7) tYes3 (eCall 1 f_is_corner (aCons (eVar 7) aNil) []) [7]) aNil)))) u_Triangle___init___1_a_1 sNil)
def u_Triangle___init___2 : FnS := (sFld ix_corners (eVar 0) (eTup (aCons (eVar 1) (aCons (eVar 2) (aCons (eVar 3) aNil)))))
def u_Triangle___init___3 : FnS := (sSet 4 (eLcW false (wSeq (eFld ix_corners (eVar 0))) (gSet 7) tYes3 (eCall 1 f_eye_row (aCons (eVar 7) aNil) []) [7]))
def u_Triangle___init___4 : FnS := (sSet 5 (eCall 2 f_crossed_rows (aCons (eBin ixA (eVar 4) (eC (.int 1))) (aCons (eBin ixA (eVar 4) (eC (.int 2))) aNil)) []))
def u_Triangle___init___5 : FnS := (sFld ix_own_size (eVar 0) (eBin addD (eBin addD (eBin mulD (eBin ixA (eBin ixA (eVar 4) (eC (.int 0))) (eC (.int 0))) (eBin ixA (eVar 5) (eC (.int 0)))) (eBin mulD (eBin ixA (eBin ixA (eVar 4) (eC (.int 0))) (eC (.int 1))) (eBin ixA (eVar 5) (eC (.int 1))))) (eBin mulD (eBin ixA (eBin ixA (eVar 4) (eC (.int 0))) (eC (.int 2))) (eBin ixA (eVar 5) (eC (.int 2))))))
def u_Triangle___init___6 : FnS := (sSet 6 (eIf (eTest (eBin ltD (eFld ix_own_size (eVar 0)) (eC (.int 0)))) (eUn negD (eC (.int 1))) (eC (.int 1))))
def u_Triangle___init___7 : FnS := (sFld ix_own_edges (eVar 0) (eTup (aCons (eCall 3 f_linear_edge (aCons (eBin ixA (eVar 4) (eC (.int 1))) (aCons (eBin ixA (eVar 4) (eC (.int 2))) (aCons (eVar 6) aNil))) []) (aCons (eCall 3 f_linear_edge (aCons (eBin ixA (eVar 4) (eC (.int 2))) (aCons (eBin ixA (eVar 4) (eC (.int 0))) (aCons (eVar 6) aNil))) []) (aCons (eCall 3 f_linear_edge (aCons (eBin ixA (eVar 4) (eC (.int 0))) (aCons (eBin ixA (eVar 4) (eC (.int 1))) (aCons (eVar 6) aNil))) []) aNil)))))
def u_Triangle___init__ : FnS := (sSeq u_Triangle___init___1 (sSeq u_Triangle___init___2 (sSeq u_Triangle___init___3 (sSeq u_Triangle___init___4 (sSeq u_Triangle___init___5 (sSeq u_Triangle___init___6 u_Triangle___init___7))))))
def f_Triangle___init__ : Sem3 := runD 8 u_Triangle___init__
def u__law_odd_corner_1 : FnS := (sSet 1 (eLst (aCons (eC .non) (aCons (eC (.int 0)) (aCons (eC (.str [99, 111, 114, 110, 101, 114])) (aCons (eTup aNil) (aCons (eDic0 false) (aCons (eLst (aCons (eC (.int 0)) (aCons (eC (.int 0)) (aCons (eC (.int 0)) (aCons (eC (.int 1)) (aCons (eC (.int 0)) (aCons (eC (.int 1)) aNil))))))) (aCons (eTup (aCons (eC (.int 0)) (aCons (eC (.int 0)) (aCons (eC (.int 0)) (aCons (eC (.int 1)) (aCons (eC (.int 0)) aNil)))))) (aCons (eTup (aCons (eC (.int 0)) (aCons (eC (.int 0)) (aCons (eC (.int 0)) (aCons (eC (.int 1)) (aCons (eC (.int 0)) (aCons (eC (.int 1)) (aCons (eC (.int 1)) aNil)))))))) (aCons (eTup (aCons (eC (.int 0)) (aCons (eC (.int 0)) (aCons (eC (.int 0)) (aCons (eC (.int 1)) (aCons (eC (.int 0)) (aCons (eC (.int 0)) aNil))))))) aNil)))))))))))
def u__law_odd_corner_2 : FnS := (sSet 1 (eBin addD (eVar 1) (eLst (aCons (eTup (aCons (eC (.int 0)) (aCons (eC (.int 0)) (aCons (eC (.int 0)) (aCons (eC (.int 1)) (aCons (eC (.int 0)) (aCons (eUn negD (eC (.int 1))) aNil))))))) (aCons (eTup (aCons (eC (.int 0)) (aCons (eC (.int 0)) (aCons (eC (.int 0)) (aCons (eC (.int 1)) (aCons (eC (.int 0)) (aCons (eC (.bl true)) aNil))))))) (aCons (eTup (aCons (eTup (aCons (eC (.int 0)) (aCons (eC (.int 0)) (aCons (eC (.int 0)) (aCons (eC (.int 1)) (aCons (eC (.int 0)) (aCons (eC (.int 1)) aNil))))))) aNil)) (aCons (eTup (aCons (eC (.int 0)) (aCons (eC (.int 0)) (aCons (eC (.int 0)) (aCons (eC (.int 1)) (aCons (eC (.int 0)) (aCons (eC (.int 1001)) aNil))))))) aNil)))))))
def u__law_odd_corner_3 : FnS := (sPar [2, 3] (aCons (eCall 2 f__law_next (aCons (eVar 0) (aCons (eC (.int 6)) aNil)) []) (aCons (eLstM (aCons (eC (.int 0)) (aCons (eC (.int 0)) (aCons (eC (.int 0)) (aCons (eC (.int 1)) (aCons (eC (.int 0)) (aCons (eC (.int 1)) aNil))))))) aNil)))
def u__law_odd_corner_4 : FnS := (sSet 4 (eBin ixA (eLst (aCons (eC (.int 1001)) (aCons (eUn negD (eC (.int 1001))) (aCons (eC (.bl true)) (aCons (eC (.bl false)) (aCons (eC .non) (aCons (eC (.str [48])) (aCons (eTup (aCons (eC (.int 0)) aNil)) (aCons (eBin powD (eC (.int 10)) (eC (.int 30))) aNil))))))))) (eCall 2 f__law_next (aCons (eVar 0) (aCons (eC (.int 8)) aNil)) [])))
def u__law_odd_corner_5 : FnS := (sIxS (eVar 3) (eVar 2) (eVar 4))
def u__law_odd_corner_6 : FnS := (sRet (eBin ixA (eBin addD (eVar 1) (eBin mulD (eLst (aCons (eB tupleB (aCons (eVar 3) aNil)) aNil)) (eC (.int 7)))) (eCall 2 f__law_next (aCons (eVar 0) (aCons (eC (.int 20)) aNil)) [])))
def u__law_odd_corner : FnS := (sSeq u__law_odd_corner_1 (sSeq u__law_odd_corner_2 (sSeq u__law_odd_corner_3 (sSeq u__law_odd_corner_4 (sSeq u__law_odd_corner_5 u__law_odd_corner_6)))))
def f__law_odd_corner : Sem3 := runD 5 u__law_odd_corner
def u__law_odd_spot_1 : FnS := (sSet 1 (eLst (aCons (eC .non) (aCons (eC (.int 0)) (aCons (eC (.str [48, 48])) (aCons (eTup aNil) (aCons (eTup (aCons (eC (.int 0)) aNil)) (aCons (eTup (aCons (eC (.int 0)) (aCons (eC (.int 0)) (aCons (eC (.int 0)) aNil)))) (aCons (eLst (aCons (eC (.int 0)) (aCons (eC (.int 0)) aNil))) (aCons (eTup (aCons (eC (.bl true)) (aCons (eC (.int 0)) aNil))) (aCons (eTup (aCons (eC (.int 0)) (aCons (eC (.bl false)) aNil))) (aCons (eTup (aCons (eC (.int 1001)) (aCons (eC (.int 0)) aNil))) (aCons (eTup (aCons (eC (.int 0)) (aCons (eUn negD (eC (.int 1001))) aNil))) (aCons (eTup (aCons (eC .non) (aCons (eC (.int 0)) aNil))) aNil))))))))))))))
def u__law_odd_spot_2 : FnS := (sRet (eBin ixA (eBin addD (eVar 1) (eLst (aCons (eTup (aCons (eC (.int 0)) (aCons (eC (.str [48])) aNil))) (aCons (eTup (aCons (eTup (aCons (eC (.int 0)) aNil)) (aCons (eC (.int 0)) aNil))) (aCons (eDic0 false) (aCons (eTup (aCons (eBin powD (eC (.int 10)) (eC (.int 30))) (aCons (eC (.int 0)) aNil))) (aCons (eTup (aCons (eUn negD (eC (.int 1001))) (aCons (eC (.int 0)) aNil))) (aCons (eTup (aCons (eC (.int 0)) (aCons (eC (.int 1001)) aNil))) aNil)))))))) (eCall 2 f__law_next (aCons (eVar 0) (aCons (eC (.int 18)) aNil)) [])))
def u__law_odd_spot : FnS := (sSeq u__law_odd_spot_1 u__law_odd_spot_2)
def f__law_odd_spot : Sem3 := runD 2 u__law_odd_spot
def u_need_whole_place_1_a_1 : FnS := (sRaise 1 (eC (.str [110, 111, 32, 112, 97, 105, 114, 32, 111, 102, 32, 105, 110, 116, 101, 103, 101, 114, 115])))
def u_need_whole_place_1 : FnS := (sIf (tNot3 (eTest (eCall 4 f_are_whole_in (aCons (eVar 0) (aCons (eC (.int 2)) (aCons (eUn negD (eC c_MAX_NUMBER)) (aCons (eC c_MAX_NUMBER) aNil)))) []))) u_need_whole_place_1_a_1 sNil)
def u_need_whole_place : FnS := u_need_whole_place_1
def f_need_whole_place : Sem3 := runD 1 u_need_whole_place
def u_Triangle_values_at_1 : FnS := (sAsg (gTupD 2 (gsCons (gSet 2) (gsCons (gSet 3) gsNil))) (eVar 1))
def u_Triangle_values_at_2 : FnS := (sRet (eLcW false (wSeq (eFld ix_own_edges (eVar 0))) (gTupD 3 (gsCons (gSet 4) (gsCons (gSet 5) (gsCons (gSet 6) gsNil)))) tYes3 (eBin addD (eBin addD (eBin mulD (eVar 4) (eVar 2)) (eBin mulD (eVar 5) (eVar 3))) (eVar 6)) [4, 5, 6]))
def u_Triangle_values_at : FnS := (sSeq u_Triangle_values_at_1 u_Triangle_values_at_2)
def f_Triangle_values_at : Sem3 := runD 7 u_Triangle_values_at
def u_is_let_in_1 : FnS := (sRet (eOr (eBin gtD (eVar 1) (eC (.int 0))) (eAnd (eBin eqD (eVar 1) (eC (.int 0))) (eOr (eBin gtD (eBin ixA (eVar 0) (eC (.int 0))) (eC (.int 0))) (eAnd (eBin eqD (eBin ixA (eVar 0) (eC (.int 0))) (eC (.int 0))) (eBin gtD (eBin ixA (eVar 0) (eC (.int 1))) (eC (.int 0))))))))
def u_is_let_in : FnS := u_is_let_in_1
def f_is_let_in : Sem3 := runD 2 u_is_let_in
def u_Triangle_is_over_1 : FnS := (sRet (eAnd (eBin neD (eFld ix_own_size (eVar 0)) (eC (.int 0))) (eB allB (aCons (eLcW false (wZip (aCons (eFld ix_own_edges (eVar 0)) (aCons (eVar 1) aNil))) (gTupD 2 (gsCons (gSet 2) (gsCons (gSet 3) gsNil))) tYes3 (eCall 2 f_is_let_in (aCons (eVar 2) (aCons (eVar 3) aNil)) []) [2, 3]) aNil))))
def u_Triangle_is_over : FnS := u_Triangle_is_over_1
def f_Triangle_is_over : Sem3 := runD 4 u_Triangle_is_over
def u_Triangle_covers_1 : FnS := (sExpr (eCall 1 f_need_whole_place (aCons (eVar 1) aNil) []))
def u_Triangle_covers_2 : FnS := (sRet (eMeth 0 2 f_Triangle_is_over (eVar 0) (aCons (eMeth 0 2 f_Triangle_values_at (eVar 0) (aCons (eVar 1) aNil) []) aNil) []))
def u_Triangle_covers : FnS := (sSeq u_Triangle_covers_1 u_Triangle_covers_2)
def f_Triangle_covers : Sem3 := runD 2 u_Triangle_covers
def u_Triangle_depth_by_1 : FnS := (sSet 2 (eB sumB (aCons (eLcW false (wZip (aCons (eVar 1) (aCons (eFld ix_corners (eVar 0)) aNil))) (gTupD 2 (gsCons (gSet 3) (gsCons (gSet 4) gsNil))) tYes3 (eBin mulD (eVar 3) (eBin ixA (eVar 4) (eC (.int 2)))) [3, 4]) aNil)))
def u_Triangle_depth_by_2 : FnS := (sRet (eBin divD (eVar 2) (eBin mulD (eC (.int 2)) (eB absB (aCons (eFld ix_own_size (eVar 0)) aNil)))))
def u_Triangle_depth_by : FnS := (sSeq u_Triangle_depth_by_1 u_Triangle_depth_by_2)
def f_Triangle_depth_by : Sem3 := runD 5 u_Triangle_depth_by
def u_Triangle_fragment_so_1 : FnS := (sSet 2 (eMeth 0 2 f_Triangle_values_at (eVar 0) (aCons (eVar 1) aNil) []))
def u_Triangle_fragment_so_2_a_1 : FnS := (sRet (eC .non))
def u_Triangle_fragment_so_2 : FnS := (sIf (tNot3 (eTest (eMeth 0 2 f_Triangle_is_over (eVar 0) (aCons (eVar 2) aNil) []))) u_Triangle_fragment_so_2_a_1 sNil)
def u_Triangle_fragment_so_3 : FnS := (sSet 3 (eMeth 0 2 f_Triangle_depth_by (eVar 0) (aCons (eVar 2) aNil) []))
def u_Triangle_fragment_so_4_a_1 : FnS := (sRet (eC .non))
def u_Triangle_fragment_so_4 : FnS := (sIf (tNot3 (eTest (eChain leD ltD (eC (.int 0)) (eVar 3) (eC c_DEPTHS)))) u_Triangle_fragment_so_4_a_1 sNil)
def u_Triangle_fragment_so_5 : FnS := (sSet 4 (eB sumB (aCons (eLcW false (wZip (aCons (eVar 2) (aCons (eFld ix_corners (eVar 0)) aNil))) (gTupD 2 (gsCons (gSet 5) (gsCons (gSet 6) gsNil))) tYes3 (eBin mulD (eVar 5) (eBin ixA (eVar 6) (eC (.int 4)))) [5, 6]) aNil)))
def u_Triangle_fragment_so_6 : FnS := (sSet 4 (eBin divD (eVar 4) (eB sumB (aCons (eLcW false (wZip (aCons (eVar 2) (aCons (eFld ix_corners (eVar 0)) aNil))) (gTupD 2 (gsCons (gSet 5) (gsCons (gSet 6) gsNil))) tYes3 (eBin mulD (eVar 5) (eBin ixA (eVar 6) (eC (.int 5)))) [5, 6]) aNil))))
def u_Triangle_fragment_so_7 : FnS := (sRet (eTup (aCons (eB max2B (aCons (eC (.int 0)) (aCons (eB min2B (aCons (eBin subD (eC c_COLORS) (eC (.int 1))) (aCons (eVar 4) aNil))) aNil))) (aCons (eVar 3) aNil))))
def u_Triangle_fragment_so : FnS := (sSeq u_Triangle_fragment_so_1 (sSeq u_Triangle_fragment_so_2 (sSeq u_Triangle_fragment_so_3 (sSeq u_Triangle_fragment_so_4 (sSeq u_Triangle_fragment_so_5 (sSeq u_Triangle_fragment_so_6 u_Triangle_fragment_so_7))))))
def f_Triangle_fragment_so : Sem3 := runD 7 u_Triangle_fragment_so
def u_Triangle_fragment_at_1 : FnS := (sExpr (eCall 1 f_need_whole_place (aCons (eVar 1) aNil) []))
def u_Triangle_fragment_at_2 : FnS := (sRet (eMeth 0 2 f_Triangle_fragment_so (eVar 0) (aCons (eVar 1) aNil) []))
def u_Triangle_fragment_at : FnS := (sSeq u_Triangle_fragment_at_1 u_Triangle_fragment_at_2)
def f_Triangle_fragment_at : Sem3 := runD 2 u_Triangle_fragment_at
def u_Triangle_lets_in_1_a_1 : FnS := (sRaise 2 (eC (.str [110, 111, 32, 101, 100, 103, 101])))
def u_Triangle_lets_in_1 : FnS := (sIf (tNot3 (eTest (eCall 3 f_is_whole_in (aCons (eVar 1) (aCons (eC (.int 0)) (aCons (eC (.int 2)) aNil))) []))) u_Triangle_lets_in_1_a_1 sNil)
def u_Triangle_lets_in_2 : FnS := (sExpr (eCall 1 f_need_whole_place (aCons (eVar 2) aNil) []))
def u_Triangle_lets_in_3 : FnS := (sRet (eCall 2 f_is_let_in (aCons (eBin ixA (eFld ix_own_edges (eVar 0)) (eVar 1)) (aCons (eBin ixA (eMeth 0 2 f_Triangle_values_at (eVar 0) (aCons (eVar 2) aNil) []) (eVar 1)) aNil)) []))
def u_Triangle_lets_in : FnS := (sSeq u_Triangle_lets_in_1 (sSeq u_Triangle_lets_in_2 u_Triangle_lets_in_3))
def f_Triangle_lets_in : Sem3 := runD 3 u_Triangle_lets_in
def u__law_refused_right_1 : FnS := (sAsg (gTupD 3 (gsCons (gSet 2) (gsCons (gSet 3) (gsCons (gSet 4) gsNil)))) (eTup (aCons (eCall 1 f__law_odd_corner (aCons (eVar 0) aNil) []) (aCons (eCall 1 f__law_odd_corner (aCons (eVar 0) aNil) []) (aCons (eMake 0 3 4 f_Triangle___init__ (aCons (eBin ixA (eVar 1) (eC (.int 0))) (aCons (eBin ixA (eVar 1) (eC (.int 1))) (aCons (eBin ixA (eVar 1) (eC (.int 2))) aNil))) []) aNil)))))
def u__law_refused_right_2 : FnS := (sSet 5 (eLstM (aCons (eLam 0 q__law_refused_right f__law_said (eMake 0 3 4 f_Triangle___init__ (aCons (eVar 2) (aCons (eBin ixA (eVar 1) (eC (.int 1))) (aCons (eBin ixA (eVar 1) (eC (.int 2))) aNil))) [])) aNil)))
def u__law_refused_right_3 : FnS := (sExpr (eM appendM (eVar 5) (aCons (eLam 0 q__law_refused_right f__law_said (eMake 0 3 4 f_Triangle___init__ (aCons (eBin ixA (eVar 1) (eC (.int 0))) (aCons (eVar 2) (aCons (eBin ixA (eVar 1) (eC (.int 2))) aNil))) [])) aNil)))
def u__law_refused_right_4 : FnS := (sExpr (eM appendM (eVar 5) (aCons (eLam 0 q__law_refused_right f__law_said (eMake 0 3 4 f_Triangle___init__ (aCons (eBin ixA (eVar 1) (eC (.int 0))) (aCons (eBin ixA (eVar 1) (eC (.int 1))) (aCons (eVar 2) aNil))) [])) aNil)))
def u__law_refused_right_5 : FnS := (sExpr (eM appendM (eVar 5) (aCons (eLam 0 q__law_refused_right f__law_said (eMake 0 3 4 f_Triangle___init__ (aCons (eVar 2) (aCons (eVar 3) (aCons (eBin ixA (eVar 1) (eC (.int 2))) aNil))) [])) aNil)))
def u__law_refused_right_6_a_1 : FnS := (sRet (eC (.bl false)))
def u__law_refused_right_6 : FnS := (sIf (eTest (eBin neD (eVar 5) (eBin mulD (eLst (aCons (eC (.str [99, 111, 114, 110, 101, 114])) aNil)) (eC (.int 4))))) u__law_refused_right_6_a_1 sNil)
def u__law_refused_right_7 : FnS := (sAsg (gTupD 2 (gsCons (gSet 6) (gsCons (gSet 7) gsNil))) (eTup (aCons (eCall 1 f__law_odd_spot (aCons (eVar 0) aNil) []) (aCons (eBin ixA (eLst (aCons (eC .non) (aCons (eC (.str [48])) (aCons (eUn negD (eC (.int 1))) (aCons (eC (.int 3)) (aCons (eC (.bl true)) (aCons (eC (.bl false)) (aCons (eTup (aCons (eC (.int 0)) aNil)) (aCons (eBin powD (eC (.int 10)) (eC (.int 30))) aNil))))))))) (eCall 2 f__law_next (aCons (eVar 0) (aCons (eC (.int 8)) aNil)) [])) aNil))))
def u__law_refused_right_8 : FnS := (sSet 5 (eLstM (aCons (eLam 0 q__law_refused_right f__law_said (eMeth 0 2 f_Triangle_covers (eVar 4) (aCons (eVar 6) aNil) [])) aNil)))
def u__law_refused_right_9 : FnS := (sExpr (eM appendM (eVar 5) (aCons (eLam 0 q__law_refused_right f__law_said (eMeth 0 2 f_Triangle_fragment_at (eVar 4) (aCons (eVar 6) aNil) [])) aNil)))
def u__law_refused_right_10 : FnS := (sExpr (eM appendM (eVar 5) (aCons (eLam 0 q__law_refused_right f__law_said (eMeth 0 3 f_Triangle_lets_in (eVar 4) (aCons (eC (.int 2)) (aCons (eVar 6) aNil)) [])) aNil)))
def u__law_refused_right_11 : FnS := (sExpr (eM appendM (eVar 5) (aCons (eLam 0 q__law_refused_right f__law_said (eMeth 0 3 f_Triangle_lets_in (eVar 4) (aCons (eVar 7) (aCons (eVar 6) aNil)) [])) aNil)))
def u__law_refused_right_12 : FnS := (sExpr (eM appendM (eVar 5) (aCons (eLam 0 q__law_refused_right f__law_said (eMeth 0 3 f_Triangle_lets_in (eVar 4) (aCons (eVar 7) (aCons (eTup (aCons (eC (.int 0)) (aCons (eC (.int 0)) aNil))) aNil)) [])) aNil)))
def u__law_refused_right_13 : FnS := (sRet (eBin eqD (eVar 5) (eBin addD (eBin mulD (eLst (aCons (eC (.str [112, 108, 97, 99, 101])) aNil)) (eC (.int 3))) (eBin mulD (eLst (aCons (eC (.str [110, 117, 109, 98, 101, 114])) aNil)) (eC (.int 2))))))
def u__law_refused_right : FnS := (sSeq u__law_refused_right_1 (sSeq u__law_refused_right_2 (sSeq u__law_refused_right_3 (sSeq u__law_refused_right_4 (sSeq u__law_refused_right_5 (sSeq u__law_refused_right_6 (sSeq u__law_refused_right_7 (sSeq u__law_refused_right_8 (sSeq u__law_refused_right_9 (sSeq u__law_refused_right_10 (sSeq u__law_refused_right_11 (sSeq u__law_refused_right_12 u__law_refused_right_13))))))))))))
def f__law_refused_right : Sem3 := runD 8 u__law_refused_right
def u_Triangle___eq___1 : FnS := (sRet (eAnd (eIso 0 (eVar 1)) (eBin eqD (eFld ix_corners (eVar 0)) (eFld ix_corners (eVar 1)))))
def u_Triangle___eq__ : FnS := u_Triangle___eq___1
def f_Triangle___eq__ : Sem3 := runD 2 u_Triangle___eq__
def u_law_1 : FnS := (sSet 1 (eCall 1 f__law_begun (aCons (eVar 0) aNil) []))
def u_law_2_1 : FnS := (sSet 3 (eLst (aCons (eCall 1 f__law_corner (aCons (eVar 1) aNil) []) (aCons (eCall 1 f__law_corner (aCons (eVar 1) aNil) []) (aCons (eCall 1 f__law_corner (aCons (eVar 1) aNil) []) aNil)))))
def u_law_2_2 : FnS := (sSet 4 (eKw aNil (aCons (eBin ixA (eVar 3) (eC (.int 2))) (aCons (eBin ixA (eVar 3) (eC (.int 0))) (aCons (eBin ixA (eVar 3) (eC (.int 1))) aNil))) (kMakeK 0 3 3 4 f_Triangle___init__ [] [.p 0, .k 1, .k 2, .k 0])))
def u_law_2_3_a_1 : FnS := (sRet (eC (.bl false)))
def u_law_2_3 : FnS := (sIf (tOr3 (eTest (eBin neD (eB reprB (aCons (eFld ix_corners (eVar 4)) aNil)) (eB reprB (aCons (eB tupleB (aCons (eVar 3) aNil)) aNil)))) (tNot3 (eTest (eCall 2 f__law_refused_right (aCons (eVar 1) (aCons (eVar 3) aNil)) [])))) u_law_2_3_a_1 sNil)
def u_law_2_4_a_1 : FnS := (sRet (eC (.bl false)))
def u_law_2_4 : FnS := (sIf (tOr3 (tNot3 (eTest (eBin (eqO 0 f_Triangle___eq__) (eVar 4) (eMake 0 3 4 f_Triangle___init__ (aCons (eBin ixA (eVar 3) (eC (.int 0))) (aCons (eBin ixA (eVar 3) (eC (.int 1))) (aCons (eBin ixA (eVar 3) (eC (.int 2))) aNil))) [])))) (tOr3 (eTest (eBin (eqV 0 f_Triangle___eq__) (eVar 4) (eB tupleB (aCons (eVar 3) aNil)))) (eTest (eBin (eqV 0 f_Triangle___eq__) (eVar 4) (eBin ixA (eVar 3) (eC (.int 0))))))) u_law_2_4_a_1 sNil)
def u_law_2_5 : FnS := (sSet 5 (eMake 0 3 4 f_Triangle___init__ (aCons (eBin ixA (eVar 3) (eC (.int 1))) (aCons (eBin ixA (eVar 3) (eC (.int 2))) (aCons (eBin ixA (eVar 3) (eC (.int 0))) aNil))) []))
def u_law_2_6_a_1 : FnS := (sRet (eC (.bl false)))
def u_law_2_6 : FnS := (sIf (tOr3 (eTest (eBin neD (eBin (eqO 0 f_Triangle___eq__) (eVar 4) (eVar 5)) (eChain eqD eqD (eBin ixA (eVar 3) (eC (.int 0))) (eBin ixA (eVar 3) (eC (.int 1))) (eBin ixA (eVar 3) (eC (.int 2)))))) (eTest (eBin eqD (eBin (neO 0 f_Triangle___eq__) (eVar 4) (eVar 5)) (eBin (eqO 0 f_Triangle___eq__) (eVar 4) (eVar 5))))) u_law_2_6_a_1 sNil)
def u_law_2_7 : FnS := (sSet 6 (eLst (aCons (eMeth 0 2 f_Triangle_covers (eVar 4) (aCons (eTup (aCons (eUn negD (eC (.int 1000))) (aCons (eC (.int 1000)) aNil))) aNil) []) (aCons (eMethK 0 2 3 f_Triangle_lets_in (eVar 4) (aCons (eTup (aCons (eC (.int 1000)) (aCons (eUn negD (eC (.int 1000))) aNil))) (aCons (eC (.int 0)) aNil)) [] [.p 0, .k 1, .k 0]) aNil))))
def u_law_2_8_a_1 : FnS := (sRet (eC (.bl false)))
def u_law_2_8 : FnS := (sIf (eTest (eBin neD (eLcW false (wSeq (eVar 6)) (gSet 12) (tAnd3 (eTest (eBin isnD (eVar 12) (eC (.bl true)))) (eTest (eBin isnD (eVar 12) (eC (.bl false))))) (eVar 12) [12]) (eLst aNil))) u_law_2_8_a_1 sNil)
def u_law_2 : FnS := (sFor (iRg1 (eBin addD (eC (.int 5)) (eB min2B (aCons (eB lenB (aCons (eVar 0) aNil)) (aCons (eC (.int 8)) aNil))))) (gSet 2) (sSeq u_law_2_1 (sSeq u_law_2_2 (sSeq u_law_2_3 (sSeq u_law_2_4 (sSeq u_law_2_5 (sSeq u_law_2_6 (sSeq u_law_2_7 u_law_2_8))))))))
def u_law_3 : FnS := (sAsg (gTupD 2 (gsCons (gSet 7) (gsCons (gSet 8) gsNil))) (eTup (aCons (eTup (aCons (eC (.int 0)) (aCons (eC (.int 0)) (aCons (eC (.int 0)) (aCons (eC (.int 0)) (aCons (eC (.int 0)) (aCons (eC (.int 1)) aNil))))))) (aCons (eLst (aCons (eTup (aCons (eC (.int 0)) (aCons (eC (.int 0)) (aCons (eC (.int 0)) (aCons (eC (.int 1)) (aCons (eC (.int 0)) (aCons (eC (.int 0)) aNil))))))) (aCons (eTup (aCons (eC (.int 0)) (aCons (eC (.int 0)) (aCons (eC (.int 0)) (aCons (eC (.int 1)) (aCons (eC (.int 0)) (aCons (eC (.int 1001)) aNil))))))) (aCons (eTup (aCons (eC (.int 0)) (aCons (eC (.int 0)) (aCons (eC (.int 0)) (aCons (eC (.int 1)) (aCons (eC (.int 0)) (aCons (eC (.bl true)) aNil))))))) aNil)))) aNil))))
def u_law_4 : FnS := (sSet 8 (eBin addD (eVar 8) (eLst (aCons (eTup (aCons (eC (.int 0)) (aCons (eC (.int 0)) (aCons (eC (.int 1001)) (aCons (eC (.int 1)) (aCons (eC (.int 0)) (aCons (eC (.int 1)) aNil))))))) (aCons (eTup (aCons (eC (.int 0)) (aCons (eC (.int 0)) (aCons (eC (.int 0)) (aCons (eUn negD (eC (.int 1001))) (aCons (eC (.int 0)) (aCons (eC (.int 1)) aNil))))))) (aCons (eTup (aCons (eC (.int 0)) (aCons (eC .non) (aCons (eC (.int 0)) (aCons (eC (.int 1)) (aCons (eC (.int 0)) (aCons (eC (.int 1)) aNil))))))) aNil))))))
def u_law_5_1_a_1 : FnS := (sRet (eC (.bl false)))
def u_law_5_1 : FnS := (sIf (eTest (eBin neD (eLam 1 q_law f__law_said (eMake 0 3 4 f_Triangle___init__ (aCons (eVar 7) (aCons (eVar 7) (aCons (eVar 9) aNil))) [])) (eC (.str [99, 111, 114, 110, 101, 114])))) u_law_5_1_a_1 sNil)
def u_law_5 : FnS := (sForW (wSeq (eBin addD (eVar 8) (eLst (aCons (eTup (aCons (eC (.int 0)) (aCons (eC (.int 0)) (aCons (eC (.int 0)) (aCons (eC (.int 1)) (aCons (eC (.int 0)) aNil)))))) (aCons (eTup (aCons (eC (.int 0)) (aCons (eC (.int 0)) (aCons (eC (.int 0)) (aCons (eC (.int 1)) (aCons (eC (.int 0)) (aCons (eC (.int 1)) (aCons (eC (.int 1)) aNil)))))))) (aCons (eLst (aCons (eC (.int 0)) (aCons (eC (.int 0)) (aCons (eC (.int 0)) (aCons (eC (.int 1)) (aCons (eC (.int 0)) (aCons (eC (.int 1)) aNil))))))) (aCons (eC .non) aNil))))))) (gSet 9) u_law_5_1)
def u_law_6 : FnS := (sSet 10 (eTup (aCons (eC (.int 1000)) (aCons (eUn negD (eC (.int 1000))) (aCons (eC (.int 1000)) (aCons (eUn negD (eC (.int 1000))) (aCons (eC (.int 1000)) (aCons (eC (.int 1000)) aNil))))))))
def u_law_7 : FnS := (sSet 4 (eMake 0 3 4 f_Triangle___init__ (aCons (eVar 10) (aCons (eVar 10) (aCons (eVar 10) aNil))) []))
def u_law_8_1 : FnS := (sSet 6 (eLst (aCons (eLam 1 q_law f__law_said (eMeth 0 2 f_Triangle_covers (eVar 4) (aCons (eVar 11) aNil) [])) (aCons (eLam 1 q_law f__law_said (eMeth 0 2 f_Triangle_fragment_at (eVar 4) (aCons (eVar 11) aNil) [])) aNil))))
def u_law_8_2_a_1 : FnS := (sRet (eC (.bl false)))
def u_law_8_2 : FnS := (sIf (eTest (eBin neD (eBin addD (eVar 6) (eLst (aCons (eLam 1 q_law f__law_said (eMeth 0 3 f_Triangle_lets_in (eVar 4) (aCons (eC (.int 0)) (aCons (eVar 11) aNil)) [])) aNil))) (eBin mulD (eLst (aCons (eC (.str [112, 108, 97, 99, 101])) aNil)) (eC (.int 3))))) u_law_8_2_a_1 sNil)
def u_law_8 : FnS := (sForW (wSeq (eTup (aCons (eTup (aCons (eC (.int 1001)) (aCons (eC (.int 0)) aNil))) (aCons (eTup (aCons (eUn negD (eC (.int 1001))) (aCons (eC (.int 0)) aNil))) (aCons (eTup (aCons (eC (.int 0)) (aCons (eC (.int 1001)) aNil))) (aCons (eTup (aCons (eC (.int 0)) (aCons (eUn negD (eC (.int 1001))) aNil))) aNil)))))) (gSet 11) (sSeq u_law_8_1 u_law_8_2))
def u_law_9 : FnS := (sRet (eAnd (eBin eqD (eFld ix_corners (eVar 4)) (eBin mulD (eTup (aCons (eVar 10) aNil)) (eC (.int 3)))) (eAnd (eBin isD (eMethK 0 1 2 f_Triangle_covers (eVar 4) (aCons (eTup (aCons (eC (.int 0)) (aCons (eC (.int 0)) aNil))) aNil) [] [.p 0, .k 0]) (eC (.bl false))) (eBin isD (eMethK 0 1 2 f_Triangle_fragment_at (eVar 4) (aCons (eTup (aCons (eC (.int 0)) (aCons (eC (.int 0)) aNil))) aNil) [] [.p 0, .k 0]) (eC .non)))))
def u_law : FnS := (sSeq u_law_1 (sSeq u_law_2 (sSeq u_law_3 (sSeq u_law_4 (sSeq u_law_5 (sSeq u_law_6 (sSeq u_law_7 (sSeq u_law_8 u_law_9))))))))
def f_law : Sem3 := runD 13 u_law
end Lw
set_option autoImplicit false
section
set_option maxHeartbeats 8000000
namespace Lw
open PySem PySem.Spec L2 L3
open He (ga ma)
def top (i : Nat) : Stmt := PySem.Challenge.pw_tilewright_k05_corners_and_triangles_mad.main.body.getD i (.Pass ⟨0, 0, 0, 0⟩)
def clsB : Stmt → List Stmt
  | .ClassDef _ _ _ b _ _ _ _ _ _ _ => b
  | _ => []
def mem (i j : Nat) : Stmt := (clsB (top i)).getD j (.Pass ⟨0, 0, 0, 0⟩)
def TX (w : World) (K : PySem.W.Frag) : Tx where
  nd := NdO w
  cls := fun c => match c with
    | 0 => some (ga K "Triangle", ["corners", "own_size", "own_edges"])
    | _ => none
  exc := fun c => match c with
    | 0 => some (ga K "BadCorner", ["reason"])
    | 1 => some (ga K "BadPlace", ["reason"])
    | 2 => some (ga K "BadNumber", ["reason"])
    | _ => none
  tb := fun z => if z = q__law_refused_right then some (tbA K (ga K "_law_refused_right")) else if z = q_law then some (tbA K (ga K "law")) else  none
  src := fun _ _ _ _ => False
  srcAt := fun _ _ _ _ h => h.elim
  srcStay := fun _ _ _ _ _ h _ => h.elim
def d__law_said : DefL := ⟨("_law_said", none), false, "_law_said", "_law_said", defArgs (top 25), defBody (top 25), defScope (top 25), [], none⟩
def d__law_begun : DefL := ⟨("_law_begun", none), false, "_law_begun", "_law_begun", defArgs (top 23), defBody (top 23), defScope (top 23), [], none⟩
def d__law_next : DefL := ⟨("_law_next", none), false, "_law_next", "_law_next", defArgs (top 24), defBody (top 24), defScope (top 24), [], none⟩
def d__law_corner : DefL := ⟨("_law_corner", none), false, "_law_corner", "_law_corner", defArgs (top 26), defBody (top 26), defScope (top 26), [], none⟩
def d_is_whole_in : DefL := ⟨("is_whole_in", none), false, "is_whole_in", "is_whole_in", defArgs (top 9), defBody (top 9), defScope (top 9), [], none⟩
def d_are_whole_in : DefL := ⟨("are_whole_in", none), false, "are_whole_in", "are_whole_in", defArgs (top 10), defBody (top 10), defScope (top 10), [], none⟩
def d_is_corner : DefL := ⟨("is_corner", none), false, "is_corner", "is_corner", defArgs (top 15), defBody (top 15), defScope (top 15), [], none⟩
def d_eye_row : DefL := ⟨("eye_row", none), false, "eye_row", "eye_row", defArgs (top 16), defBody (top 16), defScope (top 16), [], none⟩
def d_crossed_rows : DefL := ⟨("crossed_rows", none), false, "crossed_rows", "crossed_rows", defArgs (top 17), defBody (top 17), defScope (top 17), [], none⟩
def d_linear_edge : DefL := ⟨("linear_edge", none), false, "linear_edge", "linear_edge", defArgs (top 18), defBody (top 18), defScope (top 18), [], none⟩
def d_Triangle___init__ : DefL := ⟨("Triangle", some "__init__"), false, "__init__", "Triangle.__init__", defArgs (mem 21 0), defBody (mem 21 0), defScope (mem 21 0), [], none⟩
def d__law_odd_corner : DefL := ⟨("_law_odd_corner", none), false, "_law_odd_corner", "_law_odd_corner", defArgs (top 27), defBody (top 27), defScope (top 27), [], none⟩
def d__law_odd_spot : DefL := ⟨("_law_odd_spot", none), false, "_law_odd_spot", "_law_odd_spot", defArgs (top 28), defBody (top 28), defScope (top 28), [], none⟩
def d_need_whole_place : DefL := ⟨("need_whole_place", none), false, "need_whole_place", "need_whole_place", defArgs (top 19), defBody (top 19), defScope (top 19), [], none⟩
def d_Triangle_values_at : DefL := ⟨("Triangle", some "values_at"), false, "values_at", "Triangle.values_at", defArgs (mem 21 5), defBody (mem 21 5), defScope (mem 21 5), [], none⟩
def d_is_let_in : DefL := ⟨("is_let_in", none), false, "is_let_in", "is_let_in", defArgs (top 20), defBody (top 20), defScope (top 20), [], none⟩
def d_Triangle_is_over : DefL := ⟨("Triangle", some "is_over"), false, "is_over", "Triangle.is_over", defArgs (mem 21 7), defBody (mem 21 7), defScope (mem 21 7), [], none⟩
def d_Triangle_covers : DefL := ⟨("Triangle", some "covers"), false, "covers", "Triangle.covers", defArgs (mem 21 8), defBody (mem 21 8), defScope (mem 21 8), [], none⟩
def d_Triangle_depth_by : DefL := ⟨("Triangle", some "depth_by"), false, "depth_by", "Triangle.depth_by", defArgs (mem 21 9), defBody (mem 21 9), defScope (mem 21 9), [], none⟩
def d_Triangle_fragment_so : DefL := ⟨("Triangle", some "fragment_so"), false, "fragment_so", "Triangle.fragment_so", defArgs (mem 21 11), defBody (mem 21 11), defScope (mem 21 11), [], none⟩
def d_Triangle_fragment_at : DefL := ⟨("Triangle", some "fragment_at"), false, "fragment_at", "Triangle.fragment_at", defArgs (mem 21 10), defBody (mem 21 10), defScope (mem 21 10), [], none⟩
def d_Triangle_lets_in : DefL := ⟨("Triangle", some "lets_in"), false, "lets_in", "Triangle.lets_in", defArgs (mem 21 6), defBody (mem 21 6), defScope (mem 21 6), [], none⟩
def d__law_refused_right : DefL := ⟨("_law_refused_right", none), false, "_law_refused_right", "_law_refused_right", defArgs (top 29), defBody (top 29), defScope (top 29), [], none⟩
def d_Triangle___eq__ : DefL := ⟨("Triangle", some "__eq__"), false, "__eq__", "Triangle.__eq__", defArgs (mem 21 1), defBody (mem 21 1), defScope (mem 21 1), [], none⟩
def d_law : DefL := ⟨("law", none), false, "law", "law", defArgs (top 30), defBody (top 30), defScope (top 30), [], none⟩
def d_BadCorner___init__ : DefL := ⟨("BadCorner", some "__init__"), false, "__init__", "BadCorner.__init__", defArgs (mem 6 0), defBody (mem 6 0), defScope (mem 6 0), [], some ("reason", "/claim/cut.py")⟩
def d_BadPlace___init__ : DefL := ⟨("BadPlace", some "__init__"), false, "__init__", "BadPlace.__init__", defArgs (mem 5 0), defBody (mem 5 0), defScope (mem 5 0), [], some ("reason", "/claim/cut.py")⟩
def d_BadNumber___init__ : DefL := ⟨("BadNumber", some "__init__"), false, "__init__", "BadNumber.__init__", defArgs (mem 7 0), defBody (mem 7 0), defScope (mem 7 0), [], some ("reason", "/claim/cut.py")⟩
def fl : List Fl := [.k (.glo "_law_begun"), .k (.free "len"), .k (.free "min"), .k (.free "range"), .k (.glo "_law_corner"), .k (.mkr "Triangle"), .k (.glo "Triangle"), .k (.free "repr"), .k (.free "tuple"), .k (.glo "_law_refused_right"), .k (.meth "Triangle" "__eq__"), .isi "Triangle", .ne "Triangle", .k (.cls "Triangle"), .k (.meth "Triangle" "lets_in"), .k (.meth "Triangle" "covers"), .k (.glo "_law_said"), .k (.meth "Triangle" "fragment_at"), .k (.free "list"), .k (.glo "_law_next"), .k (.free "int"), .k (.glo "is_corner"), .k (.free "all"), .k (.glo "BadCorner"), .k (.glo "eye_row"), .k (.glo "crossed_rows"), .k (.glo "linear_edge"), .gc "MAX_NUMBER" c_MAX_NUMBER, .k (.glo "are_whole_in"), .k (.free "isinstance"), .k (.glo "is_whole_in"), .k (.free "bool"), .k (.glo "_law_odd_corner"), .k (.glo "_law_odd_spot"), .k (.glo "need_whole_place"), .k (.meth "Triangle" "values_at"), .k (.meth "Triangle" "is_over"), .k (.glo "BadPlace"), .k (.free "zip"), .k (.glo "is_let_in"), .k (.meth "Triangle" "fragment_so"), .k (.meth "Triangle" "depth_by"), .gc "DEPTHS" c_DEPTHS, .k (.free "sum"), .gc "COLORS" c_COLORS, .k (.free "max"), .k (.free "abs"), .k (.glo "BadNumber"), .k (.noat "Triangle" "corners"), .k (.noat "Triangle" "own_size"), .k (.noat "Triangle" "own_edges"), .k (.glo "law"), .exm "BadCorner" "BadPlace" false, .exm "BadCorner" "BadNumber" false, .exm "BadCorner" "BadCorner" true, .exm "BadPlace" "BadPlace" true, .exm "BadPlace" "BadNumber" false, .exm "BadPlace" "BadCorner" false, .exm "BadNumber" "BadPlace" false, .exm "BadNumber" "BadNumber" true, .exm "BadNumber" "BadCorner" false]
def fn : List DefL := [d__law_said, d__law_begun, d__law_next, d__law_corner, d_is_whole_in, d_are_whole_in, d_is_corner, d_eye_row, d_crossed_rows, d_linear_edge, d_Triangle___init__, d__law_odd_corner, d__law_odd_spot, d_need_whole_place, d_Triangle_values_at, d_is_let_in, d_Triangle_is_over, d_Triangle_covers, d_Triangle_depth_by, d_Triangle_fragment_so, d_Triangle_fragment_at, d_Triangle_lets_in, d__law_refused_right, d_Triangle___eq__, d_law, d_BadCorner___init__, d_BadPlace___init__, d_BadNumber___init__]
abbrev Bt := Bs fl fn
theorem err_BadCorner {K : PySem.W.Frag} {mg : Str → Option Value} (B : Bt K mg) : ErrC K (ga K "BadCorner") (ma K (ga K "BadCorner") "__init__") "reason" "reason" "/claim/cut.py" :=
  B.c.err_ 25 (d := d_BadCorner___init__) rfl rfl ⟨⟨_, _, rfl⟩, by decide, by decide, ⟨_, _, _, _, _, _, _, _, _, _, _, _, rfl, rfl⟩, rfl, rfl, rfl, rfl, by decide, rfl, rfl, rfl⟩
theorem err_BadPlace {K : PySem.W.Frag} {mg : Str → Option Value} (B : Bt K mg) : ErrC K (ga K "BadPlace") (ma K (ga K "BadPlace") "__init__") "reason" "reason" "/claim/cut.py" :=
  B.c.err_ 26 (d := d_BadPlace___init__) rfl rfl ⟨⟨_, _, rfl⟩, by decide, by decide, ⟨_, _, _, _, _, _, _, _, _, _, _, _, rfl, rfl⟩, rfl, rfl, rfl, rfl, by decide, rfl, rfl, rfl⟩
theorem err_BadNumber {K : PySem.W.Frag} {mg : Str → Option Value} (B : Bt K mg) : ErrC K (ga K "BadNumber") (ma K (ga K "BadNumber") "__init__") "reason" "reason" "/claim/cut.py" :=
  B.c.err_ 27 (d := d_BadNumber___init__) rfl rfl ⟨⟨_, _, rfl⟩, by decide, by decide, ⟨_, _, _, _, _, _, _, _, _, _, _, _, rfl, rfl⟩, rfl, rfl, rfl, rfl, by decide, rfl, rfl, rfl⟩
theorem hm_BadPlace {w : World} {K : PySem.W.Frag} {mg : Str → Option Value} (B : Bt K mg) : ∀ (n : Nat) (C : Addr) (nm : List Str), (TX w K).exc n = some (C, nm) → PySem.W.exmOne K (.ref C) (.ref (ga K "BadPlace")) = some (mH_BadPlace n)
  | 0, C, nm, h => by cases h; exact B.exm 52
  | 1, C, nm, h => by cases h; exact B.exm 55
  | 2, C, nm, h => by cases h; exact B.exm 58
  | n + 3, C, nm, h => by cases h
theorem hm_BadNumber {w : World} {K : PySem.W.Frag} {mg : Str → Option Value} (B : Bt K mg) : ∀ (n : Nat) (C : Addr) (nm : List Str), (TX w K).exc n = some (C, nm) → PySem.W.exmOne K (.ref C) (.ref (ga K "BadNumber")) = some (mH_BadNumber n)
  | 0, C, nm, h => by cases h; exact B.exm 53
  | 1, C, nm, h => by cases h; exact B.exm 56
  | 2, C, nm, h => by cases h; exact B.exm 59
  | n + 3, C, nm, h => by cases h
theorem hm_BadCorner {w : World} {K : PySem.W.Frag} {mg : Str → Option Value} (B : Bt K mg) : ∀ (n : Nat) (C : Addr) (nm : List Str), (TX w K).exc n = some (C, nm) → PySem.W.exmOne K (.ref C) (.ref (ga K "BadCorner")) = some (mH_BadCorner n)
  | 0, C, nm, h => by cases h; exact B.exm 54
  | 1, C, nm, h => by cases h; exact B.exm 57
  | 2, C, nm, h => by cases h; exact B.exm 60
  | n + 3, C, nm, h => by cases h
theorem at_corners {X : Cx} {mg : Str → Option Value} (B : Bt X.K mg) : AttrOk X (TX X.w X.K) "corners" ix_corners := by
  intro c k e
  unfold ix_corners at e
  split at e
  · cases e; exact ⟨_, _, rfl, rfl, by decide, by decide, B.cls 13, B.noat 48⟩
  · cases e
theorem at_own_size {X : Cx} {mg : Str → Option Value} (B : Bt X.K mg) : AttrOk X (TX X.w X.K) "own_size" ix_own_size := by
  intro c k e
  unfold ix_own_size at e
  split at e
  · cases e; exact ⟨_, _, rfl, rfl, by decide, by decide, B.cls 13, B.noat 49⟩
  · cases e
theorem at_own_edges {X : Cx} {mg : Str → Option Value} (B : Bt X.K mg) : AttrOk X (TX X.w X.K) "own_edges" ix_own_edges := by
  intro c k e
  unfold ix_own_edges at e
  split at e
  · cases e; exact ⟨_, _, rfl, rfl, by decide, by decide, B.cls 13, B.noat 50⟩
  · cases e
abbrev N__law_said : List Str := ["_law_deed", "_law_told"]
theorem sc__law_said : FnScope ["_law_deed", "_law_told"] ["_law_deed"] (defScope (top 25)) := ⟨rfl, rfl, rfl, by decide +kernel, rfl, by decide +kernel, by decide +kernel⟩
theorem giv__law_said {X : Cx} {k : Nat} (B : Bt X.K X.mg) (hP : PrgOk X.prog "/claim/cut.py") (cdg : Value) : GivL X (TX X.w X.K) k N__law_said "_law_said" (defScope (top 25)) (ga X.K "_law_said") cdg (defBody (top 25)) "_law_deed" u__law_said := by
  intro q fb n f c σ s H W act hr tk
  have hu := hr.units
  have hu1 := Nat.lt_of_le_of_lt (Nat.add_le_add_left (by decide : 1 ≤ 64) _) hu
  have hu9 := Nat.lt_of_le_of_lt (Nat.add_le_add_left (by decide : 9 ≤ 64) _) hu
  have hu65 := hr.u65
  have sc := sc__law_said
  exact (fss_cons (fs_set (i := 1) sc.nd rfl (by first | exact Or.inl rfl | exact Or.inr rfl) (fe_str (y := [110, 111, 110, 101]) rfl)) (fss_cons (fs_tryN rfl rfl sc.nd tk (fun W pn xe tk => by exact (fss_one (fs_expr (act _ _ _ _ _ tk)))) (.un ⟨rfl, by decide, .inl (B.glo 23)⟩ (by first | exact hm_BadCorner B | exact hm_BadCorner (w := X.w) B | exact hm_BadCorner (w := w) B) (fun a oe pn => by exact (fss_one (fs_set (i := 1) sc.nd rfl (by first | exact Or.inl rfl | exact Or.inr rfl) (fe_str (y := [99, 111, 114, 110, 101, 114]) rfl)))) (.un ⟨rfl, by decide, .inl (B.glo 47)⟩ (by first | exact hm_BadNumber B | exact hm_BadNumber (w := X.w) B | exact hm_BadNumber (w := w) B) (fun a oe pn => by exact (fss_one (fs_set (i := 1) sc.nd rfl (by first | exact Or.inl rfl | exact Or.inr rfl) (fe_str (y := [110, 117, 109, 98, 101, 114]) rfl)))) (.un ⟨rfl, by decide, .inl (B.glo 37)⟩ (by first | exact hm_BadPlace B | exact hm_BadPlace (w := X.w) B | exact hm_BadPlace (w := w) B) (fun a oe pn => by exact (fss_one (fs_set (i := 1) sc.nd rfl (by first | exact Or.inl rfl | exact Or.inr rfl) (fe_str (y := [112, 108, 97, 99, 101]) rfl)))) .stop)))) (fss_one (fs_ret (fe_var 1 (pv 1))))))
abbrev N__law_begun : List Str := ["_law_script", "_law_cell"]
theorem sc__law_begun : FnScope ["_law_script", "_law_cell"] ["_law_script"] (defScope (top 23)) := ⟨rfl, rfl, rfl, by decide +kernel, rfl, by decide +kernel, by decide +kernel⟩
theorem ok__law_begun {P : Program} {w : World} {K : PySem.W.Frag} {mg : Str → Option Value} (B : Bt K mg) (hP : PrgOk P "/claim/cut.py") : ∃ fd, (∀ base, TbsOk tbs K mg base → FnL P w K mg base (TX w K) 1 (ga K "_law_begun") fd ["_law_script"] f__law_begun) ∧ Binds K fd ["_law_script"] [] ∧ PySem.W.keepIn K (.ref (ga K "_law_begun")) = true := by
  obtain ⟨fd, F⟩ := B.c.def_ 1 (d := d__law_begun) rfl
  refine ⟨fd, fun base tbo => def_okD F sc__law_begun fun cdv A outer s H E W hr tk => ?_, FunD.bindsN F fun _ _ _ _ _ _ us hl => match us, hl with | [_], _ => rfl, F.kp⟩
  have hu := hr.units
  have hu1 := Nat.lt_of_le_of_lt (Nat.add_le_add_left (by decide : 1 ≤ 64) _) hu
  have hu9 := Nat.lt_of_le_of_lt (Nat.add_le_add_left (by decide : 9 ≤ 64) _) hu
  have hu65 := hr.u65
  have sc := sc__law_begun
  exact (fss_one (fs_ret (fe_dict (fps_cons (fe_str (y := [99, 101, 108, 108, 115]) rfl) (fe_bt call_list_of cs_listM rfl (B.free 18) (by decide +kernel) (fa_cons (fe_var 0 (pv 0)) fa_nil)) (fps_cons (fe_str (y := [108, 101, 102, 116]) rfl) (fe_lcW (own := [("_law_cell", 1)]) rfl sc.nd (fw_seq (fe_var 0 (pv 0))) (blkOk_by (by first | (show blkC N__law_begun (defScope (top 23)) _ _ = true; decide +kernel) | kernel_rfl)) (fun s H C cl fp => by exact (fg_name 1 sc.nd rfl (by first | exact Or.inl rfl | exact Or.inr rfl))) (fun s H C cl fp => by exact (fts_one (ft_cmp L2.op_ge os_cmp (by rfl) (fe_var 1 (pv 1)) (fe_op L2.op_pow os_pow fe_int fe_int)))) (fun s H C cl fp => by exact (fe_var 1 (pv 1))) (by decide)) (fps_cons (fe_str (y := [97, 116]) rfl) fe_int fps_nil))) rfl rfl (by simp) (by decide))))
theorem sc__law_next : FnScope ["_law_m", "_law_many", "_law_rest", "_law_k", "_law_cell", "_law_mixed"] ["_law_m", "_law_many"] (defScope (top 24)) := ⟨rfl, rfl, rfl, by decide +kernel, rfl, by decide +kernel, by decide +kernel⟩
theorem ok__law_next {P : Program} {w : World} {K : PySem.W.Frag} {mg : Str → Option Value} (B : Bt K mg) (hP : PrgOk P "/claim/cut.py") : ∃ fd, (∀ base, TbsOk tbs K mg base → FnL P w K mg base (TX w K) 1 (ga K "_law_next") fd ["_law_m", "_law_many"] f__law_next) ∧ Binds K fd ["_law_m", "_law_many"] [] ∧ PySem.W.keepIn K (.ref (ga K "_law_next")) = true := by
  obtain ⟨fd, F⟩ := B.c.def_ 2 (d := d__law_next) rfl
  refine ⟨fd, fun base tbo => def_okD F sc__law_next fun cdv A outer s H E W hr tk => ?_, FunD.bindsN F fun _ _ _ _ _ _ us hl => match us, hl with | [_, _], _ => rfl, F.kp⟩
  have hu := hr.units
  have hu1 := Nat.lt_of_le_of_lt (Nat.add_le_add_left (by decide : 1 ≤ 64) _) hu
  have hu9 := Nat.lt_of_le_of_lt (Nat.add_le_add_left (by decide : 9 ≤ 64) _) hu
  have hu65 := hr.u65
  have sc := sc__law_next
  exact (fss_cons (fs_while (passes_of rfl) (ft_bool (fw_and (ft_cmp (op_neP hu) os_ne (by rfl) (fe_ixA hu1 (fun _ _ => rfl) (fe_var 0 (pv 0)) (fe_str (y := [108, 101, 102, 116]) rfl)) (fe_lst fa_nil)) (fw_and1 (ft_cmp (op_eqP hu) os_eq (by rfl) (fe_ixA hu1 (fun _ _ => rfl) (fe_ixA hu1 (fun _ _ => rfl) (fe_var 0 (pv 0)) (fe_str (y := [108, 101, 102, 116]) rfl)) fe_int) fe_int)))) (fss_one (fs_ix hu1 (fe_var 0 (pv 0)) (fe_str (y := [108, 101, 102, 116]) rfl) (fe_sliceM (fe_ixA hu1 (fun _ _ => rfl) (fe_var 0 (pv 0)) (fe_str (y := [108, 101, 102, 116]) rfl)) (fo_some fe_int) fo_none)))) (fss_cons (fs_if (ft_cmp (op_neP hu) os_ne (by rfl) (fe_ixA hu1 (fun _ _ => rfl) (fe_var 0 (pv 0)) (fe_str (y := [108, 101, 102, 116]) rfl)) (fe_lst fa_nil)) (fss_cons (fs_set (i := 2) sc.nd rfl (by first | exact Or.inl rfl | exact Or.inr rfl) (fe_bt call_int1 cs_int rfl (B.free 20) (by decide +kernel) (fa_cons (fe_ixA hu1 (fun _ _ => rfl) (fe_ixA hu1 (fun _ _ => rfl) (fe_var 0 (pv 0)) (fe_str (y := [108, 101, 102, 116]) rfl)) fe_int) fa_nil))) (fss_cons (fs_ix hu1 (fe_ixA hu1 (fun _ _ => rfl) (fe_var 0 (pv 0)) (fe_str (y := [108, 101, 102, 116]) rfl)) fe_int (fe_op L2.op_fdivW os_div (fe_var 2 (pv 2)) (fe_var 1 (pv 1)))) (fss_one (fs_ret (fe_op L2.op_mod os_mod (fe_var 2 (pv 2)) (fe_var 1 (pv 1))))))) fss_nil) (fss_cons (fs_set (i := 3) sc.nd rfl (by first | exact Or.inl rfl | exact Or.inr rfl) (fe_op op_addA os_add (fe_ixA hu1 (fun _ _ => rfl) (fe_var 0 (pv 0)) (fe_str (y := [97, 116]) rfl)) fe_int)) (fss_cons (fs_ix hu1 (fe_var 0 (pv 0)) (fe_str (y := [97, 116]) rfl) (fe_var 3 (pv 3))) (fss_cons (fs_set (i := 4) sc.nd rfl (by first | exact Or.inl rfl | exact Or.inr rfl) (fe_if (ft_cmp (op_neP hu) os_ne (by rfl) (fe_ixA hu1 (fun _ _ => rfl) (fe_var 0 (pv 0)) (fe_str (y := [99, 101, 108, 108, 115]) rfl)) (fe_lst fa_nil)) (fe_ixA hu1 (fun _ _ => rfl) (fe_ixA hu1 (fun _ _ => rfl) (fe_var 0 (pv 0)) (fe_str (y := [99, 101, 108, 108, 115]) rfl)) (fe_op L2.op_mod os_mod (fe_bt call_int1 cs_int rfl (B.free 20) (by decide +kernel) (fa_cons (fe_var 3 (pv 3)) fa_nil)) (fe_b call_len cs_len rfl (B.free 1) (by decide +kernel) (fa_cons (fe_ixA hu1 (fun _ _ => rfl) (fe_var 0 (pv 0)) (fe_str (y := [99, 101, 108, 108, 115]) rfl)) fa_nil)))) fe_int)) (fss_cons (fs_set (i := 5) sc.nd rfl (by first | exact Or.inl rfl | exact Or.inr rfl) (fe_op op_mulA os_mul (fe_bt call_int1 cs_int rfl (B.free 20) (by decide +kernel) (fa_cons (fe_op op_addA os_add (fe_op op_addA os_add (fe_op L2.op_mod os_mod (fe_bt call_int1 cs_int rfl (B.free 20) (by decide +kernel) (fa_cons (fe_var 4 (pv 4)) fa_nil)) fe_int) (fe_op op_mulA os_mul fe_int (fe_var 3 (pv 3)))) (fe_op op_mulA os_mul (fe_op op_mulA os_mul fe_int (fe_var 3 (pv 3))) (fe_var 3 (pv 3)))) fa_nil)) fe_int)) (fss_cons (fs_set (i := 5) sc.nd rfl (by first | exact Or.inl rfl | exact Or.inr rfl) (fe_op op_mulA os_mul (fe_bt call_int1 cs_int rfl (B.free 20) (by decide +kernel) (fa_cons (fe_op op_addA os_add (fe_op L2.op_mod os_mod (fe_bt call_int1 cs_int rfl (B.free 20) (by decide +kernel) (fa_cons (fe_var 5 (pv 5)) fa_nil)) fe_int) (fe_op op_mulA os_mul fe_int (fe_var 3 (pv 3)))) fa_nil)) fe_int)) (fss_one (fs_ret (fe_op L2.op_mod os_mod (fe_bt call_int1 cs_int rfl (B.free 20) (by decide +kernel) (fa_cons (fe_op L2.op_fdivW os_div (fe_op L2.op_mod os_mod (fe_bt call_int1 cs_int rfl (B.free 20) (by decide +kernel) (fa_cons (fe_var 5 (pv 5)) fa_nil)) fe_int) fe_int) fa_nil)) (fe_var 1 (pv 1))))))))))))
theorem sc__law_corner : FnScope ["_law_m", "_law_found", "_law_k"] ["_law_m"] (defScope (top 26)) := ⟨rfl, rfl, rfl, by decide +kernel, rfl, by decide +kernel, by decide +kernel⟩
theorem ok__law_corner {P : Program} {w : World} {K : PySem.W.Frag} {mg : Str → Option Value} (B : Bt K mg) (hP : PrgOk P "/claim/cut.py") : ∃ fd, (∀ base, TbsOk tbs K mg base → FnL P w K mg base (TX w K) 2 (ga K "_law_corner") fd ["_law_m"] f__law_corner) ∧ Binds K fd ["_law_m"] [] ∧ PySem.W.keepIn K (.ref (ga K "_law_corner")) = true := by
  obtain ⟨fd, F⟩ := B.c.def_ 3 (d := d__law_corner) rfl
  obtain ⟨fd__law_next, G__law_next, b__law_next, k__law_next⟩ := ok__law_next (P := P) (w := w) B hP
  refine ⟨fd, fun base tbo => def_okD F sc__law_corner fun cdv A outer s H E W hr tk => ?_, FunD.bindsN F fun _ _ _ _ _ _ us hl => match us, hl with | [_], _ => rfl, F.kp⟩
  have hu := hr.units
  have hu1 := Nat.lt_of_le_of_lt (Nat.add_le_add_left (by decide : 1 ≤ 64) _) hu
  have hu9 := Nat.lt_of_le_of_lt (Nat.add_le_add_left (by decide : 9 ≤ 64) _) hu
  have hu65 := hr.u65
  have sc := sc__law_corner
  exact (fss_cons (fs_set (i := 1) sc.nd rfl (by first | exact Or.inl rfl | exact Or.inr rfl) (fe_lstM fa_nil)) (fss_cons (fs_for (passes_of rfl) rfl (fi_range1 rfl (B.free 3) fe_int) (fg_name 2 sc.nd rfl (by first | exact Or.inl rfl | exact Or.inr rfl)) (fss_one (fs_expr (fe_m PySem.F.slot_list_append (by rfl) mt_append ms_append (fe_var 1 (pv 1)) (fa_cons (fe_ixA hu1 (fun _ _ => rfl) (fe_lst (fa_cons fe_int (fa_cons (fe_un L2.un_neg us_neg fe_int) (fa_cons fe_int (fa_cons fe_int (fa_cons (fe_op L2.op_sub os_sub (fe_call tk (G__law_next base tbo) (hr.mono (by decide)) rfl (B.glo 19) k__law_next b__law_next Dfl.nil (fa_cons (fe_var 0 (pv 0)) (fa_cons fe_int fa_nil))) fe_int) (fa_cons (fe_op L2.op_sub os_sub (fe_call tk (G__law_next base tbo) (hr.mono (by decide)) rfl (B.glo 19) k__law_next b__law_next Dfl.nil (fa_cons (fe_var 0 (pv 0)) (fa_cons fe_int fa_nil))) fe_int) fa_nil))))))) (fe_call tk (G__law_next base tbo) (hr.mono (by decide)) rfl (B.glo 19) k__law_next b__law_next Dfl.nil (fa_cons (fe_var 0 (pv 0)) (fa_cons fe_int fa_nil)))) fa_nil))))) (fss_one (fs_ret (fe_op op_addA os_add (fe_bt call_tuple_of cs_tuple rfl (B.free 8) (by decide +kernel) (fa_cons (fe_var 1 (pv 1)) fa_nil)) (fe_tup (fa_cons (fe_ixA hu1 (fun _ _ => rfl) (fe_lst (fa_cons fe_int (fa_cons fe_int (fa_cons (fe_op op_addA os_add fe_int (fe_call tk (G__law_next base tbo) (hr.mono (by decide)) rfl (B.glo 19) k__law_next b__law_next Dfl.nil (fa_cons (fe_var 0 (pv 0)) (fa_cons fe_int fa_nil)))) fa_nil)))) (fe_call tk (G__law_next base tbo) (hr.mono (by decide)) rfl (B.glo 19) k__law_next b__law_next Dfl.nil (fa_cons (fe_var 0 (pv 0)) (fa_cons fe_int fa_nil)))) fa_nil)))))))
theorem sc_is_whole_in : FnScope ["value", "least", "most"] ["value", "least", "most"] (defScope (top 9)) := ⟨rfl, rfl, rfl, by decide +kernel, rfl, by decide +kernel, by decide +kernel⟩
theorem ok_is_whole_in {P : Program} {w : World} {K : PySem.W.Frag} {mg : Str → Option Value} (B : Bt K mg) (hP : PrgOk P "/claim/cut.py") : ∃ fd, (∀ base, TbsOk tbs K mg base → FnL P w K mg base (TX w K) 1 (ga K "is_whole_in") fd ["value", "least", "most"] f_is_whole_in) ∧ Binds K fd ["value", "least", "most"] [] ∧ PySem.W.keepIn K (.ref (ga K "is_whole_in")) = true := by
  obtain ⟨fd, F⟩ := B.c.def_ 4 (d := d_is_whole_in) rfl
  refine ⟨fd, fun base tbo => def_okD F sc_is_whole_in fun cdv A outer s H E W hr tk => ?_, FunD.bindsN F fun _ _ _ _ _ _ us hl => match us, hl with | [_, _, _], _ => rfl, F.kp⟩
  have hu := hr.units
  have hu1 := Nat.lt_of_le_of_lt (Nat.add_le_add_left (by decide : 1 ≤ 64) _) hu
  have hu9 := Nat.lt_of_le_of_lt (Nat.add_le_add_left (by decide : 9 ≤ 64) _) hu
  have hu65 := hr.u65
  have sc := sc_is_whole_in
  exact (fss_one (fs_ret (fe_and (fe_isi (t := .int) (fe_var 0 (pv 0)) rfl (B.free 29) rfl (B.free 20) (by decide +kernel) (by decide +kernel)) (fe_and (fe_not (fe_isi (t := .bool) (fe_var 0 (pv 0)) rfl (B.free 29) rfl (B.free 31) (by decide +kernel) (by decide +kernel))) (fe_one (fe_chain L2.op_le L2.op_le os_cmp os_cmp (by rfl) (fe_var 1 (pv 1)) (fe_var 0 (pv 0)) (fe_var 2 (pv 2))))))))
abbrev N_are_whole_in : List Str := ["value", "many", "least", "most", "part"]
theorem sc_are_whole_in : FnScope ["value", "many", "least", "most", "part"] ["value", "many", "least", "most"] (defScope (top 10)) := ⟨rfl, rfl, rfl, by decide +kernel, rfl, by decide +kernel, by decide +kernel⟩
theorem ok_are_whole_in {P : Program} {w : World} {K : PySem.W.Frag} {mg : Str → Option Value} (B : Bt K mg) (hP : PrgOk P "/claim/cut.py") : ∃ fd, (∀ base, TbsOk tbs K mg base → FnL P w K mg base (TX w K) 2 (ga K "are_whole_in") fd ["value", "many", "least", "most"] f_are_whole_in) ∧ Binds K fd ["value", "many", "least", "most"] [] ∧ PySem.W.keepIn K (.ref (ga K "are_whole_in")) = true := by
  obtain ⟨fd, F⟩ := B.c.def_ 5 (d := d_are_whole_in) rfl
  obtain ⟨fd_is_whole_in, G_is_whole_in, b_is_whole_in, k_is_whole_in⟩ := ok_is_whole_in (P := P) (w := w) B hP
  refine ⟨fd, fun base tbo => def_okD F sc_are_whole_in fun cdv A outer s H E W hr tk => ?_, FunD.bindsN F fun _ _ _ _ _ _ us hl => match us, hl with | [_, _, _, _], _ => rfl, F.kp⟩
  have hu := hr.units
  have hu1 := Nat.lt_of_le_of_lt (Nat.add_le_add_left (by decide : 1 ≤ 64) _) hu
  have hu9 := Nat.lt_of_le_of_lt (Nat.add_le_add_left (by decide : 9 ≤ 64) _) hu
  have hu65 := hr.u65
  have sc := sc_are_whole_in
  exact (fss_cons (fs_if (ft_bool (fw_or (ft_not (ft_val (fe_isi (t := .tuple) (fe_var 0 (pv 0)) rfl (B.free 29) rfl (B.free 8) (by decide +kernel) (by decide +kernel)))) (fw_or1 (ft_cmp (op_neP hu) os_ne (by rfl) (fe_b call_len cs_len rfl (B.free 1) (by decide +kernel) (fa_cons (fe_var 0 (pv 0)) fa_nil)) (fe_var 1 (pv 1)))))) (fss_one (fs_ret fe_bl)) fss_nil) (fss_one (fs_ret (fe_b (cr_all rfl) cs_all rfl (B.free 22) (by decide +kernel) (fa_cons (fe_lcW (own := [("part", 4)]) rfl sc.nd (fw_seq (fe_var 0 (pv 0))) (blkOk_by (by first | (show blkC N_are_whole_in (defScope (top 10)) _ _ = true; decide +kernel) | kernel_rfl)) (fun s H C cl fp => by exact (fg_name 4 sc.nd rfl (by first | exact Or.inl rfl | exact Or.inr rfl))) (fun s H C cl fp => by exact fts_nil) (fun s H C cl fp => by exact (fe_call takes0 (G_is_whole_in base tbo) (hr.mono (by decide)) rfl (B.glo 30) k_is_whole_in b_is_whole_in Dfl.nil (fa_cons (fe_var 4 (pv 4)) (fa_cons (fe_var 2 (pv 2)) (fa_cons (fe_var 3 (pv 3)) fa_nil))))) (by decide)) fa_nil)))))
theorem sc_is_corner : FnScope ["value"] ["value"] (defScope (top 15)) := ⟨rfl, rfl, rfl, by decide +kernel, rfl, by decide +kernel, by decide +kernel⟩
theorem ok_is_corner {P : Program} {w : World} {K : PySem.W.Frag} {mg : Str → Option Value} (B : Bt K mg) (hP : PrgOk P "/claim/cut.py") : ∃ fd, (∀ base, TbsOk tbs K mg base → FnL P w K mg base (TX w K) 3 (ga K "is_corner") fd ["value"] f_is_corner) ∧ Binds K fd ["value"] [] ∧ PySem.W.keepIn K (.ref (ga K "is_corner")) = true := by
  obtain ⟨fd, F⟩ := B.c.def_ 6 (d := d_is_corner) rfl
  obtain ⟨fd_are_whole_in, G_are_whole_in, b_are_whole_in, k_are_whole_in⟩ := ok_are_whole_in (P := P) (w := w) B hP
  refine ⟨fd, fun base tbo => def_okD F sc_is_corner fun cdv A outer s H E W hr tk => ?_, FunD.bindsN F fun _ _ _ _ _ _ us hl => match us, hl with | [_], _ => rfl, F.kp⟩
  have hu := hr.units
  have hu1 := Nat.lt_of_le_of_lt (Nat.add_le_add_left (by decide : 1 ≤ 64) _) hu
  have hu9 := Nat.lt_of_le_of_lt (Nat.add_le_add_left (by decide : 9 ≤ 64) _) hu
  have hu65 := hr.u65
  have sc := sc_is_corner
  exact (fss_one (fs_ret (fe_and (fe_call tk (G_are_whole_in base tbo) (hr.mono (by decide)) rfl (B.glo 28) k_are_whole_in b_are_whole_in Dfl.nil (fa_cons (fe_var 0 (pv 0)) (fa_cons fe_int (fa_cons (fe_un L2.un_neg us_neg (fe_gc rfl (B.gc 27))) (fa_cons (fe_gc rfl (B.gc 27)) fa_nil))))) (fe_one (fe_cmp L2.op_ge os_cmp (by rfl) (fe_ixA hu1 (fun _ _ => rfl) (fe_var 0 (pv 0)) fe_int) fe_int)))))
theorem sc_eye_row : FnScope ["corner"] ["corner"] (defScope (top 16)) := ⟨rfl, rfl, rfl, by decide +kernel, rfl, by decide +kernel, by decide +kernel⟩
theorem ok_eye_row {P : Program} {w : World} {K : PySem.W.Frag} {mg : Str → Option Value} (B : Bt K mg) (hP : PrgOk P "/claim/cut.py") : ∃ fd, (∀ base, TbsOk tbs K mg base → FnL P w K mg base (TX w K) 1 (ga K "eye_row") fd ["corner"] f_eye_row) ∧ Binds K fd ["corner"] [] ∧ PySem.W.keepIn K (.ref (ga K "eye_row")) = true := by
  obtain ⟨fd, F⟩ := B.c.def_ 7 (d := d_eye_row) rfl
  refine ⟨fd, fun base tbo => def_okD F sc_eye_row fun cdv A outer s H E W hr tk => ?_, FunD.bindsN F fun _ _ _ _ _ _ us hl => match us, hl with | [_], _ => rfl, F.kp⟩
  have hu := hr.units
  have hu1 := Nat.lt_of_le_of_lt (Nat.add_le_add_left (by decide : 1 ≤ 64) _) hu
  have hu9 := Nat.lt_of_le_of_lt (Nat.add_le_add_left (by decide : 9 ≤ 64) _) hu
  have hu65 := hr.u65
  have sc := sc_eye_row
  exact (fss_one (fs_ret (fe_tup (fa_cons (fe_ixA hu1 (fun _ _ => rfl) (fe_var 0 (pv 0)) fe_int) (fa_cons (fe_ixA hu1 (fun _ _ => rfl) (fe_var 0 (pv 0)) fe_int) (fa_cons (fe_ixA hu1 (fun _ _ => rfl) (fe_var 0 (pv 0)) fe_int) fa_nil))))))
theorem sc_crossed_rows : FnScope ["one", "other"] ["one", "other"] (defScope (top 17)) := ⟨rfl, rfl, rfl, by decide +kernel, rfl, by decide +kernel, by decide +kernel⟩
theorem ok_crossed_rows {P : Program} {w : World} {K : PySem.W.Frag} {mg : Str → Option Value} (B : Bt K mg) (hP : PrgOk P "/claim/cut.py") : ∃ fd, (∀ base, TbsOk tbs K mg base → FnL P w K mg base (TX w K) 1 (ga K "crossed_rows") fd ["one", "other"] f_crossed_rows) ∧ Binds K fd ["one", "other"] [] ∧ PySem.W.keepIn K (.ref (ga K "crossed_rows")) = true := by
  obtain ⟨fd, F⟩ := B.c.def_ 8 (d := d_crossed_rows) rfl
  refine ⟨fd, fun base tbo => def_okD F sc_crossed_rows fun cdv A outer s H E W hr tk => ?_, FunD.bindsN F fun _ _ _ _ _ _ us hl => match us, hl with | [_, _], _ => rfl, F.kp⟩
  have hu := hr.units
  have hu1 := Nat.lt_of_le_of_lt (Nat.add_le_add_left (by decide : 1 ≤ 64) _) hu
  have hu9 := Nat.lt_of_le_of_lt (Nat.add_le_add_left (by decide : 9 ≤ 64) _) hu
  have hu65 := hr.u65
  have sc := sc_crossed_rows
  exact (fss_one (fs_ret (fe_tup (fa_cons (fe_op L2.op_sub os_sub (fe_op op_mulA os_mul (fe_ixA hu1 (fun _ _ => rfl) (fe_var 0 (pv 0)) fe_int) (fe_ixA hu1 (fun _ _ => rfl) (fe_var 1 (pv 1)) fe_int)) (fe_op op_mulA os_mul (fe_ixA hu1 (fun _ _ => rfl) (fe_var 0 (pv 0)) fe_int) (fe_ixA hu1 (fun _ _ => rfl) (fe_var 1 (pv 1)) fe_int))) (fa_cons (fe_op L2.op_sub os_sub (fe_op op_mulA os_mul (fe_ixA hu1 (fun _ _ => rfl) (fe_var 0 (pv 0)) fe_int) (fe_ixA hu1 (fun _ _ => rfl) (fe_var 1 (pv 1)) fe_int)) (fe_op op_mulA os_mul (fe_ixA hu1 (fun _ _ => rfl) (fe_var 0 (pv 0)) fe_int) (fe_ixA hu1 (fun _ _ => rfl) (fe_var 1 (pv 1)) fe_int))) (fa_cons (fe_op L2.op_sub os_sub (fe_op op_mulA os_mul (fe_ixA hu1 (fun _ _ => rfl) (fe_var 0 (pv 0)) fe_int) (fe_ixA hu1 (fun _ _ => rfl) (fe_var 1 (pv 1)) fe_int)) (fe_op op_mulA os_mul (fe_ixA hu1 (fun _ _ => rfl) (fe_var 0 (pv 0)) fe_int) (fe_ixA hu1 (fun _ _ => rfl) (fe_var 1 (pv 1)) fe_int))) fa_nil))))))
theorem sc_linear_edge : FnScope ["one", "other", "sign", "x", "y", "w"] ["one", "other", "sign"] (defScope (top 18)) := ⟨rfl, rfl, rfl, by decide +kernel, rfl, by decide +kernel, by decide +kernel⟩
theorem ok_linear_edge {P : Program} {w : World} {K : PySem.W.Frag} {mg : Str → Option Value} (B : Bt K mg) (hP : PrgOk P "/claim/cut.py") : ∃ fd, (∀ base, TbsOk tbs K mg base → FnL P w K mg base (TX w K) 2 (ga K "linear_edge") fd ["one", "other", "sign"] f_linear_edge) ∧ Binds K fd ["one", "other", "sign"] [] ∧ PySem.W.keepIn K (.ref (ga K "linear_edge")) = true := by
  obtain ⟨fd, F⟩ := B.c.def_ 9 (d := d_linear_edge) rfl
  obtain ⟨fd_crossed_rows, G_crossed_rows, b_crossed_rows, k_crossed_rows⟩ := ok_crossed_rows (P := P) (w := w) B hP
  refine ⟨fd, fun base tbo => def_okD F sc_linear_edge fun cdv A outer s H E W hr tk => ?_, FunD.bindsN F fun _ _ _ _ _ _ us hl => match us, hl with | [_, _, _], _ => rfl, F.kp⟩
  have hu := hr.units
  have hu1 := Nat.lt_of_le_of_lt (Nat.add_le_add_left (by decide : 1 ≤ 64) _) hu
  have hu9 := Nat.lt_of_le_of_lt (Nat.add_le_add_left (by decide : 9 ≤ 64) _) hu
  have hu65 := hr.u65
  have sc := sc_linear_edge
  exact (fss_cons (fs_asg (fg_tup rfl (fgs_cons (fg_name 3 sc.nd rfl (by first | exact Or.inl rfl | exact Or.inr rfl)) (fgs_cons (fg_name 4 sc.nd rfl (by first | exact Or.inl rfl | exact Or.inr rfl)) (fgs_cons (fg_name 5 sc.nd rfl (by first | exact Or.inl rfl | exact Or.inr rfl)) fgs_nil)))) (fe_call tk (G_crossed_rows base tbo) (hr.mono (by decide)) rfl (B.glo 25) k_crossed_rows b_crossed_rows Dfl.nil (fa_cons (fe_var 0 (pv 0)) (fa_cons (fe_var 1 (pv 1)) fa_nil)))) (fss_one (fs_ret (fe_tup (fa_cons (fe_op op_mulA os_mul (fe_op op_mulA os_mul (fe_var 2 (pv 2)) fe_int) (fe_var 3 (pv 3))) (fa_cons (fe_op op_mulA os_mul (fe_op op_mulA os_mul (fe_var 2 (pv 2)) fe_int) (fe_var 4 (pv 4))) (fa_cons (fe_op op_mulA os_mul (fe_var 2 (pv 2)) (fe_op op_addA os_add (fe_op op_addA os_add (fe_var 3 (pv 3)) (fe_var 4 (pv 4))) (fe_op op_mulA os_mul fe_int (fe_var 5 (pv 5))))) fa_nil)))))))
abbrev N_Triangle___init__ : List Str := ["self", "one", "two", "three", "rows", "behind", "sign", "corner"]
theorem sc_Triangle___init__ : FnScope ["self", "one", "two", "three", "rows", "behind", "sign", "corner"] ["self", "one", "two", "three"] (defScope (mem 21 0)) := ⟨rfl, rfl, rfl, by decide +kernel, rfl, by decide +kernel, by decide +kernel⟩
theorem ok_Triangle___init__ {P : Program} {w : World} {K : PySem.W.Frag} {mg : Str → Option Value} (B : Bt K mg) (hP : PrgOk P "/claim/cut.py") : ∃ fd, (∀ base, TbsOk tbs K mg base → FnL P w K mg base (TX w K) 4 (ma K (ga K "Triangle") "__init__") fd ["self", "one", "two", "three"] f_Triangle___init__) ∧ Binds K fd ["self", "one", "two", "three"] [] ∧ PySem.W.keepIn K (.ref (ma K (ga K "Triangle") "__init__")) = true ∧ KBp K fd ["self", "one", "two", "three"] 1 ["three", "one", "two"] [] [.p 0, .k 1, .k 2, .k 0] := by
  obtain ⟨fd, F⟩ := B.c.def_ 10 (d := d_Triangle___init__) rfl
  obtain ⟨fd_is_corner, G_is_corner, b_is_corner, k_is_corner⟩ := ok_is_corner (P := P) (w := w) B hP
  obtain ⟨fd_eye_row, G_eye_row, b_eye_row, k_eye_row⟩ := ok_eye_row (P := P) (w := w) B hP
  obtain ⟨fd_crossed_rows, G_crossed_rows, b_crossed_rows, k_crossed_rows⟩ := ok_crossed_rows (P := P) (w := w) B hP
  obtain ⟨fd_linear_edge, G_linear_edge, b_linear_edge, k_linear_edge⟩ := ok_linear_edge (P := P) (w := w) B hP
  refine ⟨fd, fun base tbo => def_okD F sc_Triangle___init__ fun cdv A outer s H E W hr tk => ?_, FunD.bindsN F fun _ _ _ _ _ _ us hl => match us, hl with | [_, _, _, _], _ => rfl, F.kp, kbp0 F 1 ["three", "one", "two"] [.p 0, .k 1, .k 2, .k 0] fun _ _ _ _ _ _ us ws h1 h2 => match us, ws, h1, h2 with | [_], [_, _, _], _, _ => rfl⟩
  have hu := hr.units
  have hu1 := Nat.lt_of_le_of_lt (Nat.add_le_add_left (by decide : 1 ≤ 64) _) hu
  have hu9 := Nat.lt_of_le_of_lt (Nat.add_le_add_left (by decide : 9 ≤ 64) _) hu
  have hu65 := hr.u65
  have sc := sc_Triangle___init__
  exact (fss_cons (fs_if (ft_not (ft_val (fe_b (cr_all rfl) cs_all rfl (B.free 22) (by decide +kernel) (fa_cons (fe_lcW (own := [("corner", 7)]) rfl sc.nd (fw_seq (fe_tup (fa_cons (fe_var 1 (pv 1)) (fa_cons (fe_var 2 (pv 2)) (fa_cons (fe_var 3 (pv 3)) fa_nil))))) (blkOk_by (by first | (show blkC N_Triangle___init__ (defScope (mem 21 0)) _ _ = true; decide +kernel) | kernel_rfl)) (fun s H C cl fp => by exact (fg_name 7 sc.nd rfl (by first | exact Or.inl rfl | exact Or.inr rfl))) (fun s H C cl fp => by exact fts_nil) (fun s H C cl fp => by exact (fe_call takes0 (G_is_corner base tbo) (hr.mono (by decide)) rfl (B.glo 21) k_is_corner b_is_corner Dfl.nil (fa_cons (fe_var 7 (pv 7)) fa_nil))) (by decide)) fa_nil)))) (fss_one (fs_raise rfl tk (err_BadCorner B) rfl hP (hr.mono (by decide)) rfl (B.glo 23) (fe_str (y := [110, 111, 32, 99, 111, 114, 110, 101, 114]) rfl))) fss_nil) (fss_cons (fs_fld (at_corners B) (fe_var 0 (pv 0)) (fe_tup (fa_cons (fe_var 1 (pv 1)) (fa_cons (fe_var 2 (pv 2)) (fa_cons (fe_var 3 (pv 3)) fa_nil))))) (fss_cons (by first | exact fs_setLcW (i := 4) (own := [("corner", 7)]) rfl sc.nd rfl rfl rfl (fw_seq (fe_fld (at_corners B) (fe_var 0 (pv 0)))) (blkOk_by (by first | (show blkC N_Triangle___init__ (defScope (mem 21 0)) _ _ = true; decide +kernel) | kernel_rfl)) (fun s H C cl fp => by exact (fg_name 7 sc.nd rfl (by first | exact Or.inl rfl | exact Or.inr rfl))) (fun s H C cl fp => by exact fts_nil) (fun s H C cl fp => by exact (fe_call takes0 (G_eye_row base tbo) (hr.mono (by decide)) rfl (B.glo 24) k_eye_row b_eye_row Dfl.nil (fa_cons (fe_var 7 (pv 7)) fa_nil))) (by decide) | exact fs_set (i := 4) sc.nd rfl (by first | exact Or.inl rfl | exact Or.inr rfl) (fe_lcW (own := [("corner", 7)]) rfl sc.nd (fw_seq (fe_fld (at_corners B) (fe_var 0 (pv 0)))) (blkOk_by (by first | (show blkC N_Triangle___init__ (defScope (mem 21 0)) _ _ = true; decide +kernel) | kernel_rfl)) (fun s H C cl fp => by exact (fg_name 7 sc.nd rfl (by first | exact Or.inl rfl | exact Or.inr rfl))) (fun s H C cl fp => by exact fts_nil) (fun s H C cl fp => by exact (fe_call takes0 (G_eye_row base tbo) (hr.mono (by decide)) rfl (B.glo 24) k_eye_row b_eye_row Dfl.nil (fa_cons (fe_var 7 (pv 7)) fa_nil))) (by decide))) (fss_cons (fs_set (i := 5) sc.nd rfl (by first | exact Or.inl rfl | exact Or.inr rfl) (fe_call tk (G_crossed_rows base tbo) (hr.mono (by decide)) rfl (B.glo 25) k_crossed_rows b_crossed_rows Dfl.nil (fa_cons (fe_ixA hu1 (fun _ _ => rfl) (fe_var 4 (pv 4)) fe_int) (fa_cons (fe_ixA hu1 (fun _ _ => rfl) (fe_var 4 (pv 4)) fe_int) fa_nil)))) (fss_cons (fs_fld (at_own_size B) (fe_var 0 (pv 0)) (fe_op op_addA os_add (fe_op op_addA os_add (fe_op op_mulA os_mul (fe_ixA hu1 (fun _ _ => rfl) (fe_ixA hu1 (fun _ _ => rfl) (fe_var 4 (pv 4)) fe_int) fe_int) (fe_ixA hu1 (fun _ _ => rfl) (fe_var 5 (pv 5)) fe_int)) (fe_op op_mulA os_mul (fe_ixA hu1 (fun _ _ => rfl) (fe_ixA hu1 (fun _ _ => rfl) (fe_var 4 (pv 4)) fe_int) fe_int) (fe_ixA hu1 (fun _ _ => rfl) (fe_var 5 (pv 5)) fe_int))) (fe_op op_mulA os_mul (fe_ixA hu1 (fun _ _ => rfl) (fe_ixA hu1 (fun _ _ => rfl) (fe_var 4 (pv 4)) fe_int) fe_int) (fe_ixA hu1 (fun _ _ => rfl) (fe_var 5 (pv 5)) fe_int)))) (fss_cons (fs_set (i := 6) sc.nd rfl (by first | exact Or.inl rfl | exact Or.inr rfl) (fe_if (ft_cmp L2.op_lt os_cmp (by rfl) (fe_fld (at_own_size B) (fe_var 0 (pv 0))) fe_int) (fe_un L2.un_neg us_neg fe_int) fe_int)) (fss_one (fs_fld (at_own_edges B) (fe_var 0 (pv 0)) (fe_tup (fa_cons (fe_call tk (G_linear_edge base tbo) (hr.mono (by decide)) rfl (B.glo 26) k_linear_edge b_linear_edge Dfl.nil (fa_cons (fe_ixA hu1 (fun _ _ => rfl) (fe_var 4 (pv 4)) fe_int) (fa_cons (fe_ixA hu1 (fun _ _ => rfl) (fe_var 4 (pv 4)) fe_int) (fa_cons (fe_var 6 (pv 6)) fa_nil)))) (fa_cons (fe_call tk (G_linear_edge base tbo) (hr.mono (by decide)) rfl (B.glo 26) k_linear_edge b_linear_edge Dfl.nil (fa_cons (fe_ixA hu1 (fun _ _ => rfl) (fe_var 4 (pv 4)) fe_int) (fa_cons (fe_ixA hu1 (fun _ _ => rfl) (fe_var 4 (pv 4)) fe_int) (fa_cons (fe_var 6 (pv 6)) fa_nil)))) (fa_cons (fe_call tk (G_linear_edge base tbo) (hr.mono (by decide)) rfl (B.glo 26) k_linear_edge b_linear_edge Dfl.nil (fa_cons (fe_ixA hu1 (fun _ _ => rfl) (fe_var 4 (pv 4)) fe_int) (fa_cons (fe_ixA hu1 (fun _ _ => rfl) (fe_var 4 (pv 4)) fe_int) (fa_cons (fe_var 6 (pv 6)) fa_nil)))) fa_nil))))))))))))
theorem sc__law_odd_corner : FnScope ["_law_m", "_law_some", "_law_spot", "_law_base", "_law_odd"] ["_law_m"] (defScope (top 27)) := ⟨rfl, rfl, rfl, by decide +kernel, rfl, by decide +kernel, by decide +kernel⟩
theorem ok__law_odd_corner {P : Program} {w : World} {K : PySem.W.Frag} {mg : Str → Option Value} (B : Bt K mg) (hP : PrgOk P "/claim/cut.py") : ∃ fd, (∀ base, TbsOk tbs K mg base → FnL P w K mg base (TX w K) 2 (ga K "_law_odd_corner") fd ["_law_m"] f__law_odd_corner) ∧ Binds K fd ["_law_m"] [] ∧ PySem.W.keepIn K (.ref (ga K "_law_odd_corner")) = true := by
  obtain ⟨fd, F⟩ := B.c.def_ 11 (d := d__law_odd_corner) rfl
  obtain ⟨fd__law_next, G__law_next, b__law_next, k__law_next⟩ := ok__law_next (P := P) (w := w) B hP
  refine ⟨fd, fun base tbo => def_okD F sc__law_odd_corner fun cdv A outer s H E W hr tk => ?_, FunD.bindsN F fun _ _ _ _ _ _ us hl => match us, hl with | [_], _ => rfl, F.kp⟩
  have hu := hr.units
  have hu1 := Nat.lt_of_le_of_lt (Nat.add_le_add_left (by decide : 1 ≤ 64) _) hu
  have hu9 := Nat.lt_of_le_of_lt (Nat.add_le_add_left (by decide : 9 ≤ 64) _) hu
  have hu65 := hr.u65
  have sc := sc__law_odd_corner
  exact (fss_cons (fs_set (i := 1) sc.nd rfl (by first | exact Or.inl rfl | exact Or.inr rfl) (fe_lst (fa_cons fe_non (fa_cons fe_int (fa_cons (fe_str (y := [99, 111, 114, 110, 101, 114]) rfl) (fa_cons (fe_tup fa_nil) (fa_cons fe_dict0 (fa_cons (fe_lst (fa_cons fe_int (fa_cons fe_int (fa_cons fe_int (fa_cons fe_int (fa_cons fe_int (fa_cons fe_int fa_nil))))))) (fa_cons (fe_tup (fa_cons fe_int (fa_cons fe_int (fa_cons fe_int (fa_cons fe_int (fa_cons fe_int fa_nil)))))) (fa_cons (fe_tup (fa_cons fe_int (fa_cons fe_int (fa_cons fe_int (fa_cons fe_int (fa_cons fe_int (fa_cons fe_int (fa_cons fe_int fa_nil)))))))) (fa_cons (fe_tup (fa_cons fe_int (fa_cons fe_int (fa_cons fe_int (fa_cons fe_int (fa_cons fe_int (fa_cons fe_int fa_nil))))))) fa_nil))))))))))) (fss_cons (fs_set (i := 1) sc.nd rfl (by first | exact Or.inl rfl | exact Or.inr rfl) (fe_op op_addA os_add (fe_var 1 (pv 1)) (fe_lst (fa_cons (fe_tup (fa_cons fe_int (fa_cons fe_int (fa_cons fe_int (fa_cons fe_int (fa_cons fe_int (fa_cons (fe_un L2.un_neg us_neg fe_int) fa_nil))))))) (fa_cons (fe_tup (fa_cons fe_int (fa_cons fe_int (fa_cons fe_int (fa_cons fe_int (fa_cons fe_int (fa_cons fe_bl fa_nil))))))) (fa_cons (fe_tup (fa_cons (fe_tup (fa_cons fe_int (fa_cons fe_int (fa_cons fe_int (fa_cons fe_int (fa_cons fe_int (fa_cons fe_int fa_nil))))))) fa_nil)) (fa_cons (fe_tup (fa_cons fe_int (fa_cons fe_int (fa_cons fe_int (fa_cons fe_int (fa_cons fe_int (fa_cons fe_int fa_nil))))))) fa_nil))))))) (fss_cons (fs_par (i := 2) (j := 3) rfl sc.nd rfl rfl (by decide) rfl rfl (fa_cons (fe_call tk (G__law_next base tbo) (hr.mono (by decide)) rfl (B.glo 19) k__law_next b__law_next Dfl.nil (fa_cons (fe_var 0 (pv 0)) (fa_cons fe_int fa_nil))) (fa_cons (fe_lstM (fa_cons fe_int (fa_cons fe_int (fa_cons fe_int (fa_cons fe_int (fa_cons fe_int (fa_cons fe_int fa_nil))))))) fa_nil)) rfl) (fss_cons (fs_set (i := 4) sc.nd rfl (by first | exact Or.inl rfl | exact Or.inr rfl) (fe_ixA hu1 (fun _ _ => rfl) (fe_lst (fa_cons fe_int (fa_cons (fe_un L2.un_neg us_neg fe_int) (fa_cons fe_bl (fa_cons fe_bl (fa_cons fe_non (fa_cons (fe_str (y := [48]) rfl) (fa_cons (fe_tup (fa_cons fe_int fa_nil)) (fa_cons (fe_op L2.op_pow os_pow fe_int fe_int) fa_nil))))))))) (fe_call tk (G__law_next base tbo) (hr.mono (by decide)) rfl (B.glo 19) k__law_next b__law_next Dfl.nil (fa_cons (fe_var 0 (pv 0)) (fa_cons fe_int fa_nil))))) (fss_cons (fs_ix hu1 (fe_var 3 (pv 3)) (fe_var 2 (pv 2)) (fe_var 4 (pv 4))) (fss_one (fs_ret (fe_ixA hu1 (fun _ _ => rfl) (fe_op op_addA os_add (fe_var 1 (pv 1)) (fe_op op_mulA os_mul (fe_lst (fa_cons (fe_bt call_tuple_of cs_tuple rfl (B.free 8) (by decide +kernel) (fa_cons (fe_var 3 (pv 3)) fa_nil)) fa_nil)) fe_int)) (fe_call tk (G__law_next base tbo) (hr.mono (by decide)) rfl (B.glo 19) k__law_next b__law_next Dfl.nil (fa_cons (fe_var 0 (pv 0)) (fa_cons fe_int fa_nil)))))))))))
theorem sc__law_odd_spot : FnScope ["_law_m", "_law_some"] ["_law_m"] (defScope (top 28)) := ⟨rfl, rfl, rfl, by decide +kernel, rfl, by decide +kernel, by decide +kernel⟩
theorem ok__law_odd_spot {P : Program} {w : World} {K : PySem.W.Frag} {mg : Str → Option Value} (B : Bt K mg) (hP : PrgOk P "/claim/cut.py") : ∃ fd, (∀ base, TbsOk tbs K mg base → FnL P w K mg base (TX w K) 2 (ga K "_law_odd_spot") fd ["_law_m"] f__law_odd_spot) ∧ Binds K fd ["_law_m"] [] ∧ PySem.W.keepIn K (.ref (ga K "_law_odd_spot")) = true := by
  obtain ⟨fd, F⟩ := B.c.def_ 12 (d := d__law_odd_spot) rfl
  obtain ⟨fd__law_next, G__law_next, b__law_next, k__law_next⟩ := ok__law_next (P := P) (w := w) B hP
  refine ⟨fd, fun base tbo => def_okD F sc__law_odd_spot fun cdv A outer s H E W hr tk => ?_, FunD.bindsN F fun _ _ _ _ _ _ us hl => match us, hl with | [_], _ => rfl, F.kp⟩
  have hu := hr.units
  have hu1 := Nat.lt_of_le_of_lt (Nat.add_le_add_left (by decide : 1 ≤ 64) _) hu
  have hu9 := Nat.lt_of_le_of_lt (Nat.add_le_add_left (by decide : 9 ≤ 64) _) hu
  have hu65 := hr.u65
  have sc := sc__law_odd_spot
  exact (fss_cons (fs_set (i := 1) sc.nd rfl (by first | exact Or.inl rfl | exact Or.inr rfl) (fe_lst (fa_cons fe_non (fa_cons fe_int (fa_cons (fe_str (y := [48, 48]) rfl) (fa_cons (fe_tup fa_nil) (fa_cons (fe_tup (fa_cons fe_int fa_nil)) (fa_cons (fe_tup (fa_cons fe_int (fa_cons fe_int (fa_cons fe_int fa_nil)))) (fa_cons (fe_lst (fa_cons fe_int (fa_cons fe_int fa_nil))) (fa_cons (fe_tup (fa_cons fe_bl (fa_cons fe_int fa_nil))) (fa_cons (fe_tup (fa_cons fe_int (fa_cons fe_bl fa_nil))) (fa_cons (fe_tup (fa_cons fe_int (fa_cons fe_int fa_nil))) (fa_cons (fe_tup (fa_cons fe_int (fa_cons (fe_un L2.un_neg us_neg fe_int) fa_nil))) (fa_cons (fe_tup (fa_cons fe_non (fa_cons fe_int fa_nil))) fa_nil)))))))))))))) (fss_one (fs_ret (fe_ixA hu1 (fun _ _ => rfl) (fe_op op_addA os_add (fe_var 1 (pv 1)) (fe_lst (fa_cons (fe_tup (fa_cons fe_int (fa_cons (fe_str (y := [48]) rfl) fa_nil))) (fa_cons (fe_tup (fa_cons (fe_tup (fa_cons fe_int fa_nil)) (fa_cons fe_int fa_nil))) (fa_cons fe_dict0 (fa_cons (fe_tup (fa_cons (fe_op L2.op_pow os_pow fe_int fe_int) (fa_cons fe_int fa_nil))) (fa_cons (fe_tup (fa_cons (fe_un L2.un_neg us_neg fe_int) (fa_cons fe_int fa_nil))) (fa_cons (fe_tup (fa_cons fe_int (fa_cons fe_int fa_nil))) fa_nil)))))))) (fe_call tk (G__law_next base tbo) (hr.mono (by decide)) rfl (B.glo 19) k__law_next b__law_next Dfl.nil (fa_cons (fe_var 0 (pv 0)) (fa_cons fe_int fa_nil)))))))
theorem sc_need_whole_place : FnScope ["value"] ["value"] (defScope (top 19)) := ⟨rfl, rfl, rfl, by decide +kernel, rfl, by decide +kernel, by decide +kernel⟩
theorem ok_need_whole_place {P : Program} {w : World} {K : PySem.W.Frag} {mg : Str → Option Value} (B : Bt K mg) (hP : PrgOk P "/claim/cut.py") : ∃ fd, (∀ base, TbsOk tbs K mg base → FnL P w K mg base (TX w K) 3 (ga K "need_whole_place") fd ["value"] f_need_whole_place) ∧ Binds K fd ["value"] [] ∧ PySem.W.keepIn K (.ref (ga K "need_whole_place")) = true := by
  obtain ⟨fd, F⟩ := B.c.def_ 13 (d := d_need_whole_place) rfl
  obtain ⟨fd_are_whole_in, G_are_whole_in, b_are_whole_in, k_are_whole_in⟩ := ok_are_whole_in (P := P) (w := w) B hP
  refine ⟨fd, fun base tbo => def_okD F sc_need_whole_place fun cdv A outer s H E W hr tk => ?_, FunD.bindsN F fun _ _ _ _ _ _ us hl => match us, hl with | [_], _ => rfl, F.kp⟩
  have hu := hr.units
  have hu1 := Nat.lt_of_le_of_lt (Nat.add_le_add_left (by decide : 1 ≤ 64) _) hu
  have hu9 := Nat.lt_of_le_of_lt (Nat.add_le_add_left (by decide : 9 ≤ 64) _) hu
  have hu65 := hr.u65
  have sc := sc_need_whole_place
  exact (fss_one (fs_if (ft_not (ft_val (fe_call tk (G_are_whole_in base tbo) (hr.mono (by decide)) rfl (B.glo 28) k_are_whole_in b_are_whole_in Dfl.nil (fa_cons (fe_var 0 (pv 0)) (fa_cons fe_int (fa_cons (fe_un L2.un_neg us_neg (fe_gc rfl (B.gc 27))) (fa_cons (fe_gc rfl (B.gc 27)) fa_nil))))))) (fss_one (fs_raise rfl tk (err_BadPlace B) rfl hP (hr.mono (by decide)) rfl (B.glo 37) (fe_str (y := [110, 111, 32, 112, 97, 105, 114, 32, 111, 102, 32, 105, 110, 116, 101, 103, 101, 114, 115]) rfl))) fss_nil))
abbrev N_Triangle_values_at : List Str := ["self", "place", "i", "j", "a", "b", "c"]
theorem sc_Triangle_values_at : FnScope ["self", "place", "i", "j", "a", "b", "c"] ["self", "place"] (defScope (mem 21 5)) := ⟨rfl, rfl, rfl, by decide +kernel, rfl, by decide +kernel, by decide +kernel⟩
theorem ok_Triangle_values_at {P : Program} {w : World} {K : PySem.W.Frag} {mg : Str → Option Value} (B : Bt K mg) (hP : PrgOk P "/claim/cut.py") : ∃ fd, (∀ base, TbsOk tbs K mg base → FnL P w K mg base (TX w K) 1 (ma K (ga K "Triangle") "values_at") fd ["self", "place"] f_Triangle_values_at) ∧ Binds K fd ["self", "place"] [] ∧ PySem.W.keepIn K (.ref (ma K (ga K "Triangle") "values_at")) = true := by
  obtain ⟨fd, F⟩ := B.c.def_ 14 (d := d_Triangle_values_at) rfl
  refine ⟨fd, fun base tbo => def_okD F sc_Triangle_values_at fun cdv A outer s H E W hr tk => ?_, FunD.bindsN F fun _ _ _ _ _ _ us hl => match us, hl with | [_, _], _ => rfl, F.kp⟩
  have hu := hr.units
  have hu1 := Nat.lt_of_le_of_lt (Nat.add_le_add_left (by decide : 1 ≤ 64) _) hu
  have hu9 := Nat.lt_of_le_of_lt (Nat.add_le_add_left (by decide : 9 ≤ 64) _) hu
  have hu65 := hr.u65
  have sc := sc_Triangle_values_at
  exact (fss_cons (fs_asg (fg_tup rfl (fgs_cons (fg_name 2 sc.nd rfl (by first | exact Or.inl rfl | exact Or.inr rfl)) (fgs_cons (fg_name 3 sc.nd rfl (by first | exact Or.inl rfl | exact Or.inr rfl)) fgs_nil))) (fe_var 1 (pv 1))) (fss_one (fs_ret (fe_lcW (own := [("a", 4), ("b", 5), ("c", 6)]) rfl sc.nd (fw_seq (fe_fld (at_own_edges B) (fe_var 0 (pv 0)))) (blkOk_by (by first | (show blkC N_Triangle_values_at (defScope (mem 21 5)) _ _ = true; decide +kernel) | kernel_rfl)) (fun s H C cl fp => by exact (fg_tup rfl (fgs_cons (fg_name 4 sc.nd rfl (by first | exact Or.inl rfl | exact Or.inr rfl)) (fgs_cons (fg_name 5 sc.nd rfl (by first | exact Or.inl rfl | exact Or.inr rfl)) (fgs_cons (fg_name 6 sc.nd rfl (by first | exact Or.inl rfl | exact Or.inr rfl)) fgs_nil))))) (fun s H C cl fp => by exact fts_nil) (fun s H C cl fp => by exact (fe_op op_addA os_add (fe_op op_addA os_add (fe_op op_mulA os_mul (fe_var 4 (pv 4)) (fe_var 2 (pv 2))) (fe_op op_mulA os_mul (fe_var 5 (pv 5)) (fe_var 3 (pv 3)))) (fe_var 6 (pv 6)))) (by decide)))))
theorem sc_is_let_in : FnScope ["edge", "value"] ["edge", "value"] (defScope (top 20)) := ⟨rfl, rfl, rfl, by decide +kernel, rfl, by decide +kernel, by decide +kernel⟩
theorem ok_is_let_in {P : Program} {w : World} {K : PySem.W.Frag} {mg : Str → Option Value} (B : Bt K mg) (hP : PrgOk P "/claim/cut.py") : ∃ fd, (∀ base, TbsOk tbs K mg base → FnL P w K mg base (TX w K) 1 (ga K "is_let_in") fd ["edge", "value"] f_is_let_in) ∧ Binds K fd ["edge", "value"] [] ∧ PySem.W.keepIn K (.ref (ga K "is_let_in")) = true := by
  obtain ⟨fd, F⟩ := B.c.def_ 15 (d := d_is_let_in) rfl
  refine ⟨fd, fun base tbo => def_okD F sc_is_let_in fun cdv A outer s H E W hr tk => ?_, FunD.bindsN F fun _ _ _ _ _ _ us hl => match us, hl with | [_, _], _ => rfl, F.kp⟩
  have hu := hr.units
  have hu1 := Nat.lt_of_le_of_lt (Nat.add_le_add_left (by decide : 1 ≤ 64) _) hu
  have hu9 := Nat.lt_of_le_of_lt (Nat.add_le_add_left (by decide : 9 ≤ 64) _) hu
  have hu65 := hr.u65
  have sc := sc_is_let_in
  exact (fss_one (fs_ret (fe_or (fe_cmp L2.op_gt os_cmp (by rfl) (fe_var 1 (pv 1)) fe_int) (fe_one (fe_and (fe_cmp (op_eqP hu) os_eq (by rfl) (fe_var 1 (pv 1)) fe_int) (fe_one (fe_or (fe_cmp L2.op_gt os_cmp (by rfl) (fe_ixA hu1 (fun _ _ => rfl) (fe_var 0 (pv 0)) fe_int) fe_int) (fe_one (fe_and (fe_cmp (op_eqP hu) os_eq (by rfl) (fe_ixA hu1 (fun _ _ => rfl) (fe_var 0 (pv 0)) fe_int) fe_int) (fe_one (fe_cmp L2.op_gt os_cmp (by rfl) (fe_ixA hu1 (fun _ _ => rfl) (fe_var 0 (pv 0)) fe_int) fe_int)))))))))))
abbrev N_Triangle_is_over : List Str := ["self", "values", "edge", "value"]
theorem sc_Triangle_is_over : FnScope ["self", "values", "edge", "value"] ["self", "values"] (defScope (mem 21 7)) := ⟨rfl, rfl, rfl, by decide +kernel, rfl, by decide +kernel, by decide +kernel⟩
theorem ok_Triangle_is_over {P : Program} {w : World} {K : PySem.W.Frag} {mg : Str → Option Value} (B : Bt K mg) (hP : PrgOk P "/claim/cut.py") : ∃ fd, (∀ base, TbsOk tbs K mg base → FnL P w K mg base (TX w K) 2 (ma K (ga K "Triangle") "is_over") fd ["self", "values"] f_Triangle_is_over) ∧ Binds K fd ["self", "values"] [] ∧ PySem.W.keepIn K (.ref (ma K (ga K "Triangle") "is_over")) = true := by
  obtain ⟨fd, F⟩ := B.c.def_ 16 (d := d_Triangle_is_over) rfl
  obtain ⟨fd_is_let_in, G_is_let_in, b_is_let_in, k_is_let_in⟩ := ok_is_let_in (P := P) (w := w) B hP
  refine ⟨fd, fun base tbo => def_okD F sc_Triangle_is_over fun cdv A outer s H E W hr tk => ?_, FunD.bindsN F fun _ _ _ _ _ _ us hl => match us, hl with | [_, _], _ => rfl, F.kp⟩
  have hu := hr.units
  have hu1 := Nat.lt_of_le_of_lt (Nat.add_le_add_left (by decide : 1 ≤ 64) _) hu
  have hu9 := Nat.lt_of_le_of_lt (Nat.add_le_add_left (by decide : 9 ≤ 64) _) hu
  have hu65 := hr.u65
  have sc := sc_Triangle_is_over
  exact (fss_one (fs_ret (fe_and (fe_cmp (op_neP hu) os_ne (by rfl) (fe_fld (at_own_size B) (fe_var 0 (pv 0))) fe_int) (fe_one (fe_b (cr_all rfl) cs_all rfl (B.free 22) (by decide +kernel) (fa_cons (fe_lcW (own := [("edge", 2), ("value", 3)]) rfl sc.nd (fw_zip rfl (B.free 38) (fa_cons (fe_fld (at_own_edges B) (fe_var 0 (pv 0))) (fa_cons (fe_var 1 (pv 1)) fa_nil))) (blkOk_by (by first | (show blkC N_Triangle_is_over (defScope (mem 21 7)) _ _ = true; decide +kernel) | kernel_rfl)) (fun s H C cl fp => by exact (fg_tup rfl (fgs_cons (fg_name 2 sc.nd rfl (by first | exact Or.inl rfl | exact Or.inr rfl)) (fgs_cons (fg_name 3 sc.nd rfl (by first | exact Or.inl rfl | exact Or.inr rfl)) fgs_nil)))) (fun s H C cl fp => by exact fts_nil) (fun s H C cl fp => by exact (fe_call takes0 (G_is_let_in base tbo) (hr.mono (by decide)) rfl (B.glo 39) k_is_let_in b_is_let_in Dfl.nil (fa_cons (fe_var 2 (pv 2)) (fa_cons (fe_var 3 (pv 3)) fa_nil)))) (by decide)) fa_nil))))))
theorem sc_Triangle_covers : FnScope ["self", "place"] ["self", "place"] (defScope (mem 21 8)) := ⟨rfl, rfl, rfl, by decide +kernel, rfl, by decide +kernel, by decide +kernel⟩
theorem ok_Triangle_covers {P : Program} {w : World} {K : PySem.W.Frag} {mg : Str → Option Value} (B : Bt K mg) (hP : PrgOk P "/claim/cut.py") : ∃ fd, (∀ base, TbsOk tbs K mg base → FnL P w K mg base (TX w K) 4 (ma K (ga K "Triangle") "covers") fd ["self", "place"] f_Triangle_covers) ∧ Binds K fd ["self", "place"] [] ∧ PySem.W.keepIn K (.ref (ma K (ga K "Triangle") "covers")) = true ∧ KBp K fd ["self", "place"] 1 ["place"] [] [.p 0, .k 0] := by
  obtain ⟨fd, F⟩ := B.c.def_ 17 (d := d_Triangle_covers) rfl
  obtain ⟨fd_need_whole_place, G_need_whole_place, b_need_whole_place, k_need_whole_place⟩ := ok_need_whole_place (P := P) (w := w) B hP
  obtain ⟨fd_Triangle_values_at, G_Triangle_values_at, b_Triangle_values_at, k_Triangle_values_at⟩ := ok_Triangle_values_at (P := P) (w := w) B hP
  obtain ⟨fd_Triangle_is_over, G_Triangle_is_over, b_Triangle_is_over, k_Triangle_is_over⟩ := ok_Triangle_is_over (P := P) (w := w) B hP
  refine ⟨fd, fun base tbo => def_okD F sc_Triangle_covers fun cdv A outer s H E W hr tk => ?_, FunD.bindsN F fun _ _ _ _ _ _ us hl => match us, hl with | [_, _], _ => rfl, F.kp, kbp0 F 1 ["place"] [.p 0, .k 0] fun _ _ _ _ _ _ us ws h1 h2 => match us, ws, h1, h2 with | [_], [_], _, _ => rfl⟩
  have hu := hr.units
  have hu1 := Nat.lt_of_le_of_lt (Nat.add_le_add_left (by decide : 1 ≤ 64) _) hu
  have hu9 := Nat.lt_of_le_of_lt (Nat.add_le_add_left (by decide : 9 ≤ 64) _) hu
  have hu65 := hr.u65
  have sc := sc_Triangle_covers
  exact (fss_cons (fs_expr (fe_call tk (G_need_whole_place base tbo) (hr.mono (by decide)) rfl (B.glo 34) k_need_whole_place b_need_whole_place Dfl.nil (fa_cons (fe_var 1 (pv 1)) fa_nil))) (fss_one (fs_ret (fe_meth (c := 0) tk ⟨⟨_, rfl, by decide⟩, B.cls 13, B.meth 36⟩ (G_Triangle_is_over base tbo) (hr.mono (by decide)) b_Triangle_is_over Dfl.nil (fe_var 0 (pv 0)) (fa_cons (fe_meth (c := 0) tk ⟨⟨_, rfl, by decide⟩, B.cls 13, B.meth 35⟩ (G_Triangle_values_at base tbo) (hr.mono (by decide)) b_Triangle_values_at Dfl.nil (fe_var 0 (pv 0)) (fa_cons (fe_var 1 (pv 1)) fa_nil)) fa_nil)))))
abbrev N_Triangle_depth_by : List Str := ["self", "values", "near", "value", "corner"]
theorem sc_Triangle_depth_by : FnScope ["self", "values", "near", "value", "corner"] ["self", "values"] (defScope (mem 21 9)) := ⟨rfl, rfl, rfl, by decide +kernel, rfl, by decide +kernel, by decide +kernel⟩
theorem ok_Triangle_depth_by {P : Program} {w : World} {K : PySem.W.Frag} {mg : Str → Option Value} (B : Bt K mg) (hP : PrgOk P "/claim/cut.py") : ∃ fd, (∀ base, TbsOk tbs K mg base → FnL P w K mg base (TX w K) 1 (ma K (ga K "Triangle") "depth_by") fd ["self", "values"] f_Triangle_depth_by) ∧ Binds K fd ["self", "values"] [] ∧ PySem.W.keepIn K (.ref (ma K (ga K "Triangle") "depth_by")) = true := by
  obtain ⟨fd, F⟩ := B.c.def_ 18 (d := d_Triangle_depth_by) rfl
  refine ⟨fd, fun base tbo => def_okD F sc_Triangle_depth_by fun cdv A outer s H E W hr tk => ?_, FunD.bindsN F fun _ _ _ _ _ _ us hl => match us, hl with | [_, _], _ => rfl, F.kp⟩
  have hu := hr.units
  have hu1 := Nat.lt_of_le_of_lt (Nat.add_le_add_left (by decide : 1 ≤ 64) _) hu
  have hu9 := Nat.lt_of_le_of_lt (Nat.add_le_add_left (by decide : 9 ≤ 64) _) hu
  have hu65 := hr.u65
  have sc := sc_Triangle_depth_by
  exact (fss_cons (fs_set (i := 2) sc.nd rfl (by first | exact Or.inl rfl | exact Or.inr rfl) (fe_b (cr_sum rfl) cs_sum rfl (B.free 43) (by decide +kernel) (fa_cons (fe_lcW (own := [("value", 3), ("corner", 4)]) rfl sc.nd (fw_zip rfl (B.free 38) (fa_cons (fe_var 1 (pv 1)) (fa_cons (fe_fld (at_corners B) (fe_var 0 (pv 0))) fa_nil))) (blkOk_by (by first | (show blkC N_Triangle_depth_by (defScope (mem 21 9)) _ _ = true; decide +kernel) | kernel_rfl)) (fun s H C cl fp => by exact (fg_tup rfl (fgs_cons (fg_name 3 sc.nd rfl (by first | exact Or.inl rfl | exact Or.inr rfl)) (fgs_cons (fg_name 4 sc.nd rfl (by first | exact Or.inl rfl | exact Or.inr rfl)) fgs_nil)))) (fun s H C cl fp => by exact fts_nil) (fun s H C cl fp => by exact (fe_op op_mulA os_mul (fe_var 3 (pv 3)) (fe_ixA hu1 (fun _ _ => rfl) (fe_var 4 (pv 4)) fe_int))) (by decide)) fa_nil))) (fss_one (fs_ret (fe_op L2.op_fdivW os_div (fe_var 2 (pv 2)) (fe_op op_mulA os_mul fe_int (fe_b call_abs cs_abs rfl (B.free 46) (by decide +kernel) (fa_cons (fe_fld (at_own_size B) (fe_var 0 (pv 0))) fa_nil)))))))
abbrev N_Triangle_fragment_so : List Str := ["self", "place", "values", "depth", "tint", "value", "corner"]
theorem sc_Triangle_fragment_so : FnScope ["self", "place", "values", "depth", "tint", "value", "corner"] ["self", "place"] (defScope (mem 21 11)) := ⟨rfl, rfl, rfl, by decide +kernel, rfl, by decide +kernel, by decide +kernel⟩
theorem ok_Triangle_fragment_so {P : Program} {w : World} {K : PySem.W.Frag} {mg : Str → Option Value} (B : Bt K mg) (hP : PrgOk P "/claim/cut.py") : ∃ fd, (∀ base, TbsOk tbs K mg base → FnL P w K mg base (TX w K) 3 (ma K (ga K "Triangle") "fragment_so") fd ["self", "place"] f_Triangle_fragment_so) ∧ Binds K fd ["self", "place"] [] ∧ PySem.W.keepIn K (.ref (ma K (ga K "Triangle") "fragment_so")) = true := by
  obtain ⟨fd, F⟩ := B.c.def_ 19 (d := d_Triangle_fragment_so) rfl
  obtain ⟨fd_Triangle_values_at, G_Triangle_values_at, b_Triangle_values_at, k_Triangle_values_at⟩ := ok_Triangle_values_at (P := P) (w := w) B hP
  obtain ⟨fd_Triangle_is_over, G_Triangle_is_over, b_Triangle_is_over, k_Triangle_is_over⟩ := ok_Triangle_is_over (P := P) (w := w) B hP
  obtain ⟨fd_Triangle_depth_by, G_Triangle_depth_by, b_Triangle_depth_by, k_Triangle_depth_by⟩ := ok_Triangle_depth_by (P := P) (w := w) B hP
  refine ⟨fd, fun base tbo => def_okD F sc_Triangle_fragment_so fun cdv A outer s H E W hr tk => ?_, FunD.bindsN F fun _ _ _ _ _ _ us hl => match us, hl with | [_, _], _ => rfl, F.kp⟩
  have hu := hr.units
  have hu1 := Nat.lt_of_le_of_lt (Nat.add_le_add_left (by decide : 1 ≤ 64) _) hu
  have hu9 := Nat.lt_of_le_of_lt (Nat.add_le_add_left (by decide : 9 ≤ 64) _) hu
  have hu65 := hr.u65
  have sc := sc_Triangle_fragment_so
  exact (fss_cons (fs_set (i := 2) sc.nd rfl (by first | exact Or.inl rfl | exact Or.inr rfl) (fe_meth (c := 0) tk ⟨⟨_, rfl, by decide⟩, B.cls 13, B.meth 35⟩ (G_Triangle_values_at base tbo) (hr.mono (by decide)) b_Triangle_values_at Dfl.nil (fe_var 0 (pv 0)) (fa_cons (fe_var 1 (pv 1)) fa_nil))) (fss_cons (fs_if (ft_not (ft_val (fe_meth (c := 0) tk ⟨⟨_, rfl, by decide⟩, B.cls 13, B.meth 36⟩ (G_Triangle_is_over base tbo) (hr.mono (by decide)) b_Triangle_is_over Dfl.nil (fe_var 0 (pv 0)) (fa_cons (fe_var 2 (pv 2)) fa_nil)))) (fss_one (fs_ret fe_non)) fss_nil) (fss_cons (fs_set (i := 3) sc.nd rfl (by first | exact Or.inl rfl | exact Or.inr rfl) (fe_meth (c := 0) tk ⟨⟨_, rfl, by decide⟩, B.cls 13, B.meth 41⟩ (G_Triangle_depth_by base tbo) (hr.mono (by decide)) b_Triangle_depth_by Dfl.nil (fe_var 0 (pv 0)) (fa_cons (fe_var 2 (pv 2)) fa_nil))) (fss_cons (fs_if (ft_not (ft_chain L2.op_le L2.op_lt os_cmp os_cmp (by rfl) fe_int (fe_var 3 (pv 3)) (fe_gc rfl (B.gc 42)))) (fss_one (fs_ret fe_non)) fss_nil) (fss_cons (fs_set (i := 4) sc.nd rfl (by first | exact Or.inl rfl | exact Or.inr rfl) (fe_b (cr_sum rfl) cs_sum rfl (B.free 43) (by decide +kernel) (fa_cons (fe_lcW (own := [("value", 5), ("corner", 6)]) rfl sc.nd (fw_zip rfl (B.free 38) (fa_cons (fe_var 2 (pv 2)) (fa_cons (fe_fld (at_corners B) (fe_var 0 (pv 0))) fa_nil))) (blkOk_by (by first | (show blkC N_Triangle_fragment_so (defScope (mem 21 11)) _ _ = true; decide +kernel) | kernel_rfl)) (fun s H C cl fp => by exact (fg_tup rfl (fgs_cons (fg_name 5 sc.nd rfl (by first | exact Or.inl rfl | exact Or.inr rfl)) (fgs_cons (fg_name 6 sc.nd rfl (by first | exact Or.inl rfl | exact Or.inr rfl)) fgs_nil)))) (fun s H C cl fp => by exact fts_nil) (fun s H C cl fp => by exact (fe_op op_mulA os_mul (fe_var 5 (pv 5)) (fe_ixA hu1 (fun _ _ => rfl) (fe_var 6 (pv 6)) fe_int))) (by decide)) fa_nil))) (fss_cons (fs_set (i := 4) sc.nd rfl (by first | exact Or.inl rfl | exact Or.inr rfl) (fe_op L2.op_fdivW os_div (fe_var 4 (pv 4)) (fe_b (cr_sum rfl) cs_sum rfl (B.free 43) (by decide +kernel) (fa_cons (fe_lcW (own := [("value", 5), ("corner", 6)]) rfl sc.nd (fw_zip rfl (B.free 38) (fa_cons (fe_var 2 (pv 2)) (fa_cons (fe_fld (at_corners B) (fe_var 0 (pv 0))) fa_nil))) (blkOk_by (by first | (show blkC N_Triangle_fragment_so (defScope (mem 21 11)) _ _ = true; decide +kernel) | kernel_rfl)) (fun s H C cl fp => by exact (fg_tup rfl (fgs_cons (fg_name 5 sc.nd rfl (by first | exact Or.inl rfl | exact Or.inr rfl)) (fgs_cons (fg_name 6 sc.nd rfl (by first | exact Or.inl rfl | exact Or.inr rfl)) fgs_nil)))) (fun s H C cl fp => by exact fts_nil) (fun s H C cl fp => by exact (fe_op op_mulA os_mul (fe_var 5 (pv 5)) (fe_ixA hu1 (fun _ _ => rfl) (fe_var 6 (pv 6)) fe_int))) (by decide)) fa_nil)))) (fss_one (fs_ret (fe_tup (fa_cons (fe_b (call_max2 rfl) cs_max2 rfl (B.free 45) (by decide +kernel) (fa_cons fe_int (fa_cons (fe_b (call_min2 rfl) cs_min2 rfl (B.free 2) (by decide +kernel) (fa_cons (fe_op L2.op_sub os_sub (fe_gc rfl (B.gc 44)) fe_int) (fa_cons (fe_var 4 (pv 4)) fa_nil))) fa_nil))) (fa_cons (fe_var 3 (pv 3)) fa_nil)))))))))))
theorem sc_Triangle_fragment_at : FnScope ["self", "place"] ["self", "place"] (defScope (mem 21 10)) := ⟨rfl, rfl, rfl, by decide +kernel, rfl, by decide +kernel, by decide +kernel⟩
theorem ok_Triangle_fragment_at {P : Program} {w : World} {K : PySem.W.Frag} {mg : Str → Option Value} (B : Bt K mg) (hP : PrgOk P "/claim/cut.py") : ∃ fd, (∀ base, TbsOk tbs K mg base → FnL P w K mg base (TX w K) 4 (ma K (ga K "Triangle") "fragment_at") fd ["self", "place"] f_Triangle_fragment_at) ∧ Binds K fd ["self", "place"] [] ∧ PySem.W.keepIn K (.ref (ma K (ga K "Triangle") "fragment_at")) = true ∧ KBp K fd ["self", "place"] 1 ["place"] [] [.p 0, .k 0] := by
  obtain ⟨fd, F⟩ := B.c.def_ 20 (d := d_Triangle_fragment_at) rfl
  obtain ⟨fd_need_whole_place, G_need_whole_place, b_need_whole_place, k_need_whole_place⟩ := ok_need_whole_place (P := P) (w := w) B hP
  obtain ⟨fd_Triangle_fragment_so, G_Triangle_fragment_so, b_Triangle_fragment_so, k_Triangle_fragment_so⟩ := ok_Triangle_fragment_so (P := P) (w := w) B hP
  refine ⟨fd, fun base tbo => def_okD F sc_Triangle_fragment_at fun cdv A outer s H E W hr tk => ?_, FunD.bindsN F fun _ _ _ _ _ _ us hl => match us, hl with | [_, _], _ => rfl, F.kp, kbp0 F 1 ["place"] [.p 0, .k 0] fun _ _ _ _ _ _ us ws h1 h2 => match us, ws, h1, h2 with | [_], [_], _, _ => rfl⟩
  have hu := hr.units
  have hu1 := Nat.lt_of_le_of_lt (Nat.add_le_add_left (by decide : 1 ≤ 64) _) hu
  have hu9 := Nat.lt_of_le_of_lt (Nat.add_le_add_left (by decide : 9 ≤ 64) _) hu
  have hu65 := hr.u65
  have sc := sc_Triangle_fragment_at
  exact (fss_cons (fs_expr (fe_call tk (G_need_whole_place base tbo) (hr.mono (by decide)) rfl (B.glo 34) k_need_whole_place b_need_whole_place Dfl.nil (fa_cons (fe_var 1 (pv 1)) fa_nil))) (fss_one (fs_ret (fe_meth (c := 0) tk ⟨⟨_, rfl, by decide⟩, B.cls 13, B.meth 40⟩ (G_Triangle_fragment_so base tbo) (hr.mono (by decide)) b_Triangle_fragment_so Dfl.nil (fe_var 0 (pv 0)) (fa_cons (fe_var 1 (pv 1)) fa_nil)))))
theorem sc_Triangle_lets_in : FnScope ["self", "edge", "place"] ["self", "edge", "place"] (defScope (mem 21 6)) := ⟨rfl, rfl, rfl, by decide +kernel, rfl, by decide +kernel, by decide +kernel⟩
theorem ok_Triangle_lets_in {P : Program} {w : World} {K : PySem.W.Frag} {mg : Str → Option Value} (B : Bt K mg) (hP : PrgOk P "/claim/cut.py") : ∃ fd, (∀ base, TbsOk tbs K mg base → FnL P w K mg base (TX w K) 4 (ma K (ga K "Triangle") "lets_in") fd ["self", "edge", "place"] f_Triangle_lets_in) ∧ Binds K fd ["self", "edge", "place"] [] ∧ PySem.W.keepIn K (.ref (ma K (ga K "Triangle") "lets_in")) = true ∧ KBp K fd ["self", "edge", "place"] 1 ["place", "edge"] [] [.p 0, .k 1, .k 0] := by
  obtain ⟨fd, F⟩ := B.c.def_ 21 (d := d_Triangle_lets_in) rfl
  obtain ⟨fd_is_whole_in, G_is_whole_in, b_is_whole_in, k_is_whole_in⟩ := ok_is_whole_in (P := P) (w := w) B hP
  obtain ⟨fd_need_whole_place, G_need_whole_place, b_need_whole_place, k_need_whole_place⟩ := ok_need_whole_place (P := P) (w := w) B hP
  obtain ⟨fd_Triangle_values_at, G_Triangle_values_at, b_Triangle_values_at, k_Triangle_values_at⟩ := ok_Triangle_values_at (P := P) (w := w) B hP
  obtain ⟨fd_is_let_in, G_is_let_in, b_is_let_in, k_is_let_in⟩ := ok_is_let_in (P := P) (w := w) B hP
  refine ⟨fd, fun base tbo => def_okD F sc_Triangle_lets_in fun cdv A outer s H E W hr tk => ?_, FunD.bindsN F fun _ _ _ _ _ _ us hl => match us, hl with | [_, _, _], _ => rfl, F.kp, kbp0 F 1 ["place", "edge"] [.p 0, .k 1, .k 0] fun _ _ _ _ _ _ us ws h1 h2 => match us, ws, h1, h2 with | [_], [_, _], _, _ => rfl⟩
  have hu := hr.units
  have hu1 := Nat.lt_of_le_of_lt (Nat.add_le_add_left (by decide : 1 ≤ 64) _) hu
  have hu9 := Nat.lt_of_le_of_lt (Nat.add_le_add_left (by decide : 9 ≤ 64) _) hu
  have hu65 := hr.u65
  have sc := sc_Triangle_lets_in
  exact (fss_cons (fs_if (ft_not (ft_val (fe_call tk (G_is_whole_in base tbo) (hr.mono (by decide)) rfl (B.glo 30) k_is_whole_in b_is_whole_in Dfl.nil (fa_cons (fe_var 1 (pv 1)) (fa_cons fe_int (fa_cons fe_int fa_nil)))))) (fss_one (fs_raise rfl tk (err_BadNumber B) rfl hP (hr.mono (by decide)) rfl (B.glo 47) (fe_str (y := [110, 111, 32, 101, 100, 103, 101]) rfl))) fss_nil) (fss_cons (fs_expr (fe_call tk (G_need_whole_place base tbo) (hr.mono (by decide)) rfl (B.glo 34) k_need_whole_place b_need_whole_place Dfl.nil (fa_cons (fe_var 2 (pv 2)) fa_nil))) (fss_one (fs_ret (fe_call tk (G_is_let_in base tbo) (hr.mono (by decide)) rfl (B.glo 39) k_is_let_in b_is_let_in Dfl.nil (fa_cons (fe_ixA hu1 (fun _ _ => rfl) (fe_fld (at_own_edges B) (fe_var 0 (pv 0))) (fe_var 1 (pv 1))) (fa_cons (fe_ixA hu1 (fun _ _ => rfl) (fe_meth (c := 0) tk ⟨⟨_, rfl, by decide⟩, B.cls 13, B.meth 35⟩ (G_Triangle_values_at base tbo) (hr.mono (by decide)) b_Triangle_values_at Dfl.nil (fe_var 0 (pv 0)) (fa_cons (fe_var 2 (pv 2)) fa_nil)) (fe_var 1 (pv 1))) fa_nil)))))))
theorem sc__law_refused_right : FnScope ["_law_m", "_law_corners", "_law_odd", "_law_spare", "_law_made", "_law_told", "_law_spot", "_law_rim"] ["_law_m", "_law_corners"] (defScope (top 29)) := ⟨rfl, rfl, rfl, by decide +kernel, rfl, by decide +kernel, by decide +kernel⟩
theorem ok__law_refused_right {P : Program} {w : World} {K : PySem.W.Frag} {mg : Str → Option Value} (B : Bt K mg) (hP : PrgOk P "/claim/cut.py") : ∃ fd, (∀ base, TbsOk tbs K mg base → FnL P w K mg base (TX w K) 8 (ga K "_law_refused_right") fd ["_law_m", "_law_corners"] f__law_refused_right) ∧ Binds K fd ["_law_m", "_law_corners"] [] ∧ PySem.W.keepIn K (.ref (ga K "_law_refused_right")) = true := by
  obtain ⟨fd, F⟩ := B.c.def_ 22 (d := d__law_refused_right) rfl
  obtain ⟨fd_Triangle___init__, G_Triangle___init__, b_Triangle___init__, k_Triangle___init__, kb_Triangle___init___0⟩ := ok_Triangle___init__ (P := P) (w := w) B hP
  obtain ⟨fd__law_odd_corner, G__law_odd_corner, b__law_odd_corner, k__law_odd_corner⟩ := ok__law_odd_corner (P := P) (w := w) B hP
  obtain ⟨fd__law_next, G__law_next, b__law_next, k__law_next⟩ := ok__law_next (P := P) (w := w) B hP
  obtain ⟨fd__law_odd_spot, G__law_odd_spot, b__law_odd_spot, k__law_odd_spot⟩ := ok__law_odd_spot (P := P) (w := w) B hP
  obtain ⟨fd_Triangle_covers, G_Triangle_covers, b_Triangle_covers, k_Triangle_covers, kb_Triangle_covers_0⟩ := ok_Triangle_covers (P := P) (w := w) B hP
  obtain ⟨fd_Triangle_fragment_at, G_Triangle_fragment_at, b_Triangle_fragment_at, k_Triangle_fragment_at, kb_Triangle_fragment_at_0⟩ := ok_Triangle_fragment_at (P := P) (w := w) B hP
  obtain ⟨fd_Triangle_lets_in, G_Triangle_lets_in, b_Triangle_lets_in, k_Triangle_lets_in, kb_Triangle_lets_in_0⟩ := ok_Triangle_lets_in (P := P) (w := w) B hP
  obtain ⟨fd__law_said, F__law_said⟩ := B.c.def_ 0 (d := d__law_said) rfl
  have b__law_said : Binds K fd__law_said ["_law_deed"] [] := FunD.bindsN F__law_said fun _ _ _ _ _ _ us hl => match us, hl with | [_], _ => rfl
  refine ⟨fd, fun base tbo => def_okC F sc__law_refused_right fun A outer s H E W hr tk => ?_, FunD.bindsN F fun _ _ _ _ _ _ us hl => match us, hl with | [_, _], _ => rfl, F.kp⟩
  have hu := hr.units
  have hu1 := Nat.lt_of_le_of_lt (Nat.add_le_add_left (by decide : 1 ≤ 64) _) hu
  have hu9 := Nat.lt_of_le_of_lt (Nat.add_le_add_left (by decide : 9 ≤ 64) _) hu
  have hu65 := hr.u65
  have sc := sc__law_refused_right
  exact (fss_cons (fs_asg (fg_tup rfl (fgs_cons (fg_name 2 sc.nd rfl (by first | exact Or.inl rfl | exact Or.inr rfl)) (fgs_cons (fg_name 3 sc.nd rfl (by first | exact Or.inl rfl | exact Or.inr rfl)) (fgs_cons (fg_name 4 sc.nd rfl (by first | exact Or.inl rfl | exact Or.inr rfl)) fgs_nil)))) (fe_tup (fa_cons (fe_call tk (G__law_odd_corner base tbo) (hr.mono (by decide)) rfl (B.glo 32) k__law_odd_corner b__law_odd_corner Dfl.nil (fa_cons (fe_var 0 (pv 0)) fa_nil)) (fa_cons (fe_call tk (G__law_odd_corner base tbo) (hr.mono (by decide)) rfl (B.glo 32) k__law_odd_corner b__law_odd_corner Dfl.nil (fa_cons (fe_var 0 (pv 0)) fa_nil)) (fa_cons (fe_make (c := 0) tk ⟨⟨_, rfl, rfl⟩, B.mkr 5⟩ (G_Triangle___init__ base tbo) (hr.mono (by decide)) rfl (B.glo 6) b_Triangle___init__ Dfl.nil (fa_cons (fe_ixA hu1 (fun _ _ => rfl) (fe_var 1 (pv 1)) fe_int) (fa_cons (fe_ixA hu1 (fun _ _ => rfl) (fe_var 1 (pv 1)) fe_int) (fa_cons (fe_ixA hu1 (fun _ _ => rfl) (fe_var 1 (pv 1)) fe_int) fa_nil)))) fa_nil))))) (fss_cons (fs_set (i := 5) sc.nd rfl (by first | exact Or.inl rfl | exact Or.inr rfl) (fe_lstM (fa_cons (fe_lamcall (k := 5) (t := 0) (q := q__law_refused_right) F__law_said sc__law_said b__law_said rfl (.inl rfl) rfl (B.glo 16) (fun cdg => giv__law_said B hP cdg) (tbo "_law_refused_right" (by simp [tbs])).2 (tbo "_law_refused_right" (by simp [tbs])).1 (by rfl) (by kernel_rfl) (fun _ => rfl) (hr.mono (by decide)) (LamX.lamS_by (by kernel_rfl)) rfl (fun _ _ _ _ _ => rfl) (fun A outer s H E W f c hr tk => by have hu1 := Nat.lt_of_le_of_lt (Nat.add_le_add_left (by decide : 1 ≤ 64) _) hr.units; have hu9 := Nat.lt_of_le_of_lt (Nat.add_le_add_left (by decide : 9 ≤ 64) _) hr.units; have hu65 := hr.u65; exact (fe_make (c := 0) tk ⟨⟨_, rfl, rfl⟩, B.mkr 5⟩ (G_Triangle___init__ base tbo) (hr.mono (by decide)) rfl (B.glo 6) b_Triangle___init__ Dfl.nil (fa_cons (fe_var 2 (pv 2)) (fa_cons (fe_ixA hu1 (fun _ _ => rfl) (fe_var 1 (pv 1)) fe_int) (fa_cons (fe_ixA hu1 (fun _ _ => rfl) (fe_var 1 (pv 1)) fe_int) fa_nil)))))) fa_nil))) (fss_cons (fs_expr (fe_m PySem.F.slot_list_append (by rfl) mt_append ms_append (fe_var 5 (pv 5)) (fa_cons (fe_lamcall (k := 5) (t := 0) (q := q__law_refused_right) F__law_said sc__law_said b__law_said rfl (.inl rfl) rfl (B.glo 16) (fun cdg => giv__law_said B hP cdg) (tbo "_law_refused_right" (by simp [tbs])).2 (tbo "_law_refused_right" (by simp [tbs])).1 (by rfl) (by kernel_rfl) (fun _ => rfl) (hr.mono (by decide)) (LamX.lamS_by (by kernel_rfl)) rfl (fun _ _ _ _ _ => rfl) (fun A outer s H E W f c hr tk => by have hu1 := Nat.lt_of_le_of_lt (Nat.add_le_add_left (by decide : 1 ≤ 64) _) hr.units; have hu9 := Nat.lt_of_le_of_lt (Nat.add_le_add_left (by decide : 9 ≤ 64) _) hr.units; have hu65 := hr.u65; exact (fe_make (c := 0) tk ⟨⟨_, rfl, rfl⟩, B.mkr 5⟩ (G_Triangle___init__ base tbo) (hr.mono (by decide)) rfl (B.glo 6) b_Triangle___init__ Dfl.nil (fa_cons (fe_ixA hu1 (fun _ _ => rfl) (fe_var 1 (pv 1)) fe_int) (fa_cons (fe_var 2 (pv 2)) (fa_cons (fe_ixA hu1 (fun _ _ => rfl) (fe_var 1 (pv 1)) fe_int) fa_nil)))))) fa_nil))) (fss_cons (fs_expr (fe_m PySem.F.slot_list_append (by rfl) mt_append ms_append (fe_var 5 (pv 5)) (fa_cons (fe_lamcall (k := 5) (t := 0) (q := q__law_refused_right) F__law_said sc__law_said b__law_said rfl (.inl rfl) rfl (B.glo 16) (fun cdg => giv__law_said B hP cdg) (tbo "_law_refused_right" (by simp [tbs])).2 (tbo "_law_refused_right" (by simp [tbs])).1 (by rfl) (by kernel_rfl) (fun _ => rfl) (hr.mono (by decide)) (LamX.lamS_by (by kernel_rfl)) rfl (fun _ _ _ _ _ => rfl) (fun A outer s H E W f c hr tk => by have hu1 := Nat.lt_of_le_of_lt (Nat.add_le_add_left (by decide : 1 ≤ 64) _) hr.units; have hu9 := Nat.lt_of_le_of_lt (Nat.add_le_add_left (by decide : 9 ≤ 64) _) hr.units; have hu65 := hr.u65; exact (fe_make (c := 0) tk ⟨⟨_, rfl, rfl⟩, B.mkr 5⟩ (G_Triangle___init__ base tbo) (hr.mono (by decide)) rfl (B.glo 6) b_Triangle___init__ Dfl.nil (fa_cons (fe_ixA hu1 (fun _ _ => rfl) (fe_var 1 (pv 1)) fe_int) (fa_cons (fe_ixA hu1 (fun _ _ => rfl) (fe_var 1 (pv 1)) fe_int) (fa_cons (fe_var 2 (pv 2)) fa_nil)))))) fa_nil))) (fss_cons (fs_expr (fe_m PySem.F.slot_list_append (by rfl) mt_append ms_append (fe_var 5 (pv 5)) (fa_cons (fe_lamcall (k := 5) (t := 0) (q := q__law_refused_right) F__law_said sc__law_said b__law_said rfl (.inl rfl) rfl (B.glo 16) (fun cdg => giv__law_said B hP cdg) (tbo "_law_refused_right" (by simp [tbs])).2 (tbo "_law_refused_right" (by simp [tbs])).1 (by rfl) (by kernel_rfl) (fun _ => rfl) (hr.mono (by decide)) (LamX.lamS_by (by kernel_rfl)) rfl (fun _ _ _ _ _ => rfl) (fun A outer s H E W f c hr tk => by have hu1 := Nat.lt_of_le_of_lt (Nat.add_le_add_left (by decide : 1 ≤ 64) _) hr.units; have hu9 := Nat.lt_of_le_of_lt (Nat.add_le_add_left (by decide : 9 ≤ 64) _) hr.units; have hu65 := hr.u65; exact (fe_make (c := 0) tk ⟨⟨_, rfl, rfl⟩, B.mkr 5⟩ (G_Triangle___init__ base tbo) (hr.mono (by decide)) rfl (B.glo 6) b_Triangle___init__ Dfl.nil (fa_cons (fe_var 2 (pv 2)) (fa_cons (fe_var 3 (pv 3)) (fa_cons (fe_ixA hu1 (fun _ _ => rfl) (fe_var 1 (pv 1)) fe_int) fa_nil)))))) fa_nil))) (fss_cons (fs_if (ft_cmp (op_neP hu) os_ne (by rfl) (fe_var 5 (pv 5)) (fe_op op_mulA os_mul (fe_lst (fa_cons (fe_str (y := [99, 111, 114, 110, 101, 114]) rfl) fa_nil)) fe_int)) (fss_one (fs_ret fe_bl)) fss_nil) (fss_cons (fs_asg (fg_tup rfl (fgs_cons (fg_name 6 sc.nd rfl (by first | exact Or.inl rfl | exact Or.inr rfl)) (fgs_cons (fg_name 7 sc.nd rfl (by first | exact Or.inl rfl | exact Or.inr rfl)) fgs_nil))) (fe_tup (fa_cons (fe_call tk (G__law_odd_spot base tbo) (hr.mono (by decide)) rfl (B.glo 33) k__law_odd_spot b__law_odd_spot Dfl.nil (fa_cons (fe_var 0 (pv 0)) fa_nil)) (fa_cons (fe_ixA hu1 (fun _ _ => rfl) (fe_lst (fa_cons fe_non (fa_cons (fe_str (y := [48]) rfl) (fa_cons (fe_un L2.un_neg us_neg fe_int) (fa_cons fe_int (fa_cons fe_bl (fa_cons fe_bl (fa_cons (fe_tup (fa_cons fe_int fa_nil)) (fa_cons (fe_op L2.op_pow os_pow fe_int fe_int) fa_nil))))))))) (fe_call tk (G__law_next base tbo) (hr.mono (by decide)) rfl (B.glo 19) k__law_next b__law_next Dfl.nil (fa_cons (fe_var 0 (pv 0)) (fa_cons fe_int fa_nil)))) fa_nil)))) (fss_cons (fs_set (i := 5) sc.nd rfl (by first | exact Or.inl rfl | exact Or.inr rfl) (fe_lstM (fa_cons (fe_lamcall (k := 5) (t := 0) (q := q__law_refused_right) F__law_said sc__law_said b__law_said rfl (.inl rfl) rfl (B.glo 16) (fun cdg => giv__law_said B hP cdg) (tbo "_law_refused_right" (by simp [tbs])).2 (tbo "_law_refused_right" (by simp [tbs])).1 (by rfl) (by kernel_rfl) (fun _ => rfl) (hr.mono (by decide)) (LamX.lamS_by (by kernel_rfl)) rfl (fun _ _ _ _ _ => rfl) (fun A outer s H E W f c hr tk => by have hu1 := Nat.lt_of_le_of_lt (Nat.add_le_add_left (by decide : 1 ≤ 64) _) hr.units; have hu9 := Nat.lt_of_le_of_lt (Nat.add_le_add_left (by decide : 9 ≤ 64) _) hr.units; have hu65 := hr.u65; exact (fe_meth (c := 0) tk ⟨⟨_, rfl, by decide⟩, B.cls 13, B.meth 15⟩ (G_Triangle_covers base tbo) (hr.mono (by decide)) b_Triangle_covers Dfl.nil (fe_var 4 (pv 4)) (fa_cons (fe_var 6 (pv 6)) fa_nil)))) fa_nil))) (fss_cons (fs_expr (fe_m PySem.F.slot_list_append (by rfl) mt_append ms_append (fe_var 5 (pv 5)) (fa_cons (fe_lamcall (k := 5) (t := 0) (q := q__law_refused_right) F__law_said sc__law_said b__law_said rfl (.inl rfl) rfl (B.glo 16) (fun cdg => giv__law_said B hP cdg) (tbo "_law_refused_right" (by simp [tbs])).2 (tbo "_law_refused_right" (by simp [tbs])).1 (by rfl) (by kernel_rfl) (fun _ => rfl) (hr.mono (by decide)) (LamX.lamS_by (by kernel_rfl)) rfl (fun _ _ _ _ _ => rfl) (fun A outer s H E W f c hr tk => by have hu1 := Nat.lt_of_le_of_lt (Nat.add_le_add_left (by decide : 1 ≤ 64) _) hr.units; have hu9 := Nat.lt_of_le_of_lt (Nat.add_le_add_left (by decide : 9 ≤ 64) _) hr.units; have hu65 := hr.u65; exact (fe_meth (c := 0) tk ⟨⟨_, rfl, by decide⟩, B.cls 13, B.meth 17⟩ (G_Triangle_fragment_at base tbo) (hr.mono (by decide)) b_Triangle_fragment_at Dfl.nil (fe_var 4 (pv 4)) (fa_cons (fe_var 6 (pv 6)) fa_nil)))) fa_nil))) (fss_cons (fs_expr (fe_m PySem.F.slot_list_append (by rfl) mt_append ms_append (fe_var 5 (pv 5)) (fa_cons (fe_lamcall (k := 5) (t := 0) (q := q__law_refused_right) F__law_said sc__law_said b__law_said rfl (.inl rfl) rfl (B.glo 16) (fun cdg => giv__law_said B hP cdg) (tbo "_law_refused_right" (by simp [tbs])).2 (tbo "_law_refused_right" (by simp [tbs])).1 (by rfl) (by kernel_rfl) (fun _ => rfl) (hr.mono (by decide)) (LamX.lamS_by (by kernel_rfl)) rfl (fun _ _ _ _ _ => rfl) (fun A outer s H E W f c hr tk => by have hu1 := Nat.lt_of_le_of_lt (Nat.add_le_add_left (by decide : 1 ≤ 64) _) hr.units; have hu9 := Nat.lt_of_le_of_lt (Nat.add_le_add_left (by decide : 9 ≤ 64) _) hr.units; have hu65 := hr.u65; exact (fe_meth (c := 0) tk ⟨⟨_, rfl, by decide⟩, B.cls 13, B.meth 14⟩ (G_Triangle_lets_in base tbo) (hr.mono (by decide)) b_Triangle_lets_in Dfl.nil (fe_var 4 (pv 4)) (fa_cons fe_int (fa_cons (fe_var 6 (pv 6)) fa_nil))))) fa_nil))) (fss_cons (fs_expr (fe_m PySem.F.slot_list_append (by rfl) mt_append ms_append (fe_var 5 (pv 5)) (fa_cons (fe_lamcall (k := 5) (t := 0) (q := q__law_refused_right) F__law_said sc__law_said b__law_said rfl (.inl rfl) rfl (B.glo 16) (fun cdg => giv__law_said B hP cdg) (tbo "_law_refused_right" (by simp [tbs])).2 (tbo "_law_refused_right" (by simp [tbs])).1 (by rfl) (by kernel_rfl) (fun _ => rfl) (hr.mono (by decide)) (LamX.lamS_by (by kernel_rfl)) rfl (fun _ _ _ _ _ => rfl) (fun A outer s H E W f c hr tk => by have hu1 := Nat.lt_of_le_of_lt (Nat.add_le_add_left (by decide : 1 ≤ 64) _) hr.units; have hu9 := Nat.lt_of_le_of_lt (Nat.add_le_add_left (by decide : 9 ≤ 64) _) hr.units; have hu65 := hr.u65; exact (fe_meth (c := 0) tk ⟨⟨_, rfl, by decide⟩, B.cls 13, B.meth 14⟩ (G_Triangle_lets_in base tbo) (hr.mono (by decide)) b_Triangle_lets_in Dfl.nil (fe_var 4 (pv 4)) (fa_cons (fe_var 7 (pv 7)) (fa_cons (fe_var 6 (pv 6)) fa_nil))))) fa_nil))) (fss_cons (fs_expr (fe_m PySem.F.slot_list_append (by rfl) mt_append ms_append (fe_var 5 (pv 5)) (fa_cons (fe_lamcall (k := 5) (t := 0) (q := q__law_refused_right) F__law_said sc__law_said b__law_said rfl (.inl rfl) rfl (B.glo 16) (fun cdg => giv__law_said B hP cdg) (tbo "_law_refused_right" (by simp [tbs])).2 (tbo "_law_refused_right" (by simp [tbs])).1 (by rfl) (by kernel_rfl) (fun _ => rfl) (hr.mono (by decide)) (LamX.lamS_by (by kernel_rfl)) rfl (fun _ _ _ _ _ => rfl) (fun A outer s H E W f c hr tk => by have hu1 := Nat.lt_of_le_of_lt (Nat.add_le_add_left (by decide : 1 ≤ 64) _) hr.units; have hu9 := Nat.lt_of_le_of_lt (Nat.add_le_add_left (by decide : 9 ≤ 64) _) hr.units; have hu65 := hr.u65; exact (fe_meth (c := 0) tk ⟨⟨_, rfl, by decide⟩, B.cls 13, B.meth 14⟩ (G_Triangle_lets_in base tbo) (hr.mono (by decide)) b_Triangle_lets_in Dfl.nil (fe_var 4 (pv 4)) (fa_cons (fe_var 7 (pv 7)) (fa_cons (fe_tup (fa_cons fe_int (fa_cons fe_int fa_nil))) fa_nil))))) fa_nil))) (fss_one (fs_ret (fe_cmp (op_eqP hu) os_eq (by rfl) (fe_var 5 (pv 5)) (fe_op op_addA os_add (fe_op op_mulA os_mul (fe_lst (fa_cons (fe_str (y := [112, 108, 97, 99, 101]) rfl) fa_nil)) fe_int) (fe_op op_mulA os_mul (fe_lst (fa_cons (fe_str (y := [110, 117, 109, 98, 101, 114]) rfl) fa_nil)) fe_int)))))))))))))))))
theorem sc_Triangle___eq__ : FnScope ["self", "other"] ["self", "other"] (defScope (mem 21 1)) := ⟨rfl, rfl, rfl, by decide +kernel, rfl, by decide +kernel, by decide +kernel⟩
theorem ok_Triangle___eq__ {P : Program} {w : World} {K : PySem.W.Frag} {mg : Str → Option Value} (B : Bt K mg) (hP : PrgOk P "/claim/cut.py") : ∃ fd, (∀ base, TbsOk tbs K mg base → FnL P w K mg base (TX w K) 1 (ma K (ga K "Triangle") "__eq__") fd ["self", "other"] f_Triangle___eq__) ∧ Binds K fd ["self", "other"] [] ∧ PySem.W.keepIn K (.ref (ma K (ga K "Triangle") "__eq__")) = true := by
  obtain ⟨fd, F⟩ := B.c.def_ 23 (d := d_Triangle___eq__) rfl
  refine ⟨fd, fun base tbo => def_okD F sc_Triangle___eq__ fun cdv A outer s H E W hr tk => ?_, FunD.bindsN F fun _ _ _ _ _ _ us hl => match us, hl with | [_, _], _ => rfl, F.kp⟩
  have hu := hr.units
  have hu1 := Nat.lt_of_le_of_lt (Nat.add_le_add_left (by decide : 1 ≤ 64) _) hu
  have hu9 := Nat.lt_of_le_of_lt (Nat.add_le_add_left (by decide : 9 ≤ 64) _) hu
  have hu65 := hr.u65
  have sc := sc_Triangle___eq__
  exact (fss_one (fs_ret (fe_and (fe_iso (c := 0) ⟨_, rfl⟩ (B.cls 13) (B.isi 11) (fe_var 1 (pv 1)) rfl (B.free 29) rfl (B.glo 6) (by decide +kernel)) (fe_one (fe_cmp (op_eqP hu) os_eq (by rfl) (fe_fld (at_corners B) (fe_var 0 (pv 0))) (fe_fld (at_corners B) (fe_var 1 (pv 1))))))))
abbrev N_law : List Str := ["_law_script", "_law_m", "_law_turn", "_law_corners", "_law_made", "_law_other", "_law_told", "_law_good", "_law_near", "_law_odd", "_law_rim", "_law_spot", "_law_x"]
theorem sc_law : FnScope ["_law_script", "_law_m", "_law_turn", "_law_corners", "_law_made", "_law_other", "_law_told", "_law_good", "_law_near", "_law_odd", "_law_rim", "_law_spot", "_law_x"] ["_law_script"] (defScope (top 30)) := ⟨rfl, rfl, rfl, by decide +kernel, rfl, by decide +kernel, by decide +kernel⟩
theorem ok_law {P : Program} {w : World} {K : PySem.W.Frag} {mg : Str → Option Value} (B : Bt K mg) (hP : PrgOk P "/claim/cut.py") : ∃ fd, (∀ base, TbsOk tbs K mg base → FnL P w K mg base (TX w K) 9 (ga K "law") fd ["_law_script"] f_law) ∧ Binds K fd ["_law_script"] [] ∧ PySem.W.keepIn K (.ref (ga K "law")) = true ∧ ∀ (s : Shared) (u : Value), BindsTo s fd ⟨[u], []⟩ [("_law_script", u)] := by
  obtain ⟨fd, F⟩ := B.c.def_ 24 (d := d_law) rfl
  obtain ⟨fd__law_begun, G__law_begun, b__law_begun, k__law_begun⟩ := ok__law_begun (P := P) (w := w) B hP
  obtain ⟨fd__law_corner, G__law_corner, b__law_corner, k__law_corner⟩ := ok__law_corner (P := P) (w := w) B hP
  obtain ⟨fd_Triangle___init__, G_Triangle___init__, b_Triangle___init__, k_Triangle___init__, kb_Triangle___init___0⟩ := ok_Triangle___init__ (P := P) (w := w) B hP
  obtain ⟨fd__law_refused_right, G__law_refused_right, b__law_refused_right, k__law_refused_right⟩ := ok__law_refused_right (P := P) (w := w) B hP
  obtain ⟨fd_Triangle___eq__, G_Triangle___eq__, b_Triangle___eq__, k_Triangle___eq__⟩ := ok_Triangle___eq__ (P := P) (w := w) B hP
  obtain ⟨fd_Triangle_lets_in, G_Triangle_lets_in, b_Triangle_lets_in, k_Triangle_lets_in, kb_Triangle_lets_in_0⟩ := ok_Triangle_lets_in (P := P) (w := w) B hP
  obtain ⟨fd_Triangle_covers, G_Triangle_covers, b_Triangle_covers, k_Triangle_covers, kb_Triangle_covers_0⟩ := ok_Triangle_covers (P := P) (w := w) B hP
  obtain ⟨fd_Triangle_fragment_at, G_Triangle_fragment_at, b_Triangle_fragment_at, k_Triangle_fragment_at, kb_Triangle_fragment_at_0⟩ := ok_Triangle_fragment_at (P := P) (w := w) B hP
  obtain ⟨fd__law_said, F__law_said⟩ := B.c.def_ 0 (d := d__law_said) rfl
  have b__law_said : Binds K fd__law_said ["_law_deed"] [] := FunD.bindsN F__law_said fun _ _ _ _ _ _ us hl => match us, hl with | [_], _ => rfl
  have bA := FunD.bindsA (ps := ["_law_script"]) F fun _ _ _ _ _ _ us hl => match us, hl with | [_], _ => rfl
  refine ⟨fd, fun base tbo => def_okC F sc_law fun A outer s H E W hr tk => ?_, FunD.bindsN F fun _ _ _ _ _ _ us hl => match us, hl with | [_], _ => rfl, F.kp, fun s v => bA s [v] rfl⟩
  have hu := hr.units
  have hu1 := Nat.lt_of_le_of_lt (Nat.add_le_add_left (by decide : 1 ≤ 64) _) hu
  have hu9 := Nat.lt_of_le_of_lt (Nat.add_le_add_left (by decide : 9 ≤ 64) _) hu
  have hu65 := hr.u65
  have sc := sc_law
  exact (fss_cons (fs_set (i := 1) sc.nd rfl (by first | exact Or.inl rfl | exact Or.inr rfl) (fe_call tk (G__law_begun base tbo) (hr.mono (by decide)) rfl (B.glo 0) k__law_begun b__law_begun Dfl.nil (fa_cons (fe_var 0 (pv 0)) fa_nil))) (fss_cons (fs_for (passes_of rfl) rfl (fi_range1 rfl (B.free 3) (fe_op op_addA os_add fe_int (fe_b (call_min2 rfl) cs_min2 rfl (B.free 2) (by decide +kernel) (fa_cons (fe_b call_len cs_len rfl (B.free 1) (by decide +kernel) (fa_cons (fe_var 0 (pv 0)) fa_nil)) (fa_cons fe_int fa_nil))))) (fg_name 2 sc.nd rfl (by first | exact Or.inl rfl | exact Or.inr rfl)) (fss_cons (fs_set (i := 3) sc.nd rfl (by first | exact Or.inl rfl | exact Or.inr rfl) (fe_lst (fa_cons (fe_call tk (G__law_corner base tbo) (hr.mono (by decide)) rfl (B.glo 4) k__law_corner b__law_corner Dfl.nil (fa_cons (fe_var 1 (pv 1)) fa_nil)) (fa_cons (fe_call tk (G__law_corner base tbo) (hr.mono (by decide)) rfl (B.glo 4) k__law_corner b__law_corner Dfl.nil (fa_cons (fe_var 1 (pv 1)) fa_nil)) (fa_cons (fe_call tk (G__law_corner base tbo) (hr.mono (by decide)) rfl (B.glo 4) k__law_corner b__law_corner Dfl.nil (fa_cons (fe_var 1 (pv 1)) fa_nil)) fa_nil))))) (fss_cons (fs_set (i := 4) sc.nd rfl (by first | exact Or.inl rfl | exact Or.inr rfl) (fe_makeK0 (c := 0) tk ⟨⟨_, rfl, rfl⟩, B.mkr 5⟩ (G_Triangle___init__ base tbo) (hr.mono (by decide)) rfl (B.glo 6) kb_Triangle___init___0 Dfl.nil (fk_cons (fe_ixA hu1 (fun _ _ => rfl) (fe_var 3 (pv 3)) fe_int) (fk_cons (fe_ixA hu1 (fun _ _ => rfl) (fe_var 3 (pv 3)) fe_int) (fk_cons (fe_ixA hu1 (fun _ _ => rfl) (fe_var 3 (pv 3)) fe_int) fk_nil))))) (fss_cons (fs_if (ft_bool (fw_or (ft_cmp (op_neP hu) os_ne (by rfl) (fe_b (call_reprP hu hr.g) cs_repr rfl (B.free 7) (by decide +kernel) (fa_cons (fe_fld (at_corners B) (fe_var 4 (pv 4))) fa_nil)) (fe_b (call_reprP hu hr.g) cs_repr rfl (B.free 7) (by decide +kernel) (fa_cons (fe_bt call_tuple_of cs_tuple rfl (B.free 8) (by decide +kernel) (fa_cons (fe_var 3 (pv 3)) fa_nil)) fa_nil))) (fw_or1 (ft_not (ft_val (fe_call tk (G__law_refused_right base tbo) (hr.mono (by decide)) rfl (B.glo 9) k__law_refused_right b__law_refused_right Dfl.nil (fa_cons (fe_var 1 (pv 1)) (fa_cons (fe_var 3 (pv 3)) fa_nil)))))))) (fss_one (fs_ret fe_bl)) fss_nil) (fss_cons (fs_if (ft_bool (fw_or (ft_not (ft_cmp (op_eqO (B.meth 10) (G_Triangle___eq__ base tbo) (hr.mono (by decide)) b_Triangle___eq__) (os_eqO (c := 0) ⟨_, rfl⟩) (by rfl) (fe_var 4 (pv 4)) (fe_make (c := 0) tk ⟨⟨_, rfl, rfl⟩, B.mkr 5⟩ (G_Triangle___init__ base tbo) (hr.mono (by decide)) rfl (B.glo 6) b_Triangle___init__ Dfl.nil (fa_cons (fe_ixA hu1 (fun _ _ => rfl) (fe_var 3 (pv 3)) fe_int) (fa_cons (fe_ixA hu1 (fun _ _ => rfl) (fe_var 3 (pv 3)) fe_int) (fa_cons (fe_ixA hu1 (fun _ _ => rfl) (fe_var 3 (pv 3)) fe_int) fa_nil)))))) (fw_or (ft_cmp (OpR.or (op_eqK (B.meth 10) (G_Triangle___eq__ base tbo) (hr.mono (by decide)) b_Triangle___eq__) (op_eqO (B.meth 10) (G_Triangle___eq__ base tbo) (hr.mono (by decide)) b_Triangle___eq__)) (os_eqV (c := 0) ⟨_, rfl⟩) (by rfl) (fe_var 4 (pv 4)) (fe_bt call_tuple_of cs_tuple rfl (B.free 8) (by decide +kernel) (fa_cons (fe_var 3 (pv 3)) fa_nil))) (fw_or1 (ft_cmp (OpR.or (op_eqK (B.meth 10) (G_Triangle___eq__ base tbo) (hr.mono (by decide)) b_Triangle___eq__) (op_eqO (B.meth 10) (G_Triangle___eq__ base tbo) (hr.mono (by decide)) b_Triangle___eq__)) (os_eqV (c := 0) ⟨_, rfl⟩) (by rfl) (fe_var 4 (pv 4)) (fe_ixA hu1 (fun _ _ => rfl) (fe_var 3 (pv 3)) fe_int)))))) (fss_one (fs_ret fe_bl)) fss_nil) (fss_cons (fs_set (i := 5) sc.nd rfl (by first | exact Or.inl rfl | exact Or.inr rfl) (fe_make (c := 0) tk ⟨⟨_, rfl, rfl⟩, B.mkr 5⟩ (G_Triangle___init__ base tbo) (hr.mono (by decide)) rfl (B.glo 6) b_Triangle___init__ Dfl.nil (fa_cons (fe_ixA hu1 (fun _ _ => rfl) (fe_var 3 (pv 3)) fe_int) (fa_cons (fe_ixA hu1 (fun _ _ => rfl) (fe_var 3 (pv 3)) fe_int) (fa_cons (fe_ixA hu1 (fun _ _ => rfl) (fe_var 3 (pv 3)) fe_int) fa_nil))))) (fss_cons (fs_if (ft_bool (fw_or (ft_cmp (op_neP hu) os_ne (by rfl) (fe_cmp (op_eqO (B.meth 10) (G_Triangle___eq__ base tbo) (hr.mono (by decide)) b_Triangle___eq__) (os_eqO (c := 0) ⟨_, rfl⟩) (by rfl) (fe_var 4 (pv 4)) (fe_var 5 (pv 5))) (fe_chain (op_eqP hu) (op_eqP hu) os_eq os_eq (by rfl) (fe_ixA hu1 (fun _ _ => rfl) (fe_var 3 (pv 3)) fe_int) (fe_ixA hu1 (fun _ _ => rfl) (fe_var 3 (pv 3)) fe_int) (fe_ixA hu1 (fun _ _ => rfl) (fe_var 3 (pv 3)) fe_int))) (fw_or1 (ft_cmp (op_eqP hu) os_eq (by rfl) (fe_cmp (op_neO (B.isi 11) (B.ne 12) (B.meth 10) (G_Triangle___eq__ base tbo) (hr.mono (by decide)) b_Triangle___eq__) (os_neO (c := 0) ⟨_, rfl⟩) (by rfl) (fe_var 4 (pv 4)) (fe_var 5 (pv 5))) (fe_cmp (op_eqO (B.meth 10) (G_Triangle___eq__ base tbo) (hr.mono (by decide)) b_Triangle___eq__) (os_eqO (c := 0) ⟨_, rfl⟩) (by rfl) (fe_var 4 (pv 4)) (fe_var 5 (pv 5))))))) (fss_one (fs_ret fe_bl)) fss_nil) (fss_cons (fs_set (i := 6) sc.nd rfl (by first | exact Or.inl rfl | exact Or.inr rfl) (fe_lst (fa_cons (fe_meth (c := 0) tk ⟨⟨_, rfl, by decide⟩, B.cls 13, B.meth 15⟩ (G_Triangle_covers base tbo) (hr.mono (by decide)) b_Triangle_covers Dfl.nil (fe_var 4 (pv 4)) (fa_cons (fe_tup (fa_cons (fe_un L2.un_neg us_neg fe_int) (fa_cons fe_int fa_nil))) fa_nil)) (fa_cons (fe_methK0 (c := 0) tk ⟨⟨_, rfl, by decide⟩, B.cls 13, B.meth 14⟩ (G_Triangle_lets_in base tbo) (hr.mono (by decide)) kb_Triangle_lets_in_0 Dfl.nil (fe_var 4 (pv 4)) (fk_cons (fe_tup (fa_cons fe_int (fa_cons (fe_un L2.un_neg us_neg fe_int) fa_nil))) (fk_cons fe_int fk_nil))) fa_nil)))) (fss_one (fs_if (ft_cmp (op_neP hu) os_ne (by rfl) (fe_lcW (own := [("_law_x", 12)]) rfl sc.nd (fw_seq (fe_var 6 (pv 6))) (blkOk_by (by first | (show blkC N_law (defScope (top 30)) _ _ = true; decide +kernel) | kernel_rfl)) (fun s H C cl fp => by exact (fg_name 12 sc.nd rfl (by first | exact Or.inl rfl | exact Or.inr rfl))) (fun s H C cl fp => by exact (fts_one (ft_bool (fw_and (ft_cmp op_isnA os_isn (by rfl) (fe_var 12 (pv 12)) fe_bl) (fw_and1 (ft_cmp op_isnA os_isn (by rfl) (fe_var 12 (pv 12)) fe_bl)))))) (fun s H C cl fp => by exact (fe_var 12 (pv 12))) (by decide)) (fe_lst fa_nil)) (fss_one (fs_ret fe_bl)) fss_nil)))))))))) (fss_cons (fs_asg (fg_tup rfl (fgs_cons (fg_name 7 sc.nd rfl (by first | exact Or.inl rfl | exact Or.inr rfl)) (fgs_cons (fg_name 8 sc.nd rfl (by first | exact Or.inl rfl | exact Or.inr rfl)) fgs_nil))) (fe_tup (fa_cons (fe_tup (fa_cons fe_int (fa_cons fe_int (fa_cons fe_int (fa_cons fe_int (fa_cons fe_int (fa_cons fe_int fa_nil))))))) (fa_cons (fe_lst (fa_cons (fe_tup (fa_cons fe_int (fa_cons fe_int (fa_cons fe_int (fa_cons fe_int (fa_cons fe_int (fa_cons fe_int fa_nil))))))) (fa_cons (fe_tup (fa_cons fe_int (fa_cons fe_int (fa_cons fe_int (fa_cons fe_int (fa_cons fe_int (fa_cons fe_int fa_nil))))))) (fa_cons (fe_tup (fa_cons fe_int (fa_cons fe_int (fa_cons fe_int (fa_cons fe_int (fa_cons fe_int (fa_cons fe_bl fa_nil))))))) fa_nil)))) fa_nil)))) (fss_cons (fs_set (i := 8) sc.nd rfl (by first | exact Or.inl rfl | exact Or.inr rfl) (fe_op op_addA os_add (fe_var 8 (pv 8)) (fe_lst (fa_cons (fe_tup (fa_cons fe_int (fa_cons fe_int (fa_cons fe_int (fa_cons fe_int (fa_cons fe_int (fa_cons fe_int fa_nil))))))) (fa_cons (fe_tup (fa_cons fe_int (fa_cons fe_int (fa_cons fe_int (fa_cons (fe_un L2.un_neg us_neg fe_int) (fa_cons fe_int (fa_cons fe_int fa_nil))))))) (fa_cons (fe_tup (fa_cons fe_int (fa_cons fe_non (fa_cons fe_int (fa_cons fe_int (fa_cons fe_int (fa_cons fe_int fa_nil))))))) fa_nil)))))) (fss_cons (fs_forW (passes_of rfl) rfl (fw_seq (fe_op op_addA os_add (fe_var 8 (pv 8)) (fe_lst (fa_cons (fe_tup (fa_cons fe_int (fa_cons fe_int (fa_cons fe_int (fa_cons fe_int (fa_cons fe_int fa_nil)))))) (fa_cons (fe_tup (fa_cons fe_int (fa_cons fe_int (fa_cons fe_int (fa_cons fe_int (fa_cons fe_int (fa_cons fe_int (fa_cons fe_int fa_nil)))))))) (fa_cons (fe_lst (fa_cons fe_int (fa_cons fe_int (fa_cons fe_int (fa_cons fe_int (fa_cons fe_int (fa_cons fe_int fa_nil))))))) (fa_cons fe_non fa_nil))))))) (fg_name 9 sc.nd rfl (by first | exact Or.inl rfl | exact Or.inr rfl)) (fss_one (fs_if (ft_cmp (op_neP hu) os_ne (by rfl) (fe_lamcall (k := 6) (t := 1) (q := q_law) F__law_said sc__law_said b__law_said rfl (.inl rfl) rfl (B.glo 16) (fun cdg => giv__law_said B hP cdg) (tbo "law" (by simp [tbs])).2 (tbo "law" (by simp [tbs])).1 (by rfl) (by kernel_rfl) (fun _ => rfl) (hr.mono (by decide)) (LamX.lamS_by (by kernel_rfl)) rfl (fun _ _ _ _ _ => rfl) (fun A outer s H E W f c hr tk => by have hu1 := Nat.lt_of_le_of_lt (Nat.add_le_add_left (by decide : 1 ≤ 64) _) hr.units; have hu9 := Nat.lt_of_le_of_lt (Nat.add_le_add_left (by decide : 9 ≤ 64) _) hr.units; have hu65 := hr.u65; exact (fe_make (c := 0) tk ⟨⟨_, rfl, rfl⟩, B.mkr 5⟩ (G_Triangle___init__ base tbo) (hr.mono (by decide)) rfl (B.glo 6) b_Triangle___init__ Dfl.nil (fa_cons (fe_var 7 (pv 7)) (fa_cons (fe_var 7 (pv 7)) (fa_cons (fe_var 9 (pv 9)) fa_nil)))))) (fe_str (y := [99, 111, 114, 110, 101, 114]) rfl)) (fss_one (fs_ret fe_bl)) fss_nil))) (fss_cons (fs_set (i := 10) sc.nd rfl (by first | exact Or.inl rfl | exact Or.inr rfl) (fe_tup (fa_cons fe_int (fa_cons (fe_un L2.un_neg us_neg fe_int) (fa_cons fe_int (fa_cons (fe_un L2.un_neg us_neg fe_int) (fa_cons fe_int (fa_cons fe_int fa_nil)))))))) (fss_cons (fs_set (i := 4) sc.nd rfl (by first | exact Or.inl rfl | exact Or.inr rfl) (fe_make (c := 0) tk ⟨⟨_, rfl, rfl⟩, B.mkr 5⟩ (G_Triangle___init__ base tbo) (hr.mono (by decide)) rfl (B.glo 6) b_Triangle___init__ Dfl.nil (fa_cons (fe_var 10 (pv 10)) (fa_cons (fe_var 10 (pv 10)) (fa_cons (fe_var 10 (pv 10)) fa_nil))))) (fss_cons (fs_forW (passes_of rfl) rfl (fw_seq (fe_tup (fa_cons (fe_tup (fa_cons fe_int (fa_cons fe_int fa_nil))) (fa_cons (fe_tup (fa_cons (fe_un L2.un_neg us_neg fe_int) (fa_cons fe_int fa_nil))) (fa_cons (fe_tup (fa_cons fe_int (fa_cons fe_int fa_nil))) (fa_cons (fe_tup (fa_cons fe_int (fa_cons (fe_un L2.un_neg us_neg fe_int) fa_nil))) fa_nil)))))) (fg_name 11 sc.nd rfl (by first | exact Or.inl rfl | exact Or.inr rfl)) (fss_cons (fs_set (i := 6) sc.nd rfl (by first | exact Or.inl rfl | exact Or.inr rfl) (fe_lst (fa_cons (fe_lamcall (k := 6) (t := 1) (q := q_law) F__law_said sc__law_said b__law_said rfl (.inl rfl) rfl (B.glo 16) (fun cdg => giv__law_said B hP cdg) (tbo "law" (by simp [tbs])).2 (tbo "law" (by simp [tbs])).1 (by rfl) (by kernel_rfl) (fun _ => rfl) (hr.mono (by decide)) (LamX.lamS_by (by kernel_rfl)) rfl (fun _ _ _ _ _ => rfl) (fun A outer s H E W f c hr tk => by have hu1 := Nat.lt_of_le_of_lt (Nat.add_le_add_left (by decide : 1 ≤ 64) _) hr.units; have hu9 := Nat.lt_of_le_of_lt (Nat.add_le_add_left (by decide : 9 ≤ 64) _) hr.units; have hu65 := hr.u65; exact (fe_meth (c := 0) tk ⟨⟨_, rfl, by decide⟩, B.cls 13, B.meth 15⟩ (G_Triangle_covers base tbo) (hr.mono (by decide)) b_Triangle_covers Dfl.nil (fe_var 4 (pv 4)) (fa_cons (fe_var 11 (pv 11)) fa_nil)))) (fa_cons (fe_lamcallD (k := 6) (t := 1) (q := q_law) F__law_said sc__law_said b__law_said rfl (.inl rfl) rfl (B.glo 16) (fun cdg => giv__law_said B hP cdg) (tbo "law" (by simp [tbs])).2 (tbo "law" (by simp [tbs])).1 (by rfl) (by kernel_rfl) (fun _ => rfl) (hr.mono (by decide)) (lamP_by (by kernel_rfl)) (fun A outer s H E W f c hr tk => by have hu1 := Nat.lt_of_le_of_lt (Nat.add_le_add_left (by decide : 1 ≤ 64) _) hr.units; have hu9 := Nat.lt_of_le_of_lt (Nat.add_le_add_left (by decide : 9 ≤ 64) _) hr.units; have hu65 := hr.u65; exact (fe_meth (c := 0) tk ⟨⟨_, rfl, by decide⟩, B.cls 13, B.meth 17⟩ (G_Triangle_fragment_at base tbo) (hr.mono (by decide)) b_Triangle_fragment_at Dfl.nil (fe_var 4 (pv 4)) (fa_cons (fe_var 11 (pv 11)) fa_nil)))) fa_nil)))) (fss_one (fs_if (ft_cmp (op_neP hu) os_ne (by rfl) (fe_op op_addA os_add (fe_var 6 (pv 6)) (fe_lst (fa_cons (fe_lamcall (k := 6) (t := 1) (q := q_law) F__law_said sc__law_said b__law_said rfl (.inl rfl) rfl (B.glo 16) (fun cdg => giv__law_said B hP cdg) (tbo "law" (by simp [tbs])).2 (tbo "law" (by simp [tbs])).1 (by rfl) (by kernel_rfl) (fun _ => rfl) (hr.mono (by decide)) (LamX.lamS_by (by kernel_rfl)) rfl (fun _ _ _ _ _ => rfl) (fun A outer s H E W f c hr tk => by have hu1 := Nat.lt_of_le_of_lt (Nat.add_le_add_left (by decide : 1 ≤ 64) _) hr.units; have hu9 := Nat.lt_of_le_of_lt (Nat.add_le_add_left (by decide : 9 ≤ 64) _) hr.units; have hu65 := hr.u65; exact (fe_meth (c := 0) tk ⟨⟨_, rfl, by decide⟩, B.cls 13, B.meth 14⟩ (G_Triangle_lets_in base tbo) (hr.mono (by decide)) b_Triangle_lets_in Dfl.nil (fe_var 4 (pv 4)) (fa_cons fe_int (fa_cons (fe_var 11 (pv 11)) fa_nil))))) fa_nil))) (fe_op op_mulA os_mul (fe_lst (fa_cons (fe_str (y := [112, 108, 97, 99, 101]) rfl) fa_nil)) fe_int)) (fss_one (fs_ret fe_bl)) fss_nil)))) (fss_one (fs_ret (fe_and (fe_cmp (op_eqP hu) os_eq (by rfl) (fe_fld (at_corners B) (fe_var 4 (pv 4))) (fe_op op_mulA os_mul (fe_tup (fa_cons (fe_var 10 (pv 10)) fa_nil)) fe_int)) (fe_and (fe_cmp op_isA os_is (by rfl) (fe_methK0 (c := 0) tk ⟨⟨_, rfl, by decide⟩, B.cls 13, B.meth 15⟩ (G_Triangle_covers base tbo) (hr.mono (by decide)) kb_Triangle_covers_0 Dfl.nil (fe_var 4 (pv 4)) (fk_cons (fe_tup (fa_cons fe_int (fa_cons fe_int fa_nil))) fk_nil)) fe_bl) (fe_one (fe_cmp op_isA os_is (by rfl) (fe_methK0 (c := 0) tk ⟨⟨_, rfl, by decide⟩, B.cls 13, B.meth 17⟩ (G_Triangle_fragment_at base tbo) (hr.mono (by decide)) kb_Triangle_fragment_at_0 Dfl.nil (fe_var 4 (pv 4)) (fk_cons (fe_tup (fa_cons fe_int (fa_cons fe_int fa_nil))) fk_nil)) fe_non))))))))))))))
def nm0 : List Str := ["_wall", "Invalid", "Refused", "Missing", "BadPlace", "BadCorner", "BadNumber", "is_whole_in", "are_whole_in", "COLORS", "DEPTHS", "MAX_NUMBER", "is_corner", "eye_row", "crossed_rows", "linear_edge", "need_whole_place", "is_let_in", "Triangle", "_law_begun"]
def nm1 : List Str := ["_law_next", "_law_said", "_law_corner", "_law_odd_corner", "_law_odd_spot", "_law_refused_right"]
def nmz : List Str := nm0 ++ nm1
abbrev Rw : PySem.W.OpenRow := PySem.W.OpenLaw.row PySem.Challenge.rw_tilewright_k05_corners_and_triangles_mad
abbrev hk : PySem.W.Hook := hookM 7 fl fn tbs
def ob (s : PySem.W.SharedT) : Bool × AlL := obsMG 7 fl fn tbs (HandSHeadRun.getT s)
theorem ob_eq (s : PySem.W.SharedT) : ob s = hk.obs s.abs := obsMG_eq (HandSHeadRun.getT_eq s)
theorem run (w : World) : HandSHeadRun.RunEq Rw (PySem.W.view Rw.prog [30]) hk ob 12000 nmz w := by
  intro os
  kernel_rfl
end Lw
open PySem PySem.W PySem.Calls PyProof.Rows
theorem holds_of (hp : ∀ ns : List Int, ns.length ≤ 63 → ∃ h', Lw.f_law [.scr (ns.map L3.D.int)] (L3.tabH Lw.qs) = .ok (.bl true) h') : PySem.Challenge.rw_tilewright_k05_corners_and_triangles_mad.Holds := by
  w_on; o_law
  refine HandSHeadRun.head_any (r := OpenLaw.row PySem.Challenge.rw_tilewright_k05_corners_and_triangles_mad) (q := view (OpenLaw.row PySem.Challenge.rw_tilewright_k05_corners_and_triangles_mad).prog [30]) (H := Lw.hk) (ob := Lw.ob) (M := 12000) (loose := Lw.nmz) (d := HandSHeadRun.topDef (OpenLaw.row PySem.Challenge.rw_tilewright_k05_corners_and_triangles_mad).prog 30) (kwd := []) Lw.ob_eq
    (by kernel_rfl) (fun s => by kernel_rfl) Lw.run (by kernel_rfl) (by kernel_rfl) (by kernel_rfl) (by rfl) (by first | assumption | decide +kernel) (by decide +kernel) ⟨rfl, rfl, rfl, rfl, rfl, by decide +kernel⟩ ?hw ?hc
  case hw => w_witness2
  case hc =>
    refine L3.law_endM (l := PySem.Challenge.rw_tilewright_k05_corners_and_triangles_mad) (n := 63) (k := 9) (TX := Lw.TX) (x := "law") (qs := Lw.qs) rfl (by decide) (by kernel_rfl) ⟨rfl, by decide, by decide⟩ (by kernel_rfl) 51 rfl rfl ?T ?F hp
    case T => intro w K i x q h1 h2; match i, h1, h2 with | 0, h1, h2 => (cases h1; cases h2; rfl) | 1, h1, h2 => (cases h1; cases h2; rfl) | n + 2, h1, h2 => (cases h1)
    intro w mg K B
    obtain ⟨fd, h1, h2, h3, h4⟩ := Lw.ok_law (P := PySem.Challenge.pw_tilewright_k05_corners_and_triangles_mad) (w := w) B ⟨by decide +kernel, by decide +kernel⟩
    exact ⟨fd, h1, h4⟩
end
set_option autoImplicit false
set_option maxHeartbeats 8000000
set_option autoImplicit true
namespace Lw
open PySem PySem.Spec L2 L3
section
theorem aC_ok {f : FnE} {r : FnA} {δ : De} {h : Hh} {x : D} {xs : List D} {h1 h2 : Hh} (a : f δ h = .ok x h1) (b : r δ h1 = .ok xs h2) : aCons f r δ h = .ok (x :: xs) h2 := by
  unfold aCons
  rw [a, bindOk, b]
  rfl
theorem aN_ok {δ : De} {h : Hh} : aNil δ h = .ok [] h := rfl
theorem eVar_ok {i : Nat} {δ : De} {h : Hh} {d : D} (e : δ[i]? = some (some d)) : eVar i δ h = .ok d h := by
  unfold eVar; rw [e]
theorem eMeth_ok {c np : Nat} {sem : Sem3} {fo : FnE} {fa : FnA} {δ : De} {h h1 h2 : Hh} {x : D} {xs : List D} (o : fo δ h = .ok x h1) (k : clsOf h1 x = some c) (a : fa δ h1 = .ok xs h2) (hl : (x :: xs).length = np) : eMeth c np sem fo fa [] δ h = sem (x :: xs) h2 := by
  unfold eMeth
  rw [o, bindOk]
  unfold kMeth
  rw [if_pos k, a, bindOk]
  unfold kCall
  rw [List.append_nil, if_pos hl]
theorem rg_ok {f : FnE} {δ : De} {h h1 : Hh} {n : Nat} (a : f δ h = .ok (.int (n : Int)) h1) (l : n ≤ 1000) : iRg1 f δ h = .ok (rgD 0 n) h1 := by
  have : -(2 ^ 62 : Int) ≤ n ∧ (n : Int) < 2 ^ 62 := by constructor <;> omega
  unfold iRg1
  rw [a, bindOk]
  dsimp only
  rw [if_pos this, Int.toNat_natCast]
def wr {α : Type} (r : R α) (X : Nat → List D → Hh → Prop) (Q : α → Hh → Prop) : Prop := match r with
  | .ok x h => Q x h
  | .exc c ds h => X c ds h
  | .stk => False
abbrev noE : Nat → List D → Hh → Prop := fun _ _ _ => False
structure Es where
  nx : De → Hh → Prop
  rt : D → Hh → Prop
  bk : De → Hh → Prop
  ct : De → Hh → Prop
  ex : Nat → List D → De → Hh → Prop
abbrev Es.sq (E : Es) (k : De → Hh → Prop) : Es := ⟨k, E.rt, E.bk, E.ct, E.ex⟩
abbrev Es.tr (E : Es) (k : Nat → List D → De → Hh → Prop) : Es := ⟨E.nx, E.rt, E.bk, E.ct, k⟩
abbrev Es.lp (E : Es) (k : De → Hh → Prop) : Es := ⟨k, E.rt, E.nx, k, E.ex⟩
def ws (r : RS) (E : Es) : Prop := match r with
  | .nx δ h => E.nx δ h
  | .rt d h => E.rt d h
  | .bk δ h => E.bk δ h
  | .ct δ h => E.ct δ h
  | .exc c ds δ h => E.ex c ds δ h
  | .stk => False
theorem wr_mono {α : Type} {r : R α} {X : Nat → List D → Hh → Prop} {Q Q' : α → Hh → Prop} (a : wr r X Q) (k : ∀ x h, Q x h → Q' x h) : wr r X Q' := by
  cases r with
  | ok x h => exact k x h a
  | exc c ds h => exact a
  | stk => exact a
class Gs (g : Prop) (n : outParam Prop) : Prop where
  go : n → g
theorem wr_monoX {α : Type} {r : R α} {X X' : Nat → List D → Hh → Prop} {Q Q' : α → Hh → Prop} (a : wr r X Q) (k : ∀ x h, Q x h → Q' x h) (kx : ∀ c ds h, X c ds h → X' c ds h) : wr r X' Q' := by
  cases r with
  | ok x h => exact k x h a
  | exc c ds h => exact kx c ds h a
  | stk => exact a
theorem wr_noE {α : Type} {r : R α} {X : Nat → List D → Hh → Prop} {Q : α → Hh → Prop} (a : wr r noE Q) : wr r X Q := wr_monoX a (fun _ _ z => z) fun _ _ _ z => z.elim
theorem wr_ok {α : Type} {r : R α} {X : Nat → List D → Hh → Prop} {Q : α → Hh → Prop} {x : α} {h : Hh} (e : r = .ok x h) (q : Q x h) : wr r X Q := by subst e; exact q
theorem wr_get {α : Type} {r : R α} {Q : α → Hh → Prop} (a : wr r noE Q) : ∃ x h, r = .ok x h ∧ Q x h := by
  cases r with
  | ok x h => exact ⟨x, h, rfl, a⟩
  | exc c ds h => exact a.elim
  | stk => exact a.elim
theorem wr_bind {α β : Type} {r : R α} {k : α → Hh → R β} {X : Nat → List D → Hh → Prop} {Q : β → Hh → Prop} (a : wr r X fun x h => wr (k x h) X Q) : wr (r.bind k) X Q := by
  cases r with
  | ok x h => exact a
  | exc c ds h => exact a
  | stk => exact a
theorem ws_toS {α : Type} {r : R α} {δ : De} {k : α → Hh → RS} {E : Es} (a : wr r (fun c ds h => E.ex c ds δ h) fun x h => ws (k x h) E) : ws (r.toS δ k) E := by
  cases r with
  | ok x h => exact a
  | exc c ds h => exact a
  | stk => exact a
def tst (Q : Bool → Hh → Prop) : D → Hh → Prop := fun x h => match x with
  | .bl c => Q c h
  | _ => False
def tint (Q : Option Int → Hh → Prop) : D → Hh → Prop := fun x h => match x with
  | .int i => Q (some i) h
  | _ => False
def le1000 (n : Nat) (P : Prop) : Prop := n ≤ 1000 ∧ P
theorem w_le {n : Nat} {P : Prop} (a : n ≤ 1000) (p : P) : le1000 n P := ⟨a, p⟩
def eqn {α : Type} (a b : α) (P : Prop) : Prop := a = b ∧ P
theorem w_eqn {α : Type} {a b : α} {P : Prop} (e : a = b) (p : P) : eqn a b P := ⟨e, p⟩
def ite2 (c : Bool) (A B : Prop) : Prop := if c = true then A else B
theorem w_t {A B : Prop} (a : A) : ite2 true A B := a
instance i_w_t {A B : Prop} : Gs (ite2 true A B) (A) := ⟨w_t⟩
theorem w_f {A B : Prop} (b : B) : ite2 false A B := b
instance i_w_f {A B : Prop} : Gs (ite2 false A B) (B) := ⟨w_f⟩
theorem w_ite {c : Bool} {A B : Prop} (a : c = true → A) (b : c = false → B) : ite2 c A B := by
  cases c with
  | true => exact a rfl
  | false => exact b rfl
section
variable {X : Nat → List D → Hh → Prop} {Q : D → Hh → Prop} {QA : List D → Hh → Prop} {QT : Bool → Hh → Prop} {QO : Option Int → Hh → Prop} {δ : De} {h : Hh}
theorem w_c {d : D} (q : Q d h) : wr (eC d δ h) X Q := q
instance i_w_c {d : D} : Gs (wr (eC d δ h) X Q) (Q d h) := ⟨w_c⟩
theorem w_tst {c : Bool} (q : QT c h) : tst QT (.bl c) h := q
instance i_w_tst {c : Bool} : Gs (tst QT (.bl c) h) (QT c h) := ⟨w_tst⟩
theorem w_tint {i : Int} (q : QO (some i) h) : tint QO (.int i) h := q
instance i_w_tint {i : Int} : Gs (tint QO (.int i) h) (QO (some i) h) := ⟨w_tint⟩
theorem w_bin {g : F2} {fa fb : FnE} (a : wr (fa δ h) X fun x h1 => wr (fb δ h1) X fun y h2 => wr (g x y h2) X Q) : wr (eBin g fa fb δ h) X Q := by
  unfold eBin; exact wr_bind (wr_mono a fun x h1 z => wr_bind z)
instance i_w_bin {g : F2} {fa fb : FnE} : Gs (wr (eBin g fa fb δ h) X Q) (wr (fa δ h) X fun x h1 => wr (fb δ h1) X fun y h2 => wr (g x y h2) X Q) := ⟨w_bin⟩
theorem w_un {g : D → Hh → R D} {fa : FnE} (a : wr (fa δ h) X fun x h1 => wr (g x h1) X Q) : wr (eUn g fa δ h) X Q := by
  unfold eUn; exact wr_bind a
instance i_w_un {g : D → Hh → R D} {fa : FnE} : Gs (wr (eUn g fa δ h) X Q) (wr (fa δ h) X fun x h1 => wr (g x h1) X Q) := ⟨w_un⟩
theorem w_test {f : FnE} (a : wr (f δ h) X (tst QT)) : wr (eTest f δ h) X QT := by
  unfold eTest
  refine wr_bind (wr_mono a fun x h1 z => ?_)
  cases x <;> first | exact z | exact z.elim
instance i_w_test {f : FnE} : Gs (wr (eTest f δ h) X QT) (wr (f δ h) X (tst QT)) := ⟨w_test⟩
theorem w_chain {g g' : F2} {fa fb fc : FnE} (a : wr (fa δ h) X fun x h1 => wr (fb δ h1) X fun y h2 => wr (g x y h2) X (tst fun c h3 => ite2 c (wr (fc δ h3) X fun w h4 => wr (g' y w h4) X Q) (Q (.bl false) h3))) : wr (eChain g g' fa fb fc δ h) X Q := by
  unfold eChain
  refine wr_bind (wr_mono a fun x h1 z => wr_bind (wr_mono z fun y h2 z => wr_bind (wr_mono z fun t h3 z => ?_)))
  cases t with
  | bl c => cases c with
    | true => exact wr_bind z
    | false => exact z
  | _ => exact z.elim
instance i_w_chain {g g' : F2} {fa fb fc : FnE} : Gs (wr (eChain g g' fa fb fc δ h) X Q) (wr (fa δ h) X fun x h1 => wr (fb δ h1) X fun y h2 => wr (g x y h2) X (tst fun c h3 => ite2 c (wr (fc δ h3) X fun w h4 => wr (g' y w h4) X Q) (Q (.bl false) h3))) := ⟨w_chain⟩
theorem w_and {a b : FnT} (z : wr (a δ h) X fun c h1 => ite2 c (wr (b δ h1) X QT) (QT false h1)) : wr (tAnd3 a b δ h) X QT := by
  unfold tAnd3
  refine wr_bind (wr_mono z fun c h1 z => ?_)
  cases c <;> exact z
instance i_w_and {a b : FnT} : Gs (wr (tAnd3 a b δ h) X QT) (wr (a δ h) X fun c h1 => ite2 c (wr (b δ h1) X QT) (QT false h1)) := ⟨w_and⟩
theorem w_or {a b : FnT} (z : wr (a δ h) X fun c h1 => ite2 c (QT true h1) (wr (b δ h1) X QT)) : wr (tOr3 a b δ h) X QT := by
  unfold tOr3
  refine wr_bind (wr_mono z fun c h1 z => ?_)
  cases c <;> exact z
instance i_w_or {a b : FnT} : Gs (wr (tOr3 a b δ h) X QT) (wr (a δ h) X fun c h1 => ite2 c (QT true h1) (wr (b δ h1) X QT)) := ⟨w_or⟩
theorem w_not {a : FnT} (z : wr (a δ h) X fun c h1 => QT (!c) h1) : wr (tNot3 a δ h) X QT := by
  unfold tNot3; exact wr_bind z
instance i_w_not {a : FnT} : Gs (wr (tNot3 a δ h) X QT) (wr (a δ h) X fun c h1 => QT (!c) h1) := ⟨w_not⟩
theorem w_yes3 (z : QT true h) : wr (tYes3 δ h) X QT := z
instance i_w_yes3 : Gs (wr (tYes3 δ h) X QT) (QT true h) := ⟨w_yes3⟩
theorem w_eand {a b : FnE} (z : wr (a δ h) X (tst fun c h1 => ite2 c (wr (b δ h1) X Q) (Q (.bl false) h1))) : wr (eAnd a b δ h) X Q := by
  unfold eAnd
  refine wr_bind (wr_mono z fun x h1 z => ?_)
  cases x with
  | bl c => cases c <;> exact z
  | _ => exact z.elim
instance i_w_eand {a b : FnE} : Gs (wr (eAnd a b δ h) X Q) (wr (a δ h) X (tst fun c h1 => ite2 c (wr (b δ h1) X Q) (Q (.bl false) h1))) := ⟨w_eand⟩
theorem w_eor {a b : FnE} (z : wr (a δ h) X (tst fun c h1 => ite2 c (Q (.bl true) h1) (wr (b δ h1) X Q))) : wr (eOr a b δ h) X Q := by
  unfold eOr
  refine wr_bind (wr_mono z fun x h1 z => ?_)
  cases x with
  | bl c => cases c <;> exact z
  | _ => exact z.elim
instance i_w_eor {a b : FnE} : Gs (wr (eOr a b δ h) X Q) (wr (a δ h) X (tst fun c h1 => ite2 c (Q (.bl true) h1) (wr (b δ h1) X Q))) := ⟨w_eor⟩
theorem w_enot {a : FnE} (z : wr (a δ h) X (tst fun c h1 => Q (.bl (!c)) h1)) : wr (eNot a δ h) X Q := by
  unfold eNot
  refine wr_bind (wr_mono z fun x h1 z => ?_)
  cases x <;> first | exact z | exact z.elim
instance i_w_enot {a : FnE} : Gs (wr (eNot a δ h) X Q) (wr (a δ h) X (tst fun c h1 => Q (.bl (!c)) h1)) := ⟨w_enot⟩
theorem w_eif {t : FnT} {a b : FnE} (z : wr (t δ h) X fun c h1 => ite2 c (wr (a δ h1) X Q) (wr (b δ h1) X Q)) : wr (eIf t a b δ h) X Q := by
  unfold eIf
  refine wr_bind (wr_mono z fun c h1 z => ?_)
  cases c <;> exact z
instance i_w_eif {t : FnT} {a b : FnE} : Gs (wr (eIf t a b δ h) X Q) (wr (t δ h) X fun c h1 => ite2 c (wr (a δ h1) X Q) (wr (b δ h1) X Q)) := ⟨w_eif⟩
theorem w_nil (z : QA [] h) : wr (aNil δ h) X QA := z
instance i_w_nil : Gs (wr (aNil δ h) X QA) (QA [] h) := ⟨w_nil⟩
theorem w_cons {f : FnE} {r : FnA} (z : wr (f δ h) X fun x h1 => wr (r δ h1) X fun xs h2 => QA (x :: xs) h2) : wr (aCons f r δ h) X QA := by
  unfold aCons
  exact wr_bind (wr_mono z fun x h1 z => wr_bind z)
instance i_w_cons {f : FnE} {r : FnA} : Gs (wr (aCons f r δ h) X QA) (wr (f δ h) X fun x h1 => wr (r δ h1) X fun xs h2 => QA (x :: xs) h2) := ⟨w_cons⟩
theorem line1000 {n : Nat} (l : n ≤ 1000) : lineOk n = true := by unfold lineOk; simp; omega
theorem w_tup {f : FnA} (z : wr (f δ h) X fun xs h1 => le1000 xs.length (Q (.tup xs) h1)) : wr (eTup f δ h) X Q := by
  unfold eTup
  refine wr_bind (wr_mono z fun xs h1 z => ?_)
  rw [if_pos (line1000 z.1)]; exact z.2
instance i_w_tup {f : FnA} : Gs (wr (eTup f δ h) X Q) (wr (f δ h) X fun xs h1 => le1000 xs.length (Q (.tup xs) h1)) := ⟨w_tup⟩
theorem w_lst {f : FnA} (z : wr (f δ h) X fun xs h1 => le1000 xs.length (Q (.lst xs) h1)) : wr (eLst f δ h) X Q := by
  unfold eLst
  refine wr_bind (wr_mono z fun xs h1 z => ?_)
  rw [if_pos (line1000 z.1)]; exact z.2
instance i_w_lst {f : FnA} : Gs (wr (eLst f δ h) X Q) (wr (f δ h) X fun xs h1 => le1000 xs.length (Q (.lst xs) h1)) := ⟨w_lst⟩
theorem w_lstM {f : FnA} (z : wr (f δ h) X fun xs h1 => le1000 xs.length (Q (.ref h1.length) (h1 ++ [.lst xs]))) : wr (eLstM f δ h) X Q := by
  unfold eLstM
  refine wr_bind (wr_mono z fun xs h1 z => ?_)
  rw [if_pos (line1000 z.1)]; exact z.2
instance i_w_lstM {f : FnA} : Gs (wr (eLstM f δ h) X Q) (wr (f δ h) X fun xs h1 => le1000 xs.length (Q (.ref h1.length) (h1 ++ [.lst xs]))) := ⟨w_lstM⟩
theorem w_call {np : Nat} {sem : Sem3} {fa : FnA} {dds : List D} (z : wr (fa δ h) X fun xs h1 => eqn (xs ++ dds).length np (wr (sem (xs ++ dds) h1) X Q)) : wr (eCall np sem fa dds δ h) X Q := by
  unfold eCall
  refine wr_bind (wr_mono z fun xs h1 z => ?_)
  unfold kCall
  rw [if_pos z.1]; exact z.2
instance i_w_call {np : Nat} {sem : Sem3} {fa : FnA} {dds : List D} : Gs (wr (eCall np sem fa dds δ h) X Q) (wr (fa δ h) X fun xs h1 => eqn (xs ++ dds).length np (wr (sem (xs ++ dds) h1) X Q)) := ⟨w_call⟩
theorem w_call0 {np : Nat} {sem : Sem3} {fa : FnA} (z : wr (fa δ h) X fun xs h1 => eqn xs.length np (wr (sem xs h1) X Q)) : wr (eCall np sem fa [] δ h) X Q := by
  refine w_call (wr_mono z fun xs h1 z => ?_)
  rw [List.append_nil]; exact z
instance (priority := 1100) i_w_call0 {np : Nat} {sem : Sem3} {fa : FnA} : Gs (wr (eCall np sem fa [] δ h) X Q) (wr (fa δ h) X fun xs h1 => eqn xs.length np (wr (sem xs h1) X Q)) := ⟨w_call0⟩
theorem w_meth {c np : Nat} {sem : Sem3} {fo : FnE} {fa : FnA} {dds : List D} (z : wr (fo δ h) X fun x h1 => eqn (clsOf h1 x) (some c) (wr (fa δ h1) X fun xs h2 => eqn (x :: xs ++ dds).length np (wr (sem (x :: xs ++ dds) h2) X Q))) : wr (eMeth c np sem fo fa dds δ h) X Q := by
  unfold eMeth
  refine wr_bind (wr_mono z fun x h1 z => ?_)
  unfold kMeth
  rw [if_pos z.1]
  refine wr_bind (wr_mono z.2 fun xs h2 z => ?_)
  unfold kCall
  rw [if_pos z.1]; exact z.2
instance i_w_meth {c np : Nat} {sem : Sem3} {fo : FnE} {fa : FnA} {dds : List D} : Gs (wr (eMeth c np sem fo fa dds δ h) X Q) (wr (fo δ h) X fun x h1 => eqn (clsOf h1 x) (some c) (wr (fa δ h1) X fun xs h2 => eqn (x :: xs ++ dds).length np (wr (sem (x :: xs ++ dds) h2) X Q))) := ⟨w_meth⟩
theorem w_meth0 {c np : Nat} {sem : Sem3} {fo : FnE} {fa : FnA} (z : wr (fo δ h) X fun x h1 => eqn (clsOf h1 x) (some c) (wr (fa δ h1) X fun xs h2 => eqn (x :: xs).length np (wr (sem (x :: xs) h2) X Q))) : wr (eMeth c np sem fo fa [] δ h) X Q := by
  refine w_meth (wr_mono z fun x h1 z => ⟨z.1, wr_mono z.2 fun xs h2 z => ?_⟩)
  rw [List.append_nil]; exact z
instance (priority := 1100) i_w_meth0 {c np : Nat} {sem : Sem3} {fo : FnE} {fa : FnA} : Gs (wr (eMeth c np sem fo fa [] δ h) X Q) (wr (fo δ h) X fun x h1 => eqn (clsOf h1 x) (some c) (wr (fa δ h1) X fun xs h2 => eqn (x :: xs).length np (wr (sem (x :: xs) h2) X Q))) := ⟨w_meth0⟩
theorem w_b {g : FB} {fa : FnA} (z : wr (fa δ h) X fun xs h1 => wr (g xs h1) X Q) : wr (eB g fa δ h) X Q := by
  unfold eB; exact wr_bind z
instance i_w_b {g : FB} {fa : FnA} : Gs (wr (eB g fa δ h) X Q) (wr (fa δ h) X fun xs h1 => wr (g xs h1) X Q) := ⟨w_b⟩
theorem w_fld {ix : Nat → Option Nat} {fa : FnE} (z : wr (fa δ h) X fun x h1 => wr (fldD ix x h1) X Q) : wr (eFld ix fa δ h) X Q := by
  unfold eFld; exact wr_bind z
instance i_w_fld {ix : Nat → Option Nat} {fa : FnE} : Gs (wr (eFld ix fa δ h) X Q) (wr (fa δ h) X fun x h1 => wr (fldD ix x h1) X Q) := ⟨w_fld⟩
theorem w_isi {t : Ty} {fa : FnE} (z : wr (fa δ h) X fun x h1 => wr (isiD t x h1) X Q) : wr (eIsi t fa δ h) X Q := by
  unfold eIsi; exact wr_bind z
instance i_w_isi {t : Ty} {fa : FnE} : Gs (wr (eIsi t fa δ h) X Q) (wr (fa δ h) X fun x h1 => wr (isiD t x h1) X Q) := ⟨w_isi⟩
theorem w_iso {c : Nat} {fa : FnE} (z : wr (fa δ h) X fun x h1 => wr (isoD c x h1) X Q) : wr (eIso c fa δ h) X Q := by
  unfold eIso; exact wr_bind z
instance i_w_iso {c : Nat} {fa : FnE} : Gs (wr (eIso c fa δ h) X Q) (wr (fa δ h) X fun x h1 => wr (isoD c x h1) X Q) := ⟨w_iso⟩
theorem w_isiO {t : Ty} {c : Nat} {fa : FnE} (z : wr (fa δ h) X fun x h1 => wr (isiO t c x h1) X Q) : wr (eIsiO t c fa δ h) X Q := by
  unfold eIsiO; exact wr_bind z
instance i_w_isiO {t : Ty} {c : Nat} {fa : FnE} : Gs (wr (eIsiO t c fa δ h) X Q) (wr (fa δ h) X fun x h1 => wr (isiO t c x h1) X Q) := ⟨w_isiO⟩
theorem w_isoE {c c2 : Nat} {fa : FnE} (z : wr (fa δ h) X fun x h1 => wr (isoE c c2 x h1) X Q) : wr (eIsoE c c2 fa δ h) X Q := by
  unfold eIsoE; exact wr_bind z
instance i_w_isoE {c c2 : Nat} {fa : FnE} : Gs (wr (eIsoE c c2 fa δ h) X Q) (wr (fa δ h) X fun x h1 => wr (isoE c c2 x h1) X Q) := ⟨w_isoE⟩
theorem w_one {g : D → Hh → R D} {x : D} (z : wr (g x h) X Q) : wr (one g [x] h) X Q := z
instance i_w_one {g : D → Hh → R D} {x : D} : Gs (wr (one g [x] h) X Q) (wr (g x h) X Q) := ⟨w_one⟩
theorem w_slice {f : FnE} {fl fh : FnO} (z : wr (f δ h) X fun x h1 => wr (fl δ h1) X fun l h2 => wr (fh δ h2) X fun u h3 => wr (sliceD x l u h3) X Q) : wr (eSlice f fl fh δ h) X Q := by
  unfold eSlice
  exact wr_bind (wr_mono z fun x h1 z => wr_bind (wr_mono z fun l h2 z => wr_bind z))
instance i_w_slice {f : FnE} {fl fh : FnO} : Gs (wr (eSlice f fl fh δ h) X Q) (wr (f δ h) X fun x h1 => wr (fl δ h1) X fun l h2 => wr (fh δ h2) X fun u h3 => wr (sliceD x l u h3) X Q) := ⟨w_slice⟩
theorem w_onone (z : QO none h) : wr (oNone δ h) X QO := z
instance i_w_onone : Gs (wr (oNone δ h) X QO) (QO none h) := ⟨w_onone⟩
theorem w_osome {f : FnE} (z : wr (f δ h) X (tint QO)) : wr (oSome f δ h) X QO := by
  unfold oSome
  refine wr_bind (wr_mono z fun x h1 z => ?_)
  cases x <;> first | exact z | exact z.elim
instance i_w_osome {f : FnE} : Gs (wr (oSome f δ h) X QO) (wr (f δ h) X (tint QO)) := ⟨w_osome⟩
theorem wr_noX {r : R D} (z : wr r noE Q) : wr (noX r) X Q := by
  cases r with
  | ok x h => exact z
  | exc c ds h => exact z.elim
  | stk => exact z.elim
theorem w_prop {c np : Nat} {sem : Sem3} {fo : FnE} (z : wr (fo δ h) X fun x h1 => eqn (clsOf h1 x) (some c) (eqn np 1 (wr (sem [x] h1) noE Q))) : wr (eProp c np sem fo δ h) X Q := by
  unfold eProp
  refine wr_bind (wr_mono z fun x h1 z => ?_)
  unfold kProp
  rw [if_pos ⟨z.1, z.2.1⟩]; exact wr_noX z.2.2
instance i_w_prop {c np : Nat} {sem : Sem3} {fo : FnE} : Gs (wr (eProp c np sem fo δ h) X Q) (wr (fo δ h) X fun x h1 => eqn (clsOf h1 x) (some c) (eqn np 1 (wr (sem [x] h1) noE Q))) := ⟨w_prop⟩
theorem w_rg1 {f : FnE} {QI : List D → Hh → Prop} (z : wr (f δ h) X fun x h1 => ∃ n : Nat, x = .int (n : Int) ∧ n ≤ 1000 ∧ QI (rgD 0 n) h1) : wr (iRg1 f δ h) X QI := by
  cases e : f δ h with
  | ok x h1 =>
    rw [e] at z
    obtain ⟨n, rfl, l, q⟩ := z
    exact wr_ok (rg_ok e l) q
  | exc c ds h1 =>
    rw [e] at z
    unfold iRg1
    rw [e]; exact z
  | stk => rw [e] at z; exact z.elim
theorem w_seqI {f : FnE} {QI : List D → Hh → Prop} (z : wr (f δ h) X fun x h1 => ∃ ds, (x = .tup ds ∨ x = .lst ds ∨ x = .scr ds) ∧ QI ds h1) : wr (iSeq f δ h) X QI := by
  unfold iSeq
  refine wr_bind (wr_mono z fun x h1 z => ?_)
  obtain ⟨ds, rfl | rfl | rfl, q⟩ := z <;> exact q
instance i_w_seqI {f : FnE} {QI : List D → Hh → Prop} : Gs (wr (iSeq f δ h) X QI) (wr (f δ h) X fun x h1 => ∃ ds, (x = .tup ds ∨ x = .lst ds ∨ x = .scr ds) ∧ QI ds h1) := ⟨w_seqI⟩
theorem w_key {f : FnE} {QI : List D → Hh → Prop} (z : wr (f δ h) X fun x h1 => wr (kKey x h1) X QI) : wr (iKey f δ h) X QI := by
  unfold iKey; exact wr_bind z
instance i_w_key {f : FnE} {QI : List D → Hh → Prop} : Gs (wr (iKey f δ h) X QI) (wr (f δ h) X fun x h1 => wr (kKey x h1) X QI) := ⟨w_key⟩
theorem w_enum {fa : FnA} {QI : List D → Hh → Prop} (z : wr (fa δ h) X fun xs h1 => wr (kEnumX xs h1) X QI) : wr (iEnumA fa δ h) X QI := by
  unfold iEnumA; exact wr_bind z
instance i_w_enum {fa : FnA} {QI : List D → Hh → Prop} : Gs (wr (iEnumA fa δ h) X QI) (wr (fa δ h) X fun xs h1 => wr (kEnumX xs h1) X QI) := ⟨w_enum⟩
theorem w_zipW {fa : FnA} {QI : Wk → Hh → Prop} (z : wr (fa δ h) X fun xs h1 => wr (kZipW xs h1) X QI) : wr (wZip fa δ h) X QI := by
  unfold wZip; exact wr_bind z
instance i_w_zipW {fa : FnA} {QI : Wk → Hh → Prop} : Gs (wr (wZip fa δ h) X QI) (wr (fa δ h) X fun xs h1 => wr (kZipW xs h1) X QI) := ⟨w_zipW⟩
theorem w_seqW {f : FnE} {QI : Wk → Hh → Prop} (z : wr (f δ h) X fun x h1 => ∃ ds, (x = .tup ds ∨ x = .lst ds ∨ x = .scr ds) ∧ QI (.im ds) h1) : wr (wSeq f δ h) X QI := by
  unfold wSeq
  refine wr_bind (wr_mono z fun x h1 z => ?_)
  obtain ⟨ds, rfl | rfl | rfl, q⟩ := z <;> exact q
instance i_w_seqW {f : FnE} {QI : Wk → Hh → Prop} : Gs (wr (wSeq f δ h) X QI) (wr (f δ h) X fun x h1 => ∃ ds, (x = .tup ds ∨ x = .lst ds ∨ x = .scr ds) ∧ QI (.im ds) h1) := ⟨w_seqW⟩
theorem w_lcW {f : FnW} {g : FnG} {t : FnT} {e : FnE} {own : List Nat} (z : wr (f δ h) X fun w h1 => ∃ items, w = .im items ∧ wr (lcs g t e (wipeD δ own) items h1) noE fun xs h2 => le1000 xs.length (Q (.lst xs) h2)) : wr (eLcW false f g t e own δ h) X Q := by
  unfold eLcW
  refine wr_bind (wr_mono z fun w h1 z => ?_)
  obtain ⟨items, rfl, z⟩ := z
  unfold lcW
  dsimp only
  refine wr_bind (wr_mono (wr_noE z) fun xs h2 z => ?_)
  rw [show kLst false xs h2 = .ok (.lst xs) h2 by unfold kLst; rw [if_pos (line1000 z.1), if_neg Bool.false_ne_true]]
  exact z.2
instance i_w_lcW {f : FnW} {g : FnG} {t : FnT} {e : FnE} {own : List Nat} : Gs (wr (eLcW false f g t e own δ h) X Q) (wr (f δ h) X fun w h1 => ∃ items, w = .im items ∧ wr (lcs g t e (wipeD δ own) items h1) noE fun xs h2 => le1000 xs.length (Q (.lst xs) h2)) := ⟨w_lcW⟩
end
section
variable {E : Es} {δ : De} {h : Hh}
theorem s_seq {u v : FnS} (z : ws (u δ h) (E.sq fun δ1 h1 => ws (v δ1 h1) E)) : ws (sSeq u v δ h) E := by
  unfold sSeq
  cases e : u δ h <;> rw [e] at z <;> exact z
instance i_s_seq {u v : FnS} : Gs (ws (sSeq u v δ h) E) (ws (u δ h) (E.sq fun δ1 h1 => ws (v δ1 h1) E)) := ⟨s_seq⟩
theorem s_nil (z : E.nx δ h) : ws (sNil δ h) E := z
instance i_s_nil : Gs (ws (sNil δ h) E) (E.nx δ h) := ⟨s_nil⟩
theorem s_pass (z : E.nx δ h) : ws (sPass δ h) E := z
instance i_s_pass : Gs (ws (sPass δ h) E) (E.nx δ h) := ⟨s_pass⟩
theorem s_break (z : E.bk δ h) : ws (sBreak δ h) E := z
instance i_s_break : Gs (ws (sBreak δ h) E) (E.bk δ h) := ⟨s_break⟩
theorem s_cont (z : E.ct δ h) : ws (sCont δ h) E := z
instance i_s_cont : Gs (ws (sCont δ h) E) (E.ct δ h) := ⟨s_cont⟩
theorem s_set {i : Nat} {f : FnE} (z : wr (f δ h) (fun c ds h => E.ex c ds δ h) fun x h1 => E.nx (δ.set i (some x)) h1) : ws (sSet i f δ h) E := by
  unfold sSet; exact ws_toS z
instance i_s_set {i : Nat} {f : FnE} : Gs (ws (sSet i f δ h) E) (wr (f δ h) (fun c ds h => E.ex c ds δ h) fun x h1 => E.nx (δ.set i (some x)) h1) := ⟨s_set⟩
theorem s_ret {f : FnE} (z : wr (f δ h) (fun c ds h => E.ex c ds δ h) fun x h1 => E.rt x h1) : ws (sRet f δ h) E := by
  unfold sRet; exact ws_toS z
instance i_s_ret {f : FnE} : Gs (ws (sRet f δ h) E) (wr (f δ h) (fun c ds h => E.ex c ds δ h) fun x h1 => E.rt x h1) := ⟨s_ret⟩
theorem s_retN (z : E.rt .non h) : ws (sRetN δ h) E := z
instance i_s_retN : Gs (ws (sRetN δ h) E) (E.rt .non h) := ⟨s_retN⟩
theorem s_expr {f : FnE} (z : wr (f δ h) (fun c ds h => E.ex c ds δ h) fun _ h1 => E.nx δ h1) : ws (sExpr f δ h) E := by
  unfold sExpr; exact ws_toS z
instance i_s_expr {f : FnE} : Gs (ws (sExpr f δ h) E) (wr (f δ h) (fun c ds h => E.ex c ds δ h) fun _ h1 => E.nx δ h1) := ⟨s_expr⟩
theorem s_if {t : FnT} {u v : FnS} (z : wr (t δ h) (fun c ds h => E.ex c ds δ h) fun c h1 => ite2 c (ws (u δ h1) E) (ws (v δ h1) E)) : ws (sIf t u v δ h) E := by
  unfold sIf
  refine ws_toS (wr_mono z fun c h1 z => ?_)
  cases c <;> exact z
instance i_s_if {t : FnT} {u v : FnS} : Gs (ws (sIf t u v δ h) E) (wr (t δ h) (fun c ds h => E.ex c ds δ h) fun c h1 => ite2 c (ws (u δ h1) E) (ws (v δ h1) E)) := ⟨s_if⟩
theorem s_asg {g : FnG} {f : FnE} (z : wr (f δ h) (fun c ds h => E.ex c ds δ h) fun x h1 => ∃ δ', g x δ = some δ' ∧ E.nx δ' h1) : ws (sAsg g f δ h) E := by
  unfold sAsg
  refine ws_toS (wr_mono z fun x h1 z => ?_)
  obtain ⟨δ', e, z⟩ := z
  rw [e]; exact z
instance i_s_asg {g : FnG} {f : FnE} : Gs (ws (sAsg g f δ h) E) (wr (f δ h) (fun c ds h => E.ex c ds δ h) fun x h1 => ∃ δ', g x δ = some δ' ∧ E.nx δ' h1) := ⟨s_asg⟩
theorem s_par {ix : List Nat} {fa : FnA} (z : wr (fa δ h) (fun c ds h => E.ex c ds δ h) fun xs h1 => eqn xs.length ix.length (E.nx (setAll ix xs δ) h1)) : ws (sPar ix fa δ h) E := by
  unfold sPar
  refine ws_toS (wr_mono z fun xs h1 z => ?_)
  unfold kPar
  rw [if_pos z.1]; exact z.2
theorem s_ix {fo fi fv : FnE} (z : wr (fv δ h) (fun c ds h => E.ex c ds δ h) fun y h1 => wr (fo δ h1) (fun c ds h => E.ex c ds δ h) fun x h2 => wr (fi δ h2) (fun c ds h => E.ex c ds δ h) fun i h3 => ∃ h4, setOne x i y h3 = some h4 ∧ E.nx δ h4) : ws (sIxS fo fi fv δ h) E := by
  unfold sIxS
  refine ws_toS (wr_mono z fun y h1 z => ws_toS (wr_mono z fun x h2 z => ws_toS (wr_mono z fun i h3 z => ?_)))
  obtain ⟨h4, e, z⟩ := z
  unfold kSet
  rw [e]; exact z
instance i_s_ix {fo fi fv : FnE} : Gs (ws (sIxS fo fi fv δ h) E) (wr (fv δ h) (fun c ds h => E.ex c ds δ h) fun y h1 => wr (fo δ h1) (fun c ds h => E.ex c ds δ h) fun x h2 => wr (fi δ h2) (fun c ds h => E.ex c ds δ h) fun i h3 => ∃ h4, setOne x i y h3 = some h4 ∧ E.nx δ h4) := ⟨s_ix⟩
theorem s_fld {ix : Nat → Option Nat} {fo fv : FnE} (z : wr (fv δ h) (fun c ds h => E.ex c ds δ h) fun y h1 => wr (fo δ h1) (fun c ds h => E.ex c ds δ h) fun x h2 => ∃ n c ds k ds', x = .ref n ∧ h2[n]? = some (.obj c ds) ∧ ix c = some k ∧ putAt ds k y = some ds' ∧ E.nx δ (h2.set n (.obj c ds'))) : ws (L3.sFld ix fo fv δ h) E := by
  unfold L3.sFld
  refine ws_toS (wr_mono z fun y h1 z => ws_toS (wr_mono z fun x h2 z => ?_))
  obtain ⟨n, c, ds, k, ds', rfl, e1, e2, e3, z⟩ := z
  dsimp only
  rw [e1]
  dsimp only
  rw [e2]
  dsimp only
  rw [e3]
  exact z
instance i_s_fld {ix : Nat → Option Nat} {fo fv : FnE} : Gs (ws (L3.sFld ix fo fv δ h) E) (wr (fv δ h) (fun c ds h => E.ex c ds δ h) fun y h1 => wr (fo δ h1) (fun c ds h => E.ex c ds δ h) fun x h2 => ∃ n c ds k ds', x = .ref n ∧ h2[n]? = some (.obj c ds) ∧ ix c = some k ∧ putAt ds k y = some ds' ∧ E.nx δ (h2.set n (.obj c ds'))) := ⟨s_fld⟩
theorem s_for {f : FnI} {g : FnG} {u : FnS} (z : wr (f δ h) (fun c ds h => E.ex c ds δ h) fun items h1 => ws (loop3 g u items δ h1) E) : ws (L3.sFor f g u δ h) E := by
  unfold L3.sFor; exact ws_toS z
instance i_s_for {f : FnI} {g : FnG} {u : FnS} : Gs (ws (L3.sFor f g u δ h) E) (wr (f δ h) (fun c ds h => E.ex c ds δ h) fun items h1 => ws (loop3 g u items δ h1) E) := ⟨s_for⟩
theorem s_forW {f : FnW} {g : FnG} {u : FnS} (z : wr (f δ h) (fun c ds h => E.ex c ds δ h) fun w h1 => ∃ items, w = .im items ∧ ws (loop3 g u items δ h1) E) : ws (L3.sForW f g u δ h) E := by
  unfold L3.sForW
  refine ws_toS (wr_mono z fun w h1 z => ?_)
  obtain ⟨items, rfl, z⟩ := z
  exact z
instance i_s_forW {f : FnW} {g : FnG} {u : FnS} : Gs (ws (L3.sForW f g u δ h) E) (wr (f δ h) (fun c ds h => E.ex c ds δ h) fun w h1 => ∃ items, w = .im items ∧ ws (loop3 g u items δ h1) E) := ⟨s_forW⟩
theorem s_loop {g : FnG} {u : FnS} (P : Nat → De → Hh → Prop) : ∀ (items : List D) (i : Nat) (δ : De) (h : Hh), P i δ h →
    (∀ j d, items[j]? = some d → ∀ δ h, P (i + j) δ h → ∃ δ1, g d δ = some δ1 ∧ ws (u δ1 h) (E.lp (P (i + j + 1)))) → (∀ δ h, P (i + items.length) δ h → E.nx δ h) → ws (loop3 g u items δ h) E
  | [], i, δ, h, p, st, dn => dn δ h (by simpa using p)
  | d :: ds, i, δ, h, p, st, dn => by
    obtain ⟨δ1, e1, w1⟩ := st 0 d rfl δ h p
    unfold loop3
    rw [e1]
    dsimp only
    have st' : ∀ j d', ds[j]? = some d' → ∀ δ h, P (i + 1 + j) δ h → ∃ δ1, g d' δ = some δ1 ∧ ws (u δ1 h) (E.lp (P (i + 1 + j + 1))) := fun j d' ej δ h q => by
      have := st (j + 1) d' (by simpa using ej) δ h (by rw [show i + (j + 1) = i + 1 + j by omega]; exact q)
      rw [show i + (j + 1) = i + 1 + j by omega] at this
      exact this
    have dn' : ∀ δ h, P (i + 1 + ds.length) δ h → E.nx δ h := fun δ h q => dn δ h (by rw [List.length_cons, show i + (ds.length + 1) = i + 1 + ds.length by omega]; exact q)
    cases eu : u δ1 h with
    | nx δ2 h2 => rw [eu] at w1; exact s_loop P ds (i + 1) δ2 h2 w1 st' dn'
    | ct δ2 h2 => rw [eu] at w1; exact s_loop P ds (i + 1) δ2 h2 w1 st' dn'
    | bk δ2 h2 => rw [eu] at w1; exact w1
    | rt d h2 => rw [eu] at w1; exact w1
    | exc c ds δ2 h2 => rw [eu] at w1; exact w1
    | stk => rw [eu] at w1; exact w1
theorem w_run {n : Nat} {u : FnS} {ds : List D} {δ : De} {h : Hh} {X : Nat → List D → Hh → Prop} {Q : D → Hh → Prop} (e : startD n ds = δ) (z : ws (u δ h) ⟨fun _ h => Q .non h, fun d h => Q d h, fun _ _ => False, fun _ _ => False, fun c ds _ h => X c ds h⟩) : wr (runD n u ds h) X Q := by
  unfold runD
  rw [e]
  cases q : u δ h <;> rw [q] at z <;> first | exact z | exact z.elim
end
section
variable {X : Nat → List D → Hh → Prop} {Q : D → Hh → Prop} {QI : List D → Hh → Prop} {h : Hh}
theorem w_addI {a b : Int} (q : Q (.int (a + b)) h) : wr (addD (.int a) (.int b) h) X Q := q
instance i_w_addI {a b : Int} : Gs (wr (addD (.int a) (.int b) h) X Q) (Q (.int (a + b)) h) := ⟨w_addI⟩
theorem w_subI {a b : Int} (q : Q (.int (a - b)) h) : wr (subD (.int a) (.int b) h) X Q := wr_ok (subI a b h) q
instance i_w_subI {a b : Int} : Gs (wr (subD (.int a) (.int b) h) X Q) (Q (.int (a - b)) h) := ⟨w_subI⟩
theorem w_negI {a : Int} (q : Q (.int (-a)) h) : wr (negD (.int a) h) X Q := q
instance i_w_negI {a : Int} : Gs (wr (negD (.int a) h) X Q) (Q (.int (-a)) h) := ⟨w_negI⟩
theorem w_leI {a b : Int} (q : Q (.bl (decide (a ≤ b))) h) : wr (leD (.int a) (.int b) h) X Q := wr_ok (leI a b h) q
instance i_w_leI {a b : Int} : Gs (wr (leD (.int a) (.int b) h) X Q) (Q (.bl (decide (a ≤ b))) h) := ⟨w_leI⟩
theorem w_ltI {a b : Int} (q : Q (.bl (decide (a < b))) h) : wr (ltD (.int a) (.int b) h) X Q := wr_ok (ltI a b h) q
instance i_w_ltI {a b : Int} : Gs (wr (ltD (.int a) (.int b) h) X Q) (Q (.bl (decide (a < b))) h) := ⟨w_ltI⟩
theorem w_geI {a b : Int} (q : Q (.bl (decide (b ≤ a))) h) : wr (geD (.int a) (.int b) h) X Q := wr_ok (geI a b h) q
instance i_w_geI {a b : Int} : Gs (wr (geD (.int a) (.int b) h) X Q) (Q (.bl (decide (b ≤ a))) h) := ⟨w_geI⟩
theorem w_gtA {a b : Int} (q : Q (.bl (decide (b < a))) h) : wr (gtA (.int a) (.int b) h) X Q := q
instance i_w_gtA {a b : Int} : Gs (wr (gtA (.int a) (.int b) h) X Q) (Q (.bl (decide (b < a))) h) := ⟨w_gtA⟩
theorem w_gtI {a b : Int} (q : Q (.bl (decide (b < a))) h) : wr (gtD (.int a) (.int b) h) X Q := q
instance i_w_gtI {a b : Int} : Gs (wr (gtD (.int a) (.int b) h) X Q) (Q (.bl (decide (b < a))) h) := ⟨w_gtI⟩
theorem w_eqI {a b : Int} (q : Q (.bl (decide (a = b))) h) : wr (eqD (.int a) (.int b) h) X Q := wr_ok (eqI a b h) q
instance i_w_eqI {a b : Int} : Gs (wr (eqD (.int a) (.int b) h) X Q) (Q (.bl (decide (a = b))) h) := ⟨w_eqI⟩
theorem w_neI {a b : Int} (q : Q (.bl (!decide (a = b))) h) : wr (neD (.int a) (.int b) h) X Q := wr_ok (neI a b h) q
instance i_w_neI {a b : Int} : Gs (wr (neD (.int a) (.int b) h) X Q) (Q (.bl (!decide (a = b))) h) := ⟨w_neI⟩
theorem w_intD {i : Int} (q : Q (.int i) h) : wr (intD (.int i) h) X Q := q
instance i_w_intD {i : Int} : Gs (wr (intD (.int i) h) X Q) (Q (.int i) h) := ⟨w_intD⟩
theorem w_enumL {ds : List D} (q : QI (enumL 0 ds) h) : wr (kEnumX [.lst ds] h) X QI := q
instance i_w_enumL {ds : List D} : Gs (wr (kEnumX [.lst ds] h) X QI) (QI (enumL 0 ds) h) := ⟨w_enumL⟩
theorem w_keyT {ds : List D} (q : QI ds h) : wr (kKey (.tup ds) h) X QI := q
instance i_w_keyT {ds : List D} : Gs (wr (kKey (.tup ds) h) X QI) (QI ds h) := ⟨w_keyT⟩
end
section
variable {X : Nat → List D → Hh → Prop} {Q : D → Hh → Prop} {QA : List D → Hh → Prop} {E : Es} {δ : De} {h : Hh}
theorem w_lcN {g : FnG} {t : FnT} {e : FnE} (q : QA [] h) : wr (lcs g t e δ [] h) X QA := q
instance i_w_lcN {g : FnG} {t : FnT} {e : FnE} : Gs (wr (lcs g t e δ [] h) X QA) (QA [] h) := ⟨w_lcN⟩
theorem w_lcC {g : FnG} {t : FnT} {e : FnE} {d : D} {ds : List D} (z : ∃ δ1, g d δ = some δ1 ∧ wr (t δ1 h) noE fun c h1 => ite2 c (wr (e δ1 h1) noE fun y h2 => wr (lcs g t e δ ds h2) X fun ys h3 => QA (y :: ys) h3) (wr (lcs g t e δ ds h1) X QA)) : wr (lcs g t e δ (d :: ds) h) X QA := by
  obtain ⟨δ1, e1, z⟩ := z
  obtain ⟨c, h1, e2, z⟩ := wr_get z
  unfold lcs
  rw [e1]
  dsimp only
  rw [e2]
  dsimp only
  cases c with
  | false => rw [if_neg Bool.false_ne_true]; exact z
  | true =>
    rw [if_pos rfl]
    obtain ⟨y, h2, e3, z⟩ := wr_get (show wr (e δ1 h1) noE _ from z)
    rw [e3]
    exact wr_bind z
instance i_w_lcC {g : FnG} {t : FnT} {e : FnE} {d : D} {ds : List D} : Gs (wr (lcs g t e δ (d :: ds) h) X QA) (∃ δ1, g d δ = some δ1 ∧ wr (t δ1 h) noE fun c h1 => ite2 c (wr (e δ1 h1) noE fun y h2 => wr (lcs g t e δ ds h2) X fun ys h3 => QA (y :: ys) h3) (wr (lcs g t e δ ds h1) X QA)) := ⟨w_lcC⟩
theorem s_loopN {g : FnG} {u : FnS} (z : E.nx δ h) : ws (loop3 g u [] δ h) E := z
instance i_s_loopN {g : FnG} {u : FnS} : Gs (ws (loop3 g u [] δ h) E) (E.nx δ h) := ⟨s_loopN⟩
theorem s_loopC {g : FnG} {u : FnS} {d : D} {ds : List D} (z : ∃ δ1, g d δ = some δ1 ∧ ws (u δ1 h) ⟨fun δ2 h2 => ws (loop3 g u ds δ2 h2) E, E.rt, E.nx, fun δ2 h2 => ws (loop3 g u ds δ2 h2) E, E.ex⟩) : ws (loop3 g u (d :: ds) δ h) E := by
  obtain ⟨δ1, e1, z⟩ := z
  unfold loop3
  rw [e1]
  dsimp only
  cases eu : u δ1 h <;> rw [eu] at z <;> exact z
instance i_s_loopC {g : FnG} {u : FnS} {d : D} {ds : List D} : Gs (ws (loop3 g u (d :: ds) δ h) E) (∃ δ1, g d δ = some δ1 ∧ ws (u δ1 h) ⟨fun δ2 h2 => ws (loop3 g u ds δ2 h2) E, E.rt, E.nx, fun δ2 h2 => ws (loop3 g u ds δ2 h2) E, E.ex⟩) := ⟨s_loopC⟩
end
abbrev Es.lk (E : Es) (n : Nat) : Es := ⟨fun δ h => ∃ h', unlD n h = some h' ∧ E.nx δ h', fun d h => ∃ h', unlD n h = some h' ∧ E.rt d h', fun δ h => ∃ h', unlD n h = some h' ∧ E.bk δ h', fun δ h => ∃ h', unlD n h = some h' ∧ E.ct δ h', fun _ _ _ _ => False⟩
theorem w_methK {X : Nat → List D → Hh → Prop} {Q : D → Hh → Prop} {δ : De} {h : Hh} {c m np : Nat} {sem : Sem3} {fo : FnE} {fk : FnA} {dds : List D} {l : List Pk} (z : wr (fo δ h) X fun x h1 => eqn (clsOf h1 x) (some c) (wr (fk δ h1) X fun zs h2 => wr (kCallK 1 m np sem dds l [x] zs h2) X Q)) : wr (eMethK c m np sem fo fk dds l δ h) X Q := by
  unfold eMethK
  refine wr_bind (wr_mono z fun x h1 z => ?_)
  rw [if_pos z.1]
  exact wr_bind z.2
theorem w_kw {X : Nat → List D → Hh → Prop} {Q : D → Hh → Prop} {δ : De} {h : Hh} {fa fk : FnA} {k : List D → List D → Hh → R D} (z : wr (fa δ h) X fun ds h1 => wr (fk δ h1) X fun zs h2 => wr (k ds zs h2) X Q) : wr (eKw fa fk k δ h) X Q := by
  unfold eKw
  exact wr_bind (wr_mono z fun ds h1 z => wr_bind z)
theorem w_kck {X : Nat → List D → Hh → Prop} {Q : D → Hh → Prop} {h : Hh} {n m np : Nat} {sem : Sem3} {dds ds zs : List D} {l : List Pk} (e : ds.length = n ∧ zs.length = m ∧ (pick ds dds zs l).length = np) (z : wr (sem (pick ds dds zs l) h) X Q) : wr (kCallK n m np sem dds l ds zs h) X Q := by
  unfold kCallK
  rw [if_pos e]; exact z
abbrev Es.er (E : Es) (n i : Nat) : Es := ⟨fun δ h => E.nx (δ.set i none) (h.set n .dead), fun d h => E.rt d (h.set n .dead), fun δ h => E.bk (δ.set i none) (h.set n .dead), fun δ h => E.ct (δ.set i none) (h.set n .dead), fun _ _ _ _ => False⟩
section
variable {E : Es} {δ : De} {h : Hh}
theorem s_tryN {u : FnS} {l : List Cn} (z : ws (u δ h) (E.tr fun c ds δ1 h1 => ws (handleN c ds δ1 h1 l) E)) : ws (sTryN u l δ h) E := by
  unfold sTryN
  cases e : u δ h <;> rw [e] at z <;> exact z
instance i_s_tryN {u : FnS} {l : List Cn} : Gs (ws (sTryN u l δ h) E) (ws (u δ h) (E.tr fun c ds δ1 h1 => ws (handleN c ds δ1 h1 l) E)) := ⟨s_tryN⟩
variable {X : Nat → List D → Hh → Prop} {Q : D → Hh → Prop}
end
theorem eqvSame {d : D} (f : flat 60 d = true) : eqv d d = true := by
  unfold eqv
  exact PySem.SeqAt.eqv_refl_plain _ (flat_pd d 60 f).1
theorem neSame {d : D} {h : Hh} (e : deref h d = d) (f : flat 60 d = true) : neD d d h = .ok (.bl false) h := by
  unfold neD
  rw [e, if_pos ⟨f, f⟩, eqvSame f]
  rfl
theorem neB (a b : Bool) (h : Hh) : neD (.bl a) (.bl b) h = .ok (.bl (!decide (a = b))) h := by
  cases a <;> cases b <;> rfl
end
section
abbrev ck : D := .str [99, 101, 108, 108, 115]
abbrev lk : D := .str [108, 101, 102, 116]
abbrev ak : D := .str [97, 116]
structure Src (o m : Nat) (h : Hh) (b : Nat) (cells left : List Int) (t : Int) : Prop where
  c : h[o]? = some (.lst (cells.map .int))
  d : h[m]? = some (.dic [ck, lk, ak] [.ref o, .ref b, .int t])
  l : h[b]? = some (.lst (left.map .int))
  b0 : b ≠ o
  b2 : b ≠ m
  om : o ≠ m
  pos : ∀ x ∈ left, 0 ≤ x
  t0 : 0 ≤ t
  t1 : t < 1073741824
theorem geti {xs : List Int} {x : Int} {r : List Int} (e : xs = x :: r) : (xs.map D.int)[(0 : Int).toNat]? = some (.int x) := by
  subst e; rfl
theorem Src.left_ (s : Src o m h b cells left t) : ixA (.ref m) lk h = .ok (.ref b) h := by
  rw [ixDic s.d rfl]; rfl
theorem Src.at_ (s : Src o m h b cells left t) : ixA (.ref m) ak h = .ok (.int t) h := by
  rw [ixDic s.d rfl]; rfl
theorem Src.cells_ (s : Src o m h b cells left t) : ixA (.ref m) ck h = .ok (.ref o) h := by
  rw [ixDic s.d rfl]; rfl
structure Fr (m : Nat) (h : Hh) (b : Nat) (h' : Hh) (b' : Nat) : Prop where
  len : h.length ≤ h'.length
  bb : b' = b ∨ h.length ≤ b'
  old : ∀ j, j < h.length → j ≠ m → j ≠ b → h'[j]? = h[j]?
theorem Fr.refl (m : Nat) (h : Hh) (b : Nat) : Fr m h b h b := ⟨Nat.le_refl _, .inl rfl, fun _ _ _ _ => rfl⟩
theorem Fr.trans {h h1 h2 : Hh} {b b1 b2 : Nat} (x : Fr m h b h1 b1) (y : Fr m h1 b1 h2 b2) : Fr m h b h2 b2 := by
  refine ⟨Nat.le_trans x.len y.len, ?_, fun j hj h2 hb => ?_⟩
  · rcases y.bb with e | e
    · rw [e]; exact x.bb
    · exact .inr (Nat.le_trans x.len e)
  · have hb1 : j ≠ b1 := by
      rcases x.bb with e | e
      · rw [e]; exact hb
      · omega
    rw [y.old j (Nat.lt_of_lt_of_le hj x.len) h2 hb1]
    exact x.old j hj h2 hb
def tW : FnT := (tAnd3 (eTest (eBin neD (eBin ixA (eVar 0) (eC (.str [108, 101, 102, 116]))) (eLst aNil))) (eTest (eBin eqD (eBin ixA (eBin ixA (eVar 0) (eC (.str [108, 101, 102, 116]))) (eC (.int 0))) (eC (.int 0)))))
def uW : FnS := (sIxS (eVar 0) (eC (.str [108, 101, 102, 116])) (eSliceM (eBin ixA (eVar 0) (eC (.str [108, 101, 102, 116]))) (oSome (eC (.int 1))) oNone))
theorem tW_ok (s : Src o m h b cells left t) (x : Option D) (r : De) : tW (some (.ref m) :: r) h = .ok (match left with | [] => false | y :: _ => decide (y = 0)) h := by
  cases left with
  | nil => simp [tW, tAnd3, eTest, eBin, eVar, eC, eLst, aNil, R.bind, s.left_, lineOk, neNil s.l]
  | cons y ys =>
    have i0 : ixA (.ref b) (.int 0) h = .ok (.int y) h := ixRefAt s.l (by omega) (geti rfl)
    simp [tW, tAnd3, eTest, eBin, eVar, eC, eLst, aNil, R.bind, s.left_, lineOk, neNil s.l, i0, eqI]
theorem cutTail (ds : List D) (d : D) : cutL (d :: ds) (some 1) none = ds := by
  have e : HT.sIx (d :: ds).length 0 (some 1) = 1 := by
    show HT.sIx (d :: ds).length 0 (some ((1 : Nat) : Int)) = 1
    rw [HT.sIx_nat]; simp
  have e2 : HT.sIx (d :: ds).length (d :: ds).length none = ds.length + 1 := rfl
  unfold cutL
  rw [e, e2]
  simp
theorem Src.lt (s : Src o m h b cells left t) : b < h.length := (List.getElem?_eq_some_iff.mp s.l).1
theorem Src.lt0 (s : Src o m h b cells left t) : o < h.length := (List.getElem?_eq_some_iff.mp s.c).1
theorem Src.lt2 (s : Src o m h b cells left t) : m < h.length := (List.getElem?_eq_some_iff.mp s.d).1
theorem Src.relist (s : Src o m h b cells left t) (ys : List Int) (hp : ∀ x ∈ ys, 0 ≤ x) : Src o m ((h ++ [O.lst (ys.map D.int)]).set m (O.dic [ck, lk, ak] [.ref o, .ref h.length, .int t])) h.length cells ys t ∧
    Fr m h b ((h ++ [O.lst (ys.map D.int)]).set m (O.dic [ck, lk, ak] [.ref o, .ref h.length, .int t])) h.length := by
  have h2 := s.lt2
  have h0 := s.lt0
  have om := s.om
  refine ⟨⟨?_, ?_, ?_, Nat.ne_of_gt s.lt0, Nat.ne_of_gt s.lt2, s.om, hp, s.t0, s.t1⟩, ⟨by simp, .inr (Nat.le_refl _), fun j hj j2 jb => ?_⟩⟩
  · rw [List.getElem?_set_ne (by omega), List.getElem?_append_left (by omega)]; exact s.c
  · rw [List.getElem?_set_self (by simp; omega)]
  · rw [List.getElem?_set_ne (by omega)]; simp
  · rw [List.getElem?_set_ne (by omega), List.getElem?_append_left hj]
theorem wloop : ∀ (left : List Int) (h : Hh) (b : Nat) (cells : List Int) (t : Int) (r : De), Src o m h b cells left t → ∃ h' b' left' n, n ≤ left.length + 1 ∧ left'.length ≤ left.length ∧ whileN tW uW n (some (.ref m) :: r) h = .nx (some (.ref m) :: r) h' ∧ Src o m h' b' cells left' t ∧ Fr m h b h' b' ∧ (left' = [] ∨ ∃ y ys, left' = y :: ys ∧ 0 < y)
  | [], h, b, cells, t, r, s => ⟨h, b, [], 1, by simp, by simp, by simp [whileN, tW_ok s none, R.toS], s, Fr.refl m h b, .inl rfl⟩
  | y :: ys, h, b, cells, t, r, s => by
    by_cases hy : y = 0
    · subst hy
      obtain ⟨s1, f1⟩ := s.relist ys fun x hx => s.pos x (List.mem_cons_of_mem _ hx)
      obtain ⟨h', b', left', n, hn, hl, e, s', f', k⟩ := wloop ys _ _ cells t r s1
      refine ⟨h', b', left', n + 1, by simpa using hn, by simp; omega, ?_, s', f1.trans f', k⟩
      have el : asL h (.ref b) = some (((0 : Int) :: ys).map .int) := by unfold asL; dsimp only; rw [s.l]
      have eu : uW (some (.ref m) :: r) h = .nx (some (.ref m) :: r) ((h ++ [O.lst (ys.map D.int)]).set m (O.dic [ck, lk, ak] [.ref o, .ref h.length, .int t])) := by
        have hd : (h ++ [O.lst (ys.map D.int)])[m]? = some (O.dic [ck, lk, ak] [.ref o, .ref b, .int t]) := by rw [List.getElem?_append_left s.lt2]; exact s.d
        have so := setDic (i := lk) (y := .ref h.length) hd rfl (by simp)
        have e1 : putKs [ck, lk, ak] lk = [ck, lk, ak] := rfl
        have e2 : putVs [ck, lk, ak] [.ref o, .ref b, .int t] lk (.ref h.length) = [.ref o, .ref h.length, .int t] := rfl
        rw [e1, e2] at so
        simp [uW, sIxS, eSliceM, eBin, eVar, eC, R.toS, R.bind, s.left_, oSome, oNone, sliceM, el, cutTail, kSet, so]
      unfold whileN
      simp only [tW_ok s none, R.toS, decide_true, if_true, eu]
      exact e
    · refine ⟨h, b, y :: ys, 1, by simp, by simp, by simp [whileN, tW_ok s none, R.toS, hy], s, Fr.refl m h b, .inr ⟨y, ys, rfl, ?_⟩⟩
      have := s.pos y (by simp)
      omega
def restN : FnS := (sSeq (sIf (eTest (eBin neD (eBin ixA (eVar 0) (eC (.str [108, 101, 102, 116]))) (eLst aNil))) (sSeq (sSet 2 (eB intB (aCons (eBin ixA (eBin ixA (eVar 0) (eC (.str [108, 101, 102, 116]))) (eC (.int 0))) aNil))) (sSeq (sIxS (eBin ixA (eVar 0) (eC (.str [108, 101, 102, 116]))) (eC (.int 0)) (eBin divD (eVar 2) (eVar 1))) (sRet (eBin modD (eVar 2) (eVar 1))))) sNil) (sSeq (sSet 3 (eBin addD (eBin ixA (eVar 0) (eC (.str [97, 116]))) (eC (.int 1)))) (sSeq (sIxS (eVar 0) (eC (.str [97, 116])) (eVar 3)) (sSeq (sSet 4 (eIf (eTest (eBin neD (eBin ixA (eVar 0) (eC (.str [99, 101, 108, 108, 115]))) (eLst aNil))) (eBin ixA (eBin ixA (eVar 0) (eC (.str [99, 101, 108, 108, 115]))) (eBin modD (eB intB (aCons (eVar 3) aNil)) (eB lenB (aCons (eBin ixA (eVar 0) (eC (.str [99, 101, 108, 108, 115]))) aNil)))) (eC (.int 5)))) (sSeq (sSet 5 (eBin mulD (eB intB (aCons (eBin addD (eBin addD (eBin modD (eB intB (aCons (eVar 4) aNil)) (eC (.int 2147483629))) (eBin mulD (eC (.int 7919)) (eVar 3))) (eBin mulD (eBin mulD (eC (.int 17)) (eVar 3)) (eVar 3))) aNil)) (eC (.int 48271)))) (sSeq (sSet 5 (eBin mulD (eB intB (aCons (eBin addD (eBin modD (eB intB (aCons (eVar 5) aNil)) (eC (.int 2147483647))) (eBin mulD (eC (.int 104729)) (eVar 3))) aNil)) (eC (.int 69621)))) (sRet (eBin modD (eB intB (aCons (eBin divD (eBin modD (eB intB (aCons (eVar 5) aNil)) (eC (.int 2147483587))) (eC (.int 13))) aNil)) (eVar 1)))))))))
theorem next_is : u__law_next = sSeq (whileN tW uW fuel) restN := rfl
def Good (o m : Nat) (h : Hh) (b : Nat) (N : Nat) : Prop := ∃ cells left t, Src o m h b cells left t ∧ left.length ≤ 1000 ∧ t + (N : Int) < 1073741824
theorem next_ok (g : Good o m h b (N + 1)) (k : Int) (k0 : 0 < k) (k1 : k < 1073741824) : ∃ v h' b', f__law_next [.ref m, .int k] h = .ok (.int v) h' ∧ 0 ≤ v ∧ v < k ∧ Good o m h' b' N ∧ Fr m h b h' b' := by
  obtain ⟨cells, left, t, s, hl, ht⟩ := g
  have om := s.om
  obtain ⟨h1, b1, left1, n, hn, hl1, e, s1, f1, fin⟩ := wloop left h b cells t [some (.int k), none, none, none, none] s
  have t1 := s.t0
  have ew : whileN tW uW fuel [some (.ref m), some (.int k), none, none, none, none] h = .nx [some (.ref m), some (.int k), none, none, none, none] h1 := by
    have := whileN_mono (t := tW) (u := uW) n fuel [some (.ref m), some (.int k), none, none, none, none] h (by show n ≤ 4611686018427387904; omega) (by rw [e]; simp)
    rw [this, e]
  have run : f__law_next [.ref m, .int k] h = endD (restN [some (.ref m), some (.int k), none, none, none, none] h1) := by
    unfold f__law_next runD startD
    rw [next_is]
    show endD (sSeq (whileN tW uW fuel) restN [some (.ref m), some (.int k), none, none, none, none] h) = _
    unfold sSeq
    rw [ew]
  rw [run]
  rcases fin with rfl | ⟨y, ys, rfl, hy⟩
  · -- no great numbers left
    have hd := setDic (i := ak) (y := .int (t + 1)) s1.d rfl (by simp)
    have e1 : putKs [ck, lk, ak] ak = [ck, lk, ak] := rfl
    have e2 : putVs [ck, lk, ak] [.ref o, .ref b1, .int t] ak (.int (t + 1)) = [.ref o, .ref b1, .int (t + 1)] := rfl
    rw [e1, e2] at hd
    have h2 := s1.lt2
    have s2 : Src o m (h1.set m (.dic [ck, lk, ak] [.ref o, .ref b1, .int (t + 1)])) b1 cells [] (t + 1) :=
      ⟨by rw [List.getElem?_set_ne (by omega)]; exact s1.c, by rw [List.getElem?_set_self h2], by rw [List.getElem?_set_ne (Ne.symm s1.b2)]; exact s1.l, s1.b0, s1.b2, s1.om, s1.pos, by omega, by omega⟩
    have f2 : Fr m h1 b1 (h1.set m (.dic [ck, lk, ak] [.ref o, .ref b1, .int (t + 1)])) b1 := ⟨by simp, .inl rfl, fun j hj j2 jb => by rw [List.getElem?_set_ne (by omega)]⟩
    have cell : ∃ c : Int, (eIf (eTest (eBin neD (eBin ixA (eVar 0) (eC (.str [99, 101, 108, 108, 115]))) (eLst aNil))) (eBin ixA (eBin ixA (eVar 0) (eC (.str [99, 101, 108, 108, 115]))) (eBin modD (eB intB (aCons (eVar 3) aNil)) (eB lenB (aCons (eBin ixA (eVar 0) (eC (.str [99, 101, 108, 108, 115]))) aNil)))) (eC (.int 5)))
        [some (.ref m), some (.int k), none, some (.int (t + 1)), none, none] (h1.set m (.dic [ck, lk, ak] [.ref o, .ref b1, .int (t + 1)])) = .ok (.int c) (h1.set m (.dic [ck, lk, ak] [.ref o, .ref b1, .int (t + 1)])) := by
      cases cells with
      | nil => exact ⟨5, by simp [eIf, eTest, eBin, eVar, eC, eLst, aNil, R.bind, s2.cells_, lineOk, neNil s2.c]⟩
      | cons c cs =>
        have hp : (0 : Int) < ((List.map D.int (c :: cs)).length : Int) := by simp
        have hm := Int.emod_nonneg (t + 1) (Int.ne_of_gt hp)
        have hm2 := Int.emod_lt_of_pos (t + 1) hp
        have hlt : ((t + 1) % ((List.map D.int (c :: cs)).length : Int)).toNat < (c :: cs).length := by
          simp only [List.length_map] at hm hm2 ⊢
          omega
        refine ⟨(c :: cs)[((t + 1) % ((List.map D.int (c :: cs)).length : Int)).toNat], ?_⟩
        have ga : ixA (.ref o) (.int ((t + 1) % ((List.map D.int (c :: cs)).length : Int))) (h1.set m (.dic [ck, lk, ak] [.ref o, .ref b1, .int (t + 1)])) = .ok (.int ((c :: cs)[((t + 1) % ((List.map D.int (c :: cs)).length : Int)).toNat])) (h1.set m (.dic [ck, lk, ak] [.ref o, .ref b1, .int (t + 1)])) :=
          ixRefAt s2.c hm (by rw [List.getElem?_map, List.getElem?_eq_getElem hlt]; rfl)
        simp only [eIf, eTest, eBin, eVar, eC, eLst, aNil, aCons, eB, R.bind, s2.cells_, lineOk, neNil s2.c, List.isEmpty_cons, Bool.not_false, if_true, List.getElem?_cons_zero, List.getElem?_cons_succ, intB1, lenRef s2.c, modI _ hp, ga, List.length_nil, Nat.zero_le, decide_true]
    obtain ⟨c, hc⟩ := cell
    have hv : ∃ v, endD (restN [some (.ref m), some (.int k), none, none, none, none] h1) = .ok (.int (v % k)) (h1.set m (.dic [ck, lk, ak] [.ref o, .ref b1, .int (t + 1)])) := by
      simp (disch := omega) only [restN, sSeq, sIf, eTest, eBin, eVar, eC, eLst, aNil, aCons, eB, R.bind, R.toS, s1.left_, s1.at_, lineOk, neNil s1.l, List.isEmpty_nil, Bool.not_true, if_false, Bool.false_eq_true, List.getElem?_cons_zero, List.getElem?_cons_succ, sNil, sSet, addI, List.set_cons_zero, List.set_cons_succ, sIxS, kSet, hd, hc, intB1, modI, mulL, mulR, divI, sRet, endD, List.length_nil, Nat.zero_le, decide_true, if_true]
      exact ⟨_, rfl⟩
    obtain ⟨v, hv⟩ := hv
    exact ⟨_, _, b1, hv, Int.emod_nonneg _ (by omega), Int.emod_lt_of_pos _ k0, ⟨cells, [], t + 1, s2, by simp, by push_cast at ht; omega⟩, f1.trans f2⟩
  · -- the first of the great numbers is used up
    have i0 : ixA (.ref b1) (.int 0) h1 = .ok (.int y) h1 := ixRefAt s1.l (by omega) (geti rfl)
    have so := setRef (i := 0) (y := .int (y / k)) s1.l (by omega) (by simp)
    have es : (((y :: ys).map D.int).set (0 : Int).toNat (.int (y / k))) = ((y / k) :: ys).map D.int := rfl
    rw [es] at so
    have bl := s1.lt
    have s2 : Src o m (h1.set b1 (.lst (((y / k) :: ys).map D.int))) b1 cells ((y / k) :: ys) t :=
      ⟨by rw [List.getElem?_set_ne s1.b0]; exact s1.c, by rw [List.getElem?_set_ne s1.b2]; exact s1.d, by rw [List.getElem?_set_self bl], s1.b0, s1.b2, s1.om, fun x hx => by
        rcases List.mem_cons.mp hx with rfl | hx
        · exact Int.ediv_nonneg (by omega) (by omega)
        · exact s1.pos x (List.mem_cons_of_mem _ hx), s1.t0, s1.t1⟩
    have f2 : Fr m h1 b1 (h1.set b1 (.lst (((y / k) :: ys).map D.int))) b1 := ⟨by simp, .inl rfl, fun j hj j2 jb => by rw [List.getElem?_set_ne (Ne.symm jb)]⟩
    have hv : endD (restN [some (.ref m), some (.int k), none, none, none, none] h1) = .ok (.int (y % k)) (h1.set b1 (.lst (((y / k) :: ys).map D.int))) := by
      simp (disch := omega) only [restN, sSeq, sIf, eTest, eBin, eVar, eC, eLst, aNil, aCons, eB, R.bind, R.toS, s1.left_, lineOk, neNil s1.l, List.isEmpty_cons, Bool.not_false, List.getElem?_cons_zero, List.getElem?_cons_succ, sSet, List.set_cons_zero, List.set_cons_succ, sIxS, kSet, i0, so, intB1, modI, divI, sRet, endD, List.length_nil, Nat.zero_le, decide_true, if_true]
    exact ⟨_, _, b1, hv, Int.emod_nonneg _ (by omega), Int.emod_lt_of_pos _ k0, ⟨cells, _, t, s2, by simp at hl1 ⊢; omega, by push_cast at ht; omega⟩, f1.trans f2⟩
theorem Good.app {h : Hh} {b N : Nat} (g : Good o m h b N) (t : Hh) : Good o m (h ++ t) b N := by
  obtain ⟨cells, left, tt, s, h1, h2⟩ := g
  have l2 := s.lt2
  have l0 := s.lt0
  have lb := s.lt
  exact ⟨cells, left, tt, ⟨by rw [List.getElem?_append_left (by omega)]; exact s.c, by rw [List.getElem?_append_left (by omega)]; exact s.d, by rw [List.getElem?_append_left (by omega)]; exact s.l, s.b0, s.b2, s.om, s.pos, s.t0, s.t1⟩, h1, h2⟩
theorem Good.weak {h : Hh} {b N M : Nat} (g : Good o m h b N) (hm : M ≤ N) : Good o m h b M := by
  obtain ⟨cells, left, t, s, h1, h2⟩ := g
  exact ⟨cells, left, t, s, h1, by omega⟩
structure Old (h h' : Hh) : Prop where
  len : h.length ≤ h'.length
  old : ∀ j, j < h.length → h'[j]? = h[j]?
theorem Old.refl (h : Hh) : Old h h := ⟨Nat.le_refl _, fun _ _ => rfl⟩
theorem Old.trans {h h1 h2 : Hh} (x : Old h h1) (y : Old h1 h2) : Old h h2 := ⟨Nat.le_trans x.len y.len, fun j l => (y.old j (Nat.lt_of_lt_of_le l x.len)).trans (x.old j l)⟩
theorem Old.app (h t : Hh) : Old h (h ++ t) := ⟨by simp, fun j l => List.getElem?_append_left l⟩
theorem Old.at_ {h h' : Hh} (o : Old h h') {n : Nat} {x : O} (e : h[n]? = some x) : h'[n]? = some x := by rw [o.old n (List.getElem?_eq_some_iff.mp e).1]; exact e
theorem Old.put {h h' : Hh} (o : Old h h') {n : Nat} (hn : h.length ≤ n) (x : O) : Old h (h'.set n x) := ⟨by rw [List.length_set]; exact o.len, fun j l => by rw [List.getElem?_set_ne (by omega)]; exact o.old j l⟩
def St (o m : Nat) (h : Hh) (N : Nat) (os : List (Nat × O)) : Prop := ∃ b, Good o m h b N ∧ ∀ p ∈ os, h[p.1]? = some p.2 ∧ p.1 ≠ o ∧ p.1 ≠ m ∧ p.1 ≠ b
section
variable {o m : Nat}
theorem St.get {h : Hh} {N n : Nat} {x : O} {os : List (Nat × O)} (s : St o m h N os) (i : (n, x) ∈ os) : h[n]? = some x := by
  obtain ⟨b, _, q⟩ := s
  exact (q _ i).1
theorem St.sub {h : Hh} {N M : Nat} {os os' : List (Nat × O)} (s : St o m h N os) (hm : M ≤ N) (k : ∀ p ∈ os', p ∈ os) : St o m h M os' := by
  obtain ⟨b, g, q⟩ := s
  exact ⟨b, g.weak hm, fun p i => q p (k p i)⟩
theorem St.weak {h : Hh} {N M : Nat} {os : List (Nat × O)} (s : St o m h N os) (hm : M ≤ N) : St o m h M os := s.sub hm fun _ i => i
theorem St.old {h h' : Hh} {N : Nat} {os : List (Nat × O)} (s : St o m h N os) (x : Old h h') : St o m h' N os := by
  obtain ⟨b, ⟨cells, left, t, z, h1, h2⟩, q⟩ := s
  exact ⟨b, ⟨cells, left, t, ⟨x.at_ z.c, x.at_ z.d, x.at_ z.l, z.b0, z.b2, z.om, z.pos, z.t0, z.t1⟩, h1, h2⟩, fun p i => ⟨x.at_ (q p i).1, (q p i).2⟩⟩
theorem St.lt {h : Hh} {N : Nat} {os : List (Nat × O)} (s : St o m h N os) : o < h.length ∧ m < h.length := by
  obtain ⟨b, ⟨_, _, _, z, _⟩, _⟩ := s
  exact ⟨z.lt0, z.lt2⟩
theorem St.new {h : Hh} {N : Nat} {os : List (Nat × O)} (s : St o m h N os) (x : O) : St o m (h ++ [x]) N ((h.length, x) :: os) := by
  have l := s.lt
  have s2 := s.old (Old.app h [x])
  obtain ⟨b, g, q⟩ := s
  obtain ⟨cells, left, t, z, h1, h2⟩ := g
  have lb := z.lt
  have x' := Old.app h [x]
  refine ⟨b, ⟨cells, left, t, ⟨x'.at_ z.c, x'.at_ z.d, x'.at_ z.l, z.b0, z.b2, z.om, z.pos, z.t0, z.t1⟩, h1, h2⟩, fun p i => ?_⟩
  rcases List.mem_cons.mp i with rfl | i
  · exact ⟨by simp, by dsimp only; omega, by dsimp only; omega, by dsimp only; omega⟩
  · exact ⟨x'.at_ (q p i).1, (q p i).2⟩
theorem St.put {h : Hh} {N n : Nat} {x : O} {os : List (Nat × O)} (s : St o m h N ((n, x) :: os)) (k : ∀ p ∈ os, p.1 ≠ n) (y : O) : St o m (h.set n y) N ((n, y) :: os) := by
  obtain ⟨b, ⟨cells, left, t, z, h1, h2⟩, q⟩ := s
  obtain ⟨a, n1, n2, n3⟩ := q (n, x) (by simp)
  dsimp only at a n1 n2 n3
  have l := (List.getElem?_eq_some_iff.mp a).1
  refine ⟨b, ⟨cells, left, t, ⟨by rw [List.getElem?_set_ne n1]; exact z.c, by rw [List.getElem?_set_ne n2]; exact z.d, by rw [List.getElem?_set_ne n3]; exact z.l, z.b0, z.b2, z.om, z.pos, z.t0, z.t1⟩, h1, h2⟩, fun p i => ?_⟩
  rcases List.mem_cons.mp i with rfl | i
  · exact ⟨by rw [List.getElem?_set_self l], n1, n2, n3⟩
  · rw [List.getElem?_set_ne (Ne.symm (k p i))]; exact q p (List.mem_cons_of_mem _ i)
variable {X : Nat → List D → Hh → Prop} {Q : D → Hh → Prop} {h : Hh}
theorem w_next {N : Nat} {k : Int} {os : List (Nat × O)} (s : St o m h N os) (hN : 1 ≤ N) (k0 : 0 < k) (k1 : k < 1073741824) (q : ∀ v h', 0 ≤ v → v < k → St o m h' (N - 1) os → Q (.int v) h') : wr (f__law_next [.ref m, .int k] h) X Q := by
  obtain ⟨b, g, r⟩ := s
  obtain ⟨v, h', b', e1, v0, v1, g', f⟩ := next_ok (N := N - 1) (by rw [Nat.sub_add_cancel hN]; exact g) k k0 k1
  refine wr_ok e1 (q v h' v0 v1 ⟨b', g', fun p i => ?_⟩)
  obtain ⟨a, n1, n2, n3⟩ := r p i
  have l := (List.getElem?_eq_some_iff.mp a).1
  refine ⟨by rw [f.old p.1 l n2 n3]; exact a, n1, n2, ?_⟩
  rcases f.bb with e | e
  · rw [e]; exact n3
  · omega
end
end
section
def int3 (a b c : Int) : D := .tup [.int a, .int b, .int c]
def int6 (a b c d e f : Int) : D := .tup [.int a, .int b, .int c, .int d, .int e, .int f]
def betw (lo x hi : Int) : Bool := decide (lo ≤ x) && decide (x ≤ hi)
theorem whole_ok (x lo hi : Int) (h : Hh) : f_is_whole_in [.int x, .int lo, .int hi] h = .ok (.bl (betw lo x hi)) h := by
  by_cases h1 : lo ≤ x <;> simp (disch := omega) [f_is_whole_in, u_is_whole_in_1, u_is_whole_in, betw, h1, runD, startD, endRt, endNx, endExc, seqE, seqNx, seqRt, seqExc, sNil, sPass, sIf, sRet, sRetN, sExpr, sSet, sAsg, sPar, kPar, setAll, sIxS, kSet, L3.sFld, eVar, eC, eBin, eTest, eChain, eUn, tAnd3, tOr3, tNot3, eAnd, eOr, eNot, eIf, aNil, aCons, eTup, eLst, eLstM, eCall, kCall, eMeth, kMeth, clsObj, eB, one, eFld, fldD, fieldAt, L3.putAt, eProp, kProp, noX, eMake, eLc, kLst, iSeq, L3.iZip, kZip, zipL, immS, iRg1, lcNil, lcCons, lcAS, lcBT, lcBF, lcCO, loNil, loCons, loAS, loNx, loCt, loBk, loRt, L3.sFor, sForW, eLcW, wSeq, wZip, kZipW, loopW, lcW, optS, wipeD, gSet, gTupD, gsNil, gsCons, tYes3, eIsi, isiD, kdOf, isK, allB, anyB, sumB, L3.listOf, blsOf, intsOf, asL, bindOk, bindExc, bindStk, toSOk, toSExc, lineOk, addI, subI, negI, mulL, mulR, divI, modI, ltI, leI, gtI, geI, eqI, neI, intB1, intB2, lenTup, lenLst, lenScr, tup0, tup1, tup2, tup3, tup4, tup5, lst0, lst1, lst2, lst3, List.getElem?_cons_zero, List.getElem?_cons_succ, List.getElem?_nil, List.set_cons_zero, List.set_cons_succ, List.length_cons, List.length_nil, List.map_cons, List.map_nil, List.replicate_succ, List.replicate_zero, List.cons_append, List.nil_append, List.append_nil, if_true, if_false, ite_true, ite_false, Bool.false_eq_true, Bool.not_true, Bool.not_false, Bool.true_and, Bool.and_true, Bool.false_and, Bool.and_false, Bool.or_true, Bool.true_or, Bool.false_or, Bool.or_false, and_self, and_true, true_and, Nat.sub_zero, Nat.sub_self, Nat.reduceSub, Nat.reduceAdd, Nat.reduceLeDiff, Nat.reduceEqDiff, decide_true, decide_false, Nat.zero_le]
theorem are6_ok (a b c d e f lo hi : Int) (h : Hh) : f_are_whole_in [int6 a b c d e f, .int 6, .int lo, .int hi] h = .ok (.bl (betw lo a hi && (betw lo b hi && (betw lo c hi && (betw lo d hi && (betw lo e hi && betw lo f hi)))))) h := by
  simp (disch := omega) [f_are_whole_in, u_are_whole_in_1_a_1, u_are_whole_in_1, u_are_whole_in_2, u_are_whole_in, int6, whole_ok, runD, startD, endRt, endNx, endExc, seqE, seqNx, seqRt, seqExc, sNil, sPass, sIf, sRet, sRetN, sExpr, sSet, sAsg, sPar, kPar, setAll, sIxS, kSet, L3.sFld, eVar, eC, eBin, eTest, eChain, eUn, tAnd3, tOr3, tNot3, eAnd, eOr, eNot, eIf, aNil, aCons, eTup, eLst, eLstM, eCall, kCall, eMeth, kMeth, clsObj, eB, one, eFld, fldD, fieldAt, L3.putAt, eProp, kProp, noX, eMake, eLc, kLst, iSeq, L3.iZip, kZip, zipL, immS, iRg1, lcNil, lcCons, lcAS, lcBT, lcBF, lcCO, loNil, loCons, loAS, loNx, loCt, loBk, loRt, L3.sFor, sForW, eLcW, wSeq, wZip, kZipW, loopW, lcW, optS, wipeD, gSet, gTupD, gsNil, gsCons, tYes3, eIsi, isiD, kdOf, isK, allB, anyB, sumB, L3.listOf, blsOf, intsOf, asL, bindOk, bindExc, bindStk, toSOk, toSExc, lineOk, addI, subI, negI, mulL, mulR, divI, modI, ltI, leI, gtI, geI, eqI, neI, intB1, intB2, lenTup, lenLst, lenScr, tup0, tup1, tup2, tup3, tup4, tup5, lst0, lst1, lst2, lst3, List.getElem?_cons_zero, List.getElem?_cons_succ, List.getElem?_nil, List.set_cons_zero, List.set_cons_succ, List.length_cons, List.length_nil, List.map_cons, List.map_nil, List.replicate_succ, List.replicate_zero, List.cons_append, List.nil_append, List.append_nil, if_true, if_false, ite_true, ite_false, Bool.false_eq_true, Bool.not_true, Bool.not_false, Bool.true_and, Bool.and_true, Bool.false_and, Bool.and_false, Bool.or_true, Bool.true_or, Bool.false_or, Bool.or_false, and_self, and_true, true_and, Nat.sub_zero, Nat.sub_self, Nat.reduceSub, Nat.reduceAdd, Nat.reduceLeDiff, Nat.reduceEqDiff, decide_true, decide_false, Nat.zero_le]
theorem are2_ok (a b lo hi : Int) (h : Hh) : f_are_whole_in [.tup [.int a, .int b], .int 2, .int lo, .int hi] h = .ok (.bl (betw lo a hi && betw lo b hi)) h := by
  simp (disch := omega) [f_are_whole_in, u_are_whole_in_1_a_1, u_are_whole_in_1, u_are_whole_in_2, u_are_whole_in, whole_ok, runD, startD, endRt, endNx, endExc, seqE, seqNx, seqRt, seqExc, sNil, sPass, sIf, sRet, sRetN, sExpr, sSet, sAsg, sPar, kPar, setAll, sIxS, kSet, L3.sFld, eVar, eC, eBin, eTest, eChain, eUn, tAnd3, tOr3, tNot3, eAnd, eOr, eNot, eIf, aNil, aCons, eTup, eLst, eLstM, eCall, kCall, eMeth, kMeth, clsObj, eB, one, eFld, fldD, fieldAt, L3.putAt, eProp, kProp, noX, eMake, eLc, kLst, iSeq, L3.iZip, kZip, zipL, immS, iRg1, lcNil, lcCons, lcAS, lcBT, lcBF, lcCO, loNil, loCons, loAS, loNx, loCt, loBk, loRt, L3.sFor, sForW, eLcW, wSeq, wZip, kZipW, loopW, lcW, optS, wipeD, gSet, gTupD, gsNil, gsCons, tYes3, eIsi, isiD, kdOf, isK, allB, anyB, sumB, L3.listOf, blsOf, intsOf, asL, bindOk, bindExc, bindStk, toSOk, toSExc, lineOk, addI, subI, negI, mulL, mulR, divI, modI, ltI, leI, gtI, geI, eqI, neI, intB1, intB2, lenTup, lenLst, lenScr, tup0, tup1, tup2, tup3, tup4, tup5, lst0, lst1, lst2, lst3, List.getElem?_cons_zero, List.getElem?_cons_succ, List.getElem?_nil, List.set_cons_zero, List.set_cons_succ, List.length_cons, List.length_nil, List.map_cons, List.map_nil, List.replicate_succ, List.replicate_zero, List.cons_append, List.nil_append, List.append_nil, if_true, if_false, ite_true, ite_false, Bool.false_eq_true, Bool.not_true, Bool.not_false, Bool.true_and, Bool.and_true, Bool.false_and, Bool.and_false, Bool.or_true, Bool.true_or, Bool.false_or, Bool.or_false, and_self, and_true, true_and, Nat.sub_zero, Nat.sub_self, Nat.reduceSub, Nat.reduceAdd, Nat.reduceLeDiff, Nat.reduceEqDiff, decide_true, decide_false, Nat.zero_le]
theorem corner_ok {a b c d e f : Int} {h : Hh} (ha : -1000 ≤ a ∧ a ≤ 1000) (hb : -1000 ≤ b ∧ b ≤ 1000) (hc : -1000 ≤ c ∧ c ≤ 1000) (hd : -1000 ≤ d ∧ d ≤ 1000) (he : -1000 ≤ e ∧ e ≤ 1000) (hf : 1 ≤ f ∧ f ≤ 1000) : f_is_corner [int6 a b c d e f] h = .ok (.bl true) h := by
  have h1 : f_are_whole_in [int6 a b c d e f, .int 6, .int (-1000), .int 1000] h = .ok (.bl true) h := by
    rw [are6_ok]
    simp [betw, ha, hb, hc, hd, he, hf, show -1000 ≤ f by omega]
  simp (disch := omega) [f_is_corner, u_is_corner_1, u_is_corner, c_MAX_NUMBER, h1, runD, startD, endRt, endNx, endExc, seqE, seqNx, seqRt, seqExc, sNil, sPass, sIf, sRet, sRetN, sExpr, sSet, sAsg, sPar, kPar, setAll, sIxS, kSet, L3.sFld, eVar, eC, eBin, eTest, eChain, eUn, tAnd3, tOr3, tNot3, eAnd, eOr, eNot, eIf, aNil, aCons, eTup, eLst, eLstM, eCall, kCall, eMeth, kMeth, clsObj, eB, one, eFld, fldD, fieldAt, L3.putAt, eProp, kProp, noX, eMake, eLc, kLst, iSeq, L3.iZip, kZip, zipL, immS, iRg1, lcNil, lcCons, lcAS, lcBT, lcBF, lcCO, loNil, loCons, loAS, loNx, loCt, loBk, loRt, L3.sFor, sForW, eLcW, wSeq, wZip, kZipW, loopW, lcW, optS, wipeD, gSet, gTupD, gsNil, gsCons, tYes3, eIsi, isiD, kdOf, isK, allB, anyB, sumB, L3.listOf, blsOf, intsOf, asL, bindOk, bindExc, bindStk, toSOk, toSExc, lineOk, addI, subI, negI, mulL, mulR, divI, modI, ltI, leI, gtI, geI, eqI, neI, intB1, intB2, lenTup, lenLst, lenScr, tup0, tup1, tup2, tup3, tup4, tup5, lst0, lst1, lst2, lst3, List.getElem?_cons_zero, List.getElem?_cons_succ, List.getElem?_nil, List.set_cons_zero, List.set_cons_succ, List.length_cons, List.length_nil, List.map_cons, List.map_nil, List.replicate_succ, List.replicate_zero, List.cons_append, List.nil_append, List.append_nil, if_true, if_false, ite_true, ite_false, Bool.false_eq_true, Bool.not_true, Bool.not_false, Bool.true_and, Bool.and_true, Bool.false_and, Bool.and_false, Bool.or_true, Bool.true_or, Bool.false_or, Bool.or_false, and_self, and_true, true_and, Nat.sub_zero, Nat.sub_self, Nat.reduceSub, Nat.reduceAdd, Nat.reduceLeDiff, Nat.reduceEqDiff, decide_true, decide_false, Nat.zero_le]
  simp [int6, hf, runD, startD, endRt, endNx, endExc, seqE, seqNx, seqRt, seqExc, sNil, sPass, sIf, sRet, sRetN, sExpr, sSet, sAsg, sPar, kPar, setAll, sIxS, kSet, L3.sFld, eVar, eC, eBin, eTest, eChain, eUn, tAnd3, tOr3, tNot3, eAnd, eOr, eNot, eIf, aNil, aCons, eTup, eLst, eLstM, eCall, kCall, eMeth, kMeth, clsObj, eB, one, eFld, fldD, fieldAt, L3.putAt, eProp, kProp, noX, eMake, eLc, kLst, iSeq, L3.iZip, kZip, zipL, immS, iRg1, lcNil, lcCons, lcAS, lcBT, lcBF, lcCO, loNil, loCons, loAS, loNx, loCt, loBk, loRt, L3.sFor, sForW, eLcW, wSeq, wZip, kZipW, loopW, lcW, optS, wipeD, gSet, gTupD, gsNil, gsCons, tYes3, eIsi, isiD, kdOf, isK, allB, anyB, sumB, L3.listOf, blsOf, intsOf, asL, bindOk, bindExc, bindStk, toSOk, toSExc, lineOk, addI, subI, negI, mulL, mulR, divI, modI, ltI, leI, gtI, geI, eqI, neI, intB1, intB2, lenTup, lenLst, lenScr, tup0, tup1, tup2, tup3, tup4, tup5, lst0, lst1, lst2, lst3, List.getElem?_cons_zero, List.getElem?_cons_succ, List.getElem?_nil, List.set_cons_zero, List.set_cons_succ, List.length_cons, List.length_nil, List.map_cons, List.map_nil, List.replicate_succ, List.replicate_zero, List.cons_append, List.nil_append, List.append_nil, if_true, if_false, ite_true, ite_false, Bool.false_eq_true, Bool.not_true, Bool.not_false, Bool.true_and, Bool.and_true, Bool.false_and, Bool.and_false, Bool.or_true, Bool.true_or, Bool.false_or, Bool.or_false, and_self, and_true, true_and, Nat.sub_zero, Nat.sub_self, Nat.reduceSub, Nat.reduceAdd, Nat.reduceLeDiff, Nat.reduceEqDiff, decide_true, decide_false, Nat.zero_le]
theorem row_ok (a b c d e f : Int) (h : Hh) : f_eye_row [int6 a b c d e f] h = .ok (int3 a b d) h := by
  simp (disch := omega) [f_eye_row, u_eye_row_1, u_eye_row, int6, int3, runD, startD, endRt, endNx, endExc, seqE, seqNx, seqRt, seqExc, sNil, sPass, sIf, sRet, sRetN, sExpr, sSet, sAsg, sPar, kPar, setAll, sIxS, kSet, L3.sFld, eVar, eC, eBin, eTest, eChain, eUn, tAnd3, tOr3, tNot3, eAnd, eOr, eNot, eIf, aNil, aCons, eTup, eLst, eLstM, eCall, kCall, eMeth, kMeth, clsObj, eB, one, eFld, fldD, fieldAt, L3.putAt, eProp, kProp, noX, eMake, eLc, kLst, iSeq, L3.iZip, kZip, zipL, immS, iRg1, lcNil, lcCons, lcAS, lcBT, lcBF, lcCO, loNil, loCons, loAS, loNx, loCt, loBk, loRt, L3.sFor, sForW, eLcW, wSeq, wZip, kZipW, loopW, lcW, optS, wipeD, gSet, gTupD, gsNil, gsCons, tYes3, eIsi, isiD, kdOf, isK, allB, anyB, sumB, L3.listOf, blsOf, intsOf, asL, bindOk, bindExc, bindStk, toSOk, toSExc, lineOk, addI, subI, negI, mulL, mulR, divI, modI, ltI, leI, gtI, geI, eqI, neI, intB1, intB2, lenTup, lenLst, lenScr, tup0, tup1, tup2, tup3, tup4, tup5, lst0, lst1, lst2, lst3, List.getElem?_cons_zero, List.getElem?_cons_succ, List.getElem?_nil, List.set_cons_zero, List.set_cons_succ, List.length_cons, List.length_nil, List.map_cons, List.map_nil, List.replicate_succ, List.replicate_zero, List.cons_append, List.nil_append, List.append_nil, if_true, if_false, ite_true, ite_false, Bool.false_eq_true, Bool.not_true, Bool.not_false, Bool.true_and, Bool.and_true, Bool.false_and, Bool.and_false, Bool.or_true, Bool.true_or, Bool.false_or, Bool.or_false, and_self, and_true, true_and, Nat.sub_zero, Nat.sub_self, Nat.reduceSub, Nat.reduceAdd, Nat.reduceLeDiff, Nat.reduceEqDiff, decide_true, decide_false, Nat.zero_le]
structure Sm (a b c : Int) : Prop where
  a : -1000 ≤ a ∧ a ≤ 1000
  b : -1000 ≤ b ∧ b ≤ 1000
  c : -1000 ≤ c ∧ c ≤ 1000
theorem crossed_ok {a b c x y z : Int} {h : Hh} (s : Sm a b c) : f_crossed_rows [int3 a b c, int3 x y z] h = .ok (int3 (b * z - c * y) (c * x - a * z) (a * y - b * x)) h := by
  obtain ⟨h1, h2, h3⟩ := s
  simp (disch := omega) [f_crossed_rows, u_crossed_rows_1, u_crossed_rows, int3, runD, startD, endRt, endNx, endExc, seqE, seqNx, seqRt, seqExc, sNil, sPass, sIf, sRet, sRetN, sExpr, sSet, sAsg, sPar, kPar, setAll, sIxS, kSet, L3.sFld, eVar, eC, eBin, eTest, eChain, eUn, tAnd3, tOr3, tNot3, eAnd, eOr, eNot, eIf, aNil, aCons, eTup, eLst, eLstM, eCall, kCall, eMeth, kMeth, clsObj, eB, one, eFld, fldD, fieldAt, L3.putAt, eProp, kProp, noX, eMake, eLc, kLst, iSeq, L3.iZip, kZip, zipL, immS, iRg1, lcNil, lcCons, lcAS, lcBT, lcBF, lcCO, loNil, loCons, loAS, loNx, loCt, loBk, loRt, L3.sFor, sForW, eLcW, wSeq, wZip, kZipW, loopW, lcW, optS, wipeD, gSet, gTupD, gsNil, gsCons, tYes3, eIsi, isiD, kdOf, isK, allB, anyB, sumB, L3.listOf, blsOf, intsOf, asL, bindOk, bindExc, bindStk, toSOk, toSExc, lineOk, addI, subI, negI, mulL, mulR, divI, modI, ltI, leI, gtI, geI, eqI, neI, intB1, intB2, lenTup, lenLst, lenScr, tup0, tup1, tup2, tup3, tup4, tup5, lst0, lst1, lst2, lst3, List.getElem?_cons_zero, List.getElem?_cons_succ, List.getElem?_nil, List.set_cons_zero, List.set_cons_succ, List.length_cons, List.length_nil, List.map_cons, List.map_nil, List.replicate_succ, List.replicate_zero, List.cons_append, List.nil_append, List.append_nil, if_true, if_false, ite_true, ite_false, Bool.false_eq_true, Bool.not_true, Bool.not_false, Bool.true_and, Bool.and_true, Bool.false_and, Bool.and_false, Bool.or_true, Bool.true_or, Bool.false_or, Bool.or_false, and_self, and_true, true_and, Nat.sub_zero, Nat.sub_self, Nat.reduceSub, Nat.reduceAdd, Nat.reduceLeDiff, Nat.reduceEqDiff, decide_true, decide_false, Nat.zero_le]
theorem edge_ok {a b c x y z g : Int} {h : Hh} (s : Sm a b c) (hg : g = 1 ∨ g = -1) : f_linear_edge [int3 a b c, int3 x y z, .int g] h = .ok (int3 (g * 2 * (b * z - c * y)) (g * 2 * (c * x - a * z)) (g * (b * z - c * y + (c * x - a * z) + 2 * (a * y - b * x)))) h := by
  have hg1 : -18446744073709551616 < g ∧ g < 18446744073709551616 := by omega
  simp (disch := omega) [f_linear_edge, u_linear_edge_1, u_linear_edge_2, u_linear_edge, crossed_ok s, runD, startD, endRt, endNx, endExc, seqE, seqNx, seqRt, seqExc, sNil, sPass, sIf, sRet, sRetN, sExpr, sSet, sAsg, sPar, kPar, setAll, sIxS, kSet, L3.sFld, eVar, eC, eBin, eTest, eChain, eUn, tAnd3, tOr3, tNot3, eAnd, eOr, eNot, eIf, aNil, aCons, eTup, eLst, eLstM, eCall, kCall, eMeth, kMeth, clsObj, eB, one, eFld, fldD, fieldAt, L3.putAt, eProp, kProp, noX, eMake, eLc, kLst, iSeq, L3.iZip, kZip, zipL, immS, iRg1, lcNil, lcCons, lcAS, lcBT, lcBF, lcCO, loNil, loCons, loAS, loNx, loCt, loBk, loRt, L3.sFor, sForW, eLcW, wSeq, wZip, kZipW, loopW, lcW, optS, wipeD, gSet, gTupD, gsNil, gsCons, tYes3, eIsi, isiD, kdOf, isK, allB, anyB, sumB, L3.listOf, blsOf, intsOf, asL, bindOk, bindExc, bindStk, toSOk, toSExc, lineOk, addI, subI, negI, mulL, mulR, divI, modI, ltI, leI, gtI, geI, eqI, neI, intB1, intB2, lenTup, lenLst, lenScr, tup0, tup1, tup2, tup3, tup4, tup5, lst0, lst1, lst2, lst3, List.getElem?_cons_zero, List.getElem?_cons_succ, List.getElem?_nil, List.set_cons_zero, List.set_cons_succ, List.length_cons, List.length_nil, List.map_cons, List.map_nil, List.replicate_succ, List.replicate_zero, List.cons_append, List.nil_append, List.append_nil, if_true, if_false, ite_true, ite_false, Bool.false_eq_true, Bool.not_true, Bool.not_false, Bool.true_and, Bool.and_true, Bool.false_and, Bool.and_false, Bool.or_true, Bool.true_or, Bool.false_or, Bool.or_false, and_self, and_true, true_and, Nat.sub_zero, Nat.sub_self, Nat.reduceSub, Nat.reduceAdd, Nat.reduceLeDiff, Nat.reduceEqDiff, decide_true, decide_false, Nat.zero_le]
  simp (disch := omega) [int3, gTupD, gsCons, gSet, gsNil, runD, startD, endRt, endNx, endExc, seqE, seqNx, seqRt, seqExc, sNil, sPass, sIf, sRet, sRetN, sExpr, sSet, sAsg, sPar, kPar, setAll, sIxS, kSet, L3.sFld, eVar, eC, eBin, eTest, eChain, eUn, tAnd3, tOr3, tNot3, eAnd, eOr, eNot, eIf, aNil, aCons, eTup, eLst, eLstM, eCall, kCall, eMeth, kMeth, clsObj, eB, one, eFld, fldD, fieldAt, L3.putAt, eProp, kProp, noX, eMake, eLc, kLst, iSeq, L3.iZip, kZip, zipL, immS, iRg1, lcNil, lcCons, lcAS, lcBT, lcBF, lcCO, loNil, loCons, loAS, loNx, loCt, loBk, loRt, L3.sFor, sForW, eLcW, wSeq, wZip, kZipW, loopW, lcW, optS, wipeD, gSet, gTupD, gsNil, gsCons, tYes3, eIsi, isiD, kdOf, isK, allB, anyB, sumB, L3.listOf, blsOf, intsOf, asL, bindOk, bindExc, bindStk, toSOk, toSExc, lineOk, addI, subI, negI, mulL, mulR, divI, modI, ltI, leI, gtI, geI, eqI, neI, intB1, intB2, lenTup, lenLst, lenScr, tup0, tup1, tup2, tup3, tup4, tup5, lst0, lst1, lst2, lst3, List.getElem?_cons_zero, List.getElem?_cons_succ, List.getElem?_nil, List.set_cons_zero, List.set_cons_succ, List.length_cons, List.length_nil, List.map_cons, List.map_nil, List.replicate_succ, List.replicate_zero, List.cons_append, List.nil_append, List.append_nil, if_true, if_false, ite_true, ite_false, Bool.false_eq_true, Bool.not_true, Bool.not_false, Bool.true_and, Bool.and_true, Bool.false_and, Bool.and_false, Bool.or_true, Bool.true_or, Bool.false_or, Bool.or_false, and_self, and_true, true_and, Nat.sub_zero, Nat.sub_self, Nat.reduceSub, Nat.reduceAdd, Nat.reduceLeDiff, Nat.reduceEqDiff, decide_true, decide_false, Nat.zero_le]
def size9 (a b c x y z u v w : Int) : Int := a * (y * w - z * v) + b * (z * u - x * w) + c * (x * v - y * u)
def sg (n : Int) : Int := if n < 0 then -1 else 1
def edg (g a b c x y z : Int) : D := int3 (g * 2 * (b * z - c * y)) (g * 2 * (c * x - a * z)) (g * (b * z - c * y + (c * x - a * z) + 2 * (a * y - b * x)))
def triD (p q r : D) (a b c x y z u v w : Int) : D := .obj 0 [.tup [p, q, r], .int (size9 a b c x y z u v w), .tup [edg (sg (size9 a b c x y z u v w)) x y z u v w, edg (sg (size9 a b c x y z u v w)) u v w a b c, edg (sg (size9 a b c x y z u v w)) a b c x y z]]
theorem i30 (a b c : Int) (h : Hh) : ixA (int3 a b c) (.int 0) h = .ok (.int a) h := tup0
theorem i31 (a b c : Int) (h : Hh) : ixA (int3 a b c) (.int 1) h = .ok (.int b) h := tup1
theorem i32 (a b c : Int) (h : Hh) : ixA (int3 a b c) (.int 2) h = .ok (.int c) h := tup2
theorem make_ok {a b c x y z u v w a1 a2 a3 x1 x2 x3 u1 u2 u3 : Int} {h : Hh} (s1 : Sm a b c) (s2 : Sm x y z) (s3 : Sm u v w)
    (k1 : f_is_corner [int6 a b a1 c a2 a3] (h ++ [.obj 0 []]) = .ok (.bl true) (h ++ [.obj 0 []])) (k2 : f_is_corner [int6 x y x1 z x2 x3] (h ++ [.obj 0 []]) = .ok (.bl true) (h ++ [.obj 0 []])) (k3 : f_is_corner [int6 u v u1 w u2 u3] (h ++ [.obj 0 []]) = .ok (.bl true) (h ++ [.obj 0 []])) :
    kMake 0 3 4 f_Triangle___init__ [] [int6 a b a1 c a2 a3, int6 x y x1 z x2 x3, int6 u v u1 w u2 u3] h = .ok (triD (int6 a b a1 c a2 a3) (int6 x y x1 z x2 x3) (int6 u v u1 w u2 u3) a b c x y z u v w) (h ++ [.dead]) := by
  have q1 := s1.a
  have q2 := s1.b
  have q3 := s1.c
  have one1 : (1 : Int) = 1 ∨ (1 : Int) = -1 := .inl rfl
  have one2 : (-1 : Int) = 1 ∨ (-1 : Int) = -1 := .inr rfl
  by_cases hs : a * (y * w - z * v) + b * (z * u - x * w) + c * (x * v - y * u) < 0
  · simp (disch := omega) [kMake, endMake, f_Triangle___init__, u_Triangle___init___1_a_1, u_Triangle___init___1, u_Triangle___init___2, u_Triangle___init___3, u_Triangle___init___4, u_Triangle___init___5, u_Triangle___init___6, u_Triangle___init___7, u_Triangle___init__, k1, k2, k3, ix_corners, ix_own_size, ix_own_edges, set_last, get_last, i30, i31, i32, hs, row_ok, crossed_ok s2, edge_ok s2 one2, edge_ok s3 one2, edge_ok s1 one2, runD, startD, endRt, endNx, endExc, seqE, seqNx, seqRt, seqExc, sNil, sPass, sIf, sRet, sRetN, sExpr, sSet, sAsg, sPar, kPar, setAll, sIxS, kSet, L3.sFld, eVar, eC, eBin, eTest, eChain, eUn, tAnd3, tOr3, tNot3, eAnd, eOr, eNot, eIf, aNil, aCons, eTup, eLst, eLstM, eCall, kCall, eMeth, kMeth, clsObj, eB, one, eFld, fldD, fieldAt, L3.putAt, eProp, kProp, noX, eMake, eLc, kLst, iSeq, L3.iZip, kZip, zipL, immS, iRg1, lcNil, lcCons, lcAS, lcBT, lcBF, lcCO, loNil, loCons, loAS, loNx, loCt, loBk, loRt, L3.sFor, sForW, eLcW, wSeq, wZip, kZipW, loopW, lcW, optS, wipeD, gSet, gTupD, gsNil, gsCons, tYes3, eIsi, isiD, kdOf, isK, allB, anyB, sumB, L3.listOf, blsOf, intsOf, asL, bindOk, bindExc, bindStk, toSOk, toSExc, lineOk, addI, subI, negI, mulL, mulR, divI, modI, ltI, leI, gtI, geI, eqI, neI, intB1, intB2, lenTup, lenLst, lenScr, tup0, tup1, tup2, tup3, tup4, tup5, lst0, lst1, lst2, lst3, List.getElem?_cons_zero, List.getElem?_cons_succ, List.getElem?_nil, List.set_cons_zero, List.set_cons_succ, List.length_cons, List.length_nil, List.map_cons, List.map_nil, List.replicate_succ, List.replicate_zero, List.cons_append, List.nil_append, List.append_nil, if_true, if_false, ite_true, ite_false, Bool.false_eq_true, Bool.not_true, Bool.not_false, Bool.true_and, Bool.and_true, Bool.false_and, Bool.and_false, Bool.or_true, Bool.true_or, Bool.false_or, Bool.or_false, and_self, and_true, true_and, Nat.sub_zero, Nat.sub_self, Nat.reduceSub, Nat.reduceAdd, Nat.reduceLeDiff, Nat.reduceEqDiff, decide_true, decide_false, Nat.zero_le]
    simp [triD, edg, size9, sg, hs]
  · simp (disch := omega) [kMake, endMake, f_Triangle___init__, u_Triangle___init___1_a_1, u_Triangle___init___1, u_Triangle___init___2, u_Triangle___init___3, u_Triangle___init___4, u_Triangle___init___5, u_Triangle___init___6, u_Triangle___init___7, u_Triangle___init__, k1, k2, k3, ix_corners, ix_own_size, ix_own_edges, set_last, get_last, i30, i31, i32, hs, row_ok, crossed_ok s2, edge_ok s2 one1, edge_ok s3 one1, edge_ok s1 one1, runD, startD, endRt, endNx, endExc, seqE, seqNx, seqRt, seqExc, sNil, sPass, sIf, sRet, sRetN, sExpr, sSet, sAsg, sPar, kPar, setAll, sIxS, kSet, L3.sFld, eVar, eC, eBin, eTest, eChain, eUn, tAnd3, tOr3, tNot3, eAnd, eOr, eNot, eIf, aNil, aCons, eTup, eLst, eLstM, eCall, kCall, eMeth, kMeth, clsObj, eB, one, eFld, fldD, fieldAt, L3.putAt, eProp, kProp, noX, eMake, eLc, kLst, iSeq, L3.iZip, kZip, zipL, immS, iRg1, lcNil, lcCons, lcAS, lcBT, lcBF, lcCO, loNil, loCons, loAS, loNx, loCt, loBk, loRt, L3.sFor, sForW, eLcW, wSeq, wZip, kZipW, loopW, lcW, optS, wipeD, gSet, gTupD, gsNil, gsCons, tYes3, eIsi, isiD, kdOf, isK, allB, anyB, sumB, L3.listOf, blsOf, intsOf, asL, bindOk, bindExc, bindStk, toSOk, toSExc, lineOk, addI, subI, negI, mulL, mulR, divI, modI, ltI, leI, gtI, geI, eqI, neI, intB1, intB2, lenTup, lenLst, lenScr, tup0, tup1, tup2, tup3, tup4, tup5, lst0, lst1, lst2, lst3, List.getElem?_cons_zero, List.getElem?_cons_succ, List.getElem?_nil, List.set_cons_zero, List.set_cons_succ, List.length_cons, List.length_nil, List.map_cons, List.map_nil, List.replicate_succ, List.replicate_zero, List.cons_append, List.nil_append, List.append_nil, if_true, if_false, ite_true, ite_false, Bool.false_eq_true, Bool.not_true, Bool.not_false, Bool.true_and, Bool.and_true, Bool.false_and, Bool.and_false, Bool.or_true, Bool.true_or, Bool.false_or, Bool.or_false, and_self, and_true, true_and, Nat.sub_zero, Nat.sub_self, Nat.reduceSub, Nat.reduceAdd, Nat.reduceLeDiff, Nat.reduceEqDiff, decide_true, decide_false, Nat.zero_le]
    simp [triD, edg, size9, sg, hs]
def letB (e0 e1 v : Int) : Bool := decide (0 < v) || (decide (v = 0) && (decide (0 < e0) || (decide (e0 = 0) && decide (0 < e1))))
theorem let_ok (a b c v : Int) (h : Hh) : f_is_let_in [int3 a b c, .int v] h = .ok (.bl (letB a b v)) h := by
  by_cases h1 : 0 < v <;> by_cases h2 : v = 0 <;> by_cases h3 : 0 < a <;> by_cases h4 : a = 0 <;> first
    | (exfalso; omega)
    | (simp (disch := omega) [f_is_let_in, u_is_let_in_1, u_is_let_in, letB, i30, i31, h1, h2, h3, h4, runD, startD, endRt, endNx, endExc, seqE, seqNx, seqRt, seqExc, sNil, sPass, sIf, sRet, sRetN, sExpr, sSet, sAsg, sPar, kPar, setAll, sIxS, kSet, L3.sFld, eVar, eC, eBin, eTest, eChain, eUn, tAnd3, tOr3, tNot3, eAnd, eOr, eNot, eIf, aNil, aCons, eTup, eLst, eLstM, eCall, kCall, eMeth, kMeth, clsObj, eB, one, eFld, fldD, fieldAt, L3.putAt, eProp, kProp, noX, eMake, eLc, kLst, iSeq, L3.iZip, kZip, zipL, immS, iRg1, lcNil, lcCons, lcAS, lcBT, lcBF, lcCO, loNil, loCons, loAS, loNx, loCt, loBk, loRt, L3.sFor, sForW, eLcW, wSeq, wZip, kZipW, loopW, lcW, optS, wipeD, gSet, gTupD, gsNil, gsCons, tYes3, eIsi, isiD, kdOf, isK, allB, anyB, sumB, L3.listOf, blsOf, intsOf, asL, bindOk, bindExc, bindStk, toSOk, toSExc, lineOk, addI, subI, negI, mulL, mulR, divI, modI, ltI, leI, gtI, geI, eqI, neI, intB1, intB2, lenTup, lenLst, lenScr, tup0, tup1, tup2, tup3, tup4, tup5, lst0, lst1, lst2, lst3, List.getElem?_cons_zero, List.getElem?_cons_succ, List.getElem?_nil, List.set_cons_zero, List.set_cons_succ, List.length_cons, List.length_nil, List.map_cons, List.map_nil, List.replicate_succ, List.replicate_zero, List.cons_append, List.nil_append, List.append_nil, if_true, if_false, ite_true, ite_false, Bool.false_eq_true, Bool.not_true, Bool.not_false, Bool.true_and, Bool.and_true, Bool.false_and, Bool.and_false, Bool.or_true, Bool.true_or, Bool.false_or, Bool.or_false, and_self, and_true, true_and, Nat.sub_zero, Nat.sub_self, Nat.reduceSub, Nat.reduceAdd, Nat.reduceLeDiff, Nat.reduceEqDiff, decide_true, decide_false, Nat.zero_le]; done)
theorem place_ok {i j : Int} {h : Hh} (hi : -1000 ≤ i ∧ i ≤ 1000) (hj : -1000 ≤ j ∧ j ≤ 1000) : f_need_whole_place [.tup [.int i, .int j]] h = .ok .non h := by
  have h1 : f_are_whole_in [.tup [.int i, .int j], .int 2, .int (-1000), .int 1000] h = .ok (.bl true) h := by
    rw [are2_ok]
    simp [betw, hi, hj]
  simp (disch := omega) [f_need_whole_place, u_need_whole_place_1_a_1, u_need_whole_place_1, u_need_whole_place, c_MAX_NUMBER, h1, runD, startD, endRt, endNx, endExc, seqE, seqNx, seqRt, seqExc, sNil, sPass, sIf, sRet, sRetN, sExpr, sSet, sAsg, sPar, kPar, setAll, sIxS, kSet, L3.sFld, eVar, eC, eBin, eTest, eChain, eUn, tAnd3, tOr3, tNot3, eAnd, eOr, eNot, eIf, aNil, aCons, eTup, eLst, eLstM, eCall, kCall, eMeth, kMeth, clsObj, eB, one, eFld, fldD, fieldAt, L3.putAt, eProp, kProp, noX, eMake, eLc, kLst, iSeq, L3.iZip, kZip, zipL, immS, iRg1, lcNil, lcCons, lcAS, lcBT, lcBF, lcCO, loNil, loCons, loAS, loNx, loCt, loBk, loRt, L3.sFor, sForW, eLcW, wSeq, wZip, kZipW, loopW, lcW, optS, wipeD, gSet, gTupD, gsNil, gsCons, tYes3, eIsi, isiD, kdOf, isK, allB, anyB, sumB, L3.listOf, blsOf, intsOf, asL, bindOk, bindExc, bindStk, toSOk, toSExc, lineOk, addI, subI, negI, mulL, mulR, divI, modI, ltI, leI, gtI, geI, eqI, neI, intB1, intB2, lenTup, lenLst, lenScr, tup0, tup1, tup2, tup3, tup4, tup5, lst0, lst1, lst2, lst3, List.getElem?_cons_zero, List.getElem?_cons_succ, List.getElem?_nil, List.set_cons_zero, List.set_cons_succ, List.length_cons, List.length_nil, List.map_cons, List.map_nil, List.replicate_succ, List.replicate_zero, List.cons_append, List.nil_append, List.append_nil, if_true, if_false, ite_true, ite_false, Bool.false_eq_true, Bool.not_true, Bool.not_false, Bool.true_and, Bool.and_true, Bool.false_and, Bool.and_false, Bool.or_true, Bool.true_or, Bool.false_or, Bool.or_false, and_self, and_true, true_and, Nat.sub_zero, Nat.sub_self, Nat.reduceSub, Nat.reduceAdd, Nat.reduceLeDiff, Nat.reduceEqDiff, decide_true, decide_false, Nat.zero_le]
def objD (cs : D) (n : Int) (a b c x y z u v w : Int) : D := .obj 0 [cs, .int n, .tup [int3 a b c, int3 x y z, int3 u v w]]
theorem values_ok {cs : D} {n a b c x y z u v w i j : Int} {h : Hh} (hi : -1000 ≤ i ∧ i ≤ 1000) (hj : -1000 ≤ j ∧ j ≤ 1000) :
    f_Triangle_values_at [objD cs n a b c x y z u v w, .tup [.int i, .int j]] h = .ok (.lst [.int (a * i + b * j + c), .int (x * i + y * j + z), .int (u * i + v * j + w)]) h := by
  simp (disch := omega) [f_Triangle_values_at, u_Triangle_values_at_1, u_Triangle_values_at_2, u_Triangle_values_at, objD, int3, ix_own_edges, runD, startD, endRt, endNx, endExc, seqE, seqNx, seqRt, seqExc, sNil, sPass, sIf, sRet, sRetN, sExpr, sSet, sAsg, sPar, kPar, setAll, sIxS, kSet, L3.sFld, eVar, eC, eBin, eTest, eChain, eUn, tAnd3, tOr3, tNot3, eAnd, eOr, eNot, eIf, aNil, aCons, eTup, eLst, eLstM, eCall, kCall, eMeth, kMeth, clsObj, eB, one, eFld, fldD, fieldAt, L3.putAt, eProp, kProp, noX, eMake, eLc, kLst, iSeq, L3.iZip, kZip, zipL, immS, iRg1, lcNil, lcCons, lcAS, lcBT, lcBF, lcCO, loNil, loCons, loAS, loNx, loCt, loBk, loRt, L3.sFor, sForW, eLcW, wSeq, wZip, kZipW, loopW, lcW, optS, wipeD, gSet, gTupD, gsNil, gsCons, tYes3, eIsi, isiD, kdOf, isK, allB, anyB, sumB, L3.listOf, blsOf, intsOf, asL, bindOk, bindExc, bindStk, toSOk, toSExc, lineOk, addI, subI, negI, mulL, mulR, divI, modI, ltI, leI, gtI, geI, eqI, neI, intB1, intB2, lenTup, lenLst, lenScr, tup0, tup1, tup2, tup3, tup4, tup5, lst0, lst1, lst2, lst3, List.getElem?_cons_zero, List.getElem?_cons_succ, List.getElem?_nil, List.set_cons_zero, List.set_cons_succ, List.length_cons, List.length_nil, List.map_cons, List.map_nil, List.replicate_succ, List.replicate_zero, List.cons_append, List.nil_append, List.append_nil, if_true, if_false, ite_true, ite_false, Bool.false_eq_true, Bool.not_true, Bool.not_false, Bool.true_and, Bool.and_true, Bool.false_and, Bool.and_false, Bool.or_true, Bool.true_or, Bool.false_or, Bool.or_false, and_self, and_true, true_and, Nat.sub_zero, Nat.sub_self, Nat.reduceSub, Nat.reduceAdd, Nat.reduceLeDiff, Nat.reduceEqDiff, decide_true, decide_false, Nat.zero_le]
theorem over_ok (cs : D) (n a b c x y z u v w p q r : Int) (h : Hh) : f_Triangle_is_over [objD cs n a b c x y z u v w, .lst [.int p, .int q, .int r]] h = .ok (.bl (!decide (n = 0) && (letB a b p && (letB x y q && letB u v r)))) h := by
  by_cases hn : n = 0
  · simp (disch := omega) [f_Triangle_is_over, u_Triangle_is_over_1, u_Triangle_is_over, objD, ix_own_size, hn, runD, startD, endRt, endNx, endExc, seqE, seqNx, seqRt, seqExc, sNil, sPass, sIf, sRet, sRetN, sExpr, sSet, sAsg, sPar, kPar, setAll, sIxS, kSet, L3.sFld, eVar, eC, eBin, eTest, eChain, eUn, tAnd3, tOr3, tNot3, eAnd, eOr, eNot, eIf, aNil, aCons, eTup, eLst, eLstM, eCall, kCall, eMeth, kMeth, clsObj, eB, one, eFld, fldD, fieldAt, L3.putAt, eProp, kProp, noX, eMake, eLc, kLst, iSeq, L3.iZip, kZip, zipL, immS, iRg1, lcNil, lcCons, lcAS, lcBT, lcBF, lcCO, loNil, loCons, loAS, loNx, loCt, loBk, loRt, L3.sFor, sForW, eLcW, wSeq, wZip, kZipW, loopW, lcW, optS, wipeD, gSet, gTupD, gsNil, gsCons, tYes3, eIsi, isiD, kdOf, isK, allB, anyB, sumB, L3.listOf, blsOf, intsOf, asL, bindOk, bindExc, bindStk, toSOk, toSExc, lineOk, addI, subI, negI, mulL, mulR, divI, modI, ltI, leI, gtI, geI, eqI, neI, intB1, intB2, lenTup, lenLst, lenScr, tup0, tup1, tup2, tup3, tup4, tup5, lst0, lst1, lst2, lst3, List.getElem?_cons_zero, List.getElem?_cons_succ, List.getElem?_nil, List.set_cons_zero, List.set_cons_succ, List.length_cons, List.length_nil, List.map_cons, List.map_nil, List.replicate_succ, List.replicate_zero, List.cons_append, List.nil_append, List.append_nil, if_true, if_false, ite_true, ite_false, Bool.false_eq_true, Bool.not_true, Bool.not_false, Bool.true_and, Bool.and_true, Bool.false_and, Bool.and_false, Bool.or_true, Bool.true_or, Bool.false_or, Bool.or_false, and_self, and_true, true_and, Nat.sub_zero, Nat.sub_self, Nat.reduceSub, Nat.reduceAdd, Nat.reduceLeDiff, Nat.reduceEqDiff, decide_true, decide_false, Nat.zero_le]
  · simp (disch := omega) [f_Triangle_is_over, u_Triangle_is_over_1, u_Triangle_is_over, objD, ix_own_size, ix_own_edges, hn, let_ok, runD, startD, endRt, endNx, endExc, seqE, seqNx, seqRt, seqExc, sNil, sPass, sIf, sRet, sRetN, sExpr, sSet, sAsg, sPar, kPar, setAll, sIxS, kSet, L3.sFld, eVar, eC, eBin, eTest, eChain, eUn, tAnd3, tOr3, tNot3, eAnd, eOr, eNot, eIf, aNil, aCons, eTup, eLst, eLstM, eCall, kCall, eMeth, kMeth, clsObj, eB, one, eFld, fldD, fieldAt, L3.putAt, eProp, kProp, noX, eMake, eLc, kLst, iSeq, L3.iZip, kZip, zipL, immS, iRg1, lcNil, lcCons, lcAS, lcBT, lcBF, lcCO, loNil, loCons, loAS, loNx, loCt, loBk, loRt, L3.sFor, sForW, eLcW, wSeq, wZip, kZipW, loopW, lcW, optS, wipeD, gSet, gTupD, gsNil, gsCons, tYes3, eIsi, isiD, kdOf, isK, allB, anyB, sumB, L3.listOf, blsOf, intsOf, asL, bindOk, bindExc, bindStk, toSOk, toSExc, lineOk, addI, subI, negI, mulL, mulR, divI, modI, ltI, leI, gtI, geI, eqI, neI, intB1, intB2, lenTup, lenLst, lenScr, tup0, tup1, tup2, tup3, tup4, tup5, lst0, lst1, lst2, lst3, List.getElem?_cons_zero, List.getElem?_cons_succ, List.getElem?_nil, List.set_cons_zero, List.set_cons_succ, List.length_cons, List.length_nil, List.map_cons, List.map_nil, List.replicate_succ, List.replicate_zero, List.cons_append, List.nil_append, List.append_nil, if_true, if_false, ite_true, ite_false, Bool.false_eq_true, Bool.not_true, Bool.not_false, Bool.true_and, Bool.and_true, Bool.false_and, Bool.and_false, Bool.or_true, Bool.true_or, Bool.false_or, Bool.or_false, and_self, and_true, true_and, Nat.sub_zero, Nat.sub_self, Nat.reduceSub, Nat.reduceAdd, Nat.reduceLeDiff, Nat.reduceEqDiff, decide_true, decide_false, Nat.zero_le]
def covB (n a b c x y z u v w i j : Int) : Bool := !decide (n = 0) && (letB a b (a * i + b * j + c) && (letB x y (x * i + y * j + z) && letB u v (u * i + v * j + w)))
theorem covers_ok {cs : D} {n a b c x y z u v w i j : Int} {h : Hh} (hi : -1000 ≤ i ∧ i ≤ 1000) (hj : -1000 ≤ j ∧ j ≤ 1000) :
    f_Triangle_covers [objD cs n a b c x y z u v w, .tup [.int i, .int j]] h = .ok (.bl (covB n a b c x y z u v w i j)) h := by
  have e : clsOf h (objD cs n a b c x y z u v w) = some 0 := rfl
  simp (disch := omega) [f_Triangle_covers, u_Triangle_covers_1, u_Triangle_covers_2, u_Triangle_covers, place_ok hi hj, values_ok hi hj, over_ok, e, covB, runD, startD, endRt, endNx, endExc, seqE, seqNx, seqRt, seqExc, sNil, sPass, sIf, sRet, sRetN, sExpr, sSet, sAsg, sPar, kPar, setAll, sIxS, kSet, L3.sFld, eVar, eC, eBin, eTest, eChain, eUn, tAnd3, tOr3, tNot3, eAnd, eOr, eNot, eIf, aNil, aCons, eTup, eLst, eLstM, eCall, kCall, eMeth, kMeth, clsObj, eB, one, eFld, fldD, fieldAt, L3.putAt, eProp, kProp, noX, eMake, eLc, kLst, iSeq, L3.iZip, kZip, zipL, immS, iRg1, lcNil, lcCons, lcAS, lcBT, lcBF, lcCO, loNil, loCons, loAS, loNx, loCt, loBk, loRt, L3.sFor, sForW, eLcW, wSeq, wZip, kZipW, loopW, lcW, optS, wipeD, gSet, gTupD, gsNil, gsCons, tYes3, eIsi, isiD, kdOf, isK, allB, anyB, sumB, L3.listOf, blsOf, intsOf, asL, bindOk, bindExc, bindStk, toSOk, toSExc, lineOk, addI, subI, negI, mulL, mulR, divI, modI, ltI, leI, gtI, geI, eqI, neI, intB1, intB2, lenTup, lenLst, lenScr, tup0, tup1, tup2, tup3, tup4, tup5, lst0, lst1, lst2, lst3, List.getElem?_cons_zero, List.getElem?_cons_succ, List.getElem?_nil, List.set_cons_zero, List.set_cons_succ, List.length_cons, List.length_nil, List.map_cons, List.map_nil, List.replicate_succ, List.replicate_zero, List.cons_append, List.nil_append, List.append_nil, if_true, if_false, ite_true, ite_false, Bool.false_eq_true, Bool.not_true, Bool.not_false, Bool.true_and, Bool.and_true, Bool.false_and, Bool.and_false, Bool.or_true, Bool.true_or, Bool.false_or, Bool.or_false, and_self, and_true, true_and, Nat.sub_zero, Nat.sub_self, Nat.reduceSub, Nat.reduceAdd, Nat.reduceLeDiff, Nat.reduceEqDiff, decide_true, decide_false, Nat.zero_le]
end
section
def pos3 (l x y : Int) : Prop := 0 < l ∨ (l = 0 ∧ (0 < x ∨ (x = 0 ∧ 0 < y)))
instance (l x y : Int) : Decidable (pos3 l x y) := by unfold pos3; infer_instance
theorem letB_pos (e0 e1 v : Int) : letB e0 e1 v = decide (pos3 v e0 e1) := by
  rw [Bool.eq_iff_iff, decide_eq_true_iff]
  simp [letB, pos3]
structure Wo (z c t : Int) : Prop where
  z : -1000 ≤ z ∧ z ≤ 1000
  c : -1000 ≤ c ∧ c ≤ 1000
  t : 1 ≤ t ∧ t ≤ 1000
structure Cn where
  X : Int
  Y : Int
  Z : Int
  W : Int
  C : Int
  S : Int
def Cn.d (p : Cn) : D := int6 p.X p.Y p.Z p.W p.C p.S
structure Cn.Ok (p : Cn) : Prop where
  x : -1000 ≤ p.X ∧ p.X ≤ 1000
  y : -1000 ≤ p.Y ∧ p.Y ≤ 1000
  z : -1000 ≤ p.Z ∧ p.Z ≤ 1000
  w : -1000 ≤ p.W ∧ p.W ≤ 1000
  c : -1000 ≤ p.C ∧ p.C ≤ 1000
  s : 1 ≤ p.S ∧ p.S ≤ 1000
def det (p q r : Cn) : Int := size9 p.X p.Y p.W q.X q.Y q.W r.X r.Y r.W
def exx (q r : Cn) : Int := q.Y * r.W - q.W * r.Y
def exy (q r : Cn) : Int := q.W * r.X - q.X * r.W
def exw (q r : Cn) : Int := q.X * r.Y - q.Y * r.X
def ev (q r : Cn) (i j : Int) : Int := (2 * i + 1) * exx q r + (2 * j + 1) * exy q r + 2 * exw q r
def lt (g : Int) (q r : Cn) (i j : Int) : Prop := pos3 (g * ev q r i j) (g * exx q r) (g * exy q r)
instance (g : Int) (q r : Cn) (i j : Int) : Decidable (lt g q r i j) := by unfold lt; infer_instance
def cov (p q r : Cn) (i j : Int) : Bool := decide (det p q r ≠ 0 ∧ lt (sg (det p q r)) q r i j ∧ lt (sg (det p q r)) r p i j ∧ lt (sg (det p q r)) p q i j)
def tri (p q r : Cn) : D := triD p.d q.d r.d p.X p.Y p.W q.X q.Y q.W r.X r.Y r.W
theorem Cn.Ok.sm {p : Cn} (o : p.Ok) : Sm p.X p.Y p.W := ⟨o.x, o.y, o.w⟩
theorem Cn.Ok.cor {p : Cn} (o : p.Ok) (h : Hh) : f_is_corner [p.d] h = .ok (.bl true) h := corner_ok o.x o.y o.z o.w o.c o.s
theorem tri_ok {p q r : Cn} {h : Hh} (o1 : p.Ok) (o2 : q.Ok) (o3 : r.Ok) : kMake 0 3 4 f_Triangle___init__ [] [p.d, q.d, r.d] h = .ok (tri p q r) (h ++ [.dead]) := make_ok o1.sm o2.sm o3.sm (o1.cor _) (o2.cor _) (o3.cor _)
theorem edge_is (g : Int) (q r : Cn) (i j : Int) : g * 2 * (q.Y * r.W - q.W * r.Y) * i + g * 2 * (q.W * r.X - q.X * r.W) * j + g * (q.Y * r.W - q.W * r.Y + (q.W * r.X - q.X * r.W) + 2 * (q.X * r.Y - q.Y * r.X)) = g * ev q r i j := by
  unfold ev exx exy exw; grind
theorem let_is (g : Int) (q r : Cn) (i j : Int) : letB (g * 2 * (q.Y * r.W - q.W * r.Y)) (g * 2 * (q.W * r.X - q.X * r.W)) (g * 2 * (q.Y * r.W - q.W * r.Y) * i + g * 2 * (q.W * r.X - q.X * r.W) * j + g * (q.Y * r.W - q.W * r.Y + (q.W * r.X - q.X * r.W) + 2 * (q.X * r.Y - q.Y * r.X))) = decide (lt g q r i j) := by
  rw [letB_pos, edge_is, decide_eq_decide]
  unfold lt exx exy
  generalize g * ev q r i j = V
  rw [show g * 2 * (q.Y * r.W - q.W * r.Y) = 2 * (g * (q.Y * r.W - q.W * r.Y)) by grind, show g * 2 * (q.W * r.X - q.X * r.W) = 2 * (g * (q.W * r.X - q.X * r.W)) by grind]
  unfold pos3
  omega
theorem covB_is (p q r : Cn) (i j : Int) : covB (det p q r)
    (sg (det p q r) * 2 * (q.Y * r.W - q.W * r.Y)) (sg (det p q r) * 2 * (q.W * r.X - q.X * r.W)) (sg (det p q r) * (q.Y * r.W - q.W * r.Y + (q.W * r.X - q.X * r.W) + 2 * (q.X * r.Y - q.Y * r.X)))
    (sg (det p q r) * 2 * (r.Y * p.W - r.W * p.Y)) (sg (det p q r) * 2 * (r.W * p.X - r.X * p.W)) (sg (det p q r) * (r.Y * p.W - r.W * p.Y + (r.W * p.X - r.X * p.W) + 2 * (r.X * p.Y - r.Y * p.X)))
    (sg (det p q r) * 2 * (p.Y * q.W - p.W * q.Y)) (sg (det p q r) * 2 * (p.W * q.X - p.X * q.W)) (sg (det p q r) * (p.Y * q.W - p.W * q.Y + (p.W * q.X - p.X * q.W) + 2 * (p.X * q.Y - p.Y * q.X))) i j = cov p q r i j := by
  unfold covB cov
  rw [let_is, let_is, let_is, Bool.eq_iff_iff]
  simp
theorem tri_is (p q r : Cn) : tri p q r = objD (.tup [p.d, q.d, r.d]) (det p q r)
    (sg (det p q r) * 2 * (q.Y * r.W - q.W * r.Y)) (sg (det p q r) * 2 * (q.W * r.X - q.X * r.W)) (sg (det p q r) * (q.Y * r.W - q.W * r.Y + (q.W * r.X - q.X * r.W) + 2 * (q.X * r.Y - q.Y * r.X)))
    (sg (det p q r) * 2 * (r.Y * p.W - r.W * p.Y)) (sg (det p q r) * 2 * (r.W * p.X - r.X * p.W)) (sg (det p q r) * (r.Y * p.W - r.W * p.Y + (r.W * p.X - r.X * p.W) + 2 * (r.X * p.Y - r.Y * p.X)))
    (sg (det p q r) * 2 * (p.Y * q.W - p.W * q.Y)) (sg (det p q r) * 2 * (p.W * q.X - p.X * q.W)) (sg (det p q r) * (p.Y * q.W - p.W * q.Y + (p.W * q.X - p.X * q.W) + 2 * (p.X * q.Y - p.Y * q.X))) := rfl
theorem cov_ok {p q r : Cn} {i j : Int} {h : Hh} (hi : -1000 ≤ i ∧ i ≤ 1000) (hj : -1000 ≤ j ∧ j ≤ 1000) : f_Triangle_covers [tri p q r, .tup [.int i, .int j]] h = .ok (.bl (cov p q r i j)) h := by
  rw [tri_is, covers_ok hi hj, covB_is]
def eqC (p q : Cn) : Bool := decide (p.X = q.X) && (decide (p.Y = q.Y) && (decide (p.Z = q.Z) && (decide (p.W = q.W) && (decide (p.C = q.C) && decide (p.S = q.S)))))
theorem eqvC (p q : Cn) : eqv p.d q.d = eqC p q := by
  show (eqv (.int p.X) (.int q.X) && (eqv (.int p.Y) (.int q.Y) && (eqv (.int p.Z) (.int q.Z) && (eqv (.int p.W) (.int q.W) && (eqv (.int p.C) (.int q.C) && (eqv (.int p.S) (.int q.S) && true)))))) = _
  simp only [eqvI, Bool.and_true, eqC]
theorem flatC (p : Cn) (k : Nat) : flat (k + 1) p.d = true := by simp [Cn.d, int6, flat, flats]
theorem eqCs (p q r P Q V : Cn) (h : Hh) : eqD (.tup [p.d, q.d, r.d]) (.tup [P.d, Q.d, V.d]) h = .ok (.bl (eqC p P && (eqC q Q && eqC r V))) h ∧ eqD (.lst [p.d, q.d, r.d]) (.lst [P.d, Q.d, V.d]) h = .ok (.bl (eqC p P && (eqC q Q && eqC r V))) h := by
  have f1 : ∀ p q r : Cn, flat 60 (.tup [p.d, q.d, r.d]) = true := fun p q r => by simp [flat, flats, flatC]
  have f2 : ∀ p q r : Cn, flat 60 (.lst [p.d, q.d, r.d]) = true := fun p q r => by simp [flat, flats, flatC]
  have e1 : eqv (.tup [p.d, q.d, r.d]) (.tup [P.d, Q.d, V.d]) = (eqC p P && (eqC q Q && eqC r V)) := by
    show (eqv p.d P.d && (eqv q.d Q.d && (eqv r.d V.d && true))) = _
    simp only [eqvC, Bool.and_true]
  have e2 : eqv (.lst [p.d, q.d, r.d]) (.lst [P.d, Q.d, V.d]) = (eqC p P && (eqC q Q && eqC r V)) := by
    show (eqv p.d P.d && (eqv q.d Q.d && (eqv r.d V.d && true))) = _
    simp only [eqvC, Bool.and_true]
  constructor
  · show (if flat 60 (.tup [p.d, q.d, r.d]) = true ∧ flat 60 (.tup [P.d, Q.d, V.d]) = true then R.ok (D.bl (eqv (.tup [p.d, q.d, r.d]) (.tup [P.d, Q.d, V.d]))) h else .stk) = _
    rw [if_pos ⟨f1 _ _ _, f1 _ _ _⟩, e1]
  · show (if flat 60 (.lst [p.d, q.d, r.d]) = true ∧ flat 60 (.lst [P.d, Q.d, V.d]) = true then R.ok (D.bl (eqv (.lst [p.d, q.d, r.d]) (.lst [P.d, Q.d, V.d]))) h else .stk) = _
    rw [if_pos ⟨f2 _ _ _, f2 _ _ _⟩, e2]
end
section
section
variable {X : Nat → List D → Hh → Prop} {Q : D → Hh → Prop} {h : Hh} {δ : De}
theorem app_put (h : Hh) (x y : O) : (h ++ [x]).set h.length y = h ++ [y] := by
  rw [List.set_append_right _ _ (Nat.le_refl _)]; simp
theorem eAct_at {q : List Nat} {fb : FnE} {r : De} : eAct q fb 0 (some (.ref h.length) :: r) (h ++ [.lam q δ]) = actR h.length q δ (fb δ (h ++ [.dead])) := by
  have e1 : (h ++ [O.lam q δ])[h.length]? = some (.lam q δ) := by simp
  show (match (h ++ [O.lam q δ])[h.length]? with
    | some (.lam q' cap) => if q' = q then actR h.length q cap (fb cap ((h ++ [O.lam q δ]).set h.length .dead)) else R.stk
    | _ => R.stk) = _
  rw [e1]
  dsimp only
  rw [if_pos rfl, app_put]
theorem eLam_at {t : Nat} {q : List Nat} {sem : List Nat → FnE → Sem3} {fb : FnE} (ht : h[t]? = some (.tab q)) : eLam t q sem fb δ h = lamEnd h.length (sem q fb [.ref h.length] (h ++ [.lam q δ])) := by
  unfold eLam
  rw [ht]
  dsimp only
  rw [if_pos rfl]
def toldD (c : Option Nat) : D := .str (match c with
  | none => [110, 111, 110, 101]
  | some 0 => [99, 111, 114, 110, 101, 114]
  | some 1 => [112, 108, 97, 99, 101]
  | _ => [110, 117, 109, 98, 101, 114])
theorem said_w {t : Nat} {q : List Nat} {fb : FnE} (ht : h[t]? = some (.tab q)) (z : wr (fb δ (h ++ [.dead])) (fun c _ h' => c < 3 ∧ Q (toldD (some c)) (h'.set h.length .dead)) (fun _ h' => Q (toldD none) (h'.set h.length .dead))) : wr (eLam t q f__law_said fb δ h) X Q := by
  rw [eLam_at ht]
  cases e : fb δ (h ++ [.dead]) with
  | ok x h' =>
    rw [e] at z
    have : f__law_said q fb [.ref h.length] (h ++ [.lam q δ]) = .ok (toldD none) (h'.set h.length (.lam q δ)) := by
      unfold f__law_said runD
      show endD (u__law_said q fb [some (.ref h.length), none] (h ++ [.lam q δ])) = _
      simp only [u__law_said, u__law_said_1, u__law_said_2, u__law_said_2_t_1, u__law_said_3, sSeq, sSet, eC, R.toS, sTryN, sExpr, List.set_cons_succ, List.set_cons_zero, eAct_at, e, actR, sRet, eVar, List.getElem?_cons_succ, List.getElem?_cons_zero, endD]
      rfl
    rw [this]
    show Q _ ((h'.set _ _).set _ _)
    rw [List.set_set]
    exact z
  | exc c ds h' =>
    rw [e] at z
    obtain ⟨c2, z⟩ := z
    have : f__law_said q fb [.ref h.length] (h ++ [.lam q δ]) = .ok (toldD (some c)) (h'.set h.length (.lam q δ)) := by
      unfold f__law_said runD
      show endD (u__law_said q fb [some (.ref h.length), none] (h ++ [.lam q δ])) = _
      have hc : c = 0 ∨ c = 1 ∨ c = 2 := by omega
      rcases hc with rfl | rfl | rfl <;>
      simp only [u__law_said, u__law_said_1, u__law_said_2, u__law_said_2_t_1, u__law_said_2_h0_1, u__law_said_2_h1_1, u__law_said_2_h2_1, u__law_said_3, sSeq, sSet, eC, R.toS, sTryN, sExpr, List.set_cons_succ, List.set_cons_zero, eAct_at, e, actR, sRet, eVar, List.getElem?_cons_succ, List.getElem?_cons_zero, endD, handleN, mH_BadCorner, mH_BadPlace, mH_BadNumber, if_true, noXS, Bool.false_eq_true, if_false] <;> rfl
    rw [this]
    show Q _ ((h'.set _ _).set _ _)
    rw [List.set_set]
    exact z
  | stk => rw [e] at z; exact z.elim
end
section
variable {X : Nat → List D → Hh → Prop} {Q : D → Hh → Prop} {h : Hh} {o m N : Nat} {os : List (Nat × O)}
theorem told_w {t : Nat} {q : List Nat} {δ : De} {fb : FnE} {c : Nat} (hc : c < 3) (s : St o m h N os) (hq : (t, O.tab q) ∈ os) (z : ∃ ds h', fb δ (h ++ [.dead]) = .exc c ds h' ∧ Old (h ++ [.dead]) h') (k : ∀ h', St o m h' N os → Old h h' → Q (toldD (some c)) h') : wr (eLam t q f__law_said fb δ h) X Q := by
  obtain ⟨ds, h1, e, x⟩ := z
  have y : Old h (h1.set h.length .dead) := ((Old.app h [.dead]).trans x).put (Nat.le_refl _) _
  refine said_w (s.get hq) ?_
  rw [e]
  exact ⟨hc, k _ (s.old y) y⟩
theorem w_app {X : Nat → List D → Hh → Prop} {Q : D → Hh → Prop} {δ : De} {h : Hh} {fo fy : FnE} {n : Nat} {ds : List D} (e : fo δ h = .ok (.ref n) h) (en : h[n]? = some (.lst ds)) (l : ds.length < 1000) (z : wr (fy δ h) X fun y h1 => h1[n]? = some (.lst ds) ∧ Q .non (h1.set n (.lst (ds ++ [y])))) : wr (eM appendM fo (aCons fy aNil) δ h) X Q := by
  have e1 : (asL h (.ref n)).isSome = true := by unfold asL; dsimp only; rw [en]; rfl
  unfold eM
  rw [e, bindOk]
  unfold kM
  rw [if_pos e1]
  refine wr_bind (w_cons (wr_mono z fun y h1 z => ?_))
  refine w_nil ?_
  have e2 : mutL h1 (.ref n) = some (n, ds) := by unfold mutL; dsimp only; rw [z.1]
  have e3 : ds.length < 16777216 := by omega
  unfold appendM
  rw [e2]
  dsimp only
  rw [if_pos e3]
  exact z.2
theorem pick_at {ds : List D} {v : Int} (v0 : 0 ≤ v) (v1 : v < ds.length) (h : Hh) : ∃ d, d ∈ ds ∧ ixA (.lst ds) (.int v) h = .ok d h := by
  have hv : v.toNat < ds.length := by omega
  exact ⟨_, List.getElem_mem hv, ixLstAt v0 (List.getElem?_eq_getElem hv)⟩
theorem St.ne {n : Nat} (s : St o m h N os) (hn : h.length ≤ n) : ∀ p ∈ os, p.1 ≠ n := fun p hp e => by
  have := (List.getElem?_eq_some_iff.mp (s.get (n := p.1) (x := p.2) hp)).1
  omega
def OddC (d : D) : Prop := ∀ h, f_is_corner [d] h = .ok (.bl false) h
def odds13 : List D := [.non, .int 0, .str [99, 111, 114, 110, 101, 114], .tup [], .dic [] [], .lst [.int 0, .int 0, .int 0, .int 1, .int 0, .int 1], .tup [.int 0, .int 0, .int 0, .int 1, .int 0], .tup [.int 0, .int 0, .int 0, .int 1, .int 0, .int 1, .int 1], .tup [.int 0, .int 0, .int 0, .int 1, .int 0, .int 0],
  .tup [.int 0, .int 0, .int 0, .int 1, .int 0, .int (-1)], .tup [.int 0, .int 0, .int 0, .int 1, .int 0, .bl true], .tup [.tup [.int 0, .int 0, .int 0, .int 1, .int 0, .int 1]], .tup [.int 0, .int 0, .int 0, .int 1, .int 0, .int 1001]]
def base6 : List D := [.int 0, .int 0, .int 0, .int 1, .int 0, .int 1]
def odd8 : List D := [.int 1001, .int (-1001), .bl true, .bl false, .non, .str [48], .tup [.int 0], .int 1000000000000000000000000000000]
theorem odds13_all : ∀ d ∈ odds13, OddC d := by
  intro d hd
  simp only [odds13, List.mem_cons, List.not_mem_nil, or_false] at hd
  rcases hd with rfl | rfl | rfl | rfl | rfl | rfl | rfl | rfl | rfl | rfl | rfl | rfl | rfl <;> exact fun h => by kernel_rfl
theorem base_odd (i : Nat) (hi : i < 6) : ∀ d ∈ odd8, OddC (.tup (base6.set i d)) := by
  intro d hd
  simp only [odd8, List.mem_cons, List.not_mem_nil, or_false] at hd
  have hc : i = 0 ∨ i = 1 ∨ i = 2 ∨ i = 3 ∨ i = 4 ∨ i = 5 := by omega
  rcases hc with rfl | rfl | rfl | rfl | rfl | rfl <;> rcases hd with rfl | rfl | rfl | rfl | rfl | rfl | rfl | rfl <;> exact fun h => by kernel_rfl
theorem e_u__law_odd_corner_1 {δ : De} {h : Hh} {E : Es} (z : ws ((sSet 1 (eLst (aCons (eC .non) (aCons (eC (.int 0)) (aCons (eC (.str [99, 111, 114, 110, 101, 114])) (aCons (eTup aNil) (aCons (eDic0 false) (aCons (eLst (aCons (eC (.int 0)) (aCons (eC (.int 0)) (aCons (eC (.int 0)) (aCons (eC (.int 1)) (aCons (eC (.int 0)) (aCons (eC (.int 1)) aNil))))))) (aCons (eTup (aCons (eC (.int 0)) (aCons (eC (.int 0)) (aCons (eC (.int 0)) (aCons (eC (.int 1)) (aCons (eC (.int 0)) aNil)))))) (aCons (eTup (aCons (eC (.int 0)) (aCons (eC (.int 0)) (aCons (eC (.int 0)) (aCons (eC (.int 1)) (aCons (eC (.int 0)) (aCons (eC (.int 1)) (aCons (eC (.int 1)) aNil)))))))) (aCons (eTup (aCons (eC (.int 0)) (aCons (eC (.int 0)) (aCons (eC (.int 0)) (aCons (eC (.int 1)) (aCons (eC (.int 0)) (aCons (eC (.int 0)) aNil))))))) aNil))))))))))) δ h) E) : ws (u__law_odd_corner_1 δ h) E := z
theorem e_u__law_odd_corner_2 {δ : De} {h : Hh} {E : Es} (z : ws ((sSet 1 (eBin addD (eVar 1) (eLst (aCons (eTup (aCons (eC (.int 0)) (aCons (eC (.int 0)) (aCons (eC (.int 0)) (aCons (eC (.int 1)) (aCons (eC (.int 0)) (aCons (eUn negD (eC (.int 1))) aNil))))))) (aCons (eTup (aCons (eC (.int 0)) (aCons (eC (.int 0)) (aCons (eC (.int 0)) (aCons (eC (.int 1)) (aCons (eC (.int 0)) (aCons (eC (.bl true)) aNil))))))) (aCons (eTup (aCons (eTup (aCons (eC (.int 0)) (aCons (eC (.int 0)) (aCons (eC (.int 0)) (aCons (eC (.int 1)) (aCons (eC (.int 0)) (aCons (eC (.int 1)) aNil))))))) aNil)) (aCons (eTup (aCons (eC (.int 0)) (aCons (eC (.int 0)) (aCons (eC (.int 0)) (aCons (eC (.int 1)) (aCons (eC (.int 0)) (aCons (eC (.int 1001)) aNil))))))) aNil))))))) δ h) E) : ws (u__law_odd_corner_2 δ h) E := z
theorem e_u__law_odd_corner_3 {δ : De} {h : Hh} {E : Es} (z : ws ((sPar [2, 3] (aCons (eCall 2 f__law_next (aCons (eVar 0) (aCons (eC (.int 6)) aNil)) []) (aCons (eLstM (aCons (eC (.int 0)) (aCons (eC (.int 0)) (aCons (eC (.int 0)) (aCons (eC (.int 1)) (aCons (eC (.int 0)) (aCons (eC (.int 1)) aNil))))))) aNil))) δ h) E) : ws (u__law_odd_corner_3 δ h) E := z
theorem e_u__law_odd_corner_4 {δ : De} {h : Hh} {E : Es} (z : ws ((sSet 4 (eBin ixA (eLst (aCons (eC (.int 1001)) (aCons (eUn negD (eC (.int 1001))) (aCons (eC (.bl true)) (aCons (eC (.bl false)) (aCons (eC .non) (aCons (eC (.str [48])) (aCons (eTup (aCons (eC (.int 0)) aNil)) (aCons (eBin powD (eC (.int 10)) (eC (.int 30))) aNil))))))))) (eCall 2 f__law_next (aCons (eVar 0) (aCons (eC (.int 8)) aNil)) []))) δ h) E) : ws (u__law_odd_corner_4 δ h) E := z
theorem e_u__law_odd_corner_5 {δ : De} {h : Hh} {E : Es} (z : ws ((sIxS (eVar 3) (eVar 2) (eVar 4)) δ h) E) : ws (u__law_odd_corner_5 δ h) E := z
theorem e_u__law_odd_corner_6 {δ : De} {h : Hh} {E : Es} (z : ws ((sRet (eBin ixA (eBin addD (eVar 1) (eBin mulD (eLst (aCons (eB tupleB (aCons (eVar 3) aNil)) aNil)) (eC (.int 7)))) (eCall 2 f__law_next (aCons (eVar 0) (aCons (eC (.int 20)) aNil)) []))) δ h) E) : ws (u__law_odd_corner_6 δ h) E := z
theorem e_u__law_odd_corner {δ : De} {h : Hh} {E : Es} (z : ws ((sSeq u__law_odd_corner_1 (sSeq u__law_odd_corner_2 (sSeq u__law_odd_corner_3 (sSeq u__law_odd_corner_4 (sSeq u__law_odd_corner_5 u__law_odd_corner_6))))) δ h) E) : ws (u__law_odd_corner δ h) E := z
theorem oddc_w (s : St o m h N os) (hN : 3 ≤ N) (q : ∀ d h', OddC d → St o m h' (N - 3) os → Q d h') : wr (f__law_odd_corner [.ref m] h) X Q := by
  refine w_run (δ := [some (.ref m), none, none, none, none]) rfl ?_
  with_reducible refine e_u__law_odd_corner (s_seq (e_u__law_odd_corner_1 (s_set ?_)))
  refine wr_ok (x := .lst (odds13.take 9)) (h := h) (by kernel_rfl) ?_
  with_reducible refine s_seq (e_u__law_odd_corner_2 (s_set ?_))
  refine wr_ok (x := .lst odds13) (h := h) (by kernel_rfl) ?_
  with_reducible refine s_seq (e_u__law_odd_corner_3 (s_par (w_cons (w_call0 ?_))))
  refine wr_ok (x := [.ref m, .int 6]) (h := h) rfl (w_eqn rfl ?_)
  refine w_next s (by omega) (by omega) (by omega) fun v h1 v0 v1 s1 => ?_
  with_reducible refine w_cons ?_
  refine wr_ok (x := .ref h1.length) (h := h1 ++ [.lst base6]) (by kernel_rfl) (w_nil (w_eqn rfl ?_))
  have ne := s1.ne (Nat.le_refl _)
  have s2 := s1.new (.lst base6)
  generalize h1.length = n at s2 ne ⊢
  generalize h1 ++ [O.lst base6] = h2 at s2 ⊢
  with_reducible refine s_seq (e_u__law_odd_corner_4 (s_set (w_bin ?_)))
  refine wr_ok (x := .lst odd8) (h := h2) (by kernel_rfl) ?_
  with_reducible refine w_call0 ?_
  refine wr_ok (x := [.ref m, .int 8]) (h := h2) rfl (w_eqn rfl ?_)
  refine w_next s2 (by omega) (by omega) (by omega) fun k h3 k0 k1 s3 => ?_
  obtain ⟨y, hy, e⟩ := pick_at (ds := odd8) k0 k1 h3
  refine wr_ok e ?_
  obtain ⟨i, rfl⟩ : ∃ i : Nat, v = (i : Int) := ⟨v.toNat, by omega⟩
  have hb := base_odd i (by omega) y hy
  have g3 := s3.get (n := n) (x := .lst base6) (by simp)
  have s4 := s3.put ne (.lst (base6.set i y))
  have e4 : setOne (.ref n) (.int (i : Int)) y h3 = some (h3.set n (.lst (base6.set i y))) := by
    have z : ixN 6 (i : Int) = some i := by
      have hc : i = 0 ∨ i = 1 ∨ i = 2 ∨ i = 3 ∨ i = 4 ∨ i = 5 := by omega
      rcases hc with rfl | rfl | rfl | rfl | rfl | rfl <;> rfl
    unfold setOne
    dsimp only
    rw [g3]
    show (match ixN 6 (i : Int) with
      | some j => some (h3.set n (O.lst (base6.set j y)))
      | none => none) = _
    rw [z]
  with_reducible refine s_seq (e_u__law_odd_corner_5 (s_ix ?_))
  refine wr_ok (x := y) (h := h3) rfl (wr_ok (x := .ref n) (h := h3) rfl (wr_ok (x := .int (i : Int)) (h := h3) rfl ⟨_, e4, ?_⟩))
  generalize h3.set n (.lst (base6.set i y)) = h4 at s4 ⊢
  have g4 := s4.get (n := n) (x := .lst (base6.set i y)) (by simp)
  with_reducible refine e_u__law_odd_corner_6 (s_ret (w_bin (w_bin ?_)))
  refine wr_ok (x := .lst odds13) (h := h4) rfl ?_
  with_reducible refine w_bin (w_lst (w_cons (w_b (w_cons ?_))))
  refine wr_ok (x := .ref n) (h := h4) rfl (w_nil ?_)
  refine wr_ok (x := .tup (base6.set i y)) (h := h4) (by show tupleD (.ref n) h4 = _; unfold tupleD; dsimp only; unfold asL; dsimp only; rw [g4]) ?_
  refine w_nil (w_le (by simp) (w_c ?_))
  refine wr_ok (x := .lst (List.replicate 7 (.tup (base6.set i y)))) (h := h4) rfl ?_
  refine wr_ok (x := .lst (odds13 ++ List.replicate 7 (.tup (base6.set i y)))) (h := h4) rfl ?_
  with_reducible refine w_call0 ?_
  refine wr_ok (x := [.ref m, .int 20]) (h := h4) rfl (w_eqn rfl ?_)
  refine w_next s4 (by omega) (by omega) (by omega) fun k2 h5 a0 a1 s5 => ?_
  obtain ⟨d, hd, e5⟩ := pick_at (ds := odds13 ++ List.replicate 7 (.tup (base6.set i y))) a0 (by simpa [odds13] using a1) h5
  refine wr_ok e5 (q d h5 ?_ ((s5.weak (M := N - 3) (by omega)).sub (os' := os) (Nat.le_refl _) fun p hp => by simp [hp]))
  rcases List.mem_append.mp hd with z | z
  · exact odds13_all d z
  · rw [(List.mem_replicate.mp z).2]; exact hb
end
end
section
section
variable {X : Nat → List D → Hh → Prop} {Q : D → Hh → Prop} {h : Hh} {o m N : Nat} {os : List (Nat × O)}
def Ans (d : D) (b : Bool) : Prop := ∀ h, f_is_corner [d] h = .ok (.bl b) h
theorem init_no {x y z : D} {a b c : Bool} (hx : Ans x a) (hy : Ans y b) (hz : Ans z c) (no : (a && (b && c)) = false) (n : Nat) (h : Hh) : f_Triangle___init__ [.ref n, x, y, z] h = .exc 0 [.str [110, 111, 32, 99, 111, 114, 110, 101, 114]] h := by
  cases a <;> cases b <;> cases c <;> first
    | (exfalso; simp at no; done)
    | (simp [f_Triangle___init__, u_Triangle___init___1_a_1, u_Triangle___init___1, u_Triangle___init___2, u_Triangle___init___3, u_Triangle___init___4, u_Triangle___init___5, u_Triangle___init___6, u_Triangle___init___7, u_Triangle___init__, hx _, hy _, hz _, runD, startD, endRt, endNx, endExc, seqE, seqNx, seqRt, seqExc, sNil, sPass, sIf, sRet, sRetN, sExpr, sSet, sAsg, sPar, kPar, setAll, sIxS, kSet, L3.sFld, eVar, eC, eBin, eTest, eChain, eUn, tAnd3, tOr3, tNot3, eAnd, eOr, eNot, eIf, aNil, aCons, eTup, eLst, eLstM, eCall, kCall, eMeth, kMeth, clsObj, eB, one, eFld, fldD, fieldAt, L3.putAt, eProp, kProp, noX, eMake, eLc, kLst, iSeq, L3.iZip, kZip, zipL, immS, iRg1, lcNil, lcCons, lcAS, lcBT, lcBF, lcCO, loNil, loCons, loAS, loNx, loCt, loBk, loRt, L3.sFor, sForW, eLcW, wSeq, wZip, kZipW, loopW, lcW, optS, wipeD, gSet, gTupD, gsNil, gsCons, tYes3, eIsi, isiD, kdOf, isK, allB, anyB, sumB, L3.listOf, blsOf, intsOf, asL, bindOk, bindExc, bindStk, toSOk, toSExc, lineOk, addI, subI, negI, mulL, mulR, divI, modI, ltI, leI, gtI, geI, eqI, neI, intB1, intB2, lenTup, lenLst, lenScr, tup0, tup1, tup2, tup3, tup4, tup5, lst0, lst1, lst2, lst3, List.getElem?_cons_zero, List.getElem?_cons_succ, List.getElem?_nil, List.set_cons_zero, List.set_cons_succ, List.length_cons, List.length_nil, List.map_cons, List.map_nil, List.replicate_succ, List.replicate_zero, List.cons_append, List.nil_append, List.append_nil, if_true, if_false, ite_true, ite_false, Bool.false_eq_true, Bool.not_true, Bool.not_false, Bool.true_and, Bool.and_true, Bool.false_and, Bool.and_false, Bool.or_true, Bool.true_or, Bool.false_or, Bool.or_false, and_self, and_true, true_and, Nat.sub_zero, Nat.sub_self, Nat.reduceSub, Nat.reduceAdd, Nat.reduceLeDiff, Nat.reduceEqDiff, decide_true, decide_false, Nat.zero_le]; rfl)
theorem mk_no {x y z : D} {a b c : Bool} (hx : Ans x a) (hy : Ans y b) (hz : Ans z c) (no : (a && (b && c)) = false) (h : Hh) : ∃ ds h', kMake 0 3 4 f_Triangle___init__ [] [x, y, z] h = .exc 0 ds h' ∧ Old h h' := by
  refine ⟨[.str [110, 111, 32, 99, 111, 114, 110, 101, 114]], h ++ [.obj 0 []], ?_, Old.app h _⟩
  have e := init_no hx hy hz no h.length (h ++ [.obj 0 []])
  have l : (D.ref h.length :: ([x, y, z] ++ [])).length = 4 := rfl
  unfold kMake
  rw [if_pos l]
  simp only [List.append_nil, e]
  unfold endMake
  rfl
theorem emk_no {f1 f2 f3 : FnE} {δ : De} {x y z : D} {a b c : Bool} (e1 : ∀ h, f1 δ h = .ok x h) (e2 : ∀ h, f2 δ h = .ok y h) (e3 : ∀ h, f3 δ h = .ok z h) (hx : Ans x a) (hy : Ans y b) (hz : Ans z c) (no : (a && (b && c)) = false) (h : Hh) :
    ∃ ds h', eMake 0 3 4 f_Triangle___init__ (aCons f1 (aCons f2 (aCons f3 aNil))) [] δ h = .exc 0 ds h' ∧ Old h h' := by
  have ea : aCons f1 (aCons f2 (aCons f3 aNil)) δ h = .ok [x, y, z] h := aC_ok (e1 h) (aC_ok (e2 h) (aC_ok (e3 h) aN_ok))
  unfold eMake
  rw [ea, bindOk]
  exact mk_no hx hy hz no h
def OddP (d : D) : Prop := ∀ h, f_are_whole_in [d, .int 2, .int (-1000), .int 1000] h = .ok (.bl false) h
def spots12 : List D := [.non, .int 0, .str [48, 48], .tup [], .tup [.int 0], .tup [.int 0, .int 0, .int 0], .lst [.int 0, .int 0], .tup [.bl true, .int 0], .tup [.int 0, .bl false], .tup [.int 1001, .int 0], .tup [.int 0, .int (-1001)], .tup [.non, .int 0]]
def spots18 : List D := spots12 ++ [.tup [.int 0, .str [48]], .tup [.tup [.int 0], .int 0], .dic [] [], .tup [.int 1000000000000000000000000000000, .int 0], .tup [.int (-1001), .int 0], .tup [.int 0, .int 1001]]
theorem spots_all : ∀ d ∈ spots18, OddP d := by
  intro d hd
  simp only [spots18, spots12, List.cons_append, List.nil_append, List.mem_cons, List.not_mem_nil, or_false] at hd
  rcases hd with rfl | rfl | rfl | rfl | rfl | rfl | rfl | rfl | rfl | rfl | rfl | rfl | rfl | rfl | rfl | rfl | rfl | rfl <;> exact fun h => by kernel_rfl
theorem e_u__law_odd_spot_1 {δ : De} {h : Hh} {E : Es} (z : ws ((sSet 1 (eLst (aCons (eC .non) (aCons (eC (.int 0)) (aCons (eC (.str [48, 48])) (aCons (eTup aNil) (aCons (eTup (aCons (eC (.int 0)) aNil)) (aCons (eTup (aCons (eC (.int 0)) (aCons (eC (.int 0)) (aCons (eC (.int 0)) aNil)))) (aCons (eLst (aCons (eC (.int 0)) (aCons (eC (.int 0)) aNil))) (aCons (eTup (aCons (eC (.bl true)) (aCons (eC (.int 0)) aNil))) (aCons (eTup (aCons (eC (.int 0)) (aCons (eC (.bl false)) aNil))) (aCons (eTup (aCons (eC (.int 1001)) (aCons (eC (.int 0)) aNil))) (aCons (eTup (aCons (eC (.int 0)) (aCons (eUn negD (eC (.int 1001))) aNil))) (aCons (eTup (aCons (eC .non) (aCons (eC (.int 0)) aNil))) aNil)))))))))))))) δ h) E) : ws (u__law_odd_spot_1 δ h) E := z
theorem e_u__law_odd_spot_2 {δ : De} {h : Hh} {E : Es} (z : ws ((sRet (eBin ixA (eBin addD (eVar 1) (eLst (aCons (eTup (aCons (eC (.int 0)) (aCons (eC (.str [48])) aNil))) (aCons (eTup (aCons (eTup (aCons (eC (.int 0)) aNil)) (aCons (eC (.int 0)) aNil))) (aCons (eDic0 false) (aCons (eTup (aCons (eBin powD (eC (.int 10)) (eC (.int 30))) (aCons (eC (.int 0)) aNil))) (aCons (eTup (aCons (eUn negD (eC (.int 1001))) (aCons (eC (.int 0)) aNil))) (aCons (eTup (aCons (eC (.int 0)) (aCons (eC (.int 1001)) aNil))) aNil)))))))) (eCall 2 f__law_next (aCons (eVar 0) (aCons (eC (.int 18)) aNil)) []))) δ h) E) : ws (u__law_odd_spot_2 δ h) E := z
theorem e_u__law_odd_spot {δ : De} {h : Hh} {E : Es} (z : ws ((sSeq u__law_odd_spot_1 u__law_odd_spot_2) δ h) E) : ws (u__law_odd_spot δ h) E := z
theorem spot_w (s : St o m h N os) (hN : 1 ≤ N) (q : ∀ d h', OddP d → St o m h' (N - 1) os → Q d h') : wr (f__law_odd_spot [.ref m] h) X Q := by
  refine w_run (δ := [some (.ref m), none]) rfl ?_
  with_reducible refine e_u__law_odd_spot (s_seq (e_u__law_odd_spot_1 (s_set ?_)))
  refine wr_ok (x := .lst spots12) (h := h) (by kernel_rfl) ?_
  with_reducible refine e_u__law_odd_spot_2 (s_ret (w_bin ?_))
  refine wr_ok (x := .lst spots18) (h := h) (by kernel_rfl) ?_
  with_reducible refine w_call0 ?_
  refine wr_ok (x := [.ref m, .int 18]) (h := h) rfl (w_eqn rfl ?_)
  refine w_next s (by omega) (by omega) (by omega) fun v h1 v0 v1 s1 => ?_
  obtain ⟨d, hd, e⟩ := pick_at (ds := spots18) v0 v1 h1
  exact wr_ok e (q d h1 (spots_all d hd) s1)
def eP : D := .str [110, 111, 32, 112, 97, 105, 114, 32, 111, 102, 32, 105, 110, 116, 101, 103, 101, 114, 115]
theorem need_no {d : D} (od : OddP d) (h : Hh) : f_need_whole_place [d] h = .exc 1 [eP] h := by
  simp [f_need_whole_place, u_need_whole_place_1_a_1, u_need_whole_place_1, u_need_whole_place, c_MAX_NUMBER, od _, runD, startD, endRt, endNx, endExc, seqE, seqNx, seqRt, seqExc, sNil, sPass, sIf, sRet, sRetN, sExpr, sSet, sAsg, sPar, kPar, setAll, sIxS, kSet, L3.sFld, eVar, eC, eBin, eTest, eChain, eUn, tAnd3, tOr3, tNot3, eAnd, eOr, eNot, eIf, aNil, aCons, eTup, eLst, eLstM, eCall, kCall, eMeth, kMeth, clsObj, eB, one, eFld, fldD, fieldAt, L3.putAt, eProp, kProp, noX, eMake, eLc, kLst, iSeq, L3.iZip, kZip, zipL, immS, iRg1, lcNil, lcCons, lcAS, lcBT, lcBF, lcCO, loNil, loCons, loAS, loNx, loCt, loBk, loRt, L3.sFor, sForW, eLcW, wSeq, wZip, kZipW, loopW, lcW, optS, wipeD, gSet, gTupD, gsNil, gsCons, tYes3, eIsi, isiD, kdOf, isK, allB, anyB, sumB, L3.listOf, blsOf, intsOf, asL, bindOk, bindExc, bindStk, toSOk, toSExc, lineOk, addI, subI, negI, mulL, mulR, divI, modI, ltI, leI, gtI, geI, eqI, neI, intB1, intB2, lenTup, lenLst, lenScr, tup0, tup1, tup2, tup3, tup4, tup5, lst0, lst1, lst2, lst3, List.getElem?_cons_zero, List.getElem?_cons_succ, List.getElem?_nil, List.set_cons_zero, List.set_cons_succ, List.length_cons, List.length_nil, List.map_cons, List.map_nil, List.replicate_succ, List.replicate_zero, List.cons_append, List.nil_append, List.append_nil, if_true, if_false, ite_true, ite_false, Bool.false_eq_true, Bool.not_true, Bool.not_false, Bool.true_and, Bool.and_true, Bool.false_and, Bool.and_false, Bool.or_true, Bool.true_or, Bool.false_or, Bool.or_false, and_self, and_true, true_and, Nat.sub_zero, Nat.sub_self, Nat.reduceSub, Nat.reduceAdd, Nat.reduceLeDiff, Nat.reduceEqDiff, decide_true, decide_false, Nat.zero_le]
  rfl
theorem covers_no {t d : D} (od : OddP d) (h : Hh) : ∃ ds, f_Triangle_covers [t, d] h = .exc 1 ds h := ⟨[eP], by simp [f_Triangle_covers, u_Triangle_covers_1, u_Triangle_covers_2, u_Triangle_covers, need_no od, runD, startD, endRt, endNx, endExc, seqE, seqNx, seqRt, seqExc, sNil, sPass, sIf, sRet, sRetN, sExpr, sSet, sAsg, sPar, kPar, setAll, sIxS, kSet, L3.sFld, eVar, eC, eBin, eTest, eChain, eUn, tAnd3, tOr3, tNot3, eAnd, eOr, eNot, eIf, aNil, aCons, eTup, eLst, eLstM, eCall, kCall, eMeth, kMeth, clsObj, eB, one, eFld, fldD, fieldAt, L3.putAt, eProp, kProp, noX, eMake, eLc, kLst, iSeq, L3.iZip, kZip, zipL, immS, iRg1, lcNil, lcCons, lcAS, lcBT, lcBF, lcCO, loNil, loCons, loAS, loNx, loCt, loBk, loRt, L3.sFor, sForW, eLcW, wSeq, wZip, kZipW, loopW, lcW, optS, wipeD, gSet, gTupD, gsNil, gsCons, tYes3, eIsi, isiD, kdOf, isK, allB, anyB, sumB, L3.listOf, blsOf, intsOf, asL, bindOk, bindExc, bindStk, toSOk, toSExc, lineOk, addI, subI, negI, mulL, mulR, divI, modI, ltI, leI, gtI, geI, eqI, neI, intB1, intB2, lenTup, lenLst, lenScr, tup0, tup1, tup2, tup3, tup4, tup5, lst0, lst1, lst2, lst3, List.getElem?_cons_zero, List.getElem?_cons_succ, List.getElem?_nil, List.set_cons_zero, List.set_cons_succ, List.length_cons, List.length_nil, List.map_cons, List.map_nil, List.replicate_succ, List.replicate_zero, List.cons_append, List.nil_append, List.append_nil, if_true, if_false, ite_true, ite_false, Bool.false_eq_true, Bool.not_true, Bool.not_false, Bool.true_and, Bool.and_true, Bool.false_and, Bool.and_false, Bool.or_true, Bool.true_or, Bool.false_or, Bool.or_false, and_self, and_true, true_and, Nat.sub_zero, Nat.sub_self, Nat.reduceSub, Nat.reduceAdd, Nat.reduceLeDiff, Nat.reduceEqDiff, decide_true, decide_false, Nat.zero_le]; try rfl⟩
theorem frag_no {t d : D} (od : OddP d) (h : Hh) : ∃ ds, f_Triangle_fragment_at [t, d] h = .exc 1 ds h := ⟨[eP], by simp [f_Triangle_fragment_at, u_Triangle_fragment_at_1, u_Triangle_fragment_at_2, u_Triangle_fragment_at, need_no od, runD, startD, endRt, endNx, endExc, seqE, seqNx, seqRt, seqExc, sNil, sPass, sIf, sRet, sRetN, sExpr, sSet, sAsg, sPar, kPar, setAll, sIxS, kSet, L3.sFld, eVar, eC, eBin, eTest, eChain, eUn, tAnd3, tOr3, tNot3, eAnd, eOr, eNot, eIf, aNil, aCons, eTup, eLst, eLstM, eCall, kCall, eMeth, kMeth, clsObj, eB, one, eFld, fldD, fieldAt, L3.putAt, eProp, kProp, noX, eMake, eLc, kLst, iSeq, L3.iZip, kZip, zipL, immS, iRg1, lcNil, lcCons, lcAS, lcBT, lcBF, lcCO, loNil, loCons, loAS, loNx, loCt, loBk, loRt, L3.sFor, sForW, eLcW, wSeq, wZip, kZipW, loopW, lcW, optS, wipeD, gSet, gTupD, gsNil, gsCons, tYes3, eIsi, isiD, kdOf, isK, allB, anyB, sumB, L3.listOf, blsOf, intsOf, asL, bindOk, bindExc, bindStk, toSOk, toSExc, lineOk, addI, subI, negI, mulL, mulR, divI, modI, ltI, leI, gtI, geI, eqI, neI, intB1, intB2, lenTup, lenLst, lenScr, tup0, tup1, tup2, tup3, tup4, tup5, lst0, lst1, lst2, lst3, List.getElem?_cons_zero, List.getElem?_cons_succ, List.getElem?_nil, List.set_cons_zero, List.set_cons_succ, List.length_cons, List.length_nil, List.map_cons, List.map_nil, List.replicate_succ, List.replicate_zero, List.cons_append, List.nil_append, List.append_nil, if_true, if_false, ite_true, ite_false, Bool.false_eq_true, Bool.not_true, Bool.not_false, Bool.true_and, Bool.and_true, Bool.false_and, Bool.and_false, Bool.or_true, Bool.true_or, Bool.false_or, Bool.or_false, and_self, and_true, true_and, Nat.sub_zero, Nat.sub_self, Nat.reduceSub, Nat.reduceAdd, Nat.reduceLeDiff, Nat.reduceEqDiff, decide_true, decide_false, Nat.zero_le]; try rfl⟩
theorem lets_no {t d r : D} (od : OddP d) (hr : ∀ h, f_is_whole_in [r, .int 0, .int 2] h = .ok (.bl true) h) (h : Hh) : ∃ ds, f_Triangle_lets_in [t, r, d] h = .exc 1 ds h := ⟨[eP], by simp [f_Triangle_lets_in, u_Triangle_lets_in_1_a_1, u_Triangle_lets_in_1, u_Triangle_lets_in_2, u_Triangle_lets_in_3, u_Triangle_lets_in, hr, need_no od, runD, startD, endRt, endNx, endExc, seqE, seqNx, seqRt, seqExc, sNil, sPass, sIf, sRet, sRetN, sExpr, sSet, sAsg, sPar, kPar, setAll, sIxS, kSet, L3.sFld, eVar, eC, eBin, eTest, eChain, eUn, tAnd3, tOr3, tNot3, eAnd, eOr, eNot, eIf, aNil, aCons, eTup, eLst, eLstM, eCall, kCall, eMeth, kMeth, clsObj, eB, one, eFld, fldD, fieldAt, L3.putAt, eProp, kProp, noX, eMake, eLc, kLst, iSeq, L3.iZip, kZip, zipL, immS, iRg1, lcNil, lcCons, lcAS, lcBT, lcBF, lcCO, loNil, loCons, loAS, loNx, loCt, loBk, loRt, L3.sFor, sForW, eLcW, wSeq, wZip, kZipW, loopW, lcW, optS, wipeD, gSet, gTupD, gsNil, gsCons, tYes3, eIsi, isiD, kdOf, isK, allB, anyB, sumB, L3.listOf, blsOf, intsOf, asL, bindOk, bindExc, bindStk, toSOk, toSExc, lineOk, addI, subI, negI, mulL, mulR, divI, modI, ltI, leI, gtI, geI, eqI, neI, intB1, intB2, lenTup, lenLst, lenScr, tup0, tup1, tup2, tup3, tup4, tup5, lst0, lst1, lst2, lst3, List.getElem?_cons_zero, List.getElem?_cons_succ, List.getElem?_nil, List.set_cons_zero, List.set_cons_succ, List.length_cons, List.length_nil, List.map_cons, List.map_nil, List.replicate_succ, List.replicate_zero, List.cons_append, List.nil_append, List.append_nil, if_true, if_false, ite_true, ite_false, Bool.false_eq_true, Bool.not_true, Bool.not_false, Bool.true_and, Bool.and_true, Bool.false_and, Bool.and_false, Bool.or_true, Bool.true_or, Bool.false_or, Bool.or_false, and_self, and_true, true_and, Nat.sub_zero, Nat.sub_self, Nat.reduceSub, Nat.reduceAdd, Nat.reduceLeDiff, Nat.reduceEqDiff, decide_true, decide_false, Nat.zero_le]; try rfl⟩
def OddR (r : D) : Prop := ∀ h, f_is_whole_in [r, .int 0, .int 2] h = .ok (.bl false) h
theorem lets_odd {t d r : D} (hr : OddR r) (h : Hh) : ∃ ds, f_Triangle_lets_in [t, r, d] h = .exc 2 ds h := ⟨[.str [110, 111, 32, 101, 100, 103, 101]], by simp [f_Triangle_lets_in, u_Triangle_lets_in_1_a_1, u_Triangle_lets_in_1, u_Triangle_lets_in_2, u_Triangle_lets_in_3, u_Triangle_lets_in, hr _, runD, startD, endRt, endNx, endExc, seqE, seqNx, seqRt, seqExc, sNil, sPass, sIf, sRet, sRetN, sExpr, sSet, sAsg, sPar, kPar, setAll, sIxS, kSet, L3.sFld, eVar, eC, eBin, eTest, eChain, eUn, tAnd3, tOr3, tNot3, eAnd, eOr, eNot, eIf, aNil, aCons, eTup, eLst, eLstM, eCall, kCall, eMeth, kMeth, clsObj, eB, one, eFld, fldD, fieldAt, L3.putAt, eProp, kProp, noX, eMake, eLc, kLst, iSeq, L3.iZip, kZip, zipL, immS, iRg1, lcNil, lcCons, lcAS, lcBT, lcBF, lcCO, loNil, loCons, loAS, loNx, loCt, loBk, loRt, L3.sFor, sForW, eLcW, wSeq, wZip, kZipW, loopW, lcW, optS, wipeD, gSet, gTupD, gsNil, gsCons, tYes3, eIsi, isiD, kdOf, isK, allB, anyB, sumB, L3.listOf, blsOf, intsOf, asL, bindOk, bindExc, bindStk, toSOk, toSExc, lineOk, addI, subI, negI, mulL, mulR, divI, modI, ltI, leI, gtI, geI, eqI, neI, intB1, intB2, lenTup, lenLst, lenScr, tup0, tup1, tup2, tup3, tup4, tup5, lst0, lst1, lst2, lst3, List.getElem?_cons_zero, List.getElem?_cons_succ, List.getElem?_nil, List.set_cons_zero, List.set_cons_succ, List.length_cons, List.length_nil, List.map_cons, List.map_nil, List.replicate_succ, List.replicate_zero, List.cons_append, List.nil_append, List.append_nil, if_true, if_false, ite_true, ite_false, Bool.false_eq_true, Bool.not_true, Bool.not_false, Bool.true_and, Bool.and_true, Bool.false_and, Bool.and_false, Bool.or_true, Bool.true_or, Bool.false_or, Bool.or_false, and_self, and_true, true_and, Nat.sub_zero, Nat.sub_self, Nat.reduceSub, Nat.reduceAdd, Nat.reduceLeDiff, Nat.reduceEqDiff, decide_true, decide_false, Nat.zero_le]; try rfl⟩
def rims : List D := [.non, .str [48], .int (-1), .int 3, .bl true, .bl false, .tup [.int 0], .int 1000000000000000000000000000000]
theorem rims_all : ∀ d ∈ rims, OddR d := by
  intro d hd
  simp only [rims, List.mem_cons, List.not_mem_nil, or_false] at hd
  rcases hd with rfl | rfl | rfl | rfl | rfl | rfl | rfl | rfl <;> exact fun h => by kernel_rfl
theorem emeth_no {c : Nat} {np : Nat} {sem : Sem3} {fo : FnE} {fa : FnA} {δ : De} {t : D} {xs : List D} {h : Hh} (e1 : fo δ h = .ok t h) (k : clsOf h t = some 0) (e2 : fa δ h = .ok xs h) (hl : (t :: xs).length = np) (z : ∃ ds, sem (t :: xs) h = .exc c ds h) : ∃ ds h', eMeth 0 np sem fo fa [] δ h = .exc c ds h' ∧ Old h h' := by
  obtain ⟨ds, z⟩ := z
  exact ⟨ds, h, (eMeth_ok e1 k e2 hl).trans z, Old.refl h⟩
end
end
section
section
variable {X : Nat → List D → Hh → Prop} {Q : D → Hh → Prop} {h : Hh} {o m N : Nat} {os : List (Nat × O)}
def In1 (v : Int) : Prop := -1000 ≤ v ∧ v ≤ 1000
theorem six_at {a b k : Int} (ha : In1 a) (hb : In1 b) (k0 : 0 ≤ k) (k1 : k < 6) (h : Hh) : ∃ v, In1 v ∧ ixA (.lst [.int 1000, .int (-1000), .int 0, .int 1, .int a, .int b]) (.int k) h = .ok (.int v) h := by
  obtain ⟨i, rfl⟩ : ∃ i : Nat, k = (i : Int) := ⟨k.toNat, by omega⟩
  have hc : i = 0 ∨ i = 1 ∨ i = 2 ∨ i = 3 ∨ i = 4 ∨ i = 5 := by omega
  rcases hc with rfl | rfl | rfl | rfl | rfl | rfl
  · exact ⟨1000, ⟨by omega, by omega⟩, rfl⟩
  · exact ⟨-1000, ⟨by omega, by omega⟩, rfl⟩
  · exact ⟨0, ⟨by omega, by omega⟩, rfl⟩
  · exact ⟨1, ⟨by omega, by omega⟩, rfl⟩
  · exact ⟨a, ha, rfl⟩
  · exact ⟨b, hb, rfl⟩
theorem three_at {a k : Int} (ha : 1 ≤ a ∧ a ≤ 1000) (k0 : 0 ≤ k) (k1 : k < 3) (h : Hh) : ∃ v, (1 ≤ v ∧ v ≤ 1000) ∧ ixA (.lst [.int 1, .int 1000, .int a]) (.int k) h = .ok (.int v) h := by
  obtain ⟨i, rfl⟩ : ∃ i : Nat, k = (i : Int) := ⟨k.toNat, by omega⟩
  have hc : i = 0 ∨ i = 1 ∨ i = 2 := by omega
  rcases hc with rfl | rfl | rfl
  · exact ⟨1, by omega, rfl⟩
  · exact ⟨1000, by omega, rfl⟩
  · exact ⟨a, ha, rfl⟩
theorem len5 {l : List Int} (e : l.length = 5) : ∃ a b c d f, l = [a, b, c, d, f] := by
  match l, e with
  | [a, b, c, d, f], _ => exact ⟨a, b, c, d, f, rfl⟩
theorem e_u__law_corner_1 {δ : De} {h : Hh} {E : Es} (z : ws ((sSet 1 (eLstM aNil)) δ h) E) : ws (u__law_corner_1 δ h) E := z
theorem e_u__law_corner_2_1 {δ : De} {h : Hh} {E : Es} (z : ws ((sExpr (eM appendM (eVar 1) (aCons (eBin ixA (eLst (aCons (eC (.int 1000)) (aCons (eUn negD (eC (.int 1000))) (aCons (eC (.int 0)) (aCons (eC (.int 1)) (aCons (eBin subD (eCall 2 f__law_next (aCons (eVar 0) (aCons (eC (.int 2001)) aNil)) []) (eC (.int 1000))) (aCons (eBin subD (eCall 2 f__law_next (aCons (eVar 0) (aCons (eC (.int 21)) aNil)) []) (eC (.int 10))) aNil))))))) (eCall 2 f__law_next (aCons (eVar 0) (aCons (eC (.int 6)) aNil)) [])) aNil))) δ h) E) : ws (u__law_corner_2_1 δ h) E := z
theorem e_u__law_corner_2 {δ : De} {h : Hh} {E : Es} (z : ws ((sFor (iRg1 (eC (.int 5))) (gSet 2) u__law_corner_2_1) δ h) E) : ws (u__law_corner_2 δ h) E := z
theorem e_u__law_corner_3 {δ : De} {h : Hh} {E : Es} (z : ws ((sRet (eBin addD (eB tupleB (aCons (eVar 1) aNil)) (eTup (aCons (eBin ixA (eLst (aCons (eC (.int 1)) (aCons (eC (.int 1000)) (aCons (eBin addD (eC (.int 1)) (eCall 2 f__law_next (aCons (eVar 0) (aCons (eC (.int 1000)) aNil)) [])) aNil)))) (eCall 2 f__law_next (aCons (eVar 0) (aCons (eC (.int 3)) aNil)) [])) aNil)))) δ h) E) : ws (u__law_corner_3 δ h) E := z
theorem e_u__law_corner {δ : De} {h : Hh} {E : Es} (z : ws ((sSeq u__law_corner_1 (sSeq u__law_corner_2 u__law_corner_3)) δ h) E) : ws (u__law_corner δ h) E := z
theorem corn_w (s : St o m h N os) (hN : 20 ≤ N) (q : ∀ (p : Cn) h', p.Ok → St o m h' (N - 20) os → Q p.d h') : wr (f__law_corner [.ref m] h) X Q := by
  refine w_run (δ := [some (.ref m), none, none]) rfl ?_
  with_reducible refine e_u__law_corner (s_seq (e_u__law_corner_1 (s_set ?_)))
  refine wr_ok (x := .ref h.length) (h := h ++ [.lst []]) rfl ?_
  have ne := s.ne (Nat.le_refl _)
  have s0 := s.new (.lst [])
  generalize h.length = n at s0 ne ⊢
  generalize h ++ [O.lst []] = h0 at s0 ⊢
  show ws (sSeq u__law_corner_2 u__law_corner_3 [some (.ref m), some (.ref n), none] h0) _
  with_reducible refine s_seq (e_u__law_corner_2 (s_for ?_))
  with_reducible refine w_rg1 ?_
  refine wr_ok (x := .int 5) (h := h0) rfl ⟨5, rfl, by decide, ?_⟩
  refine s_loop (fun i δ h' => ∃ x2 l, δ = [some (.ref m), some (.ref n), x2] ∧ i ≤ 5 ∧ l.length = i ∧ (∀ v ∈ l, In1 v) ∧ St o m h' (N - 3 * i) ((n, .lst (l.map D.int)) :: os)) _ 0 _ _ ⟨none, [], rfl, by omega, rfl, fun v hv => (by cases hv), s0⟩ ?_ ?_
  · rintro j d ed δ h1 ⟨x2, l, rfl, hi, hl, hv, s1⟩
    have hj : j < 5 := by
      have := (List.getElem?_eq_some_iff.mp ed).1
      simpa [rgD] using this
    rw [Nat.zero_add] at hi hl s1 ⊢
    refine ⟨[some (.ref m), some (.ref n), some d], rfl, ?_⟩
    with_reducible refine e_u__law_corner_2_1 (s_expr ?_)
    have g1 := s1.get (n := n) (x := .lst (l.map D.int)) (by simp)
    refine w_app (n := n) (ds := l.map D.int) rfl g1 (by simp; omega) ?_
    with_reducible refine w_bin (w_lst ?_)
    with_reducible refine w_cons (w_c ?_)
    with_reducible refine w_cons ?_
    refine wr_ok (x := .int (-1000)) (h := h1) rfl ?_
    with_reducible refine w_cons (w_c ?_)
    with_reducible refine w_cons (w_c ?_)
    with_reducible refine w_cons (w_bin (w_call0 ?_))
    refine wr_ok (x := [.ref m, .int 2001]) (h := h1) rfl (w_eqn rfl ?_)
    refine w_next s1 (by omega) (by omega) (by omega) fun a h2 a0 a1 s2 => ?_
    refine w_c (w_subI ?_)
    with_reducible refine w_cons (w_bin (w_call0 ?_))
    refine wr_ok (x := [.ref m, .int 21]) (h := h2) rfl (w_eqn rfl ?_)
    refine w_next s2 (by omega) (by omega) (by omega) fun b h3 b0 b1 s3 => ?_
    refine w_c (w_subI ?_)
    refine w_nil (w_le (by simp) ?_)
    with_reducible refine w_call0 ?_
    refine wr_ok (x := [.ref m, .int 6]) (h := h3) rfl (w_eqn rfl ?_)
    refine w_next s3 (by omega) (by omega) (by omega) fun k h4 k0 k1 s4 => ?_
    obtain ⟨v, v1, e⟩ := six_at (a := a - 1000) (b := b - 10) ⟨by omega, by omega⟩ ⟨by omega, by omega⟩ k0 k1 h4
    refine wr_ok e ?_
    have g4 := s4.get (n := n) (x := .lst (l.map D.int)) (by simp)
    have s5 := s4.put ne (.lst (l.map D.int ++ [.int v]))
    refine ⟨g4, _, l ++ [v], rfl, by omega, by simp [hl], fun w hw => ?_, ?_⟩
    · rcases List.mem_append.mp hw with z | z
      · exact hv w z
      · rw [List.mem_singleton.mp z]; exact v1
    · rw [List.map_append]
      exact s5.weak (by omega)
  · rintro δ h1 ⟨x2, l, rfl, hi, hl, hv, s1⟩
    have lw : (rgD 0 5).length = 5 := rfl
    rw [Nat.zero_add, lw] at hl s1
    obtain ⟨a, b, c, d, f, rfl⟩ := len5 hl
    show ws (u__law_corner_3 [some (.ref m), some (.ref n), x2] h1) _
    with_reducible refine e_u__law_corner_3 (s_ret (w_bin (w_b (w_cons ?_))))
    refine wr_ok (x := .ref n) (h := h1) rfl (w_nil ?_)
    have g1 := s1.get (n := n) (x := .lst [.int a, .int b, .int c, .int d, .int f]) (by simp)
    refine wr_ok (x := .tup [.int a, .int b, .int c, .int d, .int f]) (h := h1) (by show tupleD (.ref n) h1 = _; unfold tupleD; dsimp only; unfold asL; dsimp only; rw [g1]) ?_
    with_reducible refine w_tup (w_cons (w_bin (w_lst ?_)))
    with_reducible refine w_cons (w_c ?_)
    with_reducible refine w_cons (w_c ?_)
    with_reducible refine w_cons (w_bin (w_c ?_))
    with_reducible refine w_call0 ?_
    refine wr_ok (x := [.ref m, .int 1000]) (h := h1) rfl (w_eqn rfl ?_)
    refine w_next s1 (by omega) (by omega) (by omega) fun w h2 w0 w1 s2 => ?_
    refine w_addI (w_nil (w_le (by simp) ?_))
    with_reducible refine w_call0 ?_
    refine wr_ok (x := [.ref m, .int 3]) (h := h2) rfl (w_eqn rfl ?_)
    refine w_next s2 (by omega) (by omega) (by omega) fun k h3 k0 k1 s3 => ?_
    obtain ⟨v, v1, e⟩ := three_at (a := 1 + w) ⟨by omega, by omega⟩ k0 k1 h3
    refine wr_ok e (w_nil (w_le (by simp) ?_))
    refine wr_ok (x := (⟨a, b, c, d, f, v⟩ : Cn).d) (h := h3) rfl ?_
    have i : ∀ v ∈ [a, b, c, d, f], In1 v := hv
    refine q ⟨a, b, c, d, f, v⟩ h3 ⟨i a (by simp), i b (by simp), i c (by simp), i d (by simp), i f (by simp), v1⟩ ((s3.weak (M := N - 20) (by omega)).sub (Nat.le_refl _) fun p hp => by simp [hp])
end
end
section
section
variable {X : Nat → List D → Hh → Prop} {Q : D → Hh → Prop} {h : Hh} {o m N : Nat} {os : List (Nat × O)}
theorem app_told {E : Es} {t : Nat} {q : List Nat} {δ : De} {fb : FnE} {n c : Nat} {l : List D} (hc : c < 3) (s : St o m h N ((n, .lst l) :: os)) (ne : ∀ p ∈ os, p.1 ≠ n) (hq : (t, O.tab q) ∈ os) (e5 : δ[5]? = some (some (.ref n))) (hl : l.length < 1000)
    (z : ∀ h, ∃ ds h', fb δ h = .exc c ds h' ∧ Old h h') (k : ∀ h', St o m h' N ((n, .lst (l ++ [toldD (some c)])) :: os) → E.nx δ h') : ws (sExpr (eM appendM (eVar 5) (aCons (eLam t q f__law_said fb) aNil)) δ h) E := by
  refine s_expr (w_app (n := n) (ds := l) (eVar_ok e5) (s.get (by simp)) hl ?_)
  refine told_w hc s (by simp [hq]) (z _) fun h1 s1 _ => ⟨s1.get (by simp), ?_⟩
  exact k _ (s1.put ne _)
theorem new_told {E : Es} {t : Nat} {q : List Nat} {δ : De} {fb : FnE} {c : Nat} (hc : c < 3) (s : St o m h N os) (hq : (t, O.tab q) ∈ os)
    (z : ∀ h, ∃ ds h', fb δ h = .exc c ds h' ∧ Old h h') (k : ∀ n h', (∀ p ∈ os, p.1 ≠ n) → St o m h' N ((n, .lst [toldD (some c)]) :: os) → E.nx (δ.set 5 (some (.ref n))) h') : ws (sSet 5 (eLstM (aCons (eLam t q f__law_said fb) aNil)) δ h) E := by
  refine s_set (w_lstM (w_cons (told_w hc s hq (z _) fun h1 s1 _ => w_nil (w_le (by simp) ?_))))
  exact k _ _ (s1.ne (Nat.le_refl _)) (s1.new _)
theorem eq_told {n : Nat} {l : List D} (e : h[n]? = some (.lst l)) (k : eqD (.lst l) (.lst l) h = .ok (.bl true) h) : eqD (.ref n) (.lst l) h = .ok (.bl true) h := by
  have d : deref h (.ref n) = .lst l := by unfold deref; dsimp only; rw [e]
  have d2 : deref h (.lst l) = .lst l := rfl
  unfold eqD at k ⊢
  rw [d]
  rw [d2] at k ⊢
  exact k
theorem ne_told {n : Nat} {l : List D} (e : h[n]? = some (.lst l)) (k : neD (.lst l) (.lst l) h = .ok (.bl false) h) : neD (.ref n) (.lst l) h = .ok (.bl false) h := by
  have d : deref h (.ref n) = .lst l := by unfold deref; dsimp only; rw [e]
  have d2 : deref h (.lst l) = .lst l := rfl
  unfold neD at k ⊢
  rw [d]
  rw [d2] at k ⊢
  exact k
theorem emk_ok {f1 f2 f3 : FnE} {δ : De} {p q r : Cn} (e1 : f1 δ h = .ok p.d h) (e2 : f2 δ h = .ok q.d h) (e3 : f3 δ h = .ok r.d h) (o1 : p.Ok) (o2 : q.Ok) (o3 : r.Ok) :
    eMake 0 3 4 f_Triangle___init__ (aCons f1 (aCons f2 (aCons f3 aNil))) [] δ h = .ok (tri p q r) (h ++ [.dead]) := by
  have ea : aCons f1 (aCons f2 (aCons f3 aNil)) δ h = .ok [p.d, q.d, r.d] h := aC_ok e1 (aC_ok e2 (aC_ok e3 aN_ok))
  unfold eMake
  rw [ea, bindOk]
  exact tri_ok o1 o2 o3
theorem two_t (h : Hh) : f_is_whole_in [.int 2, .int 0, .int 2] h = .ok (.bl true) h := by kernel_rfl
theorem o00 : ∀ (h : Hh), f_is_whole_in [.int 0, .int 0, .int 2] h = .ok (.bl true) h := fun h => by kernel_rfl
theorem e_u__law_refused_right_1 {δ : De} {h : Hh} {E : Es} (z : ws ((sAsg (gTupD 3 (gsCons (gSet 2) (gsCons (gSet 3) (gsCons (gSet 4) gsNil)))) (eTup (aCons (eCall 1 f__law_odd_corner (aCons (eVar 0) aNil) []) (aCons (eCall 1 f__law_odd_corner (aCons (eVar 0) aNil) []) (aCons (eMake 0 3 4 f_Triangle___init__ (aCons (eBin ixA (eVar 1) (eC (.int 0))) (aCons (eBin ixA (eVar 1) (eC (.int 1))) (aCons (eBin ixA (eVar 1) (eC (.int 2))) aNil))) []) aNil))))) δ h) E) : ws (u__law_refused_right_1 δ h) E := z
theorem e_u__law_refused_right_2 {δ : De} {h : Hh} {E : Es} (z : ws ((sSet 5 (eLstM (aCons (eLam 0 q__law_refused_right f__law_said (eMake 0 3 4 f_Triangle___init__ (aCons (eVar 2) (aCons (eBin ixA (eVar 1) (eC (.int 1))) (aCons (eBin ixA (eVar 1) (eC (.int 2))) aNil))) [])) aNil))) δ h) E) : ws (u__law_refused_right_2 δ h) E := z
theorem e_u__law_refused_right_3 {δ : De} {h : Hh} {E : Es} (z : ws ((sExpr (eM appendM (eVar 5) (aCons (eLam 0 q__law_refused_right f__law_said (eMake 0 3 4 f_Triangle___init__ (aCons (eBin ixA (eVar 1) (eC (.int 0))) (aCons (eVar 2) (aCons (eBin ixA (eVar 1) (eC (.int 2))) aNil))) [])) aNil))) δ h) E) : ws (u__law_refused_right_3 δ h) E := z
theorem e_u__law_refused_right_4 {δ : De} {h : Hh} {E : Es} (z : ws ((sExpr (eM appendM (eVar 5) (aCons (eLam 0 q__law_refused_right f__law_said (eMake 0 3 4 f_Triangle___init__ (aCons (eBin ixA (eVar 1) (eC (.int 0))) (aCons (eBin ixA (eVar 1) (eC (.int 1))) (aCons (eVar 2) aNil))) [])) aNil))) δ h) E) : ws (u__law_refused_right_4 δ h) E := z
theorem e_u__law_refused_right_5 {δ : De} {h : Hh} {E : Es} (z : ws ((sExpr (eM appendM (eVar 5) (aCons (eLam 0 q__law_refused_right f__law_said (eMake 0 3 4 f_Triangle___init__ (aCons (eVar 2) (aCons (eVar 3) (aCons (eBin ixA (eVar 1) (eC (.int 2))) aNil))) [])) aNil))) δ h) E) : ws (u__law_refused_right_5 δ h) E := z
theorem e_u__law_refused_right_6 {δ : De} {h : Hh} {E : Es} (z : ws ((sIf (eTest (eBin neD (eVar 5) (eBin mulD (eLst (aCons (eC (.str [99, 111, 114, 110, 101, 114])) aNil)) (eC (.int 4))))) u__law_refused_right_6_a_1 sNil) δ h) E) : ws (u__law_refused_right_6 δ h) E := z
theorem e_u__law_refused_right_7 {δ : De} {h : Hh} {E : Es} (z : ws ((sAsg (gTupD 2 (gsCons (gSet 6) (gsCons (gSet 7) gsNil))) (eTup (aCons (eCall 1 f__law_odd_spot (aCons (eVar 0) aNil) []) (aCons (eBin ixA (eLst (aCons (eC .non) (aCons (eC (.str [48])) (aCons (eUn negD (eC (.int 1))) (aCons (eC (.int 3)) (aCons (eC (.bl true)) (aCons (eC (.bl false)) (aCons (eTup (aCons (eC (.int 0)) aNil)) (aCons (eBin powD (eC (.int 10)) (eC (.int 30))) aNil))))))))) (eCall 2 f__law_next (aCons (eVar 0) (aCons (eC (.int 8)) aNil)) [])) aNil)))) δ h) E) : ws (u__law_refused_right_7 δ h) E := z
theorem e_u__law_refused_right_8 {δ : De} {h : Hh} {E : Es} (z : ws ((sSet 5 (eLstM (aCons (eLam 0 q__law_refused_right f__law_said (eMeth 0 2 f_Triangle_covers (eVar 4) (aCons (eVar 6) aNil) [])) aNil))) δ h) E) : ws (u__law_refused_right_8 δ h) E := z
theorem e_u__law_refused_right_9 {δ : De} {h : Hh} {E : Es} (z : ws ((sExpr (eM appendM (eVar 5) (aCons (eLam 0 q__law_refused_right f__law_said (eMeth 0 2 f_Triangle_fragment_at (eVar 4) (aCons (eVar 6) aNil) [])) aNil))) δ h) E) : ws (u__law_refused_right_9 δ h) E := z
theorem e_u__law_refused_right_10 {δ : De} {h : Hh} {E : Es} (z : ws ((sExpr (eM appendM (eVar 5) (aCons (eLam 0 q__law_refused_right f__law_said (eMeth 0 3 f_Triangle_lets_in (eVar 4) (aCons (eC (.int 2)) (aCons (eVar 6) aNil)) [])) aNil))) δ h) E) : ws (u__law_refused_right_10 δ h) E := z
theorem e_u__law_refused_right_11 {δ : De} {h : Hh} {E : Es} (z : ws ((sExpr (eM appendM (eVar 5) (aCons (eLam 0 q__law_refused_right f__law_said (eMeth 0 3 f_Triangle_lets_in (eVar 4) (aCons (eVar 7) (aCons (eVar 6) aNil)) [])) aNil))) δ h) E) : ws (u__law_refused_right_11 δ h) E := z
theorem e_u__law_refused_right_12 {δ : De} {h : Hh} {E : Es} (z : ws ((sExpr (eM appendM (eVar 5) (aCons (eLam 0 q__law_refused_right f__law_said (eMeth 0 3 f_Triangle_lets_in (eVar 4) (aCons (eVar 7) (aCons (eTup (aCons (eC (.int 0)) (aCons (eC (.int 0)) aNil))) aNil)) [])) aNil))) δ h) E) : ws (u__law_refused_right_12 δ h) E := z
theorem e_u__law_refused_right_13 {δ : De} {h : Hh} {E : Es} (z : ws ((sRet (eBin eqD (eVar 5) (eBin addD (eBin mulD (eLst (aCons (eC (.str [112, 108, 97, 99, 101])) aNil)) (eC (.int 3))) (eBin mulD (eLst (aCons (eC (.str [110, 117, 109, 98, 101, 114])) aNil)) (eC (.int 2)))))) δ h) E) : ws (u__law_refused_right_13 δ h) E := z
theorem e_u__law_refused_right {δ : De} {h : Hh} {E : Es} (z : ws ((sSeq u__law_refused_right_1 (sSeq u__law_refused_right_2 (sSeq u__law_refused_right_3 (sSeq u__law_refused_right_4 (sSeq u__law_refused_right_5 (sSeq u__law_refused_right_6 (sSeq u__law_refused_right_7 (sSeq u__law_refused_right_8 (sSeq u__law_refused_right_9 (sSeq u__law_refused_right_10 (sSeq u__law_refused_right_11 (sSeq u__law_refused_right_12 u__law_refused_right_13)))))))))))) δ h) E) : ws (u__law_refused_right δ h) E := z
theorem refused_w {p q r : Cn} (o1 : p.Ok) (o2 : q.Ok) (o3 : r.Ok) (s : St o m h N os) (hq : (0, O.tab q__law_refused_right) ∈ os) (hN : 8 ≤ N) (k : ∀ h', St o m h' (N - 8) os → Q (.bl true) h') : wr (f__law_refused_right [.ref m, .lst [p.d, q.d, r.d]] h) X Q := by
  refine w_run (δ := [some (.ref m), some (.lst [p.d, q.d, r.d]), none, none, none, none, none, none]) rfl ?_
  with_reducible refine e_u__law_refused_right (s_seq (e_u__law_refused_right_1 (s_asg (w_tup (w_cons (w_call0 ?_))))))
  refine wr_ok (x := [.ref m]) (h := h) rfl (w_eqn rfl ?_)
  refine oddc_w s (by omega) fun d1 h1 a1 s1 => ?_
  with_reducible refine w_cons (w_call0 ?_)
  refine wr_ok (x := [.ref m]) (h := h1) rfl (w_eqn rfl ?_)
  refine oddc_w s1 (by omega) fun d2 h2 a2 s2 => ?_
  with_reducible refine w_cons ?_
  refine wr_ok (emk_ok (p := p) (q := q) (r := r) rfl rfl rfl o1 o2 o3) (w_nil (w_le (by simp) ?_))
  have s3 : St o m (h2 ++ [.dead]) (N - 6) os := (s2.old (Old.app h2 [.dead])).weak (by omega)
  generalize h2 ++ [O.dead] = h3 at s3 ⊢
  refine ⟨[some (.ref m), some (.lst [p.d, q.d, r.d]), some d1, some d2, some (tri p q r), none, none, none], rfl, ?_⟩
  with_reducible refine s_seq (e_u__law_refused_right_2 ?_)
  refine new_told (c := 0) (by omega) s3 hq (emk_no (x := d1) (y := q.d) (z := r.d) (fun _ => rfl) (fun _ => rfl) (fun _ => rfl) a1 o2.cor o3.cor rfl) fun n h4 ne s4 => ?_
  show ws _ _
  with_reducible refine s_seq (e_u__law_refused_right_3 ?_)
  refine app_told (c := 0) (by omega) s4 ne hq rfl (by simp) (emk_no (x := p.d) (y := d1) (z := r.d) (fun _ => rfl) (fun _ => rfl) (fun _ => rfl) o1.cor a1 o3.cor rfl) fun h5 s5 => ?_
  with_reducible refine s_seq (e_u__law_refused_right_4 ?_)
  refine app_told (c := 0) (by omega) s5 ne hq rfl (by simp) (emk_no (x := p.d) (y := q.d) (z := d1) (fun _ => rfl) (fun _ => rfl) (fun _ => rfl) o1.cor o2.cor a1 rfl) fun h6 s6 => ?_
  with_reducible refine s_seq (e_u__law_refused_right_5 ?_)
  refine app_told (c := 0) (by omega) s6 ne hq rfl (by simp) (emk_no (x := d1) (y := d2) (z := r.d) (fun _ => rfl) (fun _ => rfl) (fun _ => rfl) a1 a2 o3.cor rfl) fun h7 s7 => ?_
  with_reducible refine s_seq (e_u__law_refused_right_6 (s_if (w_test (w_bin ?_))))
  refine wr_ok (x := .ref n) (h := h7) rfl ?_
  with_reducible refine w_bin ?_
  refine wr_ok (x := .lst [toldD (some 0)]) (h := h7) rfl (w_c ?_)
  refine wr_ok (x := .lst [toldD (some 0), toldD (some 0), toldD (some 0), toldD (some 0)]) (h := h7) (by kernel_rfl) ?_
  refine wr_ok (ne_told (s7.get (by simp)) (by kernel_rfl)) (w_tst (w_f (s_nil ?_)))
  have s8 : St o m h7 (N - 6) os := s7.sub (Nat.le_refl _) fun p hp => by simp [hp]
  show ws _ _
  with_reducible refine s_seq (e_u__law_refused_right_7 (s_asg (w_tup (w_cons (w_call0 ?_)))))
  refine wr_ok (x := [.ref m]) (h := h7) rfl (w_eqn rfl ?_)
  refine spot_w s8 (by omega) fun d h8 od s9 => ?_
  with_reducible refine w_cons (w_bin ?_)
  refine wr_ok (x := .lst rims) (h := h8) (by kernel_rfl) ?_
  with_reducible refine w_call0 ?_
  refine wr_ok (x := [.ref m, .int 8]) (h := h8) rfl (w_eqn rfl ?_)
  refine w_next s9 (by omega) (by omega) (by omega) fun v h9 v0 v1 s10 => ?_
  obtain ⟨y, hy, e⟩ := pick_at (ds := rims) v0 v1 h9
  have oy := rims_all y hy
  refine wr_ok e (w_nil (w_le (by simp) ?_))
  have s11 := s10.weak (M := N - 8) (by omega)
  refine ⟨[some (.ref m), some (.lst [p.d, q.d, r.d]), some d1, some d2, some (tri p q r), some (.ref n), some d, some y], rfl, ?_⟩
  have cl : ∀ h, clsOf h (tri p q r) = some 0 := fun _ => rfl
  with_reducible refine s_seq (e_u__law_refused_right_8 ?_)
  refine new_told (c := 1) (by omega) s11 hq (fun h => emeth_no (xs := [d]) rfl (cl _) rfl rfl (covers_no od _)) fun n2 h10 ne2 t1 => ?_
  show ws _ _
  with_reducible refine s_seq (e_u__law_refused_right_9 ?_)
  refine app_told (c := 1) (by omega) t1 ne2 hq rfl (by simp) (fun h => emeth_no (xs := [d]) rfl (cl _) rfl rfl (frag_no od _)) fun h11 t2 => ?_
  with_reducible refine s_seq (e_u__law_refused_right_10 ?_)
  refine app_told (c := 1) (by omega) t2 ne2 hq rfl (by simp) (fun h => emeth_no (xs := [.int 2, d]) rfl (cl _) rfl rfl (lets_no od two_t _)) fun h12 t3 => ?_
  with_reducible refine s_seq (e_u__law_refused_right_11 ?_)
  refine app_told (c := 2) (by omega) t3 ne2 hq rfl (by simp) (fun h => emeth_no (xs := [y, d]) rfl (cl _) rfl rfl (lets_odd oy _)) fun h13 t4 => ?_
  with_reducible refine s_seq (e_u__law_refused_right_12 ?_)
  refine app_told (c := 2) (by omega) t4 ne2 hq rfl (by simp) (fun h => emeth_no (xs := [y, .tup [.int 0, .int 0]]) rfl (cl _) rfl rfl (lets_odd oy _)) fun h14 t5 => ?_
  with_reducible refine e_u__law_refused_right_13 (s_ret (w_bin ?_))
  refine wr_ok (x := .ref n2) (h := h14) rfl ?_
  refine wr_ok (x := .lst [toldD (some 1), toldD (some 1), toldD (some 1), toldD (some 2), toldD (some 2)]) (h := h14) (by kernel_rfl) ?_
  refine wr_ok (eq_told (t5.get (by simp)) (by kernel_rfl)) (k h14 (t5.sub (Nat.le_refl _) fun p hp => by simp [hp]))
end
end
section
theorem lets_ok {cs : D} {n a b c x y z u v w i j : Int} {h : Hh} (hi : -1000 ≤ i ∧ i ≤ 1000) (hj : -1000 ≤ j ∧ j ≤ 1000) :
    f_Triangle_lets_in [objD cs n a b c x y z u v w, .int 0, .tup [.int i, .int j]] h = .ok (.bl (letB a b (a * i + b * j + c))) h ∧ f_Triangle_lets_in [objD cs n a b c x y z u v w, .int 1, .tup [.int i, .int j]] h = .ok (.bl (letB x y (x * i + y * j + z))) h ∧ f_Triangle_lets_in [objD cs n a b c x y z u v w, .int 2, .tup [.int i, .int j]] h = .ok (.bl (letB u v (u * i + v * j + w))) h := by
  have e : clsOf h (objD cs n a b c x y z u v w) = some 0 := rfl
  have o : fldD ix_own_edges (objD cs n a b c x y z u v w) h = .ok (.tup [int3 a b c, int3 x y z, int3 u v w]) h := rfl
  refine ⟨?_, ?_, ?_⟩
  · simp [f_Triangle_lets_in, u_Triangle_lets_in_1_a_1, u_Triangle_lets_in_1, u_Triangle_lets_in_2, u_Triangle_lets_in_3, u_Triangle_lets_in, whole_ok, betw, place_ok hi hj, values_ok hi hj, let_ok, e, o, eFld, runD, startD, seqE, seqNx, sIf, tNot3, eTest, eCall, kCall, aCons, aNil, eVar, eC, bindOk, toSOk, sNil, sExpr, sRet, endRt, eBin, tup0, lst0, kMeth, eMeth]
  · simp [f_Triangle_lets_in, u_Triangle_lets_in_1_a_1, u_Triangle_lets_in_1, u_Triangle_lets_in_2, u_Triangle_lets_in_3, u_Triangle_lets_in, whole_ok, betw, place_ok hi hj, values_ok hi hj, let_ok, e, o, eFld, runD, startD, seqE, seqNx, sIf, tNot3, eTest, eCall, kCall, aCons, aNil, eVar, eC, bindOk, toSOk, sNil, sExpr, sRet, endRt, eBin, tup1, lst1, kMeth, eMeth]
  · simp [f_Triangle_lets_in, u_Triangle_lets_in_1_a_1, u_Triangle_lets_in_1, u_Triangle_lets_in_2, u_Triangle_lets_in_3, u_Triangle_lets_in, whole_ok, betw, place_ok hi hj, values_ok hi hj, let_ok, e, o, eFld, runD, startD, seqE, seqNx, sIf, tNot3, eTest, eCall, kCall, aCons, aNil, eVar, eC, bindOk, toSOk, sNil, sExpr, sRet, endRt, eBin, tup2, lst2, kMeth, eMeth]
theorem pow18 (h : Hh) : powD (.int 10) (.int 18) h = .ok (.int 1000000000000000000) h := by simp [powD]
theorem filt (a b : Option D) (h : Hh) : ∀ ns : List Int, lcs (gSet 1) (eTest (eBin geD (eVar 1) (eBin powD (eC (.int 10)) (eC (.int 18))))) (eVar 1) [a, b] (ns.map D.int) h = .ok ((ns.filter fun x => decide (1000000000000000000 ≤ x)).map D.int) h
  | [] => rfl
  | n :: ns => by
    have ih := filt a b h ns
    rw [List.map_cons, lcCons]
    by_cases hn : 1000000000000000000 ≤ n
    · simp [pow18, hn, ih, runD, startD, endRt, endNx, endExc, seqE, seqNx, seqRt, seqExc, sNil, sPass, sIf, sRet, sRetN, sExpr, sSet, sAsg, sPar, kPar, setAll, sIxS, kSet, L3.sFld, eVar, eC, eBin, eTest, eChain, eUn, tAnd3, tOr3, tNot3, eAnd, eOr, eNot, eIf, aNil, aCons, eTup, eLst, eLstM, eCall, kCall, eMeth, kMeth, clsObj, eB, one, eFld, fldD, fieldAt, L3.putAt, eProp, kProp, noX, eMake, eLc, kLst, iSeq, L3.iZip, kZip, zipL, immS, iRg1, lcNil, lcCons, lcAS, lcBT, lcBF, lcCO, loNil, loCons, loAS, loNx, loCt, loBk, loRt, L3.sFor, sForW, eLcW, wSeq, wZip, kZipW, loopW, lcW, optS, wipeD, gSet, gTupD, gsNil, gsCons, tYes3, eIsi, isiD, kdOf, isK, allB, anyB, sumB, L3.listOf, blsOf, intsOf, asL, bindOk, bindExc, bindStk, toSOk, toSExc, lineOk, addI, subI, negI, mulL, mulR, divI, modI, ltI, leI, gtI, geI, eqI, neI, intB1, intB2, lenTup, lenLst, lenScr, tup0, tup1, tup2, tup3, tup4, tup5, lst0, lst1, lst2, lst3, List.getElem?_cons_zero, List.getElem?_cons_succ, List.getElem?_nil, List.set_cons_zero, List.set_cons_succ, List.length_cons, List.length_nil, List.map_cons, List.map_nil, List.replicate_succ, List.replicate_zero, List.cons_append, List.nil_append, List.append_nil, if_true, if_false, ite_true, ite_false, Bool.false_eq_true, Bool.not_true, Bool.not_false, Bool.true_and, Bool.and_true, Bool.false_and, Bool.and_false, Bool.or_true, Bool.true_or, Bool.false_or, Bool.or_false, and_self, and_true, true_and, Nat.sub_zero, Nat.sub_self, Nat.reduceSub, Nat.reduceAdd, Nat.reduceLeDiff, Nat.reduceEqDiff, decide_true, decide_false, Nat.zero_le]
    · simp [pow18, hn, ih, runD, startD, endRt, endNx, endExc, seqE, seqNx, seqRt, seqExc, sNil, sPass, sIf, sRet, sRetN, sExpr, sSet, sAsg, sPar, kPar, setAll, sIxS, kSet, L3.sFld, eVar, eC, eBin, eTest, eChain, eUn, tAnd3, tOr3, tNot3, eAnd, eOr, eNot, eIf, aNil, aCons, eTup, eLst, eLstM, eCall, kCall, eMeth, kMeth, clsObj, eB, one, eFld, fldD, fieldAt, L3.putAt, eProp, kProp, noX, eMake, eLc, kLst, iSeq, L3.iZip, kZip, zipL, immS, iRg1, lcNil, lcCons, lcAS, lcBT, lcBF, lcCO, loNil, loCons, loAS, loNx, loCt, loBk, loRt, L3.sFor, sForW, eLcW, wSeq, wZip, kZipW, loopW, lcW, optS, wipeD, gSet, gTupD, gsNil, gsCons, tYes3, eIsi, isiD, kdOf, isK, allB, anyB, sumB, L3.listOf, blsOf, intsOf, asL, bindOk, bindExc, bindStk, toSOk, toSExc, lineOk, addI, subI, negI, mulL, mulR, divI, modI, ltI, leI, gtI, geI, eqI, neI, intB1, intB2, lenTup, lenLst, lenScr, tup0, tup1, tup2, tup3, tup4, tup5, lst0, lst1, lst2, lst3, List.getElem?_cons_zero, List.getElem?_cons_succ, List.getElem?_nil, List.set_cons_zero, List.set_cons_succ, List.length_cons, List.length_nil, List.map_cons, List.map_nil, List.replicate_succ, List.replicate_zero, List.cons_append, List.nil_append, List.append_nil, if_true, if_false, ite_true, ite_false, Bool.false_eq_true, Bool.not_true, Bool.not_false, Bool.true_and, Bool.and_true, Bool.false_and, Bool.and_false, Bool.or_true, Bool.true_or, Bool.false_or, Bool.or_false, and_self, and_true, true_and, Nat.sub_zero, Nat.sub_self, Nat.reduceSub, Nat.reduceAdd, Nat.reduceLeDiff, Nat.reduceEqDiff, decide_true, decide_false, Nat.zero_le]
section
variable {h : Hh}
theorem eqTri (p q r P Q V : Cn) (h : Hh) : f_Triangle___eq__ [tri p q r, tri P Q V] h = .ok (.bl (eqC p P && (eqC q Q && eqC r V))) h := by
  have e1 := (eqCs p q r P Q V h).1
  have fc : ∀ (p q r : Cn), fldD ix_corners (tri p q r) h = .ok (.tup [p.d, q.d, r.d]) h := fun _ _ _ => rfl
  have e : isoD 0 (tri P Q V) h = .ok (.bl true) h := rfl
  unfold f_Triangle___eq__ runD u_Triangle___eq__ u_Triangle___eq___1
  show endD (sRet (eAnd (eIso 0 (eVar 1)) (eBin eqD (eFld ix_corners (eVar 0)) (eFld ix_corners (eVar 1)))) [some (tri p q r), some (tri P Q V)] h) = _
  simp only [sRet, eAnd, eIso, eVar, List.getElem?_cons_succ, List.getElem?_cons_zero, bindOk, e, eBin, eFld, fc, e1]
  rfl
theorem eqO_tri (p q r P Q V : Cn) (h : Hh) : eqO 0 f_Triangle___eq__ (tri p q r) (tri P Q V) h = .ok (.bl (eqC p P && (eqC q Q && eqC r V))) h := by
  unfold eqO
  rw [if_pos ⟨rfl, rfl⟩, eqTri]
  rfl
theorem neO_tri (p q r P Q V : Cn) (h : Hh) : neO 0 f_Triangle___eq__ (tri p q r) (tri P Q V) h = .ok (.bl (!(eqC p P && (eqC q Q && eqC r V)))) h := by
  unfold neO
  rw [if_pos ⟨rfl, rfl⟩, eqTri]
  rfl
theorem eqC_refl (p : Cn) : eqC p p = true := by simp [eqC]
theorem eqC_tr {p q r : Cn} (a : eqC p q = true) (b : eqC q r = true) : eqC r p = true := by
  simp only [eqC, Bool.and_eq_true, decide_eq_true_eq] at a b ⊢
  omega
theorem eqV_tup (p q r : Cn) (ds : List D) (h : Hh) : eqV 0 f_Triangle___eq__ (tri p q r) (.tup ds) h = .ok (.bl false) h := rfl
theorem reprs {p q r : Cn} (o1 : p.Ok) (o2 : q.Ok) (o3 : r.Ok) (h : Hh) : reprB [.tup [p.d, q.d, r.d]] h = .ok (.str (showL (.tup [p.d, q.d, r.d]))) h := by
  have k : ∀ v : Int, -1000 ≤ v → v ≤ 1000 → v.natAbs < 10 ^ 40 := fun v a b => Nat.lt_of_le_of_lt (show v.natAbs ≤ 1000 by omega) (by decide)
  have f : ∀ p : Cn, p.Ok → smallD p.d = true := fun p o => by
    simp only [Cn.d, int6, smallD, smallDs, Bool.and_true, Bool.and_eq_true, decide_eq_true_eq]
    exact ⟨k _ o.x.1 o.x.2, k _ o.y.1 o.y.2, k _ o.z.1 o.z.2, k _ o.w.1 o.w.2, k _ o.c.1 o.c.2, k _ (by have := o.s.1; omega) o.s.2⟩
  have g : (flat 60 (.tup [p.d, q.d, r.d]) && (smallD (.tup [p.d, q.d, r.d]) && decide (wtD (.tup [p.d, q.d, r.d]) ≤ 300000))) = true := by
    have a1 : flat 60 (.tup [p.d, q.d, r.d]) = true := by simp [flat, flats, flatC]
    have a2 : smallD (.tup [p.d, q.d, r.d]) = true := by simp [smallD, smallDs, f p o1, f q o2, f r o3]
    have a3 : decide (wtD (.tup [p.d, q.d, r.d]) ≤ 300000) = true := by simp [wtD, wtDs, Cn.d, int6]
    rw [a1, a2, a3]; rfl
  show (if (flat 60 (.tup [p.d, q.d, r.d]) && (smallD (.tup [p.d, q.d, r.d]) && decide (wtD (.tup [p.d, q.d, r.d]) ≤ 300000))) = true then R.ok (D.str (showL (.tup [p.d, q.d, r.d]))) h else .stk) = _
  rw [if_pos g]
theorem mkK_ok {p q r : Cn} (o1 : p.Ok) (o2 : q.Ok) (o3 : r.Ok) (h : Hh) : kMakeK 0 3 3 4 f_Triangle___init__ [] [.p 0, .k 1, .k 2, .k 0] [] [r.d, p.d, q.d] h = .ok (tri p q r) (h ++ [.dead]) := by
  have t := tri_ok o1 o2 o3 (h := h)
  have l : (D.ref h.length :: ([p.d, q.d, r.d] ++ [])).length = 4 := rfl
  have e : pick [D.ref h.length] [] [r.d, p.d, q.d] [.p 0, .k 1, .k 2, .k 0] = D.ref h.length :: ([p.d, q.d, r.d] ++ []) := rfl
  unfold kMake at t
  rw [if_pos l] at t
  unfold kMakeK
  rw [e, if_pos ⟨rfl, rfl, l⟩]
  exact t
theorem lets_b (p q r : Cn) (h : Hh) : ∃ b, f_Triangle_lets_in [tri p q r, .int 0, .tup [.int 1000, .int (-1000)]] h = .ok (.bl b) h := by
  rw [tri_is]
  exact ⟨_, (lets_ok (i := 1000) (j := -1000) (by omega) (by omega)).1⟩
theorem ecC (a b : Cn) (h : Hh) : eqD a.d b.d h = .ok (.bl (eqC a b)) h := by
  have fl : ∀ a : Cn, flat 60 a.d = true := fun a => flatC a 59
  show (if flat 60 a.d = true ∧ flat 60 b.d = true then R.ok (D.bl (eqv a.d b.d)) h else .stk) = _
  rw [if_pos ⟨fl a, fl b⟩, eqvC]
theorem chain_ok {f1 f2 f3 : FnE} {δ : De} {a b c : Cn} (e1 : f1 δ h = .ok a.d h) (e2 : f2 δ h = .ok b.d h) (e3 : f3 δ h = .ok c.d h) : eChain eqD eqD f1 f2 f3 δ h = .ok (.bl (eqC a b && eqC b c)) h := by
  have r : wr (eChain eqD eqD f1 f2 f3 δ h) noE fun d h' => d = .bl (eqC a b && eqC b c) ∧ h' = h := by
    refine w_chain (wr_ok e1 (wr_ok e2 (wr_ok (ecC a b h) (w_tst (w_ite (fun z => ?_) fun z => ?_)))))
    · exact wr_ok e3 (wr_ok (ecC b c h) ⟨by rw [z]; rfl, rfl⟩)
    · exact ⟨by rw [z]; rfl, rfl⟩
  obtain ⟨d, h', q, rfl, rfl⟩ := wr_get r
  exact q
theorem begun2 (ns : List Int) (hl : ns.length ≤ 63) (x y : O) : ∃ h', f__law_begun [.scr (ns.map D.int)] [x, y] = .ok (.ref 4) h' ∧ St 2 4 h' 1000000 [(0, x), (1, y)] := by
  refine ⟨[x, y, .lst (ns.map D.int), .lst ((ns.filter fun x => decide (1000000000000000000 ≤ x)).map D.int), .dic [ck, lk, ak] [.ref 2, .ref 3, .int 0]], ?_, ?_⟩
  · have hf := List.length_filter_le (fun x => decide ((1000000000000000000 : Int) ≤ x)) ns
    have h1 : (List.filter (fun x => decide ((1000000000000000000 : Int) ≤ x)) ns).length ≤ 16777216 := by omega
    simp [f__law_begun, u__law_begun_1, u__law_begun, eDic, dPairs, noXP, kDic, keysOk, isKey, hasK, keyEq, listMB, asSeq, filt, h1, runD, startD, endRt, endNx, endExc, seqE, seqNx, seqRt, seqExc, sNil, sPass, sIf, sRet, sRetN, sExpr, sSet, sAsg, sPar, kPar, setAll, sIxS, kSet, L3.sFld, eVar, eC, eBin, eTest, eChain, eUn, tAnd3, tOr3, tNot3, eAnd, eOr, eNot, eIf, aNil, aCons, eTup, eLst, eLstM, eCall, kCall, eMeth, kMeth, clsObj, eB, one, eFld, fldD, fieldAt, L3.putAt, eProp, kProp, noX, eMake, eLc, kLst, iSeq, L3.iZip, kZip, zipL, immS, iRg1, lcNil, lcCons, lcAS, lcBT, lcBF, lcCO, loNil, loCons, loAS, loNx, loCt, loBk, loRt, L3.sFor, sForW, eLcW, wSeq, wZip, kZipW, loopW, lcW, optS, wipeD, gSet, gTupD, gsNil, gsCons, tYes3, eIsi, isiD, kdOf, isK, allB, anyB, sumB, L3.listOf, blsOf, intsOf, asL, bindOk, bindExc, bindStk, toSOk, toSExc, lineOk, addI, subI, negI, mulL, mulR, divI, modI, ltI, leI, gtI, geI, eqI, neI, intB1, intB2, lenTup, lenLst, lenScr, tup0, tup1, tup2, tup3, tup4, tup5, lst0, lst1, lst2, lst3, List.getElem?_cons_zero, List.getElem?_cons_succ, List.getElem?_nil, List.set_cons_zero, List.set_cons_succ, List.length_cons, List.length_nil, List.map_cons, List.map_nil, List.replicate_succ, List.replicate_zero, List.cons_append, List.nil_append, List.append_nil, if_true, if_false, ite_true, ite_false, Bool.false_eq_true, Bool.not_true, Bool.not_false, Bool.true_and, Bool.and_true, Bool.false_and, Bool.and_false, Bool.or_true, Bool.true_or, Bool.false_or, Bool.or_false, and_self, and_true, true_and, Nat.sub_zero, Nat.sub_self, Nat.reduceSub, Nat.reduceAdd, Nat.reduceLeDiff, Nat.reduceEqDiff, decide_true, decide_false, Nat.zero_le]
  · refine ⟨3, ⟨ns, ns.filter fun x => decide (1000000000000000000 ≤ x), 0, ⟨rfl, rfl, rfl, by decide, by decide, by decide, fun x hx => ?_, by decide, by decide⟩, ?_, by decide⟩, fun p hp => ?_⟩
    · have := List.mem_filter.mp hx
      have := of_decide_eq_true this.2
      omega
    · have hf := List.length_filter_le (fun x => decide ((1000000000000000000 : Int) ≤ x)) ns
      omega
    · simp only [List.mem_cons, List.not_mem_nil, or_false] at hp
      rcases hp with rfl | rfl <;> exact ⟨rfl, by dsimp only; omega, by dsimp only; omega, by dsimp only; omega⟩
end
section
theorem turns_ok (c k : Nat) (hc : c ≤ 100) (hk : k ≤ 100) (ns : List Int) (r : De) (h : Hh) : iRg1 (eBin addD (eC (.int (c : Int))) (eB min2B (aCons (eB lenB (aCons (eVar 0) aNil)) (aCons (eC (.int (k : Int))) aNil)))) (some (.scr (ns.map D.int)) :: r) h = .ok (rgD 0 (c + min ns.length k)) h := by
  have e : ((c : Int) + (if (k : Int) < (ns.length : Int) then (k : Int) else (ns.length : Int))) = ((c + min ns.length k : Nat) : Int) := by
    by_cases hh : k < ns.length
    · rw [if_pos (by omega), Nat.min_eq_right (by omega)]; rfl
    · rw [if_neg (by omega), Nat.min_eq_left (by omega)]; rfl
  have b : ((c + min ns.length k : Nat) : Int) ≤ 200 := by omega
  show (if -(2 ^ 62) ≤ (c : Int) + (if (k : Int) < (((ns.map D.int).length : Nat) : Int) then (k : Int) else (((ns.map D.int).length : Nat) : Int)) ∧ (c : Int) + (if (k : Int) < (((ns.map D.int).length : Nat) : Int) then (k : Int) else (((ns.map D.int).length : Nat) : Int)) < 2 ^ 62 then R.ok (rgD 0 ((c : Int) + (if (k : Int) < (((ns.map D.int).length : Nat) : Int) then (k : Int) else (((ns.map D.int).length : Nat) : Int))).toNat) h else .stk) = _
  rw [List.length_map, e, if_pos ⟨by omega, by omega⟩]
  rfl
end
end
section
abbrev tq : List (Nat × O) := [(0, .tab q__law_refused_right), (1, .tab q_law)]
section
variable {E : Es} {h : Hh}
theorem neStr (z : List Nat) (h : Hh) : neD (.str z) (.str z) h = .ok (.bl false) h := neSame rfl rfl
theorem e_u_law_1 {δ : De} {h : Hh} {E : Es} (z : ws ((sSet 1 (eCall 1 f__law_begun (aCons (eVar 0) aNil) [])) δ h) E) : ws (u_law_1 δ h) E := z
theorem e_u_law_2_1 {δ : De} {h : Hh} {E : Es} (z : ws ((sSet 3 (eLst (aCons (eCall 1 f__law_corner (aCons (eVar 1) aNil) []) (aCons (eCall 1 f__law_corner (aCons (eVar 1) aNil) []) (aCons (eCall 1 f__law_corner (aCons (eVar 1) aNil) []) aNil))))) δ h) E) : ws (u_law_2_1 δ h) E := z
theorem e_u_law_2_2 {δ : De} {h : Hh} {E : Es} (z : ws ((sSet 4 (eKw aNil (aCons (eBin ixA (eVar 3) (eC (.int 2))) (aCons (eBin ixA (eVar 3) (eC (.int 0))) (aCons (eBin ixA (eVar 3) (eC (.int 1))) aNil))) (kMakeK 0 3 3 4 f_Triangle___init__ [] [.p 0, .k 1, .k 2, .k 0]))) δ h) E) : ws (u_law_2_2 δ h) E := z
theorem e_u_law_2_3 {δ : De} {h : Hh} {E : Es} (z : ws ((sIf (tOr3 (eTest (eBin neD (eB reprB (aCons (eFld ix_corners (eVar 4)) aNil)) (eB reprB (aCons (eB tupleB (aCons (eVar 3) aNil)) aNil)))) (tNot3 (eTest (eCall 2 f__law_refused_right (aCons (eVar 1) (aCons (eVar 3) aNil)) [])))) u_law_2_3_a_1 sNil) δ h) E) : ws (u_law_2_3 δ h) E := z
theorem e_u_law_2_4 {δ : De} {h : Hh} {E : Es} (z : ws ((sIf (tOr3 (tNot3 (eTest (eBin (eqO 0 f_Triangle___eq__) (eVar 4) (eMake 0 3 4 f_Triangle___init__ (aCons (eBin ixA (eVar 3) (eC (.int 0))) (aCons (eBin ixA (eVar 3) (eC (.int 1))) (aCons (eBin ixA (eVar 3) (eC (.int 2))) aNil))) [])))) (tOr3 (eTest (eBin (eqV 0 f_Triangle___eq__) (eVar 4) (eB tupleB (aCons (eVar 3) aNil)))) (eTest (eBin (eqV 0 f_Triangle___eq__) (eVar 4) (eBin ixA (eVar 3) (eC (.int 0))))))) u_law_2_4_a_1 sNil) δ h) E) : ws (u_law_2_4 δ h) E := z
theorem e_u_law_2_5 {δ : De} {h : Hh} {E : Es} (z : ws ((sSet 5 (eMake 0 3 4 f_Triangle___init__ (aCons (eBin ixA (eVar 3) (eC (.int 1))) (aCons (eBin ixA (eVar 3) (eC (.int 2))) (aCons (eBin ixA (eVar 3) (eC (.int 0))) aNil))) [])) δ h) E) : ws (u_law_2_5 δ h) E := z
theorem e_u_law_2_6 {δ : De} {h : Hh} {E : Es} (z : ws ((sIf (tOr3 (eTest (eBin neD (eBin (eqO 0 f_Triangle___eq__) (eVar 4) (eVar 5)) (eChain eqD eqD (eBin ixA (eVar 3) (eC (.int 0))) (eBin ixA (eVar 3) (eC (.int 1))) (eBin ixA (eVar 3) (eC (.int 2)))))) (eTest (eBin eqD (eBin (neO 0 f_Triangle___eq__) (eVar 4) (eVar 5)) (eBin (eqO 0 f_Triangle___eq__) (eVar 4) (eVar 5))))) u_law_2_6_a_1 sNil) δ h) E) : ws (u_law_2_6 δ h) E := z
theorem e_u_law_2_7 {δ : De} {h : Hh} {E : Es} (z : ws ((sSet 6 (eLst (aCons (eMeth 0 2 f_Triangle_covers (eVar 4) (aCons (eTup (aCons (eUn negD (eC (.int 1000))) (aCons (eC (.int 1000)) aNil))) aNil) []) (aCons (eMethK 0 2 3 f_Triangle_lets_in (eVar 4) (aCons (eTup (aCons (eC (.int 1000)) (aCons (eUn negD (eC (.int 1000))) aNil))) (aCons (eC (.int 0)) aNil)) [] [.p 0, .k 1, .k 0]) aNil)))) δ h) E) : ws (u_law_2_7 δ h) E := z
theorem e_u_law_2_8 {δ : De} {h : Hh} {E : Es} (z : ws ((sIf (eTest (eBin neD (eLcW false (wSeq (eVar 6)) (gSet 12) (tAnd3 (eTest (eBin isnD (eVar 12) (eC (.bl true)))) (eTest (eBin isnD (eVar 12) (eC (.bl false))))) (eVar 12) [12]) (eLst aNil))) u_law_2_8_a_1 sNil) δ h) E) : ws (u_law_2_8 δ h) E := z
theorem e_u_law_2 {δ : De} {h : Hh} {E : Es} (z : ws ((sFor (iRg1 (eBin addD (eC (.int 5)) (eB min2B (aCons (eB lenB (aCons (eVar 0) aNil)) (aCons (eC (.int 8)) aNil))))) (gSet 2) (sSeq u_law_2_1 (sSeq u_law_2_2 (sSeq u_law_2_3 (sSeq u_law_2_4 (sSeq u_law_2_5 (sSeq u_law_2_6 (sSeq u_law_2_7 u_law_2_8)))))))) δ h) E) : ws (u_law_2 δ h) E := z
theorem e_u_law_3 {δ : De} {h : Hh} {E : Es} (z : ws ((sAsg (gTupD 2 (gsCons (gSet 7) (gsCons (gSet 8) gsNil))) (eTup (aCons (eTup (aCons (eC (.int 0)) (aCons (eC (.int 0)) (aCons (eC (.int 0)) (aCons (eC (.int 0)) (aCons (eC (.int 0)) (aCons (eC (.int 1)) aNil))))))) (aCons (eLst (aCons (eTup (aCons (eC (.int 0)) (aCons (eC (.int 0)) (aCons (eC (.int 0)) (aCons (eC (.int 1)) (aCons (eC (.int 0)) (aCons (eC (.int 0)) aNil))))))) (aCons (eTup (aCons (eC (.int 0)) (aCons (eC (.int 0)) (aCons (eC (.int 0)) (aCons (eC (.int 1)) (aCons (eC (.int 0)) (aCons (eC (.int 1001)) aNil))))))) (aCons (eTup (aCons (eC (.int 0)) (aCons (eC (.int 0)) (aCons (eC (.int 0)) (aCons (eC (.int 1)) (aCons (eC (.int 0)) (aCons (eC (.bl true)) aNil))))))) aNil)))) aNil)))) δ h) E) : ws (u_law_3 δ h) E := z
theorem e_u_law_4 {δ : De} {h : Hh} {E : Es} (z : ws ((sSet 8 (eBin addD (eVar 8) (eLst (aCons (eTup (aCons (eC (.int 0)) (aCons (eC (.int 0)) (aCons (eC (.int 1001)) (aCons (eC (.int 1)) (aCons (eC (.int 0)) (aCons (eC (.int 1)) aNil))))))) (aCons (eTup (aCons (eC (.int 0)) (aCons (eC (.int 0)) (aCons (eC (.int 0)) (aCons (eUn negD (eC (.int 1001))) (aCons (eC (.int 0)) (aCons (eC (.int 1)) aNil))))))) (aCons (eTup (aCons (eC (.int 0)) (aCons (eC .non) (aCons (eC (.int 0)) (aCons (eC (.int 1)) (aCons (eC (.int 0)) (aCons (eC (.int 1)) aNil))))))) aNil)))))) δ h) E) : ws (u_law_4 δ h) E := z
theorem e_u_law_5_1 {δ : De} {h : Hh} {E : Es} (z : ws ((sIf (eTest (eBin neD (eLam 1 q_law f__law_said (eMake 0 3 4 f_Triangle___init__ (aCons (eVar 7) (aCons (eVar 7) (aCons (eVar 9) aNil))) [])) (eC (.str [99, 111, 114, 110, 101, 114])))) u_law_5_1_a_1 sNil) δ h) E) : ws (u_law_5_1 δ h) E := z
theorem e_u_law_5 {δ : De} {h : Hh} {E : Es} (z : ws ((sForW (wSeq (eBin addD (eVar 8) (eLst (aCons (eTup (aCons (eC (.int 0)) (aCons (eC (.int 0)) (aCons (eC (.int 0)) (aCons (eC (.int 1)) (aCons (eC (.int 0)) aNil)))))) (aCons (eTup (aCons (eC (.int 0)) (aCons (eC (.int 0)) (aCons (eC (.int 0)) (aCons (eC (.int 1)) (aCons (eC (.int 0)) (aCons (eC (.int 1)) (aCons (eC (.int 1)) aNil)))))))) (aCons (eLst (aCons (eC (.int 0)) (aCons (eC (.int 0)) (aCons (eC (.int 0)) (aCons (eC (.int 1)) (aCons (eC (.int 0)) (aCons (eC (.int 1)) aNil))))))) (aCons (eC .non) aNil))))))) (gSet 9) u_law_5_1) δ h) E) : ws (u_law_5 δ h) E := z
theorem e_u_law_6 {δ : De} {h : Hh} {E : Es} (z : ws ((sSet 10 (eTup (aCons (eC (.int 1000)) (aCons (eUn negD (eC (.int 1000))) (aCons (eC (.int 1000)) (aCons (eUn negD (eC (.int 1000))) (aCons (eC (.int 1000)) (aCons (eC (.int 1000)) aNil)))))))) δ h) E) : ws (u_law_6 δ h) E := z
theorem e_u_law_7 {δ : De} {h : Hh} {E : Es} (z : ws ((sSet 4 (eMake 0 3 4 f_Triangle___init__ (aCons (eVar 10) (aCons (eVar 10) (aCons (eVar 10) aNil))) [])) δ h) E) : ws (u_law_7 δ h) E := z
theorem e_u_law_8_1 {δ : De} {h : Hh} {E : Es} (z : ws ((sSet 6 (eLst (aCons (eLam 1 q_law f__law_said (eMeth 0 2 f_Triangle_covers (eVar 4) (aCons (eVar 11) aNil) [])) (aCons (eLam 1 q_law f__law_said (eMeth 0 2 f_Triangle_fragment_at (eVar 4) (aCons (eVar 11) aNil) [])) aNil)))) δ h) E) : ws (u_law_8_1 δ h) E := z
theorem e_u_law_8_2 {δ : De} {h : Hh} {E : Es} (z : ws ((sIf (eTest (eBin neD (eBin addD (eVar 6) (eLst (aCons (eLam 1 q_law f__law_said (eMeth 0 3 f_Triangle_lets_in (eVar 4) (aCons (eC (.int 0)) (aCons (eVar 11) aNil)) [])) aNil))) (eBin mulD (eLst (aCons (eC (.str [112, 108, 97, 99, 101])) aNil)) (eC (.int 3))))) u_law_8_2_a_1 sNil) δ h) E) : ws (u_law_8_2 δ h) E := z
theorem e_u_law_8 {δ : De} {h : Hh} {E : Es} (z : ws ((sForW (wSeq (eTup (aCons (eTup (aCons (eC (.int 1001)) (aCons (eC (.int 0)) aNil))) (aCons (eTup (aCons (eUn negD (eC (.int 1001))) (aCons (eC (.int 0)) aNil))) (aCons (eTup (aCons (eC (.int 0)) (aCons (eC (.int 1001)) aNil))) (aCons (eTup (aCons (eC (.int 0)) (aCons (eUn negD (eC (.int 1001))) aNil))) aNil)))))) (gSet 11) (sSeq u_law_8_1 u_law_8_2)) δ h) E) : ws (u_law_8 δ h) E := z
theorem e_u_law_9 {δ : De} {h : Hh} {E : Es} (z : ws ((sRet (eAnd (eBin eqD (eFld ix_corners (eVar 4)) (eBin mulD (eTup (aCons (eVar 10) aNil)) (eC (.int 3)))) (eAnd (eBin isD (eMethK 0 1 2 f_Triangle_covers (eVar 4) (aCons (eTup (aCons (eC (.int 0)) (aCons (eC (.int 0)) aNil))) aNil) [] [.p 0, .k 0]) (eC (.bl false))) (eBin isD (eMethK 0 1 2 f_Triangle_fragment_at (eVar 4) (aCons (eTup (aCons (eC (.int 0)) (aCons (eC (.int 0)) aNil))) aNil) [] [.p 0, .k 0]) (eC .non))))) δ h) E) : ws (u_law_9 δ h) E := z
theorem e_u_law {δ : De} {h : Hh} {E : Es} (z : ws ((sSeq u_law_1 (sSeq u_law_2 (sSeq u_law_3 (sSeq u_law_4 (sSeq u_law_5 (sSeq u_law_6 (sSeq u_law_7 (sSeq u_law_8 u_law_9)))))))) δ h) E) : ws (u_law δ h) E := z
theorem turn_w {N : Nat} {sc x2 x3 x4 x5 x6 x7 x8 x9 x10 x11 x12 : Option D} (s : St 2 4 h N tq) (hN : 100 ≤ N) (q : ∀ h' x3 x4 x5 x6, St 2 4 h' (N - 100) tq → E.nx [sc, some (.ref 4), x2, x3, x4, x5, x6, x7, x8, x9, x10, x11, x12] h') :
    ws (sSeq u_law_2_1 (sSeq u_law_2_2 (sSeq u_law_2_3 (sSeq u_law_2_4 (sSeq u_law_2_5 (sSeq u_law_2_6 (sSeq u_law_2_7 u_law_2_8)))))) [sc, some (.ref 4), x2, x3, x4, x5, x6, x7, x8, x9, x10, x11, x12] h) E := by
  with_reducible refine s_seq (e_u_law_2_1 (s_set (w_lst (w_cons (w_call0 ?_)))))
  refine wr_ok (x := [.ref 4]) (h := h) rfl (w_eqn rfl ?_)
  refine corn_w s (by omega) fun p h1 o1 s1 => ?_
  with_reducible refine w_cons (w_call0 ?_)
  refine wr_ok (x := [.ref 4]) (h := h1) rfl (w_eqn rfl ?_)
  refine corn_w s1 (by omega) fun r h2 o2 s2 => ?_
  with_reducible refine w_cons (w_call0 ?_)
  refine wr_ok (x := [.ref 4]) (h := h2) rfl (w_eqn rfl ?_)
  refine corn_w s2 (by omega) fun t h3 o3 s3 => ?_
  refine w_nil (w_le (by simp) ?_)
  show ws (sSeq u_law_2_2 (sSeq u_law_2_3 (sSeq u_law_2_4 (sSeq u_law_2_5 (sSeq u_law_2_6 (sSeq u_law_2_7 u_law_2_8))))) [sc, some (.ref 4), x2, some (.lst [p.d, r.d, t.d]), x4, x5, x6, x7, x8, x9, x10, x11, x12] h3) E
  with_reducible refine s_seq (e_u_law_2_2 (s_set (w_kw ?_)))
  refine wr_ok (x := []) (h := h3) rfl ?_
  refine wr_ok (x := [t.d, p.d, r.d]) (h := h3) rfl ?_
  refine wr_ok (mkK_ok o1 o2 o3 h3) ?_
  have s4 := s3.old (Old.app h3 [.dead])
  generalize h3 ++ [O.dead] = h4 at s4 ⊢
  show ws (sSeq u_law_2_3 (sSeq u_law_2_4 (sSeq u_law_2_5 (sSeq u_law_2_6 (sSeq u_law_2_7 u_law_2_8)))) [sc, some (.ref 4), x2, some (.lst [p.d, r.d, t.d]), some (tri p r t), x5, x6, x7, x8, x9, x10, x11, x12] h4) E
  obtain ⟨z, ez⟩ : ∃ z, ∀ h, reprB [.tup [p.d, r.d, t.d]] h = .ok (.str z) h := ⟨_, reprs o1 o2 o3⟩
  with_reducible refine s_seq (e_u_law_2_3 (s_if (w_or (w_test (w_bin (w_b (w_cons ?_)))))))
  refine wr_ok (x := .tup [p.d, r.d, t.d]) (h := h4) rfl (w_nil ?_)
  refine wr_ok (ez h4) ?_
  with_reducible refine w_b (w_cons ?_)
  refine wr_ok (x := .tup [p.d, r.d, t.d]) (h := h4) rfl (w_nil ?_)
  refine wr_ok (ez h4) ?_
  refine wr_ok (neStr z h4) (w_tst (w_f ?_))
  with_reducible refine w_not (w_test (w_call0 ?_))
  refine wr_ok (x := [.ref 4, .lst [p.d, r.d, t.d]]) (h := h4) rfl (w_eqn rfl ?_)
  refine refused_w o1 o2 o3 s4 (by simp) (by omega) fun h5 s5 => ?_
  refine w_tst (w_f (s_nil ?_))
  have eq1 : (eqC p p && (eqC r r && eqC t t)) = true := by rw [eqC_refl, eqC_refl, eqC_refl]; rfl
  show ws (sSeq u_law_2_4 (sSeq u_law_2_5 (sSeq u_law_2_6 (sSeq u_law_2_7 u_law_2_8))) [sc, some (.ref 4), x2, some (.lst [p.d, r.d, t.d]), some (tri p r t), x5, x6, x7, x8, x9, x10, x11, x12] h5) E
  with_reducible refine s_seq (e_u_law_2_4 (s_if (w_or (w_not (w_test (w_bin ?_))))))
  refine wr_ok (x := tri p r t) (h := h5) rfl ?_
  refine wr_ok (emk_ok (p := p) (q := r) (r := t) rfl rfl rfl o1 o2 o3) ?_
  have s6 := s5.old (Old.app h5 [.dead])
  generalize h5 ++ [O.dead] = h6 at s6 ⊢
  refine wr_ok (x := .bl true) (h := h6) (by rw [eqO_tri, eq1]) (w_tst (w_f ?_))
  with_reducible refine w_or (w_test (w_bin ?_))
  refine wr_ok (x := tri p r t) (h := h6) rfl ?_
  with_reducible refine w_b (w_cons ?_)
  refine wr_ok (x := .lst [p.d, r.d, t.d]) (h := h6) rfl (w_nil ?_)
  refine wr_ok (x := .tup [p.d, r.d, t.d]) (h := h6) rfl ?_
  refine wr_ok (eqV_tup _ _ _ _ h6) (w_tst (w_f ?_))
  with_reducible refine w_test (w_bin ?_)
  refine wr_ok (x := tri p r t) (h := h6) rfl ?_
  refine wr_ok (x := p.d) (h := h6) rfl ?_
  refine wr_ok (eqV_tup _ _ _ _ h6) (w_tst (w_f (s_nil ?_)))
  show ws (sSeq u_law_2_5 (sSeq u_law_2_6 (sSeq u_law_2_7 u_law_2_8)) [sc, some (.ref 4), x2, some (.lst [p.d, r.d, t.d]), some (tri p r t), x5, x6, x7, x8, x9, x10, x11, x12] h6) E
  with_reducible refine s_seq (e_u_law_2_5 (s_set ?_))
  refine wr_ok (emk_ok (p := r) (q := t) (r := p) rfl rfl rfl o2 o3 o1) ?_
  have s7 := s6.old (Old.app h6 [.dead])
  generalize h6 ++ [O.dead] = h7 at s7 ⊢
  show ws (sSeq u_law_2_6 (sSeq u_law_2_7 u_law_2_8) [sc, some (.ref 4), x2, some (.lst [p.d, r.d, t.d]), some (tri p r t), some (tri r t p), x6, x7, x8, x9, x10, x11, x12] h7) E
  with_reducible refine s_seq (e_u_law_2_6 (s_if (w_or (w_test (w_bin (w_bin ?_))))))
  refine wr_ok (x := tri p r t) (h := h7) rfl ?_
  refine wr_ok (x := tri r t p) (h := h7) rfl ?_
  refine wr_ok (eqO_tri _ _ _ _ _ _ h7) ?_
  have big : (eqC p r && (eqC r t && eqC t p)) = (eqC p r && eqC r t) := by
    cases e1 : eqC p r <;> cases e2 : eqC r t <;> first
      | rfl
      | (rw [eqC_tr e1 e2]; rfl)
  refine wr_ok (chain_ok (a := p) (b := r) (c := t) rfl rfl rfl) ?_
  rw [big]
  refine wr_ok (neB _ _ h7) (w_tst ?_)
  rw [show (!decide ((eqC p r && eqC r t) = (eqC p r && eqC r t))) = false by simp]
  refine w_f ?_
  with_reducible refine w_test (w_bin (w_bin ?_))
  refine wr_ok (x := tri p r t) (h := h7) rfl ?_
  refine wr_ok (x := tri r t p) (h := h7) rfl ?_
  refine wr_ok (neO_tri _ _ _ _ _ _ h7) ?_
  with_reducible refine w_bin ?_
  refine wr_ok (x := tri p r t) (h := h7) rfl ?_
  refine wr_ok (x := tri r t p) (h := h7) rfl ?_
  refine wr_ok (eqO_tri _ _ _ _ _ _ h7) ?_
  refine wr_ok (x := .bl false) (h := h7) (by cases (eqC p r && (eqC r t && eqC t p)) <;> rfl) (w_tst (w_f (s_nil ?_)))
  show ws (sSeq u_law_2_7 u_law_2_8 [sc, some (.ref 4), x2, some (.lst [p.d, r.d, t.d]), some (tri p r t), some (tri r t p), x6, x7, x8, x9, x10, x11, x12] h7) E
  with_reducible refine s_seq (e_u_law_2_7 (s_set (w_lst (w_cons (w_meth0 ?_)))))
  refine wr_ok (x := tri p r t) (h := h7) rfl (w_eqn rfl ?_)
  refine wr_ok (x := [.tup [.int (-1000), .int 1000]]) (h := h7) rfl (w_eqn rfl ?_)
  refine wr_ok (cov_ok (i := -1000) (j := 1000) (by omega) (by omega)) ?_
  with_reducible refine w_cons (w_methK ?_)
  refine wr_ok (x := tri p r t) (h := h7) rfl (w_eqn rfl ?_)
  refine wr_ok (x := [.tup [.int 1000, .int (-1000)], .int 0]) (h := h7) rfl ?_
  obtain ⟨b, eb⟩ := lets_b p r t h7
  refine w_kck ⟨rfl, rfl, rfl⟩ (wr_ok eb (w_nil (w_le (by simp) ?_)))
  generalize cov p r t (-1000) 1000 = c
  show ws (u_law_2_8 [sc, some (.ref 4), x2, some (.lst [p.d, r.d, t.d]), some (tri p r t), some (tri r t p), some (.lst [.bl c, .bl b]), x7, x8, x9, x10, x11, x12] h7) E
  with_reducible refine e_u_law_2_8 (s_if (w_test (w_bin ?_)))
  refine wr_ok (x := .lst []) (h := h7) (by cases b <;> cases c <;> rfl) ?_
  refine wr_ok (x := .lst []) (h := h7) rfl ?_
  refine wr_ok (x := .bl false) (h := h7) rfl (w_tst (w_f (s_nil ?_)))
  exact q h7 _ _ _ _ (s7.weak (by omega))
end
end
section
section
variable {E : Es} {h : Hh}
def nears3 : List D := [.tup [.int 0, .int 0, .int 0, .int 1, .int 0, .int 0], .tup [.int 0, .int 0, .int 0, .int 1, .int 0, .int 1001], .tup [.int 0, .int 0, .int 0, .int 1, .int 0, .bl true]]
def nears6 : List D := nears3 ++ [.tup [.int 0, .int 0, .int 1001, .int 1, .int 0, .int 1], .tup [.int 0, .int 0, .int 0, .int (-1001), .int 0, .int 1], .tup [.int 0, .non, .int 0, .int 1, .int 0, .int 1]]
def nears10 : List D := nears6 ++ [.tup [.int 0, .int 0, .int 0, .int 1, .int 0], .tup [.int 0, .int 0, .int 0, .int 1, .int 0, .int 1, .int 1], .lst [.int 0, .int 0, .int 0, .int 1, .int 0, .int 1], .non]
theorem nears_all : ∀ d ∈ nears10, Ans d false := by
  intro d hd
  simp only [nears10, nears6, nears3, List.cons_append, List.nil_append, List.mem_cons, List.not_mem_nil, or_false] at hd
  rcases hd with rfl | rfl | rfl | rfl | rfl | rfl | rfl | rfl | rfl | rfl <;> exact fun h => by kernel_rfl
def goodC : Cn := ⟨0, 0, 0, 0, 0, 1⟩
def rimC : Cn := ⟨1000, -1000, 1000, -1000, 1000, 1000⟩
theorem good_ok : goodC.Ok := by constructor <;> exact ⟨by decide, by decide⟩
theorem rim_ok : rimC.Ok := by constructor <;> exact ⟨by decide, by decide⟩
def outs4 : List D := [.tup [.int 1001, .int 0], .tup [.int (-1001), .int 0], .tup [.int 0, .int 1001], .tup [.int 0, .int (-1001)]]
theorem outs_all : ∀ d ∈ outs4, OddP d := by
  intro d hd
  simp only [outs4, List.mem_cons, List.not_mem_nil, or_false] at hd
  rcases hd with rfl | rfl | rfl | rfl <;> exact fun h => by kernel_rfl
theorem law_plain (ns : List Int) (hl : ns.length ≤ 63) : ∃ h', f_law [.scr (ns.map D.int)] (tabH qs) = .ok (.bl true) h' := by
  have r : wr (f_law [.scr (ns.map D.int)] (tabH qs)) noE fun x _ => x = .bl true := by
    have e0 : f_law [.scr (ns.map D.int)] (tabH qs) = runD 13 u_law [.scr (ns.map D.int)] [.tab q__law_refused_right, .tab q_law] := rfl
    rw [e0]
    have ed : startD 13 [D.scr (ns.map D.int)] = [some (D.scr (ns.map D.int)), none, none, none, none, none, none, none, none, none, none, none, none] := rfl
    with_reducible refine w_run ed ?_
    obtain ⟨h1, eb, s1⟩ := begun2 ns hl (.tab q__law_refused_right) (.tab q_law)
    with_reducible refine e_u_law (s_seq (e_u_law_1 (s_set (w_call0 ?_))))
    refine wr_ok (x := [.scr (ns.map D.int)]) (h := [.tab q__law_refused_right, .tab q_law]) rfl (w_eqn rfl ?_)
    refine wr_ok eb ?_
    show ws (sSeq u_law_2 (sSeq u_law_3 (sSeq u_law_4 (sSeq u_law_5 (sSeq u_law_6 (sSeq u_law_7 (sSeq u_law_8 u_law_9)))))) [some (D.scr (ns.map D.int)), some (.ref 4), none, none, none, none, none, none, none, none, none, none, none] h1) _
    with_reducible refine s_seq (e_u_law_2 (s_for ?_))
    refine wr_ok (turns_ok 5 8 (by decide) (by decide) ns _ _) ?_
    refine s_loop (fun i δ h' => ∃ x2 x3 x4 x5 x6, δ = [some (.scr (ns.map D.int)), some (.ref 4), x2, x3, x4, x5, x6, none, none, none, none, none, none] ∧ St 2 4 h' (1000000 - 100 * i) tq) _ 0 _ _ ⟨none, none, none, none, none, rfl, s1⟩ ?_ ?_
    · rintro j d ed2 δ h2 ⟨x2, x3, x4, x5, x6, rfl, s2⟩
      have hj : j < 5 + min ns.length 8 := by
        have := (List.getElem?_eq_some_iff.mp ed2).1
        simpa [rgD] using this
      rw [Nat.zero_add] at s2 ⊢
      refine ⟨[some (.scr (ns.map D.int)), some (.ref 4), some d, x3, x4, x5, x6, none, none, none, none, none, none], rfl, ?_⟩
      refine turn_w s2 (by omega) fun h3 y3 y4 y5 y6 s3 => ?_
      exact ⟨_, _, _, _, _, rfl, s3.weak (by omega)⟩
    · rintro δ h2 ⟨x2, x3, x4, x5, x6, rfl, s2⟩
      have s2 := s2.weak (M := 0) (Nat.zero_le _)
      show ws (sSeq u_law_3 (sSeq u_law_4 (sSeq u_law_5 (sSeq u_law_6 (sSeq u_law_7 (sSeq u_law_8 u_law_9))))) [some (D.scr (ns.map D.int)), some (.ref 4), x2, x3, x4, x5, x6, none, none, none, none, none, none] h2) _
      with_reducible refine s_seq (e_u_law_3 (s_asg ?_))
      refine wr_ok (x := .tup [goodC.d, .lst nears3]) (h := h2) (by kernel_rfl) ?_
      refine ⟨[some (D.scr (ns.map D.int)), some (.ref 4), x2, x3, x4, x5, x6, some goodC.d, some (.lst nears3), none, none, none, none], rfl, ?_⟩
      with_reducible refine s_seq (e_u_law_4 (s_set ?_))
      refine wr_ok (x := .lst nears6) (h := h2) (by kernel_rfl) ?_
      show ws (sSeq u_law_5 (sSeq u_law_6 (sSeq u_law_7 (sSeq u_law_8 u_law_9))) [some (D.scr (ns.map D.int)), some (.ref 4), x2, x3, x4, x5, x6, some goodC.d, some (.lst nears6), none, none, none, none] h2) _
      with_reducible refine s_seq (e_u_law_5 (s_forW (w_seqW ?_)))
      refine wr_ok (x := .lst nears10) (h := h2) (by kernel_rfl) ?_
      refine ⟨nears10, .inr (.inl rfl), nears10, rfl, ?_⟩
      refine s_loop (fun i δ h' => ∃ x9, δ = [some (D.scr (ns.map D.int)), some (.ref 4), x2, x3, x4, x5, x6, some goodC.d, some (.lst nears6), x9, none, none, none] ∧ St 2 4 h' 0 tq) _ 0 _ _ ⟨none, rfl, s2⟩ ?_ ?_
      · rintro j d ed3 δ h3 ⟨x9, rfl, s3⟩
        have od := nears_all d (List.mem_of_getElem? ed3)
        refine ⟨[some (D.scr (ns.map D.int)), some (.ref 4), x2, x3, x4, x5, x6, some goodC.d, some (.lst nears6), some d, none, none, none], rfl, ?_⟩
        with_reducible refine e_u_law_5_1 (s_if (w_test (w_bin ?_)))
        refine told_w (c := 0) (by omega) s3 (by simp) (emk_no (x := goodC.d) (y := goodC.d) (z := d) (fun _ => rfl) (fun _ => rfl) (fun _ => rfl) good_ok.cor good_ok.cor od rfl _) fun h4 s4 _ => ?_
        refine wr_ok (x := toldD (some 0)) (h := h4) rfl ?_
        refine wr_ok (x := .bl false) (h := h4) (by kernel_rfl) (w_tst (w_f (s_nil ?_)))
        exact ⟨some d, rfl, s4⟩
      · rintro δ h3 ⟨x9, rfl, s3⟩
        show ws (sSeq u_law_6 (sSeq u_law_7 (sSeq u_law_8 u_law_9)) [some (D.scr (ns.map D.int)), some (.ref 4), x2, x3, x4, x5, x6, some goodC.d, some (.lst nears6), x9, none, none, none] h3) _
        with_reducible refine s_seq (e_u_law_6 (s_set ?_))
        refine wr_ok (x := rimC.d) (h := h3) (by kernel_rfl) ?_
        show ws (sSeq u_law_7 (sSeq u_law_8 u_law_9) [some (D.scr (ns.map D.int)), some (.ref 4), x2, x3, x4, x5, x6, some goodC.d, some (.lst nears6), x9, some rimC.d, none, none] h3) _
        with_reducible refine s_seq (e_u_law_7 (s_set ?_))
        refine wr_ok (emk_ok (p := rimC) (q := rimC) (r := rimC) rfl rfl rfl rim_ok rim_ok rim_ok) ?_
        have s4 := s3.old (Old.app h3 [.dead])
        generalize h3 ++ [O.dead] = h4 at s4 ⊢
        have cl : ∀ h, clsOf h (tri rimC rimC rimC) = some 0 := fun _ => rfl
        show ws (sSeq u_law_8 u_law_9 [some (D.scr (ns.map D.int)), some (.ref 4), x2, x3, some (tri rimC rimC rimC), x5, x6, some goodC.d, some (.lst nears6), x9, some rimC.d, none, none] h4) _
        with_reducible refine s_seq (e_u_law_8 (s_forW (w_seqW ?_)))
        refine wr_ok (x := .tup outs4) (h := h4) (by kernel_rfl) ?_
        refine ⟨outs4, .inl rfl, outs4, rfl, ?_⟩
        refine s_loop (fun i δ h' => ∃ x6 x11, δ = [some (D.scr (ns.map D.int)), some (.ref 4), x2, x3, some (tri rimC rimC rimC), x5, x6, some goodC.d, some (.lst nears6), x9, some rimC.d, x11, none] ∧ St 2 4 h' 0 tq) _ 0 _ _ ⟨x6, none, rfl, s4⟩ ?_ ?_
        · rintro j d ed3 δ h5 ⟨y6, x11, rfl, s5⟩
          have od := outs_all d (List.mem_of_getElem? ed3)
          refine ⟨[some (D.scr (ns.map D.int)), some (.ref 4), x2, x3, some (tri rimC rimC rimC), x5, y6, some goodC.d, some (.lst nears6), x9, some rimC.d, some d, none], rfl, ?_⟩
          with_reducible refine s_seq (e_u_law_8_1 (s_set (w_lst (w_cons ?_))))
          refine told_w (c := 1) (by omega) s5 (by simp) (emeth_no (xs := [d]) rfl (cl _) rfl rfl (covers_no od _)) fun h6 s6 _ => ?_
          with_reducible refine w_cons ?_
          refine told_w (c := 1) (by omega) s6 (by simp) (emeth_no (xs := [d]) rfl (cl _) rfl rfl (frag_no od _)) fun h7 s7 _ => ?_
          refine w_nil (w_le (by simp) ?_)
          show ws (u_law_8_2 [some (D.scr (ns.map D.int)), some (.ref 4), x2, x3, some (tri rimC rimC rimC), x5, some (.lst [toldD (some 1), toldD (some 1)]), some goodC.d, some (.lst nears6), x9, some rimC.d, some d, none] h7) _
          with_reducible refine e_u_law_8_2 (s_if (w_test (w_bin (w_bin ?_))))
          refine wr_ok (x := .lst [toldD (some 1), toldD (some 1)]) (h := h7) rfl ?_
          with_reducible refine w_lst (w_cons ?_)
          refine told_w (c := 1) (by omega) s7 (by simp) (emeth_no (xs := [.int 0, d]) rfl (cl _) rfl rfl (lets_no od o00 _)) fun h8 s8 _ => ?_
          refine w_nil (w_le (by simp) ?_)
          refine wr_ok (x := .lst [toldD (some 1), toldD (some 1), toldD (some 1)]) (h := h8) rfl ?_
          refine wr_ok (x := .lst [toldD (some 1), toldD (some 1), toldD (some 1)]) (h := h8) (by kernel_rfl) ?_
          refine wr_ok (x := .bl false) (h := h8) (by kernel_rfl) (w_tst (w_f (s_nil ?_)))
          exact ⟨_, some d, rfl, s8⟩
        · rintro δ h5 ⟨y6, x11, rfl, s5⟩
          show ws (u_law_9 [some (D.scr (ns.map D.int)), some (.ref 4), x2, x3, some (tri rimC rimC rimC), x5, y6, some goodC.d, some (.lst nears6), x9, some rimC.d, x11, none] h5) ⟨fun _ _ => D.non = D.bl true, fun d _ => d = D.bl true, fun _ _ => False, fun _ _ => False, fun c ds _ h => noE c ds h⟩
          with_reducible refine e_u_law_9 (s_ret (w_eand ?_))
          refine wr_ok (x := .bl true) (h := h5) (by kernel_rfl) (w_tst (w_t ?_))
          with_reducible refine w_eand ?_
          refine wr_ok (x := .bl true) (h := h5) (by kernel_rfl) (w_tst (w_t ?_))
          refine wr_ok (x := .bl true) (h := h5) (by kernel_rfl) ?_
          rfl
  obtain ⟨x, h', e, rfl⟩ := wr_get r
  exact ⟨h', e⟩
end
end
end Lw
set_option autoImplicit false
theorem PySem.Challenge.cw_tilewright_k05_corners_and_triangles_mad_holds : PySem.Challenge.rw_tilewright_k05_corners_and_triangles_mad.Holds := by
  exact holds_of Lw.law_plain
