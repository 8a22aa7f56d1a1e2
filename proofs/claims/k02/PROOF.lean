import PyProof.Rows.All
import Wide.All
import OpenK.AllK
import Wide.FinOn
import HandS.ForMost
import HandS.Exc
import HandS.TryOnly
import HandS.Lambda
import KE.KDictKeyed
import KE.DataEq
import HandS.TupAny
import HandS.TupMul
import HandS.Style
import HandS.Deep
import HandS.IsInst
import HandS.Wide
import HandS.CallSlots
import HandS.WordsExc
import HandS.Property
import HandS.Defaults
import HandS.Iter
import HandS.Zip
import KE.GoesMore
import KE.GoesZip
import HandS.Small
import HandS.Head0
import HandS.Head1
import HandS.Head2
import HandS.HeadEnd
import HandS.HeadHook1
import HandS.HeadHook2
import KE.KExcSuper
import KE.KSuper
import HandS.ExcInit
import HandS.ExcField
import PyProof.ReprRoads
import PyProof.ReprLen
import PyProof.CallFns
import KE.KRevSl
import HandS.Flt
import HandS.TryMany
import HandS.TupLe
import HandS.SetBool
import HandS.Strs
import HandS.SortInts
import HandS.HeadHook3
import HandS.More
import HandS.WordsDict
import HandS.DictComp
import HandS.Text
import KE.GoesEnum
import KE.KExcIs
import PyProof.CollectStr
import HandS.Conv
import HandS.EndTab
import KE.KDictDisplayH
import KE.KDictWalk
import HandS.SetFor
import KE.GoesEnumKw
import KE.DataMinMax
import HandS.SortRule
import HandS.IterVal
import HandS.TupSets
import PySem.Challenge.RW_tilewright_k02_canvases_made
set_option Elab.async false
set_option linter.all false
set_option maxRecDepth 100000
set_option maxHeartbeats 4000000
namespace L3
open PySem PySem.Spec L2
inductive D where
  | non | bl (b : Bool) | int (i : Int) | str (x : List Nat) | tup (ds : List D) | lst (ds : List D)
  | dic (ks vs : List D) | obj (c : Nat) (ds : List D) | ref (n : Nat) | scr (ds : List D)
deriving Inhabited
structure Src where
  a : List Int
  b : List Int
  c : Int
  d : Int
inductive O where
  | lst (ds : List D) | dic (ks vs : List D) | dicL (ks vs : List D) | dit (ks : List (List Int)) (vs : List D) | dkn (ks vs : List D) | obj (c : Nat) (ds : List D) | src (s : Src) | dead | err (c : Nat) (ds : List D) | tab (q : List Nat) | lam (q : List Nat) (cap : List (Option D)) | dkL (ks vs : List D) | itr (ds : List D) (i : Nat)
abbrev Hh := List O
abbrev De := List (Option D)
inductive R (α : Type) where
  | ok (x : α) (h : Hh) | exc (c : Nat) (ds : List D) (h : Hh) | stk
inductive RS where
  | nx (δ : De) (h : Hh) | rt (d : D) (h : Hh) | bk (δ : De) (h : Hh) | ct (δ : De) (h : Hh) | exc (c : Nat) (ds : List D) (δ : De) (h : Hh) | stk
def R.bind {α β : Type} (r : R α) (k : α → Hh → R β) : R β := match r with
  | .ok x h => k x h
  | .exc c ds h => .exc c ds h
  | .stk => .stk
structure Gst where
  ι : List Addr
  own : Addr → Option Nat
  fz : Hp
  pr : Hp
  lk : Addr → Option (Nat × HO)
abbrev NRow := NestedKey × Addr × V
structure Tx where
  nd : Addr → List NRow → HO := fun _ _ => .ext fun _ => False
  cls : Nat → Option (Addr × List Str)
  exc : Nat → Option (Addr × List Str)
  src : Src → Addr → (Addr → Prop) → Hp → Prop
  srcAt : ∀ s a p H, src s a p H → p a
  srcStay : ∀ s a p H H', src s a p H → (∀ b, p b → H' b = H b) → src s a p H'
  ep : Nat → Option (Addr × Value × Option Addr) := fun _ => none
  tb : List Nat → Option Addr := fun _ => none
  cs : Nat → St := fun _ => []
mutual
inductive RD (K : PySem.W.Frag) (T : Tx) (G : Gst) : D → V → Prop where
  | non : RD K T G .non .non
  | bl {b} : RD K T G (.bl b) (.bl b)
  | int {i} : RD K T G (.int i) (.int i)
  | str {x} : RD K T G (.str x) (.str ⟨x.toArray⟩)
  | tup {ds a vs} (h : SqT K G.fz a vs) (r : RDs K T G ds vs) (n : ds.length = 2 → G.fz a = some (.tup vs)) : RD K T G (.tup ds) (.ref a)
  | lst {ds a vs} (h : G.fz a = some (.lst vs)) (r : RDs K T G ds vs) : RD K T G (.lst ds) (.ref a)
  | scr {ds a vs} (h : SqL K G.fz a vs) (r : RDs K T G ds vs) : RD K T G (.scr ds) (.ref a)
  | dic {ks vs a kvs} (h : G.fz a = some (.dK kvs)) (k : RDs K T G ks (kvs.map fun p => kV p.1)) (r : RDs K T G vs (kvs.map (·.2))) : RD K T G (.dic ks vs) (.ref a)
  | obj {c ds a C dx nm fs} (h : G.fz a = some (.ins C dx fs)) (hc : T.cls c = some (C, nm)) (hn : fs.map (·.1) = nm) (r : RDs K T G ds (fs.map (·.2))) : RD K T G (.obj c ds) (.ref a)
  | ref {n a} (h : G.ι[n]? = some a) : RD K T G (.ref n) (.ref a)
inductive RDs (K : PySem.W.Frag) (T : Tx) (G : Gst) : List D → List V → Prop where
  | nil : RDs K T G [] []
  | cons {d v ds vs} (h : RD K T G d v) (t : RDs K T G ds vs) : RDs K T G (d :: ds) (v :: vs)
end
structure Ext (G G' : Gst) : Prop where
  ι : ∃ t, G'.ι = G.ι ++ t
  fz : ∀ a o, G.fz a = some o → G'.fz a = some o
  pr : G'.pr = G.pr
  lk : G'.lk = G.lk
theorem Ext.refl (G : Gst) : Ext G G := ⟨⟨[], by simp⟩, fun _ _ h => h, rfl, rfl⟩
theorem Ext.trans {G G1 G2 : Gst} (a : Ext G G1) (b : Ext G1 G2) : Ext G G2 := by
  obtain ⟨t, e⟩ := a.ι
  obtain ⟨u, e'⟩ := b.ι
  exact ⟨⟨t ++ u, by rw [e', e, List.append_assoc]⟩, fun x o h => b.fz x o (a.fz x o h), b.pr.trans a.pr, b.lk.trans a.lk⟩
structure Ext0 (G G' : Gst) : Prop where
  ι : ∃ t, G'.ι = G.ι ++ t
  fz : ∀ a o, G.fz a = some o → G'.fz a = some o
  lk : G'.lk = G.lk
theorem Ext.e0 {G G' : Gst} (x : Ext G G') : Ext0 G G' := ⟨x.ι, x.fz, x.lk⟩
structure ExtV (G G' : Gst) : Prop where
  ι : ∃ t, G'.ι = G.ι ++ t
  fz : ∀ a o, G.fz a = some o → G'.fz a = some o
theorem Rd.sub {H H' : Hp} {a : Addr} {u : HO} (s : ∀ a o, H a = some o → H' a = some o) (h : Rd H a u) : Rd H' a u := by
  rcases h with h | ⟨o, h⟩
  · exact .inl (s _ _ h)
  · exact .inr ⟨o, s _ _ h⟩
theorem SqL.sub {K : PySem.W.Frag} {H H' : Hp} {a : Addr} {xs : List V} (s : ∀ a o, H a = some o → H' a = some o) (h : SqL K H a xs) : SqL K H' a xs := by
  rcases h with h | h
  · exact .inl (Rd.sub s h)
  · exact .inr h
theorem SqT.sub {K : PySem.W.Frag} {H H' : Hp} {a : Addr} {xs : List V} (s : ∀ a o, H a = some o → H' a = some o) (h : SqT K H a xs) : SqT K H' a xs := by
  rcases h with h | h
  · exact .inl (Rd.sub s h)
  · exact .inr h
mutual
theorem RD.monoV {K : PySem.W.Frag} {T : Tx} {G G' : Gst} (x : ExtV G G') : ∀ {d v}, RD K T G d v → RD K T G' d v
  | _, _, .non => .non
  | _, _, .bl => .bl
  | _, _, .int => .int
  | _, _, .str => .str
  | _, _, .tup h r n => .tup (SqT.sub x.fz h) (RDs.monoV x r) fun e => x.fz _ _ (n e)
  | _, _, .lst h r => .lst (x.fz _ _ h) (RDs.monoV x r)
  | _, _, .scr h r => .scr (SqL.sub x.fz h) (RDs.monoV x r)
  | _, _, .dic h k r => .dic (x.fz _ _ h) (RDs.monoV x k) (RDs.monoV x r)
  | _, _, .obj h hc hn r => .obj (x.fz _ _ h) hc hn (RDs.monoV x r)
  | _, _, .ref h => by
    obtain ⟨t, e⟩ := x.ι
    refine .ref ?_
    rw [e, List.getElem?_append_left (List.getElem?_eq_some_iff.mp h).1]
    exact h
theorem RDs.monoV {K : PySem.W.Frag} {T : Tx} {G G' : Gst} (x : ExtV G G') : ∀ {ds vs}, RDs K T G ds vs → RDs K T G' ds vs
  | _, _, .nil => .nil
  | _, _, .cons h t => .cons (RD.monoV x h) (RDs.monoV x t)
end
theorem RD.mono0 {K : PySem.W.Frag} {T : Tx} {G G' : Gst} (x : Ext0 G G') {d v} (r : RD K T G d v) : RD K T G' d v := RD.monoV ⟨x.ι, x.fz⟩ r
theorem RDs.mono0 {K : PySem.W.Frag} {T : Tx} {G G' : Gst} (x : Ext0 G G') {d v} (r : RDs K T G d v) : RDs K T G' d v := RDs.monoV ⟨x.ι, x.fz⟩ r
theorem RD.mono {K : PySem.W.Frag} {T : Tx} {G G' : Gst} (x : Ext G G') {d v} (r : RD K T G d v) : RD K T G' d v := RD.mono0 x.e0 r
theorem RDs.mono {K : PySem.W.Frag} {T : Tx} {G G' : Gst} (x : Ext G G') {d v} (r : RDs K T G d v) : RDs K T G' d v := RDs.mono0 x.e0 r
theorem RDs.length {K : PySem.W.Frag} {T : Tx} {G : Gst} : ∀ {ds vs}, RDs K T G ds vs → ds.length = vs.length
  | _, _, .nil => rfl
  | _, _, .cons _ t => by simp [RDs.length t]
theorem RDs.append {K : PySem.W.Frag} {T : Tx} {G : Gst} : ∀ {ds vs es ws}, RDs K T G ds vs → RDs K T G es ws → RDs K T G (ds ++ es) (vs ++ ws)
  | _, _, _, _, .nil, s => s
  | _, _, _, _, .cons h t, s => .cons h (RDs.append t s)
theorem RDs.get {K : PySem.W.Frag} {T : Tx} {G : Gst} : ∀ {ds vs} {i : Nat} {d}, RDs K T G ds vs → ds[i]? = some d → ∃ v, vs[i]? = some v ∧ RD K T G d v
  | _, _, _, _, .nil, e => by simp at e
  | _, _, 0, _, .cons h _, e => by simp at e; subst e; exact ⟨_, rfl, h⟩
  | _, _, i + 1, d, .cons _ t, e => by
    obtain ⟨v, h1, h2⟩ := RDs.get (i := i) (d := d) t (by simpa using e)
    exact ⟨v, by simpa using h1, h2⟩
theorem RDs.set {K : PySem.W.Frag} {T : Tx} {G : Gst} {d v} (r : RD K T G d v) : ∀ {ds vs} (i : Nat), RDs K T G ds vs → RDs K T G (ds.set i d) (vs.set i v)
  | _, _, _, .nil => .nil
  | _, _, 0, .cons _ t => .cons r t
  | _, _, i + 1, .cons h t => .cons h (RDs.set r i t)
theorem RDs.take {K : PySem.W.Frag} {T : Tx} {G : Gst} : ∀ {ds vs} (n : Nat), RDs K T G ds vs → RDs K T G (ds.take n) (vs.take n)
  | _, _, 0, _ => by simpa using RDs.nil
  | _, _, _ + 1, .nil => .nil
  | _, _, n + 1, .cons h t => .cons h (RDs.take n t)
theorem RDs.drop {K : PySem.W.Frag} {T : Tx} {G : Gst} : ∀ {ds vs} (n : Nat), RDs K T G ds vs → RDs K T G (ds.drop n) (vs.drop n)
  | _, _, 0, r => r
  | _, _, _ + 1, .nil => .nil
  | _, _, n + 1, .cons _ t => RDs.drop n t
theorem RDs.rep {K : PySem.W.Frag} {T : Tx} {G : Gst} {ds vs} (h : RDs K T G ds vs) : ∀ k : Nat, RDs K T G (List.replicate k ds).flatten (List.replicate k vs).flatten
  | 0 => .nil
  | k + 1 => by
    rw [List.replicate_succ, List.replicate_succ, List.flatten_cons, List.flatten_cons]
    exact h.append (h.rep k)
theorem RDs.reverse {K : PySem.W.Frag} {T : Tx} {G : Gst} : ∀ {ds vs}, RDs K T G ds vs → RDs K T G ds.reverse vs.reverse
  | _, _, .nil => .nil
  | _, _, .cons h t => by
    rw [List.reverse_cons, List.reverse_cons]
    exact (RDs.reverse t).append (.cons h .nil)
def RX (K : PySem.W.Frag) (T : Tx) (G : Gst) (c : Nat) (ds : List D) (cls : Value) (dd : Option Addr) : Prop :=
  ∃ C nm, T.exc c = some (C, nm) ∧ cls = .ref C ∧ ((ds = [] ∧ nm = []) ∨ ∃ dx fs, dd = some dx ∧ G.fz dx = some (.xd fs) ∧ fs.map (·.1) = nm ∧ RDs K T G ds (fs.map (·.2)))
theorem RX.monoV {K : PySem.W.Frag} {T : Tx} {G G' : Gst} (x : ExtV G G') {c : Nat} {ds : List D} {cls : Value} {dd : Option Addr} (r : RX K T G c ds cls dd) : RX K T G' c ds cls dd := by
  obtain ⟨C, nm, e1, e2, e3⟩ := r
  refine ⟨C, nm, e1, e2, ?_⟩
  rcases e3 with e3 | ⟨dx, fs, q1, q2, q3, q4⟩
  · exact .inl e3
  · exact .inr ⟨dx, fs, q1, x.fz _ _ q2, q3, RDs.monoV x q4⟩
structure RSl (K : PySem.W.Frag) (T : Tx) (G : Gst) (δ : De) (σ : St) : Prop where
  len : δ.length = σ.length
  at_ : ∀ (i : Nat) d, δ[i]? = some (some d) → ∃ v, σ[i]? = some (some v) ∧ RD K T G d v
theorem RSl.monoV {K : PySem.W.Frag} {T : Tx} {G G' : Gst} {δ : De} {σ : St} (x : ExtV G G') (r : RSl K T G δ σ) : RSl K T G' δ σ :=
  ⟨r.len, fun i d e => let ⟨v, h1, h2⟩ := r.at_ i d e; ⟨v, h1, RD.monoV x h2⟩⟩
mutual
def kN : D → Option NestedKey
  | .non => some .none
  | .int i => some (.num i)
  | .str x => some (.text ⟨x.toArray⟩)
  | .tup ds => match kNs ds with
    | some ks => some (.tup ks)
    | none => none
  | _ => none
def kNs : List D → Option (List NestedKey)
  | [] => some []
  | d :: ds => match kN d, kNs ds with
    | some k, some ks => some (k :: ks)
    | _, _ => none
end
def keyN (d : D) : Option NestedKey := match d with
  | .tup ds => match kNs ds with
    | some ks => if NestedKey.depth (.tup ks) ≤ 8 then some (.tup ks) else none
    | none => none
  | _ => none
def RT (G : Gst) (q : List Nat) (ps : Array Value) : Prop := TriplesOk ps.toList ∧ ∀ (pos : Pos) (cv : Value), codeAmong pos ps.toList = some cv → ∃ c, cv = .ref c ∧ G.fz c = some (LamX.CodeO c ⟨q.toArray⟩)
theorem RT.monoV {G G' : Gst} {q : List Nat} {ps : Array Value} (r : RT G q ps) (x : ∀ a o, G.fz a = some o → G'.fz a = some o) : RT G' q ps := ⟨r.1, fun pos cv e => let ⟨c, e1, e2⟩ := r.2 pos cv e; ⟨c, e1, x _ _ e2⟩⟩
def TitO (a l : Addr) (i : Nat) : HO := .ext fun h => h.IsTupleIter a l i
def RO (K : PySem.W.Frag) (T : Tx) (G : Gst) (H : Hp) (n : Nat) : O → Prop
  | .lst ds => ∃ a vs, G.ι[n]? = some a ∧ G.own a = some n ∧ H a = some (.lst vs) ∧ RDs K T G ds vs
  | .dic ks vs => ∃ a kvs, G.ι[n]? = some a ∧ G.own a = some n ∧ H a = some (.dK kvs) ∧ RDs K T G ks (kvs.map fun p => kV p.1) ∧ RDs K T G vs (kvs.map (·.2))
  | .dicL ks vs => ∃ a od kvs, G.ι[n]? = some a ∧ G.lk a = some (n, .frz od (.dK kvs)) ∧ RDs K T G ks (kvs.map fun p => kV p.1) ∧ RDs K T G vs (kvs.map (·.2))
  | .dit ks vs => ∃ a kvs, G.ι[n]? = some a ∧ G.own a = some n ∧ H a = some (.dT kvs) ∧ kvs.map (·.1) = ks.map (fun k => k.map Sum.inl) ∧ RDs K T G vs (kvs.map (·.2))
  | .dkn ks vs => ∃ a xs, G.ι[n]? = some a ∧ G.own a = some n ∧ H a = some (T.nd a xs) ∧ ks.map keyN = xs.map (fun x => some x.1) ∧ RDs K T G ks (xs.map fun x => V.ref x.2.1) ∧ RDs K T G vs (xs.map (·.2.2))
  | .obj c ds => ∃ a C dx nm fs, G.ι[n]? = some a ∧ G.own a = some n ∧ H a = some (.ins C dx fs) ∧ T.cls c = some (C, nm) ∧ fs.map (·.1) = nm.take ds.length ∧ RDs K T G ds (fs.map (·.2))
  | .src s => ∃ a, G.ι[n]? = some a ∧ T.src s a (fun b => G.own b = some n) H
  | .dead => True
  | .err c ds => ∃ a cls dd, G.ι[n]? = some a ∧ T.ep n = some (a, cls, dd) ∧ RX K T G c ds cls dd
  | .tab q => ∃ a ps, G.ι[n]? = some a ∧ G.own a = some n ∧ H a = some (.tbl ps) ∧ T.tb q = some a ∧ RT G q ps
  | .lam q cap => ∃ f c, G.ι[n]? = some f ∧ T.ep n = some (f, .ref c, none) ∧ G.fz c = some (LamX.CodeO c ⟨q.toArray⟩) ∧ RSl K T G cap (T.cs n)
  | .dkL ks vs => ∃ a od xs, G.ι[n]? = some a ∧ G.lk a = some (n, .frz od (T.nd a xs)) ∧ ks.map keyN = xs.map (fun x => some x.1) ∧ RDs K T G ks (xs.map fun x => V.ref x.2.1) ∧ RDs K T G vs (xs.map (·.2.2))
  | .itr ds i => ∃ a l vs, G.ι[n]? = some a ∧ G.own a = some n ∧ H a = some (TitO a l i) ∧ SqT K G.fz l vs ∧ RDs K T G ds vs
structure Rel (K : PySem.W.Frag) (T : Tx) (G : Gst) (h : Hh) (H : Hp) : Prop where
  len : G.ι.length = h.length
  sub : ∀ a o, G.fz a = some o → H a = some o
  own : ∀ a n, G.own a = some n → n < h.length ∧ G.fz a = none ∧ H a ≠ none
  pr : ∀ a o, G.pr a = some o → H a = some o ∧ G.fz a = none ∧ G.own a = none ∧ G.lk a = none
  lk : ∀ a o, G.lk a = some o → H a = some o.2 ∧ G.fz a = none ∧ G.own a = none
  obj : ∀ n o, h[n]? = some o → RO K T G H n o
theorem RSl.mono {K : PySem.W.Frag} {T : Tx} {G G' : Gst} {δ : De} {σ : St} (x : Ext G G') (r : RSl K T G δ σ) : RSl K T G' δ σ :=
  ⟨r.len, fun i d e => let ⟨v, h1, h2⟩ := r.at_ i d e; ⟨v, h1, h2.mono x⟩⟩
theorem RSl.set {K : PySem.W.Frag} {T : Tx} {G : Gst} {δ : De} {σ : St} {d : D} {v : V} (r : RSl K T G δ σ) (h : RD K T G d v) (i : Nat) : RSl K T G (δ.set i (some d)) (σ.set i (some v)) := by
  refine ⟨by simp [r.len], fun j e q => ?_⟩
  by_cases hj : j = i
  · subst hj
    by_cases hl : j < δ.length
    · rw [List.getElem?_set_self hl] at q
      cases q
      exact ⟨v, List.getElem?_set_self (by rw [← r.len]; exact hl), h⟩
    · rw [List.getElem?_eq_none (by simpa using hl)] at q
      cases q
  · rw [List.getElem?_set_ne (Ne.symm hj)] at q ⊢
    exact r.at_ j e q
theorem RSl.unset {K : PySem.W.Frag} {T : Tx} {G : Gst} {δ : De} {σ : St} (r : RSl K T G δ σ) (i : Nat) (x : Option V) : RSl K T G (δ.set i none) (σ.set i x) := by
  refine ⟨by simp [r.len], fun j e q => ?_⟩
  by_cases hj : j = i
  · subst hj
    by_cases hl : j < δ.length
    · rw [List.getElem?_set_self hl] at q
      cases q
    · rw [List.getElem?_eq_none (by simpa using hl)] at q
      cases q
  · rw [List.getElem?_set_ne (Ne.symm hj)] at q ⊢
    exact r.at_ j e q
section
variable {K : PySem.W.Frag} {T : Tx} {G : Gst} {h : Hh} {H : Hp}
theorem RO.stay {n : Nat} {o : O} {G' : Gst} {H' : Hp} (r : RO K T G H n o) (x : Ext G G') (ho : ∀ b, G.own b = some n → G'.own b = some n) (hb : ∀ b, G'.own b = some n → H' b = H b) (hc : ∀ b, G'.own b = some n → G.own b = some n) : RO K T G' H' n o := by
  have hi : ∀ a, G.ι[n]? = some a → G'.ι[n]? = some a := fun a e => by
    obtain ⟨t, q⟩ := x.ι
    rw [q, List.getElem?_append_left (List.getElem?_eq_some_iff.mp e).1]; exact e
  cases o with
  | lst ds => obtain ⟨a, vs, e1, e2, e3, e4⟩ := r; exact ⟨a, vs, hi _ e1, ho _ e2, by rw [hb _ (ho _ e2)]; exact e3, e4.mono x⟩
  | dic ks vs => obtain ⟨a, kvs, e1, e2, e3, e4, e5⟩ := r; exact ⟨a, kvs, hi _ e1, ho _ e2, by rw [hb _ (ho _ e2)]; exact e3, e4.mono x, e5.mono x⟩
  | dicL ks vs => obtain ⟨a, od, kvs, e1, e2, e4, e5⟩ := r; exact ⟨a, od, kvs, hi _ e1, by rw [x.lk]; exact e2, e4.mono x, e5.mono x⟩
  | dit ks vs => obtain ⟨a, kvs, e1, e2, e3, e4, e5⟩ := r; exact ⟨a, kvs, hi _ e1, ho _ e2, by rw [hb _ (ho _ e2)]; exact e3, e4, e5.mono x⟩
  | dkn ks vs => obtain ⟨a, xs, e1, e2, e3, e4, e5, e6⟩ := r; exact ⟨a, xs, hi _ e1, ho _ e2, by rw [hb _ (ho _ e2)]; exact e3, e4, e5.mono x, e6.mono x⟩
  | obj c ds => obtain ⟨a, C, dx, nm, fs, e1, e2, e3, e4, e5, e6⟩ := r; exact ⟨a, C, dx, nm, fs, hi _ e1, ho _ e2, by rw [hb _ (ho _ e2)]; exact e3, e4, e5, e6.mono x⟩
  | src s =>
    obtain ⟨a, e1, e2⟩ := r
    refine ⟨a, hi _ e1, ?_⟩
    have e : (fun b => G'.own b = some n) = (fun b => G.own b = some n) := funext fun b => propext ⟨hc b, ho b⟩
    rw [e]
    exact T.srcStay _ _ _ _ _ e2 fun b q => hb b (ho b q)
  | dead => trivial
  | err c ds => obtain ⟨a, cls, dd, e1, e2, e3⟩ := r; exact ⟨a, cls, dd, hi _ e1, e2, RX.monoV ⟨x.ι, x.fz⟩ e3⟩
  | tab q => obtain ⟨a, ps, e1, e2, e3, e4, e5⟩ := r; exact ⟨a, ps, hi _ e1, ho _ e2, by rw [hb _ (ho _ e2)]; exact e3, e4, e5.monoV x.fz⟩
  | lam q cap => obtain ⟨a, c, e1, e2, e3, e4⟩ := r; exact ⟨a, c, hi _ e1, e2, x.fz _ _ e3, e4.monoV ⟨x.ι, x.fz⟩⟩
  | dkL ks vs => obtain ⟨a, od, xs, e1, e2, e4, e5, e6⟩ := r; exact ⟨a, od, xs, hi _ e1, by rw [x.lk]; exact e2, e4, e5.mono x, e6.mono x⟩
  | itr ds i => obtain ⟨a, l, vs, e1, e2, e3, e4, e5⟩ := r; exact ⟨a, l, vs, hi _ e1, ho _ e2, by rw [hb _ (ho _ e2)]; exact e3, SqT.sub x.fz e4, e5.mono x⟩
def Gst.frz (G : Gst) (p : Addr) (o : HO) : Gst := { G with fz := upd G.fz p o }
theorem Rel.fzNone (r : Rel K T G h H) {p : Addr} (hp : H p = none) : G.fz p = none := by
  cases e : G.fz p with
  | none => rfl
  | some o => rw [r.sub _ _ e] at hp; cases hp
theorem Gst.frz_ext {p : Addr} {o : HO} (e : G.fz p = none) : Ext G (G.frz p o) :=
  ⟨⟨[], by simp [Gst.frz]⟩, fun a u q => by
    show upd G.fz p o a = some u
    rw [upd_ne (ne_of_none q e)]; exact q, rfl, rfl⟩
theorem Rel.newF (r : Rel K T G h H) {p : Addr} {o : HO} (hp : H p = none) : Ext G (G.frz p o) ∧ Rel K T (G.frz p o) h (upd H p o) := by
  have e := r.fzNone hp
  have x := Gst.frz_ext (o := o) e
  refine ⟨x, r.len, fun a u q => ?_, fun a n q => ?_, fun a u q => ?_, fun a u q => ?_, fun n u q => ?_⟩
  · have q' : upd G.fz p o a = some u := q
    by_cases ha : a = p
    · subst ha; rw [upd_same] at q' ⊢; exact q'
    · rw [upd_ne ha] at q' ⊢; exact r.sub _ _ q'
  · have q' : G.own a = some n := q
    obtain ⟨h1, h2, h3⟩ := r.own a n q'
    have na : a ≠ p := fun z => h3 (by rw [z]; exact hp)
    exact ⟨h1, by show upd G.fz p o a = none; rw [upd_ne na]; exact h2, by rw [upd_ne na]; exact h3⟩
  · obtain ⟨h1, h2, h3⟩ := r.pr a u q
    have na : a ≠ p := ne_of_none h1 hp
    exact ⟨by rw [upd_ne na]; exact h1, by show upd G.fz p o a = none; rw [upd_ne na]; exact h2, h3⟩
  · obtain ⟨h1, h2, h3⟩ := r.lk a u q
    have na : a ≠ p := ne_of_none h1 hp
    exact ⟨by rw [upd_ne na]; exact h1, by show upd G.fz p o a = none; rw [upd_ne na]; exact h2, h3⟩
  · refine (r.obj n u q).stay x (fun _ z => z) (fun b z => ?_) fun _ z => z
    have z' : G.own b = some n := z
    exact upd_ne fun w => (r.own b n z').2.2 (by rw [w]; exact hp)
def Gst.new (G : Gst) (p : Addr) : Gst := { ι := G.ι ++ [p], own := fun b => if b = p then some G.ι.length else G.own b, fz := G.fz, pr := G.pr, lk := G.lk }
theorem Gst.new_ext {p : Addr} : Ext G (G.new p) := ⟨⟨[p], rfl⟩, fun _ _ q => q, rfl, rfl⟩
theorem Rel.newO (r : Rel K T G h H) {p : Addr} {o : HO} {u : O} (hp : H p = none) (ho : ∀ G', Ext G G' → G'.ι[h.length]? = some p → G'.own p = some h.length → (∀ b, G'.own b = some h.length → b = p) → RO K T G' (upd H p o) h.length u) : Ext G (G.new p) ∧ Rel K T (G.new p) (h ++ [u]) (upd H p o) := by
  have nown : ∀ b n, G.own b = some n → b ≠ p := fun b n q z => (r.own b n q).2.2 (by rw [z]; exact hp)
  refine ⟨Gst.new_ext, by simp [Gst.new, r.len], fun a v q => ?_, fun a n q => ?_, fun a v q => ?_, fun a v q => ?_, fun n v q => ?_⟩
  · have := r.sub a v q
    rw [upd_ne (ne_of_none this hp)]; exact this
  · have q' : (if a = p then some G.ι.length else G.own a) = some n := q
    by_cases ha : a = p
    · rw [if_pos ha] at q'
      cases q'
      refine ⟨by simp [r.len], ?_, ?_⟩
      · rw [ha]; exact r.fzNone hp
      · rw [ha, upd_same]; simp
    · rw [if_neg ha] at q'
      obtain ⟨h1, h2, h3⟩ := r.own a n q'
      exact ⟨by simp; omega, h2, by rw [upd_ne ha]; exact h3⟩
  · obtain ⟨h1, h2, h3, h4⟩ := r.pr a v q
    have na : a ≠ p := ne_of_none h1 hp
    exact ⟨by rw [upd_ne na]; exact h1, h2, by show (if a = p then some G.ι.length else G.own a) = none; rw [if_neg na]; exact h3, h4⟩
  · obtain ⟨h1, h2, h3⟩ := r.lk a v q
    have na : a ≠ p := ne_of_none h1 hp
    exact ⟨by rw [upd_ne na]; exact h1, h2, by show (if a = p then some G.ι.length else G.own a) = none; rw [if_neg na]; exact h3⟩
  · by_cases hn : n < h.length
    · rw [List.getElem?_append_left hn] at q
      have old : ∀ b, (if b = p then some G.ι.length else G.own b) = some n → G.own b = some n := fun b z => by
        by_cases hb : b = p
        · rw [if_pos hb] at z; cases z; rw [r.len] at hn; omega
        · rw [if_neg hb] at z; exact z
      refine (r.obj n v q).stay Gst.new_ext (fun b z => ?_) (fun b z => ?_) old
      · show (if b = p then some G.ι.length else G.own b) = some n
        rw [if_neg (nown b n z)]; exact z
      · exact upd_ne (nown b n (old b z))
    · have hn' : n = h.length := by
        have := (List.getElem?_eq_some_iff.mp q).1
        simp at this; omega
      subst hn'
      simp at q
      subst q
      refine ho _ Gst.new_ext ?_ ?_ ?_
      · show (G.ι ++ [p])[h.length]? = some p
        rw [← r.len]; simp
      · show (if p = p then some G.ι.length else G.own p) = some h.length
        rw [if_pos rfl, r.len]
      · intro b z
        have z' : (if b = p then some G.ι.length else G.own b) = some h.length := z
        by_cases hb : b = p
        · exact hb
        · rw [if_neg hb] at z'
          have := (r.own b _ z').1
          omega
theorem Rel.put (r : Rel K T G h H) {n : Nat} {a : Addr} {o : HO} {u : O} (hn : n < h.length) (ha : G.own a = some n) (ho : RO K T G (upd H a o) n u) : Rel K T G (h.set n u) (upd H a o) := by
  obtain ⟨_, f0, _⟩ := r.own a n ha
  refine ⟨by simpa using r.len, fun b v q => ?_, fun b m q => ?_, fun b v q => ?_, fun b v q => ?_, fun m v q => ?_⟩
  · have nb : b ≠ a := fun z => by rw [z, f0] at q; cases q
    rw [upd_ne nb]; exact r.sub b v q
  · obtain ⟨h1, h2, h3⟩ := r.own b m q
    refine ⟨by simpa using h1, h2, ?_⟩
    by_cases hb : b = a
    · rw [hb, upd_same]; simp
    · rw [upd_ne hb]; exact h3
  · obtain ⟨h1, h2, h3, h4⟩ := r.pr b v q
    have nb : b ≠ a := fun z => by rw [z, ha] at h3; cases h3
    exact ⟨by rw [upd_ne nb]; exact h1, h2, h3, h4⟩
  · obtain ⟨h1, h2, h3⟩ := r.lk b v q
    have nb : b ≠ a := fun z => by rw [z, ha] at h3; cases h3
    exact ⟨by rw [upd_ne nb]; exact h1, h2, h3⟩
  · by_cases hm : m = n
    · subst hm
      rw [List.getElem?_set_self hn] at q
      cases q
      exact ho
    · rw [List.getElem?_set_ne (Ne.symm hm)] at q
      refine (r.obj m v q).stay (Ext.refl G) (fun _ z => z) (fun b z => ?_) fun _ z => z
      exact upd_ne fun w => by rw [w, ha] at z; cases z; exact hm rfl
end
end L3
set_option autoImplicit false
set_option maxHeartbeats 4000000
namespace L3
open PySem PySem.Spec L2
abbrev FnE := De → Hh → R D
abbrev FnA := De → Hh → R (List D)
abbrev FnT := De → Hh → R Bool
abbrev FnS := De → Hh → RS
def okR {α β : Type} (K : PySem.W.Frag) (T : Tx) (W : WX) (G : Gst) (σ : L2.St) (rel : Gst → α → β → Prop) (r : R α) (Q : β → Hp → Prop) : Prop := match r with
  | .ok x h => ∀ G' H' v, Ext G G' → Rel K T G' h H' → rel G' x v → Q v H'
  | .exc c ds h => ∀ G' H' cls dd, Ext G G' → Rel K T G' h H' → RX K T G' c ds cls dd → W cls dd σ H'
  | .stk => False
theorem okR.ext {α β : Type} {K : PySem.W.Frag} {T : Tx} {W : WX} {G G' : Gst} {σ : L2.St} {rel : Gst → α → β → Prop} {r : R α} {Q : β → Hp → Prop} (x : Ext G G') (h : okR K T W G σ rel r Q) : okR K T W G' σ rel r Q := by
  cases r with
  | ok y hh => exact fun G2 H2 v e => h G2 H2 v (x.trans e)
  | exc c ds hh => exact fun G2 H2 cls dd e => h G2 H2 cls dd (x.trans e)
  | stk => exact h
theorem okR.mono {α β : Type} {K : PySem.W.Frag} {T : Tx} {W : WX} {G : Gst} {σ : L2.St} {rel : Gst → α → β → Prop} {r : R α} {Q Q' : β → Hp → Prop} (h : okR K T W G σ rel r Q) (q : ∀ v H, Q v H → Q' v H) : okR K T W G σ rel r Q' := by
  cases r with
  | ok y hh => exact fun G2 H2 v e a b => q _ _ (h G2 H2 v e a b)
  | exc c ds hh => exact h
  | stk => exact h
theorem okR.bind {α β γ ε : Type} {K : PySem.W.Frag} {T : Tx} {W : WX} {G : Gst} {σ : L2.St} {rel : Gst → α → β → Prop} {rel' : Gst → γ → ε → Prop} {r : R α} {k : α → Hh → R γ} {Q : ε → Hp → Prop} (h : okR K T W G σ rel' (r.bind k) Q) :
    okR K T W G σ rel r fun v H1 => ∃ G1 x h1, Ext G G1 ∧ Rel K T G1 h1 H1 ∧ rel G1 x v ∧ okR K T W G1 σ rel' (k x h1) Q := by
  cases r with
  | ok y hh => exact fun G2 H2 v e a b => ⟨G2, y, hh, e, a, b, okR.ext e h⟩
  | exc c ds hh => exact h
  | stk => exact h
theorem okR.at {α β : Type} {K : PySem.W.Frag} {T : Tx} {W : WX} {G : Gst} {σ : L2.St} {rel : Gst → α → β → Prop} {x : α} {v : β} {h : Hh} {H : Hp} {Q : β → Hp → Prop} (q : okR K T W G σ rel (.ok x h) Q) (r : Rel K T G h H) (d : rel G x v) : Q v H := q G H v (Ext.refl G) r d
abbrev relB : Gst → Bool → Bool → Prop := fun _ a b => a = b
def tF {α β : Type} (K : PySem.W.Frag) (T : Tx) (W : WX) (rel : Gst → α → β → Prop) (f : De → Hh → R α) : L2.St → Hp → (β → Hp → Prop) → Prop := fun σ H Q =>
  ∃ G h δ, Rel K T G h H ∧ RSl K T G δ σ ∧ okR K T W G σ rel (f δ h) Q
abbrev tE (K : PySem.W.Frag) (T : Tx) (W : WX) (f : FnE) : TE := tF K T W (RD K T) f
abbrev tA (K : PySem.W.Frag) (T : Tx) (W : WX) (f : FnA) : TA := tF K T W (RDs K T) f
abbrev tT (K : PySem.W.Frag) (T : Tx) (W : WX) (f : FnT) : TT := tF K T W relB f
theorem tF.bind {α β γ ε : Type} {K : PySem.W.Frag} {T : Tx} {W : WX} {rel : Gst → α → β → Prop} {rel' : Gst → γ → ε → Prop} {f : De → Hh → R α} {k : De → α → Hh → R γ} {σ : L2.St} {H : Hp} {Q : ε → Hp → Prop} {Q' : β → Hp → Prop}
    (h : tF K T W rel' (fun δ h => (f δ h).bind (k δ)) σ H Q)
    (q : ∀ G δ x v h1 H1, Rel K T G h1 H1 → RSl K T G δ σ → rel G x v → okR K T W G σ rel' (k δ x h1) Q → Q' v H1) : tF K T W rel f σ H Q' := by
  obtain ⟨G, h0, δ, r, s, o⟩ := h
  refine ⟨G, h0, δ, r, s, (okR.bind (rel := rel) o).mono ?_⟩
  rintro v H1 ⟨G1, x, h1, e, r1, d, o1⟩
  exact q G1 δ x v h1 H1 r1 (s.mono e) d o1
theorem tF.of {α β : Type} {K : PySem.W.Frag} {T : Tx} {W : WX} {rel : Gst → α → β → Prop} {f : De → Hh → R α} {σ : L2.St} {H : Hp} {Q : β → Hp → Prop} {G : Gst} {h : Hh} {δ : De} (r : Rel K T G h H) (s : RSl K T G δ σ) (o : okR K T W G σ rel (f δ h) Q) : tF K T W rel f σ H Q := ⟨G, h, δ, r, s, o⟩
def okS (K : PySem.W.Frag) (T : Tx) (W : WX) (G : Gst) (r : RS) (D : Ends) : Prop := match r with
  | .nx δ h => ∀ G' H' σ', Ext G G' → Rel K T G' h H' → RSl K T G' δ σ' → D.nx σ' H'
  | .rt d h => ∀ G' H' v, Ext G G' → Rel K T G' h H' → RD K T G' d v → D.rt v H'
  | .bk δ h => ∀ G' H' σ', Ext G G' → Rel K T G' h H' → RSl K T G' δ σ' → D.bk σ' H'
  | .ct δ h => ∀ G' H' σ', Ext G G' → Rel K T G' h H' → RSl K T G' δ σ' → D.ct σ' H'
  | .exc c ds δ h => ∀ G' H' σ' cls dd, Ext G G' → Rel K T G' h H' → RSl K T G' δ σ' → RX K T G' c ds cls dd → W cls dd σ' H'
  | .stk => False
theorem okS.ext {K : PySem.W.Frag} {T : Tx} {W : WX} {G G' : Gst} {r : RS} {D : Ends} (x : Ext G G') (h : okS K T W G r D) : okS K T W G' r D := by
  cases r with
  | nx δ hh => exact fun G2 H2 v e => h G2 H2 v (x.trans e)
  | rt δ hh => exact fun G2 H2 v e => h G2 H2 v (x.trans e)
  | bk δ hh => exact fun G2 H2 v e => h G2 H2 v (x.trans e)
  | ct δ hh => exact fun G2 H2 v e => h G2 H2 v (x.trans e)
  | exc c ds δ hh => exact fun G2 H2 v c d e => h G2 H2 v c d (x.trans e)
  | stk => exact h
def tS (K : PySem.W.Frag) (T : Tx) (W : WX) (u : FnS) : TS := fun D σ H => ∃ G h δ, Rel K T G h H ∧ RSl K T G δ σ ∧ okS K T W G (u δ h) D
def R.toS {α : Type} (r : R α) (δ : De) (k : α → Hh → RS) : RS := match r with
  | .ok x h => k x h
  | .exc c ds h => .exc c ds δ h
  | .stk => .stk
theorem okS.toS {α β : Type} {K : PySem.W.Frag} {T : Tx} {W : WX} {G : Gst} {δ : De} {σ : L2.St} {rel : Gst → α → β → Prop} {r : R α} {k : α → Hh → RS} {D : Ends} (s : RSl K T G δ σ) (h : okS K T W G (r.toS δ k) D) :
    okR K T W G σ rel r fun v H1 => ∃ G1 x h1, Ext G G1 ∧ Rel K T G1 h1 H1 ∧ rel G1 x v ∧ okS K T W G1 (k x h1) D := by
  cases r with
  | ok y hh => exact fun G2 H2 v e a b => ⟨G2, y, hh, e, a, b, okS.ext e h⟩
  | exc c ds hh => exact fun G2 H2 cls dd e a b => h G2 H2 σ cls dd e a (s.mono e) b
  | stk => exact h
theorem tS.bind {α β : Type} {K : PySem.W.Frag} {T : Tx} {W : WX} {rel : Gst → α → β → Prop} {f : De → Hh → R α} {k : De → α → Hh → RS} {σ : L2.St} {H : Hp} {D : Ends} {Q' : β → Hp → Prop}
    (h : tS K T W (fun δ h => (f δ h).toS δ (k δ)) D σ H)
    (q : ∀ G δ x v h1 H1, Rel K T G h1 H1 → RSl K T G δ σ → rel G x v → okS K T W G (k δ x h1) D → Q' v H1) : tF K T W rel f σ H Q' := by
  obtain ⟨G, h0, δ, r, s, o⟩ := h
  refine ⟨G, h0, δ, r, s, (okS.toS (rel := rel) s o).mono ?_⟩
  rintro v H1 ⟨G1, x, h1, e, r1, d, o1⟩
  exact q G1 δ x v h1 H1 r1 (s.mono e) d o1
abbrev FE (X : Cx) (T : Tx) (W : WX) (e : Expr) (f : FnE) : Prop := PE X e (tE X.K T W f)
abbrev FA (X : Cx) (T : Tx) (W : WX) (es : List Expr) (f : FnA) : Prop := PA X es (tA X.K T W f)
abbrev FT (X : Cx) (T : Tx) (W : WX) (e : Expr) (f : FnT) : Prop := PT X e (tT X.K T W f)
abbrev FS (X : Cx) (T : Tx) (W : WX) (st : Stmt) (u : FnS) : Prop := PS X st (tS X.K T W u)
abbrev FSs (X : Cx) (T : Tx) (W : WX) (st : List Stmt) (u : FnS) : Prop := PSs X st (tS X.K T W u)
theorem PE.imp {X : Cx} {e : Expr} {t t' : TE} (h : PE X e t) (q : ∀ σ H Q, t' σ H Q → t σ H Q) : PE X e t' := ⟨fun pins s σ H Q I z => h.run pins s σ H Q I (q _ _ _ z)⟩
theorem PT.imp {X : Cx} {e : Expr} {t t' : TT} (h : PT X e t) (q : ∀ σ H Q, t' σ H Q → t σ H Q) : PT X e t' := ⟨fun pins s σ H Q I z => h.run pins s σ H Q I (q _ _ _ z)⟩
theorem PA.imp {X : Cx} {e : List Expr} {t t' : TA} (h : PA X e t) (q : ∀ σ H Q, t' σ H Q → t σ H Q) : PA X e t' := ⟨fun pos pins s σ H Q I z => h.run pos pins s σ H Q I (q _ _ _ z)⟩
theorem PS.imp {X : Cx} {e : Stmt} {t t' : TS} (h : PS X e t) (q : ∀ D σ H, t' D σ H → t D σ H) : PS X e t' := ⟨fun pins s σ H D I z => h.run pins s σ H D I (q _ _ _ z)⟩
theorem PSs.imp {X : Cx} {e : List Stmt} {t t' : TS} (h : PSs X e t) (q : ∀ D σ H, t' D σ H → t D σ H) : PSs X e t' := ⟨fun pins s σ H D I z => h.run pins s σ H D I (q _ _ _ z)⟩
section
variable {X : Cx} {T : Tx} {W : WX} {pos : Pos}
def eVar (i : Nat) : FnE := fun δ h => match δ[i]? with
  | some (some d) => .ok d h
  | _ => .stk
def eC (d : D) : FnE := fun _ h => .ok d h
theorem fe_var (i : Nat) {x : Str} (h : PE X (.Name x pos) (tVar i)) : FE X T W (.Name x pos) (eVar i) := by
  refine PE.imp h fun σ H Q => ?_
  rintro ⟨G, h0, δ, r, s, o⟩
  unfold eVar at o
  cases e : δ[i]? with
  | none => rw [e] at o; exact o.elim
  | some z =>
    cases z with
    | none => rw [e] at o; exact o.elim
    | some d =>
      rw [e] at o
      obtain ⟨v, h1, h2⟩ := s.at_ i d e
      exact ⟨v, h1, o.at r h2⟩
def Cst (K : PySem.W.Frag) (T : Tx) (d : D) (v : V) : Prop := ∀ G, RD K T G d v
theorem fe_const {e : Expr} {d : D} {v : V} (h : PE X e (tC v)) (c : Cst X.K T d v) : FE X T W e (eC d) := by
  refine PE.imp h fun σ H Q => ?_
  rintro ⟨G, h0, δ, r, s, o⟩
  exact okR.at o r (c G)
theorem fe_int {i j} : FE X T W (.Constant (.int i) j pos) (eC (.int i)) := fe_const pe_int fun _ => .int
theorem fe_bl {b j} : FE X T W (.Constant (.bool b) j pos) (eC (.bl b)) := fe_const pe_bl fun _ => .bl
theorem fe_non {j} : FE X T W (.Constant .none j pos) (eC .non) := fe_const pe_non fun _ => .non
theorem fe_str {x : Str} {y : List Nat} {j} (e : x = ⟨y.toArray⟩) : FE X T W (.Constant (.str x) j pos) (eC (.str y)) := by
  subst e
  exact fe_const pe_str fun _ => .str
theorem fe_glob {x : Str} {d : D} {v : V} {u : Value} (hg : Gl X x) (hm : X.mg x = some u) (r : RelV v u) (c : Cst X.K T d v) (hd : (x == ("__debug__" : Str)) = false := by decide) : FE X T W (.Name x pos) (eC d) := fe_const (pe_glob hg hm r hd) c
abbrev F2 := D → D → Hh → R D
def eBin (g : F2) (fa fb : FnE) : FnE := fun δ h => (fa δ h).bind fun x h1 => (fb δ h1).bind fun y h2 => g x y h2
def OpS (X : Cx) (T : Tx) (rd : R2) (g : F2) : Prop := ∀ (W : WX) G h H σ x y v w Q, Rel X.K T G h H → RD X.K T G x v → RD X.K T G y w → okR X.K T W G σ (RD X.K T) (g x y h) Q → rd v w H Q
theorem tE_bin {rd : R2} {g : F2} (hs : OpS X T rd g) {fa fb : FnE} {σ : L2.St} {H : Hp} {Q : VK} (h : tE X.K T W (eBin g fa fb) σ H Q) : tOp rd (tE X.K T W fa) (tE X.K T W fb) σ H Q := by
  obtain ⟨G, h0, δ, r, s, o⟩ := h
  refine ⟨G, h0, δ, r, s, (okR.bind (rel := RD X.K T) o).mono ?_⟩
  rintro v H1 ⟨G1, x, h1, e1, r1, d1, o1⟩
  refine ⟨G1, h1, δ, r1, s.mono e1, (okR.bind (rel := RD X.K T) o1).mono ?_⟩
  rintro w H2 ⟨G2, y, h2, e2, r2, d2, o2⟩
  exact hs W G2 h2 H2 σ x y v w Q r2 (d1.mono e2) d2 o2
theorem fe_op {op : Operator} {rd : R2} {g : F2} {a b : Expr} {fa fb : FnE} (ho : OpR X (binaryOp op) rd) (hs : OpS X T rd g) (ha : FE X T W a fa) (hb : FE X T W b fb) : FE X T W (.BinOp a op b pos) (eBin g fa fb) :=
  PE.imp (pe_op ho ha hb) fun _ _ _ h => tE_bin hs h
theorem fe_cmp {op : CmpOp} {rd : R2} {g : F2} {a b : Expr} {fa fb : FnE} (ho : OpR X (compareOp op) rd) (hs : OpS X T rd g) (hm : behindInMarks op b = false) (ha : FE X T W a fa) (hb : FE X T W b fb) : FE X T W (.Compare a [op] [b] pos) (eBin g fa fb) :=
  PE.imp (pe_cmpR ho ha hb hm) fun _ _ _ h => tE_bin hs h
def eTest (f : FnE) : FnT := fun δ h => (f δ h).bind fun x h1 => match x with
  | .bl c => .ok c h1
  | _ => .stk
theorem tE_test {f : FnE} {σ : L2.St} {H : Hp} {Q : Bool → Hp → Prop} (h : tT X.K T W (eTest f) σ H Q) : tE X.K T W f σ H fun x H1 => ∃ c, x = .bl c ∧ Q c H1 := by
  refine tF.bind (k := fun _ x h1 => match x with | .bl c => .ok c h1 | _ => .stk) h fun G δ x v h1 H1 r1 s1 d1 o1 => ?_
  cases d1 with
  | bl => exact ⟨_, rfl, okR.at o1 r1 rfl⟩
  | _ => exact o1.elim
theorem ft_val {e : Expr} {f : FnE} (h : FE X T W e f) (he : ∀ whole, isTrue e X.env whole = (do let v ← whole; standAt e.pos; holding [v] (truthy v)) := by intro _; rfl) : FT X T W e (eTest f) :=
  PT.imp (pt_val h he) fun _ _ _ h => tE_test h
theorem tF.app {α β : Type} {K : PySem.W.Frag} {rel : Gst → α → β → Prop} {f : De → Hh → R α} {σ : L2.St} {H : Hp} {Q Q' : β → Hp → Prop} (h : tF K T W rel f σ H Q) (q : ∀ v H, Q v H → Q' v H) : tF K T W rel f σ H Q' := by
  obtain ⟨G, h0, δ, r, s, o⟩ := h
  exact ⟨G, h0, δ, r, s, o.mono q⟩
theorem ft_cmp {op : CmpOp} {rd : R2} {g : F2} {a b : Expr} {fa fb : FnE} (ho : OpR X (compareOp op) rd) (hs : OpS X T rd g) (hm : behindInMarks op b = false) (ha : FE X T W a fa) (hb : FE X T W b fb) : FT X T W (.Compare a [op] [b] pos) (eTest (eBin g fa fb)) :=
  PT.imp (pt_cmpR ho ha hb hm) fun _ _ _ h => tE_bin hs (tE_test h)
def eChain (g g' : F2) (fa fb fc : FnE) : FnE := fun δ h => (fa δ h).bind fun x h1 => (fb δ h1).bind fun y h2 => (g x y h2).bind fun z h3 => match z with
  | .bl c => if c = true then (fc δ h3).bind fun w h4 => g' y w h4 else .ok (.bl false) h3
  | _ => .stk
theorem tE_chain {rd rd' : R2} {g g' : F2} (hs : OpS X T rd g) (hs' : OpS X T rd' g') {fa fb fc : FnE} {σ : L2.St} {H : Hp} {Q : VK} (h : tE X.K T W (eChain g g' fa fb fc) σ H Q) : tChain rd rd' (tE X.K T W fa) (tE X.K T W fb) (tE X.K T W fc) σ H Q := by
  obtain ⟨G, h0, δ, r, s, o⟩ := h
  refine ⟨G, h0, δ, r, s, (okR.bind (rel := RD X.K T) o).mono ?_⟩
  rintro v H1 ⟨G1, x, h1, e1, r1, d1, o1⟩
  refine ⟨G1, h1, δ, r1, s.mono e1, (okR.bind (rel := RD X.K T) o1).mono ?_⟩
  rintro w H2 ⟨G2, y, h2, e2, r2, d2, o2⟩
  refine hs W G2 h2 H2 σ x y v w _ r2 (d1.mono e2) d2 ((okR.bind (rel := RD X.K T) o2).mono ?_)
  rintro z H3 ⟨G3, z', h3, e3, r3, d3, o3⟩
  cases d3 with
  | @bl c =>
    refine ⟨_, rfl, ?_⟩
    cases c with
    | false => exact okR.at o3 r3 .bl
    | true =>
      refine ⟨G3, h3, δ, r3, s.mono (e1.trans (e2.trans e3)), (okR.bind (rel := RD X.K T) o3).mono ?_⟩
      rintro u H4 ⟨G4, y4, h4, e4, r4, d4, o4⟩
      exact hs' W G4 h4 H4 σ y y4 w u Q r4 (d2.mono (e3.trans e4)) d4 o4
  | _ => exact o3.elim
theorem fe_chain {op op' : CmpOp} {rd rd' : R2} {g g' : F2} {a b c : Expr} {fa fb fc : FnE} (ho : OpR X (compareOp op) rd) (ho' : OpR X (compareOp op') rd') (hs : OpS X T rd g) (hs' : OpS X T rd' g') (hm : lastMarks [op, op'] [b, c] = false) (ha : FE X T W a fa) (hb : FE X T W b fb) (hc : FE X T W c fc) :
    FE X T W (.Compare a [op, op'] [b, c] pos) (eChain g g' fa fb fc) := PE.imp (pe_chain ho ho' ha hb hc hm) fun _ _ _ h => tE_chain hs hs' h
def eUn (g : D → Hh → R D) (fa : FnE) : FnE := fun δ h => (fa δ h).bind g
def UnS (X : Cx) (T : Tx) (rd : V → Hp → VK → Prop) (g : D → Hh → R D) : Prop := ∀ (W : WX) G h H σ x v Q, Rel X.K T G h H → RD X.K T G x v → okR X.K T W G σ (RD X.K T) (g x h) Q → rd v H Q
theorem fe_un {op : UnaryOp} {rd : V → Hp → VK → Prop} {g : D → Hh → R D} {a : Expr} {fa : FnE} (ho : UnR X (unaryOp op) rd) (hs : UnS X T rd g) (ha : FE X T W a fa) : FE X T W (.UnaryOp op a pos) (eUn g fa) := by
  refine PE.imp (pe_un ho ha) fun σ H Q h => ?_
  exact tF.bind (k := fun _ => g) h fun G δ x v h1 H1 r1 s1 d1 o1 => hs W G h1 H1 σ x v Q r1 d1 o1
def tAnd3 (a b : FnT) : FnT := fun δ h => (a δ h).bind fun c h1 => if c = true then b δ h1 else .ok false h1
def tOr3 (a b : FnT) : FnT := fun δ h => (a δ h).bind fun c h1 => if c = true then .ok true h1 else b δ h1
def tNot3 (a : FnT) : FnT := fun δ h => (a δ h).bind fun c h1 => .ok (!c) h1
abbrev FW (X : Cx) (T : Tx) (W : WX) (e : Expr) (f : FnT) : Prop := PW X e (tT X.K T W f)
theorem PW.imp {e : Expr} {t t' : TT} (h : PW X e t) (q : ∀ σ H Q, t' σ H Q → t σ H Q) : PW X e t' := ⟨fun wh pins s σ H Q I z => h.run wh pins s σ H Q I (q _ _ _ z)⟩
theorem fw_and1 {a : Expr} {fa : FnT} (ha : FT X T W a fa) : FW X T W (.BoolOp .And [a] pos) fa := pw_and1 ha
theorem fw_or1 {a : Expr} {fa : FnT} (ha : FT X T W a fa) : FW X T W (.BoolOp .Or [a] pos) fa := pw_or1 ha
theorem fw_and {a b : Expr} {rest : List Expr} {fa fb : FnT} (ha : FT X T W a fa) (hb : FW X T W (.BoolOp .And (b :: rest) pos) fb) : FW X T W (.BoolOp .And (a :: b :: rest) pos) (tAnd3 fa fb) := by
  refine PW.imp (pw_and ha hb) fun σ H Q h => ?_
  refine tF.bind (k := fun δ c h1 => if c = true then fb δ h1 else .ok false h1) h fun G δ x v h1 H1 r1 s1 d1 o1 => ?_
  have d : x = v := d1
  subst d
  cases x with
  | true => exact tF.of r1 s1 o1
  | false => exact okR.at o1 r1 rfl
theorem fw_or {a b : Expr} {rest : List Expr} {fa fb : FnT} (ha : FT X T W a fa) (hb : FW X T W (.BoolOp .Or (b :: rest) pos) fb) : FW X T W (.BoolOp .Or (a :: b :: rest) pos) (tOr3 fa fb) := by
  refine PW.imp (pw_or ha hb) fun σ H Q h => ?_
  refine tF.bind (k := fun δ c h1 => if c = true then .ok true h1 else fb δ h1) h fun G δ x v h1 H1 r1 s1 d1 o1 => ?_
  have d : x = v := d1
  subst d
  cases x with
  | true => exact okR.at o1 r1 rfl
  | false => exact tF.of r1 s1 o1
theorem ft_bool {e : Expr} {f : FnT} (h : FW X T W e f) : FT X T W e f := PW.pt h
theorem ft_not {a : Expr} {fa : FnT} (ha : FT X T W a fa) : FT X T W (.UnaryOp .Not a pos) (tNot3 fa) := by
  refine PT.imp (pt_not ha) fun σ H Q h => ?_
  refine tF.bind (k := fun δ c h1 => .ok (!c) h1) h fun G δ x v h1 H1 r1 s1 d1 o1 => ?_
  have d : x = v := d1
  subst d
  exact okR.at o1 r1 rfl
def eAnd (a b : FnE) : FnE := fun δ h => (a δ h).bind fun x h1 => match x with
  | .bl c => if c = true then b δ h1 else .ok (.bl false) h1
  | _ => .stk
def eOr (a b : FnE) : FnE := fun δ h => (a δ h).bind fun x h1 => match x with
  | .bl c => if c = true then .ok (.bl true) h1 else b δ h1
  | _ => .stk
def eNot (a : FnE) : FnE := fun δ h => (a δ h).bind fun x h1 => match x with
  | .bl c => .ok (.bl (!c)) h1
  | _ => .stk
theorem fe_one {op} {a : Expr} {fa : FnE} (ha : FE X T W a fa) : FE X T W (.BoolOp op [a] pos) fa := pe_one ha
theorem fe_and {a b : Expr} {rest : List Expr} {fa fb : FnE} (ha : FE X T W a fa) (hb : FE X T W (.BoolOp .And (b :: rest) pos) fb) : FE X T W (.BoolOp .And (a :: b :: rest) pos) (eAnd fa fb) := by
  refine PE.imp (pe_and ha hb) fun σ H Q h => ?_
  refine tF.bind (k := fun δ x h1 => match x with | .bl c => if c = true then fb δ h1 else .ok (.bl false) h1 | _ => .stk) h fun G δ x v h1 H1 r1 s1 d1 o1 => ?_
  cases d1 with
  | @bl c =>
    refine ⟨_, rfl, ?_⟩
    cases c with
    | true => exact tF.of r1 s1 o1
    | false => exact okR.at o1 r1 .bl
  | _ => exact o1.elim
theorem fe_not {a : Expr} {fa : FnE} (ha : FE X T W a fa) : FE X T W (.UnaryOp .Not a pos) (eNot fa) := by
  refine PE.imp (pe_not ha) fun σ H Q h => ?_
  refine tF.bind (k := fun δ x h1 => match x with | .bl c => .ok (D.bl (!c)) h1 | _ => .stk) h fun G δ x v h1 H1 r1 s1 d1 o1 => ?_
  cases d1 with
  | bl => exact ⟨_, rfl, okR.at o1 r1 .bl⟩
  | _ => exact o1.elim
def eIf (t : FnT) (a b : FnE) : FnE := fun δ h => (t δ h).bind fun c h1 => if c = true then a δ h1 else b δ h1
theorem fe_if {c a b : Expr} {fc : FnT} {fa fb : FnE} (hc : FT X T W c fc) (ha : FE X T W a fa) (hb : FE X T W b fb) : FE X T W (.IfExp c a b pos) (eIf fc fa fb) := by
  refine PE.imp (pe_ifExp hc ha hb) fun σ H Q h => ?_
  refine tF.bind (k := fun δ c h1 => if c = true then fa δ h1 else fb δ h1) h fun G δ x v h1 H1 r1 s1 d1 o1 => ?_
  have d : x = v := d1
  subst d
  cases x with
  | true => exact tF.of r1 s1 o1
  | false => exact tF.of r1 s1 o1
def aNil : FnA := fun _ h => .ok [] h
def aCons (f : FnE) (r : FnA) : FnA := fun δ h => (f δ h).bind fun x h1 => (r δ h1).bind fun xs h2 => .ok (x :: xs) h2
theorem fa_nil : FA X T W [] aNil := by
  refine PA.imp pa_nil fun σ H Q => ?_
  rintro ⟨G, h0, δ, r, s, o⟩
  exact okR.at o r .nil
theorem fa_cons {e : Expr} {es : List Expr} {f : FnE} {fr : FnA} (ha : FE X T W e f) (hr : FA X T W es fr) (hs : starEach (e :: es) X.env = (false, eval e X.env) :: starEach es X.env := by rfl) : FA X T W (e :: es) (aCons f fr) := by
  refine PA.imp (pa_cons ha hr hs) fun σ H Q => ?_
  rintro ⟨G, h0, δ, r, s, o⟩
  refine ⟨G, h0, δ, r, s, (okR.bind (rel := RD X.K T) o).mono ?_⟩
  rintro v H1 ⟨G1, x, h1, e1, r1, d1, o1⟩
  refine ⟨G1, h1, δ, r1, s.mono e1, (okR.bind (rel := RDs X.K T) o1).mono ?_⟩
  rintro w H2 ⟨G2, y, h2, e2, r2, d2, o2⟩
  exact okR.at o2 r2 (.cons (d1.mono e2) d2)
def lineOk (n : Nat) : Bool := decide (n ≤ 16777216)
theorem lineOk_le {n : Nat} (h : lineOk n = true) : n ≤ sizeLine := by rw [sizeLine_eq]; exact of_decide_eq_true h
def eTup (f : FnA) : FnE := fun δ h => (f δ h).bind fun xs h1 => if lineOk xs.length = true then .ok (.tup xs) h1 else .stk
def eLst (f : FnA) : FnE := fun δ h => (f δ h).bind fun xs h1 => if lineOk xs.length = true then .ok (.lst xs) h1 else .stk
def eLstM (f : FnA) : FnE := fun δ h => (f δ h).bind fun xs h1 => if lineOk xs.length = true then .ok (.ref h1.length) (h1 ++ [.lst xs]) else .stk
theorem newTup {K : PySem.W.Frag} {W : WX} {G : Gst} {h : Hh} {H : Hp} {σ : L2.St} {ds : List D} {vs : List V} {Q : VK} {p : Addr} (r : Rel K T G h H) (d : RDs K T G ds vs) (hp : H p = none) (o : okR K T W G σ (RD K T) (.ok (.tup ds) h) Q) : Q (.ref p) (upd H p (.tup vs)) := by
  obtain ⟨x, r'⟩ := r.newF (o := .tup vs) hp
  exact o _ _ _ x r' (.tup (.inl (.inl upd_same)) (d.mono x) fun _ => upd_same)
theorem newLst {K : PySem.W.Frag} {W : WX} {G : Gst} {h : Hh} {H : Hp} {σ : L2.St} {ds : List D} {vs : List V} {Q : VK} {p : Addr} (r : Rel K T G h H) (d : RDs K T G ds vs) (hp : H p = none) (o : okR K T W G σ (RD K T) (.ok (.lst ds) h) Q) : Q (.ref p) (upd H p (.lst vs)) := by
  obtain ⟨x, r'⟩ := r.newF (o := .lst vs) hp
  exact o _ _ _ x r' (.lst upd_same (d.mono x))
theorem newLstM {K : PySem.W.Frag} {W : WX} {G : Gst} {h : Hh} {H : Hp} {σ : L2.St} {ds : List D} {vs : List V} {Q : VK} {p : Addr} (r : Rel K T G h H) (d : RDs K T G ds vs) (hp : H p = none) (o : okR K T W G σ (RD K T) (.ok (.ref h.length) (h ++ [.lst ds])) Q) : Q (.ref p) (upd H p (.lst vs)) := by
  obtain ⟨x, r'⟩ := r.newO (o := .lst vs) (u := .lst ds) hp fun G' x hi ho _ => ⟨p, vs, hi, ho, upd_same, d.mono x⟩
  refine o _ _ _ x r' (.ref ?_)
  show (G.ι ++ [p])[h.length]? = some p
  rw [← r.len]; simp
theorem fe_tup {es : List Expr} {f : FnA} {x1} (h : FA X T W es f) : FE X T W (.Tuple es x1 pos) (eTup f) := by
  refine PE.imp (pe_tup h) fun σ H Q h => ?_
  refine tF.bind (k := fun _ xs h1 => if lineOk xs.length = true then .ok (D.tup xs) h1 else .stk) h fun G δ x v h1 H1 r1 s1 d1 o1 => ?_
  by_cases hl : lineOk x.length = true
  · rw [if_pos hl] at o1
    exact ⟨by rw [← d1.length]; exact lineOk_le hl, fun p hp => newTup r1 d1 hp o1⟩
  · rw [if_neg hl] at o1; exact o1.elim
theorem fe_lst {es : List Expr} {f : FnA} (h : FA X T W es f) : FE X T W (.List es pos) (eLst f) := by
  refine PE.imp (pe_lst h) fun σ H Q h => ?_
  refine tF.bind (k := fun _ xs h1 => if lineOk xs.length = true then .ok (D.lst xs) h1 else .stk) h fun G δ x v h1 H1 r1 s1 d1 o1 => ?_
  by_cases hl : lineOk x.length = true
  · rw [if_pos hl] at o1
    exact ⟨by rw [← d1.length]; exact lineOk_le hl, fun p hp => newLst r1 d1 hp o1⟩
  · rw [if_neg hl] at o1; exact o1.elim
theorem fe_lstM {es : List Expr} {f : FnA} (h : FA X T W es f) : FE X T W (.List es pos) (eLstM f) := by
  refine PE.imp (pe_lst h) fun σ H Q h => ?_
  refine tF.bind (k := fun _ xs h1 => if lineOk xs.length = true then .ok (D.ref h1.length) (h1 ++ [O.lst xs]) else .stk) h fun G δ x v h1 H1 r1 s1 d1 o1 => ?_
  by_cases hl : lineOk x.length = true
  · rw [if_pos hl] at o1
    exact ⟨by rw [← d1.length]; exact lineOk_le hl, fun p hp => newLstM r1 d1 hp o1⟩
  · rw [if_neg hl] at o1; exact o1.elim
def sSeq (u v : FnS) : FnS := fun δ h => match u δ h with
  | .nx δ' h' => v δ' h'
  | r => r
def sNil : FnS := fun δ h => .nx δ h
theorem fss_nil : FSs X T W [] sNil := by
  refine PSs.imp pss_nil fun D σ H => ?_
  rintro ⟨G, h0, δ, r, s, o⟩
  exact o G H σ (Ext.refl G) r s
theorem tS_seq {u v : FnS} {D : Ends} {σ : L2.St} {H : Hp} {K : PySem.W.Frag} (h : tS K T W (sSeq u v) D σ H) : tSeq (tS K T W u) (tS K T W v) D σ H := by
  obtain ⟨G, h0, δ, r, s, o⟩ := h
  refine ⟨G, h0, δ, r, s, ?_⟩
  unfold sSeq at o
  cases e : u δ h0 with
  | nx δ' h' => rw [e] at o; exact fun G' H' σ' x r' s' => ⟨G', h', δ', r', s', okS.ext x o⟩
  | rt d h' => rw [e] at o; exact o
  | bk δ' h' => rw [e] at o; exact o
  | ct δ' h' => rw [e] at o; exact o
  | exc c ds δ' h' => rw [e] at o; exact o
  | stk => rw [e] at o; exact o
theorem fss_cons {st : Stmt} {rest : List Stmt} {u v : FnS} (h1 : FS X T W st u) (h2 : FSs X T W rest v) : FSs X T W (st :: rest) (sSeq u v) := PSs.imp (pss_cons h1 h2) fun _ _ _ h => tS_seq h
theorem fss_one {st : Stmt} {u : FnS} (h1 : FS X T W st u) : FSs X T W [st] u := pss_one h1
def sPass : FnS := fun δ h => .nx δ h
def sBreak : FnS := fun δ h => .bk δ h
def sCont : FnS := fun δ h => .ct δ h
def sIf (t : FnT) (u v : FnS) : FnS := fun δ h => (t δ h).toS δ fun c h1 => if c = true then u δ h1 else v δ h1
theorem fs_if {c : Expr} {a b : List Stmt} {fc : FnT} {u v : FnS} (hc : FT X T W c fc) (ha : FSs X T W a u) (hb : FSs X T W b v) : FS X T W (.If c a b pos) (sIf fc u v) := by
  refine PS.imp (ps_if hc ha hb) fun D σ H h => ?_
  refine tS.bind (k := fun δ c h1 => if c = true then u δ h1 else v δ h1) h fun G δ x w h1 H1 r1 s1 d1 o1 => ?_
  have d : x = w := d1
  subst d
  cases x with
  | true => exact ⟨G, h1, δ, r1, s1, o1⟩
  | false => exact ⟨G, h1, δ, r1, s1, o1⟩
def sRet (f : FnE) : FnS := fun δ h => (f δ h).toS δ fun x h1 => .rt x h1
theorem fs_ret {e : Expr} {f : FnE} (h : FE X T W e f) : FS X T W (.Return (some e) pos) (sRet f) := by
  refine PS.imp (ps_ret h) fun D σ H h => ?_
  exact tS.bind (k := fun _ x h1 => .rt x h1) h fun G δ x w h1 H1 r1 s1 d1 o1 => o1 G H1 w (Ext.refl G) r1 d1
def sRetN : FnS := fun _ h => .rt .non h
def sExpr (f : FnE) : FnS := fun δ h => (f δ h).toS δ fun _ h1 => .nx δ h1
theorem fs_expr {e : Expr} {f : FnE} (h : FE X T W e f) (hs : swapsWith e none pos.line X.env = pure false := by rfl) : FS X T W (.Expr e pos) (sExpr f) := by
  refine PS.imp (ps_expr h hs) fun D σ H h => ?_
  exact tS.bind (k := fun δ _ h1 => .nx δ h1) h fun G δ x w h1 H1 r1 s1 d1 o1 => o1 G H1 σ (Ext.refl G) r1 s1
def sSet (i : Nat) (f : FnE) : FnS := fun δ h => (f δ h).toS δ fun x h1 => .nx (δ.set i (some x)) h1
theorem fs_set {i : Nat} {x : Str} {e : Expr} {f : FnE} {pos' : Pos} (hN : X.N.Nodup) (hi : X.N[i]? = some x) (hx : Loc X.env.scope x) (he : FE X T W e f) (hs : swapsWith e (some (.Name x pos')) pos.line X.env = pure false := by rfl) (hf : X.fn x = true ∨ X.env.scope.names.lookup x = some .local := by first | exact .inl rfl | exact .inr rfl | assumption) :
    FS X T W (.Assign [.Name x pos'] e pos) (sSet i f) := by
  refine PS.imp (ps_set hN hi hx he hs hf) fun D σ H h => ?_
  exact tS.bind (k := fun δ x h1 => .nx (δ.set i (some x)) h1) h fun G δ x w h1 H1 r1 s1 d1 o1 => o1 G H1 _ (Ext.refl G) r1 (s1.set d1 i)
end
end L3
set_option autoImplicit false
set_option maxHeartbeats 4000000
namespace L3
open PySem PySem.Spec L2
section
open PyProof.Rows
def rSame (K : PySem.W.Frag) : R2 := fun x y H Q => ∃ a xs, x = .ref a ∧ y = .int 1 ∧ SqT K H a xs ∧ Q (.ref a) H
theorem once_tup (a : Addr) (its : Array Value) (n : Nat) (u : Tok) (dd : Option Addr) (sl : Array (Option Value)) : Meets (Builtin.«tuple.__mul__» ⟨[.ref a, .int 1 u], []⟩) (fun _ R s => s.heap.get? a = some { cls := .type "tuple", dict := dd, data := .seq its n, slots := sl } ∧ R (.ok (.ret (.ref a))) s) :=
  .of_wp fun prog w A R s h => by
    obtain ⟨hp, g, d, tk, os⟩ := s
    obtain ⟨hl, q⟩ := h
    have f1 := AutoSeq1.idx_int
    wp_walk using wpAny_loadPart' hl
    repeat (first
      | (refine wpAny_ite_false (by decide) ?_; wp_walk using wpAny_loadPart' hl)
      | (refine wpAny_ite_true (by simp) ?_; wp_walk using wpAny_loadPart' hl))
    exact ⟨_, rfl, q⟩
def rRep0 (K : PySem.W.Frag) : R2 := fun x y H Q => ∃ l xs, x = .ref l ∧ y = .int 0 ∧ SqT K H l xs ∧ xs ≠ [] ∧ ∀ p, H p = none → Q (.ref p) (upd H p (.tup []))
theorem none_tup (l : Addr) (items : Array Value) (n : Nat) (dd : Option Addr) (sl : Array (Option Value)) (u : Tok) (c1 : (items.isEmpty || (0 : Int) == 1) = false) :
    Meets (Builtin.«tuple.__mul__» ⟨[.ref l, .int 0 u], []⟩) (fun _ R s => s.heap.get? l = some { cls := .type "tuple", dict := dd, data := .seq items n, slots := sl } ∧
      R (.ok (.ret (Value.ref s.heap.objs.size))) { s with heap := s.heap.push { cls := Value.type "tuple", data := Data.seq #[] }, toks := s.toks }) :=
  .of_wp fun prog w A R s h => by
    obtain ⟨hp, g, d, tk, os⟩ := s
    obtain ⟨hl, h⟩ := h
    have f1 := AutoSeq1.idx_int
    wp_walk using wpAny_loadPart' hl
    repeat (first
      | (refine wpAny_ite_false (by decide) ?_; wp_walk using wpAny_loadPart' hl)
      | (refine wpAny_ite_false (decide_eq_false (by rw [c1]; exact Bool.false_ne_true)) ?_; wp_walk using wpAny_loadPart' hl)
      | (refine wpAny_ite_true (by simp) ?_; wp_walk using wpAny_loadPart' hl))
    exact ⟨_, rfl, h⟩
theorem op_rep0 {X : Cx} : OpR X (binaryOp .Mult) (rRep0 X.K) := by
  intro pins s σ H x y v u Q I rx ry h
  obtain ⟨l, xs, rfl, rfl, hT, hne, q⟩ := h
  cases rx
  obtain ⟨t, rfl⟩ := ry
  obtain ⟨its, r, ⟨⟨cls, dd, data, sl⟩, ho, hc, n, hd⟩, hs⟩ := I.tuple hT
  simp only at hc hd
  subst hc hd
  have hle : its.length = xs.length := r.length.symm
  have hi : its.toArray.isEmpty = false := by
    cases its with
    | nil => exact absurd (List.eq_nil_of_length_eq_zero hle.symm) hne
    | cons a b => rfl
  have c1 : (its.toArray.isEmpty || (0 : Int) == 1) = false := by rw [hi]; rfl
  refine wpAny_binaryOp_repeat_ref (T := "tuple") (U := "int") (by decide) ⟨_, ho, rfl⟩ (fun s' => typeIs_int s' 0 t) noFill_tuple_mul F.fills_int_mul F.slot_int_rmul repeat_tuple F.slot_int_index.lookup
    (call_meets F.slot_int_rmul (typeIs_int s 0 t) F.entry_int_rmul (F.args_int_rmul_2 _ _) (int_rmul_tuple 0 t l its.toArray n dd sl)
      ⟨ho, rfl, ⟨_, ho, rfl⟩, call_meets F.slot_tuple_mul ⟨_, ho, rfl⟩ F.entry_tuple_mul (F.args_tuple_mul_2 _ _) (none_tup l its.toArray n dd sl t c1) ⟨ho, ?_⟩⟩)
  refine ⟨.ref s.heap.objs.size, _, I.laid (t' := s.toks) (o := .tup []) (fun b ob q => Heap.get?_push_of_some _ q) (Nat.le_refl _) ?_, rfl, q _ (I.hok.fresh (Nat.le_refl _))⟩
  exact ⟨by rw [sizeLine_eq]; decide, _, .nil, IsTup.new _ _⟩
theorem op_same {X : Cx} : OpR X (binaryOp .Mult) (rSame X.K) := by
  rintro pins s σ H x y v u Q I rx ry ⟨a, xs, rfl, rfl, hT, q⟩
  cases rx
  obtain ⟨t, rfl⟩ := ry
  obtain ⟨its, r, ⟨⟨cls, dd, data, sl⟩, ho, hc, n, hd⟩, _⟩ := I.tuple hT
  dsimp only at hc hd
  subst hc hd
  refine wpAny_binaryOp_repeat_ref (T := "tuple") (U := "int") (by decide) ⟨_, ho, rfl⟩ (fun s' => typeIs_int s' 1 t) noFill_tuple_mul F.fills_int_mul F.slot_int_rmul repeat_tuple F.slot_int_index.lookup
    (call_meets F.slot_int_rmul (typeIs_int s 1 t) F.entry_int_rmul (F.args_int_rmul_2 _ _) (int_rmul_tuple 1 t a its.toArray n dd sl)
      ⟨ho, rfl, ⟨_, ho, rfl⟩, call_meets F.slot_tuple_mul ⟨_, ho, rfl⟩ F.entry_tuple_mul (F.args_tuple_mul_2 _ _) (once_tup a its.toArray n t dd sl) ⟨ho, ?_⟩⟩)
  exact ⟨.ref a, H, I, rfl, q⟩
end
section
variable {X : Cx} {T : Tx}
def asL (h : Hh) : D → Option (List D)
  | .lst ds => some ds
  | .ref n => match h[n]? with
    | some (.lst ds) => some ds
    | _ => none
  | _ => none
theorem asL_ok {K : PySem.W.Frag} {G : Gst} {h : Hh} {H : Hp} {d : D} {v : V} {ds : List D} (r : Rel K T G h H) (d1 : RD K T G d v) (e : asL h d = some ds) : ∃ a vs, v = .ref a ∧ H a = some (.lst vs) ∧ RDs K T G ds vs := by
  cases d1 with
  | lst h1 h2 => cases e; exact ⟨_, _, rfl, r.sub _ _ h1, h2⟩
  | @ref n a h1 =>
    unfold asL at e
    dsimp only at e
    cases q : h[n]? with
    | none => rw [q] at e; cases e
    | some o =>
      rw [q] at e
      cases o with
      | lst es =>
        cases e
        obtain ⟨a', vs, e1, e2, e3, e4⟩ := r.obj n _ q
        rw [h1] at e1; cases e1
        exact ⟨a, vs, rfl, e3, e4⟩
      | _ => cases e
  | _ => cases e
def addD : F2 := fun x y h => match x, y with
  | .int i, .int j => .ok (.int (i + j)) h
  | .tup xs, .tup ys => if lineOk (xs.length + ys.length) = true then .ok (.tup (xs ++ ys)) h else .stk
  | .str a, .str b => if lineOk (a.length + b.length) = true then .ok (.str (a ++ b)) h else .stk
  | x, y => match asL h x, asL h y with
    | some xs, some ys => if lineOk (xs.length + ys.length) = true then .ok (.lst (xs ++ ys)) h else .stk
    | _, _ => .stk
def rdAdd (K : PySem.W.Frag) : R2 := fun x y H Q => (rI0 fun i j => .int (i + j)) x y H Q ∨ rCatA K x y H Q ∨ (fun x y H Q => ∃ i j, x = .str i ∧ y = .str j ∧ i.length + j.length ≤ sizeLine ∧ Q (.str (i ++ j)) H : R2) x y H Q ∨ rCat x y H Q
theorem op_addA : OpR X (binaryOp .Add) (rdAdd X.K) := OpR.or op_add (OpR.or op_catA (OpR.or op_add_str op_cat))
theorem os_add : OpS X T (rdAdd X.K) addD := by
  intro W G h H σ x y v w Q r d1 d2 o
  have lists : (match asL h x, asL h y with
    | some xs, some ys => if lineOk (xs.length + ys.length) = true then R.ok (.lst (xs ++ ys)) h else .stk
    | _, _ => .stk) = addD x y h → rdAdd X.K v w H Q := fun e => by
    rw [← e] at o
    cases ex : asL h x with
    | none => rw [ex] at o; exact o.elim
    | some xs =>
      cases ey : asL h y with
      | none => rw [ex, ey] at o; exact o.elim
      | some ys =>
        rw [ex, ey] at o
        dsimp only at o
        by_cases hl : lineOk (xs.length + ys.length) = true
        · rw [if_pos hl] at o
          obtain ⟨a, vs, rfl, h1, q1⟩ := asL_ok r d1 ex
          obtain ⟨b, ws, rfl, h2, q2⟩ := asL_ok r d2 ey
          exact .inr (.inr (.inr ⟨a, b, vs, ws, rfl, rfl, h1, h2, by rw [← q1.length, ← q2.length]; exact lineOk_le hl, fun p hp => newLst r (q1.append q2) hp o⟩))
        · rw [if_neg hl] at o; exact o.elim
  cases d1 with
  | int =>
    cases d2 with
    | int => exact .inl ⟨_, _, rfl, rfl, o.at r .int⟩
    | _ => first | exact lists rfl | exact o.elim
  | @str a =>
    cases d2 with
    | @str b =>
      unfold addD at o
      dsimp only at o
      by_cases hl : lineOk (a.length + b.length) = true
      · rw [if_pos hl] at o
        refine .inr (.inr (.inl ⟨_, _, rfl, rfl, ?_, ?_⟩))
        · show a.toArray.size + b.toArray.size ≤ sizeLine
          simpa using lineOk_le hl
        · have e : (⟨a.toArray⟩ : Str) ++ (⟨b.toArray⟩ : Str) = ⟨(a ++ b).toArray⟩ := by
            show (⟨a.toArray ++ b.toArray⟩ : Str) = _
            simp
          rw [e]
          exact o.at r .str
      · rw [if_neg hl] at o; exact o.elim
    | _ => first | exact lists rfl | exact o.elim
  | @tup xs a vs h1 q1 n1 =>
    cases d2 with
    | @tup ys b ws h2 q2 n2 =>
      unfold addD at o
      dsimp only at o
      by_cases hl : lineOk (xs.length + ys.length) = true
      · rw [if_pos hl] at o
        refine .inr (.inl ⟨a, b, vs, ws, rfl, rfl, SqT.sub r.sub h1, SqT.sub r.sub h2, by rw [← q1.length, ← q2.length]; exact lineOk_le hl, fun e => ?_, fun _ e => ?_, fun _ _ p hp => newTup r (q1.append q2) hp o⟩)
        · subst e; cases q1; exact o.at r (.tup h2 q2 n2)
        · subst e; cases q2; rw [List.append_nil] at o; exact o.at r (.tup h1 q1 n1)
      · rw [if_neg hl] at o; exact o.elim
    | _ => first | exact lists rfl | exact o.elim
  | _ => first | exact lists rfl | (cases d2 <;> first | exact lists rfl | exact o.elim)
def subD : F2 := fun x y h => match x, y with
  | .int i, .int j => .ok (.int (i - j)) h
  | _, _ => .stk
theorem os_sub : OpS X T (rI0 fun i j => .int (i - j)) subD := by
  intro W G h H σ x y v w Q r d1 d2 o
  cases d1 with
  | int => cases d2 with
    | int => exact ⟨_, _, rfl, rfl, o.at r .int⟩
    | _ => exact o.elim
  | _ => exact o.elim
def mulOk (i j : Int) : Bool := (decide (-(2 ^ 64) < i) && decide (i < 2 ^ 64) || (decide (-(2 ^ 64) < j) && decide (j < 2 ^ 64))) || decide (i.natAbs.log2 + j.natAbs.log2 < 1000000)
theorem mulOk_C {i j : Int} (h : mulOk i j = true) : CMul i j ∨ CMulW i j := by
  unfold mulOk at h
  simp only [Bool.or_eq_true, Bool.and_eq_true, decide_eq_true_eq] at h
  exact h
def mulD : F2 := fun x y h => match x, y with
  | .int i, .int j => if mulOk i j = true then .ok (.int (i * j)) h else .stk
  | .tup xs, .int k => if k = 1 then .ok (.tup xs) h else if xs.isEmpty = false ∧ 2 ≤ k ∧ k ≤ 1000 ∧ xs.length ≤ 1000 then .ok (.tup (List.replicate k.toNat xs).flatten) h else if k = 0 ∧ xs.isEmpty = false then .ok (.tup []) h else .stk
  | x, .int k => match asL h x with
    | some xs => if 0 ≤ k ∧ k ≤ 1000 ∧ xs.length ≤ 1000 then .ok (.lst (List.replicate k.toNat xs).flatten) h else .stk
    | none => .stk
  | _, _ => .stk
def rdMul (K : PySem.W.Frag) : R2 := fun x y H Q => rI CMul (fun i j => .int (i * j)) x y H Q ∨ rI CMulW (fun i j => .int (i * j)) x y H Q ∨ rSame K x y H Q ∨ rRepT K x y H Q ∨ rRep x y H Q ∨ rRep0 K x y H Q
theorem op_mulA : OpR X (binaryOp .Mult) (rdMul X.K) := OpR.or op_mul (OpR.or op_mulW (OpR.or op_same (OpR.or op_repT (OpR.or op_rep op_rep0))))
theorem os_mul : OpS X T (rdMul X.K) mulD := by
  intro W G h H σ x y v w Q r d1 d2 o
  cases d2 with
  | @int k =>
    have lists : (match asL h x with
      | some xs => if 0 ≤ k ∧ k ≤ 1000 ∧ xs.length ≤ 1000 then R.ok (.lst (List.replicate k.toNat xs).flatten) h else .stk
      | none => .stk) = mulD x (.int k) h → rdMul X.K v (.int k) H Q := fun e => by
      rw [← e] at o
      cases ex : asL h x with
      | none => rw [ex] at o; exact o.elim
      | some xs =>
        rw [ex] at o
        dsimp only at o
        by_cases hl : 0 ≤ k ∧ k ≤ 1000 ∧ xs.length ≤ 1000
        · rw [if_pos hl] at o
          obtain ⟨a, vs, rfl, h1, q1⟩ := asL_ok r d1 ex
          refine .inr (.inr (.inr (.inr (.inl ⟨a, k, vs, rfl, rfl, h1, by omega, by omega, ?_, fun p hp => newLst r (q1.rep k.toNat) hp o⟩))))
          have z := Nat.mul_le_mul (show vs.length ≤ 1000 by rw [← q1.length]; exact hl.2.2) (show k.toNat ≤ 1000 by omega)
          rw [sizeLine_eq]; omega
        · rw [if_neg hl] at o; exact o.elim
    cases d1 with
    | @int i =>
      unfold mulD at o
      dsimp only at o
      by_cases hl : mulOk i k = true
      · rw [if_pos hl] at o
        rcases mulOk_C hl with c | c
        · exact .inl ⟨_, _, rfl, rfl, c, o.at r .int⟩
        · exact .inr (.inl ⟨_, _, rfl, rfl, c, o.at r .int⟩)
      · rw [if_neg hl] at o; exact o.elim
    | @tup xs a vs h1 q1 N2 =>
      unfold mulD at o
      dsimp only at o
      by_cases hk : k = 1
      · rw [if_pos hk] at o
        subst hk
        exact .inr (.inr (.inl ⟨a, vs, rfl, rfl, SqT.sub r.sub h1, o.at r (.tup h1 q1 N2)⟩))
      rw [if_neg hk] at o
      by_cases hl : xs.isEmpty = false ∧ 2 ≤ k ∧ k ≤ 1000 ∧ xs.length ≤ 1000
      · rw [if_pos hl] at o
        refine .inr (.inr (.inr (.inl ⟨a, k, vs, rfl, rfl, SqT.sub r.sub h1, fun e => ?_, hl.2.1, hl.2.2.1, by rw [← q1.length]; exact hl.2.2.2, fun p hp => newTup r (q1.rep k.toNat) hp o⟩)))
        subst e; cases q1; exact Bool.noConfusion hl.1
      · rw [if_neg hl] at o
        by_cases h0 : k = 0 ∧ xs.isEmpty = false
        · rw [if_pos h0] at o
          obtain ⟨rfl, hx⟩ := h0
          refine .inr (.inr (.inr (.inr (.inr ⟨a, vs, rfl, rfl, SqT.sub r.sub h1, fun e => ?_, fun p hp => newTup r (.nil) hp o⟩))))
          subst e; cases q1; exact Bool.noConfusion hx
        · rw [if_neg h0] at o; exact o.elim
    | _ => first | exact lists rfl | exact o.elim
  | _ => cases d1 <;> exact o.elim
def divD : F2 := fun x y h => match x, y with
  | .int i, .int j => if 0 < j ∧ j.natAbs.log2 < 9000 then .ok (.int (i / j)) h else .stk
  | _, _ => .stk
theorem os_div : OpS X T (rI CDivW fun i j => .int (i / j)) divD := by
  intro W G h H σ x y v w Q r d1 d2 o
  cases d1 with
  | @int i => cases d2 with
    | @int j =>
      unfold divD at o
      dsimp only at o
      by_cases hl : 0 < j ∧ j.natAbs.log2 < 9000
      · rw [if_pos hl] at o; exact ⟨_, _, rfl, rfl, ⟨hl.1, hl.2⟩, o.at r .int⟩
      · rw [if_neg hl] at o; exact o.elim
    | _ => exact o.elim
  | _ => exact o.elim
def modD : F2 := fun x y h => match x, y with
  | .int i, .int j => if 0 < j then .ok (.int (i % j)) h else .stk
  | _, _ => .stk
theorem os_mod : OpS X T (rI (fun _ j => 0 < j) fun i j => .int (i % j)) modD := by
  intro W G h H σ x y v w Q r d1 d2 o
  cases d1 with
  | @int i => cases d2 with
    | @int j =>
      unfold modD at o
      dsimp only at o
      by_cases hl : 0 < j
      · rw [if_pos hl] at o; exact ⟨_, _, rfl, rfl, hl, o.at r .int⟩
      · rw [if_neg hl] at o; exact o.elim
    | _ => exact o.elim
  | _ => exact o.elim
def powD : F2 := fun x y h => match x, y with
  | .int i, .int j => if 0 ≤ j ∧ j ≤ 1000000 ∧ i.natAbs < 2 ^ 64 then .ok (.int (i ^ j.toNat)) h else .stk
  | _, _ => .stk
theorem os_pow : OpS X T (rI CPow fun i j => .int (i ^ j.toNat)) powD := by
  intro W G h H σ x y v w Q r d1 d2 o
  cases d1 with
  | @int i => cases d2 with
    | @int j =>
      unfold powD at o
      dsimp only at o
      by_cases hl : 0 ≤ j ∧ j ≤ 1000000 ∧ i.natAbs < 2 ^ 64
      · rw [if_pos hl] at o; exact ⟨_, _, rfl, rfl, hl, o.at r .int⟩
      · rw [if_neg hl] at o; exact o.elim
    | _ => exact o.elim
  | _ => exact o.elim
def negD : D → Hh → R D := fun x h => match x with
  | .int i => .ok (.int (-i)) h
  | _ => .stk
theorem us_neg : UnS X T (rU fun i => .int (-i)) negD := by
  intro W G h H σ x v Q r d o
  cases d with
  | int => exact ⟨_, rfl, o.at r .int⟩
  | _ => exact o.elim
def cmpD (p : Int → Int → Bool) : F2 := fun x y h => match x, y with
  | .int i, .int j => .ok (.bl (p i j)) h
  | _, _ => .stk
theorem os_cmp {p : Int → Int → Bool} : OpS X T (rI0 fun i j => .bl (p i j)) (cmpD p) := by
  intro W G h H σ x y v w Q r d1 d2 o
  cases d1 with
  | int => cases d2 with
    | int => exact ⟨_, _, rfl, rfl, o.at r .bl⟩
    | _ => exact o.elim
  | _ => exact o.elim
abbrev ltD : F2 := cmpD fun i j => decide (i < j)
abbrev leD : F2 := cmpD fun i j => decide (i ≤ j)
abbrev gtD : F2 := cmpD fun i j => decide (j < i)
abbrev geD : F2 := cmpD fun i j => decide (j ≤ i)
mutual
def pd : D → PyData
  | .bl b => .bool b
  | .int i => .int i
  | .str x => .str ⟨x.toArray⟩
  | .tup ds => .tuple (pds ds)
  | .lst ds => .list (pds ds)
  | _ => .none
def pds : List D → List PyData
  | [] => []
  | d :: ds => pd d :: pds ds
end
mutual
def flat : Nat → D → Bool
  | _, .non => true
  | _, .bl _ => true
  | _, .int _ => true
  | _, .str _ => true
  | k + 1, .tup ds => flats k ds
  | k + 1, .lst ds => flats k ds
  | _, _ => false
def flats : Nat → List D → Bool
  | _, [] => true
  | k, d :: ds => flat k d && flats k ds
end
mutual
theorem flat_pd : ∀ (d : D) (k : Nat), flat k d = true → (pd d).plain = true ∧ (pd d).depth ≤ k
  | .non, _, _ => ⟨rfl, Nat.zero_le _⟩
  | .bl _, _, _ => ⟨rfl, Nat.zero_le _⟩
  | .int _, _, _ => ⟨rfl, Nat.zero_le _⟩
  | .str _, _, _ => ⟨rfl, Nat.zero_le _⟩
  | .tup ds, 0, h => nomatch (show false = true by simpa [flat] using h)
  | .tup ds, k + 1, h => by
    obtain ⟨a, b⟩ := flats_pd ds k (by simpa [flat] using h)
    simp only [pd, PyData.plain, PyData.depth]
    exact ⟨a, by omega⟩
  | .lst ds, 0, h => nomatch (show false = true by simpa [flat] using h)
  | .lst ds, k + 1, h => by
    obtain ⟨a, b⟩ := flats_pd ds k (by simpa [flat] using h)
    simp only [pd, PyData.plain, PyData.depth]
    exact ⟨a, by omega⟩
  | .dic _ _, k, h => by cases k <;> exact nomatch (show false = true by simpa [flat] using h)
  | .obj _ _, k, h => by cases k <;> exact nomatch (show false = true by simpa [flat] using h)
  | .ref _, k, h => by cases k <;> exact nomatch (show false = true by simpa [flat] using h)
  | .scr _, k, h => by cases k <;> exact nomatch (show false = true by simpa [flat] using h)
theorem flats_pd : ∀ (ds : List D) (k : Nat), flats k ds = true → PyData.plainAll (pds ds) = true ∧ PyData.depthAll (pds ds) ≤ k
  | [], _, _ => ⟨by simp [pds, PyData.plainAll], by simp [pds, PyData.depthAll]⟩
  | d :: ds, k, h => by
    have h' : flat k d = true ∧ flats k ds = true := by simpa [flats] using h
    obtain ⟨a, b⟩ := flat_pd d k h'.1
    obtain ⟨a', b'⟩ := flats_pd ds k h'.2
    simp only [pds, PyData.plainAll, PyData.depthAll]
    exact ⟨by rw [a, a']; rfl, by omega⟩
end
mutual
theorem RD.dp {K : PySem.W.Frag} {G : Gst} {H : Hp} (s : ∀ a o, G.fz a = some o → H a = some o) : ∀ (d : D) (k : Nat) (v : V), flat k d = true → RD K T G d v → Dp K H v (pd d)
  | .non, _, _, _, r => by cases r; simp only [pd]; exact .non
  | .bl _, _, _, _, r => by cases r; simp only [pd]; exact .bl _
  | .int _, _, _, _, r => by cases r; simp only [pd]; exact .int _
  | .str _, _, _, _, r => by cases r; simp only [pd]; exact .str _
  | .tup ds, 0, _, h, _ => nomatch (show false = true by simpa [flat] using h)
  | .tup ds, k + 1, _, h, r => by
    cases r with
    | tup h1 q => simp only [pd]; exact .tup (SqT.sub s h1) (RDs.dp s ds k _ (by simpa [flat] using h) q)
  | .lst ds, 0, _, h, _ => nomatch (show false = true by simpa [flat] using h)
  | .lst ds, k + 1, _, h, r => by
    cases r with
    | lst h1 q => simp only [pd]; exact .lst (.inl (.inl (s _ _ h1))) (RDs.dp s ds k _ (by simpa [flat] using h) q)
  | .dic _ _, k, _, h, _ => by cases k <;> exact nomatch (show false = true by simpa [flat] using h)
  | .obj _ _, k, _, h, _ => by cases k <;> exact nomatch (show false = true by simpa [flat] using h)
  | .ref _, k, _, h, _ => by cases k <;> exact nomatch (show false = true by simpa [flat] using h)
  | .scr _, k, _, h, _ => by cases k <;> exact nomatch (show false = true by simpa [flat] using h)
theorem RDs.dp {K : PySem.W.Frag} {G : Gst} {H : Hp} (s : ∀ a o, G.fz a = some o → H a = some o) : ∀ (ds : List D) (k : Nat) (vs : List V), flats k ds = true → RDs K T G ds vs → DpAll K H vs (pds ds)
  | [], _, _, _, r => by cases r; simp only [pds]; exact .nil
  | d :: ds, k, _, h, r => by
    have h' : flat k d = true ∧ flats k ds = true := by simpa [flats] using h
    cases r with
    | cons h1 h2 => simp only [pds]; exact .cons (RD.dp s d k _ h'.1 h1) (RDs.dp s ds k _ h'.2 h2)
end
def deref (h : Hh) (d : D) : D := match d with
  | .ref n => match h[n]? with
    | some (.lst ds) => .lst ds
    | _ => .ref n
  | .scr ds => .lst ds
  | d => d
theorem deref_dp {K : PySem.W.Frag} {G : Gst} {h : Hh} {H : Hp} {d : D} {v : V} {k : Nat} (r : Rel K T G h H) (d1 : RD K T G d v) (f : flat k (deref h d) = true) : Dp K H v (pd (deref h d)) := by
  cases d with
  | ref n =>
    unfold deref at f ⊢
    dsimp only at f ⊢
    cases q : h[n]? with
    | none =>
      rw [q] at f
      cases k <;> exact nomatch (show false = true by simpa [flat] using f)
    | some o =>
      rw [q] at f
      cases o with
      | lst es =>
        dsimp only at f ⊢
        cases d1 with
        | ref h1 =>
          obtain ⟨a', vs, e1, e2, e3, e4⟩ := r.obj n _ q
          rw [h1] at e1; cases e1
          cases k with
          | zero => exact nomatch (show false = true by simpa [flat] using f)
          | succ k => simp only [pd]; exact .lst (.inl (.inl e3)) (RDs.dp r.sub es k _ (by simpa [flat] using f) e4)
      | _ => cases k <;> exact nomatch (show false = true by simpa [flat] using f)
  | scr es =>
    have f' : flat k (D.lst es) = true := f
    show Dp K H v (pd (.lst es))
    cases d1 with
    | @scr _ a vs h1 h2 =>
      cases k with
      | zero => exact nomatch (show false = true by simpa [flat] using f')
      | succ k => simp only [pd]; exact .lst (SqL.sub r.sub h1) (RDs.dp r.sub es k _ (by simpa [flat] using f') h2)
  | _ => exact RD.dp r.sub _ k _ f d1
def eqv (x y : D) : Bool := PyData.eqv (pd x) (pd y)
def eqD : F2 := fun x y h => if flat 60 (deref h x) = true ∧ flat 60 (deref h y) = true then .ok (.bl (eqv (deref h x) (deref h y))) h else .stk
def neD : F2 := fun x y h => if flat 60 (deref h x) = true ∧ flat 60 (deref h y) = true then .ok (.bl (!eqv (deref h x) (deref h y))) h else .stk
def rEqP (K : PySem.W.Frag) : R2 := fun x y H Q => ∃ d e, Dp K H x d ∧ Dp K H y e ∧ d.plain = true ∧ e.plain = true ∧ d.depth ≤ 60 ∧ e.depth ≤ 60 ∧ Q (.bl (PyData.eqv d e)) H
def rNeP (K : PySem.W.Frag) : R2 := fun x y H Q => ∃ d e, Dp K H x d ∧ Dp K H y e ∧ d.plain = true ∧ e.plain = true ∧ d.depth ≤ 60 ∧ e.depth ≤ 60 ∧ Q (.bl (!PyData.eqv d e)) H
theorem op_eqP (hu : X.A.units + 64 < cLine) : OpR X (compareOp .Eq) (rEqP X.K) := by
  intro pins s σ H x y v u Q I rx ry h
  obtain ⟨d, e, hd, he, pd, pe, nd, ne, q⟩ := h
  obtain ⟨as, r1⟩ := Dp.reads I d x v hd rx
  obtain ⟨bs, r2⟩ := Dp.reads I e y u he ry
  exact SeqAt.eq_plain r1 r2 pd pe (by omega) ⟨.bl _, H, I, rfl, q⟩
theorem op_neP (hu : X.A.units + 64 < cLine) : OpR X (compareOp .NotEq) (rNeP X.K) := by
  intro pins s σ H x y v u Q I rx ry h
  obtain ⟨d, e, hd, he, pd, pe, nd, ne, q⟩ := h
  obtain ⟨as, r1⟩ := Dp.reads I d x v hd rx
  obtain ⟨bs, r2⟩ := Dp.reads I e y u he ry
  exact SeqAt.ne_plain r1 r2 pd pe (by omega) ⟨.bl _, H, I, rfl, q⟩
theorem os_eq : OpS X T (rEqP X.K) eqD := by
  intro W G h H σ x y v w Q r d1 d2 o
  unfold eqD at o
  by_cases hl : flat 60 (deref h x) = true ∧ flat 60 (deref h y) = true
  · rw [if_pos hl] at o
    obtain ⟨p1, n1⟩ := flat_pd _ _ hl.1
    obtain ⟨p2, n2⟩ := flat_pd _ _ hl.2
    exact ⟨_, _, deref_dp r d1 hl.1, deref_dp r d2 hl.2, p1, p2, n1, n2, o.at r .bl⟩
  · rw [if_neg hl] at o; exact o.elim
theorem os_ne : OpS X T (rNeP X.K) neD := by
  intro W G h H σ x y v w Q r d1 d2 o
  unfold neD at o
  by_cases hl : flat 60 (deref h x) = true ∧ flat 60 (deref h y) = true
  · rw [if_pos hl] at o
    obtain ⟨p1, n1⟩ := flat_pd _ _ hl.1
    obtain ⟨p2, n2⟩ := flat_pd _ _ hl.2
    exact ⟨_, _, deref_dp r d1 hl.1, deref_dp r d2 hl.2, p1, p2, n1, n2, o.at r .bl⟩
  · rw [if_neg hl] at o; exact o.elim
theorem any_pds (x : D) : ∀ ds : List D, ((pds ds).any fun z => PyData.eqv z (pd x)) = ds.any fun z => eqv z x
  | [] => by simp [pds]
  | d :: ds => by simp only [pds, List.any_cons, any_pds x ds]; rfl
end
end L3
set_option autoImplicit false
set_option maxHeartbeats 4000000
namespace L3
open PySem PySem.Spec L2
section
variable {X : Cx} {T : Tx} {W : WX} {pos : Pos}
theorem RDs.ati {K : PySem.W.Frag} {G : Gst} {ds : List D} {vs : List V} {i : Int} {d : D} (r : RDs K T G ds vs) (e : atI ds i = some d) : ∃ v, atI vs i = some v ∧ RD K T G d v := by
  unfold atI at e ⊢
  rw [← r.length]
  cases q : ixN ds.length i with
  | none => rw [q] at e; cases e
  | some j =>
    rw [q] at e
    exact r.get e
def ixD : F2 := fun x y h => match x, y with
  | .tup xs, .int i => match atI xs i with
    | some d => .ok d h
    | none => .stk
  | .str s, .int i => if lineOk s.length = true then match atI s i with
    | some c => .ok (.str [c]) h
    | none => .stk else .stk
  | .scr xs, .int i => match atI xs i with
    | some d => .ok d h
    | none => .stk
  | x, .int i => match asL h x with
    | some xs => match atI xs i with
      | some d => .ok d h
      | none => .stk
    | none => .stk
  | _, _ => .stk
theorem os_ix : OpS X T (rIx X.K) ixD := by
  intro W G h H σ x y v w Q r d1 d2 o
  cases d2 with
  | @int i =>
    have lists : (match asL h x with
      | some xs => match atI xs i with
        | some d => R.ok d h
        | none => .stk
      | none => .stk) = ixD x (.int i) h → rIx X.K v (.int i) H Q := fun e => by
      rw [← e] at o
      cases ex : asL h x with
      | none => rw [ex] at o; exact o.elim
      | some xs =>
        rw [ex] at o
        dsimp only at o
        cases ea : atI xs i with
        | none => rw [ea] at o; exact o.elim
        | some d =>
          rw [ea] at o
          obtain ⟨a, vs, rfl, h1, q1⟩ := asL_ok r d1 ex
          obtain ⟨u, eu, du⟩ := q1.ati ea
          exact .inl ⟨a, vs, i, u, rfl, rfl, .inl (.inl h1), eu, o.at r du⟩
    cases d1 with
    | @tup xs a vs h1 q1 =>
      unfold ixD at o
      dsimp only at o
      cases ea : atI xs i with
      | none => rw [ea] at o; exact o.elim
      | some d =>
        rw [ea] at o
        obtain ⟨u, eu, du⟩ := q1.ati ea
        exact .inr (.inl ⟨a, vs, i, u, rfl, rfl, SqT.sub r.sub h1, eu, o.at r du⟩)
    | @scr xs a vs h1 q1 =>
      unfold ixD at o
      dsimp only at o
      cases ea : atI xs i with
      | none => rw [ea] at o; exact o.elim
      | some d =>
        rw [ea] at o
        obtain ⟨u, eu, du⟩ := q1.ati ea
        exact .inl ⟨a, vs, i, u, rfl, rfl, SqL.sub r.sub h1, eu, o.at r du⟩
    | @str s =>
      unfold ixD at o
      dsimp only at o
      by_cases hl : lineOk s.length = true
      · rw [if_pos hl] at o
        cases ea : atI s i with
        | none => rw [ea] at o; exact o.elim
        | some c =>
          rw [ea] at o
          refine .inr (.inr ⟨_, i, c, rfl, rfl, ?_, by simpa using ea, ?_⟩)
          · show s.toArray.size ≤ sizeLine
            simpa using lineOk_le hl
          · exact o.at r .str
      · rw [if_neg hl] at o; exact o.elim
    | _ => first | exact lists rfl | exact o.elim
  | _ => cases d1 <;> exact o.elim
abbrev FnO := De → Hh → R (Option Int)
abbrev tO (K : PySem.W.Frag) (T : Tx) (W : WX) (f : FnO) : TO := tF K T W (fun _ a b => a = b) f
abbrev FO (X : Cx) (T : Tx) (W : WX) (e : Option Expr) (f : FnO) : Prop := PO X e (tO X.K T W f)
theorem PO.imp {e : Option Expr} {t t' : TO} (h : PO X e t) (q : ∀ σ H Q, t' σ H Q → t σ H Q) : PO X e t' := ⟨fun pins s σ H Q I z => h.run pins s σ H Q I (q _ _ _ z)⟩
def oNone : FnO := fun _ h => .ok none h
def oSome (f : FnE) : FnO := fun δ h => (f δ h).bind fun x h1 => match x with
  | .int i => .ok (some i) h1
  | _ => .stk
theorem fo_none : FO X T W none oNone := by
  refine PO.imp po_none fun σ H Q => ?_
  rintro ⟨G, h0, δ, r, s, o⟩
  exact okR.at o r rfl
theorem fo_some {e : Expr} {f : FnE} (h : FE X T W e f) : FO X T W (some e) (oSome f) := by
  refine PO.imp (po_some h) fun σ H Q h => ?_
  refine tF.bind (k := fun _ x h1 => match x with | .int i => .ok (some i) h1 | _ => .stk) h fun G δ x v h1 H1 r1 s1 d1 o1 => ?_
  cases d1 with
  | int => exact ⟨_, rfl, okR.at o1 r1 rfl⟩
  | _ => exact o1.elim
def cutL {α : Type} (xs : List α) (lo hi : Option Int) : List α := (xs.drop (HT.sIx xs.length 0 lo)).take (HT.sIx xs.length xs.length hi - HT.sIx xs.length 0 lo)
theorem RDs.cut {K : PySem.W.Frag} {G : Gst} {ds : List D} {vs : List V} (r : RDs K T G ds vs) (lo hi : Option Int) : RDs K T G (cutL ds lo hi) (cutV vs lo hi) := by
  unfold cutL cutV
  rw [← r.length]
  exact (r.drop _).take _
def sliceD (x : D) (lo hi : Option Int) (h : Hh) : R D := match x with
  | .tup xs => .ok (.tup (cutL xs lo hi)) h
  | x => match asL h x with
    | some xs => .ok (.lst (cutL xs lo hi)) h
    | none => .stk
def eSlice (f : FnE) (fl fh : FnO) : FnE := fun δ h => (f δ h).bind fun x h1 => (fl δ h1).bind fun l h2 => (fh δ h2).bind fun u h3 => sliceD x l u h3
def AttrOk (X : Cx) (T : Tx) (f : Str) (ix : Nat → Option Nat) : Prop := ∀ c k, ix c = some k → ∃ C nm, T.cls c = some (C, nm) ∧ nm[k]? = some f ∧ nm.Nodup ∧ nm.length < 1000 ∧ Cls X.K C ∧ NoAttr X.K C f
theorem look_at {f : Str} : ∀ {fs : List (Str × V)} {k : Nat} {v : V}, (fs.map (·.1)).Nodup → (fs.map (·.1))[k]? = some f → (fs.map (·.2))[k]? = some v → fs.lookup f = some v
  | [], _, _, _, e, _ => by simp at e
  | (g, y) :: r, 0, v, _, e, q => by
    simp at e q
    subst e; subst q
    simp [List.lookup]
  | (g, y) :: r, k + 1, v, n, e, q => by
    have n' : g ∉ r.map (·.1) ∧ (r.map (·.1)).Nodup := by simpa using n
    have e' : (r.map (·.1))[k]? = some f := by simpa using e
    have ne : f ≠ g := fun z => n'.1 (z ▸ List.mem_of_getElem? e')
    have b : (f == g) = false := beq_eq_false_iff_ne.mpr ne
    simp only [List.lookup, b]
    exact look_at n'.2 e' (by simpa using q)
def optR (o : Option D) (h : Hh) : R D := match o with
  | some d => .ok d h
  | none => .stk
def fieldAt (ix : Nat → Option Nat) (c : Nat) (ds : List D) : Option D := match ix c with
  | some k => ds[k]?
  | none => none
def fldD (ix : Nat → Option Nat) (x : D) (h : Hh) : R D := match x with
  | .obj c ds => optR (fieldAt ix c ds) h
  | .ref n => match h[n]? with
    | some (.obj c ds) => optR (fieldAt ix c ds) h
    | _ => .stk
  | _ => .stk
def eFld (ix : Nat → Option Nat) (fa : FnE) : FnE := fun δ h => (fa δ h).bind (fldD ix)
theorem fe_fld {e : Expr} {f : Str} {ix : Nat → Option Nat} {fa : FnE} (a : AttrOk X T f ix) (he : FE X T W e fa) (hb : attributeBase e f X.env (eval e X.env) = eval e X.env := by rfl) : FE X T W (.Attribute e f pos) (eFld ix fa) := by
  refine PE.imp (pe_fld he hb) fun σ H Q h => ?_
  refine tF.bind (k := fun _ => fldD ix) h fun G δ x v h1 H1 r1 s1 d1 o1 => ?_
  have fin : ∀ {c : Nat} {ds : List D} {a' C dx : Addr} {nm : List Str} {fs : List (Str × V)}, H1 a' = some (.ins C dx fs) → T.cls c = some (C, nm) → fs.map (·.1) = nm.take ds.length → RDs X.K T G ds (fs.map (·.2)) →
      okR X.K T W G σ (RD X.K T) (optR (fieldAt ix c ds) h1) Q →
      ∃ a C dx fs v, V.ref a' = .ref a ∧ H1 a = some (.ins C dx fs) ∧ Cls X.K C ∧ NoAttr X.K C f ∧ fs.lookup f = some v ∧ Q v H1 := fun {c ds a' C dx nm fs} q1 q2 q3 q4 o2 => by
    unfold fieldAt at o2
    cases ei : ix c with
    | none => rw [ei] at o2; exact o2.elim
    | some k =>
      rw [ei] at o2
      dsimp only at o2
      cases ed : ds[k]? with
      | none => rw [ed] at o2; exact o2.elim
      | some d =>
        rw [ed] at o2
        obtain ⟨C', nm', c1, c2, c3, _, c4, c5⟩ := a c k ei
        rw [q2] at c1; cases c1
        obtain ⟨u, eu, du⟩ := q4.get ed
        have hk : k < ds.length := (List.getElem?_eq_some_iff.mp ed).1
        refine ⟨a', C, dx, fs, u, rfl, q1, c4, c5, look_at (k := k) (by rw [q3]; exact c3.sublist (List.take_sublist _ _)) (by rw [q3, List.getElem?_take_of_lt hk]; exact c2) eu, o2.at r1 du⟩
  cases d1 with
  | @obj c ds a' C dx nm fs q1 q2 q3 q4 =>
    exact fin (r1.sub _ _ q1) q2 (by rw [q3, List.take_of_length_le (by rw [q4.length, ← q3]; simp)]) q4 o1
  | @ref n a' q1 =>
    unfold fldD at o1
    dsimp only at o1
    cases q : h1[n]? with
    | none => rw [q] at o1; exact o1.elim
    | some ob =>
      rw [q] at o1
      cases ob with
      | obj c ds =>
        obtain ⟨a2, C, dx, nm, fs, e1, e2, e3, e4, e5, e6⟩ := r1.obj n _ q
        rw [q1] at e1; cases e1
        exact fin e3 e4 e5 e6 o1
      | _ => exact o1.elim
  | _ => exact o1.elim
def putAt (ds : List D) (k : Nat) (d : D) : Option (List D) := if k < ds.length then some (ds.set k d) else if k = ds.length then some (ds ++ [d]) else none
def sFld (ix : Nat → Option Nat) (fo fv : FnE) : FnS := fun δ h => (fv δ h).toS δ fun y h1 => (fo δ h1).toS δ fun x h2 => match x with
  | .ref n => match h2[n]? with
    | some (.obj c ds) => match ix c with
      | some k => match putAt ds k y with
        | some ds' => .nx δ (h2.set n (.obj c ds'))
        | none => .stk
      | none => .stk
    | _ => .stk
  | _ => .stk
theorem putF_new {f : Str} {v : V} : ∀ {fs : List (Str × V)}, f ∉ fs.map (·.1) → putF f v fs = fs ++ [(f, v)]
  | [], _ => rfl
  | (g, y) :: r, h => by
    have h' : ¬ f = g ∧ f ∉ r.map (·.1) := by simpa using h
    show (if g = f then _ else _) = _
    rw [if_neg (fun e => h'.1 e.symm), putF_new h'.2]
    rfl
theorem putF_at {f : Str} {v : V} : ∀ {fs : List (Str × V)} {k : Nat}, (fs.map (·.1)).Nodup → (fs.map (·.1))[k]? = some f → (putF f v fs).map (·.1) = fs.map (·.1) ∧ (putF f v fs).map (·.2) = (fs.map (·.2)).set k v
  | [], _, _, e => by simp at e
  | (g, y) :: r, 0, _, e => by
    simp at e
    subst e
    show (List.map _ (if g = g then _ else _)) = _ ∧ (List.map _ (if g = g then _ else _)) = _
    rw [if_pos rfl]
    simp
  | (g, y) :: r, k + 1, n, e => by
    have n' : g ∉ r.map (·.1) ∧ (r.map (·.1)).Nodup := by simpa using n
    have e' : (r.map (·.1))[k]? = some f := by simpa using e
    have ne : ¬ g = f := fun z => n'.1 (z ▸ List.mem_of_getElem? e')
    obtain ⟨a, b⟩ := putF_at (v := v) n'.2 e'
    show (List.map _ (if g = f then _ else _)) = _ ∧ (List.map _ (if g = f then _ else _)) = _
    rw [if_neg ne]
    simp [a, b]
theorem fs_fld {o value : Expr} {f : Str} {ix : Nat → Option Nat} {fo fv : FnE} {pos' : Pos} (a : AttrOk X T f ix) (ho : FE X T W o fo) (hv : FE X T W value fv) (hs : swapsWith value (some (.Attribute o f pos')) pos.line X.env = pure false := by rfl) :
    FS X T W (.Assign [.Attribute o f pos'] value pos) (sFld ix fo fv) := by
  refine PS.imp (ps_fld ho hv hs) fun D σ H => ?_
  rintro ⟨G, h0, δ, r, s, oo⟩
  refine ⟨G, h0, δ, r, s, (okS.toS (rel := RD X.K T) s oo).mono ?_⟩
  rintro v H1 ⟨G1, y, h1, e1, r1, d1, o1⟩
  refine ⟨G1, h1, δ, r1, s.mono e1, (okS.toS (rel := RD X.K T) (s.mono e1) o1).mono ?_⟩
  rintro w H2 ⟨G2, x, h2, e2, r2, d2, o2⟩
  have d1' := d1.mono e2
  cases d2 with
  | @ref n a' q1 =>
    dsimp only at o2
    cases q : h2[n]? with
    | none => rw [q] at o2; exact o2.elim
    | some ob =>
      rw [q] at o2
      cases ob with
      | obj c ds =>
        dsimp only at o2
        obtain ⟨a2, C, dx, nm, fs, z1, z2, z3, z4, z5, z6⟩ := r2.obj n _ q
        rw [q1] at z1; cases z1
        cases ei : ix c with
        | none => rw [ei] at o2; exact o2.elim
        | some k =>
          rw [ei] at o2
          dsimp only at o2
          cases ep : putAt ds k y with
          | none => rw [ep] at o2; exact o2.elim
          | some ds' =>
            rw [ep] at o2
            dsimp only at o2
            obtain ⟨C', nm', c1, c2, c3, c4, c5, c6⟩ := a c k ei
            rw [z4] at c1; cases c1
            have nd : (fs.map (·.1)).Nodup := by rw [z5]; exact c3.sublist (List.take_sublist _ _)
            have lf : fs.length = ds.length := by have := z6.length; simpa using this.symm
            have lle : ds.length ≤ nm.length := by
              have := congrArg List.length z5
              rw [List.length_map, List.length_take] at this
              omega
            have hn : n < h2.length := (List.getElem?_eq_some_iff.mp q).1
            refine ⟨a', C, dx, fs, rfl, z3, c5, c6, by omega, ?_⟩
            have key : (putF f v fs).map (·.1) = nm.take ds'.length ∧ RDs X.K T G2 ds' ((putF f v fs).map (·.2)) := by
              unfold putAt at ep
              by_cases hk : k < ds.length
              · rw [if_pos hk] at ep; cases ep
                obtain ⟨p1, p2⟩ := putF_at (v := v) (k := k) nd (by rw [z5, List.getElem?_take_of_lt hk]; exact c2)
                rw [p1, p2, z5]
                exact ⟨by rw [List.length_set], z6.set d1' k⟩
              · rw [if_neg hk] at ep
                by_cases hk2 : k = ds.length
                · rw [if_pos hk2] at ep; cases ep
                  subst hk2
                  have nf : f ∉ fs.map (·.1) := fun m => by
                    rw [z5] at m
                    obtain ⟨j, hj⟩ := List.mem_iff_getElem?.mp m
                    have hjl : j < ds.length := by
                      have := (List.getElem?_eq_some_iff.mp hj).1
                      rw [List.length_take] at this; omega
                    rw [List.getElem?_take_of_lt hjl] at hj
                    have := nodup_ix c3 hj c2
                    omega
                  rw [putF_new nf, List.map_append, List.map_append, z5]
                  refine ⟨?_, z6.append (.cons d1' .nil)⟩
                  rw [List.length_append, List.length_singleton, List.take_add_one, c2]
                  rfl
                · rw [if_neg hk2] at ep; cases ep
            refine o2 G2 _ σ (Ext.refl G2) (r2.put hn z2 ?_) (s.mono (e1.trans e2))
            exact ⟨a', C, dx, nm, _, q1, z2, upd_same, z4, key.1, key.2⟩
      | _ => exact o2.elim
  | _ => exact o2.elim
end
end L3
set_option autoImplicit false
set_option maxHeartbeats 4000000
namespace L3
open PySem PySem.Spec L2
section
variable {X : Cx} {T : Tx} {W : WX} {pos : Pos}
abbrev FnG := D → De → Option De
abbrev FnGs := List D → De → Option De
def SameOut (is : List Nat) (σ σ' : L2.St) : Prop := σ'.length = σ.length ∧ ∀ i, i ∉ is → σ'[i]? = σ[i]?
theorem SameOut.refl (is : List Nat) (σ : L2.St) : SameOut is σ σ := ⟨rfl, fun _ _ => rfl⟩
theorem SameOut.trans {is js : List Nat} {σ σ1 σ2 : L2.St} (a : SameOut is σ σ1) (b : SameOut js σ1 σ2) : SameOut (is ++ js) σ σ2 :=
  ⟨b.1.trans a.1, fun i h => by
    have h' : i ∉ is ∧ i ∉ js := by simpa using h
    exact (b.2 i h'.2).trans (a.2 i h'.1)⟩
theorem SameOut.set (σ : L2.St) (i : Nat) (x : Option V) : SameOut [i] σ (σ.set i x) := ⟨by simp, fun j h => by
  have h' : j ≠ i := by simpa using h
  exact List.getElem?_set_ne (Ne.symm h')⟩
def tG (K : PySem.W.Frag) (T : Tx) (is : List Nat) (g : FnG) : TG := fun v σ H Q => ∃ G h δ d δ', Rel K T G h H ∧ RSl K T G δ σ ∧ RD K T G d v ∧ g d δ = some δ' ∧ ∀ σ', RSl K T G δ' σ' → SameOut is σ σ' → Q σ' H
def tGs (K : PySem.W.Frag) (T : Tx) (is : List Nat) (g : FnGs) : TGs := fun vs σ H Q => ∃ G h δ ds δ', Rel K T G h H ∧ RSl K T G δ σ ∧ RDs K T G ds vs ∧ g ds δ = some δ' ∧ ∀ σ', RSl K T G δ' σ' → SameOut is σ σ' → Q σ' H
abbrev FG (X : Cx) (T : Tx) (e : Expr) (is : List Nat) (g : FnG) : Prop := PG X e (tG X.K T is g)
abbrev FGs (X : Cx) (T : Tx) (es : List Expr) (is : List Nat) (g : FnGs) : Prop := PGs X es (tGs X.K T is g)
theorem PG.imp {e : Expr} {t t' : TG} (h : PG X e t) (q : ∀ v σ H Q, t' v σ H Q → t v σ H Q) : PG X e t' := ⟨fun pins s σ H v u Q I r z => h.run pins s σ H v u Q I r (q _ _ _ _ z)⟩
theorem PGs.imp {e : List Expr} {t t' : TGs} (h : PGs X e t) (q : ∀ v σ H Q, t' v σ H Q → t v σ H Q) : PGs X e t' := ⟨fun pins s σ H v u Q I r z => h.run pins s σ H v u Q I r (q _ _ _ _ z)⟩
theorem PG.or {e : Expr} {t t' : TG} (h : PG X e t) (h' : PG X e t') : PG X e (fun v σ H Q => t v σ H Q ∨ t' v σ H Q) := ⟨fun pins s σ H v u Q I r z => z.elim (h.run pins s σ H v u Q I r) (h'.run pins s σ H v u Q I r)⟩
def gSet (i : Nat) : FnG := fun d δ => some (δ.set i (some d))
theorem fg_name (i : Nat) {x : Str} (hN : X.N.Nodup) (hi : X.N[i]? = some x) (hx : Loc X.env.scope x) (hf : X.fn x = true ∨ X.env.scope.names.lookup x = some .local := by first | exact .inl rfl | exact .inr rfl | assumption) : FG X T (.Name x pos) [i] (gSet i) := by
  refine PG.imp (pg_name hN hi hx hf) fun v σ H Q => ?_
  rintro ⟨G, h, δ, d, δ', r, s, rd, e, k⟩
  cases e
  exact k _ (s.set rd i) (SameOut.set σ i _)
def gsNil : FnGs := fun ds δ => match ds with
  | [] => some δ
  | _ => none
def gsCons (g : FnG) (gs : FnGs) : FnGs := fun ds δ => match ds with
  | d :: r => match g d δ with
    | some δ' => gs r δ'
    | none => none
  | [] => none
theorem fgs_nil : FGs X T [] [] gsNil := by
  refine PGs.imp pgs_nil fun v σ H Q => ?_
  rintro ⟨G, h, δ, ds, δ', r, s, rd, e, k⟩
  cases rd with
  | nil => cases e; exact ⟨rfl, k _ s (SameOut.refl _ _)⟩
  | cons _ _ => cases e
theorem fgs_cons {e : Expr} {es : List Expr} {is js : List Nat} {g : FnG} {gs : FnGs} (h1 : FG X T e is g) (h2 : FGs X T es js gs) (hs : (assignEach (e :: es) X.env).map (·.2) = assign e X.env :: (assignEach es X.env).map (·.2) := by rfl) : FGs X T (e :: es) (is ++ js) (gsCons g gs) := by
  refine PGs.imp (pgs_cons h1 h2 hs) fun v σ H Q => ?_
  rintro ⟨G, h, δ, ds, δ', r, s, rd, e, k⟩
  cases rd with
  | nil => cases e
  | @cons d v ds vs q1 q2 =>
    unfold gsCons at e
    dsimp only at e
    cases eg : g d δ with
    | none => rw [eg] at e; cases e
    | some δ1 =>
      rw [eg] at e
      exact ⟨v, vs, rfl, G, h, δ, d, δ1, r, s, q1, eg, fun σ1 s1 o1 => ⟨G, h, δ1, ds, δ', r, s1, q2, e, fun σ2 s2 o2 => k σ2 s2 (o1.trans o2)⟩⟩
def gTupD (n : Nat) (gs : FnGs) : FnG := fun d δ => match d with
  | .tup ds => if ds.length = n then gs ds δ else none
  | .lst ds => if ds.length = n then gs ds δ else none
  | _ => none
theorem fg_tup {es : List Expr} {k : Nat} {is : List Nat} {gs : FnGs} {n : Nat} (hc : X.calm = true) (h : FGs X T es is gs) (hn : (assignEach es X.env).length = n := by rfl) (hst : (assignEach es X.env).findIdx? (·.1) = none := by rfl) : FG X T (.Tuple es k pos) is (gTupD n gs) := by
  refine PG.imp (PG.or (pg_tup hc h hn hst) (pg_lst hc h hn hst)) fun v σ H Q => ?_
  rintro ⟨G, h, δ, d, δ', r, s, rd, e, k⟩
  cases rd with
  | @tup ds a vs q1 q2 =>
    unfold gTupD at e
    dsimp only at e
    by_cases hl : ds.length = n
    · rw [if_pos hl] at e
      exact .inl ⟨a, vs, rfl, SqT.sub r.sub q1, q2.length.symm.trans hl, G, h, δ, ds, δ', r, s, q2, e, k⟩
    · rw [if_neg hl] at e; cases e
  | @lst ds a vs q1 q2 =>
    unfold gTupD at e
    dsimp only at e
    by_cases hl : ds.length = n
    · rw [if_pos hl] at e
      exact .inr ⟨a, vs, rfl, .inl (.inl (r.sub _ _ q1)), q2.length.symm.trans hl, G, h, δ, ds, δ', r, s, q2, e, k⟩
    · rw [if_neg hl] at e; cases e
  | _ => cases e
def sAsg (g : FnG) (f : FnE) : FnS := fun δ h => (f δ h).toS δ fun x h1 => match g x δ with
  | some δ' => .nx δ' h1
  | none => .stk
theorem fs_asg {tg e : Expr} {f : FnE} {is : List Nat} {g : FnG} (hg : FG X T tg is g) (he : FE X T W e f) (hs : swapsWithSole [tg] e pos.line X.env = pure false := by rfl) (hw : swappedStores [tg] e X.env = pure none := by rfl)
    (h1 : (assignEach [tg] X.env).map (·.2) = [assign tg X.env] := by rfl) : FS X T W (.Assign [tg] e pos) (sAsg g f) := by
  refine PS.imp (ps_asg he hg hs hw h1) fun D σ H h => ?_
  refine tS.bind (k := fun δ x h1 => match g x δ with | some δ' => .nx δ' h1 | none => .stk) h fun G δ x w h1 H1 r1 s1 d1 o1 => ?_
  cases eg : g x δ with
  | none => rw [eg] at o1; exact o1.elim
  | some δ' =>
    rw [eg] at o1
    exact ⟨G, h1, δ, x, δ', r1, s1, d1, eg, fun σ' s' _ => o1 G H1 σ' (Ext.refl G) r1 s'⟩
def setAll (ix : List Nat) (ds : List D) (δ : De) : De := match ix, ds with
  | i :: ix, d :: ds => setAll ix ds (δ.set i (some d))
  | _, _ => δ
def kPar (ix : List Nat) (δ : De) (ds : List D) (h1 : Hh) : RS := if ds.length = ix.length then .nx (setAll ix ds δ) h1 else .stk
def sPar (ix : List Nat) (fa : FnA) : FnS := fun δ h => (fa δ h).toS δ (kPar ix δ)
theorem fs_par {i j : Nat} {x y : Str} {a b : Expr} {fa : FnA} {px py pt : Pos} {kt k2 pt2} (hc : X.calm = true) (hN : X.N.Nodup) (hi : X.N[i]? = some x) (hj : X.N[j]? = some y) (hij : i ≠ j)
    (hx : X.env.scope.names.lookup x = some .local) (hy : X.env.scope.names.lookup y = some .local) (ha : FA X T W [a, b] fa)
    (hw : swappedStores [.Tuple [.Name x px, .Name y py] kt pt] (.Tuple [a, b] k2 pt2) X.env = pure (some [x, y]))
    (hs : swapsWithSole [.Tuple [.Name x px, .Name y py] kt pt] (.Tuple [a, b] k2 pt2) pos.line X.env = pure false := by rfl) :
    FS X T W (.Assign [.Tuple [.Name x px, .Name y py] kt pt] (.Tuple [a, b] k2 pt2) pos) (sPar [i, j] fa) := by
  refine PS.imp (ps_par hc hN hi hj hij hx hy ha hw hs) fun D σ H h => ?_
  refine tS.bind (k := kPar [i, j]) h fun G δ ds vs h1 H1 r1 s1 d1 o1 => ?_
  unfold kPar at o1
  by_cases hl : ds.length = [i, j].length
  · rw [if_pos hl] at o1
    match ds, vs, d1, hl, o1 with
    | [d, e], [v, w], .cons q1 (.cons q2 .nil), _, o1 => exact ⟨v, w, rfl, o1 G H1 _ (Ext.refl G) r1 ((s1.set q1 i).set q2 j)⟩
  · rw [if_neg hl] at o1; exact o1.elim
theorem fs_par3 {i j l : Nat} {x y z : Str} {a b c : Expr} {fa : FnA} {px py pz pt : Pos} {kt k2 pt2} (hc : X.calm = true) (hN : X.N.Nodup) (hi : X.N[i]? = some x) (hj : X.N[j]? = some y) (hl : X.N[l]? = some z) (hij : i ≠ j) (hil : i ≠ l) (hjl : j ≠ l)
    (hx : X.env.scope.names.lookup x = some .local) (hy : X.env.scope.names.lookup y = some .local) (hz : X.env.scope.names.lookup z = some .local) (ha : FA X T W [a, b, c] fa)
    (hw : swappedStores [.Tuple [.Name x px, .Name y py, .Name z pz] kt pt] (.Tuple [a, b, c] k2 pt2) X.env = pure (some [x, y, z]))
    (hs : swapsWithSole [.Tuple [.Name x px, .Name y py, .Name z pz] kt pt] (.Tuple [a, b, c] k2 pt2) pos.line X.env = pure false := by rfl) :
    FS X T W (.Assign [.Tuple [.Name x px, .Name y py, .Name z pz] kt pt] (.Tuple [a, b, c] k2 pt2) pos) (sPar [i, j, l] fa) := by
  refine PS.imp (ps_par3 hc hN hi hj hl hij hil hjl hx hy hz ha hw hs) fun D σ H h => ?_
  refine tS.bind (k := kPar [i, j, l]) h fun G δ ds vs h1 H1 r1 s1 d1 o1 => ?_
  unfold kPar at o1
  by_cases hl : ds.length = [i, j, l].length
  · rw [if_pos hl] at o1
    match ds, vs, d1, hl, o1 with
    | [d, e, f], [u, v, w], .cons q1 (.cons q2 (.cons q3 .nil)), _, o1 => exact ⟨u, v, w, rfl, o1 G H1 _ (Ext.refl G) r1 (((s1.set q1 i).set q2 j).set q3 l)⟩
  · rw [if_neg hl] at o1; exact o1.elim
def Walk3 (K : PySem.W.Frag) (T : Tx) (J : It) (G : Gst) (items : List D) : Prop := ∀ (i : Nat) G2 h2 H2, Ext0 G G2 → Rel K T G2 h2 H2 →
  (∀ d, items[i]? = some d → J.go i H2 ∧ ∀ x H3, J.yld i H2 x H3 → ∃ G3, Ext G2 G3 ∧ Rel K T G3 h2 H3 ∧ RD K T G3 d x) ∧ (i = items.length → J.stop i H2)
abbrev FnI := De → Hh → R (List D)
def tI (K : PySem.W.Frag) (T : Tx) (W : WX) (f : FnI) : TI := fun σ H Q => ∃ G h δ, Rel K T G h H ∧ RSl K T G δ σ ∧ okR K T W G σ (fun G ds J => Walk3 K T J G ds) (f δ h) Q
abbrev FI (X : Cx) (T : Tx) (W : WX) (tg e : Expr) (f : FnI) : Prop := PI X tg e (tI X.K T W f)
theorem PI.imp {tg e : Expr} {t t' : TI} (h : PI X tg e t) (q : ∀ σ H Q, t' σ H Q → t σ H Q) : PI X tg e t' := ⟨fun pins s σ H Q I z => h.run pins s σ H Q I (q _ _ _ z)⟩
theorem PI.or {tg e : Expr} {t t' : TI} (h : PI X tg e t) (h' : PI X tg e t') : PI X tg e (fun σ H Q => t σ H Q ∨ t' σ H Q) := ⟨fun pins s σ H Q I z => z.elim (h.run pins s σ H Q I) (h'.run pins s σ H Q I)⟩
def iSeq (f : FnE) : FnI := fun δ h => (f δ h).bind fun x h1 => match x with
  | .tup ds => .ok ds h1
  | .lst ds => .ok ds h1
  | .scr ds => .ok ds h1
  | _ => .stk
theorem walk_tup {K : PySem.W.Frag} {G : Gst} {a : Addr} {ds : List D} {vs : List V} (q1 : SqT K G.fz a vs) (q2 : RDs K T G ds vs) : Walk3 K T (Itt K a) G ds := fun i G2 h2 H2 x r => by
  have z : SqT K H2 a vs := SqT.sub r.sub (SqT.sub x.fz q1)
  refine ⟨fun d e => ?_, fun hl => ⟨vs, z, by rw [← q2.length]; omega⟩⟩
  obtain ⟨v, ev, dv⟩ := q2.get e
  exact ⟨⟨vs, v, z, ev⟩, fun y H3 ⟨e1, e2⟩ => by
    subst e1
    have := e2 vs z
    rw [ev] at this; cases this
    exact ⟨G2, Ext.refl G2, r, dv.mono0 x⟩⟩
def rgD (lo : Int) (n : Nat) : List D := (List.range n).map fun (i : Nat) => D.int (lo + i)
theorem walk_rng {K : PySem.W.Frag} {G : Gst} {lo : Int} {n : Nat} : Walk3 K T (Itr lo n) G (rgD lo n) := fun i G2 h2 H2 x r => by
  refine ⟨fun d e => ?_, fun hl => by
    have hl' : i = n := by simpa [rgD] using hl
    exact Nat.le_of_eq hl'.symm⟩
  unfold rgD at e
  rw [List.getElem?_map] at e
  obtain ⟨j, ej, rfl⟩ := Option.map_eq_some_iff.mp e
  obtain ⟨hj, e2⟩ := List.getElem?_eq_some_iff.mp ej
  simp at e2 hj
  subst e2
  exact ⟨hj, fun y H3 ⟨e1, e3⟩ => by subst e1; subst e3; exact ⟨G2, Ext.refl G2, r, .int⟩⟩
def iRg1 (f : FnE) : FnI := fun δ h => (f δ h).bind fun x h1 => match x with
  | .int j => if -(2 ^ 62) ≤ j ∧ j < 2 ^ 62 then .ok (rgD 0 j.toNat) h1 else .stk
  | _ => .stk
theorem fi_range1 {tg a : Expr} {f : FnE} {p : Pos} (hg : Gl X "range") (hm : X.mg "range" = none) (ha : FE X T W a f) (hs : starEach [a] X.env = [(false, eval a X.env)] := by rfl) : FI X T W tg (.Call (.Name "range" p) [a] [] pos) (iRg1 f) := by
  refine PI.imp (pi_range1 hg hm (fa_cons ha fa_nil hs) hs) fun σ H Q => ?_
  rintro ⟨G, h0, δ, r, s, o⟩
  refine ⟨G, h0, δ, r, s, ?_⟩
  show okR X.K T W G σ (RDs X.K T) ((f δ h0).bind fun x h1 => R.ok [x] h1) _
  unfold iRg1 at o
  cases ef : f δ h0 with
  | stk => rw [ef] at o; exact o.elim
  | exc c ds h' => rw [ef] at o; exact o
  | ok x h' =>
    rw [ef] at o
    intro G' H' vs e r' d
    match vs, d with
    | [v], .cons q .nil =>
      cases q with
      | @int j =>
        have o' : okR X.K T W G σ (fun G ds J => Walk3 X.K T J G ds) (if -(2 ^ 62) ≤ j ∧ j < 2 ^ 62 then R.ok (rgD 0 j.toNat) h' else .stk) Q := o
        by_cases hl : -(2 ^ 62) ≤ j ∧ j < 2 ^ 62
        · rw [if_pos hl] at o'
          exact ⟨j, rfl, hl.1, hl.2, o' G' H' _ e r' walk_rng⟩
        · rw [if_neg hl] at o'; exact o'.elim
      | _ => exact o.elim
def loop3 (g : FnG) (u : FnS) : List D → De → Hh → RS
  | [], δ, h => .nx δ h
  | d :: ds, δ, h => match g d δ with
    | none => .stk
    | some δ1 => match u δ1 h with
      | .nx δ2 h2 => loop3 g u ds δ2 h2
      | .ct δ2 h2 => loop3 g u ds δ2 h2
      | .bk δ2 h2 => .nx δ2 h2
      | r => r
def sFor (f : FnI) (g : FnG) (u : FnS) : FnS := fun δ h => (f δ h).toS δ fun items h1 => loop3 g u items δ h1
theorem fs_for {tg iter : Expr} {body : List Stmt} {f : FnI} {is : List Nat} {g : FnG} {u : FnS} (hp : PassesOwn (model X.prog X.w) X.A X.env X.xe) (hc : X.calm = true) (hi : FI X T W tg iter f) (hg : FG X T tg is g) (hb : FSs X T W body u)
    (hs : ∀ x, foldedSetIterable iter X.env x = pure x := by intro _; rfl) : FS X T W (.For tg iter body [] pos) (sFor f g u) := by
  refine PS.imp (ps_for hp hc hi hg hb hs) fun D σ H => ?_
  rintro ⟨G, h0, δ, r, s, o⟩
  refine ⟨G, h0, δ, r, s, (okS.toS (rel := fun G ds J => Walk3 X.K T J G ds) s o).mono ?_⟩
  rintro J H1 ⟨G1, items, h1, e1, r1, w, o1⟩
  refine ⟨fun i m σ' H' => i ≤ items.length ∧ m = items.length - i ∧ ∃ G2 h2 δ2, Ext G1 G2 ∧ Rel X.K T G2 h2 H' ∧ RSl X.K T G2 δ2 σ' ∧ okS X.K T W G2 (loop3 g u (items.drop i) δ2 h2) D,
    ⟨_, Nat.zero_le _, rfl, G1, h1, δ, Ext.refl G1, r1, s.mono e1, o1⟩, ?_⟩
  rintro i m σ' H' ⟨hi', rfl, G2, h2, δ2, e2, r2, s2, o2⟩
  by_cases hlt : i < items.length
  · refine .inr ?_
    have ed : items[i]? = some items[i] := by simp [hlt]
    obtain ⟨go, yl⟩ := (w i G2 h2 H' e2.e0 r2).1 _ ed
    rw [List.drop_eq_getElem_cons hlt] at o2
    unfold loop3 at o2
    refine ⟨go, fun σ3 H3 => ∃ m', m' < items.length - i ∧ i + 1 ≤ items.length ∧ m' = items.length - (i + 1) ∧ ∃ G2 h2 δ2, Ext G1 G2 ∧ Rel X.K T G2 h2 H3 ∧ RSl X.K T G2 δ2 σ3 ∧ okS X.K T W G2 (loop3 g u (items.drop (i + 1)) δ2 h2) D,
      fun σ3 H3 ⟨m', a, b, c, d⟩ => ⟨m', a, b, c, d⟩, fun x H3 y => ?_⟩
    obtain ⟨G3, e3, r3, d3⟩ := yl x H3 y
    cases eg : g items[i] δ2 with
    | none => rw [eg] at o2; exact o2.elim
    | some δ3 =>
      rw [eg] at o2
      dsimp only at o2
      refine ⟨G3, h2, δ2, items[i], δ3, r3, s2.mono e3, d3, eg, fun σ4 s4 _ => ⟨G3, h2, δ3, r3, s4, ?_⟩⟩
      have again : ∀ {δ5 : De} {h5 : Hh}, okS X.K T W G2 (loop3 g u (items.drop (i + 1)) δ5 h5) D → ∀ G' H' σ', Ext G3 G' → Rel X.K T G' h5 H' → RSl X.K T G' δ5 σ' →
          ∃ m', m' < items.length - i ∧ i + 1 ≤ items.length ∧ m' = items.length - (i + 1) ∧ ∃ G2 h2 δ2, Ext G1 G2 ∧ Rel X.K T G2 h2 H' ∧ RSl X.K T G2 δ2 σ' ∧ okS X.K T W G2 (loop3 g u (items.drop (i + 1)) δ2 h2) D :=
        fun {δ5 h5} o5 G' H' σ' e r' s' => ⟨_, by omega, hlt, rfl, G', h5, δ5, e2.trans (e3.trans e), r', s', okS.ext (e3.trans e) o5⟩
      cases eu : u δ3 h2 with
      | nx δ5 h5 => rw [eu] at o2; exact again o2
      | ct δ5 h5 => rw [eu] at o2; exact again o2
      | bk δ5 h5 => rw [eu] at o2; exact okS.ext e3 o2
      | rt d h5 => rw [eu] at o2; exact okS.ext e3 o2
      | exc c ds δ5 h5 => rw [eu] at o2; exact okS.ext e3 o2
      | stk => rw [eu] at o2; exact o2
  · refine .inl ⟨(w i G2 h2 H' e2.e0 r2).2 (by omega), ?_⟩
    rw [List.drop_eq_nil_of_le (by omega)] at o2
    exact o2 G2 H' σ' (Ext.refl G2) r2 s2
end
end L3
set_option autoImplicit false
set_option maxHeartbeats 4000000
namespace L3
open PySem PySem.Spec L2
open PyProof.Rows (envOfC)
section
variable {X : Cx} {T : Tx} {W : WX} {pos : Pos}
abbrev W0 : WX := fun _ _ _ _ => False
def wipeD (δ : De) : List Nat → De
  | [] => δ
  | v :: vs => (wipeD δ vs).set v none
theorem RSl.wipe {K : PySem.W.Frag} {G : Gst} {δ : De} {σ : L2.St} (r : RSl K T G δ σ) : ∀ vs : List Nat, RSl K T G (wipeD δ vs) (L2.wipe σ vs)
  | [] => r
  | v :: vs => (RSl.wipe r vs).unset v none
theorem wipe_get {σ : L2.St} : ∀ {vs : List Nat} {i : Nat}, i ∉ vs → (L2.wipe σ vs)[i]? = σ[i]?
  | [], _, _ => rfl
  | v :: vs, i, h => by
    have h' : i ≠ v ∧ i ∉ vs := by simpa using h
    unfold L2.wipe
    rw [List.getElem?_set_ne (Ne.symm h'.1)]
    exact wipe_get h'.2
theorem wipe_in {σ : L2.St} : ∀ {vs : List Nat} {i : Nat}, i ∈ vs → i < σ.length → (L2.wipe σ vs)[i]? = some none
  | v :: vs, i, h, hl => by
    unfold L2.wipe
    by_cases e : i = v
    · subst e
      exact List.getElem?_set_self (by rw [wipe_length]; exact hl)
    · rw [List.getElem?_set_ne (Ne.symm e)]
      exact wipe_in (by simpa [e] using h) hl
theorem wipe_same {σ σ' : L2.St} {vs is : List Nat} (o : SameOut is (L2.wipe σ vs) σ') (hs : ∀ i ∈ is, i ∈ vs) : L2.wipe σ' vs = L2.wipe σ vs := by
  have hl : σ'.length = σ.length := by rw [o.1, wipe_length]
  refine List.ext_getElem? fun i => ?_
  by_cases hi : i ∈ vs
  · by_cases h : i < σ.length
    · rw [wipe_in hi (by omega), wipe_in hi h]
    · rw [List.getElem?_eq_none (by rw [wipe_length]; omega), List.getElem?_eq_none (by rw [wipe_length]; omega)]
  · rw [wipe_get hi, o.2 i (fun m => hi (hs i m))]
def lcs (g : FnG) (t : FnT) (e : FnE) (δ : De) : List D → Hh → R (List D)
  | [], h => .ok [] h
  | d :: ds, h => match g d δ with
    | none => .stk
    | some δ1 => match t δ1 h with
      | .ok b h1 => if b = true then
          match e δ1 h1 with
          | .ok y h2 => (lcs g t e δ ds h2).bind fun ys h3 => .ok (y :: ys) h3
          | _ => .stk
        else lcs g t e δ ds h1
      | _ => .stk
def kLst (mu : Bool) (xs : List D) (h1 : Hh) : R D := if lineOk xs.length = true then (if mu = true then .ok (.ref h1.length) (h1 ++ [.lst xs]) else .ok (.lst xs) h1) else .stk
def eLc (mu : Bool) (f : FnI) (g : FnG) (t : FnT) (e : FnE) (vs : List Nat) : FnE := fun δ h => (f δ h).bind fun items h1 => (lcs g t e (wipeD δ vs) items h1).bind (kLst mu)
def tYes3 : FnT := fun _ h => .ok true h
abbrev FTs (X : Cx) (T : Tx) (W : WX) (ifs : List Expr) (t : FnT) : Prop := PTs X ifs (tT X.K T W t)
theorem fts_nil : FTs X T W [] tYes3 := ⟨fun pins s σ H Q I ⟨G, h0, δ, r, s', o⟩ => pts_nil.run pins s σ H Q I (o.at r rfl)⟩
theorem fts_one {c : Expr} {t : FnT} (h : FT X T W c t) : FTs X T W [c] t := pts_one h
def Gst.guard (G : Gst) (p : Addr) (o : HO) : Gst := { G with pr := upd G.pr p o }
theorem Ext0.of {G G' : Gst} (e1 : G'.ι = G.ι) (e2 : ∀ a o, G.fz a = some o → G'.fz a = some o) (e4 : G'.lk = G.lk := by rfl) : Ext0 G G' := ⟨⟨[], by simp [e1]⟩, e2, e4⟩
theorem RO.ghost {K : PySem.W.Frag} {G : Gst} {H H' : Hp} {n : Nat} {o : O} (r : RO K T G H n o) (G' : Gst) (e1 : G'.ι = G.ι) (e2 : ∀ a o, G.fz a = some o → G'.fz a = some o) (e3 : G'.own = G.own) (hb : ∀ b, G.own b = some n → H' b = H b) (e4 : G'.lk = G.lk := by rfl) : RO K T G' H' n o := by
  cases o with
  | lst ds => obtain ⟨a, vs, z1, z2, z3, z4⟩ := r; exact ⟨a, vs, by rw [e1]; exact z1, by rw [e3]; exact z2, by rw [hb _ z2]; exact z3, z4.mono0 (.of e1 e2 e4)⟩
  | dic ks vs => obtain ⟨a, kvs, z1, z2, z3, z4, z5⟩ := r; exact ⟨a, kvs, by rw [e1]; exact z1, by rw [e3]; exact z2, by rw [hb _ z2]; exact z3, z4.mono0 (.of e1 e2 e4), z5.mono0 (.of e1 e2 e4)⟩
  | dicL ks vs => obtain ⟨a, od, kvs, z1, z2, z4, z5⟩ := r; exact ⟨a, od, kvs, by rw [e1]; exact z1, by rw [e4]; exact z2, z4.mono0 (.of e1 e2 e4), z5.mono0 (.of e1 e2 e4)⟩
  | dit ks vs => obtain ⟨a, kvs, z1, z2, z3, z4, z5⟩ := r; exact ⟨a, kvs, by rw [e1]; exact z1, by rw [e3]; exact z2, by rw [hb _ z2]; exact z3, z4, z5.mono0 (.of e1 e2 e4)⟩
  | dkn ks vs => obtain ⟨a, xs, z1, z2, z3, z4, z5, z6⟩ := r; exact ⟨a, xs, by rw [e1]; exact z1, by rw [e3]; exact z2, by rw [hb _ z2]; exact z3, z4, z5.mono0 (.of e1 e2 e4), z6.mono0 (.of e1 e2 e4)⟩
  | obj c ds => obtain ⟨a, C, dx, nm, fs, z1, z2, z3, z4, z5, z6⟩ := r; exact ⟨a, C, dx, nm, fs, by rw [e1]; exact z1, by rw [e3]; exact z2, by rw [hb _ z2]; exact z3, z4, z5, z6.mono0 (.of e1 e2 e4)⟩
  | src s => obtain ⟨a, z1, z2⟩ := r; exact ⟨a, by rw [e1]; exact z1, by rw [e3]; exact T.srcStay _ _ _ _ _ z2 hb⟩
  | dead => trivial
  | err c ds => obtain ⟨a, cls, dd, z1, z2, z3⟩ := r; exact ⟨a, cls, dd, by rw [e1]; exact z1, z2, RX.monoV ⟨⟨[], by simp [e1]⟩, e2⟩ z3⟩
  | tab q => obtain ⟨a, ps, z1, z2, z3, z4, z5⟩ := r; exact ⟨a, ps, by rw [e1]; exact z1, by rw [e3]; exact z2, by rw [hb _ z2]; exact z3, z4, z5.monoV e2⟩
  | lam q cap => obtain ⟨a, c, z1, z2, z3, z4⟩ := r; exact ⟨a, c, by rw [e1]; exact z1, z2, e2 _ _ z3, z4.monoV ⟨⟨[], by simp [e1]⟩, e2⟩⟩
  | dkL ks vs => obtain ⟨a, od, xs, z1, z2, z4, z5, z6⟩ := r; exact ⟨a, od, xs, by rw [e1]; exact z1, by rw [e4]; exact z2, z4, z5.mono0 (.of e1 e2 e4), z6.mono0 (.of e1 e2 e4)⟩
  | itr ds i => obtain ⟨a, l, vs, z1, z2, z3, z4, z5⟩ := r; exact ⟨a, l, vs, by rw [e1]; exact z1, by rw [e3]; exact z2, by rw [hb _ z2]; exact z3, SqT.sub e2 z4, z5.mono0 (.of e1 e2 e4)⟩
theorem RSl.ghost {K : PySem.W.Frag} {G G' : Gst} {δ : De} {σ : L2.St} (e1 : G'.ι = G.ι) (e2 : ∀ a o, G.fz a = some o → G'.fz a = some o) (r : RSl K T G δ σ) (e4 : G'.lk = G.lk := by rfl) : RSl K T G' δ σ :=
  ⟨r.len, fun i d e => let ⟨v, h1, h2⟩ := r.at_ i d e; ⟨v, h1, h2.mono0 (.of e1 e2 e4)⟩⟩
theorem Rel.guard {K : PySem.W.Frag} {G : Gst} {h : Hh} {H : Hp} (r : Rel K T G h H) {p : Addr} {o : HO} (hp : H p = none) : Rel K T (G.guard p o) h (upd H p o) := by
  have nown : ∀ b n, G.own b = some n → b ≠ p := fun b n q z => (r.own b n q).2.2 (by rw [z]; exact hp)
  refine ⟨r.len, fun a u q => ?_, fun a n q => ?_, fun a u q => ?_, fun a u q => ?_, fun n u q => ?_⟩
  · have := r.sub a u q
    rw [upd_ne (ne_of_none this hp)]; exact this
  · obtain ⟨h1, h2, h3⟩ := r.own a n q
    exact ⟨h1, h2, by rw [upd_ne (nown a n q)]; exact h3⟩
  · have q' : upd G.pr p o a = some u := q
    by_cases ha : a = p
    · subst ha
      rw [upd_same] at q' ⊢
      refine ⟨q', r.fzNone hp, ?_, ?_⟩
      · show G.own a = none
        cases e : G.own a with
        | none => rfl
        | some n => exact absurd rfl (nown a n e)
      · show G.lk a = none
        cases e : G.lk a with
        | none => rfl
        | some v => have := (r.lk a v e).1; rw [hp] at this; cases this
    · rw [upd_ne ha] at q' ⊢
      exact r.pr a u q'
  · have z := r.lk a u q
    rw [upd_ne (ne_of_none z.1 hp)]; exact z
  · exact (r.obj n u q).ghost (G.guard p o) rfl (fun _ _ e => e) rfl fun b e => upd_ne (nown b n e)
theorem Rel.reguard {K : PySem.W.Frag} {G : Gst} {h : Hh} {H : Hp} (r : Rel K T G h H) {p : Addr} {o u : HO} (hp : G.pr p = some o) : Rel K T { G with pr := upd G.pr p u } h (upd H p u) := by
  obtain ⟨h1, h2, h3, h4⟩ := r.pr p o hp
  have nown : ∀ b n, G.own b = some n → b ≠ p := fun b n q z => by rw [z, h3] at q; cases q
  refine ⟨r.len, fun a v q => ?_, fun a n q => ?_, fun a v q => ?_, fun a v q => ?_, fun n v q => ?_⟩
  · have na : a ≠ p := fun z => by rw [z, h2] at q; cases q
    rw [upd_ne na]; exact r.sub a v q
  · obtain ⟨z1, z2, z3⟩ := r.own a n q
    exact ⟨z1, z2, by rw [upd_ne (nown a n q)]; exact z3⟩
  · have q' : upd G.pr p u a = some v := q
    by_cases ha : a = p
    · subst ha
      rw [upd_same] at q' ⊢
      exact ⟨q', h2, h3, h4⟩
    · rw [upd_ne ha] at q' ⊢
      exact r.pr a v q'
  · have na : a ≠ p := fun z => by have q' : G.lk a = some v := q; rw [z, h4] at q'; cases q'
    rw [upd_ne na]; exact r.lk a v q
  · exact (r.obj n v q).ghost { G with pr := upd G.pr p u } rfl (fun _ _ e => e) rfl fun b e => upd_ne (nown b n e)
theorem Rel.unguard {K : PySem.W.Frag} {G : Gst} {h : Hh} {H : Hp} (r : Rel K T G h H) {p : Addr} {o : HO} {pr0 : Hp} (hp : G.pr p = some o) (h0 : ∀ a u, pr0 a = some u → a ≠ p ∧ G.pr a = some u) :
    Rel K T { G with pr := pr0, fz := upd G.fz p o } h H := by
  obtain ⟨h1, h2, h3, h4⟩ := r.pr p o hp
  have nown : ∀ b n, G.own b = some n → b ≠ p := fun b n q z => by rw [z, h3] at q; cases q
  refine ⟨r.len, fun a v q => ?_, fun a n q => ?_, fun a v q => ?_, fun a v q => ?_, fun n v q => ?_⟩
  · have q' : upd G.fz p o a = some v := q
    by_cases ha : a = p
    · subst ha; rw [upd_same] at q'; cases q'; exact h1
    · rw [upd_ne ha] at q'; exact r.sub a v q'
  · obtain ⟨z1, z2, z3⟩ := r.own a n q
    exact ⟨z1, by show upd G.fz p o a = none; rw [upd_ne (nown a n q)]; exact z2, z3⟩
  · obtain ⟨na, q'⟩ := h0 a v q
    obtain ⟨z1, z2, z3⟩ := r.pr a v q'
    exact ⟨z1, by show upd G.fz p o a = none; rw [upd_ne na]; exact z2, z3⟩
  · obtain ⟨z1, z2, z3⟩ := r.lk a v q
    have na : a ≠ p := fun z => by have q' : G.lk a = some v := q; rw [z, h4] at q'; cases q'
    exact ⟨z1, by show upd G.fz p o a = none; rw [upd_ne na]; exact z2, z3⟩
  · refine (r.obj n v q).ghost { G with pr := pr0, fz := upd G.fz p o } rfl (fun a u e => ?_) rfl fun b e => rfl
    show upd G.fz p o a = some u
    have na : a ≠ p := fun z => by rw [z, h2] at e; cases e
    rw [upd_ne na]; exact e
def Gst.give (G : Gst) (p : Addr) (pr0 : Hp) : Gst := { ι := G.ι ++ [p], own := fun b => if b = p then some G.ι.length else G.own b, fz := G.fz, pr := pr0, lk := G.lk }
theorem Rel.unguardO {K : PySem.W.Frag} {G : Gst} {h : Hh} {H : Hp} {u : O} (r : Rel K T G h H) {p : Addr} {o : HO} {pr0 : Hp} (hp : G.pr p = some o) (h0 : ∀ a u, pr0 a = some u → a ≠ p ∧ G.pr a = some u)
    (ho : ∀ G', Ext0 G G' → G'.ι[h.length]? = some p → G'.own p = some h.length → (∀ b, G'.own b = some h.length → b = p) → RO K T G' H h.length u) : Ext0 G (G.give p pr0) ∧ Rel K T (G.give p pr0) (h ++ [u]) H := by
  obtain ⟨h1, h2, h3, h4⟩ := r.pr p o hp
  have nown : ∀ b n, G.own b = some n → b ≠ p := fun b n q z => by rw [z, h3] at q; cases q
  have x0 : Ext0 G (G.give p pr0) := ⟨⟨[p], rfl⟩, fun _ _ q => q, rfl⟩
  refine ⟨x0, by simp [Gst.give, r.len], fun a v q => r.sub a v q, fun a n q => ?_, fun a v q => ?_, fun a v q => ?_, fun n v q => ?_⟩
  · have q' : (if a = p then some G.ι.length else G.own a) = some n := q
    by_cases ha : a = p
    · rw [if_pos ha] at q'
      cases q'
      exact ⟨by simp [r.len], by rw [ha]; exact h2, by rw [ha, h1]; simp⟩
    · rw [if_neg ha] at q'
      obtain ⟨z1, z2, z3⟩ := r.own a n q'
      exact ⟨by simp; omega, z2, z3⟩
  · obtain ⟨na, q'⟩ := h0 a v q
    obtain ⟨z1, z2, z3, z4⟩ := r.pr a v q'
    exact ⟨z1, z2, by show (if a = p then some G.ι.length else G.own a) = none; rw [if_neg na]; exact z3, z4⟩
  · obtain ⟨z1, z2, z3⟩ := r.lk a v q
    have na : a ≠ p := fun z => by have q' : G.lk a = some v := q; rw [z, h4] at q'; cases q'
    exact ⟨z1, z2, by show (if a = p then some G.ι.length else G.own a) = none; rw [if_neg na]; exact z3⟩
  · by_cases hn : n < h.length
    · rw [List.getElem?_append_left hn] at q
      have old : ∀ b, (if b = p then some G.ι.length else G.own b) = some n → G.own b = some n := fun b z => by
        by_cases hb : b = p
        · rw [if_pos hb] at z; cases z; rw [r.len] at hn; omega
        · rw [if_neg hb] at z; exact z
      have new : ∀ b, G.own b = some n → (if b = p then some G.ι.length else G.own b) = some n := fun b z => by
        rw [if_neg (nown b n z)]; exact z
      have hi : ∀ a, G.ι[n]? = some a → (G.ι ++ [p])[n]? = some a := fun a e => by
        rw [List.getElem?_append_left (List.getElem?_eq_some_iff.mp e).1]; exact e
      have ro := r.obj n v q
      cases v with
      | lst ds => obtain ⟨a, vs, z1, z2, z3, z4⟩ := ro; exact ⟨a, vs, hi _ z1, new _ z2, z3, z4.mono0 x0⟩
      | dic ks vs => obtain ⟨a, kvs, z1, z2, z3, z4, z5⟩ := ro; exact ⟨a, kvs, hi _ z1, new _ z2, z3, z4.mono0 x0, z5.mono0 x0⟩
      | dicL ks vs => obtain ⟨a, od, kvs, z1, z2, z4, z5⟩ := ro; exact ⟨a, od, kvs, hi _ z1, z2, z4.mono0 x0, z5.mono0 x0⟩
      | dit ks vs => obtain ⟨a, kvs, z1, z2, z3, z4, z5⟩ := ro; exact ⟨a, kvs, hi _ z1, new _ z2, z3, z4, z5.mono0 x0⟩
      | dkn ks vs => obtain ⟨a, xs, z1, z2, z3, z4, z5, z6⟩ := ro; exact ⟨a, xs, hi _ z1, new _ z2, z3, z4, z5.mono0 x0, z6.mono0 x0⟩
      | obj c ds => obtain ⟨a, C, dx, nm, fs, z1, z2, z3, z4, z5, z6⟩ := ro; exact ⟨a, C, dx, nm, fs, hi _ z1, new _ z2, z3, z4, z5, z6.mono0 x0⟩
      | src s =>
        obtain ⟨a, z1, z2⟩ := ro
        refine ⟨a, hi _ z1, ?_⟩
        have e : (fun b => (G.give p pr0).own b = some n) = (fun b => G.own b = some n) := funext fun b => propext ⟨old b, new b⟩
        rw [e]; exact z2
      | dead => trivial
      | err c ds => obtain ⟨a, cls, dd, z1, z2, z3⟩ := ro; exact ⟨a, cls, dd, hi _ z1, z2, RX.monoV ⟨x0.ι, x0.fz⟩ z3⟩
      | tab q => obtain ⟨a, ps, z1, z2, z3, z4, z5⟩ := ro; exact ⟨a, ps, hi _ z1, new _ z2, z3, z4, z5.monoV x0.fz⟩
      | lam q cap => obtain ⟨a, c, z1, z2, z3, z4⟩ := ro; exact ⟨a, c, hi _ z1, z2, x0.fz _ _ z3, z4.monoV ⟨x0.ι, x0.fz⟩⟩
      | dkL ks vs => obtain ⟨a, od, xs, z1, z2, z4, z5, z6⟩ := ro; exact ⟨a, od, xs, hi _ z1, z2, z4, z5.mono0 x0, z6.mono0 x0⟩
      | itr ds i => obtain ⟨a, l, vs, z1, z2, z3, z4, z5⟩ := ro; exact ⟨a, l, vs, hi _ z1, new _ z2, z3, SqT.sub x0.fz z4, z5.mono0 x0⟩
    · have hn' : n = h.length := by
        have := (List.getElem?_eq_some_iff.mp q).1
        simp at this; omega
      subst hn'
      simp at q
      subst q
      refine ho _ x0 ?_ ?_ ?_
      · show (G.ι ++ [p])[h.length]? = some p
        rw [← r.len]; simp
      · show (if p = p then some G.ι.length else G.own p) = some h.length
        rw [if_pos rfl, r.len]
      · intro b z
        have z' : (if b = p then some G.ι.length else G.own b) = some h.length := z
        by_cases hb : b = p
        · exact hb
        · rw [if_neg hb] at z'
          have := (r.own b _ z').1
          omega
structure LcAt (K : PySem.W.Frag) (T : Tx) (G1 : Gst) (p : Addr) (G : Gst) (acc : List D) (h : Hh) (H : Hp) : Prop where
  ι : ∃ t, G.ι = G1.ι ++ t
  fz : ∀ a o, G1.fz a = some o → G.fz a = some o
  lk : G.lk = G1.lk
  pr : ∃ avs, G.pr = upd G1.pr p (.lst avs) ∧ RDs K T G acc avs
  rel : Rel K T G h H
theorem LcAt.ext {K : PySem.W.Frag} {G1 G : Gst} {p : Addr} {acc : List D} {h : Hh} {H : Hp} (l : LcAt K T G1 p G acc h H) : Ext G1 { G with pr := G1.pr } := ⟨l.ι, l.fz, rfl, l.lk⟩
theorem LcAt.step {K : PySem.W.Frag} {G1 G G' : Gst} {p : Addr} {acc : List D} {h h' : Hh} {H H' : Hp} (l : LcAt K T G1 p G acc h H) (x : Ext G G') (r : Rel K T G' h' H') : LcAt K T G1 p G' acc h' H' := by
  obtain ⟨t, e⟩ := l.ι
  obtain ⟨u, e'⟩ := x.ι
  obtain ⟨avs, e2, d⟩ := l.pr
  exact ⟨⟨t ++ u, by rw [e', e, List.append_assoc]⟩, fun a o q => x.fz a o (l.fz a o q), x.lk.trans l.lk, ⟨avs, x.pr.trans e2, d.mono x⟩, r⟩
theorem tE_lc {mu : Bool} {f : FnI} {is : List Nat} {g : FnG} {t : FnT} {e : FnE} {own : List (Str × Nat)} (hin : ∀ i ∈ is, i ∈ own.map (·.2)) {σ : L2.St} {H : Hp} {Q : VK} (hh : tE X.K T W (eLc mu f g t e (own.map (·.2))) σ H Q) :
    tLc (tI X.K T W f) (tG X.K T is g) (tT X.K T W0 t) (tE X.K T W0 e) (own.map (·.2)) σ H Q := by
  revert hh
  rintro ⟨G, h0, δ, r, s, o⟩
  refine ⟨G, h0, δ, r, s, (okR.bind (rel := fun G ds J => Walk3 X.K T J G ds) o).mono ?_⟩
  rintro J H1 ⟨G1, items, h1, e1, r1, w, o1⟩
  intro Dn hD
  have s1 := (s.mono e1).wipe (own.map (·.2))
  refine ⟨fun i m H' => i ≤ items.length ∧ m = items.length - i ∧ ∃ G2 h2 acc, LcAt X.K T G1 Dn G2 acc h2 H' ∧ okR X.K T W G1 σ (RD X.K T) ((lcs g t e (wipeD δ (own.map (·.2))) (items.drop i) h2).bind fun ys h3 => kLst mu (acc ++ ys) h3) Q,
    ⟨_, Nat.zero_le _, rfl, G1.guard Dn (.lst []), h1, [], ⟨⟨[], by simp [Gst.guard]⟩, fun _ _ q => q, rfl, ⟨[], rfl, .nil⟩, r1.guard hD⟩, o1⟩, ?_⟩
  rintro i m H' ⟨hi', rfl, G2, h2, acc, l, o2⟩
  have x02 : Ext0 G1 G2 := ⟨l.ι, l.fz, l.lk⟩
  by_cases hlt : i < items.length
  · refine .inr ?_
    have ed : items[i]? = some items[i] := by simp [hlt]
    obtain ⟨go, yl⟩ := (w i G2 h2 H' x02 l.rel).1 _ ed
    refine ⟨go, fun H3 => ∃ m', m' < items.length - i ∧ i + 1 ≤ items.length ∧ m' = items.length - (i + 1) ∧ ∃ G2 h2 acc, LcAt X.K T G1 Dn G2 acc h2 H3 ∧ okR X.K T W G1 σ (RD X.K T) ((lcs g t e (wipeD δ (own.map (·.2))) (items.drop (i + 1)) h2).bind fun ys h3 => kLst mu (acc ++ ys) h3) Q,
      fun H3 ⟨m', a, b, c, d⟩ => ⟨m', a, b, c, d⟩, fun x H3 y => ?_⟩
    obtain ⟨G3, e3, r3, d3⟩ := yl x H3 y
    have l3 := l.step e3 r3
    have s3 : RSl X.K T G3 (wipeD δ (own.map (·.2))) (L2.wipe σ (own.map (·.2))) := ⟨s1.len, fun j d q => let ⟨v, a, b⟩ := s1.at_ j d q; ⟨v, a, b.mono0 ⟨l3.ι, l3.fz, l3.lk⟩⟩⟩
    rw [List.drop_eq_getElem_cons hlt] at o2
    unfold lcs at o2
    cases eg : g items[i] (wipeD δ (own.map (·.2))) with
    | none => rw [eg] at o2; exact o2.elim
    | some δ3 =>
      rw [eg] at o2
      dsimp only at o2
      refine ⟨G3, h2, _, items[i], δ3, r3, s3, d3, eg, fun σ4 s4 so => ⟨wipe_same so hin, G3, h2, δ3, r3, s4, ?_⟩⟩
      cases et : t δ3 h2 with
      | stk => rw [et] at o2; exact o2.elim
      | exc c ds h' => rw [et] at o2; exact o2.elim
      | ok b h3 =>
        rw [et] at o2
        dsimp only at o2
        intro G4 H4 b' x4 r4 eb
        have eb' : b = b' := eb
        subst eb'
        have l4 := l3.step x4 r4
        cases b with
        | false =>
          rw [if_neg Bool.false_ne_true] at o2 ⊢
          exact ⟨_, by omega, hlt, rfl, G4, h3, acc, l4, o2⟩
        | true =>
          rw [if_pos rfl] at o2 ⊢
          refine ⟨G4, h3, δ3, r4, s4.mono x4, ?_⟩
          cases ee : e δ3 h3 with
          | stk => rw [ee] at o2; exact o2.elim
          | exc c ds h' => rw [ee] at o2; exact o2.elim
          | ok y h4 =>
            rw [ee] at o2
            dsimp only at o2
            intro G5 H5 v x5 r5 d5
            have l5 := l4.step x5 r5
            obtain ⟨avs, ep, dacc⟩ := l5.pr
            have hpr : G5.pr Dn = some (.lst avs) := by rw [ep, upd_same]
            obtain ⟨q1, q2, q3⟩ := r5.pr Dn _ hpr
            refine ⟨avs, q1, ?_, _, by omega, hlt, rfl, { G5 with pr := upd G5.pr Dn (.lst (avs ++ [v])) }, h4, acc ++ [y], ⟨l5.ι, l5.fz, l5.lk, ⟨avs ++ [v], ?_, ?_⟩, r5.reguard hpr⟩, ?_⟩
            · -- the size
              have sz : avs.length < 16777216 := by
                rw [← dacc.length]
                cases el : lcs g t e (wipeD δ (own.map (·.2))) (items.drop (i + 1)) h4 with
                | stk => rw [el] at o2; exact o2.elim
                | exc c ds h' => rw [el] at o2; exact absurd o2 (by
                    have none_exc : ∀ (ds : List D) (h : Hh) c es h', lcs g t e (wipeD δ (own.map (·.2))) ds h ≠ .exc c es h' := by
                      intro ds
                      induction ds with
                      | nil => intro h c es h' z; cases z
                      | cons a as ih =>
                        intro h c es h' z
                        unfold lcs at z
                        split at z
                        · cases z
                        · split at z
                          · split at z
                            · split at z
                              · rename_i yy hh _
                                cases zz : lcs g t e (wipeD δ (own.map (·.2))) as hh with
                                | ok a b => rw [zz] at z; cases z
                                | exc a b cc => exact ih _ _ _ _ zz
                                | stk => rw [zz] at z; cases z
                              · cases z
                            · exact ih _ _ _ _ z
                          · cases z
                    exact absurd el (none_exc _ _ _ _ _))
                | ok ys h5 =>
                  rw [el] at o2
                  have o3 : okR X.K T W G1 σ (RD X.K T) (kLst mu (acc ++ y :: ys) h5) Q := o2
                  unfold kLst at o3
                  by_cases hl : lineOk (acc ++ y :: ys).length = true
                  · have := of_decide_eq_true hl
                    rw [List.length_append, List.length_cons] at this
                    omega
                  · rw [if_neg hl] at o3; exact o3.elim
              rw [sizeLine_eq]; exact sz
            · show upd G5.pr Dn (.lst (avs ++ [v])) = upd G1.pr Dn (.lst (avs ++ [v]))
              rw [ep, upd_upd]
            · exact RDs.mono0 (G := G5) (G' := { G5 with pr := upd G5.pr Dn (.lst (avs ++ [v])) }) ⟨⟨[], (List.append_nil _).symm⟩, fun _ _ z => z, rfl⟩ (dacc.append (.cons d5 .nil))
            · have ea : ∀ (rr : R (List D)), ((rr.bind fun ys h3 => R.ok (y :: ys) h3).bind fun ys h3 => kLst mu (acc ++ ys) h3) = rr.bind fun ys h3 => kLst mu (acc ++ [y] ++ ys) h3 := fun rr => by
                cases rr with
                | ok a b => show kLst mu (acc ++ y :: a) b = kLst mu (acc ++ [y] ++ a) b; rw [List.append_assoc]; rfl
                | exc _ _ _ => rfl
                | stk => rfl
              rw [ea] at o2
              exact o2
  · refine .inl ⟨(w i G2 h2 H' x02 l.rel).2 (by omega), ?_⟩
    rw [List.drop_eq_nil_of_le (by omega)] at o2
    have o3 : okR X.K T W G1 σ (RD X.K T) (kLst mu (acc ++ []) h2) Q := o2
    rw [List.append_nil] at o3
    unfold kLst at o3
    by_cases hl : lineOk acc.length = true
    · rw [if_pos hl] at o3
      obtain ⟨avs, ep, dacc⟩ := l.pr
      have hpr : G2.pr Dn = some (.lst avs) := by rw [ep, upd_same]
      have pn : G1.pr Dn = none := by
        cases z : G1.pr Dn with
        | none => rfl
        | some u => have := (r1.pr Dn u z).1; rw [hD] at this; cases this
      obtain ⟨q1, q2, q3⟩ := l.rel.pr Dn _ hpr
      have fzm : ∀ a u, G2.fz a = some u → upd G2.fz Dn (.lst avs) a = some u := fun a u z => by
        have na : a ≠ Dn := fun y => by rw [y, q2] at z; cases z
        rw [upd_ne na]; exact z
      have hpr0 : ∀ a u, G1.pr a = some u → a ≠ Dn ∧ G2.pr a = some u := fun a u z => by
        have na : a ≠ Dn := fun y => by rw [y, pn] at z; cases z
        exact ⟨na, by rw [ep, upd_ne na]; exact z⟩
      cases mu with
      | false =>
        rw [if_neg Bool.false_ne_true] at o3
        exact o3 { G2 with pr := G1.pr, fz := upd G2.fz Dn (.lst avs) } H' (.ref Dn) ⟨l.ι, fun a u z => fzm a u (l.fz a u z), rfl, l.lk⟩ (l.rel.unguard hpr hpr0) (.lst upd_same (RDs.mono0 (G := G2) (G' := { G2 with pr := G1.pr, fz := upd G2.fz Dn (.lst avs) }) ⟨⟨[], (List.append_nil _).symm⟩, fzm, rfl⟩ dacc))
      | true =>
        rw [if_pos rfl] at o3
        obtain ⟨x5, r5⟩ := l.rel.unguardO (u := .lst acc) hpr hpr0 fun G' x hi ho _ => ⟨Dn, avs, hi, ho, q1, dacc.mono0 x⟩
        obtain ⟨tt, et⟩ := l.ι
        refine o3 (G2.give Dn G1.pr) H' (.ref Dn) ⟨⟨tt ++ [Dn], ?_⟩, fun a u z => l.fz a u z, rfl, l.lk⟩ r5 (.ref ?_)
        · show G2.ι ++ [Dn] = G1.ι ++ (tt ++ [Dn])
          rw [et, List.append_assoc]
        · show (G2.ι ++ [Dn])[h2.length]? = some Dn
          rw [← l.rel.len]; simp
    · rw [if_neg hl] at o3; exact o3.elim
theorem fe_lc {mu : Bool} {elt tg iter : Expr} {ifs : List Expr} {scope : Scope} {own : List (Str × Nat)} {f : FnI} {is : List Nat} {g : FnG} {t : FnT} {e : FnE} (hc : X.calm = true) (hN : X.N.Nodup) (hi : FI X T W tg iter f) (ok : BlkOk X.N X.env.scope scope own)
    (hg : ∀ (s : Shared) (H : Hp) (C : Addr) (cl : List (Str × Addr)) (fp : List Addr), FG (X.blk s H scope (compEnvC scope cl C X.env) fp) T tg is g) (ht : ∀ (s : Shared) (H : Hp) (C : Addr) (cl : List (Str × Addr)) (fp : List Addr), FTs (X.blk s H scope (compEnvC scope cl C X.env) fp) T W0 ifs t)
    (he : ∀ (s : Shared) (H : Hp) (C : Addr) (cl : List (Str × Addr)) (fp : List Addr), FE (X.blk s H scope (compEnvC scope cl C X.env) fp) T W0 elt e) (hin : ∀ i ∈ is, i ∈ own.map (·.2)) (hs : ∀ x, foldedSetIterable iter X.env x = pure x := by intro _; rfl) :
    FE X T W (.ListComp elt [⟨tg, iter, ifs, 0⟩] scope pos) (eLc mu f g t e (own.map (·.2))) :=
  PE.imp (pe_lc (wi := tI X.K T W f) (g := tG X.K T is g) (tt := tT X.K T W0 t) (te := tE X.K T W0 e) hc hN hi ok hg ht he hs) fun _ _ _ hh => tE_lc hin hh
theorem fs_setLc {mu : Bool} {i : Nat} {y : Str} {py spos : Pos} {elt tg iter : Expr} {ifs : List Expr} {scope : Scope} {own : List (Str × Nat)} {f : FnI} {is : List Nat} {g : FnG} {t : FnT} {e : FnE} (hc : X.calm = true) (hN : X.N.Nodup) (hy : X.N[i]? = some y) (hyl : X.env.scope.names.lookup y = some .local)
    (hsw : swapsWith (.ListComp elt [⟨tg, iter, ifs, 0⟩] scope pos) (some (.Name y py)) spos.line X.env = pure true) (hi : FI X T W tg iter f) (ok : BlkOk X.N X.env.scope scope own)
    (hg : ∀ (s : Shared) (H : Hp) (C : Addr) (cl : List (Str × Addr)) (fp : List Addr), FG (X.blk s H scope (compEnvC scope cl C X.env) fp) T tg is g) (ht : ∀ (s : Shared) (H : Hp) (C : Addr) (cl : List (Str × Addr)) (fp : List Addr), FTs (X.blk s H scope (compEnvC scope cl C X.env) fp) T W0 ifs t)
    (he : ∀ (s : Shared) (H : Hp) (C : Addr) (cl : List (Str × Addr)) (fp : List Addr), FE (X.blk s H scope (compEnvC scope cl C X.env) fp) T W0 elt e) (hin : ∀ i ∈ is, i ∈ own.map (·.2)) (hs : ∀ x, foldedSetIterable iter X.env x = pure x := by intro _; rfl) :
    FS X T W (.Assign [.Name y py] (.ListComp elt [⟨tg, iter, ifs, 0⟩] scope pos) spos) (sSet i (eLc mu f g t e (own.map (·.2)))) := by
  refine PS.imp (ps_setLc (wi := tI X.K T W f) (g := tG X.K T is g) (tt := tT X.K T W0 t) (te := tE X.K T W0 e) hc hN hy hyl hsw hi ok hg ht he hs) fun D σ H h => ?_
  refine tE_lc (mu := mu) hin ?_
  exact tS.bind (k := fun δ x h1 => .nx (δ.set i (some x)) h1) h fun G δ x w h1 H1 r1 s1 d1 o1 => o1 G H1 _ (Ext.refl G) r1 (s1.set d1 i)
abbrev Sem3 := List D → Hh → R D
def sp3 (K : PySem.W.Frag) (T : Tx) (np : Nat) (sem : Sem3) : Sp := fun vs H Q E => vs.length = np ∧ ∃ G h ds, Rel K T G h H ∧ RDs K T G ds vs ∧ okR K T (fun c d _ H => E c d H) G [] (RD K T) (sem ds h) Q
def startD (n : Nat) (ds : List D) : De := ds.map some ++ List.replicate (n - ds.length) none
def endD (r : RS) : R D := match r with
  | .nx _ h => .ok .non h
  | .rt d h => .ok d h
  | .exc c ds _ h => .exc c ds h
  | _ => .stk
def runD (n : Nat) (u : FnS) : Sem3 := fun ds h => endD (u (startD n ds) h)
structure RoomG (k : Nat) (A : Around) : Prop where
  r : Room k A
  g : A.guards = some []
theorem RoomG.mono {j k : Nat} {A : Around} (x : RoomG k A) (h : j ≤ k) : RoomG j A := ⟨x.r.mono h, x.g⟩
theorem RoomG.units {k : Nat} {A : Around} (x : RoomG k A) : A.units + 64 < cLine := x.r.units
structure FnQ (P : Program) (w : World) (K : PySem.W.Frag) (mg : Str → Option Value) (base : Heap) (CX : CXT) (k : Nat) (f : Addr) (fd : FuncData) (ps : List Str) (sp : Sp) : Prop where
  size : ∀ vs H Q E, sp vs H Q E → vs.length = ps.length
  go : ∀ (A : Around) (outer : List Env) (s : Shared) (H : Hp) (args : Args) (us : List Value) (vs : List V) (Q : VK) (E : XK), RoomG k A → Env0 P w K mg base A outer s H → BindsTo s fd args (ps.zip us) → Vals vs us → sp vs H Q E →
    codeAny (model P w) A (.call (.ref f) args) (CR CX outer P w H s Q E) s
abbrev FnL (P : Program) (w : World) (K : PySem.W.Frag) (mg : Str → Option Value) (base : Heap) (T : Tx) (k : Nat) (f : Addr) (fd : FuncData) (ps : List Str) (sem : Sem3) : Prop := FnQ P w K mg base (L2.CX P w) k f fd ps (sp3 K T ps.length sem)
theorem fnQ_of {CX : CXT} {P : Program} {w : World} {K : PySem.W.Frag} {mg : Str → Option Value} {base : Heap} {k : Nat} {f : Addr} {x qual : Str} {params : Arguments} {body : List Stmt} {scope : Scope} {dvs : List V} {kws : List (Str × V)} {fd : FuncData} {N ps : List Str} {sp : Sp}
    (F : FunD K x qual params body scope dvs kws f fd) (S : FnScope N ps scope) (size : ∀ vs H Q E, sp vs H Q E → vs.length = ps.length)
    (hb : ∀ (cdv : Value) (A : Around) (outer : List Env) (s : Shared) (H : Hp) (vs : List V) (Q : VK) (E : XK), RoomG k (A.deeper (envOfC qual scope s.heap.objs.size f cdv)) → sp vs H Q E →
      ∃ t, PSs (cxOf CX P w K mg base N qual scope f cdv A outer s H E) body t ∧ t { nx := fun _ H' => Q .non H', rt := Q } (L2.start N vs) H) : FnQ P w K mg base CX (k + 1) f fd ps sp := by
  obtain ⟨oc, od, dV, kV, doc, pm, an, cdv, ct, osl, rfl, lk, hcd, _, _⟩ := F.ex
  refine ⟨size, fun A outer s H args us vs Q E room e0 bd r hsp => ?_⟩
  have many := size _ _ _ _ hsp
  have here : K.In s.heap := e0.mod.kin.keeps fun b o e => (e0.bs b o e).1
  have free : s.heap.NoLimit := e0.mod.nolimit.keeps fun b o e => (e0.bs b o e).1
  have kinds : ∀ y ∈ ps.zip us, scope.names.lookup y.1 = some .local ∨ (scope.names.lookup y.1 = some .cell ∧ ((cellsFrom (s.heap.objs.size + 1) scope.names []).lookup y.1).isSome = true) := by
    rintro ⟨n, v⟩ hy
    exact (S.par n (List.of_mem_zip hy).1).elim .inl fun q => .inr ⟨q, PySem.W.cellsFrom_some _ _ _ (.inl q)⟩
  refine codeAny_call_function room.r.depth (here _ _ lk) rfl S.co S.gen rfl (PySem.W.codeRec_of here hcd) (bd _ _ _ _ (wpAny_newFunctionEnv_cells S.kind kinds fun env he s1 z => ?_))
  cases he
  refine ⟨free.keeps z.toInCall.keep, codeAny_func ?_⟩
  obtain ⟨t, ht, ends⟩ := hb cdv A outer s H vs Q E ⟨room.r.deeper _, room.g⟩ hsp
  have J := inv_start (CX := CX) (P := P) (w := w) (mg := mg) (base := base) (qual := qual) (f := f) (cd := cdv) (E := E) S room.r.hd e0 many r z
  refine wpAny_mono (ht.run [] s1 (L2.start N vs) H _ J ends) (fun fl s' q => ?_) fun e s' q => q
  match fl, q with
  | .ret u, ⟨v, σ', H', J', rv, q⟩ => exact (⟨v, H', J'.os, J'.bare, J'.base, J'.hok, rv, q⟩ : CE outer P w H s Q u s')
  | .next, ⟨σ', H', J', q⟩ => exact (⟨V.non, H', J'.os, J'.bare, J'.base, J'.hok, rfl, q⟩ : CE outer P w H s Q Value.none s')
  | .brk, ⟨_, _, _, q⟩ => exact q.elim
  | .cont, ⟨_, _, _, q⟩ => exact q.elim
theorem runG {X : Cx} {CX : CXT} {k : Nat} {f : Addr} {fd : FuncData} {ps : List Str} {sp : Sp} {ds : List Value} {dvs : List V} {E : L2.St → XK} {pins : List (Addr × Obj)} {σ : L2.St} {H : Hp} {s : Shared} {Q : VK} {us : List Value} {vs : List V} (F : FnQ X.prog X.w X.K X.mg X.base CX k f fd ps sp) (hr : RoomG k X.A) (bd : Binds X.K fd ps ds) (hd : Vals dvs ds)
    (hx : PassesAt CX X σ (E σ)) (I : Inv X pins σ H s) (r : Vals vs us) (h : sp (vs ++ dvs) H Q (E σ)) : wpAny (model X.prog X.w) X.A (call (.ref f) us) (EP X pins σ Q) X.xe s := by
  have all := r.append hd
  refine wpAny_call (codeAny_mono (F.go X.A X.stack s H ⟨us, []⟩ (us ++ ds) (vs ++ dvs) Q (E σ) hr I.env0 (bd s us I.kIn ?_) all h) fun res s' q => ?_)
  · rw [← all.length]; exact F.size _ _ _ _ h
  · match res, q with
    | .error e, q => exact hx pins H s e s' I q
    | .ok (.ret u), q => exact I.after q
    | .ok .next, q => exact q.elim
    | .ok .brk, q => exact q.elim
    | .ok .cont, q => exact q.elim
theorem RSl.start {K : PySem.W.Frag} {G : Gst} {ds : List D} {vs : List V} (r : RDs K T G ds vs) (N : List Str) : RSl K T G (startD N.length ds) (L2.start N vs) := by
  refine ⟨?_, fun i d e => ?_⟩
  · unfold startD L2.start
    simp [r.length]
  · unfold startD at e
    by_cases hi : i < ds.length
    · rw [List.getElem?_append_left (by simpa using hi), List.getElem?_map] at e
      obtain ⟨d', e1, e2⟩ := Option.map_eq_some_iff.mp e
      cases e2
      obtain ⟨v, ev, dv⟩ := r.get e1
      refine ⟨v, ?_, dv⟩
      unfold L2.start
      rw [List.getElem?_append_left (by simpa [r.length] using (List.getElem?_eq_some_iff.mp ev).1), List.getElem?_map, ev]
      rfl
    · rw [List.getElem?_append_right (by simpa using hi), List.getElem?_replicate] at e
      split at e <;> cases e
theorem def_read {K : PySem.W.Frag} {N : List Str} {np : Nat} {u : FnS} {vs : List V} {H : Hp} {Q : VK} {E : XK} (h : sp3 K T np (runD N.length u) vs H Q E) :
    tS K T (fun c d _ H => E c d H) u { nx := fun _ H' => Q .non H', rt := Q } (L2.start N vs) H := by
  obtain ⟨_, G, h0, ds, r, rd, o⟩ := h
  refine ⟨G, h0, startD N.length ds, r, RSl.start rd N, ?_⟩
  unfold runD at o
  cases e : u (startD N.length ds) h0 with
  | nx δ h' => rw [e] at o; exact fun G' H' σ' x r' _ => o G' H' .non x r' .non
  | rt d h' => rw [e] at o; exact o
  | bk δ h' => rw [e] at o; exact o.elim
  | ct δ h' => rw [e] at o; exact o.elim
  | exc c ds δ h' => rw [e] at o; exact fun G' H' σ' cls dd x r' _ z => o G' H' cls dd x r' z
  | stk => rw [e] at o; exact o.elim
def kCall (np : Nat) (sem : Sem3) (dds : List D) (ds : List D) (h1 : Hh) : R D := if (ds ++ dds).length = np then sem (ds ++ dds) h1 else .stk
def eCall (np : Nat) (sem : Sem3) (fa : FnA) (dds : List D) : FnE := fun δ h => (fa δ h).bind (kCall np sem dds)
structure Dfl (K : PySem.W.Frag) (T : Tx) (dds : List D) (dvs : List V) (us : List Value) : Prop where
  rel : ∀ G, RDs K T G dds dvs
  val : Vals dvs us
theorem Dfl.nil {K : PySem.W.Frag} : Dfl K T [] [] [] := ⟨fun _ => .nil, .nil⟩
theorem Dfl.cons {K : PySem.W.Frag} {d : D} {v : V} {u : Value} {dds : List D} {dvs : List V} {us : List Value} (h : Cst K T d v) (r : RelV v u) (t : Dfl K T dds dvs us) : Dfl K T (d :: dds) (v :: dvs) (u :: us) := ⟨fun G => .cons (h G) (t.rel G), .cons r t.val⟩
theorem sp3_of {K : PySem.W.Frag} {np : Nat} {sem : Sem3} {G : Gst} {h : Hh} {H : Hp} {ds dds : List D} {vs dvs : List V} {us : List Value} {Q : VK} {σ : L2.St} (D0 : Dfl K T dds dvs us) (r : Rel K T G h H) (d : RDs K T G ds vs) (o : okR K T W G σ (RD K T) (kCall np sem dds ds h) Q) : sp3 K T np sem (vs ++ dvs) H Q (WE W σ) := by
  unfold kCall at o
  have dd := d.append (D0.rel G)
  by_cases hl : (ds ++ dds).length = np
  · rw [if_pos hl] at o
    refine ⟨by rw [← dd.length]; exact hl, G, h, ds ++ dds, r, dd, ?_⟩
    cases e : sem (ds ++ dds) h with
    | ok y hh => rw [e] at o; exact o
    | exc c es hh => rw [e] at o; exact o
    | stk => rw [e] at o; exact o.elim
  · rw [if_neg hl] at o; exact o.elim
theorem fe_call {np : Nat} {x : Str} {p : Pos} {e : Expr} {es : List Expr} {k : Nat} {f : Addr} {fd : FuncData} {ps : List Str} {sem : Sem3} {fa : FnA} {dds : List D} {dvs : List V} {us : List Value} (tk : Takes X W) (F : FnL X.prog X.w X.K X.mg X.base T k f fd ps sem) (hr : RoomG k X.A) (hg : Gl X x) (hm : X.mg x = some (.ref f)) (hk : PySem.W.keepIn X.K (.ref f) = true)
    (hb : Binds X.K fd ps us) (D0 : Dfl X.K T dds dvs us) (ha : FA X T W (e :: es) fa) (hdb : (x == ("__debug__" : Str)) = false := by decide) (he : starEach (e :: es) X.env = (false, eval e X.env) :: starEach es X.env := by rfl) (hpl : (backTo pos (starEach es X.env)).any (·.1) = false := by rfl)  (hnp : ps.length = np := by rfl) :
    FE X T W (.Call (.Name x p) (e :: es) [] pos) (eCall np sem fa dds) := by
  subst hnp
  refine ⟨fun pins s σ H Q I h => ?_⟩
  have h' : tA X.K T W fa σ H fun vs H1 => sp3 X.K T ps.length sem (vs ++ dvs) H1 Q (WE W σ) :=
    tF.bind (k := fun _ => kCall ps.length sem dds) h fun G δ ds vs h1 H1 r1 s1 d1 o1 => sp3_of D0 r1 d1 o1
  refine wpAny_Call_Name_kw (ld_glob I hg hm (PySem.W.callWith_K (h₀ := X.base) I.ok.mod.kin hk (thn (ha.run pos pins s σ H _ I h') fun us s1 ⟨vs, H1, I1, r, q⟩ => ⟨I1.kIn, ?_⟩) he hpl) hdb)
  exact runG (E := WE W) F hr hb D0.val (passAt tk σ) I1 r q
structure MethOk (X : Cx) (T : Tx) (c : Nat) (C : Addr) (m : Str) (f : Addr) : Prop where
  cls : ∃ nm, T.cls c = some (C, nm) ∧ m ∉ nm
  cl : Cls X.K C
  meth : Meth X.K C m f
def clsOf (h : Hh) : D → Option Nat
  | .obj c _ => some c
  | .ref n => match h[n]? with
    | some (.obj c _) => some c
    | _ => none
  | _ => none
theorem clsOf_ok {K : PySem.W.Frag} {G : Gst} {h : Hh} {H : Hp} {d : D} {v : V} {c : Nat} (r : Rel K T G h H) (d1 : RD K T G d v) (e : clsOf h d = some c) : ∃ a C dx nm fs, v = .ref a ∧ H a = some (.ins C dx fs) ∧ T.cls c = some (C, nm) ∧ ∀ g ∈ fs.map (·.1), g ∈ nm := by
  cases d1 with
  | @obj c' ds a C dx nm fs h1 hc hn q => cases e; exact ⟨a, C, dx, nm, fs, rfl, r.sub _ _ h1, hc, fun g hg => by rw [← hn]; exact hg⟩
  | @ref n a h1 =>
    unfold clsOf at e
    dsimp only at e
    cases q : h[n]? with
    | none => rw [q] at e; cases e
    | some o =>
      rw [q] at e
      cases o with
      | obj c' ds =>
        cases e
        obtain ⟨a', C, dx, nm, fs, e1, e2, e3, e4, e5, e6⟩ := r.obj n _ q
        rw [h1] at e1; cases e1
        exact ⟨a, C, dx, nm, fs, rfl, e3, e4, fun g hg => by rw [e5] at hg; exact List.mem_of_mem_take hg⟩
      | _ => cases e
  | _ => cases e
theorem look_none {f : Str} : ∀ {fs : List (Str × V)}, f ∉ fs.map (·.1) → fs.lookup f = none
  | [], _ => rfl
  | (g, y) :: r, h => by
    have h' : ¬ f = g ∧ f ∉ r.map (·.1) := by simpa using h
    have b : (f == g) = false := beq_eq_false_iff_ne.mpr h'.1
    simp only [List.lookup, b]
    exact look_none h'.2
def kMeth (c : Nat) (np : Nat) (sem : Sem3) (fa : FnA) (dds : List D) (δ : De) (x : D) (h1 : Hh) : R D := if clsOf h1 x = some c then (fa δ h1).bind fun ds h2 => kCall np sem dds (x :: ds) h2 else .stk
def eMeth (c : Nat) (np : Nat) (sem : Sem3) (fo : FnE) (fa : FnA) (dds : List D) : FnE := fun δ h => (fo δ h).bind (kMeth c np sem fa dds δ)
theorem fe_meth0 {np : Nat} {c : Nat} {C : Addr} {m : Str} {o : Expr} {apos : Pos} {k : Nat} {f : Addr} {fd : FuncData} {ps : List Str} {sem : Sem3} {fo : FnE} {dds : List D} {dvs : List V} {us : List Value} {pl : Sem Bool} (tk : Takes X W) (M : MethOk X T c C m f) (F : FnL X.prog X.w X.K X.mg X.base T k f fd ps sem) (hr : RoomG k X.A)
    (hb : Binds X.K fd ps us) (D0 : Dfl X.K T dds dvs us) (ho : FE X T W o fo)
    (ht : eval (.Call (.Attribute o m apos) [] [] pos) X.env = (do
      let ov ← eval o X.env
      standAt apos.atName
      let (f, first) ← holding [ov] (getMethod ov m pl)
      callWith pos f first (backTo pos (starEach [] X.env)) (backToKw pos (keywordEach [] X.env))) := by rfl)  (hnp : ps.length = np := by rfl) :
    FE X T W (.Call (.Attribute o m apos) [] [] pos) (eMeth c np sem fo aNil dds) := by
  subst hnp
  refine ⟨fun pins s σ H Q I h => ?_⟩
  obtain ⟨nm, hcl, hnm⟩ := M.cls
  have h' : tE X.K T W fo σ H fun x H1 => ∃ a dx fs, x = .ref a ∧ H1 a = some (.ins C dx fs) ∧ fs.lookup m = none ∧ sp3 X.K T ps.length sem (x :: dvs) H1 Q (WE W σ) := by
    obtain ⟨G, h0, δ, r, s', oo⟩ := h
    refine ⟨G, h0, δ, r, s', (okR.bind (rel := RD X.K T) oo).mono ?_⟩
    rintro v H1 ⟨G1, x, h1, e1, r1, d1, o1⟩
    unfold kMeth at o1
    by_cases hc : clsOf h1 x = some c
    · rw [if_pos hc] at o1
      obtain ⟨a, C', dx, nm', fs, rfl, q1, q2, q3⟩ := clsOf_ok r1 d1 hc
      rw [hcl] at q2; cases q2
      exact ⟨a, dx, fs, rfl, q1, look_none fun z => hnm (q3 _ z), sp3_of (ds := [x]) (vs := [.ref a]) D0 r1 (.cons d1 .nil) o1⟩
    · rw [if_neg hc] at o1; exact o1.elim
  refine PySem.W.methodCall_KW (pl := pl) (thn (ho.run pins s σ H _ I h') fun u s1 ⟨x, H1, I1, rx, a, dx, fs, ex, ea, l, q⟩ => ?_) ht
  subst ex
  obtain rfl : u = Value.ref a := rx
  refine getmeth_ok I1 ea M.cl M.meth l ?_
  exact PySem.W.callWith_K0 (first := [.ref a]) I1.kIn M.meth.kp (runG (us := [.ref a]) (vs := [.ref a]) (E := WE W) F hr hb D0.val (passAt tk σ) I1 (.cons rfl .nil) q)
end
end L3
set_option autoImplicit false
set_option maxHeartbeats 4000000
namespace L3
open PySem PySem.Spec L2
section
variable {X : Cx} {T : Tx} {W : WX} {pos : Pos}
theorem Rel.freeze {K : PySem.W.Frag} {G : Gst} {h : Hh} {H : Hp} (r : Rel K T G h H) {n : Nat} {a : Addr} {o : HO} (hn : n < h.length) (ha : G.own a = some n) (hH : H a = some o) :
    Rel K T { G with own := fun b => if b = a then none else G.own b, fz := upd G.fz a o } (h.set n .dead) H ∧ Ext G { G with own := fun b => if b = a then none else G.own b, fz := upd G.fz a o } := by
  obtain ⟨_, f0, _⟩ := r.own a n ha
  have fzm : ∀ b u, G.fz b = some u → upd G.fz a o b = some u := fun b u z => by
    have nb : b ≠ a := fun y => by rw [y, f0] at z; cases z
    rw [upd_ne nb]; exact z
  have x : Ext G { G with own := fun b => if b = a then none else G.own b, fz := upd G.fz a o } := ⟨⟨[], by simp⟩, fzm, rfl, rfl⟩
  refine ⟨⟨by simpa using r.len, fun b v q => ?_, fun b m q => ?_, fun b v q => ?_, fun b v q => ?_, fun m v q => ?_⟩, x⟩
  · have q' : upd G.fz a o b = some v := q
    by_cases hb : b = a
    · subst hb; rw [upd_same] at q'; cases q'; exact hH
    · rw [upd_ne hb] at q'; exact r.sub b v q'
  · have q' : (if b = a then none else G.own b) = some m := q
    by_cases hb : b = a
    · rw [if_pos hb] at q'; cases q'
    · rw [if_neg hb] at q'
      obtain ⟨h1, h2, h3⟩ := r.own b m q'
      exact ⟨by simpa using h1, by show upd G.fz a o b = none; rw [upd_ne hb]; exact h2, h3⟩
  · obtain ⟨h1, h2, h3, h4⟩ := r.pr b v q
    have nb : b ≠ a := fun y => by rw [y, ha] at h3; cases h3
    exact ⟨h1, by show upd G.fz a o b = none; rw [upd_ne nb]; exact h2, by show (if b = a then none else G.own b) = none; rw [if_neg nb]; exact h3, h4⟩
  · obtain ⟨h1, h2, h3⟩ := r.lk b v q
    have nb : b ≠ a := fun y => by rw [y, ha] at h3; cases h3
    exact ⟨h1, by show upd G.fz a o b = none; rw [upd_ne nb]; exact h2, by show (if b = a then none else G.own b) = none; rw [if_neg nb]; exact h3⟩
  · by_cases hm : m = n
    · subst hm
      rw [List.getElem?_set_self hn] at q
      cases q
      trivial
    · rw [List.getElem?_set_ne (Ne.symm hm)] at q
      have keep : ∀ b, G.own b = some m → b ≠ a := fun b z y => by rw [y, ha] at z; cases z; exact hm rfl
      refine (r.obj m v q).stay x (fun b z => ?_) (fun b z => rfl) (fun b z => ?_)
      · show (if b = a then none else G.own b) = some m
        rw [if_neg (keep b z)]; exact z
      · have z' : (if b = a then none else G.own b) = some m := z
        by_cases hb : b = a
        · rw [if_pos hb] at z'; cases z'
        · rw [if_neg hb] at z'; exact z'
structure MakeOk (X : Cx) (T : Tx) (c : Nat) (C : Addr) (f : Addr) (na : Nat) : Prop where
  cls : ∃ nm, T.cls c = some (C, nm) ∧ nm.length = na
  make : Mk X.K C f
def endMake (c na n : Nat) (r : R D) : R D := match r with
  | .ok .non h2 => match h2[n]? with
    | some (.obj c' es) => if c' = c ∧ es.length = na then .ok (.obj c es) (h2.set n .dead) else .stk
    | _ => .stk
  | .exc c ds h => .exc c ds h
  | _ => .stk
def kMake (c na np : Nat) (sem : Sem3) (dds ds : List D) (h1 : Hh) : R D := if (D.ref h1.length :: (ds ++ dds)).length = np then
  endMake c na h1.length (sem (.ref h1.length :: (ds ++ dds)) (h1 ++ [.obj c []])) else .stk
def eMake (c na np : Nat) (sem : Sem3) (fa : FnA) (dds : List D) : FnE := fun δ h => (fa δ h).bind (kMake c na np sem dds)
theorem Rel.track {K : PySem.W.Frag} {G : Gst} {h : Hh} {H : Hp} (r : Rel K T G h H) {p : Addr} {o : HO} (hp : H p = none) : Rel K T G h (upd H p o) := by
  have nown : ∀ b n, G.own b = some n → b ≠ p := fun b n q z => (r.own b n q).2.2 (by rw [z]; exact hp)
  refine ⟨r.len, fun a u q => ?_, fun a n q => ?_, fun a u q => ?_, fun a u q => ?_, fun n u q => ?_⟩
  · have := r.sub a u q
    rw [upd_ne (ne_of_none this hp)]; exact this
  · obtain ⟨h1, h2, h3⟩ := r.own a n q
    exact ⟨h1, h2, by rw [upd_ne (nown a n q)]; exact h3⟩
  · obtain ⟨h1, h2, h3⟩ := r.pr a u q
    exact ⟨by rw [upd_ne (ne_of_none h1 hp)]; exact h1, h2, h3⟩
  · obtain ⟨h1, h2, h3⟩ := r.lk a u q
    exact ⟨by rw [upd_ne (ne_of_none h1 hp)]; exact h1, h2, h3⟩
  · exact (r.obj n u q).ghost G rfl (fun _ _ e => e) rfl fun b e => upd_ne (nown b n e)
theorem make_read {c na np : Nat} {C : Addr} {sem : Sem3} {nm : List Str} {dds ds : List D} {dvs vs : List V} {us : List Value} {G1 : Gst} {h1 : Hh} {H1 : Hp} {σ : L2.St} {Q : VK} {K : PySem.W.Frag} (hc : T.cls c = some (C, nm)) (hna : nm.length = na) (D0 : Dfl K T dds dvs us)
    (r1 : Rel K T G1 h1 H1) (d1 : RDs K T G1 ds vs) (o : okR K T W G1 σ (RD K T) (kMake c na np sem dds ds h1) Q) (x dx : Addr) (hx : H1 x = none) (hdx : H1 dx = none) (ne : dx ≠ x) :
    sp3 K T np sem (.ref x :: (vs ++ dvs)) (upd (upd H1 dx (.own x)) x (.ins C dx [])) (fun v H2 => v = .non ∧ Q (.ref x) H2) (WE W σ) := by
  unfold kMake at o
  by_cases hl : (D.ref h1.length :: (ds ++ dds)).length = np
  · rw [if_pos hl] at o
    have r2 := r1.track (o := .own x) hdx
    have hx2 : upd H1 dx (.own x) x = none := by rw [upd_ne (Ne.symm ne)]; exact hx
    obtain ⟨x3, r3⟩ := r2.newO (o := .ins C dx []) (u := .obj c []) hx2 fun G' _ hi ho _ => ⟨x, C, dx, nm, [], hi, ho, upd_same, hc, by simp, .nil⟩
    have hix : (G1.new x).ι[h1.length]? = some x := by
      show (G1.ι ++ [x])[h1.length]? = some x
      rw [← r1.len]; simp
    have dd : RDs K T (G1.new x) (D.ref h1.length :: (ds ++ dds)) (V.ref x :: (vs ++ dvs)) := .cons (.ref hix) ((d1.mono x3).append (D0.rel _))
    refine ⟨by rw [← dd.length]; exact hl, G1.new x, _, _, r3, dd, ?_⟩
    cases e : sem (D.ref h1.length :: (ds ++ dds)) (h1 ++ [.obj c []]) with
    | stk => rw [e] at o; exact o.elim
    | exc c' es h' => rw [e] at o; exact okR.ext (W := W) (rel := RD K T) (σ := σ) (r := .exc c' es h') x3 o
    | ok y h2 =>
      rw [e] at o
      unfold endMake at o
      cases y with
      | non =>
        dsimp only at o
        intro G' H' v x4 r4 dv
        cases dv
        refine ⟨rfl, ?_⟩
        cases q : h2[h1.length]? with
        | none => rw [q] at o; exact o.elim
        | some ob =>
          rw [q] at o
          cases ob with
          | obj c' es =>
            dsimp only at o
            by_cases hce : c' = c ∧ es.length = na
            · rw [if_pos hce] at o
              obtain ⟨rfl, hlen⟩ := hce
              obtain ⟨a, C', dx', nm', fs, z1, z2, z3, z4, z5, z6⟩ := r4.obj _ _ q
              rw [hc] at z4; cases z4
              obtain ⟨tt, ht⟩ := x4.ι
              have hax : a = x := by
                have h0 : h1.length < (G1.new x).ι.length := (List.getElem?_eq_some_iff.mp hix).1
                rw [ht, List.getElem?_append_left h0, hix] at z1
                cases z1; rfl
              subst hax
              have hn : h1.length < h2.length := (List.getElem?_eq_some_iff.mp q).1
              obtain ⟨r5, x5⟩ := r4.freeze hn z2 z3
              refine o _ H' (.ref a) (x3.trans (x4.trans x5)) r5 (.obj (C := C) (dx := dx') (nm := nm) (fs := fs) upd_same hc ?_ (z6.mono x5))
              rw [z5, hlen, ← hna, List.take_length]
            · rw [if_neg hce] at o; exact o.elim
          | _ => exact o.elim
      | _ => exact o.elim
  · rw [if_neg hl] at o; exact o.elim
theorem underG {A : Around} {C : Addr} {us : List Value} {kw : List (Str × Value)} (h : A.guards = some []) : (A.under (.builtin "type.__call__" ⟨.ref C :: us, kw⟩)).guards = some [] := by
  have e : (Code.builtin "type.__call__" ⟨.ref C :: us, kw⟩).guards = [] := rfl
  show pushGuards (Code.builtin "type.__call__" ⟨.ref C :: us, kw⟩).guards A.guards = some []
  rw [e, h]; rfl
theorem run_makeS {CX : CXT} {C f : Addr} {k : Nat} {fd : FuncData} {ps : List Str} {sp : Sp} {ds : List Value} {dvs : List V} {E : XK} {pins : List (Addr × Obj)} {σ : L2.St} {H : Hp} {s : Shared} {Q : VK} {us : List Value} {vs : List V} (M : Mk X.K C f) (F : FnQ X.prog X.w X.K X.mg X.base CX k f fd ps sp) (hr : RoomG (k + 1) X.A) (hb : Binds X.K fd ps ds) (hd : Vals dvs ds)
    (hx : PassesAt CX X σ E) (I : Inv X pins σ H s) (r : Vals vs us)
    (h : ∀ x dx, H x = none → H dx = none → dx ≠ x → sp (.ref x :: (vs ++ dvs)) (upd (upd H dx (.own x)) x (.ins C dx [])) (fun v H2 => v = .non ∧ Q (.ref x) H2) E) :
    wpAny (model X.prog X.w) X.A (call (.ref C) us) (EP X pins σ Q) X.xe s := by
  have go_ := h (s.heap.objs.size + 1) s.heap.objs.size (I.hok.fresh (Nat.le_succ _)) (I.hok.fresh (Nat.le_refl _)) (Nat.ne_of_lt (Nat.lt_succ_self _))
  have J := Inv.made (C := C) I
  have args : Vals (V.ref (s.heap.objs.size + 1) :: (vs ++ dvs)) (Value.ref (s.heap.objs.size + 1) :: (us ++ ds)) := .cons rfl (r.append hd)
  have many : (Value.ref (s.heap.objs.size + 1) :: us ++ ds).length = ps.length := by
    have e := args.length
    rw [F.size _ _ _ _ go_] at e
    exact e.symm
  refine wpAny_call (make_map (f := f) I.kIn M.makes M.init (beq_iff_eq.mp M.fn) (codeAny_mono (F.go _ X.stack _ _ ⟨Value.ref (s.heap.objs.size + 1) :: us, []⟩ (Value.ref (s.heap.objs.size + 1) :: (us ++ ds)) _ _ E ⟨hr.r.make C us [], underG hr.g⟩
    (J.env0.make C us []) (hb _ (Value.ref (s.heap.objs.size + 1) :: us) J.kIn many) args go_) fun r s' end_ => ?_))
  cases r with
  | error e => exact hx pins _ _ e s' J end_
  | ok fw =>
    cases fw with
    | ret u =>
      obtain ⟨v, H', J3, rel_, same_, fin_⟩ := J.after end_
      subst same_
      exact ⟨rel_, ⟨V.ref (s.heap.objs.size + 1), H', J3, rfl, fin_⟩⟩
    | next => exact False.elim end_
    | brk => exact False.elim end_
    | cont => exact False.elim end_
theorem fe_make {np : Nat} {x : Str} {p : Pos} {c na : Nat} {C f : Addr} {e : Expr} {es : List Expr} {k : Nat} {fd : FuncData} {ps : List Str} {sem : Sem3} {fa : FnA} {dds : List D} {dvs : List V} {us : List Value} (tk : Takes X W) (M : MakeOk X T c C f na) (F : FnL X.prog X.w X.K X.mg X.base T k f fd ps sem) (hr : RoomG (k + 1) X.A) (hg : Gl X x) (hm : X.mg x = some (.ref C))
    (hb : Binds X.K fd ps us) (D0 : Dfl X.K T dds dvs us) (ha : FA X T W (e :: es) fa) (hdb : (x == ("__debug__" : Str)) = false := by decide) (he : starEach (e :: es) X.env = (false, eval e X.env) :: starEach es X.env := by rfl) (hpl : (backTo pos (starEach es X.env)).any (·.1) = false := by rfl)  (hnp : ps.length = np := by rfl) :
    FE X T W (.Call (.Name x p) (e :: es) [] pos) (eMake c na np sem fa dds) := by
  subst hnp
  obtain ⟨nm, hc, hna⟩ := M.cls
  refine ⟨fun pins s σ H Q I h => ?_⟩
  refine wpAny_Call_Name_kw (ld_glob I hg hm ?_ hdb)
  have h' : tA X.K T W fa σ H fun vs H1 => ∀ x dx, H1 x = none → H1 dx = none → dx ≠ x → sp3 X.K T ps.length sem (.ref x :: (vs ++ dvs)) (upd (upd H1 dx (.own x)) x (.ins C dx [])) (fun v H2 => v = .non ∧ Q (.ref x) H2) (WE W σ) :=
    tF.bind (k := fun _ => kMake c na ps.length sem dds) h fun G δ ds vs h1 H1 r1 s1 d1 o1 x dx => make_read hc hna D0 r1 d1 o1 x dx
  refine PySem.W.callWith_K (h₀ := X.base) I.ok.mod.kin M.make.kp (thn (ha.run pos pins s σ H _ I h') fun us s1 ⟨vs, H1, I1, r, q⟩ => ⟨I1.kIn, ?_⟩) he hpl
  exact run_makeS M.make F hr hb D0.val (passAt tk σ) I1 r q
def noX (r : R D) : R D := match r with
  | .ok d h => .ok d h
  | _ => .stk
def kProp (c np : Nat) (sem : Sem3) (x : D) (h : Hh) : R D := if clsOf h x = some c ∧ np = 1 then noX (sem [x] h) else .stk
def eProp (c np : Nat) (sem : Sem3) (fo : FnE) : FnE := fun δ h => (fo δ h).bind (kProp c np sem)
abbrev FB := List D → Hh → R D
def CallS (X : Cx) (T : Tx) (rd : List V → Hp → VK → Prop) (g : FB) : Prop := ∀ (W : WX) G h H σ ds vs Q, Rel X.K T G h H → RDs X.K T G ds vs → okR X.K T W G σ (RD X.K T) (g ds h) Q → rd vs H Q
def eB (g : FB) (fa : FnA) : FnE := fun δ h => (fa δ h).bind g
theorem fe_b {x : Str} {p : Pos} {e : Expr} {es : List Expr} {id : String} {rd : List V → Hp → VK → Prop} {g : FB} {fa : FnA} (hc : CallR X (.builtin id) rd) (hs : CallS X T rd g) (hg : Gl X x) (hm : X.mg x = none) (hv : bootBuiltins x = some (.builtin id)) (ha : FA X T W (e :: es) fa) (hn : x ≠ "__name__" := by decide) (hdb : (x == ("__debug__" : Str)) = false := by decide)
    (he : starEach (e :: es) X.env = (false, eval e X.env) :: starEach es X.env := by rfl) (hpl : (backTo pos (starEach es X.env)).any (·.1) = false := by rfl) : FE X T W (.Call (.Name x p) (e :: es) [] pos) (eB g fa) := by
  refine PE.imp (pe_callB hc hg hm hv ha hn hdb he hpl) fun σ H Q h => ?_
  exact tF.bind (k := fun _ => g) h fun G δ ds vs h1 H1 r1 s1 d1 o1 => hs W G h1 H1 σ ds vs Q r1 d1 o1
theorem fe_bt {x : Str} {p : Pos} {e : Expr} {es : List Expr} {id : String} {rd : List V → Hp → VK → Prop} {g : FB} {fa : FnA} (hc : CallR X (.type id) rd) (hs : CallS X T rd g) (hg : Gl X x) (hm : X.mg x = none) (hv : bootBuiltins x = some (.type id)) (ha : FA X T W (e :: es) fa) (hn : x ≠ "__name__" := by decide) (hdb : (x == ("__debug__" : Str)) = false := by decide)
    (he : starEach (e :: es) X.env = (false, eval e X.env) :: starEach es X.env := by rfl) (hpl : (backTo pos (starEach es X.env)).any (·.1) = false := by rfl) : FE X T W (.Call (.Name x p) (e :: es) [] pos) (eB g fa) := by
  refine PE.imp (pe_callTy hc hg hm hv ha hn hdb he hpl) fun σ H Q h => ?_
  exact tF.bind (k := fun _ => g) h fun G δ ds vs h1 H1 r1 s1 d1 o1 => hs W G h1 H1 σ ds vs Q r1 d1 o1
def one (g : D → Hh → R D) : FB := fun ds h => match ds with
  | [x] => g x h
  | _ => .stk
def lenD (x : D) (h : Hh) : R D := match x with
  | .tup xs => .ok (.int xs.length) h
  | .scr xs => .ok (.int xs.length) h
  | .str x => if lineOk x.length = true then .ok (.int x.length) h else .stk
  | x => match asL h x with
    | some xs => .ok (.int xs.length) h
    | none => .stk
abbrev lenB : FB := one lenD
def rLenA (K : PySem.W.Frag) : List V → Hp → VK → Prop := fun xs H Q => ∃ x n, xs = [x] ∧ LenV K x H n ∧ Q (.int n) H
theorem cs_len : CallS X T (rLenA X.K) lenB := by
  intro W G h H σ ds vs Q r d o
  match ds, vs, d with
  | [], _, _ => exact o.elim
  | _ :: _ :: _, _, _ => exact o.elim
  | [x], [v], .cons d1 .nil =>
    have lists : (match asL h x with
      | some xs => R.ok (.int xs.length) h
      | none => .stk) = lenB [x] h → rLenA X.K [v] H Q := fun e => by
      rw [← e] at o
      cases ex : asL h x with
      | none => rw [ex] at o; exact o.elim
      | some xs =>
        rw [ex] at o
        obtain ⟨a, ws, rfl, h1, q1⟩ := asL_ok r d1 ex
        exact ⟨_, ws.length, rfl, .inl ⟨ws, .inl (.inl h1), rfl⟩, by rw [← q1.length]; exact o.at r .int⟩
    cases d1 with
    | @tup xs a ws h1 q1 => exact ⟨_, ws.length, rfl, .inr ⟨ws, SqT.sub r.sub h1, rfl⟩, by rw [← q1.length]; exact o.at r .int⟩
    | @scr xs a ws h1 q1 => exact ⟨_, ws.length, rfl, .inl ⟨ws, SqL.sub r.sub h1, rfl⟩, by rw [← q1.length]; exact o.at r .int⟩
    | @str x =>
      have o : okR X.K T W G σ (RD X.K T) (if lineOk x.length = true then R.ok (.int x.length) h else .stk) Q := o
      by_cases hl : lineOk x.length = true
      · rw [if_pos hl] at o
        refine ⟨_, x.length, rfl, ⟨?_, ?_⟩, o.at r .int⟩
        · show x.toArray.size ≤ sizeLine
          simpa using lineOk_le hl
        · show x.length = x.toArray.size
          simp
      · rw [if_neg hl] at o; exact o.elim
    | _ => first | exact lists rfl | exact o.elim
def tupleD (x : D) (h : Hh) : R D := match x with
  | .tup xs => .ok (.tup xs) h
  | x => match asL h x with
    | some xs => .ok (.tup xs) h
    | none => .stk
abbrev tupleB : FB := one tupleD
def rTupA (K : PySem.W.Frag) : List V → Hp → VK → Prop := fun xs H Q => ∃ p ys, xs = [.ref p] ∧ ((SqL K H p ys ∧ ∀ l, H l = none → Q (.ref l) (upd H l (.tup ys))) ∨ (SqT K H p ys ∧ Q (.ref p) H))
theorem cs_tuple : CallS X T (rTupA X.K) tupleB := by
  intro W G h H σ ds vs Q r d o
  match ds, vs, d with
  | [], _, _ => exact o.elim
  | _ :: _ :: _, _, _ => exact o.elim
  | [x], [v], .cons d1 .nil =>
    have lists : (match asL h x with
      | some xs => R.ok (.tup xs) h
      | none => .stk) = tupleB [x] h → rTupA X.K [v] H Q := fun e => by
      rw [← e] at o
      cases ex : asL h x with
      | none => rw [ex] at o; exact o.elim
      | some xs =>
        rw [ex] at o
        obtain ⟨a, ws, rfl, h1, q1⟩ := asL_ok r d1 ex
        exact ⟨a, ws, rfl, .inl ⟨.inl (.inl h1), fun l hl => newTup r q1 hl o⟩⟩
    cases d1 with
    | @tup xs a ws h1 q1 n1 => exact ⟨a, ws, rfl, .inr ⟨SqT.sub r.sub h1, o.at r (.tup h1 q1 n1)⟩⟩
    | _ => first | exact lists rfl | exact o.elim
def asSeq (h : Hh) : D → Option (List D)
  | .tup ds => some ds
  | .scr ds => some ds
  | x => asL h x
def listMB : FB := fun ds h => match ds with
  | [x] => match asSeq h x with
    | some xs => .ok (.ref h.length) (h ++ [.lst xs])
    | none => .stk
  | _ => .stk
def rListA (K : PySem.W.Frag) : List V → Hp → VK → Prop := fun xs H Q => ∃ p ys, xs = [.ref p] ∧ (SqL K H p ys ∨ SqT K H p ys) ∧ ∀ l, H l = none → Q (.ref l) (upd H l (.lst ys))
theorem asSeq_ok {K : PySem.W.Frag} {G : Gst} {h : Hh} {H : Hp} {d : D} {v : V} {ds : List D} (r : Rel K T G h H) (d1 : RD K T G d v) (e : asSeq h d = some ds) : ∃ a vs, v = .ref a ∧ (SqL K H a vs ∨ SqT K H a vs) ∧ RDs K T G ds vs := by
  cases d1 with
  | tup h1 q => cases e; exact ⟨_, _, rfl, .inr (SqT.sub r.sub h1), q⟩
  | scr h1 q => cases e; exact ⟨_, _, rfl, .inl (SqL.sub r.sub h1), q⟩
  | lst h1 q => cases e; exact ⟨_, _, rfl, .inl (.inl (.inl (r.sub _ _ h1))), q⟩
  | ref h1 =>
    obtain ⟨a, vs, ev, h2, q⟩ := asL_ok r (.ref h1) (show asL h (.ref _) = some ds from e)
    exact ⟨a, vs, ev, .inl (.inl (.inl h2)), q⟩
  | _ => cases e
theorem cs_listM : CallS X T (rListA X.K) listMB := by
  intro W G h H σ ds vs Q r d o
  match ds, vs, d with
  | [], _, _ => exact o.elim
  | _ :: _ :: _, _, _ => exact o.elim
  | [x], [v], .cons d1 .nil =>
    unfold listMB at o
    dsimp only at o
    cases ex : asSeq h x with
    | none => rw [ex] at o; exact o.elim
    | some xs =>
      rw [ex] at o
      obtain ⟨a, ws, rfl, h1, q1⟩ := asSeq_ok r d1 ex
      exact ⟨a, ws, rfl, h1, fun l hl => newLstM r q1 hl o⟩
def intD (x : D) (h : Hh) : R D := match x with
  | .int i => .ok (.int i) h
  | .bl k => .ok (.int (if k then 1 else 0)) h
  | _ => .stk
abbrev intB : FB := one intD
theorem cs_int : CallS X T (fun xs H Q => (∃ i, xs = [.int i] ∧ Q (.int i) H) ∨ ∃ k, xs = [.bl k] ∧ Q (.int (if k then 1 else 0)) H) intB := by
  intro W G h H σ ds vs Q r d o
  match ds, vs, d with
  | [], _, _ => exact o.elim
  | _ :: _ :: _, _, _ => exact o.elim
  | [x], [v], .cons d1 .nil =>
    cases d1 with
    | int => exact .inl ⟨_, rfl, o.at r .int⟩
    | bl => exact .inr ⟨_, rfl, o.at r .int⟩
    | _ => exact o.elim
def min2B : FB := fun ds h => match ds with
  | [.int i, .int j] => .ok (.int (if j < i then j else i)) h
  | _ => .stk
theorem two_ints {K : PySem.W.Frag} {G : Gst} {ds : List D} {vs : List V} {P : Prop} (d : RDs K T G ds vs) (k : ∀ i j, ds = [.int i, .int j] → vs = [.int i, .int j] → P) (n : (∀ i j, ds ≠ [.int i, .int j]) → P) : P := by
  match ds, vs, d with
  | [x, y], [v, w], .cons d1 (.cons d2 .nil) =>
    cases d1 with
    | int => cases d2 with
      | int => exact k _ _ rfl rfl
      | _ => exact n (fun _ _ z => by cases z)
    | _ => exact n (fun _ _ z => by cases z)
  | [], _, _ => exact n (fun _ _ z => by cases z)
  | [_], _, _ => exact n (fun _ _ z => by cases z)
  | _ :: _ :: _ :: _, _, _ => exact n (fun _ _ z => by cases z)
theorem cs_min2 : CallS X T (fun xs H Q => ∃ i j, xs = [.int i, .int j] ∧ Q (.int (if j < i then j else i)) H) min2B := by
  intro W G h H σ ds vs Q r d o
  refine two_ints d (fun i j e1 e2 => ?_) fun n => ?_
  · subst e1; subst e2; exact ⟨i, j, rfl, o.at r .int⟩
  · unfold min2B at o
    split at o
    · exact absurd rfl (n _ _)
    · exact o.elim
def intsOf : List D → Option (List Int)
  | [] => some []
  | .int i :: r => (intsOf r).map (i :: ·)
  | _ => none
def blsOf : List D → Option (List Bool)
  | [] => some []
  | .bl i :: r => (blsOf r).map (i :: ·)
  | _ => none
def listOf (h : Hh) (ds : List D) : Option (List D) := match ds with
  | [x] => asL h x
  | _ => none
def sumB : FB := fun ds h => match (listOf h ds).bind intsOf with
  | some ns => .ok (.int ns.sum) h
  | none => .stk
def allB : FB := fun ds h => match (listOf h ds).bind blsOf with
  | some bs => .ok (.bl (bs.all id)) h
  | none => .stk
def anyB : FB := fun ds h => match (listOf h ds).bind blsOf with
  | some bs => .ok (.bl (bs.any id)) h
  | none => .stk
end
end L3
set_option autoImplicit false
set_option maxHeartbeats 4000000
namespace L3
open PySem PySem.Spec L2
def SqX (K : PySem.W.Frag) : Bool → Hp → Addr → List V → Prop
  | true, H, a, xs => SqT K H a xs
  | false, H, a, xs => SqL K H a xs
def HasX : Bool → Heap → Addr → Array Value → Prop
  | true, h, a, x => h.IsTuple a x
  | false, h, a, x => h.IsList a x
def IterX : Bool → Heap → Addr → Addr → Nat → Prop
  | true, h, it, a, i => h.IsTupleIter it a i
  | false, h, it, a, i => h.IsListIter it a i
theorem IterX.at {b : Bool} {h h' : Heap} {it a : Addr} {i : Nat} (x : IterX b h it a i) (k : ∀ o, h.get? it = some o → h'.get? it = some o) : IterX b h' it a i := by
  cases b with
  | true => exact Heap.IsTupleIter.at x k
  | false => exact Heap.IsListIter.at x k
theorem IterX.obj {b : Bool} {h : Heap} {it a : Addr} {i : Nat} (x : IterX b h it a i) : ∃ o, h.get? it = some o ∧ ∀ v, o.data ≠ .cell v := by
  cases b with
  | true => obtain ⟨o, e, _, d⟩ := x; exact ⟨o, e, fun v q => by rw [d] at q; cases q⟩
  | false => obtain ⟨o, e, _, d⟩ := x; exact ⟨o, e, fun v q => by rw [d] at q; cases q⟩
theorem HasX.lt {b : Bool} {h : Heap} {a : Addr} {x : Array Value} (q : HasX b h a x) : a < h.objs.size := by
  cases b with
  | true => obtain ⟨o, e, _⟩ := q; exact Heap.lt_size e
  | false => obtain ⟨o, e, _⟩ := q; exact Heap.lt_size e
theorem SqX.has {X : Cx} {pins : List (Addr × Obj)} {σ : L2.St} {H : Hp} {s : Shared} {b : Bool} {a : Addr} {xs : List V} (I : Inv X pins σ H s) (q : SqX X.K b H a xs) : ∃ its : List Value, Vals xs its ∧ HasX b s.heap a its.toArray := by
  cases b with
  | true => obtain ⟨its, r, p, _⟩ := I.tuple q; exact ⟨its, r, p⟩
  | false => obtain ⟨its, r, p, _⟩ := I.list q; exact ⟨its, r, p.isList⟩
theorem SqX.inj {X : Cx} {pins : List (Addr × Obj)} {σ : L2.St} {H : Hp} {s : Shared} {b : Bool} {a : Addr} {xs ys : List V} (I : Inv X pins σ H s) (q : SqX X.K b H a xs) (q' : SqX X.K b H a ys) : xs = ys := by
  cases b with
  | true => exact I.tuple_inj q q'
  | false => exact I.list_inj q q'
section
variable {X : Cx} {T : Tx} {W : WX} {pos : Pos}
def immS : D → Option (Bool × List D)
  | .tup ds => some (true, ds)
  | .lst ds => some (false, ds)
  | .scr ds => some (false, ds)
  | _ => none
theorem SqX.sub {K : PySem.W.Frag} {b : Bool} {H H' : Hp} {a : Addr} {xs : List V} (s : ∀ a o, H a = some o → H' a = some o) (h : SqX K b H a xs) : SqX K b H' a xs := by
  cases b with
  | true => exact SqT.sub s h
  | false => exact SqL.sub s h
def zipL : List D → List D → List D
  | x :: xs, y :: ys => .tup [x, y] :: zipL xs ys
  | _, _ => []
def kZip (ds : List D) (h : Hh) : R (List D) := match ds with
  | [x, y] => match immS x, immS y with
    | some (_, xs), some (_, ys) => .ok (zipL xs ys) h
    | _, _ => .stk
  | _ => .stk
def iZip (fa : FnA) : FnI := fun δ h => (fa δ h).bind kZip
def enumL : Nat → List D → List D
  | _, [] => []
  | k, x :: xs => .tup [.int k, x] :: enumL (k + 1) xs
inductive Ty | int | bool | str | tuple | list | dict
deriving DecidableEq
def Ty.nm : Ty → String
  | .int => "int" | .bool => "bool" | .str => "str" | .tuple => "tuple" | .list => "list" | .dict => "dict"
inductive Kd | non | bool | int | str | tuple | list | dict
def Kd.nm : Kd → String
  | .non => "NoneType" | .bool => "bool" | .int => "int" | .str => "str" | .tuple => "tuple" | .list => "list" | .dict => "dict"
def isK : Kd → Ty → Bool
  | .bool, .bool => true
  | .bool, .int => true
  | .int, .int => true
  | .str, .str => true
  | .tuple, .tuple => true
  | .list, .list => true
  | .dict, .dict => true
  | _, _ => false
theorem isK_kit (k : Kd) (t : Ty) : kitB k.nm t.nm = some (isK k t) := by
  cases k <;> cases t <;> decide +kernel
def kdOf (h : Hh) : D → Option Kd
  | .non => some .non
  | .bl _ => some .bool
  | .int _ => some .int
  | .str _ => some .str
  | .tup _ => some .tuple
  | .lst _ => some .list
  | .scr _ => some .list
  | .dic _ _ => some .dict
  | .ref n => match h[n]? with
    | some (.lst _) => some .list
    | some (.dic _ _) => some .dict
    | _ => none
  | .obj _ _ => none
theorem kd_list {K : PySem.W.Frag} {H : Hp} {a : Addr} {vs : List V} (q : SqL K H a vs) : TyX K H (.ref a) (.type "list") := by
  rcases q with (h | ⟨o, h⟩) | ⟨o, its, n, h1, h2, _⟩
  · exact .base (.lst h)
  · exact .base (.frz h)
  · exact .kList h1 h2
theorem kd_tup {K : PySem.W.Frag} {H : Hp} {a : Addr} {vs : List V} (q : SqT K H a vs) : TyX K H (.ref a) (.type "tuple") := by
  rcases q with (h | ⟨o, h⟩) | ⟨o, its, n, h1, h2, _⟩
  · exact .base (.tup h)
  · exact .fTuple h
  · exact .kTuple h1 h2
theorem kd_ok {K : PySem.W.Frag} {G : Gst} {h : Hh} {H : Hp} {d : D} {v : V} {k : Kd} (r : Rel K T G h H) (d1 : RD K T G d v) (e : kdOf h d = some k) : TyX K H v (.type k.nm) := by
  cases d1 with
  | non => cases e; exact .base .non
  | bl => cases e; exact .base (.bl _)
  | int => cases e; exact .base (.int _)
  | str => cases e; exact .base (.str _)
  | tup q _ => cases e; exact kd_tup (SqT.sub r.sub q)
  | lst q _ => cases e; exact .base (.lst (r.sub _ _ q))
  | scr q _ => cases e; exact kd_list (SqL.sub r.sub q)
  | dic q _ _ => cases e; exact .base (.dK (r.sub _ _ q))
  | obj => cases e
  | @ref n a q =>
    unfold kdOf at e
    dsimp only at e
    cases z : h[n]? with
    | none => rw [z] at e; cases e
    | some o =>
      rw [z] at e
      cases o with
      | lst ds =>
        cases e
        obtain ⟨a', vs, e1, e2, e3, _⟩ := r.obj n _ z
        rw [q] at e1; cases e1
        exact .base (.lst e3)
      | dic ks vs =>
        cases e
        obtain ⟨a', kvs, e1, e2, e3, _⟩ := r.obj n _ z
        rw [q] at e1; cases e1
        exact .base (.dK e3)
      | _ => cases e
def isiD (t : Ty) (x : D) (h : Hh) : R D := match kdOf h x with
  | some k => .ok (.bl (isK k t)) h
  | none => .stk
def eIsi (t : Ty) (fa : FnE) : FnE := fun δ h => (fa δ h).bind (isiD t)
theorem fe_isi {t : Ty} {x : Str} {p p2 : Pos} {e : Expr} {fa : FnE} (he : FE X T W e fa) (hg : Gl X "isinstance") (hm : X.mg "isinstance" = none) (hgt : Gl X x) (hmt : X.mg x = none) (hv : bootBuiltins x = some (.type t.nm)) (hv0 : bootBuiltins "isinstance" = some (.builtin "isinstance")) (hn : x ≠ "__name__" := by decide) (hdb : (x == ("__debug__" : Str)) = false := by decide)
    (hs : starEach [e, .Name x p2] X.env = (false, eval e X.env) :: starEach [.Name x p2] X.env := by rfl) (hs2 : starEach [.Name x p2] X.env = (false, eval (.Name x p2) X.env) :: starEach [] X.env := by rfl) (hpl : (backTo pos (starEach [.Name x p2] X.env)).any (·.1) = false := by rfl) :
    FE X T W (.Call (.Name "isinstance" p) [e, .Name x p2] [] pos) (eIsi t fa) := by
  have hty : PE X (.Name x p2) (tC (.ty t.nm)) := pe_bltn hgt hmt hv rfl hn hdb
  refine PE.imp (pe_callB call_isi hg hm hv0 (pa_cons he (pa_cons hty pa_nil hs2) hs) (by decide) (by decide) hs hpl) fun σ H Q h => ?_
  refine tF.bind (k := fun _ => isiD t) h fun G δ x v h1 H1 r1 s1 d1 o1 => ?_
  unfold isiD at o1
  cases ek : kdOf h1 x with
  | none => rw [ek] at o1; exact o1.elim
  | some k =>
    rw [ek] at o1
    exact ⟨v, .ty t.nm, .type k.nm, .type t.nm, isK k t, rfl, .ty _, kd_ok r1 d1 ek, kit_ty (isK_kit k t), o1.at r1 .bl⟩
end
end L3
set_option autoImplicit false
set_option maxHeartbeats 4000000
namespace L3
open PySem PySem.Spec L2
def keyEq : D → D → Bool
  | .int i, .int j => decide (i = j)
  | .str a, .str b => decide (a = b)
  | _, _ => false
def isKey : D → Bool
  | .int _ => true
  | .str _ => true
  | _ => false
def keyOf : D → Key
  | .int i => .inl i
  | .str x => .inr ⟨x.toArray⟩
  | _ => .inl 0
theorem keyEq_iff {a b : D} (ha : isKey a = true) (hb : isKey b = true) : keyEq a b = decide (keyOf a = keyOf b) := by
  cases a <;> first | (cases ha; done) | skip
  all_goals (cases b <;> first | (cases hb; done) | skip)
  all_goals simp [keyEq, keyOf]
section
variable {T : Tx} {K : PySem.W.Frag} {G : Gst}
theorem RD.key {d : D} {v : V} (d1 : RD K T G d v) (h : isKey d = true) : v = kV (keyOf d) := by
  cases d1 <;> first | rfl | cases h
theorem RD.unkey {d : D} {k : Key} (d1 : RD K T G d (kV k)) : isKey d = true ∧ keyOf d = k := by
  cases k with
  | inl i =>
    have e : kV (.inl i) = V.int i := rfl
    rw [e] at d1
    cases d1; exact ⟨rfl, rfl⟩
  | inr x =>
    have e : kV (.inr x) = V.str x := rfl
    rw [e] at d1
    cases d1; exact ⟨rfl, rfl⟩
def lookD : List D → List D → D → Option D
  | k :: ks, v :: vs, x => if keyEq k x = true then some v else lookD ks vs x
  | _, _, _ => none
theorem lookD_ok {x d : D} (hx : isKey x = true) : ∀ {kvs : List (Key × V)} {ks vs : List D}, RDs K T G ks (kvs.map fun p => kV p.1) → RDs K T G vs (kvs.map (·.2)) → lookD ks vs x = some d → ∃ v, valV kvs (keyOf x) = some v ∧ RD K T G d v
  | [], _, _, hk, hv, e => by cases hk; cases hv; cases e
  | p :: kvs, _, _, hk, hv, e => by
    rw [List.map_cons] at hk hv
    cases hk with
    | cons k1 k2 => cases hv with
      | cons v1 v2 =>
        obtain ⟨z1, z2⟩ := k1.unkey
        unfold lookD at e
        rw [keyEq_iff z1 hx, z2] at e
        by_cases q : p.1 = keyOf x
        · rw [if_pos (decide_eq_true q)] at e
          cases e
          exact ⟨p.2, valV_pos q, v1⟩
        · rw [if_neg (by simpa using q)] at e
          obtain ⟨v, w1, w2⟩ := lookD_ok hx k2 v2 e
          exact ⟨v, by rw [valV_neg q]; exact w1, w2⟩
def hasK (ks : List D) (x : D) : Bool := ks.any fun k => keyEq k x
def replD : List D → List D → D → D → List D
  | k :: ks, v :: vs, x, y => (if keyEq k x = true then y else v) :: replD ks vs x y
  | _, _, _, _ => []
def putKs (ks : List D) (x : D) : List D := if hasK ks x = true then ks else ks ++ [x]
def putVs (ks vs : List D) (x y : D) : List D := if hasK ks x = true then replD ks vs x y else vs ++ [y]
theorem hasK_ok {x : D} (hx : isKey x = true) : ∀ {kvs : List (Key × V)} {ks : List D}, RDs K T G ks (kvs.map fun p => kV p.1) → hasK ks x = kvs.any fun kv => decide (kv.1 = keyOf x)
  | [], _, hk => by cases hk; rfl
  | p :: kvs, _, hk => by
    rw [List.map_cons] at hk
    cases hk with
    | cons k1 k2 =>
      obtain ⟨z1, z2⟩ := k1.unkey
      unfold hasK
      rw [List.any_cons, List.any_cons, keyEq_iff z1 hx, z2]
      congr 1
      exact hasK_ok hx k2
theorem replD_ok {x y : D} {w : V} (hx : isKey x = true) (hy : RD K T G y w) : ∀ {kvs : List (Key × V)} {ks vs : List D}, RDs K T G ks (kvs.map fun p => kV p.1) → RDs K T G vs (kvs.map (·.2)) →
    RDs K T G (replD ks vs x y) ((kvs.map fun kv => if kv.1 = keyOf x then (kv.1, w) else kv).map (·.2))
  | [], _, _, hk, hv => by cases hk; cases hv; exact .nil
  | p :: kvs, _, _, hk, hv => by
    rw [List.map_cons] at hk hv
    cases hk with
    | cons k1 k2 => cases hv with
      | cons v1 v2 =>
        obtain ⟨z1, z2⟩ := k1.unkey
        unfold replD
        rw [List.map_cons, List.map_cons, keyEq_iff z1 hx, z2]
        refine .cons ?_ (replD_ok hx hy k2 v2)
        by_cases q : p.1 = keyOf x
        · rw [if_pos (decide_eq_true q), if_pos q]; exact hy
        · rw [if_neg (by simpa using q), if_neg q]; exact v1
theorem repl_keys (k : Key) (w : V) : ∀ kvs : List (Key × V), ((kvs.map fun kv => if kv.1 = k then (kv.1, w) else kv).map fun p => kV p.1) = kvs.map fun p => kV p.1
  | [] => rfl
  | p :: kvs => by
    rw [List.map_cons, List.map_cons, List.map_cons, repl_keys k w kvs]
    congr 1
    by_cases q : p.1 = k
    · rw [if_pos q]
    · rw [if_neg q]
theorem putD_ok {x y : D} {w : V} {kvs : List (Key × V)} {ks vs : List D} (hx : isKey x = true) (hy : RD K T G y w) (hk : RDs K T G ks (kvs.map fun p => kV p.1)) (hv : RDs K T G vs (kvs.map (·.2))) :
    RDs K T G (putKs ks x) ((putK kvs (keyOf x) w).map fun p => kV p.1) ∧ RDs K T G (putVs ks vs x y) ((putK kvs (keyOf x) w).map (·.2)) := by
  unfold putKs putVs putK
  rw [hasK_ok hx hk]
  by_cases q : (kvs.any fun kv => decide (kv.1 = keyOf x)) = true
  · rw [if_pos q, if_pos q, if_pos q, repl_keys]
    exact ⟨hk, replD_ok hx hy hk hv⟩
  · rw [if_neg q, if_neg q, if_neg q, List.map_append, List.map_append]
    refine ⟨hk.append (.cons ?_ .nil), hv.append (.cons hy .nil)⟩
    cases x with
    | int => exact .int
    | str => exact .str
    | _ => cases hx
end
section
variable {X : Cx} {T : Tx} {W : WX} {pos : Pos}
def asDic (h : Hh) : D → Option (List D × List D)
  | .dic ks vs => some (ks, vs)
  | .ref n => match h[n]? with
    | some (.dic ks vs) => some (ks, vs)
    | some (.dicL ks vs) => some (ks, vs)
    | _ => none
  | _ => none
theorem asDic_ok {K : PySem.W.Frag} {G : Gst} {h : Hh} {H : Hp} {d : D} {v : V} {ks vs : List D} (r : Rel K T G h H) (d1 : RD K T G d v) (e : asDic h d = some (ks, vs)) :
    ∃ a kvs, v = .ref a ∧ Rd H a (.dK kvs) ∧ RDs K T G ks (kvs.map fun p => kV p.1) ∧ RDs K T G vs (kvs.map (·.2)) := by
  cases d1 with
  | dic q1 q2 q3 => cases e; exact ⟨_, _, rfl, .inl (r.sub _ _ q1), q2, q3⟩
  | @ref n a q =>
    unfold asDic at e
    dsimp only at e
    cases z : h[n]? with
    | none => rw [z] at e; cases e
    | some o =>
      rw [z] at e
      cases o with
      | dic ks' vs' =>
        cases e
        obtain ⟨a', kvs, e1, e2, e3, e4, e5⟩ := r.obj n _ z
        rw [q] at e1; cases e1
        exact ⟨a, kvs, rfl, .inl e3, e4, e5⟩
      | dicL ks' vs' =>
        cases e
        obtain ⟨a', od, kvs, e1, e2, e4, e5⟩ := r.obj n _ z
        rw [q] at e1; cases e1
        exact ⟨a, kvs, rfl, .inr ⟨od, (r.lk a _ e2).1⟩, e4, e5⟩
      | _ => cases e
  | _ => cases e
def rIxH : R2 := fun x y H Q => ∃ a v, x = .ref a ∧ DGet H a y (some v) ∧ Q v H
theorem ix_dict (hu : X.A.units + 1 < cLine) : IxR X rIxH := by
  intro value slice pins s σ H x y v u Q I rx ry h hs
  obtain ⟨a, w, ex, g, q⟩ := h
  subst ex
  obtain rfl : v = Value.ref a := rx
  have hT := dict_typeIs I g
  unfold PyProof.Rows.subscriptTail
  refine wpAny_bind ?_
  rw [getitemInPython_of_ne hT.not_modules]
  refine wpAny_bind (wpAny_specialOf hT PySem.F.slot_dict_getitem.lookup ?_)
  have fin : wpAny (model X.prog X.w) X.A (subscripted slice false (.ref a) u) (fun r s₃ => wpAny (model X.prog X.w) X.A (letTemporaryGo value (.ref a) r >>= fun _ => pure r) (EP X pins σ Q) X.xe s₃) X.xe s := by
    rw [hs]
    exact wpAny_operating (d_getItem hu I g ry fun w' s3 I3 rw' => wpAny_bind (wpAny_letTemporaryGo (wpAny_pure ⟨w, H, I3, rw', q⟩)))
  first
    | exact wpAny_pure (wpAny_bind fin)
    | exact wpAny_bind (wpAny_pure (wpAny_bind fin))
    | exact wpAny_bind fin
def ixA : F2 := fun x y h => match asDic h x with
  | some (ks, vs) => if isKey y = true then optR (lookD ks vs y) h else .stk
  | none => ixD x y h
def rIxAll (K : PySem.W.Frag) : R2 := fun x y H Q => rIx K x y H Q ∨ rIxH x y H Q
theorem os_ixA : OpS X T (rIxAll X.K) ixA := by
  intro W G h H σ x y v w Q r d1 d2 o
  unfold ixA at o
  cases e : asDic h x with
  | none => rw [e] at o; exact .inl (os_ix W G h H σ x y v w Q r d1 d2 o)
  | some p =>
    obtain ⟨ks, vs⟩ := p
    rw [e] at o
    dsimp only at o
    by_cases hy : isKey y = true
    · rw [if_pos hy] at o
      cases el : lookD ks vs y with
      | none => rw [el] at o; exact o.elim
      | some d =>
        rw [el] at o
        obtain ⟨a, kvs, rfl, q1, q2, q3⟩ := asDic_ok r d1 e
        obtain ⟨u, w1, w2⟩ := lookD_ok hy q2 q3 el
        have ew := d2.key hy
        subst ew
        exact .inr ⟨a, u, rfl, by rw [← w1]; exact .inl ⟨kvs, _, q1, rfl, rfl⟩, o.at r w2⟩
    · rw [if_neg hy] at o; exact o.elim
theorem fe_ixA {a b : Expr} {fa fb : FnE} (hu : X.A.units + 1 < cLine) (hs : PlainIx b) (ha : FE X T W a fa) (hb : FE X T W b fb) : FE X T W (.Subscript a b pos) (eBin ixA fa fb) :=
  PE.imp (pe_ix (IxR.or ix_seq (ix_dict hu)) ha hb hs) fun _ _ _ h => tE_bin os_ixA h
def setOne (x i y : D) (h : Hh) : Option Hh := match x with
  | .ref n => match h[n]? with
    | some (.lst ds) => match i with
      | .int k => match ixN ds.length k with
        | some j => some (h.set n (.lst (ds.set j y)))
        | none => none
      | _ => none
    | some (.dic ks vs) => if isKey i = true ∧ ks.length < 1000000 then some (h.set n (.dic (putKs ks i) (putVs ks vs i y))) else none
    | _ => none
  | _ => none
def rSetA : TSet := fun o i v H Q => rSetL o i v H Q ∨ rSetD o i v H Q
theorem set_A (hu : X.A.units + 1 < cLine) : PSet X rSetA := fun pins s σ H o i v ov iv u Q I ro ri rv h => h.elim (set_list pins s σ H o i v ov iv u Q I ro ri rv) (set_dict hu pins s σ H o i v ov iv u Q I ro ri rv)
theorem setOne_ok {K : PySem.W.Frag} {G : Gst} {h h' : Hh} {H : Hp} {x i y : D} {vx vi vy : V} {Q : Hp → Prop} (r : Rel K T G h H) (dx : RD K T G x vx) (di : RD K T G i vi) (dy : RD K T G y vy) (e : setOne x i y h = some h') (q : ∀ H', Rel K T G h' H' → Q H') : rSetA vx vi vy H Q := by
  cases dx with
  | @ref n a q1 =>
    unfold setOne at e
    dsimp only at e
    cases z : h[n]? with
    | none => rw [z] at e; cases e
    | some o =>
      rw [z] at e
      have hn : n < h.length := (List.getElem?_eq_some_iff.mp z).1
      cases o with
      | lst ds =>
        cases di with
        | @int k =>
          dsimp only at e
          cases ej : ixN ds.length k with
          | none => rw [ej] at e; cases e
          | some j =>
            rw [ej] at e
            cases e
            obtain ⟨a', vs, e1, e2, e3, e4⟩ := r.obj n _ z
            rw [q1] at e1; cases e1
            refine .inl ⟨a, vs, k, j, rfl, rfl, e3, by rw [← e4.length]; exact ej, q _ (r.put hn e2 ⟨a, _, q1, e2, upd_same, e4.set dy j⟩)⟩
        | _ => cases e
      | dic ks vs =>
        dsimp only at e
        by_cases hk : isKey i = true ∧ ks.length < 1000000
        · rw [if_pos hk] at e
          cases e
          obtain ⟨a', kvs, e1, e2, e3, e4, e5⟩ := r.obj n _ z
          rw [q1] at e1; cases e1
          have ei := di.key hk.1
          subst ei
          obtain ⟨p1, p2⟩ := putD_ok hk.1 dy e4 e5
          have hl : kvs.length < sizeLine := by
            have := e4.length
            rw [List.length_map] at this
            rw [← this, sizeLine_eq]; omega
          exact .inr ⟨a, _, rfl, DPut.k e3 hl, q _ (r.put hn e2 ⟨a, _, q1, e2, upd_same, p1, p2⟩)⟩
        · rw [if_neg hk] at e; cases e
      | _ => cases e
  | _ => cases e
def kSet (δ : De) (x i y : D) (h : Hh) : RS := match setOne x i y h with
  | some h' => .nx δ h'
  | none => .stk
def sIxS (fo fi fv : FnE) : FnS := fun δ h => (fv δ h).toS δ fun y h1 => (fo δ h1).toS δ fun x h2 => (fi δ h2).toS δ fun i h3 => kSet δ x i y h3
theorem fs_ix {o i value : Expr} {fo fi fv : FnE} {pos' : Pos} (hu : X.A.units + 1 < cLine) (ho : FE X T W o fo) (hi : FE X T W i fi) (hv : FE X T W value fv)
    (ha : ∀ v, assign (.Subscript o i pos') X.env v = (do
      let ov ← holding [v] (eval o X.env)
      let iv ← holding [v, ov] (eval i X.env)
      standAt pos'
      holding [v, ov, iv] (setItem ov iv v)
      release [v, ov, iv] []) := by intro _; rfl)
    (hs : swapsWithSole [.Subscript o i pos'] value pos.line X.env = pure false := by rfl) (hw : swappedStores [.Subscript o i pos'] value X.env = pure none := by rfl) (h1 : (assignEach [.Subscript o i pos'] X.env).map (·.2) = [assign (.Subscript o i pos') X.env] := by rfl) :
    FS X T W (.Assign [.Subscript o i pos'] value pos) (sIxS fo fi fv) := by
  refine PS.imp (ps_asg hv (pg_sub ho hi (set_A hu) ha) hs hw h1) fun D σ H => ?_
  rintro ⟨G, h0, δ, r, s, oo⟩
  refine ⟨G, h0, δ, r, s, (okS.toS (rel := RD X.K T) s oo).mono ?_⟩
  rintro vy H1 ⟨G1, y, h1, e1, r1, d1, o1⟩
  refine ⟨G1, h1, δ, r1, s.mono e1, (okS.toS (rel := RD X.K T) (s.mono e1) o1).mono ?_⟩
  rintro vx H2 ⟨G2, x, h2, e2, r2, d2, o2⟩
  refine ⟨G2, h2, δ, r2, s.mono (e1.trans e2), (okS.toS (rel := RD X.K T) (s.mono (e1.trans e2)) o2).mono ?_⟩
  rintro vi H3 ⟨G3, i', h3, e3, r3, d3, o3⟩
  unfold kSet at o3
  cases es : setOne x i' y h3 with
  | none => rw [es] at o3; exact o3.elim
  | some h4 =>
    rw [es] at o3
    exact setOne_ok r3 (d2.mono e3) d3 (d1.mono (e2.trans e3)) es fun H' r' => o3 G3 H' σ (Ext.refl G3) r' (s.mono (e1.trans (e2.trans e3)))
def whileN (t : FnT) (u : FnS) : Nat → FnS
  | 0 => fun _ _ => .stk
  | n + 1 => fun δ h => (t δ h).toS δ fun c h1 => if c = true then (match u δ h1 with
      | .nx δ2 h2 => whileN t u n δ2 h2
      | .ct δ2 h2 => whileN t u n δ2 h2
      | .bk δ2 h2 => .nx δ2 h2
      | r => r) else .nx δ h1
theorem fs_while {N : Nat} {c : Expr} {body : List Stmt} {t : FnT} {u : FnS} (hp : PassesOwn (model X.prog X.w) X.A X.env X.xe) (hc : FT X T W c t) (hb : FSs X T W body u) : FS X T W (.While c body [] pos) (whileN t u N) := by
  refine PS.imp (ps_while hp hc hb) fun D σ H => ?_
  intro hh
  refine ⟨fun m σ H => tS X.K T W (whileN t u m) D σ H, ⟨N, hh⟩, ?_⟩
  rintro m σ' H' ⟨G1, h1, δ1, r1, s1, o1⟩
  cases m with
  | zero => exact o1.elim
  | succ n =>
    unfold whileN at o1
    refine ⟨G1, h1, δ1, r1, s1, (okS.toS (rel := relB) s1 o1).mono ?_⟩
    rintro b H2 ⟨G2, x, h2, e2, r2, d2, o2⟩
    have d : x = b := d2
    subst d
    cases x with
    | false =>
      rw [if_neg Bool.false_ne_true] at o2 ⊢
      exact o2 G2 H2 σ' (Ext.refl G2) r2 (s1.mono e2)
    | true =>
      rw [if_pos rfl] at o2 ⊢
      refine ⟨fun σ3 H3 => tS X.K T W (whileN t u n) D σ3 H3, fun σ3 H3 z => ⟨n, Nat.lt_succ_self n, z⟩, G2, h2, δ1, r2, s1.mono e2, ?_⟩
      cases eu : u δ1 h2 with
      | nx δ5 h5 => rw [eu] at o2; exact fun G' H'' σ'' x' r' s' => ⟨G', h5, δ5, r', s', okS.ext x' o2⟩
      | ct δ5 h5 => rw [eu] at o2; exact fun G' H'' σ'' x' r' s' => ⟨G', h5, δ5, r', s', okS.ext x' o2⟩
      | bk δ5 h5 => rw [eu] at o2; exact o2
      | rt d h5 => rw [eu] at o2; exact o2
      | exc c ds δ5 h5 => rw [eu] at o2; exact o2
      | stk => rw [eu] at o2; exact o2
theorem whileN_mono {t : FnT} {u : FnS} : ∀ (n m : Nat) (δ : De) (h : Hh), n ≤ m → whileN t u n δ h ≠ .stk → whileN t u m δ h = whileN t u n δ h
  | 0, _, _, _, _, e => absurd rfl e
  | n + 1, 0, _, _, hl, _ => by omega
  | n + 1, m + 1, δ, h, hl, e => by
    unfold whileN at e ⊢
    cases et : t δ h with
    | stk => rfl
    | exc => rfl
    | ok c h1 =>
      rw [et] at e
      simp only [R.toS] at e ⊢
      cases c with
      | false => rfl
      | true =>
        simp only [if_true] at e ⊢
        cases eu : u δ h1 with
        | nx δ2 h2 => rw [eu] at e; exact whileN_mono n m δ2 h2 (by omega) e
        | ct δ2 h2 => rw [eu] at e; exact whileN_mono n m δ2 h2 (by omega) e
        | bk δ2 h2 => rfl
        | rt d h2 => rfl
        | exc c ds δ2 h2 => rfl
        | stk => rfl
abbrev FM := D → List D → Hh → R D
def MtS (X : Cx) (T : Tx) (rd : V → List V → Hp → VK → Prop) (g : FM) : Prop := ∀ (W : WX) G h H σ x v ds vs Q, Rel X.K T G h H → RD X.K T G x v → RDs X.K T G ds vs → okR X.K T W G σ (RD X.K T) (g x ds h) Q → rd v vs H Q
def kM (g : FM) (fa : FnA) (δ : De) (x : D) (h1 : Hh) : R D := if (asL h1 x).isSome = true then (fa δ h1).bind (g x) else .stk
def eM (g : FM) (fo : FnE) (fa : FnA) : FnE := fun δ h => (fo δ h).bind (kM g fa δ)
theorem asL_ty {K : PySem.W.Frag} {G : Gst} {h : Hh} {H : Hp} {d : D} {v : V} (r : Rel K T G h H) (d1 : RD K T G d v) (e : (asL h d).isSome = true) : tyV K "list" v H := by
  obtain ⟨ds, ed⟩ := Option.isSome_iff_exists.mp e
  obtain ⟨a, vs, rfl, h1, _⟩ := asL_ok r d1 ed
  exact .inl ⟨rfl, vs, .inl (.inl h1)⟩
theorem fe_m {o e : Expr} {es : List Expr} {name : Str} {id : String} {apos : Pos} {rd : V → List V → Hp → VK → Prop} {g : FM} {fo : FnE} {fa : FnA} (slot : Slot "list" name id) (hty : typeOf (.builtin id) = pure (.type "method_descriptor")) (hm : MtR X id rd) (hs : MtS X T rd g) (ho : FE X T W o fo) (ha : FA X T W (e :: es) fa)
    (hbase : attributeBase o name X.env (eval o X.env) = eval o X.env := by rfl)
    (hfew : ((backTo pos (starEach (e :: es) X.env)).all (fun x => !x.1) && (backToKw pos (keywordEach [] X.env)).all (fun x => x.1.isSome)
      && decide ((e :: es).length + ([] : List Keyword).length + (if ([] : List Keyword).isEmpty then 0 else 1) < 30)) = true := by rfl)
    (hline : (apos.endLine == pos.line) = true := by rfl) (hs1 : starEach (e :: es) X.env = (false, eval e X.env) :: starEach es X.env := by rfl) (hplain : (backTo pos (starEach es X.env)).any (·.1) = false := by rfl) :
    FE X T W (.Call (.Attribute o name apos) (e :: es) [] pos) (eM g fo fa) := by
  refine PE.imp (pe_bm PySem.F.plainAttrs_list slot hty hm ho ha hbase hfew hline hs1 hplain) fun σ H Q => ?_
  rintro ⟨G, h0, δ, r, s, oo⟩
  refine ⟨G, h0, δ, r, s, (okR.bind (rel := RD X.K T) oo).mono ?_⟩
  rintro v H1 ⟨G1, x, h1, e1, r1, d1, o1⟩
  unfold kM at o1
  by_cases hl : (asL h1 x).isSome = true
  · rw [if_pos hl] at o1
    refine ⟨asL_ty r1 d1 hl, G1, h1, δ, r1, s.mono e1, (okR.bind (rel := RDs X.K T) o1).mono ?_⟩
    rintro vs H2 ⟨G2, ds, h2, e2, r2, d2, o2⟩
    exact hs W G2 h2 H2 σ x v ds vs Q r2 (d1.mono e2) d2 o2
  · rw [if_neg hl] at o1; exact o1.elim
def mutL (h : Hh) : D → Option (Nat × List D)
  | .ref n => match h[n]? with
    | some (.lst ds) => some (n, ds)
    | _ => none
  | _ => none
theorem mutL_ok {K : PySem.W.Frag} {G : Gst} {h : Hh} {H : Hp} {d : D} {v : V} {n : Nat} {ds : List D} (r : Rel K T G h H) (d1 : RD K T G d v) (e : mutL h d = some (n, ds)) :
    ∃ a vs, v = .ref a ∧ H a = some (.lst vs) ∧ RDs K T G ds vs ∧ ∀ es ws, RDs K T G es ws → Rel K T G (h.set n (.lst es)) (upd H a (.lst ws)) := by
  cases d1 with
  | @ref m a q =>
    unfold mutL at e
    dsimp only at e
    cases z : h[m]? with
    | none => rw [z] at e; cases e
    | some o =>
      rw [z] at e
      cases o with
      | lst es =>
        cases e
        obtain ⟨a', vs, e1, e2, e3, e4⟩ := r.obj _ _ z
        rw [q] at e1; cases e1
        exact ⟨a, vs, rfl, e3, e4, fun es ws d => r.put (List.getElem?_eq_some_iff.mp z).1 e2 (show RO K T G (upd H a (.lst ws)) _ (.lst es) from ⟨a, ws, q, e2, upd_same, d⟩)⟩
      | _ => cases e
  | _ => cases e
def appendM : FM := fun x as h => match mutL h x, as with
  | some (n, ds), [y] => if ds.length < 16777216 then .ok .non (h.set n (.lst (ds ++ [y]))) else .stk
  | _, _ => .stk
theorem ms_append : MtS X T rAppend appendM := by
  intro W G h H σ x v as vs Q r d1 d2 o
  unfold appendM at o
  cases e : mutL h x with
  | none => rw [e] at o; exact o.elim
  | some p =>
    obtain ⟨n, ds⟩ := p
    rw [e] at o
    match as, vs, d2 with
    | [], _, _ => exact o.elim
    | _ :: _ :: _, _, _ => exact o.elim
    | [y], [w], .cons dy .nil =>
      dsimp only at o
      by_cases hl : ds.length < 16777216
      · rw [if_pos hl] at o
        obtain ⟨a, us, rfl, q1, q2, q3⟩ := mutL_ok r d1 e
        exact ⟨a, us, w, rfl, rfl, q1, by rw [← q2.length, sizeLine_eq]; exact hl, o.at (q3 _ _ (q2.append (.cons dy .nil))) .non⟩
      · rw [if_neg hl] at o; exact o.elim
def sliceM (x : D) (lo hi : Option Int) (h : Hh) : R D := match asL h x with
  | some xs => .ok (.ref h.length) (h ++ [.lst (cutL xs lo hi)])
  | none => .stk
def eSliceM (f : FnE) (fl fh : FnO) : FnE := fun δ h => (f δ h).bind fun x h1 => (fl δ h1).bind fun l h2 => (fh δ h2).bind fun u h3 => sliceM x l u h3
theorem fe_sliceM {e : Expr} {lo hi : Option Expr} {p2 : Pos} {f : FnE} {fl fh : FnO} (he : FE X T W e f) (hl : FO X T W lo fl) (hh : FO X T W hi fh) : FE X T W (.Subscript e (.Slice lo hi none p2) pos) (eSliceM f fl fh) := by
  refine PE.imp (pe_slice (r := rSlL X.K) sl_list he hl hh) fun σ H Q => ?_
  rintro ⟨G, h0, δ, r, s, o⟩
  refine ⟨G, h0, δ, r, s, (okR.bind (rel := RD X.K T) o).mono ?_⟩
  rintro v H1 ⟨G1, x, h1, e1, r1, d1, o1⟩
  refine ⟨G1, h1, δ, r1, s.mono e1, (okR.bind (rel := fun _ a b => a = b) o1).mono ?_⟩
  rintro l H2 ⟨G2, l', h2, e2, r2, rfl, o2⟩
  refine ⟨G2, h2, δ, r2, s.mono (e1.trans e2), (okR.bind (rel := fun _ a b => a = b) o2).mono ?_⟩
  rintro u H3 ⟨G3, u', h3, e3, r3, rfl, o3⟩
  have d3 := d1.mono (e2.trans e3)
  unfold sliceM at o3
  cases ex : asL h3 x with
  | none => rw [ex] at o3; exact o3.elim
  | some xs =>
    rw [ex] at o3
    obtain ⟨a, vs, rfl, q1, q2⟩ := asL_ok r3 d3 ex
    exact ⟨a, vs, rfl, .inl (.inl q1), fun p hp => newLstM r3 (q2.cut l' u') hp o3⟩
def dPairs : List (FnE × FnE) → De → Hh → R (List D × List D)
  | [], _, h => .ok ([], []) h
  | (fk, fv) :: r, δ, h => (fk δ h).bind fun k h1 => (fv δ h1).bind fun v h2 => (dPairs r δ h2).bind fun p h3 => .ok (k :: p.1, v :: p.2) h3
abbrev FPs (X : Cx) (T : Tx) (W : WX) (pos : Pos) (keys : List (Option Expr)) (values : List Expr) (fs : List (FnE × FnE)) : Prop := PPs X pos keys values (fs.map fun p => (tE X.K T W p.1, tE X.K T W p.2))
theorem fps_nil : FPs X T W pos [] [] [] := pps_nil
theorem fps_cons {k v : Expr} {ks : List (Option Expr)} {vs : List Expr} {fk fv : FnE} {fs : List (FnE × FnE)} (hk : FE X T W k fk) (hv : FE X T W v fv) (hr : FPs X T W pos ks vs fs) : FPs X T W pos (some k :: ks) (v :: vs) ((fk, fv) :: fs) := pps_cons hk hv hr
def relP (K : PySem.W.Frag) (T : Tx) (G : Gst) (p : List D × List D) (ps : List (V × V)) : Prop := RDs K T G p.1 (ps.map (·.1)) ∧ RDs K T G p.2 (ps.map (·.2))
theorem dPairs_ok {K : PySem.W.Frag} {σ : L2.St} : ∀ (fs : List (FnE × FnE)) (G : Gst) (h : Hh) (δ : De) (H : Hp) (Q : List (V × V) → Hp → Prop), Rel K T G h H → RSl K T G δ σ → okR K T W G σ (relP K T) (dPairs fs δ h) Q → tPairs (fs.map fun p => (tE K T W p.1, tE K T W p.2)) σ H Q
  | [], G, h, δ, H, Q, r, s, o => o G H [] (Ext.refl G) r ⟨.nil, .nil⟩
  | (fk, fv) :: fs, G, h, δ, H, Q, r, s, o => by
    refine ⟨G, h, δ, r, s, (okR.bind (rel := RD K T) o).mono ?_⟩
    rintro v H1 ⟨G1, x, h1, e1, r1, d1, o1⟩
    refine ⟨G1, h1, δ, r1, s.mono e1, (okR.bind (rel := RD K T) o1).mono ?_⟩
    rintro w H2 ⟨G2, y, h2, e2, r2, d2, o2⟩
    refine dPairs_ok fs G2 h2 δ H2 _ r2 (s.mono (e1.trans e2)) ((okR.bind (rel := relP K T) o2).mono ?_)
    rintro ps H3 ⟨G3, p, h3, e3, r3, d3, o3⟩
    exact o3 G3 H3 ((v, w) :: ps) (Ext.refl G3) r3 ⟨.cons (d1.mono (e2.trans e3)) d3.1, .cons (d2.mono e3) d3.2⟩
def keysOk : List D → Bool
  | [] => true
  | k :: ks => isKey k && !hasK ks k && keysOk ks
theorem keys_of {K : PySem.W.Frag} {G : Gst} : ∀ {ks vs : List D} {ps : List (V × V)}, keysOk ks = true → RDs K T G ks (ps.map (·.1)) → RDs K T G vs (ps.map (·.2)) →
    ∃ kvs : List (Key × V), ps = kvs.map (fun kv => (kV kv.1, kv.2)) ∧ (kvs.map (·.1)).Nodup ∧ RDs K T G ks (kvs.map fun p => kV p.1) ∧ RDs K T G vs (kvs.map (·.2))
  | _, _, [], _, hk, hv => by cases hk; cases hv; exact ⟨[], rfl, by simp, .nil, .nil⟩
  | _, _, p :: ps, e, hk, hv => by
    rw [List.map_cons] at hk hv
    cases hk with
    | @cons k v ks _ k1 k2 => cases hv with
      | cons v1 v2 =>
        simp only [keysOk, Bool.and_eq_true, Bool.not_eq_true'] at e
        obtain ⟨⟨z1, z2⟩, z3⟩ := e
        obtain ⟨kvs, e1, e2, e3, e4⟩ := keys_of z3 k2 v2
        have ek := k1.key z1
        have nk : keyOf k ∉ kvs.map (·.1) := fun m => by
          rw [hasK_ok z1 e3] at z2
          obtain ⟨q, q1, q2⟩ := List.mem_map.mp m
          have : (kvs.any fun kv => decide (kv.1 = keyOf k)) = true := List.any_eq_true.mpr ⟨q, q1, decide_eq_true q2⟩
          rw [this] at z2; cases z2
        refine ⟨(keyOf k, p.2) :: kvs, ?_, ?_, ?_, .cons v1 e4⟩
        · rw [List.map_cons, ← e1, ← ek]
        · rw [List.map_cons]; exact List.nodup_cons.mpr ⟨nk, e2⟩
        · rw [List.map_cons]; show RDs K T G (k :: ks) (kV (keyOf k) :: _); rw [← ek]; exact .cons k1 e3
theorem merge_nil : ∀ (more kvs : List (Key × V)), ((kvs ++ more).map (·.1)).Nodup → mergeK kvs more = kvs ++ more
  | [], kvs, _ => by simp [mergeK]
  | p :: r, kvs, nd => by
    have hn : valV kvs p.1 = none := by
      unfold valV
      rw [Option.map_eq_none_iff, List.find?_eq_none]
      intro q hq
      have : q.1 ≠ p.1 := fun e => by
        rw [List.map_append, List.nodup_append] at nd
        exact nd.2.2 _ (List.mem_map.mpr ⟨q, hq, rfl⟩) _ (List.mem_map.mpr ⟨p, List.mem_cons_self, rfl⟩) e
      simpa using this
    show mergeK (putK kvs p.1 p.2) r = _
    rw [putK_new _ hn]
    have e : kvs ++ p :: r = (kvs ++ [(p.1, p.2)]) ++ r := by simp
    rw [e]
    exact merge_nil r _ (by rw [← e]; exact nd)
def kDic (mu : Bool) (p : List D × List D) (h1 : Hh) : R D := if keysOk p.1 = true ∧ p.1.length ≤ 15 then (if mu = true then .ok (.ref h1.length) (h1 ++ [.dic p.1 p.2]) else .ok (.dic p.1 p.2) h1) else .stk
def noXP {α : Type} (r : R α) : R α := match r with
  | .ok x h => .ok x h
  | _ => .stk
def eDic (mu : Bool) (fs : List (FnE × FnE)) : FnE := fun δ h => (noXP (dPairs fs δ h)).bind (kDic mu)
theorem fe_dict {mu : Bool} {keys : List (Option Expr)} {values : List Expr} {fs : List (FnE × FnE)} (h : FPs X T W0 pos keys values fs) (hall : keys.all (·.isSome) = true) (hl : keys.length = values.length) (h0 : keys ≠ []) (h15 : keys.length ≤ 15) :
    FE X T W (.Dict keys values pos) (eDic mu fs) := by
  refine PE.imp (pe_disp h hall hl h0 h15) fun σ H Q => ?_
  rintro ⟨G, hh, δ, r, s, o⟩
  intro p hp
  have rg := r.guard (o := .dK []) hp
  have sg : RSl X.K T (G.guard p (.dK [])) δ σ := RSl.ghost (G := G) (G' := G.guard p (.dK [])) rfl (fun _ _ z => z) s
  refine dPairs_ok fs (G.guard p (.dK [])) hh δ _ _ rg sg ?_
  unfold eDic at o
  cases ed : dPairs fs δ hh with
  | stk => rw [ed] at o; exact o.elim
  | exc c ds h' => rw [ed] at o; exact o.elim
  | ok q h1 =>
    rw [ed] at o
    obtain ⟨ks, vs⟩ := q
    have o1 : okR X.K T W G σ (RD X.K T) (kDic mu (ks, vs) h1) Q := o
    intro G2 H2 ps x2 r2 d2
    obtain ⟨d2k, d2v⟩ := d2
    have hpr : G2.pr p = some (.dK []) := by rw [x2.pr]; exact upd_same
    obtain ⟨z1, z2, z3⟩ := r2.pr p _ hpr
    refine ⟨z1, ?_⟩
    unfold kDic at o1
    by_cases hk : keysOk ks = true ∧ ks.length ≤ 15
    · rw [if_pos hk] at o1
      obtain ⟨kvs, e1, e2, e3, e4⟩ := keys_of hk.1 d2k d2v
      have hlen : kvs.length ≤ 15 := by
        have := e3.length
        rw [List.length_map] at this
        omega
      refine ⟨kvs, e1, hlen, ?_⟩
      rw [merge_nil kvs [] (by simpa using e2), List.nil_append]
      have r3 := r2.reguard (u := .dK kvs) hpr
      have pn : G.pr p = none := by
        cases z : G.pr p with
        | none => rfl
        | some u => have := (r.pr p u z).1; rw [hp] at this; cases this
      have hpr3 : ({ G2 with pr := upd G2.pr p (.dK kvs) } : Gst).pr p = some (.dK kvs) := upd_same
      have hpr0 : ∀ a u, G.pr a = some u → a ≠ p ∧ ({ G2 with pr := upd G2.pr p (.dK kvs) } : Gst).pr a = some u := fun a u z => by
        have na : a ≠ p := fun y => by rw [y, pn] at z; cases z
        refine ⟨na, ?_⟩
        show upd G2.pr p (.dK kvs) a = some u
        rw [upd_ne na, x2.pr]
        show upd G.pr p _ a = some u
        rw [upd_ne na]; exact z
      obtain ⟨tt, et⟩ := x2.ι
      cases mu with
      | false =>
        rw [if_neg Bool.false_ne_true] at o1
        have fzm : ∀ a u, G2.fz a = some u → upd G2.fz p (.dK kvs) a = some u := fun a u z => by
          have na : a ≠ p := fun y => by rw [y, z2] at z; cases z
          rw [upd_ne na]; exact z
        have x0 : Ext0 G2 { G2 with pr := G.pr, fz := upd G2.fz p (.dK kvs) } := ⟨⟨[], (List.append_nil _).symm⟩, fzm, rfl⟩
        exact o1 { G2 with pr := G.pr, fz := upd G2.fz p (.dK kvs) } _ (.ref p) ⟨⟨tt, et⟩, fun a u z => fzm a u (x2.fz a u z), rfl, x2.lk⟩ (r3.unguard hpr3 hpr0) (.dic upd_same (e3.mono0 x0) (e4.mono0 x0))
      | true =>
        rw [if_pos rfl] at o1
        obtain ⟨x5, r5⟩ := r3.unguardO (u := .dic ks vs) hpr3 hpr0 fun G' x hi ho _ => ⟨p, kvs, hi, ho, upd_same, RDs.mono0 (G := G2) ⟨x.ι, x.fz, x.lk⟩ e3, RDs.mono0 (G := G2) ⟨x.ι, x.fz, x.lk⟩ e4⟩
        refine o1 (Gst.give { G2 with pr := upd G2.pr p (.dK kvs) } p G.pr) _ (.ref p) ⟨⟨tt ++ [p], ?_⟩, fun a u z => x2.fz a u z, rfl, x2.lk⟩ r5 (.ref ?_)
        · show G2.ι ++ [p] = G.ι ++ (tt ++ [p])
          rw [et, List.append_assoc]; rfl
        · show (G2.ι ++ [p])[h1.length]? = some p
          rw [← r2.len]; simp
    · rw [if_neg hk] at o1; exact o1.elim
def eDic0 (mu : Bool) : FnE := fun _ h1 => if mu = true then .ok (.ref h1.length) (h1 ++ [.dic [] []]) else .ok (.dic [] []) h1
theorem fe_dict0 {mu : Bool} : FE X T W (.Dict [] [] pos) (eDic0 mu) := by
  refine PE.imp pe_dnewK fun σ H Q => ?_
  rintro ⟨G, hh, δ, r, s, o⟩
  intro p hp
  unfold eDic0 at o
  cases mu with
  | false =>
    rw [if_neg Bool.false_ne_true] at o
    obtain ⟨x, r'⟩ := r.newF (o := .dK []) hp
    exact o _ _ _ x r' (.dic upd_same .nil .nil)
  | true =>
    rw [if_pos rfl] at o
    obtain ⟨x, r'⟩ := r.newO (o := .dK []) (u := .dic [] []) hp fun G' x hi ho _ => ⟨p, [], hi, ho, upd_same, .nil, .nil⟩
    refine o _ _ _ x r' (.ref ?_)
    show (G.ι ++ [p])[hh.length]? = some p
    rw [← r.len]; simp
end
end L3
set_option autoImplicit false
set_option maxHeartbeats 4000000
namespace L3
open PySem PySem.Spec L2
open PyProof.Rows (envOfC IntsAre AllBare)
section
variable {X : Cx} {T : Tx} {W : WX} {pos : Pos}
def eNever : FnE := fun _ _ => .stk
theorem fe_never {e : Expr} : FE X T W e eNever := ⟨fun _ _ _ _ _ _ ⟨_, _, _, _, _, o⟩ => o.elim⟩
end
mutual
def cstB (K : PySem.W.Frag) : D → Value → Bool
  | .non, .none => true
  | .bl b, .bool c => b == c
  | .int i, .int j _ => decide (i = j)
  | .str x, .str y _ => decide (y = ⟨x.toArray⟩)
  | .tup ds, .ref a => (match K.lookup a with
    | some ⟨.type c, _, .seq its _, _⟩ => decide (c = "tuple") && (decide (its.size ≤ sizeLine) && (cstsB K ds its.toList && !decide (ds.length = 2)))
    | _ => false)
  | _, _ => false
def cstsB (K : PySem.W.Frag) : List D → List Value → Bool
  | [], [] => true
  | d :: ds, v :: vs => cstB K d v && cstsB K ds vs
  | _, _ => false
end
theorem two {a b : Bool} (h : (a && b) = true) : a = true ∧ b = true := by simpa using h
mutual
theorem cstB_ok {K : PySem.W.Frag} : ∀ (d : D) (u : Value), cstB K d u = true → ∃ v, RelV v u ∧ ∀ T, Cst K T d v
  | .non, u, h => by
    cases u <;> first | (exact ⟨.non, rfl, fun _ _ => .non⟩) | (simp [cstB] at h)
  | .bl b, u, h => by
    cases u with
    | bool c =>
      have e : b = c := by simpa [cstB] using h
      subst e
      exact ⟨.bl b, rfl, fun _ _ => .bl⟩
    | _ => simp [cstB] at h
  | .int i, u, h => by
    cases u with
    | int j t =>
      have e : i = j := by simpa [cstB] using h
      subst e
      exact ⟨.int i, ⟨t, rfl⟩, fun _ _ => .int⟩
    | _ => simp [cstB] at h
  | .str x, u, h => by
    cases u with
    | str y t =>
      have e : y = ⟨x.toArray⟩ := by simpa [cstB] using h
      subst e
      exact ⟨.str ⟨x.toArray⟩, ⟨t, rfl⟩, fun _ _ => .str⟩
    | _ => simp [cstB] at h
  | .tup ds, u, h => by
    cases u with
    | ref a =>
      unfold cstB at h
      cases q : K.lookup a with
      | none => rw [q] at h; cases h
      | some o =>
        obtain ⟨oc, od, dt, osl⟩ := o
        rw [q] at h
        cases oc with
        | type c =>
          cases dt with
          | seq its n =>
            obtain ⟨h1, h2⟩ := two h
            obtain ⟨h3, h4⟩ := two h2
            obtain ⟨h5, h6⟩ := two h4
            obtain ⟨vs, r, rd⟩ := cstsB_ok ds its.toList h5
            exact ⟨.ref a, rfl, fun T G => .tup (.inr ⟨_, its, n, q, congrArg Value.type (of_decide_eq_true h1), rfl, of_decide_eq_true h3, r⟩) (rd T G) fun e => by rw [decide_eq_true e] at h6; cases h6⟩
          | _ => cases h
        | _ => cases dt <;> cases h
    | _ => simp [cstB] at h
  | .lst _, u, h => by simp [cstB] at h
  | .dic _ _, u, h => by simp [cstB] at h
  | .obj _ _, u, h => by simp [cstB] at h
  | .ref _, u, h => by simp [cstB] at h
  | .scr _, u, h => by simp [cstB] at h
theorem cstsB_ok {K : PySem.W.Frag} : ∀ (ds : List D) (us : List Value), cstsB K ds us = true → ∃ vs, Vals vs us ∧ ∀ T G, RDs K T G ds vs
  | [], us, h => by
    cases us with
    | nil => exact ⟨[], .nil, fun _ _ => .nil⟩
    | cons _ _ => simp [cstsB] at h
  | d :: ds, us, h => by
    cases us with
    | nil => simp [cstsB] at h
    | cons u us =>
      have h' : cstB K d u = true ∧ cstsB K ds us = true := by simpa [cstsB] using h
      obtain ⟨v, r, c⟩ := cstB_ok d u h'.1
      obtain ⟨vs, rs, cs⟩ := cstsB_ok ds us h'.2
      exact ⟨v :: vs, .cons r rs, fun T G => .cons (c T G) (cs T G)⟩
end
open He (ga ma fAd eqO eqO_ok FnW)
def pgA (K : PySem.W.Frag) (x f : Str) : Addr × Addr := match PySem.W.findIn K (.ref (ga K x)) f with
  | some (some (.ref p)) => (match PySem.W.recIn K p "property" with
    | some (.ref g :: _) => (p, g)
    | _ => (p, 0))
  | _ => (0, 0)
def prB (K : PySem.W.Frag) (x f : Str) (p g : Addr) : Bool := eqO (PySem.W.findIn K (.ref (ga K x)) f) (some (some (.ref p))) && (eqO (PySem.W.specialIn K (.ref p) "__get__") (some (some (.builtin "property.__get__"))) &&
  (decide (PySem.W.takesIn K (.ref p) = some true) && (match PySem.W.recIn K p "property" with
    | some (.ref g' :: _) => decide (g' = g)
    | _ => false)))
theorem prB_ok {K : PySem.W.Frag} {x f : Str} {p g : Addr} (h : prB K x f p g = true) : PropOf K (ga K x) f p g := by
  obtain ⟨h1, h2⟩ := two h
  obtain ⟨h3, h4⟩ := two h2
  obtain ⟨h5, h6⟩ := two h4
  refine ⟨eqO_ok h1, eqO_ok h3, of_decide_eq_true h5, ?_⟩
  cases q : PySem.W.recIn K p "property" with
  | none => rw [q] at h6; cases h6
  | some r =>
    rw [q] at h6
    match r, h6 with
    | .ref g' :: rest, h6 =>
      have e : g' = g := of_decide_eq_true h6
      subst e
      exact ⟨rest, rfl⟩
def isiB (K : PySem.W.Frag) (C : Addr) : Bool := eqO (PySem.W.findIn K (.ref C) "__class__") (some (some (.builtin "object.__class__"))) && (eqO (PySem.W.specialIn K (.builtin "object.__class__") "__get__") (some (some (.builtin "getset_descriptor.__get__"))) &&
  (decide (PySem.W.takesIn K (.builtin "object.__class__") = some true) && (decide (PySem.W.mroIn K C (.type "object") = some true) && (decide (PySem.W.kitOne K (.ref C) (.ref C) = some true) &&
  (decide (PySem.W.kitOne K (.type "NoneType") (.ref C) = some false) && (decide (PySem.W.kitOne K (.type "bool") (.ref C) = some false) && (decide (PySem.W.kitOne K (.type "int") (.ref C) = some false) && (decide (PySem.W.kitOne K (.type "str") (.ref C) = some false) &&
  (decide (PySem.W.kitOne K (.type "tuple") (.ref C) = some false) && (decide (PySem.W.kitOne K (.type "list") (.ref C) = some false) && decide (PySem.W.kitOne K (.type "dict") (.ref C) = some false)))))))))))
structure IsiC (K : PySem.W.Frag) (C : Addr) : Prop where
  ha : PySem.W.findIn K (.ref C) "__class__" = some (some (.builtin "object.__class__"))
  hn : PySem.W.specialIn K (.builtin "object.__class__") "__get__" = some (some (.builtin "getset_descriptor.__get__"))
  ht : PySem.W.takesIn K (.builtin "object.__class__") = some true
  hm : PySem.W.mroIn K C (.type "object") = some true
  me : PySem.W.kitOne K (.ref C) (.ref C) = some true
  n0 : PySem.W.kitOne K (.type "NoneType") (.ref C) = some false
  n1 : PySem.W.kitOne K (.type "bool") (.ref C) = some false
  n2 : PySem.W.kitOne K (.type "int") (.ref C) = some false
  n3 : PySem.W.kitOne K (.type "str") (.ref C) = some false
  n4 : PySem.W.kitOne K (.type "tuple") (.ref C) = some false
  n5 : PySem.W.kitOne K (.type "list") (.ref C) = some false
  n6 : PySem.W.kitOne K (.type "dict") (.ref C) = some false
theorem isiB_ok {K : PySem.W.Frag} {C : Addr} (h : isiB K C = true) : IsiC K C := by
  obtain ⟨a1, h⟩ := two h
  obtain ⟨a2, h⟩ := two h
  obtain ⟨a3, h⟩ := two h
  obtain ⟨a4, h⟩ := two h
  obtain ⟨a5, h⟩ := two h
  obtain ⟨a6, h⟩ := two h
  obtain ⟨a7, h⟩ := two h
  obtain ⟨a8, h⟩ := two h
  obtain ⟨a9, h⟩ := two h
  obtain ⟨b1, h⟩ := two h
  obtain ⟨b2, b3⟩ := two h
  exact ⟨eqO_ok a1, eqO_ok a2, of_decide_eq_true a3, of_decide_eq_true a4, of_decide_eq_true a5, of_decide_eq_true a6, of_decide_eq_true a7, of_decide_eq_true a8, of_decide_eq_true a9, of_decide_eq_true b1, of_decide_eq_true b2, of_decide_eq_true b3⟩
section
open PySem.W
abbrev sSelf : Str := "self"
inductive EB where
  | v | a | l
def EB.ty : EB → String
  | .v => "ValueError" | .a => "ArithmeticError" | .l => "LookupError"
def EB.nw : EB → String
  | .v => "ValueError.__new__" | .a => "ArithmeticError.__new__" | .l => "LookupError.__new__"
def EB.ini : EB → String
  | .v => "ValueError.__init__" | .a => "ArithmeticError.__init__" | .l => "LookupError.__init__"
def EB.mro (b : EB) : List Value := [.type b.ty, .type "Exception", .type "BaseException", .type "object"]
def refsB (b : EB) : List Value → Bool
  | .ref _ :: r => refsB b r
  | l => l == b.mro
structure OexB (b : EB) (K : PySem.W.Frag) (C : Addr) : Prop where
  cls : ∃ nm q N bs bm sn sub ab col dd k0 k1 k2 k3 k5, K.lookup C = some (excClassObj nm q C N bs bm true sn sub ab col dd k0 k1 k2 k3 k5 b.nw) ∧ refsB b bm = true
  sa : findIn K (.ref C) "__setattr__" = some (some (.builtin "object.__setattr__"))
  exC : subIn K (.ref C) (.type "BaseException") = some true
  tyC : typeIn K (.ref C) = some (.type "type")
  kC : keepIn K (.ref C) = true
structure ErrT (a f : Str) (params : Arguments) (body : List Stmt) (scope : Scope) : Prop where
  par : ∃ p1 p2, params = ⟨[], [⟨"self", none, p1⟩, ⟨a, none, p2⟩], none, [], [], none, []⟩
  ne : (a == sSelf) = false
  db : (a == ("__debug__" : Str)) = false
  body : ∃ txt j p0 p1 p2 p3 p4 p5 p6 p7 p8 p9, body = [.Expr (.Call (.Attribute (.Call (.Name "super" p0) [] [] p1) "__init__" p2) [.Constant (.str txt) j p3] [] p4) p5, .Assign [.Attribute (.Name "self" p6) f p7] (.Name a p8) p9] ∧ (p2.endLine == p4.line) = true
  su : scope.names.lookup ("super" : Str) = some .globalImplicit
  cl : scope.names.lookup ("__class__" : Str) = some .free
  se : scope.names.lookup sSelf = some .local
  aa : scope.names.lookup a = some .local
  ce : ∀ x ∈ scope.names, x.2 ≠ .cell
  co : scope.isCoroutine = false
  ge : scope.isGenerator = false
  ki : scope.kind = .function
structure ErrD (b : EB) (K : PySem.W.Frag) (C fI : Addr) (a f file : Str) : Prop where
  T : OexB b K C
  xi : excInitIn K C b.mro b.nw = true
  iC : findIn K (.ref C) "__init__" = some (some (.ref fI))
  tI : typeIn K (.ref fI) = some (.type "function")
  fn : ∃ oc od osl name qual params body scope doc pm an cdA ct cc, K.lookup fI = some ⟨oc, od, .func (ksFn name qual params body scope .none .none doc pm an (.ref cdA) ct cc), osl⟩ ∧ codeIn K (.ref cdA) qual = true ∧
    (∃ ccl cdd vs ccs tf, K.lookup cdA = some ⟨ccl, cdd, .fields vs, ccs⟩ ∧ vs[2]? = some (.str file tf)) ∧ (∃ cl cld csl, K.lookup cc = some ⟨cl, cld, .cell (some (.ref C)), csl⟩) ∧ ErrT a f params body scope
  sf : mroIn K C (.ref C) = some true
  su : nsIn K mainGlobals "super" = some none
  tp : nsIn K cStatics "thirdparty.any" = some none
  sm : ks_superIn K C C "__init__" = some (some (.builtin b.ini))
  sv : subIn K (.ref C) (.type b.ty) = some true
  nf : findIn K (.ref C) f = some none
def ErrC (K : PySem.W.Frag) (C fI : Addr) (a f file : Str) : Prop := ∃ b, ErrD b K C fI a f file
end
def oexB (b : EB) (K : PySem.W.Frag) (C : Addr) : Bool := match K.lookup C with
  | some ⟨.type "type", _, .cls cd, sl⟩ => (match cd.mro, sl.toList with
    | .ref C' :: bm, [_, _, _, _, some (.builtin n), _] => C' == C && (n == b.nw && (!cd.hasDel && (cd.hasDict && (cd.qualname == cd.qualname && refsB b bm))))
    | _, _ => false)
  | _ => false
theorem oexB_ok {b : EB} {K : PySem.W.Frag} {C : Addr} (q : oexB b K C = true) : ∃ nm q N bs bm sn sub ab col dd k0 k1 k2 k3 k5, K.lookup C = some (excClassObj nm q C N bs bm true sn sub ab col dd k0 k1 k2 k3 k5 b.nw) ∧ refsB b bm = true := by
  unfold oexB at q
  split at q
  · rename_i dd cd sl ho
    split at q
    · rename_i C' bm k0 k1 k2 k3 n k5 hm hs
      simp only [Bool.and_eq_true, beq_iff_eq, Bool.not_eq_true'] at q
      obtain ⟨rfl, rfl, hdel, hd, _, hb⟩ := q
      obtain ⟨nm, bs, mro, ns, qn, hd', sn, sub, ab, col, del⟩ := cd
      dsimp only at hm hdel hd
      subst hm hdel hd
      have hsl : sl = #[k0, k1, k2, k3, some (.builtin b.nw), k5] := by
        obtain ⟨l⟩ := sl
        simp only at hs
        rw [hs]
      subst hsl
      exact ⟨nm, qn, ns, bs, bm, sn, sub, ab, col, dd, k0, k1, k2, k3, k5, ho, hb⟩
    · cases q
  · cases q
def initB (K : PySem.W.Frag) (C fI : Addr) (qual file : Str) : Bool := match K.lookup fI with
  | some ⟨_, _, .func g, _⟩ => PySem.W.codeIn K g.code qual && ((match g.defaults, g.kwdefaults with | .none, .none => true | _, _ => false) && ((match g.code with
    | .ref c => (match K.lookup c with
      | some ⟨_, _, .fields vs, _⟩ => (match (vs[2]? : Option Value) with | some (.str z _) => z == file | _ => false)
      | _ => false)
    | _ => false) && (match g.closure with
    | [(y, cc)] => y == ("__class__" : Str) && (match K.lookup cc with
      | some ⟨_, _, .cell (some (.ref D)), _⟩ => D == C
      | _ => false)
    | _ => false)))
  | _ => false
def errBb (b : EB) (K : PySem.W.Frag) (C fI : Addr) (qual f file : Str) : Bool := oexB b K C && (initB K C fI qual file && (PySem.W.excInitIn K C b.mro b.nw && (eqO (PySem.W.findIn K (.ref C) "__setattr__") (some (some (.builtin "object.__setattr__"))) && (decide (PySem.W.subIn K (.ref C) (.type "BaseException") = some true) &&
  ((PySem.W.typeIn K (.ref C) == some (.type "type")) && (PySem.W.keepIn K (.ref C) && (eqO (PySem.W.findIn K (.ref C) "__init__") (some (some (.ref fI))) && ((PySem.W.typeIn K (.ref fI) == some (.type "function")) && (decide (PySem.W.mroIn K C (.ref C) = some true) &&
  (eqO (PySem.W.nsIn K mainGlobals "super") (some none) && (eqO (PySem.W.nsIn K cStatics "thirdparty.any") (some none) && (eqO (PySem.W.ks_superIn K C C "__init__") (some (some (.builtin b.ini))) && (decide (PySem.W.subIn K (.ref C) (.type b.ty) = some true) && eqO (PySem.W.findIn K (.ref C) f) (some none))))))))))))))
def errB (K : PySem.W.Frag) (C fI : Addr) (qual f file : Str) : Bool := errBb .v K C fI qual f file || (errBb .a K C fI qual f file || errBb .l K C fI qual f file)
def kwdB (K : PySem.W.Frag) (f : Addr) (ms : List (Str × D)) : Bool := match K.lookup f with
  | some ⟨_, _, .func g, _⟩ => (match g.kwdefaults with
    | .ref D => ms.all fun q => (match PySem.W.nsIn K D q.1 with
      | some (some u) => cstB K q.2 u
      | _ => false)
    | _ => false)
  | _ => false
inductive Fl where
  | kwd (p : Str × Option Str) (ms : List (Str × D))
  | ne (x : Str)
  | nty (x : Str) (t : String)
  | exm (x y : Str) (b : Bool)
  | isi (x : Str)
  | k (f : He.Fa)
  | gc (x : Str) (d : D)
  | pr (x f : Str)
  | kd (x : Str) (kvs : List (List Nat × D))
  | xf (x f : Str)
  | xi (x : Str)
  | xk (x : Str) (t : String) (b : Bool)
  | xo (x y : Str) (b : Bool)
def xiB (K : PySem.W.Frag) (C : Addr) : Bool := (PySem.W.clsIn K C).isSome && (xfB K C && (eqO (PySem.W.findIn K (.ref C) "__class__") (some (some (.builtin "object.__class__"))) && (eqO (PySem.W.specialIn K (.builtin "object.__class__") "__get__") (some (some (.builtin "getset_descriptor.__get__"))) && (decide (PySem.W.takesIn K (.builtin "object.__class__") = some true) && decide (PySem.W.mroIn K C (.type "object") = some true)))))
def Fl.ok (K : PySem.W.Frag) : Fl → Bool
  | .isi x => isiB K (ga K x)
  | .kwd p ms => kwdB K (fAd K p) ms
  | .nty x t => decide (PySem.W.kitOne K (.ref (ga K x)) (.type t) = some false)
  | .ne x => eqO (PySem.W.findIn K (.ref (ga K x)) "__ne__") (some (some (.builtin "object.__ne__")))
  | .exm x y b => decide (PySem.W.exmOne K (.ref (ga K x)) (.ref (ga K y)) = some b)
  | .xf x f => xfB K (ga K x) && decide (PySem.W.findIn K (.ref (ga K x)) f = some none)
  | .xi x => xiB K (ga K x)
  | .xk x t b => decide (PySem.W.kitOne K (.ref (ga K x)) (.type t) = some b)
  | .xo x y b => decide (PySem.W.kitOne K (.ref (ga K x)) (.ref (ga K y)) = some b)
  | .k f => f.ok K
  | .gc x d => (match PySem.W.nsIn K mainGlobals x with
    | some (some u) => cstB K d u
    | _ => false)
  | .pr x f => prB K x f (pgA K x f).1 (pgA K x f).2
  | .kd x kvs => kvs.all fun q => (match PySem.W.nsIn K (ga K x) ⟨q.1.toArray⟩ with
    | some (some u) => cstB K q.2 u
    | _ => false)
theorem gc_ok {K : PySem.W.Frag} {h : Heap} {mg : Str → Option Value} {x : Str} {d : D} (X : K.In h) (G : h.Ns mainGlobals mg) (c : (Fl.gc x d).ok K = true) : ∃ u v, mg x = some u ∧ RelV v u ∧ ∀ T, Cst K T d v := by
  have c2 : (match PySem.W.nsIn K mainGlobals x with
    | some (some u) => cstB K d u
    | _ => false) = true := c
  cases e : PySem.W.nsIn K mainGlobals x with
  | none => rw [e] at c2; cases c2
  | some o =>
    cases o with
    | none => rw [e] at c2; cases c2
    | some u =>
      rw [e] at c2
      obtain ⟨v, r, k⟩ := cstB_ok d u c2
      exact ⟨u, v, PySem.W.mg_of X G e, r, k⟩
structure DefL where
  at_ : Str × Option Str
  pr : Bool
  name : Str
  qual : Str
  params : Arguments
  body : List Stmt
  scope : Scope
  dfl : List He.Dv := []
  err : Option (Str × Str) := none
def DefL.ad (K : PySem.W.Frag) (d : DefL) : Addr := match d.pr, d.at_ with
  | true, (x, some f) => (pgA K x f).2
  | _, p => fAd K p
def DefL.val (d : DefL) : FnW := some (d.name, d.qual, d.params, .stmts d.body, d.scope, mainGlobals, [], builtinsNs)
def fnL (K : PySem.W.Frag) (a : Addr) : FnW := match K.lookup a with
  | some ⟨_, _, .func g, _⟩ => some (g.name, g.qualname, g.params, g.body, g.scope, g.globals, g.closure, g.builtins)
  | _ => none
def fnE (K : PySem.W.Frag) (a : Addr) : FnW := match K.lookup a with
  | some ⟨_, _, .func g, _⟩ => some (g.name, g.qualname, g.params, g.body, g.scope, g.globals, [], g.builtins)
  | _ => none
def DefL.fw (K : PySem.W.Frag) (d : DefL) : FnW := match d.err with
  | none => fnL K (d.ad K)
  | some _ => fnE K (d.ad K)
def DefL.ok0 (K : PySem.W.Frag) (d : DefL) : Bool := PySem.W.keepIn K (.ref (d.ad K)) && (match K.lookup (d.ad K) with
  | some ⟨_, _, .func g, _⟩ => PySem.W.codeIn K g.code d.qual && He.dflB K g.defaults (d.dfl.map (He.Dv.v K))
  | _ => false)
def DefL.ok (K : PySem.W.Frag) (d : DefL) : Bool := match d.err with
  | none => d.ok0 K
  | some (f, file) => errB K (ga K d.at_.1) (d.ad K) d.qual f file
theorem DefL.funD {K : PySem.W.Frag} {d : DefL} (e : fnL K (d.ad K) = d.val) (c : d.ok0 K = true) : ∃ fd, FunD K d.name d.qual d.params d.body d.scope (d.dfl.map (He.Dv.v K)) [] (d.ad K) fd := by
  obtain ⟨kp, c2⟩ := two c
  unfold fnL at e
  cases q : K.lookup (d.ad K) with
  | none => rw [q] at c2; cases c2
  | some o =>
    obtain ⟨oc, od, dt, osl⟩ := o
    rw [q] at c2 e
    cases dt with
    | func g =>
      obtain ⟨a1, a2, a3, a4, a5, a6, a7, a8, a9, a10, a11, a12, a13, a14, a15⟩ := g
      have said : (some (a1, a2, a3, a4, a5, a6, a7, a15) : FnW) = some (d.name, d.qual, d.params, .stmts d.body, d.scope, mainGlobals, [], builtinsNs) := e
      simp only [Option.some.injEq, Prod.mk.injEq] at said
      obtain ⟨z1, z2, z3, z4, z5, z6, z7, z8⟩ := said
      subst z1 z2 z3 z4 z5 z6 z7 z8
      obtain ⟨k1, k2⟩ := two (show (PySem.W.codeIn K a13 d.qual && He.dflB K a8 (d.dfl.map (He.Dv.v K))) = true from c2)
      exact ⟨_, ⟨oc, od, a8, a9, a10, a11, a12, a13, a14, osl, rfl, q, k1, He.dflB_ok k2, .inl rfl⟩, kp⟩
    | _ => cases c2
abbrev AlL : Type := Bool × List FnW
def obsL (fl : List Fl) (fn : List DefL) (K : PySem.W.Frag) : AlL := ((fl.all fun f => f.ok K) && fn.all fun d => d.ok K, fn.map fun d => d.fw K)
def valL (fn : List DefL) : AlL := (true, fn.map DefL.val)
def SaysL (fl : List Fl) (fn : List DefL) (K : PySem.W.Frag) : Prop := obsL fl fn K = valL fn
theorem SaysL.fact {fl : List Fl} {fn : List DefL} {K : PySem.W.Frag} (c : SaysL fl fn K) (i : Nat) {f : Fl} (h : fl[i]? = some f := by rfl) : f.ok K = true := by
  have c1 := (two (show ((fl.all fun f => f.ok K) && fn.all fun d => d.ok K) = true from congrArg (fun z : AlL => z.1) c)).1
  exact List.all_eq_true.mp c1 f (List.mem_of_getElem? h)
theorem SaysL.def0 {fl : List Fl} {fn : List DefL} {K : PySem.W.Frag} (c : SaysL fl fn K) (i : Nat) {d : DefL} (h : fn[i]? = some d) : d.fw K = d.val ∧ d.ok K = true := by
  have c2 := (two (show ((fl.all fun f => f.ok K) && fn.all fun d => d.ok K) = true from congrArg (fun z : AlL => z.1) c)).2
  have e : fn.map (fun d => d.fw K) = fn.map DefL.val := congrArg (fun z : AlL => z.2) c
  have e2 : (fn.map fun d => d.fw K)[i]? = (fn.map DefL.val)[i]? := by rw [e]
  rw [List.getElem?_map, List.getElem?_map, h] at e2
  exact ⟨Option.some.inj e2, List.all_eq_true.mp c2 d (List.mem_of_getElem? h)⟩
theorem SaysL.def_ {fl : List Fl} {fn : List DefL} {K : PySem.W.Frag} (c : SaysL fl fn K) (i : Nat) {d : DefL} (h : fn[i]? = some d := by rfl) (he : d.err = none := by rfl) : ∃ fd, FunD K d.name d.qual d.params d.body d.scope (d.dfl.map (He.Dv.v K)) [] (d.ad K) fd := by
  obtain ⟨e, k⟩ := c.def0 i h
  unfold DefL.fw at e
  unfold DefL.ok at k
  rw [he] at e k
  exact DefL.funD e k
theorem errBb_ok {b : EB} {K : PySem.W.Frag} {C fI : Addr} {name qual f file a : Str} {params : Arguments} {body : List Stmt} {scope : Scope} (e : fnE K fI = some (name, qual, params, .stmts body, scope, mainGlobals, [], builtinsNs)) (c : errBb b K C fI qual f file = true) (ET : ErrT a f params body scope) : ErrD b K C fI a f file := by
  obtain ⟨c1, c⟩ := two c
  obtain ⟨c2, c⟩ := two c
  obtain ⟨c3, c⟩ := two c
  obtain ⟨c4, c⟩ := two c
  obtain ⟨c5, c⟩ := two c
  obtain ⟨c6, c⟩ := two c
  obtain ⟨c7, c⟩ := two c
  obtain ⟨c8, c⟩ := two c
  obtain ⟨c9, c⟩ := two c
  obtain ⟨c10, c⟩ := two c
  obtain ⟨c11, c⟩ := two c
  obtain ⟨c12, c⟩ := two c
  obtain ⟨c13, c⟩ := two c
  obtain ⟨c14, c15⟩ := two c
  refine ⟨⟨oexB_ok c1, eqO_ok c4, of_decide_eq_true c5, beq_iff_eq.mp c6, c7⟩, c3, eqO_ok c8, beq_iff_eq.mp c9, ?_, of_decide_eq_true c10, eqO_ok c11, eqO_ok c12, eqO_ok c13, of_decide_eq_true c14, eqO_ok c15⟩
  unfold fnE at e
  unfold initB at c2
  cases q : K.lookup fI with
  | none => rw [q] at e; cases e
  | some o =>
    obtain ⟨oc, od, dt, osl⟩ := o
    rw [q] at c2 e
    cases dt with
    | func g =>
      obtain ⟨a1, a2, a3, a4, a5, a6, a7, a8, a9, a10, a11, a12, a13, a14, a15⟩ := g
      have said : (some (a1, a2, a3, a4, a5, a6, ([] : List (Str × Addr)), a15) : FnW) = some (name, qual, params, .stmts body, scope, mainGlobals, [], builtinsNs) := e
      simp only [Option.some.injEq, Prod.mk.injEq] at said
      obtain ⟨z1, z2, z3, z4, z5, z6, z7, z8⟩ := said
      subst z1 z2 z3 z4 z5 z6 z8
      obtain ⟨k1, k⟩ := two c2
      obtain ⟨k2, k⟩ := two k
      obtain ⟨k3, k4⟩ := two k
      dsimp only at k1 k2 k3 k4
      split at k2
      · split at k3
        · skip
          split at k3
          · rename_i ccl cdd vs ccs hco
            split at k3
            · rename_i z tf hz
              split at k4
              · rename_i y cc
                obtain ⟨k5, k6⟩ := two k4
                split at k6
                · rename_i cl cld D csl hcc
                  have e1 := beq_iff_eq.mp k5
                  have e2 := beq_iff_eq.mp k6
                  have e3 := beq_iff_eq.mp k3
                  subst e1 e2 e3
                  exact ⟨oc, od, osl, a1, a2, a3, body, a5, _, _, _, _, _, _, rfl, k1, ⟨_, _, _, _, _, hco, hz⟩, ⟨_, _, _, hcc⟩, ET⟩
                · cases k6
              · cases k4
            · cases k3
          · cases k3
        · cases k3
      · cases k2
    | _ => cases e
theorem errB_ok {K : PySem.W.Frag} {C fI : Addr} {name qual f file a : Str} {params : Arguments} {body : List Stmt} {scope : Scope} (e : fnE K fI = some (name, qual, params, .stmts body, scope, mainGlobals, [], builtinsNs)) (c : errB K C fI qual f file = true) (ET : ErrT a f params body scope) : ErrC K C fI a f file := by
  unfold errB at c
  rw [Bool.or_eq_true, Bool.or_eq_true] at c
  rcases c with c | c | c
  · exact ⟨.v, errBb_ok e c ET⟩
  · exact ⟨.a, errBb_ok e c ET⟩
  · exact ⟨.l, errBb_ok e c ET⟩
theorem SaysL.err_ {fl : List Fl} {fn : List DefL} {K : PySem.W.Frag} (c : SaysL fl fn K) (i : Nat) {d : DefL} {a f file : Str} (h : fn[i]? = some d) (he : d.err = some (f, file)) (ET : ErrT a f d.params d.body d.scope) : ErrC K (ga K d.at_.1) (d.ad K) a f file := by
  obtain ⟨e, k⟩ := c.def0 i h
  unfold DefL.fw at e
  unfold DefL.ok at k
  rw [he] at e k
  exact errB_ok e k ET
structure Bs (fl : List Fl) (fn : List DefL) (K : PySem.W.Frag) (mg : Str → Option Value) : Prop where
  c : SaysL fl fn K
  h : ∃ h : Heap, K.In h ∧ h.Ns mainGlobals mg
section
variable {fl : List Fl} {fn : List DefL} {K : PySem.W.Frag} {mg : Str → Option Value}
theorem Bs.glo (B : Bs fl fn K mg) (i : Nat) {x : Str} (h : fl[i]? = some (.k (.glo x)) := by rfl) : mg x = some (.ref (ga K x)) := by
  obtain ⟨hp, X, G⟩ := B.h
  exact He.glo_ok X G (B.c.fact i h)
theorem Bs.free (B : Bs fl fn K mg) (i : Nat) {x : Str} (h : fl[i]? = some (.k (.free x)) := by rfl) : mg x = none := by
  obtain ⟨hp, X, G⟩ := B.h
  exact He.free_ok X G (B.c.fact i h)
theorem Bs.gc (B : Bs fl fn K mg) (i : Nat) {x : Str} {d : D} (h : fl[i]? = some (.gc x d) := by rfl) : ∃ u v, mg x = some u ∧ RelV v u ∧ ∀ T, Cst K T d v := by
  obtain ⟨hp, X, G⟩ := B.h
  exact gc_ok X G (B.c.fact i h)
theorem Bs.cls (B : Bs fl fn K mg) (i : Nat) {x : Str} (h : fl[i]? = some (.k (.cls x)) := by rfl) : Cls K (ga K x) := He.cls_ok (B.c.fact i h)
theorem Bs.xf (B : Bs fl fn K mg) (i : Nat) {x f : Str} (h : fl[i]? = some (.xf x f) := by rfl) : XfC K (ga K x) ∧ PySem.W.findIn K (.ref (ga K x)) f = some none := by
  obtain ⟨h1, h2⟩ := Bool.and_eq_true_iff.mp (B.c.fact i h)
  exact ⟨xfB_ok h1, of_decide_eq_true h2⟩
theorem Bs.xi (B : Bs fl fn K mg) (i : Nat) {x : Str} (h : fl[i]? = some (.xi x) := by rfl) : xiB K (ga K x) = true := B.c.fact i h
theorem Bs.xk (B : Bs fl fn K mg) (i : Nat) {x : Str} {t : String} {b : Bool} (h : fl[i]? = some (.xk x t b) := by rfl) : PySem.W.kitOne K (.ref (ga K x)) (.type t) = some b := of_decide_eq_true (B.c.fact i h)
theorem Bs.xo (B : Bs fl fn K mg) (i : Nat) {x y : Str} {b : Bool} (h : fl[i]? = some (.xo x y b) := by rfl) : PySem.W.kitOne K (.ref (ga K x)) (.ref (ga K y)) = some b := of_decide_eq_true (B.c.fact i h)
theorem Bs.exm (B : Bs fl fn K mg) (i : Nat) {x y : Str} {b : Bool} (h : fl[i]? = some (.exm x y b) := by rfl) : PySem.W.exmOne K (.ref (ga K x)) (.ref (ga K y)) = some b := of_decide_eq_true (B.c.fact i h)
theorem Bs.nty (B : Bs fl fn K mg) (i : Nat) {x : Str} {t : String} (h : fl[i]? = some (.nty x t) := by rfl) : PySem.W.kitOne K (.ref (ga K x)) (.type t) = some false := of_decide_eq_true (B.c.fact i h)
theorem Bs.ne (B : Bs fl fn K mg) (i : Nat) {x : Str} (h : fl[i]? = some (.ne x) := by rfl) : PySem.W.findIn K (.ref (ga K x)) "__ne__" = some (some (.builtin "object.__ne__")) := eqO_ok (B.c.fact i h)
theorem Bs.isi (B : Bs fl fn K mg) (i : Nat) {x : Str} (h : fl[i]? = some (.isi x) := by rfl) : IsiC K (ga K x) := isiB_ok (B.c.fact i h)
theorem Bs.noat (B : Bs fl fn K mg) (i : Nat) {x f : Str} (h : fl[i]? = some (.k (.noat x f)) := by rfl) : NoAttr K (ga K x) f := He.noat_ok (B.c.fact i h)
theorem Bs.meth (B : Bs fl fn K mg) (i : Nat) {x m : Str} (h : fl[i]? = some (.k (.meth x m)) := by rfl) : Meth K (ga K x) m (ma K (ga K x) m) := He.meth_ok (B.c.fact i h)
theorem Bs.mkr (B : Bs fl fn K mg) (i : Nat) {x : Str} (h : fl[i]? = some (.k (.mkr x)) := by rfl) : Mk K (ga K x) (ma K (ga K x) "__init__") := He.mkr_ok (B.c.fact i h)
theorem Bs.pr (B : Bs fl fn K mg) (i : Nat) {x f : Str} (h : fl[i]? = some (.pr x f) := by rfl) : PropOf K (ga K x) f (pgA K x f).1 (pgA K x f).2 := prB_ok (B.c.fact i h)
end
theorem fe_gc {X : Cx} {T : Tx} {W : WX} {pos : Pos} {x : Str} {d : D} (hg : Gl X x) (h : ∃ u v, X.mg x = some u ∧ RelV v u ∧ ∀ T, Cst X.K T d v) (hd : (x == ("__debug__" : Str)) = false := by decide) : FE X T W (.Name x pos) (eC d) := by
  obtain ⟨u, v, h1, h2, h3⟩ := h
  exact fe_glob hg h1 h2 (h3 T) hd
theorem def_okD {P : Program} {w : World} {K : PySem.W.Frag} {mg : Str → Option Value} {base : Heap} {T : Tx} {x qual : Str} {params : Arguments} {body : List Stmt} {scope : Scope} {dvs : List V} {kws : List (Str × V)} {f : Addr} {fd : FuncData} {N ps : List Str} {k : Nat} {u : FnS} (F : FunD K x qual params body scope dvs kws f fd) (S : FnScope N ps scope)
    (hb : ∀ (cdv : Value) (A : Around) (outer : List Env) (s : Shared) (H : Hp) (E : XK) (W : WX), RoomG k (A.deeper (envOfC qual scope s.heap.objs.size f cdv)) →
      Takes (cxOf (L2.CX P w) P w K mg base N qual scope f cdv A outer s H E) W → FSs (cxOf (L2.CX P w) P w K mg base N qual scope f cdv A outer s H E) T W body u) :
    FnL P w K mg base T (k + 1) f fd ps (runD N.length u) :=
  fnQ_of F S (fun vs H Q E h => h.1) fun cdv A outer s H vs Q E hr h => ⟨_, hb cdv A outer s H E _ hr (takes_of rfl rfl rfl rfl), def_read h⟩
def noH : Hp := fun _ => none
end L3
set_option autoImplicit false
set_option maxHeartbeats 4000000
namespace L3
open PySem PySem.Spec L2
theorem addI (i j : Int) (h : Hh) : addD (.int i) (.int j) h = .ok (.int (i + j)) h := rfl
theorem subI (i j : Int) (h : Hh) : subD (.int i) (.int j) h = .ok (.int (i - j)) h := rfl
theorem negI (i : Int) (h : Hh) : negD (.int i) h = .ok (.int (-i)) h := rfl
theorem mulL {i j : Int} (h : Hh) (h1 : -18446744073709551616 < i) (h2 : i < 18446744073709551616) : mulD (.int i) (.int j) h = .ok (.int (i * j)) h := by
  have e : mulOk i j = true := by
    unfold mulOk
    simp only [Bool.or_eq_true, Bool.and_eq_true, decide_eq_true_eq]
    exact .inl (.inl ⟨by omega, by omega⟩)
  show (if mulOk i j = true then R.ok (D.int (i * j)) h else .stk) = _
  rw [if_pos e]
theorem mulR {i j : Int} (h : Hh) (h1 : -18446744073709551616 < j) (h2 : j < 18446744073709551616) : mulD (.int i) (.int j) h = .ok (.int (i * j)) h := by
  have e : mulOk i j = true := by
    unfold mulOk
    simp only [Bool.or_eq_true, Bool.and_eq_true, decide_eq_true_eq]
    exact .inl (.inr ⟨by omega, by omega⟩)
  show (if mulOk i j = true then R.ok (D.int (i * j)) h else .stk) = _
  rw [if_pos e]
theorem divI {i j : Int} (h : Hh) (h1 : 0 < j) (h2 : j < 18446744073709551616) : divD (.int i) (.int j) h = .ok (.int (i / j)) h := by
  show (if 0 < j ∧ j.natAbs.log2 < 9000 then R.ok (D.int (i / j)) h else .stk) = _
  rw [if_pos ⟨h1, (wide_div (i := i) (b := 64) h1 (by omega) (by decide) (by decide)).2⟩]
theorem modI {i j : Int} (h : Hh) (h1 : 0 < j) : modD (.int i) (.int j) h = .ok (.int (i % j)) h := by
  show (if 0 < j then R.ok (D.int (i % j)) h else .stk) = _
  rw [if_pos h1]
theorem ltI (i j : Int) (h : Hh) : ltD (.int i) (.int j) h = .ok (.bl (decide (i < j))) h := rfl
theorem leI (i j : Int) (h : Hh) : leD (.int i) (.int j) h = .ok (.bl (decide (i ≤ j))) h := rfl
theorem gtI (i j : Int) (h : Hh) : gtD (.int i) (.int j) h = .ok (.bl (decide (j < i))) h := rfl
theorem geI (i j : Int) (h : Hh) : geD (.int i) (.int j) h = .ok (.bl (decide (j ≤ i))) h := rfl
theorem eqvI (i j : Int) : eqv (.int i) (.int j) = decide (i = j) := by simp [eqv, pd, PyData.eqv]; rfl
theorem eqI (i j : Int) (h : Hh) : eqD (.int i) (.int j) h = .ok (.bl (decide (i = j))) h := by
  simp [eqD, deref, flat, eqvI]
theorem neI (i j : Int) (h : Hh) : neD (.int i) (.int j) h = .ok (.bl (!decide (i = j))) h := by
  simp [neD, deref, flat, eqvI]
theorem flats_ints (k : Nat) : ∀ xs : List Int, flats k (xs.map D.int) = true
  | [] => by simp [flats]
  | x :: xs => by simp [flats, flat, flats_ints k xs]
theorem eqv_nil (ds : List D) : eqv (.lst ds) (.lst []) = ds.isEmpty := by
  cases ds <;> simp [eqv, pd, pds, PyData.eqv, PyData.eqvAll]
theorem neNil {h : Hh} {n : Nat} {xs : List Int} (e : h[n]? = some (.lst (xs.map D.int))) : neD (.ref n) (.lst []) h = .ok (.bl (!xs.isEmpty)) h := by
  have d : deref h (.ref n) = .lst (xs.map D.int) := by unfold deref; dsimp only; rw [e]
  have f : flat 60 (D.lst (xs.map D.int)) = true := by simp only [flat]; exact flats_ints 59 xs
  have f0 : flat 60 (D.lst []) = true := by simp [flat, flats]
  have d0 : deref h (.lst []) = .lst [] := rfl
  unfold neD
  rw [d, d0, if_pos ⟨f, f0⟩, eqv_nil]
  cases xs <;> rfl
theorem ixDic {h : Hh} {n : Nat} {ks vs : List D} {x : D} (e : h[n]? = some (.dic ks vs)) (hx : isKey x = true) : ixA (.ref n) x h = optR (lookD ks vs x) h := by
  have a : asDic h (.ref n) = some (ks, vs) := by unfold asDic; dsimp only; rw [e]
  unfold ixA
  rw [a]
  simp only [hx, if_true]
theorem ixLstR {h : Hh} {n : Nat} {ds : List D} {x : D} (e : h[n]? = some (.lst ds)) : ixA (.ref n) x h = ixD (.lst ds) x h := by
  have a : asDic h (.ref n) = none := by unfold asDic; dsimp only; rw [e]
  have l : asL h (.ref n) = some ds := by unfold asL; dsimp only; rw [e]
  unfold ixA
  rw [a]
  have l2 : asL h (.lst ds) = some ds := rfl
  cases x <;> simp only [ixD, l, l2]
theorem ixTup {ds : List D} {x : D} {h : Hh} : ixA (.tup ds) x h = ixD (.tup ds) x h := rfl
theorem ixLst {ds : List D} {x : D} {h : Hh} : ixA (.lst ds) x h = ixD (.lst ds) x h := rfl
theorem atI_some {α : Type} {xs : List α} {i : Int} {d : α} (h0 : 0 ≤ i) (e : xs[i.toNat]? = some d) : atI xs i = some d := by
  have hl := (List.getElem?_eq_some_iff.mp e).1
  unfold atI ixN
  rw [if_pos h0, if_pos (by omega)]
  exact e
theorem ixTupAt {ds : List D} {i : Int} {d : D} {h : Hh} (h0 : 0 ≤ i) (e : ds[i.toNat]? = some d) : ixA (.tup ds) (.int i) h = .ok d h := by
  rw [ixTup]; unfold ixD; dsimp only; rw [atI_some h0 e]
theorem ixLstAt {ds : List D} {i : Int} {d : D} {h : Hh} (h0 : 0 ≤ i) (e : ds[i.toNat]? = some d) : ixA (.lst ds) (.int i) h = .ok d h := by
  rw [ixLst]
  have a : asL h (.lst ds) = some ds := rfl
  unfold ixD
  simp only [a, atI_some h0 e]
theorem ixRefAt {h : Hh} {n : Nat} {ds : List D} {i : Int} {d : D} (e : h[n]? = some (.lst ds)) (h0 : 0 ≤ i) (e2 : ds[i.toNat]? = some d) : ixA (.ref n) (.int i) h = .ok d h := by
  rw [ixLstR e, ← ixLst]
  exact ixLstAt h0 e2
theorem tup0 {a0 : D} {r : List D} {h : Hh} : ixA (.tup (a0 :: r)) (.int 0) h = .ok a0 h := ixTupAt (by omega) rfl
theorem tup1 {a0 a1 : D} {r : List D} {h : Hh} : ixA (.tup (a0 :: a1 :: r)) (.int 1) h = .ok a1 h := ixTupAt (by omega) rfl
theorem tup2 {a0 a1 a2 : D} {r : List D} {h : Hh} : ixA (.tup (a0 :: a1 :: a2 :: r)) (.int 2) h = .ok a2 h := ixTupAt (by omega) rfl
theorem tup3 {a0 a1 a2 a3 : D} {r : List D} {h : Hh} : ixA (.tup (a0 :: a1 :: a2 :: a3 :: r)) (.int 3) h = .ok a3 h := ixTupAt (by omega) rfl
theorem tup4 {a0 a1 a2 a3 a4 : D} {r : List D} {h : Hh} : ixA (.tup (a0 :: a1 :: a2 :: a3 :: a4 :: r)) (.int 4) h = .ok a4 h := ixTupAt (by omega) rfl
theorem tup5 {a0 a1 a2 a3 a4 a5 : D} {r : List D} {h : Hh} : ixA (.tup (a0 :: a1 :: a2 :: a3 :: a4 :: a5 :: r)) (.int 5) h = .ok a5 h := ixTupAt (by omega) rfl
theorem lst0 {a0 : D} {r : List D} {h : Hh} : ixA (.lst (a0 :: r)) (.int 0) h = .ok a0 h := ixLstAt (by omega) rfl
theorem lst1 {a0 a1 : D} {r : List D} {h : Hh} : ixA (.lst (a0 :: a1 :: r)) (.int 1) h = .ok a1 h := ixLstAt (by omega) rfl
theorem lst2 {a0 a1 a2 : D} {r : List D} {h : Hh} : ixA (.lst (a0 :: a1 :: a2 :: r)) (.int 2) h = .ok a2 h := ixLstAt (by omega) rfl
theorem lst3 {a0 a1 a2 a3 : D} {r : List D} {h : Hh} : ixA (.lst (a0 :: a1 :: a2 :: a3 :: r)) (.int 3) h = .ok a3 h := ixLstAt (by omega) rfl
theorem intB1 (i : Int) (h : Hh) : intB [.int i] h = .ok (.int i) h := rfl
theorem intB2 (b : Bool) (h : Hh) : intB [.bl b] h = .ok (.int (if b then 1 else 0)) h := rfl
theorem lenTup (ds : List D) (h : Hh) : lenB [.tup ds] h = .ok (.int ds.length) h := rfl
theorem lenLst (ds : List D) (h : Hh) : lenB [.lst ds] h = .ok (.int ds.length) h := rfl
theorem lenScr (ds : List D) (h : Hh) : lenB [.scr ds] h = .ok (.int ds.length) h := rfl
theorem lenRef {h : Hh} {n : Nat} {ds : List D} (e : h[n]? = some (.lst ds)) : lenB [.ref n] h = .ok (.int ds.length) h := by
  show lenD (.ref n) h = _
  have l : asL h (.ref n) = some ds := by unfold asL; dsimp only; rw [e]
  unfold lenD
  simp only [l]
theorem setRef {h : Hh} {n : Nat} {ds : List D} {i : Int} {y : D} (e : h[n]? = some (.lst ds)) (h0 : 0 ≤ i) (h1 : i < ds.length) : setOne (.ref n) (.int i) y h = some (h.set n (.lst (ds.set i.toNat y))) := by
  unfold setOne ixN
  dsimp only
  rw [e]
  dsimp only
  rw [if_pos h0, if_pos h1]
theorem setDic {h : Hh} {n : Nat} {ks vs : List D} {i y : D} (e : h[n]? = some (.dic ks vs)) (h0 : isKey i = true) (h1 : ks.length < 1000000) : setOne (.ref n) i y h = some (h.set n (.dic (putKs ks i) (putVs ks vs i y))) := by
  unfold setOne
  dsimp only
  rw [e]
  dsimp only
  rw [if_pos ⟨h0, h1⟩]
def Keep (h h' : Hh) : Prop := h.length ≤ h'.length ∧ ∀ j, j < h.length → h'[j]? = h[j]?
theorem Keep.refl (h : Hh) : Keep h h := ⟨Nat.le_refl _, fun _ _ => rfl⟩
theorem Keep.trans {h h1 h2 : Hh} (a : Keep h h1) (b : Keep h1 h2) : Keep h h2 := ⟨Nat.le_trans a.1 b.1, fun j hj => (b.2 j (Nat.lt_of_lt_of_le hj a.1)).trans (a.2 j hj)⟩
theorem Keep.app (h t : Hh) : Keep h (h ++ t) := ⟨by simp, fun j hj => List.getElem?_append_left hj⟩
theorem bindOk {α β : Type} (x : α) (h : Hh) (k : α → Hh → R β) : (R.ok x h).bind k = k x h := rfl
theorem bindExc {α β : Type} (c : Nat) (ds : List D) (h : Hh) (k : α → Hh → R β) : (R.exc (α := α) c ds h).bind k = .exc c ds h := rfl
theorem bindStk {α β : Type} (k : α → Hh → R β) : (R.stk (α := α)).bind k = .stk := rfl
theorem toSOk {α : Type} (x : α) (h : Hh) (δ : De) (k : α → Hh → RS) : (R.ok x h).toS δ k = k x h := rfl
theorem toSExc {α : Type} (c : Nat) (ds : List D) (h : Hh) (δ : De) (k : α → Hh → RS) : (R.exc (α := α) c ds h).toS δ k = .exc c ds δ h := rfl
def seqK (r : RS) (v : FnS) : RS := match r with
  | .nx δ' h' => v δ' h'
  | r => r
theorem seqE (u v : FnS) (δ : De) (h : Hh) : sSeq u v δ h = seqK (u δ h) v := by
  unfold sSeq seqK; cases u δ h <;> rfl
theorem seqNx (δ : De) (h : Hh) (v : FnS) : seqK (.nx δ h) v = v δ h := rfl
theorem seqRt (d : D) (h : Hh) (v : FnS) : seqK (.rt d h) v = .rt d h := rfl
theorem seqExc (c : Nat) (ds : List D) (δ : De) (h : Hh) (v : FnS) : seqK (.exc c ds δ h) v = .exc c ds δ h := rfl
theorem endRt (d : D) (h : Hh) : endD (.rt d h) = .ok d h := rfl
theorem endNx (δ : De) (h : Hh) : endD (.nx δ h) = .ok .non h := rfl
theorem endExc (c : Nat) (ds : List D) (δ : De) (h : Hh) : endD (.exc c ds δ h) = .exc c ds h := rfl
def lcC (r : R D) (k : Hh → R (List D)) : R (List D) := match r with
  | .ok y h2 => (k h2).bind fun ys h3 => .ok (y :: ys) h3
  | _ => .stk
def lcB (r : R Bool) (e : Hh → R D) (k : Hh → R (List D)) : R (List D) := match r with
  | .ok b h1 => if b = true then lcC (e h1) k else k h1
  | _ => .stk
def lcA (o : Option De) (t : FnT) (e : FnE) (k : Hh → R (List D)) (h : Hh) : R (List D) := match o with
  | none => .stk
  | some δ1 => lcB (t δ1 h) (e δ1) k
theorem lcNil (g : FnG) (t : FnT) (e : FnE) (δ : De) (h : Hh) : lcs g t e δ [] h = .ok [] h := rfl
theorem lcCons (g : FnG) (t : FnT) (e : FnE) (δ : De) (d : D) (ds : List D) (h : Hh) : lcs g t e δ (d :: ds) h = lcA (g d δ) t e (fun h => lcs g t e δ ds h) h := by
  show (match g d δ with
    | none => R.stk
    | some δ1 => match t δ1 h with
      | .ok b h1 => if b = true then
          match e δ1 h1 with
          | .ok y h2 => (lcs g t e δ ds h2).bind fun ys h3 => .ok (y :: ys) h3
          | _ => .stk
        else lcs g t e δ ds h1
      | _ => .stk) = _
  unfold lcA lcB lcC
  cases g d δ with
  | none => rfl
  | some δ1 => rfl
theorem lcAS (δ1 : De) (t : FnT) (e : FnE) (k : Hh → R (List D)) (h : Hh) : lcA (some δ1) t e k h = lcB (t δ1 h) (e δ1) k := rfl
theorem lcBT (h1 : Hh) (e : Hh → R D) (k : Hh → R (List D)) : lcB (.ok true h1) e k = lcC (e h1) k := rfl
theorem lcBF (h1 : Hh) (e : Hh → R D) (k : Hh → R (List D)) : lcB (.ok false h1) e k = k h1 := rfl
theorem lcCO (y : D) (h2 : Hh) (k : Hh → R (List D)) : lcC (.ok y h2) k = (k h2).bind fun ys h3 => .ok (y :: ys) h3 := rfl
def loK (r : RS) (k : De → Hh → RS) : RS := match r with
  | .nx δ2 h2 => k δ2 h2
  | .ct δ2 h2 => k δ2 h2
  | .bk δ2 h2 => .nx δ2 h2
  | r => r
def loA (o : Option De) (u : FnS) (k : De → Hh → RS) (h : Hh) : RS := match o with
  | none => .stk
  | some δ1 => loK (u δ1 h) k
theorem loNil (g : FnG) (u : FnS) (δ : De) (h : Hh) : loop3 g u [] δ h = .nx δ h := rfl
theorem loCons (g : FnG) (u : FnS) (d : D) (ds : List D) (δ : De) (h : Hh) : loop3 g u (d :: ds) δ h = loA (g d δ) u (fun δ h => loop3 g u ds δ h) h := by
  show (match g d δ with
    | none => RS.stk
    | some δ1 => match u δ1 h with
      | .nx δ2 h2 => loop3 g u ds δ2 h2
      | .ct δ2 h2 => loop3 g u ds δ2 h2
      | .bk δ2 h2 => .nx δ2 h2
      | r => r) = _
  unfold loA loK
  cases g d δ with
  | none => rfl
  | some δ1 => rfl
theorem loAS (δ1 : De) (u : FnS) (k : De → Hh → RS) (h : Hh) : loA (some δ1) u k h = loK (u δ1 h) k := rfl
theorem loNx (δ : De) (h : Hh) (k : De → Hh → RS) : loK (.nx δ h) k = k δ h := rfl
theorem loCt (δ : De) (h : Hh) (k : De → Hh → RS) : loK (.ct δ h) k = k δ h := rfl
theorem loBk (δ : De) (h : Hh) (k : De → Hh → RS) : loK (.bk δ h) k = .nx δ h := rfl
theorem loRt (d : D) (h : Hh) (k : De → Hh → RS) : loK (.rt d h) k = .rt d h := rfl
theorem loop_ok {g : FnG} {u : FnS} (I : Nat → De → Hh → Prop) : ∀ (items : List D) (n : Nat) (δ : De) (h : Hh), I n δ h →
    (∀ i d, items[i]? = some d → ∀ δ h, I (n + i) δ h → ∃ δ1 δ2 h2, g d δ = some δ1 ∧ (u δ1 h = .nx δ2 h2 ∨ u δ1 h = .ct δ2 h2) ∧ I (n + i + 1) δ2 h2) → ∃ δ' h', loop3 g u items δ h = .nx δ' h' ∧ I (n + items.length) δ' h'
  | [], n, δ, h, z, _ => ⟨δ, h, rfl, z⟩
  | d :: ds, n, δ, h, z, st => by
    obtain ⟨δ1, δ2, h2, e1, e2, z2⟩ := st 0 d rfl δ h z
    obtain ⟨δ', h', e3, z3⟩ := loop_ok I ds (n + 1) δ2 h2 z2 fun i d' e δ h zz => by
      have := st (i + 1) d' (by simpa using e) δ h (by rw [show n + (i + 1) = n + 1 + i by omega]; exact zz)
      rw [show n + (i + 1) + 1 = n + 1 + i + 1 by omega] at this
      exact this
    refine ⟨δ', h', ?_, by rw [List.length_cons, show n + (ds.length + 1) = n + 1 + ds.length by omega]; exact z3⟩
    rw [loCons, e1, loAS]
    rcases e2 with e2 | e2
    · rw [e2, loNx]; exact e3
    · rw [e2, loCt]; exact e3
theorem clsObj (c : Nat) (ds : List D) (h : Hh) : clsOf h (.obj c ds) = some c := rfl
theorem set_last (h : Hh) (o u : O) : (h ++ [o]).set h.length u = h ++ [u] := by simp
theorem get_last (h : Hh) (o : O) : (h ++ [o])[h.length]? = some o := by simp
theorem optS (d : D) (h : Hh) : optR (some d) h = .ok d h := rfl
end L3
set_option autoImplicit false
set_option maxHeartbeats 4000000
namespace L3
open PySem PySem.Spec L2
mutual
def smallD : D → Bool
  | .int i => decide (i.natAbs < 10 ^ 40)
  | .str x => x.all fun c => decide (c < 16 ^ 8)
  | .tup ds => smallDs ds
  | .lst ds => smallDs ds
  | _ => true
def smallDs : List D → Bool
  | [] => true
  | d :: ds => smallD d && smallDs ds
end
mutual
def wtD : D → Nat
  | .int _ => 140
  | .str x => x.length
  | .tup ds => wtDs ds
  | .lst ds => wtDs ds
  | _ => 0
def wtDs : List D → Nat
  | [] => 0
  | d :: ds => wtD d + 1 + wtDs ds
end
mutual
theorem small_ok : ∀ (d : D) (k : Nat), flat k d = true → smallD d = true → (pd d).showable = true ∧ (pd d).leavesShort 41 = true ∧ (pd d).weight ≤ wtD d ∧ (pd d).hasDict = false
  | .non, _, _, _ => ⟨rfl, rfl, Nat.zero_le _, rfl⟩
  | .bl _, _, _, _ => by simp [pd, PyData.showable, PyData.leavesShort, PyData.weight, PyData.hasDict]
  | .int i, _, _, s => by
    have s' : i.natAbs < 10 ^ 40 := by simpa [smallD] using s
    have e := int_text_length_le10 (k := 40) (by decide) s'
    have e2 : (PyData.shown (.int i)).length ≤ 41 := by
      show (Str.ofString (toString i)).length ≤ 41
      rw [ofString_length]; exact e
    have big : (10 : Nat) ^ 40 < 2 ^ 139 := by decide
    have lg : i.natAbs = 0 ∨ i.natAbs.log2 < 139 := by
      by_cases z : i.natAbs = 0
      · exact .inl z
      · exact .inr ((Nat.log2_lt z).mpr (by omega))
    have lg2 : i.natAbs.log2 < 139 := by
      rcases lg with z | z
      · rw [z]; decide
      · exact z
    refine ⟨?_, ?_, ?_, ?_⟩
    · simp only [pd, PyData.showable, decide_eq_true_eq]; omega
    · simp only [pd, PyData.leavesShort, decide_eq_true_eq]; exact e2
    · simp only [pd, PyData.weight, wtD]; split <;> omega
    · simp only [pd, PyData.hasDict]
  | .str x, _, _, s => by
    refine ⟨?_, ?_, ?_, ?_⟩
    · simp only [pd, PyData.showable]
    · simp only [pd, PyData.leavesShort]; simpa [smallD] using s
    · simp [pd, PyData.weight, wtD]
    · simp only [pd, PyData.hasDict]
  | .tup ds, 0, h, _ => nomatch (show false = true by simpa [flat] using h)
  | .tup ds, k + 1, h, s => by
    obtain ⟨a, b, c, e⟩ := smalls_ok ds k (by simpa [flat] using h) (by simpa [smallD] using s)
    refine ⟨?_, ?_, ?_, ?_⟩
    · simp only [pd, PyData.showable]; exact a
    · simp only [pd, PyData.leavesShort]; exact b
    · simp only [pd, PyData.weight, wtD]; exact c
    · simp only [pd, PyData.hasDict]; exact e
  | .lst ds, 0, h, _ => nomatch (show false = true by simpa [flat] using h)
  | .lst ds, k + 1, h, s => by
    obtain ⟨a, b, c, e⟩ := smalls_ok ds k (by simpa [flat] using h) (by simpa [smallD] using s)
    refine ⟨?_, ?_, ?_, ?_⟩
    · simp only [pd, PyData.showable]; exact a
    · simp only [pd, PyData.leavesShort]; exact b
    · simp only [pd, PyData.weight, wtD]; exact c
    · simp only [pd, PyData.hasDict]; exact e
  | .dic _ _, k, h, _ => by cases k <;> exact nomatch (show false = true by simpa [flat] using h)
  | .obj _ _, k, h, _ => by cases k <;> exact nomatch (show false = true by simpa [flat] using h)
  | .ref _, k, h, _ => by cases k <;> exact nomatch (show false = true by simpa [flat] using h)
  | .scr _, k, h, _ => by cases k <;> exact nomatch (show false = true by simpa [flat] using h)
theorem smalls_ok : ∀ (ds : List D) (k : Nat), flats k ds = true → smallDs ds = true → PyData.showableAll (pds ds) = true ∧ PyData.leavesShortAll 41 (pds ds) = true ∧ PyData.weightAll (pds ds) ≤ wtDs ds ∧ PyData.hasDictAll (pds ds) = false
  | [], _, _, _ => ⟨rfl, rfl, Nat.le_refl _, rfl⟩
  | d :: ds, k, h, s => by
    have h' : flat k d = true ∧ flats k ds = true := by simpa [flats] using h
    have s' : smallD d = true ∧ smallDs ds = true := by simpa [smallDs] using s
    obtain ⟨a, b, c, e⟩ := small_ok d k h'.1 s'.1
    obtain ⟨a', b', c', e'⟩ := smalls_ok ds k h'.2 s'.2
    refine ⟨?_, ?_, ?_, ?_⟩
    · simp only [pds, PyData.showableAll, a, a', Bool.and_self]
    · simp only [pds, PyData.leavesShortAll, b, b', Bool.and_self]
    · simp only [pds, PyData.weightAll, wtDs]; omega
    · simp only [pds, PyData.hasDictAll, e, e', Bool.or_self]
end
def showL (d : D) : List Nat := (pd d).shown.cps.toList
def reprD (x : D) (h : Hh) : R D := if (flat 60 (deref h x) && (smallD (deref h x) && decide (wtD (deref h x) ≤ 300000))) = true then .ok (.str (showL (deref h x))) h else .stk
abbrev reprB : FB := one reprD
section
variable {X : Cx} {T : Tx} {W : WX} {pos : Pos}
def rRepr (K : PySem.W.Frag) : List V → Hp → VK → Prop := fun xs H Q => ∃ x d, xs = [x] ∧ Dp K H x d ∧ d.showable = true ∧ d.hasDict = false ∧ d.depth ≤ 60 ∧ d.shown.length ≤ sizeLine ∧ Q (.str d.shown) H
theorem call_reprP (hu : X.A.units + 64 < cLine) (hg : X.A.guards = some []) : CallR X (.builtin "repr") (rRepr X.K) := by
  intro pins s σ H xs us Q I r h
  obtain ⟨x, d, rfl, dp, hs, hd, hn, hz, q⟩ := h
  obtain ⟨u, rfl, ru⟩ := vals1 r
  obtain ⟨as, rd⟩ := Dp.reads I d x u dp ru
  cases rd with
  | none => exact PySem.P.repr_of_none ⟨.str "None", H, I.tok _, ⟨_, rfl⟩, q⟩
  | bool b => exact PySem.P.repr_of_bool ⟨.str _, H, I.tok _, ⟨_, rfl⟩, q⟩
  | int i t => exact PySem.P.repr_of_int (by simpa [PyData.showable] using hs) ⟨.str _, H, I.tok _, ⟨_, rfl⟩, q⟩
  | str y t => exact PySem.P.repr_of_str ⟨.str _, H, I.tok _, ⟨_, rfl⟩, q⟩ (by simpa only [PyData.shown] using hz)
  | list h1 h2 h3 h4 => exact repr_of_reads' (.list h1 h2 h3 h4) hs (PyData.noDict_hsm hd) hg (by omega) (fun _ _ e => e) (fun h' v tk hk => ⟨.str _, H, I.kept hk, ⟨_, rfl⟩, q⟩) hz
  | tuple h1 h2 h3 h4 => exact repr_of_reads' (.tuple h1 h2 h3 h4) hs (PyData.noDict_hsm hd) hg (by omega) (fun _ _ e => e) (fun h' v tk hk => ⟨.str _, H, I.kept hk, ⟨_, rfl⟩, q⟩) hz
  | dict => exact absurd hd (by simp [PyData.hasDict])
theorem cs_repr : CallS X T (rRepr X.K) reprB := by
  intro W G h H σ ds vs Q r d o
  match ds, vs, d with
  | [], _, _ => exact o.elim
  | _ :: _ :: _, _, _ => exact o.elim
  | [x], [v], .cons d1 .nil =>
    have o : okR X.K T W G σ (RD X.K T) (reprD x h) Q := o
    unfold reprD at o
    by_cases c : (flat 60 (deref h x) && (smallD (deref h x) && decide (wtD (deref h x) ≤ 300000))) = true
    · rw [if_pos c] at o
      simp only [Bool.and_eq_true, decide_eq_true_eq] at c
      obtain ⟨p1, n1⟩ := flat_pd _ _ c.1
      obtain ⟨z1, z2, z3, z4⟩ := small_ok _ _ c.1 c.2.1
      have len := PyData.shown_le 41 (by decide) _ z2
      refine ⟨v, pd (deref h x), rfl, deref_dp r d1 c.1, z1, z4, n1, ?_, ?_⟩
      · rw [sizeLine_eq]; omega
      · have e : (pd (deref h x)).shown = ⟨(showL (deref h x)).toArray⟩ := by simp [showL]
        rw [e]
        exact o.at r .str
    · rw [if_neg c] at o; exact o.elim
end
end L3
set_option autoImplicit false
set_option maxHeartbeats 4000000
namespace L3
open PySem PySem.Spec L2 PyProof.Rows
section
variable {X : Cx} {T : Tx} {W : WX} {pos p2 : Pos} {e st : Expr} {te : TE} {ts : TO}
end
end L3
set_option autoImplicit false
set_option maxHeartbeats 4000000
namespace L3
open PySem PySem.Spec L2
section
variable {X : Cx} {T : Tx} {W : WX} {pos : Pos}
inductive Wk where
  | im (ds : List D)
  | hp (n : Nat)
  | zp (x y : D)
  | en (n : Nat)
def seqS (h : Hh) : D → Option (List D)
  | .ref n => match h[n]? with
    | some (.lst ds) => some ds
    | _ => none
  | d => (immS d).map (·.2)
def look (w : Wk) (h : Hh) : Option (List D) := match w with
  | .im ds => some ds
  | .hp n => match h[n]? with
    | some (.lst ds) => some ds
    | _ => none
  | .zp x y => match seqS h x, seqS h y with
    | some xs, some ys => some (zipL xs ys)
    | _, _ => none
  | .en n => match h[n]? with
    | some (.lst ds) => some (enumL 0 ds)
    | _ => none
def Walk4 (K : PySem.W.Frag) (T : Tx) (J : It) (G : Gst) (w : Wk) : Prop := ∀ (i : Nat) G2 h2 H2 ds, Ext0 G G2 → Rel K T G2 h2 H2 → look w h2 = some ds →
  (∀ d, ds[i]? = some d → J.go i H2 ∧ ∀ x H3, J.yld i H2 x H3 → ∃ G3, Ext G2 G3 ∧ Rel K T G3 h2 H3 ∧ RD K T G3 d x) ∧ (i = ds.length → J.stop i H2)
abbrev FnW := De → Hh → R Wk
def tW4 (K : PySem.W.Frag) (T : Tx) (W : WX) (f : FnW) : TI := fun σ H Q => ∃ G h δ, Rel K T G h H ∧ RSl K T G δ σ ∧ okR K T W G σ (fun G w J => Walk4 K T J G w) (f δ h) Q
abbrev FWk (X : Cx) (T : Tx) (W : WX) (tg e : Expr) (f : FnW) : Prop := PI X tg e (tW4 X.K T W f)
def wSeq (f : FnE) : FnW := fun δ h => (f δ h).bind fun x h1 => match x with
  | .tup ds => .ok (.im ds) h1
  | .lst ds => .ok (.im ds) h1
  | .scr ds => .ok (.im ds) h1
  | .ref n => match h1[n]? with
    | some (.lst _) => .ok (.hp n) h1
    | _ => .stk
  | _ => .stk
theorem walk_tup4 {K : PySem.W.Frag} {G : Gst} {a : Addr} {ds : List D} {vs : List V} (q1 : SqT K G.fz a vs) (q2 : RDs K T G ds vs) : Walk4 K T (Itt K a) G (.im ds) := fun i G2 h2 H2 es x r e => by
  cases e
  have z : SqT K H2 a vs := SqT.sub r.sub (SqT.sub x.fz q1)
  refine ⟨fun d e => ?_, fun hl => ⟨vs, z, by rw [← q2.length]; omega⟩⟩
  obtain ⟨v, ev, dv⟩ := q2.get e
  exact ⟨⟨vs, v, z, ev⟩, fun y H3 ⟨e1, e2⟩ => by
    subst e1
    have := e2 vs z
    rw [ev] at this; cases this
    exact ⟨G2, Ext.refl G2, r, dv.mono0 x⟩⟩
theorem walk_lst4 {K : PySem.W.Frag} {G : Gst} {a : Addr} {ds : List D} {vs : List V} (q1 : SqL K G.fz a vs) (q2 : RDs K T G ds vs) : Walk4 K T (Itl K a) G (.im ds) := fun i G2 h2 H2 es x r e => by
  cases e
  have z : SqL K H2 a vs := SqL.sub r.sub (SqL.sub x.fz q1)
  refine ⟨fun d e => ?_, fun hl => ⟨vs, z, by rw [← q2.length]; omega⟩⟩
  obtain ⟨v, ev, dv⟩ := q2.get e
  exact ⟨⟨vs, v, z, ev⟩, fun y H3 ⟨e1, e2⟩ => by
    subst e1
    have := e2 vs z
    rw [ev] at this; cases this
    exact ⟨G2, Ext.refl G2, r, dv.mono0 x⟩⟩
theorem walk_ref4 {K : PySem.W.Frag} {G : Gst} {a : Addr} {n : Nat} (q : G.ι[n]? = some a) : Walk4 K T (Itl K a) G (.hp n) := fun i G2 h2 H2 es x r e => by
  have d : RD K T G2 (.ref n) (.ref a) := (RD.ref q).mono0 x
  have el : asL h2 (.ref n) = some es := by
    unfold look at e; unfold asL; dsimp only at e ⊢
    cases z : h2[n]? with
    | none => rw [z] at e; cases e
    | some o =>
      rw [z] at e
      cases o with
      | lst ds => exact e
      | _ => cases e
  obtain ⟨a', vs, e1, e2, q2⟩ := asL_ok r d el
  cases e1
  have z : SqL K H2 a vs := .inl (.inl e2)
  refine ⟨fun d e => ?_, fun hl => ⟨vs, z, by rw [← q2.length]; omega⟩⟩
  obtain ⟨v, ev, dv⟩ := q2.get e
  exact ⟨⟨vs, v, z, ev⟩, fun y H3 ⟨e1, e2⟩ => by
    subst e1
    have := e2 vs z
    rw [ev] at this; cases this
    exact ⟨G2, Ext.refl G2, r, dv⟩⟩
theorem fw_seq {tg e : Expr} {f : FnE} (he : FE X T W e f) : FWk X T W tg e (wSeq f) := by
  refine PI.imp (PI.or (pi_tup he) (pi_list he)) fun σ H Q => ?_
  rintro ⟨G, h0, δ, r, s, o⟩
  cases ef : f δ h0 with
  | stk => unfold wSeq at o; rw [ef] at o; exact o.elim
  | exc c ds h' =>
    unfold wSeq at o; rw [ef] at o
    refine .inl ⟨G, h0, δ, r, s, ?_⟩
    rw [ef]; exact o
  | ok x h' =>
    unfold wSeq at o
    rw [ef] at o
    cases x with
    | tup ds =>
      refine .inl ⟨G, h0, δ, r, s, ?_⟩
      rw [ef]
      intro G' H' v x r' d
      cases d with
      | @tup _ a vs q1 q2 => exact ⟨a, rfl, ⟨vs, SqT.sub r'.sub q1⟩, o G' H' _ x r' (walk_tup4 q1 q2)⟩
    | lst ds =>
      refine .inr ⟨G, h0, δ, r, s, ?_⟩
      rw [ef]
      intro G' H' v x r' d
      cases d with
      | @lst _ a vs q1 q2 => exact ⟨a, rfl, ⟨vs, .inl (.inl (r'.sub _ _ q1))⟩, o G' H' _ x r' (walk_lst4 (.inl (.inl q1)) q2)⟩
    | scr ds =>
      refine .inr ⟨G, h0, δ, r, s, ?_⟩
      rw [ef]
      intro G' H' v x r' d
      cases d with
      | @scr _ a vs q1 q2 => exact ⟨a, rfl, ⟨vs, SqL.sub r'.sub q1⟩, o G' H' _ x r' (walk_lst4 q1 q2)⟩
    | ref n =>
      refine .inr ⟨G, h0, δ, r, s, ?_⟩
      rw [ef]
      intro G' H' v x r' d
      cases z : h'[n]? with
      | none =>
        have o' : okR X.K T W G σ (fun G w J => Walk4 X.K T J G w) (match h'[n]? with | some (.lst _) => R.ok (Wk.hp n) h' | _ => .stk) Q := o
        rw [z] at o'; exact o'.elim
      | some ob =>
        have o' : okR X.K T W G σ (fun G w J => Walk4 X.K T J G w) (match h'[n]? with | some (.lst _) => R.ok (Wk.hp n) h' | _ => .stk) Q := o
        rw [z] at o'
        cases ob with
        | lst ds =>
          have el : asL h' (.ref n) = some ds := by unfold asL; dsimp only; rw [z]
          obtain ⟨a', vs, e1, e2, q2⟩ := asL_ok r' d el
          subst e1
          cases d with
          | @ref _ _ q => exact ⟨_, rfl, ⟨vs, .inl (.inl e2)⟩, o' G' H' _ x r' (walk_ref4 q)⟩
        | _ => exact o'.elim
    | _ => exact o.elim
def loopR (g : FnG) (u : FnS) (wk : Wk) : Nat → Nat → De → Hh → RS
  | 0, _, _, _ => .stk
  | k + 1, i, δ, h => match look wk h with
    | none => .stk
    | some ds => match ds[i]? with
      | none => if i = ds.length then .nx δ h else .stk
      | some d => match g d δ with
        | none => .stk
        | some δ1 => match u δ1 h with
          | .nx δ2 h2 => loopR g u wk k (i + 1) δ2 h2
          | .ct δ2 h2 => loopR g u wk k (i + 1) δ2 h2
          | .bk δ2 h2 => .nx δ2 h2
          | r => r
def loopW (g : FnG) (u : FnS) : Wk → De → Hh → RS
  | .im ds, δ, h => loop3 g u ds δ h
  | .hp n, δ, h => loopR g u (.hp n) 4611686018427387904 0 δ h
  | .zp x y, δ, h => loopR g u (.zp x y) 4611686018427387904 0 δ h
  | .en n, δ, h => loopR g u (.en n) 4611686018427387904 0 δ h
def sForW (f : FnW) (g : FnG) (u : FnS) : FnS := fun δ h => (f δ h).toS δ fun w h1 => loopW g u w δ h1
theorem fs_forW {tg iter : Expr} {body : List Stmt} {f : FnW} {is : List Nat} {g : FnG} {u : FnS} (hp : PassesOwn (model X.prog X.w) X.A X.env X.xe) (hc : X.calm = true) (hi : FWk X T W tg iter f) (hg : FG X T tg is g) (hb : FSs X T W body u)
    (hs : ∀ x, foldedSetIterable iter X.env x = pure x := by intro _; rfl) : FS X T W (.For tg iter body [] pos) (sForW f g u) := by
  refine PS.imp (ps_for hp hc hi hg hb hs) fun D σ H => ?_
  rintro ⟨G, h0, δ, r, s, o⟩
  refine ⟨G, h0, δ, r, s, (okS.toS (rel := fun G w J => Walk4 X.K T J G w) s o).mono ?_⟩
  rintro J H1 ⟨G1, wk, h1, e1, r1, w, o1⟩
  cases wk with
  | im items =>
    change okS X.K T W G1 (loop3 g u items δ h1) D at o1
    refine ⟨fun i m σ' H' => i ≤ items.length ∧ m = items.length - i ∧ ∃ G2 h2 δ2, Ext G1 G2 ∧ Rel X.K T G2 h2 H' ∧ RSl X.K T G2 δ2 σ' ∧ okS X.K T W G2 (loop3 g u (items.drop i) δ2 h2) D,
      ⟨_, Nat.zero_le _, rfl, G1, h1, δ, Ext.refl G1, r1, s.mono e1, o1⟩, ?_⟩
    rintro i m σ' H' ⟨hi', rfl, G2, h2, δ2, e2, r2, s2, o2⟩
    by_cases hlt : i < items.length
    · refine .inr ?_
      have ed : items[i]? = some items[i] := by simp [hlt]
      obtain ⟨go, yl⟩ := (w i G2 h2 H' items e2.e0 r2 rfl).1 _ ed
      rw [List.drop_eq_getElem_cons hlt] at o2
      unfold loop3 at o2
      refine ⟨go, fun σ3 H3 => ∃ m', m' < items.length - i ∧ i + 1 ≤ items.length ∧ m' = items.length - (i + 1) ∧ ∃ G2 h2 δ2, Ext G1 G2 ∧ Rel X.K T G2 h2 H3 ∧ RSl X.K T G2 δ2 σ3 ∧ okS X.K T W G2 (loop3 g u (items.drop (i + 1)) δ2 h2) D,
        fun σ3 H3 ⟨m', a, b, c, d⟩ => ⟨m', a, b, c, d⟩, fun x H3 y => ?_⟩
      obtain ⟨G3, e3, r3, d3⟩ := yl x H3 y
      cases eg : g items[i] δ2 with
      | none => rw [eg] at o2; exact o2.elim
      | some δ3 =>
        rw [eg] at o2
        dsimp only at o2
        refine ⟨G3, h2, δ2, items[i], δ3, r3, s2.mono e3, d3, eg, fun σ4 s4 _ => ⟨G3, h2, δ3, r3, s4, ?_⟩⟩
        have again : ∀ {δ5 : De} {h5 : Hh}, okS X.K T W G2 (loop3 g u (items.drop (i + 1)) δ5 h5) D → ∀ G' H' σ', Ext G3 G' → Rel X.K T G' h5 H' → RSl X.K T G' δ5 σ' →
            ∃ m', m' < items.length - i ∧ i + 1 ≤ items.length ∧ m' = items.length - (i + 1) ∧ ∃ G2 h2 δ2, Ext G1 G2 ∧ Rel X.K T G2 h2 H' ∧ RSl X.K T G2 δ2 σ' ∧ okS X.K T W G2 (loop3 g u (items.drop (i + 1)) δ2 h2) D :=
          fun {δ5 h5} o5 G' H' σ' e r' s' => ⟨_, by omega, hlt, rfl, G', h5, δ5, e2.trans (e3.trans e), r', s', okS.ext (e3.trans e) o5⟩
        cases eu : u δ3 h2 with
        | nx δ5 h5 => rw [eu] at o2; exact again o2
        | ct δ5 h5 => rw [eu] at o2; exact again o2
        | bk δ5 h5 => rw [eu] at o2; exact okS.ext e3 o2
        | rt d h5 => rw [eu] at o2; exact okS.ext e3 o2
        | exc c ds δ5 h5 => rw [eu] at o2; exact okS.ext e3 o2
        | stk => rw [eu] at o2; exact o2
    · refine .inl ⟨(w i G2 h2 H' items e2.e0 r2 rfl).2 (by omega), ?_⟩
      rw [List.drop_eq_nil_of_le (by omega)] at o2
      exact o2 G2 H' σ' (Ext.refl G2) r2 s2
  | hp n =>
    change okS X.K T W G1 (loopR g u (.hp n) 4611686018427387904 0 δ h1) D at o1
    refine ⟨fun i m σ' H' => ∃ G2 h2 δ2, Ext G1 G2 ∧ Rel X.K T G2 h2 H' ∧ RSl X.K T G2 δ2 σ' ∧ okS X.K T W G2 (loopR g u (.hp n) m i δ2 h2) D,
      ⟨4611686018427387904, G1, h1, δ, Ext.refl G1, r1, s.mono e1, o1⟩, ?_⟩
    rintro i m σ' H' ⟨G2, h2, δ2, e2, r2, s2, o2⟩
    cases m with
    | zero => exact o2.elim
    | succ k =>
      unfold loopR at o2
      cases el : look (.hp n) h2 with
      | none => rw [el] at o2; exact o2.elim
      | some items =>
        rw [el] at o2
        dsimp only at o2
        cases ed : items[i]? with
        | none =>
          rw [ed] at o2
          dsimp only at o2
          by_cases hend : i = items.length
          · rw [if_pos hend] at o2
            refine .inl ⟨(w i G2 h2 H' items e2.e0 r2 el).2 hend, ?_⟩
            exact o2 G2 H' σ' (Ext.refl G2) r2 s2
          · rw [if_neg hend] at o2
            exact o2.elim
        | some d0 =>
          rw [ed] at o2
          dsimp only at o2
          refine .inr ?_
          obtain ⟨go, yl⟩ := (w i G2 h2 H' items e2.e0 r2 el).1 _ ed
          refine ⟨go, fun σ3 H3 => ∃ m', m' < k + 1 ∧ ∃ G2 h2 δ2, Ext G1 G2 ∧ Rel X.K T G2 h2 H3 ∧ RSl X.K T G2 δ2 σ3 ∧ okS X.K T W G2 (loopR g u (.hp n) m' (i + 1) δ2 h2) D,
            fun σ3 H3 ⟨m', a, b⟩ => ⟨m', a, b⟩, fun x H3 y => ?_⟩
          obtain ⟨G3, e3, r3, d3⟩ := yl x H3 y
          cases eg : g d0 δ2 with
          | none => rw [eg] at o2; exact o2.elim
          | some δ3 =>
            rw [eg] at o2
            dsimp only at o2
            refine ⟨G3, h2, δ2, d0, δ3, r3, s2.mono e3, d3, eg, fun σ4 s4 _ => ⟨G3, h2, δ3, r3, s4, ?_⟩⟩
            have again : ∀ {δ5 : De} {h5 : Hh}, okS X.K T W G2 (loopR g u (.hp n) k (i + 1) δ5 h5) D → ∀ G' H' σ', Ext G3 G' → Rel X.K T G' h5 H' → RSl X.K T G' δ5 σ' →
                ∃ m', m' < k + 1 ∧ ∃ G2 h2 δ2, Ext G1 G2 ∧ Rel X.K T G2 h2 H' ∧ RSl X.K T G2 δ2 σ' ∧ okS X.K T W G2 (loopR g u (.hp n) m' (i + 1) δ2 h2) D :=
              fun {δ5 h5} o5 G' H' σ' e r' s' => ⟨k, by omega, G', h5, δ5, e2.trans (e3.trans e), r', s', okS.ext (e3.trans e) o5⟩
            cases eu : u δ3 h2 with
            | nx δ5 h5 => rw [eu] at o2; exact again o2
            | ct δ5 h5 => rw [eu] at o2; exact again o2
            | bk δ5 h5 => rw [eu] at o2; exact okS.ext e3 o2
            | rt d h5 => rw [eu] at o2; exact okS.ext e3 o2
            | exc c ds δ5 h5 => rw [eu] at o2; exact okS.ext e3 o2
            | stk => rw [eu] at o2; exact o2
  | en n =>
    change okS X.K T W G1 (loopR g u (.en n) 4611686018427387904 0 δ h1) D at o1
    refine ⟨fun i m σ' H' => ∃ G2 h2 δ2, Ext G1 G2 ∧ Rel X.K T G2 h2 H' ∧ RSl X.K T G2 δ2 σ' ∧ okS X.K T W G2 (loopR g u (.en n) m i δ2 h2) D,
      ⟨4611686018427387904, G1, h1, δ, Ext.refl G1, r1, s.mono e1, o1⟩, ?_⟩
    rintro i m σ' H' ⟨G2, h2, δ2, e2, r2, s2, o2⟩
    cases m with
    | zero => exact o2.elim
    | succ k =>
      unfold loopR at o2
      cases el : look (.en n) h2 with
      | none => rw [el] at o2; exact o2.elim
      | some items =>
        rw [el] at o2
        dsimp only at o2
        cases ed : items[i]? with
        | none =>
          rw [ed] at o2
          dsimp only at o2
          by_cases hend : i = items.length
          · rw [if_pos hend] at o2
            refine .inl ⟨(w i G2 h2 H' items e2.e0 r2 el).2 hend, ?_⟩
            exact o2 G2 H' σ' (Ext.refl G2) r2 s2
          · rw [if_neg hend] at o2
            exact o2.elim
        | some d0 =>
          rw [ed] at o2
          dsimp only at o2
          refine .inr ?_
          obtain ⟨go, yl⟩ := (w i G2 h2 H' items e2.e0 r2 el).1 _ ed
          refine ⟨go, fun σ3 H3 => ∃ m', m' < k + 1 ∧ ∃ G2 h2 δ2, Ext G1 G2 ∧ Rel X.K T G2 h2 H3 ∧ RSl X.K T G2 δ2 σ3 ∧ okS X.K T W G2 (loopR g u (.en n) m' (i + 1) δ2 h2) D,
            fun σ3 H3 ⟨m', a, b⟩ => ⟨m', a, b⟩, fun x H3 y => ?_⟩
          obtain ⟨G3, e3, r3, d3⟩ := yl x H3 y
          cases eg : g d0 δ2 with
          | none => rw [eg] at o2; exact o2.elim
          | some δ3 =>
            rw [eg] at o2
            dsimp only at o2
            refine ⟨G3, h2, δ2, d0, δ3, r3, s2.mono e3, d3, eg, fun σ4 s4 _ => ⟨G3, h2, δ3, r3, s4, ?_⟩⟩
            have again : ∀ {δ5 : De} {h5 : Hh}, okS X.K T W G2 (loopR g u (.en n) k (i + 1) δ5 h5) D → ∀ G' H' σ', Ext G3 G' → Rel X.K T G' h5 H' → RSl X.K T G' δ5 σ' →
                ∃ m', m' < k + 1 ∧ ∃ G2 h2 δ2, Ext G1 G2 ∧ Rel X.K T G2 h2 H' ∧ RSl X.K T G2 δ2 σ' ∧ okS X.K T W G2 (loopR g u (.en n) m' (i + 1) δ2 h2) D :=
              fun {δ5 h5} o5 G' H' σ' e r' s' => ⟨k, by omega, G', h5, δ5, e2.trans (e3.trans e), r', s', okS.ext (e3.trans e) o5⟩
            cases eu : u δ3 h2 with
            | nx δ5 h5 => rw [eu] at o2; exact again o2
            | ct δ5 h5 => rw [eu] at o2; exact again o2
            | bk δ5 h5 => rw [eu] at o2; exact okS.ext e3 o2
            | rt d h5 => rw [eu] at o2; exact okS.ext e3 o2
            | exc c ds δ5 h5 => rw [eu] at o2; exact okS.ext e3 o2
            | stk => rw [eu] at o2; exact o2
  | zp x0 y0 =>
    change okS X.K T W G1 (loopR g u (.zp x0 y0) 4611686018427387904 0 δ h1) D at o1
    refine ⟨fun i m σ' H' => ∃ G2 h2 δ2, Ext G1 G2 ∧ Rel X.K T G2 h2 H' ∧ RSl X.K T G2 δ2 σ' ∧ okS X.K T W G2 (loopR g u (.zp x0 y0) m i δ2 h2) D,
      ⟨4611686018427387904, G1, h1, δ, Ext.refl G1, r1, s.mono e1, o1⟩, ?_⟩
    rintro i m σ' H' ⟨G2, h2, δ2, e2, r2, s2, o2⟩
    cases m with
    | zero => exact o2.elim
    | succ k =>
      unfold loopR at o2
      cases el : look (.zp x0 y0) h2 with
      | none => rw [el] at o2; exact o2.elim
      | some items =>
        rw [el] at o2
        dsimp only at o2
        cases ed : items[i]? with
        | none =>
          rw [ed] at o2
          dsimp only at o2
          by_cases hend : i = items.length
          · rw [if_pos hend] at o2
            refine .inl ⟨(w i G2 h2 H' items e2.e0 r2 el).2 hend, ?_⟩
            exact o2 G2 H' σ' (Ext.refl G2) r2 s2
          · rw [if_neg hend] at o2
            exact o2.elim
        | some d0 =>
          rw [ed] at o2
          dsimp only at o2
          refine .inr ?_
          obtain ⟨go, yl⟩ := (w i G2 h2 H' items e2.e0 r2 el).1 _ ed
          refine ⟨go, fun σ3 H3 => ∃ m', m' < k + 1 ∧ ∃ G2 h2 δ2, Ext G1 G2 ∧ Rel X.K T G2 h2 H3 ∧ RSl X.K T G2 δ2 σ3 ∧ okS X.K T W G2 (loopR g u (.zp x0 y0) m' (i + 1) δ2 h2) D,
            fun σ3 H3 ⟨m', a, b⟩ => ⟨m', a, b⟩, fun x H3 y => ?_⟩
          obtain ⟨G3, e3, r3, d3⟩ := yl x H3 y
          cases eg : g d0 δ2 with
          | none => rw [eg] at o2; exact o2.elim
          | some δ3 =>
            rw [eg] at o2
            dsimp only at o2
            refine ⟨G3, h2, δ2, d0, δ3, r3, s2.mono e3, d3, eg, fun σ4 s4 _ => ⟨G3, h2, δ3, r3, s4, ?_⟩⟩
            have again : ∀ {δ5 : De} {h5 : Hh}, okS X.K T W G2 (loopR g u (.zp x0 y0) k (i + 1) δ5 h5) D → ∀ G' H' σ', Ext G3 G' → Rel X.K T G' h5 H' → RSl X.K T G' δ5 σ' →
                ∃ m', m' < k + 1 ∧ ∃ G2 h2 δ2, Ext G1 G2 ∧ Rel X.K T G2 h2 H' ∧ RSl X.K T G2 δ2 σ' ∧ okS X.K T W G2 (loopR g u (.zp x0 y0) m' (i + 1) δ2 h2) D :=
              fun {δ5 h5} o5 G' H' σ' e r' s' => ⟨k, by omega, G', h5, δ5, e2.trans (e3.trans e), r', s', okS.ext (e3.trans e) o5⟩
            cases eu : u δ3 h2 with
            | nx δ5 h5 => rw [eu] at o2; exact again o2
            | ct δ5 h5 => rw [eu] at o2; exact again o2
            | bk δ5 h5 => rw [eu] at o2; exact okS.ext e3 o2
            | rt d h5 => rw [eu] at o2; exact okS.ext e3 o2
            | exc c ds δ5 h5 => rw [eu] at o2; exact okS.ext e3 o2
            | stk => rw [eu] at o2; exact o2
def kZipW (ds : List D) (h : Hh) : R Wk := match ds with
  | [x, y] => match immS x, immS y with
    | some (_, xs), some (_, ys) => .ok (.im (zipL xs ys)) h
    | _, _ => match seqS h x, seqS h y with
      | some _, some _ => .ok (.zp x y) h
      | _, _ => .stk
  | _ => .stk
def wZip (fa : FnA) : FnW := fun δ h => (fa δ h).bind kZipW
end
end L3
set_option autoImplicit false
set_option maxHeartbeats 4000000
namespace L3
open PySem PySem.Spec L2
section
variable {X : Cx} {T : Tx} {W : WX} {pos : Pos}
def lcsN (g : FnG) (t : FnT) (e : FnE) (δ : De) (w : Wk) : Nat → Nat → Hh → R (List D)
  | 0, _, _ => .stk
  | k + 1, i, h => match look w h with
    | none => .stk
    | some ds => match ds[i]? with
      | none => if i = ds.length then .ok [] h else .stk
      | some d => match g d δ with
        | none => .stk
        | some δ1 => match t δ1 h with
          | .ok b h1 => if b = true then
              match e δ1 h1 with
              | .ok y h2 => (lcsN g t e δ w k (i + 1) h2).bind fun ys h3 => .ok (y :: ys) h3
              | _ => .stk
            else lcsN g t e δ w k (i + 1) h1
          | _ => .stk
theorem lcsN_exc (g : FnG) (t : FnT) (e : FnE) (δ : De) (w : Wk) : ∀ (k i : Nat) (h : Hh) c es h', lcsN g t e δ w k i h ≠ .exc c es h'
  | 0, _, _, _, _, _ => fun z => by cases z
  | k + 1, i, h, c, es, h' => fun z => by
    unfold lcsN at z
    split at z
    · cases z
    · split at z
      · split at z <;> cases z
      · split at z
        · cases z
        · split at z
          · split at z
            · split at z
              · rename_i yy hh _
                cases zz : lcsN g t e δ w k (i + 1) hh with
                | ok a b => rw [zz] at z; cases z
                | exc a b cc => exact lcsN_exc g t e δ w k (i + 1) _ _ _ _ zz
                | stk => rw [zz] at z; cases z
              · cases z
            · exact lcsN_exc g t e δ w k (i + 1) _ _ _ _ z
          · cases z
theorem lcs_is (g : FnG) (t : FnT) (e : FnE) (δ : De) (ds : List D) : ∀ (k i : Nat) (h : Hh), i ≤ ds.length → ds.length < k + i → lcs g t e δ (ds.drop i) h = lcsN g t e δ (.im ds) k i h
  | 0, i, h, hi, hk => by omega
  | k + 1, i, h, hi, hk => by
    unfold lcsN
    have el : look (.im ds) h = some ds := rfl
    rw [el]
    dsimp only
    cases ed : ds[i]? with
    | none =>
      have hl := List.getElem?_eq_none_iff.mp ed
      rw [List.drop_eq_nil_of_le hl]
      dsimp only
      rw [if_pos (by omega)]
      rfl
    | some d =>
      obtain ⟨hl, e2⟩ := List.getElem?_eq_some_iff.mp ed
      subst e2
      rw [List.drop_eq_getElem_cons hl]
      have ih := fun h => lcs_is g t e δ ds k (i + 1) h (by omega) (by omega)
      unfold lcs
      simp only [ih]
      all_goals rfl
def lcW (g : FnG) (t : FnT) (e : FnE) (δ : De) : Wk → Hh → R (List D)
  | .im ds, h => lcs g t e δ ds h
  | .hp n, h => lcsN g t e δ (.hp n) 4611686018427387904 0 h
  | .zp x y, h => lcsN g t e δ (.zp x y) 4611686018427387904 0 h
  | .en n, h => lcsN g t e δ (.en n) 4611686018427387904 0 h
theorem lcW_is (g : FnG) (t : FnT) (e : FnE) (δ : De) (w : Wk) (h : Hh) : ∃ k, lcW g t e δ w h = lcsN g t e δ w k 0 h := by
  cases w with
  | im ds => exact ⟨ds.length + 1, lcs_is g t e δ ds (ds.length + 1) 0 h (by omega) (by omega)⟩
  | hp n => exact ⟨_, rfl⟩
  | zp x y => exact ⟨_, rfl⟩
  | en n => exact ⟨_, rfl⟩
def eLcW (mu : Bool) (f : FnW) (g : FnG) (t : FnT) (e : FnE) (own : List Nat) : FnE := fun δ h => (f δ h).bind fun w h1 => (lcW g t e (wipeD δ own) w h1).bind (kLst mu)
theorem tE_lcW {mu : Bool} {f : FnW} {is : List Nat} {g : FnG} {t : FnT} {e : FnE} {own : List (Str × Nat)} (hin : ∀ i ∈ is, i ∈ own.map (·.2)) {σ : L2.St} {H : Hp} {Q : VK} (hh : tE X.K T W (eLcW mu f g t e (own.map (·.2))) σ H Q) :
    tLc (tW4 X.K T W f) (tG X.K T is g) (tT X.K T W0 t) (tE X.K T W0 e) (own.map (·.2)) σ H Q := by
  revert hh
  rintro ⟨G, h0, δ, r, s, o⟩
  refine ⟨G, h0, δ, r, s, (okR.bind (rel := fun G w J => Walk4 X.K T J G w) o).mono ?_⟩
  rintro J H1 ⟨G1, wk, h1, e1, r1, w, o1⟩
  obtain ⟨k0, ek0⟩ := lcW_is g t e (wipeD δ (own.map (·.2))) wk h1
  rw [ek0] at o1
  intro Dn hD
  have s1 := (s.mono e1).wipe (own.map (·.2))
  refine ⟨fun i m H' => ∃ G2 h2 acc, LcAt X.K T G1 Dn G2 acc h2 H' ∧ okR X.K T W G1 σ (RD X.K T) ((lcsN g t e (wipeD δ (own.map (·.2))) wk m i h2).bind fun ys h3 => kLst mu (acc ++ ys) h3) Q,
    ⟨k0, G1.guard Dn (.lst []), h1, [], ⟨⟨[], by simp [Gst.guard]⟩, fun _ _ q => q, rfl, ⟨[], rfl, .nil⟩, r1.guard hD⟩, o1⟩, ?_⟩
  rintro i m H' ⟨G2, h2, acc, l, o2⟩
  have x02 : Ext0 G1 G2 := ⟨l.ι, l.fz, l.lk⟩
  cases m with
  | zero => exact o2.elim
  | succ k =>
  unfold lcsN at o2
  cases ek : look wk h2 with
  | none => rw [ek] at o2; exact o2.elim
  | some items =>
  rw [ek] at o2
  dsimp only at o2
  cases ed : items[i]? with
  | some d0 =>
    rw [ed] at o2
    dsimp only at o2
    refine .inr ?_
    obtain ⟨go, yl⟩ := (w i G2 h2 H' items x02 l.rel ek).1 _ ed
    refine ⟨go, fun H3 => ∃ m', m' < k + 1 ∧ ∃ G2 h2 acc, LcAt X.K T G1 Dn G2 acc h2 H3 ∧ okR X.K T W G1 σ (RD X.K T) ((lcsN g t e (wipeD δ (own.map (·.2))) wk m' (i + 1) h2).bind fun ys h3 => kLst mu (acc ++ ys) h3) Q,
      fun H3 ⟨m', a, b⟩ => ⟨m', a, b⟩, fun x H3 y => ?_⟩
    obtain ⟨G3, e3, r3, d3⟩ := yl x H3 y
    have l3 := l.step e3 r3
    have s3 : RSl X.K T G3 (wipeD δ (own.map (·.2))) (L2.wipe σ (own.map (·.2))) := ⟨s1.len, fun j d q => let ⟨v, a, b⟩ := s1.at_ j d q; ⟨v, a, b.mono0 ⟨l3.ι, l3.fz, l3.lk⟩⟩⟩
    cases eg : g d0 (wipeD δ (own.map (·.2))) with
    | none => rw [eg] at o2; exact o2.elim
    | some δ3 =>
      rw [eg] at o2
      dsimp only at o2
      refine ⟨G3, h2, _, d0, δ3, r3, s3, d3, eg, fun σ4 s4 so => ⟨wipe_same so hin, G3, h2, δ3, r3, s4, ?_⟩⟩
      cases et : t δ3 h2 with
      | stk => rw [et] at o2; exact o2.elim
      | exc c ds h' => rw [et] at o2; exact o2.elim
      | ok b h3 =>
        rw [et] at o2
        dsimp only at o2
        intro G4 H4 b' x4 r4 eb
        have eb' : b = b' := eb
        subst eb'
        have l4 := l3.step x4 r4
        cases b with
        | false =>
          rw [if_neg Bool.false_ne_true] at o2 ⊢
          exact ⟨k, by omega, G4, h3, acc, l4, o2⟩
        | true =>
          rw [if_pos rfl] at o2 ⊢
          refine ⟨G4, h3, δ3, r4, s4.mono x4, ?_⟩
          cases ee : e δ3 h3 with
          | stk => rw [ee] at o2; exact o2.elim
          | exc c ds h' => rw [ee] at o2; exact o2.elim
          | ok y h4 =>
            rw [ee] at o2
            dsimp only at o2
            intro G5 H5 v x5 r5 d5
            have l5 := l4.step x5 r5
            obtain ⟨avs, ep, dacc⟩ := l5.pr
            have hpr : G5.pr Dn = some (.lst avs) := by rw [ep, upd_same]
            obtain ⟨q1, q2, q3⟩ := r5.pr Dn _ hpr
            refine ⟨avs, q1, ?_, k, by omega, { G5 with pr := upd G5.pr Dn (.lst (avs ++ [v])) }, h4, acc ++ [y], ⟨l5.ι, l5.fz, l5.lk, ⟨avs ++ [v], ?_, ?_⟩, r5.reguard hpr⟩, ?_⟩
            · -- the size
              have sz : avs.length < 16777216 := by
                rw [← dacc.length]
                cases el : lcsN g t e (wipeD δ (own.map (·.2))) wk k (i + 1) h4 with
                | stk => rw [el] at o2; exact o2.elim
                | exc c ds h' => rw [el] at o2; exact absurd el (lcsN_exc _ _ _ _ _ _ _ _ _ _ _)
                | ok ys h5 =>
                  rw [el] at o2
                  have o3 : okR X.K T W G1 σ (RD X.K T) (kLst mu (acc ++ y :: ys) h5) Q := o2
                  unfold kLst at o3
                  by_cases hl : lineOk (acc ++ y :: ys).length = true
                  · have := of_decide_eq_true hl
                    rw [List.length_append, List.length_cons] at this
                    omega
                  · rw [if_neg hl] at o3; exact o3.elim
              rw [sizeLine_eq]; exact sz
            · show upd G5.pr Dn (.lst (avs ++ [v])) = upd G1.pr Dn (.lst (avs ++ [v]))
              rw [ep, upd_upd]
            · exact RDs.mono0 (G := G5) (G' := { G5 with pr := upd G5.pr Dn (.lst (avs ++ [v])) }) ⟨⟨[], (List.append_nil _).symm⟩, fun _ _ z => z, rfl⟩ (dacc.append (.cons d5 .nil))
            · have ea : ∀ (rr : R (List D)), ((rr.bind fun ys h3 => R.ok (y :: ys) h3).bind fun ys h3 => kLst mu (acc ++ ys) h3) = rr.bind fun ys h3 => kLst mu (acc ++ [y] ++ ys) h3 := fun rr => by
                cases rr with
                | ok a b => show kLst mu (acc ++ y :: a) b = kLst mu (acc ++ [y] ++ a) b; rw [List.append_assoc]; rfl
                | exc _ _ _ => rfl
                | stk => rfl
              rw [ea] at o2
              exact o2
  | none =>
    rw [ed] at o2
    dsimp only at o2
    by_cases hend : i = items.length
    case neg => rw [if_neg hend] at o2; exact o2.elim
    rw [if_pos hend] at o2
    refine .inl ⟨(w i G2 h2 H' items x02 l.rel ek).2 hend, ?_⟩
    have o3 : okR X.K T W G1 σ (RD X.K T) (kLst mu (acc ++ []) h2) Q := o2
    rw [List.append_nil] at o3
    unfold kLst at o3
    by_cases hl : lineOk acc.length = true
    · rw [if_pos hl] at o3
      obtain ⟨avs, ep, dacc⟩ := l.pr
      have hpr : G2.pr Dn = some (.lst avs) := by rw [ep, upd_same]
      have pn : G1.pr Dn = none := by
        cases z : G1.pr Dn with
        | none => rfl
        | some u => have := (r1.pr Dn u z).1; rw [hD] at this; cases this
      obtain ⟨q1, q2, q3⟩ := l.rel.pr Dn _ hpr
      have fzm : ∀ a u, G2.fz a = some u → upd G2.fz Dn (.lst avs) a = some u := fun a u z => by
        have na : a ≠ Dn := fun y => by rw [y, q2] at z; cases z
        rw [upd_ne na]; exact z
      have hpr0 : ∀ a u, G1.pr a = some u → a ≠ Dn ∧ G2.pr a = some u := fun a u z => by
        have na : a ≠ Dn := fun y => by rw [y, pn] at z; cases z
        exact ⟨na, by rw [ep, upd_ne na]; exact z⟩
      cases mu with
      | false =>
        rw [if_neg Bool.false_ne_true] at o3
        exact o3 { G2 with pr := G1.pr, fz := upd G2.fz Dn (.lst avs) } H' (.ref Dn) ⟨l.ι, fun a u z => fzm a u (l.fz a u z), rfl, l.lk⟩ (l.rel.unguard hpr hpr0) (.lst upd_same (RDs.mono0 (G := G2) (G' := { G2 with pr := G1.pr, fz := upd G2.fz Dn (.lst avs) }) ⟨⟨[], (List.append_nil _).symm⟩, fzm, rfl⟩ dacc))
      | true =>
        rw [if_pos rfl] at o3
        obtain ⟨x5, r5⟩ := l.rel.unguardO (u := .lst acc) hpr hpr0 fun G' x hi ho _ => ⟨Dn, avs, hi, ho, q1, dacc.mono0 x⟩
        obtain ⟨tt, et⟩ := l.ι
        refine o3 (G2.give Dn G1.pr) H' (.ref Dn) ⟨⟨tt ++ [Dn], ?_⟩, fun a u z => l.fz a u z, rfl, l.lk⟩ r5 (.ref ?_)
        · show G2.ι ++ [Dn] = G1.ι ++ (tt ++ [Dn])
          rw [et, List.append_assoc]
        · show (G2.ι ++ [Dn])[h2.length]? = some Dn
          rw [← l.rel.len]; simp
    · rw [if_neg hl] at o3; exact o3.elim
theorem fe_lcW {mu : Bool} {elt tg iter : Expr} {ifs : List Expr} {scope : Scope} {own : List (Str × Nat)} {f : FnW} {is : List Nat} {g : FnG} {t : FnT} {e : FnE} (hc : X.calm = true) (hN : X.N.Nodup) (hi : FWk X T W tg iter f) (ok : BlkOk X.N X.env.scope scope own)
    (hg : ∀ (s : Shared) (H : Hp) (C : Addr) (cl : List (Str × Addr)) (fp : List Addr), FG (X.blk s H scope (compEnvC scope cl C X.env) fp) T tg is g) (ht : ∀ (s : Shared) (H : Hp) (C : Addr) (cl : List (Str × Addr)) (fp : List Addr), FTs (X.blk s H scope (compEnvC scope cl C X.env) fp) T W0 ifs t)
    (he : ∀ (s : Shared) (H : Hp) (C : Addr) (cl : List (Str × Addr)) (fp : List Addr), FE (X.blk s H scope (compEnvC scope cl C X.env) fp) T W0 elt e) (hin : ∀ i ∈ is, i ∈ own.map (·.2)) (hs : ∀ x, foldedSetIterable iter X.env x = pure x := by intro _; rfl) :
    FE X T W (.ListComp elt [⟨tg, iter, ifs, 0⟩] scope pos) (eLcW mu f g t e (own.map (·.2))) :=
  PE.imp (pe_lc (wi := tW4 X.K T W f) (g := tG X.K T is g) (tt := tT X.K T W0 t) (te := tE X.K T W0 e) hc hN hi ok hg ht he hs) fun _ _ _ hh => tE_lcW hin hh
end
end L3
set_option autoImplicit false
set_option maxHeartbeats 4000000
namespace PySem
open Sem (wp)
section
variable {prog : Program} {w : World} {A : Around} {E : Value → Shared → Prop} {s : Shared}
end
section
variable {prog : Program} {w : World} {A : Around} {E : Value → Shared → Prop} {s : Shared}
end
end PySem
namespace L3
open PySem PySem.Spec L2 PyProof.Rows
section
variable {X : Cx} {T : Tx}
end
end L3
set_option autoImplicit false
set_option maxHeartbeats 4000000
namespace L3
open PySem PySem.Spec L2
section
variable {X : Cx} {T : Tx} {W : WX} {pos : Pos}
def isoD (c : Nat) (x : D) (h : Hh) : R D := match clsOf h x with
  | some c' => if c' = c then .ok (.bl true) h else .stk
  | none => match kdOf h x with
    | some _ => .ok (.bl false) h
    | none => .stk
def eIso (c : Nat) (fa : FnE) : FnE := fun δ h => (fa δ h).bind (isoD c)
theorem iso_no {K : PySem.W.Frag} {C : Addr} (I : IsiC K C) (k : Kd) : PySem.W.kitOne K (.type k.nm) (.ref C) = some false := by
  cases k
  · exact I.n0
  · exact I.n1
  · exact I.n2
  · exact I.n3
  · exact I.n4
  · exact I.n5
  · exact I.n6
theorem fe_iso {c : Nat} {C : Addr} {x : Str} {p p2 : Pos} {e : Expr} {fa : FnE} (hcl : ∃ nm, T.cls c = some (C, nm)) (cl : Cls X.K C) (J : IsiC X.K C) (he : FE X T W e fa) (hg : Gl X "isinstance") (hm : X.mg "isinstance" = none) (hgt : Gl X x) (hmt : X.mg x = some (.ref C)) (hv0 : bootBuiltins "isinstance" = some (.builtin "isinstance")) (hdb : (x == ("__debug__" : Str)) = false := by decide)
    (hs : starEach [e, .Name x p2] X.env = (false, eval e X.env) :: starEach [.Name x p2] X.env := by rfl) (hs2 : starEach [.Name x p2] X.env = (false, eval (.Name x p2) X.env) :: starEach [] X.env := by rfl) (hpl : (backTo pos (starEach [.Name x p2] X.env)).any (·.1) = false := by rfl) :
    FE X T W (.Call (.Name "isinstance" p) [e, .Name x p2] [] pos) (eIso c fa) := by
  have hty : PE X (.Name x p2) (tC (.ref C)) := pe_glob hgt hmt rfl hdb
  refine PE.imp (pe_callB call_isi hg hm hv0 (pa_cons he (pa_cons hty pa_nil hs2) hs) (by decide) (by decide) hs hpl) fun σ H Q h => ?_
  refine tF.bind (k := fun _ => isoD c) h fun G δ x v h1 H1 r1 s1 d1 o1 => ?_
  unfold isoD at o1
  cases ec : clsOf h1 x with
  | some c' =>
    rw [ec] at o1
    dsimp only at o1
    by_cases hc : c' = c
    · subst hc
      rw [if_pos rfl] at o1
      obtain ⟨a, C', dx, nm, fs, rfl, q1, q2, _⟩ := clsOf_ok r1 d1 ec
      obtain ⟨nm2, hcl⟩ := hcl
      rw [hcl] at q2; cases q2
      exact ⟨_, .ref C, .ref C, .ref C, true, rfl, .own C, .base (.ins q1 cl J.ha J.hn J.ht J.hm), J.me, o1.at r1 .bl⟩
    · rw [if_neg hc] at o1; exact o1.elim
  | none =>
    rw [ec] at o1
    dsimp only at o1
    cases ek : kdOf h1 x with
    | none => rw [ek] at o1; exact o1.elim
    | some k =>
      rw [ek] at o1
      exact ⟨v, .ref C, .type k.nm, .ref C, false, rfl, .own C, kd_ok r1 d1 ek, iso_no J k, o1.at r1 .bl⟩
def isiO (t : Ty) (c : Nat) (x : D) (h : Hh) : R D := match clsOf h x with
  | some c' => if c' = c then .ok (.bl false) h else .stk
  | none => isiD t x h
def eIsiO (t : Ty) (c : Nat) (fa : FnE) : FnE := fun δ h => (fa δ h).bind (isiO t c)
def rEqO (K : PySem.W.Frag) (T : Tx) (C : Addr) (sem : Sem3) : R2 := fun x y H Q => ∃ a b dx dy fs gs, x = .ref a ∧ y = .ref b ∧ H a = some (.ins C dx fs) ∧ H b = some (.ins C dy gs) ∧ sp3 K T 2 sem [x, y] H Q E0
theorem op_eqO {C f : Addr} {k : Nat} {fd : FuncData} {ps : List Str} {sem : Sem3} (M : Meth X.K C "__eq__" f) (F : FnL X.prog X.w X.K X.mg X.base T k f fd ps sem) (hr : RoomG k X.A) (hb : Binds X.K fd ps []) (h2 : ps.length = 2 := by rfl) : OpR X (compareOp .Eq) (rEqO X.K T C sem) := by
  intro pins s σ H x y v u Q I rx ry hq
  obtain ⟨a, b, dx, dy, fs, gs, rfl, rfl, ha, hb', hsp⟩ := hq
  cases rx
  cases ry
  obtain ⟨mA, J, _⟩ := ins_get I.hok ha
  obtain ⟨mB, J', _⟩ := ins_get I.hok hb'
  obtain ⟨od, J, _⟩ := J.look
  obtain ⟨od', J', _⟩ := J'.look
  obtain ⟨m, hF⟩ := I.fr
  show wpAny (model X.prog X.w) X.A (richCompare .Eq (.ref a) (.ref b)) (EP X pins σ Q) X.xe s
  refine PySem.W.cmp_K (op := .Eq) (tb := .ref C) hr.r.units0 hF I.ok.mod.kin J J'.type (by simp [PySem.W.notFirst]) M.at_ M.fn ?_
  have hsp' : sp3 X.K T ps.length sem [.ref a, .ref b] H Q E0 := by rw [h2]; exact hsp
  have hl : [Value.ref a, Value.ref b].length = ps.length := by rw [h2]; rfl
  refine wpAny_call (codeAny_mono (F.go X.A X.stack s H ⟨[.ref a, .ref b], []⟩ [.ref a, .ref b] [.ref a, .ref b] Q E0 hr I.env0 (by
    have := hb s [.ref a, .ref b] I.kIn (by simpa using hl)
    simpa using this) (.cons rfl (.cons rfl .nil)) hsp') fun r s' e => ?_)
  match r, e with
  | .error er, e => exact False.elim ((passL : Passes (L2.CX X.prog X.w) X.nox E0) pins σ H _ er s' (I.wish _) e)
  | .ok (.ret w), e =>
    obtain ⟨z, H', I', rz, q3⟩ := I.after e
    cases w with
    | notImplemented => cases z <;> first | (cases rz; done) | exact (show False from by simp [RelV] at rz)
    | _ => exact ⟨z, H', I', rz, q3⟩
  | .ok .next, e => exact e.elim
  | .ok .brk, e => exact e.elim
  | .ok .cont, e => exact e.elim
def eqO (c : Nat) (sem : Sem3) : F2 := fun x y h => if clsOf h x = some c ∧ clsOf h y = some c then noX (sem [x, y] h) else .stk
theorem os_eqO {c : Nat} {C : Addr} {sem : Sem3} (hcl : ∃ nm, T.cls c = some (C, nm)) : OpS X T (rEqO X.K T C sem) (eqO c sem) := by
  intro W G h H σ x y v w Q r d1 d2 o
  obtain ⟨nm, hcl⟩ := hcl
  unfold eqO at o
  by_cases hc : clsOf h x = some c ∧ clsOf h y = some c
  · rw [if_pos hc] at o
    obtain ⟨a, C', dx, nm', fs, rfl, q1, q2, _⟩ := clsOf_ok r d1 hc.1
    rw [hcl] at q2; cases q2
    obtain ⟨b, C', dy, nm', gs, rfl, p1, p2, _⟩ := clsOf_ok r d2 hc.2
    rw [hcl] at p2; cases p2
    refine ⟨a, b, dx, dy, fs, gs, rfl, rfl, q1, p1, rfl, G, h, [x, y], r, .cons d1 (.cons d2 .nil), ?_⟩
    cases es : sem [x, y] h with
    | ok z hh => rw [es] at o; exact o
    | exc c es' hh => rw [es] at o; exact o.elim
    | stk => rw [es] at o; exact o.elim
  · rw [if_neg hc] at o; exact o.elim
end
end L3
set_option autoImplicit false
set_option maxHeartbeats 4000000
namespace L3
open PySem PySem.Spec L2
section
variable {X : Cx} {T : Tx} {W : WX} {pos : Pos}
def lcs2 (g : FnG) (f1 : FnI) (g1 : FnG) (e : FnE) (vs1 : List Nat) (δ : De) : List D → Hh → R (List D)
  | [], h => .ok [] h
  | d :: ds, h => match g d δ with
    | none => .stk
    | some δ1 => match f1 δ1 h with
      | .ok items h1 => match lcs g1 tYes3 e (wipeD δ1 vs1) items h1 with
        | .ok ys h2 => (lcs2 g f1 g1 e vs1 δ ds h2).bind fun zs h3 => .ok (ys ++ zs) h3
        | _ => .stk
      | _ => .stk
def eLc2 (mu : Bool) (f : FnI) (g : FnG) (f1 : FnI) (g1 : FnG) (e : FnE) (vs vs1 : List Nat) : FnE := fun δ h => (f δ h).bind fun items h1 => (lcs2 g f1 g1 e vs1 (wipeD δ vs) items h1).bind (kLst mu)
theorem lcs_exc (g : FnG) (t : FnT) (e : FnE) (δ : De) : ∀ (ds : List D) (h : Hh) c es h', lcs g t e δ ds h ≠ .exc c es h' := by
  intro ds
  induction ds with
  | nil => intro h c es h' z; cases z
  | cons a as ih =>
    intro h c es h' z
    unfold lcs at z
    split at z
    · cases z
    · split at z
      · split at z
        · split at z
          · rename_i yy hh _
            cases zz : lcs g t e δ as hh with
            | ok a b => rw [zz] at z; cases z
            | exc a b cc => exact ih _ _ _ _ zz
            | stk => rw [zz] at z; cases z
          · cases z
        · exact ih _ _ _ _ z
      · cases z
theorem lcs2_exc (g : FnG) (f1 : FnI) (g1 : FnG) (e : FnE) (vs1 : List Nat) (δ : De) : ∀ (ds : List D) (h : Hh) c es h', lcs2 g f1 g1 e vs1 δ ds h ≠ .exc c es h' := by
  intro ds
  induction ds with
  | nil => intro h c es h' z; cases z
  | cons a as ih =>
    intro h c es h' z
    unfold lcs2 at z
    split at z
    · cases z
    · split at z
      · split at z
        · rename_i yy hh _
          cases zz : lcs2 g f1 g1 e vs1 δ as hh with
          | ok a b => rw [zz] at z; cases z
          | exc a b cc => exact ih _ _ _ _ zz
          | stk => rw [zz] at z; cases z
        · cases z
      · cases z
def rest2 (mu : Bool) (g : FnG) (f1 : FnI) (g1 : FnG) (e : FnE) (vs1 : List Nat) (δ δ1 : De) (ins outs : List D) (acc : List D) (h : Hh) : R D :=
  (lcs g1 tYes3 e (wipeD δ1 vs1) ins h).bind fun ys h2 => (lcs2 g f1 g1 e vs1 δ outs h2).bind fun zs h3 => kLst mu (acc ++ (ys ++ zs)) h3
theorem kLst_size {mu : Bool} {K : PySem.W.Frag} {G : Gst} {σ : L2.St} {ds : List D} {h : Hh} {Q : VK} (o : okR K T W G σ (RD K T) (kLst mu ds h) Q) : lineOk ds.length = true := by
  unfold kLst at o
  by_cases hl : lineOk ds.length = true
  · exact hl
  · rw [if_neg hl] at o; exact o.elim
theorem tE_lc2 {mu : Bool} {f f1 : FnI} {is is1 : List Nat} {g g1 : FnG} {e : FnE} {own : List (Str × Nat)} {vs1 : List Nat} (hin : ∀ i ∈ is, i ∈ own.map (·.2)) (hin1 : ∀ i ∈ is1, i ∈ vs1) {σ : L2.St} {H : Hp} {Q : VK} (hh : tE X.K T W (eLc2 mu f g f1 g1 e (own.map (·.2)) vs1) σ H Q) :
    tLc2 (tI X.K T W f) (tG X.K T is g) (tT X.K T W0 tYes3) (tI X.K T W0 f1) (tG X.K T is1 g1) (tT X.K T W0 tYes3) (tE X.K T W0 e) (own.map (·.2)) vs1 σ H Q := by
  revert hh
  rintro ⟨G, h0, δ, r, s, o⟩
  refine ⟨G, h0, δ, r, s, (okR.bind (rel := fun G ds J => Walk3 X.K T J G ds) o).mono ?_⟩
  rintro J H1 ⟨G1, items, h1, e1, r1, w, o1⟩
  intro Dn hD
  have s1 := (s.mono e1).wipe (own.map (·.2))
  have o1' : okR X.K T W G1 σ (RD X.K T) ((lcs2 g f1 g1 e vs1 (wipeD δ (own.map (·.2))) (items.drop 0) h1).bind fun ys h3 => kLst mu ([] ++ ys) h3) Q := o1
  refine ⟨fun i m H' => i ≤ items.length ∧ m = items.length - i ∧ ∃ G2 h2 acc, LcAt X.K T G1 Dn G2 acc h2 H' ∧ okR X.K T W G1 σ (RD X.K T) ((lcs2 g f1 g1 e vs1 (wipeD δ (own.map (·.2))) (items.drop i) h2).bind fun ys h3 => kLst mu (acc ++ ys) h3) Q,
    ⟨_, Nat.zero_le _, rfl, G1.guard Dn (.lst []), h1, [], ⟨⟨[], by simp [Gst.guard]⟩, fun _ _ q => q, rfl, ⟨[], rfl, .nil⟩, r1.guard hD⟩, o1'⟩, ?_⟩
  rintro i m H' ⟨hi', rfl, G2, h2, acc, l, o2⟩
  have x02 : Ext0 G1 G2 := ⟨l.ι, l.fz, l.lk⟩
  by_cases hlt : i < items.length
  · refine .inr ?_
    have ed : items[i]? = some items[i] := by simp [hlt]
    obtain ⟨go, yl⟩ := (w i G2 h2 H' x02 l.rel).1 _ ed
    refine ⟨go, fun H3 => ∃ m', m' < items.length - i ∧ i + 1 ≤ items.length ∧ m' = items.length - (i + 1) ∧ ∃ G2 h2 acc, LcAt X.K T G1 Dn G2 acc h2 H3 ∧ okR X.K T W G1 σ (RD X.K T) ((lcs2 g f1 g1 e vs1 (wipeD δ (own.map (·.2))) (items.drop (i + 1)) h2).bind fun ys h3 => kLst mu (acc ++ ys) h3) Q,
      fun H3 ⟨m', a, b, c, d⟩ => ⟨m', a, b, c, d⟩, fun x H3 y => ?_⟩
    obtain ⟨G3, e3, r3, d3⟩ := yl x H3 y
    have l3 := l.step e3 r3
    have s3 : RSl X.K T G3 (wipeD δ (own.map (·.2))) (L2.wipe σ (own.map (·.2))) := ⟨s1.len, fun j d q => let ⟨v, a, b⟩ := s1.at_ j d q; ⟨v, a, b.mono0 ⟨l3.ι, l3.fz, l3.lk⟩⟩⟩
    rw [List.drop_eq_getElem_cons hlt] at o2
    unfold lcs2 at o2
    cases eg : g items[i] (wipeD δ (own.map (·.2))) with
    | none => rw [eg] at o2; exact o2.elim
    | some δ3 =>
      rw [eg] at o2
      dsimp only at o2
      refine ⟨G3, h2, _, items[i], δ3, r3, s3, d3, eg, fun σ4 s4 so => ⟨wipe_same so hin, G3, h2, δ3, r3, s4, ?_⟩⟩
      intro G4 H4 b' x4 r4 eb
      have eb' : true = b' := eb
      subst eb'
      have l4 := l3.step x4 r4
      have s5 := s4.mono x4
      rw [if_pos rfl]
      refine ⟨G4, h2, δ3, r4, s5, ?_⟩
      cases ef : f1 δ3 h2 with
      | stk => rw [ef] at o2; exact o2.elim
      | exc c ds h' => rw [ef] at o2; exact o2.elim
      | ok ins h3 =>
        rw [ef] at o2
        dsimp only at o2
        intro G5 H5 J1 x5 r5 w5
        have l5 := l4.step x5 r5
        have first : okR X.K T W G1 σ (RD X.K T) (rest2 mu g f1 g1 e vs1 (wipeD δ (own.map (·.2))) δ3 (ins.drop 0) (items.drop (i + 1)) acc h3) Q := by
          unfold rest2
          rw [List.drop_zero]
          cases el : lcs g1 tYes3 e (wipeD δ3 vs1) ins h3 with
          | stk => rw [el] at o2; exact o2.elim
          | exc c ds h' => exact absurd el (lcs_exc _ _ _ _ _ _ _ _ _)
          | ok ys h4 =>
            rw [el] at o2
            show okR X.K T W G1 σ (RD X.K T) ((lcs2 g f1 g1 e vs1 (wipeD δ (own.map (·.2))) (items.drop (i + 1)) h4).bind fun zs h3 => kLst mu (acc ++ (ys ++ zs)) h3) Q
            cases e2 : lcs2 g f1 g1 e vs1 (wipeD δ (own.map (·.2))) (items.drop (i + 1)) h4 with
            | stk => dsimp only at o2; rw [e2] at o2; exact o2.elim
            | exc c ds h' => exact absurd e2 (lcs2_exc _ _ _ _ _ _ _ _ _ _ _)
            | ok zs h5 => dsimp only at o2; rw [e2] at o2; exact o2
        refine ⟨fun j k H6 => j ≤ ins.length ∧ k = ins.length - j ∧ ∃ G6 h6 acc6, LcAt X.K T G1 Dn G6 acc6 h6 H6 ∧ Ext0 G5 G6 ∧ okR X.K T W G1 σ (RD X.K T) (rest2 mu g f1 g1 e vs1 (wipeD δ (own.map (·.2))) δ3 (ins.drop j) (items.drop (i + 1)) acc6 h6) Q,
          ⟨_, Nat.zero_le _, rfl, G5, h3, acc, l5, ⟨⟨[], (List.append_nil _).symm⟩, fun _ _ z => z, rfl⟩, first⟩, ?_⟩
        rintro j k H6 ⟨hj, rfl, G6, h6, acc6, l6, x06, o6⟩
        by_cases hjt : j < ins.length
        · refine .inr ?_
          have ed1 : ins[j]? = some ins[j] := by simp [hjt]
          obtain ⟨go1, yl1⟩ := (w5 j G6 h6 H6 x06 l6.rel).1 _ ed1
          refine ⟨go1, fun H7 => ∃ k', k' < ins.length - j ∧ j + 1 ≤ ins.length ∧ k' = ins.length - (j + 1) ∧ ∃ G6 h6 acc6, LcAt X.K T G1 Dn G6 acc6 h6 H7 ∧ Ext0 G5 G6 ∧ okR X.K T W G1 σ (RD X.K T) (rest2 mu g f1 g1 e vs1 (wipeD δ (own.map (·.2))) δ3 (ins.drop (j + 1)) (items.drop (i + 1)) acc6 h6) Q,
            fun H7 ⟨k', a, b, c, d⟩ => ⟨k', a, b, c, d⟩, fun x7 H7 y7 => ?_⟩
          obtain ⟨G7, e7, r7, d7⟩ := yl1 x7 H7 y7
          have l7 := l6.step e7 r7
          have x47 : Ext0 G4 G7 := by
            obtain ⟨a1, b1⟩ := x5.ι
            obtain ⟨a2, b2⟩ := x06.ι
            obtain ⟨a3, b3⟩ := e7.ι
            exact ⟨⟨a1 ++ (a2 ++ a3), by rw [b3, b2, b1]; simp⟩, fun a o z => e7.fz a o (x06.fz a o (x5.fz a o z)), e7.lk.trans (x06.lk.trans x5.lk)⟩
          have x57 : Ext0 G5 G7 := by
            obtain ⟨a2, b2⟩ := x06.ι
            obtain ⟨a3, b3⟩ := e7.ι
            exact ⟨⟨a2 ++ a3, by rw [b3, b2]; simp⟩, fun a o z => e7.fz a o (x06.fz a o z), e7.lk.trans x06.lk⟩
          have sw := s5.wipe vs1
          have s7 : RSl X.K T G7 (wipeD δ3 vs1) (L2.wipe σ4 vs1) := ⟨sw.len, fun j d q => let ⟨v, a, b⟩ := sw.at_ j d q; ⟨v, a, b.mono0 x47⟩⟩
          unfold rest2 at o6
          rw [List.drop_eq_getElem_cons hjt] at o6
          unfold lcs at o6
          cases eg1 : g1 ins[j] (wipeD δ3 vs1) with
          | none => rw [eg1] at o6; exact o6.elim
          | some δ5 =>
            rw [eg1] at o6
            refine ⟨G7, h6, _, ins[j], δ5, r7, s7, d7, eg1, fun σ5 s8 so5 => ⟨wipe_same so5 hin1, G7, h6, δ5, r7, s8, ?_⟩⟩
            intro G8 H8 b8 x8 r8 eb8
            have eb9 : true = b8 := eb8
            subst eb9
            have l8 := l7.step x8 r8
            rw [if_pos rfl]
            refine ⟨G8, h6, δ5, r8, s8.mono x8, ?_⟩
            have o7 : okR X.K T W G1 σ (RD X.K T) (((match e δ5 h6 with
              | .ok y h2 => (lcs g1 tYes3 e (wipeD δ3 vs1) (ins.drop (j + 1)) h2).bind fun ys h3 => .ok (y :: ys) h3
              | _ => .stk) : R (List D)).bind fun ys h2 => (lcs2 g f1 g1 e vs1 (wipeD δ (own.map (·.2))) (items.drop (i + 1)) h2).bind fun zs h3 => kLst mu (acc6 ++ (ys ++ zs)) h3) Q := o6
            cases ee : e δ5 h6 with
            | stk => rw [ee] at o7; exact o7.elim
            | exc c ds h' => rw [ee] at o7; exact o7.elim
            | ok y h7 =>
              rw [ee] at o7
              dsimp only at o7
              cases el : lcs g1 tYes3 e (wipeD δ3 vs1) (ins.drop (j + 1)) h7 with
              | stk => rw [el] at o7; exact o7.elim
              | exc c ds h' => exact absurd el (lcs_exc _ _ _ _ _ _ _ _ _)
              | ok ys h8 =>
                rw [el] at o7
                have o8 : okR X.K T W G1 σ (RD X.K T) ((lcs2 g f1 g1 e vs1 (wipeD δ (own.map (·.2))) (items.drop (i + 1)) h8).bind fun zs h3 => kLst mu (acc6 ++ (y :: ys ++ zs)) h3) Q := o7
                cases e2 : lcs2 g f1 g1 e vs1 (wipeD δ (own.map (·.2))) (items.drop (i + 1)) h8 with
                | stk => rw [e2] at o8; exact o8.elim
                | exc c ds h' => exact absurd e2 (lcs2_exc _ _ _ _ _ _ _ _ _ _ _)
                | ok zs h9 =>
                  rw [e2] at o8
                  have o9 : okR X.K T W G1 σ (RD X.K T) (kLst mu (acc6 ++ (y :: ys ++ zs)) h9) Q := o8
                  have sz0 := of_decide_eq_true (show decide ((acc6 ++ (y :: ys ++ zs)).length ≤ 16777216) = true from kLst_size o9)
                  intro G9 H9 v x9 r9 d9
                  have l9 := l8.step x9 r9
                  obtain ⟨avs, ep, dacc⟩ := l9.pr
                  have hpr : G9.pr Dn = some (.lst avs) := by rw [ep, upd_same]
                  obtain ⟨q1, q2, q3⟩ := r9.pr Dn _ hpr
                  have x59 : Ext0 G5 G9 := by
                    obtain ⟨a2, b2⟩ := x57.ι
                    obtain ⟨a3, b3⟩ := x8.ι
                    obtain ⟨a4, b4⟩ := x9.ι
                    exact ⟨⟨a2 ++ (a3 ++ a4), by rw [b4, b3, b2]; simp⟩, fun a o z => x9.fz a o (x8.fz a o (x57.fz a o z)), x9.lk.trans (x8.lk.trans x57.lk)⟩
                  refine ⟨avs, q1, ?_, _, by omega, hjt, rfl, { G9 with pr := upd G9.pr Dn (.lst (avs ++ [v])) }, h7, acc6 ++ [y], ⟨l9.ι, l9.fz, l9.lk, ⟨avs ++ [v], ?_, ?_⟩, r9.reguard hpr⟩, ⟨x59.ι, x59.fz, x59.lk⟩, ?_⟩
                  · have : avs.length < 16777216 := by
                      rw [← dacc.length]
                      rw [List.length_append, List.length_append, List.length_cons] at sz0
                      omega
                    rw [sizeLine_eq]; exact this
                  · show upd G9.pr Dn (.lst (avs ++ [v])) = upd G1.pr Dn (.lst (avs ++ [v]))
                    rw [ep, upd_upd]
                  · exact RDs.mono0 (G := G9) (G' := { G9 with pr := upd G9.pr Dn (.lst (avs ++ [v])) }) ⟨⟨[], (List.append_nil _).symm⟩, fun _ _ z => z, rfl⟩ (dacc.append (.cons d9 .nil))
                  · unfold rest2
                    rw [el]
                    show okR X.K T W G1 σ (RD X.K T) ((lcs2 g f1 g1 e vs1 (wipeD δ (own.map (·.2))) (items.drop (i + 1)) h8).bind fun zs h3 => kLst mu (acc6 ++ [y] ++ (ys ++ zs)) h3) Q
                    rw [e2]
                    show okR X.K T W G1 σ (RD X.K T) (kLst mu (acc6 ++ [y] ++ (ys ++ zs)) h9) Q
                    rw [List.append_assoc]
                    exact o9
        · refine .inl ⟨(w5 j G6 h6 H6 x06 l6.rel).2 (by omega), _, by omega, hlt, rfl, G6, h6, acc6, l6, ?_⟩
          rw [List.drop_eq_nil_of_le (by omega)] at o6
          exact o6
  · refine .inl ⟨(w i G2 h2 H' x02 l.rel).2 (by omega), ?_⟩
    rw [List.drop_eq_nil_of_le (by omega)] at o2
    have o3 : okR X.K T W G1 σ (RD X.K T) (kLst mu (acc ++ []) h2) Q := o2
    rw [List.append_nil] at o3
    unfold kLst at o3
    by_cases hl : lineOk acc.length = true
    · rw [if_pos hl] at o3
      obtain ⟨avs, ep, dacc⟩ := l.pr
      have hpr : G2.pr Dn = some (.lst avs) := by rw [ep, upd_same]
      have pn : G1.pr Dn = none := by
        cases z : G1.pr Dn with
        | none => rfl
        | some u => have := (r1.pr Dn u z).1; rw [hD] at this; cases this
      obtain ⟨q1, q2, q3⟩ := l.rel.pr Dn _ hpr
      have fzm : ∀ a u, G2.fz a = some u → upd G2.fz Dn (.lst avs) a = some u := fun a u z => by
        have na : a ≠ Dn := fun y => by rw [y, q2] at z; cases z
        rw [upd_ne na]; exact z
      have hpr0 : ∀ a u, G1.pr a = some u → a ≠ Dn ∧ G2.pr a = some u := fun a u z => by
        have na : a ≠ Dn := fun y => by rw [y, pn] at z; cases z
        exact ⟨na, by rw [ep, upd_ne na]; exact z⟩
      cases mu with
      | false =>
        rw [if_neg Bool.false_ne_true] at o3
        exact o3 { G2 with pr := G1.pr, fz := upd G2.fz Dn (.lst avs) } H' (.ref Dn) ⟨l.ι, fun a u z => fzm a u (l.fz a u z), rfl, l.lk⟩ (l.rel.unguard hpr hpr0) (.lst upd_same (RDs.mono0 (G := G2) (G' := { G2 with pr := G1.pr, fz := upd G2.fz Dn (.lst avs) }) ⟨⟨[], (List.append_nil _).symm⟩, fzm, rfl⟩ dacc))
      | true =>
        rw [if_pos rfl] at o3
        obtain ⟨x5, r5⟩ := l.rel.unguardO (u := .lst acc) hpr hpr0 fun G' x hi ho _ => ⟨Dn, avs, hi, ho, q1, dacc.mono0 x⟩
        obtain ⟨tt, et⟩ := l.ι
        refine o3 (G2.give Dn G1.pr) H' (.ref Dn) ⟨⟨tt ++ [Dn], ?_⟩, fun a u z => l.fz a u z, rfl, l.lk⟩ r5 (.ref ?_)
        · show G2.ι ++ [Dn] = G1.ι ++ (tt ++ [Dn])
          rw [et, List.append_assoc]
        · show (G2.ι ++ [Dn])[h2.length]? = some Dn
          rw [← l.rel.len]; simp
    · rw [if_neg hl] at o3; exact o3.elim
theorem fe_lc2 {mu : Bool} {elt tg iter tg1 iter1 : Expr} {scope : Scope} {own : List (Str × Nat)} {vs1 : List Nat} {f f1 : FnI} {is is1 : List Nat} {g g1 : FnG} {e : FnE} (hc : X.calm = true) (hN : X.N.Nodup) (hi : FI X T W tg iter f) (ok : BlkOk X.N X.env.scope scope own) (hv : ∀ i ∈ vs1, i ∈ own.map (·.2))
    (hg : ∀ (s : Shared) (H : Hp) (C : Addr) (cl : List (Str × Addr)) (fp : List Addr), FG (X.blk s H scope (compEnvC scope cl C X.env) fp) T tg is g)
    (hi1 : ∀ (s : Shared) (H : Hp) (C : Addr) (cl : List (Str × Addr)) (fp : List Addr), FI (X.blk s H scope (compEnvC scope cl C X.env) fp) T W0 tg1 iter1 f1)
    (hg1 : ∀ (s : Shared) (H : Hp) (C : Addr) (cl : List (Str × Addr)) (fp : List Addr), FG (X.blk s H scope (compEnvC scope cl C X.env) fp) T tg1 is1 g1)
    (he : ∀ (s : Shared) (H : Hp) (C : Addr) (cl : List (Str × Addr)) (fp : List Addr), FE (X.blk s H scope (compEnvC scope cl C X.env) fp) T W0 elt e) (hin : ∀ i ∈ is, i ∈ own.map (·.2)) (hin1 : ∀ i ∈ is1, i ∈ vs1) (hs : ∀ x, foldedSetIterable iter X.env x = pure x := by intro _; rfl) (hs1 : ∀ env x, foldedSetIterable iter1 env x = pure x := by intro _ _; rfl) :
    FE X T W (.ListComp elt [⟨tg, iter, [], 0⟩, ⟨tg1, iter1, [], 0⟩] scope pos) (eLc2 mu f g f1 g1 e (own.map (·.2)) vs1) :=
  PE.imp (pe_lc2 (wi := tI X.K T W f) (g := tG X.K T is g) (tt := tT X.K T W0 tYes3) (wi1 := tI X.K T W0 f1) (g1 := tG X.K T is1 g1) (tt1 := tT X.K T W0 tYes3) (te := tE X.K T W0 e) hc hN hi ok hv hg (fun _ _ _ _ _ => fts_nil) hi1 hg1 (fun _ _ _ _ _ => fts_nil) he hs hs1) fun _ _ _ hh => tE_lc2 hin hin1 hh
end
end L3
set_option autoImplicit false
set_option maxHeartbeats 4000000
namespace L3
open PySem PySem.Spec L2
section
variable {X : Cx} {T : Tx} {W : WX} {pos p2 : Pos}
end
end L3
set_option autoImplicit false
set_option maxHeartbeats 4000000
namespace L3
open PySem PySem.Spec L2 PySem.W PySem.Calls PyProof.Rows
theorem EB.kxs : ∀ b : EB, KxsFacts b.ty b.ini
  | .v => kxs_ValueError
  | .a => kxs_ArithmeticError
  | .l => kxs_LookupError
theorem EB.exb : ∀ b : EB, ExcBaseFacts b.ty b.nw b.ini b.mro
  | .v => PySem.F.excBase_ValueError
  | .a => PySem.F.excBase_ArithmeticError
  | .l => PySem.F.excBase_LookupError
theorem EB.passes : ∀ (b : EB) (self : Value), refuseLoop self "__setattr__" b.mro = pure ()
  | .v, self => PySem.F.store_ValueError.passes self
  | .a, self => PySem.F.store_ArithmeticError.passes self
  | .l, self => PySem.F.store_LookupError.passes self
theorem refsB_cases {b : EB} : ∀ l : List Value, refsB b l = true → (∃ c r, l = .ref c :: r ∧ refsB b r = true) ∨ l = b.mro := by
  intro l e
  unfold refsB at e
  split at e
  · exact .inl ⟨_, _, rfl, e⟩
  · exact .inr (beq_iff_eq.mp e)
theorem refsB_ne {b : EB} {l : List Value} (e : refsB b l = true) : l.isEmpty = false := by
  rcases refsB_cases l e with ⟨c, r, rfl, _⟩ | rfl <;> rfl
theorem refsB_has {b : EB} (X : String) : ∀ l : List Value, refsB b l = true → l.contains (.type X) = b.mro.contains (.type X)
  | [], e => by
    rcases refsB_cases [] e with ⟨c, r, q, _⟩ | q <;> cases q
  | a :: r, e => by
    rcases refsB_cases (a :: r) e with ⟨c, r', q, h⟩ | q
    · obtain ⟨rfl, rfl⟩ := List.cons.inj q
      rw [List.contains_cons, refsB_has X _ h]
      rfl
    · rw [q]
theorem refsB_pass {b : EB} (self : Value) : ∀ l : List Value, refsB b l = true → refuseLoop self "__setattr__" l = pure ()
  | [], e => by
    rcases refsB_cases [] e with ⟨c, r, q, _⟩ | q <;> cases q
  | a :: r, e => by
    rcases refsB_cases (a :: r) e with ⟨c, r', q, h⟩ | q
    · obtain ⟨rfl, rfl⟩ := List.cons.inj q
      rw [refuseLoop_ref]
      exact refsB_pass self _ h
    · rw [q]; exact b.passes self
section
open Builtin Builtin.ObjectAttr HandSPX
variable {prog : Program} {w : World} {A : Around} {R : Result → Shared → Prop} {hp : Heap} {g : Array GenState} {d : Drawn} {t : Nat} {os : OsState}
theorem exc_osaB {b : EB} {K : PySem.W.Frag} {name : Str} {tk : Tok} {v : Value} {x C : Addr} {fv : Array Value} {cd : ClassData} (X : K.In hp) (hx : hp.get? x = some { cls := .ref C, data := .fields fv }) (hcd : clsIn K C = some cd) (hm : refsB b cd.mro = true) (hh : cd.hasDict = true) (ha : findIn K (.ref C) name = some none)
    (hq : ∀ h' tk' dx, (∀ c o, c ≠ x → hp.get? c = some o → h'.get? c = some o) → hp.objs.size ≤ dx → dx ≠ x → h'.get? x = some { cls := .ref C, dict := some dx, data := .fields fv } → h'.Ns1 dx (fun y => if y = name then some v else none) → R (.ok (.ret .none)) ⟨h', g, d, tk', os⟩) :
    codeAny (model prog w) A (.call (.builtin "object.__setattr__") ⟨[.ref x, .str name tk, v], []⟩) R ⟨hp, g, d, t, os⟩ := by
  have I : InstAt hp x { cls := .ref C, data := .fields fv } C none := ⟨hx, rfl, rfl, trivial⟩
  have so := F.store_object
  have hxs : x ≠ hp.objs.size := Nat.ne_of_lt (Heap.lt_size hx)
  have ob : cd.mro.contains (.type "object") = true := (refsB_has "object" _ hm).trans (by cases b <;> decide +kernel)
  have isO : Looks (model prog w) hp (isInstance (.ref x) (.type "object")) true := I.type.andThen (looks_mroIn X (by unfold mroIn; rw [hcd, Option.bind_some, if_neg (by rw [refsB_ne hm]; decide), ob]))
  have hmr : Looks (model prog w) hp (mroOf (.ref C)) cd.mro := (looks_clsIn X hcd).andThen .now
  have hnt : Looks (model prog w) hp (storeTaker? none) none := .now
  have hcl : Looks (model prog w) hp (classData C) cd := looks_clsIn X hcd
  refine codeAny_call_builtin so.slot.plain so.entry (@check_slot (model prog w) _ _ ⟨hp, g, d, t, os⟩ "object.__setattr__" "object" "__setattr__" (.ref x) [.str name tk, v] [] _ so.kind so.split isO (so.args (.ref x) (.str name tk) v) ?_)
  rw [osa_eq, refuse_eq]
  refine wpAny_bind (wpAny_bind (I.type.at (wpAny_bind (hmr.at ?_))))
  rw [refsB_pass _ _ hm]
  refine wpAny_pure (wpAny_bind (I.type.at (wpAny_bind ((looks_findIn X ha).at (wpAny_bind (hnt.at ?_))))))
  show wpAny _ _ (storeInOwnDict (.ref x) (.ref C) (.str name tk) name v false) _ _ _
  obtain ⟨nm, bs, mro, ns, qn, hd, sn, sb, ab, col, del⟩ := cd
  dsimp only at hh
  subst hh
  unfold storeInOwnDict ownDictForStores
  repeat (first | with_reducible refine store_in_new ?_ ?_ | with_reducible refine wpAny_loadPart_at hx ?_ | with_reducible refine hcl.at ?_ | wp_step)
  · exact ⟨_, #[], _, (Heap.get?_update_ne _ _ _ _ hxs.symm).trans (Heap.get?_push_at rfl rfl), rfl, fun e he => absurd he (by simp), fun _ => rfl⟩
  · intro h' tk' hn' hs
    have hx₁ : (hp.push { cls := .type "dict", data := .dict #[] }).get? x = some { cls := .ref C, data := .fields fv } := Heap.get?_push_of_some _ hx
    refine hq h' tk' hp.objs.size (fun c o hc ho => ?_) (Nat.le_refl _) hxs.symm ?_ hn'
    · exact (hs.2 c (Nat.ne_of_lt (Heap.lt_size ho))).trans ((Heap.get?_update_ne _ _ _ _ hc).trans (Heap.get?_push_of_some _ ho))
    · exact (hs.2 x hxs).trans (Heap.get?_update_self _ hx₁ rfl)
end
structure PrgOk (P : Program) (file : Str) : Prop where
  file : ((P.main.file : Str) == file) = true
  top : (P.main.scope.names.lookup ("super" : Str)).isSome = false
section
variable {prog : Program} {w : World} {K : PySem.W.Frag} {mg mb : Str → Option Value} {A : Around} {E : Value → Shared → Prop} {R : Result → Shared → Prop} {C fI : Addr} {a f file : Str} {hp : Heap} {g : Array GenState} {d : Drawn} {t : Nat} {os : OsState} {u : Value}
theorem bind2 {params : Arguments} {p1 p2 : Pos} {name qual : Str} {body : List Stmt} {scope : Scope} {doc pm ct cdv : Value} {an : Option Addr} {cc : Addr} {x y : Value} (hp : params = ⟨[], [⟨"self", none, p1⟩, ⟨a, none, p2⟩], none, [], [], none, []⟩) (hn : (a == sSelf) = false) :
    bindArgs (ksFn name qual params body scope .none .none doc pm an cdv ct cc) ⟨[x, y], []⟩ = pure [(sSelf, x), (a, y)] := by
  subst hp
  have e1 : ((a : Str) == "self") = false := hn
  unfold bindArgs
  simp [seqItems?, List.lookup, e1, notAStandIn]
theorem meth_line {o : Expr} {name : Str} {apos pos p3 : Pos} {txt : Str} {j : Nat} {env : Env} (hl : (apos.endLine == pos.line) = true) : eval (.Call (.Attribute o name apos) [.Constant (.str txt) j p3] [] pos) env = (do
      let ov ← attributeBase o name env (eval o env)
      standAt apos.atName
      let (f, first) ← holding [ov] (getMethod ov name (do return (← importBound o env).getD true))
      callWith pos f first (backTo pos (starEach [.Constant (.str txt) j p3] env)) []) := by
  have e1 : methodCallPos true o env apos pos = pure pos := by unfold methodCallPos; rw [hl]; rfl
  show (do
      let ov ← attributeBase o name env (eval o env)
      standAt apos.atName
      methodCall o name apos pos env ov 1 (backTo pos (starEach [.Constant (.str txt) j p3] env)) []) = _
  unfold methodCall
  have e2 : methodCallForm 1 (backTo pos (starEach [.Constant (.str txt) j p3] env)) [] = true := rfl
  rw [e2, e1]
  rfl
theorem init_run {b : EB} (EC : ErrD b K C fI a f file) (PO : PrgOk prog file) (KX : K.In hp) (hg : hp.Ns mainGlobals mg) (hb : hp.Ns builtinsNs mb) (hbb : ∀ x : Str, x ≠ "__name__" → mb x = bootBuiltins x) (hlim : hp.NoLimit) (hroom : A.depth < recursionLimit)
    (h : ∀ (h' : Heap) (tk' : Nat) (dx t1 : Addr), (∀ b o, hp.get? b = some o → h'.get? b = some o) → hp.objs.size ≤ dx → dx ≠ hp.objs.size + 1 → h'.get? (hp.objs.size + 1) = some (excObj C t1 (some dx) .none) →
      h'.Ns1 dx (fun y => if y = f then some u else none) → R (.ok (.ret .none)) ⟨h', g, d, tk', os⟩) :
    codeAny (model prog w) A (.call (.ref fI) ⟨[.ref (hp.objs.size + 1), u], []⟩) R ⟨(hp.push (kdv_tup [u])).push (HandSPX.excO C hp.objs.size), g, d, t, os⟩ := by
  obtain ⟨oc, od, osl, name, qual, params, body, scope, doc, pm, an, cdA, ct, cc, hl, hcd, ⟨ccl, cdd, vs, ccs, tf, hco, hvs⟩, ⟨cl, cld, csl, hcc⟩, ET⟩ := EC.fn
  have eki := ET.ki
  obtain ⟨kind, names, gen, co, more⟩ := scope
  dsimp only at eki
  subst eki
  obtain ⟨pp1, pp2, epar⟩ := ET.par
  obtain ⟨txt, j, p0, p1, p2, p3, p4, p5, p6, p7, p8, p9, ebody, hln⟩ := ET.body
  have kk : ∀ b o, hp.get? b = some o → ((hp.push (kdv_tup [u])).push (HandSPX.excO C hp.objs.size)).get? b = some o := fun b o e => Heap.get?_push_of_some _ (Heap.get?_push_of_some _ e)
  have hget : ((hp.push (kdv_tup [u])).push (HandSPX.excO C hp.objs.size)).get? (hp.objs.size + 1) = some (HandSPX.excO C hp.objs.size) := by heap_get
  have hsz : ((hp.push (kdv_tup [u])).push (HandSPX.excO C hp.objs.size)).objs.size = hp.objs.size + 2 := by rw [Heap.size_push, Heap.size_push]
  refine ks_codeAny_call_defAt (fd := ksFn name qual params body ⟨.function, names, gen, co, more⟩ .none .none doc pm an (.ref cdA) ct cc) (body := body) (binds := [(sSelf, .ref (hp.objs.size + 1)), (a, u)]) hroom (kk _ _ (KX _ _ hl)) rfl (hlim.keeps kk) (codeRec_of (KX.keeps kk) hcd) rfl
    (.of_eq (bind2 epar ET.ne)) ET.ce (fun x hx => ?_) (fun h₀ hns hk => ?_) ET.co ET.ge ET.ki
  · rcases List.mem_cons.mp hx with e | hx
    · subst e; exact ET.se
    · rcases List.mem_cons.mp hx with e | hx
      · subst e; exact ET.aa
      · cases hx
  · have Xo : K.In h₀ := fun b o e => hk b o (kk b o (KX b o e))
    have up : ∀ b o, hp.get? b = some o → h₀.get? b = some o := fun b o e => hk b o (kk b o e)
    have F : Fr hp ((hp.push (kdv_tup [u])).push (HandSPX.excO C hp.objs.size)).objs.size h₀ (fun x => [(sSelf, Value.ref (hp.objs.size + 1)), (a, u)].reverse.lookup x) := ⟨hns, up, by first | exact Nat.le_add_right _ _ | (rw [hsz]; exact Nat.le_add_right _ _)⟩
    have none_ : hp.get? (hp.objs.size + 1) = none := by
      cases e : hp.get? (hp.objs.size + 1) with
      | none => rfl
      | some o => exact absurd (Nat.lt_of_succ_lt (Heap.lt_size e)) (Nat.lt_irrefl _)
    have N : News hp ((hp.push (kdv_tup [u])).push (HandSPX.excO C hp.objs.size)).objs.size h₀ [(hp.objs.size + 1, excObj C hp.objs.size none .none)] := fun p hp_ => by
      rcases List.mem_cons.mp hp_ with e | hp_
      · subst e; exact ⟨hk _ _ hget, by rw [hsz]; exact Nat.ne_of_lt (Nat.lt_succ_self _), none_⟩
      · cases hp_
    have ms : [(sSelf, Value.ref (hp.objs.size + 1)), (a, u)].reverse.lookup sSelf = some (Value.ref (hp.objs.size + 1)) := by
      have e1 : (sSelf == a) = false := by
        cases q : (sSelf == a) with
        | false => rfl
        | true => have := beq_iff_eq.mp q; rw [← this] at ET; exact absurd ET.ne (by simp)
      simp [List.lookup, e1]
    have ma : [(sSelf, Value.ref (hp.objs.size + 1)), (a, u)].reverse.lookup a = some u := by simp [List.lookup]
    obtain ⟨cdD, hD⟩ : ∃ cd, clsIn K C = some cd := by
      cases e : clsIn K C with
      | none => have := EC.sf; unfold mroIn at this; rw [e] at this; cases this
      | some cd => exact ⟨cd, rfl⟩
    obtain ⟨oD, hD1, hD2⟩ : ∃ oD, h₀.get? C = some oD ∧ oD.data = .cls cdD := by
      unfold clsIn at hD
      split at hD
      · rename_i c d cd' sl ho
        cases hD
        exact ⟨_, Xo _ _ ho, rfl⟩
      · cases hD
    subst ebody
    refine ks_wpAt_execs_cons (ks_wpAt_Expr_any (ks_wpAt_MethodCall ?_ (meth_line hln)))
    have I0 : InstAt h₀ (hp.objs.size + 1) (excObj C hp.objs.size none .none) C none := ⟨hk _ _ hget, rfl, rfl, trivial⟩
    refine ks_wpAt_super_base (ar := ⟨"self", none, pp1⟩) ET.su ET.cl rfl rfl (Xo _ _ hl) rfl (by rw [epar]; rfl) rfl (Xo _ _ hco) rfl hvs PO.file PO.top ?_
    refine ks_loadName_global rfl ET.su (loadGlobal_builtin (hg.keeps up) (mg_none_of KX hg EC.su) (hb.keeps up) ((hbb _ (by decide +kernel)).trans (by rfl)) ⟨rfl, ?_⟩)
    refine wpAny_loadName_free rfl ET.cl rfl ⟨_, Xo _ _ hcc, rfl⟩ ?_
    refine wpAny_loadName_local rfl ET.se F.ns ms ?_
    refine ks_wpAny_isType_cls hD1 hD2 ⟨rfl, ?_⟩
    refine ks_wpAny_call_super hD1 hD2 I0.at_ I0.cls (fun c e => by cases e) (looks_mroIn Xo EC.sf) (fun h1 e1 k1 => ?_)
    obtain ⟨F1, N1, l1⟩ := ks_newsPush (s := ⟨h₀, g, d, t, os⟩) F N rfl e1 k1
    have I1 : InstAt h1 (hp.objs.size + 1) (excObj C hp.objs.size none .none) C none := ⟨k1 _ _ I0.at_, rfl, rfl, trivial⟩
    refine kxs_method b.kxs F1 KX N1 (List.mem_cons_self ..) I1 EC.tp EC.sm EC.sv (by decide) (fun q h2 F2 N2 l2 => ?_)
    refine kxs_callWith1 N2 (List.mem_cons_self ..) ?_
    refine Calls.spliced_cons ?_
    refine Calls.Constant_str (x := txt) (k := j) (pos := p3) ?_
    refine Calls.spliced_nil ⟨kxs_at N2 (List.mem_cons_self ..), ?_⟩
    refine kxs_call F2 KX N2 b.exb EC.xi (List.mem_cons_self ..) (.tail (Nat.ne_of_gt (l2 _ (List.mem_cons_of_mem _ (List.mem_cons_self ..)))) (.tail (Nat.ne_of_gt (l1 _ (List.mem_cons_self ..))) (.head fun p hp => by cases hp))) (by rw [sizeLine_eq]; simp) (fun t1 h3 F3 N3 l3 => ?_)
    refine ks_wpAt_execs_cons (ks_wpAt_Assign_Attr (wpAt_of_wpAny ?_))
    refine wpAny_Name (wpAny_loadName_local rfl ET.aa F3.ns ma ?_) ET.db
    refine wpAny_Name (wpAny_loadName_local rfl ET.se F3.ns ms ?_) (by decide)
    obtain ⟨nm, qn, Nn, bs, bm, sn, sub, ab, col, dd, k0, k1', k2, k3, k5, hC, hbm⟩ := EC.T.cls
    have hcl : clsIn K C = some { name := nm, bases := bs, mro := .ref C :: bm, ns := Nn, qualname := qn, hasDict := true, slotNames := sn, subclasses := sub, abstract := ab, collection := col, hasDel := false } := by unfold clsIn; rw [hC] <;> rfl
    have he3 : h3.get? (hp.objs.size + 1) = some (excObj C t1 none .none) := (N3 (hp.objs.size + 1, excObj C t1 none .none) (by simp)).1
    refine set_plain (KX.keeps F3.keep) (ox := excObj C t1 none .none) (od := none) ⟨he3, rfl, rfl, trivial⟩ EC.T.sa ?_
    refine exc_osaB (KX.keeps F3.keep) he3 hcl (show refsB b (.ref C :: bm) = true from hbm) rfl EC.nf (fun h' tk' dx kx dn dne hx hn => ?_)
    refine wpAt_of_wpAny (wpAny_execs_nil ?_)
    refine h h' _ dx t1 (fun b o e => kx b o (fun z => by rw [z, none_] at e; cases e) (F3.keep b o e)) ?_ dne hx hn
    refine Nat.le_trans ?_ dn
    exact Nat.le_of_lt (Nat.lt_of_succ_lt (Heap.lt_size he3))
end
section
variable {X : Cx} {T : Tx} {W : WX} {pos : Pos}
def tMkE (C : Addr) (f : Str) (ta : TA) : L2.St → Hp → XK → Prop := fun σ H Q => ta σ H fun vs H1 => ∃ v, vs = [v] ∧ ∀ dx, H1 dx = none → Q (.ref C) (some dx) (upd H1 dx (.xd [(f, v)]))
theorem pmk_err {x : Str} {e : Expr} {es : List Expr} {ta : TA} {p : Pos} {C fI : Addr} {a f file : Str} (EC : ErrC X.K C fI a f file) (PO : PrgOk X.prog file) (hr : Room 1 X.A) (hg : Gl X x) (hm : X.mg x = some (.ref C)) (ha : PA X (e :: es) ta)
    (hdb : (x == ("__debug__" : Str)) = false := by decide) (he : starEach (e :: es) X.env = (false, eval e X.env) :: starEach es X.env := by rfl) (hpl : (backTo pos (starEach es X.env)).any (·.1) = false := by rfl) :
    PMk X (.Call (.Name x p) (e :: es) [] pos) (tMkE C f ta) := by
  obtain ⟨b, EC⟩ := EC
  intro pins s σ H Q I h
  obtain ⟨nm, qn, Nn, bs, bm, sn, sub, ab, col, dd, k0, k1, k2, k3, k5, hC, hbm⟩ := EC.T.cls
  refine wpAny_Call_Name_kw (ld_glob I hg hm ?_ hdb)
  refine PySem.W.callWith_K (h₀ := X.base) I.ok.mod.kin EC.T.kC (thn (ha.run pos pins s σ H _ I h) fun us s1 ⟨vs, H1, I1, r1, q1⟩ => ⟨I1.kIn, ?_⟩) he hpl
  obtain ⟨v, rfl, q⟩ := q1
  obtain ⟨u, us', rfl, ru, ru'⟩ : ∃ u us', us = u :: us' ∧ RelV v u ∧ Vals [] us' := by
    cases r1 with
    | cons a b => exact ⟨_, _, rfl, a, b⟩
  cases ru'
  obtain ⟨mb, hb1, hb2⟩ := I1.mod.blt
  have hng := I1.mod.glob.keeps I1.bk
  have hnb := hb1.keeps I1.bk
  have hnl := I1.nolimit
  have hk1 := I1.kIn
  obtain ⟨hp, g, dr, tk, os⟩ := s1
  show wpAny _ _ (call (.ref C) [u]) _ _ _
  refine wpAny_call (PySem.HandSPX.call_own b.exb (fun Y => refsB_has Y bm hbm) (hk1 _ _ hC) (PySem.W.looks_findIn hk1 EC.iC) (fun self => PySem.W.bind_fn hk1 self EC.tI) (by rw [sizeLine_eq]; simp)
    (init_run EC PO hk1 hng hnb hb2 hnl (by have := (hr.make C [u] []).depth; exact this) (fun h' tk' dx t1 k dn dne hx hn => ?_)))
  refine ⟨rfl, ?_⟩
  obtain ⟨G, g1, g2⟩ := restrict h' fun b => decide (b ≠ hp.objs.size + 1)
  have gk : ∀ b, b ≠ hp.objs.size + 1 → G.get? b = h'.get? b := fun b hb => g1 b (decide_eq_true hb)
  have ge : G.get? (hp.objs.size + 1) = none := g2 _ (by simp)
  have ne_ : ∀ b o, hp.get? b = some o → b ≠ hp.objs.size + 1 := fun b o e z => by
    rw [z] at e; exact absurd (Nat.lt_of_succ_lt (Heap.lt_size e)) (Nat.lt_irrefl _)
  have kG : ∀ b o, G.get? b = some o → h'.get? b = some o := fun b o e => by
    by_cases hb : b = hp.objs.size + 1
    · rw [hb, ge] at e; cases e
    · rw [← gk b hb]; exact e
  have na : H1 (hp.objs.size + 1) = none := I1.hok.fresh (Nat.le_succ _)
  have nd : H1 dx = none := I1.hok.fresh dn
  have J : Inv X pins σ (upd H1 dx (.xd [(f, v)])) ⟨G, g, dr, tk', os⟩ :=
    I1.laid (t' := tk') (a := dx) (o := .xd [(f, v)]) (h' := G) (fun b o e => (gk b (ne_ b o e)).trans (k b o e)) dn ⟨_, hn.at (fun o y => (gk dx dne).trans y), relO_put (fs := []) ru fun _ => True.intro⟩
  exact ⟨hp.objs.size + 1, _, _, ⟨G, g, dr, tk', os⟩, _, .ref C, some dx, rfl, J, kG, ge, hx, ⟨rfl, rfl⟩, rfl, rfl, by rw [upd_ne (fun z => dne z.symm)]; exact na, rfl, I1.bare, raises_own EC.T.exC EC.T.tyC, q dx nd⟩
def sRaise (c : Nat) (f : FnE) : FnS := fun δ h => (f δ h).toS δ fun x h1 => .exc c [x] δ h1
theorem fs_raise {c : Nat} {x : Str} {e : Expr} {fe : FnE} {p pos' : Pos} {C fI : Addr} {a f file : Str} (hc : X.calm = true) (tk : Takes X W) (EC : ErrC X.K C fI a f file) (hx : T.exc c = some (C, [f])) (PO : PrgOk X.prog file) (hr : RoomG 1 X.A) (hg : Gl X x) (hm : X.mg x = some (.ref C)) (he : FE X T W e fe)
    (hdb : (x == ("__debug__" : Str)) = false := by decide) (hs : starEach [e] X.env = (false, eval e X.env) :: starEach [] X.env := by rfl) (hpl : (backTo pos (starEach [] X.env)).any (·.1) = false := by rfl) :
    FS X T W (.Raise (some (.Call (.Name x p) [e] [] pos)) none pos') (sRaise c fe) := by
  have hp : PA X [e] (tCons (tE X.K T W fe) tNil) := pa_cons he pa_nil hs
  refine PS.imp (ps_raise hc tk (pmk_err EC PO hr.r hg hm hp hdb hs hpl)) fun D σ H h => ?_
  refine tS.bind (k := fun δ x h1 => .exc c [x] δ h1) h fun G δ x1 v h1 H1 r1 s1 d1 o1 => ?_
  refine ⟨v, rfl, fun dx nd => ?_⟩
  obtain ⟨x2, r2⟩ := r1.newF (o := .xd [(f, v)]) nd
  exact o1 _ _ σ (.ref C) (some dx) x2 r2 (s1.mono x2) ⟨C, [f], hx, rfl, .inr ⟨dx, [(f, v)], rfl, upd_same, rfl, .cons (d1.mono x2) .nil⟩⟩
end
section
variable {X : Cx} {T : Tx} {W : WX} {pos : Pos}
def noXS : RS → RS
  | .exc _ _ _ _ => .stk
  | r => r
def handle (c : Nat) (ds : List D) (δ : De) (h : Hh) : List ((Nat → Bool) × FnS) → RS
  | [] => .exc c ds δ h
  | (m, v) :: r => if m c = true then noXS (v δ h) else handle c ds δ h r
inductive FHds (X : Cx) (T : Tx) : List ExceptHandler → List ((Nat → Bool) × FnS) → Prop
  | nil : FHds X T [] []
  | cons {x : Str} {c : Value} {m : Nat → Bool} {v : FnS} {b₀ : Stmt} {suite : List Stmt} {np pos' : Pos} {hds : List ExceptHandler} {l : List ((Nat → Bool) × FnS)} (hc : Names X x c) (hm : ∀ n C nm, T.exc n = some (C, nm) → exmOne X.K (.ref C) c = some (m n))
      (hsu : ∀ (a : Addr) (oe : Obj) (pn : List (Addr × Obj)), FSs (X.suite a ((a, oe) :: pn)) T W0 (b₀ :: suite) v) (r : FHds X T hds l) : FHds X T (.ExceptHandler (some (.Name x np)) none (b₀ :: suite) pos' :: hds) ((m, v) :: l)
theorem okS.noX {K : PySem.W.Frag} {G : Gst} {r : RS} {D : Ends} (o : okS K T W G (noXS r) D) : okS K T W0 G r D := by
  cases r with
  | nx δ h => exact o
  | rt d h => exact o
  | bk δ h => exact o
  | ct δ h => exact o
  | exc c ds δ h => exact o.elim
  | stk => exact o
theorem FHds.ok {hds : List ExceptHandler} {l : List ((Nat → Bool) × FnS)} (F : FHds X T hds l) : ∃ l', HdsOk X hds l' ∧ ∀ (DE : Ends) (c : Nat) (ds : List D) (δ : De) (h : Hh) G H (σ : L2.St) cls dd, Rel X.K T G h H → RSl X.K T G δ σ → RX X.K T G c ds cls dd → okS X.K T W G (handle c ds δ h l) DE → wMany X.K W DE l' cls dd σ H := by
  induction F with
  | nil => exact ⟨[], .nil, fun D c ds δ h G H σ cls dd r s x o => o G H σ cls dd (Ext.refl G) r s x⟩
  | @cons x c0 m v b₀ suite np pos' hds l hc hm hsu r ih =>
    obtain ⟨l', ok', rd⟩ := ih
    refine ⟨(c0, fun _ _ _ => tS X.K T W0 v) :: l', .cons hc (fun a oe cls d pn _ _ => hsu a oe pn) ok', fun D c ds δ h G H σ cls dd r s x o => ?_⟩
    obtain ⟨C, nm, e1, e2, e3⟩ := id x
    subst e2
    refine ⟨m c, hm c C nm e1, fun hy a na => ?_, fun hn => ?_⟩
    · unfold handle at o
      rw [if_pos hy] at o
      exact ⟨G, h, δ, r, s, okS.noX o⟩
    · unfold handle at o
      rw [if_neg (by rw [hn]; exact Bool.false_ne_true)] at o
      exact rd D c ds δ h G H σ _ dd r s x o
end
inductive Pk where
  | p (i : Nat) | k (i : Nat) | d (i : Nat)
def Pk.at_ {α : Type} (us ds ws : List α) : Pk → Option α
  | .p i => us[i]?
  | .k i => ws[i]?
  | .d i => ds[i]?
def pick {α : Type} (us ds ws : List α) : List Pk → List α
  | [] => []
  | x :: l => match x.at_ us ds ws with
    | some v => v :: pick us ds ws l
    | none => pick us ds ws l
theorem Vals.gets {vs : List V} {us : List Value} (r : Vals vs us) (i : Nat) : (vs[i]? = none ∧ us[i]? = none) ∨ ∃ v u, vs[i]? = some v ∧ us[i]? = some u ∧ RelV v u := by
  induction r generalizing i with
  | nil => exact .inl ⟨by simp, by simp⟩
  | cons a b ih =>
    cases i with
    | zero => exact .inr ⟨_, _, rfl, rfl, a⟩
    | succ i => simpa using ih i
theorem Vals.pick {vs dvs zs : List V} {us dus ws : List Value} (r : Vals vs us) (d : Vals dvs dus) (z : Vals zs ws) : ∀ l : List Pk, Vals (L3.pick vs dvs zs l) (L3.pick us dus ws l)
  | [] => .nil
  | x :: l => by
    have ih := Vals.pick r d z l
    have e : (x.at_ vs dvs zs = none ∧ x.at_ us dus ws = none) ∨ ∃ v u, x.at_ vs dvs zs = some v ∧ x.at_ us dus ws = some u ∧ RelV v u := by
      cases x with
      | p i => exact Vals.gets r i
      | k i => exact Vals.gets z i
      | d i => exact Vals.gets d i
    unfold L3.pick
    rcases e with ⟨e1, e2⟩ | ⟨v, u, e1, e2, q⟩
    · rw [e1, e2]; exact ih
    · rw [e1, e2]; exact .cons q ih
theorem RDs.gets {K : PySem.W.Frag} {T : Tx} {G : Gst} {ds : List D} {vs : List V} (r : RDs K T G ds vs) (i : Nat) : (ds[i]? = none ∧ vs[i]? = none) ∨ ∃ d v, ds[i]? = some d ∧ vs[i]? = some v ∧ RD K T G d v := by
  by_cases h : i < ds.length
  · obtain ⟨v, e1, e2⟩ := r.get (i := i) (d := ds[i]) (by simp [h])
    exact .inr ⟨_, v, by simp [h], e1, e2⟩
  · exact .inl ⟨by simpa using h, by rw [List.getElem?_eq_none]; rw [← r.length]; omega⟩
theorem RDs.pick {K : PySem.W.Frag} {T : Tx} {G : Gst} {ds dds zs : List D} {vs dvs ws : List V} (r : RDs K T G ds vs) (d : RDs K T G dds dvs) (z : RDs K T G zs ws) : ∀ l : List Pk, RDs K T G (L3.pick ds dds zs l) (L3.pick vs dvs ws l)
  | [] => .nil
  | x :: l => by
    have ih := RDs.pick r d z l
    have e : (x.at_ ds dds zs = none ∧ x.at_ vs dvs ws = none) ∨ ∃ d v, x.at_ ds dds zs = some d ∧ x.at_ vs dvs ws = some v ∧ RD K T G d v := by
      cases x with
      | p i => exact RDs.gets r i
      | k i => exact RDs.gets z i
      | d i => exact RDs.gets d i
    unfold L3.pick
    rcases e with ⟨e1, e2⟩ | ⟨v, u, e1, e2, q⟩
    · rw [e1, e2]; exact ih
    · rw [e1, e2]; exact .cons q ih
def KBp (K : PySem.W.Frag) (fd : FuncData) (ps : List Str) (n : Nat) (ks : List Str) (us : List Value) (l : List Pk) : Prop :=
  ∀ (s : Shared) (vs ws : List Value), K.In s.heap → vs.length = n → ws.length = ks.length → BindsTo s fd ⟨vs, ks.zip ws⟩ (ps.zip (pick vs us ws l))
theorem kbp0 {K : PySem.W.Frag} {x qual : Str} {params : Arguments} {body : List Stmt} {scope : Scope} {kws : List (Str × V)} {f : Addr} {fd : FuncData} {ps : List Str} (F : FunD K x qual params body scope [] kws f fd) (n : Nat) (ks : List Str) (l : List Pk)
    (h : ∀ (kV doc pm : Value) (an : Option Addr) (cdv ct : Value) (us ws : List Value), us.length = n → ws.length = ks.length → bindArgs (PySem.W.fnOf x qual params body scope .none kV doc pm an cdv ct) ⟨us, ks.zip ws⟩ = pure (ps.zip (pick us [] ws l))) : KBp K fd ps n ks [] l := by
  obtain ⟨oc, od, dV, kV, doc, pm, an, cdv, ct, osl, rfl, lk, hcd, hD, hK⟩ := F.ex
  rcases hD with ⟨_, rfl⟩ | ⟨e, _⟩
  · exact fun s us ws X l1 l2 => .of_eq (h kV doc pm an cdv ct us ws l1 l2)
  · exact absurd rfl e
section
variable {X : Cx} {T : Tx} {W : WX} {pos : Pos}
abbrev FK (X : Cx) (T : Tx) (W : WX) (kws : List Keyword) (f : FnA) : Prop := PK X kws (tA X.K T W f)
theorem PK.imp {X : Cx} {e : List Keyword} {t t' : TA} (h : PK X e t) (q : ∀ σ H Q, t' σ H Q → t σ H Q) : PK X e t' := ⟨fun pos pins s σ H Q I z => h.run pos pins s σ H Q I (q _ _ _ z)⟩
theorem fk_nil : FK X T W [] aNil := by
  refine PK.imp pk_nil fun σ H Q => ?_
  rintro ⟨G, h0, δ, r, s, o⟩
  exact okR.at o r .nil
theorem fk_cons {nm : Option Str} {e : Expr} {kpos : Pos} {kws : List Keyword} {f : FnE} {fr : FnA} (ha : FE X T W e f) (hr : FK X T W kws fr) : FK X T W (⟨nm, e, kpos⟩ :: kws) (aCons f fr) := by
  refine PK.imp (pk_cons ha hr) fun σ H Q => ?_
  rintro ⟨G, h0, δ, r, s, o⟩
  refine ⟨G, h0, δ, r, s, (okR.bind (rel := RD X.K T) o).mono ?_⟩
  rintro v H1 ⟨G1, x, h1, e1, r1, d1, o1⟩
  refine ⟨G1, h1, δ, r1, s.mono e1, (okR.bind (rel := RDs X.K T) o1).mono ?_⟩
  rintro w H2 ⟨G2, y, h2, e2, r2, d2, o2⟩
  exact okR.at o2 r2 (.cons (d1.mono e2) d2)
def eKw (fa fk : FnA) (k : List D → List D → Hh → R D) : FnE := fun δ h => (fa δ h).bind fun ds h1 => (fk δ h1).bind fun zs h2 => k ds zs h2
end
end L3
set_option autoImplicit false
set_option maxHeartbeats 4000000
namespace L3
open PySem PySem.Spec L2
section
variable {X : Cx} {T : Tx} {W : WX} {pos : Pos}
def kMakeK (c na m np : Nat) (sem : Sem3) (dds : List D) (l : List Pk) (ds zs : List D) (h1 : Hh) : R D := if ds.length = 0 ∧ zs.length = m ∧ (pick [D.ref h1.length] dds zs l).length = np then
  endMake c na h1.length (sem (pick [D.ref h1.length] dds zs l) (h1 ++ [.obj c []])) else .stk
theorem make_readK {c na m np : Nat} {C : Addr} {sem : Sem3} {nm : List Str} {dds zs : List D} {dvs ws : List V} {us : List Value} {l : List Pk} {G1 : Gst} {h1 : Hh} {H1 : Hp} {σ : L2.St} {Q : VK} {K : PySem.W.Frag} (hc : T.cls c = some (C, nm)) (hna : nm.length = na) (D0 : Dfl K T dds dvs us)
    (r1 : Rel K T G1 h1 H1) (d1 : RDs K T G1 zs ws) (o : okR K T W G1 σ (RD K T) (kMakeK c na m np sem dds l [] zs h1) Q) : ws.length = m ∧ ∀ x dx, H1 x = none → H1 dx = none → dx ≠ x →
    sp3 K T np sem (pick [.ref x] dvs ws l) (upd (upd H1 dx (.own x)) x (.ins C dx [])) (fun v H2 => v = .non ∧ Q (.ref x) H2) (WE W σ) := by
  unfold kMakeK at o
  by_cases hl : ([] : List D).length = 0 ∧ zs.length = m ∧ (pick [D.ref h1.length] dds zs l).length = np
  · rw [if_pos hl] at o
    refine ⟨by rw [← d1.length]; exact hl.2.1, fun x dx hx hdx ne => ?_⟩
    have r2 := r1.track (o := .own x) hdx
    have hx2 : upd H1 dx (.own x) x = none := by rw [upd_ne (Ne.symm ne)]; exact hx
    obtain ⟨x3, r3⟩ := r2.newO (o := .ins C dx []) (u := .obj c []) hx2 fun G' _ hi ho _ => ⟨x, C, dx, nm, [], hi, ho, upd_same, hc, by simp, .nil⟩
    have hix : (G1.new x).ι[h1.length]? = some x := by
      show (G1.ι ++ [x])[h1.length]? = some x
      rw [← r1.len]; simp
    have dd : RDs K T (G1.new x) (pick [D.ref h1.length] dds zs l) (pick [V.ref x] dvs ws l) := RDs.pick (.cons (.ref hix) .nil) (D0.rel _) (d1.mono x3) l
    refine ⟨by rw [← dd.length]; exact hl.2.2, G1.new x, _, _, r3, dd, ?_⟩
    cases e : sem (pick [D.ref h1.length] dds zs l) (h1 ++ [.obj c []]) with
    | stk => rw [e] at o; exact o.elim
    | exc c' es h' => rw [e] at o; exact okR.ext (W := W) (rel := RD K T) (σ := σ) (r := .exc c' es h') x3 o
    | ok y h2 =>
      rw [e] at o
      unfold endMake at o
      cases y with
      | non =>
        dsimp only at o
        intro G' H' v x4 r4 dv
        cases dv
        refine ⟨rfl, ?_⟩
        cases q : h2[h1.length]? with
        | none => rw [q] at o; exact o.elim
        | some ob =>
          rw [q] at o
          cases ob with
          | obj c' es =>
            dsimp only at o
            by_cases hce : c' = c ∧ es.length = na
            · rw [if_pos hce] at o
              obtain ⟨rfl, hlen⟩ := hce
              obtain ⟨a, C', dx', nm', fs, z1, z2, z3, z4, z5, z6⟩ := r4.obj _ _ q
              rw [hc] at z4; cases z4
              obtain ⟨tt, ht⟩ := x4.ι
              have hax : a = x := by
                have h0 : h1.length < (G1.new x).ι.length := (List.getElem?_eq_some_iff.mp hix).1
                rw [ht, List.getElem?_append_left h0, hix] at z1
                cases z1; rfl
              subst hax
              have hn : h1.length < h2.length := (List.getElem?_eq_some_iff.mp q).1
              obtain ⟨r5, x5⟩ := r4.freeze hn z2 z3
              refine o _ H' (.ref a) (x3.trans (x4.trans x5)) r5 (.obj (C := C) (dx := dx') (nm := nm) (fs := fs) upd_same hc ?_ (z6.mono x5))
              rw [z5, hlen, ← hna, List.take_length]
            · rw [if_neg hce] at o; exact o.elim
          | _ => exact o.elim
      | _ => exact o.elim
  · rw [if_neg hl] at o; exact o.elim
theorem run_makeSK {CX : CXT} {C f : Addr} {k : Nat} {fd : FuncData} {ps ks : List Str} {sp : Sp} {ds : List Value} {dvs : List V} {E : XK} {pins : List (Addr × Obj)} {σ : L2.St} {H : Hp} {s : Shared} {Q : VK} {ws : List Value} {zs : List V} {l : List Pk} (M : Mk X.K C f) (F : FnQ X.prog X.w X.K X.mg X.base CX k f fd ps sp) (hr : RoomG (k + 1) X.A) (hb : KBp X.K fd ps 1 ks ds l) (hd : Vals dvs ds)
    (hx : PassesAt CX X σ E) (I : Inv X pins σ H s) (rz : Vals zs ws) (l2 : zs.length = ks.length)
    (h : ∀ x dx, H x = none → H dx = none → dx ≠ x → sp (pick [.ref x] dvs zs l) (upd (upd H dx (.own x)) x (.ins C dx [])) (fun v H2 => v = .non ∧ Q (.ref x) H2) E) :
    wpAny (model X.prog X.w) X.A (call (.ref C) [] (ks.zip ws)) (EP X pins σ Q) X.xe s := by
  have go_ := h (s.heap.objs.size + 1) s.heap.objs.size (I.hok.fresh (Nat.le_succ _)) (I.hok.fresh (Nat.le_refl _)) (Nat.ne_of_lt (Nat.lt_succ_self _))
  have J := Inv.made (C := C) I
  have r0 : Vals [V.ref (s.heap.objs.size + 1)] [Value.ref (s.heap.objs.size + 1)] := .cons rfl .nil
  have args : Vals (pick [V.ref (s.heap.objs.size + 1)] dvs zs l) (pick [Value.ref (s.heap.objs.size + 1)] ds ws l) := Vals.pick r0 hd rz l
  refine wpAny_call (make_map (f := f) I.kIn M.makes M.init (beq_iff_eq.mp M.fn) (codeAny_mono (F.go _ X.stack _ _ ⟨[Value.ref (s.heap.objs.size + 1)], ks.zip ws⟩ (pick [Value.ref (s.heap.objs.size + 1)] ds ws l) _ _ E ⟨hr.r.make C [] (ks.zip ws), underG hr.g⟩
    (J.env0.make C [] (ks.zip ws)) (hb _ [Value.ref (s.heap.objs.size + 1)] ws J.kIn rfl (rz.length.symm.trans l2)) args go_) fun r s' end_ => ?_))
  cases r with
  | error e => exact hx pins _ _ e s' J end_
  | ok fw =>
    cases fw with
    | ret u =>
      obtain ⟨v, H', J3, rel_, same_, fin_⟩ := J.after end_
      subst same_
      exact ⟨rel_, ⟨V.ref (s.heap.objs.size + 1), H', J3, rfl, fin_⟩⟩
    | next => exact False.elim end_
    | brk => exact False.elim end_
    | cont => exact False.elim end_
theorem fe_makeK0 {np m : Nat} {x : Str} {p : Pos} {c na : Nat} {C f : Addr} {kws : List Keyword} {k : Nat} {fd : FuncData} {ps ks : List Str} {sem : Sem3} {fk : FnA} {dds : List D} {dvs : List V} {us : List Value} {l : List Pk} (tk : Takes X W) (M : MakeOk X T c C f na) (F : FnL X.prog X.w X.K X.mg X.base T k f fd ps sem) (hr : RoomG (k + 1) X.A) (hg : Gl X x) (hm : X.mg x = some (.ref C))
    (hb : KBp X.K fd ps 1 ks us l) (D0 : Dfl X.K T dds dvs us) (hkw : FK X T W kws fk) (hall : (backToKw pos (keywordEach kws X.env)).all (·.1.isSome) = true := by rfl) (hks : (backToKw pos (keywordEach kws X.env)).filterMap (·.1) = ks := by rfl) (hdb : (x == ("__debug__" : Str)) = false := by decide)
    (hpl : ((backTo pos (starEach [] X.env)).any (·.1) || (backToKw pos (keywordEach kws X.env)).any (·.1.isNone)) = false := by rfl) (hnp : ps.length = np := by rfl) (hnm : ks.length = m := by rfl) :
    FE X T W (.Call (.Name x p) [] kws pos) (eKw aNil fk (kMakeK c na m np sem dds l)) := by
  subst hnp
  subst hnm
  obtain ⟨nm, hc, hna⟩ := M.cls
  refine ⟨fun pins s σ H Q I h => ?_⟩
  refine wpAny_Call_Name_kw (ld_glob I hg hm ?_ hdb)
  have h' : tA X.K T W fk σ H fun zs H1 => zs.length = ks.length ∧ ∀ x dx, H1 x = none → H1 dx = none → dx ≠ x → sp3 X.K T ps.length sem (pick [.ref x] dvs zs l) (upd (upd H1 dx (.own x)) x (.ins C dx [])) (fun v H2 => v = .non ∧ Q (.ref x) H2) (WE W σ) :=
    tF.bind (k := fun _ zs h1 => kMakeK c na ks.length ps.length sem dds l [] zs h1) h fun G δ ds vs h1 H1 r1 s1 d1 o1 => make_readK hc hna D0 r1 d1 o1
  refine PySem.W.callWith_KW0 (h₀ := X.base) I.ok.mod.kin M.make.kp hall ?_ hpl
  refine thn (hkw.run pos pins s σ H _ I h') fun ws s2 ⟨zs, H2, I2, rz, l2, q2⟩ => ⟨I2.kIn, ?_⟩
  rw [hks]
  exact run_makeSK M.make F hr hb D0.val (passAt tk σ) I2 rz l2 q2
end
end L3
set_option autoImplicit false
set_option maxHeartbeats 4000000
namespace PySem
open Sem (wp)
section
variable {prog : Program} {w : World} {A : Around} {E : Value → Shared → Prop} {s : Shared}
end
section
variable {prog : Program} {w : World} {A : Around} {E : Value → Shared → Prop} {s : Shared}
end
end PySem
namespace L3
open PySem PySem.Spec L2 PyProof.Rows
section
variable {X : Cx} {T : Tx}
end
end L3
set_option autoImplicit false
set_option maxHeartbeats 4000000
namespace PySem.W
open PySem PySem.Calls PyProof.Rows Builtin
section
variable {prog : Program} {w : World} {A : Around} {E : Value → Shared → Prop} {s : Shared} {K : Frag} {x y C L f : Addr} {h₀ : Heap} {m : Str → Option Value} {ox oy : Obj} {od od' : Option Obj} {name : Str}
theorem l3_boundB {M : Model} {args : List Value} {id Tn : String} {Q : Option Value → Shared → Prop} (X : K.In s.heap) (I : InstAt s.heap x ox C od) (hs : findIn K (.ref C) name = some (some (.builtin id))) (S : Slot Tn name id)
    (h : wpAny M A (call (.builtin id) (.ref x :: args)) (fun v => Q (some v)) E s) : wpAny M A (callSpecialIfBound? (.ref x) name args) Q E s := by
  simp only [callSpecialIfBound?, bindSpecialIfBound?]
  refine wpAny_holding (wpAny_bind (wpAny_bind (wpAny_bind (I.type.here ((looks_findIn X hs).here ?_)))))
  simp only [S.bind]
  refine wpAny_bind (wpAny_askSetting (wpAny_ite ?_))
  have fin : wpAny M A (call (.builtin id) ([.ref x] ++ args) >>= fun v => pure (some v)) Q E s := wpAny_bind (wpAny_mono h (fun v s' h' => wpAny_pure h') fun _ _ h' => h')
  split
  · exact wpAny_bind (wpAny_pure (wpAny_pure fin))
  · exact wpAny_tryCatch (wpAny_bind (wpAny_pure (wpAny_pure fin)))
theorem l3_objNe (X : K.In s.heap) (I : InstAt s.heap x ox C od) (hs : findIn K (.ref C) "__eq__" = some (some (.ref f))) (hf : isFn K (.ref f) = true) (hu : A.units < cLine) {Q : Fin → Shared → Prop}
    (hcall : wpAny (model prog w) A (call (.ref f) [.ref x, .ref y]) (fun v s' => ∃ b, v = .bool b ∧ Q (.done (.ret (.bool (!b)))) s') E s) :
    wpAny (model prog w) A (Builtin.«object.__ne__» ⟨[.ref x, .ref y], []⟩) Q E s := by
  unfold Builtin.«object.__ne__»
  repeat (first
    | with_reducible refine wpAny_cRoomFor hu ?_
    | (refine wpAny_bind (m := callSpecialIfBound? (.ref x) (Str.ofString "__eq__") [.ref y])
            (ifBound_K X I hs hf (wpAny_mono hcall (fun r s' hr => by
              obtain ⟨b, rfl, hq⟩ := hr
              repeat (first | exact hq | exact wpAny_pure hq | exact wpAny_truthy_bool hq | (refine wpAny_bind (m := truthy (.bool _)) (wpAny_truthy_bool ?_)) | wp_step)) fun _ _ e => e)))
    | wp_step)
theorem l3_ne_K {Q : Value → Shared → Prop} (hu : A.units + 1 < cLine) (F : Fr h₀ L s.heap m) (X₀ : K.In h₀) (I : InstAt s.heap x ox C od) (hb : Looks (model prog w) s.heap (typeOf (.ref y)) (.ref C))
    (hn : findIn K (.ref C) "__ne__" = some (some (.builtin "object.__ne__"))) (hm : mroIn K C (.type "object") = some true) (hs : findIn K (.ref C) "__eq__" = some (some (.ref f))) (hf : isFn K (.ref f) = true)
    (h : wpAny (model prog w) A.in1 (call (.ref f) [.ref x, .ref y]) (fun v s' => ∃ b, v = .bool b ∧ Q (.bool (!b)) s') E s) :
    wpAny (model prog w) A (richCompare .NotEq (.ref x) (.ref y)) Q E s := by
  have X := X₀.keeps F.keep
  have FB := PySem.F.cmp_object
  have top : Looks (model prog w) s.heap (isInstance (.ref x) (.type "object")) true := I.type.andThen (looks_mroIn X hm)
  have one : wpAny (model prog w) A (tryCompare (.ref x) "__ne__" (.ref y)) (fun r s' => ∃ v, r = some v ∧ Q v s') E s := by
    unfold tryCompare
    refine wpAny_bind (l3_boundB X I hn FB.ne (wpAny_call (codeAny_call_builtin FB.ne.plain PySem.F.cmpEntry_ne
      (check_slot PySem.F.cmpKind_ne PySem.F.cmpSplit_ne top (PySem.F.cmpArgs_ne _ _) (l3_objNe (A := A.in1) X I hs hf hu (wpAny_mono h (fun v s' hv => ?_) fun _ _ e => e))))))
    obtain ⟨b, rfl, hq⟩ := hv
    first | exact ⟨b, rfl, wpAny_pure ⟨_, rfl, hq⟩⟩ | exact ⟨b, rfl, wpAny_pure (wpAny_pure ⟨_, rfl, hq⟩)⟩ | exact ⟨b, rfl, ⟨_, rfl, hq⟩⟩
  unfold richCompare
  simp only [oneThing_ref]
  refine wpAny_holding (wpAny_bind (wpAny_cRoomFor (Nat.lt_of_succ_lt hu) ?_))
  rw [cmpInfo_NotEq]
  dsimp only
  refine wpAny_bind (I.type.here (wpAny_bind (hb.here ?_)))
  rw [show (Value.ref C != Value.ref C) = false from by simp]
  simp only [Bool.false_eq_true, if_false]
  refine wpAny_bind (wpAny_pure ?_)
  simp only [Bool.false_eq_true, if_false]
  refine wpAny_bind (wpAny_mono one (fun r s' hr => ?_) fun _ _ e => e)
  obtain ⟨v, rfl, hq⟩ := hr
  first | exact wpAny_pure hq | exact wpAny_pure (wpAny_pure hq)
end
end PySem.W
namespace L3
open PySem PySem.Spec L2
section
variable {X : Cx} {T : Tx} {W : WX} {pos : Pos}
def rNeO (K : PySem.W.Frag) (T : Tx) (C : Addr) (sem : Sem3) : R2 := fun x y H Q => ∃ a b dx dy fs gs, x = .ref a ∧ y = .ref b ∧ H a = some (.ins C dx fs) ∧ H b = some (.ins C dy gs) ∧ sp3 K T 2 sem [x, y] H (fun z H' => ∃ c, z = .bl c ∧ Q (.bl (!c)) H') E0
theorem op_neO {C f : Addr} {k : Nat} {fd : FuncData} {ps : List Str} {sem : Sem3} (J0 : IsiC X.K C) (hn : PySem.W.findIn X.K (.ref C) "__ne__" = some (some (.builtin "object.__ne__"))) (M : Meth X.K C "__eq__" f) (F : FnL X.prog X.w X.K X.mg X.base T k f fd ps sem) (hr : RoomG (k + 1) X.A) (hb : Binds X.K fd ps []) (h2 : ps.length = 2 := by rfl) : OpR X (compareOp .NotEq) (rNeO X.K T C sem) := by
  intro pins s σ H x y v u Q I rx ry hq
  obtain ⟨a, b, dx, dy, fs, gs, rfl, rfl, ha, hb', hsp⟩ := hq
  cases rx
  cases ry
  obtain ⟨mA, J, _⟩ := ins_get I.hok ha
  obtain ⟨mB, J', _⟩ := ins_get I.hok hb'
  obtain ⟨od, J, _⟩ := J.look
  obtain ⟨od', J', _⟩ := J'.look
  obtain ⟨m, hF⟩ := I.fr
  have hr1 : RoomG k X.A.in1 := ⟨hr.r.in1, hr.g⟩
  show wpAny (model X.prog X.w) X.A (richCompare .NotEq (.ref a) (.ref b)) (EP X pins σ Q) X.xe s
  refine PySem.W.l3_ne_K (by have := hr.r.un; omega) hF I.ok.mod.kin J J'.type hn J0.hm M.at_ M.fn ?_
  have hsp' : sp3 X.K T ps.length sem [.ref a, .ref b] H (fun z H' => ∃ c, z = .bl c ∧ Q (.bl (!c)) H') E0 := by rw [h2]; exact hsp
  have hl : [Value.ref a, Value.ref b].length = ps.length := by rw [h2]; rfl
  refine wpAny_call (codeAny_mono (F.go X.A.in1 X.stack s H ⟨[.ref a, .ref b], []⟩ [.ref a, .ref b] [.ref a, .ref b] (fun z H' => ∃ c, z = .bl c ∧ Q (.bl (!c)) H') E0 hr1 I.env0.in1 (by
    have := hb s [.ref a, .ref b] I.kIn (by simpa using hl)
    simpa using this) (.cons rfl (.cons rfl .nil)) hsp') fun r s' e => ?_)
  match r, e with
  | .error er, e => exact False.elim ((passL : Passes (L2.CX X.prog X.w) X.nox E0) pins σ H _ er s' (I.wish _) e)
  | .ok (.ret w), e =>
    obtain ⟨z, H', I', rz, c, rfl, q3⟩ := I.after e
    have : w = .bool c := rz
    subst this
    exact ⟨c, rfl, .bl (!c), H', I', rfl, q3⟩
  | .ok .next, e => exact e.elim
  | .ok .brk, e => exact e.elim
  | .ok .cont, e => exact e.elim
def notR (r : R D) : R D := match r with
  | .ok (.bl b) h => .ok (.bl (!b)) h
  | _ => .stk
def neO (c : Nat) (sem : Sem3) : F2 := fun x y h => if clsOf h x = some c ∧ clsOf h y = some c then notR (sem [x, y] h) else .stk
theorem os_neO {c : Nat} {C : Addr} {sem : Sem3} (hcl : ∃ nm, T.cls c = some (C, nm)) : OpS X T (rNeO X.K T C sem) (neO c sem) := by
  intro W G h H σ x y v w Q r d1 d2 o
  obtain ⟨nm, hcl⟩ := hcl
  unfold neO at o
  by_cases hc : clsOf h x = some c ∧ clsOf h y = some c
  · rw [if_pos hc] at o
    obtain ⟨a, C', dx, nm', fs, rfl, q1, q2, _⟩ := clsOf_ok r d1 hc.1
    rw [hcl] at q2; cases q2
    obtain ⟨b, C', dy, nm', gs, rfl, p1, p2, _⟩ := clsOf_ok r d2 hc.2
    rw [hcl] at p2; cases p2
    refine ⟨a, b, dx, dy, fs, gs, rfl, rfl, q1, p1, rfl, G, h, [x, y], r, .cons d1 (.cons d2 .nil), ?_⟩
    cases es : sem [x, y] h with
    | ok z hh =>
      rw [es] at o
      cases z with
      | bl b =>
        intro G' H' v x' r' d'
        cases d'
        exact ⟨b, rfl, o G' H' _ x' r' .bl⟩
      | _ => exact o.elim
    | exc c es' hh => rw [es] at o; exact o.elim
    | stk => rw [es] at o; exact o.elim
  · rw [if_neg hc] at o; exact o.elim
end
end L3
set_option autoImplicit false
set_option maxHeartbeats 4000000
namespace HT
open PySem PySem.Calls PyProof.Rows Builtin
section
variable {prog : Program} {w : World} {A : Around} {E : Value → Shared → Prop} {s : Shared}
end
end HT
namespace L3
open PySem PySem.Spec L2 PyProof.Rows
section
variable {X : Cx} {T : Tx} {W : WX} {pos p2 : Pos} {e st : Expr} {te : TE} {ts : TO}
end
end L3
set_option autoImplicit false
set_option maxHeartbeats 4000000
namespace L3
open PySem PySem.Spec L2 PyProof.Rows
section
variable {X : Cx} {T : Tx} {W : WX} {pos : Pos}
def lexG (ns ms : List Int) : Bool := Ob.lexAt (fun j => decide (ns.getD j 0 = ms.getD j 0)) (fun j => decide (ms.getD j 0 < ns.getD j 0)) (decide (ns.length > ms.length)) 0 (min ns.length ms.length)
def gtTD (ds es : List D) (h : Hh) : R D := match intsOf ds, intsOf es with
  | some ns, some ms => .ok (.bl (lexG ns ms)) h
  | _, _ => .stk
def gtA : F2 := fun x y h => match x, y with
  | .tup ds, .tup es => gtTD ds es h
  | x, y => gtD x y h
end
end L3
set_option autoImplicit false
set_option maxHeartbeats 4000000
namespace PySem.W
open PySem PySem.Calls PyProof.Rows Builtin
section
variable {prog : Program} {w : World} {A : Around} {E : Value → Shared → Prop} {s : Shared} {K : Frag} {x C L f : Addr} {h₀ : Heap} {m : Str → Option Value} {ox : Obj} {od : Option Obj} {b tb : Value}
end
end PySem.W
namespace L3
open PySem PySem.Spec L2
section
variable {X : Cx} {T : Tx} {W : WX} {pos : Pos}
theorem kd_nf {K : PySem.W.Frag} {C : Addr} (k : Kd) : PySem.W.notFirst K C (.type k.nm) = true := by
  cases k <;> rfl
def rEqK (K : PySem.W.Frag) (T : Tx) (C : Addr) (sem : Sem3) : R2 := fun x y H Q => ∃ a dx fs, ∃ k : Kd, x = .ref a ∧ H a = some (.ins C dx fs) ∧ TyX K H y (.type k.nm) ∧ sp3 K T 2 sem [x, y] H Q E0
theorem op_eqK {C f : Addr} {k : Nat} {fd : FuncData} {ps : List Str} {sem : Sem3} (M : Meth X.K C "__eq__" f) (F : FnL X.prog X.w X.K X.mg X.base T k f fd ps sem) (hr : RoomG k X.A) (hb : Binds X.K fd ps []) (h2 : ps.length = 2 := by rfl) : OpR X (compareOp .Eq) (rEqK X.K T C sem) := by
  intro pins s σ H x y v u Q I rx ry hq
  obtain ⟨a, dx, fs, kk, rfl, ha, ty, hsp⟩ := hq
  cases rx
  obtain ⟨mA, J, _⟩ := ins_get I.hok ha
  obtain ⟨od, J, _⟩ := J.look
  obtain ⟨m, hF⟩ := I.fr
  obtain ⟨P, KX, hP, _⟩ := kit_of I ry ty
  show wpAny (model X.prog X.w) X.A (richCompare .Eq (.ref a) u) (EP X pins σ Q) X.xe s
  refine PySem.W.cmp_K (op := .Eq) (tb := .type kk.nm) hr.r.units0 hF I.ok.mod.kin J (KX.ty _ _ I.kIn hP) (kd_nf kk) M.at_ M.fn ?_
  have hsp' : sp3 X.K T ps.length sem [.ref a, y] H Q E0 := by rw [h2]; exact hsp
  have hl : [Value.ref a, u].length = ps.length := by rw [h2]; rfl
  refine wpAny_call (codeAny_mono (F.go X.A X.stack s H ⟨[.ref a, u], []⟩ [.ref a, u] [.ref a, y] Q E0 hr I.env0 (by
    have := hb s [.ref a, u] I.kIn (by simpa using hl)
    simpa using this) (.cons rfl (.cons ry .nil)) hsp') fun r s' e => ?_)
  match r, e with
  | .error er, e => exact False.elim ((passL : Passes (L2.CX X.prog X.w) X.nox E0) pins σ H _ er s' (I.wish _) e)
  | .ok (.ret w), e =>
    obtain ⟨z, H', I', rz, q3⟩ := I.after e
    cases w with
    | notImplemented => cases z <;> first | (cases rz; done) | exact (show False from by simp [RelV] at rz)
    | _ => exact ⟨z, H', I', rz, q3⟩
  | .ok .next, e => exact e.elim
  | .ok .brk, e => exact e.elim
  | .ok .cont, e => exact e.elim
def eqV (c : Nat) (sem : Sem3) : F2 := fun x y h => if clsOf h x = some c ∧ (kdOf h y).isSome = true then noX (sem [x, y] h) else eqO c sem x y h
theorem os_eqV {c : Nat} {C : Addr} {sem : Sem3} (hcl : ∃ nm, T.cls c = some (C, nm)) : OpS X T (fun x y H Q => rEqK X.K T C sem x y H Q ∨ rEqO X.K T C sem x y H Q) (eqV c sem) := by
  intro W G h H σ x y v w Q r d1 d2 o
  unfold eqV at o
  by_cases hc : clsOf h x = some c ∧ (kdOf h y).isSome = true
  · rw [if_pos hc] at o
    obtain ⟨nm, hcl⟩ := hcl
    obtain ⟨a, C', dx, nm', fs, rfl, q1, q2, _⟩ := clsOf_ok r d1 hc.1
    rw [hcl] at q2; cases q2
    obtain ⟨k, ek⟩ := Option.isSome_iff_exists.mp hc.2
    refine .inl ⟨a, dx, fs, k, rfl, q1, kd_ok r d2 ek, rfl, G, h, [x, y], r, .cons d1 (.cons d2 .nil), ?_⟩
    cases es : sem [x, y] h with
    | ok z hh => rw [es] at o; exact o
    | exc c es' hh => rw [es] at o; exact o.elim
    | stk => rw [es] at o; exact o.elim
  · rw [if_neg hc] at o
    exact .inr (os_eqO hcl _ _ _ _ _ _ _ _ _ _ r d1 d2 o)
end
end L3
set_option autoImplicit false
set_option maxHeartbeats 4000000
namespace L3
open PySem PySem.Spec L2 PySem.W PyProof.Rows
section
variable {X : Cx}
end
structure ScAt (K : PySem.W.Frag) (T : Tx) (w : World) (G1 : Gst) (p : Addr) (G : Gst) (acc : List Int) (h : Hh) (H : Hp) : Prop where
  ι : ∃ t, G.ι = G1.ι ++ t
  fz : ∀ a o, G1.fz a = some o → G.fz a = some o
  lk : G.lk = G1.lk
  pr : ∃ S n, G.pr = upd G1.pr p (SetO w p S n) ∧ (∀ k, S k = true ↔ k ∈ acc) ∧ n ≤ acc.length
  rel : Rel K T G h H
theorem ScAt.step {K : PySem.W.Frag} {T : Tx} {w : World} {G1 G G' : Gst} {p : Addr} {acc : List Int} {h h' : Hh} {H H' : Hp} (l : ScAt K T w G1 p G acc h H) (x : Ext G G') (r : Rel K T G' h' H') : ScAt K T w G1 p G' acc h' H' := by
  obtain ⟨t, e⟩ := l.ι
  obtain ⟨u, e'⟩ := x.ι
  exact ⟨⟨t ++ u, by rw [e', e, List.append_assoc]⟩, fun a o q => x.fz a o (l.fz a o q), x.lk.trans l.lk, by rw [x.pr]; exact l.pr, r⟩
section
variable {X : Cx} {T : Tx} {W : WX} {pos : Pos}
end
end L3
set_option autoImplicit false
set_option maxHeartbeats 4000000
namespace L3
open PySem PySem.Spec L2 PySem.W PyProof.Rows
section
variable {X : Cx} {T : Tx} {W : WX} {pos : Pos}
end
section
variable {X : Cx} {T : Tx} {W : WX} {pos : Pos}
end
end L3
set_option autoImplicit false
set_option maxHeartbeats 4000000
namespace L3
open PySem PySem.Spec L2 PyProof.Rows
open He (ga)
abbrev sOf (x : List Nat) : Str := ⟨x.toArray⟩
def tabF : Fl → Option (Str × List Str)
  | .kd x kvs => some (x, kvs.map fun q => sOf q.1)
  | _ => none
def tabs (fl : List Fl) : List (Str × List Str) := fl.filterMap tabF
abbrev AlLT : Type := AlL × List (Option (List (Option (Str × Int))))
def obsLT (fl : List Fl) (fn : List DefL) (K : PySem.W.Frag) : AlLT := (obsL fl fn K, (tabs fl).map fun t => He.dicW K (ga K t.1))
def valLT (fl : List Fl) (fn : List DefL) (w : World) : AlLT := (valL fn, (tabs fl).map fun t => some (He.keysIn w.params t.2))
def Tb (fl : List Fl) (w : World) (K : PySem.W.Frag) : Prop := ∀ x kvs, Fl.kd x kvs ∈ fl → He.dicW K (ga K x) = some (He.keysIn w.params (kvs.map fun q => sOf q.1))
def SaysLT (fl : List Fl) (fn : List DefL) (w : World) (K : PySem.W.Frag) : Prop := obsLT fl fn K = valLT fl fn w
theorem SaysLT.l {fl : List Fl} {fn : List DefL} {w : World} {K : PySem.W.Frag} (c : SaysLT fl fn w K) : SaysL fl fn K := congrArg (fun z : AlLT => z.1) c
theorem map_same {α β : Type} {f g : α → β} : ∀ {l : List α}, l.map f = l.map g → ∀ x ∈ l, f x = g x
  | y :: l, e, x, m => by
    injection e with e1 e2
    rcases List.mem_cons.mp m with rfl | m
    · exact e1
    · exact map_same e2 x m
theorem SaysLT.tb {fl : List Fl} {fn : List DefL} {w : World} {K : PySem.W.Frag} (c : SaysLT fl fn w K) : Tb fl w K := fun x kvs m => by
  have e : ((tabs fl).map fun t => He.dicW K (ga K t.1)) = (tabs fl).map fun t => some (He.keysIn w.params t.2) := congrArg (fun z : AlLT => z.2) c
  exact map_same e (x, kvs.map fun q => sOf q.1) (List.mem_filterMap.mpr ⟨_, m, rfl⟩)
structure KdC (w : World) (K : PySem.W.Frag) (a : Addr) (kvs : List (List Nat × D)) : Prop where
  d : ∃ es n, KDict K w a es n
  has : ∀ z d, kvs.lookup z = some d → ∃ u v, PySem.W.nsIn K a (sOf z) = some (some u) ∧ RelV v u ∧ ∀ T, Cst K T d v
  no : ∀ z, kvs.lookup z = none → PySem.W.nsIn K a (sOf z) = some none
theorem look_mem {β : Type} {z : List Nat} {d : β} : ∀ {l : List (List Nat × β)}, l.lookup z = some d → (z, d) ∈ l
  | (k, v) :: l, e => by
    rw [List.lookup_cons] at e
    cases q : z == k with
    | true =>
      rw [q] at e
      have := beq_iff_eq.mp q
      subst this
      cases e
      exact List.mem_cons_self
    | false =>
      rw [q] at e
      exact List.mem_cons_of_mem _ (look_mem e)
theorem look_no {β : Type} {z : List Nat} : ∀ {l : List (List Nat × β)}, l.lookup z = none → ∀ q ∈ l, q.1 ≠ z
  | (k, v) :: l, e, q, m => by
    rw [List.lookup_cons] at e
    cases h : z == k with
    | true => rw [h] at e; cases e
    | false =>
      rw [h] at e
      rcases List.mem_cons.mp m with rfl | m
      · intro c; rw [← c] at h; simp at h
      · exact look_no e q m
theorem keys_no {P : Params} {z : Str} : ∀ {l : List DictEntry} {ks : List Str}, l.map He.keyOf = He.keysIn P ks → z ∉ ks → l.find? (·.key.isStr z) = none ∧ l.any (·.refKey) = false
  | [], _, _, _ => ⟨rfl, rfl⟩
  | e :: r, [], h, _ => by cases h
  | e :: r, k :: ks, h, hz => by
    have h1 : He.keyOf e :: r.map He.keyOf = some (k, PyData.keyHash P k) :: He.keysIn P ks := h
    injection h1 with h2 h3
    obtain ⟨i1, i2⟩ := keys_no h3 fun m => hz (List.mem_cons_of_mem _ m)
    unfold He.keyOf at h2
    split at h2
    · rename_i x t q
      obtain ⟨h5, _⟩ := Prod.mk.inj (Option.some.inj h2)
      have ne : x ≠ z := fun c => hz (by rw [← c, h5]; exact List.mem_cons_self)
      constructor
      · rw [List.find?_cons, q]
        have : (Value.str x t).isStr z = false := by simp [Value.isStr, ne]
        rw [this]
        exact i1
      · rw [List.any_cons, i2]
        simp [DictEntry.refKey, q]
    · cases h2
theorem Bs.kd {fl : List Fl} {fn : List DefL} {K : PySem.W.Frag} {mg : Str → Option Value} {w : World} (B : Bs fl fn K mg) (hT : Tb fl w K) (i : Nat) {x : Str} {kvs : List (List Nat × D)} (h : fl[i]? = some (.kd x kvs) := by rfl) : KdC w K (ga K x) kvs := by
  have e := hT x kvs (List.mem_of_getElem? h)
  have ok := B.c.fact i h
  refine ⟨He.dicW_ok e, fun z d l => ?_, fun z l => ?_⟩
  · have m := look_mem l
    have k := List.all_eq_true.mp (show (kvs.all fun q => (match PySem.W.nsIn K (ga K x) ⟨q.1.toArray⟩ with
      | some (some u) => cstB K q.2 u
      | _ => false)) = true from ok) _ m
    dsimp only at k
    cases q : PySem.W.nsIn K (ga K x) ⟨z.toArray⟩ with
    | none => rw [q] at k; cases k
    | some o =>
      cases o with
      | none => rw [q] at k; cases k
      | some u =>
        rw [q] at k
        obtain ⟨v, r, c⟩ := cstB_ok d u k
        exact ⟨u, v, rfl, r, c⟩
  · obtain ⟨es, n, D⟩ := He.dicW_ok e
    have nz : sOf z ∉ kvs.map fun q => sOf q.1 := fun m => by
      obtain ⟨q, mq, eq⟩ := List.mem_map.mp m
      refine look_no l q mq ?_
      injection eq with e1
      simpa using congrArg Array.toList e1
    have e2 : es.toList.map He.keyOf = He.keysIn w.params (kvs.map fun q => sOf q.1) := by
      unfold He.dicW at e
      rw [D.at_] at e
      dsimp only at e
      split at e
      · exact Option.some.inj e
      · cases e
    obtain ⟨k1, k2⟩ := keys_no e2 nz
    unfold PySem.W.nsIn
    rw [D.at_]
    dsimp only
    rw [k1, k2]
    rfl
section
variable {X : Cx} {T : Tx} {W : WX} {pos : Pos}
end
abbrev Mst : Type := PySem.W.SharedT × Thread
def goK (st : PySem.W.SharedT → Thread → Option Mst) (n0 : Nat) (ann : Option Value) : Nat → PySem.W.SharedT → Thread → Option Mst
  | 0, s, t => some (s, t)
  | m + 1, s, t => match PySem.W.through t with
    | true => none
    | false => match PySem.W.stepOk n0 ann t with
      | false => none
      | true => match st s t with
        | some (s', t') => HandSHeadRun.frS s' fun s' => goK st n0 ann m s' t'
        | none => none
noncomputable def segO (st : PySem.W.SharedT → Thread → Option Mst) (p : Program) (w : World) (os : OsState) (n0 k : Nat) : Option Mst := match HandSHeadRun.putAll (PySem.W.boot_heap w.params).objs.toList .nil 0 with
  | some (t, _) => goK st n0 (HandSHeadRun.bootAnn w) k (HandSHeadRun.bootT w os (t, n0)) (PySem.W.topStub p)
  | none => none
def skT (f : Nat → Obj) (n : Nat) : Nat → Nat → Nat → PySem.W.BT
  | 0, _, _ => .nil
  | k + 1, a, d => HandSHeadRun.frNat a fun a => HandSHeadRun.frNat d fun d => match Nat.blt a n with
    | true => .node (f a) (skT f n k (a + d) (2 * d)) (skT f n k (a + 2 * d) (2 * d))
    | false => .nil
noncomputable def segS (f : Nat → Obj) (n toks : Nat) (w : World) (os : OsState) : PySem.W.SharedT := ⟨skT f n 14 0 1, n, (PySem.W.boot_heap w.params).life, #[], PySem.W.boot_drawn, toks, os⟩
end L3
set_option autoImplicit false
set_option maxHeartbeats 4000000
namespace L3
open PySem PySem.Spec L2 PyProof.Rows
section
variable {X : Cx} {T : Tx} {W : WX} {o e f : Expr} {apos cpos : Pos} {fo fe ff : FnE}
end
end L3
set_option autoImplicit false
set_option maxHeartbeats 4000000
namespace L3
open PySem PySem.Spec L2 PyProof.Rows
section
variable {X : Cx} {T : Tx} {W : WX}
inductive PdR (K : PySem.W.Frag) (T : Tx) (G : Gst) : List (D × D) → List (Key × V) → Prop where
  | nil : PdR K T G [] []
  | cons {k v : D} {w : V} {ps : List (D × D)} {kvs : List (Key × V)} : isKey k = true → RD K T G v w → PdR K T G ps kvs → PdR K T G ((k, v) :: ps) ((keyOf k, w) :: kvs)
end
end L3
set_option autoImplicit false
set_option maxHeartbeats 4000000
namespace L3
open PySem PySem.Spec L2 PyProof.Rows
section
variable {X : Cx} {T : Tx} {W : WX}
end
end L3
set_option autoImplicit false
set_option maxHeartbeats 4000000
namespace L3
open PySem PySem.Spec L2 PyProof.Rows
theorem RO.move {K : PySem.W.Frag} {T : Tx} {G G' : Gst} {H H' : Hp} {n : Nat} {o : O} (r : RO K T G H n o) (xv : ExtV G G') (ho : ∀ b, G.own b = some n → G'.own b = some n) (hc : ∀ b, G'.own b = some n → G.own b = some n) (hb : ∀ b, G.own b = some n → H' b = H b)
    (hl : ∀ b u, G.lk b = some (n, u) → G'.lk b = some (n, u)) : RO K T G' H' n o := by
  have hi : ∀ a, G.ι[n]? = some a → G'.ι[n]? = some a := fun a e => by
    obtain ⟨t, q⟩ := xv.ι
    rw [q, List.getElem?_append_left (List.getElem?_eq_some_iff.mp e).1]; exact e
  cases o with
  | lst ds => obtain ⟨a, vs, e1, e2, e3, e4⟩ := r; exact ⟨a, vs, hi _ e1, ho _ e2, by rw [hb _ e2]; exact e3, RDs.monoV xv e4⟩
  | dic ks vs => obtain ⟨a, kvs, e1, e2, e3, e4, e5⟩ := r; exact ⟨a, kvs, hi _ e1, ho _ e2, by rw [hb _ e2]; exact e3, RDs.monoV xv e4, RDs.monoV xv e5⟩
  | dicL ks vs => obtain ⟨a, od, kvs, e1, e2, e4, e5⟩ := r; exact ⟨a, od, kvs, hi _ e1, hl _ _ e2, RDs.monoV xv e4, RDs.monoV xv e5⟩
  | dit ks vs => obtain ⟨a, kvs, e1, e2, e3, e4, e5⟩ := r; exact ⟨a, kvs, hi _ e1, ho _ e2, by rw [hb _ e2]; exact e3, e4, RDs.monoV xv e5⟩
  | dkn ks vs => obtain ⟨a, xs, e1, e2, e3, e4, e5, e6⟩ := r; exact ⟨a, xs, hi _ e1, ho _ e2, by rw [hb _ e2]; exact e3, e4, RDs.monoV xv e5, RDs.monoV xv e6⟩
  | obj c ds => obtain ⟨a, C, dx, nm, fs, e1, e2, e3, e4, e5, e6⟩ := r; exact ⟨a, C, dx, nm, fs, hi _ e1, ho _ e2, by rw [hb _ e2]; exact e3, e4, e5, RDs.monoV xv e6⟩
  | src s =>
    obtain ⟨a, e1, e2⟩ := r
    refine ⟨a, hi _ e1, ?_⟩
    have e : (fun b => G'.own b = some n) = (fun b => G.own b = some n) := funext fun b => propext ⟨hc b, ho b⟩
    rw [e]
    exact T.srcStay _ _ _ _ _ e2 hb
  | dead => trivial
  | err c ds => obtain ⟨a, cls, dd, e1, e2, e3⟩ := r; exact ⟨a, cls, dd, hi _ e1, e2, RX.monoV xv e3⟩
  | tab q => obtain ⟨a, ps, e1, e2, e3, e4, e5⟩ := r; exact ⟨a, ps, hi _ e1, ho _ e2, by rw [hb _ e2]; exact e3, e4, e5.monoV xv.fz⟩
  | lam q cap => obtain ⟨a, c, e1, e2, e3, e4⟩ := r; exact ⟨a, c, hi _ e1, e2, xv.fz _ _ e3, e4.monoV xv⟩
  | dkL ks vs => obtain ⟨a, od, xs, e1, e2, e4, e5, e6⟩ := r; exact ⟨a, od, xs, hi _ e1, hl _ _ e2, e4, RDs.monoV xv e5, RDs.monoV xv e6⟩
  | itr ds i => obtain ⟨a, l, vs, e1, e2, e3, e4, e5⟩ := r; exact ⟨a, l, vs, hi _ e1, ho _ e2, by rw [hb _ e2]; exact e3, SqT.sub xv.fz e4, RDs.monoV xv e5⟩
def Gst.lock (G : Gst) (a : Addr) (n : Nat) (u : HO) : Gst := { G with own := fun b => if b = a then none else G.own b, lk := fun b => if b = a then some (n, u) else G.lk b }
def Gst.unlock (G : Gst) (a : Addr) (n : Nat) (l : Addr → Option (Nat × HO)) : Gst := { G with own := fun b => if b = a then some n else G.own b, lk := l }
section
variable {K : PySem.W.Frag} {T : Tx} {G : Gst} {h : Hh} {H : Hp}
theorem Gst.lock_v {a : Addr} {n : Nat} {u : HO} : ExtV G (G.lock a n u) := ⟨⟨[], (List.append_nil _).symm⟩, fun _ _ z => z⟩
theorem Rel.lockG (r : Rel K T G h H) {n : Nat} {a : Addr} {u : HO} {od : Obj} {o' : O} (hn : n < h.length) (ho : G.own a = some n) (new : RO K T (G.lock a n (.frz od u)) (upd H a (.frz od u)) n o') :
    Rel K T (G.lock a n (.frz od u)) (h.set n o') (upd H a (.frz od u)) := by
  obtain ⟨_, f0, _⟩ := r.own a n ho
  have l0 : G.lk a = none := by
    cases e : G.lk a with
    | none => rfl
    | some u => have := (r.lk a u e).2.2; rw [ho] at this; cases this
  refine ⟨by rw [List.length_set]; exact r.len, fun b o q => ?_, fun b m q => ?_, fun b o q => ?_, fun b o q => ?_, fun m o q => ?_⟩
  · have nb : b ≠ a := fun y => by have q' : G.fz b = some o := q; rw [y, f0] at q'; cases q'
    rw [upd_ne nb]; exact r.sub b o q
  · have q' : (if b = a then none else G.own b) = some m := q
    by_cases hb : b = a
    · rw [if_pos hb] at q'; cases q'
    · rw [if_neg hb] at q'
      obtain ⟨h1, h2, h3⟩ := r.own b m q'
      exact ⟨by simpa using h1, h2, by rw [upd_ne hb]; exact h3⟩
  · obtain ⟨h1, h2, h3, h4⟩ := r.pr b o q
    have nb : b ≠ a := fun y => by rw [y, ho] at h3; cases h3
    exact ⟨by rw [upd_ne nb]; exact h1, h2, by show (if b = a then none else G.own b) = none; rw [if_neg nb]; exact h3, by show (if b = a then _ else G.lk b) = none; rw [if_neg nb]; exact h4⟩
  · have q' : (if b = a then some (n, HO.frz od u) else G.lk b) = some o := q
    by_cases hb : b = a
    · rw [if_pos hb] at q'
      cases q'
      subst hb
      exact ⟨upd_same, f0, by show (if b = b then none else G.own b) = none; rw [if_pos rfl]⟩
    · rw [if_neg hb] at q'
      obtain ⟨h1, h2, h3⟩ := r.lk b o q'
      exact ⟨by rw [upd_ne hb]; exact h1, h2, by show (if b = a then none else G.own b) = none; rw [if_neg hb]; exact h3⟩
  · by_cases hm : m = n
    · subst hm
      rw [List.getElem?_set_self hn] at q
      cases q
      exact new
    · rw [List.getElem?_set_ne (Ne.symm hm)] at q
      have keep : ∀ b, G.own b = some m → b ≠ a := fun b w y => by rw [y, ho] at w; cases w; exact hm rfl
      refine (r.obj m o q).move Gst.lock_v (fun b w => ?_) (fun b w => ?_) (fun b w => upd_ne (keep b w)) fun b u w => ?_
      · show (if b = a then none else G.own b) = some m
        rw [if_neg (keep b w)]; exact w
      · have w' : (if b = a then none else G.own b) = some m := w
        by_cases hb : b = a
        · rw [if_pos hb] at w'; cases w'
        · rw [if_neg hb] at w'; exact w'
      · show (if b = a then _ else G.lk b) = _
        rw [if_neg (fun y => by rw [y, l0] at w; cases w)]; exact w
theorem Rel.lock (r : Rel K T G h H) {n : Nat} {a : Addr} {ks vs : List D} {kvs : List (Key × V)} {od : Obj} (z : h[n]? = some (.dic ks vs)) (hi : G.ι[n]? = some a) (ho : G.own a = some n) (hH : H a = some (.dK kvs))
    (k : RDs K T G ks (kvs.map fun p => kV p.1)) (v : RDs K T G vs (kvs.map (·.2))) : Rel K T (G.lock a n (.frz od (.dK kvs))) (h.set n (.dicL ks vs)) (upd H a (.frz od (.dK kvs))) :=
  r.lockG (List.getElem?_eq_some_iff.mp z).1 ho ⟨a, od, kvs, hi, by show (if a = a then _ else G.lk a) = _; rw [if_pos rfl], RDs.monoV Gst.lock_v k, RDs.monoV Gst.lock_v v⟩
theorem Rel.unlockG (r : Rel K T G h H) {n : Nat} {a : Addr} {u : HO} {od : Obj} {o' : O} {l0 : Addr → Option (Nat × HO)} (hn : n < h.length) (hl : G.lk = fun b => if b = a then some (n, .frz od u) else l0 b) (h0 : l0 a = none)
    (new : RO K T (G.unlock a n l0) (upd H a u) n o') : H a = some (.frz od u) ∧ Rel K T (G.unlock a n l0) (h.set n o') (upd H a u) := by
  have la : G.lk a = some (n, .frz od u) := by rw [hl]; exact if_pos rfl
  have lb : ∀ b, b ≠ a → G.lk b = l0 b := fun b nb => by rw [hl]; exact if_neg nb
  obtain ⟨a1, a2, a3⟩ := r.lk a _ la
  have xv : ExtV G (G.unlock a n l0) := ⟨⟨[], (List.append_nil _).symm⟩, fun _ _ z => z⟩
  refine ⟨a1, by rw [List.length_set]; exact r.len, fun b o q => ?_, fun b m q => ?_, fun b o q => ?_, fun b o q => ?_, fun m o q => ?_⟩
  · have nb : b ≠ a := fun y => by have q' : G.fz b = some o := q; rw [y, a2] at q'; cases q'
    rw [upd_ne nb]; exact r.sub b o q
  · have q' : (if b = a then some n else G.own b) = some m := q
    by_cases hb : b = a
    · rw [if_pos hb] at q'
      cases q'
      subst hb
      exact ⟨by simpa using hn, a2, by rw [upd_same]; simp⟩
    · rw [if_neg hb] at q'
      obtain ⟨h1, h2, h3⟩ := r.own b m q'
      exact ⟨by simpa using h1, h2, by rw [upd_ne hb]; exact h3⟩
  · obtain ⟨h1, h2, h3, h4⟩ := r.pr b o q
    have nb : b ≠ a := fun y => by rw [y, la] at h4; cases h4
    exact ⟨by rw [upd_ne nb]; exact h1, h2, by show (if b = a then some n else G.own b) = none; rw [if_neg nb]; exact h3, by rw [lb b nb] at h4; exact h4⟩
  · have q' : l0 b = some o := q
    have nb : b ≠ a := fun y => by rw [y, h0] at q'; cases q'
    obtain ⟨h1, h2, h3⟩ := r.lk b o (by rw [lb b nb]; exact q')
    exact ⟨by rw [upd_ne nb]; exact h1, h2, by show (if b = a then some n else G.own b) = none; rw [if_neg nb]; exact h3⟩
  · by_cases hm : m = n
    · subst hm
      rw [List.getElem?_set_self hn] at q
      cases q
      exact new
    · rw [List.getElem?_set_ne (Ne.symm hm)] at q
      have keep : ∀ b, G.own b = some m → b ≠ a := fun b w y => by rw [y, a3] at w; cases w
      refine (r.obj m o q).move xv (fun b w => ?_) (fun b w => ?_) (fun b w => upd_ne (keep b w)) fun b u w => ?_
      · show (if b = a then some n else G.own b) = some m
        rw [if_neg (keep b w)]; exact w
      · have w' : (if b = a then some n else G.own b) = some m := w
        by_cases hb : b = a
        · rw [if_pos hb] at w'; cases w'; exact absurd rfl hm
        · rw [if_neg hb] at w'; exact w'
      · have nb : b ≠ a := fun y => by rw [y, la] at w; cases w; exact hm rfl
        show l0 b = _
        rw [← lb b nb]; exact w
theorem Rel.unlock (r : Rel K T G h H) {n : Nat} {a : Addr} {ks vs : List D} {kvs : List (Key × V)} {od : Obj} {l0 : Addr → Option (Nat × HO)} (z : h[n]? = some (.dicL ks vs)) (hl : G.lk = fun b => if b = a then some (n, .frz od (.dK kvs)) else l0 b) (h0 : l0 a = none) (hi : G.ι[n]? = some a) :
    H a = some (.frz od (.dK kvs)) ∧ Rel K T (G.unlock a n l0) (h.set n (.dic ks vs)) (upd H a (.dK kvs)) := by
  have la : G.lk a = some (n, .frz od (.dK kvs)) := by rw [hl]; exact if_pos rfl
  have xv : ExtV G (G.unlock a n l0) := ⟨⟨[], (List.append_nil _).symm⟩, fun _ _ z => z⟩
  obtain ⟨a', od', kvs', e1, e2, e4, e5⟩ := r.obj n _ z
  rw [hi] at e1; cases e1
  rw [la] at e2; cases e2
  exact r.unlockG (List.getElem?_eq_some_iff.mp z).1 hl h0 ⟨a, kvs, hi, by show (if a = a then some n else G.own a) = _; rw [if_pos rfl], upd_same, RDs.monoV xv e4, RDs.monoV xv e5⟩
end
def unlD (n : Nat) (h : Hh) : Option Hh := match h[n]? with
  | some (.dicL ks vs) => some (h.set n (.dic ks vs))
  | _ => none
section
variable {X : Cx} {T : Tx} {W : WX} {pos : Pos}
theorem PE.or {e : Expr} {t t' : TE} (h : PE X e t) (h' : PE X e t') : PE X e (fun σ H Q => t σ H Q ∨ t' σ H Q) := ⟨fun pins s σ H Q I z => z.elim (h.run pins s σ H Q I) (h'.run pins s σ H Q I)⟩
theorem PS.or {e : Stmt} {t t' : TS} (h : PS X e t) (h' : PS X e t') : PS X e (fun D σ H => t D σ H ∨ t' D σ H) := ⟨fun pins s σ H D I z => z.elim (h.run pins s σ H D I) (h'.run pins s σ H D I)⟩
def kKey (x : D) (h1 : Hh) : R (List D) := match x with
  | .ref n => match h1[n]? with
    | some (.dicL ks _) => .ok ks h1
    | _ => .stk
  | .tup ds => .ok ds h1
  | .lst ds => .ok ds h1
  | .scr ds => .ok ds h1
  | .str z => .ok (z.map fun c => .str [c]) h1
  | _ => .stk
def iKey (f : FnE) : FnI := fun δ h => (f δ h).bind kKey
end
end L3
set_option autoImplicit false
set_option maxHeartbeats 4000000
namespace L3
open PySem PySem.Spec L2 PyProof.Rows
structure DcAt (K : PySem.W.Frag) (T : Tx) (G1 : Gst) (p : Addr) (G : Gst) (ks vs : List D) (h : Hh) (H : Hp) : Prop where
  ι : ∃ t, G.ι = G1.ι ++ t
  fz : ∀ a o, G1.fz a = some o → G.fz a = some o
  lk : G.lk = G1.lk
  pr : ∃ kvs : List (Key × V), G.pr = upd G1.pr p (.dK kvs) ∧ RDs K T G ks (kvs.map fun p => kV p.1) ∧ RDs K T G vs (kvs.map (·.2))
  rel : Rel K T G h H
theorem DcAt.step {K : PySem.W.Frag} {T : Tx} {G1 G G' : Gst} {p : Addr} {ks vs : List D} {h h' : Hh} {H H' : Hp} (l : DcAt K T G1 p G ks vs h H) (x : Ext G G') (r : Rel K T G' h' H') : DcAt K T G1 p G' ks vs h' H' := by
  obtain ⟨t, e⟩ := l.ι
  obtain ⟨u, e'⟩ := x.ι
  obtain ⟨avs, e2, d, d'⟩ := l.pr
  exact ⟨⟨t ++ u, by rw [e', e, List.append_assoc]⟩, fun a o q => x.fz a o (l.fz a o q), x.lk.trans l.lk, ⟨avs, x.pr.trans e2, d.mono x, d'.mono x⟩, r⟩
section
variable {X : Cx} {T : Tx} {W : WX} {pos : Pos}
end
end L3
set_option autoImplicit false
set_option maxHeartbeats 4000000
namespace L3
open PySem PySem.Spec L2 PyProof.Rows
section
variable {X : Cx} {T : Tx} {W : WX} {pos : Pos}
end
end L3
set_option autoImplicit false
set_option maxHeartbeats 4000000
namespace L3E
open PySem
set_option maxHeartbeats 1000000 in
section
variable {prog : Program} {w : World} {A : Around} {E : Value → Shared → Prop} {s : Shared}
end
end L3E
namespace L3
open PySem PySem.Spec L2 PyProof.Rows
section
variable {X : Cx} {T : Tx} {W : WX} {pos : Pos}
def kEnumX (ds : List D) (h : Hh) : R (List D) := match ds with
  | [x] => match immS x with
    | some (_, xs) => .ok (enumL 0 xs) h
    | none => .stk
  | _ => .stk
def iEnumA (fa : FnA) : FnI := fun δ h => (fa δ h).bind kEnumX
end
end L3
set_option autoImplicit false
set_option maxHeartbeats 4000000
namespace L3
open PySem PySem.Spec L2 PyProof.Rows
inductive Cw where
  | un (c : Value) (w : Addr → Value → Option Addr → TS)
  | nm (c : Value) (i : Nat) (w : Addr → Value → Option Addr → TS)
  | stop
abbrev bareE (D : Ends) (i : Nat) : Ends := { nx := fun σ1 H1 => D.nx (σ1.set i none) H1, rt := D.rt, bk := fun σ1 H1 => D.bk (σ1.set i none) H1, ct := fun σ1 H1 => D.ct (σ1.set i none) H1 }
def wAll (K : PySem.W.Frag) (Wo : WX) (D : Ends) : List Cw → WX
  | [] => Wo
  | .un c w :: r => fun cl dd σ H => ∃ b, PySem.W.exmOne K cl c = some b ∧ (b = true → ∀ a, H a = none → w a cl dd D σ H) ∧ (b = false → wAll K Wo D r cl dd σ H)
  | .nm c i w :: r => fun cl dd σ H => ∃ b, PySem.W.exmOne K cl c = some b ∧ (b = true → ∀ a, H a = none → w a cl dd (bareE D i) (σ.set i (some (.ref a))) H) ∧ (b = false → wAll K Wo D r cl dd σ H)
  | .stop :: _ => fun _ _ _ _ => False
inductive ClsOk (X : Cx) : List ExceptHandler → List Cw → Prop
  | nil : ClsOk X [] []
  | un {x : Str} {c : Value} {w : Addr → Value → Option Addr → TS} {t₀ : Stmt} {ts : List Stmt} {q q' : Pos} {r : List ExceptHandler} {l : List Cw} (hn : Names X x c)
      (hw : ∀ (a : Addr) (ob : Obj) (cl : Value) (dd : Option Addr) (pn : List (Addr × Obj)), Zc cl dd ob → (∃ vs, ob.data = .fields vs) → PSs (X.suite a ((a, ob) :: pn)) (t₀ :: ts) (w a cl dd)) (hr : ClsOk X r l) :
      ClsOk X (.ExceptHandler (some (.Name x q)) none (t₀ :: ts) q' :: r) (.un c w :: l)
  | nm {x n : Str} {i : Nat} {c : Value} {w : Addr → Value → Option Addr → TS} {t₀ : Stmt} {ts : List Stmt} {q q' : Pos} {r : List ExceptHandler} {l : List Cw} (hn : Names X x c) (hi : X.N[i]? = some n) (hk : X.env.kindOf n = some .local)
      (hw : ∀ (a : Addr) (ob : Obj) (cl : Value) (dd : Option Addr) (pn : List (Addr × Obj)), Zc cl dd ob → (∃ vs, ob.data = .fields vs) → PSs (X.suite a ((a, ob) :: pn)) (t₀ :: ts) (w a cl dd)) (hr : ClsOk X r l) :
      ClsOk X (.ExceptHandler (some (.Name x q)) (some n) (t₀ :: ts) q' :: r) (.nm c i w :: l)
  | stop {h : ExceptHandler} {r : List ExceptHandler} : ClsOk X (h :: r) [.stop]
section
variable {X : Cx} {body : List Stmt} {h₀ : ExceptHandler} {hds : List ExceptHandler} {l : List Cw} {pos : Pos} {tb : WX → TS} {Wo : WX}
theorem ps_try_all (hs : X.stack = X.env :: X.outer) (hf : X.env.frame = some X.env.locals) (hN : X.N.Nodup) (tk : Takes X Wo)
    (hb : ∀ (W : WX) (pn : List (Addr × Obj)) (xe : Value → Shared → Prop), Takes (X.tr pn xe) W → PSs (X.tr pn xe) body (tb W))
    (hh : ClsOk X (h₀ :: hds) l) : PS X (.Try body (h₀ :: hds) [] [] pos) (fun D σ H => tb (wAll X.K Wo D l) D σ H) := by
  refine ⟨fun pins s σ H D I0 z0 => ?_⟩
  have okX := I0.ok
  have frX : X.A.frames = some (X.env :: X.outer) := by rw [okX.frames, hs]
  refine wpAny_Try_except ?_
  refine wpAny_mono ((hb (wAll X.K Wo D l) (X.pn ++ pins) (fun e t1 => wpAny (model X.prog X.w) X.A (noteFrame e X.env) (fun _ t2 => wpAny (model X.prog X.w) X.A (setFlight e none) (fun _ t3 => wpAny (model X.prog X.w) X.A (handleBy e X.env (h₀ :: hds)) (SP X pins D) X.xe t3) X.xe t2) X.xe t1)
    (fun u t' xx => ?_)).run [] s σ H D (I0.toTry _) z0) (fun f t1 sp => ?_) (fun e t1 z => z)
  · obtain ⟨a, B, sJ, pins1, σ1, H1, cl, dd, rfl, J1, nb, up1, sky1, na, os, ag, wa⟩ := xx
    have J : Inv X pins σ1 H1 sJ := J1.ofTry okX
    have sky2 : Sky B (X.env :: X.outer) a (Zc cl dd) X.env.locals t'.heap := by rw [← hs]; exact sky1
    show wpAny (model X.prog X.w) X.A (noteFrame (.ref a) X.env) _ _ _
    refine Sky.land Zc.steady frX hf sky2 fun g3 fly3 up3 => ?_
    have J3 : Inv X pins σ1 H1 { t' with heap := g3 } := J.landed nb fly3.1 (up1.trans up3) os ag
    obtain ⟨ob3, us3, at3, zc3, da3⟩ := fly3.there
    have nfr : a ∉ frs (X.env :: X.outer) := fun hm => by
      obtain ⟨_, o1, e1, no1⟩ := fly3.2.2.1.mem hm
      rw [at3] at e1; cases e1
      exact no1 _ da3
    have nL : a ≠ X.env.locals := fun z => nfr (List.mem_filterMap.mpr ⟨X.env, List.mem_cons_self, by rw [hf, z]⟩)
    have nF : a ∉ X.fs := fun hm => by
      obtain ⟨e, he, q⟩ := List.mem_filterMap.mp hm
      exact nfr (List.mem_filterMap.mpr ⟨e, List.mem_cons_of_mem _ he, q⟩)
    have S3 := J3.suite at3 da3 na nL nF
    have ty3 : PySem.W.Looks (model X.prog X.w) g3 (typeOf (.ref a)) cl := fun A Q E s k q => wpAny_typeOf_ref (k _ _ at3) (by rw [zc3.1]; exact q)
    have ask : ∀ {x : Str} {c : Value} {q : Pos} {Q : Value → Shared → Prop} {E : Value → Shared → Prop}, Names X x c → Q c { t' with heap := g3 } → wpAny (model X.prog X.w) (X.A.mark (some (.ref a))) (eval (.Name x q) X.env) Q E { t' with heap := g3 } := fun {x c q Q E} hc k => by
      obtain ⟨hg, hdbg, hm | ⟨hm, hv, hnn⟩⟩ := hc
      · exact ld_glob (X := X.suite a ((a, ob3) :: (X.pn ++ pins))) S3 hg hm k hdbg
      · exact ld_blt (X := X.suite a ((a, ob3) :: (X.pn ++ pins))) S3 hg hm hv k hnn hdbg
    have go : ∀ {hds1 : List ExceptHandler} {l1 : List Cw}, ClsOk X hds1 l1 → wAll X.K Wo D l1 cl dd σ1 H1 → wpAny (model X.prog X.w) X.A (handleBy (.ref a) X.env hds1) (SP X pins D) X.xe { t' with heap := g3 } := by
      intro hds1 l1 hk
      induction hk with
      | stop => exact fun z => z.elim
      | nil =>
        intro w
        refine wpAny_handleBy_nil ?_
        obtain ⟨k1, k2, k3, ob, us, T, oT, ts', he, hz, hd, hh1, hr⟩ := id fly3
        unfold PySem.passOn
        refine wpAny_bind (wpAny_field he hd hh1 ?_)
        rw [if_neg (show ¬ ((Value.ref T == Value.none) = true) from by simp)]
        have out : wpAny (model X.prog X.w) X.A (setFlight (.ref a) X.env.frame) (fun _ t4 => wpAny (model X.prog X.w) X.A (throw (.ref a) : Sem Flow) (SP X pins D) X.xe t4) X.xe { t' with heap := g3 } := by
          rw [hf]
          refine HandSPX.setFlight_upZ fly3 fun g4 held4 up4 => wpAny_throw (tk _ _ ?_)
          exact ⟨a, B, sJ, pins, σ1, H1, cl, dd, rfl, J, nb, (up1.trans up3).trans up4, .inr (.inr (by rw [hs]; exact held4)), na, os, ag, w⟩
        first
          | exact wpAny_bind (wpAny_pure (wpAny_bind out))
          | exact wpAny_bind out
      | @un x c w t₀ ts q q' r l2 hn hw hr ih =>
        rintro ⟨b, ex, yes, no⟩
        refine wpAny_handleBy_cons (codeAny_handlers_test ?_) (by intro z; cases z)
        have mat := PySem.W.exm_one (M := model X.prog X.w) (J3.kIn) ty3 ex
        refine ask hn (mat.here ?_)
        cases b with
        | false =>
          show wpAny _ X.A (handleBy (.ref a) X.env r) _ _ _
          exact ih (no rfl)
        | true =>
          refine codeAny_handlers_suite ?_
          refine HandSPX.lands_againZ fly3 fun g4 fly4 up4 => ?_
          have J4 : Inv X pins σ1 H1 { t' with heap := g4 } := J.landed nb fly4.1 ((up1.trans up3).trans up4) os ag
          obtain ⟨ob4, us4, at4, zc4, da4⟩ := fly4.there
          have S4 := J4.suite at4 da4 na nL nF
          refine wpAny_mono ((hw a ob4 cl dd (X.pn ++ pins) zc4 ⟨_, da4⟩).run [] _ _ H1 _ S4 (yes rfl a na)) (fun f s6 sp => ?_) (fun _ _ z => False.elim z)
          cases f with
          | ret u =>
            obtain ⟨v6, σ6, H6, S6, r6, q6⟩ := sp
            exact ⟨_, _, _, S6.unsuite okX, r6, q6⟩
          | _ =>
            obtain ⟨σ6, H6, S6, q6⟩ := sp
            exact ⟨_, _, S6.unsuite okX, q6⟩
      | @nm x n i c w t₀ ts q q' r l2 hn hi hk hw hr ih =>
        rintro ⟨b, ex, yes, no⟩
        refine wpAny_handleBy_cons (codeAny_handlers_test ?_) (by intro z; cases z)
        have mat := PySem.W.exm_one (M := model X.prog X.w) (J3.kIn) ty3 ex
        refine ask hn (mat.here ?_)
        cases b with
        | false =>
          show wpAny _ X.A (handleBy (.ref a) X.env r) _ _ _
          exact ih (no rfl)
        | true =>
          refine codeAny_handlers_suite_as ?_
          refine HandSPX.lands_againZ fly3 fun g4 fly4 up4 => ?_
          have J4 : Inv X pins σ1 H1 { t' with heap := g4 } := J.landed nb fly4.1 ((up1.trans up3).trans up4) os ag
          obtain ⟨ob4, us4, at4, zc4, da4⟩ := fly4.there
          have S4 := J4.suite at4 da4 na nL nF
          have lo : Loc X.env.scope n := .inl hk
          refine store_ok (X := X.suite a ((a, ob4) :: (X.pn ++ pins))) (v := .ref a) S4 hN hi lo rfl (fun s5 S5 => ?_) (.inr hk)
          refine wpAny_mono ((hw a ob4 cl dd (X.pn ++ pins) zc4 ⟨_, da4⟩).run [] s5 _ H1 _ S5 (yes rfl a na)) (fun f s6 sp => ?_) (fun _ _ z => False.elim z)
          have bare : ∀ {σ6 : L2.St} {H6 : Hp} {P : Shared → Prop}, Inv (X.suite a ((a, ob4) :: (X.pn ++ pins))) [] σ6 H6 s6 → (∀ s7, Inv X pins (σ6.set i none) H6 s7 → P s7) → wpAny (model X.prog X.w) X.A (do bindName X.env n .none; unbindBehindTheSuite X.env n q') (fun _ s7 => P s7) X.xe s6 :=
            fun {σ6 H6 P} S6 k => gone_ok (S6.unsuite okX) hN hi hk k
          cases f with
          | ret u =>
            obtain ⟨v6, σ6, H6, S6, r6, q6⟩ := sp
            exact bare S6 fun s7 J7 => ⟨_, _, _, J7, r6, q6⟩
          | _ =>
            obtain ⟨σ6, H6, S6, q6⟩ := sp
            exact bare S6 fun s7 J7 => ⟨_, _, J7, q6⟩
    exact go hh wa
  · cases f with
    | next =>
      obtain ⟨σ1, H1, J1, q⟩ := sp
      exact wpAny_execs_nil ⟨σ1, H1, J1.ofTry okX, q⟩
    | ret u =>
      obtain ⟨v, σ1, H1, J1, r, q⟩ := sp
      exact ⟨v, σ1, H1, J1.ofTry okX, r, q⟩
    | _ =>
      obtain ⟨σ1, H1, J1, q⟩ := sp
      exact ⟨σ1, H1, J1.ofTry okX, q⟩
end
abbrev Tx.re (T : Tx) (e : Nat → Option (Addr × Value × Option Addr)) : Tx := { T with ep := e }
abbrev Tx.er (T : Tx) (n : Nat) (a : Addr) (cl : Value) (dd : Option Addr) : Tx := T.re fun k => if k = n then some (a, cl, dd) else T.ep k
mutual
theorem RD.re {K : PySem.W.Frag} {T : Tx} {G : Gst} (e : Nat → Option (Addr × Value × Option Addr)) : ∀ {d v}, RD K T G d v → RD K (T.re e) G d v
  | _, _, .non => .non
  | _, _, .bl => .bl
  | _, _, .int => .int
  | _, _, .str => .str
  | _, _, .tup h r n => .tup h (RDs.re e r) n
  | _, _, .lst h r => .lst h (RDs.re e r)
  | _, _, .scr h r => .scr h (RDs.re e r)
  | _, _, .dic h k r => .dic h (RDs.re e k) (RDs.re e r)
  | _, _, .obj h hc hn r => .obj h hc hn (RDs.re e r)
  | _, _, .ref h => .ref h
theorem RDs.re {K : PySem.W.Frag} {T : Tx} {G : Gst} (e : Nat → Option (Addr × Value × Option Addr)) : ∀ {ds vs}, RDs K T G ds vs → RDs K (T.re e) G ds vs
  | _, _, .nil => .nil
  | _, _, .cons h t => .cons (RD.re e h) (RDs.re e t)
end
section
variable {K : PySem.W.Frag} {T : Tx} {G : Gst} {h : Hh} {H : Hp} (e : Nat → Option (Addr × Value × Option Addr))
theorem RX.re {c : Nat} {ds : List D} {cls : Value} {dd : Option Addr} (r : RX K T G c ds cls dd) : RX K (T.re e) G c ds cls dd := by
  obtain ⟨C, nm, e1, e2, e3⟩ := r
  refine ⟨C, nm, e1, e2, ?_⟩
  rcases e3 with e3 | ⟨dx, fs, q1, q2, q3, q4⟩
  · exact .inl e3
  · exact .inr ⟨dx, fs, q1, q2, q3, RDs.re e q4⟩
theorem RO.re {n : Nat} {o : O} (r : RO K T G H n o) (he : ((∃ c ds, o = .err c ds) ∨ ∃ q cap, o = .lam q cap) → e n = T.ep n) : RO K (T.re e) G H n o := by
  cases o with
  | lst ds => obtain ⟨a, vs, e1, e2, e3, e4⟩ := r; exact ⟨a, vs, e1, e2, e3, RDs.re e e4⟩
  | dic ks vs => obtain ⟨a, kvs, e1, e2, e3, e4, e5⟩ := r; exact ⟨a, kvs, e1, e2, e3, RDs.re e e4, RDs.re e e5⟩
  | dicL ks vs => obtain ⟨a, od, kvs, e1, e2, e4, e5⟩ := r; exact ⟨a, od, kvs, e1, e2, RDs.re e e4, RDs.re e e5⟩
  | dit ks vs => obtain ⟨a, kvs, e1, e2, e3, e4, e5⟩ := r; exact ⟨a, kvs, e1, e2, e3, e4, RDs.re e e5⟩
  | dkn ks vs => obtain ⟨a, xs, e1, e2, e3, e4, e5, e6⟩ := r; exact ⟨a, xs, e1, e2, e3, e4, RDs.re e e5, RDs.re e e6⟩
  | obj c ds => obtain ⟨a, C, dx, nm, fs, e1, e2, e3, e4, e5, e6⟩ := r; exact ⟨a, C, dx, nm, fs, e1, e2, e3, e4, e5, RDs.re e e6⟩
  | src s => exact r
  | dead => trivial
  | err c ds => obtain ⟨a, cls, dd, e1, e2, e3⟩ := r; exact ⟨a, cls, dd, e1, by show e n = _; rw [he (.inl ⟨c, ds, rfl⟩)]; exact e2, RX.re e e3⟩
  | tab q => exact r
  | lam q cap => obtain ⟨f, c, e1, e2, e3, e4⟩ := r; exact ⟨f, c, e1, by show e n = _; rw [he (.inr ⟨q, cap, rfl⟩)]; exact e2, e3, ⟨e4.len, fun i d z => let ⟨v, w1, w2⟩ := e4.at_ i d z; ⟨v, w1, RD.re e w2⟩⟩⟩
  | dkL ks vs => obtain ⟨a, od, xs, e1, e2, e4, e5, e6⟩ := r; exact ⟨a, od, xs, e1, e2, e4, RDs.re e e5, RDs.re e e6⟩
  | itr ds i => obtain ⟨a, l, vs, e1, e2, e3, e4, e5⟩ := r; exact ⟨a, l, vs, e1, e2, e3, e4, RDs.re e e5⟩
theorem RSl.re {δ : De} {σ : L2.St} (r : RSl K T G δ σ) : RSl K (T.re e) G δ σ := ⟨r.len, fun i d q => let ⟨v, h1, h2⟩ := r.at_ i d q; ⟨v, h1, RD.re e h2⟩⟩
theorem Rel.re (r : Rel K T G h H) (he : ∀ n, ((∃ c ds, h[n]? = some (.err c ds)) ∨ ∃ q cap, h[n]? = some (.lam q cap)) → e n = T.ep n) : Rel K (T.re e) G h H :=
  ⟨r.len, r.sub, r.own, r.pr, r.lk, fun n o q => (r.obj n o q).re e fun z => he n (z.imp (fun ⟨c, ds, w⟩ => ⟨c, ds, by rw [q, w]⟩) fun ⟨q', cap, w⟩ => ⟨q', cap, by rw [q, w]⟩)⟩
end
section
variable {K : PySem.W.Frag} {T : Tx} {G : Gst} {h : Hh} {H : Hp}
def endE (n i : Nat) : RS → RS
  | .nx δ h => .nx (δ.set i none) (h.set n .dead)
  | .rt d h => .rt d (h.set n .dead)
  | .bk δ h => .bk (δ.set i none) (h.set n .dead)
  | .ct δ h => .ct (δ.set i none) (h.set n .dead)
  | _ => .stk
def Gst.held (G : Gst) (a : Addr) : Gst := { G with ι := G.ι ++ [a] }
theorem Rel.hold {a : Addr} {cl : Value} {dd : Option Addr} {c : Nat} {ds : List D} (r : Rel K T G h H) (x : RX K T G c ds cl dd) : Ext G (G.held a) ∧ Rel K (T.er h.length a cl dd) (G.held a) (h ++ [.err c ds]) H := by
  have ext : Ext G (G.held a) := ⟨⟨[a], rfl⟩, fun _ _ q => q, rfl, rfl⟩
  refine ⟨ext, by simp [Gst.held, r.len], r.sub, fun b n q => ?_, r.pr, r.lk, fun n o q => ?_⟩
  · obtain ⟨z1, z2⟩ := r.own b n q
    exact ⟨by simp; omega, z2⟩
  · by_cases hn : n < h.length
    · rw [List.getElem?_append_left hn] at q
      exact ((r.obj n o q).stay ext (fun _ z => z) (fun _ _ => rfl) fun _ z => z).re _ fun _ => if_neg (by omega)
    · have hn' : n = h.length := by
        have := (List.getElem?_eq_some_iff.mp q).1
        simp at this; omega
      subst hn'
      simp at q
      subst q
      exact ⟨a, cl, dd, by show (G.ι ++ [a])[h.length]? = some a; rw [← r.len]; simp, if_pos rfl, RX.re _ (RX.monoV ⟨ext.ι, ext.fz⟩ x)⟩
theorem Rel.drop {n : Nat} {a : Addr} {cl : Value} {dd : Option Addr} (r : Rel K (T.er n a cl dd) G h H) : Rel K T G (h.set n .dead) H := by
  refine ⟨by rw [List.length_set]; exact r.len, r.sub, fun b k q => by rw [List.length_set]; exact r.own b k q, r.pr, r.lk, fun k o q => ?_⟩
  by_cases hk : k = n
  · subst hk
    by_cases hl : k < h.length
    · rw [List.getElem?_set_self hl] at q
      cases q; trivial
    · rw [List.getElem?_eq_none (by simpa using hl)] at q
      cases q
  · rw [List.getElem?_set_ne (Ne.symm hk)] at q
    exact (r.obj k o q).re T.ep fun _ => (if_neg hk).symm
theorem okS.leave {W : WX} {n i : Nat} {a : Addr} {cl : Value} {dd : Option Addr} {r : RS} {D : Ends} (o : okS K T W G (endE n i r) D) : okS K (T.er n a cl dd) W0 G r (bareE D i) := by
  cases r with
  | nx δ h => exact fun G' H' σ' x r s => o G' H' _ x r.drop ((s.re T.ep).unset i none)
  | rt d h => exact fun G' H' v x r d => o G' H' v x r.drop (d.re T.ep)
  | bk δ h => exact fun G' H' σ' x r s => o G' H' _ x r.drop ((s.re T.ep).unset i none)
  | ct δ h => exact fun G' H' σ' x r s => o G' H' _ x r.drop ((s.re T.ep).unset i none)
  | exc c ds δ h => exact o.elim
  | stk => exact o
end
inductive Cn where
  | un (m : Nat → Bool) (v : FnS)
  | nm (m : Nat → Bool) (i : Nat) (v : FnS)
  | stop
def handleN (c : Nat) (ds : List D) (δ : De) (h : Hh) : List Cn → RS
  | [] => .exc c ds δ h
  | .un m v :: r => if m c = true then noXS (v δ h) else handleN c ds δ h r
  | .nm m i v :: r => if m c = true then endE h.length i (v (δ.set i (some (.ref h.length))) (h ++ [.err c ds])) else handleN c ds δ h r
  | .stop :: _ => .stk
def sTryN (u : FnS) (l : List Cn) : FnS := fun δ h => match u δ h with
  | .exc c ds δ' h' => handleN c ds δ' h' l
  | r => r
section
variable {X : Cx} {T : Tx} {W : WX} {pos : Pos}
inductive FHn (X : Cx) (T : Tx) : List ExceptHandler → List Cn → Prop
  | nil : FHn X T [] []
  | un {x : Str} {c : Value} {m : Nat → Bool} {v : FnS} {b₀ : Stmt} {suite : List Stmt} {np pos' : Pos} {hds : List ExceptHandler} {l : List Cn} (hc : Names X x c) (hm : ∀ n C nm, T.exc n = some (C, nm) → PySem.W.exmOne X.K (.ref C) c = some (m n))
      (hsu : ∀ (a : Addr) (oe : Obj) (pn : List (Addr × Obj)), FSs (X.suite a ((a, oe) :: pn)) T W0 (b₀ :: suite) v) (r : FHn X T hds l) : FHn X T (.ExceptHandler (some (.Name x np)) none (b₀ :: suite) pos' :: hds) (.un m v :: l)
  | nm {x y : Str} {i : Nat} {c : Value} {m : Nat → Bool} {v : FnS} {b₀ : Stmt} {suite : List Stmt} {np pos' : Pos} {hds : List ExceptHandler} {l : List Cn} (hc : Names X x c) (hi : X.N[i]? = some y) (hk : X.env.kindOf y = some .local) (hm : ∀ n C nm, T.exc n = some (C, nm) → PySem.W.exmOne X.K (.ref C) c = some (m n))
      (hsu : ∀ (n0 : Nat) (a : Addr) (oe : Obj) (cl : Value) (dd : Option Addr) (pn : List (Addr × Obj)), Zc cl dd oe → (∃ vs, oe.data = .fields vs) → FSs (X.suite a ((a, oe) :: pn)) (T.er n0 a cl dd) W0 (b₀ :: suite) v) (r : FHn X T hds l) :
      FHn X T (.ExceptHandler (some (.Name x np)) (some y) (b₀ :: suite) pos' :: hds) (.nm m i v :: l)
  | stop {h : ExceptHandler} {hds : List ExceptHandler} : FHn X T (h :: hds) [.stop]
theorem FHn.ok {hds : List ExceptHandler} {l : List Cn} (F : FHn X T hds l) : ∃ l', ClsOk X hds l' ∧ ∀ (DE : Ends) (c : Nat) (ds : List D) (δ : De) (h : Hh) G H (σ : L2.St) cls dd, Rel X.K T G h H → RSl X.K T G δ σ → RX X.K T G c ds cls dd → okS X.K T W G (handleN c ds δ h l) DE → wAll X.K W DE l' cls dd σ H := by
  induction F with
  | nil => exact ⟨[], .nil, fun D c ds δ h G H σ cls dd r s x o => o G H σ cls dd (Ext.refl G) r s x⟩
  | stop => exact ⟨[.stop], .stop, fun D c ds δ h G H σ cls dd r s x o => o.elim⟩
  | @un x c0 m v b₀ suite np pos' hds l hc hm hsu r ih =>
    obtain ⟨l', ok', rd⟩ := ih
    refine ⟨.un c0 (fun _ _ _ => tS X.K T W0 v) :: l', .un hc (fun a oe cls d pn _ _ => hsu a oe pn) ok', fun D c ds δ h G H σ cls dd r s x o => ?_⟩
    obtain ⟨C, nm, e1, e2, e3⟩ := id x
    subst e2
    refine ⟨m c, hm c C nm e1, fun hy a na => ?_, fun hn => ?_⟩
    · unfold handleN at o
      rw [if_pos hy] at o
      exact ⟨G, h, δ, r, s, okS.noX o⟩
    · unfold handleN at o
      rw [if_neg (by rw [hn]; exact Bool.false_ne_true)] at o
      exact rd D c ds δ h G H σ _ dd r s x o
  | @nm x y i c0 m v b₀ suite np pos' hds l hc hi hk hm hsu r ih =>
    obtain ⟨l', ok', rd⟩ := ih
    refine ⟨.nm c0 i (fun a cl dd D σ H => ∃ n0, tS X.K (T.er n0 a cl dd) W0 v D σ H) :: l', .nm hc hi hk (fun a oe cls d pn hz hd => ⟨fun pins s σ H D I ⟨n0, z⟩ => (hsu n0 a oe cls d pn hz hd).run pins s σ H D I z⟩) ok', fun D c ds δ h G H σ cls dd r s x o => ?_⟩
    obtain ⟨C, nm, e1, e2, e3⟩ := id x
    refine ⟨m c, by rw [e2]; exact hm c C nm e1, fun hy a na => ?_, fun hn => ?_⟩
    · unfold handleN at o
      rw [if_pos hy] at o
      obtain ⟨ext, r2⟩ := r.hold (a := a) x
      refine ⟨h.length, G.held a, _, _, r2, ((s.mono ext).re _).set (.ref (by show (G.ι ++ [a])[h.length]? = some a; rw [← r.len]; simp)) i, okS.leave (okS.ext ext o)⟩
    · unfold handleN at o
      rw [if_neg (by rw [hn]; exact Bool.false_ne_true)] at o
      exact rd D c ds δ h G H σ _ dd r s x o
theorem fs_tryN {body : List Stmt} {h₀ : ExceptHandler} {hds : List ExceptHandler} {u : FnS} {l : List Cn} (hs : X.stack = X.env :: X.outer) (hf : X.env.frame = some X.env.locals) (hN : X.N.Nodup) (tk : Takes X W)
    (hb : ∀ (W : WX) (pn : List (Addr × Obj)) (xe : Value → Shared → Prop), Takes (X.tr pn xe) W → FSs (X.tr pn xe) T W body u) (hh : FHn X T (h₀ :: hds) l) : FS X T W (.Try body (h₀ :: hds) [] [] pos) (sTryN u l) := by
  obtain ⟨l', ok', rd⟩ := hh.ok (W := W)
  refine PS.imp (ps_try_all (tb := fun W' => tS X.K T W' u) hs hf hN tk (fun W' pn xe tk' => hb W' pn xe tk') ok') fun D σ H => ?_
  rintro ⟨G, h0, δ, r, s, o⟩
  refine ⟨G, h0, δ, r, s, ?_⟩
  unfold sTryN at o
  cases e : u δ h0 with
  | nx δ' h' => rw [e] at o; exact o
  | rt d h' => rw [e] at o; exact o
  | bk δ' h' => rw [e] at o; exact o
  | ct δ' h' => rw [e] at o; exact o
  | stk => rw [e] at o; exact o.elim
  | exc c ds δ' h' =>
    rw [e] at o
    intro G' H' σ' cls dd x r' s' q
    exact rd D c ds δ' h' G' H' σ' cls dd r' s' q (okS.ext x o)
end
section
variable {X : Cx} {T : Tx} {W : WX} {pos : Pos}
theorem Rel.err {K : PySem.W.Frag} {G : Gst} {h : Hh} {H : Hp} {n0 n c : Nat} {a : Addr} {cl : Value} {dd : Option Addr} {ds : List D} {v : V} (r : Rel K (T.er n0 a cl dd) G h H) (h0 : ∀ n, T.ep n = none) (d : RD K (T.er n0 a cl dd) G (.ref n) v) (e : h[n]? = some (.err c ds)) :
    v = .ref a ∧ RX K T G c ds cl dd := by
  obtain ⟨a', cl', dd', e1, e2, e3⟩ := r.obj n _ e
  have e2' : (if n = n0 then some (a, cl, dd) else T.ep n) = some (a', cl', dd') := e2
  rw [h0 n] at e2'
  by_cases hn : n = n0
  · rw [if_pos hn] at e2'
    cases e2'
    cases d with
    | ref z =>
      rw [e1] at z; cases z
      exact ⟨rfl, RX.re (T := T.er n0 a cl dd) T.ep e3⟩
  · rw [if_neg hn] at e2'; cases e2'
structure XiC (K : PySem.W.Frag) (C : Addr) : Prop where
  cl : (PySem.W.clsIn K C).isSome = true
  xf : XfC K C
  ha : PySem.W.findIn K (.ref C) "__class__" = some (some (.builtin "object.__class__"))
  hn : PySem.W.specialIn K (.builtin "object.__class__") "__get__" = some (some (.builtin "getset_descriptor.__get__"))
  tk : PySem.W.takesIn K (.builtin "object.__class__") = some true
  hm : PySem.W.mroIn K C (.type "object") = some true
end
end L3
set_option autoImplicit false
set_option maxHeartbeats 4000000
namespace L3
open PySem PySem.Spec L2
section
variable {prog : Program} {w : World} {A : Around} {E : Value → Shared → Prop} {s : Shared}
open PyProof.Rows
end
section
open PyProof.Rows
variable {X : Cx} {T : Tx} {W : WX} {pos p2 : Pos}
end
end L3
set_option autoImplicit false
set_option maxHeartbeats 4000000
namespace L3
open PySem PySem.Spec L2 PyProof.Rows
abbrev Tx.lm (T : Tx) (n : Nat) (f c : Addr) (σ : L2.St) : Tx := { T with ep := fun k => if k = n then some (f, .ref c, none) else none, cs := fun _ => σ }
section
variable {K : PySem.W.Frag} {T T' : Tx} {G : Gst} {h : Hh} {H : Hp}
mutual
theorem RD.cl (e : T'.cls = T.cls) : ∀ {d v}, RD K T G d v → RD K T' G d v
  | _, _, .non => .non
  | _, _, .bl => .bl
  | _, _, .int => .int
  | _, _, .str => .str
  | _, _, .tup h r n => .tup h (RDs.cl e r) n
  | _, _, .lst h r => .lst h (RDs.cl e r)
  | _, _, .scr h r => .scr h (RDs.cl e r)
  | _, _, .dic h k r => .dic h (RDs.cl e k) (RDs.cl e r)
  | _, _, .obj h hc hn r => .obj h (by rw [e]; exact hc) hn (RDs.cl e r)
  | _, _, .ref h => .ref h
theorem RDs.cl (e : T'.cls = T.cls) : ∀ {d v}, RDs K T G d v → RDs K T' G d v
  | _, _, .nil => .nil
  | _, _, .cons h t => .cons (RD.cl e h) (RDs.cl e t)
end
theorem RSl.cl (e : T'.cls = T.cls) {δ : De} {σ : L2.St} (r : RSl K T G δ σ) : RSl K T' G δ σ := ⟨r.len, fun i d q => let ⟨v, h1, h2⟩ := r.at_ i d q; ⟨v, h1, RD.cl e h2⟩⟩
theorem RX.cl (e : T'.cls = T.cls) (e' : T'.exc = T.exc) {c : Nat} {ds : List D} {cls : Value} {dd : Option Addr} (r : RX K T G c ds cls dd) : RX K T' G c ds cls dd := by
  obtain ⟨C, nm, e1, e2, e3⟩ := r
  exact ⟨C, nm, by rw [e']; exact e1, e2, e3.imp id fun ⟨dx, fs, q1, q2, q3, q4⟩ => ⟨dx, fs, q1, q2, q3, RDs.cl e q4⟩⟩
theorem RO.lm {n k : Nat} {f c : Addr} {σ : L2.St} {o : O} (r : RO K T G H k o) (hT : ∀ k, T.ep k = none) : RO K (T.lm n f c σ) G H k o := by
  have e : (T.lm n f c σ).cls = T.cls := rfl
  cases o with
  | lst ds => obtain ⟨a, vs, e1, e2, e3, e4⟩ := r; exact ⟨a, vs, e1, e2, e3, RDs.cl e e4⟩
  | dic ks vs => obtain ⟨a, kvs, e1, e2, e3, e4, e5⟩ := r; exact ⟨a, kvs, e1, e2, e3, RDs.cl e e4, RDs.cl e e5⟩
  | dicL ks vs => obtain ⟨a, od, kvs, e1, e2, e4, e5⟩ := r; exact ⟨a, od, kvs, e1, e2, RDs.cl e e4, RDs.cl e e5⟩
  | dit ks vs => obtain ⟨a, kvs, e1, e2, e3, e4, e5⟩ := r; exact ⟨a, kvs, e1, e2, e3, e4, RDs.cl e e5⟩
  | dkn ks vs => obtain ⟨a, xs, e1, e2, e3, e4, e5, e6⟩ := r; exact ⟨a, xs, e1, e2, e3, e4, RDs.cl e e5, RDs.cl e e6⟩
  | obj c ds => obtain ⟨a, C, dx, nm, fs, e1, e2, e3, e4, e5, e6⟩ := r; exact ⟨a, C, dx, nm, fs, e1, e2, e3, e4, e5, RDs.cl e e6⟩
  | src s => exact r
  | dead => trivial
  | err c ds => obtain ⟨a, cls, dd, e1, e2, e3⟩ := r; rw [hT] at e2; cases e2
  | tab q => exact r
  | lam q cap => obtain ⟨f, c, e1, e2, e3⟩ := r; rw [hT] at e2; cases e2
  | dkL ks vs => obtain ⟨a, od, xs, e1, e2, e4, e5, e6⟩ := r; exact ⟨a, od, xs, e1, e2, e4, RDs.cl e e5, RDs.cl e e6⟩
  | itr ds i => obtain ⟨a, l, vs, e1, e2, e3, e4, e5⟩ := r; exact ⟨a, l, vs, e1, e2, e3, e4, RDs.cl e e5⟩
theorem RO.unlm {n k : Nat} {f c : Addr} {σ : L2.St} {o : O} (r : RO K (T.lm n f c σ) G H k o) (hk : k ≠ n) : RO K T G H k o := by
  have e : T.cls = (T.lm n f c σ).cls := rfl
  have en : (T.lm n f c σ).ep k = none := if_neg hk
  cases o with
  | lst ds => obtain ⟨a, vs, e1, e2, e3, e4⟩ := r; exact ⟨a, vs, e1, e2, e3, RDs.cl e e4⟩
  | dic ks vs => obtain ⟨a, kvs, e1, e2, e3, e4, e5⟩ := r; exact ⟨a, kvs, e1, e2, e3, RDs.cl e e4, RDs.cl e e5⟩
  | dicL ks vs => obtain ⟨a, od, kvs, e1, e2, e4, e5⟩ := r; exact ⟨a, od, kvs, e1, e2, RDs.cl e e4, RDs.cl e e5⟩
  | dit ks vs => obtain ⟨a, kvs, e1, e2, e3, e4, e5⟩ := r; exact ⟨a, kvs, e1, e2, e3, e4, RDs.cl e e5⟩
  | dkn ks vs => obtain ⟨a, xs, e1, e2, e3, e4, e5, e6⟩ := r; exact ⟨a, xs, e1, e2, e3, e4, RDs.cl e e5, RDs.cl e e6⟩
  | obj c ds => obtain ⟨a, C, dx, nm, fs, e1, e2, e3, e4, e5, e6⟩ := r; exact ⟨a, C, dx, nm, fs, e1, e2, e3, e4, e5, RDs.cl e e6⟩
  | src s => exact r
  | dead => trivial
  | err c ds => obtain ⟨a, cls, dd, e1, e2, e3⟩ := r; rw [en] at e2; cases e2
  | tab q => exact r
  | lam q cap => obtain ⟨f, c, e1, e2, e3⟩ := r; rw [en] at e2; cases e2
  | dkL ks vs => obtain ⟨a, od, xs, e1, e2, e4, e5, e6⟩ := r; exact ⟨a, od, xs, e1, e2, e4, RDs.cl e e5, RDs.cl e e6⟩
  | itr ds i => obtain ⟨a, l, vs, e1, e2, e3, e4, e5⟩ := r; exact ⟨a, l, vs, e1, e2, e3, e4, RDs.cl e e5⟩
theorem Rel.away {n : Nat} {f c : Addr} {σ : L2.St} (r : Rel K (T.lm n f c σ) G h H) : Rel K T G (h.set n .dead) H := by
  refine ⟨by rw [List.length_set]; exact r.len, r.sub, fun b k q => by rw [List.length_set]; exact r.own b k q, r.pr, r.lk, fun k o q => ?_⟩
  by_cases hk : k = n
  · subst hk
    by_cases hl : k < h.length
    · rw [List.getElem?_set_self hl] at q
      cases q; trivial
    · rw [List.getElem?_eq_none (by simpa using hl)] at q
      cases q
  · rw [List.getElem?_set_ne (Ne.symm hk)] at q
    exact (r.obj k o q).unlm hk
theorem Rel.back {n : Nat} {f c : Addr} {σ : L2.St} {q : List Nat} {cap : De} (r : Rel K T G h H) (hT : ∀ k, T.ep k = none) (hf : G.ι[n]? = some f) (hc : G.fz c = some (LamX.CodeO c ⟨q.toArray⟩)) (hs : RSl K T G cap σ) : Rel K (T.lm n f c σ) G (h.set n (.lam q cap)) H := by
  refine ⟨by rw [List.length_set]; exact r.len, r.sub, fun b k q => by rw [List.length_set]; exact r.own b k q, r.pr, r.lk, fun k o q => ?_⟩
  by_cases hk : k = n
  · subst hk
    by_cases hl : k < h.length
    · rw [List.getElem?_set_self hl] at q
      cases q
      exact ⟨f, c, hf, if_pos rfl, hc, RSl.cl (T := T) (T' := T.lm k f c σ) rfl hs⟩
    · rw [List.getElem?_eq_none (by simpa using hl)] at q
      cases q
  · rw [List.getElem?_set_ne (Ne.symm hk)] at q
    exact (r.obj k o q).lm hT
theorem Rel.lam {f c : Addr} {σ : L2.St} {q : List Nat} {cap : De} (r : Rel K T G h H) (hT : ∀ k, T.ep k = none) (hc : G.fz c = some (LamX.CodeO c ⟨q.toArray⟩)) (hs : RSl K T G cap σ) :
    Ext G (G.held f) ∧ (G.held f).ι[h.length]? = some f ∧ Rel K (T.lm h.length f c σ) (G.held f) (h ++ [.lam q cap]) H := by
  have ext : Ext G (G.held f) := ⟨⟨[f], rfl⟩, fun _ _ q => q, rfl, rfl⟩
  have at_ : (G.held f).ι[h.length]? = some f := by show (G.ι ++ [f])[h.length]? = some f; rw [← r.len]; simp
  refine ⟨ext, at_, by simp [Gst.held, r.len], r.sub, fun b n q => ?_, r.pr, r.lk, fun n o q => ?_⟩
  · obtain ⟨z1, z2⟩ := r.own b n q
    exact ⟨by simp; omega, z2⟩
  · by_cases hn : n < h.length
    · rw [List.getElem?_append_left hn] at q
      exact ((r.obj n o q).stay ext (fun _ z => z) (fun _ _ => rfl) fun _ z => z).lm hT
    · have hn' : n = h.length := by
        have := (List.getElem?_eq_some_iff.mp q).1
        simp at this; omega
      subst hn'
      simp at q
      subst q
      exact ⟨f, c, at_, if_pos rfl, hc, RSl.cl (T := T) (T' := T.lm h.length f c σ) rfl (hs.mono ext)⟩
end
section
variable {X : Cx} {T : Tx} {pins : List (Addr × Obj)} {σ : L2.St} {H : Hp} {s : Shared}
theorem lam_new {G : Gst} {h : Hh} {n : Nat} {q : List Nat} {c P : Addr} {params : Arguments} {body : Expr} {scope : Scope} {pos : Pos} {E : Value → Shared → Prop} {Q : Value → Shared → Prop} (I : Inv X pins σ H s) (TB : LamX.TabB X.base X.mg c P) (hcode : X.env.code = .ref c)
    (ht : T.tb q = some P) (hq : X.env.qual ++ "<lambda>" = ⟨q.toArray⟩) (r : Rel X.K T G h H) (hn : h[n]? = some (.tab q)) (hdef : defaultsOf params X.env = ([], [])) (hfree : ∀ y ∈ scope.names, y.2 = .free → ∃ c, X.env.cells.lookup y.1 = some c)
    (k : ∀ (f c' : Addr) (pm ctv : Value) (G1 : Gst) (H1 : Hp) (s' : Shared), Inv X pins σ H1 s' → Ext G G1 → Rel X.K T G1 h H1 → G1.fz c' = some (LamX.CodeO c' ⟨q.toArray⟩) →
      s'.heap.get? f = some (PySem.W.kla_obj "<lambda>" (X.env.qual ++ "<lambda>") params body scope (cloFrom X.env.cells scope.names []) pm c' ctv) → H1 f = none → f ∉ frs X.stack → Q (.ref f) s') :
    wpAny (model X.prog X.w) X.A (eval (.Lambda params body scope pos) X.env) Q E s := by
  obtain ⟨a, ps, e1, e2, hP, e4, tr, among⟩ := r.obj n _ hn
  rw [ht] at e4
  cases e4
  have atP : s.heap.get? P = some { cls := .none, data := .fields ps } := I.hok P _ hP
  have bP : s.heap.BuiltinsAt X.mg P := TB.bm.keeps I.bk
  have fresh : ∀ f, s.heap.objs.size ≤ f → f ∉ frs X.stack := fun f hf z => (List.mem_cons.mp (I.stkSub _ z)).elim
    (fun e => absurd I.lt (by rw [← e]; exact Nat.not_lt.mpr hf)) fun e => I.nofs hf e
  refine PySem.W.kla_eval hdef ?_
  cases hc : codeAmong pos ps.toList with
  | some cv =>
    obtain ⟨c', ec, hz⟩ := among pos cv hc
    subst ec
    refine PySem.W.kla_makeFunctionHit (mg := X.mg) (c := c) (P := P) (ps := ps) (closure_ok hfree) I.ok.glob (I.mod.glob.keeps I.bk) hcode (TB.code.keeps I.bk) atP tr hc bP fun ctv h' tk hx big => ?_
    have J := I.kept (h' := h'.push (PySem.W.kla_obj "<lambda>" (X.env.qual ++ "<lambda>") params body scope (cloFrom X.env.cells scope.names []) ((X.mg "__name__").getD .none) c' ctv)) (t' := tk) fun b o e => Heap.get?_push_of_some _ (hx b o e)
    exact k h'.objs.size c' ((X.mg "__name__").getD .none) ctv G H _ J (Ext.refl G) r hz (Heap.get?_push_size _ rfl) (I.hok.fresh big) (fresh _ big)
  | none =>
    refine PySem.W.kla_makeFunction (mg := X.mg) (c := c) (P := P) (ps := ps) (closure_ok hfree) I.ok.glob (I.mod.glob.keeps I.bk) hcode (TB.code.keeps I.bk) atP tr hc TB.gP bP fun c' ctv h' tk hx hge hlt hrec htb => ?_
    obtain ⟨c2, oc, vs, t, ec, hoc, hd, hv⟩ := hrec
    cases ec
    have big : s.heap.objs.size ≤ h'.objs.size := Nat.le_trans hge (Nat.le_of_lt hlt)
    have nC : H c' = none := I.hok.fresh hge
    have nPc : P ≠ c' := ne_of_none hP nC
    have J := LamX.inv_table (t' := tk) (more := #[rawInt pos.line, rawInt pos.col, .ref c']) (q := X.env.qual ++ "<lambda>") (h' := h'.push (PySem.W.kla_obj "<lambda>" (X.env.qual ++ "<lambda>") params body scope (cloFrom X.env.cells scope.names []) ((X.mg "__name__").getD .none) c' ctv)) I hP
      (fun b o hb e => Heap.get?_push_of_some _ (hx b o hb e)) (Heap.get?_push_of_some _ htb) hge ⟨oc, vs, t, Heap.get?_push_of_some _ hoc, hd, hv⟩
    have eC : LamX.CodeO c' (X.env.qual ++ "<lambda>") = LamX.CodeO c' ⟨q.toArray⟩ := by rw [hq]
    rw [eC] at J
    obtain ⟨x1, r1⟩ := r.newF (o := LamX.CodeO c' ⟨q.toArray⟩) nC
    have hz : (G.frz c' (LamX.CodeO c' ⟨q.toArray⟩)).fz c' = some (LamX.CodeO c' ⟨q.toArray⟩) := upd_same
    have eL : (ps ++ #[rawInt pos.line, rawInt pos.col, .ref c']).toList = ps.toList ++ [rawInt pos.line, rawInt pos.col, .ref c'] := by simp
    have hl : n < h.length := (List.getElem?_eq_some_iff.mp hn).1
    have eH : upd (upd H P (.tbl (ps ++ #[rawInt pos.line, rawInt pos.col, .ref c']))) c' (LamX.CodeO c' ⟨q.toArray⟩) = upd (upd H c' (LamX.CodeO c' ⟨q.toArray⟩)) P (.tbl (ps ++ #[rawInt pos.line, rawInt pos.col, .ref c'])) := funext fun b => by
      by_cases h1 : b = c'
      · subst h1; rw [upd_same, upd_ne (Ne.symm nPc), upd_same]
      · rw [upd_ne h1]
        by_cases h2 : b = P
        · subst h2; rw [upd_same, upd_same]
        · rw [upd_ne h2, upd_ne h2, upd_ne h1]
    have r2 := r1.put (n := n) (a := P) (o := .tbl (ps ++ #[rawInt pos.line, rawInt pos.col, .ref c'])) (u := .tab q) hl e2 ⟨P, _, e1, e2, upd_same, ht, by rw [eL]; exact PySem.TriplesOk_snoc _ _ _ _ tr, fun p' cv hcv => by
      rw [eL] at hcv
      rcases LamX.among_app _ tr hcv with z | z
      · obtain ⟨c0, w1, w2⟩ := among p' cv z
        exact ⟨c0, w1, x1.fz _ _ w2⟩
      · exact ⟨c', z, hz⟩⟩
    have e3 : h.set n (.tab q) = h := by
      obtain ⟨_, w⟩ := List.getElem?_eq_some_iff.mp hn
      rw [← w, List.set_getElem_self]
    rw [e3, ← eH] at r2
    refine k h'.objs.size c' ((X.mg "__name__").getD .none) ctv _ _ _ J x1 r2 hz (Heap.get?_push_size _ rfl) ?_ (fresh _ big)
    have n1 : h'.objs.size ≠ c' := Nat.ne_of_gt hlt
    have n2 : h'.objs.size ≠ P := Nat.ne_of_gt (Nat.lt_of_lt_of_le (Heap.lt_size atP) big)
    rw [upd_ne n1, upd_ne n2]
    exact I.hok.fresh big
end
def actR (n : Nat) (q : List Nat) (cap : De) : R D → R D
  | .ok x h => .ok x (h.set n (.lam q cap))
  | .exc c ds h => .exc c ds (h.set n (.lam q cap))
  | .stk => .stk
def eAct (q : List Nat) (fb : FnE) (i : Nat) : FnE := fun δ h => match δ[i]? with
  | some (some (.ref n)) => match h[n]? with
    | some (.lam q' cap) => if q' = q then actR n q cap (fb cap (h.set n .dead)) else .stk
    | _ => .stk
  | _ => .stk
theorem okR.act {K : PySem.W.Frag} {T : Tx} {W W1 : WX} {G : Gst} {n : Nat} {f c : Addr} {q : List Nat} {cap : De} {σ σZ : L2.St} {r : R D} {Q : VK} (hT : ∀ k, T.ep k = none) (hf : G.ι[n]? = some f) (hc : G.fz c = some (LamX.CodeO c ⟨q.toArray⟩)) (hs : RSl K T G cap σ)
    (hW : ∀ cls dd H', W cls dd σZ H' → W1 cls dd σ H') (o : okR K (T.lm n f c σ) W G σZ (RD K (T.lm n f c σ)) (actR n q cap r) Q) : okR K T W1 G σ (RD K T) r Q := by
  have at_ : ∀ G', Ext G G' → G'.ι[n]? = some f := fun G' x => by
    obtain ⟨t, e⟩ := x.ι
    rw [e, List.getElem?_append_left (List.getElem?_eq_some_iff.mp hf).1]; exact hf
  cases r with
  | ok y h => exact fun G' H' v x r d => o G' H' v x (r.back hT (at_ G' x) (x.fz _ _ hc) (hs.mono x)) (RD.cl (T := T) (T' := T.lm n f c σ) rfl d)
  | exc c0 ds h => exact fun G' H' cls dd x r d => hW _ _ _ (o G' H' cls dd x (r.back hT (at_ G' x) (x.fz _ _ hc) (hs.mono x)) (RX.cl (T := T) (T' := T.lm n f c σ) rfl rfl d))
  | stk => exact o
section
variable {X : Cx} {T : Tx} {W : WX} {pins : List (Addr × Obj)} {σ : L2.St} {H : Hp} {s : Shared}
abbrev lamK (X : Cx) (outer : List Env) (A : Around) (s : Shared) (H : Hp) (E : XK) (scope : Scope) (f c : Addr) : Cx := LamX.lamCx X A outer s H E scope f c
theorem lam_takes {A : Around} {outer : List Env} {E : XK} {scope : Scope} {f c : Addr} : Takes (lamK X outer A s H E scope f c) (fun cls d _ H => E cls d H) := takes_of rfl rfl rfl rfl
def LamB (X : Cx) (T : Tx) (k : Nat) (scope : Scope) (body : Expr) (fb : FnE) : Prop :=
  ∀ (A : Around) (outer : List Env) (s : Shared) (H : Hp) (E : XK) (W : WX) (f c : Addr), RoomG k (A.deeper (LamX.lamEnv X scope s.heap.objs.size f c)) → Takes (lamK X outer A s H E scope f c) W → FE (lamK X outer A s H E scope f c) T W body fb
theorem fe_act {CXg : CXT} {Eg : XK} {Ng : List Str} {qg : Str} {sg : Scope} {g f c : Addr} {cdg pm ctv : Value} {q : List Nat} {params : Arguments} {body : Expr} {fb : FnE} {scope : Scope} {k i n : Nat} {a : Str} {pn : List (Addr × Obj)} {xe : Value → Shared → Prop} {p1 p2 : Pos}
    (I : Inv X pins σ H s) (L : LamX.LamS X.env.scope scope) (hq : X.env.qual ++ "<lambda>" = ⟨q.toArray⟩) (hf : s.heap.get? f = some (PySem.W.kla_obj "<lambda>" (X.env.qual ++ "<lambda>") params body scope (cloFrom X.env.cells scope.names []) pm c ctv)) (hfn : H f = none) (hfr : f ∉ frs X.stack)
    (hbind : bindArgs (PySem.W.kla_fn "<lambda>" (X.env.qual ++ "<lambda>") params body scope (cloFrom X.env.cells scope.names []) pm (.ref c) ctv) ⟨[], []⟩ = pure []) (hT : ∀ k, T.ep k = none)
    (tk : Takes ((cxOf CXg X.prog X.w X.K X.mg X.base Ng qg sg g cdg X.A X.stack s H Eg).tr pn xe) W) (hr : RoomG (k + 1) (X.A.deeper (envOfC qg sg s.heap.objs.size g cdg))) (hb : LamB X T k scope body fb)
    (hN : Ng[i]? = some a) (hv : Vis sg a) (hd : (a == ("__debug__" : Str)) = false) (hcd : (a == ("__classdict__" : Str)) = false) :
    FE ((cxOf CXg X.prog X.w X.K X.mg X.base Ng qg sg g cdg X.A X.stack s H Eg).tr pn xe) (T.lm n f c σ) W (.Call (.Name a p1) [] [] p2) (eAct q fb i) := by
  refine ⟨fun pinsZ sZ σZ HZ Q IZ ⟨G, h, δ, r, sl, o⟩ => ?_⟩
  unfold eAct at o
  cases e : δ[i]? with
  | none => rw [e] at o; exact o.elim
  | some od =>
    cases od with
    | none => rw [e] at o; exact o.elim
    | some d =>
      rw [e] at o
      cases d with
      | ref m =>
        dsimp only at o
        cases z : h[m]? with
        | none => rw [z] at o; exact o.elim
        | some ob =>
          rw [z] at o
          cases ob with
          | lam q' cap =>
            dsimp only at o
            by_cases eq : q' = q
            · subst eq
              rw [if_pos rfl] at o
              obtain ⟨f2, c2, w1, w2, w3, w4⟩ := r.obj m _ z
              have hm : m = n := by
                by_cases hm : m = n
                · exact hm
                · have w2' : (if m = n then some (f, Value.ref c, (none : Option Addr)) else none) = some (f2, Value.ref c2, none) := w2
                  rw [if_neg hm] at w2'; cases w2'
              subst hm
              have w2' : (if m = m then some (f, Value.ref c, (none : Option Addr)) else none) = some (f2, Value.ref c2, none) := w2
              rw [if_pos rfl] at w2'
              cases w2'
              have ws : RSl X.K T G cap σ := RSl.cl (T := T.lm m f c σ) (T' := T) rfl w4
              obtain ⟨v, v1, v2⟩ := sl.at_ i _ e
              have ev : v = .ref f := by
                cases v2 with
                | ref hι => rw [w1] at hι; cases hι; rfl
              subst ev
              have o2 : okR X.K T (fun cls d _ H' => W cls d σZ H') G σ (RD X.K T) (fb cap (h.set m .dead)) Q := okR.act hT w1 w3 ws (fun _ _ _ y => y) o
              refine wpAny_Call_Name_kw (thn ((pe_var (pos := p1) hN hv hd hcd).run pinsZ sZ σZ HZ (fun v H1 => v = .ref f ∧ H1 = HZ) IZ ⟨.ref f, v1, rfl, rfl⟩) fun u s1 y => ?_)
              obtain ⟨_, H1, J, ru, rfl, rfl⟩ := y
              cases (show u = Value.ref f from ru)
              have there := J.base.keep f _ hf hfn hfr (fun y => nomatch (show f ∈ ([] : List Addr) from y))
              obtain ⟨⟨oc, vs, t, k1, k2, k3⟩, _⟩ := J.hok c _ (r.sub _ _ w3)
              refine PySem.W.callWith_F0 ⟨_, _, _, _, there⟩ (wpAny_call (codeAny_mono (R := CR (L2.CX X.prog X.w) (envOfC qg sg s.heap.objs.size g cdg :: X.stack) X.prog X.w H1 s1 Q fun cls d H' => W cls d σZ H') ?_ fun res s' y => ?_))
              · refine PySem.W.kla_callFunE hr.r.depth there rfl L.co L.gen rfl ⟨c, oc, vs, t, rfl, k1, k2, by rw [hq]; exact k3⟩ ?_
                show wpAny _ _ (bindArgs _ ⟨[], []⟩) _ _ _
                rw [hbind]
                refine wpAny_pure (wpAny_newFunctionEnv (fun y hy => (L.own y hy).2) (fun y hy => absurd hy (by simp)) (fun h1 ns ext => ⟨J.nolimit.fresh _ ext, PySem.W.kla_codeExpr ?_⟩) L.kind)
                have kept : ∀ b o, s1.heap.get? b = some o → h1.get? b = some o := fun b o y => ext.extBut b o (Nat.ne_of_lt (Heap.lt_size y)) (Heap.get?_push_of_some _ y)
                have J2 := LamX.lam_start2 (tk := s1.toks + ([] : List (Str × Value)).length) (E := fun cls d H' => W cls d σZ H') (f := f) (c' := c) I L J.env0 hr.r.hd J.base ns kept
                exact wpAny_mono ((hb _ _ s1 H1 _ _ f c ⟨hr.r.deeper _, hr.g⟩ lam_takes).run [] _ σ H1 Q J2 ⟨G, _, cap, r.away, ws, o2⟩) (fun v s' y => let ⟨w', H', J', rv, q⟩ := y; ⟨w', H', J'.os, J'.bare, J'.base, J'.hok, rv, q⟩) fun _ _ y => y
              · match res, y with
                | .error e, y => exact tk e s' (XE.of_call J (fun _ _ _ y => y) y)
                | .ok (.ret u), y => exact J.after y
                | .ok .next, y => exact y.elim
                | .ok .brk, y => exact y.elim
                | .ok .cont, y => exact y.elim
            · rw [if_neg eq] at o; exact o.elim
          | _ => exact o.elim
      | _ => exact o.elim
def noXK : XK := fun _ _ _ => False
def GivL (X : Cx) (T : Tx) (k : Nat) (Ng : List Str) (x : Str) (sg : Scope) (g : Addr) (cdg : Value) (bg : List Stmt) (a : Str) (u : List Nat → FnE → FnS) : Prop :=
  ∀ (q : List Nat) (fb : FnE) (n : Nat) (f c : Addr) (σ : L2.St) (s : Shared) (H : Hp) (W : WX),
    (∀ (W : WX) (pn : List (Addr × Obj)) (xe : Value → Shared → Prop) (p1 p2 : Pos), Takes ((cxOf (L2.CX X.prog X.w) X.prog X.w X.K X.mg X.base Ng x sg g cdg X.A X.stack s H noXK).tr pn xe) W →
      FE ((cxOf (L2.CX X.prog X.w) X.prog X.w X.K X.mg X.base Ng x sg g cdg X.A X.stack s H noXK).tr pn xe) (T.lm n f c σ) W (.Call (.Name a p1) [] [] p2) (eAct q fb 0)) →
    RoomG k (X.A.deeper (envOfC x sg s.heap.objs.size g cdg)) → Takes (cxOf (L2.CX X.prog X.w) X.prog X.w X.K X.mg X.base Ng x sg g cdg X.A X.stack s H noXK) W →
    FSs (cxOf (L2.CX X.prog X.w) X.prog X.w X.K X.mg X.base Ng x sg g cdg X.A X.stack s H noXK) (T.lm n f c σ) W bg (u q fb)
def lamEnd (n : Nat) : R D → R D
  | .ok x h => .ok x (h.set n .dead)
  | _ => .stk
def eLam (t : Nat) (q : List Nat) (sem : List Nat → FnE → Sem3) (fb : FnE) : FnE := fun δ h => match h[t]? with
  | some (.tab q') => if q' = q then lamEnd h.length (sem q fb [.ref h.length] (h ++ [.lam q δ])) else .stk
  | _ => .stk
theorem fe_lamcall {x a : Str} {g c P : Addr} {k t : Nat} {pg : Arguments} {bg : List Stmt} {sg : Scope} {fd : FuncData} {Ng : List Str} {q : List Nat} {params : Arguments} {body : Expr} {scope : Scope} {u : List Nat → FnE → FnS} {fb : FnE} {p lpos pos : Pos}
    (F : FunD X.K x x pg bg sg [] [] g fd) (S : FnScope Ng [a] sg) (bd : L2.Binds X.K fd [a] []) (hN : Ng[0]? = some a) (hv : Vis sg a) (hg : Gl X x) (hm : X.mg x = some (.ref g))
    (hG : ∀ cdg, GivL X T (k + 1) Ng x sg g cdg bg a u) (TB : LamX.TabB X.base X.mg c P) (hcode : X.env.code = .ref c) (ht : T.tb q = some P) (hq : X.env.qual ++ "<lambda>" = ⟨q.toArray⟩) (hT : ∀ k, T.ep k = none)
    (hr : RoomG (k + 2) X.A) (L : LamX.LamS X.env.scope scope) (hdef : defaultsOf params X.env = ([], [])) (hbind : ∀ (q : Str) (cl : List (Str × Addr)) (pm cv ctv : Value), bindArgs (PySem.W.kla_fn "<lambda>" q params body scope cl pm cv ctv) ⟨[], []⟩ = pure [])
    (hb : LamB X T k scope body fb) (hdb : (x == ("__debug__" : Str)) = false := by decide) (hd : (a == ("__debug__" : Str)) = false := by decide) (hcd : (a == ("__classdict__" : Str)) = false := by decide) :
    FE X T W (.Call (.Name x p) [.Lambda params body scope lpos] [] pos) (eLam t q (fun q fb => runD Ng.length (u q fb)) fb) := by
  refine ⟨fun pins s σ H Q I ⟨G, h, δ, r, sl, o⟩ => ?_⟩
  unfold eLam at o
  cases z : h[t]? with
  | none => rw [z] at o; exact o.elim
  | some ob =>
    rw [z] at o
    cases ob with
    | tab q' =>
      dsimp only at o
      by_cases eq : q' = q
      · subst eq
        rw [if_pos rfl] at o
        obtain ⟨oc, od, dV, kV, doc, pmg, an, cdg, ct, osl, rfl, lk, hcg, _, _⟩ := F.ex
        refine wpAny_Call_Name_kw (ld_glob I hg hm (PySem.W.callWith_K (h₀ := X.base) I.ok.mod.kin F.kp ?_ (by rfl) (by rfl)) hdb)
        show wpAny _ _ (spliced ((false, eval (.Lambda params body scope lpos) X.env) :: backTo pos (starEach [] X.env))) _ _ s
        refine Calls.spliced_cons (lam_new I TB hcode ht hq r z hdef (L.has I.ok) fun f c' pm ctv G1 H1 s' I1 x1 r1 hz hf hfn hfr => Calls.spliced_nil ⟨I1.kIn, ?_⟩)
        obtain ⟨x2, at2, r2⟩ := r1.lam (f := f) (cap := δ) (σ := σ) hT hz (sl.mono x1)
        have o2 : okR X.K (T.lm h.length f c' σ) (fun cls d _ H => noXK cls d H) (G1.held f) ([] : L2.St) (RD X.K (T.lm h.length f c' σ)) (runD Ng.length (u q' fb) [.ref h.length] (h ++ [.lam q' δ])) Q := by
          cases e : runD Ng.length (u q' fb) [.ref h.length] (h ++ [.lam q' δ]) with
          | ok y h' => rw [e] at o; exact fun G' H' v x r d => o G' H' v (x1.trans (x2.trans x)) r.away (RD.cl (T := T.lm h.length f c' σ) (T' := T) rfl d)
          | exc c0 ds h' => rw [e] at o; exact o.elim
          | stk => rw [e] at o; exact o.elim
        have run := LamX.run_ofS (CX := L2.CX X.prog X.w) (A := X.A) (outer := X.stack) (s := s') (H := H1) (Q := Q) (E := noXK) (k := k + 1) (N := Ng) (ps := [a]) (us := [.ref f]) (vs := [.ref f]) lk hcg S hr.r I1.env0 (bd s' [.ref f] I1.kIn rfl) (.cons rfl .nil) rfl fun hr' =>
          ⟨_, hG cdg q' fb h.length f c' σ s' H1 _ (fun W pn xe p1 p2 tk => fe_act I1 L hq hf hfn hfr (hbind _ _ _ _ _) hT tk ⟨hr', hr.g⟩ hb hN hv hd hcd) ⟨hr', hr.g⟩ (takes_of rfl rfl rfl rfl), def_read ⟨rfl, _, _, [.ref h.length], r2, .cons (.ref at2) .nil, o2⟩⟩
        refine wpAny_call (codeAny_mono run fun res s2 y => ?_)
        match res, y with
        | .error e, y =>
          obtain ⟨_, _, _, _, _, _, _, _, _, _, _, _, w⟩ := y
          exact (show False from w).elim
        | .ok (.ret u), y => exact I1.after y
        | .ok .next, y => exact y.elim
        | .ok .brk, y => exact y.elim
        | .ok .cont, y => exact y.elim
      · rw [if_neg eq] at o; exact o.elim
    | _ => exact o.elim
end
end L3
set_option autoImplicit false
set_option maxHeartbeats 4000000
namespace L3
open PySem PySem.Spec L2 PyProof.Rows
open He (ga ma)
def cdV (K : PySem.W.Frag) (f : Addr) : Value := match K.lookup f with
  | some ⟨_, _, .func fd, _⟩ => fd.code
  | _ => .none
def cdA (K : PySem.W.Frag) (f : Addr) : Addr := match cdV K f with
  | .ref c => c
  | _ => 0
def tbA (K : PySem.W.Frag) (f : Addr) : Addr := match K.lookup (cdA K f) with
  | some ⟨_, _, .fields vs, _⟩ => (match (vs[11]? : Option Value) with
    | some (.ref P) => P
    | _ => 0)
  | _ => 0
def hdB (o : Option Obj) (c P : Addr) : Bool := match o with
  | some ⟨.type t, _, .fields vs, _⟩ => t == "code" && ((match (vs[11]? : Option Value) with | some (.ref P') => P' == P | _ => false) && ((match vs.getD 18 .none with | .str _ _ => true | _ => false) && ((match vs.getD 7 .none with | .int _ _ => true | _ => false) &&
    ((match vs.getD 9 .none with | .bool _ => true | _ => false) && ((match vs.getD 10 .none with | .int _ _ => true | _ => false) && c != P)))))
  | _ => false
def tabB (K : PySem.W.Frag) (f : Addr) : Bool := (match cdV K f with | .ref _ => true | _ => false) && ((K.lookup (tbA K f)).isNone && hdB (K.lookup (cdA K f)) (cdA K f) (tbA K f))
theorem hd_ok {h : Heap} {c P : Addr} {o : Obj} (e : h.get? c = some o) (q : hdB (some o) c P = true) : PySem.W.CodeHd h c P := by
  unfold hdB at q
  split at q
  · rename_i t d vs sl ho
    cases ho
    simp only [Bool.and_eq_true, beq_iff_eq, bne_iff_ne] at q
    obtain ⟨q1, q2, q3, q4, q5, q6, q7⟩ := q
    have p11 : (vs[11]? : Option Value) = some (.ref P) := by
      split at q2
      · rename_i P' e; rw [e, eq_of_beq q2]
      · cases q2
    refine ⟨⟨.type t, d, .fields vs, sl⟩, vs, ?_⟩
    cases e18 : vs.getD 18 .none with
    | str file tf =>
      cases e7 : vs.getD 7 .none with
      | int flags tg =>
        cases e9 : vs.getD 9 .none with
        | bool inF =>
          cases e10 : vs.getD 10 .none with
          | int text tt => exact ⟨file, tf, flags, tg, inF, text, tt, e, by rw [q1], rfl, p11, by rw [Array.getD_eq_getD_getElem?, p11]; rfl, rfl, rfl, rfl, rfl, q7⟩
          | _ => rw [e10] at q6; cases q6
        | _ => rw [e9] at q5; cases q5
      | _ => rw [e7] at q4; cases q4
    | _ => rw [e18] at q3; cases q3
  · cases q
theorem tab_ok {K : PySem.W.Frag} {h : Heap} {f : Addr} (X : K.In h) (q : tabB K f = true) : cdV K f = .ref (cdA K f) ∧ K.lookup (tbA K f) = none ∧ PySem.W.CodeHd h (cdA K f) (tbA K f) := by
  unfold tabB at q
  simp only [Bool.and_eq_true] at q
  obtain ⟨q1, q2, q3⟩ := q
  refine ⟨?_, Option.isNone_iff_eq_none.mp q2, ?_⟩
  · unfold cdA
    cases e : cdV K f with
    | ref c => rfl
    | _ => rw [e] at q1; cases q1
  · cases e : K.lookup (cdA K f) with
    | none => rw [e] at q3; cases q3
    | some o => rw [e] at q3; exact hd_ok (X _ _ e) q3
def empB (g : Addr → Option Obj) (P : Addr) : Bool := match g P with
  | some ⟨.none, none, .fields ⟨[]⟩, ⟨[]⟩⟩ => true
  | _ => false
theorem emp_ok {g : Addr → Option Obj} {P : Addr} (q : empB g P = true) : g P = some { cls := .none, data := .fields #[] } := by
  unfold empB at q
  split at q
  · rename_i e; rw [e] <;> rfl
  · cases q
def noTab (g : Addr → Option Obj) (a : Addr) : Bool := match g a with
  | some ⟨.none, _, .fields _, _⟩ => false
  | _ => true
def frM (g : Addr → Option Obj) (n : Nat) : PySem.W.Frag := He.frG g ((He.asD g n ++ [cStatics]).filter (noTab g))
def obsM (fl : List Fl) (fn : List DefL) (tbs : List Str) (g : Addr → Option Obj) (K : PySem.W.Frag) : Bool × AlL := (decide (tbs.map fun x => tbA K (ga K x)).Nodup && tbs.all fun x => tabB K (ga K x) && empB g (tbA K (ga K x)), obsL fl fn K)
def valM (fn : List DefL) : Bool × AlL := (true, valL fn)
def obsMG (n : Nat) (fl : List Fl) (fn : List DefL) (tbs : List Str) (g : Addr → Option Obj) : Bool × AlL := obsM fl fn tbs g (frM g n)
def TabsAt (tbs : List Str) (K : PySem.W.Frag) (h : Heap) : Prop := ∀ x ∈ tbs, tabB K (ga K x) = true ∧ h.get? (tbA K (ga K x)) = some { cls := .none, data := .fields #[] }
def hookM (n : Nat) (fl : List Fl) (fn : List DefL) (tbs : List Str) : PySem.W.Hook where
  α := Bool × AlL
  obs := fun s => obsMG n fl fn tbs s.heap.get?
  val := fun _ => valM fn
  says := fun _ h => ∃ K : PySem.W.Frag, K.In h ∧ SaysL fl fn K ∧ (tbs.map fun x => tbA K (ga K x)).Nodup ∧ TabsAt tbs K h
  of := fun _ s e => by
    have e1 : (decide (tbs.map fun x => tbA (frM s.heap.get? n) (ga (frM s.heap.get? n) x)).Nodup && tbs.all fun x => tabB (frM s.heap.get? n) (ga (frM s.heap.get? n) x) && empB s.heap.get? (tbA (frM s.heap.get? n) (ga (frM s.heap.get? n) x))) = true := congrArg (fun z : Bool × AlL => z.1) e
    rw [Bool.and_eq_true] at e1
    refine ⟨frM s.heap.get? n, He.frG_in, congrArg (fun z : Bool × AlL => z.2) e, of_decide_eq_true e1.1, fun x hx => ?_⟩
    have e2 := List.all_eq_true.mp e1.2 x hx
    rw [Bool.and_eq_true] at e2
    exact ⟨e2.1, emp_ok e2.2⟩
  keeps := fun _ _ _ ⟨K, hK, c, nd, t⟩ k => ⟨K, PySem.W.Frag.In.keeps hK k, c, nd, fun x hx => ⟨(t x hx).1, k _ _ (t x hx).2⟩⟩
theorem obsMG_eq {n : Nat} {fl : List Fl} {fn : List DefL} {tbs : List Str} {g : Addr → Option Obj} {s : Shared} (h : ∀ a, g a = s.heap.get? a) : obsMG n fl fn tbs g = (hookM n fl fn tbs).obs s := by
  have e : g = s.heap.get? := funext h
  rw [e] <;> rfl
def TbsOk (tbs : List Str) (K : PySem.W.Frag) (mg : Str → Option Value) (base : Heap) : Prop := ∀ x ∈ tbs, cdV K (ga K x) = .ref (cdA K (ga K x)) ∧ LamX.TabB base mg (cdA K (ga K x)) (tbA K (ga K x))
theorem fnQ_ofC {CX : CXT} {P : Program} {w : World} {K : PySem.W.Frag} {mg : Str → Option Value} {base : Heap} {k : Nat} {f : Addr} {x qual : Str} {params : Arguments} {body : List Stmt} {scope : Scope} {dvs : List V} {kws : List (Str × V)} {fd : FuncData} {N ps : List Str} {sp : Sp}
    (F : FunD K x qual params body scope dvs kws f fd) (S : FnScope N ps scope) (size : ∀ vs H Q E, sp vs H Q E → vs.length = ps.length)
    (hb : ∀ (A : Around) (outer : List Env) (s : Shared) (H : Hp) (vs : List V) (Q : VK) (E : XK), RoomG k (A.deeper (envOfC qual scope s.heap.objs.size f (cdV K f))) → sp vs H Q E →
      ∃ t, PSs (cxOf CX P w K mg base N qual scope f (cdV K f) A outer s H E) body t ∧ t { nx := fun _ H' => Q .non H', rt := Q } (L2.start N vs) H) : FnQ P w K mg base CX (k + 1) f fd ps sp := by
  obtain ⟨oc, od, dV, kV, doc, pm, an, cdv, ct, osl, rfl, lk, hcd, _, _⟩ := F.ex
  have ec : cdV K f = cdv := by unfold cdV; rw [lk]
  subst ec
  refine ⟨size, fun A outer s H args us vs Q E room e0 bd r hsp => ?_⟩
  have many := size _ _ _ _ hsp
  have here : K.In s.heap := e0.mod.kin.keeps fun b o e => (e0.bs b o e).1
  have free : s.heap.NoLimit := e0.mod.nolimit.keeps fun b o e => (e0.bs b o e).1
  have kinds : ∀ y ∈ ps.zip us, scope.names.lookup y.1 = some .local ∨ (scope.names.lookup y.1 = some .cell ∧ ((cellsFrom (s.heap.objs.size + 1) scope.names []).lookup y.1).isSome = true) := by
    rintro ⟨n, v⟩ hy
    exact (S.par n (List.of_mem_zip hy).1).elim .inl fun q => .inr ⟨q, PySem.W.cellsFrom_some _ _ _ (.inl q)⟩
  refine codeAny_call_function room.r.depth (here _ _ lk) rfl S.co S.gen rfl (PySem.W.codeRec_of here hcd) (bd _ _ _ _ (wpAny_newFunctionEnv_cells S.kind kinds fun env he s1 z => ?_))
  cases he
  refine ⟨free.keeps z.toInCall.keep, codeAny_func ?_⟩
  obtain ⟨t, ht, ends⟩ := hb A outer s H vs Q E ⟨room.r.deeper _, room.g⟩ hsp
  have J := inv_start (CX := CX) (P := P) (w := w) (mg := mg) (base := base) (qual := qual) (f := f) (cd := cdV K f) (E := E) S room.r.hd e0 many r z
  refine wpAny_mono (ht.run [] s1 (L2.start N vs) H _ J ends) (fun fl s' q => ?_) fun e s' q => q
  match fl, q with
  | .ret u, ⟨v, σ', H', J', rv, q⟩ => exact (⟨v, H', J'.os, J'.bare, J'.base, J'.hok, rv, q⟩ : CE outer P w H s Q u s')
  | .next, ⟨σ', H', J', q⟩ => exact (⟨V.non, H', J'.os, J'.bare, J'.base, J'.hok, rfl, q⟩ : CE outer P w H s Q Value.none s')
  | .brk, ⟨_, _, _, q⟩ => exact q.elim
  | .cont, ⟨_, _, _, q⟩ => exact q.elim
theorem def_okC {P : Program} {w : World} {K : PySem.W.Frag} {mg : Str → Option Value} {base : Heap} {T : Tx} {x qual : Str} {params : Arguments} {body : List Stmt} {scope : Scope} {dvs : List V} {kws : List (Str × V)} {f : Addr} {fd : FuncData} {N ps : List Str} {k : Nat} {u : FnS} (F : FunD K x qual params body scope dvs kws f fd) (S : FnScope N ps scope)
    (hb : ∀ (A : Around) (outer : List Env) (s : Shared) (H : Hp) (E : XK) (W : WX), RoomG k (A.deeper (envOfC qual scope s.heap.objs.size f (cdV K f))) →
      Takes (cxOf (L2.CX P w) P w K mg base N qual scope f (cdV K f) A outer s H E) W → FSs (cxOf (L2.CX P w) P w K mg base N qual scope f (cdV K f) A outer s H E) T W body u) :
    FnL P w K mg base T (k + 1) f fd ps (runD N.length u) :=
  fnQ_ofC F S (fun vs H Q E h => h.1) fun A outer s H vs Q E hr h => ⟨_, hb A outer s H E _ hr (takes_of rfl rfl rfl rfl), def_read h⟩
def tabH (qs : List (List Nat)) : Hh := qs.map O.tab
theorem law_spM {K : PySem.W.Frag} {T : Tx} {sem : Sem3} {H : Hp} {a : Addr} {ns : List Int} {tbs : List Str} {qs : List (List Nat)} (hq : qs.length = tbs.length) (hnd : (tbs.map fun x => tbA K (ga K x)).Nodup) (hT : ∀ (i : Nat) x q, tbs[i]? = some x → qs[i]? = some q → T.tb q = some (tbA K (ga K x)))
    (hH : ∀ x ∈ tbs, H (tbA K (ga K x)) = some (.tbl #[])) (Hz : Hp) (hz : ∀ b o, Hz b = some o → H b = some o) (hzt : ∀ x ∈ tbs, Hz (tbA K (ga K x)) = none) (hS : SqL K Hz a (ns.map V.int)) (hp : ∃ h', sem [.scr (ns.map D.int)] (tabH qs) = .ok (.bl true) h') : sp3 K T 1 sem [.ref a] H (fun v _ => v = .bl true) fun _ _ _ => False := by
  obtain ⟨h', e⟩ := hp
  have ld : ∀ (G : Gst) (ns : List Int), RDs K T G (ns.map D.int) (ns.map V.int) := fun G ns => by
    induction ns with
    | nil => exact .nil
    | cons n ns ih => exact .cons .int ih
  let ps := tbs.map fun x => tbA K (ga K x)
  let ow : Addr → Option Nat := fun b => ps.findIdx? (· == b)
  have mem : ∀ b n, ow b = some n → n < ps.length ∧ ps[n]? = some b := fun b n z => by
    obtain ⟨h1, h2, _⟩ := List.findIdx?_eq_some_iff_getElem.mp z
    exact ⟨h1, by rw [List.getElem?_eq_getElem h1]; exact congrArg some (eq_of_beq h2)⟩
  have back : ∀ (n : Nat) b, ps[n]? = some b → ow b = some n := fun n b z => by
    obtain ⟨h1, h2⟩ := List.getElem?_eq_some_iff.mp z
    refine List.findIdx?_eq_some_iff_getElem.mpr ⟨h1, by rw [h2]; exact beq_self_eq_true b, fun j hj => ?_⟩
    simp only [Bool.not_eq_true, beq_eq_false_iff_ne]
    intro w
    have := (List.getElem_inj hnd).mp (w.trans h2.symm)
    omega
  have inT : ∀ (n : Nat) b, ps[n]? = some b → ∃ x ∈ tbs, b = tbA K (ga K x) := fun n b z => by
    obtain ⟨x, hx, e⟩ := List.mem_map.mp (List.mem_of_getElem? z)
    exact ⟨x, hx, e.symm⟩
  refine ⟨rfl, ⟨ps, ow, Hz, noH, fun _ => none⟩, tabH qs, [.scr (ns.map D.int)], ⟨by simp [tabH, ps, hq], hz, fun b n z => ?_, fun a o h => absurd h (by simp [noH]), fun a o h => absurd h (by simp), fun n o z => ?_⟩, .cons (.scr hS (ld _ _)) .nil, ?_⟩
  · obtain ⟨h1, h2⟩ := mem b n z
    obtain ⟨x, hx, rfl⟩ := inT n b h2
    exact ⟨by rw [show (tabH qs).length = ps.length by simp [tabH, ps, hq]]; exact h1, hzt x hx, by rw [hH x hx]; simp⟩
  · unfold tabH at z
    rw [List.getElem?_map] at z
    obtain ⟨q, e1, rfl⟩ := Option.map_eq_some_iff.mp z
    have hn : n < tbs.length := by rw [← hq]; exact (List.getElem?_eq_some_iff.mp e1).1
    have e2 : tbs[n]? = some tbs[n] := List.getElem?_eq_getElem hn
    have e3 : ps[n]? = some (tbA K (ga K tbs[n])) := by rw [List.getElem?_map, e2]; rfl
    exact ⟨_, #[], e3, back n _ e3, hH _ (List.mem_of_getElem? e2), hT n _ _ e2 e1, trivial, fun pos cv w => by
      have w' : codeAmong pos [] = some cv := w
      simp [codeAmong] at w'⟩
  · rw [e]
    intro G' H' v x r d
    cases d
    rfl
theorem law_callM {P : Program} {w : World} {K : PySem.W.Frag} {mg mb : Str → Option Value} {CX : CXT} {k : Nat} {fa a : Addr} {fd : FuncData} {x : Str} {sp : Sp} {s : Shared} {vs : List Value} {ns : List Int} {tbs : List Str}
    (KX : K.In s.heap) (tt : TabsAt tbs K s.heap) (hns : s.heap.Ns mainGlobals mg) (hb : s.heap.Ns builtinsNs mb) (hbb : ∀ x : Str, x ≠ "__name__" → mb x = bootBuiltins x) (hlim : s.heap.NoLimit) (hg : s.gens = #[])
    (hbm : ∃ (bm : Addr) (ob : Obj), mg "__builtins__" = some (.ref bm) ∧ bm ≠ builtinsNs ∧ s.heap.get? bm = some ob ∧ ob.cls = .type "module" ∧ ob.dict = some builtinsNs ∧ ob.data = .plain)
    (ha : s.heap.get? a = some { cls := .type "list", data := .seq vs.toArray }) (hi : IntsAre vs ns) (hl : ns.length ≤ sizeLine) (hr : Room k callerA)
    (F : ∀ base : Heap, TbsOk tbs K mg base → FnQ P w K mg base CX k fa fd [x] sp) (bd : ∀ (s : Shared) (u : Value), BindsTo s fd ⟨[u], []⟩ [(x, u)])
    (hsp : ∀ H Hz : Hp, (∀ x ∈ tbs, H (tbA K (ga K x)) = some (.tbl #[])) → (∀ b o, Hz b = some o → H b = some o) → (∀ x ∈ tbs, Hz (tbA K (ga K x)) = none) → SqL K Hz a (ns.map V.int) → sp [.ref a] H (fun v _ => v = .bl true) fun _ _ _ => False)
    (noex : ∀ H e s', CX [] H s (fun _ _ _ => False) e s' → False) :
    codeAny (model P w) callerA (.call (.ref fa) ⟨[.ref a], []⟩) (fun r s' => r = .ok (.ret (.bool true)) ∧ OldK s.heap s'.heap ∧ s'.os = s.os ∧ AllBare s'.gens) s := by
  have valsI := vals_ints hi
  have many := hi.length
  let PT : Addr → Prop := fun b => ∃ x ∈ tbs, b = tbA K (ga K x)
  have isT : ∀ b, PT b → s.heap.get? b = some { cls := .none, data := .fields #[] } := fun b ⟨x, hx, e⟩ => by rw [e]; exact (tt x hx).2
  have nK : ∀ b, PT b → K.lookup b = none := fun b ⟨x, hx, e⟩ => by rw [e]; exact (tab_ok KX (tt x hx).1).2.1
  have aT : ¬ PT a := fun z => by
    have q := isT a z
    rw [ha] at q
    exact absurd (congrArg Obj.data (Option.some.inj q) : Data.seq vs.toArray _ = Data.fields #[]) (by simp)
  have main : ∀ H Hz : Hp, (∀ b, PT b → H b = some (.tbl #[])) → (∀ b, ¬ PT b → H b = Hz b) → (∀ b, PT b → Hz b = none) → (∀ b, Hz b = none ∨ (b = a ∧ K.lookup a = none ∧ ∃ o xs, Hz b = some (.frz o (.lst xs)))) → SqL K Hz a (ns.map V.int) → HOk P w H s.heap →
      codeAny (model P w) callerA (.call (.ref fa) ⟨[.ref a], []⟩) (fun r s' => r = .ok (.ret (.bool true)) ∧ OldK s.heap s'.heap ∧ s'.os = s.os ∧ AllBare s'.gens) s := by
    intro H Hz hH hHz hzT told hS hok
    have notold : ∀ {b : Addr} {o : Obj}, s.heap.get? b = some o → (b = a → K.lookup a = none → False) → ¬ PT b → H b = none := fun {b o} e n nt => by
      rw [hHz b nt]
      exact (told b).elim id fun q => (n q.1 q.2.1).elim
    have notT : ∀ {b : Addr} {o : Obj}, s.heap.get? b = some o → o.data ≠ .fields #[] → ¬ PT b := fun {b o} e n z => by
      rw [isT b z] at e; cases e; exact n rfl
    have notA : ∀ {b : Addr} {o : Obj}, s.heap.get? b = some o → (∀ vs n, o.data ≠ .seq vs n) → b = a → K.lookup a = none → False := fun {b o} e n q _ => by
      subst q
      rw [ha] at e; cases e
      exact n _ _ rfl
    have at_ : ∀ {b : Addr} {o : Obj}, s.heap.get? b = some o → (∀ vs n, o.data ≠ .seq vs n) → o.data ≠ .fields #[] → (hidT s.heap H).get? b = some o := fun {b o} e n1 n2 => hidT_get e (notold e (notA e n1) (notT e n2))
    have dicts : ∀ {b : Addr} {m : Str → Option Value}, s.heap.Ns b m → (hidT s.heap H).Ns b m := fun {b m} ⟨o, es, ep, e, d, r⟩ => ⟨o, es, ep, at_ e (fun vs n => by rw [d]; simp) (by rw [d]; simp), d, r⟩
    have kin : K.In (hidT s.heap H) := fun b o e => hidT_get (KX b o e) (notold (KX b o e) (fun q n => by subst q; rw [n] at e; cases e) fun z => by rw [nK b z] at e; cases e)
    have md : Mod K mg (hidT s.heap H) := ⟨kin, dicts hns, ⟨mb, dicts hb, hbb⟩, let ⟨mc, h1, h2⟩ := hlim; ⟨mc, dicts h1, h2⟩⟩
    have e0 : Env0 P w K mg (hidT s.heap H) callerA [] s H := ⟨rfl, md, fun b o e => of_hidT e, Nat.le_of_eq (hidT_size _ _), trivial, fun b hb => absurd (show b ∈ ([] : List Addr) from hb) (by simp), hok, .of_eq hg⟩
    have tb : TbsOk tbs K mg (hidT s.heap H) := fun x hx => by
      have hT := (tt x hx).2
      refine ⟨(tab_ok kin (tt x hx).1).1, (tab_ok kin (tt x hx).1).2.2, ?_, fun z => ?_⟩
      · obtain ⟨bm, ob, b1, b2, b3, b4, b5, b6⟩ := hbm
        have nG : bm ≠ mainGlobals := fun q => by
          obtain ⟨o, es, ep, e, hd, _⟩ := hns
          rw [q, e] at b3
          cases b3
          rw [hd] at b6
          cases b6
        have nP : bm ≠ tbA K (ga K x) := fun q => by
          rw [q, hT] at b3
          cases b3
          cases b6
        exact ⟨bm, ob, b1, b2, nG, nP, at_ b3 (fun vs n => by rw [b6]; simp) (by rw [b6]; simp), b4, b5, b6⟩
      · obtain ⟨o, es, ep, e, hd, _⟩ := hns
        rw [z, hT] at e
        cases e
        cases hd
    refine codeAny_mono ((F (hidT s.heap H) tb).go callerA [] s H ⟨[.ref a], []⟩ [.ref a] [.ref a] _ _ ⟨hr, rfl⟩ e0 (bd s (.ref a)) (.cons rfl .nil) (hsp H Hz (fun x hx => hH _ ⟨x, hx, rfl⟩) (fun b o z => by
      by_cases q : PT b
      · rw [hzT b q] at z; cases z
      · rw [hHz b q]; exact z) (fun x hx => hzT _ ⟨x, hx, rfl⟩) hS)) fun r s' h => ?_
    match r, h with
    | .error e, h => exact (noex H e s' h).elim
    | .ok .next, h => exact h.elim
    | .ok .brk, h => exact h.elim
    | .ok .cont, h => exact h.elim
    | .ok (.ret u), ⟨v, H', os, bare, un, hok', r', q⟩ =>
      have eq : v = .bl true := q
      subst eq
      cases (show u = Value.bool true from r')
      have key : ∀ b o, ¬ PT b → s.heap.get? b = some o → s'.heap.get? b = some o := fun b o nt e => by
        rcases told b with q | ⟨_, _, ob, xs, q⟩
        · exact un.keep b o e (by rw [hHz b nt]; exact q) (by intro z; exact absurd (show b ∈ ([] : List Addr) from z) (by simp)) (by simp)
        · have q' : H b = some (.frz ob (.lst xs)) := by rw [hHz b nt]; exact q
          obtain ⟨e1, _⟩ := hok b _ q'
          obtain ⟨e2, _⟩ := hok' b _ (un.frzs b ob _ q')
          rw [e] at e1; cases e1
          exact e2
      have grown : ∀ b, PT b → ∃ more : Array Value, s'.heap.get? b = some { cls := .none, data := .fields more } := fun b z => by
        obtain ⟨more, y⟩ := un.tbls b #[] (hH b z)
        exact ⟨_, hok' b _ y⟩
      refine ⟨rfl, ⟨fun b o e => ?_, fun b o e => ?_⟩, os, bare⟩
      · by_cases z : PT b
        · obtain ⟨more, hm⟩ := grown b z
          have e' := isT b z
          rw [e'] at e
          cases e
          obtain ⟨x, hx, eb⟩ := z
          have hT := (tt x hx).2
          rw [eb] at hm ⊢
          exact .inr (.inl ⟨((tab_ok KX (tt x hx).1).2.2.tab hT).isCodeTable, rfl, #[], more, rfl, by rw [Array.empty_append]; exact hm⟩)
        · exact .inl (key b o z e)
      · by_cases z : PT b
        · obtain ⟨more, hm⟩ := grown b z
          exact ⟨_, hm⟩
        · exact ⟨o, key b o z e⟩
  have dec : ∀ b, Decidable (PT b) := fun b => Classical.propDecidable _
  cases hk : K.lookup a with
  | some o =>
    have e := KX a o hk
    rw [ha] at e
    cases e
    refine main (fun b => if PT b then some (.tbl #[]) else none) (fun _ => none) (fun b z => if_pos z) (fun b z => if_neg z) (fun _ _ => rfl) (fun _ => .inl rfl) (.inr ⟨_, vs.toArray, _, hk, rfl, rfl, rfl, by rw [List.size_toArray, many]; exact hl, by simpa using valsI⟩) fun b u z => ?_
    by_cases q : PT b
    · have z' := (if_pos q).symm.trans z
      cases z'
      exact isT b q
    · have z' := (if_neg q).symm.trans z
      cases z'
  | none =>
    refine main (fun b => if PT b then some (.tbl #[]) else if b = a then some (.frz { cls := .type "list", data := .seq vs.toArray } (.lst (ns.map V.int))) else none) (fun b => if b = a then some (.frz { cls := .type "list", data := .seq vs.toArray } (.lst (ns.map V.int))) else none) (fun b z => if_pos z) (fun b z => if_neg z)
      (fun b z => if_neg fun y => aT (by rw [← y]; exact z)) (fun b => ?_) (.inl (.inr ⟨{ cls := .type "list", data := .seq vs.toArray }, if_pos rfl⟩)) fun b u z => ?_
    · by_cases q : b = a
      · exact .inr ⟨q, hk, _, _, if_pos q⟩
      · exact .inl (if_neg q)
    · by_cases q : PT b
      · have z' := (if_pos q).symm.trans z
        cases z'
        exact isT b q
      · have z1 := (if_neg q).symm.trans z
        by_cases q2 : b = a
        · have z' := (if_pos q2).symm.trans z1
          cases z'
          subst q2
          exact ⟨ha, by rw [List.length_map]; exact hl, vs, _, valsI, ha⟩
        · have z' := (if_neg q2).symm.trans z1
          cases z'
theorem law_endM {l : PySem.W.OpenLaw} {n k : Nat} {q : Program} {loose : List Str} {XP : (Str → Option Value) → Heap → Prop} {d : DefRec} {x : Str} {fl : List Fl} {fn : List DefL} {m : Nat} {sem : Sem3} {tbs : List Str} {qs : List (List Nat)} {TX : World → PySem.W.Frag → Tx} (hn : l.most = some n) (hn2 : n ≤ sizeLine) (hdf : d.params.defaults = []) (hr : Room k callerA)
    (hnm : d.name = x) (i : Nat) (hi : fl[i]? = some (.k (.glo x))) (hq : qs.length = tbs.length)
    (hT : ∀ (w : World) (K : PySem.W.Frag) (i : Nat) x q, tbs[i]? = some x → qs[i]? = some q → (TX w K).tb q = some (tbA K (ga K x)))
    (F : ∀ (w : World) (mg : Str → Option Value) (K : PySem.W.Frag), Bs fl fn K mg → ∃ fd, (∀ base, TbsOk tbs K mg base → FnL l.prog w K mg base (TX w K) k (ga K x) fd ["_law_script"] sem) ∧ ∀ (s : Shared) (u : Value), BindsTo s fd ⟨[u], []⟩ [("_law_script", u)])
    (hp : ∀ ns : List Int, ns.length ≤ n → ∃ h', sem [.scr (ns.map D.int)] (tabH qs) = .ok (.bl true) h') :
    PySem.W.WalkO q loose XP (hookM m fl fn tbs).says l.row.toRowW d [] (fun f vs => PySem.call f vs) := by
  refine Att.attach_call hn hdf fun w s0 s1 mg mb fa o pm cd doc a vs ns G Y ho hd hcd hmg hobj hints hlen hg => ?_
  obtain ⟨K, KX, c, nd, tt⟩ := Y
  have B : Bs fl fn K mg := ⟨c, _, KX, G.T.g⟩
  obtain ⟨fd, hF, hb⟩ := F w mg K B
  have e := (hnm ▸ hmg : mg x = some (.ref fa)).symm.trans (B.glo i hi)
  cases e
  exact law_callM KX tt G.T.g G.T.b G.T.builtins G.T.nolimit hg G.T.bmain hobj hints (Nat.le_trans hlen hn2) hr hF hb (fun H Hz h1 h2 h3 hS => law_spM hq nd (hT w K) h1 Hz h2 h3 hS (hp ns hlen)) fun H e s' z => by
    obtain ⟨_, _, _, _, _, _, _, _, _, _, _, _, f⟩ := z
    exact f
end L3
set_option autoImplicit false
set_option maxHeartbeats 4000000
namespace L3
open PySem PySem.Spec L2 PyProof.Rows
open He (ga)
end L3
set_option autoImplicit false
set_option maxHeartbeats 4000000
namespace L3
open PySem PySem.Spec L2 PyProof.Rows
section
variable {X : Cx} {T : Tx} {W : WX} {pos : Pos}
end
end L3
set_option autoImplicit false
set_option maxHeartbeats 4000000
namespace L3
open PySem PySem.Spec L2 PyProof.Rows
def NPr (p : NRow) (q : NestedKey × Addr × Value) : Prop := p.1 = q.1 ∧ p.2.1 = q.2.1 ∧ RelV p.2.2 q.2.2
def ndEnt (w : World) (y : NestedKey × Addr × Value) : DictEntry := ⟨y.1.hash w, .ref y.2.1, y.2.2⟩
def NdF (w : World) (a : Addr) (xs : List NRow) (h : Heap) : Prop := xs.length ≤ sizeLine ∧ (a == sysModules) = false ∧ ∃ ys : List (NestedKey × Addr × Value), Paired NPr xs ys ∧
  ∃ o es ep, h.get? a = some o ∧ o.ExactDict ∧ o.data = .dict es ep ∧ es.toList = ys.map (ndEnt w) ∧ (ys.map (·.1)).Nodup
def NdO (w : World) (a : Addr) (xs : List NRow) : HO := .ext (NdF w a xs)
def NK (K : PySem.W.Frag) (H : Hp) (k : NestedKey) (a : Addr) : Prop := Dp K H (.ref a) k.data ∧ k.depth ≤ 8
structure NAt (K : PySem.W.Frag) (w : World) (H : Hp) (a : Addr) (xs : List NRow) : Prop where
  e : H a = some (NdO w a xs) ∨ ∃ od, H a = some (.frz od (NdO w a xs))
  nk : ∀ x ∈ xs, NK K H x.1 x.2.1
section
variable {X : Cx} {pins : List (Addr × Obj)} {σ : L2.St} {H : Hp} {s : Shared}
mutual
theorem Dp.nested (I : Inv X pins σ H s) : ∀ (k : NestedKey) (v : V) (u : Value), Dp X.K H v k.data → RelV v u → NestedIs s.heap k u
  | .none, _, _, h, r => by
    simp only [NestedKey.data] at h
    cases h; cases r; exact .none
  | .num i, _, _, h, r => by
    simp only [NestedKey.data] at h
    cases h
    obtain ⟨t, rfl⟩ := r
    exact .int i t
  | .text x, _, _, h, r => by
    simp only [NestedKey.data] at h
    cases h
    obtain ⟨t, rfl⟩ := r
    exact .text x t
  | .tup ks, _, _, h, r => by
    simp only [NestedKey.data] at h
    cases h with
    | tup hs ha =>
      cases r
      obtain ⟨its, rv, ⟨o, ho, hc, n, hd⟩, _⟩ := I.tuple hs
      exact .tup ho hc hd (by simpa using Dp.nestedAll I ks _ its ha rv)
theorem Dp.nestedAll (I : Inv X pins σ H s) : ∀ (ks : List NestedKey) (vs : List V) (us : List Value), DpAll X.K H vs (NestedKey.datas ks) → Vals vs us → NestedAll s.heap ks us
  | [], _, _, h, r => by
    simp only [NestedKey.datas] at h
    cases h; cases r; exact .nil
  | k :: ks, _, _, h, r => by
    simp only [NestedKey.datas] at h
    cases h with
    | cons h1 h2 =>
      cases r with
      | cons r1 r2 => exact .cons (Dp.nested I k _ _ h1 r1) (Dp.nestedAll I ks _ _ h2 r2)
end
theorem NK.is {k : NestedKey} {a : Addr} (I : Inv X pins σ H s) (h : NK X.K H k a) : (nestedKind X.prog X.w).is s.heap k a := ⟨Dp.nested I k _ _ h.1 rfl, h.2⟩
variable {A : Around} {E : Value → Shared → Prop} {a b : Addr} {xs : List NRow} {k : NestedKey} {v : V}
end
mutual
theorem kN_dp {K : PySem.W.Frag} {T : Tx} {G : Gst} {H : Hp} (sb : ∀ a o, G.fz a = some o → H a = some o) : ∀ (d : D) (k : NestedKey) (v : V), kN d = some k → RD K T G d v → Dp K H v k.data
  | .non, k, _, e, r => by simp only [kN] at e; cases e; cases r; simp only [NestedKey.data]; exact .non
  | .int _, k, _, e, r => by simp only [kN] at e; cases e; cases r; simp only [NestedKey.data]; exact .int _
  | .str _, k, _, e, r => by simp only [kN] at e; cases e; cases r; simp only [NestedKey.data]; exact .str _
  | .tup ds, k, _, e, r => by
    simp only [kN] at e
    cases q : kNs ds with
    | none => rw [q] at e; cases e
    | some ks =>
      rw [q] at e
      cases e
      cases r with
      | tup h1 h2 => simp only [NestedKey.data]; exact .tup (SqT.sub sb h1) (kNs_dp sb ds ks _ q h2)
  | .bl _, _, _, e, _ => by simp only [kN] at e; cases e
  | .lst _, _, _, e, _ => by simp only [kN] at e; cases e
  | .dic _ _, _, _, e, _ => by simp only [kN] at e; cases e
  | .obj _ _, _, _, e, _ => by simp only [kN] at e; cases e
  | .ref _, _, _, e, _ => by simp only [kN] at e; cases e
  | .scr _, _, _, e, _ => by simp only [kN] at e; cases e
theorem kNs_dp {K : PySem.W.Frag} {T : Tx} {G : Gst} {H : Hp} (sb : ∀ a o, G.fz a = some o → H a = some o) : ∀ (ds : List D) (ks : List NestedKey) (vs : List V), kNs ds = some ks → RDs K T G ds vs → DpAll K H vs (NestedKey.datas ks)
  | [], ks, _, e, r => by simp only [kNs] at e; cases e; cases r; simp only [NestedKey.datas]; exact .nil
  | d :: ds, ks, _, e, r => by
    simp only [kNs] at e
    cases q1 : kN d with
    | none => rw [q1] at e; cases e
    | some k1 =>
      cases q2 : kNs ds with
      | none => rw [q1, q2] at e; cases e
      | some k2 =>
        rw [q1, q2] at e
        cases e
        cases r with
        | cons r1 r2 => simp only [NestedKey.datas]; exact .cons (kN_dp sb d k1 _ q1 r1) (kNs_dp sb ds k2 _ q2 r2)
end
section
variable {X : Cx} {T : Tx} {W : WX} {pos p2 : Pos}
end
end L3
set_option autoImplicit false
set_option maxHeartbeats 4000000
namespace L3
open PySem PySem.Spec L2 PyProof.Rows
open AutoSeq1 (wpAny_loadPart')
open PySem.W (KdlSrc kdl_extend)
theorem RoomG.u65 {k : Nat} {A : Around} (x : RoomG k A) : A.units + 65 < cLine := by have := x.r.un; omega
section
variable {X : Cx} {T : Tx} {W : WX} {pos p2 : Pos}
end
end L3
set_option autoImplicit false
set_option maxHeartbeats 4000000
namespace L3
open PySem PySem.Spec L2 PyProof.Rows
section
variable {X : Cx}
end
section
variable {X : Cx} {T : Tx} {W : WX} {pos : Pos}
end
end L3
set_option autoImplicit false
set_option maxHeartbeats 4000000
namespace L3
open PySem PySem.Spec PySem.Calls PyProof PyProof.Rows PyProof.V L2
section
variable {prog : Program} {w : World} {A : Around} {E : Value → Shared → Prop} {s : Shared} {z TI TO i1 i2 : Addr} {fp1 fp2 : List Addr} {n1 n2 i : Nat} {P1 P2 : Nat → Value → Prop} {St1 St2 : Nat → Heap → Prop} {a1 a2 : Value}
end
set_option maxHeartbeats 1000000 in
section
variable {prog : Program} {w : World} {A : Around} {E : Value → Shared → Prop} {s : Shared}
end
section
variable {X : Cx} {T : Tx} {W : WX} {pos : Pos}
end
section
variable {X : Cx} {T : Tx} {W : WX} {pos : Pos}
end
end L3
set_option autoImplicit false
set_option maxHeartbeats 4000000
namespace L3
open PySem PySem.Spec L2
section
variable {X : Cx} {T : Tx} {W : WX} {pos : Pos}
end
end L3
set_option autoImplicit false
set_option maxHeartbeats 4000000
namespace L3
open PySem PySem.Spec L2
open PySem.W (dataLt AlikeAll readsAll_len iter_listW iter_tupleW cmpIn_gt moved_old alike)
section
variable {prog : Program} {w : World} {A : Around} {E : Value → Shared → Prop} {s : Shared}
end
section
variable {X : Cx} {T : Tx}
end
end L3
set_option autoImplicit false
set_option maxHeartbeats 4000000
namespace L3
open PySem PySem.Spec L2
section
variable {X : Cx} {T : Tx}
end
end L3
set_option autoImplicit false
set_option maxHeartbeats 4000000
namespace L3
open PySem PySem.Spec L2 PyProof.Rows
section
variable {X : Cx} {pins : List (Addr × Obj)} {σ : L2.St} {H : Hp} {s : Shared}
end
section
variable {X : Cx} {body rest : List Stmt} {pos : Pos} {tb : WX → TS} {Wo : WX} {t0 : TS}
end
section
variable {K : PySem.W.Frag} {T : Tx} {G : Gst} {h : Hh} {H : Hp}
end
section
variable {X : Cx} {T : Tx} {W : WX} {pos : Pos}
end
section
variable {X : Cx} {T : Tx} {W : WX} {pos : Pos}
def isoE (c c2 : Nat) (x : D) (h : Hh) : R D := match clsOf h x with
  | some c' => if c' = c then .ok (.bl true) h else if c' = c2 then .ok (.bl false) h else .stk
  | none => match kdOf h x with
    | some _ => .ok (.bl false) h
    | none => .stk
def eIsoE (c c2 : Nat) (fa : FnE) : FnE := fun δ h => (fa δ h).bind (isoE c c2)
end
end L3
set_option autoImplicit false
set_option maxHeartbeats 4000000
namespace L3
open PySem PySem.Spec L2 PyProof.Rows
section
variable {X : Cx} {pins : List (Addr × Obj)} {σ : L2.St} {H : Hp} {s : Shared} {d : Addr} {o : Obj}
end
section
variable {X : Cx} {T : Tx} {W : WX} {pos : Pos}
end
section
variable {X : Cx} {pins : List (Addr × Obj)} {σ : L2.St} {H : Hp} {s : Shared}
end
structure DnAt (K : PySem.W.Frag) (T : Tx) (w : World) (G1 : Gst) (p : Addr) (G : Gst) (ks vs : List D) (h : Hh) (H : Hp) : Prop where
  ι : ∃ t, G.ι = G1.ι ++ t
  fz : ∀ a o, G1.fz a = some o → G.fz a = some o
  lk : G.lk = G1.lk
  pr : ∃ xs : List NRow, G.pr = upd G1.pr p (NdO w p xs) ∧ (xs.map (·.1)).Nodup ∧ ks.map keyN = xs.map (fun x => some x.1) ∧ RDs K T G ks (xs.map fun x => V.ref x.2.1) ∧ RDs K T G vs (xs.map (·.2.2))
  rel : Rel K T G h H
theorem DnAt.step {K : PySem.W.Frag} {T : Tx} {w : World} {G1 G G' : Gst} {p : Addr} {ks vs : List D} {h h' : Hh} {H H' : Hp} (l : DnAt K T w G1 p G ks vs h H) (x : Ext G G') (r : Rel K T G' h' H') : DnAt K T w G1 p G' ks vs h' H' := by
  obtain ⟨t, e⟩ := l.ι
  obtain ⟨u, e'⟩ := x.ι
  obtain ⟨xs, e2, n, k, d, d'⟩ := l.pr
  exact ⟨⟨t ++ u, by rw [e', e, List.append_assoc]⟩, fun a o q => x.fz a o (l.fz a o q), x.lk.trans l.lk, ⟨xs, x.pr.trans e2, n, k, d.mono x, d'.mono x⟩, r⟩
section
variable {X : Cx} {T : Tx} {W : WX} {pos : Pos}
end
end L3
set_option autoImplicit false
set_option maxHeartbeats 4000000
namespace L3
open PySem PySem.Spec L2 PyProof.Rows PySem.W
section
variable {X : Cx} {T : Tx} {W : WX}
end
end L3
set_option autoImplicit false
set_option maxHeartbeats 4000000
namespace L3
open PySem PySem.Spec L2 PyProof.Rows PySem.W SrtO
section
variable {P : Program} {w : World} {A : Around} {E : Value → Shared → Prop} {s : Shared}
end
section
variable {X : Cx} {T : Tx} {W : WX} {pos : Pos}
def prD (k : Int × Int) : D := .tup [.int k.1, .int k.2]
end
end L3
set_option autoImplicit false
set_option maxHeartbeats 4000000
namespace L3
open PySem PySem.Spec L2 PyProof.Rows
abbrev dfFn (qu : Str) (pr : Arguments) (bd : Expr) (sp : Scope) (cl : List (Str × Addr)) (pm cv tv : Value) (d : Addr) : FuncData :=
  { PySem.W.kla_fn "<lambda>" qu pr bd sp cl pm cv tv with defaults := .ref d }
abbrev dfOb (qu : Str) (pr : Arguments) (bd : Expr) (sp : Scope) (cl : List (Str × Addr)) (pm cv tv : Value) (d : Addr) : Obj := { cls := .type "function", data := .func (dfFn qu pr bd sp cl pm cv tv d) }
abbrev dfTu (v : Value) : Obj := { cls := .type "tuple", data := .seq #[v] }
section
variable {M : Model} {A : Around} {E : Value → Shared → Prop} {s : Shared}
end
section
variable {X : Cx} {T : Tx} {pins : List (Addr × Obj)} {σ : L2.St} {H : Hp} {s : Shared}
structure LamD (X : Cx) (H : Hp) (s : Shared) (pr : Arguments) (bd : Expr) (sp : Scope) (f c d : Addr) (v pm tv : Value) : Prop where
  fo : s.heap.get? f = some (dfOb (X.env.qual ++ "<lambda>") pr bd sp (cloFrom X.env.cells sp.names []) pm (.ref c) tv d)
  fn : H f = none
  fr : f ∉ frs X.stack
  od : s.heap.get? d = some (dfTu v)
  dn : H d = none
  dr : d ∉ frs X.stack
end
structure LamP (sc sp : Scope) (N : List Str) (y : Str) : Prop where
  kd : sp.kind = .function
  co : sp.isCoroutine = false
  ge : sp.isGenerator = false
  nc : ∀ z ∈ sp.names, z.2 ≠ .cell
  lo : ∀ z ∈ sp.names, z.2 = .local → z.1 ∉ N
  yl : sp.names.lookup y = some .local
  fr : ∀ z ∈ sp.names, z.2 = .free → sc.names.lookup z.1 = some .cell ∨ sc.names.lookup z.1 = some .free
theorem LamP.has {X : Cx} {sp : Scope} {y : Str} (L : LamP X.env.scope sp X.N y) (ok : X.Ok) : ∀ z ∈ sp.names, z.2 = .free → ∃ c, X.env.cells.lookup z.1 = some c := fun z hz w => ok.has _ (L.fr z hz w)
section
variable {X : Cx} {T : Tx} {W : WX} {pins : List (Addr × Obj)} {σ : L2.St} {H HZ : Hp} {s s1 : Shared}
end
end L3
set_option autoImplicit false
set_option maxHeartbeats 4000000
namespace L3
open PySem PySem.Spec L2 PyProof.Rows Builtin
theorem titO_ok {P : Program} {w : World} {H : Hp} {h : Heap} {it l : Addr} {i : Nat} (e : h.IsTupleIter it l i) : ObjOk P w H h it (TitO it l i) := by
  obtain ⟨o, e1, e2, e3⟩ := e
  exact ⟨⟨o, e1, e2, e3⟩, ⟨o, e1⟩, fun h1 h2 ⟨o', q1, q2, q3⟩ k => ⟨o', k _ q1, q2, q3⟩⟩
def rIterT (K : PySem.W.Frag) (n : Nat) : List V → Hp → VK → Prop := fun xs H Q => ∃ (l : Addr) (zs : List V), xs = [.ref l] ∧ SqT K H l zs ∧ ∀ it, H it = none → n ≤ it → Q (.ref it) (upd H it (TitO it l 0))
section
variable {X : Cx} {T : Tx} {W : WX} {pos : Pos}
theorem call_iterT : CallR X (.builtin "iter") (rIterT X.K X.s_0.heap.objs.size) := by
  intro pins s σ H args vals Q I r ⟨l, zs, ea, hq, q⟩
  subst ea
  obtain ⟨u, rfl, ru⟩ := vals1 r
  cases ru
  obtain ⟨its, rv, pl, hz⟩ := I.tuple hq
  refine Calls.call_function_entry (id := "iter") ?_ ?_ PySem.W.kdk_entry_iter
    (PySem.W.kdk_args_iter _) ?_
  · decide +kernel
  · decide +kernel
  unfold Builtin.«iter»
  have got : someArgs "iter" 1 2 ⟨[Value.ref l], []⟩ = pure [Value.ref l] := by first | rfl | kernel_rfl!
  rw [got]
  simp only [pure_bind]
  refine wpAny_bind (wpAny_pyIter_tuple pl (wpAny_pure ⟨_, rfl, ?_⟩))
  exact ⟨.ref s.heap.objs.size, _, I.laid (t' := s.toks) (fun b u e => Heap.get?_push_of_some _ e) (Nat.le_refl _) (titO_ok ⟨_, Heap.get?_push_size _ rfl, rfl, rfl⟩), rfl, q _ (I.hok.fresh (Nat.le_refl _)) I.sz⟩
theorem own_pyiter {pins : List (Addr × Obj)} {σ : L2.St} {H : Hp} {s : Shared} {A : Around} {E : Value → Shared → Prop} {C f a l dx : Addr} {fs : List (Str × V)} {xs : List V} {k : Nat} {fld self qual : Str} {params : Arguments} {scope : Scope} {fd : FuncData} {p1 p2 p3 p4 p5 : Pos} (cl : Cls X.K C) (na : NoAttr X.K C fld) (M : Meth X.K C "__iter__" f)
    (F : FunD X.K "__iter__" qual params [.Return (some (.Call (.Name "iter" p1) [.Attribute (.Name self p2) fld p3] [] p4)) p5] scope [] [] f fd) (S : FnScope [self] [self] scope) (bd : L2.Binds X.K fd [self] []) (hv : Vis scope self) (hgi : scope.names.lookup ("iter" : Str) = some .globalImplicit) (hmi : X.mg "iter" = none) (hr : Room (k + 1) A)
    (e0 : Env0 X.prog X.w X.K X.mg X.base A X.stack s H) (I : Inv X pins σ H s) (ha : H a = some (.ins C dx fs)) (hl : fs.lookup fld = some (.ref l)) (ht : SqT X.K H l xs) (hd : (self == ("__debug__" : Str)) = false) (hcd : (self == ("__classdict__" : Str)) = false) :
    wpAny (model X.prog X.w) A (pyIter (.ref a)) (fun r s2 => ∃ it, r = .ref it ∧ Inv X pins σ (upd H it (TitO it l 0)) s2 ∧ H it = none ∧ s.heap.objs.size ≤ it) E s := by
  obtain ⟨_, J0, _⟩ := ins_get I.hok ha
  obtain ⟨_, J1, _⟩ := J0.look
  obtain ⟨_, hF⟩ := I.fr
  refine PySem.W.owit_iter hF I.ok.mod.kin J1 M.at_ M.fn ?_
  obtain ⟨oc, od2, dV, kV, doc, pm, an, cdv, ct, osl, rfl, lk, hcg, _, _⟩ := F.ex
  have run := LamX.run_ofS (CX := L2.CX X.prog X.w) (A := A) (outer := X.stack) (s := s) (H := H) (Q := fun v H' => ∃ it, v = V.ref it ∧ H' = upd H it (TitO it l 0) ∧ H it = none ∧ s.heap.objs.size ≤ it) (E := noXK) (k := k) (N := [self]) (ps := [self]) (us := [.ref a]) (vs := [.ref a]) lk hcg S hr e0 (bd s [.ref a] I.kIn rfl) (.cons rfl .nil) rfl fun hr' =>
    ⟨_, pss_one (ps_ret (pe_callB (X := cxOf (L2.CX X.prog X.w) X.prog X.w X.K X.mg X.base [self] qual scope f cdv A X.stack s H noXK) call_iterT hgi hmi (by first | rfl | kernel_rfl) (pa_cons (pe_fld (pe_var (X := cxOf (L2.CX X.prog X.w) X.prog X.w X.K X.mg X.base [self] qual scope f cdv A X.stack s H noXK) (i := 0) rfl hv hd hcd) rfl) pa_nil))), ⟨.ref a, rfl, a, C, dx, fs, .ref l, rfl, ha, cl, na, hl, l, xs, rfl, ht, fun it hn hy => ⟨it, rfl, rfl, hn, hy⟩⟩⟩
  refine wpAny_call (codeAny_mono run fun res s2 z2 => ?_)
  match res, z2 with
  | .error e, z2 =>
    obtain ⟨_, _, _, _, _, _, _, _, _, _, _, _, w⟩ := z2
    exact (show False from w).elim
  | .ok (.ret u), z2 =>
    obtain ⟨z, H', I', rz, it, rfl, rfl, hn, hy⟩ := I.after z2
    cases rz
    have st : s2.heap.IsTupleIter it l 0 := (I'.hok it _ upd_same).1
    unfold PySem.W.OwitIt
    exact wpAny_specialOf st.typeIs PySem.F.slot_tuple_iterator_next.lookup ⟨it, rfl, I', hn, hy⟩
  | .ok .next, z2 => exact z2.elim
  | .ok .brk, z2 => exact z2.elim
  | .ok .cont, z2 => exact z2.elim
def iOwnK (K : PySem.W.Frag) (C : Addr) (fld : Str) (t : TE) : TI := fun σ H R => t σ H fun v H1 => ∃ a dx fs l xs, v = .ref a ∧ H1 a = some (.ins C dx fs) ∧ fs.lookup fld = some (.ref l) ∧ SqT K H1 l xs ∧ R (Itt K l) H1
theorem pi_own {tg e : Expr} {t : TE} {C f : Addr} {k : Nat} {fld self qual : Str} {params : Arguments} {scope : Scope} {fd : FuncData} {p1 p2 p3 p4 p5 : Pos} (cl : Cls X.K C) (na : NoAttr X.K C fld) (M : Meth X.K C "__iter__" f)
    (F : FunD X.K "__iter__" qual params [.Return (some (.Call (.Name "iter" p1) [.Attribute (.Name self p2) fld p3] [] p4)) p5] scope [] [] f fd) (S : FnScope [self] [self] scope) (bd : L2.Binds X.K fd [self] []) (hv : Vis scope self) (hgi : scope.names.lookup ("iter" : Str) = some .globalImplicit) (hmi : X.mg "iter" = none) (hr : Room (k + 1) X.A)
    (he : PE X e t) (hd : (self == ("__debug__" : Str)) = false := by decide) (hcd : (self == ("__classdict__" : Str)) = false := by decide) : PI X tg e (iOwnK X.K C fld t) := by
  refine ⟨fun pins s σ H R I h => thn (he.run pins s σ H _ I h) fun u s1 ⟨v, H1, I1, r1, q⟩ => ?_⟩
  obtain ⟨a, dx, fs, l, xs, rfl, ha, hl, ht, q⟩ := q
  cases r1
  refine wpAny_mono (own_pyiter cl na M F S bd hv hgi hmi hr I1.env0 I1 ha hl ht hd hcd) (fun r s2 z => ?_) fun _ _ z => z
  obtain ⟨it, rfl, I', hn, hy⟩ := z
  have hi : upd H1 it (TitO it l 0) it = some (TitO it l 0) := upd_same
  have st : s2.heap.IsTupleIter it l 0 := (I'.hok it _ hi).1
  have hi' := hi
  unfold TitO at hi'
  refine ⟨it, [it], _, _, ItX.dropH (upd H1 it (TitO it l 0)) it, rfl, ItX.inv_drop I' hi', turn_tuple l it, st, fun b hb => ?_, ?_⟩
  · rw [List.mem_singleton.mp hb]
    exact ItX.inv_fp I' hi (Nat.le_trans I1.sz hy)
  · rw [ItX.dropH_upd hn]
    exact q
theorem sqT_at {K : PySem.W.Frag} {H H' : Hp} {l : Addr} {zs : List V} (h : SqT K H l zs) (e : H' l = H l) : SqT K H' l zs := by
  unfold SqT Rd at h ⊢
  simp only [e]
  exact h
theorem loop_in {P : Program} {w : World} {A1 : Around} {args : Args} {Rs : Result → Shared → Prop} {s : Shared}
    (h : wpAny (model P w) A1.in1 (Builtin.«list.extend.loop» args) (fun fin s' => match fin with | .done f => Rs (.ok f) s' | .again c' => c'.quiet = true ∧ codeAny (model P w) A1 c' Rs s') (fun e s' => Rs (.error e) s') s) : codeAny (model P w) A1 (.builtin "list.extend.loop" args) Rs s :=
  codeAny_builtin PySem.F.entry_extend_loop (by rw [Around.under_plainId PySem.F.plain_extend_loop]; exact h)
theorem tit_loop {pins : List (Addr × Obj)} {σ : L2.St} {A1 : Around} {Rs : Result → Shared → Prop} {q it l : Addr} {zs : List V} {H0 : Hp} (hh : A1.in1.handled = none) (hy : X.s_0.heap.objs.size ≤ it) (n1 : q ≠ it) (n2 : l ≠ q) (n3 : l ≠ it)
    (fin : ∀ H' s', Inv X pins σ H' s' → H' it = none → H' q = some (.lst zs) → (∀ b, b ≠ it → b ≠ q → H' b = H0 b) → Rs (.ok (.ret .none)) s') :
    ∀ (m i : Nat) (H : Hp) (s : Shared), i + m = zs.length → Inv X pins σ H s → H it = some (TitO it l i) → H q = some (.lst (zs.take i)) → SqT X.K H l zs → (∀ b, b ≠ it → b ≠ q → H b = H0 b) → codeAny (model X.prog X.w) A1 (.builtin "list.extend.loop" ⟨[.ref q, .ref it, .none], []⟩) Rs s := by
  intro m
  induction m with
  | zero =>
    intro i H s hi I ei eq ht ag
    refine loop_in ?_
    show wpAny _ _ (pyNext (.ref it) >>= _) _ _ s
    obtain ⟨its, rv, pl, hz⟩ := I.tuple ht
    have st : s.heap.IsTupleIter it l i := (I.hok it _ ei).1
    have hx : its.toArray[i]? = none := by
      rw [List.getElem?_toArray]
      exact rv.none_of (List.getElem?_eq_none_iff.mpr (by omega))
    obtain ⟨o, ho, _⟩ := id st
    refine wpAny_bind (wpAny_pyNext_tuple_end hh st pl hx fun h' x => ?_)
    have ei' := ei
    unfold TitO at ei'
    have I2 := ItX.inv_drop I ei'
    obtain ⟨f0, f1, f2, f3, f4, f5⟩ := ItX.inv_fp I ei hy
    refine wpAny_pure (fin (ItX.dropH H it) _ (I2.turned (t' := s.toks) (fun b o hb e => x b o hb e) f0 f1 f3 f4 f5) ItX.dropH_same (by rw [ItX.dropH_ne n1, eq, List.take_of_length_le (by omega)]) fun b hb hq => by rw [ItX.dropH_ne hb]; exact ag b hb hq)
  | succ m ih =>
    intro i H s hi I ei eq ht ag
    refine loop_in ?_
    show wpAny _ _ (pyNext (.ref it) >>= _) _ _ s
    obtain ⟨its, rv, pl, hz⟩ := I.tuple ht
    have st : s.heap.IsTupleIter it l i := (I.hok it _ ei).1
    have li : i < zs.length := by omega
    obtain ⟨u, hu, ru⟩ := rv.get (List.getElem?_eq_getElem li)
    refine wpAny_bind (wpAny_pyNext_tuple_item st pl (by rw [List.getElem?_toArray]; exact hu) fun h' e' sb => ?_)
    have mu : Mut (H it) := by rw [ei]; exact True.intro
    have I1 : Inv X pins σ (upd H it (TitO it l (i + 1))) { s with heap := h' } := I.write (x := it) (e := it) (t' := s.toks) mu (.inl rfl) (fun b o nb z => (sb.2 b nb).trans z) (let ⟨o, w, _⟩ := e'; ⟨o, w⟩) (titO_ok e')
    have eq1 : upd H it (TitO it l (i + 1)) q = some (.lst (zs.take i)) := by rw [upd_ne n1]; exact eq
    show wpAny _ _ (updateSeq q (·.push u) >>= _) _ _ _
    obtain ⟨z, its1, k, r2, hl, e⟩ := I1.lstM eq1
    have tl : (zs.take i).length = i := by rw [List.length_take]; omega
    refine wpAny_bind (wpAny_updateSeq e rfl (wpAny_pure ⟨plainId_quiet PySem.F.plain_extend_loop _, ?_⟩) (by rw [List.size_toArray]; omega) (by show (its1.toArray.push u).size ≤ sizeLine + 1; rw [Array.size_push, List.size_toArray]; omega))
    have I2 := I1.lset (f := (·.push u)) (its' := its1 ++ [u]) (t' := s.toks) eq1 e (by simp) (r2.append (.cons ru .nil)) (by rw [List.length_append, List.length_singleton]; omega)
    have tk : zs.take i ++ [zs[i]] = zs.take (i + 1) := by rw [List.take_succ, List.getElem?_eq_getElem li]; rfl
    rw [tk] at I2
    refine ih (i + 1) _ _ (by omega) I2 (by rw [upd_ne (Ne.symm n1), upd_same]) upd_same (sqT_at ht (by rw [upd_ne n2, upd_ne n3])) fun b hb hq => by rw [upd_ne hq, upd_ne hb]; exact ag b hb hq
theorem no_special {M : Model} {A : Around} {E : Value → Shared → Prop} {Q : Option Value → Shared → Prop} {s : Shared} {K : PySem.W.Frag} {a C : Addr} {ox : Obj} {od : Option Obj} {nm : Str} (n : NoAttr K C nm) (hK : K.In s.heap) (J : PySem.W.InstAt s.heap a ox C od) (h : Q none s) : wpAny M A (specialOf (.ref a) nm) Q E s := by
  unfold specialOf
  exact wpAny_bind (J.type.here ((PySem.W.looks_findIn hK n).here h))
theorem no_hint {M : Model} {A : Around} {E : Value → Shared → Prop} {Q : Bool → Shared → Prop} {s : Shared} {K : PySem.W.Frag} {a C : Addr} {ox : Obj} {od : Option Obj} (n1 : NoAttr K C "__len__") (n2 : NoAttr K C "__length_hint__") (hK : K.In s.heap) (J : PySem.W.InstAt s.heap a ox C od) (h : Q true s) : wpAny M A (Builtin.List.listLengthHint (.ref a)) Q E s := by
  unfold Builtin.List.listLengthHint
  refine wpAny_bind (no_special n1 hK J ?_)
  refine PySem.W.KFB.if_not rfl (PySem.W.KFB.if_not rfl ?_)
  exact wpAny_bind (no_special n2 hK J (wpAny_pure h))
abbrev mtL : Obj := { cls := .type "list", data := .seq #[] }
def rListO (K : PySem.W.Frag) (C : Addr) (fld : Str) : List V → Hp → VK → Prop := fun xs H Q => ∃ a dx fs l zs, xs = [.ref a] ∧ H a = some (.ins C dx fs) ∧ fs.lookup fld = some (.ref l) ∧ SqT K H l zs ∧ ∀ q, H q = none → Q (.ref q) (upd H q (.lst zs))
theorem call_listO {C f : Addr} {k : Nat} {fld self qual : Str} {params : Arguments} {scope : Scope} {fd : FuncData} {p1 p2 p3 p4 p5 : Pos} (cl : Cls X.K C) (na : NoAttr X.K C fld) (n1 : NoAttr X.K C "__len__") (n2 : NoAttr X.K C "__length_hint__") (M : Meth X.K C "__iter__" f)
    (F : FunD X.K "__iter__" qual params [.Return (some (.Call (.Name "iter" p1) [.Attribute (.Name self p2) fld p3] [] p4)) p5] scope [] [] f fd) (S : FnScope [self] [self] scope) (bd : L2.Binds X.K fd [self] []) (hv : Vis scope self) (hgi : scope.names.lookup ("iter" : Str) = some .globalImplicit) (hmi : X.mg "iter" = none) (hc : X.calm = true) (hr : Room (k + 3) X.A)
    (hd : (self == ("__debug__" : Str)) = false := by decide) (hcd : (self == ("__classdict__" : Str)) = false := by decide) : CallR X (.type "list") (rListO X.K C fld) := by
  intro pins s σ H args vals Q I rv ⟨a, dx, fs, l, zs, ea, ha, hl, ht, hq⟩
  subst ea
  obtain ⟨u, rfl, ru⟩ := rv.one
  cases ru
  refine callType_codes (Q₁ := fun o t => o = .ref s.heap.objs.size ∧ t = { s with heap := s.heap.push mtL }) PySem.F.called_list (PySem.F.typeCall_list_1 _)
    PySem.F.entry_list_init (code_list_new _ ⟨rfl, rfl⟩) (fun o t z => ?_)
  obtain ⟨rfl, rfl⟩ := z
  have at0 : (s.heap.push mtL).get? s.heap.objs.size = some mtL := Heap.get?_push_size _ rfl
  have nq : H s.heap.objs.size = none := I.fresh
  have J1 : Inv X pins σ (upd H s.heap.objs.size (.lst [])) { s with heap := s.heap.push mtL } := I.lnew (its := []) (t' := s.toks) .nil (Nat.zero_le _)
  refine ⟨⟨_, at0, rfl⟩, PySem.F.args_list_init_2 _ _, ?_⟩
  show wpAny _ _ (do
    let was ← Builtin.List.listItems (.ref s.heap.objs.size)
    Builtin.List.listUpdate (.ref s.heap.objs.size) (fun _ => #[])
    letGo was.toList.reverse
    Builtin.List.listExtendWith (.ref s.heap.objs.size) (.ref a) .none) _ _ _
  unfold Builtin.List.listItems
  refine wpAny_bind (wpAny_bind (wpAny_seqItems at0 rfl
    (wpAny_pure ?_)))
  have J2 : Inv X pins σ (upd H s.heap.objs.size (.lst [])) { s with heap := (s.heap.push mtL).update s.heap.objs.size (Obj.mapSeq fun _ => #[]) } := by
    have z := J1.lset (f := fun _ => #[]) (its := []) (its' := []) (ys := []) (t' := s.toks) upd_same at0 rfl .nil (Nat.zero_le _)
    rwa [upd_upd] at z
  refine wpAny_bind (wpAny_updateSeq at0 rfl
    (wpAny_bind (wpAny_letGo ?_)))
  have naq : a ≠ s.heap.objs.size := ne_of_none ha nq
  have nlq : l ≠ s.heap.objs.size := fun e => by
    obtain ⟨_, _, pl, _⟩ := I.tuple ht
    obtain ⟨o, ho, _⟩ := pl
    exact absurd (Heap.lt_size ho) (by rw [e]; exact Nat.lt_irrefl _)
  have at2 : upd H s.heap.objs.size (.lst []) a = some (.ins C dx fs) := by rw [upd_ne naq]; exact ha
  have t2 : SqT X.K (upd H s.heap.objs.size (.lst [])) l zs := sqT_at ht (upd_ne nlq)
  have end_ : ∀ H' s', Inv X pins σ H' s' → (∃ it, H it = none ∧ it ≠ s.heap.objs.size ∧ H' it = none ∧ ∀ b, b ≠ it → b ≠ s.heap.objs.size → H' b = H b) → H' s.heap.objs.size = some (.lst zs) → EP X pins σ Q (.ref s.heap.objs.size) s' := fun H' s' J ⟨it, e1, e2, e3, e4⟩ e5 => by
    have eH : H' = upd H s.heap.objs.size (.lst zs) := funext fun b => by
      by_cases b1 : b = s.heap.objs.size
      · rw [b1, e5, upd_same]
      · rw [upd_ne b1]
        by_cases b2 : b = it
        · rw [b2, e3, e1]
        · exact e4 b b2 b1
    rw [eH] at J
    exact ⟨.ref s.heap.objs.size, _, J, rfl, hq _ nq⟩
  generalize s.heap.objs.size = q at *
  generalize (s.heap.push mtL).update q (Obj.mapSeq fun _ => #[]) = h2 at *
  obtain ⟨_, K0, _⟩ := ins_get J2.hok at2
  obtain ⟨od, K1, _⟩ := K0.look
  have no1 : Builtin.List.listSameRef (.ref q) (.ref a) = false := by simp [Builtin.List.listSameRef, Ne.symm naq]
  have no2 : (Value.ref C == Value.type "list") = false := rfl
  have no3 : (Value.ref C == Value.type "tuple") = false := rfl
  unfold Builtin.List.listExtendWith
  refine wpAny_bind (K1.type.here ?_)
  rw [no1, no2, no3]
  show wpAny _ _ (pyIter (.ref a) >>= _) _ _ _
  have e0 : Env0 X.prog X.w X.K X.mg X.base X.A.in1.in1 X.stack { s with heap := h2 } (upd H q (.lst [])) := let e := J2.env0; ⟨e.frames, e.mod, e.bs, e.bsz, e.funs, e.frf, e.hok, e.bare⟩
  refine wpAny_bind (wpAny_mono (own_pyiter cl na M F S bd hv hgi hmi hr.in1.in1 e0 J2 at2 hl t2 hd hcd) (fun r s3 z => ?_) fun _ _ z => z)
  obtain ⟨it, rfl, J3, hn, hy⟩ := z
  have at3 : upd (upd H q (.lst [])) it (TitO it l 0) a = some (.ins C dx fs) := by rw [upd_ne (ne_of_none at2 hn)]; exact at2
  obtain ⟨_, K3, _⟩ := ins_get J3.hok at3
  obtain ⟨od3, K4, _⟩ := K3.look
  refine wpAny_bind (wpAny_holding (no_hint n1 n2 J3.kIn K4 ?_))
  have qit : q ≠ it := fun e => by rw [← e, upd_same] at hn; cases hn
  have lit : l ≠ it := fun e => by
    obtain ⟨_, _, pl, _⟩ := J2.tuple t2
    obtain ⟨o, ho, _⟩ := pl
    exact absurd (Heap.lt_size ho) (by rw [e]; exact Nat.not_lt.mpr hy)
  have hq3 : upd (upd H q (.lst [])) it (TitO it l 0) q = some (.lst []) := by rw [upd_ne qit, upd_same]
  simp only [Bool.true_or, if_true]
  obtain ⟨_, its, k, r3, _, e3⟩ := J3.lstM hq3
  cases r3
  have s1 : 1 ≤ sizeLine := by rw [sizeLine_eq]; decide
  have J4 := J3.lset (f := (·.push Value.none)) (its' := [Value.none]) (ys := [.non]) (t' := s3.toks) hq3 e3 (by simp) (.cons rfl .nil) s1
  obtain ⟨_, its4, k4, r4, _, e4⟩ := J4.lstM upd_same
  obtain ⟨u4, rfl, ru4⟩ := r4.one
  have J5 := J4.lset (f := (·.pop)) (its := [u4]) (its' := []) (ys := []) (t' := s3.toks) upd_same e4 (by rfl) .nil (Nat.zero_le _)
  rw [upd_upd] at J5
  refine wpAny_bind (wpAny_rule (wpAny_bind ?_))
  show wpAny _ _ (updateSeq q (·.push .none) >>= fun _ => updateSeq q (·.pop))
    _ _ _
  refine wpAny_bind (wpAny_updateSeq e3 rfl (wpAny_updateSeq e4 rfl ?_ s1 (Nat.zero_le _)))
  refine wpAny_pure ⟨plainId_quiet PySem.F.plain_extend_loop _,
    tit_loop (A1 := X.A.in1) (H0 := H) (zs := zs) (q := q) (it := it) (l := l) (J5.ok.hd hc) (Nat.le_trans J2.sz hy) qit nlq lit (fun H' s' J e1 e2 e3 => ⟨rfl, end_ H' s' J ⟨it, by rw [← hn, upd_ne (Ne.symm qit)], Ne.symm qit, e1, e3⟩ e2⟩) zs.length 0 _ _ (by omega) J5 (by rw [upd_ne (Ne.symm qit), upd_same]) upd_same (sqT_at t2 (by rw [upd_ne nlq, upd_ne lit])) fun b b1 b2 => by rw [upd_ne b2, upd_ne b1, upd_ne b2]⟩
end
section
variable {X : Cx} {T : Tx} {W : WX} {pos : Pos}
def kOwn (c : Nat) (ix : Nat → Option Nat) (x : D) (h1 : Hh) : R (List D) := match x with
  | .obj c' es => if c' = c then (match fieldAt ix c es with
    | some (.tup ds) => .ok ds h1
    | _ => .stk) else .stk
  | _ => .stk
def iOwn (c : Nat) (ix : Nat → Option Nat) (fo : FnE) : FnI := fun δ h => (fo δ h).bind (kOwn c ix)
theorem own_walk {c : Nat} {ix : Nat → Option Nat} {fld : Str} {C : Addr} {G : Gst} {h1 : Hh} {H1 : Hp} {x : D} {v : V} {ds : List D} {hh : Hh} (at_ : AttrOk X T fld ix) (hcl : ∃ nm, T.cls c = some (C, nm)) (r1 : Rel X.K T G h1 H1) (d1 : RD X.K T G x v) (e : kOwn c ix x h1 = .ok ds hh) :
    hh = h1 ∧ ∃ a dx fs l xs, v = .ref a ∧ H1 a = some (.ins C dx fs) ∧ fs.lookup fld = some (.ref l) ∧ SqT X.K G.fz l xs ∧ RDs X.K T G ds xs := by
  unfold kOwn at e
  cases d1 with
  | @obj c' es a C' dx nm fs q1 q2 q3 q4 =>
    dsimp only at e
    by_cases hc : c' = c
    · subst hc
      rw [if_pos rfl] at e
      obtain ⟨nm2, hcl⟩ := hcl
      rw [hcl] at q2; cases q2
      unfold fieldAt at e
      cases ei : ix c' with
      | none => rw [ei] at e; cases e
      | some k =>
        rw [ei] at e
        dsimp only at e
        cases ed : es[k]? with
        | none => rw [ed] at e; cases e
        | some d =>
          rw [ed] at e
          obtain ⟨C2, nm', c1, c2, c3, _, _, _⟩ := at_ c' k ei
          rw [hcl] at c1; cases c1
          obtain ⟨u, eu, du⟩ := q4.get ed
          have hk : k < es.length := (List.getElem?_eq_some_iff.mp ed).1
          have lk : fs.lookup fld = some u := look_at (k := k) (by rw [q3]; exact c3) (by rw [q3]; exact c2) eu
          cases d with
          | tup l2 =>
            cases e
            cases du with
            | @tup _ l vs w1 w2 => exact ⟨rfl, a, dx, fs, l, vs, rfl, r1.sub _ _ q1, lk, w1, w2⟩
          | _ => cases e
    · rw [if_neg hc] at e; cases e
  | _ => cases e
theorem fi_own {tg e : Expr} {fo : FnE} {c : Nat} {ix : Nat → Option Nat} {C f : Addr} {fld self qual : Str} {params : Arguments} {body : List Stmt} {scope : Scope} {fd : FuncData} {p1 p2 p3 p4 p5 : Pos} (hcl : ∃ nm, T.cls c = some (C, nm)) (cl : Cls X.K C) (na : NoAttr X.K C fld) (at_ : AttrOk X T fld ix) (M : Meth X.K C "__iter__" f)
    (F : FunD X.K "__iter__" qual params body scope [] [] f fd) (S : FnScope [self] [self] scope) (bd : L2.Binds X.K fd [self] []) (hB : body = [.Return (some (.Call (.Name "iter" p1) [.Attribute (.Name self p2) fld p3] [] p4)) p5]) (hv : Vis scope self) (hgi : scope.names.lookup ("iter" : Str) = some .globalImplicit) (hmi : X.mg "iter" = none) (hr : RoomG 1 X.A)
    (he : FE X T W e fo) (hd : (self == ("__debug__" : Str)) = false := by decide) (hcd : (self == ("__classdict__" : Str)) = false := by decide) : FI X T W tg e (iOwn c ix fo) := by
  subst hB
  refine PI.imp (pi_own (k := 0) cl na M F S bd hv hgi hmi hr.r he hd hcd) fun σ H Q h => ?_
  refine tF.bind (k := fun _ => kOwn c ix) h fun G δ x v h1 H1 r1 s1 d1 o1 => ?_
  cases eo : kOwn c ix x h1 with
  | stk => rw [eo] at o1; exact o1.elim
  | exc c0 es hh =>
    exfalso
    unfold kOwn at eo
    split at eo
    · split at eo
      · split at eo <;> cases eo
      · cases eo
    · cases eo
  | ok ds hh =>
    obtain ⟨rfl, a, dx, fs, l, xs, rfl, ha, hl, ht, dd⟩ := own_walk at_ hcl r1 d1 eo
    rw [eo] at o1
    exact ⟨a, dx, fs, l, xs, rfl, ha, hl, SqT.sub r1.sub ht, o1.at r1 (walk_tup ht dd)⟩
def listOB (c : Nat) (ix : Nat → Option Nat) : FB := fun ds h => match ds with
  | [x] => (kOwn c ix x h).bind fun xs h2 => .ok (.lst xs) h2
  | _ => .stk
theorem cs_listO {c : Nat} {ix : Nat → Option Nat} {fld : Str} {C : Addr} (at_ : AttrOk X T fld ix) (hcl : ∃ nm, T.cls c = some (C, nm)) : CallS X T (rListO X.K C fld) (listOB c ix) := by
  intro W G h H σ args vals Q r d o
  match args, vals, d with
  | [], _, _ => exact o.elim
  | _ :: _ :: _, _, _ => exact o.elim
  | [x], [v], .cons d1 .nil =>
    unfold listOB at o
    dsimp only at o
    cases eo : kOwn c ix x h with
    | stk => rw [eo] at o; exact o.elim
    | exc c0 es hh =>
      exfalso
      unfold kOwn at eo
      split at eo
      · split at eo
        · split at eo <;> cases eo
        · cases eo
      · cases eo
    | ok xs hh =>
      obtain ⟨rfl, a, dx, fs, l, ws, rfl, ha, hl, ht, dd⟩ := own_walk at_ hcl r d1 eo
      rw [eo] at o
      exact ⟨a, dx, fs, l, ws, rfl, ha, hl, SqT.sub r.sub ht, fun q hq => newLst r dd hq o⟩
end
section
variable {X : Cx} {T : Tx} {W : WX} {pos p2 : Pos} {e st : Expr} {te : TE} {ts : TO}
end
end L3
set_option autoImplicit false
set_option maxHeartbeats 4000000
namespace L3
open PySem PySem.Spec L2 PyProof.Rows Builtin
theorem citer_plain : plainId "proto.contains_iter" = true := by decide +kernel
theorem citer_entry : entryFor table "proto.contains_iter" = some Builtin.«proto.contains_iter» := entryFor_of_fast (by kernel_rfl)
theorem citer_in {P : Program} {w : World} {A1 : Around} {args : Args} {Rs : Result → Shared → Prop} {s : Shared}
    (h : wpAny (model P w) A1.in1 (Builtin.«proto.contains_iter» args) (fun fin s' => match fin with | .done f => Rs (.ok f) s' | .again c' => c'.quiet = true ∧ codeAny (model P w) A1 c' Rs s') (fun e s' => Rs (.error e) s') s) : codeAny (model P w) A1 (.builtin "proto.contains_iter" args) Rs s :=
  codeAny_builtin citer_entry (by rw [Around.under_plainId citer_plain]; exact h)
def SubH (H H' : Hp) : Prop := ∀ a o, H a = some o → H' a = some o
section
variable {X : Cx} {T : Tx} {W : WX} {pos : Pos}
theorem citer_loop {pins : List (Addr × Obj)} {σ : L2.St} {A1 : Around} {Rs : Result → Shared → Prop} {it l : Addr} {zs : List V} {H0 : Hp} {x : V} {vx : Value} {d : PyData} (hh : A1.in1.handled = none) (hy : X.s_0.heap.objs.size ≤ it) (h0 : H0 it = none) (n3 : l ≠ it) (rx : RelV x vx) (dx : ∀ H', SubH H0 H' → Dp X.K H' x d) (p1 : d.plain = true) (hu : A1.units + 1 + d.depth < cLine) (ht0 : SqT X.K H0 l zs) :
    ∀ (ds : List PyData) (ys : List V) (i : Nat) (s : Shared), zs.drop i = ys → (∀ H', SubH H0 H' → DpAll X.K H' ys ds) → PyData.plainAll ds = true → Inv X pins σ (upd H0 it (TitO it l i)) s → (∀ s', Inv X pins σ H0 s' → Rs (.ok (.ret (.bool (ds.any fun e => PyData.eqv e d)))) s') →
      codeAny (model X.prog X.w) A1 (.builtin "proto.contains_iter" ⟨[.ref it, vx], []⟩) Rs s := by
  intro ds
  induction ds with
  | nil =>
    intro ys i s ey dz p2 I fin
    have ye : ys = [] := by cases dz H0 (fun _ _ e => e); rfl
    subst ye
    have il : zs.length ≤ i := by
      have := congrArg List.length ey
      rw [List.length_drop] at this
      simp at this; omega
    have ei : upd H0 it (TitO it l i) it = some (TitO it l i) := upd_same
    have ht : SqT X.K (upd H0 it (TitO it l i)) l zs := sqT_at ht0 (upd_ne n3)
    refine citer_in ?_
    show wpAny _ _ (pyNext (.ref it) >>= _) _ _ s
    obtain ⟨its, rv, pl, hz⟩ := I.tuple ht
    have st : s.heap.IsTupleIter it l i := (I.hok it _ ei).1
    have hx : its.toArray[i]? = none := by
      rw [List.getElem?_toArray]
      exact rv.none_of (List.getElem?_eq_none_iff.mpr il)
    obtain ⟨o, ho, _⟩ := id st
    refine wpAny_bind (wpAny_pyNext_tuple_end hh st pl hx fun h' x => ?_)
    have ei' := ei
    unfold TitO at ei'
    have I2 := ItX.inv_drop I ei'
    obtain ⟨f0, f1, f2, f3, f4, f5⟩ := ItX.inv_fp I ei hy
    have I3 := I2.turned (t' := s.toks) (fun b o hb e => x b o hb e) f0 f1 f3 f4 f5
    rw [ItX.dropH_upd h0] at I3
    refine wpAny_bind (wpAny_rule ?_)
    exact wpAny_pure (fin _ I3)
  | cons e ds ih =>
    intro ys i s ey dz p2 I fin
    obtain ⟨y, ys, rfl⟩ : ∃ y r, ys = y :: r := by cases dz H0 (fun _ _ e => e); exact ⟨_, _, rfl⟩
    have p2' : e.plain = true ∧ PyData.plainAll ds = true := by simpa [PyData.plainAll] using p2
    have li : i < zs.length := by
      have := congrArg List.length ey
      rw [List.length_drop] at this
      simp at this; omega
    have ey' : zs[i]? = some y := by
      have := congrArg (·[0]?) ey
      simpa [List.getElem?_drop] using this
    have ed' : zs.drop (i + 1) = ys := by rw [← List.drop_drop, Nat.add_comm] at *; simpa using congrArg List.tail ey
    have ei : upd H0 it (TitO it l i) it = some (TitO it l i) := upd_same
    have ht : SqT X.K (upd H0 it (TitO it l i)) l zs := sqT_at ht0 (upd_ne n3)
    refine citer_in ?_
    show wpAny _ _ (pyNext (.ref it) >>= _) _ _ s
    obtain ⟨its, rv, pl, hz⟩ := I.tuple ht
    have st : s.heap.IsTupleIter it l i := (I.hok it _ ei).1
    obtain ⟨u, hu', ru⟩ := rv.get ey'
    refine wpAny_bind (wpAny_pyNext_tuple_item st pl (by rw [List.getElem?_toArray]; exact hu') fun h' e' sb => ?_)
    have mu : Mut (upd H0 it (TitO it l i) it) := by rw [ei]; exact True.intro
    have I1 : Inv X pins σ (upd (upd H0 it (TitO it l i)) it (TitO it l (i + 1))) { s with heap := h' } := I.write (x := it) (e := it) (t' := s.toks) mu (.inl rfl) (fun b o nb z => (sb.2 b nb).trans z) (let ⟨o, w, _⟩ := e'; ⟨o, w⟩) (titO_ok e')
    rw [upd_upd] at I1
    have sub : SubH H0 (upd H0 it (TitO it l (i + 1))) := fun a o z => by rw [upd_ne (ne_of_none z h0)]; exact z
    have dy : Dp X.K (upd H0 it (TitO it l (i + 1))) y e := by cases dz _ sub; assumption
    obtain ⟨as, r1⟩ := Dp.reads I1 e y u dy ru
    obtain ⟨bs, r2⟩ := Dp.reads I1 d x vx (dx _ sub) rx
    refine wpAny_bind (PySem.SeqAt.eqAt_plain e d A1.in1 _ u vx as bs r1 r2 p2'.1 p1 (show A1.units + 1 + min e.depth d.depth < cLine from Nat.lt_of_le_of_lt (Nat.add_le_add_left (Nat.min_le_right _ _) _) hu) X.prog X.w _ _ ?_)
    cases hb : PyData.eqv e d with
    | true =>
      have ei1 : upd H0 it (TitO it l (i + 1)) it = some (TitO it l (i + 1)) := upd_same
      have ei' := ei1
      unfold TitO at ei'
      have I2 := ItX.inv_drop I1 ei'
      rw [ItX.dropH_upd h0] at I2
      rw [if_pos rfl]
      refine wpAny_bind (wpAny_rule ?_)
      have z := fin _ I2
      rw [List.any_cons, hb, Bool.true_or] at z
      exact wpAny_pure z
    | false =>
      rw [if_neg Bool.false_ne_true]
      refine wpAny_pure ⟨plainId_quiet citer_plain _, ?_⟩
      refine ih ys (i + 1) _ ed' (fun H' hs => by cases dz H' hs; assumption) p2'.2 I1 fun s' J => ?_
      have z := fin s' J
      rw [List.any_cons, hb, Bool.false_or] at z
      exact z
def rInOwn (K : PySem.W.Frag) (C : Addr) (fld : Str) : R2 := fun x y H Q => ∃ a dx fs l zs d ds, y = .ref a ∧ H a = some (.ins C dx fs) ∧ fs.lookup fld = some (.ref l) ∧ SqT K H l zs ∧ (∀ H', SubH H H' → Dp K H' x d) ∧ (∀ H', SubH H H' → DpAll K H' zs ds) ∧ d.plain = true ∧ PyData.plainAll ds = true ∧ d.depth ≤ 50 ∧ Q (.bl (ds.any fun z => PyData.eqv z d)) H
theorem op_inOwn {C f : Addr} {k : Nat} {fld self qual : Str} {params : Arguments} {scope : Scope} {fd : FuncData} {p1 p2 p3 p4 p5 : Pos} (cl : Cls X.K C) (na : NoAttr X.K C fld) (nc : NoAttr X.K C "__contains__") (M : Meth X.K C "__iter__" f)
    (F : FunD X.K "__iter__" qual params [.Return (some (.Call (.Name "iter" p1) [.Attribute (.Name self p2) fld p3] [] p4)) p5] scope [] [] f fd) (S : FnScope [self] [self] scope) (bd : L2.Binds X.K fd [self] []) (hv : Vis scope self) (hgi : scope.names.lookup ("iter" : Str) = some .globalImplicit) (hmi : X.mg "iter" = none) (hc : X.calm = true) (hr : Room (k + 1) X.A) (hu : X.A.units + 64 < cLine)
    (hd : (self == ("__debug__" : Str)) = false := by decide) (hcd : (self == ("__classdict__" : Str)) = false := by decide) : OpR X (compareOp .In) (rInOwn X.K C fld) := by
  intro pins s σ H x y v u Q I rx ry h
  obtain ⟨a, dx, fs, l, zs, d, ds, rfl, ha, hl, ht, hx, hz, p1, p2, n1, q⟩ := h
  cases ry
  obtain ⟨_, K0, _⟩ := ins_get I.hok ha
  obtain ⟨od, K1, _⟩ := K0.look
  show wpAny _ _ (contains (.ref a) v >>= fun b => pure (Value.bool b)) _ _ _
  unfold contains
  refine wpAny_bind (wpAny_holding ?_)
  have e0 : stdlibNamesSay? (.ref a) v = none := rfl
  rw [e0]
  dsimp only
  refine wpAny_bind (no_special nc I.kIn K1 ?_)
  refine PySem.W.KFB.if_not rfl ?_
  unfold callSpecialUnlessNone?
  refine wpAny_bind (wpAny_bind (no_special nc I.kIn K1 (wpAny_pure ?_)))
  dsimp only
  refine wpAny_bind (wpAny_rule ?_)
  refine wpAny_bind (wpAny_tryCatch ?_)
  refine wpAny_mono (own_pyiter cl na M F S bd hv hgi hmi hr I.env0 I ha hl ht hd hcd) (fun r s3 z => ?_) fun _ _ z => z
  obtain ⟨it, rfl, J, hn, hy⟩ := z
  have lit : l ≠ it := fun e => by
    obtain ⟨_, _, pl, _⟩ := I.tuple ht
    obtain ⟨o, ho, _⟩ := pl
    exact absurd (Heap.lt_size ho) (by rw [e]; exact Nat.not_lt.mpr hy)
  refine wpAny_bind (wpAny_runValue ?_)
  refine citer_loop (J.ok.hd hc) (Nat.le_trans I.sz hy) hn lit rx hx p1 (by omega) ht ds zs 0 s3 rfl hz p2 J fun s' I' => ?_
  exact wpAny_pure (wpAny_pure ⟨.bl _, H, I', rfl, q⟩)
def inOwn (c : Nat) (ix : Nat → Option Nat) : F2 := fun x y h => (kOwn c ix y h).bind fun ds h2 => if flat 50 x = true ∧ flats 50 ds = true then .ok (.bl (ds.any fun z => eqv z x)) h else .stk
theorem os_inOwn {c : Nat} {ix : Nat → Option Nat} {fld : Str} {C : Addr} (at_ : AttrOk X T fld ix) (hcl : ∃ nm, T.cls c = some (C, nm)) : OpS X T (rInOwn X.K C fld) (inOwn c ix) := by
  intro W G h H σ x y v w Q r d1 d2 o
  unfold inOwn at o
  cases eo : kOwn c ix y h with
  | stk => rw [eo] at o; exact o.elim
  | exc c0 es hh =>
    exfalso
    unfold kOwn at eo
    split at eo
    · split at eo
      · split at eo <;> cases eo
      · cases eo
    · cases eo
  | ok xs hh =>
    obtain ⟨rfl, a, dx, fs, l, ws, rfl, ha, hl, ht, dd⟩ := own_walk at_ hcl r d2 eo
    rw [eo] at o
    change okR X.K T W G σ (RD X.K T) (if flat 50 x = true ∧ flats 50 xs = true then _ else _) Q at o
    by_cases hf : flat 50 x = true ∧ flats 50 xs = true
    · rw [if_pos hf] at o
      obtain ⟨p1, n1⟩ := flat_pd _ _ hf.1
      obtain ⟨p2, n2⟩ := flats_pd _ _ hf.2
      refine ⟨a, dx, fs, l, ws, pd x, pds xs, rfl, ha, hl, SqT.sub r.sub ht, fun H' hs => RD.dp (fun a o z => hs a o (r.sub a o z)) x 50 v hf.1 d1, fun H' hs => RDs.dp (fun a o z => hs a o (r.sub a o z)) xs 50 ws hf.2 dd, p1, p2, n1, ?_⟩
      rw [any_pds]
      exact o.at r .bl
    · rw [if_neg hf] at o; exact o.elim
end
end L3
set_option autoImplicit false
set_option maxHeartbeats 4000000
namespace L3
open PySem PySem.Spec L2 PyProof.Rows
section
variable {X : Cx} {T : Tx} {W : WX} {pos : Pos}
end
end L3
set_option autoImplicit false
set_option maxHeartbeats 8000000
namespace Lw
open PySem PySem.Spec L2 L3
open He (ga ma)
abbrev fuel : Nat := 4611686018427387904
abbrev c_MAX_WIDTH : D := .int 16
abbrev c_MAX_HEIGHT : D := .int 12
abbrev c_TILE : D := .int 4
def ix_height : Nat → Option Nat := fun c => match c with
  | 0 => some 1
  | _ => none
def ix_width : Nat → Option Nat := fun c => match c with
  | 0 => some 0
  | _ => none
def ix_own_places : Nat → Option Nat := fun c => match c with
  | 0 => some 2
  | _ => none
def ix_own_tiles : Nat → Option Nat := fun c => match c with
  | 0 => some 3
  | _ => none
def mH_BadCanvas : Nat → Bool := fun c => match c with
  | 0 => true
  | _ => false
def q__law_refused_right : List Nat := [95, 108, 97, 119, 95, 114, 101, 102, 117, 115, 101, 100, 95, 114, 105, 103, 104, 116, 46, 60, 108, 111, 99, 97, 108, 115, 62, 46, 60, 108, 97, 109, 98, 100, 97, 62]
def q_law : List Nat := [108, 97, 119, 46, 60, 108, 111, 99, 97, 108, 115, 62, 46, 60, 108, 97, 109, 98, 100, 97, 62]
def qs : List (List Nat) := [q__law_refused_right, q_law]
def tbs : List Str := ["_law_refused_right", "law"]
def u__law_said_1 (q : List Nat) (fb : FnE) : FnS := (sSet 1 (eC (.str [110, 111, 110, 101])))
def u__law_said_2_t_1 (q : List Nat) (fb : FnE) : FnS := (sExpr (eAct q fb 0))
def u__law_said_2_h0_1 (q : List Nat) (fb : FnE) : FnS := (sSet 1 (eC (.str [99, 97, 110, 118, 97, 115])))
def u__law_said_2 (q : List Nat) (fb : FnE) : FnS := (sTryN (u__law_said_2_t_1 q fb) [.un mH_BadCanvas (u__law_said_2_h0_1 q fb), .stop])
def u__law_said_3 (q : List Nat) (fb : FnE) : FnS := (sRet (eVar 1))
def u__law_said (q : List Nat) (fb : FnE) : FnS := (sSeq (u__law_said_1 q fb) (sSeq (u__law_said_2 q fb) (u__law_said_3 q fb)))
def f__law_said (q : List Nat) (fb : FnE) : Sem3 := runD 2 (u__law_said q fb)
def u__law_begun_1 : FnS := (sRet (eDic true [((eC (.str [99, 101, 108, 108, 115])), (eB listMB (aCons (eVar 0) aNil))), ((eC (.str [108, 101, 102, 116])), (eLcW true (wSeq (eVar 0)) (gSet 1) (eTest (eBin geD (eVar 1) (eBin powD (eC (.int 10)) (eC (.int 18))))) (eVar 1) [1])), ((eC (.str [97, 116])), (eC (.int 0)))]))
def u__law_begun : FnS := u__law_begun_1
def f__law_begun : Sem3 := runD 2 u__law_begun
def u_is_whole_in_1 : FnS := (sRet (eAnd (eIsi .int (eVar 0)) (eAnd (eNot (eIsi .bool (eVar 0))) (eChain leD leD (eVar 1) (eVar 0) (eVar 2)))))
def u_is_whole_in : FnS := u_is_whole_in_1
def f_is_whole_in : Sem3 := runD 3 u_is_whole_in
def u_number_across_1 : FnS := (sRet (eBin divD (eBin subD (eBin addD (eVar 0) (eC c_TILE)) (eC (.int 1))) (eC c_TILE)))
def u_number_across : FnS := u_number_across_1
def f_number_across : Sem3 := runD 1 u_number_across
def u_number_at_1 : FnS := (sRet (eBin addD (eBin mulD (eBin divD (eBin ixA (eVar 1) (eC (.int 1))) (eC c_TILE)) (eCall 1 f_number_across (aCons (eVar 0) aNil) [])) (eBin divD (eBin ixA (eVar 1) (eC (.int 0))) (eC c_TILE))))
def u_number_at : FnS := u_number_at_1
def f_number_at : Sem3 := runD 2 u_number_at
def u_Canvas___init___1_a_1 : FnS := (sRaise 0 (eC (.str [110, 111, 32, 119, 105, 100, 116, 104, 32, 97, 110, 100, 32, 104, 101, 105, 103, 104, 116, 32, 111, 102, 32, 97, 32, 99, 97, 110, 118, 97, 115])))
def u_Canvas___init___1 : FnS := (sIf (tOr3 (tNot3 (eTest (eCall 3 f_is_whole_in (aCons (eVar 1) (aCons (eC (.int 1)) (aCons (eC c_MAX_WIDTH) aNil))) []))) (tNot3 (eTest (eCall 3 f_is_whole_in (aCons (eVar 2) (aCons (eC (.int 1)) (aCons (eC c_MAX_HEIGHT) aNil))) [])))) u_Canvas___init___1_a_1 sNil)
def u_Canvas___init___2 : FnS := (sFld ix_width (eVar 0) (eVar 1))
def u_Canvas___init___3 : FnS := (sFld ix_height (eVar 0) (eVar 2))
def u_Canvas___init___4 : FnS := (sFld ix_own_places (eVar 0) (eB tupleB (aCons (eLc2 false (iRg1 (eVar 2)) (gSet 5) (iRg1 (eVar 1)) (gSet 6) (eTup (aCons (eVar 6) (aCons (eVar 5) aNil))) [5, 6] [6]) aNil)))
def u_Canvas___init___5 : FnS := (sSet 3 (eLc false (iRg1 (eBin mulD (eCall 1 f_number_across (aCons (eVar 1) aNil) []) (eCall 1 f_number_across (aCons (eVar 2) aNil) []))) (gSet 7) tYes3 (eLstM aNil) [7]))
def u_Canvas___init___6_1 : FnS := (sExpr (eM appendM (eBin ixA (eVar 3) (eCall 2 f_number_at (aCons (eVar 1) (aCons (eVar 4) aNil)) [])) (aCons (eVar 4) aNil)))
def u_Canvas___init___6 : FnS := (sForW (wSeq (eFld ix_own_places (eVar 0))) (gSet 4) u_Canvas___init___6_1)
def u_Canvas___init___7 : FnS := (sFld ix_own_tiles (eVar 0) (eLcW false (wSeq (eVar 3)) (gSet 8) tYes3 (eB tupleB (aCons (eVar 8) aNil)) [8]))
def u_Canvas___init__ : FnS := (sSeq u_Canvas___init___1 (sSeq u_Canvas___init___2 (sSeq u_Canvas___init___3 (sSeq u_Canvas___init___4 (sSeq u_Canvas___init___5 (sSeq u_Canvas___init___6 u_Canvas___init___7))))))
def f_Canvas___init__ : Sem3 := runD 9 u_Canvas___init__
def u__law_next_1_1 : FnS := (sIxS (eVar 0) (eC (.str [108, 101, 102, 116])) (eSliceM (eBin ixA (eVar 0) (eC (.str [108, 101, 102, 116]))) (oSome (eC (.int 1))) oNone))
def u__law_next_1 : FnS := (whileN (tAnd3 (eTest (eBin neD (eBin ixA (eVar 0) (eC (.str [108, 101, 102, 116]))) (eLst aNil))) (eTest (eBin eqD (eBin ixA (eBin ixA (eVar 0) (eC (.str [108, 101, 102, 116]))) (eC (.int 0))) (eC (.int 0))))) u__law_next_1_1 fuel)
def u__law_next_2_a_1 : FnS := (sSet 2 (eB intB (aCons (eBin ixA (eBin ixA (eVar 0) (eC (.str [108, 101, 102, 116]))) (eC (.int 0))) aNil)))
def u__law_next_2_a_2 : FnS := (sIxS (eBin ixA (eVar 0) (eC (.str [108, 101, 102, 116]))) (eC (.int 0)) (eBin divD (eVar 2) (eVar 1)))
def u__law_next_2_a_3 : FnS := (sRet (eBin modD (eVar 2) (eVar 1)))
def u__law_next_2 : FnS := (sIf (eTest (eBin neD (eBin ixA (eVar 0) (eC (.str [108, 101, 102, 116]))) (eLst aNil))) (sSeq u__law_next_2_a_1 (sSeq u__law_next_2_a_2 u__law_next_2_a_3)) sNil)
def u__law_next_3 : FnS := (sSet 3 (eBin addD (eBin ixA (eVar 0) (eC (.str [97, 116]))) (eC (.int 1))))
def u__law_next_4 : FnS := (sIxS (eVar 0) (eC (.str [97, 116])) (eVar 3))
def u__law_next_5 : FnS := (sSet 4 (eIf (eTest (eBin neD (eBin ixA (eVar 0) (eC (.str [99, 101, 108, 108, 115]))) (eLst aNil))) (eBin ixA (eBin ixA (eVar 0) (eC (.str [99, 101, 108, 108, 115]))) (eBin modD (eB intB (aCons (eVar 3) aNil)) (eB lenB (aCons (eBin ixA (eVar 0) (eC (.str [99, 101, 108, 108, 115]))) aNil)))) (eC (.int 5))))
def u__law_next_6 : FnS := (sSet 5 (eBin mulD (eB intB (aCons (eBin addD (eBin addD (eBin modD (eB intB (aCons (eVar 4) aNil)) (eC (.int 2147483629))) (eBin mulD (eC (.int 7919)) (eVar 3))) (eBin mulD (eBin mulD (eC (.int 17)) (eVar 3)) (eVar 3))) aNil)) (eC (.int 48271))))
def u__law_next_7 : FnS := (sSet 5 (eBin mulD (eB intB (aCons (eBin addD (eBin modD (eB intB (aCons (eVar 5) aNil)) (eC (.int 2147483647))) (eBin mulD (eC (.int 104729)) (eVar 3))) aNil)) (eC (.int 69621))))
def u__law_next_8 : FnS := (sRet (eBin modD (eB intB (aCons (eBin divD (eBin modD (eB intB (aCons (eVar 5) aNil)) (eC (.int 2147483587))) (eC (.int 13))) aNil)) (eVar 1)))
def u__law_next : FnS := (sSeq u__law_next_1 (sSeq u__law_next_2 (sSeq u__law_next_3 (sSeq u__law_next_4 (sSeq u__law_next_5 (sSeq u__law_next_6 (sSeq u__law_next_7 u__law_next_8)))))))
def f__law_next : Sem3 := runD 6 u__law_next
def u_Canvas_places_1 : FnS := (sRet (eFld ix_own_places (eVar 0)))
def u_Canvas_places : FnS := u_Canvas_places_1
def f_Canvas_places : Sem3 := runD 1 u_Canvas_places
def u_Canvas___iter___1 : FnS := (sRet eNever)
def u_Canvas___iter__ : FnS := u_Canvas___iter___1
def f_Canvas___iter__ : Sem3 := runD 1 u_Canvas___iter__
def u__law_places_right_1 : FnS := (sSet 3 (eLst aNil))
def u__law_places_right_2_1 : FnS := (sSet 3 (eBin addD (eVar 3) (eLc false (iRg1 (eVar 1)) (gSet 6) tYes3 (eTup (aCons (eVar 6) (aCons (eVar 4) aNil))) [6])))
def u__law_places_right_2 : FnS := (sFor (iRg1 (eVar 2)) (gSet 4) u__law_places_right_2_1)
def u__law_places_right_3_1_a_1 : FnS := (sRet (eC (.bl false)))
def u__law_places_right_3_1 : FnS := (sIf (tOr3 (eTest (eBin neD (eB reprB (aCons (eMeth 0 1 f_Canvas_places (eVar 0) aNil []) aNil)) (eB reprB (aCons (eB tupleB (aCons (eVar 3) aNil)) aNil)))) (eTest (eBin neD (eB reprB (aCons (eLc false (iOwn 0 ix_own_places (eVar 0)) (gSet 7) tYes3 (eVar 7) [7]) aNil)) (eB reprB (aCons (eVar 3) aNil))))) u__law_places_right_3_1_a_1 sNil)
def u__law_places_right_3 : FnS := (sFor (iRg1 (eC (.int 2))) (gSet 5) u__law_places_right_3_1)
def u__law_places_right_4 : FnS := (sRet (eAnd (eBin eqD (eB lenB (aCons (eB (listOB 0 ix_own_places) (aCons (eVar 0) aNil)) aNil)) (eBin mulD (eVar 1) (eVar 2))) (eBin (inOwn 0 ix_own_places) (eBin ixA (eVar 3) (eUn negD (eC (.int 1)))) (eVar 0))))
def u__law_places_right : FnS := (sSeq u__law_places_right_1 (sSeq u__law_places_right_2 (sSeq u__law_places_right_3 u__law_places_right_4)))
def f__law_places_right : Sem3 := runD 8 u__law_places_right
def u_Canvas___eq___1 : FnS := (sRet (eAnd (eIso 0 (eVar 1)) (eAnd (eBin eqD (eFld ix_width (eVar 0)) (eFld ix_width (eVar 1))) (eBin eqD (eFld ix_height (eVar 0)) (eFld ix_height (eVar 1))))))
def u_Canvas___eq__ : FnS := u_Canvas___eq___1
def f_Canvas___eq__ : Sem3 := runD 2 u_Canvas___eq__
def u__law_refused_right_1 : FnS := (sSet 1 (eLst (aCons (eC .non) (aCons (eC (.bl true)) (aCons (eC (.bl false)) (aCons (eC (.str [52])) (aCons (eTup aNil) (aCons (eTup (aCons (eC (.int 4)) aNil)) (aCons (eLst (aCons (eC (.int 4)) aNil)) (aCons (eDic0 false) (aCons (eC (.int 0)) (aCons (eUn negD (eC (.int 1))) (aCons (eC (.int 17)) (aCons (eC (.int 1000)) (aCons (eBin powD (eC (.int 10)) (eC (.int 30))) (aCons (eUn negD (eC (.int 16))) (aCons (eC (.str [])) (aCons (eTup (aCons (eC (.int 4)) (aCons (eC (.int 4)) aNil))) aNil))))))))))))))))))
def u__law_refused_right_2 : FnS := (sAsg (gTupD 3 (gsCons (gSet 2) (gsCons (gSet 3) (gsCons (gSet 4) gsNil)))) (eTup (aCons (eBin ixA (eVar 1) (eCall 2 f__law_next (aCons (eVar 0) (aCons (eC (.int 16)) aNil)) [])) (aCons (eBin ixA (eVar 1) (eCall 2 f__law_next (aCons (eVar 0) (aCons (eC (.int 16)) aNil)) [])) (aCons (eBin addD (eC (.int 1)) (eCall 2 f__law_next (aCons (eVar 0) (aCons (eC (.int 12)) aNil)) [])) aNil)))))
def u__law_refused_right_3 : FnS := (sSet 5 (eLstM (aCons (eLam 0 q__law_refused_right f__law_said (eMake 0 4 3 f_Canvas___init__ (aCons (eVar 2) (aCons (eVar 4) aNil)) [])) aNil)))
def u__law_refused_right_4 : FnS := (sExpr (eM appendM (eVar 5) (aCons (eLam 0 q__law_refused_right f__law_said (eMake 0 4 3 f_Canvas___init__ (aCons (eVar 4) (aCons (eVar 2) aNil)) [])) aNil)))
def u__law_refused_right_5 : FnS := (sExpr (eM appendM (eVar 5) (aCons (eLam 0 q__law_refused_right f__law_said (eMake 0 4 3 f_Canvas___init__ (aCons (eVar 2) (aCons (eVar 3) aNil)) [])) aNil)))
def u__law_refused_right_6 : FnS := (sExpr (eM appendM (eVar 5) (aCons (eLam 0 q__law_refused_right f__law_said (eMake 0 4 3 f_Canvas___init__ (aCons (eVar 4) (aCons (eC (.int 13)) aNil)) [])) aNil)))
def u__law_refused_right_7 : FnS := (sExpr (eM appendM (eVar 5) (aCons (eLam 0 q__law_refused_right f__law_said (eMake 0 4 3 f_Canvas___init__ (aCons (eC (.int 17)) (aCons (eVar 4) aNil)) [])) aNil)))
def u__law_refused_right_8 : FnS := (sExpr (eM appendM (eVar 5) (aCons (eLam 0 q__law_refused_right f__law_said (eMake 0 4 3 f_Canvas___init__ (aCons (eVar 4) (aCons (eC (.int 0)) aNil)) [])) aNil)))
def u__law_refused_right_9 : FnS := (sRet (eBin eqD (eVar 5) (eBin mulD (eLst (aCons (eC (.str [99, 97, 110, 118, 97, 115])) aNil)) (eC (.int 6)))))
def u__law_refused_right : FnS := (sSeq u__law_refused_right_1 (sSeq u__law_refused_right_2 (sSeq u__law_refused_right_3 (sSeq u__law_refused_right_4 (sSeq u__law_refused_right_5 (sSeq u__law_refused_right_6 (sSeq u__law_refused_right_7 (sSeq u__law_refused_right_8 u__law_refused_right_9))))))))
def f__law_refused_right : Sem3 := runD 6 u__law_refused_right
def u__law_walks_right_1 : FnS := (sPar [2, 3, 4] (aCons (eMake 0 4 3 f_Canvas___init__ (aCons (eVar 0) (aCons (eVar 1) aNil)) []) (aCons (eLstM aNil) (aCons (eLst aNil) aNil))))
def u__law_walks_right_2_1_1 : FnS := (sExpr (eM appendM (eVar 3) (aCons (eTup (aCons (eVar 5) (aCons (eVar 6) aNil))) aNil)))
def u__law_walks_right_2_1 : FnS := (sFor (iOwn 0 ix_own_places (eVar 2)) (gSet 6) u__law_walks_right_2_1_1)
def u__law_walks_right_2 : FnS := (sFor (iOwn 0 ix_own_places (eVar 2)) (gSet 5) u__law_walks_right_2_1)
def u__law_walks_right_3_1 : FnS := (sSet 4 (eBin addD (eVar 4) (eLcW false (wSeq (eMeth 0 1 f_Canvas_places (eVar 2) aNil [])) (gSet 6) tYes3 (eTup (aCons (eVar 5) (aCons (eVar 6) aNil))) [6])))
def u__law_walks_right_3 : FnS := (sForW (wSeq (eMeth 0 1 f_Canvas_places (eVar 2) aNil [])) (gSet 5) u__law_walks_right_3_1)
def u__law_walks_right_4 : FnS := (sRet (eAnd (eBin eqD (eVar 3) (eVar 4)) (eBin eqD (eB lenB (aCons (eVar 3) aNil)) (eBin mulD (eBin mulD (eBin mulD (eVar 0) (eVar 1)) (eVar 0)) (eVar 1)))))
def u__law_walks_right : FnS := (sSeq u__law_walks_right_1 (sSeq u__law_walks_right_2 (sSeq u__law_walks_right_3 u__law_walks_right_4)))
def f__law_walks_right : Sem3 := runD 7 u__law_walks_right
def u_law_1 : FnS := (sSet 1 (eCall 1 f__law_begun (aCons (eVar 0) aNil) []))
def u_law_2 : FnS := (sPar [2, 3] (aCons (eMake 0 4 3 f_Canvas___init__ (aCons (eC (.int 16)) (aCons (eC (.int 12)) aNil)) []) (aCons (eTup (aCons (eC (.int 16)) (aCons (eC (.int 12)) aNil))) aNil)))
def u_law_3_1 : FnS := (sPar [5, 6] (aCons (eBin addD (eC (.int 1)) (eCall 2 f__law_next (aCons (eVar 1) (aCons (eC (.int 16)) aNil)) [])) (aCons (eBin addD (eC (.int 1)) (eCall 2 f__law_next (aCons (eVar 1) (aCons (eC (.int 12)) aNil)) [])) aNil)))
def u_law_3_2 : FnS := (sSet 7 (eKw aNil (aCons (eVar 6) (aCons (eVar 5) aNil)) (kMakeK 0 4 2 3 f_Canvas___init__ [] [.p 0, .k 1, .k 0])))
def u_law_3_3_a_1 : FnS := (sRet (eC (.bl false)))
def u_law_3_3 : FnS := (sIf (tOr3 (eTest (eBin neD (eB reprB (aCons (eLst (aCons (eFld ix_width (eVar 7)) (aCons (eFld ix_height (eVar 7)) aNil))) aNil)) (eB reprB (aCons (eLst (aCons (eVar 5) (aCons (eVar 6) aNil))) aNil)))) (tNot3 (eTest (eCall 3 f__law_places_right (aCons (eVar 7) (aCons (eVar 5) (aCons (eVar 6) aNil))) [])))) u_law_3_3_a_1 sNil)
def u_law_3_4_a_1 : FnS := (sRet (eC (.bl false)))
def u_law_3_4 : FnS := (sIf (tOr3 (tNot3 (eTest (eBin (eqO 0 f_Canvas___eq__) (eVar 7) (eMake 0 4 3 f_Canvas___init__ (aCons (eVar 5) (aCons (eVar 6) aNil)) [])))) (tOr3 (eTest (eBin (neO 0 f_Canvas___eq__) (eVar 7) (eMake 0 4 3 f_Canvas___init__ (aCons (eVar 5) (aCons (eVar 6) aNil)) []))) (tOr3 (eTest (eBin (eqV 0 f_Canvas___eq__) (eVar 7) (eTup (aCons (eVar 5) (aCons (eVar 6) aNil))))) (eTest (eBin (eqV 0 f_Canvas___eq__) (eVar 7) (eVar 5)))))) u_law_3_4_a_1 sNil)
def u_law_3_5_a_1 : FnS := (sRet (eC (.bl false)))
def u_law_3_5 : FnS := (sIf (tOr3 (eTest (eBin neD (eBin (eqO 0 f_Canvas___eq__) (eVar 7) (eVar 2)) (eBin eqD (eTup (aCons (eVar 5) (aCons (eVar 6) aNil))) (eVar 3)))) (eTest (eBin neD (eBin (neO 0 f_Canvas___eq__) (eVar 7) (eVar 2)) (eBin neD (eTup (aCons (eVar 5) (aCons (eVar 6) aNil))) (eVar 3))))) u_law_3_5_a_1 sNil)
def u_law_3_6_a_1 : FnS := (sRet (eC (.bl false)))
def u_law_3_6 : FnS := (sIf (tAnd3 (eTest (eBin ltD (eVar 5) (eC (.int 13)))) (eTest (eBin neD (eBin (eqO 0 f_Canvas___eq__) (eVar 7) (eMake 0 4 3 f_Canvas___init__ (aCons (eVar 6) (aCons (eVar 5) aNil)) [])) (eBin eqD (eVar 5) (eVar 6))))) u_law_3_6_a_1 sNil)
def u_law_3_7_a_1 : FnS := (sRet (eC (.bl false)))
def u_law_3_7 : FnS := (sIf (tOr3 (eTest (eBin (eqO 0 f_Canvas___eq__) (eVar 7) (eMake 0 4 3 f_Canvas___init__ (aCons (eVar 5) (aCons (eBin addD (eBin modD (eB intB (aCons (eVar 6) aNil)) (eC (.int 12))) (eC (.int 1))) aNil)) []))) (eTest (eBin (eqO 0 f_Canvas___eq__) (eVar 7) (eMake 0 4 3 f_Canvas___init__ (aCons (eBin addD (eBin modD (eB intB (aCons (eVar 5) aNil)) (eC (.int 16))) (eC (.int 1))) (aCons (eVar 6) aNil)) [])))) u_law_3_7_a_1 sNil)
def u_law_3_8_a_1 : FnS := (sRet (eC (.bl false)))
def u_law_3_8 : FnS := (sIf (tOr3 (tNot3 (eTest (eCall 1 f__law_refused_right (aCons (eVar 1) aNil) []))) (tNot3 (eTest (eCall 2 f__law_walks_right (aCons (eBin addD (eC (.int 1)) (eCall 2 f__law_next (aCons (eVar 1) (aCons (eC (.int 3)) aNil)) [])) (aCons (eBin addD (eC (.int 1)) (eCall 2 f__law_next (aCons (eVar 1) (aCons (eC (.int 3)) aNil)) [])) aNil)) [])))) u_law_3_8_a_1 sNil)
def u_law_3_9 : FnS := (sPar [2, 3] (aCons (eVar 7) (aCons (eTup (aCons (eVar 5) (aCons (eVar 6) aNil))) aNil)))
def u_law_3 : FnS := (sFor (iRg1 (eBin addD (eC (.int 4)) (eB min2B (aCons (eB lenB (aCons (eVar 0) aNil)) (aCons (eC (.int 6)) aNil))))) (gSet 4) (sSeq u_law_3_1 (sSeq u_law_3_2 (sSeq u_law_3_3 (sSeq u_law_3_4 (sSeq u_law_3_5 (sSeq u_law_3_6 (sSeq u_law_3_7 (sSeq u_law_3_8 u_law_3_9)))))))))
def u_law_4 : FnS := (sSet 8 (eLst (aCons (eMeth 0 1 f_Canvas_places (eMake 0 4 3 f_Canvas___init__ (aCons (eC (.int 1)) (aCons (eC (.int 1)) aNil)) []) aNil []) (aCons (eBin ixA (eMeth 0 1 f_Canvas_places (eMake 0 4 3 f_Canvas___init__ (aCons (eC (.int 1)) (aCons (eC (.int 12)) aNil)) []) aNil []) (eUn negD (eC (.int 1)))) (aCons (eBin ixA (eMeth 0 1 f_Canvas_places (eMake 0 4 3 f_Canvas___init__ (aCons (eC (.int 16)) (aCons (eC (.int 1)) aNil)) []) aNil []) (eUn negD (eC (.int 1)))) aNil)))))
def u_law_5 : FnS := (sRet (eAnd (eBin eqD (eVar 8) (eLst (aCons (eTup (aCons (eTup (aCons (eC (.int 0)) (aCons (eC (.int 0)) aNil))) aNil)) (aCons (eTup (aCons (eC (.int 0)) (aCons (eC (.int 11)) aNil))) (aCons (eTup (aCons (eC (.int 15)) (aCons (eC (.int 0)) aNil))) aNil))))) (eBin eqD (eLam 1 q_law f__law_said (eMake 0 4 3 f_Canvas___init__ (aCons (eC (.int 16)) (aCons (eC (.int 12)) aNil)) [])) (eC (.str [110, 111, 110, 101])))))
def u_law : FnS := (sSeq u_law_1 (sSeq u_law_2 (sSeq u_law_3 (sSeq u_law_4 u_law_5))))
def f_law : Sem3 := runD 9 u_law
end Lw
set_option autoImplicit false
section
set_option maxHeartbeats 8000000
namespace Lw
open PySem PySem.Spec L2 L3
open He (ga ma)
def top (i : Nat) : Stmt := PySem.Challenge.pw_tilewright_k02_canvases_made.main.body.getD i (.Pass ⟨0, 0, 0, 0⟩)
def clsB : Stmt → List Stmt
  | .ClassDef _ _ _ b _ _ _ _ _ _ _ => b
  | _ => []
def mem (i j : Nat) : Stmt := (clsB (top i)).getD j (.Pass ⟨0, 0, 0, 0⟩)
def TX (w : World) (K : PySem.W.Frag) : Tx where
  nd := NdO w
  cls := fun c => match c with
    | 0 => some (ga K "Canvas", ["width", "height", "own_places", "own_tiles"])
    | _ => none
  exc := fun c => match c with
    | 0 => some (ga K "BadCanvas", ["reason"])
    | _ => none
  tb := fun z => if z = q__law_refused_right then some (tbA K (ga K "_law_refused_right")) else if z = q_law then some (tbA K (ga K "law")) else  none
  src := fun _ _ _ _ => False
  srcAt := fun _ _ _ _ h => h.elim
  srcStay := fun _ _ _ _ _ h _ => h.elim
def d__law_said : DefL := ⟨("_law_said", none), false, "_law_said", "_law_said", defArgs (top 18), defBody (top 18), defScope (top 18), [], none⟩
def d__law_begun : DefL := ⟨("_law_begun", none), false, "_law_begun", "_law_begun", defArgs (top 16), defBody (top 16), defScope (top 16), [], none⟩
def d_is_whole_in : DefL := ⟨("is_whole_in", none), false, "is_whole_in", "is_whole_in", defArgs (top 7), defBody (top 7), defScope (top 7), [], none⟩
def d_number_across : DefL := ⟨("number_across", none), false, "number_across", "number_across", defArgs (top 13), defBody (top 13), defScope (top 13), [], none⟩
def d_number_at : DefL := ⟨("number_at", none), false, "number_at", "number_at", defArgs (top 14), defBody (top 14), defScope (top 14), [], none⟩
def d_Canvas___init__ : DefL := ⟨("Canvas", some "__init__"), false, "__init__", "Canvas.__init__", defArgs (mem 12 0), defBody (mem 12 0), defScope (mem 12 0), [], none⟩
def d__law_next : DefL := ⟨("_law_next", none), false, "_law_next", "_law_next", defArgs (top 17), defBody (top 17), defScope (top 17), [], none⟩
def d_Canvas_places : DefL := ⟨("Canvas", some "places"), false, "places", "Canvas.places", defArgs (mem 12 3), defBody (mem 12 3), defScope (mem 12 3), [], none⟩
def d_Canvas___iter__ : DefL := ⟨("Canvas", some "__iter__"), false, "__iter__", "Canvas.__iter__", defArgs (mem 12 1), defBody (mem 12 1), defScope (mem 12 1), [], none⟩
def d__law_places_right : DefL := ⟨("_law_places_right", none), false, "_law_places_right", "_law_places_right", defArgs (top 20), defBody (top 20), defScope (top 20), [], none⟩
def d_Canvas___eq__ : DefL := ⟨("Canvas", some "__eq__"), false, "__eq__", "Canvas.__eq__", defArgs (mem 12 2), defBody (mem 12 2), defScope (mem 12 2), [], none⟩
def d__law_refused_right : DefL := ⟨("_law_refused_right", none), false, "_law_refused_right", "_law_refused_right", defArgs (top 19), defBody (top 19), defScope (top 19), [], none⟩
def d__law_walks_right : DefL := ⟨("_law_walks_right", none), false, "_law_walks_right", "_law_walks_right", defArgs (top 21), defBody (top 21), defScope (top 21), [], none⟩
def d_law : DefL := ⟨("law", none), false, "law", "law", defArgs (top 22), defBody (top 22), defScope (top 22), [], none⟩
def d_BadCanvas___init__ : DefL := ⟨("BadCanvas", some "__init__"), false, "__init__", "BadCanvas.__init__", defArgs (mem 5 0), defBody (mem 5 0), defScope (mem 5 0), [], some ("reason", "/claim/cut.py")⟩
def fl : List Fl := [.k (.glo "_law_begun"), .k (.mkr "Canvas"), .k (.glo "Canvas"), .k (.free "len"), .k (.free "min"), .k (.free "range"), .k (.glo "_law_next"), .k (.free "repr"), .k (.glo "_law_places_right"), .k (.meth "Canvas" "__eq__"), .isi "Canvas", .ne "Canvas", .k (.free "int"), .k (.glo "_law_refused_right"), .k (.glo "_law_walks_right"), .k (.cls "Canvas"), .k (.meth "Canvas" "places"), .k (.glo "_law_said"), .k (.free "list"), .gc "MAX_WIDTH" c_MAX_WIDTH, .k (.glo "is_whole_in"), .gc "MAX_HEIGHT" c_MAX_HEIGHT, .k (.glo "BadCanvas"), .k (.free "tuple"), .k (.glo "number_across"), .k (.glo "number_at"), .k (.free "isinstance"), .k (.free "bool"), .gc "TILE" c_TILE, .k (.meth "Canvas" "__iter__"), .k (.noat "Canvas" "own_places"), .k (.free "iter"), .k (.noat "Canvas" "__len__"), .k (.noat "Canvas" "__length_hint__"), .k (.noat "Canvas" "__contains__"), .k (.noat "Canvas" "height"), .k (.noat "Canvas" "width"), .k (.noat "Canvas" "own_tiles"), .k (.glo "law"), .exm "BadCanvas" "BadCanvas" true]
def fn : List DefL := [d__law_said, d__law_begun, d_is_whole_in, d_number_across, d_number_at, d_Canvas___init__, d__law_next, d_Canvas_places, d_Canvas___iter__, d__law_places_right, d_Canvas___eq__, d__law_refused_right, d__law_walks_right, d_law, d_BadCanvas___init__]
abbrev Bt := Bs fl fn
theorem err_BadCanvas {K : PySem.W.Frag} {mg : Str → Option Value} (B : Bt K mg) : ErrC K (ga K "BadCanvas") (ma K (ga K "BadCanvas") "__init__") "reason" "reason" "/claim/cut.py" :=
  B.c.err_ 14 (d := d_BadCanvas___init__) rfl rfl ⟨⟨_, _, rfl⟩, by decide, by decide, ⟨_, _, _, _, _, _, _, _, _, _, _, _, rfl, rfl⟩, rfl, rfl, rfl, rfl, by decide, rfl, rfl, rfl⟩
theorem hm_BadCanvas {w : World} {K : PySem.W.Frag} {mg : Str → Option Value} (B : Bt K mg) : ∀ (n : Nat) (C : Addr) (nm : List Str), (TX w K).exc n = some (C, nm) → PySem.W.exmOne K (.ref C) (.ref (ga K "BadCanvas")) = some (mH_BadCanvas n)
  | 0, C, nm, h => by cases h; exact B.exm 39
  | n + 1, C, nm, h => by cases h
theorem at_height {X : Cx} {mg : Str → Option Value} (B : Bt X.K mg) : AttrOk X (TX X.w X.K) "height" ix_height := by
  intro c k e
  unfold ix_height at e
  split at e
  · cases e; exact ⟨_, _, rfl, rfl, by decide, by decide, B.cls 15, B.noat 35⟩
  · cases e
theorem at_width {X : Cx} {mg : Str → Option Value} (B : Bt X.K mg) : AttrOk X (TX X.w X.K) "width" ix_width := by
  intro c k e
  unfold ix_width at e
  split at e
  · cases e; exact ⟨_, _, rfl, rfl, by decide, by decide, B.cls 15, B.noat 36⟩
  · cases e
theorem at_own_places {X : Cx} {mg : Str → Option Value} (B : Bt X.K mg) : AttrOk X (TX X.w X.K) "own_places" ix_own_places := by
  intro c k e
  unfold ix_own_places at e
  split at e
  · cases e; exact ⟨_, _, rfl, rfl, by decide, by decide, B.cls 15, B.noat 30⟩
  · cases e
theorem at_own_tiles {X : Cx} {mg : Str → Option Value} (B : Bt X.K mg) : AttrOk X (TX X.w X.K) "own_tiles" ix_own_tiles := by
  intro c k e
  unfold ix_own_tiles at e
  split at e
  · cases e; exact ⟨_, _, rfl, rfl, by decide, by decide, B.cls 15, B.noat 37⟩
  · cases e
abbrev N__law_said : List Str := ["_law_deed", "_law_told"]
theorem sc__law_said : FnScope ["_law_deed", "_law_told"] ["_law_deed"] (defScope (top 18)) := ⟨rfl, rfl, rfl, by decide +kernel, rfl, by decide +kernel, by decide +kernel⟩
theorem giv__law_said {X : Cx} {k : Nat} (B : Bt X.K X.mg) (hP : PrgOk X.prog "/claim/cut.py") (cdg : Value) : GivL X (TX X.w X.K) k N__law_said "_law_said" (defScope (top 18)) (ga X.K "_law_said") cdg (defBody (top 18)) "_law_deed" u__law_said := by
  intro q fb n f c σ s H W act hr tk
  have hu := hr.units
  have hu1 := Nat.lt_of_le_of_lt (Nat.add_le_add_left (by decide : 1 ≤ 64) _) hu
  have hu9 := Nat.lt_of_le_of_lt (Nat.add_le_add_left (by decide : 9 ≤ 64) _) hu
  have hu65 := hr.u65
  have sc := sc__law_said
  exact (fss_cons (fs_set (i := 1) sc.nd rfl (by first | exact Or.inl rfl | exact Or.inr rfl) (fe_str (y := [110, 111, 110, 101]) rfl)) (fss_cons (fs_tryN rfl rfl sc.nd tk (fun W pn xe tk => by exact (fss_one (fs_expr (act _ _ _ _ _ tk)))) (.un ⟨rfl, by decide, .inl (B.glo 22)⟩ (by first | exact hm_BadCanvas B | exact hm_BadCanvas (w := X.w) B | exact hm_BadCanvas (w := w) B) (fun a oe pn => by exact (fss_one (fs_set (i := 1) sc.nd rfl (by first | exact Or.inl rfl | exact Or.inr rfl) (fe_str (y := [99, 97, 110, 118, 97, 115]) rfl)))) .stop)) (fss_one (fs_ret (fe_var 1 (pv 1))))))
abbrev N__law_begun : List Str := ["_law_script", "_law_cell"]
theorem sc__law_begun : FnScope ["_law_script", "_law_cell"] ["_law_script"] (defScope (top 16)) := ⟨rfl, rfl, rfl, by decide +kernel, rfl, by decide +kernel, by decide +kernel⟩
theorem ok__law_begun {P : Program} {w : World} {K : PySem.W.Frag} {mg : Str → Option Value} (B : Bt K mg) (hP : PrgOk P "/claim/cut.py") : ∃ fd, (∀ base, TbsOk tbs K mg base → FnL P w K mg base (TX w K) 1 (ga K "_law_begun") fd ["_law_script"] f__law_begun) ∧ Binds K fd ["_law_script"] [] ∧ PySem.W.keepIn K (.ref (ga K "_law_begun")) = true := by
  obtain ⟨fd, F⟩ := B.c.def_ 1 (d := d__law_begun) rfl
  refine ⟨fd, fun base tbo => def_okD F sc__law_begun fun cdv A outer s H E W hr tk => ?_, FunD.bindsN F fun _ _ _ _ _ _ us hl => match us, hl with | [_], _ => rfl, F.kp⟩
  have hu := hr.units
  have hu1 := Nat.lt_of_le_of_lt (Nat.add_le_add_left (by decide : 1 ≤ 64) _) hu
  have hu9 := Nat.lt_of_le_of_lt (Nat.add_le_add_left (by decide : 9 ≤ 64) _) hu
  have hu65 := hr.u65
  have sc := sc__law_begun
  exact (fss_one (fs_ret (fe_dict (fps_cons (fe_str (y := [99, 101, 108, 108, 115]) rfl) (fe_bt call_list_of cs_listM rfl (B.free 18) (by decide +kernel) (fa_cons (fe_var 0 (pv 0)) fa_nil)) (fps_cons (fe_str (y := [108, 101, 102, 116]) rfl) (fe_lcW (own := [("_law_cell", 1)]) rfl sc.nd (fw_seq (fe_var 0 (pv 0))) (blkOk_by (by first | (show blkC N__law_begun (defScope (top 16)) _ _ = true; decide +kernel) | kernel_rfl)) (fun s H C cl fp => by exact (fg_name 1 sc.nd rfl (by first | exact Or.inl rfl | exact Or.inr rfl))) (fun s H C cl fp => by exact (fts_one (ft_cmp L2.op_ge os_cmp (by rfl) (fe_var 1 (pv 1)) (fe_op L2.op_pow os_pow fe_int fe_int)))) (fun s H C cl fp => by exact (fe_var 1 (pv 1))) (by decide)) (fps_cons (fe_str (y := [97, 116]) rfl) fe_int fps_nil))) rfl rfl (by simp) (by decide))))
theorem sc_is_whole_in : FnScope ["value", "least", "most"] ["value", "least", "most"] (defScope (top 7)) := ⟨rfl, rfl, rfl, by decide +kernel, rfl, by decide +kernel, by decide +kernel⟩
theorem ok_is_whole_in {P : Program} {w : World} {K : PySem.W.Frag} {mg : Str → Option Value} (B : Bt K mg) (hP : PrgOk P "/claim/cut.py") : ∃ fd, (∀ base, TbsOk tbs K mg base → FnL P w K mg base (TX w K) 1 (ga K "is_whole_in") fd ["value", "least", "most"] f_is_whole_in) ∧ Binds K fd ["value", "least", "most"] [] ∧ PySem.W.keepIn K (.ref (ga K "is_whole_in")) = true := by
  obtain ⟨fd, F⟩ := B.c.def_ 2 (d := d_is_whole_in) rfl
  refine ⟨fd, fun base tbo => def_okD F sc_is_whole_in fun cdv A outer s H E W hr tk => ?_, FunD.bindsN F fun _ _ _ _ _ _ us hl => match us, hl with | [_, _, _], _ => rfl, F.kp⟩
  have hu := hr.units
  have hu1 := Nat.lt_of_le_of_lt (Nat.add_le_add_left (by decide : 1 ≤ 64) _) hu
  have hu9 := Nat.lt_of_le_of_lt (Nat.add_le_add_left (by decide : 9 ≤ 64) _) hu
  have hu65 := hr.u65
  have sc := sc_is_whole_in
  exact (fss_one (fs_ret (fe_and (fe_isi (t := .int) (fe_var 0 (pv 0)) rfl (B.free 26) rfl (B.free 12) (by decide +kernel) (by decide +kernel)) (fe_and (fe_not (fe_isi (t := .bool) (fe_var 0 (pv 0)) rfl (B.free 26) rfl (B.free 27) (by decide +kernel) (by decide +kernel))) (fe_one (fe_chain L2.op_le L2.op_le os_cmp os_cmp (by rfl) (fe_var 1 (pv 1)) (fe_var 0 (pv 0)) (fe_var 2 (pv 2))))))))
theorem sc_number_across : FnScope ["size"] ["size"] (defScope (top 13)) := ⟨rfl, rfl, rfl, by decide +kernel, rfl, by decide +kernel, by decide +kernel⟩
theorem ok_number_across {P : Program} {w : World} {K : PySem.W.Frag} {mg : Str → Option Value} (B : Bt K mg) (hP : PrgOk P "/claim/cut.py") : ∃ fd, (∀ base, TbsOk tbs K mg base → FnL P w K mg base (TX w K) 1 (ga K "number_across") fd ["size"] f_number_across) ∧ Binds K fd ["size"] [] ∧ PySem.W.keepIn K (.ref (ga K "number_across")) = true := by
  obtain ⟨fd, F⟩ := B.c.def_ 3 (d := d_number_across) rfl
  refine ⟨fd, fun base tbo => def_okD F sc_number_across fun cdv A outer s H E W hr tk => ?_, FunD.bindsN F fun _ _ _ _ _ _ us hl => match us, hl with | [_], _ => rfl, F.kp⟩
  have hu := hr.units
  have hu1 := Nat.lt_of_le_of_lt (Nat.add_le_add_left (by decide : 1 ≤ 64) _) hu
  have hu9 := Nat.lt_of_le_of_lt (Nat.add_le_add_left (by decide : 9 ≤ 64) _) hu
  have hu65 := hr.u65
  have sc := sc_number_across
  exact (fss_one (fs_ret (fe_op L2.op_fdivW os_div (fe_op L2.op_sub os_sub (fe_op op_addA os_add (fe_var 0 (pv 0)) (fe_gc rfl (B.gc 28))) fe_int) (fe_gc rfl (B.gc 28)))))
theorem sc_number_at : FnScope ["width", "place"] ["width", "place"] (defScope (top 14)) := ⟨rfl, rfl, rfl, by decide +kernel, rfl, by decide +kernel, by decide +kernel⟩
theorem ok_number_at {P : Program} {w : World} {K : PySem.W.Frag} {mg : Str → Option Value} (B : Bt K mg) (hP : PrgOk P "/claim/cut.py") : ∃ fd, (∀ base, TbsOk tbs K mg base → FnL P w K mg base (TX w K) 2 (ga K "number_at") fd ["width", "place"] f_number_at) ∧ Binds K fd ["width", "place"] [] ∧ PySem.W.keepIn K (.ref (ga K "number_at")) = true := by
  obtain ⟨fd, F⟩ := B.c.def_ 4 (d := d_number_at) rfl
  obtain ⟨fd_number_across, G_number_across, b_number_across, k_number_across⟩ := ok_number_across (P := P) (w := w) B hP
  refine ⟨fd, fun base tbo => def_okD F sc_number_at fun cdv A outer s H E W hr tk => ?_, FunD.bindsN F fun _ _ _ _ _ _ us hl => match us, hl with | [_, _], _ => rfl, F.kp⟩
  have hu := hr.units
  have hu1 := Nat.lt_of_le_of_lt (Nat.add_le_add_left (by decide : 1 ≤ 64) _) hu
  have hu9 := Nat.lt_of_le_of_lt (Nat.add_le_add_left (by decide : 9 ≤ 64) _) hu
  have hu65 := hr.u65
  have sc := sc_number_at
  exact (fss_one (fs_ret (fe_op op_addA os_add (fe_op op_mulA os_mul (fe_op L2.op_fdivW os_div (fe_ixA hu1 (fun _ _ => rfl) (fe_var 1 (pv 1)) fe_int) (fe_gc rfl (B.gc 28))) (fe_call tk (G_number_across base tbo) (hr.mono (by decide)) rfl (B.glo 24) k_number_across b_number_across Dfl.nil (fa_cons (fe_var 0 (pv 0)) fa_nil))) (fe_op L2.op_fdivW os_div (fe_ixA hu1 (fun _ _ => rfl) (fe_var 1 (pv 1)) fe_int) (fe_gc rfl (B.gc 28))))))
abbrev N_Canvas___init__ : List Str := ["self", "width", "height", "rows", "place", "j", "i", "tile", "row"]
theorem sc_Canvas___init__ : FnScope ["self", "width", "height", "rows", "place", "j", "i", "tile", "row"] ["self", "width", "height"] (defScope (mem 12 0)) := ⟨rfl, rfl, rfl, by decide +kernel, rfl, by decide +kernel, by decide +kernel⟩
theorem ok_Canvas___init__ {P : Program} {w : World} {K : PySem.W.Frag} {mg : Str → Option Value} (B : Bt K mg) (hP : PrgOk P "/claim/cut.py") : ∃ fd, (∀ base, TbsOk tbs K mg base → FnL P w K mg base (TX w K) 3 (ma K (ga K "Canvas") "__init__") fd ["self", "width", "height"] f_Canvas___init__) ∧ Binds K fd ["self", "width", "height"] [] ∧ PySem.W.keepIn K (.ref (ma K (ga K "Canvas") "__init__")) = true ∧ KBp K fd ["self", "width", "height"] 1 ["height", "width"] [] [.p 0, .k 1, .k 0] := by
  obtain ⟨fd, F⟩ := B.c.def_ 5 (d := d_Canvas___init__) rfl
  obtain ⟨fd_is_whole_in, G_is_whole_in, b_is_whole_in, k_is_whole_in⟩ := ok_is_whole_in (P := P) (w := w) B hP
  obtain ⟨fd_number_across, G_number_across, b_number_across, k_number_across⟩ := ok_number_across (P := P) (w := w) B hP
  obtain ⟨fd_number_at, G_number_at, b_number_at, k_number_at⟩ := ok_number_at (P := P) (w := w) B hP
  refine ⟨fd, fun base tbo => def_okD F sc_Canvas___init__ fun cdv A outer s H E W hr tk => ?_, FunD.bindsN F fun _ _ _ _ _ _ us hl => match us, hl with | [_, _, _], _ => rfl, F.kp, kbp0 F 1 ["height", "width"] [.p 0, .k 1, .k 0] fun _ _ _ _ _ _ us ws h1 h2 => match us, ws, h1, h2 with | [_], [_, _], _, _ => rfl⟩
  have hu := hr.units
  have hu1 := Nat.lt_of_le_of_lt (Nat.add_le_add_left (by decide : 1 ≤ 64) _) hu
  have hu9 := Nat.lt_of_le_of_lt (Nat.add_le_add_left (by decide : 9 ≤ 64) _) hu
  have hu65 := hr.u65
  have sc := sc_Canvas___init__
  exact (fss_cons (fs_if (ft_bool (fw_or (ft_not (ft_val (fe_call tk (G_is_whole_in base tbo) (hr.mono (by decide)) rfl (B.glo 20) k_is_whole_in b_is_whole_in Dfl.nil (fa_cons (fe_var 1 (pv 1)) (fa_cons fe_int (fa_cons (fe_gc rfl (B.gc 19)) fa_nil)))))) (fw_or1 (ft_not (ft_val (fe_call tk (G_is_whole_in base tbo) (hr.mono (by decide)) rfl (B.glo 20) k_is_whole_in b_is_whole_in Dfl.nil (fa_cons (fe_var 2 (pv 2)) (fa_cons fe_int (fa_cons (fe_gc rfl (B.gc 21)) fa_nil))))))))) (fss_one (fs_raise rfl tk (err_BadCanvas B) rfl hP (hr.mono (by decide)) rfl (B.glo 22) (fe_str (y := [110, 111, 32, 119, 105, 100, 116, 104, 32, 97, 110, 100, 32, 104, 101, 105, 103, 104, 116, 32, 111, 102, 32, 97, 32, 99, 97, 110, 118, 97, 115]) rfl))) fss_nil) (fss_cons (fs_fld (at_width B) (fe_var 0 (pv 0)) (fe_var 1 (pv 1))) (fss_cons (fs_fld (at_height B) (fe_var 0 (pv 0)) (fe_var 2 (pv 2))) (fss_cons (fs_fld (at_own_places B) (fe_var 0 (pv 0)) (fe_bt call_tuple_of cs_tuple rfl (B.free 23) (by decide +kernel) (fa_cons (fe_lc2 (own := [("j", 5), ("i", 6)]) (vs1 := [6]) rfl sc.nd (fi_range1 rfl (B.free 5) (fe_var 2 (pv 2))) (blkOk_by (by first | (show blkC N_Canvas___init__ (defScope (mem 12 0)) _ _ = true; decide +kernel) | kernel_rfl)) (by decide) (fun s H C cl fp => by exact (fg_name 5 sc.nd rfl (by first | exact Or.inl rfl | exact Or.inr rfl))) (fun s H C cl fp => by exact (fi_range1 rfl (B.free 5) (fe_var 1 (pv 1)))) (fun s H C cl fp => by exact (fg_name 6 sc.nd rfl (by first | exact Or.inl rfl | exact Or.inr rfl))) (fun s H C cl fp => by exact (fe_tup (fa_cons (fe_var 6 (pv 6)) (fa_cons (fe_var 5 (pv 5)) fa_nil)))) (by decide) (by decide)) fa_nil))) (fss_cons (by first | exact fs_setLc (i := 3) (own := [("tile", 7)]) rfl sc.nd rfl rfl rfl (fi_range1 rfl (B.free 5) (fe_op op_mulA os_mul (fe_call tk (G_number_across base tbo) (hr.mono (by decide)) rfl (B.glo 24) k_number_across b_number_across Dfl.nil (fa_cons (fe_var 1 (pv 1)) fa_nil)) (fe_call tk (G_number_across base tbo) (hr.mono (by decide)) rfl (B.glo 24) k_number_across b_number_across Dfl.nil (fa_cons (fe_var 2 (pv 2)) fa_nil)))) (blkOk_by (by first | (show blkC N_Canvas___init__ (defScope (mem 12 0)) _ _ = true; decide +kernel) | kernel_rfl)) (fun s H C cl fp => by exact (fg_name 7 sc.nd rfl (by first | exact Or.inl rfl | exact Or.inr rfl))) (fun s H C cl fp => by exact fts_nil) (fun s H C cl fp => by exact (fe_lstM fa_nil)) (by decide) | exact fs_set (i := 3) sc.nd rfl (by first | exact Or.inl rfl | exact Or.inr rfl) (fe_lc (own := [("tile", 7)]) rfl sc.nd (fi_range1 rfl (B.free 5) (fe_op op_mulA os_mul (fe_call tk (G_number_across base tbo) (hr.mono (by decide)) rfl (B.glo 24) k_number_across b_number_across Dfl.nil (fa_cons (fe_var 1 (pv 1)) fa_nil)) (fe_call tk (G_number_across base tbo) (hr.mono (by decide)) rfl (B.glo 24) k_number_across b_number_across Dfl.nil (fa_cons (fe_var 2 (pv 2)) fa_nil)))) (blkOk_by (by first | (show blkC N_Canvas___init__ (defScope (mem 12 0)) _ _ = true; decide +kernel) | kernel_rfl)) (fun s H C cl fp => by exact (fg_name 7 sc.nd rfl (by first | exact Or.inl rfl | exact Or.inr rfl))) (fun s H C cl fp => by exact fts_nil) (fun s H C cl fp => by exact (fe_lstM fa_nil)) (by decide))) (fss_cons (fs_forW (passes_of rfl) rfl (fw_seq (fe_fld (at_own_places B) (fe_var 0 (pv 0)))) (fg_name 4 sc.nd rfl (by first | exact Or.inl rfl | exact Or.inr rfl)) (fss_one (fs_expr (fe_m PySem.F.slot_list_append (by rfl) mt_append ms_append (fe_ixA hu1 (fun _ _ => rfl) (fe_var 3 (pv 3)) (fe_call tk (G_number_at base tbo) (hr.mono (by decide)) rfl (B.glo 25) k_number_at b_number_at Dfl.nil (fa_cons (fe_var 1 (pv 1)) (fa_cons (fe_var 4 (pv 4)) fa_nil)))) (fa_cons (fe_var 4 (pv 4)) fa_nil))))) (fss_one (fs_fld (at_own_tiles B) (fe_var 0 (pv 0)) (fe_lcW (own := [("row", 8)]) rfl sc.nd (fw_seq (fe_var 3 (pv 3))) (blkOk_by (by first | (show blkC N_Canvas___init__ (defScope (mem 12 0)) _ _ = true; decide +kernel) | kernel_rfl)) (fun s H C cl fp => by exact (fg_name 8 sc.nd rfl (by first | exact Or.inl rfl | exact Or.inr rfl))) (fun s H C cl fp => by exact fts_nil) (fun s H C cl fp => by exact (fe_bt call_tuple_of cs_tuple rfl (B.free 23) (by decide +kernel) (fa_cons (fe_var 8 (pv 8)) fa_nil))) (by decide))))))))))
theorem sc__law_next : FnScope ["_law_m", "_law_many", "_law_rest", "_law_k", "_law_cell", "_law_mixed"] ["_law_m", "_law_many"] (defScope (top 17)) := ⟨rfl, rfl, rfl, by decide +kernel, rfl, by decide +kernel, by decide +kernel⟩
theorem ok__law_next {P : Program} {w : World} {K : PySem.W.Frag} {mg : Str → Option Value} (B : Bt K mg) (hP : PrgOk P "/claim/cut.py") : ∃ fd, (∀ base, TbsOk tbs K mg base → FnL P w K mg base (TX w K) 1 (ga K "_law_next") fd ["_law_m", "_law_many"] f__law_next) ∧ Binds K fd ["_law_m", "_law_many"] [] ∧ PySem.W.keepIn K (.ref (ga K "_law_next")) = true := by
  obtain ⟨fd, F⟩ := B.c.def_ 6 (d := d__law_next) rfl
  refine ⟨fd, fun base tbo => def_okD F sc__law_next fun cdv A outer s H E W hr tk => ?_, FunD.bindsN F fun _ _ _ _ _ _ us hl => match us, hl with | [_, _], _ => rfl, F.kp⟩
  have hu := hr.units
  have hu1 := Nat.lt_of_le_of_lt (Nat.add_le_add_left (by decide : 1 ≤ 64) _) hu
  have hu9 := Nat.lt_of_le_of_lt (Nat.add_le_add_left (by decide : 9 ≤ 64) _) hu
  have hu65 := hr.u65
  have sc := sc__law_next
  exact (fss_cons (fs_while (passes_of rfl) (ft_bool (fw_and (ft_cmp (op_neP hu) os_ne (by rfl) (fe_ixA hu1 (fun _ _ => rfl) (fe_var 0 (pv 0)) (fe_str (y := [108, 101, 102, 116]) rfl)) (fe_lst fa_nil)) (fw_and1 (ft_cmp (op_eqP hu) os_eq (by rfl) (fe_ixA hu1 (fun _ _ => rfl) (fe_ixA hu1 (fun _ _ => rfl) (fe_var 0 (pv 0)) (fe_str (y := [108, 101, 102, 116]) rfl)) fe_int) fe_int)))) (fss_one (fs_ix hu1 (fe_var 0 (pv 0)) (fe_str (y := [108, 101, 102, 116]) rfl) (fe_sliceM (fe_ixA hu1 (fun _ _ => rfl) (fe_var 0 (pv 0)) (fe_str (y := [108, 101, 102, 116]) rfl)) (fo_some fe_int) fo_none)))) (fss_cons (fs_if (ft_cmp (op_neP hu) os_ne (by rfl) (fe_ixA hu1 (fun _ _ => rfl) (fe_var 0 (pv 0)) (fe_str (y := [108, 101, 102, 116]) rfl)) (fe_lst fa_nil)) (fss_cons (fs_set (i := 2) sc.nd rfl (by first | exact Or.inl rfl | exact Or.inr rfl) (fe_bt call_int1 cs_int rfl (B.free 12) (by decide +kernel) (fa_cons (fe_ixA hu1 (fun _ _ => rfl) (fe_ixA hu1 (fun _ _ => rfl) (fe_var 0 (pv 0)) (fe_str (y := [108, 101, 102, 116]) rfl)) fe_int) fa_nil))) (fss_cons (fs_ix hu1 (fe_ixA hu1 (fun _ _ => rfl) (fe_var 0 (pv 0)) (fe_str (y := [108, 101, 102, 116]) rfl)) fe_int (fe_op L2.op_fdivW os_div (fe_var 2 (pv 2)) (fe_var 1 (pv 1)))) (fss_one (fs_ret (fe_op L2.op_mod os_mod (fe_var 2 (pv 2)) (fe_var 1 (pv 1))))))) fss_nil) (fss_cons (fs_set (i := 3) sc.nd rfl (by first | exact Or.inl rfl | exact Or.inr rfl) (fe_op op_addA os_add (fe_ixA hu1 (fun _ _ => rfl) (fe_var 0 (pv 0)) (fe_str (y := [97, 116]) rfl)) fe_int)) (fss_cons (fs_ix hu1 (fe_var 0 (pv 0)) (fe_str (y := [97, 116]) rfl) (fe_var 3 (pv 3))) (fss_cons (fs_set (i := 4) sc.nd rfl (by first | exact Or.inl rfl | exact Or.inr rfl) (fe_if (ft_cmp (op_neP hu) os_ne (by rfl) (fe_ixA hu1 (fun _ _ => rfl) (fe_var 0 (pv 0)) (fe_str (y := [99, 101, 108, 108, 115]) rfl)) (fe_lst fa_nil)) (fe_ixA hu1 (fun _ _ => rfl) (fe_ixA hu1 (fun _ _ => rfl) (fe_var 0 (pv 0)) (fe_str (y := [99, 101, 108, 108, 115]) rfl)) (fe_op L2.op_mod os_mod (fe_bt call_int1 cs_int rfl (B.free 12) (by decide +kernel) (fa_cons (fe_var 3 (pv 3)) fa_nil)) (fe_b call_len cs_len rfl (B.free 3) (by decide +kernel) (fa_cons (fe_ixA hu1 (fun _ _ => rfl) (fe_var 0 (pv 0)) (fe_str (y := [99, 101, 108, 108, 115]) rfl)) fa_nil)))) fe_int)) (fss_cons (fs_set (i := 5) sc.nd rfl (by first | exact Or.inl rfl | exact Or.inr rfl) (fe_op op_mulA os_mul (fe_bt call_int1 cs_int rfl (B.free 12) (by decide +kernel) (fa_cons (fe_op op_addA os_add (fe_op op_addA os_add (fe_op L2.op_mod os_mod (fe_bt call_int1 cs_int rfl (B.free 12) (by decide +kernel) (fa_cons (fe_var 4 (pv 4)) fa_nil)) fe_int) (fe_op op_mulA os_mul fe_int (fe_var 3 (pv 3)))) (fe_op op_mulA os_mul (fe_op op_mulA os_mul fe_int (fe_var 3 (pv 3))) (fe_var 3 (pv 3)))) fa_nil)) fe_int)) (fss_cons (fs_set (i := 5) sc.nd rfl (by first | exact Or.inl rfl | exact Or.inr rfl) (fe_op op_mulA os_mul (fe_bt call_int1 cs_int rfl (B.free 12) (by decide +kernel) (fa_cons (fe_op op_addA os_add (fe_op L2.op_mod os_mod (fe_bt call_int1 cs_int rfl (B.free 12) (by decide +kernel) (fa_cons (fe_var 5 (pv 5)) fa_nil)) fe_int) (fe_op op_mulA os_mul fe_int (fe_var 3 (pv 3)))) fa_nil)) fe_int)) (fss_one (fs_ret (fe_op L2.op_mod os_mod (fe_bt call_int1 cs_int rfl (B.free 12) (by decide +kernel) (fa_cons (fe_op L2.op_fdivW os_div (fe_op L2.op_mod os_mod (fe_bt call_int1 cs_int rfl (B.free 12) (by decide +kernel) (fa_cons (fe_var 5 (pv 5)) fa_nil)) fe_int) fe_int) fa_nil)) (fe_var 1 (pv 1))))))))))))
theorem sc_Canvas_places : FnScope ["self"] ["self"] (defScope (mem 12 3)) := ⟨rfl, rfl, rfl, by decide +kernel, rfl, by decide +kernel, by decide +kernel⟩
theorem ok_Canvas_places {P : Program} {w : World} {K : PySem.W.Frag} {mg : Str → Option Value} (B : Bt K mg) (hP : PrgOk P "/claim/cut.py") : ∃ fd, (∀ base, TbsOk tbs K mg base → FnL P w K mg base (TX w K) 1 (ma K (ga K "Canvas") "places") fd ["self"] f_Canvas_places) ∧ Binds K fd ["self"] [] ∧ PySem.W.keepIn K (.ref (ma K (ga K "Canvas") "places")) = true := by
  obtain ⟨fd, F⟩ := B.c.def_ 7 (d := d_Canvas_places) rfl
  refine ⟨fd, fun base tbo => def_okD F sc_Canvas_places fun cdv A outer s H E W hr tk => ?_, FunD.bindsN F fun _ _ _ _ _ _ us hl => match us, hl with | [_], _ => rfl, F.kp⟩
  have hu := hr.units
  have hu1 := Nat.lt_of_le_of_lt (Nat.add_le_add_left (by decide : 1 ≤ 64) _) hu
  have hu9 := Nat.lt_of_le_of_lt (Nat.add_le_add_left (by decide : 9 ≤ 64) _) hu
  have hu65 := hr.u65
  have sc := sc_Canvas_places
  exact (fss_one (fs_ret (fe_fld (at_own_places B) (fe_var 0 (pv 0)))))
theorem sc_Canvas___iter__ : FnScope ["self"] ["self"] (defScope (mem 12 1)) := ⟨rfl, rfl, rfl, by decide +kernel, rfl, by decide +kernel, by decide +kernel⟩
theorem ok_Canvas___iter__ {P : Program} {w : World} {K : PySem.W.Frag} {mg : Str → Option Value} (B : Bt K mg) (hP : PrgOk P "/claim/cut.py") : ∃ fd, (∀ base, TbsOk tbs K mg base → FnL P w K mg base (TX w K) 1 (ma K (ga K "Canvas") "__iter__") fd ["self"] f_Canvas___iter__) ∧ Binds K fd ["self"] [] ∧ PySem.W.keepIn K (.ref (ma K (ga K "Canvas") "__iter__")) = true := by
  obtain ⟨fd, F⟩ := B.c.def_ 8 (d := d_Canvas___iter__) rfl
  refine ⟨fd, fun base tbo => def_okD F sc_Canvas___iter__ fun cdv A outer s H E W hr tk => ?_, FunD.bindsN F fun _ _ _ _ _ _ us hl => match us, hl with | [_], _ => rfl, F.kp⟩
  have hu := hr.units
  have hu1 := Nat.lt_of_le_of_lt (Nat.add_le_add_left (by decide : 1 ≤ 64) _) hu
  have hu9 := Nat.lt_of_le_of_lt (Nat.add_le_add_left (by decide : 9 ≤ 64) _) hu
  have hu65 := hr.u65
  have sc := sc_Canvas___iter__
  exact (fss_one (fs_ret fe_never))
abbrev N__law_places_right : List Str := ["_law_made", "_law_wide", "_law_high", "_law_due", "_law_j", "_law_again", "_law_i", "_law_spot"]
theorem sc__law_places_right : FnScope ["_law_made", "_law_wide", "_law_high", "_law_due", "_law_j", "_law_again", "_law_i", "_law_spot"] ["_law_made", "_law_wide", "_law_high"] (defScope (top 20)) := ⟨rfl, rfl, rfl, by decide +kernel, rfl, by decide +kernel, by decide +kernel⟩
theorem ok__law_places_right {P : Program} {w : World} {K : PySem.W.Frag} {mg : Str → Option Value} (B : Bt K mg) (hP : PrgOk P "/claim/cut.py") : ∃ fd, (∀ base, TbsOk tbs K mg base → FnL P w K mg base (TX w K) 4 (ga K "_law_places_right") fd ["_law_made", "_law_wide", "_law_high"] f__law_places_right) ∧ Binds K fd ["_law_made", "_law_wide", "_law_high"] [] ∧ PySem.W.keepIn K (.ref (ga K "_law_places_right")) = true := by
  obtain ⟨fd, F⟩ := B.c.def_ 9 (d := d__law_places_right) rfl
  obtain ⟨fd_Canvas_places, G_Canvas_places, b_Canvas_places, k_Canvas_places⟩ := ok_Canvas_places (P := P) (w := w) B hP
  obtain ⟨fd_Canvas___iter__, G_Canvas___iter__, b_Canvas___iter__, k_Canvas___iter__⟩ := ok_Canvas___iter__ (P := P) (w := w) B hP
  obtain ⟨fi_Canvas___iter__, Fi_Canvas___iter__⟩ := B.c.def_ 8 (d := d_Canvas___iter__) rfl
  have bi_Canvas___iter__ : Binds K fi_Canvas___iter__ ["self"] [] := FunD.bindsN Fi_Canvas___iter__ fun _ _ _ _ _ _ us hl => match us, hl with | [_], _ => rfl
  refine ⟨fd, fun base tbo => def_okD F sc__law_places_right fun cdv A outer s H E W hr tk => ?_, FunD.bindsN F fun _ _ _ _ _ _ us hl => match us, hl with | [_, _, _], _ => rfl, F.kp⟩
  have hu := hr.units
  have hu1 := Nat.lt_of_le_of_lt (Nat.add_le_add_left (by decide : 1 ≤ 64) _) hu
  have hu9 := Nat.lt_of_le_of_lt (Nat.add_le_add_left (by decide : 9 ≤ 64) _) hu
  have hu65 := hr.u65
  have sc := sc__law_places_right
  exact (fss_cons (fs_set (i := 3) sc.nd rfl (by first | exact Or.inl rfl | exact Or.inr rfl) (fe_lst fa_nil)) (fss_cons (fs_for (passes_of rfl) rfl (fi_range1 rfl (B.free 5) (fe_var 2 (pv 2))) (fg_name 4 sc.nd rfl (by first | exact Or.inl rfl | exact Or.inr rfl)) (fss_one (fs_set (i := 3) sc.nd rfl (by first | exact Or.inl rfl | exact Or.inr rfl) (fe_op op_addA os_add (fe_var 3 (pv 3)) (fe_lc (own := [("_law_i", 6)]) rfl sc.nd (fi_range1 rfl (B.free 5) (fe_var 1 (pv 1))) (blkOk_by (by first | (show blkC N__law_places_right (defScope (top 20)) _ _ = true; decide +kernel) | kernel_rfl)) (fun s H C cl fp => by exact (fg_name 6 sc.nd rfl (by first | exact Or.inl rfl | exact Or.inr rfl))) (fun s H C cl fp => by exact fts_nil) (fun s H C cl fp => by exact (fe_tup (fa_cons (fe_var 6 (pv 6)) (fa_cons (fe_var 4 (pv 4)) fa_nil)))) (by decide)))))) (fss_cons (fs_for (passes_of rfl) rfl (fi_range1 rfl (B.free 5) fe_int) (fg_name 5 sc.nd rfl (by first | exact Or.inl rfl | exact Or.inr rfl)) (fss_one (fs_if (ft_bool (fw_or (ft_cmp (op_neP hu) os_ne (by rfl) (fe_b (call_reprP hu hr.g) cs_repr rfl (B.free 7) (by decide +kernel) (fa_cons (fe_meth0 (c := 0) tk ⟨⟨_, rfl, by decide⟩, B.cls 15, B.meth 16⟩ (G_Canvas_places base tbo) (hr.mono (by decide)) b_Canvas_places Dfl.nil (fe_var 0 (pv 0))) fa_nil)) (fe_b (call_reprP hu hr.g) cs_repr rfl (B.free 7) (by decide +kernel) (fa_cons (fe_bt call_tuple_of cs_tuple rfl (B.free 23) (by decide +kernel) (fa_cons (fe_var 3 (pv 3)) fa_nil)) fa_nil))) (fw_or1 (ft_cmp (op_neP hu) os_ne (by rfl) (fe_b (call_reprP hu hr.g) cs_repr rfl (B.free 7) (by decide +kernel) (fa_cons (fe_lc (own := [("_law_spot", 7)]) rfl sc.nd (fi_own (c := 0) ⟨_, rfl⟩ (B.cls 15) (B.noat 30) (at_own_places B) (B.meth 29) Fi_Canvas___iter__ sc_Canvas___iter__ bi_Canvas___iter__ rfl (.inl rfl) (by kernel_rfl) (B.free 31) (hr.mono (by decide)) (fe_var 0 (pv 0))) (blkOk_by (by first | (show blkC N__law_places_right (defScope (top 20)) _ _ = true; decide +kernel) | kernel_rfl)) (fun s H C cl fp => by exact (fg_name 7 sc.nd rfl (by first | exact Or.inl rfl | exact Or.inr rfl))) (fun s H C cl fp => by exact fts_nil) (fun s H C cl fp => by exact (fe_var 7 (pv 7))) (by decide)) fa_nil)) (fe_b (call_reprP hu hr.g) cs_repr rfl (B.free 7) (by decide +kernel) (fa_cons (fe_var 3 (pv 3)) fa_nil)))))) (fss_one (fs_ret fe_bl)) fss_nil))) (fss_one (fs_ret (fe_and (fe_cmp (op_eqP hu) os_eq (by rfl) (fe_b call_len cs_len rfl (B.free 3) (by decide +kernel) (fa_cons (fe_bt (call_listO (k := 0) (B.cls 15) (B.noat 30) (B.noat 32) (B.noat 33) (B.meth 29) Fi_Canvas___iter__ sc_Canvas___iter__ bi_Canvas___iter__ (.inl rfl) (by kernel_rfl) (B.free 31) rfl (hr.mono (by decide)).r) (cs_listO (c := 0) (at_own_places B) ⟨_, rfl⟩) rfl (B.free 18) (by decide +kernel) (fa_cons (fe_var 0 (pv 0)) fa_nil)) fa_nil)) (fe_op op_mulA os_mul (fe_var 1 (pv 1)) (fe_var 2 (pv 2)))) (fe_one (fe_cmp (op_inOwn (k := 0) (B.cls 15) (B.noat 30) (B.noat 34) (B.meth 29) Fi_Canvas___iter__ sc_Canvas___iter__ bi_Canvas___iter__ (.inl rfl) (by kernel_rfl) (B.free 31) rfl (hr.mono (by decide)).r hu) (os_inOwn (c := 0) (at_own_places B) ⟨_, rfl⟩) (by rfl) (fe_ixA hu1 (fun _ _ => rfl) (fe_var 3 (pv 3)) (fe_un L2.un_neg us_neg fe_int)) (fe_var 0 (pv 0))))))))))
theorem sc_Canvas___eq__ : FnScope ["self", "other"] ["self", "other"] (defScope (mem 12 2)) := ⟨rfl, rfl, rfl, by decide +kernel, rfl, by decide +kernel, by decide +kernel⟩
theorem ok_Canvas___eq__ {P : Program} {w : World} {K : PySem.W.Frag} {mg : Str → Option Value} (B : Bt K mg) (hP : PrgOk P "/claim/cut.py") : ∃ fd, (∀ base, TbsOk tbs K mg base → FnL P w K mg base (TX w K) 1 (ma K (ga K "Canvas") "__eq__") fd ["self", "other"] f_Canvas___eq__) ∧ Binds K fd ["self", "other"] [] ∧ PySem.W.keepIn K (.ref (ma K (ga K "Canvas") "__eq__")) = true := by
  obtain ⟨fd, F⟩ := B.c.def_ 10 (d := d_Canvas___eq__) rfl
  refine ⟨fd, fun base tbo => def_okD F sc_Canvas___eq__ fun cdv A outer s H E W hr tk => ?_, FunD.bindsN F fun _ _ _ _ _ _ us hl => match us, hl with | [_, _], _ => rfl, F.kp⟩
  have hu := hr.units
  have hu1 := Nat.lt_of_le_of_lt (Nat.add_le_add_left (by decide : 1 ≤ 64) _) hu
  have hu9 := Nat.lt_of_le_of_lt (Nat.add_le_add_left (by decide : 9 ≤ 64) _) hu
  have hu65 := hr.u65
  have sc := sc_Canvas___eq__
  exact (fss_one (fs_ret (fe_and (fe_iso (c := 0) ⟨_, rfl⟩ (B.cls 15) (B.isi 10) (fe_var 1 (pv 1)) rfl (B.free 26) rfl (B.glo 2) (by decide +kernel)) (fe_and (fe_cmp (op_eqP hu) os_eq (by rfl) (fe_fld (at_width B) (fe_var 0 (pv 0))) (fe_fld (at_width B) (fe_var 1 (pv 1)))) (fe_one (fe_cmp (op_eqP hu) os_eq (by rfl) (fe_fld (at_height B) (fe_var 0 (pv 0))) (fe_fld (at_height B) (fe_var 1 (pv 1)))))))))
theorem sc__law_refused_right : FnScope ["_law_m", "_law_odds", "_law_odd", "_law_spare", "_law_good", "_law_told"] ["_law_m"] (defScope (top 19)) := ⟨rfl, rfl, rfl, by decide +kernel, rfl, by decide +kernel, by decide +kernel⟩
theorem ok__law_refused_right {P : Program} {w : World} {K : PySem.W.Frag} {mg : Str → Option Value} (B : Bt K mg) (hP : PrgOk P "/claim/cut.py") : ∃ fd, (∀ base, TbsOk tbs K mg base → FnL P w K mg base (TX w K) 7 (ga K "_law_refused_right") fd ["_law_m"] f__law_refused_right) ∧ Binds K fd ["_law_m"] [] ∧ PySem.W.keepIn K (.ref (ga K "_law_refused_right")) = true := by
  obtain ⟨fd, F⟩ := B.c.def_ 11 (d := d__law_refused_right) rfl
  obtain ⟨fd__law_next, G__law_next, b__law_next, k__law_next⟩ := ok__law_next (P := P) (w := w) B hP
  obtain ⟨fd_Canvas___init__, G_Canvas___init__, b_Canvas___init__, k_Canvas___init__, kb_Canvas___init___0⟩ := ok_Canvas___init__ (P := P) (w := w) B hP
  obtain ⟨fd__law_said, F__law_said⟩ := B.c.def_ 0 (d := d__law_said) rfl
  have b__law_said : Binds K fd__law_said ["_law_deed"] [] := FunD.bindsN F__law_said fun _ _ _ _ _ _ us hl => match us, hl with | [_], _ => rfl
  refine ⟨fd, fun base tbo => def_okC F sc__law_refused_right fun A outer s H E W hr tk => ?_, FunD.bindsN F fun _ _ _ _ _ _ us hl => match us, hl with | [_], _ => rfl, F.kp⟩
  have hu := hr.units
  have hu1 := Nat.lt_of_le_of_lt (Nat.add_le_add_left (by decide : 1 ≤ 64) _) hu
  have hu9 := Nat.lt_of_le_of_lt (Nat.add_le_add_left (by decide : 9 ≤ 64) _) hu
  have hu65 := hr.u65
  have sc := sc__law_refused_right
  exact (fss_cons (fs_set (i := 1) sc.nd rfl (by first | exact Or.inl rfl | exact Or.inr rfl) (fe_lst (fa_cons fe_non (fa_cons fe_bl (fa_cons fe_bl (fa_cons (fe_str (y := [52]) rfl) (fa_cons (fe_tup fa_nil) (fa_cons (fe_tup (fa_cons fe_int fa_nil)) (fa_cons (fe_lst (fa_cons fe_int fa_nil)) (fa_cons fe_dict0 (fa_cons fe_int (fa_cons (fe_un L2.un_neg us_neg fe_int) (fa_cons fe_int (fa_cons fe_int (fa_cons (fe_op L2.op_pow os_pow fe_int fe_int) (fa_cons (fe_un L2.un_neg us_neg fe_int) (fa_cons (fe_str (y := []) rfl) (fa_cons (fe_tup (fa_cons fe_int (fa_cons fe_int fa_nil))) fa_nil)))))))))))))))))) (fss_cons (fs_asg (fg_tup rfl (fgs_cons (fg_name 2 sc.nd rfl (by first | exact Or.inl rfl | exact Or.inr rfl)) (fgs_cons (fg_name 3 sc.nd rfl (by first | exact Or.inl rfl | exact Or.inr rfl)) (fgs_cons (fg_name 4 sc.nd rfl (by first | exact Or.inl rfl | exact Or.inr rfl)) fgs_nil)))) (fe_tup (fa_cons (fe_ixA hu1 (fun _ _ => rfl) (fe_var 1 (pv 1)) (fe_call tk (G__law_next base tbo) (hr.mono (by decide)) rfl (B.glo 6) k__law_next b__law_next Dfl.nil (fa_cons (fe_var 0 (pv 0)) (fa_cons fe_int fa_nil)))) (fa_cons (fe_ixA hu1 (fun _ _ => rfl) (fe_var 1 (pv 1)) (fe_call tk (G__law_next base tbo) (hr.mono (by decide)) rfl (B.glo 6) k__law_next b__law_next Dfl.nil (fa_cons (fe_var 0 (pv 0)) (fa_cons fe_int fa_nil)))) (fa_cons (fe_op op_addA os_add fe_int (fe_call tk (G__law_next base tbo) (hr.mono (by decide)) rfl (B.glo 6) k__law_next b__law_next Dfl.nil (fa_cons (fe_var 0 (pv 0)) (fa_cons fe_int fa_nil)))) fa_nil))))) (fss_cons (fs_set (i := 5) sc.nd rfl (by first | exact Or.inl rfl | exact Or.inr rfl) (fe_lstM (fa_cons (fe_lamcall (k := 4) (t := 0) (q := q__law_refused_right) F__law_said sc__law_said b__law_said rfl (.inl rfl) rfl (B.glo 17) (fun cdg => giv__law_said B hP cdg) (tbo "_law_refused_right" (by simp [tbs])).2 (tbo "_law_refused_right" (by simp [tbs])).1 (by rfl) (by kernel_rfl) (fun _ => rfl) (hr.mono (by decide)) (LamX.lamS_by (by kernel_rfl)) rfl (fun _ _ _ _ _ => rfl) (fun A outer s H E W f c hr tk => by have hu1 := Nat.lt_of_le_of_lt (Nat.add_le_add_left (by decide : 1 ≤ 64) _) hr.units; have hu9 := Nat.lt_of_le_of_lt (Nat.add_le_add_left (by decide : 9 ≤ 64) _) hr.units; have hu65 := hr.u65; exact (fe_make (c := 0) tk ⟨⟨_, rfl, rfl⟩, B.mkr 1⟩ (G_Canvas___init__ base tbo) (hr.mono (by decide)) rfl (B.glo 2) b_Canvas___init__ Dfl.nil (fa_cons (fe_var 2 (pv 2)) (fa_cons (fe_var 4 (pv 4)) fa_nil))))) fa_nil))) (fss_cons (fs_expr (fe_m PySem.F.slot_list_append (by rfl) mt_append ms_append (fe_var 5 (pv 5)) (fa_cons (fe_lamcall (k := 4) (t := 0) (q := q__law_refused_right) F__law_said sc__law_said b__law_said rfl (.inl rfl) rfl (B.glo 17) (fun cdg => giv__law_said B hP cdg) (tbo "_law_refused_right" (by simp [tbs])).2 (tbo "_law_refused_right" (by simp [tbs])).1 (by rfl) (by kernel_rfl) (fun _ => rfl) (hr.mono (by decide)) (LamX.lamS_by (by kernel_rfl)) rfl (fun _ _ _ _ _ => rfl) (fun A outer s H E W f c hr tk => by have hu1 := Nat.lt_of_le_of_lt (Nat.add_le_add_left (by decide : 1 ≤ 64) _) hr.units; have hu9 := Nat.lt_of_le_of_lt (Nat.add_le_add_left (by decide : 9 ≤ 64) _) hr.units; have hu65 := hr.u65; exact (fe_make (c := 0) tk ⟨⟨_, rfl, rfl⟩, B.mkr 1⟩ (G_Canvas___init__ base tbo) (hr.mono (by decide)) rfl (B.glo 2) b_Canvas___init__ Dfl.nil (fa_cons (fe_var 4 (pv 4)) (fa_cons (fe_var 2 (pv 2)) fa_nil))))) fa_nil))) (fss_cons (fs_expr (fe_m PySem.F.slot_list_append (by rfl) mt_append ms_append (fe_var 5 (pv 5)) (fa_cons (fe_lamcall (k := 4) (t := 0) (q := q__law_refused_right) F__law_said sc__law_said b__law_said rfl (.inl rfl) rfl (B.glo 17) (fun cdg => giv__law_said B hP cdg) (tbo "_law_refused_right" (by simp [tbs])).2 (tbo "_law_refused_right" (by simp [tbs])).1 (by rfl) (by kernel_rfl) (fun _ => rfl) (hr.mono (by decide)) (LamX.lamS_by (by kernel_rfl)) rfl (fun _ _ _ _ _ => rfl) (fun A outer s H E W f c hr tk => by have hu1 := Nat.lt_of_le_of_lt (Nat.add_le_add_left (by decide : 1 ≤ 64) _) hr.units; have hu9 := Nat.lt_of_le_of_lt (Nat.add_le_add_left (by decide : 9 ≤ 64) _) hr.units; have hu65 := hr.u65; exact (fe_make (c := 0) tk ⟨⟨_, rfl, rfl⟩, B.mkr 1⟩ (G_Canvas___init__ base tbo) (hr.mono (by decide)) rfl (B.glo 2) b_Canvas___init__ Dfl.nil (fa_cons (fe_var 2 (pv 2)) (fa_cons (fe_var 3 (pv 3)) fa_nil))))) fa_nil))) (fss_cons (fs_expr (fe_m PySem.F.slot_list_append (by rfl) mt_append ms_append (fe_var 5 (pv 5)) (fa_cons (fe_lamcall (k := 4) (t := 0) (q := q__law_refused_right) F__law_said sc__law_said b__law_said rfl (.inl rfl) rfl (B.glo 17) (fun cdg => giv__law_said B hP cdg) (tbo "_law_refused_right" (by simp [tbs])).2 (tbo "_law_refused_right" (by simp [tbs])).1 (by rfl) (by kernel_rfl) (fun _ => rfl) (hr.mono (by decide)) (LamX.lamS_by (by kernel_rfl)) rfl (fun _ _ _ _ _ => rfl) (fun A outer s H E W f c hr tk => by have hu1 := Nat.lt_of_le_of_lt (Nat.add_le_add_left (by decide : 1 ≤ 64) _) hr.units; have hu9 := Nat.lt_of_le_of_lt (Nat.add_le_add_left (by decide : 9 ≤ 64) _) hr.units; have hu65 := hr.u65; exact (fe_make (c := 0) tk ⟨⟨_, rfl, rfl⟩, B.mkr 1⟩ (G_Canvas___init__ base tbo) (hr.mono (by decide)) rfl (B.glo 2) b_Canvas___init__ Dfl.nil (fa_cons (fe_var 4 (pv 4)) (fa_cons fe_int fa_nil))))) fa_nil))) (fss_cons (fs_expr (fe_m PySem.F.slot_list_append (by rfl) mt_append ms_append (fe_var 5 (pv 5)) (fa_cons (fe_lamcall (k := 4) (t := 0) (q := q__law_refused_right) F__law_said sc__law_said b__law_said rfl (.inl rfl) rfl (B.glo 17) (fun cdg => giv__law_said B hP cdg) (tbo "_law_refused_right" (by simp [tbs])).2 (tbo "_law_refused_right" (by simp [tbs])).1 (by rfl) (by kernel_rfl) (fun _ => rfl) (hr.mono (by decide)) (LamX.lamS_by (by kernel_rfl)) rfl (fun _ _ _ _ _ => rfl) (fun A outer s H E W f c hr tk => by have hu1 := Nat.lt_of_le_of_lt (Nat.add_le_add_left (by decide : 1 ≤ 64) _) hr.units; have hu9 := Nat.lt_of_le_of_lt (Nat.add_le_add_left (by decide : 9 ≤ 64) _) hr.units; have hu65 := hr.u65; exact (fe_make (c := 0) tk ⟨⟨_, rfl, rfl⟩, B.mkr 1⟩ (G_Canvas___init__ base tbo) (hr.mono (by decide)) rfl (B.glo 2) b_Canvas___init__ Dfl.nil (fa_cons fe_int (fa_cons (fe_var 4 (pv 4)) fa_nil))))) fa_nil))) (fss_cons (fs_expr (fe_m PySem.F.slot_list_append (by rfl) mt_append ms_append (fe_var 5 (pv 5)) (fa_cons (fe_lamcall (k := 4) (t := 0) (q := q__law_refused_right) F__law_said sc__law_said b__law_said rfl (.inl rfl) rfl (B.glo 17) (fun cdg => giv__law_said B hP cdg) (tbo "_law_refused_right" (by simp [tbs])).2 (tbo "_law_refused_right" (by simp [tbs])).1 (by rfl) (by kernel_rfl) (fun _ => rfl) (hr.mono (by decide)) (LamX.lamS_by (by kernel_rfl)) rfl (fun _ _ _ _ _ => rfl) (fun A outer s H E W f c hr tk => by have hu1 := Nat.lt_of_le_of_lt (Nat.add_le_add_left (by decide : 1 ≤ 64) _) hr.units; have hu9 := Nat.lt_of_le_of_lt (Nat.add_le_add_left (by decide : 9 ≤ 64) _) hr.units; have hu65 := hr.u65; exact (fe_make (c := 0) tk ⟨⟨_, rfl, rfl⟩, B.mkr 1⟩ (G_Canvas___init__ base tbo) (hr.mono (by decide)) rfl (B.glo 2) b_Canvas___init__ Dfl.nil (fa_cons (fe_var 4 (pv 4)) (fa_cons fe_int fa_nil))))) fa_nil))) (fss_one (fs_ret (fe_cmp (op_eqP hu) os_eq (by rfl) (fe_var 5 (pv 5)) (fe_op op_mulA os_mul (fe_lst (fa_cons (fe_str (y := [99, 97, 110, 118, 97, 115]) rfl) fa_nil)) fe_int))))))))))))
abbrev N__law_walks_right : List Str := ["_law_wide", "_law_high", "_law_made", "_law_found", "_law_due", "_law_first", "_law_last"]
theorem sc__law_walks_right : FnScope ["_law_wide", "_law_high", "_law_made", "_law_found", "_law_due", "_law_first", "_law_last"] ["_law_wide", "_law_high"] (defScope (top 21)) := ⟨rfl, rfl, rfl, by decide +kernel, rfl, by decide +kernel, by decide +kernel⟩
theorem ok__law_walks_right {P : Program} {w : World} {K : PySem.W.Frag} {mg : Str → Option Value} (B : Bt K mg) (hP : PrgOk P "/claim/cut.py") : ∃ fd, (∀ base, TbsOk tbs K mg base → FnL P w K mg base (TX w K) 5 (ga K "_law_walks_right") fd ["_law_wide", "_law_high"] f__law_walks_right) ∧ Binds K fd ["_law_wide", "_law_high"] [] ∧ PySem.W.keepIn K (.ref (ga K "_law_walks_right")) = true := by
  obtain ⟨fd, F⟩ := B.c.def_ 12 (d := d__law_walks_right) rfl
  obtain ⟨fd_Canvas___init__, G_Canvas___init__, b_Canvas___init__, k_Canvas___init__, kb_Canvas___init___0⟩ := ok_Canvas___init__ (P := P) (w := w) B hP
  obtain ⟨fd_Canvas___iter__, G_Canvas___iter__, b_Canvas___iter__, k_Canvas___iter__⟩ := ok_Canvas___iter__ (P := P) (w := w) B hP
  obtain ⟨fd_Canvas_places, G_Canvas_places, b_Canvas_places, k_Canvas_places⟩ := ok_Canvas_places (P := P) (w := w) B hP
  obtain ⟨fi_Canvas___iter__, Fi_Canvas___iter__⟩ := B.c.def_ 8 (d := d_Canvas___iter__) rfl
  have bi_Canvas___iter__ : Binds K fi_Canvas___iter__ ["self"] [] := FunD.bindsN Fi_Canvas___iter__ fun _ _ _ _ _ _ us hl => match us, hl with | [_], _ => rfl
  refine ⟨fd, fun base tbo => def_okD F sc__law_walks_right fun cdv A outer s H E W hr tk => ?_, FunD.bindsN F fun _ _ _ _ _ _ us hl => match us, hl with | [_, _], _ => rfl, F.kp⟩
  have hu := hr.units
  have hu1 := Nat.lt_of_le_of_lt (Nat.add_le_add_left (by decide : 1 ≤ 64) _) hu
  have hu9 := Nat.lt_of_le_of_lt (Nat.add_le_add_left (by decide : 9 ≤ 64) _) hu
  have hu65 := hr.u65
  have sc := sc__law_walks_right
  exact (fss_cons (fs_par3 (i := 2) (j := 3) (l := 4) rfl sc.nd rfl rfl rfl (by decide) (by decide) (by decide) rfl rfl rfl (fa_cons (fe_make (c := 0) tk ⟨⟨_, rfl, rfl⟩, B.mkr 1⟩ (G_Canvas___init__ base tbo) (hr.mono (by decide)) rfl (B.glo 2) b_Canvas___init__ Dfl.nil (fa_cons (fe_var 0 (pv 0)) (fa_cons (fe_var 1 (pv 1)) fa_nil))) (fa_cons (fe_lstM fa_nil) (fa_cons (fe_lst fa_nil) fa_nil))) rfl) (fss_cons (fs_for (passes_of rfl) rfl (fi_own (c := 0) ⟨_, rfl⟩ (B.cls 15) (B.noat 30) (at_own_places B) (B.meth 29) Fi_Canvas___iter__ sc_Canvas___iter__ bi_Canvas___iter__ rfl (.inl rfl) (by kernel_rfl) (B.free 31) (hr.mono (by decide)) (fe_var 2 (pv 2))) (fg_name 5 sc.nd rfl (by first | exact Or.inl rfl | exact Or.inr rfl)) (fss_one (fs_for (passes_of rfl) rfl (fi_own (c := 0) ⟨_, rfl⟩ (B.cls 15) (B.noat 30) (at_own_places B) (B.meth 29) Fi_Canvas___iter__ sc_Canvas___iter__ bi_Canvas___iter__ rfl (.inl rfl) (by kernel_rfl) (B.free 31) (hr.mono (by decide)) (fe_var 2 (pv 2))) (fg_name 6 sc.nd rfl (by first | exact Or.inl rfl | exact Or.inr rfl)) (fss_one (fs_expr (fe_m PySem.F.slot_list_append (by rfl) mt_append ms_append (fe_var 3 (pv 3)) (fa_cons (fe_tup (fa_cons (fe_var 5 (pv 5)) (fa_cons (fe_var 6 (pv 6)) fa_nil))) fa_nil))))))) (fss_cons (fs_forW (passes_of rfl) rfl (fw_seq (fe_meth0 (c := 0) tk ⟨⟨_, rfl, by decide⟩, B.cls 15, B.meth 16⟩ (G_Canvas_places base tbo) (hr.mono (by decide)) b_Canvas_places Dfl.nil (fe_var 2 (pv 2)))) (fg_name 5 sc.nd rfl (by first | exact Or.inl rfl | exact Or.inr rfl)) (fss_one (fs_set (i := 4) sc.nd rfl (by first | exact Or.inl rfl | exact Or.inr rfl) (fe_op op_addA os_add (fe_var 4 (pv 4)) (fe_lcW (own := [("_law_last", 6)]) rfl sc.nd (fw_seq (fe_meth0 (c := 0) tk ⟨⟨_, rfl, by decide⟩, B.cls 15, B.meth 16⟩ (G_Canvas_places base tbo) (hr.mono (by decide)) b_Canvas_places Dfl.nil (fe_var 2 (pv 2)))) (blkOk_by (by first | (show blkC N__law_walks_right (defScope (top 21)) _ _ = true; decide +kernel) | kernel_rfl)) (fun s H C cl fp => by exact (fg_name 6 sc.nd rfl (by first | exact Or.inl rfl | exact Or.inr rfl))) (fun s H C cl fp => by exact fts_nil) (fun s H C cl fp => by exact (fe_tup (fa_cons (fe_var 5 (pv 5)) (fa_cons (fe_var 6 (pv 6)) fa_nil)))) (by decide)))))) (fss_one (fs_ret (fe_and (fe_cmp (op_eqP hu) os_eq (by rfl) (fe_var 3 (pv 3)) (fe_var 4 (pv 4))) (fe_one (fe_cmp (op_eqP hu) os_eq (by rfl) (fe_b call_len cs_len rfl (B.free 3) (by decide +kernel) (fa_cons (fe_var 3 (pv 3)) fa_nil)) (fe_op op_mulA os_mul (fe_op op_mulA os_mul (fe_op op_mulA os_mul (fe_var 0 (pv 0)) (fe_var 1 (pv 1))) (fe_var 0 (pv 0))) (fe_var 1 (pv 1)))))))))))
theorem sc_law : FnScope ["_law_script", "_law_m", "_law_earlier", "_law_before", "_law_turn", "_law_wide", "_law_high", "_law_made", "_law_edges"] ["_law_script"] (defScope (top 22)) := ⟨rfl, rfl, rfl, by decide +kernel, rfl, by decide +kernel, by decide +kernel⟩
theorem ok_law {P : Program} {w : World} {K : PySem.W.Frag} {mg : Str → Option Value} (B : Bt K mg) (hP : PrgOk P "/claim/cut.py") : ∃ fd, (∀ base, TbsOk tbs K mg base → FnL P w K mg base (TX w K) 8 (ga K "law") fd ["_law_script"] f_law) ∧ Binds K fd ["_law_script"] [] ∧ PySem.W.keepIn K (.ref (ga K "law")) = true ∧ ∀ (s : Shared) (u : Value), BindsTo s fd ⟨[u], []⟩ [("_law_script", u)] := by
  obtain ⟨fd, F⟩ := B.c.def_ 13 (d := d_law) rfl
  obtain ⟨fd__law_begun, G__law_begun, b__law_begun, k__law_begun⟩ := ok__law_begun (P := P) (w := w) B hP
  obtain ⟨fd_Canvas___init__, G_Canvas___init__, b_Canvas___init__, k_Canvas___init__, kb_Canvas___init___0⟩ := ok_Canvas___init__ (P := P) (w := w) B hP
  obtain ⟨fd__law_next, G__law_next, b__law_next, k__law_next⟩ := ok__law_next (P := P) (w := w) B hP
  obtain ⟨fd__law_places_right, G__law_places_right, b__law_places_right, k__law_places_right⟩ := ok__law_places_right (P := P) (w := w) B hP
  obtain ⟨fd_Canvas___eq__, G_Canvas___eq__, b_Canvas___eq__, k_Canvas___eq__⟩ := ok_Canvas___eq__ (P := P) (w := w) B hP
  obtain ⟨fd__law_refused_right, G__law_refused_right, b__law_refused_right, k__law_refused_right⟩ := ok__law_refused_right (P := P) (w := w) B hP
  obtain ⟨fd__law_walks_right, G__law_walks_right, b__law_walks_right, k__law_walks_right⟩ := ok__law_walks_right (P := P) (w := w) B hP
  obtain ⟨fd_Canvas_places, G_Canvas_places, b_Canvas_places, k_Canvas_places⟩ := ok_Canvas_places (P := P) (w := w) B hP
  obtain ⟨fd__law_said, F__law_said⟩ := B.c.def_ 0 (d := d__law_said) rfl
  have b__law_said : Binds K fd__law_said ["_law_deed"] [] := FunD.bindsN F__law_said fun _ _ _ _ _ _ us hl => match us, hl with | [_], _ => rfl
  have bA := FunD.bindsA (ps := ["_law_script"]) F fun _ _ _ _ _ _ us hl => match us, hl with | [_], _ => rfl
  refine ⟨fd, fun base tbo => def_okC F sc_law fun A outer s H E W hr tk => ?_, FunD.bindsN F fun _ _ _ _ _ _ us hl => match us, hl with | [_], _ => rfl, F.kp, fun s v => bA s [v] rfl⟩
  have hu := hr.units
  have hu1 := Nat.lt_of_le_of_lt (Nat.add_le_add_left (by decide : 1 ≤ 64) _) hu
  have hu9 := Nat.lt_of_le_of_lt (Nat.add_le_add_left (by decide : 9 ≤ 64) _) hu
  have hu65 := hr.u65
  have sc := sc_law
  exact (fss_cons (fs_set (i := 1) sc.nd rfl (by first | exact Or.inl rfl | exact Or.inr rfl) (fe_call tk (G__law_begun base tbo) (hr.mono (by decide)) rfl (B.glo 0) k__law_begun b__law_begun Dfl.nil (fa_cons (fe_var 0 (pv 0)) fa_nil))) (fss_cons (fs_par (i := 2) (j := 3) rfl sc.nd rfl rfl (by decide) rfl rfl (fa_cons (fe_make (c := 0) tk ⟨⟨_, rfl, rfl⟩, B.mkr 1⟩ (G_Canvas___init__ base tbo) (hr.mono (by decide)) rfl (B.glo 2) b_Canvas___init__ Dfl.nil (fa_cons fe_int (fa_cons fe_int fa_nil))) (fa_cons (fe_tup (fa_cons fe_int (fa_cons fe_int fa_nil))) fa_nil)) rfl) (fss_cons (fs_for (passes_of rfl) rfl (fi_range1 rfl (B.free 5) (fe_op op_addA os_add fe_int (fe_b (call_min2 rfl) cs_min2 rfl (B.free 4) (by decide +kernel) (fa_cons (fe_b call_len cs_len rfl (B.free 3) (by decide +kernel) (fa_cons (fe_var 0 (pv 0)) fa_nil)) (fa_cons fe_int fa_nil))))) (fg_name 4 sc.nd rfl (by first | exact Or.inl rfl | exact Or.inr rfl)) (fss_cons (fs_par (i := 5) (j := 6) rfl sc.nd rfl rfl (by decide) rfl rfl (fa_cons (fe_op op_addA os_add fe_int (fe_call tk (G__law_next base tbo) (hr.mono (by decide)) rfl (B.glo 6) k__law_next b__law_next Dfl.nil (fa_cons (fe_var 1 (pv 1)) (fa_cons fe_int fa_nil)))) (fa_cons (fe_op op_addA os_add fe_int (fe_call tk (G__law_next base tbo) (hr.mono (by decide)) rfl (B.glo 6) k__law_next b__law_next Dfl.nil (fa_cons (fe_var 1 (pv 1)) (fa_cons fe_int fa_nil)))) fa_nil)) rfl) (fss_cons (fs_set (i := 7) sc.nd rfl (by first | exact Or.inl rfl | exact Or.inr rfl) (fe_makeK0 (c := 0) tk ⟨⟨_, rfl, rfl⟩, B.mkr 1⟩ (G_Canvas___init__ base tbo) (hr.mono (by decide)) rfl (B.glo 2) kb_Canvas___init___0 Dfl.nil (fk_cons (fe_var 6 (pv 6)) (fk_cons (fe_var 5 (pv 5)) fk_nil)))) (fss_cons (fs_if (ft_bool (fw_or (ft_cmp (op_neP hu) os_ne (by rfl) (fe_b (call_reprP hu hr.g) cs_repr rfl (B.free 7) (by decide +kernel) (fa_cons (fe_lst (fa_cons (fe_fld (at_width B) (fe_var 7 (pv 7))) (fa_cons (fe_fld (at_height B) (fe_var 7 (pv 7))) fa_nil))) fa_nil)) (fe_b (call_reprP hu hr.g) cs_repr rfl (B.free 7) (by decide +kernel) (fa_cons (fe_lst (fa_cons (fe_var 5 (pv 5)) (fa_cons (fe_var 6 (pv 6)) fa_nil))) fa_nil))) (fw_or1 (ft_not (ft_val (fe_call tk (G__law_places_right base tbo) (hr.mono (by decide)) rfl (B.glo 8) k__law_places_right b__law_places_right Dfl.nil (fa_cons (fe_var 7 (pv 7)) (fa_cons (fe_var 5 (pv 5)) (fa_cons (fe_var 6 (pv 6)) fa_nil))))))))) (fss_one (fs_ret fe_bl)) fss_nil) (fss_cons (fs_if (ft_bool (fw_or (ft_not (ft_cmp (op_eqO (B.meth 9) (G_Canvas___eq__ base tbo) (hr.mono (by decide)) b_Canvas___eq__) (os_eqO (c := 0) ⟨_, rfl⟩) (by rfl) (fe_var 7 (pv 7)) (fe_make (c := 0) tk ⟨⟨_, rfl, rfl⟩, B.mkr 1⟩ (G_Canvas___init__ base tbo) (hr.mono (by decide)) rfl (B.glo 2) b_Canvas___init__ Dfl.nil (fa_cons (fe_var 5 (pv 5)) (fa_cons (fe_var 6 (pv 6)) fa_nil))))) (fw_or (ft_cmp (op_neO (B.isi 10) (B.ne 11) (B.meth 9) (G_Canvas___eq__ base tbo) (hr.mono (by decide)) b_Canvas___eq__) (os_neO (c := 0) ⟨_, rfl⟩) (by rfl) (fe_var 7 (pv 7)) (fe_make (c := 0) tk ⟨⟨_, rfl, rfl⟩, B.mkr 1⟩ (G_Canvas___init__ base tbo) (hr.mono (by decide)) rfl (B.glo 2) b_Canvas___init__ Dfl.nil (fa_cons (fe_var 5 (pv 5)) (fa_cons (fe_var 6 (pv 6)) fa_nil)))) (fw_or (ft_cmp (OpR.or (op_eqK (B.meth 9) (G_Canvas___eq__ base tbo) (hr.mono (by decide)) b_Canvas___eq__) (op_eqO (B.meth 9) (G_Canvas___eq__ base tbo) (hr.mono (by decide)) b_Canvas___eq__)) (os_eqV (c := 0) ⟨_, rfl⟩) (by rfl) (fe_var 7 (pv 7)) (fe_tup (fa_cons (fe_var 5 (pv 5)) (fa_cons (fe_var 6 (pv 6)) fa_nil)))) (fw_or1 (ft_cmp (OpR.or (op_eqK (B.meth 9) (G_Canvas___eq__ base tbo) (hr.mono (by decide)) b_Canvas___eq__) (op_eqO (B.meth 9) (G_Canvas___eq__ base tbo) (hr.mono (by decide)) b_Canvas___eq__)) (os_eqV (c := 0) ⟨_, rfl⟩) (by rfl) (fe_var 7 (pv 7)) (fe_var 5 (pv 5)))))))) (fss_one (fs_ret fe_bl)) fss_nil) (fss_cons (fs_if (ft_bool (fw_or (ft_cmp (op_neP hu) os_ne (by rfl) (fe_cmp (op_eqO (B.meth 9) (G_Canvas___eq__ base tbo) (hr.mono (by decide)) b_Canvas___eq__) (os_eqO (c := 0) ⟨_, rfl⟩) (by rfl) (fe_var 7 (pv 7)) (fe_var 2 (pv 2))) (fe_cmp (op_eqP hu) os_eq (by rfl) (fe_tup (fa_cons (fe_var 5 (pv 5)) (fa_cons (fe_var 6 (pv 6)) fa_nil))) (fe_var 3 (pv 3)))) (fw_or1 (ft_cmp (op_neP hu) os_ne (by rfl) (fe_cmp (op_neO (B.isi 10) (B.ne 11) (B.meth 9) (G_Canvas___eq__ base tbo) (hr.mono (by decide)) b_Canvas___eq__) (os_neO (c := 0) ⟨_, rfl⟩) (by rfl) (fe_var 7 (pv 7)) (fe_var 2 (pv 2))) (fe_cmp (op_neP hu) os_ne (by rfl) (fe_tup (fa_cons (fe_var 5 (pv 5)) (fa_cons (fe_var 6 (pv 6)) fa_nil))) (fe_var 3 (pv 3))))))) (fss_one (fs_ret fe_bl)) fss_nil) (fss_cons (fs_if (ft_bool (fw_and (ft_cmp L2.op_lt os_cmp (by rfl) (fe_var 5 (pv 5)) fe_int) (fw_and1 (ft_cmp (op_neP hu) os_ne (by rfl) (fe_cmp (op_eqO (B.meth 9) (G_Canvas___eq__ base tbo) (hr.mono (by decide)) b_Canvas___eq__) (os_eqO (c := 0) ⟨_, rfl⟩) (by rfl) (fe_var 7 (pv 7)) (fe_make (c := 0) tk ⟨⟨_, rfl, rfl⟩, B.mkr 1⟩ (G_Canvas___init__ base tbo) (hr.mono (by decide)) rfl (B.glo 2) b_Canvas___init__ Dfl.nil (fa_cons (fe_var 6 (pv 6)) (fa_cons (fe_var 5 (pv 5)) fa_nil)))) (fe_cmp (op_eqP hu) os_eq (by rfl) (fe_var 5 (pv 5)) (fe_var 6 (pv 6))))))) (fss_one (fs_ret fe_bl)) fss_nil) (fss_cons (fs_if (ft_bool (fw_or (ft_cmp (op_eqO (B.meth 9) (G_Canvas___eq__ base tbo) (hr.mono (by decide)) b_Canvas___eq__) (os_eqO (c := 0) ⟨_, rfl⟩) (by rfl) (fe_var 7 (pv 7)) (fe_make (c := 0) tk ⟨⟨_, rfl, rfl⟩, B.mkr 1⟩ (G_Canvas___init__ base tbo) (hr.mono (by decide)) rfl (B.glo 2) b_Canvas___init__ Dfl.nil (fa_cons (fe_var 5 (pv 5)) (fa_cons (fe_op op_addA os_add (fe_op L2.op_mod os_mod (fe_bt call_int1 cs_int rfl (B.free 12) (by decide +kernel) (fa_cons (fe_var 6 (pv 6)) fa_nil)) fe_int) fe_int) fa_nil)))) (fw_or1 (ft_cmp (op_eqO (B.meth 9) (G_Canvas___eq__ base tbo) (hr.mono (by decide)) b_Canvas___eq__) (os_eqO (c := 0) ⟨_, rfl⟩) (by rfl) (fe_var 7 (pv 7)) (fe_make (c := 0) tk ⟨⟨_, rfl, rfl⟩, B.mkr 1⟩ (G_Canvas___init__ base tbo) (hr.mono (by decide)) rfl (B.glo 2) b_Canvas___init__ Dfl.nil (fa_cons (fe_op op_addA os_add (fe_op L2.op_mod os_mod (fe_bt call_int1 cs_int rfl (B.free 12) (by decide +kernel) (fa_cons (fe_var 5 (pv 5)) fa_nil)) fe_int) fe_int) (fa_cons (fe_var 6 (pv 6)) fa_nil))))))) (fss_one (fs_ret fe_bl)) fss_nil) (fss_cons (fs_if (ft_bool (fw_or (ft_not (ft_val (fe_call tk (G__law_refused_right base tbo) (hr.mono (by decide)) rfl (B.glo 13) k__law_refused_right b__law_refused_right Dfl.nil (fa_cons (fe_var 1 (pv 1)) fa_nil)))) (fw_or1 (ft_not (ft_val (fe_call tk (G__law_walks_right base tbo) (hr.mono (by decide)) rfl (B.glo 14) k__law_walks_right b__law_walks_right Dfl.nil (fa_cons (fe_op op_addA os_add fe_int (fe_call tk (G__law_next base tbo) (hr.mono (by decide)) rfl (B.glo 6) k__law_next b__law_next Dfl.nil (fa_cons (fe_var 1 (pv 1)) (fa_cons fe_int fa_nil)))) (fa_cons (fe_op op_addA os_add fe_int (fe_call tk (G__law_next base tbo) (hr.mono (by decide)) rfl (B.glo 6) k__law_next b__law_next Dfl.nil (fa_cons (fe_var 1 (pv 1)) (fa_cons fe_int fa_nil)))) fa_nil)))))))) (fss_one (fs_ret fe_bl)) fss_nil) (fss_one (fs_par (i := 2) (j := 3) rfl sc.nd rfl rfl (by decide) rfl rfl (fa_cons (fe_var 7 (pv 7)) (fa_cons (fe_tup (fa_cons (fe_var 5 (pv 5)) (fa_cons (fe_var 6 (pv 6)) fa_nil))) fa_nil)) rfl))))))))))) (fss_cons (fs_set (i := 8) sc.nd rfl (by first | exact Or.inl rfl | exact Or.inr rfl) (fe_lst (fa_cons (fe_meth0 (c := 0) tk ⟨⟨_, rfl, by decide⟩, B.cls 15, B.meth 16⟩ (G_Canvas_places base tbo) (hr.mono (by decide)) b_Canvas_places Dfl.nil (fe_make (c := 0) tk ⟨⟨_, rfl, rfl⟩, B.mkr 1⟩ (G_Canvas___init__ base tbo) (hr.mono (by decide)) rfl (B.glo 2) b_Canvas___init__ Dfl.nil (fa_cons fe_int (fa_cons fe_int fa_nil)))) (fa_cons (fe_ixA hu1 (fun _ _ => rfl) (fe_meth0 (c := 0) tk ⟨⟨_, rfl, by decide⟩, B.cls 15, B.meth 16⟩ (G_Canvas_places base tbo) (hr.mono (by decide)) b_Canvas_places Dfl.nil (fe_make (c := 0) tk ⟨⟨_, rfl, rfl⟩, B.mkr 1⟩ (G_Canvas___init__ base tbo) (hr.mono (by decide)) rfl (B.glo 2) b_Canvas___init__ Dfl.nil (fa_cons fe_int (fa_cons fe_int fa_nil)))) (fe_un L2.un_neg us_neg fe_int)) (fa_cons (fe_ixA hu1 (fun _ _ => rfl) (fe_meth0 (c := 0) tk ⟨⟨_, rfl, by decide⟩, B.cls 15, B.meth 16⟩ (G_Canvas_places base tbo) (hr.mono (by decide)) b_Canvas_places Dfl.nil (fe_make (c := 0) tk ⟨⟨_, rfl, rfl⟩, B.mkr 1⟩ (G_Canvas___init__ base tbo) (hr.mono (by decide)) rfl (B.glo 2) b_Canvas___init__ Dfl.nil (fa_cons fe_int (fa_cons fe_int fa_nil)))) (fe_un L2.un_neg us_neg fe_int)) fa_nil))))) (fss_one (fs_ret (fe_and (fe_cmp (op_eqP hu) os_eq (by rfl) (fe_var 8 (pv 8)) (fe_lst (fa_cons (fe_tup (fa_cons (fe_tup (fa_cons fe_int (fa_cons fe_int fa_nil))) fa_nil)) (fa_cons (fe_tup (fa_cons fe_int (fa_cons fe_int fa_nil))) (fa_cons (fe_tup (fa_cons fe_int (fa_cons fe_int fa_nil))) fa_nil))))) (fe_one (fe_cmp (op_eqP hu) os_eq (by rfl) (fe_lamcall (k := 5) (t := 1) (q := q_law) F__law_said sc__law_said b__law_said rfl (.inl rfl) rfl (B.glo 17) (fun cdg => giv__law_said B hP cdg) (tbo "law" (by simp [tbs])).2 (tbo "law" (by simp [tbs])).1 (by rfl) (by kernel_rfl) (fun _ => rfl) (hr.mono (by decide)) (LamX.lamS_by (by kernel_rfl)) rfl (fun _ _ _ _ _ => rfl) (fun A outer s H E W f c hr tk => by have hu1 := Nat.lt_of_le_of_lt (Nat.add_le_add_left (by decide : 1 ≤ 64) _) hr.units; have hu9 := Nat.lt_of_le_of_lt (Nat.add_le_add_left (by decide : 9 ≤ 64) _) hr.units; have hu65 := hr.u65; exact (fe_make (c := 0) tk ⟨⟨_, rfl, rfl⟩, B.mkr 1⟩ (G_Canvas___init__ base tbo) (hr.mono (by decide)) rfl (B.glo 2) b_Canvas___init__ Dfl.nil (fa_cons fe_int (fa_cons fe_int fa_nil))))) (fe_str (y := [110, 111, 110, 101]) rfl))))))))))
def nm0 : List Str := ["_wall", "Invalid", "Refused", "Missing", "BadCanvas", "is_whole_in", "MAX_WIDTH", "MAX_HEIGHT", "TILE", "Canvas", "number_across", "number_at", "_law_begun", "_law_next", "_law_said", "_law_refused_right", "_law_places_right", "_law_walks_right"]
def nmz : List Str := nm0
abbrev Rw : PySem.W.OpenRow := PySem.W.OpenLaw.row PySem.Challenge.rw_tilewright_k02_canvases_made
abbrev hk : PySem.W.Hook := hookM 7 fl fn tbs
def ob (s : PySem.W.SharedT) : Bool × AlL := obsMG 7 fl fn tbs (HandSHeadRun.getT s)
theorem ob_eq (s : PySem.W.SharedT) : ob s = hk.obs s.abs := obsMG_eq (HandSHeadRun.getT_eq s)
theorem run (w : World) : HandSHeadRun.RunEq Rw (PySem.W.view Rw.prog [22]) hk ob 4000 nmz w := by
  intro os
  kernel_rfl
end Lw
open PySem PySem.W PySem.Calls PyProof.Rows
theorem holds_of (hp : ∀ ns : List Int, ns.length ≤ 63 → ∃ h', Lw.f_law [.scr (ns.map L3.D.int)] (L3.tabH Lw.qs) = .ok (.bl true) h') : PySem.Challenge.rw_tilewright_k02_canvases_made.Holds := by
  w_on; o_law
  refine HandSHeadRun.head_any (r := OpenLaw.row PySem.Challenge.rw_tilewright_k02_canvases_made) (q := view (OpenLaw.row PySem.Challenge.rw_tilewright_k02_canvases_made).prog [22]) (H := Lw.hk) (ob := Lw.ob) (M := 4000) (loose := Lw.nmz) (d := HandSHeadRun.topDef (OpenLaw.row PySem.Challenge.rw_tilewright_k02_canvases_made).prog 22) (kwd := []) Lw.ob_eq
    (by kernel_rfl) (fun s => by kernel_rfl) Lw.run (by kernel_rfl) (by kernel_rfl) (by kernel_rfl) (by rfl) (by first | assumption | decide +kernel) (by decide +kernel) ⟨rfl, rfl, rfl, rfl, rfl, by decide +kernel⟩ ?hw ?hc
  case hw => w_witness2
  case hc =>
    refine L3.law_endM (l := PySem.Challenge.rw_tilewright_k02_canvases_made) (n := 63) (k := 8) (TX := Lw.TX) (x := "law") (qs := Lw.qs) rfl (by decide) (by kernel_rfl) ⟨rfl, by decide, by decide⟩ (by kernel_rfl) 38 rfl rfl ?T ?F hp
    case T => intro w K i x q h1 h2; match i, h1, h2 with | 0, h1, h2 => (cases h1; cases h2; rfl) | 1, h1, h2 => (cases h1; cases h2; rfl) | n + 2, h1, h2 => (cases h1)
    intro w mg K B
    obtain ⟨fd, h1, h2, h3, h4⟩ := Lw.ok_law (P := PySem.Challenge.pw_tilewright_k02_canvases_made) (w := w) B ⟨by decide +kernel, by decide +kernel⟩
    exact ⟨fd, h1, h4⟩
end
set_option autoImplicit false
set_option maxHeartbeats 8000000
set_option autoImplicit true
namespace Lw
open PySem PySem.Spec L2 L3
section
theorem aC_ok {f : FnE} {r : FnA} {δ : De} {h : Hh} {x : D} {xs : List D} {h1 h2 : Hh} (a : f δ h = .ok x h1) (b : r δ h1 = .ok xs h2) : aCons f r δ h = .ok (x :: xs) h2 := by
  unfold aCons
  rw [a, bindOk, b]
  rfl
theorem aN_ok {δ : De} {h : Hh} : aNil δ h = .ok [] h := rfl
theorem eVar_ok {i : Nat} {δ : De} {h : Hh} {d : D} (e : δ[i]? = some (some d)) : eVar i δ h = .ok d h := by
  unfold eVar; rw [e]
theorem eBin_ok {g : F2} {fa fb : FnE} {δ : De} {h h1 h2 : Hh} {x y : D} (a : fa δ h = .ok x h1) (b : fb δ h1 = .ok y h2) : eBin g fa fb δ h = g x y h2 := by
  unfold eBin
  rw [a, bindOk, b, bindOk]
theorem eB_ok {g : FB} {fa : FnA} {δ : De} {h h1 : Hh} {xs : List D} (a : fa δ h = .ok xs h1) : eB g fa δ h = g xs h1 := by
  unfold eB; rw [a, bindOk]
theorem rg_ok {f : FnE} {δ : De} {h h1 : Hh} {n : Nat} (a : f δ h = .ok (.int (n : Int)) h1) (l : n ≤ 1000) : iRg1 f δ h = .ok (rgD 0 n) h1 := by
  have : -(2 ^ 62 : Int) ≤ n ∧ (n : Int) < 2 ^ 62 := by constructor <;> omega
  unfold iRg1
  rw [a, bindOk]
  dsimp only
  rw [if_pos this, Int.toNat_natCast]
theorem natI (v : Int) (h0 : 0 ≤ v) : ∃ n : Nat, v = (n : Int) := ⟨v.toNat, by omega⟩
def wr {α : Type} (r : R α) (X : Nat → List D → Hh → Prop) (Q : α → Hh → Prop) : Prop := match r with
  | .ok x h => Q x h
  | .exc c ds h => X c ds h
  | .stk => False
abbrev noE : Nat → List D → Hh → Prop := fun _ _ _ => False
structure Es where
  nx : De → Hh → Prop
  rt : D → Hh → Prop
  bk : De → Hh → Prop
  ct : De → Hh → Prop
  ex : Nat → List D → De → Hh → Prop
abbrev Es.sq (E : Es) (k : De → Hh → Prop) : Es := ⟨k, E.rt, E.bk, E.ct, E.ex⟩
abbrev Es.tr (E : Es) (k : Nat → List D → De → Hh → Prop) : Es := ⟨E.nx, E.rt, E.bk, E.ct, k⟩
abbrev Es.lp (E : Es) (k : De → Hh → Prop) : Es := ⟨k, E.rt, E.nx, k, E.ex⟩
def ws (r : RS) (E : Es) : Prop := match r with
  | .nx δ h => E.nx δ h
  | .rt d h => E.rt d h
  | .bk δ h => E.bk δ h
  | .ct δ h => E.ct δ h
  | .exc c ds δ h => E.ex c ds δ h
  | .stk => False
theorem wr_mono {α : Type} {r : R α} {X : Nat → List D → Hh → Prop} {Q Q' : α → Hh → Prop} (a : wr r X Q) (k : ∀ x h, Q x h → Q' x h) : wr r X Q' := by
  cases r with
  | ok x h => exact k x h a
  | exc c ds h => exact a
  | stk => exact a
class Gs (g : Prop) (n : outParam Prop) : Prop where
  go : n → g
theorem wr_monoX {α : Type} {r : R α} {X X' : Nat → List D → Hh → Prop} {Q Q' : α → Hh → Prop} (a : wr r X Q) (k : ∀ x h, Q x h → Q' x h) (kx : ∀ c ds h, X c ds h → X' c ds h) : wr r X' Q' := by
  cases r with
  | ok x h => exact k x h a
  | exc c ds h => exact kx c ds h a
  | stk => exact a
theorem wr_noE {α : Type} {r : R α} {X : Nat → List D → Hh → Prop} {Q : α → Hh → Prop} (a : wr r noE Q) : wr r X Q := wr_monoX a (fun _ _ z => z) fun _ _ _ z => z.elim
theorem wr_ok {α : Type} {r : R α} {X : Nat → List D → Hh → Prop} {Q : α → Hh → Prop} {x : α} {h : Hh} (e : r = .ok x h) (q : Q x h) : wr r X Q := by subst e; exact q
theorem wr_get {α : Type} {r : R α} {Q : α → Hh → Prop} (a : wr r noE Q) : ∃ x h, r = .ok x h ∧ Q x h := by
  cases r with
  | ok x h => exact ⟨x, h, rfl, a⟩
  | exc c ds h => exact a.elim
  | stk => exact a.elim
theorem wr_bind {α β : Type} {r : R α} {k : α → Hh → R β} {X : Nat → List D → Hh → Prop} {Q : β → Hh → Prop} (a : wr r X fun x h => wr (k x h) X Q) : wr (r.bind k) X Q := by
  cases r with
  | ok x h => exact a
  | exc c ds h => exact a
  | stk => exact a
theorem ws_toS {α : Type} {r : R α} {δ : De} {k : α → Hh → RS} {E : Es} (a : wr r (fun c ds h => E.ex c ds δ h) fun x h => ws (k x h) E) : ws (r.toS δ k) E := by
  cases r with
  | ok x h => exact a
  | exc c ds h => exact a
  | stk => exact a
def tst (Q : Bool → Hh → Prop) : D → Hh → Prop := fun x h => match x with
  | .bl c => Q c h
  | _ => False
def tint (Q : Option Int → Hh → Prop) : D → Hh → Prop := fun x h => match x with
  | .int i => Q (some i) h
  | _ => False
def le1000 (n : Nat) (P : Prop) : Prop := n ≤ 1000 ∧ P
theorem w_le {n : Nat} {P : Prop} (a : n ≤ 1000) (p : P) : le1000 n P := ⟨a, p⟩
def eqn {α : Type} (a b : α) (P : Prop) : Prop := a = b ∧ P
theorem w_eqn {α : Type} {a b : α} {P : Prop} (e : a = b) (p : P) : eqn a b P := ⟨e, p⟩
def ite2 (c : Bool) (A B : Prop) : Prop := if c = true then A else B
theorem w_t {A B : Prop} (a : A) : ite2 true A B := a
instance i_w_t {A B : Prop} : Gs (ite2 true A B) (A) := ⟨w_t⟩
theorem w_f {A B : Prop} (b : B) : ite2 false A B := b
instance i_w_f {A B : Prop} : Gs (ite2 false A B) (B) := ⟨w_f⟩
theorem w_ite {c : Bool} {A B : Prop} (a : c = true → A) (b : c = false → B) : ite2 c A B := by
  cases c with
  | true => exact a rfl
  | false => exact b rfl
section
variable {X : Nat → List D → Hh → Prop} {Q : D → Hh → Prop} {QA : List D → Hh → Prop} {QT : Bool → Hh → Prop} {QO : Option Int → Hh → Prop} {δ : De} {h : Hh}
theorem w_var {i : Nat} {d : D} (e : δ[i]? = some (some d)) (q : Q d h) : wr (eVar i δ h) X Q := by
  unfold eVar; rw [e]; exact q
theorem w_c {d : D} (q : Q d h) : wr (eC d δ h) X Q := q
instance i_w_c {d : D} : Gs (wr (eC d δ h) X Q) (Q d h) := ⟨w_c⟩
theorem w_tst {c : Bool} (q : QT c h) : tst QT (.bl c) h := q
instance i_w_tst {c : Bool} : Gs (tst QT (.bl c) h) (QT c h) := ⟨w_tst⟩
theorem w_tint {i : Int} (q : QO (some i) h) : tint QO (.int i) h := q
instance i_w_tint {i : Int} : Gs (tint QO (.int i) h) (QO (some i) h) := ⟨w_tint⟩
theorem w_bin {g : F2} {fa fb : FnE} (a : wr (fa δ h) X fun x h1 => wr (fb δ h1) X fun y h2 => wr (g x y h2) X Q) : wr (eBin g fa fb δ h) X Q := by
  unfold eBin; exact wr_bind (wr_mono a fun x h1 z => wr_bind z)
instance i_w_bin {g : F2} {fa fb : FnE} : Gs (wr (eBin g fa fb δ h) X Q) (wr (fa δ h) X fun x h1 => wr (fb δ h1) X fun y h2 => wr (g x y h2) X Q) := ⟨w_bin⟩
theorem w_un {g : D → Hh → R D} {fa : FnE} (a : wr (fa δ h) X fun x h1 => wr (g x h1) X Q) : wr (eUn g fa δ h) X Q := by
  unfold eUn; exact wr_bind a
instance i_w_un {g : D → Hh → R D} {fa : FnE} : Gs (wr (eUn g fa δ h) X Q) (wr (fa δ h) X fun x h1 => wr (g x h1) X Q) := ⟨w_un⟩
theorem w_test {f : FnE} (a : wr (f δ h) X (tst QT)) : wr (eTest f δ h) X QT := by
  unfold eTest
  refine wr_bind (wr_mono a fun x h1 z => ?_)
  cases x <;> first | exact z | exact z.elim
instance i_w_test {f : FnE} : Gs (wr (eTest f δ h) X QT) (wr (f δ h) X (tst QT)) := ⟨w_test⟩
theorem w_chain {g g' : F2} {fa fb fc : FnE} (a : wr (fa δ h) X fun x h1 => wr (fb δ h1) X fun y h2 => wr (g x y h2) X (tst fun c h3 => ite2 c (wr (fc δ h3) X fun w h4 => wr (g' y w h4) X Q) (Q (.bl false) h3))) : wr (eChain g g' fa fb fc δ h) X Q := by
  unfold eChain
  refine wr_bind (wr_mono a fun x h1 z => wr_bind (wr_mono z fun y h2 z => wr_bind (wr_mono z fun t h3 z => ?_)))
  cases t with
  | bl c => cases c with
    | true => exact wr_bind z
    | false => exact z
  | _ => exact z.elim
instance i_w_chain {g g' : F2} {fa fb fc : FnE} : Gs (wr (eChain g g' fa fb fc δ h) X Q) (wr (fa δ h) X fun x h1 => wr (fb δ h1) X fun y h2 => wr (g x y h2) X (tst fun c h3 => ite2 c (wr (fc δ h3) X fun w h4 => wr (g' y w h4) X Q) (Q (.bl false) h3))) := ⟨w_chain⟩
theorem w_and {a b : FnT} (z : wr (a δ h) X fun c h1 => ite2 c (wr (b δ h1) X QT) (QT false h1)) : wr (tAnd3 a b δ h) X QT := by
  unfold tAnd3
  refine wr_bind (wr_mono z fun c h1 z => ?_)
  cases c <;> exact z
instance i_w_and {a b : FnT} : Gs (wr (tAnd3 a b δ h) X QT) (wr (a δ h) X fun c h1 => ite2 c (wr (b δ h1) X QT) (QT false h1)) := ⟨w_and⟩
theorem w_or {a b : FnT} (z : wr (a δ h) X fun c h1 => ite2 c (QT true h1) (wr (b δ h1) X QT)) : wr (tOr3 a b δ h) X QT := by
  unfold tOr3
  refine wr_bind (wr_mono z fun c h1 z => ?_)
  cases c <;> exact z
instance i_w_or {a b : FnT} : Gs (wr (tOr3 a b δ h) X QT) (wr (a δ h) X fun c h1 => ite2 c (QT true h1) (wr (b δ h1) X QT)) := ⟨w_or⟩
theorem w_not {a : FnT} (z : wr (a δ h) X fun c h1 => QT (!c) h1) : wr (tNot3 a δ h) X QT := by
  unfold tNot3; exact wr_bind z
instance i_w_not {a : FnT} : Gs (wr (tNot3 a δ h) X QT) (wr (a δ h) X fun c h1 => QT (!c) h1) := ⟨w_not⟩
theorem w_yes3 (z : QT true h) : wr (tYes3 δ h) X QT := z
instance i_w_yes3 : Gs (wr (tYes3 δ h) X QT) (QT true h) := ⟨w_yes3⟩
theorem w_eand {a b : FnE} (z : wr (a δ h) X (tst fun c h1 => ite2 c (wr (b δ h1) X Q) (Q (.bl false) h1))) : wr (eAnd a b δ h) X Q := by
  unfold eAnd
  refine wr_bind (wr_mono z fun x h1 z => ?_)
  cases x with
  | bl c => cases c <;> exact z
  | _ => exact z.elim
instance i_w_eand {a b : FnE} : Gs (wr (eAnd a b δ h) X Q) (wr (a δ h) X (tst fun c h1 => ite2 c (wr (b δ h1) X Q) (Q (.bl false) h1))) := ⟨w_eand⟩
theorem w_eor {a b : FnE} (z : wr (a δ h) X (tst fun c h1 => ite2 c (Q (.bl true) h1) (wr (b δ h1) X Q))) : wr (eOr a b δ h) X Q := by
  unfold eOr
  refine wr_bind (wr_mono z fun x h1 z => ?_)
  cases x with
  | bl c => cases c <;> exact z
  | _ => exact z.elim
instance i_w_eor {a b : FnE} : Gs (wr (eOr a b δ h) X Q) (wr (a δ h) X (tst fun c h1 => ite2 c (Q (.bl true) h1) (wr (b δ h1) X Q))) := ⟨w_eor⟩
theorem w_enot {a : FnE} (z : wr (a δ h) X (tst fun c h1 => Q (.bl (!c)) h1)) : wr (eNot a δ h) X Q := by
  unfold eNot
  refine wr_bind (wr_mono z fun x h1 z => ?_)
  cases x <;> first | exact z | exact z.elim
instance i_w_enot {a : FnE} : Gs (wr (eNot a δ h) X Q) (wr (a δ h) X (tst fun c h1 => Q (.bl (!c)) h1)) := ⟨w_enot⟩
theorem w_eif {t : FnT} {a b : FnE} (z : wr (t δ h) X fun c h1 => ite2 c (wr (a δ h1) X Q) (wr (b δ h1) X Q)) : wr (eIf t a b δ h) X Q := by
  unfold eIf
  refine wr_bind (wr_mono z fun c h1 z => ?_)
  cases c <;> exact z
instance i_w_eif {t : FnT} {a b : FnE} : Gs (wr (eIf t a b δ h) X Q) (wr (t δ h) X fun c h1 => ite2 c (wr (a δ h1) X Q) (wr (b δ h1) X Q)) := ⟨w_eif⟩
theorem w_nil (z : QA [] h) : wr (aNil δ h) X QA := z
instance i_w_nil : Gs (wr (aNil δ h) X QA) (QA [] h) := ⟨w_nil⟩
theorem w_cons {f : FnE} {r : FnA} (z : wr (f δ h) X fun x h1 => wr (r δ h1) X fun xs h2 => QA (x :: xs) h2) : wr (aCons f r δ h) X QA := by
  unfold aCons
  exact wr_bind (wr_mono z fun x h1 z => wr_bind z)
instance i_w_cons {f : FnE} {r : FnA} : Gs (wr (aCons f r δ h) X QA) (wr (f δ h) X fun x h1 => wr (r δ h1) X fun xs h2 => QA (x :: xs) h2) := ⟨w_cons⟩
theorem line1000 {n : Nat} (l : n ≤ 1000) : lineOk n = true := by unfold lineOk; simp; omega
theorem w_tup {f : FnA} (z : wr (f δ h) X fun xs h1 => le1000 xs.length (Q (.tup xs) h1)) : wr (eTup f δ h) X Q := by
  unfold eTup
  refine wr_bind (wr_mono z fun xs h1 z => ?_)
  rw [if_pos (line1000 z.1)]; exact z.2
instance i_w_tup {f : FnA} : Gs (wr (eTup f δ h) X Q) (wr (f δ h) X fun xs h1 => le1000 xs.length (Q (.tup xs) h1)) := ⟨w_tup⟩
theorem w_lst {f : FnA} (z : wr (f δ h) X fun xs h1 => le1000 xs.length (Q (.lst xs) h1)) : wr (eLst f δ h) X Q := by
  unfold eLst
  refine wr_bind (wr_mono z fun xs h1 z => ?_)
  rw [if_pos (line1000 z.1)]; exact z.2
instance i_w_lst {f : FnA} : Gs (wr (eLst f δ h) X Q) (wr (f δ h) X fun xs h1 => le1000 xs.length (Q (.lst xs) h1)) := ⟨w_lst⟩
theorem w_lstM {f : FnA} (z : wr (f δ h) X fun xs h1 => le1000 xs.length (Q (.ref h1.length) (h1 ++ [.lst xs]))) : wr (eLstM f δ h) X Q := by
  unfold eLstM
  refine wr_bind (wr_mono z fun xs h1 z => ?_)
  rw [if_pos (line1000 z.1)]; exact z.2
instance i_w_lstM {f : FnA} : Gs (wr (eLstM f δ h) X Q) (wr (f δ h) X fun xs h1 => le1000 xs.length (Q (.ref h1.length) (h1 ++ [.lst xs]))) := ⟨w_lstM⟩
theorem w_call {np : Nat} {sem : Sem3} {fa : FnA} {dds : List D} (z : wr (fa δ h) X fun xs h1 => eqn (xs ++ dds).length np (wr (sem (xs ++ dds) h1) X Q)) : wr (eCall np sem fa dds δ h) X Q := by
  unfold eCall
  refine wr_bind (wr_mono z fun xs h1 z => ?_)
  unfold kCall
  rw [if_pos z.1]; exact z.2
instance i_w_call {np : Nat} {sem : Sem3} {fa : FnA} {dds : List D} : Gs (wr (eCall np sem fa dds δ h) X Q) (wr (fa δ h) X fun xs h1 => eqn (xs ++ dds).length np (wr (sem (xs ++ dds) h1) X Q)) := ⟨w_call⟩
theorem w_call0 {np : Nat} {sem : Sem3} {fa : FnA} (z : wr (fa δ h) X fun xs h1 => eqn xs.length np (wr (sem xs h1) X Q)) : wr (eCall np sem fa [] δ h) X Q := by
  refine w_call (wr_mono z fun xs h1 z => ?_)
  rw [List.append_nil]; exact z
instance (priority := 1100) i_w_call0 {np : Nat} {sem : Sem3} {fa : FnA} : Gs (wr (eCall np sem fa [] δ h) X Q) (wr (fa δ h) X fun xs h1 => eqn xs.length np (wr (sem xs h1) X Q)) := ⟨w_call0⟩
theorem w_meth {c np : Nat} {sem : Sem3} {fo : FnE} {fa : FnA} {dds : List D} (z : wr (fo δ h) X fun x h1 => eqn (clsOf h1 x) (some c) (wr (fa δ h1) X fun xs h2 => eqn (x :: xs ++ dds).length np (wr (sem (x :: xs ++ dds) h2) X Q))) : wr (eMeth c np sem fo fa dds δ h) X Q := by
  unfold eMeth
  refine wr_bind (wr_mono z fun x h1 z => ?_)
  unfold kMeth
  rw [if_pos z.1]
  refine wr_bind (wr_mono z.2 fun xs h2 z => ?_)
  unfold kCall
  rw [if_pos z.1]; exact z.2
instance i_w_meth {c np : Nat} {sem : Sem3} {fo : FnE} {fa : FnA} {dds : List D} : Gs (wr (eMeth c np sem fo fa dds δ h) X Q) (wr (fo δ h) X fun x h1 => eqn (clsOf h1 x) (some c) (wr (fa δ h1) X fun xs h2 => eqn (x :: xs ++ dds).length np (wr (sem (x :: xs ++ dds) h2) X Q))) := ⟨w_meth⟩
theorem w_meth0 {c np : Nat} {sem : Sem3} {fo : FnE} {fa : FnA} (z : wr (fo δ h) X fun x h1 => eqn (clsOf h1 x) (some c) (wr (fa δ h1) X fun xs h2 => eqn (x :: xs).length np (wr (sem (x :: xs) h2) X Q))) : wr (eMeth c np sem fo fa [] δ h) X Q := by
  refine w_meth (wr_mono z fun x h1 z => ⟨z.1, wr_mono z.2 fun xs h2 z => ?_⟩)
  rw [List.append_nil]; exact z
instance (priority := 1100) i_w_meth0 {c np : Nat} {sem : Sem3} {fo : FnE} {fa : FnA} : Gs (wr (eMeth c np sem fo fa [] δ h) X Q) (wr (fo δ h) X fun x h1 => eqn (clsOf h1 x) (some c) (wr (fa δ h1) X fun xs h2 => eqn (x :: xs).length np (wr (sem (x :: xs) h2) X Q))) := ⟨w_meth0⟩
theorem w_b {g : FB} {fa : FnA} (z : wr (fa δ h) X fun xs h1 => wr (g xs h1) X Q) : wr (eB g fa δ h) X Q := by
  unfold eB; exact wr_bind z
instance i_w_b {g : FB} {fa : FnA} : Gs (wr (eB g fa δ h) X Q) (wr (fa δ h) X fun xs h1 => wr (g xs h1) X Q) := ⟨w_b⟩
theorem w_fld {ix : Nat → Option Nat} {fa : FnE} (z : wr (fa δ h) X fun x h1 => wr (fldD ix x h1) X Q) : wr (eFld ix fa δ h) X Q := by
  unfold eFld; exact wr_bind z
instance i_w_fld {ix : Nat → Option Nat} {fa : FnE} : Gs (wr (eFld ix fa δ h) X Q) (wr (fa δ h) X fun x h1 => wr (fldD ix x h1) X Q) := ⟨w_fld⟩
theorem w_isi {t : Ty} {fa : FnE} (z : wr (fa δ h) X fun x h1 => wr (isiD t x h1) X Q) : wr (eIsi t fa δ h) X Q := by
  unfold eIsi; exact wr_bind z
instance i_w_isi {t : Ty} {fa : FnE} : Gs (wr (eIsi t fa δ h) X Q) (wr (fa δ h) X fun x h1 => wr (isiD t x h1) X Q) := ⟨w_isi⟩
theorem w_iso {c : Nat} {fa : FnE} (z : wr (fa δ h) X fun x h1 => wr (isoD c x h1) X Q) : wr (eIso c fa δ h) X Q := by
  unfold eIso; exact wr_bind z
instance i_w_iso {c : Nat} {fa : FnE} : Gs (wr (eIso c fa δ h) X Q) (wr (fa δ h) X fun x h1 => wr (isoD c x h1) X Q) := ⟨w_iso⟩
theorem w_isiO {t : Ty} {c : Nat} {fa : FnE} (z : wr (fa δ h) X fun x h1 => wr (isiO t c x h1) X Q) : wr (eIsiO t c fa δ h) X Q := by
  unfold eIsiO; exact wr_bind z
instance i_w_isiO {t : Ty} {c : Nat} {fa : FnE} : Gs (wr (eIsiO t c fa δ h) X Q) (wr (fa δ h) X fun x h1 => wr (isiO t c x h1) X Q) := ⟨w_isiO⟩
theorem w_isoE {c c2 : Nat} {fa : FnE} (z : wr (fa δ h) X fun x h1 => wr (isoE c c2 x h1) X Q) : wr (eIsoE c c2 fa δ h) X Q := by
  unfold eIsoE; exact wr_bind z
instance i_w_isoE {c c2 : Nat} {fa : FnE} : Gs (wr (eIsoE c c2 fa δ h) X Q) (wr (fa δ h) X fun x h1 => wr (isoE c c2 x h1) X Q) := ⟨w_isoE⟩
theorem w_one {g : D → Hh → R D} {x : D} (z : wr (g x h) X Q) : wr (one g [x] h) X Q := z
instance i_w_one {g : D → Hh → R D} {x : D} : Gs (wr (one g [x] h) X Q) (wr (g x h) X Q) := ⟨w_one⟩
theorem w_slice {f : FnE} {fl fh : FnO} (z : wr (f δ h) X fun x h1 => wr (fl δ h1) X fun l h2 => wr (fh δ h2) X fun u h3 => wr (sliceD x l u h3) X Q) : wr (eSlice f fl fh δ h) X Q := by
  unfold eSlice
  exact wr_bind (wr_mono z fun x h1 z => wr_bind (wr_mono z fun l h2 z => wr_bind z))
instance i_w_slice {f : FnE} {fl fh : FnO} : Gs (wr (eSlice f fl fh δ h) X Q) (wr (f δ h) X fun x h1 => wr (fl δ h1) X fun l h2 => wr (fh δ h2) X fun u h3 => wr (sliceD x l u h3) X Q) := ⟨w_slice⟩
theorem w_onone (z : QO none h) : wr (oNone δ h) X QO := z
instance i_w_onone : Gs (wr (oNone δ h) X QO) (QO none h) := ⟨w_onone⟩
theorem w_osome {f : FnE} (z : wr (f δ h) X (tint QO)) : wr (oSome f δ h) X QO := by
  unfold oSome
  refine wr_bind (wr_mono z fun x h1 z => ?_)
  cases x <;> first | exact z | exact z.elim
instance i_w_osome {f : FnE} : Gs (wr (oSome f δ h) X QO) (wr (f δ h) X (tint QO)) := ⟨w_osome⟩
theorem wr_noX {r : R D} (z : wr r noE Q) : wr (noX r) X Q := by
  cases r with
  | ok x h => exact z
  | exc c ds h => exact z.elim
  | stk => exact z.elim
theorem w_prop {c np : Nat} {sem : Sem3} {fo : FnE} (z : wr (fo δ h) X fun x h1 => eqn (clsOf h1 x) (some c) (eqn np 1 (wr (sem [x] h1) noE Q))) : wr (eProp c np sem fo δ h) X Q := by
  unfold eProp
  refine wr_bind (wr_mono z fun x h1 z => ?_)
  unfold kProp
  rw [if_pos ⟨z.1, z.2.1⟩]; exact wr_noX z.2.2
instance i_w_prop {c np : Nat} {sem : Sem3} {fo : FnE} : Gs (wr (eProp c np sem fo δ h) X Q) (wr (fo δ h) X fun x h1 => eqn (clsOf h1 x) (some c) (eqn np 1 (wr (sem [x] h1) noE Q))) := ⟨w_prop⟩
theorem w_rg1 {f : FnE} {QI : List D → Hh → Prop} (z : wr (f δ h) X fun x h1 => ∃ n : Nat, x = .int (n : Int) ∧ n ≤ 1000 ∧ QI (rgD 0 n) h1) : wr (iRg1 f δ h) X QI := by
  cases e : f δ h with
  | ok x h1 =>
    rw [e] at z
    obtain ⟨n, rfl, l, q⟩ := z
    exact wr_ok (rg_ok e l) q
  | exc c ds h1 =>
    rw [e] at z
    unfold iRg1
    rw [e]; exact z
  | stk => rw [e] at z; exact z.elim
theorem w_seqI {f : FnE} {QI : List D → Hh → Prop} (z : wr (f δ h) X fun x h1 => ∃ ds, (x = .tup ds ∨ x = .lst ds ∨ x = .scr ds) ∧ QI ds h1) : wr (iSeq f δ h) X QI := by
  unfold iSeq
  refine wr_bind (wr_mono z fun x h1 z => ?_)
  obtain ⟨ds, rfl | rfl | rfl, q⟩ := z <;> exact q
instance i_w_seqI {f : FnE} {QI : List D → Hh → Prop} : Gs (wr (iSeq f δ h) X QI) (wr (f δ h) X fun x h1 => ∃ ds, (x = .tup ds ∨ x = .lst ds ∨ x = .scr ds) ∧ QI ds h1) := ⟨w_seqI⟩
theorem w_key {f : FnE} {QI : List D → Hh → Prop} (z : wr (f δ h) X fun x h1 => wr (kKey x h1) X QI) : wr (iKey f δ h) X QI := by
  unfold iKey; exact wr_bind z
instance i_w_key {f : FnE} {QI : List D → Hh → Prop} : Gs (wr (iKey f δ h) X QI) (wr (f δ h) X fun x h1 => wr (kKey x h1) X QI) := ⟨w_key⟩
theorem w_enum {fa : FnA} {QI : List D → Hh → Prop} (z : wr (fa δ h) X fun xs h1 => wr (kEnumX xs h1) X QI) : wr (iEnumA fa δ h) X QI := by
  unfold iEnumA; exact wr_bind z
instance i_w_enum {fa : FnA} {QI : List D → Hh → Prop} : Gs (wr (iEnumA fa δ h) X QI) (wr (fa δ h) X fun xs h1 => wr (kEnumX xs h1) X QI) := ⟨w_enum⟩
theorem w_zipW {fa : FnA} {QI : Wk → Hh → Prop} (z : wr (fa δ h) X fun xs h1 => wr (kZipW xs h1) X QI) : wr (wZip fa δ h) X QI := by
  unfold wZip; exact wr_bind z
instance i_w_zipW {fa : FnA} {QI : Wk → Hh → Prop} : Gs (wr (wZip fa δ h) X QI) (wr (fa δ h) X fun xs h1 => wr (kZipW xs h1) X QI) := ⟨w_zipW⟩
theorem w_seqW {f : FnE} {QI : Wk → Hh → Prop} (z : wr (f δ h) X fun x h1 => ∃ ds, (x = .tup ds ∨ x = .lst ds ∨ x = .scr ds) ∧ QI (.im ds) h1) : wr (wSeq f δ h) X QI := by
  unfold wSeq
  refine wr_bind (wr_mono z fun x h1 z => ?_)
  obtain ⟨ds, rfl | rfl | rfl, q⟩ := z <;> exact q
instance i_w_seqW {f : FnE} {QI : Wk → Hh → Prop} : Gs (wr (wSeq f δ h) X QI) (wr (f δ h) X fun x h1 => ∃ ds, (x = .tup ds ∨ x = .lst ds ∨ x = .scr ds) ∧ QI (.im ds) h1) := ⟨w_seqW⟩
theorem w_lc {f : FnI} {g : FnG} {t : FnT} {e : FnE} {own : List Nat} (z : wr (f δ h) X fun items h1 => wr (lcs g t e (wipeD δ own) items h1) noE fun xs h2 => le1000 xs.length (Q (.lst xs) h2)) : wr (eLc false f g t e own δ h) X Q := by
  unfold eLc
  refine wr_bind (wr_mono z fun items h1 z => wr_bind (wr_mono (wr_noE z) fun xs h2 z => ?_))
  rw [show kLst false xs h2 = .ok (.lst xs) h2 by unfold kLst; rw [if_pos (line1000 z.1), if_neg Bool.false_ne_true]]
  exact z.2
theorem w_lcW {f : FnW} {g : FnG} {t : FnT} {e : FnE} {own : List Nat} (z : wr (f δ h) X fun w h1 => ∃ items, w = .im items ∧ wr (lcs g t e (wipeD δ own) items h1) noE fun xs h2 => le1000 xs.length (Q (.lst xs) h2)) : wr (eLcW false f g t e own δ h) X Q := by
  unfold eLcW
  refine wr_bind (wr_mono z fun w h1 z => ?_)
  obtain ⟨items, rfl, z⟩ := z
  unfold lcW
  dsimp only
  refine wr_bind (wr_mono (wr_noE z) fun xs h2 z => ?_)
  rw [show kLst false xs h2 = .ok (.lst xs) h2 by unfold kLst; rw [if_pos (line1000 z.1), if_neg Bool.false_ne_true]]
  exact z.2
instance i_w_lcW {f : FnW} {g : FnG} {t : FnT} {e : FnE} {own : List Nat} : Gs (wr (eLcW false f g t e own δ h) X Q) (wr (f δ h) X fun w h1 => ∃ items, w = .im items ∧ wr (lcs g t e (wipeD δ own) items h1) noE fun xs h2 => le1000 xs.length (Q (.lst xs) h2)) := ⟨w_lcW⟩
theorem w_map {g : FnG} {e : FnE} {α : Type} (a F : α → D) (I : Hh → Prop) : ∀ (l : List α) (h : Hh) (Q : List D → Hh → Prop), I h → (∀ x ∈ l, ∀ h, I h → ∃ δ1, g (a x) δ = some δ1 ∧ wr (e δ1 h) noE fun y h' => y = F x ∧ I h') → (∀ h', I h' → Q (l.map F) h') → wr (lcs g tYes3 e δ (l.map a) h) noE Q
  | [], h, Q, i, st, dn => dn h i
  | x :: l, h, Q, i, st, dn => by
    obtain ⟨δ1, e1, w1⟩ := st x (by simp) h i
    obtain ⟨y, h1, e2, rfl, i1⟩ := wr_get w1
    have := w_map a F I l h1 (fun ys h' => Q (F x :: ys) h') i1 (fun y hy => st y (by simp [hy])) dn
    rw [List.map_cons, lcCons, e1, lcAS]
    show wr (lcB (.ok true h) _ _) _ _
    rw [lcBT, e2, lcCO]
    exact wr_bind this
end
section
variable {E : Es} {δ : De} {h : Hh}
theorem s_seq {u v : FnS} (z : ws (u δ h) (E.sq fun δ1 h1 => ws (v δ1 h1) E)) : ws (sSeq u v δ h) E := by
  unfold sSeq
  cases e : u δ h <;> rw [e] at z <;> exact z
instance i_s_seq {u v : FnS} : Gs (ws (sSeq u v δ h) E) (ws (u δ h) (E.sq fun δ1 h1 => ws (v δ1 h1) E)) := ⟨s_seq⟩
theorem s_nil (z : E.nx δ h) : ws (sNil δ h) E := z
instance i_s_nil : Gs (ws (sNil δ h) E) (E.nx δ h) := ⟨s_nil⟩
theorem s_pass (z : E.nx δ h) : ws (sPass δ h) E := z
instance i_s_pass : Gs (ws (sPass δ h) E) (E.nx δ h) := ⟨s_pass⟩
theorem s_break (z : E.bk δ h) : ws (sBreak δ h) E := z
instance i_s_break : Gs (ws (sBreak δ h) E) (E.bk δ h) := ⟨s_break⟩
theorem s_cont (z : E.ct δ h) : ws (sCont δ h) E := z
instance i_s_cont : Gs (ws (sCont δ h) E) (E.ct δ h) := ⟨s_cont⟩
theorem s_set {i : Nat} {f : FnE} (z : wr (f δ h) (fun c ds h => E.ex c ds δ h) fun x h1 => E.nx (δ.set i (some x)) h1) : ws (sSet i f δ h) E := by
  unfold sSet; exact ws_toS z
instance i_s_set {i : Nat} {f : FnE} : Gs (ws (sSet i f δ h) E) (wr (f δ h) (fun c ds h => E.ex c ds δ h) fun x h1 => E.nx (δ.set i (some x)) h1) := ⟨s_set⟩
theorem s_ret {f : FnE} (z : wr (f δ h) (fun c ds h => E.ex c ds δ h) fun x h1 => E.rt x h1) : ws (sRet f δ h) E := by
  unfold sRet; exact ws_toS z
instance i_s_ret {f : FnE} : Gs (ws (sRet f δ h) E) (wr (f δ h) (fun c ds h => E.ex c ds δ h) fun x h1 => E.rt x h1) := ⟨s_ret⟩
theorem s_retN (z : E.rt .non h) : ws (sRetN δ h) E := z
instance i_s_retN : Gs (ws (sRetN δ h) E) (E.rt .non h) := ⟨s_retN⟩
theorem s_expr {f : FnE} (z : wr (f δ h) (fun c ds h => E.ex c ds δ h) fun _ h1 => E.nx δ h1) : ws (sExpr f δ h) E := by
  unfold sExpr; exact ws_toS z
instance i_s_expr {f : FnE} : Gs (ws (sExpr f δ h) E) (wr (f δ h) (fun c ds h => E.ex c ds δ h) fun _ h1 => E.nx δ h1) := ⟨s_expr⟩
theorem s_if {t : FnT} {u v : FnS} (z : wr (t δ h) (fun c ds h => E.ex c ds δ h) fun c h1 => ite2 c (ws (u δ h1) E) (ws (v δ h1) E)) : ws (sIf t u v δ h) E := by
  unfold sIf
  refine ws_toS (wr_mono z fun c h1 z => ?_)
  cases c <;> exact z
instance i_s_if {t : FnT} {u v : FnS} : Gs (ws (sIf t u v δ h) E) (wr (t δ h) (fun c ds h => E.ex c ds δ h) fun c h1 => ite2 c (ws (u δ h1) E) (ws (v δ h1) E)) := ⟨s_if⟩
theorem s_asg {g : FnG} {f : FnE} (z : wr (f δ h) (fun c ds h => E.ex c ds δ h) fun x h1 => ∃ δ', g x δ = some δ' ∧ E.nx δ' h1) : ws (sAsg g f δ h) E := by
  unfold sAsg
  refine ws_toS (wr_mono z fun x h1 z => ?_)
  obtain ⟨δ', e, z⟩ := z
  rw [e]; exact z
instance i_s_asg {g : FnG} {f : FnE} : Gs (ws (sAsg g f δ h) E) (wr (f δ h) (fun c ds h => E.ex c ds δ h) fun x h1 => ∃ δ', g x δ = some δ' ∧ E.nx δ' h1) := ⟨s_asg⟩
theorem s_par {ix : List Nat} {fa : FnA} (z : wr (fa δ h) (fun c ds h => E.ex c ds δ h) fun xs h1 => eqn xs.length ix.length (E.nx (setAll ix xs δ) h1)) : ws (sPar ix fa δ h) E := by
  unfold sPar
  refine ws_toS (wr_mono z fun xs h1 z => ?_)
  unfold kPar
  rw [if_pos z.1]; exact z.2
theorem s_ix {fo fi fv : FnE} (z : wr (fv δ h) (fun c ds h => E.ex c ds δ h) fun y h1 => wr (fo δ h1) (fun c ds h => E.ex c ds δ h) fun x h2 => wr (fi δ h2) (fun c ds h => E.ex c ds δ h) fun i h3 => ∃ h4, setOne x i y h3 = some h4 ∧ E.nx δ h4) : ws (sIxS fo fi fv δ h) E := by
  unfold sIxS
  refine ws_toS (wr_mono z fun y h1 z => ws_toS (wr_mono z fun x h2 z => ws_toS (wr_mono z fun i h3 z => ?_)))
  obtain ⟨h4, e, z⟩ := z
  unfold kSet
  rw [e]; exact z
instance i_s_ix {fo fi fv : FnE} : Gs (ws (sIxS fo fi fv δ h) E) (wr (fv δ h) (fun c ds h => E.ex c ds δ h) fun y h1 => wr (fo δ h1) (fun c ds h => E.ex c ds δ h) fun x h2 => wr (fi δ h2) (fun c ds h => E.ex c ds δ h) fun i h3 => ∃ h4, setOne x i y h3 = some h4 ∧ E.nx δ h4) := ⟨s_ix⟩
theorem s_fld {ix : Nat → Option Nat} {fo fv : FnE} (z : wr (fv δ h) (fun c ds h => E.ex c ds δ h) fun y h1 => wr (fo δ h1) (fun c ds h => E.ex c ds δ h) fun x h2 => ∃ n c ds k ds', x = .ref n ∧ h2[n]? = some (.obj c ds) ∧ ix c = some k ∧ putAt ds k y = some ds' ∧ E.nx δ (h2.set n (.obj c ds'))) : ws (L3.sFld ix fo fv δ h) E := by
  unfold L3.sFld
  refine ws_toS (wr_mono z fun y h1 z => ws_toS (wr_mono z fun x h2 z => ?_))
  obtain ⟨n, c, ds, k, ds', rfl, e1, e2, e3, z⟩ := z
  dsimp only
  rw [e1]
  dsimp only
  rw [e2]
  dsimp only
  rw [e3]
  exact z
instance i_s_fld {ix : Nat → Option Nat} {fo fv : FnE} : Gs (ws (L3.sFld ix fo fv δ h) E) (wr (fv δ h) (fun c ds h => E.ex c ds δ h) fun y h1 => wr (fo δ h1) (fun c ds h => E.ex c ds δ h) fun x h2 => ∃ n c ds k ds', x = .ref n ∧ h2[n]? = some (.obj c ds) ∧ ix c = some k ∧ putAt ds k y = some ds' ∧ E.nx δ (h2.set n (.obj c ds'))) := ⟨s_fld⟩
theorem s_raise {c : Nat} {f : FnE} (z : wr (f δ h) (fun c ds h => E.ex c ds δ h) fun x h1 => E.ex c [x] δ h1) : ws (sRaise c f δ h) E := by
  unfold sRaise; exact ws_toS z
theorem s_for {f : FnI} {g : FnG} {u : FnS} (z : wr (f δ h) (fun c ds h => E.ex c ds δ h) fun items h1 => ws (loop3 g u items δ h1) E) : ws (L3.sFor f g u δ h) E := by
  unfold L3.sFor; exact ws_toS z
instance i_s_for {f : FnI} {g : FnG} {u : FnS} : Gs (ws (L3.sFor f g u δ h) E) (wr (f δ h) (fun c ds h => E.ex c ds δ h) fun items h1 => ws (loop3 g u items δ h1) E) := ⟨s_for⟩
theorem s_forW {f : FnW} {g : FnG} {u : FnS} (z : wr (f δ h) (fun c ds h => E.ex c ds δ h) fun w h1 => ∃ items, w = .im items ∧ ws (loop3 g u items δ h1) E) : ws (L3.sForW f g u δ h) E := by
  unfold L3.sForW
  refine ws_toS (wr_mono z fun w h1 z => ?_)
  obtain ⟨items, rfl, z⟩ := z
  exact z
instance i_s_forW {f : FnW} {g : FnG} {u : FnS} : Gs (ws (L3.sForW f g u δ h) E) (wr (f δ h) (fun c ds h => E.ex c ds δ h) fun w h1 => ∃ items, w = .im items ∧ ws (loop3 g u items δ h1) E) := ⟨s_forW⟩
theorem s_loop {g : FnG} {u : FnS} (P : Nat → De → Hh → Prop) : ∀ (items : List D) (i : Nat) (δ : De) (h : Hh), P i δ h →
    (∀ j d, items[j]? = some d → ∀ δ h, P (i + j) δ h → ∃ δ1, g d δ = some δ1 ∧ ws (u δ1 h) (E.lp (P (i + j + 1)))) → (∀ δ h, P (i + items.length) δ h → E.nx δ h) → ws (loop3 g u items δ h) E
  | [], i, δ, h, p, st, dn => dn δ h (by simpa using p)
  | d :: ds, i, δ, h, p, st, dn => by
    obtain ⟨δ1, e1, w1⟩ := st 0 d rfl δ h p
    unfold loop3
    rw [e1]
    dsimp only
    have st' : ∀ j d', ds[j]? = some d' → ∀ δ h, P (i + 1 + j) δ h → ∃ δ1, g d' δ = some δ1 ∧ ws (u δ1 h) (E.lp (P (i + 1 + j + 1))) := fun j d' ej δ h q => by
      have := st (j + 1) d' (by simpa using ej) δ h (by rw [show i + (j + 1) = i + 1 + j by omega]; exact q)
      rw [show i + (j + 1) = i + 1 + j by omega] at this
      exact this
    have dn' : ∀ δ h, P (i + 1 + ds.length) δ h → E.nx δ h := fun δ h q => dn δ h (by rw [List.length_cons, show i + (ds.length + 1) = i + 1 + ds.length by omega]; exact q)
    cases eu : u δ1 h with
    | nx δ2 h2 => rw [eu] at w1; exact s_loop P ds (i + 1) δ2 h2 w1 st' dn'
    | ct δ2 h2 => rw [eu] at w1; exact s_loop P ds (i + 1) δ2 h2 w1 st' dn'
    | bk δ2 h2 => rw [eu] at w1; exact w1
    | rt d h2 => rw [eu] at w1; exact w1
    | exc c ds δ2 h2 => rw [eu] at w1; exact w1
    | stk => rw [eu] at w1; exact w1
theorem w_run {n : Nat} {u : FnS} {ds : List D} {δ : De} {h : Hh} {X : Nat → List D → Hh → Prop} {Q : D → Hh → Prop} (e : startD n ds = δ) (z : ws (u δ h) ⟨fun _ h => Q .non h, fun d h => Q d h, fun _ _ => False, fun _ _ => False, fun c ds _ h => X c ds h⟩) : wr (runD n u ds h) X Q := by
  unfold runD
  rw [e]
  cases q : u δ h <;> rw [q] at z <;> first | exact z | exact z.elim
end
section
variable {X : Nat → List D → Hh → Prop} {Q : D → Hh → Prop} {QI : List D → Hh → Prop} {h : Hh}
theorem w_addI {a b : Int} (q : Q (.int (a + b)) h) : wr (addD (.int a) (.int b) h) X Q := q
instance i_w_addI {a b : Int} : Gs (wr (addD (.int a) (.int b) h) X Q) (Q (.int (a + b)) h) := ⟨w_addI⟩
theorem w_subI {a b : Int} (q : Q (.int (a - b)) h) : wr (subD (.int a) (.int b) h) X Q := wr_ok (subI a b h) q
instance i_w_subI {a b : Int} : Gs (wr (subD (.int a) (.int b) h) X Q) (Q (.int (a - b)) h) := ⟨w_subI⟩
theorem w_negI {a : Int} (q : Q (.int (-a)) h) : wr (negD (.int a) h) X Q := q
instance i_w_negI {a : Int} : Gs (wr (negD (.int a) h) X Q) (Q (.int (-a)) h) := ⟨w_negI⟩
theorem w_leI {a b : Int} (q : Q (.bl (decide (a ≤ b))) h) : wr (leD (.int a) (.int b) h) X Q := wr_ok (leI a b h) q
instance i_w_leI {a b : Int} : Gs (wr (leD (.int a) (.int b) h) X Q) (Q (.bl (decide (a ≤ b))) h) := ⟨w_leI⟩
theorem w_ltI {a b : Int} (q : Q (.bl (decide (a < b))) h) : wr (ltD (.int a) (.int b) h) X Q := wr_ok (ltI a b h) q
instance i_w_ltI {a b : Int} : Gs (wr (ltD (.int a) (.int b) h) X Q) (Q (.bl (decide (a < b))) h) := ⟨w_ltI⟩
theorem w_geI {a b : Int} (q : Q (.bl (decide (b ≤ a))) h) : wr (geD (.int a) (.int b) h) X Q := wr_ok (geI a b h) q
instance i_w_geI {a b : Int} : Gs (wr (geD (.int a) (.int b) h) X Q) (Q (.bl (decide (b ≤ a))) h) := ⟨w_geI⟩
theorem w_gtA {a b : Int} (q : Q (.bl (decide (b < a))) h) : wr (gtA (.int a) (.int b) h) X Q := q
instance i_w_gtA {a b : Int} : Gs (wr (gtA (.int a) (.int b) h) X Q) (Q (.bl (decide (b < a))) h) := ⟨w_gtA⟩
theorem w_gtI {a b : Int} (q : Q (.bl (decide (b < a))) h) : wr (gtD (.int a) (.int b) h) X Q := q
instance i_w_gtI {a b : Int} : Gs (wr (gtD (.int a) (.int b) h) X Q) (Q (.bl (decide (b < a))) h) := ⟨w_gtI⟩
theorem w_eqI {a b : Int} (q : Q (.bl (decide (a = b))) h) : wr (eqD (.int a) (.int b) h) X Q := wr_ok (eqI a b h) q
instance i_w_eqI {a b : Int} : Gs (wr (eqD (.int a) (.int b) h) X Q) (Q (.bl (decide (a = b))) h) := ⟨w_eqI⟩
theorem w_neI {a b : Int} (q : Q (.bl (!decide (a = b))) h) : wr (neD (.int a) (.int b) h) X Q := wr_ok (neI a b h) q
instance i_w_neI {a b : Int} : Gs (wr (neD (.int a) (.int b) h) X Q) (Q (.bl (!decide (a = b))) h) := ⟨w_neI⟩
theorem eqS (a b : List Nat) (h : Hh) : eqD (.str a) (.str b) h = .ok (.bl (decide (a = b))) h := by
  have f : ∀ z : List Nat, flat 60 (deref h (.str z)) = true := fun z => by simp [deref, flat]
  unfold eqD
  rw [if_pos ⟨f a, f b⟩]
  congr 2
  show (decide ((⟨a.toArray⟩ : Str) = ⟨b.toArray⟩)) = _
  have : ((⟨a.toArray⟩ : Str) = ⟨b.toArray⟩) ↔ a = b := ⟨fun z => by injection z with z1; simpa using congrArg Array.toList z1, fun z => by rw [z]⟩
  simp only [this]
theorem w_intD {i : Int} (q : Q (.int i) h) : wr (intD (.int i) h) X Q := q
instance i_w_intD {i : Int} : Gs (wr (intD (.int i) h) X Q) (Q (.int i) h) := ⟨w_intD⟩
theorem w_enumL {ds : List D} (q : QI (enumL 0 ds) h) : wr (kEnumX [.lst ds] h) X QI := q
instance i_w_enumL {ds : List D} : Gs (wr (kEnumX [.lst ds] h) X QI) (QI (enumL 0 ds) h) := ⟨w_enumL⟩
theorem w_keyT {ds : List D} (q : QI ds h) : wr (kKey (.tup ds) h) X QI := q
instance i_w_keyT {ds : List D} : Gs (wr (kKey (.tup ds) h) X QI) (QI ds h) := ⟨w_keyT⟩
end
section
variable {X : Nat → List D → Hh → Prop} {Q : D → Hh → Prop} {QA : List D → Hh → Prop} {E : Es} {δ : De} {h : Hh}
theorem w_lcN {g : FnG} {t : FnT} {e : FnE} (q : QA [] h) : wr (lcs g t e δ [] h) X QA := q
instance i_w_lcN {g : FnG} {t : FnT} {e : FnE} : Gs (wr (lcs g t e δ [] h) X QA) (QA [] h) := ⟨w_lcN⟩
theorem w_lcC {g : FnG} {t : FnT} {e : FnE} {d : D} {ds : List D} (z : ∃ δ1, g d δ = some δ1 ∧ wr (t δ1 h) noE fun c h1 => ite2 c (wr (e δ1 h1) noE fun y h2 => wr (lcs g t e δ ds h2) X fun ys h3 => QA (y :: ys) h3) (wr (lcs g t e δ ds h1) X QA)) : wr (lcs g t e δ (d :: ds) h) X QA := by
  obtain ⟨δ1, e1, z⟩ := z
  obtain ⟨c, h1, e2, z⟩ := wr_get z
  unfold lcs
  rw [e1]
  dsimp only
  rw [e2]
  dsimp only
  cases c with
  | false => rw [if_neg Bool.false_ne_true]; exact z
  | true =>
    rw [if_pos rfl]
    obtain ⟨y, h2, e3, z⟩ := wr_get (show wr (e δ1 h1) noE _ from z)
    rw [e3]
    exact wr_bind z
instance i_w_lcC {g : FnG} {t : FnT} {e : FnE} {d : D} {ds : List D} : Gs (wr (lcs g t e δ (d :: ds) h) X QA) (∃ δ1, g d δ = some δ1 ∧ wr (t δ1 h) noE fun c h1 => ite2 c (wr (e δ1 h1) noE fun y h2 => wr (lcs g t e δ ds h2) X fun ys h3 => QA (y :: ys) h3) (wr (lcs g t e δ ds h1) X QA)) := ⟨w_lcC⟩
theorem s_loopN {g : FnG} {u : FnS} (z : E.nx δ h) : ws (loop3 g u [] δ h) E := z
instance i_s_loopN {g : FnG} {u : FnS} : Gs (ws (loop3 g u [] δ h) E) (E.nx δ h) := ⟨s_loopN⟩
theorem s_loopC {g : FnG} {u : FnS} {d : D} {ds : List D} (z : ∃ δ1, g d δ = some δ1 ∧ ws (u δ1 h) ⟨fun δ2 h2 => ws (loop3 g u ds δ2 h2) E, E.rt, E.nx, fun δ2 h2 => ws (loop3 g u ds δ2 h2) E, E.ex⟩) : ws (loop3 g u (d :: ds) δ h) E := by
  obtain ⟨δ1, e1, z⟩ := z
  unfold loop3
  rw [e1]
  dsimp only
  cases eu : u δ1 h <;> rw [eu] at z <;> exact z
instance i_s_loopC {g : FnG} {u : FnS} {d : D} {ds : List D} : Gs (ws (loop3 g u (d :: ds) δ h) E) (∃ δ1, g d δ = some δ1 ∧ ws (u δ1 h) ⟨fun δ2 h2 => ws (loop3 g u ds δ2 h2) E, E.rt, E.nx, fun δ2 h2 => ws (loop3 g u ds δ2 h2) E, E.ex⟩) := ⟨s_loopC⟩
end
abbrev Es.lk (E : Es) (n : Nat) : Es := ⟨fun δ h => ∃ h', unlD n h = some h' ∧ E.nx δ h', fun d h => ∃ h', unlD n h = some h' ∧ E.rt d h', fun δ h => ∃ h', unlD n h = some h' ∧ E.bk δ h', fun δ h => ∃ h', unlD n h = some h' ∧ E.ct δ h', fun _ _ _ _ => False⟩
abbrev Es.er (E : Es) (n i : Nat) : Es := ⟨fun δ h => E.nx (δ.set i none) (h.set n .dead), fun d h => E.rt d (h.set n .dead), fun δ h => E.bk (δ.set i none) (h.set n .dead), fun δ h => E.ct (δ.set i none) (h.set n .dead), fun _ _ _ _ => False⟩
section
variable {E : Es} {δ : De} {h : Hh}
theorem s_tryN {u : FnS} {l : List Cn} (z : ws (u δ h) (E.tr fun c ds δ1 h1 => ws (handleN c ds δ1 h1 l) E)) : ws (sTryN u l δ h) E := by
  unfold sTryN
  cases e : u δ h <;> rw [e] at z <;> exact z
instance i_s_tryN {u : FnS} {l : List Cn} : Gs (ws (sTryN u l δ h) E) (ws (u δ h) (E.tr fun c ds δ1 h1 => ws (handleN c ds δ1 h1 l) E)) := ⟨s_tryN⟩
variable {X : Nat → List D → Hh → Prop} {Q : D → Hh → Prop}
end
theorem eqvSame {d : D} (f : flat 60 d = true) : eqv d d = true := by
  unfold eqv
  exact PySem.SeqAt.eqv_refl_plain _ (flat_pd d 60 f).1
theorem eqSame {d : D} {h : Hh} (e : deref h d = d) (f : flat 60 d = true) : eqD d d h = .ok (.bl true) h := by
  unfold eqD
  rw [e, if_pos ⟨f, f⟩, eqvSame f]
end
section
abbrev ck : D := .str [99, 101, 108, 108, 115]
abbrev lk : D := .str [108, 101, 102, 116]
abbrev ak : D := .str [97, 116]
structure Src (o m : Nat) (h : Hh) (b : Nat) (cells left : List Int) (t : Int) : Prop where
  c : h[o]? = some (.lst (cells.map .int))
  d : h[m]? = some (.dic [ck, lk, ak] [.ref o, .ref b, .int t])
  l : h[b]? = some (.lst (left.map .int))
  b0 : b ≠ o
  b2 : b ≠ m
  om : o ≠ m
  pos : ∀ x ∈ left, 0 ≤ x
  t0 : 0 ≤ t
  t1 : t < 1073741824
theorem geti {xs : List Int} {x : Int} {r : List Int} (e : xs = x :: r) : (xs.map D.int)[(0 : Int).toNat]? = some (.int x) := by
  subst e; rfl
theorem Src.left_ (s : Src o m h b cells left t) : ixA (.ref m) lk h = .ok (.ref b) h := by
  rw [ixDic s.d rfl]; rfl
theorem Src.at_ (s : Src o m h b cells left t) : ixA (.ref m) ak h = .ok (.int t) h := by
  rw [ixDic s.d rfl]; rfl
theorem Src.cells_ (s : Src o m h b cells left t) : ixA (.ref m) ck h = .ok (.ref o) h := by
  rw [ixDic s.d rfl]; rfl
structure Fr (m : Nat) (h : Hh) (b : Nat) (h' : Hh) (b' : Nat) : Prop where
  len : h.length ≤ h'.length
  bb : b' = b ∨ h.length ≤ b'
  old : ∀ j, j < h.length → j ≠ m → j ≠ b → h'[j]? = h[j]?
theorem Fr.refl (m : Nat) (h : Hh) (b : Nat) : Fr m h b h b := ⟨Nat.le_refl _, .inl rfl, fun _ _ _ _ => rfl⟩
theorem Fr.trans {h h1 h2 : Hh} {b b1 b2 : Nat} (x : Fr m h b h1 b1) (y : Fr m h1 b1 h2 b2) : Fr m h b h2 b2 := by
  refine ⟨Nat.le_trans x.len y.len, ?_, fun j hj h2 hb => ?_⟩
  · rcases y.bb with e | e
    · rw [e]; exact x.bb
    · exact .inr (Nat.le_trans x.len e)
  · have hb1 : j ≠ b1 := by
      rcases x.bb with e | e
      · rw [e]; exact hb
      · omega
    rw [y.old j (Nat.lt_of_lt_of_le hj x.len) h2 hb1]
    exact x.old j hj h2 hb
def tW : FnT := (tAnd3 (eTest (eBin neD (eBin ixA (eVar 0) (eC (.str [108, 101, 102, 116]))) (eLst aNil))) (eTest (eBin eqD (eBin ixA (eBin ixA (eVar 0) (eC (.str [108, 101, 102, 116]))) (eC (.int 0))) (eC (.int 0)))))
def uW : FnS := (sIxS (eVar 0) (eC (.str [108, 101, 102, 116])) (eSliceM (eBin ixA (eVar 0) (eC (.str [108, 101, 102, 116]))) (oSome (eC (.int 1))) oNone))
theorem tW_ok (s : Src o m h b cells left t) (x : Option D) (r : De) : tW (some (.ref m) :: r) h = .ok (match left with | [] => false | y :: _ => decide (y = 0)) h := by
  cases left with
  | nil => simp [tW, tAnd3, eTest, eBin, eVar, eC, eLst, aNil, R.bind, s.left_, lineOk, neNil s.l]
  | cons y ys =>
    have i0 : ixA (.ref b) (.int 0) h = .ok (.int y) h := ixRefAt s.l (by omega) (geti rfl)
    simp [tW, tAnd3, eTest, eBin, eVar, eC, eLst, aNil, R.bind, s.left_, lineOk, neNil s.l, i0, eqI]
theorem cutTail (ds : List D) (d : D) : cutL (d :: ds) (some 1) none = ds := by
  have e : HT.sIx (d :: ds).length 0 (some 1) = 1 := by
    show HT.sIx (d :: ds).length 0 (some ((1 : Nat) : Int)) = 1
    rw [HT.sIx_nat]; simp
  have e2 : HT.sIx (d :: ds).length (d :: ds).length none = ds.length + 1 := rfl
  unfold cutL
  rw [e, e2]
  simp
theorem Src.lt (s : Src o m h b cells left t) : b < h.length := (List.getElem?_eq_some_iff.mp s.l).1
theorem Src.lt0 (s : Src o m h b cells left t) : o < h.length := (List.getElem?_eq_some_iff.mp s.c).1
theorem Src.lt2 (s : Src o m h b cells left t) : m < h.length := (List.getElem?_eq_some_iff.mp s.d).1
theorem Src.relist (s : Src o m h b cells left t) (ys : List Int) (hp : ∀ x ∈ ys, 0 ≤ x) : Src o m ((h ++ [O.lst (ys.map D.int)]).set m (O.dic [ck, lk, ak] [.ref o, .ref h.length, .int t])) h.length cells ys t ∧
    Fr m h b ((h ++ [O.lst (ys.map D.int)]).set m (O.dic [ck, lk, ak] [.ref o, .ref h.length, .int t])) h.length := by
  have h2 := s.lt2
  have h0 := s.lt0
  have om := s.om
  refine ⟨⟨?_, ?_, ?_, Nat.ne_of_gt s.lt0, Nat.ne_of_gt s.lt2, s.om, hp, s.t0, s.t1⟩, ⟨by simp, .inr (Nat.le_refl _), fun j hj j2 jb => ?_⟩⟩
  · rw [List.getElem?_set_ne (by omega), List.getElem?_append_left (by omega)]; exact s.c
  · rw [List.getElem?_set_self (by simp; omega)]
  · rw [List.getElem?_set_ne (by omega)]; simp
  · rw [List.getElem?_set_ne (by omega), List.getElem?_append_left hj]
theorem wloop : ∀ (left : List Int) (h : Hh) (b : Nat) (cells : List Int) (t : Int) (r : De), Src o m h b cells left t → ∃ h' b' left' n, n ≤ left.length + 1 ∧ left'.length ≤ left.length ∧ whileN tW uW n (some (.ref m) :: r) h = .nx (some (.ref m) :: r) h' ∧ Src o m h' b' cells left' t ∧ Fr m h b h' b' ∧ (left' = [] ∨ ∃ y ys, left' = y :: ys ∧ 0 < y)
  | [], h, b, cells, t, r, s => ⟨h, b, [], 1, by simp, by simp, by simp [whileN, tW_ok s none, R.toS], s, Fr.refl m h b, .inl rfl⟩
  | y :: ys, h, b, cells, t, r, s => by
    by_cases hy : y = 0
    · subst hy
      obtain ⟨s1, f1⟩ := s.relist ys fun x hx => s.pos x (List.mem_cons_of_mem _ hx)
      obtain ⟨h', b', left', n, hn, hl, e, s', f', k⟩ := wloop ys _ _ cells t r s1
      refine ⟨h', b', left', n + 1, by simpa using hn, by simp; omega, ?_, s', f1.trans f', k⟩
      have el : asL h (.ref b) = some (((0 : Int) :: ys).map .int) := by unfold asL; dsimp only; rw [s.l]
      have eu : uW (some (.ref m) :: r) h = .nx (some (.ref m) :: r) ((h ++ [O.lst (ys.map D.int)]).set m (O.dic [ck, lk, ak] [.ref o, .ref h.length, .int t])) := by
        have hd : (h ++ [O.lst (ys.map D.int)])[m]? = some (O.dic [ck, lk, ak] [.ref o, .ref b, .int t]) := by rw [List.getElem?_append_left s.lt2]; exact s.d
        have so := setDic (i := lk) (y := .ref h.length) hd rfl (by simp)
        have e1 : putKs [ck, lk, ak] lk = [ck, lk, ak] := rfl
        have e2 : putVs [ck, lk, ak] [.ref o, .ref b, .int t] lk (.ref h.length) = [.ref o, .ref h.length, .int t] := rfl
        rw [e1, e2] at so
        simp [uW, sIxS, eSliceM, eBin, eVar, eC, R.toS, R.bind, s.left_, oSome, oNone, sliceM, el, cutTail, kSet, so]
      unfold whileN
      simp only [tW_ok s none, R.toS, decide_true, if_true, eu]
      exact e
    · refine ⟨h, b, y :: ys, 1, by simp, by simp, by simp [whileN, tW_ok s none, R.toS, hy], s, Fr.refl m h b, .inr ⟨y, ys, rfl, ?_⟩⟩
      have := s.pos y (by simp)
      omega
def restN : FnS := (sSeq (sIf (eTest (eBin neD (eBin ixA (eVar 0) (eC (.str [108, 101, 102, 116]))) (eLst aNil))) (sSeq (sSet 2 (eB intB (aCons (eBin ixA (eBin ixA (eVar 0) (eC (.str [108, 101, 102, 116]))) (eC (.int 0))) aNil))) (sSeq (sIxS (eBin ixA (eVar 0) (eC (.str [108, 101, 102, 116]))) (eC (.int 0)) (eBin divD (eVar 2) (eVar 1))) (sRet (eBin modD (eVar 2) (eVar 1))))) sNil) (sSeq (sSet 3 (eBin addD (eBin ixA (eVar 0) (eC (.str [97, 116]))) (eC (.int 1)))) (sSeq (sIxS (eVar 0) (eC (.str [97, 116])) (eVar 3)) (sSeq (sSet 4 (eIf (eTest (eBin neD (eBin ixA (eVar 0) (eC (.str [99, 101, 108, 108, 115]))) (eLst aNil))) (eBin ixA (eBin ixA (eVar 0) (eC (.str [99, 101, 108, 108, 115]))) (eBin modD (eB intB (aCons (eVar 3) aNil)) (eB lenB (aCons (eBin ixA (eVar 0) (eC (.str [99, 101, 108, 108, 115]))) aNil)))) (eC (.int 5)))) (sSeq (sSet 5 (eBin mulD (eB intB (aCons (eBin addD (eBin addD (eBin modD (eB intB (aCons (eVar 4) aNil)) (eC (.int 2147483629))) (eBin mulD (eC (.int 7919)) (eVar 3))) (eBin mulD (eBin mulD (eC (.int 17)) (eVar 3)) (eVar 3))) aNil)) (eC (.int 48271)))) (sSeq (sSet 5 (eBin mulD (eB intB (aCons (eBin addD (eBin modD (eB intB (aCons (eVar 5) aNil)) (eC (.int 2147483647))) (eBin mulD (eC (.int 104729)) (eVar 3))) aNil)) (eC (.int 69621)))) (sRet (eBin modD (eB intB (aCons (eBin divD (eBin modD (eB intB (aCons (eVar 5) aNil)) (eC (.int 2147483587))) (eC (.int 13))) aNil)) (eVar 1)))))))))
theorem next_is : u__law_next = sSeq (whileN tW uW fuel) restN := rfl
def Good (o m : Nat) (h : Hh) (b : Nat) (N : Nat) : Prop := ∃ cells left t, Src o m h b cells left t ∧ left.length ≤ 1000 ∧ t + (N : Int) < 1073741824
theorem next_ok (g : Good o m h b (N + 1)) (k : Int) (k0 : 0 < k) (k1 : k < 1073741824) : ∃ v h' b', f__law_next [.ref m, .int k] h = .ok (.int v) h' ∧ 0 ≤ v ∧ v < k ∧ Good o m h' b' N ∧ Fr m h b h' b' := by
  obtain ⟨cells, left, t, s, hl, ht⟩ := g
  have om := s.om
  obtain ⟨h1, b1, left1, n, hn, hl1, e, s1, f1, fin⟩ := wloop left h b cells t [some (.int k), none, none, none, none] s
  have t1 := s.t0
  have ew : whileN tW uW fuel [some (.ref m), some (.int k), none, none, none, none] h = .nx [some (.ref m), some (.int k), none, none, none, none] h1 := by
    have := whileN_mono (t := tW) (u := uW) n fuel [some (.ref m), some (.int k), none, none, none, none] h (by show n ≤ 4611686018427387904; omega) (by rw [e]; simp)
    rw [this, e]
  have run : f__law_next [.ref m, .int k] h = endD (restN [some (.ref m), some (.int k), none, none, none, none] h1) := by
    unfold f__law_next runD startD
    rw [next_is]
    show endD (sSeq (whileN tW uW fuel) restN [some (.ref m), some (.int k), none, none, none, none] h) = _
    unfold sSeq
    rw [ew]
  rw [run]
  rcases fin with rfl | ⟨y, ys, rfl, hy⟩
  · -- no great numbers left
    have hd := setDic (i := ak) (y := .int (t + 1)) s1.d rfl (by simp)
    have e1 : putKs [ck, lk, ak] ak = [ck, lk, ak] := rfl
    have e2 : putVs [ck, lk, ak] [.ref o, .ref b1, .int t] ak (.int (t + 1)) = [.ref o, .ref b1, .int (t + 1)] := rfl
    rw [e1, e2] at hd
    have h2 := s1.lt2
    have s2 : Src o m (h1.set m (.dic [ck, lk, ak] [.ref o, .ref b1, .int (t + 1)])) b1 cells [] (t + 1) :=
      ⟨by rw [List.getElem?_set_ne (by omega)]; exact s1.c, by rw [List.getElem?_set_self h2], by rw [List.getElem?_set_ne (Ne.symm s1.b2)]; exact s1.l, s1.b0, s1.b2, s1.om, s1.pos, by omega, by omega⟩
    have f2 : Fr m h1 b1 (h1.set m (.dic [ck, lk, ak] [.ref o, .ref b1, .int (t + 1)])) b1 := ⟨by simp, .inl rfl, fun j hj j2 jb => by rw [List.getElem?_set_ne (by omega)]⟩
    have cell : ∃ c : Int, (eIf (eTest (eBin neD (eBin ixA (eVar 0) (eC (.str [99, 101, 108, 108, 115]))) (eLst aNil))) (eBin ixA (eBin ixA (eVar 0) (eC (.str [99, 101, 108, 108, 115]))) (eBin modD (eB intB (aCons (eVar 3) aNil)) (eB lenB (aCons (eBin ixA (eVar 0) (eC (.str [99, 101, 108, 108, 115]))) aNil)))) (eC (.int 5)))
        [some (.ref m), some (.int k), none, some (.int (t + 1)), none, none] (h1.set m (.dic [ck, lk, ak] [.ref o, .ref b1, .int (t + 1)])) = .ok (.int c) (h1.set m (.dic [ck, lk, ak] [.ref o, .ref b1, .int (t + 1)])) := by
      cases cells with
      | nil => exact ⟨5, by simp [eIf, eTest, eBin, eVar, eC, eLst, aNil, R.bind, s2.cells_, lineOk, neNil s2.c]⟩
      | cons c cs =>
        have hp : (0 : Int) < ((List.map D.int (c :: cs)).length : Int) := by simp
        have hm := Int.emod_nonneg (t + 1) (Int.ne_of_gt hp)
        have hm2 := Int.emod_lt_of_pos (t + 1) hp
        have hlt : ((t + 1) % ((List.map D.int (c :: cs)).length : Int)).toNat < (c :: cs).length := by
          simp only [List.length_map] at hm hm2 ⊢
          omega
        refine ⟨(c :: cs)[((t + 1) % ((List.map D.int (c :: cs)).length : Int)).toNat], ?_⟩
        have ga : ixA (.ref o) (.int ((t + 1) % ((List.map D.int (c :: cs)).length : Int))) (h1.set m (.dic [ck, lk, ak] [.ref o, .ref b1, .int (t + 1)])) = .ok (.int ((c :: cs)[((t + 1) % ((List.map D.int (c :: cs)).length : Int)).toNat])) (h1.set m (.dic [ck, lk, ak] [.ref o, .ref b1, .int (t + 1)])) :=
          ixRefAt s2.c hm (by rw [List.getElem?_map, List.getElem?_eq_getElem hlt]; rfl)
        simp only [eIf, eTest, eBin, eVar, eC, eLst, aNil, aCons, eB, R.bind, s2.cells_, lineOk, neNil s2.c, List.isEmpty_cons, Bool.not_false, if_true, List.getElem?_cons_zero, List.getElem?_cons_succ, intB1, lenRef s2.c, modI _ hp, ga, List.length_nil, Nat.zero_le, decide_true]
    obtain ⟨c, hc⟩ := cell
    have hv : ∃ v, endD (restN [some (.ref m), some (.int k), none, none, none, none] h1) = .ok (.int (v % k)) (h1.set m (.dic [ck, lk, ak] [.ref o, .ref b1, .int (t + 1)])) := by
      simp (disch := omega) only [restN, sSeq, sIf, eTest, eBin, eVar, eC, eLst, aNil, aCons, eB, R.bind, R.toS, s1.left_, s1.at_, lineOk, neNil s1.l, List.isEmpty_nil, Bool.not_true, if_false, Bool.false_eq_true, List.getElem?_cons_zero, List.getElem?_cons_succ, sNil, sSet, addI, List.set_cons_zero, List.set_cons_succ, sIxS, kSet, hd, hc, intB1, modI, mulL, mulR, divI, sRet, endD, List.length_nil, Nat.zero_le, decide_true, if_true]
      exact ⟨_, rfl⟩
    obtain ⟨v, hv⟩ := hv
    exact ⟨_, _, b1, hv, Int.emod_nonneg _ (by omega), Int.emod_lt_of_pos _ k0, ⟨cells, [], t + 1, s2, by simp, by push_cast at ht; omega⟩, f1.trans f2⟩
  · -- the first of the great numbers is used up
    have i0 : ixA (.ref b1) (.int 0) h1 = .ok (.int y) h1 := ixRefAt s1.l (by omega) (geti rfl)
    have so := setRef (i := 0) (y := .int (y / k)) s1.l (by omega) (by simp)
    have es : (((y :: ys).map D.int).set (0 : Int).toNat (.int (y / k))) = ((y / k) :: ys).map D.int := rfl
    rw [es] at so
    have bl := s1.lt
    have s2 : Src o m (h1.set b1 (.lst (((y / k) :: ys).map D.int))) b1 cells ((y / k) :: ys) t :=
      ⟨by rw [List.getElem?_set_ne s1.b0]; exact s1.c, by rw [List.getElem?_set_ne s1.b2]; exact s1.d, by rw [List.getElem?_set_self bl], s1.b0, s1.b2, s1.om, fun x hx => by
        rcases List.mem_cons.mp hx with rfl | hx
        · exact Int.ediv_nonneg (by omega) (by omega)
        · exact s1.pos x (List.mem_cons_of_mem _ hx), s1.t0, s1.t1⟩
    have f2 : Fr m h1 b1 (h1.set b1 (.lst (((y / k) :: ys).map D.int))) b1 := ⟨by simp, .inl rfl, fun j hj j2 jb => by rw [List.getElem?_set_ne (Ne.symm jb)]⟩
    have hv : endD (restN [some (.ref m), some (.int k), none, none, none, none] h1) = .ok (.int (y % k)) (h1.set b1 (.lst (((y / k) :: ys).map D.int))) := by
      simp (disch := omega) only [restN, sSeq, sIf, eTest, eBin, eVar, eC, eLst, aNil, aCons, eB, R.bind, R.toS, s1.left_, lineOk, neNil s1.l, List.isEmpty_cons, Bool.not_false, List.getElem?_cons_zero, List.getElem?_cons_succ, sSet, List.set_cons_zero, List.set_cons_succ, sIxS, kSet, i0, so, intB1, modI, divI, sRet, endD, List.length_nil, Nat.zero_le, decide_true, if_true]
    exact ⟨_, _, b1, hv, Int.emod_nonneg _ (by omega), Int.emod_lt_of_pos _ k0, ⟨cells, _, t, s2, by simp at hl1 ⊢; omega, by push_cast at ht; omega⟩, f1.trans f2⟩
theorem Good.app {h : Hh} {b N : Nat} (g : Good o m h b N) (t : Hh) : Good o m (h ++ t) b N := by
  obtain ⟨cells, left, tt, s, h1, h2⟩ := g
  have l2 := s.lt2
  have l0 := s.lt0
  have lb := s.lt
  exact ⟨cells, left, tt, ⟨by rw [List.getElem?_append_left (by omega)]; exact s.c, by rw [List.getElem?_append_left (by omega)]; exact s.d, by rw [List.getElem?_append_left (by omega)]; exact s.l, s.b0, s.b2, s.om, s.pos, s.t0, s.t1⟩, h1, h2⟩
theorem Good.weak {h : Hh} {b N M : Nat} (g : Good o m h b N) (hm : M ≤ N) : Good o m h b M := by
  obtain ⟨cells, left, t, s, h1, h2⟩ := g
  exact ⟨cells, left, t, s, h1, by omega⟩
def betw (lo x hi : Int) : Bool := decide (lo ≤ x) && decide (x ≤ hi)
mutual
def plD : D → Bool
  | .ref _ => false
  | .obj _ _ => false
  | .tup ds => plDs ds
  | .lst ds => plDs ds
  | _ => true
def plDs : List D → Bool
  | [] => true
  | d :: ds => plD d && plDs ds
end
def wholeB (d : D) (lo hi : Int) : Bool := match d with
  | .int v => betw lo v hi
  | _ => false
theorem whole_ok {d : D} (p : plD d = true) (lo hi : Int) (h : Hh) : f_is_whole_in [d, .int lo, .int hi] h = .ok (.bl (wholeB d lo hi)) h := by
  cases d with
  | int x => by_cases h1 : lo ≤ x <;> simp (disch := omega) [f_is_whole_in, u_is_whole_in_1, u_is_whole_in, wholeB, betw, h1, runD, startD, endRt, endNx, endExc, seqE, seqNx, seqRt, seqExc, sNil, sPass, sIf, sRet, sRetN, sExpr, sSet, sAsg, sPar, kPar, setAll, sIxS, kSet, L3.sFld, eVar, eC, eBin, eTest, eChain, eUn, tAnd3, tOr3, tNot3, eAnd, eOr, eNot, eIf, aNil, aCons, eTup, eLst, eLstM, eCall, kCall, eMeth, kMeth, clsObj, eB, one, eFld, fldD, fieldAt, L3.putAt, eProp, kProp, noX, eMake, eLc, kLst, iSeq, L3.iZip, kZip, zipL, immS, iRg1, lcNil, lcCons, lcAS, lcBT, lcBF, lcCO, loNil, loCons, loAS, loNx, loCt, loBk, loRt, L3.sFor, sForW, eLcW, wSeq, wZip, kZipW, loopW, lcW, optS, wipeD, gSet, gTupD, gsNil, gsCons, tYes3, eIsi, isiD, kdOf, isK, allB, anyB, sumB, L3.listOf, blsOf, intsOf, asL, bindOk, bindExc, bindStk, toSOk, toSExc, lineOk, addI, subI, negI, mulL, mulR, divI, modI, ltI, leI, gtI, geI, eqI, neI, intB1, intB2, lenTup, lenLst, lenScr, tup0, tup1, tup2, tup3, tup4, tup5, lst0, lst1, lst2, lst3, List.getElem?_cons_zero, List.getElem?_cons_succ, List.getElem?_nil, List.set_cons_zero, List.set_cons_succ, List.length_cons, List.length_nil, List.map_cons, List.map_nil, List.replicate_succ, List.replicate_zero, List.cons_append, List.nil_append, List.append_nil, if_true, if_false, ite_true, ite_false, Bool.false_eq_true, Bool.not_true, Bool.not_false, Bool.true_and, Bool.and_true, Bool.false_and, Bool.and_false, Bool.or_true, Bool.true_or, Bool.false_or, Bool.or_false, and_self, and_true, true_and, Nat.sub_zero, Nat.sub_self, Nat.reduceSub, Nat.reduceAdd, Nat.reduceLeDiff, Nat.reduceEqDiff, decide_true, decide_false, Nat.zero_le]
  | ref n => simp [plD] at p
  | obj c ds => simp [plD] at p
  | _ => simp [f_is_whole_in, u_is_whole_in_1, u_is_whole_in, wholeB, runD, startD, endRt, endNx, endExc, seqE, seqNx, seqRt, seqExc, sNil, sPass, sIf, sRet, sRetN, sExpr, sSet, sAsg, sPar, kPar, setAll, sIxS, kSet, L3.sFld, eVar, eC, eBin, eTest, eChain, eUn, tAnd3, tOr3, tNot3, eAnd, eOr, eNot, eIf, aNil, aCons, eTup, eLst, eLstM, eCall, kCall, eMeth, kMeth, clsObj, eB, one, eFld, fldD, fieldAt, L3.putAt, eProp, kProp, noX, eMake, eLc, kLst, iSeq, L3.iZip, kZip, zipL, immS, iRg1, lcNil, lcCons, lcAS, lcBT, lcBF, lcCO, loNil, loCons, loAS, loNx, loCt, loBk, loRt, L3.sFor, sForW, eLcW, wSeq, wZip, kZipW, loopW, lcW, optS, wipeD, gSet, gTupD, gsNil, gsCons, tYes3, eIsi, isiD, kdOf, isK, allB, anyB, sumB, L3.listOf, blsOf, intsOf, asL, bindOk, bindExc, bindStk, toSOk, toSExc, lineOk, addI, subI, negI, mulL, mulR, divI, modI, ltI, leI, gtI, geI, eqI, neI, intB1, intB2, lenTup, lenLst, lenScr, tup0, tup1, tup2, tup3, tup4, tup5, lst0, lst1, lst2, lst3, List.getElem?_cons_zero, List.getElem?_cons_succ, List.getElem?_nil, List.set_cons_zero, List.set_cons_succ, List.length_cons, List.length_nil, List.map_cons, List.map_nil, List.replicate_succ, List.replicate_zero, List.cons_append, List.nil_append, List.append_nil, if_true, if_false, ite_true, ite_false, Bool.false_eq_true, Bool.not_true, Bool.not_false, Bool.true_and, Bool.and_true, Bool.false_and, Bool.and_false, Bool.or_true, Bool.true_or, Bool.false_or, Bool.or_false, and_self, and_true, true_and, Nat.sub_zero, Nat.sub_self, Nat.reduceSub, Nat.reduceAdd, Nat.reduceLeDiff, Nat.reduceEqDiff, decide_true, decide_false, Nat.zero_le]
theorem lsmall {n : Nat} (h : n ≤ 1000) : lineOk n = true := by unfold lineOk; simp; omega
end
section
def lane {α : Type} (f : Int → α) (k : Int) : Nat → List α
  | 0 => []
  | n + 1 => f k :: lane f (k + 1) n
def pl (ij : Int × Int) : D := .tup [.int ij.1, .int ij.2]
theorem ri_cons (i : Int) (n : Nat) : rgD i (n + 1) = .int i :: rgD (i + 1) n := by
  unfold rgD
  rw [List.range_succ_eq_map, List.map_cons, List.map_map]
  congr 1
  · simp
  · refine List.map_congr_left fun j _ => ?_
    show D.int (i + ((j + 1 : Nat) : Int)) = D.int (i + 1 + (j : Int))
    congr 1; omega
abbrev cvC : Nat := 0
def laneN {α : Type} (f : Nat → α) (k : Nat) : Nat → List α
  | 0 => []
  | n + 1 => f k :: laneN f (k + 1) n
theorem laneN_get {α : Type} (f : Nat → α) : ∀ (n k i : Nat), (laneN f k n)[i]? = if i < n then some (f (k + i)) else none
  | 0, _, i => by rw [if_neg (by omega)]; rfl
  | n + 1, k, 0 => by rw [if_pos (by omega)]; rfl
  | n + 1, k, i + 1 => by
    rw [laneN, List.getElem?_cons_succ, laneN_get f n (k + 1) i]
    by_cases h : i < n
    · rw [if_pos h, if_pos (by omega), show k + 1 + i = k + (i + 1) by omega]
    · rw [if_neg h, if_neg (by omega)]
theorem laneN_len {α : Type} (f : Nat → α) : ∀ (n k : Nat), (laneN f k n).length = n
  | 0, _ => rfl
  | n + 1, k => by rw [laneN, List.length_cons, laneN_len f n]
theorem rgD_lane : ∀ (n : Nat) (k : Int), rgD k n = lane D.int k n
  | 0, _ => rfl
  | n + 1, k => by rw [ri_cons, lane, rgD_lane n]
theorem rg1_okA {x : Int} {h : Hh} (h1 : -1000000 ≤ x) (h2 : x ≤ 1000000) : (match D.int x with
  | .int j => if -(2 ^ 62) ≤ j ∧ j < 2 ^ 62 then R.ok (rgD 0 j.toNat) h else .stk
  | _ => .stk) = .ok (rgD 0 x.toNat) h := by
  show (if -(2 ^ 62) ≤ x ∧ x < 2 ^ 62 then R.ok (rgD 0 x.toNat) h else .stk) = _
  rw [if_pos ⟨by omega, by omega⟩]
theorem rg1_okB {f : FnE} {δ : De} {h : Hh} {x : Int} (e : f δ h = .ok (.int x) h) (h1 : -1000000 ≤ x) (h2 : x ≤ 1000000) : iRg1 f δ h = .ok (rgD 0 x.toNat) h := by
  unfold iRg1
  rw [e]
  exact rg1_okA h1 h2
theorem rg1_ok {f : FnE} {δ : De} {h : Hh} {n : Nat} (e : f δ h = .ok (.int (n : Int)) h) (hn : n ≤ 100000) : iRg1 f δ h = .ok (lane D.int 0 n) h := by
  rw [rg1_okB e (by omega) (by omega), rgD_lane, Int.toNat_natCast]
theorem make_of {c na np : Nat} {sem : Sem3} {ds : List D} {h h2 : Hh} {es : List D} (hn : ds.length + 1 = np) (e : sem (.ref h.length :: ds) (h ++ [.obj c []]) = .ok .non h2) (g : h2[h.length]? = some (.obj c es)) (hl : es.length = na) : kMake c na np sem [] ds h = .ok (.obj c es) (h2.set h.length .dead) := by
  unfold kMake
  rw [List.append_nil, if_pos (by rw [List.length_cons]; exact hn), e]
  unfold endMake
  dsimp only
  rw [g]
  dsimp only
  rw [if_pos ⟨rfl, hl⟩]
def ac (w : Int) : Int := (w + 4 - 1) / 4
def nm (w : Int) (s : Int × Int) : Int := s.2 / 4 * ac w + s.1 / 4
def ptsL (w : Nat) (k : Int) : Nat → List (Int × Int)
  | 0 => []
  | n + 1 => lane (fun i => (i, k)) 0 w ++ ptsL w (k + 1) n
theorem across14 (w : Int) (h : Hh) : f_number_across [.int w] h = .ok (.int (ac w)) h := by
  simp (disch := omega) [f_number_across, u_number_across_1, u_number_across, c_TILE, ac, runD, startD, endRt, endNx, endExc, seqE, seqNx, seqRt, seqExc, sNil, sPass, sIf, sRet, sRetN, sExpr, sSet, sAsg, sPar, kPar, setAll, sIxS, kSet, L3.sFld, eVar, eC, eBin, eTest, eChain, eUn, tAnd3, tOr3, tNot3, eAnd, eOr, eNot, eIf, aNil, aCons, eTup, eLst, eLstM, eCall, kCall, eMeth, kMeth, clsObj, eB, one, eFld, fldD, fieldAt, L3.putAt, eProp, kProp, noX, eMake, eLc, kLst, iSeq, L3.iZip, kZip, zipL, immS, iRg1, lcNil, lcCons, lcAS, lcBT, lcBF, lcCO, loNil, loCons, loAS, loNx, loCt, loBk, loRt, L3.sFor, sForW, eLcW, wSeq, wZip, kZipW, loopW, lcW, optS, wipeD, gSet, gTupD, gsNil, gsCons, tYes3, eIsi, isiD, kdOf, isK, allB, anyB, sumB, L3.listOf, blsOf, intsOf, asL, bindOk, bindExc, bindStk, toSOk, toSExc, lineOk, addI, subI, negI, mulL, mulR, divI, modI, ltI, leI, gtI, geI, eqI, neI, intB1, intB2, lenTup, lenLst, lenScr, tup0, tup1, tup2, tup3, tup4, tup5, lst0, lst1, lst2, lst3, List.getElem?_cons_zero, List.getElem?_cons_succ, List.getElem?_nil, List.set_cons_zero, List.set_cons_succ, List.length_cons, List.length_nil, List.map_cons, List.map_nil, List.replicate_succ, List.replicate_zero, List.cons_append, List.nil_append, List.append_nil, if_true, if_false, ite_true, ite_false, Bool.false_eq_true, Bool.not_true, Bool.not_false, Bool.true_and, Bool.and_true, Bool.false_and, Bool.and_false, Bool.or_true, Bool.true_or, Bool.false_or, Bool.or_false, and_self, and_true, true_and, Nat.sub_zero, Nat.sub_self, Nat.reduceSub, Nat.reduceAdd, Nat.reduceLeDiff, Nat.reduceEqDiff, decide_true, decide_false, Nat.zero_le]
theorem at14 {w : Int} {s : Int × Int} (hs : -1000 ≤ s.2 ∧ s.2 ≤ 1000) (h : Hh) : f_number_at [.int w, pl s] h = .ok (.int (nm w s)) h := by
  have b : -1000 ≤ s.2 / 4 ∧ s.2 / 4 ≤ 1000 := by omega
  have d1 : divD (.int s.2) (.int 4) h = .ok (.int (s.2 / 4)) h := divI h (by omega) (by omega)
  have d2 : divD (.int s.1) (.int 4) h = .ok (.int (s.1 / 4)) h := divI h (by omega) (by omega)
  have m : mulD (.int (s.2 / 4)) (.int (ac w)) h = .ok (.int (s.2 / 4 * ac w)) h := mulL h (by omega) (by omega)
  simp only [f_number_at, u_number_at_1, u_number_at, pl, c_TILE, nm, d1, d2, m, across14, Nat.reduceAdd, Nat.reduceEqDiff, runD, startD, endRt, endNx, endExc, seqE, seqNx, seqRt, seqExc, sNil, sPass, sIf, sRet, sRetN, sExpr, sSet, sAsg, sPar, kPar, setAll, sIxS, kSet, L3.sFld, eVar, eC, eBin, eTest, eChain, eUn, tAnd3, tOr3, tNot3, eAnd, eOr, eNot, eIf, aNil, aCons, eTup, eLst, eLstM, eCall, kCall, eMeth, kMeth, clsObj, eB, one, eFld, fldD, fieldAt, L3.putAt, eProp, kProp, noX, eMake, eLc, kLst, iSeq, L3.iZip, kZip, zipL, immS, iRg1, lcNil, lcCons, lcAS, lcBT, lcBF, lcCO, loNil, loCons, loAS, loNx, loCt, loBk, loRt, L3.sFor, sForW, eLcW, wSeq, wZip, kZipW, loopW, lcW, optS, wipeD, gSet, gTupD, gsNil, gsCons, tYes3, eIsi, isiD, kdOf, isK, allB, anyB, sumB, L3.listOf, blsOf, intsOf, asL, bindOk, bindExc, bindStk, toSOk, toSExc, lineOk, addI, subI, negI, mulL, mulR, divI, modI, ltI, leI, gtI, geI, eqI, neI, intB1, intB2, lenTup, lenLst, lenScr, tup0, tup1, tup2, tup3, tup4, tup5, lst0, lst1, lst2, lst3, List.getElem?_cons_zero, List.getElem?_cons_succ, List.getElem?_nil, List.set_cons_zero, List.set_cons_succ, List.length_cons, List.length_nil, List.map_cons, List.map_nil, List.replicate_succ, List.replicate_zero, List.cons_append, List.nil_append, List.append_nil, if_true, if_false, ite_true, ite_false, Bool.false_eq_true, Bool.not_true, Bool.not_false, Bool.true_and, Bool.and_true, Bool.false_and, Bool.and_false, Bool.or_true, Bool.true_or, Bool.false_or, Bool.or_false, and_self, and_true, true_and, Nat.sub_zero, Nat.sub_self, Nat.reduceSub, Nat.reduceAdd, Nat.reduceLeDiff, Nat.reduceEqDiff, decide_true, decide_false, Nat.zero_le]
theorem lc_in (h : Hh) (w : Nat) (d0 d1 d2 d3 d4 : Option D) (j : Int) : ∀ (n : Nat) (k : Int), lcs (gSet 6) tYes3 (eTup (aCons (eVar 6) (aCons (eVar 5) aNil))) [d0, d1, d2, d3, d4, some (.int j), none, none, none] (lane D.int k n) h = .ok ((lane (fun i => (i, j)) k n).map pl) h
  | 0, _ => rfl
  | n + 1, k => by
    have ih := lc_in h w d0 d1 d2 d3 d4 j n (k + 1)
    rw [lane, lane, lcCons, List.map_cons]
    simp only [ih, pl, runD, startD, endRt, endNx, endExc, seqE, seqNx, seqRt, seqExc, sNil, sPass, sIf, sRet, sRetN, sExpr, sSet, sAsg, sPar, kPar, setAll, sIxS, kSet, L3.sFld, eVar, eC, eBin, eTest, eChain, eUn, tAnd3, tOr3, tNot3, eAnd, eOr, eNot, eIf, aNil, aCons, eTup, eLst, eLstM, eCall, kCall, eMeth, kMeth, clsObj, eB, one, eFld, fldD, fieldAt, L3.putAt, eProp, kProp, noX, eMake, eLc, kLst, iSeq, L3.iZip, kZip, zipL, immS, iRg1, lcNil, lcCons, lcAS, lcBT, lcBF, lcCO, loNil, loCons, loAS, loNx, loCt, loBk, loRt, L3.sFor, sForW, eLcW, wSeq, wZip, kZipW, loopW, lcW, optS, wipeD, gSet, gTupD, gsNil, gsCons, tYes3, eIsi, isiD, kdOf, isK, allB, anyB, sumB, L3.listOf, blsOf, intsOf, asL, bindOk, bindExc, bindStk, toSOk, toSExc, lineOk, addI, subI, negI, mulL, mulR, divI, modI, ltI, leI, gtI, geI, eqI, neI, intB1, intB2, lenTup, lenLst, lenScr, tup0, tup1, tup2, tup3, tup4, tup5, lst0, lst1, lst2, lst3, List.getElem?_cons_zero, List.getElem?_cons_succ, List.getElem?_nil, List.set_cons_zero, List.set_cons_succ, List.length_cons, List.length_nil, List.map_cons, List.map_nil, List.replicate_succ, List.replicate_zero, List.cons_append, List.nil_append, List.append_nil, if_true, if_false, ite_true, ite_false, Bool.false_eq_true, Bool.not_true, Bool.not_false, Bool.true_and, Bool.and_true, Bool.false_and, Bool.and_false, Bool.or_true, Bool.true_or, Bool.false_or, Bool.or_false, and_self, and_true, true_and, Nat.sub_zero, Nat.sub_self, Nat.reduceSub, Nat.reduceAdd, Nat.reduceLeDiff, Nat.reduceEqDiff, decide_true, decide_false, Nat.zero_le]
theorem lc2_step {h : Hh} {g g1 : FnG} {f1 : FnI} {e : FnE} {d : D} {ds : List D} {δ δ1 δ2 : De} {items ys zs : List D} (gs : g d δ = some δ1) (ir : f1 δ1 h = .ok items h) (wd : wipeD δ1 [6] = δ2) (inn : lcs g1 tYes3 e δ2 items h = .ok zs h) (ih : lcs2 g f1 g1 e [6] δ ds h = .ok ys h) : lcs2 g f1 g1 e [6] δ (d :: ds) h = .ok (zs ++ ys) h := by
  rw [lcs2, gs]
  dsimp only
  rw [ir]
  dsimp only
  rw [wd, inn]
  dsimp only
  rw [ih]
  rfl
theorem ir14 (h : Hh) (w : Nat) (hw : w ≤ 100) (d0 d2 d3 d4 : Option D) (k : Int) : iRg1 (eVar 1) [d0, some (.int w), d2, d3, d4, some (.int k), none, none, none] h = .ok (lane D.int 0 w) h := by
  have ev : eVar 1 [d0, some (.int w), d2, d3, d4, some (.int k), none, none, none] h = .ok (.int w) h := rfl
  exact rg1_ok ev (by omega)
theorem lc_out (h : Hh) (w : Nat) (hw : w ≤ 100) (d0 d2 d3 d4 : Option D) (n : Nat) : ∀ (k : Int), lcs2 (gSet 5) (iRg1 (eVar 1)) (gSet 6) (eTup (aCons (eVar 6) (aCons (eVar 5) aNil))) [6] [d0, some (.int w), d2, d3, d4, none, none, none, none] (lane D.int k n) h = .ok ((ptsL w k n).map pl) h := by
  induction n with
  | zero => intro k; rfl
  | succ n ih =>
    intro k
    have s := lc2_step (g := gSet 5) (d := .int k) (δ := [d0, some (.int w), d2, d3, d4, none, none, none, none]) rfl (ir14 h w hw d0 d2 d3 d4 k) rfl (lc_in h w d0 (some (.int w)) d2 d3 d4 k w 0) (ih (k + 1))
    rw [ptsL, List.map_append]
    exact s
theorem lc_new : ∀ (n : Nat) (k : Int) (h : Hh) (d0 d1 d2 d3 d4 d5 d6 : Option D), lcs (gSet 7) tYes3 (eLstM aNil) [d0, d1, d2, d3, d4, d5, d6, none, none] (lane D.int k n) h = .ok (laneN D.ref h.length n) (h ++ List.replicate n (.lst []))
  | 0, _, h, _, _, _, _, _, _, _ => by rw [List.replicate_zero, List.append_nil]; rfl
  | n + 1, k, h, d0, d1, d2, d3, d4, d5, d6 => by
    have ih := lc_new n (k + 1) (h ++ [.lst []]) d0 d1 d2 d3 d4 d5 d6
    rw [List.length_append, List.length_singleton, List.append_assoc] at ih
    rw [lane, lcCons]
    have e : ∀ δ, eLstM aNil δ h = .ok (.ref h.length) (h ++ [.lst []]) := fun _ => rfl
    simp only [gSet, lcAS, tYes3, lcBT, e, lcCO, List.set_cons_succ, List.set_cons_zero] at ih ⊢
    rw [ih]
    rfl
def rowL (w : Int) (done : List (Int × Int)) (m : Nat) : List D := (done.filter fun s => decide (nm w s = (m : Int))).map pl
def rowsO (T : Nat) (w : Int) (done : List (Int × Int)) : Hh := laneN (fun m => O.lst (rowL w done m)) 0 T
theorem rows0 (w : Int) : ∀ (n k : Nat), laneN (fun m => O.lst (rowL w [] m)) k n = List.replicate n (.lst [])
  | 0, _ => rfl
  | n + 1, k => by rw [laneN, rows0 w n, List.replicate_succ]; rfl
theorem rows_set {T : Nat} {w : Int} {done : List (Int × Int)} {s : Int × Int} {m : Nat} (hm : m < T) (e : nm w s = (m : Int)) : (rowsO T w done).set m (.lst (rowL w done m ++ [pl s])) = rowsO T w (done ++ [s]) := by
  refine List.ext_getElem? fun j => ?_
  unfold rowsO
  rw [laneN_get, List.getElem?_set, laneN_get, laneN_len]
  have f : ∀ j : Nat, rowL w (done ++ [s]) j = if j = m then rowL w done j ++ [pl s] else rowL w done j := fun j => by
    unfold rowL
    rw [List.filter_append, List.map_append]
    by_cases c : j = m
    · subst c; rw [if_pos rfl]; simp [e]
    · rw [if_neg c]
      have : ¬ nm w s = (j : Int) := by omega
      simp [this]
  by_cases c : m = j
  · subst c
    rw [if_pos rfl, if_pos hm, if_pos hm, Nat.zero_add, f, if_pos rfl]
  · rw [if_neg c]
    by_cases cj : j < T
    · rw [if_pos cj, if_pos cj, Nat.zero_add, f, if_neg (Ne.symm c)]
    · rw [if_neg cj, if_neg cj]
theorem lc_tup (h : Hh) (X : Nat → List D) (b : Nat) (d0 d1 d2 d3 d4 d5 d6 d7 : Option D) : ∀ (n k : Nat), (∀ m, m < n → h[b + k + m]? = some (.lst (X (k + m)))) → lcs (gSet 8) tYes3 (eB tupleB (aCons (eVar 8) aNil)) [d0, d1, d2, d3, d4, d5, d6, d7, none] (laneN D.ref (b + k) n) h = .ok (laneN (fun m => D.tup (X m)) k n) h
  | 0, _, _ => rfl
  | n + 1, k, hx => by
    have ih := lc_tup h X b d0 d1 d2 d3 d4 d5 d6 d7 n (k + 1) fun m hm => by
      have := hx (m + 1) (by omega)
      rwa [show b + k + (m + 1) = b + (k + 1) + m by omega, show k + (m + 1) = k + 1 + m by omega] at this
    have h0 := hx 0 (by omega)
    rw [Nat.add_zero, Nat.add_zero] at h0
    have t : tupleD (.ref (b + k)) h = .ok (.tup (X k)) h := by unfold tupleD asL; dsimp only; rw [h0]
    rw [laneN, lcCons]
    simp only [gSet, lcAS, tYes3, lcBT, eB, aCons, aNil, eVar, optS, bindOk, List.set_cons_succ, List.set_cons_zero, List.getElem?_cons_succ, List.getElem?_cons_zero, tupleB, one, t, lcCO] at ih ⊢
    rw [show b + k + 1 = b + (k + 1) by omega, ih]
    rfl
structure Cz (w hh T : Nat) : Prop where
  w1 : 1 ≤ w ∧ w ≤ 16
  h1 : 1 ≤ hh ∧ hh ≤ 12
  t : ac w * ac hh = (T : Int)
  t1 : T ≤ 100
  len : (ptsL w 0 hh).length ≤ 200
  pts : ∀ s ∈ ptsL w 0 hh, (0 ≤ nm w s ∧ nm w s < (T : Int)) ∧ (0 ≤ s.1 ∧ s.1 ≤ 100) ∧ (0 ≤ s.2 ∧ s.2 ≤ 100)
  ne : ∀ m, m < T → (ptsL w 0 hh).filter (fun s => decide (nm w s = (m : Int))) ≠ []
def cnv (w hh T : Nat) : D := .obj cvC [.int w, .int hh, .tup ((ptsL w 0 hh).map pl), .lst (laneN (fun m => D.tup (rowL w (ptsL w 0 hh) m)) 0 T)]
theorem mid_get (h : Hh) (x : O) (r : Hh) : (h ++ [x] ++ r)[h.length]? = some x := by
  rw [List.append_assoc, List.getElem?_append_right (Nat.le_refl _), Nat.sub_self]; rfl
theorem mid_set (h : Hh) (x y : O) (r : Hh) : (h ++ [x] ++ r).set h.length y = h ++ [y] ++ r := by
  rw [List.append_assoc, List.set_append_right _ _ (Nat.le_refl _), Nat.sub_self, List.append_assoc]; rfl
theorem canvas_run (a b c : D) (h : Hh) : f_Canvas___init__ [a, b, c] h = endD (u_Canvas___init__ [some a, some b, some c, none, none, none, none, none, none] h) := rfl
theorem cst1 {w hh T : Nat} (z : Cz w hh T) (H : Hh) : u_Canvas___init___1 [some (.ref H.length), some (.int w), some (.int hh), none, none, none, none, none, none] (H ++ [.obj cvC []]) = .nx [some (.ref H.length), some (.int w), some (.int hh), none, none, none, none, none, none] (H ++ [.obj cvC []]) := by
  have zw := z.w1
  have zh := z.h1
  have wh1 : f_is_whole_in [.int (w : Int), .int 1, .int 16] (H ++ [.obj cvC []]) = .ok (.bl true) (H ++ [.obj cvC []]) := by
    rw [whole_ok rfl]; unfold wholeB betw; dsimp only; rw [decide_eq_true (show (1 : Int) ≤ (w : Int) by omega), decide_eq_true (show (w : Int) ≤ 16 by omega)]; rfl
  have wh2 : f_is_whole_in [.int (hh : Int), .int 1, .int 12] (H ++ [.obj cvC []]) = .ok (.bl true) (H ++ [.obj cvC []]) := by
    rw [whole_ok rfl]; unfold wholeB betw; dsimp only; rw [decide_eq_true (show (1 : Int) ≤ (hh : Int) by omega), decide_eq_true (show (hh : Int) ≤ 12 by omega)]; rfl
  simp only [u_Canvas___init___1, c_MAX_WIDTH, c_MAX_HEIGHT, wh1, wh2, Nat.reduceAdd, Nat.reduceEqDiff, runD, startD, endRt, endNx, endExc, seqE, seqNx, seqRt, seqExc, sNil, sPass, sIf, sRet, sRetN, sExpr, sSet, sAsg, sPar, kPar, setAll, sIxS, kSet, L3.sFld, eVar, eC, eBin, eTest, eChain, eUn, tAnd3, tOr3, tNot3, eAnd, eOr, eNot, eIf, aNil, aCons, eTup, eLst, eLstM, eCall, kCall, eMeth, kMeth, clsObj, eB, one, eFld, fldD, fieldAt, L3.putAt, eProp, kProp, noX, eMake, eLc, kLst, iSeq, L3.iZip, kZip, zipL, immS, iRg1, lcNil, lcCons, lcAS, lcBT, lcBF, lcCO, loNil, loCons, loAS, loNx, loCt, loBk, loRt, L3.sFor, sForW, eLcW, wSeq, wZip, kZipW, loopW, lcW, optS, wipeD, gSet, gTupD, gsNil, gsCons, tYes3, eIsi, isiD, kdOf, isK, allB, anyB, sumB, L3.listOf, blsOf, intsOf, asL, bindOk, bindExc, bindStk, toSOk, toSExc, lineOk, addI, subI, negI, mulL, mulR, divI, modI, ltI, leI, gtI, geI, eqI, neI, intB1, intB2, lenTup, lenLst, lenScr, tup0, tup1, tup2, tup3, tup4, tup5, lst0, lst1, lst2, lst3, List.getElem?_cons_zero, List.getElem?_cons_succ, List.getElem?_nil, List.set_cons_zero, List.set_cons_succ, List.length_cons, List.length_nil, List.map_cons, List.map_nil, List.replicate_succ, List.replicate_zero, List.cons_append, List.nil_append, List.append_nil, if_true, if_false, ite_true, ite_false, Bool.false_eq_true, Bool.not_true, Bool.not_false, Bool.true_and, Bool.and_true, Bool.false_and, Bool.and_false, Bool.or_true, Bool.true_or, Bool.false_or, Bool.or_false, and_self, and_true, true_and, Nat.sub_zero, Nat.sub_self, Nat.reduceSub, Nat.reduceAdd, Nat.reduceLeDiff, Nat.reduceEqDiff, decide_true, decide_false, Nat.zero_le]
theorem cst2 (w hh : Nat) (H : Hh) : u_Canvas___init___2 [some (.ref H.length), some (.int w), some (.int hh), none, none, none, none, none, none] (H ++ [.obj cvC []]) = .nx [some (.ref H.length), some (.int w), some (.int hh), none, none, none, none, none, none] (H ++ [.obj cvC [.int w]]) := by
  simp only [u_Canvas___init___2, ix_width, get_last, set_last, runD, startD, endRt, endNx, endExc, seqE, seqNx, seqRt, seqExc, sNil, sPass, sIf, sRet, sRetN, sExpr, sSet, sAsg, sPar, kPar, setAll, sIxS, kSet, L3.sFld, eVar, eC, eBin, eTest, eChain, eUn, tAnd3, tOr3, tNot3, eAnd, eOr, eNot, eIf, aNil, aCons, eTup, eLst, eLstM, eCall, kCall, eMeth, kMeth, clsObj, eB, one, eFld, fldD, fieldAt, L3.putAt, eProp, kProp, noX, eMake, eLc, kLst, iSeq, L3.iZip, kZip, zipL, immS, iRg1, lcNil, lcCons, lcAS, lcBT, lcBF, lcCO, loNil, loCons, loAS, loNx, loCt, loBk, loRt, L3.sFor, sForW, eLcW, wSeq, wZip, kZipW, loopW, lcW, optS, wipeD, gSet, gTupD, gsNil, gsCons, tYes3, eIsi, isiD, kdOf, isK, allB, anyB, sumB, L3.listOf, blsOf, intsOf, asL, bindOk, bindExc, bindStk, toSOk, toSExc, lineOk, addI, subI, negI, mulL, mulR, divI, modI, ltI, leI, gtI, geI, eqI, neI, intB1, intB2, lenTup, lenLst, lenScr, tup0, tup1, tup2, tup3, tup4, tup5, lst0, lst1, lst2, lst3, List.getElem?_cons_zero, List.getElem?_cons_succ, List.getElem?_nil, List.set_cons_zero, List.set_cons_succ, List.length_cons, List.length_nil, List.map_cons, List.map_nil, List.replicate_succ, List.replicate_zero, List.cons_append, List.nil_append, List.append_nil, if_true, if_false, ite_true, ite_false, Bool.false_eq_true, Bool.not_true, Bool.not_false, Bool.true_and, Bool.and_true, Bool.false_and, Bool.and_false, Bool.or_true, Bool.true_or, Bool.false_or, Bool.or_false, and_self, and_true, true_and, Nat.sub_zero, Nat.sub_self, Nat.reduceSub, Nat.reduceAdd, Nat.reduceLeDiff, Nat.reduceEqDiff, decide_true, decide_false, Nat.zero_le]
  rfl
theorem cst3 (w hh : Nat) (H : Hh) : u_Canvas___init___3 [some (.ref H.length), some (.int w), some (.int hh), none, none, none, none, none, none] (H ++ [.obj cvC [.int w]]) = .nx [some (.ref H.length), some (.int w), some (.int hh), none, none, none, none, none, none] (H ++ [.obj cvC [.int w, .int hh]]) := by
  simp only [u_Canvas___init___3, ix_height, get_last, set_last, runD, startD, endRt, endNx, endExc, seqE, seqNx, seqRt, seqExc, sNil, sPass, sIf, sRet, sRetN, sExpr, sSet, sAsg, sPar, kPar, setAll, sIxS, kSet, L3.sFld, eVar, eC, eBin, eTest, eChain, eUn, tAnd3, tOr3, tNot3, eAnd, eOr, eNot, eIf, aNil, aCons, eTup, eLst, eLstM, eCall, kCall, eMeth, kMeth, clsObj, eB, one, eFld, fldD, fieldAt, L3.putAt, eProp, kProp, noX, eMake, eLc, kLst, iSeq, L3.iZip, kZip, zipL, immS, iRg1, lcNil, lcCons, lcAS, lcBT, lcBF, lcCO, loNil, loCons, loAS, loNx, loCt, loBk, loRt, L3.sFor, sForW, eLcW, wSeq, wZip, kZipW, loopW, lcW, optS, wipeD, gSet, gTupD, gsNil, gsCons, tYes3, eIsi, isiD, kdOf, isK, allB, anyB, sumB, L3.listOf, blsOf, intsOf, asL, bindOk, bindExc, bindStk, toSOk, toSExc, lineOk, addI, subI, negI, mulL, mulR, divI, modI, ltI, leI, gtI, geI, eqI, neI, intB1, intB2, lenTup, lenLst, lenScr, tup0, tup1, tup2, tup3, tup4, tup5, lst0, lst1, lst2, lst3, List.getElem?_cons_zero, List.getElem?_cons_succ, List.getElem?_nil, List.set_cons_zero, List.set_cons_succ, List.length_cons, List.length_nil, List.map_cons, List.map_nil, List.replicate_succ, List.replicate_zero, List.cons_append, List.nil_append, List.append_nil, if_true, if_false, ite_true, ite_false, Bool.false_eq_true, Bool.not_true, Bool.not_false, Bool.true_and, Bool.and_true, Bool.false_and, Bool.and_false, Bool.or_true, Bool.true_or, Bool.false_or, Bool.or_false, and_self, and_true, true_and, Nat.sub_zero, Nat.sub_self, Nat.reduceSub, Nat.reduceAdd, Nat.reduceLeDiff, Nat.reduceEqDiff, decide_true, decide_false, Nat.zero_le]
  rfl
theorem cst4 {w hh T : Nat} (z : Cz w hh T) (H : Hh) : u_Canvas___init___4 [some (.ref H.length), some (.int w), some (.int hh), none, none, none, none, none, none] (H ++ [.obj cvC [.int w, .int hh]]) = .nx [some (.ref H.length), some (.int w), some (.int hh), none, none, none, none, none, none] (H ++ [.obj cvC [.int w, .int hh, .tup ((ptsL w 0 hh).map pl)]]) := by
  have zw := z.w1
  have zh := z.h1
  have ir : iRg1 (eVar 2) [some (.ref H.length), some (.int w), some (.int hh), none, none, none, none, none, none] (H ++ [.obj cvC [.int w, .int hh]]) = .ok (lane D.int 0 hh) (H ++ [.obj cvC [.int w, .int hh]]) := rg1_ok rfl (by omega)
  have lo := lc_out (H ++ [.obj cvC [.int w, .int hh]]) w (by omega) (some (.ref H.length)) (some (.int hh)) none none hh 0
  have ln : ((ptsL w 0 hh).map pl).length ≤ 16777216 := by rw [List.length_map]; have := z.len; omega
  unfold u_Canvas___init___4
  simp only [L3.sFld, eB, aCons, aNil, eLc2, ir, bindOk, wipeD, List.set_cons_succ, List.set_cons_zero, lo, kLst, lineOk, ln, decide_true, if_true, Bool.false_eq_true, if_false, one, tupleD, asL, toSOk, eVar, optS, List.getElem?_cons_zero, get_last, set_last, ix_own_places]
  rfl
theorem cst5 {w hh T : Nat} (z : Cz w hh T) (H : Hh) : u_Canvas___init___5 [some (.ref H.length), some (.int w), some (.int hh), none, none, none, none, none, none] (H ++ [.obj cvC [.int w, .int hh, .tup ((ptsL w 0 hh).map pl)]]) = .nx [some (.ref H.length), some (.int w), some (.int hh), some (.lst (laneN D.ref (H.length + 1) T)), none, none, none, none, none] (H ++ [.obj cvC [.int w, .int hh, .tup ((ptsL w 0 hh).map pl)]] ++ rowsO T w []) := by
  have zw := z.w1
  have zh := z.h1
  have mm : mulD (.int (ac w)) (.int (ac hh)) (H ++ [.obj cvC [.int w, .int hh, .tup ((ptsL w 0 hh).map pl)]]) = .ok (.int (ac w * ac hh)) (H ++ [.obj cvC [.int w, .int hh, .tup ((ptsL w 0 hh).map pl)]]) := by
    have : -100 ≤ ac w ∧ ac w ≤ 100 := by unfold ac; omega
    exact mulL _ (by omega) (by omega)
  have ir : iRg1 (eBin mulD (eCall 1 f_number_across (aCons (eVar 1) aNil) []) (eCall 1 f_number_across (aCons (eVar 2) aNil) [])) [some (.ref H.length), some (.int w), some (.int hh), none, none, none, none, none, none] (H ++ [.obj cvC [.int w, .int hh, .tup ((ptsL w 0 hh).map pl)]]) = .ok (lane D.int 0 T) (H ++ [.obj cvC [.int w, .int hh, .tup ((ptsL w 0 hh).map pl)]]) := by
    refine rg1_ok ?_ (by have := z.t1; omega)
    rw [← z.t]
    simp only [across14, mm, Nat.reduceAdd, Nat.reduceEqDiff, runD, startD, endRt, endNx, endExc, seqE, seqNx, seqRt, seqExc, sNil, sPass, sIf, sRet, sRetN, sExpr, sSet, sAsg, sPar, kPar, setAll, sIxS, kSet, L3.sFld, eVar, eC, eBin, eTest, eChain, eUn, tAnd3, tOr3, tNot3, eAnd, eOr, eNot, eIf, aNil, aCons, eTup, eLst, eLstM, eCall, kCall, eMeth, kMeth, clsObj, eB, one, eFld, fldD, fieldAt, L3.putAt, eProp, kProp, noX, eMake, eLc, kLst, iSeq, L3.iZip, kZip, zipL, immS, iRg1, lcNil, lcCons, lcAS, lcBT, lcBF, lcCO, loNil, loCons, loAS, loNx, loCt, loBk, loRt, L3.sFor, sForW, eLcW, wSeq, wZip, kZipW, loopW, lcW, optS, wipeD, gSet, gTupD, gsNil, gsCons, tYes3, eIsi, isiD, kdOf, isK, allB, anyB, sumB, L3.listOf, blsOf, intsOf, asL, bindOk, bindExc, bindStk, toSOk, toSExc, lineOk, addI, subI, negI, mulL, mulR, divI, modI, ltI, leI, gtI, geI, eqI, neI, intB1, intB2, lenTup, lenLst, lenScr, tup0, tup1, tup2, tup3, tup4, tup5, lst0, lst1, lst2, lst3, List.getElem?_cons_zero, List.getElem?_cons_succ, List.getElem?_nil, List.set_cons_zero, List.set_cons_succ, List.length_cons, List.length_nil, List.map_cons, List.map_nil, List.replicate_succ, List.replicate_zero, List.cons_append, List.nil_append, List.append_nil, if_true, if_false, ite_true, ite_false, Bool.false_eq_true, Bool.not_true, Bool.not_false, Bool.true_and, Bool.and_true, Bool.false_and, Bool.and_false, Bool.or_true, Bool.true_or, Bool.false_or, Bool.or_false, and_self, and_true, true_and, Nat.sub_zero, Nat.sub_self, Nat.reduceSub, Nat.reduceAdd, Nat.reduceLeDiff, Nat.reduceEqDiff, decide_true, decide_false, Nat.zero_le]
  have ln := lc_new T 0 (H ++ [.obj cvC [.int w, .int hh, .tup ((ptsL w 0 hh).map pl)]]) (some (.ref H.length)) (some (.int w)) (some (.int hh)) none none none none
  have l2 : (laneN D.ref (H ++ [O.obj cvC [.int w, .int hh, .tup ((ptsL w 0 hh).map pl)]]).length T).length ≤ 16777216 := by rw [laneN_len]; have := z.t1; omega
  unfold u_Canvas___init___5
  simp only [sSet, eLc, ir, bindOk, wipeD, List.set_cons_succ, List.set_cons_zero, ln, kLst, lineOk, l2, decide_true, if_true, Bool.false_eq_true, if_false, toSOk]
  unfold rowsO
  rw [rows0, List.length_append, List.length_singleton]
end
section
theorem cst7 {w hh T : Nat} {H H1 : Hh} {P : List (Int × Int)} (hC : H ++ [O.obj cvC [.int w, .int hh, .tup (P.map pl)]] = H1) (lH : H1.length = H.length + 1) (t1 : T ≤ 100) : ∀ x4, u_Canvas___init___7 [some (.ref H.length), some (.int w), some (.int hh), some (.lst (laneN D.ref (H.length + 1) T)), x4, none, none, none, none] (H1 ++ rowsO T w P) = .nx [some (.ref H.length), some (.int w), some (.int hh), some (.lst (laneN D.ref (H.length + 1) T)), x4, none, none, none, none] (H ++ [O.obj cvC [.int w, .int hh, .tup (P.map pl), .lst (laneN (fun m => D.tup (rowL w P m)) 0 T)]] ++ rowsO T w P) := by
  intro x4
  have lt := lc_tup (H1 ++ rowsO T w P) (rowL w P) (H.length + 1) (some (.ref H.length)) (some (.int w)) (some (.int hh)) (some (.lst (laneN D.ref (H.length + 1) T))) x4 none none none T 0 fun m hm => by
    rw [Nat.add_zero, Nat.zero_add, List.getElem?_append_right (by omega), show H.length + 1 + m - H1.length = m by omega]
    unfold rowsO
    rw [laneN_get, if_pos hm, Nat.zero_add]
  rw [Nat.add_zero] at lt
  have l2 : (laneN (fun m => D.tup (rowL w P m)) 0 T).length ≤ 16777216 := by rw [laneN_len]; have := t1; omega
  have g := mid_get H (O.obj cvC [.int w, .int hh, .tup (P.map pl)]) (rowsO T w P)
  have sm := mid_set H (O.obj cvC [.int w, .int hh, .tup (P.map pl)]) (O.obj cvC [.int w, .int hh, .tup (P.map pl), .lst (laneN (fun m => D.tup (rowL w P m)) 0 T)]) (rowsO T w P)
  rw [hC] at g sm
  unfold u_Canvas___init___7
  simp only [L3.sFld, eLcW, wSeq, eVar, optS, bindOk, List.getElem?_cons_zero, List.getElem?_cons_succ, lcW, wipeD, List.set_cons_succ, List.set_cons_zero, lt, kLst, lineOk, l2, decide_true, if_true, Bool.false_eq_true, if_false, toSOk, g, ix_own_tiles]
  exact congrArg (RS.nx _) sm
theorem cstep {w hh T : Nat} {H H1 : Hh} {P : List (Int × Int)} (hC : H ++ [O.obj cvC [.int w, .int hh, .tup (P.map pl)]] = H1) (lH : H1.length = H.length + 1) (t1 : T ≤ 100) (lenP : P.length ≤ 200) (ptsP : ∀ s ∈ P, (0 ≤ nm w s ∧ nm w s < (T : Int)) ∧ (0 ≤ s.1 ∧ s.1 ≤ 100) ∧ (0 ≤ s.2 ∧ s.2 ≤ 100)) {i : Nat} {s : Int × Int} (e3 : P[i]? = some s) :
    u_Canvas___init___6_1 [some (.ref H.length), some (.int w), some (.int hh), some (.lst (laneN D.ref (H.length + 1) T)), some (pl s), none, none, none, none] (H1 ++ rowsO T w (P.take i)) = .nx [some (.ref H.length), some (.int w), some (.int hh), some (.lst (laneN D.ref (H.length + 1) T)), some (pl s), none, none, none, none] (H1 ++ rowsO T w (P.take (i + 1))) := by
  obtain ⟨n1, n2, n3⟩ := ptsP s (List.mem_of_getElem? e3)
  have il := (List.getElem?_eq_some_iff.mp e3).1
  obtain ⟨m, em⟩ : ∃ m : Nat, nm w s = (m : Int) := ⟨(nm w s).toNat, by omega⟩
  have hm : m < T := by omega
  have fa := fun h => at14 (w := w) (s := s) (by omega) h
  rw [em] at fa
  have ix : ∀ h, ixA (.lst (laneN D.ref (H.length + 1) T)) (.int (m : Int)) h = .ok (.ref (H.length + 1 + m)) h := fun h => ixLstAt (by omega) (by rw [Int.toNat_natCast, laneN_get, if_pos hm])
  have gr : (H1 ++ rowsO T w (P.take i))[H.length + 1 + m]? = some (.lst (rowL w (P.take i) m)) := by
    rw [List.getElem?_append_right (by omega), show H.length + 1 + m - H1.length = m by omega]
    unfold rowsO
    rw [laneN_get, if_pos hm, Nat.zero_add]
  have sr : (H1 ++ rowsO T w (P.take i)).set (H.length + 1 + m) (.lst (rowL w (P.take i) m ++ [pl s])) = H1 ++ rowsO T w (P.take (i + 1)) := by
    rw [List.set_append_right _ _ (by omega), show H.length + 1 + m - H1.length = m by omega, rows_set hm em, List.take_add_one, e3]
    rfl
  have lr : (rowL w (P.take i) m).length < 16777216 := by
    unfold rowL
    rw [List.length_map]
    have := List.length_filter_le (fun s => decide (nm w s = (m : Int))) (P.take i)
    rw [List.length_take] at this
    omega
  have mu : mutL (H1 ++ rowsO T w (P.take i)) (.ref (H.length + 1 + m)) = some (H.length + 1 + m, rowL w (P.take i) m) := by unfold mutL; dsimp only; rw [gr]
  have as : (asL (H1 ++ rowsO T w (P.take i)) (.ref (H.length + 1 + m))).isSome = true := by unfold asL; dsimp only; rw [gr]; rfl
  simp only [u_Canvas___init___6_1, sExpr, eM, kM, eBin, eCall, kCall, aCons, aNil, eVar, optS, bindOk, List.getElem?_cons_zero, List.getElem?_cons_succ, List.set_cons_zero, List.set_cons_succ, List.append_nil, List.length_cons, List.length_nil, Nat.reduceAdd, if_true, fa, ix, as, appendM, mu, lr, sr, toSOk]
theorem cloop {w hh T : Nat} {H H1 : Hh} {P : List (Int × Int)} (hC : H ++ [O.obj cvC [.int w, .int hh, .tup (P.map pl)]] = H1) (lH : H1.length = H.length + 1) (t1 : T ≤ 100) (lenP : P.length ≤ 200) (ptsP : ∀ s ∈ P, (0 ≤ nm w s ∧ nm w s < (T : Int)) ∧ (0 ≤ s.1 ∧ s.1 ≤ 100) ∧ (0 ≤ s.2 ∧ s.2 ≤ 100)) : ∃ x4, loop3 (gSet 4) u_Canvas___init___6_1 (P.map pl) [some (.ref H.length), some (.int w), some (.int hh), some (.lst (laneN D.ref (H.length + 1) T)), none, none, none, none, none] (H1 ++ rowsO T w []) = .nx [some (.ref H.length), some (.int w), some (.int hh), some (.lst (laneN D.ref (H.length + 1) T)), x4, none, none, none, none] (H1 ++ rowsO T w P) := by
  obtain ⟨δ', h', e, ⟨x4, rfl, rfl⟩⟩ := loop_ok (g := gSet 4) (u := u_Canvas___init___6_1) (fun n δ h' => ∃ x4, δ = [some (.ref H.length), some (.int w), some (.int hh), some (.lst (laneN D.ref (H.length + 1) T)), x4, none, none, none, none] ∧ h' = H1 ++ rowsO T w (P.take n)) (P.map pl) 0 [some (.ref H.length), some (.int w), some (.int hh), some (.lst (laneN D.ref (H.length + 1) T)), none, none, none, none, none] (H1 ++ rowsO T w []) ⟨none, rfl, by rw [List.take_zero]⟩ fun i d e δ h1 ⟨x4, e1, e2⟩ => by
    subst e1; subst e2
    rw [List.getElem?_map] at e
    obtain ⟨s, e3, rfl⟩ := Option.map_eq_some_iff.mp e
    have stp := cstep (hh := hh) hC lH t1 lenP ptsP e3
    rw [Nat.zero_add]
    exact ⟨_, _, _, rfl, .inl stp, ⟨some (pl s), rfl, rfl⟩⟩
  refine ⟨x4, ?_⟩
  rw [List.length_map, Nat.zero_add, List.take_length] at e
  exact e
theorem cst6 {w hh T : Nat} {H H1 : Hh} {P : List (Int × Int)} (hC : H ++ [O.obj cvC [.int w, .int hh, .tup (P.map pl)]] = H1) (lH : H1.length = H.length + 1) (t1 : T ≤ 100) (lenP : P.length ≤ 200) (ptsP : ∀ s ∈ P, (0 ≤ nm w s ∧ nm w s < (T : Int)) ∧ (0 ≤ s.1 ∧ s.1 ≤ 100) ∧ (0 ≤ s.2 ∧ s.2 ≤ 100)) : ∃ x4, u_Canvas___init___6 [some (.ref H.length), some (.int w), some (.int hh), some (.lst (laneN D.ref (H.length + 1) T)), none, none, none, none, none] (H1 ++ rowsO T w []) = .nx [some (.ref H.length), some (.int w), some (.int hh), some (.lst (laneN D.ref (H.length + 1) T)), x4, none, none, none, none] (H1 ++ rowsO T w P) := by
  obtain ⟨x4, e⟩ := cloop (hh := hh) hC lH t1 lenP ptsP
  refine ⟨x4, ?_⟩
  have fd : ∀ t, fldD ix_own_places (.ref H.length) (H ++ [O.obj cvC [.int w, .int hh, .tup (P.map pl)]] ++ t) = .ok (.tup (P.map pl)) (H ++ [O.obj cvC [.int w, .int hh, .tup (P.map pl)]] ++ t) := fun t => by unfold fldD; dsimp only; rw [mid_get]; rfl
  rw [hC] at fd
  unfold u_Canvas___init___6
  simp only [sForW, wSeq, eFld, eVar, optS, bindOk, List.getElem?_cons_zero, fd, toSOk, loopW]
  exact e
theorem canvas_end {w hh T : Nat} {H : Hh} {P : List (Int × Int)} {δ : De} (run : endD (u_Canvas___init__ [some (.ref H.length), some (.int w), some (.int hh), none, none, none, none, none, none] (H ++ [.obj cvC []])) = .ok .non (H ++ [O.obj cvC [.int w, .int hh, .tup (P.map pl), .lst (laneN (fun m => D.tup (rowL w P m)) 0 T)]] ++ rowsO T w P)) :
    kMake cvC 4 3 f_Canvas___init__ [] [.int w, .int hh] H = .ok (.obj cvC [.int w, .int hh, .tup (P.map pl), .lst (laneN (fun m => D.tup (rowL w P m)) 0 T)]) (H ++ [.dead] ++ rowsO T w P) := by
  rw [← canvas_run] at run
  have mo := make_of (c := cvC) (na := 4) (np := 3) (sem := f_Canvas___init__) (ds := [.int w, .int hh]) (h := H) rfl run (mid_get _ _ _) rfl
  rw [mo, mid_set]
theorem seq_nxC {u v : FnS} {δ δ1 : De} {h h1 : Hh} {r : RS} (e : u δ h = .nx δ1 h1) (e2 : v δ1 h1 = r) : sSeq u v δ h = r := by
  unfold sSeq
  rw [e]
  exact e2
theorem end_nxC {u : FnS} {δ δ1 : De} {h h1 : Hh} (e : u δ h = .nx δ1 h1) : endD (u δ h) = .ok .non h1 := by rw [e]; rfl
theorem canvas_mid {w hh T : Nat} (z : Cz w hh T) (H : Hh) : endD (u_Canvas___init__ [some (.ref H.length), some (.int w), some (.int hh), none, none, none, none, none, none] (H ++ [.obj cvC []])) = .ok .non (H ++ [O.obj cvC [.int w, .int hh, .tup ((ptsL w 0 hh).map pl), .lst (laneN (fun m => D.tup (rowL w (ptsL w 0 hh) m)) 0 T)]] ++ rowsO T w (ptsL w 0 hh)) := by
  obtain ⟨x4, st6⟩ := cst6 (hh := hh) (w := w) (T := T) (H := H) (P := ptsL w 0 hh) rfl (by rw [List.length_append, List.length_singleton]) z.t1 z.len z.pts
  have st7 := cst7 (hh := hh) (w := w) (T := T) (H := H) (P := ptsL w 0 hh) rfl (by rw [List.length_append, List.length_singleton]) z.t1 x4
  have k := seq_nxC (cst1 z H) (seq_nxC (cst2 w hh H) (seq_nxC (cst3 w hh H) (seq_nxC (cst4 z H) (seq_nxC (cst5 z H) (seq_nxC st6 st7)))))
  unfold u_Canvas___init__
  exact end_nxC k
theorem canvas_ok {w hh T : Nat} (z : Cz w hh T) (H : Hh) : kMake cvC 4 3 f_Canvas___init__ [] [.int w, .int hh] H = .ok (cnv w hh T) (H ++ [.dead] ++ rowsO T w (ptsL w 0 hh)) := by
  have := canvas_end (δ := []) (canvas_mid z H)
  rw [this]
  rfl
end
section
section
variable {X : Nat → List D → Hh → Prop} {Q : D → Hh → Prop} {h : Hh} {δ : De}
theorem app_put (h : Hh) (x y : O) : (h ++ [x]).set h.length y = h ++ [y] := by
  rw [List.set_append_right _ _ (Nat.le_refl _)]; simp
theorem eAct_at {q : List Nat} {fb : FnE} {r : De} : eAct q fb 0 (some (.ref h.length) :: r) (h ++ [.lam q δ]) = actR h.length q δ (fb δ (h ++ [.dead])) := by
  have e1 : (h ++ [O.lam q δ])[h.length]? = some (.lam q δ) := by simp
  show (match (h ++ [O.lam q δ])[h.length]? with
    | some (.lam q' cap) => if q' = q then actR h.length q cap (fb cap ((h ++ [O.lam q δ]).set h.length .dead)) else R.stk
    | _ => R.stk) = _
  rw [e1]
  dsimp only
  rw [if_pos rfl, app_put]
theorem eLam_at {t : Nat} {q : List Nat} {sem : List Nat → FnE → Sem3} {fb : FnE} (ht : h[t]? = some (.tab q)) : eLam t q sem fb δ h = lamEnd h.length (sem q fb [.ref h.length] (h ++ [.lam q δ])) := by
  unfold eLam
  rw [ht]
  dsimp only
  rw [if_pos rfl]
abbrev sCanvas : D := .str [99, 97, 110, 118, 97, 115]
abbrev sNone : D := .str [110, 111, 110, 101]
theorem said_w {t : Nat} {q : List Nat} {fb : FnE} (ht : h[t]? = some (.tab q)) (z : wr (fb δ (h ++ [.dead])) (fun c _ h' => c = 0 ∧ Q sCanvas (h'.set h.length .dead)) (fun _ h' => Q sNone (h'.set h.length .dead))) : wr (eLam t q f__law_said fb δ h) X Q := by
  rw [eLam_at ht]
  cases e : fb δ (h ++ [.dead]) with
  | ok x h' =>
    rw [e] at z
    have : f__law_said q fb [.ref h.length] (h ++ [.lam q δ]) = .ok sNone (h'.set h.length (.lam q δ)) := by
      unfold f__law_said runD
      show endD (u__law_said q fb [some (.ref h.length), none] (h ++ [.lam q δ])) = _
      simp only [u__law_said, u__law_said_1, u__law_said_2, u__law_said_2_t_1, u__law_said_3, sSeq, sSet, eC, R.toS, sTryN, sExpr, List.set_cons_succ, List.set_cons_zero, eAct_at, e, actR, sRet, eVar, List.getElem?_cons_succ, List.getElem?_cons_zero, endD]
    rw [this]
    show Q _ ((h'.set _ _).set _ _)
    rw [List.set_set]
    exact z
  | exc c ds h' =>
    rw [e] at z
    obtain ⟨c2, z⟩ := z
    have : f__law_said q fb [.ref h.length] (h ++ [.lam q δ]) = .ok sCanvas (h'.set h.length (.lam q δ)) := by
      unfold f__law_said runD
      show endD (u__law_said q fb [some (.ref h.length), none] (h ++ [.lam q δ])) = _
      subst c2
      simp only [u__law_said, u__law_said_1, u__law_said_2, u__law_said_2_t_1, u__law_said_2_h0_1, u__law_said_3, sSeq, sSet, eC, R.toS, sTryN, sExpr, List.set_cons_succ, List.set_cons_zero, eAct_at, e, actR, sRet, eVar, List.getElem?_cons_succ, List.getElem?_cons_zero, endD, handleN, mH_BadCanvas, if_true, noXS, Bool.false_eq_true, if_false]
    rw [this]
    show Q _ ((h'.set _ _).set _ _)
    rw [List.set_set]
    exact z
  | stk => rw [e] at z; exact z.elim
end
structure Old (h h' : Hh) : Prop where
  len : h.length ≤ h'.length
  old : ∀ j, j < h.length → h'[j]? = h[j]?
theorem Old.refl (h : Hh) : Old h h := ⟨Nat.le_refl _, fun _ _ => rfl⟩
theorem Old.trans {h h1 h2 : Hh} (x : Old h h1) (y : Old h1 h2) : Old h h2 := ⟨Nat.le_trans x.len y.len, fun j l => (y.old j (Nat.lt_of_lt_of_le l x.len)).trans (x.old j l)⟩
theorem Old.app (h t : Hh) : Old h (h ++ t) := ⟨by simp, fun j l => List.getElem?_append_left l⟩
theorem Old.at_ {h h' : Hh} (o : Old h h') {n : Nat} {x : O} (e : h[n]? = some x) : h'[n]? = some x := by rw [o.old n (List.getElem?_eq_some_iff.mp e).1]; exact e
theorem Old.put {h h' : Hh} (o : Old h h') {n : Nat} (hn : h.length ≤ n) (x : O) : Old h (h'.set n x) := ⟨by rw [List.length_set]; exact o.len, fun j l => by rw [List.getElem?_set_ne (by omega)]; exact o.old j l⟩
def St (o m : Nat) (h : Hh) (N : Nat) (os : List (Nat × O)) : Prop := ∃ b, Good o m h b N ∧ ∀ p ∈ os, h[p.1]? = some p.2 ∧ p.1 ≠ o ∧ p.1 ≠ m ∧ p.1 ≠ b
section
variable {o m : Nat}
theorem St.get {h : Hh} {N n : Nat} {x : O} {os : List (Nat × O)} (s : St o m h N os) (i : (n, x) ∈ os) : h[n]? = some x := by
  obtain ⟨b, _, q⟩ := s
  exact (q _ i).1
theorem St.sub {h : Hh} {N M : Nat} {os os' : List (Nat × O)} (s : St o m h N os) (hm : M ≤ N) (k : ∀ p ∈ os', p ∈ os) : St o m h M os' := by
  obtain ⟨b, g, q⟩ := s
  exact ⟨b, g.weak hm, fun p i => q p (k p i)⟩
theorem St.weak {h : Hh} {N M : Nat} {os : List (Nat × O)} (s : St o m h N os) (hm : M ≤ N) : St o m h M os := s.sub hm fun _ i => i
theorem St.old {h h' : Hh} {N : Nat} {os : List (Nat × O)} (s : St o m h N os) (x : Old h h') : St o m h' N os := by
  obtain ⟨b, ⟨cells, left, t, z, h1, h2⟩, q⟩ := s
  exact ⟨b, ⟨cells, left, t, ⟨x.at_ z.c, x.at_ z.d, x.at_ z.l, z.b0, z.b2, z.om, z.pos, z.t0, z.t1⟩, h1, h2⟩, fun p i => ⟨x.at_ (q p i).1, (q p i).2⟩⟩
theorem St.lt {h : Hh} {N : Nat} {os : List (Nat × O)} (s : St o m h N os) : o < h.length ∧ m < h.length := by
  obtain ⟨b, ⟨_, _, _, z, _⟩, _⟩ := s
  exact ⟨z.lt0, z.lt2⟩
theorem St.new {h : Hh} {N : Nat} {os : List (Nat × O)} (s : St o m h N os) (x : O) : St o m (h ++ [x]) N ((h.length, x) :: os) := by
  have l := s.lt
  have s2 := s.old (Old.app h [x])
  obtain ⟨b, g, q⟩ := s
  obtain ⟨cells, left, t, z, h1, h2⟩ := g
  have lb := z.lt
  have x' := Old.app h [x]
  refine ⟨b, ⟨cells, left, t, ⟨x'.at_ z.c, x'.at_ z.d, x'.at_ z.l, z.b0, z.b2, z.om, z.pos, z.t0, z.t1⟩, h1, h2⟩, fun p i => ?_⟩
  rcases List.mem_cons.mp i with rfl | i
  · exact ⟨by simp, by dsimp only; omega, by dsimp only; omega, by dsimp only; omega⟩
  · exact ⟨x'.at_ (q p i).1, (q p i).2⟩
theorem St.put {h : Hh} {N n : Nat} {x : O} {os : List (Nat × O)} (s : St o m h N ((n, x) :: os)) (k : ∀ p ∈ os, p.1 ≠ n) (y : O) : St o m (h.set n y) N ((n, y) :: os) := by
  obtain ⟨b, ⟨cells, left, t, z, h1, h2⟩, q⟩ := s
  obtain ⟨a, n1, n2, n3⟩ := q (n, x) (by simp)
  dsimp only at a n1 n2 n3
  have l := (List.getElem?_eq_some_iff.mp a).1
  refine ⟨b, ⟨cells, left, t, ⟨by rw [List.getElem?_set_ne n1]; exact z.c, by rw [List.getElem?_set_ne n2]; exact z.d, by rw [List.getElem?_set_ne n3]; exact z.l, z.b0, z.b2, z.om, z.pos, z.t0, z.t1⟩, h1, h2⟩, fun p i => ?_⟩
  rcases List.mem_cons.mp i with rfl | i
  · exact ⟨by rw [List.getElem?_set_self l], n1, n2, n3⟩
  · rw [List.getElem?_set_ne (Ne.symm (k p i))]; exact q p (List.mem_cons_of_mem _ i)
variable {X : Nat → List D → Hh → Prop} {Q : D → Hh → Prop} {h : Hh}
theorem w_next {N : Nat} {k : Int} {os : List (Nat × O)} (s : St o m h N os) (hN : 1 ≤ N) (k0 : 0 < k) (k1 : k < 1073741824) (q : ∀ v h', 0 ≤ v → v < k → St o m h' (N - 1) os → Q (.int v) h') : wr (f__law_next [.ref m, .int k] h) X Q := by
  obtain ⟨b, g, r⟩ := s
  obtain ⟨v, h', b', e1, v0, v1, g', f⟩ := next_ok (N := N - 1) (by rw [Nat.sub_add_cancel hN]; exact g) k k0 k1
  refine wr_ok e1 (q v h' v0 v1 ⟨b', g', fun p i => ?_⟩)
  obtain ⟨a, n1, n2, n3⟩ := r p i
  have l := (List.getElem?_eq_some_iff.mp a).1
  refine ⟨by rw [f.old p.1 l n2 n3]; exact a, n1, n2, ?_⟩
  rcases f.bb with e | e
  · rw [e]; exact n3
  · omega
end
theorem w_app {X : Nat → List D → Hh → Prop} {Q : D → Hh → Prop} {δ : De} {h : Hh} {fo fy : FnE} {n : Nat} {ds : List D} (e : fo δ h = .ok (.ref n) h) (en : h[n]? = some (.lst ds)) (l : ds.length < 1000) (z : wr (fy δ h) X fun y h1 => h1[n]? = some (.lst ds) ∧ Q .non (h1.set n (.lst (ds ++ [y])))) : wr (eM appendM fo (aCons fy aNil) δ h) X Q := by
  have e1 : (asL h (.ref n)).isSome = true := by unfold asL; dsimp only; rw [en]; rfl
  unfold eM
  rw [e, bindOk]
  unfold kM
  rw [if_pos e1]
  refine wr_bind (w_cons (wr_mono z fun y h1 z => ?_))
  refine w_nil ?_
  have e2 : mutL h1 (.ref n) = some (n, ds) := by unfold mutL; dsimp only; rw [z.1]
  have e3 : ds.length < 16777216 := by omega
  unfold appendM
  rw [e2]
  dsimp only
  rw [if_pos e3]
  exact z.2
section
variable {X : Nat → List D → Hh → Prop} {Q : D → Hh → Prop} {h : Hh} {o m N : Nat} {os : List (Nat × O)}
theorem eq_told {n : Nat} {l : List D} (e : h[n]? = some (.lst l)) (k : eqD (.lst l) (.lst l) h = .ok (.bl true) h) : eqD (.ref n) (.lst l) h = .ok (.bl true) h := by
  have d : deref h (.ref n) = .lst l := by unfold deref; dsimp only; rw [e]
  have d2 : deref h (.lst l) = .lst l := rfl
  unfold eqD at k ⊢
  rw [d]
  rw [d2] at k ⊢
  exact k
theorem St.dead (s : St o m h N os) : St o m ((h ++ [O.dead]).set h.length O.dead) N os := s.old ((Old.app h [.dead]).put (Nat.le_refl _) _)
theorem repr_gen {x : D} (hd : deref h x = x) (f : flat 60 x = true) (s : smallD x = true) (w : wtD x ≤ 300000) : reprD x h = .ok (.str (showL x)) h := by
  unfold reprD
  rw [hd, f, s, decide_eq_true w]
  rfl
theorem neS (a b : List Nat) (h : Hh) : neD (.str a) (.str b) h = .ok (.bl (!decide (a = b))) h := by
  have e := eqS a b h
  unfold eqD at e
  unfold neD
  split at e
  · rename_i f
    rw [if_pos f]
    have e2 : eqv (deref h (.str a)) (deref h (.str b)) = decide (a = b) := by injection e with e; injection e
    rw [e2]
  · cases e
theorem neSs {a : List Nat} (q : Q (.bl false) h) : wr (neD (.str a) (.str a) h) X Q := wr_ok (neS a a h) (by simpa using q)
theorem osn_of (s : St o m h N os) : ∀ p ∈ os, p.1 ≠ h.length := fun p hp e => by
  have := (List.getElem?_eq_some_iff.mp (s.get (n := p.1) (x := p.2) hp)).1
  omega
theorem addLL (xs ys : List D) (l : xs.length + ys.length ≤ 1000) (h : Hh) : addD (.lst xs) (.lst ys) h = .ok (.lst (xs ++ ys)) h := by
  show (if lineOk (xs.length + ys.length) = true then R.ok (D.lst (xs ++ ys)) h else .stk) = _
  rw [if_pos (lsmall l)]
theorem pow18 (h : Hh) : powD (.int 10) (.int 18) h = .ok (.int 1000000000000000000) h := by simp [powD]
theorem filt (a b : Option D) (h : Hh) : ∀ ns : List Int, lcs (gSet 1) (eTest (eBin geD (eVar 1) (eBin powD (eC (.int 10)) (eC (.int 18))))) (eVar 1) [a, b] (ns.map D.int) h = .ok ((ns.filter fun x => decide (1000000000000000000 ≤ x)).map D.int) h
  | [] => rfl
  | n :: ns => by
    have ih := filt a b h ns
    rw [List.map_cons, lcCons]
    by_cases hn : 1000000000000000000 ≤ n
    · simp [pow18, hn, ih, runD, startD, endRt, endNx, endExc, seqE, seqNx, seqRt, seqExc, sNil, sPass, sIf, sRet, sRetN, sExpr, sSet, sAsg, sPar, kPar, setAll, sIxS, kSet, L3.sFld, eVar, eC, eBin, eTest, eChain, eUn, tAnd3, tOr3, tNot3, eAnd, eOr, eNot, eIf, aNil, aCons, eTup, eLst, eLstM, eCall, kCall, eMeth, kMeth, clsObj, eB, one, eFld, fldD, fieldAt, L3.putAt, eProp, kProp, noX, eMake, eLc, kLst, iSeq, L3.iZip, kZip, zipL, immS, iRg1, lcNil, lcCons, lcAS, lcBT, lcBF, lcCO, loNil, loCons, loAS, loNx, loCt, loBk, loRt, L3.sFor, sForW, eLcW, wSeq, wZip, kZipW, loopW, lcW, optS, wipeD, gSet, gTupD, gsNil, gsCons, tYes3, eIsi, isiD, kdOf, isK, allB, anyB, sumB, L3.listOf, blsOf, intsOf, asL, bindOk, bindExc, bindStk, toSOk, toSExc, lineOk, addI, subI, negI, mulL, mulR, divI, modI, ltI, leI, gtI, geI, eqI, neI, intB1, intB2, lenTup, lenLst, lenScr, tup0, tup1, tup2, tup3, tup4, tup5, lst0, lst1, lst2, lst3, List.getElem?_cons_zero, List.getElem?_cons_succ, List.getElem?_nil, List.set_cons_zero, List.set_cons_succ, List.length_cons, List.length_nil, List.map_cons, List.map_nil, List.replicate_succ, List.replicate_zero, List.cons_append, List.nil_append, List.append_nil, if_true, if_false, ite_true, ite_false, Bool.false_eq_true, Bool.not_true, Bool.not_false, Bool.true_and, Bool.and_true, Bool.false_and, Bool.and_false, Bool.or_true, Bool.true_or, Bool.false_or, Bool.or_false, and_self, and_true, true_and, Nat.sub_zero, Nat.sub_self, Nat.reduceSub, Nat.reduceAdd, Nat.reduceLeDiff, Nat.reduceEqDiff, decide_true, decide_false, Nat.zero_le]
    · simp [pow18, hn, ih, runD, startD, endRt, endNx, endExc, seqE, seqNx, seqRt, seqExc, sNil, sPass, sIf, sRet, sRetN, sExpr, sSet, sAsg, sPar, kPar, setAll, sIxS, kSet, L3.sFld, eVar, eC, eBin, eTest, eChain, eUn, tAnd3, tOr3, tNot3, eAnd, eOr, eNot, eIf, aNil, aCons, eTup, eLst, eLstM, eCall, kCall, eMeth, kMeth, clsObj, eB, one, eFld, fldD, fieldAt, L3.putAt, eProp, kProp, noX, eMake, eLc, kLst, iSeq, L3.iZip, kZip, zipL, immS, iRg1, lcNil, lcCons, lcAS, lcBT, lcBF, lcCO, loNil, loCons, loAS, loNx, loCt, loBk, loRt, L3.sFor, sForW, eLcW, wSeq, wZip, kZipW, loopW, lcW, optS, wipeD, gSet, gTupD, gsNil, gsCons, tYes3, eIsi, isiD, kdOf, isK, allB, anyB, sumB, L3.listOf, blsOf, intsOf, asL, bindOk, bindExc, bindStk, toSOk, toSExc, lineOk, addI, subI, negI, mulL, mulR, divI, modI, ltI, leI, gtI, geI, eqI, neI, intB1, intB2, lenTup, lenLst, lenScr, tup0, tup1, tup2, tup3, tup4, tup5, lst0, lst1, lst2, lst3, List.getElem?_cons_zero, List.getElem?_cons_succ, List.getElem?_nil, List.set_cons_zero, List.set_cons_succ, List.length_cons, List.length_nil, List.map_cons, List.map_nil, List.replicate_succ, List.replicate_zero, List.cons_append, List.nil_append, List.append_nil, if_true, if_false, ite_true, ite_false, Bool.false_eq_true, Bool.not_true, Bool.not_false, Bool.true_and, Bool.and_true, Bool.false_and, Bool.and_false, Bool.or_true, Bool.true_or, Bool.false_or, Bool.or_false, and_self, and_true, true_and, Nat.sub_zero, Nat.sub_self, Nat.reduceSub, Nat.reduceAdd, Nat.reduceLeDiff, Nat.reduceEqDiff, decide_true, decide_false, Nat.zero_le]
theorem turns_ok (c k : Nat) (hc : c ≤ 100) (hk : k ≤ 100) (ns : List Int) (r : De) (h : Hh) : iRg1 (eBin addD (eC (.int (c : Int))) (eB min2B (aCons (eB lenB (aCons (eVar 0) aNil)) (aCons (eC (.int (k : Int))) aNil)))) (some (.scr (ns.map D.int)) :: r) h = .ok (rgD 0 (c + min ns.length k)) h := by
  have e : ((c : Int) + (if (k : Int) < (ns.length : Int) then (k : Int) else (ns.length : Int))) = ((c + min ns.length k : Nat) : Int) := by
    by_cases hh : k < ns.length
    · rw [if_pos (by omega), Nat.min_eq_right (by omega)]; rfl
    · rw [if_neg (by omega), Nat.min_eq_left (by omega)]; rfl
  have b : ((c + min ns.length k : Nat) : Int) ≤ 200 := by omega
  show (if -(2 ^ 62) ≤ (c : Int) + (if (k : Int) < (((ns.map D.int).length : Nat) : Int) then (k : Int) else (((ns.map D.int).length : Nat) : Int)) ∧ (c : Int) + (if (k : Int) < (((ns.map D.int).length : Nat) : Int) then (k : Int) else (((ns.map D.int).length : Nat) : Int)) < 2 ^ 62 then R.ok (rgD 0 ((c : Int) + (if (k : Int) < (((ns.map D.int).length : Nat) : Int) then (k : Int) else (((ns.map D.int).length : Nat) : Int))).toNat) h else .stk) = _
  rw [List.length_map, e, if_pos ⟨by omega, by omega⟩]
  rfl
end
end
section
def czB (w hh : Nat) : Bool := decide (ac w * ac hh = (((ac w * ac hh).toNat : Nat) : Int)) && (decide ((ac w * ac hh).toNat ≤ 100) && (decide ((ptsL w 0 hh).length ≤ 200) && (((ptsL w 0 hh).all fun s => decide ((0 ≤ nm w s ∧ nm w s < (((ac w * ac hh).toNat : Nat) : Int)) ∧ (0 ≤ s.1 ∧ s.1 ≤ 100) ∧ (0 ≤ s.2 ∧ s.2 ≤ 100))) &&
  (List.range (ac w * ac hh).toNat).all fun m => !((ptsL w 0 hh).filter (fun s => decide (nm w s = (m : Int)))).isEmpty)))
theorem czB_ok {w hh : Nat} (h1 : 1 ≤ w ∧ w ≤ 16) (h2 : 1 ≤ hh ∧ hh ≤ 12) (q : czB w hh = true) : Cz w hh (ac w * ac hh).toNat := by
  unfold czB at q
  simp only [Bool.and_eq_true, decide_eq_true_eq] at q
  obtain ⟨q1, q2, q3, q4, q5⟩ := q
  refine ⟨h1, h2, q1, q2, q3, fun s hs => of_decide_eq_true (List.all_eq_true.mp q4 s hs), fun m hm e => ?_⟩
  have := List.all_eq_true.mp q5 m (List.mem_range.mpr hm)
  rw [e] at this
  cases this
theorem cz_ok {w hh : Nat} (h1 : 1 ≤ w ∧ w ≤ 16) (h2 : 1 ≤ hh ∧ hh ≤ 12) : ∃ T, Cz w hh T := by
  have key : ∀ w ∈ List.range 17, ∀ hh ∈ List.range 13, 1 ≤ w → 1 ≤ hh → czB w hh = true := by decide +kernel
  exact ⟨_, czB_ok h1 h2 (key w (List.mem_range.mpr (by omega)) hh (List.mem_range.mpr (by omega)) h1.1 h2.1)⟩
section
variable {X : Nat → List D → Hh → Prop} {Q : D → Hh → Prop} {h : Hh} {δ : De}
theorem wr_make {c na np : Nat} {sem : Sem3} {fa : FnA} {xs : List D} {d : D} {h1 h2 : Hh} (e : fa δ h = .ok xs h1) (k : kMake c na np sem [] xs h1 = .ok d h2) (q : Q d h2) : wr (eMake c na np sem fa [] δ h) X Q := by
  unfold eMake
  rw [e]
  show wr (kMake c na np sem [] xs h1) X Q
  rw [k]
  exact q
theorem canvas_w {fa : FnA} {w hh : Nat} (h1 : 1 ≤ w ∧ w ≤ 16) (h2 : 1 ≤ hh ∧ hh ≤ 12) (z : wr (fa δ h) X fun xs h1 => xs = [.int w, .int hh] ∧ ∀ T h', Old h1 h' → Q (cnv w hh T) h') : wr (eMake cvC 4 3 f_Canvas___init__ fa [] δ h) X Q := by
  obtain ⟨T, cz⟩ := cz_ok h1 h2
  cases e : fa δ h with
  | ok xs h3 =>
    rw [e] at z
    obtain ⟨rfl, q⟩ := z
    exact wr_make e (canvas_ok cz h3) (q T _ ((Old.app h3 [.dead]).trans (Old.app _ _)))
  | exc c ds h3 => rw [e] at z; unfold eMake; rw [e]; exact z
  | stk => rw [e] at z; exact z.elim
end
section
variable {X : Nat → List D → Hh → Prop} {Q : D → Hh → Prop} {h : Hh} {o m N : Nat} {os : List (Nat × O)} {δ : De}
theorem e_u_Canvas___init___1_a_1 {δ : De} {h : Hh} {E : Es} (z : ws ((sRaise 0 (eC (.str [110, 111, 32, 119, 105, 100, 116, 104, 32, 97, 110, 100, 32, 104, 101, 105, 103, 104, 116, 32, 111, 102, 32, 97, 32, 99, 97, 110, 118, 97, 115]))) δ h) E) : ws (u_Canvas___init___1_a_1 δ h) E := z
theorem e_u_Canvas___init___1 {δ : De} {h : Hh} {E : Es} (z : ws ((sIf (tOr3 (tNot3 (eTest (eCall 3 f_is_whole_in (aCons (eVar 1) (aCons (eC (.int 1)) (aCons (eC c_MAX_WIDTH) aNil))) []))) (tNot3 (eTest (eCall 3 f_is_whole_in (aCons (eVar 2) (aCons (eC (.int 1)) (aCons (eC c_MAX_HEIGHT) aNil))) [])))) u_Canvas___init___1_a_1 sNil) δ h) E) : ws (u_Canvas___init___1 δ h) E := z
theorem init_no {p d e : D} {H : Hh} (pd : plD d = true) (pe : plD e = true) (no : (wholeB d 1 16 && wholeB e 1 12) = false) : ∃ ds, f_Canvas___init__ [p, d, e] H = .exc 0 ds H := by
  have r : wr (f_Canvas___init__ [p, d, e] H) (fun c ds h' => c = 0 ∧ h' = H) (fun _ _ => False) := by
    unfold f_Canvas___init__
    with_reducible refine w_run (δ := [some p, some d, some e, none, none, none, none, none, none]) ?_ ?_
    · rfl
    unfold u_Canvas___init__
    refine s_seq ?_
    with_reducible refine e_u_Canvas___init___1 ?_
    refine s_if (w_or (w_not (w_test (w_call0 (wr_ok (x := [d, .int 1, .int 16]) (h := H) rfl (w_eqn rfl (wr_ok (whole_ok pd 1 16 _) (w_tst ?_))))))))
    have bad : ∀ {E : Es}, (∀ ds, E.ex 0 ds [some p, some d, some e, none, none, none, none, none, none] H) → ws (u_Canvas___init___1_a_1 [some p, some d, some e, none, none, none, none, none, none] H) E := fun k => by
      with_reducible refine e_u_Canvas___init___1_a_1 ?_
      exact s_raise (w_c (k _))
    cases b : wholeB d 1 16 with
    | false => exact w_t (w_t (bad fun ds => ⟨rfl, rfl⟩))
    | true =>
      rw [b, Bool.true_and] at no
      refine w_f (w_not (w_test (w_call0 (wr_ok (x := [e, .int 1, .int 12]) (h := H) rfl (w_eqn rfl (wr_ok (whole_ok pe 1 12 _) (w_tst ?_)))))))
      rw [no]
      exact w_t (bad fun ds => ⟨rfl, rfl⟩)
  cases hq : f_Canvas___init__ [p, d, e] H with
  | ok x h' => rw [hq] at r; exact r.elim
  | stk => rw [hq] at r; exact r.elim
  | exc c ds h' => rw [hq] at r; obtain ⟨rfl, rfl⟩ := r; exact ⟨ds, rfl⟩
theorem canvas_no {fa : FnA} {d e : D} (pd : plD d = true) (pe : plD e = true) (no : (wholeB d 1 16 && wholeB e 1 12) = false) (ea : fa δ h = .ok [d, e] h) (q : ∀ ds, X 0 ds (h ++ [.obj 0 []])) : wr (eMake 0 4 3 f_Canvas___init__ fa [] δ h) X Q := by
  obtain ⟨ds, ei⟩ := init_no (p := .ref h.length) (H := h ++ [.obj 0 []]) pd pe no
  have k : kMake 0 4 3 f_Canvas___init__ [] [d, e] h = .exc 0 ds (h ++ [.obj 0 []]) := by
    have ei' : f_Canvas___init__ (D.ref h.length :: ([d, e] ++ [])) (h ++ [.obj 0 []]) = .exc 0 ds (h ++ [.obj 0 []]) := ei
    have e3 : (D.ref h.length :: ([d, e] ++ [])).length = 3 := rfl
    unfold kMake
    rw [if_pos e3, ei']
    rfl
  have k2 : eMake 0 4 3 f_Canvas___init__ fa [] δ h = .exc 0 ds (h ++ [.obj 0 []]) := by
    unfold eMake
    rw [ea, bindOk, k]
  rw [k2]
  exact q ds
theorem saidno_w {t : Nat} {qq : List Nat} {fa : FnA} {d e : D} (s : St o m h N os) (ht : (t, O.tab qq) ∈ os) (pd : plD d = true) (pe : plD e = true) (no : (wholeB d 1 16 && wholeB e 1 12) = false) (ea : ∀ h, fa δ h = .ok [d, e] h) (q : ∀ h', Old h h' → Q sCanvas h') : wr (eLam t qq f__law_said (eMake 0 4 3 f_Canvas___init__ fa []) δ h) X Q := by
  refine said_w (s.get ht) (canvas_no pd pe no (ea _) fun ds => ⟨rfl, q _ ?_⟩)
  exact ((Old.app h [.dead]).trans (Old.app _ _)).put (Nat.le_refl _) _
def oddsD : List D := [.non, .bl true, .bl false, .str [52], .tup [], .tup [.int 4], .lst [.int 4], .dic [] [], .int 0, .int (-1), .int 17, .int 1000, .int 1000000000000000000000000000000, .int (-16), .str [], .tup [.int 4, .int 4]]
theorem odds_all : ∀ d ∈ oddsD, plD d = true ∧ wholeB d 1 16 = false ∧ wholeB d 1 12 = false := by
  intro d hd
  simp only [oddsD, List.mem_cons, List.not_mem_nil, or_false] at hd
  rcases hd with rfl | rfl | rfl | rfl | rfl | rfl | rfl | rfl | rfl | rfl | rfl | rfl | rfl | rfl | rfl | rfl <;> refine ⟨rfl, ?_, ?_⟩ <;> rfl
theorem pick3 {ds : List D} {v : Int} (v0 : 0 ≤ v) (v1 : v < ds.length) (h : Hh) : ∃ d, d ∈ ds ∧ ixA (.lst ds) (.int v) h = .ok d h := by
  have hv : v.toNat < ds.length := by omega
  exact ⟨_, List.getElem_mem hv, ixLstAt v0 (List.getElem?_eq_getElem hv)⟩
theorem e_u__law_refused_right_1 {δ : De} {h : Hh} {E : Es} (z : ws ((sSet 1 (eLst (aCons (eC .non) (aCons (eC (.bl true)) (aCons (eC (.bl false)) (aCons (eC (.str [52])) (aCons (eTup aNil) (aCons (eTup (aCons (eC (.int 4)) aNil)) (aCons (eLst (aCons (eC (.int 4)) aNil)) (aCons (eDic0 false) (aCons (eC (.int 0)) (aCons (eUn negD (eC (.int 1))) (aCons (eC (.int 17)) (aCons (eC (.int 1000)) (aCons (eBin powD (eC (.int 10)) (eC (.int 30))) (aCons (eUn negD (eC (.int 16))) (aCons (eC (.str [])) (aCons (eTup (aCons (eC (.int 4)) (aCons (eC (.int 4)) aNil))) aNil)))))))))))))))))) δ h) E) : ws (u__law_refused_right_1 δ h) E := z
theorem e_u__law_refused_right_2 {δ : De} {h : Hh} {E : Es} (z : ws ((sAsg (gTupD 3 (gsCons (gSet 2) (gsCons (gSet 3) (gsCons (gSet 4) gsNil)))) (eTup (aCons (eBin ixA (eVar 1) (eCall 2 f__law_next (aCons (eVar 0) (aCons (eC (.int 16)) aNil)) [])) (aCons (eBin ixA (eVar 1) (eCall 2 f__law_next (aCons (eVar 0) (aCons (eC (.int 16)) aNil)) [])) (aCons (eBin addD (eC (.int 1)) (eCall 2 f__law_next (aCons (eVar 0) (aCons (eC (.int 12)) aNil)) [])) aNil))))) δ h) E) : ws (u__law_refused_right_2 δ h) E := z
theorem e_u__law_refused_right_3 {δ : De} {h : Hh} {E : Es} (z : ws ((sSet 5 (eLstM (aCons (eLam 0 q__law_refused_right f__law_said (eMake 0 4 3 f_Canvas___init__ (aCons (eVar 2) (aCons (eVar 4) aNil)) [])) aNil))) δ h) E) : ws (u__law_refused_right_3 δ h) E := z
theorem e_u__law_refused_right_4 {δ : De} {h : Hh} {E : Es} (z : ws ((sExpr (eM appendM (eVar 5) (aCons (eLam 0 q__law_refused_right f__law_said (eMake 0 4 3 f_Canvas___init__ (aCons (eVar 4) (aCons (eVar 2) aNil)) [])) aNil))) δ h) E) : ws (u__law_refused_right_4 δ h) E := z
theorem e_u__law_refused_right_5 {δ : De} {h : Hh} {E : Es} (z : ws ((sExpr (eM appendM (eVar 5) (aCons (eLam 0 q__law_refused_right f__law_said (eMake 0 4 3 f_Canvas___init__ (aCons (eVar 2) (aCons (eVar 3) aNil)) [])) aNil))) δ h) E) : ws (u__law_refused_right_5 δ h) E := z
theorem e_u__law_refused_right_6 {δ : De} {h : Hh} {E : Es} (z : ws ((sExpr (eM appendM (eVar 5) (aCons (eLam 0 q__law_refused_right f__law_said (eMake 0 4 3 f_Canvas___init__ (aCons (eVar 4) (aCons (eC (.int 13)) aNil)) [])) aNil))) δ h) E) : ws (u__law_refused_right_6 δ h) E := z
theorem e_u__law_refused_right_7 {δ : De} {h : Hh} {E : Es} (z : ws ((sExpr (eM appendM (eVar 5) (aCons (eLam 0 q__law_refused_right f__law_said (eMake 0 4 3 f_Canvas___init__ (aCons (eC (.int 17)) (aCons (eVar 4) aNil)) [])) aNil))) δ h) E) : ws (u__law_refused_right_7 δ h) E := z
theorem e_u__law_refused_right_8 {δ : De} {h : Hh} {E : Es} (z : ws ((sExpr (eM appendM (eVar 5) (aCons (eLam 0 q__law_refused_right f__law_said (eMake 0 4 3 f_Canvas___init__ (aCons (eVar 4) (aCons (eC (.int 0)) aNil)) [])) aNil))) δ h) E) : ws (u__law_refused_right_8 δ h) E := z
theorem e_u__law_refused_right_9 {δ : De} {h : Hh} {E : Es} (z : ws ((sRet (eBin eqD (eVar 5) (eBin mulD (eLst (aCons (eC (.str [99, 97, 110, 118, 97, 115])) aNil)) (eC (.int 6))))) δ h) E) : ws (u__law_refused_right_9 δ h) E := z
theorem refused_w (s : St o m h N os) (hN : 3 ≤ N) (ht : (0, O.tab q__law_refused_right) ∈ os) (q : ∀ h', St o m h' (N - 3) os → Q (.bl true) h') : wr (f__law_refused_right [.ref m] h) X Q := by
  unfold f__law_refused_right
  with_reducible refine w_run (δ := [some (.ref m), none, none, none, none, none]) ?_ ?_
  · rfl
  unfold u__law_refused_right
  refine s_seq ?_
  with_reducible refine e_u__law_refused_right_1 ?_
  refine s_set (wr_ok (x := .lst oddsD) (h := h) (by kernel_rfl) ?_)
  show ws (sSeq u__law_refused_right_2 (sSeq u__law_refused_right_3 (sSeq u__law_refused_right_4 (sSeq u__law_refused_right_5 (sSeq u__law_refused_right_6 (sSeq u__law_refused_right_7 (sSeq u__law_refused_right_8 u__law_refused_right_9)))))) [some (.ref m), some (.lst oddsD), none, none, none, none] h) _
  refine s_seq ?_
  with_reducible refine e_u__law_refused_right_2 ?_
  refine s_asg (w_tup (w_cons (w_bin (w_var rfl (w_call0 (wr_ok (x := [.ref m, .int 16]) (h := h) rfl (w_eqn rfl ?_)))))))
  refine w_next s (by omega) (by omega) (by omega) fun v h1 v0 v1 s1 => ?_
  obtain ⟨d, hd, ed⟩ := pick3 (ds := oddsD) v0 v1 h1
  refine wr_ok ed (w_cons (w_bin (w_var rfl (w_call0 (wr_ok (x := [.ref m, .int 16]) (h := h1) rfl (w_eqn rfl ?_))))))
  refine w_next s1 (by omega) (by omega) (by omega) fun u h2 u0 u1 s2 => ?_
  obtain ⟨e, he, ee⟩ := pick3 (ds := oddsD) u0 u1 h2
  refine wr_ok ee (w_cons (w_bin (w_c (w_call0 (wr_ok (x := [.ref m, .int 12]) (h := h2) rfl (w_eqn rfl ?_))))))
  refine w_next s2 (by omega) (by omega) (by omega) fun g h3 g0 g1 s3 => ?_
  refine w_addI (w_nil (w_le (by simp) ?_))
  obtain ⟨gd, eg⟩ : ∃ gd, gd = 1 + g := ⟨_, rfl⟩
  rw [← eg]
  obtain ⟨pd, nd16, nd12⟩ := odds_all d hd
  obtain ⟨pe, ne16, ne12⟩ := odds_all e he
  have pg : plD (.int gd) = true := rfl
  refine ⟨[some (.ref m), some (.lst oddsD), some d, some e, some (.int gd), none], rfl, ?_⟩
  have t3 : N - 1 - 1 - 1 = N - 3 := by omega
  rw [t3] at s3
  have hs := fun {ha : Hh} (os' : List (Nat × O)) (sa : St o m ha (N - 3) (os' ++ os)) => List.mem_append_right os' ht
  refine s_seq ?_
  with_reducible refine e_u__law_refused_right_3 ?_
  refine s_set (w_lstM (w_cons ?_))
  refine saidno_w (d := d) (e := .int gd) s3 ht pd pg (by rw [nd16]; rfl) (fun _ => rfl) fun h4 o4 => ?_
  refine w_nil (w_le (by simp) ?_)
  have s4 := (s3.old o4).new (.lst [sCanvas])
  have n4 := osn_of (s3.old o4)
  generalize h4.length = n at s4 n4 ⊢
  generalize h4 ++ [O.lst [sCanvas]] = h5 at s4 ⊢
  have more : ∀ {ha : Hh} {l : List D} {fa : FnA} {x y : D} {E : Es}, l.length ≤ 20 → St o m ha (N - 3) ((n, .lst l) :: os) → plD x = true → plD y = true → (wholeB x 1 16 && wholeB y 1 12) = false → (∀ h, fa [some (.ref m), some (.lst oddsD), some d, some e, some (.int gd), some (.ref n)] h = .ok [x, y] h) →
      (∀ hb, St o m hb (N - 3) ((n, .lst (l ++ [sCanvas])) :: os) → E.nx [some (.ref m), some (.lst oddsD), some d, some e, some (.int gd), some (.ref n)] hb) →
      ws (sExpr (eM appendM (eVar 5) (aCons (eLam 0 q__law_refused_right f__law_said (eMake 0 4 3 f_Canvas___init__ fa [])) aNil)) [some (.ref m), some (.lst oddsD), some d, some e, some (.int gd), some (.ref n)] ha) E := fun {ha l fa x y E} hl sa px py no ef k => by
    refine s_expr (w_app rfl (sa.get (List.Mem.head _)) (by omega) ?_)
    refine saidno_w (d := x) (e := y) sa (List.mem_cons_of_mem _ ht) px py no ef fun hb ob => ?_
    have sb := sa.old ob
    exact ⟨sb.get (List.Mem.head _), k _ (sb.put n4 _)⟩
  show ws (sSeq u__law_refused_right_4 (sSeq u__law_refused_right_5 (sSeq u__law_refused_right_6 (sSeq u__law_refused_right_7 (sSeq u__law_refused_right_8 u__law_refused_right_9)))) [some (.ref m), some (.lst oddsD), some d, some e, some (.int gd), some (.ref n)] h5) _
  refine s_seq ?_
  with_reducible refine e_u__law_refused_right_4 ?_
  refine more (by simp) s4 pg pd (by rw [nd12, Bool.and_false]) (fun _ => rfl) fun h6 s6 => ?_
  show ws (sSeq u__law_refused_right_5 (sSeq u__law_refused_right_6 (sSeq u__law_refused_right_7 (sSeq u__law_refused_right_8 u__law_refused_right_9))) [some (.ref m), some (.lst oddsD), some d, some e, some (.int gd), some (.ref n)] h6) _
  refine s_seq ?_
  with_reducible refine e_u__law_refused_right_5 ?_
  refine more (by simp) s6 pd pe (by rw [nd16]; rfl) (fun _ => rfl) fun h7 s7 => ?_
  show ws (sSeq u__law_refused_right_6 (sSeq u__law_refused_right_7 (sSeq u__law_refused_right_8 u__law_refused_right_9)) [some (.ref m), some (.lst oddsD), some d, some e, some (.int gd), some (.ref n)] h7) _
  refine s_seq ?_
  with_reducible refine e_u__law_refused_right_6 ?_
  refine more (x := .int gd) (y := .int 13) (by simp) s7 pg rfl (by rw [show wholeB (.int 13) 1 12 = false from rfl, Bool.and_false]) (fun _ => rfl) fun h8 s8 => ?_
  show ws (sSeq u__law_refused_right_7 (sSeq u__law_refused_right_8 u__law_refused_right_9) [some (.ref m), some (.lst oddsD), some d, some e, some (.int gd), some (.ref n)] h8) _
  refine s_seq ?_
  with_reducible refine e_u__law_refused_right_7 ?_
  refine more (x := .int 17) (y := .int gd) (by simp) s8 rfl pg rfl (fun _ => rfl) fun h9 s9 => ?_
  show ws (sSeq u__law_refused_right_8 u__law_refused_right_9 [some (.ref m), some (.lst oddsD), some d, some e, some (.int gd), some (.ref n)] h9) _
  refine s_seq ?_
  with_reducible refine e_u__law_refused_right_8 ?_
  refine more (x := .int gd) (y := .int 0) (by simp) s9 pg rfl (by rw [show wholeB (.int 0) 1 12 = false from rfl, Bool.and_false]) (fun _ => rfl) fun h10 s10 => ?_
  show ws (u__law_refused_right_9 [some (.ref m), some (.lst oddsD), some d, some e, some (.int gd), some (.ref n)] h10) _
  with_reducible refine e_u__law_refused_right_9 ?_
  refine s_ret (w_bin (w_var rfl (wr_ok (x := .lst [sCanvas, sCanvas, sCanvas, sCanvas, sCanvas, sCanvas]) (h := h10) (by kernel_rfl) ?_)))
  refine wr_ok (eq_told (s10.get (List.Mem.head _)) (eqSame rfl rfl)) ?_
  exact q h10 (s10.sub (Nat.le_refl _) fun p hp => List.mem_cons_of_mem _ hp)
end
end
section
theorem rg_at {n j : Nat} {d : D} (e : (rgD 0 n)[j]? = some d) : j < n ∧ d = .int (j : Int) := by
  obtain ⟨hj, e2⟩ := List.getElem?_eq_some_iff.mp e
  have hl : (rgD 0 n).length = n := by simp [rgD]
  rw [hl] at hj
  refine ⟨hj, ?_⟩
  rw [← e2]; simp [rgD]
theorem fl_pls (k : Nat) : ∀ l : List (Int × Int), flats (k + 1) (l.map pl) = true
  | [] => by simp [flats]
  | s :: l => by rw [List.map_cons]; simp only [flats, fl_pls k l, Bool.and_true]; simp [pl, flat, flats]
def prs (w j : Nat) : List (Int × Int) := (List.range j).flatMap fun y : Nat => (List.range w).map fun x : Nat => ((x : Int), (y : Int))
theorem prs_snoc (w j : Nat) : prs w (j + 1) = prs w j ++ (List.range w).map fun x : Nat => ((x : Int), (j : Int)) := by
  unfold prs
  rw [List.range_succ, List.flatMap_append]
  simp
def psB (w hh : Nat) : Bool := decide (ptsL w 0 hh = prs w hh) && (smallDs ((prs w hh).map pl) && (decide (wtDs ((prs w hh).map pl) ≤ 300000) && decide ((prs w hh).length = w * hh)))
theorem psB_all : ∀ w ∈ List.range 17, ∀ hh ∈ List.range 13, 1 ≤ w → 1 ≤ hh → psB w hh = true := by decide +kernel
structure Ps (w hh : Nat) : Prop where
  eq : ptsL w 0 hh = prs w hh
  sm : smallDs ((prs w hh).map pl) = true
  wt : wtDs ((prs w hh).map pl) ≤ 300000
  ln : (prs w hh).length = w * hh
theorem ps_ok {w hh : Nat} (h1 : 1 ≤ w ∧ w ≤ 16) (h2 : 1 ≤ hh ∧ hh ≤ 12) : Ps w hh := by
  have q := psB_all w (List.mem_range.mpr (by omega)) hh (List.mem_range.mpr (by omega)) h1.1 h2.1
  unfold psB at q
  simp only [Bool.and_eq_true] at q
  obtain ⟨q1, q2, q3, q4⟩ := q
  exact ⟨of_decide_eq_true q1, q2, of_decide_eq_true q3, of_decide_eq_true q4⟩
theorem prs_le {w j hh : Nat} (h1 : w ≤ 16) (hj : j ≤ hh) (h2 : hh ≤ 12) : (prs w j).length ≤ 192 := by
  have e : ∀ j, (prs w j).length = j * w := fun j => by
    induction j with
    | zero => simp [prs]
    | succ j ih => rw [prs_snoc, List.length_append, ih, List.length_map, List.length_range, Nat.succ_mul]
  rw [e]
  exact Nat.le_trans (Nat.mul_le_mul (Nat.le_trans hj h2) h1) (by decide)
section
variable {X : Nat → List D → Hh → Prop} {Q : D → Hh → Prop} {h : Hh} {o m N : Nat} {os : List (Nat × O)} {δ : De}
theorem placesC (w hh T : Nat) (h : Hh) : f_Canvas_places [cnv w hh T] h = .ok (.tup ((ptsL w 0 hh).map pl)) h := rfl
theorem e_u__law_places_right_1 {δ : De} {h : Hh} {E : Es} (z : ws ((sSet 3 (eLst aNil)) δ h) E) : ws (u__law_places_right_1 δ h) E := z
theorem e_u__law_places_right_2_1 {δ : De} {h : Hh} {E : Es} (z : ws ((sSet 3 (eBin addD (eVar 3) (eLc false (iRg1 (eVar 1)) (gSet 6) tYes3 (eTup (aCons (eVar 6) (aCons (eVar 4) aNil))) [6]))) δ h) E) : ws (u__law_places_right_2_1 δ h) E := z
theorem e_u__law_places_right_2 {δ : De} {h : Hh} {E : Es} (z : ws ((sFor (iRg1 (eVar 2)) (gSet 4) u__law_places_right_2_1) δ h) E) : ws (u__law_places_right_2 δ h) E := z
theorem e_u__law_places_right_3_1 {δ : De} {h : Hh} {E : Es} (z : ws ((sIf (tOr3 (eTest (eBin neD (eB reprB (aCons (eMeth 0 1 f_Canvas_places (eVar 0) aNil []) aNil)) (eB reprB (aCons (eB tupleB (aCons (eVar 3) aNil)) aNil)))) (eTest (eBin neD (eB reprB (aCons (eLc false (iOwn 0 ix_own_places (eVar 0)) (gSet 7) tYes3 (eVar 7) [7]) aNil)) (eB reprB (aCons (eVar 3) aNil))))) u__law_places_right_3_1_a_1 sNil) δ h) E) : ws (u__law_places_right_3_1 δ h) E := z
theorem e_u__law_places_right_3 {δ : De} {h : Hh} {E : Es} (z : ws ((sFor (iRg1 (eC (.int 2))) (gSet 5) u__law_places_right_3_1) δ h) E) : ws (u__law_places_right_3 δ h) E := z
theorem e_u__law_places_right_4 {δ : De} {h : Hh} {E : Es} (z : ws ((sRet (eAnd (eBin eqD (eB lenB (aCons (eB (listOB 0 ix_own_places) (aCons (eVar 0) aNil)) aNil)) (eBin mulD (eVar 1) (eVar 2))) (eBin (inOwn 0 ix_own_places) (eBin ixA (eVar 3) (eUn negD (eC (.int 1)))) (eVar 0)))) δ h) E) : ws (u__law_places_right_4 δ h) E := z
theorem places_w {w hh T : Nat} {dw dh : D} (ew : dw = .int (w : Int)) (eh : dh = .int (hh : Int)) (h1 : 1 ≤ w ∧ w ≤ 16) (h2 : 1 ≤ hh ∧ hh ≤ 12) (q : Q (.bl true) h) : wr (f__law_places_right [cnv w hh T, dw, dh] h) X Q := by
  have P := ps_ok h1 h2
  unfold f__law_places_right
  with_reducible refine w_run (δ := [some (cnv w hh T), some dw, some dh, none, none, none, none, none]) ?_ ?_
  · rfl
  unfold u__law_places_right
  refine s_seq ?_
  with_reducible refine e_u__law_places_right_1 ?_
  refine s_set (w_lst (w_nil (w_le (by simp) ?_)))
  show ws (sSeq u__law_places_right_2 (sSeq u__law_places_right_3 u__law_places_right_4) [some (cnv w hh T), some dw, some dh, some (.lst []), none, none, none, none] h) _
  refine s_seq ?_
  with_reducible refine e_u__law_places_right_2 ?_
  refine s_for (w_rg1 (w_var rfl ⟨hh, eh, by omega, ?_⟩))
  refine s_loop (fun j δ h' => ∃ x4, δ = [some (cnv w hh T), some dw, some dh, some (.lst ((prs w j).map pl)), x4, none, none, none] ∧ h' = h) _ 0 _ _ ⟨none, rfl, rfl⟩ ?_ ?_
  · rintro j d ed δ h' ⟨x4, rfl, rfl⟩
    rw [Nat.zero_add]
    obtain ⟨kj, rfl⟩ := rg_at ed
    refine ⟨[some (cnv w hh T), some dw, some dh, some (.lst ((prs w j).map pl)), some (.int (j : Int)), none, none, none], rfl, ?_⟩
    with_reducible refine e_u__law_places_right_2_1 ?_
    refine s_set (w_bin (w_var rfl (w_lc (w_rg1 (w_var rfl ⟨w, ew, by omega, ?_⟩)))))
    refine w_map (α := Nat) (fun i => D.int ((0 : Int) + i)) (fun i => pl ((i : Int), (j : Int))) (fun hz => hz = h') (List.range w) _ _ rfl (fun i hi hz ez => ?_) fun hz ez => ?_
    · subst ez
      refine ⟨[some (cnv w hh T), some dw, some dh, some (.lst ((prs w j).map pl)), some (.int (j : Int)), none, some (.int ((0 : Int) + i)), none], rfl, ?_⟩
      refine w_tup (w_cons (w_var rfl (w_cons (w_var rfl (w_nil (w_le (by simp) ⟨?_, rfl⟩))))))
      show D.tup _ = D.tup _
      rw [Int.zero_add]
    · subst ez
      refine w_le (by rw [List.length_map, List.length_range]; omega) ?_
      have l1 := prs_le h1.2 (Nat.le_of_lt kj) h2.2
      have l2 : ((prs w j).map pl).length + ((List.range w).map fun i : Nat => pl ((i : Int), (j : Int))).length ≤ 1000 := by rw [List.length_map, List.length_map, List.length_range]; omega
      refine wr_ok (addLL _ _ l2 hz) ?_
      have e : (prs w j).map pl ++ ((List.range w).map fun i : Nat => pl ((i : Int), (j : Int))) = (prs w (j + 1)).map pl := by rw [prs_snoc, List.map_append, List.map_map]; rfl
      rw [e]
      exact ⟨_, rfl, rfl⟩
  rintro δ h' ⟨x4, rfl, rfl⟩
  have rl : (rgD 0 hh).length = hh := by simp [rgD]
  rw [Nat.zero_add, rl]
  have dt : deref h' (.tup ((prs w hh).map pl)) = .tup ((prs w hh).map pl) := rfl
  have dl : deref h' (.lst ((prs w hh).map pl)) = .lst ((prs w hh).map pl) := rfl
  have ft : flat 60 (.tup ((prs w hh).map pl)) = true := by simp only [flat]; exact fl_pls 58 _
  have fl : flat 60 (.lst ((prs w hh).map pl)) = true := by simp only [flat]; exact fl_pls 58 _
  have st : smallD (.tup ((prs w hh).map pl)) = true := by simp only [smallD]; exact P.sm
  have sl : smallD (.lst ((prs w hh).map pl)) = true := by simp only [smallD]; exact P.sm
  have wt : wtD (.tup ((prs w hh).map pl)) ≤ 300000 := by simp only [wtD]; exact P.wt
  have wl : wtD (.lst ((prs w hh).map pl)) ≤ 300000 := by simp only [wtD]; exact P.wt
  have rt : reprB [.tup ((prs w hh).map pl)] h' = .ok (.str (showL (.tup ((prs w hh).map pl)))) h' := repr_gen dt ft st wt
  have rl2 : reprB [.lst ((prs w hh).map pl)] h' = .ok (.str (showL (.lst ((prs w hh).map pl)))) h' := repr_gen dl fl sl wl
  have pc := placesC w hh T h'
  rw [P.eq] at pc
  have ow : ∀ δ : De, δ[0]? = some (some (cnv w hh T)) → iOwn 0 ix_own_places (eVar 0) δ h' = .ok ((prs w hh).map pl) h' := fun δ e => by
    unfold iOwn
    rw [eVar_ok e, ← P.eq]; rfl
  have l192 := prs_le (w := w) h1.2 (Nat.le_refl hh) h2.2
  show ws (sSeq u__law_places_right_3 u__law_places_right_4 [some (cnv w hh T), some dw, some dh, some (.lst ((prs w hh).map pl)), x4, none, none, none] h') _
  refine s_seq ?_
  with_reducible refine e_u__law_places_right_3 ?_
  refine s_for (w_rg1 (w_c ⟨2, rfl, by omega, ?_⟩))
  refine s_loop (fun j δ hz => ∃ x5, δ = [some (cnv w hh T), some dw, some dh, some (.lst ((prs w hh).map pl)), x4, x5, none, none] ∧ hz = h') _ 0 _ _ ⟨none, rfl, rfl⟩ ?_ ?_
  · rintro j d ed δ hz ⟨x5, rfl, rfl⟩
    refine ⟨[some (cnv w hh T), some dw, some dh, some (.lst ((prs w hh).map pl)), x4, some d, none, none], rfl, ?_⟩
    with_reducible refine e_u__law_places_right_3_1 ?_
    refine s_if (w_or (w_test (w_bin (w_b (w_cons (w_meth0 (w_var rfl (w_eqn rfl (w_nil (w_eqn rfl (wr_ok pc (w_nil (wr_ok rt ?_)))))))))))))
    refine w_b (w_cons (w_b (w_cons (w_var rfl (w_nil (wr_ok (x := .tup ((prs w hh).map pl)) (h := hz) rfl (w_nil (wr_ok rt ?_))))))))
    refine neSs (w_tst (w_f ?_))
    refine w_test (w_bin (w_b (w_cons (w_lc (wr_ok (ow _ rfl) ?_)))))
    refine w_map (α := Int × Int) pl pl (fun hy => hy = hz) (prs w hh) _ _ rfl (fun i hi hy ey => ?_) fun hy ey => ?_
    · exact ⟨_, rfl, w_var rfl ⟨rfl, ey⟩⟩
    · subst ey
      refine w_le (by rw [List.length_map]; omega) (w_nil (wr_ok rl2 ?_))
      refine w_b (w_cons (w_var rfl (w_nil (wr_ok rl2 ?_))))
      exact neSs (w_tst (w_f (s_nil ⟨_, rfl, rfl⟩)))
  rintro δ hz ⟨x5, rfl, rfl⟩
  dsimp only [Es.sq]
  with_reducible refine e_u__law_places_right_4 ?_
  have lo : (eB (listOB 0 ix_own_places) (aCons (eVar 0) aNil)) [some (cnv w hh T), some dw, some dh, some (.lst ((prs w hh).map pl)), x4, x5, none, none] hz = .ok (.lst ((prs w hh).map pl)) hz := by
    refine (eB_ok (xs := [cnv w hh T]) rfl).trans ?_
    rw [← P.eq]; rfl
  refine s_ret (w_eand (w_bin (w_b (w_cons (wr_ok lo (w_nil (wr_ok (x := .int (((prs w hh).map pl).length : Nat)) (h := hz) rfl ?_)))))))
  rw [List.length_map, P.ln]
  have mu : mulD dw dh hz = .ok (.int ((w : Int) * (hh : Int))) hz := by rw [ew, eh]; exact mulL hz (by omega) (by omega)
  refine w_bin (w_var rfl (w_var rfl (wr_ok mu ?_)))
  rw [show ((w : Int) * (hh : Int)) = ((w * hh : Nat) : Int) by rw [Int.natCast_mul]]
  refine w_eqI ?_
  rw [decide_eq_true rfl]
  refine w_tst (w_t ?_)
  have pos : 0 < (prs w hh).length := by rw [P.ln]; exact Nat.mul_pos (by omega) (by omega)
  obtain ⟨z, ez⟩ : ∃ z, (prs w hh)[(prs w hh).length - 1]? = some z := ⟨_, List.getElem?_eq_getElem (by omega)⟩
  have lst : ixA (.lst ((prs w hh).map pl)) (.int (-1)) hz = .ok (pl z) hz := by
    have e2 : ((prs w hh).map pl)[((-1 : Int) + (((prs w hh).map pl).length : Nat)).toNat]? = some (pl z) := by
      rw [List.length_map, show ((-1 : Int) + ((prs w hh).length : Nat)).toNat = (prs w hh).length - 1 by omega, List.getElem?_map, ez]; rfl
    have b : atI ((prs w hh).map pl) (-1) = some (pl z) := by
      unfold atI ixN
      rw [if_neg (by omega)]
      have : 0 ≤ (-1 : Int) + (((prs w hh).map pl).length : Nat) := by rw [List.length_map]; omega
      first | rw [if_pos (by omega)]; exact e2 | (simp [e2]; omega)
    show (match atI ((prs w hh).map pl) (-1) with
      | some d => R.ok d hz
      | none => .stk) = _
    rw [b]
  refine w_bin (w_bin (w_var rfl (wr_ok (x := .int (-1)) (h := hz) rfl (wr_ok lst (w_var rfl ?_)))))
  have hin : inOwn 0 ix_own_places (pl z) (cnv w hh T) hz = .ok (.bl true) hz := by
    have k : kOwn 0 ix_own_places (cnv w hh T) hz = .ok ((prs w hh).map pl) hz := by rw [← P.eq]; rfl
    unfold inOwn
    rw [k, bindOk, if_pos ⟨by simp [pl, flat, flats], fl_pls 49 _⟩]
    have : (((prs w hh).map pl).any fun y => eqv y (pl z)) = true := List.any_eq_true.mpr ⟨pl z, List.mem_map.mpr ⟨z, List.mem_of_getElem? ez, rfl⟩, eqvSame (by simp [pl, flat, flats])⟩
    rw [this]
  exact wr_ok hin q
end
end
section
section
variable {X : Nat → List D → Hh → Prop} {Q : D → Hh → Prop} {h : Hh} {o m N : Nat} {os : List (Nat × O)} {δ : De}
abbrev prD (a b : Int × Int) : D := .tup [pl a, pl b]
theorem fl_prs (k : Nat) : ∀ l : List D, (∀ d ∈ l, ∃ a b, d = prD a b) → flats (k + 2) l = true
  | [], _ => by simp [flats]
  | s :: l, a => by
    obtain ⟨x, y, rfl⟩ := a s (by simp)
    simp only [flats, fl_prs k l fun d hd => a d (by simp [hd]), Bool.and_true]
    simp [pl, flat, flats]
def prsT (ps : List (Int × Int)) (i : Nat) : List D := (ps.take i).flatMap fun a => ps.map (prD a)
theorem prsT_snoc {ps : List (Int × Int)} {i : Nat} {a : Int × Int} (e : ps[i]? = some a) : prsT ps (i + 1) = prsT ps i ++ ps.map (prD a) := by
  unfold prsT
  rw [List.take_succ, e, List.flatMap_append]; simp
theorem prsT_len (ps : List (Int × Int)) : ∀ i, i ≤ ps.length → (prsT ps i).length = i * ps.length
  | 0, _ => by simp [prsT]
  | i + 1, l => by
    have e : ps[i]? = some ps[i] := List.getElem?_eq_getElem (by omega)
    rw [prsT_snoc e, List.length_append, prsT_len ps i (by omega), List.length_map, Nat.succ_mul]
theorem prsT_in {ps : List (Int × Int)} {i : Nat} : ∀ d ∈ prsT ps i, ∃ a b, d = prD a b := fun d hd => by
  obtain ⟨a, _, hb⟩ := List.mem_flatMap.mp hd
  obtain ⟨b, _, rfl⟩ := List.mem_map.mp hb
  exact ⟨a, b, rfl⟩
theorem e_u__law_walks_right_1 {δ : De} {h : Hh} {E : Es} (z : ws ((sPar [2, 3, 4] (aCons (eMake 0 4 3 f_Canvas___init__ (aCons (eVar 0) (aCons (eVar 1) aNil)) []) (aCons (eLstM aNil) (aCons (eLst aNil) aNil)))) δ h) E) : ws (u__law_walks_right_1 δ h) E := z
theorem e_u__law_walks_right_2_1_1 {δ : De} {h : Hh} {E : Es} (z : ws ((sExpr (eM appendM (eVar 3) (aCons (eTup (aCons (eVar 5) (aCons (eVar 6) aNil))) aNil))) δ h) E) : ws (u__law_walks_right_2_1_1 δ h) E := z
theorem e_u__law_walks_right_2_1 {δ : De} {h : Hh} {E : Es} (z : ws ((sFor (iOwn 0 ix_own_places (eVar 2)) (gSet 6) u__law_walks_right_2_1_1) δ h) E) : ws (u__law_walks_right_2_1 δ h) E := z
theorem e_u__law_walks_right_2 {δ : De} {h : Hh} {E : Es} (z : ws ((sFor (iOwn 0 ix_own_places (eVar 2)) (gSet 5) u__law_walks_right_2_1) δ h) E) : ws (u__law_walks_right_2 δ h) E := z
theorem e_u__law_walks_right_3_1 {δ : De} {h : Hh} {E : Es} (z : ws ((sSet 4 (eBin addD (eVar 4) (eLcW false (wSeq (eMeth 0 1 f_Canvas_places (eVar 2) aNil [])) (gSet 6) tYes3 (eTup (aCons (eVar 5) (aCons (eVar 6) aNil))) [6]))) δ h) E) : ws (u__law_walks_right_3_1 δ h) E := z
theorem e_u__law_walks_right_3 {δ : De} {h : Hh} {E : Es} (z : ws ((sForW (wSeq (eMeth 0 1 f_Canvas_places (eVar 2) aNil [])) (gSet 5) u__law_walks_right_3_1) δ h) E) : ws (u__law_walks_right_3 δ h) E := z
theorem e_u__law_walks_right_4 {δ : De} {h : Hh} {E : Es} (z : ws ((sRet (eAnd (eBin eqD (eVar 3) (eVar 4)) (eBin eqD (eB lenB (aCons (eVar 3) aNil)) (eBin mulD (eBin mulD (eBin mulD (eVar 0) (eVar 1)) (eVar 0)) (eVar 1))))) δ h) E) : ws (u__law_walks_right_4 δ h) E := z
theorem walks_w {w hh : Nat} {dw dh : D} (ew : dw = .int (w : Int)) (eh : dh = .int (hh : Int)) (h1 : 1 ≤ w ∧ w ≤ 3) (h2 : 1 ≤ hh ∧ hh ≤ 3) (s : St o m h N os) (q : ∀ h', St o m h' N os → Q (.bl true) h') : wr (f__law_walks_right [dw, dh] h) X Q := by
  have P := ps_ok (w := w) (hh := hh) (by omega) (by omega)
  unfold f__law_walks_right
  with_reducible refine w_run (δ := [some dw, some dh, none, none, none, none, none]) ?_ ?_
  · rfl
  unfold u__law_walks_right
  refine s_seq ?_
  with_reducible refine e_u__law_walks_right_1 ?_
  refine s_par (w_cons (canvas_w (w := w) (hh := hh) (by omega) (by omega) (wr_ok (x := [dw, dh]) (h := h) rfl ⟨by rw [ew, eh], fun T h3 o3 => ?_⟩)))
  refine w_cons (w_lstM (w_nil (w_le (by simp) (w_cons (w_lst (w_nil (w_le (by simp) (w_nil (w_eqn rfl ?_)))))))))
  have s3 := (s.old o3).new (.lst [])
  have n3 := osn_of (s.old o3)
  generalize h3.length = n at s3 n3 ⊢
  generalize h3 ++ [O.lst []] = h4 at s3 ⊢
  have ow : ∀ (δ : De) (hz : Hh), δ[2]? = some (some (cnv w hh T)) → iOwn 0 ix_own_places (eVar 2) δ hz = .ok ((prs w hh).map pl) hz := fun δ hz e => by
    unfold iOwn
    rw [eVar_ok e, ← P.eq]; rfl
  have pc : ∀ hz, f_Canvas_places [cnv w hh T] hz = .ok (.tup ((prs w hh).map pl)) hz := fun hz => by rw [← P.eq]; rfl
  have l9 : (prs w hh).length ≤ 9 := by rw [P.ln]; exact Nat.mul_le_mul h1.2 h2.2
  have ln := P.ln
  generalize prs w hh = ps at ow pc l9 ln
  have pm : ∀ {i : Nat} {d : D}, (ps.map pl)[i]? = some d → ∃ a, ps[i]? = some a ∧ d = pl a := fun {i d} e => by
    rw [List.getElem?_map] at e
    obtain ⟨a, ea, rfl⟩ := Option.map_eq_some_iff.mp e
    exact ⟨a, ea, rfl⟩
  have bl : ∀ i, i ≤ ps.length → (prsT ps i).length ≤ 81 := fun i hi => by
    rw [prsT_len ps i hi]; exact Nat.mul_le_mul (Nat.le_trans hi l9) l9
  show ws (sSeq u__law_walks_right_2 (sSeq u__law_walks_right_3 u__law_walks_right_4) [some dw, some dh, some (cnv w hh T), some (.ref n), some (.lst []), none, none] h4) _
  refine s_seq ?_
  with_reducible refine e_u__law_walks_right_2 ?_
  refine s_for (wr_ok (ow _ _ rfl) ?_)
  refine s_loop (fun i δ hz => (∃ x5 x6, δ = [some dw, some dh, some (cnv w hh T), some (.ref n), some (.lst []), x5, x6]) ∧ St o m hz N ((n, .lst (prsT ps i)) :: os)) _ 0 _ _ ⟨⟨none, none, rfl⟩, s3⟩ ?_ ?_
  · rintro i d ed δ hz ⟨⟨x5, x6, rfl⟩, sz⟩
    rw [Nat.zero_add] at sz ⊢
    obtain ⟨a, ea, rfl⟩ := pm ed
    have il := (List.getElem?_eq_some_iff.mp ea).1
    refine ⟨[some dw, some dh, some (cnv w hh T), some (.ref n), some (.lst []), some (pl a), x6], rfl, ?_⟩
    with_reducible refine e_u__law_walks_right_2_1 ?_
    refine s_for (wr_ok (ow _ _ rfl) ?_)
    refine s_loop (fun j δ hy => (∃ x6, δ = [some dw, some dh, some (cnv w hh T), some (.ref n), some (.lst []), some (pl a), x6]) ∧ St o m hy N ((n, .lst (prsT ps i ++ (ps.take j).map (prD a))) :: os)) _ 0 _ _ ⟨⟨x6, rfl⟩, by simpa using sz⟩ ?_ ?_
    · rintro j d2 ed2 δ hy ⟨⟨y6, rfl⟩, sy⟩
      rw [Nat.zero_add] at sy ⊢
      obtain ⟨b, eb, rfl⟩ := pm ed2
      have jl := (List.getElem?_eq_some_iff.mp eb).1
      refine ⟨[some dw, some dh, some (cnv w hh T), some (.ref n), some (.lst []), some (pl a), some (pl b)], rfl, ?_⟩
      with_reducible refine e_u__law_walks_right_2_1_1 ?_
      have gl := sy.get (List.Mem.head _)
      refine s_expr (w_app rfl gl (by rw [List.length_append, List.length_map, List.length_take]; have := bl i (by omega); omega) (wr_ok (x := prD a b) (h := hy) rfl ⟨gl, ?_⟩))
      refine ⟨⟨_, rfl⟩, ?_⟩
      have z := sy.put n3 (.lst (prsT ps i ++ (ps.take j).map (prD a) ++ [prD a b]))
      rw [List.take_succ, eb]
      simpa using z
    · rintro δ hy ⟨⟨y6, rfl⟩, sy⟩
      rw [Nat.zero_add, List.length_map, List.take_length] at sy
      refine ⟨⟨_, _, rfl⟩, ?_⟩
      rw [prsT_snoc ea]
      exact sy
  rintro δ hz ⟨⟨x5, x6, rfl⟩, sz⟩
  rw [Nat.zero_add, List.length_map] at sz
  show ws (sSeq u__law_walks_right_3 u__law_walks_right_4 [some dw, some dh, some (cnv w hh T), some (.ref n), some (.lst []), x5, x6] hz) _
  refine s_seq ?_
  with_reducible refine e_u__law_walks_right_3 ?_
  refine s_forW (w_seqW (w_meth0 (w_var rfl (w_eqn rfl (w_nil (w_eqn rfl (wr_ok (pc hz) ⟨_, .inl rfl, _, rfl, ?_⟩)))))))
  refine s_loop (fun i δ hy => (∃ y5, δ = [some dw, some dh, some (cnv w hh T), some (.ref n), some (.lst (prsT ps i)), y5, x6]) ∧ hy = hz) _ 0 _ _ ⟨⟨x5, rfl⟩, rfl⟩ ?_ ?_
  · rintro i d ed δ hy ⟨⟨y5, rfl⟩, rfl⟩
    rw [Nat.zero_add]
    obtain ⟨a, ea, rfl⟩ := pm ed
    have il := (List.getElem?_eq_some_iff.mp ea).1
    refine ⟨[some dw, some dh, some (cnv w hh T), some (.ref n), some (.lst (prsT ps i)), some (pl a), x6], rfl, ?_⟩
    with_reducible refine e_u__law_walks_right_3_1 ?_
    refine s_set (w_bin (w_var rfl (w_lcW (w_seqW (w_meth0 (w_var rfl (w_eqn rfl (w_nil (w_eqn rfl (wr_ok (pc hy) ⟨_, .inl rfl, _, rfl, ?_⟩))))))))))
    refine w_map (α := Int × Int) pl (prD a) (fun hx => hx = hy) ps _ _ rfl (fun b hb hx ex => ?_) fun hx ex => ?_
    · exact ⟨_, rfl, w_tup (w_cons (w_var rfl (w_cons (w_var rfl (w_nil (w_le (by simp) ⟨rfl, ex⟩))))))⟩
    · subst ex
      refine w_le (by rw [List.length_map]; omega) ?_
      refine wr_ok (addLL _ _ (by rw [List.length_map]; have := bl i (by omega); omega) hx) ?_
      rw [← prsT_snoc ea]
      exact ⟨⟨_, rfl⟩, rfl⟩
  rintro δ hy ⟨⟨y5, rfl⟩, rfl⟩
  rw [Nat.zero_add, List.length_map]
  dsimp only [Es.sq]
  with_reducible refine e_u__law_walks_right_4 ?_
  have gl := sz.get (List.Mem.head _)
  have fl : flat 60 (.lst (prsT ps ps.length)) = true := by simp only [flat]; exact fl_prs 57 _ prsT_in
  refine s_ret (w_eand (w_bin (w_var rfl (w_var rfl (wr_ok (eq_told gl (eqSame rfl fl)) (w_tst (w_t ?_)))))))
  have lb : lenB [.ref n] hy = .ok (.int ((prsT ps ps.length).length : Nat)) hy := by
    show lenD (.ref n) hy = _
    unfold lenD
    dsimp only
    unfold asL
    dsimp only
    rw [gl]
  refine w_bin (w_b (w_cons (w_var rfl (w_nil (wr_ok lb ?_)))))
  rw [prsT_len ps _ (Nat.le_refl _), ln]
  refine w_bin (w_bin (w_bin (w_var rfl (w_var rfl (wr_ok (show mulD dw dh hy = .ok (.int ((w : Int) * hh)) hy by rw [ew, eh]; exact mulL hy (by omega) (by omega)) (w_var rfl ?_))))))
  have b1 : (w : Int) * hh ≤ 9 ∧ 0 ≤ (w : Int) * hh := by
    have : w * hh ≤ 3 * 3 := Nat.mul_le_mul h1.2 h2.2
    rw [← Int.natCast_mul]; omega
  have b2 : (w : Int) * hh * w ≤ 27 ∧ 0 ≤ (w : Int) * hh * w := by
    have : w * hh * w ≤ 3 * 3 * 3 := Nat.mul_le_mul (Nat.mul_le_mul h1.2 h2.2) h1.2
    rw [← Int.natCast_mul, ← Int.natCast_mul]; omega
  have m2 : mulD (.int ((w : Int) * hh)) dw hy = .ok (.int ((w : Int) * hh * w)) hy := by rw [ew]; exact mulL hy (by omega) (by omega)
  have m3 : mulD (.int ((w : Int) * hh * w)) dh hy = .ok (.int ((w : Int) * hh * w * hh)) hy := by rw [eh]; exact mulL hy (by omega) (by omega)
  refine wr_ok m2 (w_var rfl (wr_ok m3 ?_))
  rw [show (w : Int) * hh * w * hh = ((w * hh * (w * hh) : Nat) : Int) by simp only [Int.natCast_mul, Int.mul_assoc]]
  refine w_eqI ?_
  rw [decide_eq_true rfl]
  exact q hy (sz.sub (Nat.le_refl _) fun p hp => List.mem_cons_of_mem _ hp)
end
end
section
section
variable {X : Nat → List D → Hh → Prop} {Q : D → Hh → Prop} {E : Es} {h : Hh} {o m N : Nat} {os : List (Nat × O)} {δ : De}
theorem e_u_Canvas___eq___1 {δ : De} {h : Hh} {E : Es} (z : ws ((sRet (eAnd (eIso 0 (eVar 1)) (eAnd (eBin eqD (eFld ix_width (eVar 0)) (eFld ix_width (eVar 1))) (eBin eqD (eFld ix_height (eVar 0)) (eFld ix_height (eVar 1)))))) δ h) E) : ws (u_Canvas___eq___1 δ h) E := z
theorem e_u_Canvas___eq__ {δ : De} {h : Hh} {E : Es} (z : ws (u_Canvas___eq___1 δ h) E) : ws (u_Canvas___eq__ δ h) E := z
theorem cveq (a b c d T U : Nat) (h : Hh) : f_Canvas___eq__ [cnv a b T, cnv c d U] h = .ok (.bl (decide ((a : Int) = c) && decide ((b : Int) = d))) h := by
  have r : wr (f_Canvas___eq__ [cnv a b T, cnv c d U] h) noE fun x h' => x = .bl (decide ((a : Int) = c) && decide ((b : Int) = d)) ∧ h' = h := by
    refine w_run (δ := [some (cnv a b T), some (cnv c d U)]) rfl ?_
    with_reducible refine e_u_Canvas___eq__ ?_
    with_reducible refine e_u_Canvas___eq___1 ?_
    refine s_ret (w_eand (wr_ok (x := .bl true) (h := h) rfl (w_tst (w_t ?_))))
    refine w_eand (w_bin (wr_ok (x := .int (a : Int)) (h := h) rfl (wr_ok (x := .int (c : Int)) (h := h) rfl (w_eqI (w_tst (w_ite (fun z => ?_) fun z => ?_))))))
    · rw [z]
      refine w_bin (wr_ok (x := .int (b : Int)) (h := h) rfl (wr_ok (x := .int (d : Int)) (h := h) rfl (w_eqI ⟨by simp, rfl⟩)))
    · rw [z]
      exact ⟨rfl, rfl⟩
  obtain ⟨x, h', e, rfl, rfl⟩ := wr_get r
  exact e
theorem ceq (a b c d T U : Nat) (h : Hh) : eqO 0 f_Canvas___eq__ (cnv a b T) (cnv c d U) h = .ok (.bl (decide ((a : Int) = c) && decide ((b : Int) = d))) h := by
  unfold eqO
  rw [if_pos ⟨rfl, rfl⟩, cveq]; rfl
theorem cne (a b c d T U : Nat) (h : Hh) : neO 0 f_Canvas___eq__ (cnv a b T) (cnv c d U) h = .ok (.bl (!(decide ((a : Int) = c) && decide ((b : Int) = d)))) h := by
  unfold neO
  rw [if_pos ⟨rfl, rfl⟩, cveq]; rfl
theorem cvn {d : D} (a b T : Nat) (k : isoD 0 d h = .ok (.bl false) h) : f_Canvas___eq__ [cnv a b T, d] h = .ok (.bl false) h := by
  have r : wr (f_Canvas___eq__ [cnv a b T, d] h) noE fun x h' => x = .bl false ∧ h' = h := by
    refine w_run (δ := [some (cnv a b T), some d]) rfl ?_
    with_reducible refine e_u_Canvas___eq__ ?_
    with_reducible refine e_u_Canvas___eq___1 ?_
    exact s_ret (w_eand (w_iso (w_var rfl (wr_ok k (w_tst (w_f ⟨rfl, rfl⟩))))))
  obtain ⟨x, h', e, rfl, rfl⟩ := wr_get r
  exact e
theorem eq_pr (a b c d : Nat) (h : Hh) : eqD (.tup [.int (a : Int), .int (b : Int)]) (.tup [.int (c : Int), .int (d : Int)]) h = .ok (.bl (decide ((a : Int) = c) && decide ((b : Int) = d))) h := by
  have f : ∀ x y : Nat, flat 60 (.tup [.int (x : Int), .int (y : Int)]) = true := fun x y => by simp [flat, flats]
  unfold eqD
  rw [if_pos ⟨f a b, f c d⟩]
  have e : eqv (deref h (.tup [.int (a : Int), .int (b : Int)])) (deref h (.tup [.int (c : Int), .int (d : Int)])) = (decide ((a : Int) = c) && decide ((b : Int) = d)) := by
    show PyData.eqv _ _ = _
    have eb : ∀ x y : Int, (x == y) = decide (x = y) := fun x y => by by_cases z : x = y <;> simp [z]
    simp [deref, pd, pds, PyData.eqv, PyData.eqvAll, eb]
  rw [e]
theorem ne_pr (a b c d : Nat) (h : Hh) : neD (.tup [.int (a : Int), .int (b : Int)]) (.tup [.int (c : Int), .int (d : Int)]) h = .ok (.bl (!(decide ((a : Int) = c) && decide ((b : Int) = d)))) h := by
  have e := eq_pr a b c d h
  unfold eqD at e
  unfold neD
  split at e
  · rename_i f
    rw [if_pos f]
    have e2 := (R.ok.inj e).1
    have e3 := D.bl.inj e2
    rw [e3]
  · cases e
theorem neBs (b : Bool) (h : Hh) : neD (.bl b) (.bl b) h = .ok (.bl false) h := by cases b <;> rfl
abbrev tq : List (Nat × O) := [(0, .tab q__law_refused_right), (1, .tab q_law)]
theorem ws_at {u : FnS} {δ δ' : De} {h : Hh} {E : Es} (e : δ = δ') (z : ws (u δ' h) E) : ws (u δ h) E := by subst e; exact z
theorem mk_w {fa : FnA} {w hh : Nat} {dw dh : D} {os : List (Nat × O)} (ew : dw = .int (w : Int)) (eh : dh = .int (hh : Int)) (h1 : 1 ≤ w ∧ w ≤ 16) (h2 : 1 ≤ hh ∧ hh ≤ 12) (s : St o m h N os) (ef : fa δ h = .ok [dw, dh] h) (q : ∀ T h', St o m h' N os → Q (cnv w hh T) h') : wr (eMake 0 4 3 f_Canvas___init__ fa [] δ h) X Q :=
  canvas_w h1 h2 (wr_ok ef ⟨by rw [ew, eh], fun T h' oo => q T h' (s.old oo)⟩)
theorem e_u_law_1 {δ : De} {h : Hh} {E : Es} (z : ws ((sSet 1 (eCall 1 f__law_begun (aCons (eVar 0) aNil) [])) δ h) E) : ws (u_law_1 δ h) E := z
theorem e_u_law_2 {δ : De} {h : Hh} {E : Es} (z : ws ((sPar [2, 3] (aCons (eMake 0 4 3 f_Canvas___init__ (aCons (eC (.int 16)) (aCons (eC (.int 12)) aNil)) []) (aCons (eTup (aCons (eC (.int 16)) (aCons (eC (.int 12)) aNil))) aNil))) δ h) E) : ws (u_law_2 δ h) E := z
theorem e_u_law_3_1 {δ : De} {h : Hh} {E : Es} (z : ws ((sPar [5, 6] (aCons (eBin addD (eC (.int 1)) (eCall 2 f__law_next (aCons (eVar 1) (aCons (eC (.int 16)) aNil)) [])) (aCons (eBin addD (eC (.int 1)) (eCall 2 f__law_next (aCons (eVar 1) (aCons (eC (.int 12)) aNil)) [])) aNil))) δ h) E) : ws (u_law_3_1 δ h) E := z
theorem e_u_law_3_2 {δ : De} {h : Hh} {E : Es} (z : ws ((sSet 7 (eKw aNil (aCons (eVar 6) (aCons (eVar 5) aNil)) (kMakeK 0 4 2 3 f_Canvas___init__ [] [.p 0, .k 1, .k 0]))) δ h) E) : ws (u_law_3_2 δ h) E := z
theorem e_u_law_3_3 {δ : De} {h : Hh} {E : Es} (z : ws ((sIf (tOr3 (eTest (eBin neD (eB reprB (aCons (eLst (aCons (eFld ix_width (eVar 7)) (aCons (eFld ix_height (eVar 7)) aNil))) aNil)) (eB reprB (aCons (eLst (aCons (eVar 5) (aCons (eVar 6) aNil))) aNil)))) (tNot3 (eTest (eCall 3 f__law_places_right (aCons (eVar 7) (aCons (eVar 5) (aCons (eVar 6) aNil))) [])))) u_law_3_3_a_1 sNil) δ h) E) : ws (u_law_3_3 δ h) E := z
theorem e_u_law_3_4 {δ : De} {h : Hh} {E : Es} (z : ws ((sIf (tOr3 (tNot3 (eTest (eBin (eqO 0 f_Canvas___eq__) (eVar 7) (eMake 0 4 3 f_Canvas___init__ (aCons (eVar 5) (aCons (eVar 6) aNil)) [])))) (tOr3 (eTest (eBin (neO 0 f_Canvas___eq__) (eVar 7) (eMake 0 4 3 f_Canvas___init__ (aCons (eVar 5) (aCons (eVar 6) aNil)) []))) (tOr3 (eTest (eBin (eqV 0 f_Canvas___eq__) (eVar 7) (eTup (aCons (eVar 5) (aCons (eVar 6) aNil))))) (eTest (eBin (eqV 0 f_Canvas___eq__) (eVar 7) (eVar 5)))))) u_law_3_4_a_1 sNil) δ h) E) : ws (u_law_3_4 δ h) E := z
theorem e_u_law_3_5 {δ : De} {h : Hh} {E : Es} (z : ws ((sIf (tOr3 (eTest (eBin neD (eBin (eqO 0 f_Canvas___eq__) (eVar 7) (eVar 2)) (eBin eqD (eTup (aCons (eVar 5) (aCons (eVar 6) aNil))) (eVar 3)))) (eTest (eBin neD (eBin (neO 0 f_Canvas___eq__) (eVar 7) (eVar 2)) (eBin neD (eTup (aCons (eVar 5) (aCons (eVar 6) aNil))) (eVar 3))))) u_law_3_5_a_1 sNil) δ h) E) : ws (u_law_3_5 δ h) E := z
theorem e_u_law_3_6 {δ : De} {h : Hh} {E : Es} (z : ws ((sIf (tAnd3 (eTest (eBin ltD (eVar 5) (eC (.int 13)))) (eTest (eBin neD (eBin (eqO 0 f_Canvas___eq__) (eVar 7) (eMake 0 4 3 f_Canvas___init__ (aCons (eVar 6) (aCons (eVar 5) aNil)) [])) (eBin eqD (eVar 5) (eVar 6))))) u_law_3_6_a_1 sNil) δ h) E) : ws (u_law_3_6 δ h) E := z
theorem e_u_law_3_7 {δ : De} {h : Hh} {E : Es} (z : ws ((sIf (tOr3 (eTest (eBin (eqO 0 f_Canvas___eq__) (eVar 7) (eMake 0 4 3 f_Canvas___init__ (aCons (eVar 5) (aCons (eBin addD (eBin modD (eB intB (aCons (eVar 6) aNil)) (eC (.int 12))) (eC (.int 1))) aNil)) []))) (eTest (eBin (eqO 0 f_Canvas___eq__) (eVar 7) (eMake 0 4 3 f_Canvas___init__ (aCons (eBin addD (eBin modD (eB intB (aCons (eVar 5) aNil)) (eC (.int 16))) (eC (.int 1))) (aCons (eVar 6) aNil)) [])))) u_law_3_7_a_1 sNil) δ h) E) : ws (u_law_3_7 δ h) E := z
theorem e_u_law_3_8 {δ : De} {h : Hh} {E : Es} (z : ws ((sIf (tOr3 (tNot3 (eTest (eCall 1 f__law_refused_right (aCons (eVar 1) aNil) []))) (tNot3 (eTest (eCall 2 f__law_walks_right (aCons (eBin addD (eC (.int 1)) (eCall 2 f__law_next (aCons (eVar 1) (aCons (eC (.int 3)) aNil)) [])) (aCons (eBin addD (eC (.int 1)) (eCall 2 f__law_next (aCons (eVar 1) (aCons (eC (.int 3)) aNil)) [])) aNil)) [])))) u_law_3_8_a_1 sNil) δ h) E) : ws (u_law_3_8 δ h) E := z
theorem e_u_law_3_9 {δ : De} {h : Hh} {E : Es} (z : ws ((sPar [2, 3] (aCons (eVar 7) (aCons (eTup (aCons (eVar 5) (aCons (eVar 6) aNil))) aNil))) δ h) E) : ws (u_law_3_9 δ h) E := z
theorem e_u_law_3 {δ : De} {h : Hh} {E : Es} (z : ws ((sFor (iRg1 (eBin addD (eC (.int 4)) (eB min2B (aCons (eB lenB (aCons (eVar 0) aNil)) (aCons (eC (.int 6)) aNil))))) (gSet 4) (sSeq u_law_3_1 (sSeq u_law_3_2 (sSeq u_law_3_3 (sSeq u_law_3_4 (sSeq u_law_3_5 (sSeq u_law_3_6 (sSeq u_law_3_7 (sSeq u_law_3_8 u_law_3_9))))))))) δ h) E) : ws (u_law_3 δ h) E := z
theorem e_u_law_4 {δ : De} {h : Hh} {E : Es} (z : ws ((sSet 8 (eLst (aCons (eMeth 0 1 f_Canvas_places (eMake 0 4 3 f_Canvas___init__ (aCons (eC (.int 1)) (aCons (eC (.int 1)) aNil)) []) aNil []) (aCons (eBin ixA (eMeth 0 1 f_Canvas_places (eMake 0 4 3 f_Canvas___init__ (aCons (eC (.int 1)) (aCons (eC (.int 12)) aNil)) []) aNil []) (eUn negD (eC (.int 1)))) (aCons (eBin ixA (eMeth 0 1 f_Canvas_places (eMake 0 4 3 f_Canvas___init__ (aCons (eC (.int 16)) (aCons (eC (.int 1)) aNil)) []) aNil []) (eUn negD (eC (.int 1)))) aNil))))) δ h) E) : ws (u_law_4 δ h) E := z
theorem e_u_law_5 {δ : De} {h : Hh} {E : Es} (z : ws ((sRet (eAnd (eBin eqD (eVar 8) (eLst (aCons (eTup (aCons (eTup (aCons (eC (.int 0)) (aCons (eC (.int 0)) aNil))) aNil)) (aCons (eTup (aCons (eC (.int 0)) (aCons (eC (.int 11)) aNil))) (aCons (eTup (aCons (eC (.int 15)) (aCons (eC (.int 0)) aNil))) aNil))))) (eBin eqD (eLam 1 q_law f__law_said (eMake 0 4 3 f_Canvas___init__ (aCons (eC (.int 16)) (aCons (eC (.int 12)) aNil)) [])) (eC (.str [110, 111, 110, 101]))))) δ h) E) : ws (u_law_5 δ h) E := z
theorem e_u_law {δ : De} {h : Hh} {E : Es} (z : ws ((sSeq u_law_1 (sSeq u_law_2 (sSeq u_law_3 (sSeq u_law_4 u_law_5)))) δ h) E) : ws (u_law δ h) E := z
theorem turn_w {N : Nat} {sc x4 x5 x6 x7 x8 : Option D} {a b T0 : Nat} (s : St 2 4 h N tq) (hN : 20 ≤ N) (q : ∀ h' w hh T y5 y6 y7, (1 ≤ w ∧ w ≤ 16) → (1 ≤ hh ∧ hh ≤ 12) → St 2 4 h' (N - 20) tq → E.nx [sc, some (.ref 4), some (cnv w hh T), some (.tup [.int (w : Int), .int (hh : Int)]), x4, y5, y6, y7, x8] h') :
    ws (sSeq u_law_3_1 (sSeq u_law_3_2 (sSeq u_law_3_3 (sSeq u_law_3_4 (sSeq u_law_3_5 (sSeq u_law_3_6 (sSeq u_law_3_7 (sSeq u_law_3_8 u_law_3_9)))))))
      [sc, some (.ref 4), some (cnv a b T0), some (.tup [.int (a : Int), .int (b : Int)]), x4, x5, x6, x7, x8] h) E := by
  refine s_seq ?_
  with_reducible refine e_u_law_3_1 ?_
  refine s_par (w_cons (w_bin (w_c (w_call0 (wr_ok (x := [.ref 4, .int 16]) (h := h) rfl (w_eqn rfl ?_))))))
  refine w_next s (by omega) (by omega) (by omega) fun v h1 v0 v1 s1 => ?_
  refine w_addI (w_cons (w_bin (w_c (w_call0 (wr_ok (x := [.ref 4, .int 12]) (h := h1) rfl (w_eqn rfl ?_))))))
  refine w_next s1 (by omega) (by omega) (by omega) fun u h2 u0 u1 s2 => ?_
  refine w_addI (w_nil (w_eqn rfl ?_))
  obtain ⟨w, ew⟩ := natI (1 + v) (by omega)
  obtain ⟨hh, eh⟩ := natI (1 + u) (by omega)
  rw [ew, eh]
  have hw : 1 ≤ w ∧ w ≤ 16 := by omega
  have hy : 1 ≤ hh ∧ hh ≤ 12 := by omega
  clear ew eh v0 v1 u0 u1
  obtain ⟨dw, ew⟩ : ∃ d, d = D.int (w : Int) := ⟨_, rfl⟩
  obtain ⟨dh, eh⟩ : ∃ d, d = D.int (hh : Int) := ⟨_, rfl⟩
  dsimp only [Es.sq]
  with_reducible refine ws_at (δ' := [sc, some (.ref 4), some (cnv a b T0), some (.tup [.int (a : Int), .int (b : Int)]), x4, some dw, some dh, x7, x8]) ?_ ?_
  · rw [ew, eh]; rfl
  refine s_seq ?_
  with_reducible refine e_u_law_3_2 ?_
  obtain ⟨T, cz⟩ := cz_ok hw hy
  have mk : eKw aNil (aCons (eVar 6) (aCons (eVar 5) aNil)) (kMakeK 0 4 2 3 f_Canvas___init__ [] [.p 0, .k 1, .k 0]) [sc, some (.ref 4), some (cnv a b T0), some (.tup [.int (a : Int), .int (b : Int)]), x4, some dw, some dh, x7, x8] h2 = .ok (cnv w hh T) (h2 ++ [.dead] ++ rowsO T w (ptsL w 0 hh)) := by
    have e1 : eKw aNil (aCons (eVar 6) (aCons (eVar 5) aNil)) (kMakeK 0 4 2 3 f_Canvas___init__ [] [.p 0, .k 1, .k 0]) [sc, some (.ref 4), some (cnv a b T0), some (.tup [.int (a : Int), .int (b : Int)]), x4, some dw, some dh, x7, x8] h2 = kMake 0 4 3 f_Canvas___init__ [] [dw, dh] h2 := rfl
    rw [e1, ew, eh]
    exact canvas_ok cz h2
  refine s_set (wr_ok mk ?_)
  have s3 : St 2 4 (h2 ++ [.dead] ++ rowsO T w (ptsL w 0 hh)) _ tq := s2.old ((Old.app h2 [.dead]).trans (Old.app _ _))
  generalize h2 ++ [O.dead] ++ rowsO T w (ptsL w 0 hh) = h3 at s3 ⊢
  show ws (sSeq u_law_3_3 (sSeq u_law_3_4 (sSeq u_law_3_5 (sSeq u_law_3_6 (sSeq u_law_3_7 (sSeq u_law_3_8 u_law_3_9))))) [sc, some (.ref 4), some (cnv a b T0), some (.tup [.int (a : Int), .int (b : Int)]), x4, some dw, some dh, some (cnv w hh T), x8] h3) E
  refine s_seq ?_
  with_reducible refine e_u_law_3_3 ?_
  have rr : ∀ h, reprB [.lst [dw, dh]] h = .ok (.str (showL (.lst [dw, dh]))) h := fun h => by rw [ew, eh]; exact repr_gen rfl rfl (by simp [smallD, smallDs]; omega) (by simp [wtD, wtDs])
  refine s_if (w_or (w_test (w_bin (w_b (wr_ok (x := [.lst [dw, dh]]) (h := h3) (by rw [ew, eh]; rfl) (wr_ok (rr h3) ?_))))))
  refine w_b (wr_ok (x := [.lst [dw, dh]]) (h := h3) rfl (wr_ok (rr h3) (neSs (w_tst (w_f ?_)))))
  refine w_not (w_test (w_call0 (wr_ok (x := [cnv w hh T, dw, dh]) (h := h3) rfl (w_eqn rfl ?_))))
  with_reducible refine places_w ew eh hw hy ?_
  refine w_tst (w_f (s_nil ?_))
  show ws (sSeq u_law_3_4 (sSeq u_law_3_5 (sSeq u_law_3_6 (sSeq u_law_3_7 (sSeq u_law_3_8 u_law_3_9)))) [sc, some (.ref 4), some (cnv a b T0), some (.tup [.int (a : Int), .int (b : Int)]), x4, some dw, some dh, some (cnv w hh T), x8] h3) E
  refine s_seq ?_
  with_reducible refine e_u_law_3_4 ?_
  have same : (decide ((w : Int) = w) && decide ((hh : Int) = hh)) = true := by simp
  refine s_if (w_or (w_not (w_test (w_bin (w_var rfl (mk_w ew eh hw hy s3 rfl fun T4 h4 s4 => wr_ok (ceq ..) ?_))))))
  rw [same]
  refine w_tst (w_f (w_or (w_test (w_bin (w_var rfl (mk_w ew eh hw hy s4 rfl fun T5 h5 s5 => wr_ok (cne ..) ?_))))))
  rw [same]
  refine w_tst (w_f (w_or (w_test (w_bin (w_var rfl (wr_ok (x := .tup [dw, dh]) (h := h5) rfl (wr_ok (x := .bl false) (h := h5) ?_ (w_tst (w_f ?_)))))))))
  · unfold L3.eqV
    rw [if_pos ⟨rfl, rfl⟩, cvn w hh T rfl]; rfl
  refine w_test (w_bin (w_var rfl (w_var rfl (wr_ok (x := .bl false) (h := h5) ?_ (w_tst (w_f (s_nil ?_)))))))
  · rw [ew]
    unfold L3.eqV
    rw [if_pos ⟨rfl, rfl⟩, cvn w hh T rfl]; rfl
  show ws (sSeq u_law_3_5 (sSeq u_law_3_6 (sSeq u_law_3_7 (sSeq u_law_3_8 u_law_3_9))) [sc, some (.ref 4), some (cnv a b T0), some (.tup [.int (a : Int), .int (b : Int)]), x4, some dw, some dh, some (cnv w hh T), x8] h5) E
  refine s_seq ?_
  with_reducible refine e_u_law_3_5 ?_
  refine s_if (w_or (w_test (w_bin (w_bin (w_var rfl (w_var rfl (wr_ok (ceq ..) ?_)))))))
  refine w_bin (wr_ok (x := .tup [dw, dh]) (h := h5) rfl (w_var rfl (wr_ok (show eqD (.tup [dw, dh]) (.tup [.int (a : Int), .int (b : Int)]) h5 = _ by rw [ew, eh]; exact eq_pr ..) (wr_ok (neBs _ _) (w_tst (w_f ?_))))))
  refine w_test (w_bin (w_bin (w_var rfl (w_var rfl (wr_ok (cne ..) ?_)))))
  refine w_bin (wr_ok (x := .tup [dw, dh]) (h := h5) rfl (w_var rfl (wr_ok (show neD (.tup [dw, dh]) (.tup [.int (a : Int), .int (b : Int)]) h5 = _ by rw [ew, eh]; exact ne_pr ..) (wr_ok (neBs _ _) (w_tst (w_f (s_nil ?_)))))))
  show ws (sSeq u_law_3_6 (sSeq u_law_3_7 (sSeq u_law_3_8 u_law_3_9)) [sc, some (.ref 4), some (cnv a b T0), some (.tup [.int (a : Int), .int (b : Int)]), x4, some dw, some dh, some (cnv w hh T), x8] h5) E
  refine s_seq ?_
  with_reducible refine e_u_law_3_6 ?_
  have k6 : ∀ h6, St 2 4 h6 (N - 2) tq → ws (sSeq u_law_3_7 (sSeq u_law_3_8 u_law_3_9) [sc, some (.ref 4), some (cnv a b T0), some (.tup [.int (a : Int), .int (b : Int)]), x4, some dw, some dh, some (cnv w hh T), x8] h6) E := fun h6 s6 => by
    refine s_seq ?_
    with_reducible refine e_u_law_3_7 ?_
    have m1 : ∀ hz, (eBin addD (eBin modD (eB intB (aCons (eVar 6) aNil)) (eC (.int 12))) (eC (.int 1))) [sc, some (.ref 4), some (cnv a b T0), some (.tup [.int (a : Int), .int (b : Int)]), x4, some dw, some dh, some (cnv w hh T), x8] hz = .ok (.int ((hh % 12 + 1 : Nat) : Int)) hz := fun hz => by
      rw [eh]
      refine (eBin_ok (x := .int ((hh : Int) % 12)) (y := .int 1) (h1 := hz) (h2 := hz) ((eBin_ok (x := .int (hh : Int)) (y := .int 12) (h1 := hz) (h2 := hz) rfl rfl).trans (modI hz (by omega))) rfl).trans ?_
      rw [addI]; congr 2
    have m2 : ∀ hz, (eBin addD (eBin modD (eB intB (aCons (eVar 5) aNil)) (eC (.int 16))) (eC (.int 1))) [sc, some (.ref 4), some (cnv a b T0), some (.tup [.int (a : Int), .int (b : Int)]), x4, some dw, some dh, some (cnv w hh T), x8] hz = .ok (.int ((w % 16 + 1 : Nat) : Int)) hz := fun hz => by
      rw [ew]
      refine (eBin_ok (x := .int ((w : Int) % 16)) (y := .int 1) (h1 := hz) (h2 := hz) ((eBin_ok (x := .int (w : Int)) (y := .int 16) (h1 := hz) (h2 := hz) rfl rfl).trans (modI hz (by omega))) rfl).trans ?_
      rw [addI]; congr 2
    refine s_if (w_or (w_test (w_bin (w_var rfl (mk_w (w := w) (hh := hh % 12 + 1) ew rfl hw (by omega) s6 (aC_ok (eVar_ok rfl) (aC_ok (m1 _) aN_ok)) fun T7 h7 s7 => wr_ok (ceq ..) ?_)))))
    have n1 : (decide ((w : Int) = w) && decide ((hh : Int) = ((hh % 12 + 1 : Nat) : Int))) = false := by
      rw [decide_eq_true rfl, Bool.true_and]; exact decide_eq_false (by omega)
    rw [n1]
    refine w_tst (w_f (w_test (w_bin (w_var rfl (mk_w (w := w % 16 + 1) (hh := hh) rfl eh (by omega) hy s7 (aC_ok (m2 _) (aC_ok (eVar_ok rfl) aN_ok)) fun T8 h8 s8 => wr_ok (ceq ..) ?_)))))
    have n2 : (decide ((w : Int) = ((w % 16 + 1 : Nat) : Int)) && decide ((hh : Int) = hh)) = false := by
      rw [decide_eq_false (by omega)]; rfl
    rw [n2]
    refine w_tst (w_f (s_nil ?_))
    show ws (sSeq u_law_3_8 u_law_3_9 [sc, some (.ref 4), some (cnv a b T0), some (.tup [.int (a : Int), .int (b : Int)]), x4, some dw, some dh, some (cnv w hh T), x8] h8) E
    refine s_seq ?_
    with_reducible refine e_u_law_3_8 ?_
    refine s_if (w_or (w_not (w_test (w_call0 (wr_ok (x := [.ref 4]) (h := h8) rfl (w_eqn rfl ?_))))))
    refine refused_w s8 (by omega) (List.Mem.head _) fun h9 s9 => w_tst (w_f ?_)
    refine w_not (w_test (w_call0 (w_cons (w_bin (w_c (w_call0 (wr_ok (x := [.ref 4, .int 3]) (h := h9) rfl (w_eqn rfl ?_))))))))
    refine w_next s9 (by omega) (by omega) (by omega) fun v h10 v0 v1 s10 => ?_
    refine w_addI (w_cons (w_bin (w_c (w_call0 (wr_ok (x := [.ref 4, .int 3]) (h := h10) rfl (w_eqn rfl ?_))))))
    refine w_next s10 (by omega) (by omega) (by omega) fun u h11 u0 u1 s11 => ?_
    refine w_addI (w_nil (w_eqn rfl ?_))
    obtain ⟨w', ew'⟩ := natI (1 + v) (by omega)
    obtain ⟨hh', eh'⟩ := natI (1 + u) (by omega)
    rw [ew', eh']
    have w3 : 1 ≤ w' ∧ w' ≤ 3 := by omega
    have y3 : 1 ≤ hh' ∧ hh' ≤ 3 := by omega
    with_reducible refine walks_w rfl rfl w3 y3 s11 ?_
    intro h12 s12
    refine w_tst (w_f (s_nil ?_))
    show ws (u_law_3_9 [sc, some (.ref 4), some (cnv a b T0), some (.tup [.int (a : Int), .int (b : Int)]), x4, some dw, some dh, some (cnv w hh T), x8] h12) E
    with_reducible refine e_u_law_3_9 ?_
    refine s_par (wr_ok (x := [cnv w hh T, .tup [dw, dh]]) (h := h12) rfl (w_eqn rfl ?_))
    subst ew eh
    exact q h12 w hh T _ _ _ hw hy (s12.weak (by omega))
  have s5' : St 2 4 h5 (N - 2) tq := s5.weak (by omega)
  refine s_if (w_and (w_test (w_bin (w_var rfl (w_c (wr_ok (show ltD dw (.int 13) h5 = .ok (.bl (decide ((w : Int) < 13))) h5 by rw [ew]; exact ltI ..) (w_tst (w_ite (fun c => ?_) fun c => ?_))))))))
  · have w13 : w < 13 := by have := of_decide_eq_true c; omega
    refine w_test (w_bin (w_bin (w_var rfl (mk_w (w := hh) (hh := w) eh ew (by omega) (by omega) s5' rfl fun T6 h6 s6 => wr_ok (ceq ..) ?_))))
    have ei : eqD dw dh h6 = .ok (.bl (decide ((w : Int) = hh))) h6 := by rw [ew, eh]; exact eqI ..
    refine w_bin (w_var rfl (w_var rfl (wr_ok ei ?_)))
    have e : (decide ((w : Int) = hh) && decide ((hh : Int) = w)) = decide ((w : Int) = hh) := by
      by_cases z : (w : Int) = hh
      · rw [decide_eq_true z, decide_eq_true z.symm]; rfl
      · rw [decide_eq_false z]; rfl
    rw [e]
    exact wr_ok (neBs _ _) (w_tst (w_f (s_nil (k6 h6 s6))))
  · exact w_f (s_nil (k6 h5 s5'))
theorem begun2_ok (ns : List Int) (hl : ns.length ≤ 63) (x y : O) : ∃ h', f__law_begun [.scr (ns.map D.int)] [x, y] = .ok (.ref 4) h' ∧ St 2 4 h' 1000000 [(0, x), (1, y)] := by
  refine ⟨[x, y, .lst (ns.map D.int), .lst ((ns.filter fun x => decide (1000000000000000000 ≤ x)).map D.int), .dic [ck, lk, ak] [.ref 2, .ref 3, .int 0]], ?_, ?_⟩
  · have hf := List.length_filter_le (fun x => decide ((1000000000000000000 : Int) ≤ x)) ns
    have h1 : (List.filter (fun x => decide ((1000000000000000000 : Int) ≤ x)) ns).length ≤ 16777216 := by omega
    simp [f__law_begun, u__law_begun_1, u__law_begun, eDic, dPairs, noXP, kDic, keysOk, isKey, hasK, keyEq, listMB, asSeq, filt, h1, runD, startD, endRt, endNx, endExc, seqE, seqNx, seqRt, seqExc, sNil, sPass, sIf, sRet, sRetN, sExpr, sSet, sAsg, sPar, kPar, setAll, sIxS, kSet, L3.sFld, eVar, eC, eBin, eTest, eChain, eUn, tAnd3, tOr3, tNot3, eAnd, eOr, eNot, eIf, aNil, aCons, eTup, eLst, eLstM, eCall, kCall, eMeth, kMeth, clsObj, eB, one, eFld, fldD, fieldAt, L3.putAt, eProp, kProp, noX, eMake, eLc, kLst, iSeq, L3.iZip, kZip, zipL, immS, iRg1, lcNil, lcCons, lcAS, lcBT, lcBF, lcCO, loNil, loCons, loAS, loNx, loCt, loBk, loRt, L3.sFor, sForW, eLcW, wSeq, wZip, kZipW, loopW, lcW, optS, wipeD, gSet, gTupD, gsNil, gsCons, tYes3, eIsi, isiD, kdOf, isK, allB, anyB, sumB, L3.listOf, blsOf, intsOf, asL, bindOk, bindExc, bindStk, toSOk, toSExc, lineOk, addI, subI, negI, mulL, mulR, divI, modI, ltI, leI, gtI, geI, eqI, neI, intB1, intB2, lenTup, lenLst, lenScr, tup0, tup1, tup2, tup3, tup4, tup5, lst0, lst1, lst2, lst3, List.getElem?_cons_zero, List.getElem?_cons_succ, List.getElem?_nil, List.set_cons_zero, List.set_cons_succ, List.length_cons, List.length_nil, List.map_cons, List.map_nil, List.replicate_succ, List.replicate_zero, List.cons_append, List.nil_append, List.append_nil, if_true, if_false, ite_true, ite_false, Bool.false_eq_true, Bool.not_true, Bool.not_false, Bool.true_and, Bool.and_true, Bool.false_and, Bool.and_false, Bool.or_true, Bool.true_or, Bool.false_or, Bool.or_false, and_self, and_true, true_and, Nat.sub_zero, Nat.sub_self, Nat.reduceSub, Nat.reduceAdd, Nat.reduceLeDiff, Nat.reduceEqDiff, decide_true, decide_false, Nat.zero_le]
  · refine ⟨3, ⟨ns, ns.filter fun x => decide (1000000000000000000 ≤ x), 0, ⟨rfl, rfl, rfl, by decide, by decide, by decide, fun x hx => ?_, by decide, by decide⟩, ?_, by decide⟩, fun p hp => ?_⟩
    · have := List.mem_filter.mp hx
      have := of_decide_eq_true this.2
      omega
    · have hf := List.length_filter_le (fun x => decide ((1000000000000000000 : Int) ≤ x)) ns
      omega
    · simp only [List.mem_cons, List.not_mem_nil, or_false] at hp
      rcases hp with rfl | rfl
      · exact ⟨rfl, by dsimp only; omega, by dsimp only; omega, by dsimp only; omega⟩
      · exact ⟨rfl, by dsimp only; omega, by dsimp only; omega, by dsimp only; omega⟩
theorem law_plain (ns : List Int) (hl : ns.length ≤ 63) : ∃ h', f_law [.scr (ns.map D.int)] (tabH qs) = .ok (.bl true) h' := by
  have r : wr (f_law [.scr (ns.map D.int)] (tabH qs)) noE fun x _ => x = .bl true := by
    have e0 : f_law [.scr (ns.map D.int)] (tabH qs) = runD 9 u_law [.scr (ns.map D.int)] [.tab q__law_refused_right, .tab q_law] := rfl
    rw [e0]
    have ed : startD 9 [D.scr (ns.map D.int)] = [some (D.scr (ns.map D.int)), none, none, none, none, none, none, none, none] := rfl
    with_reducible refine w_run ed ?_
    obtain ⟨h1, eb, s1⟩ := begun2_ok ns hl (.tab q__law_refused_right) (.tab q_law)
    with_reducible refine e_u_law ?_
    refine s_seq ?_
    with_reducible refine e_u_law_1 ?_
    refine s_set (w_call0 (wr_ok (x := [.scr (ns.map D.int)]) (h := [.tab q__law_refused_right, .tab q_law]) rfl (w_eqn rfl (wr_ok eb ?_))))
    show ws (sSeq u_law_2 (sSeq u_law_3 (sSeq u_law_4 u_law_5)) [some (.scr (ns.map D.int)), some (.ref 4), none, none, none, none, none, none, none] h1) _
    refine s_seq ?_
    with_reducible refine e_u_law_2 ?_
    refine s_par (w_cons (mk_w (w := 16) (hh := 12) rfl rfl (by omega) (by omega) s1 rfl fun T h2 s2 => ?_))
    refine wr_ok (x := [.tup [.int 16, .int 12]]) (h := h2) rfl (w_eqn rfl ?_)
    show ws (sSeq u_law_3 (sSeq u_law_4 u_law_5) [some (.scr (ns.map D.int)), some (.ref 4), some (cnv 16 12 T), some (.tup [.int ((16 : Nat) : Int), .int ((12 : Nat) : Int)]), none, none, none, none, none] h2) _
    refine s_seq ?_
    with_reducible refine e_u_law_3 ?_
    with_reducible refine s_for ?_
    refine wr_ok (turns_ok 4 6 (by decide) (by decide) ns _ _) ?_
    refine s_loop (fun i δ h' => (∃ (a b U : Nat) (x4 x5 x6 x7 : Option D), δ = [some (.scr (ns.map D.int)), some (.ref 4), some (cnv a b U), some (.tup [.int (a : Int), .int (b : Int)]), x4, x5, x6, x7, none]) ∧ St 2 4 h' (1000000 - 20 * i) tq) _ 0 _ _ ⟨⟨16, 12, T, none, none, none, none, rfl⟩, s2⟩ ?_ ?_
    · rintro j d ed2 δ h2 ⟨⟨a, b, U, x4, x5, x6, x7, rfl⟩, s3⟩
      have hj : j < 4 + min ns.length 6 := by
        have := (List.getElem?_eq_some_iff.mp ed2).1
        simpa [rgD] using this
      rw [Nat.zero_add] at s3 ⊢
      refine ⟨[some (.scr (ns.map D.int)), some (.ref 4), some (cnv a b U), some (.tup [.int (a : Int), .int (b : Int)]), some d, x5, x6, x7, none], rfl, ?_⟩
      refine turn_w s3 (by omega) fun h4 w hh V y5 y6 y7 _ _ s4 => ?_
      exact ⟨⟨w, hh, V, _, _, _, _, rfl⟩, s4.weak (by omega)⟩
    · rintro δ h3 ⟨⟨a, b, U, x4, x5, x6, x7, rfl⟩, s3⟩
      have s3' : St 2 4 h3 100 tq := s3.weak (by simp [rgD]; omega)
      show ws (sSeq u_law_4 u_law_5 [some (.scr (ns.map D.int)), some (.ref 4), some (cnv a b U), some (.tup [.int (a : Int), .int (b : Int)]), x4, x5, x6, x7, none] h3) _
      refine s_seq ?_
      with_reducible refine e_u_law_4 ?_
      refine s_set (w_lst (w_cons (w_meth0 (mk_w (w := 1) (hh := 1) rfl rfl (by omega) (by omega) s3' rfl fun T1 h4 s4 => w_eqn rfl (w_nil (w_eqn rfl (wr_ok (placesC 1 1 T1 h4) ?_)))))))
      refine w_cons (w_bin (w_meth0 (mk_w (w := 1) (hh := 12) rfl rfl (by omega) (by omega) s4 rfl fun T2 h5 s5 => w_eqn rfl (w_nil (w_eqn rfl (wr_ok (placesC 1 12 T2 h5) ?_))))))
      refine wr_ok (x := .int (-1)) (h := h5) rfl (wr_ok (x := pl (0, 11)) (h := h5) (by kernel_rfl) ?_)
      refine w_cons (w_bin (w_meth0 (mk_w (w := 16) (hh := 1) rfl rfl (by omega) (by omega) s5 rfl fun T3 h6 s6 => w_eqn rfl (w_nil (w_eqn rfl (wr_ok (placesC 16 1 T3 h6) ?_))))))
      refine wr_ok (x := .int (-1)) (h := h6) rfl (wr_ok (x := pl (15, 0)) (h := h6) (by kernel_rfl) ?_)
      refine w_nil (w_le (by simp) ?_)
      dsimp only [Es.sq]
      with_reducible refine e_u_law_5 ?_
      refine s_ret (w_eand (wr_ok (x := .bl true) (h := h6) (by kernel_rfl) (w_tst (w_t ?_))))
      refine w_bin ?_
      refine said_w (s6.get (n := 1) (by simp)) ?_
      refine canvas_w (w := 16) (hh := 12) (by omega) (by omega) (wr_ok (x := [.int 16, .int 12]) (h := h6 ++ [.dead]) rfl ⟨rfl, fun T4 h7 o7 => ?_⟩)
      exact wr_ok (x := sNone) rfl (wr_ok (eqSame rfl rfl) rfl)
  obtain ⟨x, h', e, rfl⟩ := wr_get r
  exact ⟨h', e⟩
end
end
end Lw
set_option autoImplicit false
theorem PySem.Challenge.cw_tilewright_k02_canvases_made_holds : PySem.Challenge.rw_tilewright_k02_canvases_made.Holds := by
  exact holds_of Lw.law_plain
