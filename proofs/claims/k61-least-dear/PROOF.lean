import PyProof.Rows.All
import Wide.All
import OpenK.AllK
import Wide.FinOn
import HandS.ForMost
import HandS.ForExc
import HandS.Lambda
import HandS.Nested
import HandS.Defaults
import HandS.Iter
import HandS.IsInst
import HandS.Deep
import HandS.StrMore
import HandS.ExcIs
import HandS.More
import HandS.Head0
import HandS.Head1
import HandS.Head2
import HandS.HeadEnd
import HandS.HeadHook1
import HandS.HeadHook2
import PySem.Challenge.RW_copperbook_k61_whole_least_dear
import KE.SortData
import HandS.ForDict
import HandS.Conv
import KE.KDictDisplayH
import KE.KDictSum
import PyProof.Rows.SortShell
import HandS.Rev
import HandS.FStr
import HandS.TryOnly
import PyProof.Draws
import PyProof.EnumMake
import KE.GoesMore
import PyProof.LongRange
import HandS.DictTup
import KE.KDictCopyH
import KE.KEqNest
import HandS.ListEq
import HandS.DictEq
import HandS.SetKeys
import HandS.ListItems
import HandS.DictComp
import KE.DataMinMax
import KE.SortKeyHeap
import HandS.SortKw
import HandS.HeadHook4
import HandS.EndTab
import PyProof.MaxThree
import PyProof.StrOps2
import HandS.HotCalls
import HandS.SetFor
import PyProof.CompUse
import HandS.SuiteRaise
import KE.KDictKeyed
import PyProof.TupleOps
import HandS.TupSets
import KE.KDictPairs
import KE.DataFind
import KE.DataCmp
set_option Elab.async false
set_option linter.all false
set_option maxRecDepth 100000
set_option maxHeartbeats 16000000
/-! CuA: states told by data. It: a frozen datum or an owned object (by its number); Own: what an owned object holds; StoreOk: the heap bears the store. -/
namespace Cu
open PySem PySem.Spec PyProof.Rows L2
abbrev Sig := List (Option V)
/-- what a name holds: a datum that never changes, or the n-th owned object, or a plain value -/
inductive It where
  | d (x : PyData)
  | o (n : Nat)
  | r (v : V)
  | s (ns : List Int)
/-- an owned object -/
inductive Own where
  | lst (xs : List It)
  | dT (kvs : List (List Key × It))
  | dK (kvs : List (Key × It))
  | ins (C : Addr) (fs : List (Str × It))
  | tup (xs : List It)
  | lkT (od : Obj) (ps : List (List Key × V)) (kvs : List (List Key × It))
  | lkK (od : Obj) (ps : List (Key × V)) (kvs : List (Key × It))
  | tbl (P : Addr) (q : Str)
  | tblN (P : Addr) (nm : Nat → Nat → Str)
  | fn (F : NdefX.NF) (cap : List (V × It))
  | gone
abbrev Sto := List Own
abbrev Gam := List (Option It)
section
variable (K : PySem.W.Frag) (M : List Addr) (H : Hp)
/-- a tracked node, none of M -/
def NdL (a : Addr) (xs : List V) : Prop := Rd H a (.lst xs) ∧ a ∉ M
def NdT (a : Addr) (xs : List V) : Prop := H a = some (.tup xs) ∧ a ∉ M
/-- the script -/
def NdS (a : Addr) (xs : List V) : Prop := (Rd H a (.lst xs) ∧ a ∉ M) ∨
    ∃ (o : Obj) (its : Array Value) (n : Nat), K.lookup a = some o ∧ o.cls = .type "list" ∧ o.dict = none ∧ o.data = .seq its n ∧ its.size ≤ sizeLine ∧ Vals xs its.toList
mutual
/-- a value is a datum whose objects are none of those at M -/
inductive Fz : V → PyData → Prop
  | non : Fz .non .none
  | bl (b : Bool) : Fz (.bl b) (.bool b)
  | int (i : Int) : Fz (.int i) (.int i)
  | str (x : Str) : Fz (.str x) (.str x)
  | lst {a : Addr} {xs : List V} {ds : List PyData} : NdL M H a xs → FzAll xs ds → Fz (.ref a) (.list ds)
  | tup {a : Addr} {xs : List V} {ds : List PyData} : NdT M H a xs → FzAll xs ds → Fz (.ref a) (.tuple ds)
inductive FzAll : List V → List PyData → Prop
  | nil : FzAll [] []
  | cons {v : V} {vs : List V} {d : PyData} {ds : List PyData} : Fz v d → FzAll vs ds → FzAll (v :: vs) (d :: ds)
end
def VRep (v : V) : It → Prop
  | .d x => Fz M H v x
  | .o n => ∃ a, M[n]? = some a ∧ v = .ref a
  | .r u => v = u
  | .s ns => ∃ a, v = .ref a ∧ NdS K M H a (ns.map V.int)
abbrev VReps : List V → List It → Prop := Paired fun v r => VRep K M H v r
def ORep (a : Addr) : Own → Prop
  | .lst xs => ∃ vs, H a = some (.lst vs) ∧ VReps K M H vs xs
  | .dT kvs => ∃ ps, H a = some (.dT ps) ∧ Paired (fun (p : List Key × V) (q : List Key × It) => p.1 = q.1 ∧ VRep K M H p.2 q.2) ps kvs
  | .dK kvs => ∃ ps, H a = some (.dK ps) ∧ Paired (fun (p : Key × V) (q : Key × It) => p.1 = q.1 ∧ VRep K M H p.2 q.2) ps kvs
  | .ins C fs => ∃ dx ps, H a = some (.ins C dx ps) ∧ Paired (fun (p : Str × V) (q : Str × It) => p.1 = q.1 ∧ VRep K M H p.2 q.2) ps fs
  | .tup xs => ∃ vs, H a = some (.tup vs) ∧ VReps K M H vs xs ∧ ∃ b, V.ref b ∈ vs
  | .lkT od ps kvs => H a = some (.frz od (.dT ps)) ∧ Paired (fun (p : List Key × V) (q : List Key × It) => p.1 = q.1 ∧ VRep K M H p.2 q.2) ps kvs
  | .lkK od ps kvs => H a = some (.frz od (.dK ps)) ∧ Paired (fun (p : Key × V) (q : Key × It) => p.1 = q.1 ∧ VRep K M H p.2 q.2) ps kvs
  | .tbl P q => a = P ∧ ∃ ps : Array Value, H a = some (.tbl ps) ∧ TriplesOk ps.toList ∧ ∀ (pos : Pos) (cv : Value), codeAmong pos ps.toList = some cv → ∃ c, cv = .ref c ∧ H c = some (LamX.CodeO c q) ∧ c ∉ M
  | .tblN P nm => a = P ∧ ∃ ps : Array Value, H a = some (.tbl ps) ∧ TriplesOk ps.toList ∧ ∀ (pos : Pos) (cv : Value), codeAmong pos ps.toList = some cv → ∃ c, cv = .ref c ∧ H c = some (LamX.CodeO c (nm pos.line pos.col)) ∧ c ∉ M
  | .fn F cap => H a = some (NdefX.FnO a F) ∧ H F.c = some (LamX.CodeO F.c F.qual) ∧ F.c ∉ M ∧ VReps K M H (cap.map (·.1)) (cap.map (·.2))
  | .gone => ∃ o, H a = some o ∧ ∀ xs, o ≠ .tup xs
structure StoreOk (S : Sto) : Prop where
  nd : M.Nodup
  len : M.length = S.length
  rep : ∀ (n : Nat) (a : Addr) (w : Own), M[n]? = some a → S[n]? = some w → ORep K M H a w
structure Stt (S : Sto) (G : Gam) (σ : Sig) : Prop where
  sto : StoreOk K M H S
  len : σ.length = G.length
  at_ : ∀ (i : Nat) (r : It), G[i]? = some (some r) → ∃ v, σ[i]? = some (some v) ∧ VRep K M H v r
end
/-- later: more owned objects, what isn't owned stands -/
structure Ext (M : List Addr) (H : Hp) (M' : List Addr) (H' : Hp) : Prop where
  pre : ∃ L, M' = M ++ L
  keep : ∀ b o, b ∉ M → H b = some o → H' b = some o
  new : ∀ b ∈ M', b ∈ M ∨ H b = none
theorem Ext.refl {M : List Addr} {H : Hp} : Ext M H M H := ⟨⟨[], (List.append_nil M).symm⟩, fun _ _ _ h => h, fun _ h => .inl h⟩
theorem Ext.nin {M M' : List Addr} {H H' : Hp} (e : Ext M H M' H') {b : Addr} {o : HO} (h : b ∉ M) (hb : H b = some o) : b ∉ M' := fun hm => by
  rcases e.new b hm with q | q
  · exact h q
  · rw [hb] at q; cases q
theorem Ext.trans {M M1 M2 : List Addr} {H H1 H2 : Hp} (a : Ext M H M1 H1) (b : Ext M1 H1 M2 H2) : Ext M H M2 H2 := by
  refine ⟨?_, fun c o hc h => b.keep c o (a.nin hc h) (a.keep c o hc h), fun c hc => ?_⟩
  · obtain ⟨L1, e1⟩ := a.pre
    obtain ⟨L2, e2⟩ := b.pre
    exact ⟨L1 ++ L2, by rw [e2, e1, List.append_assoc]⟩
  · rcases b.new c hc with q | q
    · exact a.new c q
    · by_cases hm : c ∈ M
      · exact .inl hm
      · cases e : H c with
        | none => exact .inr rfl
        | some o =>
          rw [a.keep c o hm e] at q
          cases q
theorem Ext.get {M M' : List Addr} {H H' : Hp} (e : Ext M H M' H') {n : Nat} {a : Addr} (h : M[n]? = some a) : M'[n]? = some a := by
  obtain ⟨L, rfl⟩ := e.pre
  obtain ⟨hl, h2⟩ := List.getElem?_eq_some_iff.mp h
  rw [List.getElem?_append_left hl]
  exact h
theorem Ext.rd {M M' : List Addr} {H H' : Hp} (e : Ext M H M' H') {a : Addr} {u : HO} (h : Rd H a u ∧ a ∉ M) : Rd H' a u ∧ a ∉ M' := by
  obtain ⟨h, n⟩ := h
  rcases h with h | ⟨o, h⟩
  · exact ⟨.inl (e.keep a _ n h), e.nin n h⟩
  · exact ⟨.inr ⟨o, e.keep a _ n h⟩, e.nin n h⟩
/-- a new object, not owned -/
theorem Ext.fresh {M : List Addr} {H : Hp} {p : Addr} {o : HO} (h : H p = none) : Ext M H M (upd H p o) :=
  ⟨⟨[], (List.append_nil M).symm⟩, fun b u _ hb => by rw [upd_ne (ne_of_none hb h)]; exact hb, fun _ hm => .inl hm⟩
/-- a new object, owned -/
theorem Ext.own {M : List Addr} {H : Hp} {p : Addr} {o : HO} (h : H p = none) : Ext M H (M ++ [p]) (upd H p o) :=
  ⟨⟨[p], rfl⟩, fun b u _ hb => by rw [upd_ne (ne_of_none hb h)]; exact hb, fun b hm => by
    rcases List.mem_append.mp hm with q | q
    · exact .inl q
    · rw [List.mem_singleton.mp q]; exact .inr h⟩
/-- an owned object is changed -/
theorem Ext.put {M : List Addr} {H : Hp} {a : Addr} {o : HO} (h : a ∈ M) : Ext M H M (upd H a o) :=
  ⟨⟨[], (List.append_nil M).symm⟩, fun b u hb e => by
    rw [upd_ne (show b ≠ a from fun z => hb (by rw [z]; exact h))]
    exact e, fun _ hm => .inl hm⟩
section
variable {K : PySem.W.Frag} {M M' M1 M2 : List Addr} {H H' H1 H2 : Hp}
theorem NdL.sq {a : Addr} {xs : List V} (h : NdL M H a xs) : SqL K H a xs := .inl h.1
theorem NdT.sq {a : Addr} {xs : List V} (h : NdT M H a xs) : SqT K H a xs := .inl (.inl h.1)
theorem NdL.ext {a : Addr} {xs : List V} (e : Ext M H M' H') (h : NdL M H a xs) : NdL M' H' a xs := e.rd h
theorem NdT.ext {a : Addr} {xs : List V} (e : Ext M H M' H') (h : NdT M H a xs) : NdT M' H' a xs := ⟨e.keep a _ h.2 h.1, e.nin h.2 h.1⟩
theorem NdS.sq {a : Addr} {xs : List V} (h : NdS K M H a xs) : SqL K H a xs := h.elim (fun h => .inl h.1) .inr
theorem NdS.ext {a : Addr} {xs : List V} (e : Ext M H M' H') (h : NdS K M H a xs) : NdS K M' H' a xs := h.elim (fun h => .inl (e.rd h)) .inr
theorem NdS.less (e : ∀ a ∈ M', a ∈ M) {a : Addr} {xs : List V} (h : NdS K M H a xs) : NdS K M' H a xs := h.elim (fun h => .inl ⟨h.1, fun z => h.2 (e _ z)⟩) .inr
mutual
theorem Fz.ext (e : Ext M H M' H') : ∀ {x : PyData} {v : V}, Fz M H v x → Fz M' H' v x
  | .none, _, h => by cases h; exact .non
  | .bool _, _, h => by cases h; exact .bl _
  | .int _, _, h => by cases h; exact .int _
  | .str _, _, h => by cases h; exact .str _
  | .list ds, _, h => by
    cases h with
    | lst h1 h2 => exact .lst (h1.ext e) (FzAll.ext e h2)
  | .tuple ds, _, h => by
    cases h with
    | tup h1 h2 => exact .tup (h1.ext e) (FzAll.ext e h2)
  | .dict _, _, h => by cases h
theorem FzAll.ext (e : Ext M H M' H') : ∀ {xs : List PyData} {vs : List V}, FzAll M H vs xs → FzAll M' H' vs xs
  | [], _, h => by cases h; exact .nil
  | _ :: _, _, h => by
    cases h with
    | cons h1 h2 => exact .cons (Fz.ext e h1) (FzAll.ext e h2)
end
mutual
/-- fewer objects are owned -/
theorem Fz.less (e : ∀ a ∈ M', a ∈ M) : ∀ {x : PyData} {v : V}, Fz M H v x → Fz M' H v x
  | .none, _, h => by cases h; exact .non
  | .bool _, _, h => by cases h; exact .bl _
  | .int _, _, h => by cases h; exact .int _
  | .str _, _, h => by cases h; exact .str _
  | .list ds, _, h => by
    cases h with
    | lst h1 h2 => exact .lst ⟨h1.1, fun z => h1.2 (e _ z)⟩ (FzAll.less e h2)
  | .tuple ds, _, h => by
    cases h with
    | tup h1 h2 => exact .tup ⟨h1.1, fun z => h1.2 (e _ z)⟩ (FzAll.less e h2)
  | .dict _, _, h => by cases h
theorem FzAll.less (e : ∀ a ∈ M', a ∈ M) : ∀ {xs : List PyData} {vs : List V}, FzAll M H vs xs → FzAll M' H vs xs
  | [], _, h => by cases h; exact .nil
  | _ :: _, _, h => by
    cases h with
    | cons h1 h2 => exact .cons (Fz.less e h1) (FzAll.less e h2)
end
mutual
theorem Fz.dp : ∀ {x : PyData} {v : V}, Fz M H v x → Dp K H v x
  | .none, _, h => by cases h; exact .non
  | .bool _, _, h => by cases h; exact .bl _
  | .int _, _, h => by cases h; exact .int _
  | .str _, _, h => by cases h; exact .str _
  | .list ds, _, h => by
    cases h with
    | lst h1 h2 => exact .lst h1.sq (FzAll.dp h2)
  | .tuple ds, _, h => by
    cases h with
    | tup h1 h2 => exact .tup h1.sq (FzAll.dp h2)
  | .dict _, _, h => by cases h
theorem FzAll.dp : ∀ {xs : List PyData} {vs : List V}, FzAll M H vs xs → DpAll K H vs xs
  | [], _, h => by cases h; exact .nil
  | _ :: _, _, h => by
    cases h with
    | cons h1 h2 => exact .cons (Fz.dp h1) (FzAll.dp h2)
end
theorem VRep.ext (e : Ext M H M' H') {v : V} : ∀ {r : It}, VRep K M H v r → VRep K M' H' v r
  | .d _, h => Fz.ext e h
  | .o _, ⟨a, h1, h2⟩ => ⟨a, e.get h1, h2⟩
  | .r _, h => h
  | .s _, ⟨a, h1, h2⟩ => ⟨a, h1, h2.ext e⟩
theorem VReps.ext (e : Ext M H M' H') {vs : List V} {rs : List It} (h : VReps K M H vs rs) : VReps K M' H' vs rs := Paired.mapP h fun _ _ q => VRep.ext e q
theorem StoreOk.live {S : Sto} (h : StoreOk K M H S) {a : Addr} (hm : a ∈ M) : ∃ o, H a = some o := by
  obtain ⟨n, hn⟩ := List.getElem?_of_mem hm
  obtain ⟨hl, _⟩ := List.getElem?_eq_some_iff.mp hn
  have hl' : n < S.length := by rw [← h.len]; exact hl
  have q := h.rep n a S[n] hn (List.getElem?_eq_getElem hl')
  revert q
  cases S[n] with
  | lst xs => exact fun ⟨vs, e, _⟩ => ⟨_, e⟩
  | dT xs => exact fun ⟨vs, e, _⟩ => ⟨_, e⟩
  | dK xs => exact fun ⟨vs, e, _⟩ => ⟨_, e⟩
  | ins C fs => exact fun ⟨dx, ps, e, _⟩ => ⟨_, e⟩
  | tup xs => exact fun ⟨vs, e, _⟩ => ⟨_, e⟩
  | lkT od ps kvs => exact fun ⟨e, _⟩ => ⟨_, e⟩
  | lkK od ps kvs => exact fun ⟨e, _⟩ => ⟨_, e⟩
  | tbl P q => exact fun ⟨_, ps, e, _⟩ => ⟨_, e⟩
  | tblN P nm => exact fun ⟨_, ps, e, _⟩ => ⟨_, e⟩
  | fn F cap => exact fun ⟨e, _⟩ => ⟨_, e⟩
  | gone => exact fun ⟨o, e, _⟩ => ⟨o, e⟩
theorem StoreOk.nin {S : Sto} (h : StoreOk K M H S) {p : Addr} (hp : H p = none) : p ∉ M := fun hm => by
  obtain ⟨o, e⟩ := h.live hm
  rw [hp] at e; cases e
theorem StoreOk.addr {S : Sto} (h : StoreOk K M H S) {n : Nat} {w : Own} (hs : S[n]? = some w) : ∃ a, M[n]? = some a ∧ ORep K M H a w := by
  obtain ⟨hl, _⟩ := List.getElem?_eq_some_iff.mp hs
  have hm : M[n]? = some (M[n]'(by rw [h.len]; exact hl)) := List.getElem?_eq_getElem _
  exact ⟨_, hm, h.rep n _ w hm hs⟩
/-- an object that stands where it stood keeps what it bears -/
theorem ORep.ext (e : Ext M H M' H') {a : Addr} (k : H' a = H a) : ∀ {w : Own}, ORep K M H a w → ORep K M' H' a w
  | .lst _, ⟨vs, h1, h2⟩ => ⟨vs, k.trans h1, h2.ext e⟩
  | .dT _, ⟨ps, h1, h2⟩ => ⟨ps, k.trans h1, Paired.mapP h2 fun _ _ q => ⟨q.1, q.2.ext e⟩⟩
  | .dK _, ⟨ps, h1, h2⟩ => ⟨ps, k.trans h1, Paired.mapP h2 fun _ _ q => ⟨q.1, q.2.ext e⟩⟩
  | .ins _ _, ⟨dx, ps, h1, h2⟩ => ⟨dx, ps, k.trans h1, Paired.mapP h2 fun _ _ q => ⟨q.1, q.2.ext e⟩⟩
  | .tup _, ⟨vs, h1, h2, h3⟩ => ⟨vs, k.trans h1, h2.ext e, h3⟩
  | .lkT _ _ _, ⟨h1, h2⟩ => ⟨k.trans h1, Paired.mapP h2 fun _ _ q => ⟨q.1, q.2.ext e⟩⟩
  | .lkK _ _ _, ⟨h1, h2⟩ => ⟨k.trans h1, Paired.mapP h2 fun _ _ q => ⟨q.1, q.2.ext e⟩⟩
  | .tbl _ _, ⟨h0, ps, h1, h2, h3⟩ => ⟨h0, ps, k.trans h1, h2, fun pos cv hc => let ⟨c, x1, x2, x3⟩ := h3 pos cv hc; ⟨c, x1, e.keep c _ x3 x2, e.nin x3 x2⟩⟩
  | .tblN _ _, ⟨h0, ps, h1, h2, h3⟩ => ⟨h0, ps, k.trans h1, h2, fun pos cv hc => let ⟨c, x1, x2, x3⟩ := h3 pos cv hc; ⟨c, x1, e.keep c _ x3 x2, e.nin x3 x2⟩⟩
  | .fn _ _, ⟨h1, h2, h3, h4⟩ => ⟨k.trans h1, e.keep _ _ h3 h2, e.nin h3 h2, h4.ext e⟩
  | .gone, ⟨o, h1, h2⟩ => ⟨o, k.trans h1, h2⟩
/-- all owned objects stand as they stood -/
theorem StoreOk.same {S : Sto} (h : StoreOk K M H S) (e : Ext M H M H') (k : ∀ a ∈ M, H' a = H a) : StoreOk K M H' S :=
  ⟨h.nd, h.len, fun n a w h1 h2 => (h.rep n a w h1 h2).ext e (k a (List.mem_of_getElem? h1))⟩
theorem StoreOk.fresh {S : Sto} (h : StoreOk K M H S) {p : Addr} {o : HO} (hp : H p = none) : StoreOk K M (upd H p o) S :=
  h.same (Ext.fresh hp) fun a ha => upd_ne fun z => h.nin hp (z ▸ ha)
theorem Stt.fresh {S : Sto} {G : Gam} {σ : Sig} (h : Stt K M H S G σ) {p : Addr} {o : HO} (hp : H p = none) : Stt K M (upd H p o) S G σ :=
  ⟨h.sto.fresh hp, h.len, fun i r e => let ⟨v, h1, h2⟩ := h.at_ i r e; ⟨v, h1, h2.ext (Ext.fresh hp)⟩⟩
/-- one more owned object -/
theorem StoreOk.own {S : Sto} (h : StoreOk K M H S) {p : Addr} {o : HO} {w : Own} (hp : H p = none) (hw : ORep K (M ++ [p]) (upd H p o) p w) : StoreOk K (M ++ [p]) (upd H p o) (S ++ [w]) := by
  refine ⟨?_, by simp [h.len], fun n a u h1 h2 => ?_⟩
  · rw [List.nodup_append]
    refine ⟨h.nd, List.nodup_cons.mpr ⟨by simp, List.nodup_nil⟩, fun a ha b hb => ?_⟩
    rw [List.mem_singleton.mp hb]
    exact fun z => h.nin hp (z ▸ ha)
  · by_cases hn : n < M.length
    · rw [List.getElem?_append_left hn] at h1
      rw [List.getElem?_append_left (by rw [← h.len]; exact hn)] at h2
      exact (h.rep n a u h1 h2).ext (Ext.own hp) (upd_ne fun z => h.nin hp (z ▸ List.mem_of_getElem? h1))
    · have hn' : M.length ≤ n := Nat.le_of_not_lt hn
      rw [List.getElem?_append_right hn'] at h1
      rw [List.getElem?_append_right (by rw [← h.len]; exact hn')] at h2
      have e0 : n - M.length = 0 := by
        cases q : n - M.length with
        | zero => rfl
        | succ j => rw [q] at h1; simp at h1
      rw [e0] at h1
      rw [show n - S.length = 0 by rw [← h.len]; exact e0] at h2
      cases h1; cases h2
      exact hw
/-- an owned object is changed -/
theorem StoreOk.put {S : Sto} (h : StoreOk K M H S) {n : Nat} {a : Addr} {o : HO} {w : Own} (hn : M[n]? = some a) (hw : ORep K M (upd H a o) a w) : StoreOk K M (upd H a o) (S.set n w) := by
  refine ⟨h.nd, by rw [List.length_set]; exact h.len, fun m b u h1 h2 => ?_⟩
  by_cases e : m = n
  · subst e
    rw [hn] at h1; cases h1
    obtain ⟨hl, _⟩ := List.getElem?_eq_some_iff.mp hn
    rw [List.getElem?_set_self (by rw [← h.len]; exact hl)] at h2
    cases h2
    exact hw
  · rw [List.getElem?_set_ne (Ne.symm e)] at h2
    have hb : b ≠ a := fun z => e (by
      subst z
      obtain ⟨l1, q1⟩ := List.getElem?_eq_some_iff.mp h1
      obtain ⟨l2, q2⟩ := List.getElem?_eq_some_iff.mp hn
      exact (List.getElem_inj h.nd).mp (q1.trans q2.symm))
    exact (h.rep m b u h1 h2).ext (Ext.put (List.mem_of_getElem? hn)) (upd_ne hb)
theorem Stt.mono {S : Sto} {G : Gam} {σ : Sig} (h : Stt K M H S G σ) {S' : Sto} (e : Ext M H M' H') (s : StoreOk K M' H' S') : Stt K M' H' S' G σ :=
  ⟨s, h.len, fun i r q => let ⟨v, h1, h2⟩ := h.at_ i r q; ⟨v, h1, h2.ext e⟩⟩
/-- a slot is stored -/
theorem Stt.set {S : Sto} {G : Gam} {σ : Sig} (h : Stt K M H S G σ) {i : Nat} {v : V} {r : It} (hv : VRep K M H v r) : Stt K M H S (G.set i (some r)) (σ.set i (some v)) := by
  refine ⟨h.sto, by rw [List.length_set, List.length_set]; exact h.len, fun j u e => ?_⟩
  by_cases q : i = j
  · subst q
    by_cases hl : i < G.length
    · rw [List.getElem?_set_self hl] at e
      cases e
      exact ⟨v, List.getElem?_set_self (by rw [h.len]; exact hl), hv⟩
    · rw [List.getElem?_eq_none (by rw [List.length_set]; omega)] at e
      cases e
  · rw [List.getElem?_set_ne q] at e
    obtain ⟨w, h1, h2⟩ := h.at_ j u e
    exact ⟨w, by rw [List.getElem?_set_ne q]; exact h1, h2⟩
/-- a slot is forgotten -/
theorem Stt.forget {S : Sto} {G : Gam} {σ : Sig} (h : Stt K M H S G σ) (i : Nat) : Stt K M H S (G.set i none) σ := by
  refine ⟨h.sto, by rw [List.length_set]; exact h.len, fun j u e => ?_⟩
  by_cases q : i = j
  · subst q
    by_cases hl : i < G.length
    · rw [List.getElem?_set_self hl] at e
      cases e
    · rw [List.getElem?_eq_none (by rw [List.length_set]; omega)] at e
      cases e
  · rw [List.getElem?_set_ne q] at e
    exact h.at_ j u e
theorem Stt.wipe {S : Sto} : ∀ {G : Gam} {σ : Sig} (is : List Nat), Stt K M H S G σ → Stt K M H S (is.foldr (fun i g => g.set i none) G) (L2.wipe σ is)
  | G, σ, [], h => h
  | G, σ, i :: is, h => by
    have ih := Stt.wipe is h
    refine ⟨ih.sto, ?_, fun j u e => ?_⟩
    · show ((L2.wipe σ is).set i none).length = ((is.foldr (fun i g => g.set i none) G).set i none).length
      rw [List.length_set, List.length_set]; exact ih.len
    · have e' : ((is.foldr (fun i g => g.set i none) G).set i none)[j]? = some (some u) := e
      by_cases q : i = j
      · subst q
        by_cases hl : i < (is.foldr (fun i g => g.set i none) G).length
        · rw [List.getElem?_set_self hl] at e'
          cases e'
        · rw [List.getElem?_eq_none (by rw [List.length_set]; omega)] at e'
          cases e'
      · rw [List.getElem?_set_ne q] at e'
        obtain ⟨v, h1, h2⟩ := ih.at_ j u e'
        refine ⟨v, ?_, h2⟩
        show ((L2.wipe σ is).set i none)[j]? = _
        rw [List.getElem?_set_ne q]
        exact h1
end
end Cu
/-! CuB: the judgements over states told by data, and the rules of the base. -/
namespace Cu
open PySem PySem.Spec PyProof.Rows L2
/-! ### what a piece of code does, by its own meaning -/
def sE (X : Cx) (e : Expr) : TE := fun σ H Q => ∀ (pins : List (Addr × Obj)) (s : Shared), Inv X pins σ H s → wpAny (model X.prog X.w) X.A (eval e X.env) (EP X pins σ Q) X.xe s
def sT (X : Cx) (e : Expr) : TT := fun σ H Q => ∀ (pins : List (Addr × Obj)) (s : Shared), Inv X pins σ H s → wpAny (model X.prog X.w) X.A (isTrue e X.env (eval e X.env)) (TP X pins σ Q) X.xe s
def sW (X : Cx) (e : Expr) : TT := fun σ H Q => ∀ (whole : Sem Value) (pins : List (Addr × Obj)) (s : Shared), Inv X pins σ H s → wpAny (model X.prog X.w) X.A (isTrue e X.env whole) (TP X pins σ Q) X.xe s
def sA (X : Cx) (es : List Expr) : TA := fun σ H Q => ∀ (pos : Pos) (pins : List (Addr × Obj)) (s : Shared), Inv X pins σ H s → wpAny (model X.prog X.w) X.A (spliced (backTo pos (starEach es X.env))) (AP X pins σ Q) X.xe s
def sS (X : Cx) (st : Stmt) : TS := fun D σ H => ∀ (pins : List (Addr × Obj)) (s : Shared), Inv X pins σ H s → wpAny (model X.prog X.w) X.A (exec st X.env) (SP X pins D) X.xe s
def sSs (X : Cx) (st : List Stmt) : TS := fun D σ H => ∀ (pins : List (Addr × Obj)) (s : Shared), Inv X pins σ H s → wpAny (model X.prog X.w) X.A (execs st X.env) (SP X pins D) X.xe s
def sG (X : Cx) (tg : Expr) : TG := fun v σ H Q => ∀ (pins : List (Addr × Obj)) (s : Shared) (u : Value), Inv X pins σ H s → RelV v u → wpAny (model X.prog X.w) X.A (assign tg X.env u) (fun _ s' => ∃ σ' H', Inv X pins σ' H' s' ∧ Q σ' H') X.xe s
def sGs (X : Cx) (ts : List Expr) : TGs := fun vs σ H Q => ∀ (pins : List (Addr × Obj)) (s : Shared) (us : List Value), Inv X pins σ H s → Vals vs us → wpAny (model X.prog X.w) X.A (assignInOrder ((assignEach ts X.env).map (·.2)) us) (fun _ s' => ∃ σ' H', Inv X pins σ' H' s' ∧ Q σ' H') X.xe s
section
variable {X : Cx}
theorem pe_s {e : Expr} : PE X e (sE X e) := ⟨fun pins s _ _ _ I h => h pins s I⟩
theorem pt_s {e : Expr} : PT X e (sT X e) := ⟨fun pins s _ _ _ I h => h pins s I⟩
theorem pw_s {e : Expr} : PW X e (sW X e) := ⟨fun w pins s _ _ _ I h => h w pins s I⟩
theorem pa_s {es : List Expr} : PA X es (sA X es) := ⟨fun pos pins s _ _ _ I h => h pos pins s I⟩
theorem ps_s {st : Stmt} : PS X st (sS X st) := ⟨fun pins s _ _ _ I h => h pins s I⟩
theorem pss_s {st : List Stmt} : PSs X st (sSs X st) := ⟨fun pins s _ _ _ I h => h pins s I⟩
theorem pg_s {e : Expr} : PG X e (sG X e) := ⟨fun pins s _ _ _ u _ I r h => h pins s u I r⟩
theorem pgs_s {es : List Expr} : PGs X es (sGs X es) := ⟨fun pins s _ _ _ us _ I r h => h pins s us I r⟩
theorem toE {e : Expr} {t : TE} (h : PE X e t) {σ : Sig} {H : Hp} {Q : VK} (q : t σ H Q) : sE X e σ H Q := fun pins s I => h.run pins s σ H Q I q
theorem toT {e : Expr} {t : TT} (h : PT X e t) {σ : Sig} {H : Hp} {Q : Bool → Hp → Prop} (q : t σ H Q) : sT X e σ H Q := fun pins s I => h.run pins s σ H Q I q
theorem toW {e : Expr} {t : TT} (h : PW X e t) {σ : Sig} {H : Hp} {Q : Bool → Hp → Prop} (q : t σ H Q) : sW X e σ H Q := fun w pins s I => h.run w pins s σ H Q I q
theorem toA {es : List Expr} {t : TA} (h : PA X es t) {σ : Sig} {H : Hp} {Q : List V → Hp → Prop} (q : t σ H Q) : sA X es σ H Q := fun pos pins s I => h.run pos pins s σ H Q I q
theorem toS {st : Stmt} {t : TS} (h : PS X st t) {D : Ends} {σ : Sig} {H : Hp} (q : t D σ H) : sS X st D σ H := fun pins s I => h.run pins s σ H D I q
theorem toSs {st : List Stmt} {t : TS} (h : PSs X st t) {D : Ends} {σ : Sig} {H : Hp} (q : t D σ H) : sSs X st D σ H := fun pins s I => h.run pins s σ H D I q
theorem toG {e : Expr} {t : TG} (h : PG X e t) {v : V} {σ : Sig} {H : Hp} {Q : Sig → Hp → Prop} (q : t v σ H Q) : sG X e v σ H Q := fun pins s u I r => h.run pins s σ H v u Q I r q
theorem toGs {es : List Expr} {t : TGs} (h : PGs X es t) {vs : List V} {σ : Sig} {H : Hp} {Q : Sig → Hp → Prop} (q : t vs σ H Q) : sGs X es vs σ H Q := fun pins s us I r => h.run pins s σ H vs us Q I r q
end
/-- what stands around a piece of code: nothing is being handled, W is what is wanted of an error, k levels of room -/
structure Cxo (X : Cx) (W : WX) (k : Nat) : Prop where
  calm : X.calm = true
  nd : X.N.Nodup
  tk : Takes X W
  po : PassesOwn (model X.prog X.w) X.A X.env X.xe
  hr : Room k X.A
theorem Cxo.less {X : Cx} {W : WX} {k j : Nat} (c : Cxo X W k) (h : j ≤ k) : Cxo X W j := ⟨c.calm, c.nd, c.tk, c.po, c.hr.mono h⟩
/-- e gives r and leaves the store S' -/
def Ev (X : Cx) (e : Expr) (G : Gam) (S : Sto) (r : It) (S' : Sto) : Prop := ∀ (M : List Addr) (σ : Sig) (H : Hp) (Q : VK), Stt X.K M H S G σ →
  (∀ v M' H', Ext M H M' H' → Stt X.K M' H' S' G σ → VRep X.K M' H' v r → Q v H') → sE X e σ H Q
def EvT (X : Cx) (e : Expr) (G : Gam) (S : Sto) (b : Bool) (S' : Sto) : Prop := ∀ (M : List Addr) (σ : Sig) (H : Hp) (Q : Bool → Hp → Prop), Stt X.K M H S G σ →
  (∀ M' H', Ext M H M' H' → Stt X.K M' H' S' G σ → Q b H') → sT X e σ H Q
def EvW (X : Cx) (e : Expr) (G : Gam) (S : Sto) (b : Bool) (S' : Sto) : Prop := ∀ (M : List Addr) (σ : Sig) (H : Hp) (Q : Bool → Hp → Prop), Stt X.K M H S G σ →
  (∀ M' H', Ext M H M' H' → Stt X.K M' H' S' G σ → Q b H') → sW X e σ H Q
def EvA (X : Cx) (es : List Expr) (G : Gam) (S : Sto) (rs : List It) (S' : Sto) : Prop := ∀ (M : List Addr) (σ : Sig) (H : Hp) (Q : List V → Hp → Prop), Stt X.K M H S G σ →
  (∀ vs M' H', Ext M H M' H' → Stt X.K M' H' S' G σ → VReps X.K M' H' vs rs → Q vs H') → sA X es σ H Q
/-- the target takes r -/
def EvG (X : Cx) (tg : Expr) (r : It) (G : Gam) (S : Sto) (G' : Gam) (S' : Sto) : Prop := ∀ (M : List Addr) (σ : Sig) (H : Hp) (v : V) (Q : Sig → Hp → Prop), Stt X.K M H S G σ → VRep X.K M H v r →
  (∀ σ' M' H', Ext M H M' H' → Stt X.K M' H' S' G' σ' → Q σ' H') → sG X tg v σ H Q
def EvGs (X : Cx) (ts : List Expr) (rs : List It) (G : Gam) (S : Sto) (G' : Gam) (S' : Sto) : Prop := ∀ (M : List Addr) (σ : Sig) (H : Hp) (vs : List V) (Q : Sig → Hp → Prop), Stt X.K M H S G σ → VReps X.K M H vs rs →
  (∀ σ' M' H', Ext M H M' H' → Stt X.K M' H' S' G' σ' → Q σ' H') → sGs X ts vs σ H Q
/-- what is wanted behind a statement -/
structure Post where
  nx : Gam → Sto → Prop
  rt : It → Sto → Prop := fun _ _ => False
  bk : Gam → Sto → Prop := fun _ _ => False
  ct : Gam → Sto → Prop := fun _ _ => False
  xc : Addr → Gam → Sto → Prop := fun _ _ _ => False
structure Meets (K : PySem.W.Frag) (W : WX) (M : List Addr) (H : Hp) (P : Post) (D : Ends) : Prop where
  nx : ∀ (M' : List Addr) (σ' : Sig) (H' : Hp) (G' : Gam) (S' : Sto), Ext M H M' H' → Stt K M' H' S' G' σ' → P.nx G' S' → D.nx σ' H'
  rt : ∀ (v : V) (M' : List Addr) (H' : Hp) (r : It) (S' : Sto), Ext M H M' H' → StoreOk K M' H' S' → VRep K M' H' v r → P.rt r S' → D.rt v H'
  bk : ∀ (M' : List Addr) (σ' : Sig) (H' : Hp) (G' : Gam) (S' : Sto), Ext M H M' H' → Stt K M' H' S' G' σ' → P.bk G' S' → D.bk σ' H'
  ct : ∀ (M' : List Addr) (σ' : Sig) (H' : Hp) (G' : Gam) (S' : Sto), Ext M H M' H' → Stt K M' H' S' G' σ' → P.ct G' S' → D.ct σ' H'
  xc : ∀ (M' : List Addr) (σ' : Sig) (H' : Hp) (G' : Gam) (C : Addr) (S' : Sto), Ext M H M' H' → Stt K M' H' S' G' σ' → P.xc C G' S' → W (.ref C) none σ' H'
theorem Meets.ext {K : PySem.W.Frag} {W : WX} {M M1 : List Addr} {H H1 : Hp} {P : Post} {D : Ends} (m : Meets K W M H P D) (e : Ext M H M1 H1) : Meets K W M1 H1 P D :=
  ⟨fun M' σ' H' G' S' x => m.nx M' σ' H' G' S' (e.trans x), fun v M' H' r S' x => m.rt v M' H' r S' (e.trans x), fun M' σ' H' G' S' x => m.bk M' σ' H' G' S' (e.trans x), fun M' σ' H' G' S' x => m.ct M' σ' H' G' S' (e.trans x), fun M' σ' H' G' C S' x => m.xc M' σ' H' G' C S' (e.trans x)⟩
def WS (X : Cx) (W : WX) (st : Stmt) (G : Gam) (S : Sto) (P : Post) : Prop := ∀ (M : List Addr) (σ : Sig) (H : Hp) (D : Ends), Stt X.K M H S G σ → Meets X.K W M H P D → sS X st D σ H
def WSs (X : Cx) (W : WX) (st : List Stmt) (G : Gam) (S : Sto) (P : Post) : Prop := ∀ (M : List Addr) (σ : Sig) (H : Hp) (D : Ends), Stt X.K M H S G σ → Meets X.K W M H P D → sSs X st D σ H
section
variable {X : Cx} {W : WX} {k : Nat} {G G1 G2 : Gam} {S S1 S2 S3 : Sto} {P : Post} {e a b : Expr} {es : List Expr} {r x y z : It} {rs : List It} {pos pos' : Pos} {st : Stmt} {sts : List Stmt}
/-! ### weakening -/
theorem WSs.imp {P' : Post} (h : WSs X W sts G S P) (h1 : ∀ G S, P.nx G S → P'.nx G S) (h2 : ∀ r S, P.rt r S → P'.rt r S := by intro _ _ h; exact h) (h3 : ∀ G S, P.bk G S → P'.bk G S := by intro _ _ h; exact h) (h4 : ∀ G S, P.ct G S → P'.ct G S := by intro _ _ h; exact h) (h5 : ∀ C G S, P.xc C G S → P'.xc C G S := by intro _ _ _ h; exact h) : WSs X W sts G S P' :=
  fun M σ H D s m => h M σ H D s ⟨fun M' σ' H' G' S' e t q => m.nx M' σ' H' G' S' e t (h1 _ _ q), fun v M' H' r S' e t u q => m.rt v M' H' r S' e t u (h2 _ _ q), fun M' σ' H' G' S' e t q => m.bk M' σ' H' G' S' e t (h3 _ _ q), fun M' σ' H' G' S' e t q => m.ct M' σ' H' G' S' e t (h4 _ _ q), fun M' σ' H' G' C S' e t q => m.xc M' σ' H' G' C S' e t (h5 _ _ _ q)⟩
/-! ### names and constants -/
theorem vr_int {K : PySem.W.Frag} {M : List Addr} {H : Hp} {v : V} {i : Int} (h : VRep K M H v (.d (.int i))) : v = .int i := by
  have h' : Fz M H v (.int i) := h
  cases h'; rfl
theorem vr_bool {K : PySem.W.Frag} {M : List Addr} {H : Hp} {v : V} {i : Bool} (h : VRep K M H v (.d (.bool i))) : v = .bl i := by
  have h' : Fz M H v (.bool i) := h
  cases h'; rfl
theorem vr_str {K : PySem.W.Frag} {M : List Addr} {H : Hp} {v : V} {i : Str} (h : VRep K M H v (.d (.str i))) : v = .str i := by
  have h' : Fz M H v (.str i) := h
  cases h'; rfl
theorem vr_none {K : PySem.W.Frag} {M : List Addr} {H : Hp} {v : V} (h : VRep K M H v (.d .none)) : v = .non := by
  have h' : Fz M H v .none := h
  cases h'; rfl
theorem ev_name (i : Nat) {n : Str} (hg : G[i]? = some (some r) := by rfl) (hN : X.N[i]? = some n := by rfl) (hv : Vis X.env.scope n := by first | exact Or.inl rfl | exact Or.inr (Or.inl rfl) | exact Or.inr (Or.inr rfl)) (hd : (n == ("__debug__" : Str)) = false := by decide)
    (hcd : (n == ("__classdict__" : Str)) = false := by decide) : Ev X (.Name n pos) G S r S := fun M σ H Q s q => by
  obtain ⟨v, h1, h2⟩ := s.at_ i r hg
  exact toE (pe_var hN hv hd hcd) ⟨v, h1, q v M H Ext.refl s h2⟩
theorem ev_int {i : Int} {j : Nat} : Ev X (.Constant (.int i) j pos) G S (.d (.int i)) S := fun M σ H Q s q => toE pe_int (q _ M H Ext.refl s (Fz.int i))
theorem ev_bool {i : Bool} {j : Nat} : Ev X (.Constant (.bool i) j pos) G S (.d (.bool i)) S := fun M σ H Q s q => toE pe_bl (q _ M H Ext.refl s (Fz.bl i))
theorem ev_none {j : Nat} : Ev X (.Constant .none j pos) G S (.d .none) S := fun M σ H Q s q => toE pe_non (q _ M H Ext.refl s Fz.non)
theorem ev_str {i : Str} {j : Nat} : Ev X (.Constant (.str i) j pos) G S (.d (.str i)) S := fun M σ H Q s q => toE pe_str (q _ M H Ext.refl s (Fz.str i))
theorem ev_glob {n : Str} {v : V} {u : Value} (hm : X.mg n = some u) (hr : RelV v u) (hg : Gl X n := by rfl) (hd : (n == ("__debug__" : Str)) = false := by decide) : Ev X (.Name n pos) G S (.r v) S := fun M σ H Q s q => toE (pe_glob hg hm hr hd) (q _ M H Ext.refl s rfl)
theorem ev_gint {n : Str} {i : Int} (hm : ∃ t, X.mg n = some (.int i t)) (hg : Gl X n := by rfl) (hd : (n == ("__debug__" : Str)) = false := by decide) : Ev X (.Name n pos) G S (.d (.int i)) S := fun M σ H Q s q => by
  obtain ⟨t, hm⟩ := hm
  exact toE (pe_glob (v := .int i) hg hm ⟨t, rfl⟩ hd) (q _ M H Ext.refl s (Fz.int i))
theorem ev_gstr {n : Str} {i : Str} (hm : ∃ t, X.mg n = some (.str i t)) (hg : Gl X n := by rfl) (hd : (n == ("__debug__" : Str)) = false := by decide) : Ev X (.Name n pos) G S (.d (.str i)) S := fun M σ H Q s q => by
  obtain ⟨t, hm⟩ := hm
  exact toE (pe_glob (v := .str i) hg hm ⟨t, rfl⟩ hd) (q _ M H Ext.refl s (Fz.str i))
theorem ev_type {n : Str} {T : String} (hm : X.mg n = none) (hv : bootBuiltins n = some (.type T) := by decide +kernel) (hg : Gl X n := by rfl) (hn : n ≠ "__name__" := by decide) (hd : (n == ("__debug__" : Str)) = false := by decide) : Ev X (.Name n pos) G S (.r (.ty T)) S := fun M σ H Q s q =>
  toE (pe_bltn (v := .ty T) hg hm hv rfl hn hd) (q _ M H Ext.refl s rfl)
/-! ### operators, by values -/
/-- an operation on two values -/
def RW2 (X : Cx) (rr : R2) (x y : It) (S : Sto) (z : It) (S' : Sto) : Prop := ∀ (M : List Addr) (H : Hp) (v u : V) (Q : VK), StoreOk X.K M H S → VRep X.K M H v x → VRep X.K M H u y →
  (∀ w M' H', Ext M H M' H' → StoreOk X.K M' H' S' → VRep X.K M' H' w z → Q w H') → rr v u H Q
def RW1 (X : Cx) (rr : V → Hp → VK → Prop) (x : It) (S : Sto) (z : It) (S' : Sto) : Prop := ∀ (M : List Addr) (H : Hp) (v : V) (Q : VK), StoreOk X.K M H S → VRep X.K M H v x →
  (∀ w M' H', Ext M H M' H' → StoreOk X.K M' H' S' → VRep X.K M' H' w z → Q w H') → rr v H Q
/-- a call of a built-in by values -/
def RWC (X : Cx) (rr : List V → Hp → VK → Prop) (xs : List It) (S : Sto) (z : It) (S' : Sto) : Prop := ∀ (M : List Addr) (H : Hp) (vs : List V) (Q : VK), StoreOk X.K M H S → VReps X.K M H vs xs →
  (∀ w M' H', Ext M H M' H' → StoreOk X.K M' H' S' → VRep X.K M' H' w z → Q w H') → rr vs H Q
/-- a method of a built-in type by values -/
def RWM (X : Cx) (rr : V → List V → Hp → VK → Prop) (x : It) (xs : List It) (S : Sto) (z : It) (S' : Sto) : Prop := ∀ (M : List Addr) (H : Hp) (v : V) (vs : List V) (Q : VK), StoreOk X.K M H S → VRep X.K M H v x → VReps X.K M H vs xs →
  (∀ w M' H', Ext M H M' H' → StoreOk X.K M' H' S' → VRep X.K M' H' w z → Q w H') → rr v vs H Q
theorem ev_op {op : Operator} {rr : R2} (ho : OpR X (binaryOp op) rr) (ha : Ev X a G S x S1) (hb : Ev X b G S1 y S2) (hr : RW2 X rr x y S2 z S3) : Ev X (.BinOp a op b pos) G S z S3 := fun M σ H Q s q =>
  toE (pe_op ho pe_s pe_s) (ha M σ H _ s fun v M1 H1 e1 s1 r1 => hb M1 σ H1 _ s1 fun u M2 H2 e2 s2 r2 => hr M2 H2 v u _ s2.sto (r1.ext e2) r2 fun w M3 H3 e3 s3 r3 => q w M3 H3 ((e1.trans e2).trans e3) (s2.mono e3 s3) r3)
theorem ev_cmp {op : CmpOp} {rr : R2} (ho : OpR X (compareOp op) rr) (ha : Ev X a G S x S1) (hb : Ev X b G S1 y S2) (hr : RW2 X rr x y S2 z S3) (hm : behindInMarks op b = false := by first | exact nomark _ | rfl) : Ev X (.Compare a [op] [b] pos) G S z S3 := fun M σ H Q s q =>
  toE (pe_cmpR ho pe_s pe_s hm) (ha M σ H _ s fun v M1 H1 e1 s1 r1 => hb M1 σ H1 _ s1 fun u M2 H2 e2 s2 r2 => hr M2 H2 v u _ s2.sto (r1.ext e2) r2 fun w M3 H3 e3 s3 r3 => q w M3 H3 ((e1.trans e2).trans e3) (s2.mono e3 s3) r3)
theorem evt_cmp {op : CmpOp} {rr : R2} {c : Bool} (ho : OpR X (compareOp op) rr) (ha : Ev X a G S x S1) (hb : Ev X b G S1 y S2) (hr : RW2 X rr x y S2 (.d (.bool c)) S3) (hm : behindInMarks op b = false := by first | exact nomark _ | rfl) : EvT X (.Compare a [op] [b] pos) G S c S3 := fun M σ H Q s q =>
  toT (pt_cmpR ho pe_s pe_s hm) (ha M σ H _ s fun v M1 H1 e1 s1 r1 => hb M1 σ H1 _ s1 fun u M2 H2 e2 s2 r2 => hr M2 H2 v u _ s2.sto (r1.ext e2) r2 fun w M3 H3 e3 s3 r3 => ⟨c, vr_bool r3, q M3 H3 ((e1.trans e2).trans e3) (s2.mono e3 s3)⟩)
theorem ev_un {op : UnaryOp} {rr : V → Hp → VK → Prop} (ho : UnR X (unaryOp op) rr) (ha : Ev X a G S x S1) (hr : RW1 X rr x S1 z S2) : Ev X (.UnaryOp op a pos) G S z S2 := fun M σ H Q s q =>
  toE (pe_un ho pe_s) (ha M σ H _ s fun v M1 H1 e1 s1 r1 => hr M1 H1 v _ s1.sto r1 fun w M3 H3 e3 s3 r3 => q w M3 H3 (e1.trans e3) (s1.mono e3 s3) r3)
/-- a op b op' c -/
theorem ev_chain {op op' : CmpOp} {rr rr' : R2} {c : Expr} {w : It} {k1 k2 : Bool} (ho : OpR X (compareOp op) rr) (ho' : OpR X (compareOp op') rr') (ha : Ev X a G S x S1) (hb : Ev X b G S1 y S2) (hr : RW2 X rr x y S2 (.d (.bool k1)) S2)
    (hc : k1 = true → Ev X c G S2 w S2) (hr' : k1 = true → RW2 X rr' y w S2 (.d (.bool k2)) S2) (hm : lastMarks [op, op'] [b, c] = false := by rfl) : Ev X (.Compare a [op, op'] [b, c] pos) G S (.d (.bool (k1 && k2))) S2 := fun M σ H Q s q =>
  toE (pe_chain ho ho' pe_s pe_s pe_s hm) (ha M σ H _ s fun v M1 H1 e1 s1 r1 => hb M1 σ H1 _ s1 fun u M2 H2 e2 s2 r2 => hr M2 H2 v u _ s2.sto (r1.ext e2) r2 fun w' M3 H3 e3 s3 r3 => ⟨k1, vr_bool r3, by
    cases k1 with
    | true =>
      exact iteT (hc rfl M3 σ H3 _ (s2.mono e3 s3) fun u4 M4 H4 e4 s4 r4 => hr' rfl M4 H4 u u4 _ s4.sto (r2.ext (e3.trans e4)) r4 fun u5 M5 H5 e5 s5 r5 => q u5 M5 H5 ((((e1.trans e2).trans e3).trans e4).trans e5) (s4.mono e5 s5) r5)
    | false => exact iteF (q _ M3 H3 ((e1.trans e2).trans e3) (s2.mono e3 s3) (Fz.bl false))⟩)
theorem evt_chain {op op' : CmpOp} {rr rr' : R2} {c : Expr} {w : It} {k1 k2 : Bool} (ho : OpR X (compareOp op) rr) (ho' : OpR X (compareOp op') rr') (ha : Ev X a G S x S1) (hb : Ev X b G S1 y S2) (hr : RW2 X rr x y S2 (.d (.bool k1)) S2)
    (hc : k1 = true → Ev X c G S2 w S2) (hr' : k1 = true → RW2 X rr' y w S2 (.d (.bool k2)) S2) (hm : lastMarks [op, op'] [b, c] = false := by rfl) : EvT X (.Compare a [op, op'] [b, c] pos) G S (k1 && k2) S2 := fun M σ H Q s q =>
  toT (pt_chain ho ho' pe_s pe_s pe_s hm) (ha M σ H _ s fun v M1 H1 e1 s1 r1 => hb M1 σ H1 _ s1 fun u M2 H2 e2 s2 r2 => hr M2 H2 v u _ s2.sto (r1.ext e2) r2 fun w' M3 H3 e3 s3 r3 => ⟨k1, vr_bool r3, by
    cases k1 with
    | true =>
      exact iteT (hc rfl M3 σ H3 _ (s2.mono e3 s3) fun u4 M4 H4 e4 s4 r4 => hr' rfl M4 H4 u u4 _ s4.sto (r2.ext (e3.trans e4)) r4 fun u5 M5 H5 e5 s5 r5 => ⟨k2, vr_bool r5, q M5 H5 ((((e1.trans e2).trans e3).trans e4).trans e5) (s4.mono e5 s5)⟩)
    | false => exact iteF ⟨false, rfl, q M3 H3 ((e1.trans e2).trans e3) (s2.mono e3 s3)⟩⟩)
/-! ### tests -/
theorem evt_val {c : Bool} (h : Ev X e G S (.d (.bool c)) S1) (he : ∀ whole, isTrue e X.env whole = (do let v ← whole; standAt e.pos; holding [v] (truthy v)) := by intro _; rfl) : EvT X e G S c S1 := fun M σ H Q s q =>
  toT (pt_val pe_s he) (h M σ H _ s fun v M1 H1 e1 s1 r1 => ⟨c, vr_bool r1, q M1 H1 e1 s1⟩)
theorem evt_w {c : Bool} (h : EvW X e G S c S1) : EvT X e G S c S1 := fun M σ H Q s q => toT pw_s.pt (h M σ H _ s q)
theorem evt_not {c : Bool} (h : EvT X a G S c S1) : EvT X (.UnaryOp .Not a pos) G S (!c) S1 := fun M σ H Q s q => toT (pt_not pt_s) (h M σ H _ s q)
theorem evw_and1 {c : Bool} (h : EvT X a G S c S1) : EvW X (.BoolOp .And [a] pos) G S c S1 := fun M σ H Q s q => toW (pw_and1 pt_s) (h M σ H _ s q)
theorem evw_or1 {c : Bool} (h : EvT X a G S c S1) : EvW X (.BoolOp .Or [a] pos) G S c S1 := fun M σ H Q s q => toW (pw_or1 pt_s) (h M σ H _ s q)
theorem evw_and {c d : Bool} (h : EvT X a G S c S) (h2 : c = true → EvW X (.BoolOp .And (b :: es) pos) G S d S) : EvW X (.BoolOp .And (a :: b :: es) pos) G S (c && d) S := fun M σ H Q s q =>
  toW (pw_and pt_s pw_s) (h M σ H _ s fun M1 H1 e1 s1 => by
    cases c with
    | true => exact iteT (h2 rfl M1 σ H1 _ s1 fun M2 H2 e2 s2 => q M2 H2 (e1.trans e2) s2)
    | false => exact iteF (q M1 H1 e1 s1))
theorem evw_or {c d : Bool} (h : EvT X a G S c S) (h2 : c = false → EvW X (.BoolOp .Or (b :: es) pos) G S d S) : EvW X (.BoolOp .Or (a :: b :: es) pos) G S (c || d) S := fun M σ H Q s q =>
  toW (pw_or pt_s pw_s) (h M σ H _ s fun M1 H1 e1 s1 => by
    cases c with
    | true => exact iteT (q M1 H1 e1 s1)
    | false => exact iteF (h2 rfl M1 σ H1 _ s1 fun M2 H2 e2 s2 => q M2 H2 (e1.trans e2) s2))
theorem ev_and1 {op : BoolOp} (h : Ev X a G S x S1) : Ev X (.BoolOp op [a] pos) G S x S1 := fun M σ H Q s q => toE (pe_one pe_s) (h M σ H _ s q)
theorem ev_and {c d : Bool} (h : Ev X a G S (.d (.bool c)) S) (h2 : c = true → Ev X (.BoolOp .And (b :: es) pos) G S (.d (.bool d)) S) : Ev X (.BoolOp .And (a :: b :: es) pos) G S (.d (.bool (c && d))) S := fun M σ H Q s q =>
  toE (pe_and pe_s pe_s) (h M σ H _ s fun v M1 H1 e1 s1 r1 => ⟨c, vr_bool r1, by
    cases c with
    | true => exact iteT (h2 rfl M1 σ H1 _ s1 fun w M2 H2 e2 s2 r2 => q w M2 H2 (e1.trans e2) s2 r2)
    | false => exact iteF (q _ M1 H1 e1 s1 (Fz.bl false))⟩)
theorem ev_or {c d : Bool} (h : Ev X a G S (.d (.bool c)) S) (h2 : c = false → Ev X (.BoolOp .Or (b :: es) pos) G S (.d (.bool d)) S) : Ev X (.BoolOp .Or (a :: b :: es) pos) G S (.d (.bool (c || d))) S := fun M σ H Q s q =>
  toE (pe_or pe_s pe_s) (h M σ H _ s fun v M1 H1 e1 s1 r1 => ⟨c, vr_bool r1, by
    cases c with
    | true => exact iteT (q _ M1 H1 e1 s1 (Fz.bl true))
    | false => exact iteF (h2 rfl M1 σ H1 _ s1 fun w M2 H2 e2 s2 r2 => q w M2 H2 (e1.trans e2) s2 r2)⟩)
theorem ev_not {c : Bool} (h : Ev X a G S (.d (.bool c)) S1) : Ev X (.UnaryOp .Not a pos) G S (.d (.bool (!c))) S1 := fun M σ H Q s q =>
  toE (pe_not pe_s) (h M σ H _ s fun v M1 H1 e1 s1 r1 => ⟨c, vr_bool r1, q _ M1 H1 e1 s1 (Fz.bl _)⟩)
theorem ev_ife {t : Expr} {c : Bool} (h : EvT X t G S c S1) (h1 : c = true → Ev X a G S1 x S2) (h2 : c = false → Ev X b G S1 x S2) : Ev X (.IfExp t a b pos) G S x S2 := fun M σ H Q s q =>
  toE (pe_ifExp pt_s pe_s pe_s) (h M σ H _ s fun M1 H1 e1 s1 => by
    cases c with
    | true => exact iteT (h1 rfl M1 σ H1 _ s1 fun w M2 H2 e2 s2 r2 => q w M2 H2 (e1.trans e2) s2 r2)
    | false => exact iteF (h2 rfl M1 σ H1 _ s1 fun w M2 H2 e2 s2 r2 => q w M2 H2 (e1.trans e2) s2 r2))
/-- another name for the same answer -/
theorem Ev.is {r' : It} (h : Ev X e G S r S1) (q : r = r') : Ev X e G S r' S1 := q ▸ h
theorem EvT.is {c c' : Bool} (h : EvT X e G S c S1) (q : c = c') : EvT X e G S c' S1 := q ▸ h
/-! ### arguments, displays -/
theorem eva_nil : EvA X [] G S [] S := fun M σ H Q s q => toA pa_nil (q [] M H Ext.refl s .nil)
theorem eva_cons (h : Ev X e G S r S1) (h2 : EvA X es G S1 rs S2) (hs : starEach (e :: es) X.env = (false, eval e X.env) :: starEach es X.env := by rfl) : EvA X (e :: es) G S (r :: rs) S2 := fun M σ H Q s q =>
  toA (pa_cons pe_s pa_s hs) (h M σ H _ s fun v M1 H1 e1 s1 r1 => h2 M1 σ H1 _ s1 fun vs M2 H2 e2 s2 r2 => q (v :: vs) M2 H2 (e1.trans e2) s2 (.cons (r1.ext e2) r2))
end
/-- data among items -/
def ds? : List It → Option (List PyData)
  | [] => some []
  | .d x :: r => (ds? r).map (x :: ·)
  | _ :: _ => none
theorem fz_all {K : PySem.W.Frag} {M : List Addr} {H : Hp} : ∀ {rs : List It} {ds : List PyData} {vs : List V}, ds? rs = some ds → VReps K M H vs rs → FzAll M H vs ds
  | [], ds, vs, h, r => by
    cases h
    cases r
    exact .nil
  | .d x :: rs, ds, vs, h, r => by
    cases r with
    | cons r1 r2 =>
      cases q : ds? rs with
      | none => rw [show ds? (.d x :: rs) = (ds? rs).map (x :: ·) from rfl, q] at h; cases h
      | some ds' =>
        rw [show ds? (.d x :: rs) = (ds? rs).map (x :: ·) from rfl, q] at h
        cases h
        exact .cons r1 (fz_all q r2)
  | .o _ :: _, _, _, h, _ => by cases h
  | .r _ :: _, _, _, h, _ => by cases h
  | .s _ :: _, _, _, h, _ => by cases h
theorem VReps.len {K : PySem.W.Frag} {M : List Addr} {H : Hp} {rs : List It} {vs : List V} (r : VReps K M H vs rs) : vs.length = rs.length := Paired.length r
theorem ds_len : ∀ {rs : List It} {ds : List PyData}, ds? rs = some ds → ds.length = rs.length
  | [], ds, h => by cases h; rfl
  | .d x :: rs, ds, h => by
    cases q : ds? rs with
    | none => rw [show ds? (.d x :: rs) = (ds? rs).map (x :: ·) from rfl, q] at h; cases h
    | some ds' =>
      rw [show ds? (.d x :: rs) = (ds? rs).map (x :: ·) from rfl, q] at h
      cases h
      show ds'.length + 1 = rs.length + 1
      rw [ds_len q]
  | .o _ :: _, _, h => by cases h
  | .r _ :: _, _, h => by cases h
  | .s _ :: _, _, h => by cases h
section
variable {X : Cx} {W : WX} {k : Nat} {G G1 G2 : Gam} {S S1 S2 S3 : Sto} {P : Post} {e a b : Expr} {es : List Expr} {r x y z : It} {rs : List It} {pos pos' : Pos} {st : Stmt} {sts : List Stmt} {ds : List PyData}
/-- a tuple of data -/
theorem ev_tup {x1} (h : EvA X es G S rs S1) (hd : ds? rs = some ds := by rfl) (hl : rs.length ≤ 1000 := by exact Nat.le_of_ble_eq_true rfl) : Ev X (.Tuple es x1 pos) G S (.d (.tuple ds)) S1 := fun M σ H Q s q =>
  toE (pe_tup pa_s) (h M σ H _ s fun vs M1 H1 e1 s1 r1 => ⟨Nat.le_of_lt (small1000 (by rw [r1.len]; exact hl)), fun p hp =>
    q _ M1 _ (e1.trans (Ext.fresh hp)) (s1.fresh hp) (Fz.tup ⟨upd_same, s1.sto.nin hp⟩ (FzAll.ext (Ext.fresh hp) (fz_all hd r1)))⟩)
/-- a list of data that stays as it is -/
theorem ev_lst (h : EvA X es G S rs S1) (hd : ds? rs = some ds := by rfl) (hl : rs.length ≤ 1000 := by exact Nat.le_of_ble_eq_true rfl) : Ev X (.List es pos) G S (.d (.list ds)) S1 := fun M σ H Q s q =>
  toE (pe_lst pa_s) (h M σ H _ s fun vs M1 H1 e1 s1 r1 => ⟨Nat.le_of_lt (small1000 (by rw [r1.len]; exact hl)), fun p hp =>
    q _ M1 _ (e1.trans (Ext.fresh hp)) (s1.fresh hp) (Fz.lst ⟨.inl upd_same, s1.sto.nin hp⟩ (FzAll.ext (Ext.fresh hp) (fz_all hd r1)))⟩)
/-- a list that is owned -/
theorem ev_lstO (h : EvA X es G S rs S1) (hl : rs.length ≤ 1000 := by exact Nat.le_of_ble_eq_true rfl) : Ev X (.List es pos) G S (.o S1.length) (S1 ++ [.lst rs]) := fun M σ H Q s q =>
  toE (pe_lst pa_s) (h M σ H _ s fun vs M1 H1 e1 s1 r1 => ⟨Nat.le_of_lt (small1000 (by rw [r1.len]; exact hl)), fun p hp => by
    have e2 : Ext M1 H1 (M1 ++ [p]) (upd H1 p (.lst vs)) := Ext.own hp
    have s2 : StoreOk X.K (M1 ++ [p]) (upd H1 p (.lst vs)) (S1 ++ [.lst rs]) := s1.sto.own hp ⟨vs, upd_same, r1.ext e2⟩
    exact q _ _ _ (e1.trans e2) (s1.mono e2 s2) ⟨p, by rw [← s1.sto.len, List.getElem?_append_right (Nat.le_refl _), Nat.sub_self]; rfl, rfl⟩⟩)
/-! ### statements -/
theorem ss_nil (h : P.nx G S) : WSs X W [] G S P := fun M σ H D s m => toSs pss_nil (m.nx M σ H G S Ext.refl s h)
theorem ss_cons (h : WS X W st G S { P with nx := fun G' S' => WSs X W sts G' S' P }) : WSs X W (st :: sts) G S P := fun M σ H D s m =>
  toSs (pss_cons ps_s pss_s) (h M σ H _ s ⟨fun M' σ' H' G' S' e t q => q M' σ' H' D t (m.ext e), m.rt, m.bk, m.ct, m.xc⟩)
theorem ws_pass (h : P.nx G S) : WS X W (.Pass pos) G S P := fun M σ H D s m => toS ps_pass (m.nx M σ H G S Ext.refl s h)
theorem ws_break (h : P.bk G S) : WS X W (.Break pos) G S P := fun M σ H D s m => toS ps_break (m.bk M σ H G S Ext.refl s h)
theorem ws_continue (h : P.ct G S) : WS X W (.Continue pos) G S P := fun M σ H D s m => toS ps_continue (m.ct M σ H G S Ext.refl s h)
theorem ws_expr (h : Ev X e G S r S1) (q : P.nx G S1) (hs : swapsWith e none pos.line X.env = pure false := by rfl) : WS X W (.Expr e pos) G S P := fun M σ H D s m =>
  toS (ps_expr pe_s hs) (h M σ H _ s fun v M1 H1 e1 s1 r1 => m.nx M1 σ H1 G S1 e1 s1 q)
theorem ws_ret (h : Ev X e G S r S1) (q : P.rt r S1) : WS X W (.Return (some e) pos) G S P := fun M σ H D s m =>
  toS (ps_ret pe_s) (h M σ H _ s fun v M1 H1 e1 s1 r1 => m.rt v M1 H1 r S1 e1 s1.sto r1 q)
theorem ws_retN (q : P.rt (.d .none) S) : WS X W (.Return none pos) G S P := fun M σ H D s m => toS ps_retN (m.rt .non M H (.d .none) S Ext.refl s.sto Fz.non q)
theorem ws_if {c : Expr} {p q : List Stmt} {k1 : Bool} (h : EvT X c G S k1 S1) (h1 : k1 = true → WSs X W p G S1 P) (h2 : k1 = false → WSs X W q G S1 P) : WS X W (.If c p q pos) G S P := fun M σ H D s m =>
  toS (ps_if pt_s pss_s pss_s) (h M σ H _ s fun M1 H1 e1 s1 => by
    cases k1 with
    | true => exact iteT (h1 rfl M1 σ H1 D s1 (m.ext e1))
    | false => exact iteF (h2 rfl M1 σ H1 D s1 (m.ext e1)))
theorem ws_asg {tg : Expr} (h : Ev X e G S r S1) (hg : EvG X tg r G S1 G2 S2) (q : P.nx G2 S2) (hs : swapsWithSole [tg] e pos.line X.env = pure false := by rfl) (hw : swappedStores [tg] e X.env = pure none := by rfl)
    (h1 : (assignEach [tg] X.env).map (·.2) = [assign tg X.env] := by rfl) : WS X W (.Assign [tg] e pos) G S P := fun M σ H D s m =>
  toS (ps_asg pe_s pg_s hs hw h1) (h M σ H _ s fun v M1 H1 e1 s1 r1 => hg M1 σ H1 v _ s1 r1 fun σ' M2 H2 e2 s2 => m.nx M2 σ' H2 G2 S2 (e1.trans e2) s2 q)
theorem evg_name (i : Nat) {n : Str} (nd : X.N.Nodup) (hi : X.N[i]? = some n := by rfl) (hx : Loc X.env.scope n := by first | exact Or.inl rfl | exact Or.inr rfl) (hf : X.fn n = true ∨ X.env.scope.names.lookup n = some .local := by first | exact .inl rfl | exact .inr rfl | assumption) :
    EvG X (.Name n pos) r G S (G.set i (some r)) S := fun M σ H v Q s hv q => toG (pg_name (i := i) nd hi hx hf) (q _ M H Ext.refl (s.set hv))
theorem ws_set (i : Nat) {n : Str} (nd : X.N.Nodup) (h : Ev X e G S r S1) (q : P.nx (G.set i (some r)) S1) (hi : X.N[i]? = some n := by rfl) (hx : Loc X.env.scope n := by first | exact Or.inl rfl | exact Or.inr rfl)
    (hs : swapsWith e (some (.Name n pos')) pos.line X.env = pure false := by rfl) (hf : X.fn n = true ∨ X.env.scope.names.lookup n = some .local := by first | exact .inl rfl | exact .inr rfl | assumption) : WS X W (.Assign [.Name n pos'] e pos) G S P := fun M σ H D s m =>
  toS (ps_set (i := i) nd hi hx pe_s hs hf) (h M σ H _ s fun v M1 H1 e1 s1 r1 => m.nx M1 _ H1 _ S1 e1 (s1.set r1) q)
theorem evgs_nil : EvGs X [] [] G S G S := fun M σ H vs Q s hv q => by
  cases hv
  exact toGs pgs_nil ⟨rfl, q σ M H Ext.refl s⟩
theorem evgs_cons (h : EvG X e r G S G1 S1) (h2 : EvGs X es rs G1 S1 G2 S2) (hs : (assignEach (e :: es) X.env).map (·.2) = assign e X.env :: (assignEach es X.env).map (·.2) := by rfl) : EvGs X (e :: es) (r :: rs) G S G2 S2 := fun M σ H vs Q s hv q => by
  cases hv with
  | cons v1 v2 =>
    exact toGs (pgs_cons pg_s pgs_s hs) ⟨_, _, rfl, h M σ H _ _ s v1 fun σ1 M1 H1 e1 s1 => h2 M1 σ1 H1 _ _ s1 (VReps.ext e1 v2) fun σ2 M2 H2 e2 s2 => q σ2 M2 H2 (e1.trans e2) s2⟩
theorem fz_reps {K : PySem.W.Frag} {M : List Addr} {H : Hp} : ∀ {ds : List PyData} {vs : List V}, FzAll M H vs ds → VReps K M H vs (ds.map .d)
  | [], _, h => by cases h; exact .nil
  | _ :: _, _, h => by
    cases h with
    | cons h1 h2 => exact .cons h1 (fz_reps h2)
theorem fz_len {M : List Addr} {H : Hp} : ∀ {ds : List PyData} {vs : List V}, FzAll M H vs ds → vs.length = ds.length
  | [], _, h => by cases h; rfl
  | _ :: _, _, h => by
    cases h with
    | cons h1 h2 => exact congrArg Nat.succ (fz_len h2)
/-- a, b, .. = a tuple of data -/
theorem evg_tup {j : Nat} (hc : X.calm = true) (h : EvGs X es (ds.map .d) G S G1 S1) (hn : (assignEach es X.env).length = ds.length := by rfl) (hst : (assignEach es X.env).findIdx? (·.1) = none := by rfl) : EvG X (.Tuple es j pos) (.d (.tuple ds)) G S G1 S1 := fun M σ H v Q s hv q => by
  have hv' : Fz M H v (.tuple ds) := hv
  cases hv' with
  | tup h1 h2 => exact toG (pg_tup hc pgs_s hn hst) ⟨_, _, rfl, h1.sq, fz_len h2, h M σ H _ Q s (fz_reps h2) q⟩
end
end Cu
/-! CuC: defs and their calls, loops, comprehensions, over states told by data. -/
namespace Cu
open PySem PySem.Spec PyProof.Rows L2
/-! ### closed stores, objects given back -/
def ClI (n : Nat) : It → Prop
  | .o m => m < n
  | _ => True
def ClO (n : Nat) : Own → Prop
  | .lst xs => ∀ r ∈ xs, ClI n r
  | .dT kvs => ∀ p ∈ kvs, ClI n p.2
  | .dK kvs => ∀ p ∈ kvs, ClI n p.2
  | .ins _ fs => ∀ p ∈ fs, ClI n p.2
  | .tup xs => ∀ r ∈ xs, ClI n r
  | .lkT _ _ kvs => ∀ p ∈ kvs, ClI n p.2
  | .lkK _ _ kvs => ∀ p ∈ kvs, ClI n p.2
  | .tbl _ _ => True
  | .tblN _ _ => True
  | .fn _ cap => ∀ p ∈ cap, ClI n p.2
  | .gone => True
def ClS (S : Sto) : Prop := ∀ w ∈ S, ClO S.length w
section
variable {K : PySem.W.Frag} {M : List Addr} {H : Hp}
theorem Paired.mem2 {α β : Type} {F : α → β → Prop} : ∀ {l1 : List α} {l2 : List β}, Paired F l1 l2 → ∀ b ∈ l2, ∃ a ∈ l1, F a b
  | _, _, .nil, b, h => by cases h
  | _, _, .cons r t, b, h => by
    rcases List.mem_cons.mp h with e | h
    · subst e; exact ⟨_, List.mem_cons_self, r⟩
    · obtain ⟨a, ha, q⟩ := Paired.mem2 t b h
      exact ⟨a, List.mem_cons_of_mem _ ha, q⟩
theorem VRep.closed {v : V} : ∀ {r : It}, VRep K M H v r → ClI M.length r
  | .d _, _ => trivial
  | .o m, ⟨a, h, _⟩ => (List.getElem?_eq_some_iff.mp h).1
  | .r _, _ => trivial
  | .s _, _ => trivial
theorem StoreOk.closed {S : Sto} (h : StoreOk K M H S) : ClS S := fun w hw => by
  obtain ⟨n, hn⟩ := List.getElem?_of_mem hw
  obtain ⟨a, ha, q⟩ := h.addr hn
  rw [← h.len]
  revert q
  cases w with
  | lst xs => exact fun ⟨vs, _, r⟩ b hb => let ⟨v, _, q⟩ := Paired.mem2 r b hb; VRep.closed q
  | dT xs => exact fun ⟨vs, _, r⟩ b hb => let ⟨v, _, q⟩ := Paired.mem2 r b hb; VRep.closed q.2
  | dK xs => exact fun ⟨vs, _, r⟩ b hb => let ⟨v, _, q⟩ := Paired.mem2 r b hb; VRep.closed q.2
  | ins C fs => exact fun ⟨dx, vs, _, r⟩ b hb => let ⟨v, _, q⟩ := Paired.mem2 r b hb; VRep.closed q.2
  | tup xs => exact fun ⟨vs, _, r, _⟩ b hb => let ⟨v, _, q⟩ := Paired.mem2 r b hb; VRep.closed q
  | lkT od ps xs => exact fun ⟨_, r⟩ b hb => let ⟨v, _, q⟩ := Paired.mem2 r b hb; VRep.closed q.2
  | lkK od ps xs => exact fun ⟨_, r⟩ b hb => let ⟨v, _, q⟩ := Paired.mem2 r b hb; VRep.closed q.2
  | tbl P q => exact fun _ => trivial
  | tblN P nm => exact fun _ => trivial
  | fn F cap => exact fun ⟨_, _, _, r⟩ b hb => let ⟨v, _, q⟩ := Paired.mem2 r b.2 (List.mem_map_of_mem hb); VRep.closed q
  | gone => exact fun _ => trivial
theorem VRep.take {n : Nat} {v : V} : ∀ {r : It}, ClI n r → VRep K M H v r → VRep K (M.take n) H v r
  | .d _, _, h => Fz.less (fun _ q => List.mem_of_mem_take q) h
  | .o m, c, ⟨a, h1, h2⟩ => ⟨a, by rw [List.getElem?_take_of_lt c]; exact h1, h2⟩
  | .r _, _, h => h
  | .s _, _, ⟨a, h1, h2⟩ => ⟨a, h1, h2.less fun _ q => List.mem_of_mem_take q⟩
theorem Paired.mapM {α β : Type} {F G : α → β → Prop} : ∀ {l1 : List α} {l2 : List β}, Paired F l1 l2 → (∀ a b, b ∈ l2 → F a b → G a b) → Paired G l1 l2
  | _, _, .nil, _ => .nil
  | _, _, .cons r t, f => .cons (f _ _ List.mem_cons_self r) (Paired.mapM t fun a b hb => f a b (List.mem_cons_of_mem _ hb))
theorem ORep.take {n : Nat} {a : Addr} : ∀ {w : Own}, ClO n w → ORep K M H a w → ORep K (M.take n) H a w
  | .lst _, c, ⟨vs, h1, h2⟩ => ⟨vs, h1, Paired.mapM h2 fun _ b hb q => q.take (c b hb)⟩
  | .dT _, c, ⟨ps, h1, h2⟩ => ⟨ps, h1, Paired.mapM h2 fun _ b hb q => ⟨q.1, q.2.take (c b hb)⟩⟩
  | .dK _, c, ⟨ps, h1, h2⟩ => ⟨ps, h1, Paired.mapM h2 fun _ b hb q => ⟨q.1, q.2.take (c b hb)⟩⟩
  | .ins _ _, c, ⟨dx, ps, h1, h2⟩ => ⟨dx, ps, h1, Paired.mapM h2 fun _ b hb q => ⟨q.1, q.2.take (c b hb)⟩⟩
  | .tup _, c, ⟨vs, h1, h2, h3⟩ => ⟨vs, h1, Paired.mapM h2 fun _ b hb q => q.take (c b hb), h3⟩
  | .lkT _ _ _, c, ⟨h1, h2⟩ => ⟨h1, Paired.mapM h2 fun _ b hb q => ⟨q.1, q.2.take (c b hb)⟩⟩
  | .lkK _ _ _, c, ⟨h1, h2⟩ => ⟨h1, Paired.mapM h2 fun _ b hb q => ⟨q.1, q.2.take (c b hb)⟩⟩
  | .tbl _ _, _, ⟨h0, ps, h1, h2, h3⟩ => ⟨h0, ps, h1, h2, fun pos cv hc => let ⟨c, x1, x2, x3⟩ := h3 pos cv hc; ⟨c, x1, x2, fun z => x3 (List.mem_of_mem_take z)⟩⟩
  | .tblN _ _, _, ⟨h0, ps, h1, h2, h3⟩ => ⟨h0, ps, h1, h2, fun pos cv hc => let ⟨c, x1, x2, x3⟩ := h3 pos cv hc; ⟨c, x1, x2, fun z => x3 (List.mem_of_mem_take z)⟩⟩
  | .fn _ _, c, ⟨h1, h2, h3, h4⟩ => ⟨h1, h2, fun z => h3 (List.mem_of_mem_take z), Paired.mapM h4 fun _ b hb q => by obtain ⟨p, hp, rfl⟩ := List.mem_map.mp hb; exact q.take (c p hp)⟩
  | .gone, _, h => h
/-- later objects are let go -/
theorem StoreOk.take {S L : Sto} (h : StoreOk K M H (S ++ L)) (c : ClS S) : StoreOk K (M.take S.length) H S := by
  have hl : M.length = S.length + L.length := by rw [h.len, List.length_append]
  refine ⟨h.nd.sublist (List.take_sublist _ _), by rw [List.length_take, hl]; omega, fun n a w h1 h2 => ?_⟩
  obtain ⟨hn, _⟩ := List.getElem?_eq_some_iff.mp h2
  rw [List.getElem?_take_of_lt hn] at h1
  exact (h.rep n a w h1 (by rw [List.getElem?_append_left hn]; exact h2)).take (c w (List.mem_of_getElem? h2))
theorem Ext.take {M' : List Addr} {H' : Hp} (e : Ext M H M' H') {n : Nat} (hn : M.length ≤ n) : Ext M H (M'.take n) H' := by
  obtain ⟨L, rfl⟩ := e.pre
  refine ⟨⟨L.take (n - M.length), ?_⟩, e.keep, fun b hb => e.new b (List.mem_of_mem_take hb)⟩
  rw [List.take_append, List.take_of_length_le hn]
mutual
/-- an item, its objects of the n-th and later ones let go, is a datum -/
inductive Den (n : Nat) (S : Sto) : It → PyData → Prop
  | d (x : PyData) : Den n S (.d x) x
  | l {m : Nat} {xs : List It} {ds : List PyData} : n ≤ m → S[m]? = some (.lst xs) → DenAll n S xs ds → Den n S (.o m) (.list ds)
  | t {m : Nat} {xs : List It} {ds : List PyData} : n ≤ m → S[m]? = some (.tup xs) → DenAll n S xs ds → Den n S (.o m) (.tuple ds)
inductive DenAll (n : Nat) (S : Sto) : List It → List PyData → Prop
  | nil : DenAll n S [] []
  | cons {r : It} {rs : List It} {x : PyData} {xs : List PyData} : Den n S r x → DenAll n S rs xs → DenAll n S (r :: rs) (x :: xs)
end
theorem nin_take {n m : Nat} (nd : M.Nodup) (h : n ≤ m) {a : Addr} (ha : M[m]? = some a) : a ∉ M.take n := fun hm => by
  obtain ⟨j, hj⟩ := List.getElem?_of_mem hm
  have hjn : j < n := by
    rcases Nat.lt_or_ge j n with q | q
    · exact q
    · rw [List.getElem?_eq_none (by rw [List.length_take]; omega)] at hj
      cases hj
  rw [List.getElem?_take_of_lt hjn] at hj
  obtain ⟨l1, q1⟩ := List.getElem?_eq_some_iff.mp hj
  obtain ⟨l2, q2⟩ := List.getElem?_eq_some_iff.mp ha
  have := (List.getElem_inj nd).mp (q1.trans q2.symm)
  omega
mutual
theorem Den.fz {S : Sto} {n : Nat} (s : StoreOk K M H S) : ∀ {x : PyData} {r : It} {v : V}, Den n S r x → VRep K M H v r → Fz (M.take n) H v x
  | .none, _, _, h, q => by cases h with | d => exact Fz.less (fun _ q => List.mem_of_mem_take q) q
  | .bool _, _, _, h, q => by cases h with | d => exact Fz.less (fun _ q => List.mem_of_mem_take q) q
  | .int _, _, _, h, q => by cases h with | d => exact Fz.less (fun _ q => List.mem_of_mem_take q) q
  | .str _, _, _, h, q => by cases h with | d => exact Fz.less (fun _ q => List.mem_of_mem_take q) q
  | .tuple ds, _, _, h, q => by
    cases h with
    | d => exact Fz.less (fun _ q => List.mem_of_mem_take q) q
    | t h1 h2 h3 =>
      obtain ⟨a, ha, e⟩ := q
      obtain ⟨vs, hv, hr, _⟩ := s.rep _ a _ ha h2
      rw [e]
      exact .tup ⟨hv, nin_take s.nd h1 ha⟩ (DenAll.fz s h3 hr)
  | .dict _, _, _, h, q => by cases h with | d => exact Fz.less (fun _ q => List.mem_of_mem_take q) q
  | .list ds, _, _, h, q => by
    cases h with
    | d => exact Fz.less (fun _ q => List.mem_of_mem_take q) q
    | l h1 h2 h3 =>
      obtain ⟨a, ha, e⟩ := q
      obtain ⟨vs, hv, hr⟩ := s.rep _ a _ ha h2
      rw [e]
      exact .lst ⟨.inl hv, nin_take s.nd h1 ha⟩ (DenAll.fz s h3 hr)
theorem DenAll.fz {S : Sto} {n : Nat} (s : StoreOk K M H S) : ∀ {xs : List PyData} {rs : List It} {vs : List V}, DenAll n S rs xs → VReps K M H vs rs → FzAll (M.take n) H vs xs
  | [], _, _, h, q => by
    cases h
    cases q
    exact .nil
  | x :: xs, _, _, h, q => by
    cases h with
    | cons h1 h2 =>
      cases q with
      | cons q1 q2 => exact .cons (Den.fz s h1 q1) (DenAll.fz s h2 q2)
end
end
/-- what a def hands back: of its store it keeps S1 (the caller's objects, and perhaps new ones), the answer is r1 -/
def Back (n0 : Nat) (S : Sto) (r : It) (Q : It → Sto → Prop) : Prop := ∃ S1 L r1, S = S1 ++ L ∧ n0 ≤ S1.length ∧ (ClS S → ClS S1) ∧ ((r = r1 ∧ ClI S1.length r) ∨ ∃ x, r1 = .d x ∧ Den S1.length S r x) ∧ Q r1 S1
def BackX (n0 : Nat) (S : Sto) (C : Addr) (Q : Addr → Sto → Prop) : Prop := ∃ S1 L, S = S1 ++ L ∧ n0 ≤ S1.length ∧ (ClS S → ClS S1) ∧ Q C S1
theorem back_d {n : Nat} {S : Sto} {x : PyData} {Q : It → Sto → Prop} (h : Q (.d x) S) (hn : n ≤ S.length := by first | exact Nat.le_refl _ | simp) : Back n S (.d x) Q := ⟨S, [], _, (List.append_nil S).symm, hn, id, .inl ⟨rfl, trivial⟩, h⟩
theorem back_same {n : Nat} {S : Sto} {r : It} {Q : It → Sto → Prop} (hr : ClI S.length r) (h : Q r S) (hn : n ≤ S.length := by first | exact Nat.le_refl _ | simp) : Back n S r Q := ⟨S, [], _, (List.append_nil S).symm, hn, id, .inl ⟨rfl, hr⟩, h⟩
theorem backx_same {n : Nat} {S : Sto} {C : Addr} {Q : Addr → Sto → Prop} (h : Q C S) (hn : n ≤ S.length := by first | exact Nat.le_refl _ | simp) : BackX n S C Q := ⟨S, [], (List.append_nil S).symm, hn, id, h⟩
/-- later objects are let go, the answer a datum -/
theorem back_drop {n : Nat} {S1 : Sto} (L : Sto) {S : Sto} {x : PyData} {Q : It → Sto → Prop} (c : ClS S1) (h : Q (.d x) S1) (hS : S = S1 ++ L := by rfl) (hn : n ≤ S1.length := by first | exact Nat.le_refl _ | simp) : Back n S (.d x) Q := ⟨S1, L, _, hS, hn, fun _ => c, .inl ⟨rfl, trivial⟩, h⟩
theorem backx_drop {n : Nat} {S1 : Sto} (L : Sto) {S : Sto} {C : Addr} {Q : Addr → Sto → Prop} (c : ClS S1) (h : Q C S1) (hS : S = S1 ++ L := by rfl) (hn : n ≤ S1.length := by first | exact Nat.le_refl _ | simp) : BackX n S C Q := ⟨S1, L, hS, hn, fun _ => c, h⟩
theorem den_all {n : Nat} {S : Sto} : ∀ (ds : List PyData), DenAll n S (ds.map .d) ds
  | [] => .nil
  | d :: ds => .cons (.d d) (den_all ds)
/-- an owned list of data is handed back as a datum, later objects are let go -/
theorem back_lst {n i : Nat} {S1 : Sto} (L : Sto) {S : Sto} {ds : List PyData} {Q : It → Sto → Prop} (c : ClS S1) (hi : S1.length ≤ i) (h : S[i]? = some (.lst (ds.map .d))) (q : Q (.d (.list ds)) S1) (hS : S = S1 ++ L := by rfl) (hn : n ≤ S1.length := by first | exact Nat.le_refl _ | simp) : Back n S (.o i) Q :=
  ⟨S1, L, _, hS, hn, fun _ => c, .inr ⟨_, rfl, .l hi h (den_all ds)⟩, q⟩
theorem ClI.mono {n m : Nat} (h : n ≤ m) : ∀ {r : It}, ClI n r → ClI m r
  | .o _, q => Nat.lt_of_lt_of_le q h
  | .d _, _ => trivial
  | .r _, _ => trivial
  | .s _, _ => trivial
theorem ClO.mono {n m : Nat} (h : n ≤ m) : ∀ {w : Own}, ClO n w → ClO m w
  | .lst _, q => fun r hr => (q r hr).mono h
  | .dT _, q => fun r hr => (q r hr).mono h
  | .dK _, q => fun r hr => (q r hr).mono h
  | .ins _ _, q => fun r hr => (q r hr).mono h
  | .tup _, q => fun r hr => (q r hr).mono h
  | .lkT _ _ _, q => fun r hr => (q r hr).mono h
  | .lkK _ _ _, q => fun r hr => (q r hr).mono h
  | .tbl _ _, _ => trivial
  | .tblN _ _, _ => trivial
  | .fn _ _, q => fun p hp => (q p hp).mono h
  | .gone, _ => trivial
theorem cls_set {S : Sto} {i : Nat} {w : Own} (c : ClS S) (hw : ClO S.length w) : ClS (S.set i w) := fun u hu => by
  rw [List.length_set]
  rcases List.mem_or_eq_of_mem_set hu with q | q
  · exact c u q
  · rw [q]; exact hw
theorem cls_app {S : Sto} {w : Own} (c : ClS S) (hw : ClO (S.length + 1) w) : ClS (S ++ [w]) := fun u hu => by
  rw [List.length_append]
  rcases List.mem_append.mp hu with q | q
  · exact (c u q).mono (Nat.le_add_right _ _)
  · rw [List.mem_singleton.mp q]; exact hw
theorem cls_nil : ClS [] := fun _ h => nomatch h
theorem clo_data {n : Nat} {ds : List PyData} : ClO n (.lst (ds.map .d)) := fun r hr => by
  obtain ⟨d, _, rfl⟩ := List.mem_map.mp hr
  trivial
/-! ### defs -/
/-- what a def does, by data: the arguments' items, the store; what is wanted of the answer, of an error -/
abbrev Fn := List It → Sto → (It → Sto → Prop) → (Addr → Sto → Prop) → Prop
def spF (K : PySem.W.Frag) (n : Nat) (F : Fn) : Sp := fun vs H Q E => ∃ (M : List Addr) (S : Sto) (rs : List It), StoreOk K M H S ∧ VReps K M H vs rs ∧ rs.length = n ∧
  F rs S (fun r S' => ∀ v M' H', Ext M H M' H' → StoreOk K M' H' S' → VRep K M' H' v r → Q v H') (fun C S' => ∀ M' H', Ext M H M' H' → StoreOk K M' H' S' → E (.ref C) none H')
def startG (N : List Str) (rs : List It) : Gam := rs.map some ++ List.replicate (N.length - rs.length) none
section
variable {K : PySem.W.Frag} {M : List Addr} {H : Hp}
theorem stt_start {S : Sto} (s : StoreOk K M H S) (N : List Str) {vs : List V} {rs : List It} (r : VReps K M H vs rs) : Stt K M H S (startG N rs) (L2.start N vs) := by
  have hl := r.len
  refine ⟨s, by unfold L2.start startG; rw [List.length_append, List.length_append, List.length_map, List.length_map, List.length_replicate, List.length_replicate, hl], fun i u e => ?_⟩
  unfold startG at e
  by_cases hi : i < rs.length
  · rw [List.getElem?_append_left (by rw [List.length_map]; exact hi), List.getElem?_map, List.getElem?_eq_getElem hi] at e
    cases e
    have get : ∀ {vs : List V} {rs : List It} {i : Nat} (r : VReps K M H vs rs) (hi : i < rs.length), ∃ v, vs[i]? = some v ∧ VRep K M H v rs[i] := by
      intro vs rs i r hi
      induction r generalizing i with
      | nil => exact absurd hi (Nat.not_lt_zero _)
      | cons a t ih =>
        cases i with
        | zero => exact ⟨_, rfl, a⟩
        | succ j => exact ih (Nat.lt_of_succ_lt_succ hi)
    obtain ⟨v, h1, h2⟩ := get r hi
    refine ⟨v, ?_, h2⟩
    unfold L2.start
    rw [List.getElem?_append_left (by rw [List.length_map, hl]; exact hi), List.getElem?_map, h1]
    rfl
  · rw [List.getElem?_append_right (by rw [List.length_map]; omega)] at e
    rw [List.getElem?_replicate] at e
    split at e <;> cases e
end
section
variable {P : Program} {w : World} {K : PySem.W.Frag} {mg : Str → Option Value} {base : Heap} {x qual : Str} {params : Arguments} {body : List Stmt} {scope : Scope} {dvs : List V} {kws : List (Str × V)} {f : Addr} {fd : FuncData}
/-- the context of a def's body -/
abbrev cxF (P : Program) (w : World) (K : PySem.W.Frag) (mg : Str → Option Value) (base : Heap) (N : List Str) (qual : Str) (scope : Scope) (f : Addr) (cdv : Value) (A : Around) (outer : List Env) (s : Shared) (H : Hp) (E : XK) : Cx := cxOf (L2.CX P w) P w K mg base N qual scope f cdv A outer s H E
/-- what is wanted of an error that leaves a def -/
abbrev wF (E : XK) : WX := fun cls d _ H => E cls d H
theorem cxo_of {N ps : List Str} {k : Nat} (Sc : FnScope N ps scope) {cdv : Value} {A : Around} {outer : List Env} {s : Shared} {H : Hp} {E : XK} (hr : Room k (A.deeper (envOfC qual scope s.heap.objs.size f cdv))) :
    Cxo (cxF P w K mg base N qual scope f cdv A outer s H E) (wF E) k := ⟨rfl, Sc.nd, takes_of rfl rfl rfl rfl, passes_of rfl, hr⟩
/-- THE RULE for a def -/
theorem fn_w {F : Fn} {N ps : List Str} {k : Nat} (Fd : FunD K x qual params body scope dvs kws f fd) (Sc : FnScope N ps scope)
    (h : ∀ (cdv : Value) (A : Around) (outer : List Env) (s : Shared) (H : Hp) (E : XK) (rs : List It) (S : Sto) (QR : It → Sto → Prop) (QE : Addr → Sto → Prop), Cxo (cxF P w K mg base N qual scope f cdv A outer s H E) (wF E) k →
      ClS S → rs.length = ps.length → F rs S QR QE → WSs (cxF P w K mg base N qual scope f cdv A outer s H E) (wF E) body (startG N rs) S ⟨fun _ S' => Back S.length S' (.d .none) QR, fun r S' => Back S.length S' r QR, fun _ _ => False, fun _ _ => False, fun C _ S' => BackX S.length S' C QE⟩) :
    FnOk P w K mg base (L2.CX P w) (k + 1) f fd ps (spF K ps.length F) := by
  refine Fd.ok Sc (fun vs H Q E hs => ?_) (fun cdv A outer s H vs Q E hr hs => ⟨sSs _ body, pss_s, ?_⟩)
  · obtain ⟨M, S, rs, h1, h2, h3, _⟩ := hs
    rw [h2.len, h3]
  · obtain ⟨M, S, rs, h1, h2, h3, hF⟩ := hs
    have giveR : ∀ {v : V} {M' : List Addr} {H' : Hp} {r : It} {S' : Sto}, Ext M H M' H' → StoreOk K M' H' S' → VRep K M' H' v r → Back S.length S' r (fun r S' => ∀ v M' H', Ext M H M' H' → StoreOk K M' H' S' → VRep K M' H' v r → Q v H') → Q v H' := by
      intro v M' H' r S' e s' hv hb
      obtain ⟨S1, L, r1, rfl, hn, hc, hr1, q⟩ := hb
      refine q v (M'.take S1.length) H' (e.take (by rw [h1.len]; exact hn)) (s'.take (hc s'.closed)) ?_
      rcases hr1 with ⟨rfl, hcl⟩ | ⟨z, rfl, hd⟩
      · exact hv.take hcl
      · exact Den.fz s' hd hv
    refine h cdv A outer s H E rs S _ _ (cxo_of Sc hr) h1.closed h3 hF M (L2.start N vs) H _ (stt_start h1 N h2) ⟨fun M' σ' H' G' S' e t q => giveR (v := .non) (r := .d .none) e t.sto Fz.non q, fun v M' H' r S' e t hv q => giveR e t hv q, fun _ _ _ _ _ _ _ q => q.elim, fun _ _ _ _ _ _ _ q => q.elim, fun M' σ' H' G' C S' e t q => ?_⟩
    obtain ⟨S1, L, rfl, hn, hc, q⟩ := q
    exact q (M'.take S1.length) H' (e.take (by rw [h1.len]; exact hn)) (t.sto.take (hc t.sto.closed))
end
/-- a def by its name; drs: the defaults that fill up -/
structure OkF (P : Program) (w : World) (K : PySem.W.Frag) (mg : Str → Option Value) (base : Heap) (k : Nat) (x : Str) (ps : List Str) (drs : List It) (F : Fn) : Prop where
  ex : ∃ (f : Addr) (fd : FuncData) (dvs : List V) (ds : List Value), mg x = some (.ref f) ∧ PySem.W.keepIn K (.ref f) = true ∧ Binds K fd ps ds ∧ L2.Vals dvs ds ∧ (∀ M H, VReps K M H dvs drs) ∧ FnOk P w K mg base (L2.CX P w) k f fd ps (spF K ps.length F)
/-- a method of the class at C -/
structure OkM (P : Program) (w : World) (K : PySem.W.Frag) (mg : Str → Option Value) (base : Heap) (k : Nat) (C : Addr) (x : Str) (ps : List Str) (drs : List It) (F : Fn) : Prop where
  ex : ∃ (f : Addr) (fd : FuncData) (dvs : List V) (ds : List Value), Cls K C ∧ Meth K C x f ∧ Binds K fd ps ds ∧ L2.Vals dvs ds ∧ (∀ M H, VReps K M H dvs drs) ∧ FnOk P w K mg base (L2.CX P w) k f fd ps (spF K ps.length F)
/-- the class at C, made by its __init__ -/
structure OkC (P : Program) (w : World) (K : PySem.W.Frag) (mg : Str → Option Value) (base : Heap) (k : Nat) (C : Addr) (x : Str) (ps : List Str) (drs : List It) (F : Fn) : Prop where
  ex : ∃ (f : Addr) (fd : FuncData) (dvs : List V) (ds : List Value), mg x = some (.ref C) ∧ Mk K C f ∧ Binds K fd ps ds ∧ L2.Vals dvs ds ∧ (∀ M H, VReps K M H dvs drs) ∧ FnOk P w K mg base (L2.CX P w) k f fd ps (spF K ps.length F)
/-- e may raise: Qr of the answer, Qx of an error -/
def EvX (X : Cx) (W : WX) (e : Expr) (G : Gam) (S : Sto) (Qr : It → Sto → Prop) (Qx : Addr → Sto → Prop) : Prop := ∀ (M : List Addr) (σ : Sig) (H : Hp) (Q : VK), Stt X.K M H S G σ →
  (∀ v M' H' r S', Ext M H M' H' → Stt X.K M' H' S' G σ → VRep X.K M' H' v r → Qr r S' → Q v H') → (∀ M' H' C S', Ext M H M' H' → Stt X.K M' H' S' G σ → Qx C S' → W (.ref C) none σ H') → sE X e σ H Q
section
variable {X : Cx} {W : WX} {k j : Nat} {G G1 G2 : Gam} {S S1 S2 S3 : Sto} {P : Post} {e a b o : Expr} {es : List Expr} {r y z : It} {rs : List It} {pos pos' p apos : Pos} {st : Stmt} {sts body : List Stmt} {n m : Str} {ps : List Str} {drs : List It} {F : Fn} {C : Addr} {Qr : It → Sto → Prop} {Qx : Addr → Sto → Prop} {ds : List PyData}
theorem Ev.ex (h : Ev X e G S r S1) (q : Qr r S1) : EvX X W e G S Qr Qx := fun M σ H Q s h1 _ => h M σ H Q s fun v M' H' e' s' r' => h1 v M' H' r S1 e' s' r' q
theorem VReps.append {K : PySem.W.Frag} {M : List Addr} {H : Hp} : ∀ {vs us : List V} {rs ts : List It}, VReps K M H vs rs → VReps K M H us ts → VReps K M H (vs ++ us) (rs ++ ts)
  | _, _, _, _, .nil, h => h
  | _, _, _, _, .cons a t, h => .cons a (VReps.append t h)
/-- the callee runs, at the slots σ -/
theorem run_fnAt {CX : CXT} {f : Addr} {fd : FuncData} {sp : Sp} {dvs : List V} {dvu : List Value} {E : XK} {pins : List (Addr × Obj)} {σ : Sig} {H : Hp} {s : Shared} {Q : VK} {us : List Value} {vs : List V} (F : FnOk X.prog X.w X.K X.mg X.base CX k f fd ps sp) (hr : Room k X.A) (hb : Binds X.K fd ps dvu) (hd : L2.Vals dvs dvu)
    (hx : ∀ (e : Value) (s' : Shared), CX X.stack H s E e s' → X.xe e s') (I : Inv X pins σ H s) (r : L2.Vals vs us) (h : sp (vs ++ dvs) H Q E) : wpAny (model X.prog X.w) X.A (call (.ref f) us) (EP X pins σ Q) X.xe s := by
  have r2 : L2.Vals (vs ++ dvs) (us ++ dvu) := r.append hd
  have hl : (us ++ dvu).length = ps.length := by rw [← r2.length]; exact F.len _ _ _ _ h
  refine wpAny_call (codeAny_mono (F.run X.A X.stack s H ⟨us, []⟩ (us ++ dvu) (vs ++ dvs) Q E hr I.env0 (hb s us I.kIn hl) r2 h) fun r s' hq => ?_)
  cases r with
  | error e => exact hx e s' hq
  | ok fl =>
    cases fl with
    | ret u => exact I.after hq
    | next => exact False.elim hq
    | brk => exact False.elim hq
    | cont => exact False.elim hq
/-- the promise, as a caller uses it -/
theorem spF_of {K : PySem.W.Frag} {M : List Addr} {H : Hp} {vs dvs : List V} {E : XK} {Q : VK} {N : Nat} (s : StoreOk K M H S) (r : VReps K M H vs rs) (rd : ∀ M H, VReps K M H dvs drs) (hl : (rs ++ drs).length = N)
    (hF : ∀ (QR : It → Sto → Prop) (QE : Addr → Sto → Prop), (∀ r S', Qr r S' → QR r S') → (∀ C S', Qx C S' → QE C S') → F (rs ++ drs) S QR QE)
    (h1 : ∀ v M' H' r S', Ext M H M' H' → StoreOk K M' H' S' → VRep K M' H' v r → Qr r S' → Q v H') (h2 : ∀ M' H' C S', Ext M H M' H' → StoreOk K M' H' S' → Qx C S' → E (.ref C) none H') : spF K N F (vs ++ dvs) H Q E :=
  ⟨M, S, rs ++ drs, s, VReps.append r (rd M H), hl, hF _ _ (fun r S' q v M' H' e s' hv => h1 v M' H' r S' e s' hv q) fun C S' q M' H' e s' => h2 M' H' C S' e s' q⟩
/-- the wish about errors, at these slots -/
abbrev eAt (W : WX) (σ : Sig) : XK := fun cls d H => W cls d σ H
theorem evx_call (c : Cxo X W k) (O : OkF X.prog X.w X.K X.mg X.base j n ps drs F) (hj : j ≤ k) (ha : EvA X (e :: es) G S rs S1) (hl : (rs ++ drs).length = ps.length)
    (hF : ∀ (QR : It → Sto → Prop) (QE : Addr → Sto → Prop), (∀ r S', Qr r S' → QR r S') → (∀ C S', Qx C S' → QE C S') → F (rs ++ drs) S1 QR QE) (hg : Gl X n := by rfl) (hdb : (n == ("__debug__" : Str)) = false := by decide)
    (he : starEach (e :: es) X.env = (false, eval e X.env) :: starEach es X.env := by rfl) (hpl : (backTo pos (starEach es X.env)).any (·.1) = false := by rfl) : EvX X W (.Call (.Name n p) (e :: es) [] pos) G S Qr Qx := fun M σ H Q s h1 h2 pins s0 I => by
  obtain ⟨f, fd, dvs, dus, hm, hk, hb, hd, rd, ok⟩ := O.ex
  refine wpAny_Call_Name_kw (ld_glob I hg hm ?_ hdb)
  refine PySem.W.callWith_K (h₀ := X.base) I.ok.mod.kin hk ?_ he hpl
  refine thn ((pa_s (es := e :: es)).run pos pins s0 σ H _ I (ha M σ H (fun vs H1 => ∃ M1, Ext M H M1 H1 ∧ Stt X.K M1 H1 S1 G σ ∧ VReps X.K M1 H1 vs rs) s fun vs M' H' e' s' r' => ⟨M', e', s', r'⟩)) fun us s1 ⟨vs, H1, I1, r1, M1, e1, t1, q1⟩ => ⟨I1.kIn, ?_⟩
  exact run_fnAt (E := eAt W σ) ok (c.hr.mono hj) hb hd (fun e s' cx => passAt c.tk σ pins H1 s1 e s' I1 cx) I1 r1 (spF_of t1.sto q1 rd hl hF (fun v M' H' r S' e2 s2 hv q => h1 v M' H' r S' (e1.trans e2) (t1.mono e2 s2) hv q) fun M' H' C S' e2 s2 q => h2 M' H' C S' (e1.trans e2) (t1.mono e2 s2) q)
theorem evx_call0 (c : Cxo X W k) (O : OkF X.prog X.w X.K X.mg X.base j n ps drs F) (hj : j ≤ k) (hl : drs.length = ps.length)
    (hF : ∀ (QR : It → Sto → Prop) (QE : Addr → Sto → Prop), (∀ r S', Qr r S' → QR r S') → (∀ C S', Qx C S' → QE C S') → F drs S QR QE) (hg : Gl X n := by rfl) (hdb : (n == ("__debug__" : Str)) = false := by decide) : EvX X W (.Call (.Name n p) [] [] pos) G S Qr Qx := fun M σ H Q s h1 h2 pins s0 I => by
  obtain ⟨f, fd, dvs, dus, hm, hk, hb, hd, rd, ok⟩ := O.ex
  refine wpAny_Call_Name_kw (ld_glob I hg hm ?_ hdb)
  refine PySem.W.callWith_K0 I.kIn hk ?_
  exact run_fnAt (us := []) (E := eAt W σ) (vs := []) ok (c.hr.mono hj) hb hd (fun e s' cx => passAt c.tk σ pins H s0 e s' I cx) I .nil (spF_of (rs := []) s.sto .nil rd hl hF (fun v M' H' r S' e2 s2 hv q => h1 v M' H' r S' e2 (s.mono e2 s2) hv q) fun M' H' C S' e2 s2 q => h2 M' H' C S' e2 (s.mono e2 s2) q)
/-! ### instances -/
theorem fs_look {K : PySem.W.Frag} {M : List Addr} {H : Hp} {f : Str} : ∀ {ps : List (Str × V)} {fs : List (Str × It)}, Paired (fun (p : Str × V) (q : Str × It) => p.1 = q.1 ∧ VRep K M H p.2 q.2) ps fs →
    (∀ r, fs.lookup f = some r → ∃ v, ps.lookup f = some v ∧ VRep K M H v r) ∧ (fs.lookup f = none → ps.lookup f = none)
  | _, _, .nil => ⟨fun _ h => (nomatch (show (none : Option It) = some _ from h)), fun _ => rfl⟩
  | (pn, pv') :: ps, (qn, qv) :: fs, .cons h t => by
    obtain ⟨h1, h2⟩ := h
    have e : pn = qn := h1
    subst e
    obtain ⟨ih1, ih2⟩ := fs_look t
    rw [List.lookup_cons, List.lookup_cons]
    cases q : f == pn with
    | true => exact ⟨fun r e => ⟨pv', rfl, by cases e; exact h2⟩, fun e => (nomatch e)⟩
    | false => exact ⟨ih1, ih2⟩
/-- o.m(e, ..) -/
theorem evx_meth {fs : List (Str × It)} {i : Nat} {pl : Sem Bool} (c : Cxo X W k) (O : OkM X.prog X.w X.K X.mg X.base j C m ps drs F) (hj : j ≤ k) (ho : Ev X o G S (.o i) S1) (hi : S1[i]? = some (.ins C fs)) (ha : EvA X (e :: es) G S1 rs S2) (hl : (.o i :: (rs ++ drs) : List It).length = ps.length)
    (hF : ∀ (QR : It → Sto → Prop) (QE : Addr → Sto → Prop), (∀ r S', Qr r S' → QR r S') → (∀ C S', Qx C S' → QE C S') → F (.o i :: (rs ++ drs)) S2 QR QE) (hnm : fs.lookup m = none := by rfl)
    (hst : starEach (e :: es) X.env = (false, eval e X.env) :: starEach es X.env := by rfl) (hpl : (backTo pos (starEach es X.env)).any (·.1) = false := by rfl)
    (ht : eval (.Call (.Attribute o m apos) (e :: es) [] pos) X.env = (do
      let ov ← eval o X.env
      standAt apos.atName
      let (f, first) ← holding [ov] (getMethod ov m pl)
      callWith pos f first (backTo pos (starEach (e :: es) X.env)) (backToKw pos (keywordEach [] X.env))) := by rfl) : EvX X W (.Call (.Attribute o m apos) (e :: es) [] pos) G S Qr Qx := fun M σ H Q s h1 h2 pins s0 I => by
  obtain ⟨f, fd, dvs, dus, hc, hm, hb, hd, rd, ok⟩ := O.ex
  refine PySem.W.methodCall_KW (pl := pl) (thn ((pe_s (e := o)).run pins s0 σ H _ I (ho M σ H (fun v H1 => ∃ M1, Ext M H M1 H1 ∧ Stt X.K M1 H1 S1 G σ ∧ VRep X.K M1 H1 v (.o i)) s fun v M' H' e' s' r' => ⟨M', e', s', r'⟩)) fun u s1 ⟨v, H1, I1, rx, M1, e1, t1, q1⟩ => ?_) ht
  obtain ⟨ad, hmi, ev⟩ := id q1
  obtain ⟨dx, pf, hins, hpf⟩ := t1.sto.rep i ad _ hmi hi
  rw [ev] at rx
  obtain rfl : u = Value.ref ad := rx
  refine getmeth_ok I1 hins hc hm ((fs_look hpf).2 hnm) ?_
  refine PySem.W.callWith_K (first := [.ref ad]) (h₀ := X.base) I.ok.mod.kin hm.kp (thn ((pa_s (es := e :: es)).run pos pins s1 σ H1 _ I1 (ha M1 σ H1 (fun vs H2 => ∃ M2, Ext M1 H1 M2 H2 ∧ Stt X.K M2 H2 S2 G σ ∧ VReps X.K M2 H2 vs rs) t1 fun vs M' H' e' s' r' => ⟨M', e', s', r'⟩)) fun us s2 ⟨vs, H2, I2, r, M2, e2, t2, q2⟩ => ⟨I2.kIn, ?_⟩) hst hpl
  have q1' : VRep X.K M2 H2 (.ref ad) (.o i) := by rw [← ev]; exact q1.ext e2
  exact run_fnAt (E := eAt W σ) (us := .ref ad :: us) (vs := .ref ad :: vs) ok (c.hr.mono hj) hb hd (fun e s' cx => passAt c.tk σ pins H2 s2 e s' I2 cx) I2 (.cons rfl r)
    (spF_of (rs := .o i :: rs) t2.sto (.cons q1' q2) rd hl hF (fun v M' H' r S' e3 s3 hv q => h1 v M' H' r S' ((e1.trans e2).trans e3) (t2.mono e3 s3) hv q) fun M' H' C S' e3 s3 q => h2 M' H' C S' ((e1.trans e2).trans e3) (t2.mono e3 s3) q)
/-- o.m() -/
theorem evx_meth0 {fs : List (Str × It)} {i : Nat} {pl : Sem Bool} (c : Cxo X W k) (O : OkM X.prog X.w X.K X.mg X.base j C m ps drs F) (hj : j ≤ k) (ho : Ev X o G S (.o i) S1) (hi : S1[i]? = some (.ins C fs)) (hl : (.o i :: drs : List It).length = ps.length)
    (hF : ∀ (QR : It → Sto → Prop) (QE : Addr → Sto → Prop), (∀ r S', Qr r S' → QR r S') → (∀ C S', Qx C S' → QE C S') → F (.o i :: drs) S1 QR QE) (hnm : fs.lookup m = none := by rfl)
    (ht : eval (.Call (.Attribute o m apos) [] [] pos) X.env = (do
      let ov ← eval o X.env
      standAt apos.atName
      let (f, first) ← holding [ov] (getMethod ov m pl)
      callWith pos f first (backTo pos (starEach [] X.env)) (backToKw pos (keywordEach [] X.env))) := by rfl) : EvX X W (.Call (.Attribute o m apos) [] [] pos) G S Qr Qx := fun M σ H Q s h1 h2 pins s0 I => by
  obtain ⟨f, fd, dvs, dus, hc, hm, hb, hd, rd, ok⟩ := O.ex
  refine PySem.W.methodCall_KW (pl := pl) (thn ((pe_s (e := o)).run pins s0 σ H _ I (ho M σ H (fun v H1 => ∃ M1, Ext M H M1 H1 ∧ Stt X.K M1 H1 S1 G σ ∧ VRep X.K M1 H1 v (.o i)) s fun v M' H' e' s' r' => ⟨M', e', s', r'⟩)) fun u s1 ⟨v, H1, I1, rx, M1, e1, t1, q1⟩ => ?_) ht
  obtain ⟨ad, hmi, ev⟩ := id q1
  obtain ⟨dx, pf, hins, hpf⟩ := t1.sto.rep i ad _ hmi hi
  rw [ev] at rx q1
  obtain rfl : u = Value.ref ad := rx
  refine getmeth_ok I1 hins hc hm ((fs_look hpf).2 hnm) ?_
  exact PySem.W.callWith_K0 (first := [.ref ad]) I1.kIn hm.kp (run_fnAt (E := eAt W σ) (us := [.ref ad]) (vs := [.ref ad]) ok (c.hr.mono hj) hb hd (fun e s' cx => passAt c.tk σ pins H1 s1 e s' I1 cx) I1 (.cons rfl .nil)
    (spF_of (rs := [.o i]) t1.sto (.cons q1 .nil) rd hl hF (fun v M' H' r S' e3 s3 hv q => h1 v M' H' r S' (e1.trans e3) (t1.mono e3 s3) hv q) fun M' H' C S' e3 s3 q => h2 M' H' C S' (e1.trans e3) (t1.mono e3 s3) q))
/-- a new instance runs its __init__ -/
theorem run_makeAt {CX : CXT} {f : Addr} {fd : FuncData} {sp : Sp} {dvs : List V} {dvu : List Value} {E : XK} {pins : List (Addr × Obj)} {σ : Sig} {H : Hp} {s : Shared} {Q : VK} {us : List Value} {vs : List V} (M : Mk X.K C f) (F : FnOk X.prog X.w X.K X.mg X.base CX j f fd ps sp) (hr : Room (j + 1) X.A) (hb : Binds X.K fd ps dvu) (hd : L2.Vals dvs dvu)
    (hx : PassesAt CX X σ E) (I : Inv X pins σ H s) (r : L2.Vals vs us)
    (h : ∀ x dx, H x = none → H dx = none → dx ≠ x → sp (.ref x :: (vs ++ dvs)) (upd (upd H dx (.own x)) x (.ins C dx [])) (fun v H2 => v = .non ∧ Q (.ref x) H2) E) :
    wpAny (model X.prog X.w) X.A (call (.ref C) us) (EP X pins σ Q) X.xe s := by
  have hq := h (s.heap.objs.size + 1) s.heap.objs.size (I.hok.fresh (Nat.le_succ _)) (I.hok.fresh (Nat.le_refl _)) (Nat.ne_of_lt (Nat.lt_succ_self _))
  have I2 := Inv.made (C := C) I
  have r2 : L2.Vals (V.ref (s.heap.objs.size + 1) :: (vs ++ dvs)) (Value.ref (s.heap.objs.size + 1) :: (us ++ dvu)) := .cons rfl (r.append hd)
  have hl : (Value.ref (s.heap.objs.size + 1) :: us ++ dvu).length = ps.length := by
    have e := r2.length
    rw [F.len _ _ _ _ hq] at e
    exact e.symm
  refine wpAny_call (make_map (f := f) I.kIn M.makes M.init (beq_iff_eq.mp M.fn) (codeAny_mono (F.run _ X.stack _ _ ⟨Value.ref (s.heap.objs.size + 1) :: us, []⟩ (Value.ref (s.heap.objs.size + 1) :: (us ++ dvu)) _ _ E (hr.make C us [])
    (I2.env0.make C us []) (hb _ (Value.ref (s.heap.objs.size + 1) :: us) I2.kIn hl) r2 hq) fun r s' hq' => ?_))
  cases r with
  | error e => exact hx pins _ _ e s' I2 hq'
  | ok fl =>
    cases fl with
    | ret u =>
      obtain ⟨v, H', I3, rv, ev, q3⟩ := I2.after hq'
      subst ev
      exact ⟨rv, ⟨V.ref (s.heap.objs.size + 1), H', I3, rfl, q3⟩⟩
    | next => exact False.elim hq'
    | brk => exact False.elim hq'
    | cont => exact False.elim hq'
/-- C(e, ..) -/
theorem evx_make (c : Cxo X W k) (O : OkC X.prog X.w X.K X.mg X.base j C n ps drs F) (hj : j + 1 ≤ k) (ha : EvA X (e :: es) G S rs S1) (hl : (.o S1.length :: (rs ++ drs) : List It).length = ps.length)
    (hF : ∀ (QR : It → Sto → Prop) (QE : Addr → Sto → Prop), (∀ S', Qr (.o S1.length) S' → QR (.d .none) S') → (∀ C' S' S2 L, S' = S2 ++ L → S1.length ≤ S2.length → (ClS S' → ClS S2) → Qx C' S2 → QE C' S') → F (.o S1.length :: (rs ++ drs)) (S1 ++ [.ins C []]) QR QE)
    (hg : Gl X n := by rfl) (hdb : (n == ("__debug__" : Str)) = false := by decide)
    (he : starEach (e :: es) X.env = (false, eval e X.env) :: starEach es X.env := by rfl) (hpl : (backTo pos (starEach es X.env)).any (·.1) = false := by rfl) : EvX X W (.Call (.Name n p) (e :: es) [] pos) G S Qr Qx := fun M σ H Q s h1 h2 pins s0 I => by
  obtain ⟨f, fd, dvs, dus, hm, hk, hb, hd, rd, ok⟩ := O.ex
  refine wpAny_Call_Name_kw (ld_glob I hg hm ?_ hdb)
  refine PySem.W.callWith_K (h₀ := X.base) I.ok.mod.kin hk.kp ?_ he hpl
  refine thn ((pa_s (es := e :: es)).run pos pins s0 σ H _ I (ha M σ H (fun vs H1 => ∃ M1, Ext M H M1 H1 ∧ Stt X.K M1 H1 S1 G σ ∧ VReps X.K M1 H1 vs rs) s fun vs M' H' e' s' r' => ⟨M', e', s', r'⟩)) fun us s1 ⟨vs, H1, I1, r1, M1, e1, t1, q1⟩ => ⟨I1.kIn, ?_⟩
  refine run_makeAt (E := eAt W σ) hk ok (c.hr.mono hj) hb hd (fun pins' H' s' e s'' I' cx => passAt c.tk σ pins' H' s' e s'' I' cx) I1 r1 fun xa dx hxa hdx hne => ?_
  have hx' : (upd H1 dx (.own xa)) xa = none := by rw [upd_ne (Ne.symm hne)]; exact hxa
  have e2 : Ext M1 H1 M1 (upd H1 dx (.own xa)) := Ext.fresh hdx
  have e3 : Ext M1 (upd H1 dx (.own xa)) (M1 ++ [xa]) (upd (upd H1 dx (.own xa)) xa (.ins C dx [])) := Ext.own hx'
  have s3 : StoreOk X.K (M1 ++ [xa]) (upd (upd H1 dx (.own xa)) xa (.ins C dx [])) (S1 ++ [.ins C []]) := (t1.sto.fresh hdx).own hx' ⟨dx, [], upd_same, .nil⟩
  have hn : (M1 ++ [xa])[S1.length]? = some xa := by rw [← t1.sto.len, List.getElem?_append_right (Nat.le_refl _), Nat.sub_self]; rfl
  have q3 : VReps X.K (M1 ++ [xa]) (upd (upd H1 dx (.own xa)) xa (.ins C dx [])) (.ref xa :: vs) (.o S1.length :: rs) := .cons ⟨xa, hn, rfl⟩ (VReps.ext (e2.trans e3) q1)
  refine spF_of (Qr := fun r S' => r = .d .none ∧ Qr (.o S1.length) S') (Qx := fun C' S' => ∃ S2 L, S' = S2 ++ L ∧ S1.length ≤ S2.length ∧ (ClS S' → ClS S2) ∧ Qx C' S2) s3 q3 rd hl (fun QR QE k1 k2 => hF QR QE (fun S' q => k1 _ _ ⟨rfl, q⟩) fun C' S' S2 L h3 h4 h5 h6 => k2 _ _ ⟨S2, L, h3, h4, h5, h6⟩) (fun v M' H' r S' e4 s4 hv q => ?_) fun M' H' C' S' e4 s4 q => ?_
  · obtain ⟨hr0, q⟩ := q
    rw [hr0] at hv
    refine ⟨vr_none hv, h1 (.ref xa) M' H' (.o S1.length) S' (((e1.trans e2).trans e3).trans e4) (t1.mono ((e2.trans e3).trans e4) s4) ⟨xa, e4.get hn, rfl⟩ q⟩
  · obtain ⟨S2, L, rfl, hle, hcl, q⟩ := q
    have e5 : Ext M1 H1 (M'.take S2.length) H' := ((e2.trans e3).trans e4).take (by rw [t1.sto.len]; exact hle)
    exact h2 _ H' C' S2 (e1.trans e5) (t1.mono e5 (s4.take (hcl s4.closed))) q
/-- o.f -/
theorem ev_fld {fs : List (Str × It)} {f : Str} {i : Nat} (hc : Cls X.K C) (hn : NoAttr X.K C f) (ho : Ev X o G S (.o i) S1) (hi : S1[i]? = some (.ins C fs)) (hf : fs.lookup f = some r := by rfl) (hb : attributeBase o f X.env (eval o X.env) = eval o X.env := by rfl) : Ev X (.Attribute o f pos) G S r S1 := fun M σ H Q s q =>
  toE (pe_fld pe_s hb) (ho M σ H _ s fun v M1 H1 e1 t1 q1 => by
    obtain ⟨ad, hmi, ev⟩ := q1
    obtain ⟨dx, pf, hins, hpf⟩ := t1.sto.rep i ad _ hmi hi
    obtain ⟨u, hu, ru⟩ := (fs_look hpf).1 r hf
    exact ⟨ad, C, dx, pf, u, ev, hins, hc, hn, hu, q u M1 H1 e1 t1 ru⟩)
theorem put_paired {K : PySem.W.Frag} {M : List Addr} {H : Hp} {f : Str} {v : V} {r : It} (hv : VRep K M H v r) : ∀ {ps : List (Str × V)} {fs : List (Str × It)}, Paired (fun (p : Str × V) (q : Str × It) => p.1 = q.1 ∧ VRep K M H p.2 q.2) ps fs →
    fs.lookup f = none → Paired (fun (p : Str × V) (q : Str × It) => p.1 = q.1 ∧ VRep K M H p.2 q.2) (putF f v ps) (fs ++ [(f, r)])
  | _, _, .nil, _ => .cons ⟨rfl, hv⟩ .nil
  | (pn, pv') :: ps, (qn, qv) :: fs, .cons h t, hl => by
    obtain ⟨h1, h2⟩ := h
    have e : pn = qn := h1
    subst e
    rw [List.lookup_cons] at hl
    cases q : f == pn with
    | true => rw [q] at hl; cases hl
    | false =>
      rw [q] at hl
      have ne : pn ≠ f := fun z => by rw [z] at q; simp at q
      have e2 : putF f v ((pn, pv') :: ps) = (pn, pv') :: putF f v ps := by
        show (if pn = f then (pn, v) :: ps else (pn, pv') :: putF f v ps) = _
        rw [if_neg ne]
      rw [e2]
      exact .cons ⟨rfl, h2⟩ (put_paired hv t hl)
/-- o.f = e, f a new field -/
theorem ws_fldN {fs : List (Str × It)} {f : Str} {i : Nat} (hc : Cls X.K C) (hn : NoAttr X.K C f) (he : Ev X e G S r S1) (ho : Ev X o G S1 (.o i) S2) (hi : S2[i]? = some (.ins C fs)) (hf : fs.lookup f = none) (hlen : fs.length ≤ 100) (q : P.nx G (S2.set i (.ins C (fs ++ [(f, r)]))))
    (hs : swapsWith e (some (.Attribute o f pos')) pos.line X.env = pure false := by rfl) : WS X W (.Assign [.Attribute o f pos'] e pos) G S P := fun M σ H D s m =>
  toS (ps_fld pe_s pe_s hs) (he M σ H _ s fun v M1 H1 e1 t1 r1 => ho M1 σ H1 _ t1 fun u M2 H2 e2 t2 r2 => by
    obtain ⟨ad, hmi, ev⟩ := r2
    obtain ⟨dx, pf, hins, hpf⟩ := t2.sto.rep i ad _ hmi hi
    have e3 : Ext M2 H2 M2 (upd H2 ad (.ins C dx (putF f v pf))) := Ext.put (List.mem_of_getElem? hmi)
    have hpf' := Paired.mapP hpf fun _ _ (q : _ ∧ VRep X.K M2 H2 _ _) => (⟨q.1, q.2.ext e3⟩ : _ ∧ VRep X.K M2 (upd H2 ad (.ins C dx (putF f v pf))) _ _)
    have s3 := t2.sto.put (w := .ins C (fs ++ [(f, r)])) hmi ⟨dx, putF f v pf, upd_same, put_paired ((r1.ext e2).ext e3) hpf' hf⟩
    refine ⟨ad, C, dx, pf, ev, hins, hc, hn, by rw [Paired.length hpf]; omega, ?_⟩
    exact m.nx M2 σ _ G _ ((e1.trans e2).trans e3) (t2.mono e3 s3) q)
end
end Cu
/-! CuD: what is walked, loops, comprehensions. -/
namespace Cu
open PySem PySem.Spec PyProof.Rows L2
theorem fz_at {M : List Addr} {H : Hp} : ∀ {ds : List PyData} {vs : List V} {i : Nat} {v : V}, FzAll M H vs ds → vs[i]? = some v → ∃ d, ds[i]? = some d ∧ Fz M H v d
  | [], _, i, v, h, e => by cases h; simp at e
  | d :: ds, _, 0, v, h, e => by
    cases h with
    | cons h1 h2 =>
      cases e
      exact ⟨d, rfl, h1⟩
  | d :: ds, _, i + 1, v, h, e => by
    cases h with
    | cons h1 h2 => exact fz_at (i := i) h2 e
theorem reps_at {K : PySem.W.Frag} {M : List Addr} {H : Hp} : ∀ {rs : List It} {vs : List V} {i : Nat} {v : V}, VReps K M H vs rs → vs[i]? = some v → ∃ r, rs[i]? = some r ∧ VRep K M H v r
  | _, _, i, v, .nil, e => by simp at e
  | _, _, 0, v, .cons h1 h2, e => by
    cases e
    exact ⟨_, rfl, h1⟩
  | _, _, i + 1, v, .cons h1 h2, e => reps_at (i := i) h2 e
theorem reps_get {K : PySem.W.Frag} {M : List Addr} {H : Hp} : ∀ {rs : List It} {vs : List V} {i : Nat} {r : It}, VReps K M H vs rs → rs[i]? = some r → ∃ v, vs[i]? = some v ∧ VRep K M H v r
  | _, _, i, v, .nil, e => by simp at e
  | _, _, 0, v, .cons h1 h2, e => by
    cases e
    exact ⟨_, rfl, h1⟩
  | _, _, i + 1, v, .cons h1 h2, e => reps_get (i := i) h2 e
/-- the iterator J yields the items rs, one a turn, as long as the store is as C says -/
structure Wk (K : PySem.W.Frag) (J : L2.It) (C : Sto → Prop) (M1 : List Addr) (H1 : Hp) (rs : List It) : Prop where
  go : ∀ (i : Nat) (M' : List Addr) (H' : Hp) (S' : Sto), i < rs.length → Ext M1 H1 M' H' → StoreOk K M' H' S' → C S' → J.go i H'
  yl : ∀ (i : Nat) (M' : List Addr) (H' : Hp) (S' : Sto) (x : V) (H2 : Hp) (r : It), rs[i]? = some r → Ext M1 H1 M' H' → StoreOk K M' H' S' → C S' → J.yld i H' x H2 → Ext M' H' M' H2 ∧ StoreOk K M' H2 S' ∧ VRep K M' H2 x r
  st : ∀ (i : Nat) (M' : List Addr) (H' : Hp) (S' : Sto), rs.length ≤ i → Ext M1 H1 M' H' → StoreOk K M' H' S' → C S' → J.stop i H'
/-- iter walks rs -/
def EvI (X : Cx) (tg iter : Expr) (G : Gam) (S : Sto) (rs : List It) (C : Sto → Prop) (S1 : Sto) : Prop := ∃ wi : TI, PI X tg iter wi ∧ ∀ (M : List Addr) (σ : Sig) (H : Hp) (R : L2.It → Hp → Prop), Stt X.K M H S G σ →
  (∀ M1 H1 J, Ext M H M1 H1 → Stt X.K M1 H1 S1 G σ → Wk X.K J C M1 H1 rs → R J H1) → wi σ H R
abbrev anyS : Sto → Prop := fun _ => True
section
variable {X : Cx} {W : WX} {k j : Nat} {G G1 G2 : Gam} {S S1 S2 S3 : Sto} {P : Post} {e a b o iter tg elt : Expr} {es ifs : List Expr} {r y z : It} {rs : List It} {pos pos' p apos : Pos} {st : Stmt} {sts body : List Stmt} {ds : List PyData} {C : Sto → Prop}
theorem wk_list {K : PySem.W.Frag} {M1 : List Addr} {H1 : Hp} {ad : Addr} {xs : List V} (hL : NdL M1 H1 ad xs) (hA : FzAll M1 H1 xs ds) : Wk K (Itl K ad) anyS M1 H1 (ds.map .d) where
  go := fun i M' H' S' hi e s _ => ⟨xs, xs[i]'(by rw [fz_len hA]; simpa using hi), (hL.ext e).sq, List.getElem?_eq_getElem _⟩
  yl := fun i M' H' S' x H2 r hr e s _ y => by
    obtain ⟨rfl, y⟩ := y
    have hx := y xs (hL.ext e).sq
    obtain ⟨d, h1, h2⟩ := fz_at hA hx
    rw [List.getElem?_map, h1] at hr
    cases hr
    exact ⟨Ext.refl, s, Fz.ext e h2⟩
  st := fun i M' H' S' hi e s _ => ⟨xs, (hL.ext e).sq, by rw [fz_len hA]; simpa using hi⟩
theorem wk_tup {K : PySem.W.Frag} {M1 : List Addr} {H1 : Hp} {ad : Addr} {xs : List V} (hL : NdT M1 H1 ad xs) (hA : FzAll M1 H1 xs ds) : Wk K (Itt K ad) anyS M1 H1 (ds.map .d) where
  go := fun i M' H' S' hi e s _ => ⟨xs, xs[i]'(by rw [fz_len hA]; simpa using hi), (hL.ext e).sq, List.getElem?_eq_getElem _⟩
  yl := fun i M' H' S' x H2 r hr e s _ y => by
    obtain ⟨rfl, y⟩ := y
    have hx := y xs (hL.ext e).sq
    obtain ⟨d, h1, h2⟩ := fz_at hA hx
    rw [List.getElem?_map, h1] at hr
    cases hr
    exact ⟨Ext.refl, s, Fz.ext e h2⟩
  st := fun i M' H' S' hi e s _ => ⟨xs, (hL.ext e).sq, by rw [fz_len hA]; simpa using hi⟩
/-- a list of data -/
theorem evi_list (hi : Ev X iter G S (.d (.list ds)) S1) : EvI X tg iter G S (ds.map .d) anyS S1 := ⟨_, pi_list pe_s, fun M σ H R s q => hi M σ H _ s fun v M1 H1 e1 t1 r1 => by
  have r1' : Fz M1 H1 v (.list ds) := r1
  cases r1' with
  | lst hL hA => exact ⟨_, rfl, ⟨_, hL.sq⟩, q M1 H1 _ e1 t1 (wk_list hL hA)⟩⟩
/-- a tuple of data -/
theorem evi_tup (hi : Ev X iter G S (.d (.tuple ds)) S1) : EvI X tg iter G S (ds.map .d) anyS S1 := ⟨_, pi_tup pe_s, fun M σ H R s q => hi M σ H _ s fun v M1 H1 e1 t1 r1 => by
  have r1' : Fz M1 H1 v (.tuple ds) := r1
  cases r1' with
  | tup hL hA => exact ⟨_, rfl, ⟨_, hL.sq⟩, q M1 H1 _ e1 t1 (wk_tup hL hA)⟩⟩
/-- an owned list that stays as it is -/
theorem evi_own {n : Nat} (hi : Ev X iter G S (.o n) S1) (hn : S1[n]? = some (.lst rs)) : EvI X tg iter G S rs (fun S' => S'[n]? = some (.lst rs)) S1 := ⟨_, pi_list pe_s, fun M σ H R s q => hi M σ H _ s fun v M1 H1 e1 t1 r1 => by
  obtain ⟨ad, had, ev⟩ := r1
  obtain ⟨vs0, hv0, hr0⟩ := t1.sto.rep n ad _ had hn
  refine ⟨ad, ev, ⟨vs0, .of hv0⟩, q M1 H1 _ e1 t1 ⟨fun i M' H' S' hi e s hC => ?_, fun i M' H' S' x H2 r hr e s hC y => ?_, fun i M' H' S' hi e s hC => ?_⟩⟩
  · obtain ⟨vs, hv, hr⟩ := s.rep n ad _ (e.get had) hC
    exact ⟨vs, vs[i]'(by rw [hr.len]; exact hi), .of hv, List.getElem?_eq_getElem _⟩
  · obtain ⟨vs, hv, hr'⟩ := s.rep n ad _ (e.get had) hC
    obtain ⟨rfl, y⟩ := y
    have hx := y vs (.of hv)
    obtain ⟨r', h1, h2⟩ := reps_at hr' hx
    rw [hr] at h1
    cases h1
    exact ⟨Ext.refl, s, h2⟩
  · obtain ⟨vs, hv, hr⟩ := s.rep n ad _ (e.get had) hC
    exact ⟨vs, .of hv, by rw [hr.len]; exact hi⟩⟩
def rngI (lo : Int) (n : Nat) : List It := (List.range n).map fun (i : Nat) => It.d (.int (lo + (i : Int)))
theorem rngI_len (lo : Int) (n : Nat) : (rngI lo n).length = n := by unfold rngI; rw [List.length_map, List.length_range]
theorem rngI_at {lo : Int} {n i : Nat} {r : It} (h : (rngI lo n)[i]? = some r) : i < n ∧ r = .d (.int (lo + (i : Int))) := by
  unfold rngI at h
  rw [List.getElem?_map] at h
  cases e : (List.range n)[i]? with
  | none => rw [e] at h; cases h
  | some m =>
    rw [e] at h
    obtain ⟨hl, hm⟩ := List.getElem?_eq_some_iff.mp e
    rw [List.getElem_range] at hm
    subst hm
    cases h
    exact ⟨by simpa using hl, rfl⟩
theorem wk_range {K : PySem.W.Frag} {M1 : List Addr} {H1 : Hp} {lo : Int} {n : Nat} : Wk K (Itr lo n) anyS M1 H1 (rngI lo n) where
  go := fun i M' H' S' hi e s _ => by rw [rngI_len] at hi; exact hi
  yl := fun i M' H' S' x H2 r hr e s _ y => by
    obtain ⟨rfl, rfl⟩ := y
    obtain ⟨_, rfl⟩ := rngI_at hr
    exact ⟨Ext.refl, s, Fz.int _⟩
  st := fun i M' H' S' hi e s _ => by rw [rngI_len] at hi; exact hi
/-- range(n) -/
theorem evi_range1 {n : Int} {a1 : Expr} (hm : X.mg "range" = none) (hi : Ev X a1 G S (.d (.int n)) S1) (hb : -(2 ^ 62) ≤ n ∧ n < 2 ^ 62) (hR : Gl X "range" := by rfl) (hst : starEach [a1] X.env = [(false, eval a1 X.env)] := by rfl) : EvI X tg (.Call (.Name "range" p) [a1] [] pos') G S (rngI 0 n.toNat) anyS S1 :=
  ⟨_, pi_range1 hR hm pa_s hst, fun M σ H R s q => toA (pa_cons pe_s pa_nil hst) (hi M σ H _ s fun v M1 H1 e1 t1 r1 => ⟨n, by rw [vr_int r1], hb.1, hb.2, q M1 H1 _ e1 t1 wk_range⟩)⟩
/-- range(a, b) -/
theorem evi_range2 {lo hi : Int} {a1 a2 : Expr} (hm : X.mg "range" = none) (h1 : Ev X a1 G S (.d (.int lo)) S1) (h2 : Ev X a2 G S1 (.d (.int hi)) S2) (hb : -(2 ^ 62) ≤ lo ∧ lo < 2 ^ 62 ∧ -(2 ^ 62) ≤ hi ∧ hi < 2 ^ 62)
    (hR : Gl X "range" := by rfl) (hst : starEach [a1, a2] X.env = [(false, eval a1 X.env), (false, eval a2 X.env)] := by rfl) (hst2 : starEach [a2] X.env = [(false, eval a2 X.env)] := by rfl) : EvI X tg (.Call (.Name "range" p) [a1, a2] [] pos') G S (rngI lo (hi - lo).toNat) anyS S2 :=
  ⟨_, pi_range2 hR hm pa_s hst hst2, fun M σ H R s q => toA (pa_cons pe_s (pa_cons pe_s pa_nil hst2) (by rw [hst, hst2])) (h1 M σ H _ s fun v M1 H1 e1 t1 r1 => h2 M1 σ H1 _ t1 fun v2 M2 H2 e2 t2 r2 => ⟨lo, hi, by rw [vr_int r1, vr_int r2], hb, q M2 H2 _ (e1.trans e2) t2 wk_range⟩)⟩
/-- the wish of a loop's turn -/
abbrev Post.turn (P : Post) (N : Gam → Sto → Prop) : Post := { nx := N, ct := N, bk := P.nx, rt := P.rt, xc := P.xc }
/-- for x in what walks rs: J by the turn, the names, the store -/
theorem ws_for (c : Cxo X W k) (hi : EvI X tg iter G S rs C S1) (J : Nat → Gam → Sto → Prop) (tgt : It → Gam → Gam) (h0 : J 0 G S1) (hC : ∀ i G' S', J i G' S' → C S')
    (hg : ∀ i r G' S', rs[i]? = some r → J i G' S' → EvG X tg r G' S' (tgt r G') S')
    (hs : ∀ i r G' S', rs[i]? = some r → J i G' S' → WSs X W body (tgt r G') S' (P.turn (J (i + 1)))) (hd : ∀ G' S', J rs.length G' S' → P.nx G' S')
    (hf : ∀ x, foldedSetIterable iter X.env x = pure x := by intro _; rfl) : WS X W (.For tg iter body [] pos) G S P := fun M σ H D s m => by
  obtain ⟨wi, hpi, hw⟩ := hi
  refine toS (ps_for c.po c.calm hpi pg_s pss_s hf) (hw M σ H _ s fun M1 H1 Jt e1 t1 wk => ?_)
  refine ⟨fun i m' σ' H' => (m' = rs.length - i ∧ i ≤ rs.length) ∧ ∃ M' G' S', Ext M1 H1 M' H' ∧ Stt X.K M' H' S' G' σ' ∧ J i G' S', ⟨_, ⟨rfl, Nat.zero_le _⟩, M1, G, S1, Ext.refl, t1, h0⟩, fun i m' σ' H' hw => ?_⟩
  obtain ⟨⟨rfl, hi'⟩, M', G', S', e', t', hJ⟩ := hw
  have c' := hC i G' S' hJ
  by_cases hlt : i < rs.length
  · refine .inr ⟨wk.go i M' H' S' hlt e' t'.sto c', fun σ2 H2 => ∃ M2 G2 S2, Ext M1 H1 M2 H2 ∧ Stt X.K M2 H2 S2 G2 σ2 ∧ J (i + 1) G2 S2, fun σ2 H2 q => ⟨rs.length - (i + 1), by omega, ⟨rfl, by omega⟩, q⟩, fun x H2 y => ?_⟩
    have hri : rs[i]? = some rs[i] := List.getElem?_eq_getElem hlt
    obtain ⟨e2, s2, v2⟩ := wk.yl i M' H' S' x H2 _ hri e' t'.sto c' y
    have t2 : Stt X.K M' H2 S' G' σ' := t'.mono e2 s2
    have e12 := e'.trans e2
    refine hg i _ G' S' hri hJ M' σ' H2 x _ t2 v2 fun σ3 M3 H3 e3 t3 => ?_
    have e13 := e12.trans e3
    exact hs i _ G' S' hri hJ M3 σ3 H3 _ t3 ⟨fun M4 σ4 H4 G4 S4 x t q => ⟨M4, G4, S4, e13.trans x, t, q⟩, fun v M4 H4 r S4 x => m.rt v M4 H4 r S4 ((e1.trans e13).trans x), fun M4 σ4 H4 G4 S4 x => m.nx M4 σ4 H4 G4 S4 ((e1.trans e13).trans x), fun M4 σ4 H4 G4 S4 x t q => ⟨M4, G4, S4, e13.trans x, t, q⟩, fun M4 σ4 H4 G4 C4 S4 x => m.xc M4 σ4 H4 G4 C4 S4 ((e1.trans e13).trans x)⟩
  · have ei : i = rs.length := by omega
    subst ei
    exact .inl ⟨wk.st _ M' H' S' (Nat.le_refl _) e' t'.sto c', m.nx M' σ' H' G' S' (e1.trans e') t' (hd G' S' hJ)⟩
/-- while t: by a word of the names and the store, and a measure -/
theorem ws_while {t : Expr} (c : Cxo X W k) (J : Nat → Gam → Sto → Prop) (n0 : Nat) (h0 : J n0 G S)
    (hs : ∀ n G' S', J n G' S' → ∃ b S2, EvT X t G' S' b S2 ∧ (b = true → WSs X W body G' S2 (P.turn fun G3 S3 => ∃ n', n' < n ∧ J n' G3 S3)) ∧ (b = false → P.nx G' S2)) : WS X W (.While t body [] pos) G S P := fun M σ H D s m =>
  toS (ps_while c.po pt_s pss_s) (by
    refine ⟨fun n σ' H' => ∃ M' G' S', Ext M H M' H' ∧ Stt X.K M' H' S' G' σ' ∧ J n G' S', ⟨n0, M, G, S, Ext.refl, s, h0⟩, ?_⟩
    rintro n σ' H' ⟨M', G', S', e', t', hJ⟩
    obtain ⟨b, S2, hb, h1, h2⟩ := hs n G' S' hJ
    refine hb M' σ' H' _ t' fun M2 H2 e2 t2 => ?_
    cases b with
    | true =>
      refine iteT ⟨fun σ3 H3 => ∃ M3 G3 S3, Ext M H M3 H3 ∧ Stt X.K M3 H3 S3 G3 σ3 ∧ ∃ n', n' < n ∧ J n' G3 S3, fun σ3 H3 ⟨M3, G3, S3, e3, t3, n', hn', q⟩ => ⟨n', hn', M3, G3, S3, e3, t3, q⟩, ?_⟩
      exact h1 rfl M2 σ' H2 _ t2 ⟨fun M3 σ3 H3 G3 S3 x t q => ⟨M3, G3, S3, (e'.trans e2).trans x, t, q⟩, fun v M' H' r S' x => m.rt v M' H' r S' ((e'.trans e2).trans x), fun M' σ' H' G' S' x => m.nx M' σ' H' G' S' ((e'.trans e2).trans x), fun M3 σ3 H3 G3 S3 x t q => ⟨M3, G3, S3, (e'.trans e2).trans x, t, q⟩, fun M' σ' H' G' C S' x => m.xc M' σ' H' G' C S' ((e'.trans e2).trans x)⟩
    | false => exact iteF (m.nx M2 σ' H2 G' S2 (e'.trans e2) t2 (h2 rfl)))
end
/-! ### comprehensions -/
/-- the contexts of a comprehension's block -/
abbrev blkX (X : Cx) (scope : Scope) (s : Shared) (H : Hp) (C : Addr) (cl : List (Str × Addr)) (fp : List Addr) : Cx := X.blk s H scope (compEnvC scope cl C X.env) fp
theorem Cxo.blk {X : Cx} {W : WX} {k : Nat} (c : Cxo X W k) (scope : Scope) (s : Shared) (H : Hp) (C : Addr) (cl : List (Str × Addr)) (fp : List Addr) : Cxo (blkX X scope s H C cl fp) (fun _ _ _ _ => False) k :=
  ⟨c.calm, c.nd, fun _ _ x => by
    obtain ⟨_, _, _, _, _, _, _, _, _, _, _, _, _, _, _, _, z⟩ := x
    exact z.elim, PassesOwn.never, c.hr⟩
def wipeG (G : Gam) (vs : List Nat) : Gam := vs.foldr (fun i g => g.set i none) G
/-- a target of a comprehension: it stores into slots of vs alone -/
structure TgOk (X : Cx) (scope : Scope) (tg : Expr) (vs : List Nat) (bind : It → Gam → Option Gam) : Prop where
  ex : ∃ g : TG, (∀ s H C cl fp, PG (blkX X scope s H C cl fp) tg g) ∧ ∀ (M : List Addr) (H : Hp) (S : Sto) (G G' : Gam) (σ : Sig) (v : V) (r : It) (Q : Sig → Hp → Prop), Stt X.K M H S G σ → VRep X.K M H v r → bind r G = some G' →
    (∀ σ2, Stt X.K M H S G' σ2 → wipe σ2 vs = wipe σ vs → Q σ2 H) → g v σ H Q
theorem wipe_set {i : Nat} {v : Option V} : ∀ {vs : List Nat} (σ : Sig), i ∈ vs → wipe (σ.set i v) vs = wipe σ vs
  | j :: vs, σ, h => by
    show (wipe (σ.set i v) vs).set j none = (wipe σ vs).set j none
    by_cases hi : i ∈ vs
    · rw [wipe_set σ hi]
    · have e : i = j := by
        rcases List.mem_cons.mp h with q | q
        · exact q
        · exact absurd q hi
      subst e
      have out : ∀ {vs : List Nat}, i ∉ vs → wipe (σ.set i v) vs = (wipe σ vs).set i v := by
        intro vs
        induction vs with
        | nil => intro _; rfl
        | cons l r ih =>
          intro hn
          have h1 : i ≠ l := fun z => hn (by rw [z]; exact List.mem_cons_self)
          show (wipe (σ.set i v) r).set l none = ((wipe σ r).set l none).set i v
          rw [ih fun z => hn (List.mem_cons_of_mem _ z), List.set_comm _ _ h1]
      rw [out hi, List.set_set]
section
variable {X : Cx} {W : WX} {k j : Nat} {G G1 G2 : Gam} {S S1 S2 S3 : Sto} {P : Post} {e a b o iter tg elt : Expr} {es ifs : List Expr} {r y z : It} {rs : List It} {pos pos' p apos : Pos} {st : Stmt} {sts body : List Stmt} {ds : List PyData} {scope : Scope} {own : List (Str × Nat)} {vs : List Nat}
theorem tg_name (i : Nat) {n : Str} (nd : X.N.Nodup) (hv : i ∈ vs := by decide) (hi : X.N[i]? = some n := by rfl) (hx : scope.names.lookup n = some .local := by rfl) : TgOk X scope (.Name n pos) vs (fun r G => some (G.set i (some r))) := by
  refine ⟨gName i, fun s H C cl fp => ?_, fun M H S G G' σ v r Q t hr hb q => ?_⟩
  · have hx' : (relS scope X.env.scope).names.lookup n = some .local := lookup_relS_keep (by decide) hx
    exact pg_name (i := i) nd hi (.inl hx') (.inr hx')
  · cases hb
    exact q _ (t.set hr) (wipe_set σ hv)
def setAll : List Nat → List It → Gam → Option Gam
  | [], [], G => some G
  | i :: is, r :: rs, G => setAll is rs (G.set i (some r))
  | _, _, _ => none
theorem gs_names {s0 : Shared} {H0 : Hp} {C : Addr} {cl : List (Str × Addr)} {fp : List Addr} : ∀ {is : List Nat} {es : List Expr}, (∃ t : TGs, PGs (blkX X scope s0 H0 C cl fp) es t) → True := fun _ => trivial
/-- names in a tuple -/
def gNames : List Nat → TGs
  | [] => gNil
  | i :: is => gCons (gName i) (gNames is)
theorem gNames_ok : ∀ {is : List Nat} {rs : List It} {us : List V} {M : List Addr} {H : Hp} {S : Sto} {G G' : Gam} {σ : Sig} {Q : Sig → Hp → Prop}, (∀ i ∈ is, i ∈ vs) → Stt X.K M H S G σ → VReps X.K M H us rs → setAll is rs G = some G' →
    (∀ σ2, Stt X.K M H S G' σ2 → wipe σ2 vs = wipe σ vs → Q σ2 H) → gNames is us σ H Q
  | [], [], _, M, H, S, G, G', σ, Q, hm, t, r, hb, q => by
    cases r
    cases hb
    exact ⟨rfl, q σ t rfl⟩
  | i :: is, r :: rs, _, M, H, S, G, G', σ, Q, hm, t, hr, hb, q => by
    cases hr with
    | cons h1 h2 =>
      refine ⟨_, _, rfl, ?_⟩
      exact gNames_ok (fun j hj => hm j (List.mem_cons_of_mem _ hj)) (t.set h1) h2 hb fun σ2 t2 w2 => q σ2 t2 (w2.trans (wipe_set σ (hm i List.mem_cons_self)))
  | [], _ :: _, _, _, _, _, _, _, _, _, _, _, _, hb, _ => by cases hb
  | _ :: _, [], _, _, _, _, _, _, _, _, _, _, _, hb, _ => by cases hb
/-- (a, b, ..), the pairs' own PGs -/
theorem tg_tup {j : Nat} (is : List Nat) (hc : X.calm = true) (hp : ∀ s H C cl fp, PGs (blkX X scope s H C cl fp) es (gNames is)) (hv : ∀ i ∈ is, i ∈ vs := by decide) (hn : ∀ s H C cl fp, (assignEach es (blkX X scope s H C cl fp).env).length = is.length := by intros; rfl)
    (hst : ∀ s H C cl fp, (assignEach es (blkX X scope s H C cl fp).env).findIdx? (·.1) = none := by intros; rfl) : TgOk X scope (.Tuple es j pos) vs (fun r G => match r with | .d (.tuple ds) => setAll is (ds.map .d) G | _ => none) := by
  refine ⟨gTup X.K is.length (gNames is), fun s H C cl fp => pg_tup (X := blkX X scope s H C cl fp) hc (hp s H C cl fp) (hn s H C cl fp) (hst s H C cl fp), fun M H S G G' σ v r Q t hr hb q => ?_⟩
  cases r with
  | d x =>
    cases x with
    | tuple ds =>
      have hr' : Fz M H v (.tuple ds) := hr
      cases hr' with
      | tup hT hA =>
        have hlen : ∀ {is : List Nat} {rs : List It} {G G' : Gam}, setAll is rs G = some G' → rs.length = is.length := by
          intro is
          induction is with
          | nil => intro rs G G' h; cases rs with | nil => rfl | cons _ _ => cases h
          | cons i r ih => intro rs G G' h; cases rs with | nil => cases h | cons x xs => exact congrArg Nat.succ (ih h)
        have hl := hlen (show setAll is (ds.map It.d) G = some G' from hb)
        rw [List.length_map] at hl
        exact ⟨_, _, rfl, hT.sq, (fz_len hA).trans hl, gNames_ok hv t (fz_reps hA) hb q⟩
    | _ => cases hb
  | _ => cases hb
theorem pgs_names_nil {X : Cx} : PGs X [] (gNames []) := pgs_nil
theorem pgs_names_cons {X : Cx} {i : Nat} {is : List Nat} {e : Expr} {es : List Expr} (h1 : PG X e (gName i)) (h2 : PGs X es (gNames is)) (hs : (assignEach (e :: es) X.env).map (·.2) = assign e X.env :: (assignEach es X.env).map (·.2) := by rfl) : PGs X (e :: es) (gNames (i :: is)) := pgs_cons h1 h2 hs
theorem pg_blk (i : Nat) {n : Str} {s : Shared} {H : Hp} {C : Addr} {cl : List (Str × Addr)} {fp : List Addr} (nd : X.N.Nodup) (hi : X.N[i]? = some n := by rfl) (hx : scope.names.lookup n = some .local := by rfl) : PG (blkX X scope s H C cl fp) (.Name n pos) (gName i) :=
  have hx' : (relS scope X.env.scope).names.lookup n = some .local := lookup_relS_keep (by decide) hx
  pg_name (i := i) nd hi (.inl hx') (.inr hx')
/-- the tests, the element of a block, in any context of it -/
def tTs (X : Cx) (scope : Scope) (ifs : List Expr) : TT := fun σ H Q => ∀ s0 H0 C cl fp, match ifs with
  | [] => Q true H
  | [t] => sT (blkX X scope s0 H0 C cl fp) t σ H Q
  | _ => False
def tEl (X : Cx) (scope : Scope) (elt : Expr) : TE := fun σ H Q => ∀ s0 H0 C cl fp, sE (blkX X scope s0 H0 C cl fp) elt σ H Q
/-- tests of a comprehension -/
def EvTs (X : Cx) (ifs : List Expr) (G : Gam) (S : Sto) (b : Bool) : Prop := match ifs with
  | [] => b = true
  | [t] => EvT X t G S b S
  | _ => False
/-- the new list of a comprehension, as it is filled -/
theorem lc_reads {bind : It → Gam → Option Gam} {out : List PyData} {C : Sto → Prop} (c : Cxo X W k) (hi : EvI X tg iter G S rs C S1) (ht : TgOk X scope tg (own.map (·.2)) bind) (J : Nat → List PyData → Sto → Prop) (h0 : J 0 [] S1) (hC : ∀ i acc S', J i acc S' → ∀ L, C (S' ++ L))
    (hs : ∀ i r acc S', rs[i]? = some r → J i acc S' → S'.length = S1.length → ∃ G' b, bind r (wipeG G (own.map (·.2))) = some G' ∧ (∀ L s H C cl fp, EvTs (blkX X scope s H C cl fp) ifs G' (S' ++ L) b) ∧
      (b = true → ∃ y S3, S3.length = S1.length ∧ (∀ L s H C cl fp, Ev (blkX X scope s H C cl fp) elt G' (S' ++ L) (.d y) (S3 ++ L)) ∧ J (i + 1) (acc ++ [y]) S3) ∧ (b = false → J (i + 1) acc S'))
    (hd : ∀ acc S', J rs.length acc S' → acc = out ∧ S' = S2) (hz : rs.length ≤ 1000000) (hcl : ClS S1 → ClS S2) :
    ∃ (wi : TI) (g : TG), PI X tg iter wi ∧ (∀ s H C cl fp, PG (blkX X scope s H C cl fp) tg g) ∧ ∀ (M : List Addr) (σ : Sig) (H : Hp) (Q : VK), Stt X.K M H S G σ → (∀ v M' H', Ext M H M' H' → Stt X.K M' H' S2 G σ → VRep X.K M' H' v (.d (.list out)) → Q v H') →
      tLc wi g (tTs X scope ifs) (tEl X scope elt) (own.map (·.2)) σ H Q := by
  obtain ⟨g, hpg, hg⟩ := ht.ex
  obtain ⟨wi, hpi, hw⟩ := hi
  refine ⟨wi, g, hpi, hpg, fun M σ H Q s q => hw M σ H _ s fun M1 H1 Jt e1 t1 wk => ?_⟩
  intro D hD
  have eD : Ext M1 H1 (M1 ++ [D]) (upd H1 D (.lst [])) := Ext.own hD
  have lenM : ∀ {M' : List Addr} {H' : Hp} {S' : Sto} {acc : List PyData}, StoreOk X.K M' H' (S' ++ [Own.lst (acc.map .d)]) → S'.length = S1.length → Ext (M1 ++ [D]) (upd H1 D (.lst [])) M' H' → M' = M1 ++ [D] := fun {M' H' S' acc} s' hl e' => by
    obtain ⟨L, eL⟩ := e'.pre
    have h1 := s'.len
    rw [eL, List.length_append, List.length_append, List.length_append, t1.sto.len] at h1
    have h2 : L.length = 0 := by
      have : [D].length = 1 := rfl
      have : [Own.lst (acc.map .d)].length = 1 := rfl
      omega
    rw [eL, List.eq_nil_of_length_eq_zero h2, List.append_nil]
  have ww : ∀ (vs us : List Nat) (σ : Sig), (∀ v ∈ us, v ∈ vs) → wipe (wipe σ us) vs = wipe σ vs := by
    intro vs us
    induction us with
    | nil => intro σ _; rfl
    | cons u r ih =>
      intro σ hm
      show wipe ((wipe σ r).set u none) vs = _
      rw [wipe_set _ (hm u List.mem_cons_self), ih σ fun v hv => hm v (List.mem_cons_of_mem _ hv)]
  have hDn : (M1 ++ [D])[S1.length]? = some D := by rw [← t1.sto.len, List.getElem?_append_right (Nat.le_refl _), Nat.sub_self]; rfl
  refine ⟨fun i m' H' => (m' = rs.length - i ∧ i ≤ rs.length) ∧ ∃ S' acc, S'.length = S1.length ∧ Ext (M1 ++ [D]) (upd H1 D (.lst [])) (M1 ++ [D]) H' ∧ Stt X.K (M1 ++ [D]) H' (S' ++ [.lst (acc.map .d)]) G σ ∧ acc.length ≤ i ∧ J i acc S',
    ⟨_, ⟨rfl, Nat.zero_le _⟩, S1, [], rfl, Ext.refl, t1.mono eD (t1.sto.own (w := .lst ([] : List It)) hD ⟨[], upd_same, .nil⟩), Nat.le_refl _, h0⟩, fun i m' H' hw' => ?_⟩
  obtain ⟨⟨rfl, hi'⟩, S', acc, hl', e', t', hacc, hJ⟩ := hw'
  have cS := hC i acc S' hJ [.lst (acc.map .d)]
  by_cases hlt : i < rs.length
  · refine .inr ⟨wk.go i _ H' _ hlt (eD.trans e') t'.sto cS, fun H2 => ∃ S' acc, S'.length = S1.length ∧ Ext (M1 ++ [D]) (upd H1 D (.lst [])) (M1 ++ [D]) H2 ∧ Stt X.K (M1 ++ [D]) H2 (S' ++ [.lst (acc.map .d)]) G σ ∧ acc.length ≤ i + 1 ∧ J (i + 1) acc S', fun H2 q => ⟨rs.length - (i + 1), by omega, ⟨rfl, by omega⟩, q⟩, fun x H2 y => ?_⟩
    have hri : rs[i]? = some rs[i] := List.getElem?_eq_getElem hlt
    obtain ⟨ey, sy, vy⟩ := wk.yl i _ H' _ x H2 _ hri (eD.trans e') t'.sto cS y
    have ty : Stt X.K (M1 ++ [D]) H2 (S' ++ [.lst (acc.map .d)]) G σ := t'.mono ey sy
    have e2 := e'.trans ey
    obtain ⟨G', b, hb, hT, hy, hn⟩ := hs i _ acc S' hri hJ hl'
    refine hg (M1 ++ [D]) H2 (S' ++ [.lst (acc.map .d)]) (wipeG G (own.map (·.2))) G' (wipe σ (own.map (·.2))) x rs[i] _ (ty.wipe _) vy hb ?_
    intro σ2 t2 w2
    refine ⟨w2.trans (ww _ _ _ fun _ h => h), ?_⟩
    -- behind the tests
    have fin : ∀ (H3 : Hp), Ext (M1 ++ [D]) H2 (M1 ++ [D]) H3 → Stt X.K (M1 ++ [D]) H3 (S' ++ [.lst (acc.map .d)]) G' σ2 → (if b = true then tEl X scope elt σ2 H3 fun y H4 => ∃ acc, H4 D = some (.lst acc) ∧ acc.length < sizeLine ∧ ∃ S' acc_1, S'.length = S1.length ∧ Ext (M1 ++ [D]) (upd H1 D (.lst [])) (M1 ++ [D]) (upd H4 D (.lst (acc ++ [y]))) ∧ Stt X.K (M1 ++ [D]) (upd H4 D (.lst (acc ++ [y]))) (S' ++ [.lst (acc_1.map .d)]) G σ ∧ acc_1.length ≤ i + 1 ∧ J (i + 1) acc_1 S'
        else ∃ S' acc, S'.length = S1.length ∧ Ext (M1 ++ [D]) (upd H1 D (.lst [])) (M1 ++ [D]) H3 ∧ Stt X.K (M1 ++ [D]) H3 (S' ++ [.lst (acc.map .d)]) G σ ∧ acc.length ≤ i + 1 ∧ J (i + 1) acc S') := by
      intro H3 e3 t3
      cases b with
      | false => exact iteF ⟨S', acc, hl', e2.trans e3, ty.mono e3 t3.sto, Nat.le_succ_of_le hacc, hn rfl⟩
      | true =>
        refine iteT fun s0 H0 C cl fp => ?_
        obtain ⟨y, S3, hl3, hE, hJ3⟩ := hy rfl
        refine hE [.lst (acc.map .d)] s0 H0 C cl fp (M1 ++ [D]) σ2 H3 _ t3 fun v4 M4 H4 e4 t4 r4 => ?_
        obtain rfl : M4 = M1 ++ [D] := lenM t4.sto hl3 ((e2.trans e3).trans e4)
        have hSn : (S3 ++ [Own.lst (acc.map .d)])[S1.length]? = some (.lst (acc.map .d)) := by rw [← hl3, List.getElem?_append_right (Nat.le_refl _), Nat.sub_self]; rfl
        obtain ⟨vs4, hv4, hr4⟩ := t4.sto.rep _ _ _ hDn hSn
        have hl4 : vs4.length = acc.length := by rw [hr4.len, List.length_map]
        have e5 : Ext (M1 ++ [D]) H4 (M1 ++ [D]) (upd H4 D (.lst (vs4 ++ [v4]))) := Ext.put (List.mem_of_getElem? hDn)
        have s5 := t4.sto.put (w := .lst ((acc ++ [y]).map .d)) hDn ⟨vs4 ++ [v4], upd_same, by
          rw [List.map_append]
          exact VReps.append (VReps.ext e5 hr4) (.cons (r4.ext e5) .nil)⟩
        have hset : (S3 ++ [Own.lst (acc.map It.d)]).set S1.length (.lst ((acc ++ [y]).map .d)) = S3 ++ [.lst ((acc ++ [y]).map .d)] := by
          rw [← hl3, List.set_append_right _ _ (Nat.le_refl _), Nat.sub_self]
          rfl
        rw [hset] at s5
        refine ⟨vs4, hv4, ?_, S3, acc ++ [y], hl3, ((e2.trans e3).trans e4).trans e5, ty.mono ((e3.trans e4).trans e5) s5, by rw [List.length_append]; exact Nat.succ_le_succ hacc, hJ3⟩
        rw [sizeLine_eq]
        omega
    intro s0 H0 C cl fp
    have hT' := hT [.lst (acc.map .d)] s0 H0 C cl fp
    cases ifs with
    | nil =>
      have hb1 : b = true := hT'
      have f0 := fin H2 Ext.refl t2
      rw [hb1] at f0
      exact f0
    | cons tt r =>
      cases r with
      | nil =>
        refine hT' (M1 ++ [D]) σ2 H2 _ t2 fun M4 H4 e4 t4 => ?_
        obtain rfl : M4 = M1 ++ [D] := lenM t4.sto hl' (e2.trans e4)
        exact fin H4 e4 t4
      | cons _ _ => exact hT'.elim
  · have ei : i = rs.length := by omega
    subst ei
    refine .inl ⟨wk.st _ _ H' _ (Nat.le_refl _) (eD.trans e') t'.sto cS, ?_⟩
    obtain ⟨rfl, rfl⟩ := hd acc S' hJ
    have hSn : (S' ++ [Own.lst (acc.map .d)])[S1.length]? = some (.lst (acc.map .d)) := by rw [← hl', List.getElem?_append_right (Nat.le_refl _), Nat.sub_self]; rfl
    obtain ⟨vs4, hv4, hr4⟩ := t'.sto.rep _ _ _ hDn hSn
    have eT : (M1 ++ [D]).take S'.length = M1 := by rw [hl', ← t1.sto.len]; exact List.take_left ..
    have s6 := t'.sto.take (hcl t1.sto.closed)
    rw [eT] at s6
    have e6 : Ext M1 H1 M1 H' := by
      have := (eD.trans e').take (n := M1.length) (Nat.le_refl _)
      rwa [List.take_left] at this
    have hds : ∀ acc : List PyData, ds? (acc.map It.d) = some acc := by
      intro acc
      induction acc with
      | nil => rfl
      | cons x r ih => show (ds? (r.map It.d)).map (x :: ·) = _; rw [ih]; rfl
    exact q (.ref D) M1 H' (e1.trans e6) (t1.mono e6 s6) (Fz.lst ⟨.inl hv4, t1.sto.nin hD⟩ (FzAll.less (fun _ h => List.mem_append_left _ h) (fz_all (hds acc) hr4)))
theorem pts_tTs (s0 : Shared) (H0 : Hp) (C : Addr) (cl : List (Str × Addr)) (fp : List Addr) : PTs (blkX X scope s0 H0 C cl fp) ifs (tTs X scope ifs) := by
  cases ifs with
  | nil => exact ⟨fun pins s1 σ1 H1 Q1 I1 h1 => (pts_nil (X := blkX X scope s0 H0 C cl fp)).run pins s1 σ1 H1 Q1 I1 (h1 s0 H0 C cl fp)⟩
  | cons t r =>
    cases r with
    | nil => exact ⟨fun pins s1 σ1 H1 Q1 I1 h1 => (pts_one (pt_s (X := blkX X scope s0 H0 C cl fp) (e := t))).run pins s1 σ1 H1 Q1 I1 (h1 s0 H0 C cl fp)⟩
    | cons _ _ => exact ⟨fun pins s1 σ1 H1 Q1 I1 h1 => (h1 s0 H0 C cl fp).elim⟩
theorem pe_tEl (s0 : Shared) (H0 : Hp) (C : Addr) (cl : List (Str × Addr)) (fp : List Addr) : PE (blkX X scope s0 H0 C cl fp) elt (tEl X scope elt) := ⟨fun pins s1 σ1 H1 Q1 I1 h1 => h1 s0 H0 C cl fp pins s1 I1⟩
/-- what a comprehension asks: source, target, turns; data come of it -/
structure LcOk (X : Cx) (scope : Scope) (own : List (Str × Nat)) (elt tg iter : Expr) (ifs : List Expr) (G : Gam) (S : Sto) (out : List PyData) (S2 : Sto) : Prop where
  ex : ∃ (wi : TI) (g : TG), PI X tg iter wi ∧ (∀ s H C cl fp, PG (blkX X scope s H C cl fp) tg g) ∧ ∀ (M : List Addr) (σ : Sig) (H : Hp) (Q : VK), Stt X.K M H S G σ → (∀ v M' H', Ext M H M' H' → Stt X.K M' H' S2 G σ → VRep X.K M' H' v (.d (.list out)) → Q v H') →
      tLc wi g (tTs X scope ifs) (tEl X scope elt) (own.map (·.2)) σ H Q
/-- nothing that is owned changes: each item gives by f whether, by gg what -/
theorem lc_pure {bind : It → Gam → Option Gam} {C : Sto → Prop} (c : Cxo X W k) (hi : EvI X tg iter G S rs C S1) (ht : TgOk X scope tg (own.map (·.2)) bind) (f : It → Bool) (gg : It → PyData) (hC : ∀ L, C (S1 ++ L))
    (hs : ∀ r ∈ rs, ∃ G', bind r (wipeG G (own.map (·.2))) = some G' ∧ (∀ L s H C cl fp, EvTs (blkX X scope s H C cl fp) ifs G' (S1 ++ L) (f r)) ∧ (f r = true → ∀ L s H C cl fp, Ev (blkX X scope s H C cl fp) elt G' (S1 ++ L) (.d (gg r)) (S1 ++ L))) (hz : rs.length ≤ 1000000) :
    LcOk X scope own elt tg iter ifs G S ((rs.filter f).map gg) S1 := by
  refine ⟨lc_reads c hi ht (fun i acc S' => S' = S1 ∧ acc = ((rs.take i).filter f).map gg) ⟨rfl, rfl⟩ (fun i acc S' h L => by rw [h.1]; exact hC L) (fun i r acc S' hr hJ _ => ?_) (fun acc S' hJ => ?_) hz fun h => h⟩
  · obtain ⟨rfl, rfl⟩ := hJ
    obtain ⟨G', h1, h2, h3⟩ := hs r (List.mem_of_getElem? hr)
    have et : rs.take (i + 1) = rs.take i ++ [r] := by rw [List.take_add_one, hr]; rfl
    refine ⟨G', f r, h1, h2, fun hf => ⟨gg r, S', rfl, h3 hf, rfl, ?_⟩, fun hf => ⟨rfl, ?_⟩⟩
    · rw [et, List.filter_append, List.map_append]
      congr 1
      simp [hf]
    · rw [et, List.filter_append]
      simp [hf]
  · obtain ⟨rfl, rfl⟩ := hJ
    rw [List.take_length]
    exact ⟨rfl, rfl⟩
theorem ev_lc {out : List PyData} (c : Cxo X W k) (ok : BlkOk X.N X.env.scope scope own) (h : LcOk X scope own elt tg iter ifs G S out S2) (hf : ∀ x, foldedSetIterable iter X.env x = pure x := by intro _; rfl) : Ev X (.ListComp elt [⟨tg, iter, ifs, 0⟩] scope pos) G S (.d (.list out)) S2 := fun M σ H Q s q => by
  obtain ⟨wi, g, hpi, hpg, h⟩ := h.ex
  exact toE (pe_lc c.calm c.nd hpi ok hpg pts_tTs pe_tEl hf) (h M σ H Q s q)
/-- y = [..], y a local -/
theorem ws_setLc {out : List PyData} (i : Nat) {n : Str} (c : Cxo X W k) (ok : BlkOk X.N X.env.scope scope own) (h : LcOk X scope own elt tg iter ifs G S out S2) (q : P.nx (G.set i (some (.d (.list out)))) S2) (hy : X.N[i]? = some n := by rfl) (hyl : X.env.scope.names.lookup n = some .local := by rfl)
    (hsw : swapsWith (.ListComp elt [⟨tg, iter, ifs, 0⟩] scope pos) (some (.Name n pos')) apos.line X.env = pure true := by exact sw_true rfl rfl rfl (by decide +kernel)) (hf : ∀ x, foldedSetIterable iter X.env x = pure x := by intro _; rfl) : WS X W (.Assign [.Name n pos'] (.ListComp elt [⟨tg, iter, ifs, 0⟩] scope pos) apos) G S P := fun M σ H D s m => by
  obtain ⟨wi, g, hpi, hpg, h⟩ := h.ex
  exact toS (ps_setLc (i := i) c.calm c.nd hy hyl hsw hpi ok hpg pts_tTs pe_tEl hf) (h M σ H _ s fun v M1 H1 e1 t1 r1 => m.nx M1 _ H1 _ S2 e1 (t1.set r1) q)
end
end Cu
/-! CuE: operators, built-ins, methods of built-in types, over data. -/
namespace Cu
open PySem PySem.Spec PyProof.Rows L2
section
variable {X : Cx} {W : WX} {k j : Nat} {G G1 G2 : Gam} {S S1 S2 S3 : Sto} {P : Post} {e a b o iter tg elt : Expr} {es ifs : List Expr} {r y z : It} {rs : List It} {pos pos' p apos : Pos} {st : Stmt} {sts body : List Stmt} {ds : List PyData} {C : Sto → Prop} {m n : Int}
/-! ### whole numbers -/
theorem rw_int {f : Int → Int → Int} : RW2 X (rI0 fun i j => .int (f i j)) (.d (.int m)) (.d (.int n)) S (.d (.int (f m n))) S := fun M H v u Q s hv hu q =>
  ⟨m, n, vr_int hv, vr_int hu, q _ M H Ext.refl s (Fz.int _)⟩
theorem rw_intB {f : Int → Int → Bool} : RW2 X (rI0 fun i j => .bl (f i j)) (.d (.int m)) (.d (.int n)) S (.d (.bool (f m n))) S := fun M H v u Q s hv hu q =>
  ⟨m, n, vr_int hv, vr_int hu, q _ M H Ext.refl s (Fz.bl _)⟩
theorem rw_intC {D : Int → Int → Prop} {f : Int → Int → Int} (h : D m n) : RW2 X (rI D fun i j => .int (f i j)) (.d (.int m)) (.d (.int n)) S (.d (.int (f m n))) S := fun M H v u Q s hv hu q =>
  ⟨m, n, vr_int hv, vr_int hu, h, q _ M H Ext.refl s (Fz.int _)⟩
theorem ev_add (ha : Ev X a G S (.d (.int m)) S1) (hb : Ev X b G S1 (.d (.int n)) S2) : Ev X (.BinOp a .Add b pos) G S (.d (.int (m + n))) S2 := ev_op op_add ha hb rw_int
theorem ev_sub (ha : Ev X a G S (.d (.int m)) S1) (hb : Ev X b G S1 (.d (.int n)) S2) : Ev X (.BinOp a .Sub b pos) G S (.d (.int (m - n))) S2 := ev_op op_sub ha hb rw_int
theorem ev_mul (ha : Ev X a G S (.d (.int m)) S1) (hb : Ev X b G S1 (.d (.int n)) S2) (h : CMul m n) : Ev X (.BinOp a .Mult b pos) G S (.d (.int (m * n))) S2 := ev_op op_mul ha hb (rw_intC h)
theorem ev_fdiv (ha : Ev X a G S (.d (.int m)) S1) (hb : Ev X b G S1 (.d (.int n)) S2) (h : CDiv m n) : Ev X (.BinOp a .FloorDiv b pos) G S (.d (.int (m / n))) S2 := ev_op op_fdiv ha hb (rw_intC h)
theorem ev_mod (ha : Ev X a G S (.d (.int m)) S1) (hb : Ev X b G S1 (.d (.int n)) S2) (h : 0 < n) : Ev X (.BinOp a .Mod b pos) G S (.d (.int (m % n))) S2 := ev_op op_mod ha hb (rw_intC (D := fun _ j => 0 < j) h)
theorem ev_pow (ha : Ev X a G S (.d (.int m)) S1) (hb : Ev X b G S1 (.d (.int n)) S2) (h : CPow m n) : Ev X (.BinOp a .Pow b pos) G S (.d (.int (m ^ n.toNat))) S2 := ev_op op_pow ha hb (rw_intC h)
theorem ev_neg (ha : Ev X a G S (.d (.int m)) S1) : Ev X (.UnaryOp .USub a pos) G S (.d (.int (-m))) S1 := ev_un un_neg ha fun M H v Q s hv q => ⟨m, vr_int hv, q _ M H Ext.refl s (Fz.int _)⟩
theorem ev_lt (ha : Ev X a G S (.d (.int m)) S1) (hb : Ev X b G S1 (.d (.int n)) S2) : Ev X (.Compare a [.Lt] [b] pos) G S (.d (.bool (decide (m < n)))) S2 := ev_cmp op_lt ha hb rw_intB
theorem ev_le (ha : Ev X a G S (.d (.int m)) S1) (hb : Ev X b G S1 (.d (.int n)) S2) : Ev X (.Compare a [.LtE] [b] pos) G S (.d (.bool (decide (m ≤ n)))) S2 := ev_cmp op_le ha hb rw_intB
theorem ev_gt (ha : Ev X a G S (.d (.int m)) S1) (hb : Ev X b G S1 (.d (.int n)) S2) : Ev X (.Compare a [.Gt] [b] pos) G S (.d (.bool (decide (n < m)))) S2 := ev_cmp (rr := rI0 fun i j => .bl (decide (j < i))) op_gt ha hb (rw_intB (f := fun i j => decide (j < i)))
theorem ev_ge (ha : Ev X a G S (.d (.int m)) S1) (hb : Ev X b G S1 (.d (.int n)) S2) : Ev X (.Compare a [.GtE] [b] pos) G S (.d (.bool (decide (n ≤ m)))) S2 := ev_cmp (rr := rI0 fun i j => .bl (decide (j ≤ i))) op_ge ha hb (rw_intB (f := fun i j => decide (j ≤ i)))
theorem evt_lt (ha : Ev X a G S (.d (.int m)) S1) (hb : Ev X b G S1 (.d (.int n)) S2) : EvT X (.Compare a [.Lt] [b] pos) G S (decide (m < n)) S2 := evt_cmp op_lt ha hb rw_intB
theorem evt_le (ha : Ev X a G S (.d (.int m)) S1) (hb : Ev X b G S1 (.d (.int n)) S2) : EvT X (.Compare a [.LtE] [b] pos) G S (decide (m ≤ n)) S2 := evt_cmp op_le ha hb rw_intB
theorem evt_gt (ha : Ev X a G S (.d (.int m)) S1) (hb : Ev X b G S1 (.d (.int n)) S2) : EvT X (.Compare a [.Gt] [b] pos) G S (decide (n < m)) S2 := evt_cmp (rr := rI0 fun i j => .bl (decide (j < i))) op_gt ha hb (rw_intB (f := fun i j => decide (j < i)))
theorem evt_ge (ha : Ev X a G S (.d (.int m)) S1) (hb : Ev X b G S1 (.d (.int n)) S2) : EvT X (.Compare a [.GtE] [b] pos) G S (decide (n ≤ m)) S2 := evt_cmp (rr := rI0 fun i j => .bl (decide (j ≤ i))) op_ge ha hb (rw_intB (f := fun i j => decide (j ≤ i)))
/-! ### flat data: None, truths, whole numbers, texts -/
def flatD : PyData → Bool
  | .none => true
  | .bool _ => true
  | .int _ => true
  | .str _ => true
  | _ => false
def toV : PyData → V
  | .none => .non
  | .bool b => .bl b
  | .int i => .int i
  | .str x => .str x
  | _ => .non
theorem vr_flat {K : PySem.W.Frag} {M : List Addr} {H : Hp} {v : V} {x : PyData} (hx : flatD x = true) (h : VRep K M H v (.d x)) : v = toV x := by
  cases x with
  | none => exact vr_none h
  | bool b => exact vr_bool h
  | int i => exact vr_int h
  | str i => exact vr_str h
  | list _ => cases hx
  | tuple _ => cases hx
  | dict _ => cases hx
theorem flatV_toV {x : PyData} (hx : flatD x = true) : flatV (toV x) = true := by cases x <;> first | rfl | cases hx
/-- == of scalars as the layer tells it -/
def eqS (x y : PyData) : Bool := decide (toV x = toV y)
theorem rw_eqS {x y : PyData} (hx : flatD x = true) (hy : flatD y = true) (h : scal (toV x) (toV y) = true) : RW2 X rEq (.d x) (.d y) S (.d (.bool (eqS x y))) S := fun M H v u Q s hv hu q => by
  rw [vr_flat hx hv, vr_flat hy hu]
  exact ⟨h, q _ M H Ext.refl s (Fz.bl _)⟩
theorem rw_neS {x y : PyData} (hx : flatD x = true) (hy : flatD y = true) (h : scal (toV x) (toV y) = true) : RW2 X rNe (.d x) (.d y) S (.d (.bool (!eqS x y))) S := fun M H v u Q s hv hu q => by
  rw [vr_flat hx hv, vr_flat hy hu]
  exact ⟨h, q _ M H Ext.refl s (Fz.bl _)⟩
theorem eqS_int : eqS (.int m) (.int n) = decide (m = n) := by
  unfold eqS
  by_cases h : m = n
  · rw [h]; simp
  · rw [decide_eq_false h, decide_eq_false fun z => h (by injection z)]
theorem eqS_str {x y : Str} : eqS (.str x) (.str y) = decide (x = y) := by
  unfold eqS
  by_cases h : x = y
  · rw [h]; simp
  · rw [decide_eq_false h, decide_eq_false fun z => h (by injection z)]
theorem ev_eqI (ha : Ev X a G S (.d (.int m)) S1) (hb : Ev X b G S1 (.d (.int n)) S2) : Ev X (.Compare a [.Eq] [b] pos) G S (.d (.bool (decide (m = n)))) S2 := by rw [← eqS_int]; exact ev_cmp op_eq ha hb (rw_eqS rfl rfl rfl)
theorem ev_neI (ha : Ev X a G S (.d (.int m)) S1) (hb : Ev X b G S1 (.d (.int n)) S2) : Ev X (.Compare a [.NotEq] [b] pos) G S (.d (.bool (!decide (m = n)))) S2 := by rw [← eqS_int]; exact ev_cmp op_ne ha hb (rw_neS rfl rfl rfl)
theorem evt_eqI (ha : Ev X a G S (.d (.int m)) S1) (hb : Ev X b G S1 (.d (.int n)) S2) : EvT X (.Compare a [.Eq] [b] pos) G S (decide (m = n)) S2 := by rw [← eqS_int]; exact evt_cmp op_eq ha hb (rw_eqS rfl rfl rfl)
theorem evt_neI (ha : Ev X a G S (.d (.int m)) S1) (hb : Ev X b G S1 (.d (.int n)) S2) : EvT X (.Compare a [.NotEq] [b] pos) G S (!decide (m = n)) S2 := by rw [← eqS_int]; exact evt_cmp op_ne ha hb (rw_neS rfl rfl rfl)
theorem ev_eqT {x y : Str} (ha : Ev X a G S (.d (.str x)) S1) (hb : Ev X b G S1 (.d (.str y)) S2) : Ev X (.Compare a [.Eq] [b] pos) G S (.d (.bool (decide (x = y)))) S2 := by rw [← eqS_str]; exact ev_cmp op_eq ha hb (rw_eqS rfl rfl rfl)
theorem ev_neT {x y : Str} (ha : Ev X a G S (.d (.str x)) S1) (hb : Ev X b G S1 (.d (.str y)) S2) : Ev X (.Compare a [.NotEq] [b] pos) G S (.d (.bool (!decide (x = y)))) S2 := by rw [← eqS_str]; exact ev_cmp op_ne ha hb (rw_neS rfl rfl rfl)
theorem evt_eqT {x y : Str} (ha : Ev X a G S (.d (.str x)) S1) (hb : Ev X b G S1 (.d (.str y)) S2) : EvT X (.Compare a [.Eq] [b] pos) G S (decide (x = y)) S2 := by rw [← eqS_str]; exact evt_cmp op_eq ha hb (rw_eqS rfl rfl rfl)
theorem evt_neT {x y : Str} (ha : Ev X a G S (.d (.str x)) S1) (hb : Ev X b G S1 (.d (.str y)) S2) : EvT X (.Compare a [.NotEq] [b] pos) G S (!decide (x = y)) S2 := by rw [← eqS_str]; exact evt_cmp op_ne ha hb (rw_neS rfl rfl rfl)
/-- is None -/
def isNone : It → Bool
  | .d .none => true
  | .r .non => true
  | _ => false
theorem none_of {K : PySem.W.Frag} {M : List Addr} {H : Hp} {v : V} : ∀ {r : It}, VRep K M H v r → decide (v = .non) = isNone r
  | .d x, h => by
    have h' : Fz M H v x := h
    cases h' <;> rfl
  | .o n, ⟨a, _, e⟩ => by rw [e]; rfl
  | .r u, h => by
    have h' : v = u := h
    subst h'
    cases v <;> rfl
  | .s ns, ⟨a, e, _⟩ => by rw [e]; rfl
theorem ev_isN {j : Nat} (ha : Ev X a G S r S1) : Ev X (.Compare a [.Is] [.Constant .none j pos'] pos) G S (.d (.bool (isNone r))) S1 := fun M σ H Q s q => toE (pe_cmp (pc_isN pe_s)) (ha M σ H _ s fun v M1 H1 e1 t1 r1 => by rw [none_of r1]; exact q _ M1 H1 e1 t1 (Fz.bl _))
theorem ev_notN {j : Nat} (ha : Ev X a G S r S1) : Ev X (.Compare a [.IsNot] [.Constant .none j pos'] pos) G S (.d (.bool (!isNone r))) S1 := fun M σ H Q s q => toE (pe_cmp (pc_notN pe_s)) (ha M σ H _ s fun v M1 H1 e1 t1 r1 => by rw [none_of r1]; exact q _ M1 H1 e1 t1 (Fz.bl _))
theorem evt_isN {j : Nat} (ha : Ev X a G S r S1) : EvT X (.Compare a [.Is] [.Constant .none j pos'] pos) G S (isNone r) S1 := fun M σ H Q s q => toT (pt_cmp (pc_isN pe_s)) (ha M σ H _ s fun v M1 H1 e1 t1 r1 => ⟨_, rfl, by rw [none_of r1]; exact q M1 H1 e1 t1⟩)
theorem evt_notN {j : Nat} (ha : Ev X a G S r S1) : EvT X (.Compare a [.IsNot] [.Constant .none j pos'] pos) G S (!isNone r) S1 := fun M σ H Q s q => toT (pt_cmp (pc_notN pe_s)) (ha M σ H _ s fun v M1 H1 e1 t1 r1 => ⟨_, rfl, by rw [none_of r1]; exact q M1 H1 e1 t1⟩)
/-! ### data of any depth -/
theorem rw_eqD {x y : PyData} (hx : SeqAt.shaped x = true) (hy : SeqAt.shaped y = true) : RW2 X (rEqD X.K) (.d x) (.d y) S (.d (.bool (PyData.eqv x y))) S := fun M H v u Q s hv hu q =>
  ⟨x, y, Fz.dp hv, Fz.dp hu, hx, hy, q _ M H Ext.refl s (Fz.bl _)⟩
theorem rw_neD {x y : PyData} (hx : SeqAt.shaped x = true) (hy : SeqAt.shaped y = true) : RW2 X (rNeD X.K) (.d x) (.d y) S (.d (.bool (!PyData.eqv x y))) S := fun M H v u Q s hv hu q =>
  ⟨x, y, Fz.dp hv, Fz.dp hu, hx, hy, q _ M H Ext.refl s (Fz.bl _)⟩
theorem ev_eqD {x y : PyData} (c : Cxo X W k) (ha : Ev X a G S (.d x) S1) (hb : Ev X b G S1 (.d y) S2) (hx : SeqAt.shaped x = true) (hy : SeqAt.shaped y = true) : Ev X (.Compare a [.Eq] [b] pos) G S (.d (.bool (PyData.eqv x y))) S2 := ev_cmp (op_eqD c.hr.units) ha hb (rw_eqD hx hy)
theorem ev_neD {x y : PyData} (c : Cxo X W k) (ha : Ev X a G S (.d x) S1) (hb : Ev X b G S1 (.d y) S2) (hx : SeqAt.shaped x = true) (hy : SeqAt.shaped y = true) : Ev X (.Compare a [.NotEq] [b] pos) G S (.d (.bool (!PyData.eqv x y))) S2 := ev_cmp (op_neD c.hr.units) ha hb (rw_neD hx hy)
theorem evt_eqD {x y : PyData} (c : Cxo X W k) (ha : Ev X a G S (.d x) S1) (hb : Ev X b G S1 (.d y) S2) (hx : SeqAt.shaped x = true) (hy : SeqAt.shaped y = true) : EvT X (.Compare a [.Eq] [b] pos) G S (PyData.eqv x y) S2 := evt_cmp (op_eqD c.hr.units) ha hb (rw_eqD hx hy)
theorem evt_neD {x y : PyData} (c : Cxo X W k) (ha : Ev X a G S (.d x) S1) (hb : Ev X b G S1 (.d y) S2) (hx : SeqAt.shaped x = true) (hy : SeqAt.shaped y = true) : EvT X (.Compare a [.NotEq] [b] pos) G S (!PyData.eqv x y) S2 := evt_cmp (op_neD c.hr.units) ha hb (rw_neD hx hy)
/-! ### x in a flat list or tuple -/
theorem flat_all {M : List Addr} {H : Hp} : ∀ {ds : List PyData} {vs : List V}, ds.all flatD = true → FzAll M H vs ds → vs = ds.map toV
  | [], _, _, h => by cases h; rfl
  | d :: ds, _, ha, h => by
    cases h with
    | cons h1 h2 =>
      rw [List.all_cons, Bool.and_eq_true] at ha
      rw [List.map_cons, flat_all ha.2 h2, vr_flat (K := []) ha.1 h1]
theorem flat_toV {ds : List PyData} (h : ds.all flatD = true) : (ds.map toV).all flatV = true := by
  rw [List.all_map]
  exact List.all_eq_true.mpr fun d hd => flatV_toV (List.all_eq_true.mp h d hd)
theorem rw_inF {x : PyData} {neg : Bool} (hx : flatD x = true) (hd : ds.all flatD = true) : RW2 X (rIn X.K neg) (.d x) (.d (.list ds)) S (.d (.bool (if neg then !inV (toV x) (ds.map toV) else inV (toV x) (ds.map toV)))) S := fun M H v u Q s hv hu q => by
  have hu' : Fz M H u (.list ds) := hu
  cases hu' with
  | lst h1 h2 =>
    rw [vr_flat hx hv]
    refine ⟨_, _, rfl, .inl h1.sq, flatV_toV hx, ?_, ?_⟩
    · rw [flat_all hd h2]; exact flat_toV hd
    · rw [flat_all hd h2]; exact q _ M H Ext.refl s (Fz.bl _)
theorem rw_inFT {x : PyData} {neg : Bool} (hx : flatD x = true) (hd : ds.all flatD = true) : RW2 X (rIn X.K neg) (.d x) (.d (.tuple ds)) S (.d (.bool (if neg then !inV (toV x) (ds.map toV) else inV (toV x) (ds.map toV)))) S := fun M H v u Q s hv hu q => by
  have hu' : Fz M H u (.tuple ds) := hu
  cases hu' with
  | tup h1 h2 =>
    rw [vr_flat hx hv]
    refine ⟨_, _, rfl, .inr h1.sq, flatV_toV hx, ?_, ?_⟩
    · rw [flat_all hd h2]; exact flat_toV hd
    · rw [flat_all hd h2]; exact q _ M H Ext.refl s (Fz.bl _)
/-! ### subscripts -/
theorem ev_ixR {rr : R2} {x : It} (ho : IxR X rr) (ha : Ev X a G S x S1) (hb : Ev X b G S1 y S2) (hr : RW2 X rr x y S2 z S3) (hs : PlainIx b := by exact fun _ _ => rfl) : Ev X (.Subscript a b pos) G S z S3 := fun M σ H Q s q =>
  toE (pe_ix ho pe_s pe_s hs) (ha M σ H _ s fun v M1 H1 e1 s1 r1 => hb M1 σ H1 _ s1 fun u M2 H2 e2 s2 r2 => hr M2 H2 v u _ s2.sto (r1.ext e2) r2 fun w M3 H3 e3 s3 r3 => q w M3 H3 ((e1.trans e2).trans e3) (s2.mono e3 s3) r3)
theorem fz_get {M : List Addr} {H : Hp} : ∀ {ds : List PyData} {vs : List V} {i : Nat} {d : PyData}, FzAll M H vs ds → ds[i]? = some d → ∃ v, vs[i]? = some v ∧ Fz M H v d
  | [], _, i, d, h, e => by simp at e
  | d :: ds, _, 0, d', h, e => by
    cases h with
    | cons h1 h2 =>
      cases e
      exact ⟨_, rfl, h1⟩
  | d :: ds, _, i + 1, d', h, e => by
    cases h with
    | cons h1 h2 => exact fz_get (i := i) h2 e
theorem atI_fz {M : List Addr} {H : Hp} {vs : List V} {i : Int} {d : PyData} (h : FzAll M H vs ds) (hd : atI ds i = some d) : ∃ v, atI vs i = some v ∧ Fz M H v d := by
  unfold atI at hd ⊢
  rw [fz_len h]
  cases e : ixN ds.length i with
  | none => rw [e] at hd; cases hd
  | some l =>
    rw [e] at hd
    exact fz_get h hd
theorem atI_reps {K : PySem.W.Frag} {M : List Addr} {H : Hp} {vs : List V} {i : Int} {d : It} (h : VReps K M H vs rs) (hd : atI rs i = some d) : ∃ v, atI vs i = some v ∧ VRep K M H v d := by
  unfold atI at hd ⊢
  rw [h.len]
  cases e : ixN rs.length i with
  | none => rw [e] at hd; cases hd
  | some l =>
    rw [e] at hd
    exact reps_get h hd
/-- xs[i] of a list of data -/
theorem ev_ixL {d : PyData} (ha : Ev X a G S (.d (.list ds)) S1) (hb : Ev X b G S1 (.d (.int n)) S2) (h : atI ds n = some d) (hs : PlainIx b := by exact fun _ _ => rfl) : Ev X (.Subscript a b pos) G S (.d d) S2 := ev_ixR ix_list ha hb (fun M H v u Q s hv hu q => by
  have hv' : Fz M H v (.list ds) := hv
  cases hv' with
  | lst h1 h2 =>
    obtain ⟨w, hw, fw⟩ := atI_fz h2 h
    exact ⟨_, _, n, w, rfl, vr_int hu, h1.sq, hw, q w M H Ext.refl s fw⟩) hs
/-- t[i] of a tuple of data -/
theorem ev_ixT {d : PyData} (ha : Ev X a G S (.d (.tuple ds)) S1) (hb : Ev X b G S1 (.d (.int n)) S2) (h : atI ds n = some d) (hs : PlainIx b := by exact fun _ _ => rfl) : Ev X (.Subscript a b pos) G S (.d d) S2 := ev_ixR ix_tup ha hb (fun M H v u Q s hv hu q => by
  have hv' : Fz M H v (.tuple ds) := hv
  cases hv' with
  | tup h1 h2 =>
    obtain ⟨w, hw, fw⟩ := atI_fz h2 h
    exact ⟨_, _, n, w, rfl, vr_int hu, h1.sq, hw, q w M H Ext.refl s fw⟩) hs
/-- xs[i] of an owned list -/
theorem ev_ixO {i : Nat} {d : It} (ha : Ev X a G S (.o i) S1) (hb : Ev X b G S1 (.d (.int n)) S2) (hi : S2[i]? = some (.lst rs)) (h : atI rs n = some d) (hs : PlainIx b := by exact fun _ _ => rfl) : Ev X (.Subscript a b pos) G S d S2 := ev_ixR ix_list ha hb (fun M H v u Q s hv hu q => by
  obtain ⟨ad, had, rfl⟩ := hv
  obtain ⟨vs, h1, h2⟩ := s.rep i ad _ had hi
  obtain ⟨w, hw, fw⟩ := atI_reps h2 h
  exact ⟨_, _, n, w, rfl, vr_int hu, .of h1, hw, q w M H Ext.refl s fw⟩) hs
/-- the script's i-th number -/
theorem ev_ixS {ns : List Int} {i : Int} (ha : Ev X a G S (.s ns) S1) (hb : Ev X b G S1 (.d (.int n)) S2) (h : atI ns n = some i) (hs : PlainIx b := by exact fun _ _ => rfl) : Ev X (.Subscript a b pos) G S (.d (.int i)) S2 := ev_ixR ix_list ha hb (fun M H v u Q s hv hu q => by
  obtain ⟨ad, rfl, h1⟩ := hv
  have h2 : atI (ns.map V.int) n = some (.int i) := by
    unfold atI at h ⊢
    rw [List.length_map]
    cases e : ixN ns.length n with
    | none => rw [e] at h; cases h
    | some l =>
      rw [e] at h
      show (ns.map V.int)[l]? = some (.int i)
      rw [List.getElem?_map, show ns[l]? = some i from h]
      rfl
  exact ⟨_, _, n, .int i, rfl, vr_int hu, h1.sq, h2, q _ M H Ext.refl s (Fz.int _)⟩) hs
/-- s[i] of a text -/
theorem ev_ixStr {x : Str} {c : Nat} (ha : Ev X a G S (.d (.str x)) S1) (hb : Ev X b G S1 (.d (.int n)) S2) (hz : x.length ≤ sizeLine) (h : atI x.cps.toList n = some c) (hs : PlainIx b := by exact fun _ _ => rfl) : Ev X (.Subscript a b pos) G S (.d (.str ⟨#[c]⟩)) S2 := ev_ixR ix_str ha hb (fun M H v u Q s hv hu q =>
  ⟨x, n, c, vr_str hv, vr_int hu, hz, h, q _ M H Ext.refl s (Fz.str _)⟩) hs
/-- xs[i] = e, xs owned -/
theorem ws_setIx {i l : Nat} (he : Ev X e G S r S1) (ho : Ev X o G S1 (.o i) S2) (hb : Ev X b G S2 (.d (.int n)) S3) (hi : S3[i]? = some (.lst rs)) (hl : ixN rs.length n = some l) (q : P.nx G (S3.set i (.lst (rs.set l r))))
    (hs : swapsWithSole [.Subscript o b pos'] e pos.line X.env = pure false := by rfl) (hw : swappedStores [.Subscript o b pos'] e X.env = pure none := by rfl) (h1 : (assignEach [.Subscript o b pos'] X.env).map (·.2) = [assign (.Subscript o b pos') X.env] := by rfl)
    (ha : ∀ v, assign (.Subscript o b pos') X.env v = (do
      let ov ← holding [v] (eval o X.env)
      let iv ← holding [v, ov] (eval b X.env)
      standAt pos'
      holding [v, ov, iv] (setItem ov iv v)
      release [v, ov, iv] []) := by intro _; rfl) : WS X W (.Assign [.Subscript o b pos'] e pos) G S P := fun M σ H D s m =>
  toS (ps_asg pe_s (pg_sub pe_s pe_s set_list ha) hs hw h1) (he M σ H _ s fun v M1 H1 e1 t1 r1 => ho M1 σ H1 _ t1 fun v2 M2 H2 e2 t2 r2 => hb M2 σ H2 _ t2 fun v3 M3 H3 e3 t3 r3 => by
    obtain ⟨ad, had, rfl⟩ := r2.ext e3
    obtain ⟨vs, hv, hr⟩ := t3.sto.rep i ad _ had hi
    have e4 : Ext M3 H3 M3 (upd H3 ad (.lst (vs.set l v))) := Ext.put (List.mem_of_getElem? had)
    have setR : ∀ {vs : List V} {rs : List It} {l : Nat}, VReps X.K M3 (upd H3 ad (.lst (vs.set l v))) vs rs → True := fun _ => trivial
    have hr' := VReps.ext e4 hr
    have rv := ((r1.ext e2).ext e3).ext e4
    have s4 := t3.sto.put (w := .lst (rs.set l r)) had ⟨vs.set l v, upd_same, by
      have go : ∀ {M' : List Addr} {H' : Hp} {vs : List V} {rs : List It} {l : Nat}, VReps X.K M' H' vs rs → VRep X.K M' H' v r → VReps X.K M' H' (vs.set l v) (rs.set l r) := by
        intro M' H' vs rs l h hv
        induction h generalizing l with
        | nil => exact .nil
        | cons a t ih =>
          cases l with
          | zero => exact .cons hv t
          | succ l => exact .cons a ih
      exact go hr' rv⟩
    exact ⟨ad, vs, n, l, rfl, vr_int r3, hv, by rw [hr.len]; exact hl, m.nx M3 σ _ G _ (((e1.trans e2).trans e3).trans e4) (t3.mono e4 s4) q⟩)
/-! ### built-ins -/
theorem ev_blt {id : String} {nm : Str} {rr : List V → Hp → VK → Prop} (ho : CallR X (.builtin id) rr) (hm : X.mg nm = none) (hv : bootBuiltins nm = some (.builtin id)) (ha : EvA X (e :: es) G S rs S1) (hr : RWC X rr rs S1 z S2) (hg : Gl X nm := by rfl) (hn : nm ≠ "__name__" := by decide) (hdb : (nm == ("__debug__" : Str)) = false := by decide)
    (he : starEach (e :: es) X.env = (false, eval e X.env) :: starEach es X.env := by rfl) (hpl : (backTo pos (starEach es X.env)).any (·.1) = false := by rfl) : Ev X (.Call (.Name nm p) (e :: es) [] pos) G S z S2 := fun M σ H Q s q =>
  toE (pe_callB ho hg hm hv pa_s hn hdb he hpl) (ha M σ H _ s fun vs M1 H1 e1 t1 r1 => hr M1 H1 vs _ t1.sto r1 fun w M2 H2 e2 s2 r2 => q w M2 H2 (e1.trans e2) (t1.mono e2 s2) r2)
theorem ev_ty {T : String} {nm : Str} {rr : List V → Hp → VK → Prop} (ho : CallR X (.type T) rr) (hm : X.mg nm = none) (hv : bootBuiltins nm = some (.type T)) (ha : EvA X (e :: es) G S rs S1) (hr : RWC X rr rs S1 z S2) (hg : Gl X nm := by rfl) (hn : nm ≠ "__name__" := by decide) (hdb : (nm == ("__debug__" : Str)) = false := by decide)
    (he : starEach (e :: es) X.env = (false, eval e X.env) :: starEach es X.env := by rfl) (hpl : (backTo pos (starEach es X.env)).any (·.1) = false := by rfl) : Ev X (.Call (.Name nm p) (e :: es) [] pos) G S z S2 := fun M σ H Q s q =>
  toE (pe_callTy ho hg hm hv pa_s hn hdb he hpl) (ha M σ H _ s fun vs M1 H1 e1 t1 r1 => hr M1 H1 vs _ t1.sto r1 fun w M2 H2 e2 s2 r2 => q w M2 H2 (e1.trans e2) (t1.mono e2 s2) r2)
theorem vr1 {K : PySem.W.Frag} {M : List Addr} {H : Hp} {vs : List V} {r : It} (h : VReps K M H vs [r]) : ∃ v, vs = [v] ∧ VRep K M H v r := by
  cases h with
  | cons h1 h2 => cases h2; exact ⟨_, rfl, h1⟩
theorem vr2 {K : PySem.W.Frag} {M : List Addr} {H : Hp} {vs : List V} {r r' : It} (h : VReps K M H vs [r, r']) : ∃ v u, vs = [v, u] ∧ VRep K M H v r ∧ VRep K M H u r' := by
  cases h with
  | cons h1 h2 =>
    obtain ⟨u, rfl, h3⟩ := vr1 h2
    exact ⟨_, u, rfl, h1, h3⟩
/-- what has a length -/
def lenOf (S : Sto) : It → Option Nat
  | .d (.list ds) => some ds.length
  | .d (.tuple ds) => some ds.length
  | .o n => match S[n]? with
    | some (.lst xs) => some xs.length
    | _ => none
  | .s ns => some ns.length
  | _ => none
theorem rw_len {l : Nat} (h : lenOf S r = some l) : RWC X (fun xs H Q => ∃ p ys, xs = [.ref p] ∧ (SqL X.K H p ys ∨ SqT X.K H p ys) ∧ Q (.int ys.length) H) [r] S (.d (.int l)) S := fun M H vs Q s hvs q => by
  obtain ⟨v, rfl, hv⟩ := vr1 hvs
  cases r with
  | d x =>
    cases x with
    | list ds =>
      cases h
      have hv' : Fz M H v (.list ds) := hv
      cases hv' with
      | lst h1 h2 => exact ⟨_, _, rfl, .inl h1.sq, by rw [fz_len h2]; exact q _ M H Ext.refl s (Fz.int _)⟩
    | tuple ds =>
      cases h
      have hv' : Fz M H v (.tuple ds) := hv
      cases hv' with
      | tup h1 h2 => exact ⟨_, _, rfl, .inr h1.sq, by rw [fz_len h2]; exact q _ M H Ext.refl s (Fz.int _)⟩
    | _ => cases h
  | o n =>
    have h' : (match S[n]? with | some (.lst xs) => some xs.length | _ => none) = some l := h
    cases e : S[n]? with
    | none => rw [e] at h'; cases h'
    | some w =>
      rw [e] at h'
      cases w with
      | lst xs =>
        cases h'
        obtain ⟨ad, had, rfl⟩ := hv
        obtain ⟨us, h1, h2⟩ := s.rep n ad _ had e
        exact ⟨_, _, rfl, .inl (.of h1), by rw [h2.len]; exact q _ M H Ext.refl s (Fz.int _)⟩
      | _ => cases h'
  | s ns =>
    cases h
    obtain ⟨ad, rfl, h1⟩ := hv
    exact ⟨_, _, rfl, .inl h1.sq, by rw [List.length_map]; exact q _ M H Ext.refl s (Fz.int _)⟩
  | r _ => cases h
theorem ev_len {l : Nat} (hm : X.mg "len" = none) (ha : Ev X a G S r S1) (h : lenOf S1 r = some l) (hg : Gl X "len" := by rfl) (he : starEach [a] X.env = (false, eval a X.env) :: starEach [] X.env := by rfl) : Ev X (.Call (.Name "len" p) [a] [] pos) G S (.d (.int l)) S1 := ev_blt call_len_seq hm PySem.boot_len (eva_cons ha eva_nil he) (rw_len h) hg (by decide) (by decide) he rfl
theorem ev_lenS {x : Str} (hm : X.mg "len" = none) (ha : Ev X a G S (.d (.str x)) S1) (h : x.length ≤ sizeLine) (hg : Gl X "len" := by rfl) (he : starEach [a] X.env = (false, eval a X.env) :: starEach [] X.env := by rfl) : Ev X (.Call (.Name "len" p) [a] [] pos) G S (.d (.int x.length)) S1 := ev_blt call_len_str hm PySem.boot_len (eva_cons ha eva_nil he) (fun M H vs Q s hvs q => by
  obtain ⟨v, rfl, hv⟩ := vr1 hvs
  exact ⟨x, by rw [vr_str hv], h, q _ M H Ext.refl s (Fz.int _)⟩) hg (by decide) (by decide) he rfl
/-- list(xs): a new list that is owned -/
theorem ev_listD (hm : X.mg "list" = none) (ha : Ev X a G S (.d (.list ds)) S1) (hg : Gl X "list" := by rfl) (he : starEach [a] X.env = (false, eval a X.env) :: starEach [] X.env := by rfl) : Ev X (.Call (.Name "list" p) [a] [] pos) G S (.o S1.length) (S1 ++ [.lst (ds.map .d)]) := ev_ty call_list_of hm (by decide +kernel) (eva_cons ha eva_nil he) (fun M H vs Q s hvs q => by
  obtain ⟨v, rfl, hv⟩ := vr1 hvs
  have hv' : Fz M H v (.list ds) := hv
  cases hv' with
  | lst h1 h2 =>
    rename_i ad xs
    refine ⟨_, _, rfl, .inl h1.sq, fun l hl => ?_⟩
    have e2 : Ext M H (M ++ [l]) (upd H l (.lst xs)) := Ext.own hl
    exact q _ _ _ e2 (s.own hl ⟨_, upd_same, VReps.ext e2 (fz_reps h2)⟩) ⟨l, by rw [← s.len, List.getElem?_append_right (Nat.le_refl _), Nat.sub_self]; rfl, rfl⟩) hg (by decide) (by decide) he rfl
/-! ### slices, + and * of lists -/
def cutD {α : Type} (xs : List α) (lo hi : Option Int) : List α := (xs.drop (HT.sIx xs.length 0 lo)).take (HT.sIx xs.length xs.length hi - HT.sIx xs.length 0 lo)
theorem fz_drop {M : List Addr} {H : Hp} : ∀ {ds : List PyData} {vs : List V} (n : Nat), FzAll M H vs ds → FzAll M H (vs.drop n) (ds.drop n)
  | _, _, 0, h => h
  | [], _, n + 1, h => by cases h; exact .nil
  | d :: ds, _, n + 1, h => by
    cases h with
    | cons h1 h2 => exact fz_drop n h2
theorem fz_take {M : List Addr} {H : Hp} : ∀ {ds : List PyData} {vs : List V} (n : Nat), FzAll M H vs ds → FzAll M H (vs.take n) (ds.take n)
  | _, _, 0, h => .nil
  | [], _, n + 1, h => by cases h; exact .nil
  | d :: ds, _, n + 1, h => by
    cases h with
    | cons h1 h2 => exact .cons h1 (fz_take n h2)
theorem fz_cut {M : List Addr} {H : Hp} {vs : List V} {lo hi : Option Int} (h : FzAll M H vs ds) : FzAll M H (cutV vs lo hi) (cutD ds lo hi) := by
  unfold cutV cutD
  rw [fz_len h]
  exact fz_take _ (fz_drop _ h)
theorem fz_app {M : List Addr} {H : Hp} : ∀ {ds es : List PyData} {vs us : List V}, FzAll M H vs ds → FzAll M H us es → FzAll M H (vs ++ us) (ds ++ es)
  | [], _, _, _, h, h' => by cases h; exact h'
  | d :: ds, _, _, _, h, h' => by
    cases h with
    | cons h1 h2 => exact .cons h1 (fz_app h2 h')
/-- a part of a slice -/
def EvP (X : Cx) (e : Option Expr) (G : Gam) (S : Sto) (i : Option Int) : Prop := match e, i with
  | none, none => True
  | some e, some i => Ev X e G S (.d (.int i)) S
  | _, _ => False
def tEP (X : Cx) (e : Option Expr) : TO := match e with
  | none => tNoPart
  | some e => tPart (sE X e)
theorem po_tEP {e : Option Expr} : PO X e (tEP X e) := match e with
  | none => po_none
  | some _ => po_some pe_s
theorem EvP.run {e : Option Expr} {i : Option Int} (h : EvP X e G S i) {M : List Addr} {σ : Sig} {H : Hp} {Q : Option Int → Hp → Prop} (s : Stt X.K M H S G σ) (q : ∀ M' H', Ext M H M' H' → Stt X.K M' H' S G σ → Q i H') : tEP X e σ H Q := by
  cases e with
  | none =>
    cases i with
    | none => exact q M H Ext.refl s
    | some i => exact h.elim
  | some e =>
    cases i with
    | none => exact h.elim
    | some i => exact h M σ H _ s fun v M1 H1 e1 t1 r1 => ⟨i, vr_int r1, q M1 H1 e1 t1⟩
/-- xs[lo:hi] of a list of data -/
theorem ev_slL {lo hi : Option Expr} {il ih : Option Int} {p2 : Pos} (ha : Ev X a G S (.d (.list ds)) S1) (hl : EvP X lo G S1 il) (hh : EvP X hi G S1 ih) : Ev X (.Subscript a (.Slice lo hi none p2) pos) G S (.d (.list (cutD ds il ih))) S1 := fun M σ H Q s q =>
  toE (pe_slice sl_list pe_s po_tEP po_tEP) (ha M σ H _ s fun v M1 H1 e1 t1 r1 => hl.run t1 fun M2 H2 e2 t2 => hh.run t2 fun M3 H3 e3 t3 => by
    have r3 : Fz M3 H3 v (.list ds) := (r1.ext e2).ext e3
    cases r3 with
    | lst h1 h2 => exact ⟨_, _, rfl, h1.sq, fun p hp => q _ M3 _ (((e1.trans e2).trans e3).trans (Ext.fresh hp)) (t3.fresh hp) (Fz.lst ⟨.inl upd_same, t3.sto.nin hp⟩ (FzAll.ext (Ext.fresh hp) (fz_cut h2)))⟩)
/-- lists that are read, added up -/
def rCatR : R2 := fun x y H Q => ∃ l b xs zs, x = .ref l ∧ y = .ref b ∧ Rd H l (.lst xs) ∧ Rd H b (.lst zs) ∧ xs.length + zs.length ≤ sizeLine ∧ ∀ p, H p = none → Q (.ref p) (upd H p (.lst (xs ++ zs)))
theorem op_catR : OpR X (binaryOp .Add) rCatR := by
  intro pins s σ H x y v u Q I rx ry h
  obtain ⟨l, b, xs, zs, rfl, rfl, hH, hB, hz, q⟩ := h
  cases rx
  cases ry
  obtain ⟨z, its, n, r, e⟩ := hH.ok I.hok
  obtain ⟨z2, its2, n2, r2, e2⟩ := hB.ok I.hok
  have hl := r.length
  have hl2 := r2.length
  refine PySem.P.add_list e e2 ?_ (by rw [List.size_toArray, List.size_toArray]; omega)
  have ea : its.toArray ++ its2.toArray = (its ++ its2).toArray := by simp
  rw [ea]
  exact ⟨.ref _, _, I.lnew (t' := s.toks) (r.append r2) (by rw [List.length_append]; omega), rfl, q _ I.fresh⟩
theorem rw_cat {es : List PyData} (hz : ds.length + es.length ≤ 1000000) : RW2 X rCatR (.d (.list ds)) (.d (.list es)) S (.d (.list (ds ++ es))) S := fun M H v u Q s hv hu q => by
  have hv' : Fz M H v (.list ds) := hv
  have hu' : Fz M H u (.list es) := hu
  cases hv' with
  | lst h1 h2 =>
    cases hu' with
    | lst h3 h4 =>
      exact ⟨_, _, _, _, rfl, rfl, h1.1, h3.1, by rw [fz_len h2, fz_len h4, sizeLine_eq]; omega, fun p hp => q _ M _ (Ext.fresh hp) (s.fresh hp) (Fz.lst ⟨.inl upd_same, s.nin hp⟩ (FzAll.ext (Ext.fresh hp) (fz_app h2 h4)))⟩
theorem ev_cat {es : List PyData} (ha : Ev X a G S (.d (.list ds)) S1) (hb : Ev X b G S1 (.d (.list es)) S2) (hz : ds.length + es.length ≤ 1000000) : Ev X (.BinOp a .Add b pos) G S (.d (.list (ds ++ es))) S2 := ev_op op_catR ha hb (rw_cat hz)
end
end Cu
/-! CuF: statements that may raise, errors, try. -/
namespace Cu
open PySem PySem.Spec PyProof.Rows L2
/-- an error's class of the text, made with a text -/
structure ExcF (K : PySem.W.Frag) (mg : Str → Option Value) (x : Str) (C : Addr) : Prop where
  gC : mg x = some (.ref C)
  xC : PySem.W.excIn K C [.type "ValueError", .type "Exception", .type "BaseException", .type "object"] "ValueError.__new__" = true
  kC : PySem.W.keepIn K (.ref C) = true
  bC : PySem.W.subIn K (.ref C) (.type "BaseException") = some true
  tC : PySem.W.typeIn K (.ref C) = some (.type "type")
section
variable {X : Cx} {W : WX} {k j : Nat} {G G1 G2 : Gam} {S S1 S2 S3 : Sto} {P : Post} {e a b o iter tg elt : Expr} {es ifs : List Expr} {r y z : It} {rs : List It} {pos pos' pos2 p p2 apos np : Pos} {st : Stmt} {sts body suite : List Stmt} {ds : List PyData} {C : Addr} {m n : Int} {Qr : It → Sto → Prop} {Qx : Addr → Sto → Prop}
/-! ### statements whose expression may raise -/
theorem ws_exprX (h : EvX X W e G S Qr Qx) (q : ∀ r S', Qr r S' → P.nx G S') (qx : ∀ C S', Qx C S' → P.xc C G S') (hs : swapsWith e none pos.line X.env = pure false := by rfl) : WS X W (.Expr e pos) G S P := fun M σ H D s m =>
  toS (ps_expr pe_s hs) (h M σ H _ s (fun v M1 H1 r S' e1 s1 r1 q1 => m.nx M1 σ H1 G S' e1 s1 (q r S' q1)) fun M1 H1 C S' e1 s1 q1 => m.xc M1 σ H1 G C S' e1 s1 (qx C S' q1))
theorem ws_retX (h : EvX X W e G S Qr Qx) (q : ∀ r S', Qr r S' → P.rt r S') (qx : ∀ C S', Qx C S' → P.xc C G S') : WS X W (.Return (some e) pos) G S P := fun M σ H D s m =>
  toS (ps_ret pe_s) (h M σ H _ s (fun v M1 H1 r S' e1 s1 r1 q1 => m.rt v M1 H1 r S' e1 s1.sto r1 (q r S' q1)) fun M1 H1 C S' e1 s1 q1 => m.xc M1 σ H1 G C S' e1 s1 (qx C S' q1))
theorem ws_setX (i : Nat) {n : Str} (nd : X.N.Nodup) (h : EvX X W e G S Qr Qx) (q : ∀ r S', Qr r S' → P.nx (G.set i (some r)) S') (qx : ∀ C S', Qx C S' → P.xc C G S') (hi : X.N[i]? = some n := by rfl) (hx : Loc X.env.scope n := by first | exact Or.inl rfl | exact Or.inr rfl)
    (hs : swapsWith e (some (.Name n pos')) pos.line X.env = pure false := by rfl) (hf : X.fn n = true ∨ X.env.scope.names.lookup n = some .local := by first | exact .inl rfl | exact .inr rfl | assumption) : WS X W (.Assign [.Name n pos'] e pos) G S P := fun M σ H D s m =>
  toS (ps_set (i := i) nd hi hx pe_s hs hf) (h M σ H _ s (fun v M1 H1 r S' e1 s1 r1 q1 => m.nx M1 _ H1 _ S' e1 (s1.set r1) (q r S' q1)) fun M1 H1 C S' e1 s1 q1 => m.xc M1 σ H1 G C S' e1 s1 (qx C S' q1))
theorem ws_asgX {tg : Expr} (h : EvX X W e G S Qr Qx) (q : ∀ r S', Qr r S' → ∃ G2 S2, EvG X tg r G S' G2 S2 ∧ P.nx G2 S2) (qx : ∀ C S', Qx C S' → P.xc C G S') (hs : swapsWithSole [tg] e pos.line X.env = pure false := by rfl) (hw : swappedStores [tg] e X.env = pure none := by rfl)
    (h1 : (assignEach [tg] X.env).map (·.2) = [assign tg X.env] := by rfl) : WS X W (.Assign [tg] e pos) G S P := fun M σ H D s m =>
  toS (ps_asg pe_s pg_s hs hw h1) (h M σ H _ s (fun v M1 H1 r S' e1 s1 r1 q1 => by
    obtain ⟨G2, S2, hg, qn⟩ := q r S' q1
    exact hg M1 σ H1 v _ s1 r1 fun σ' M2 H2 e2 s2 => m.nx M2 σ' H2 G2 S2 (e1.trans e2) s2 qn) fun M1 H1 C S' e1 s1 q1 => m.xc M1 σ H1 G C S' e1 s1 (qx C S' q1))
/-- a call that raises nothing -/
theorem EvX.ev (h : EvX X (fun _ _ _ _ => False) e G S (fun r' S' => r' = r ∧ S' = S1) (fun _ _ => False)) : Ev X e G S r S1 := fun M σ H Q s q => h M σ H Q s (fun v M' H' r' S' e1 s1 r1 q1 => by
  obtain ⟨rfl, rfl⟩ := q1
  exact q v M' H' e1 s1 r1) fun _ _ _ _ _ _ q1 => q1.elim
/-! ### calls that raise nothing -/
theorem Cxo.none (c : Cxo X W k) : Cxo X (fun _ _ _ _ => False) k := ⟨c.calm, c.nd, c.tk.imp fun _ _ _ _ z => z.elim, c.po, c.hr⟩
theorem ev_call {nm : Str} {ps : List Str} {drs : List It} {F : Fn} (c : Cxo X W k) (O : OkF X.prog X.w X.K X.mg X.base j nm ps drs F) (ha : EvA X (e :: es) G S rs S1)
    (hF : ∀ (QR : It → Sto → Prop) (QE : Addr → Sto → Prop), QR r S2 → F (rs ++ drs) S1 QR QE) (hj : j ≤ k := by decide) (hl : (rs ++ drs).length = ps.length := by rfl) (hg : Gl X nm := by rfl) (hdb : (nm == ("__debug__" : Str)) = false := by decide)
    (he : starEach (e :: es) X.env = (false, eval e X.env) :: starEach es X.env := by rfl) (hpl : (backTo pos (starEach es X.env)).any (·.1) = false := by rfl) : Ev X (.Call (.Name nm p) (e :: es) [] pos) G S r S2 :=
  EvX.ev (evx_call c.none O hj ha hl (fun QR QE h1 _ => hF QR QE (h1 _ _ ⟨rfl, rfl⟩)) hg hdb he hpl)
theorem ev_call0 {nm : Str} {ps : List Str} {drs : List It} {F : Fn} (c : Cxo X W k) (O : OkF X.prog X.w X.K X.mg X.base j nm ps drs F)
    (hF : ∀ (QR : It → Sto → Prop) (QE : Addr → Sto → Prop), QR r S2 → F drs S QR QE) (hj : j ≤ k := by decide) (hl : drs.length = ps.length := by rfl) (hg : Gl X nm := by rfl) (hdb : (nm == ("__debug__" : Str)) = false := by decide) : Ev X (.Call (.Name nm p) [] [] pos) G S r S2 :=
  EvX.ev (evx_call0 c.none O hj hl (fun QR QE h1 _ => hF QR QE (h1 _ _ ⟨rfl, rfl⟩)) hg hdb)
theorem ev_meth {mt : Str} {ps : List Str} {drs : List It} {F : Fn} {fs : List (Str × It)} {i : Nat} {pl : Sem Bool} (c : Cxo X W k) (O : OkM X.prog X.w X.K X.mg X.base j C mt ps drs F) (ho : Ev X o G S (.o i) S1) (hi : S1[i]? = some (.ins C fs)) (ha : EvA X (e :: es) G S1 rs S2)
    (hF : ∀ (QR : It → Sto → Prop) (QE : Addr → Sto → Prop), QR r S3 → F (.o i :: (rs ++ drs)) S2 QR QE) (hj : j ≤ k := by decide) (hl : (.o i :: (rs ++ drs) : List It).length = ps.length := by rfl) (hnm : fs.lookup mt = none := by rfl)
    (hst : starEach (e :: es) X.env = (false, eval e X.env) :: starEach es X.env := by rfl) (hpl : (backTo pos (starEach es X.env)).any (·.1) = false := by rfl)
    (ht : eval (.Call (.Attribute o mt apos) (e :: es) [] pos) X.env = (do
      let ov ← eval o X.env
      standAt apos.atName
      let (f, first) ← holding [ov] (getMethod ov mt pl)
      callWith pos f first (backTo pos (starEach (e :: es) X.env)) (backToKw pos (keywordEach [] X.env))) := by rfl) : Ev X (.Call (.Attribute o mt apos) (e :: es) [] pos) G S r S3 :=
  EvX.ev (evx_meth c.none O hj ho hi ha hl (fun QR QE h1 _ => hF QR QE (h1 _ _ ⟨rfl, rfl⟩)) hnm hst hpl ht)
theorem ev_meth0 {mt : Str} {ps : List Str} {drs : List It} {F : Fn} {fs : List (Str × It)} {i : Nat} {pl : Sem Bool} (c : Cxo X W k) (O : OkM X.prog X.w X.K X.mg X.base j C mt ps drs F) (ho : Ev X o G S (.o i) S1) (hi : S1[i]? = some (.ins C fs))
    (hF : ∀ (QR : It → Sto → Prop) (QE : Addr → Sto → Prop), QR r S3 → F (.o i :: drs) S1 QR QE) (hj : j ≤ k := by decide) (hl : (.o i :: drs : List It).length = ps.length := by rfl) (hnm : fs.lookup mt = none := by rfl)
    (ht : eval (.Call (.Attribute o mt apos) [] [] pos) X.env = (do
      let ov ← eval o X.env
      standAt apos.atName
      let (f, first) ← holding [ov] (getMethod ov mt pl)
      callWith pos f first (backTo pos (starEach [] X.env)) (backToKw pos (keywordEach [] X.env))) := by rfl) : Ev X (.Call (.Attribute o mt apos) [] [] pos) G S r S3 :=
  EvX.ev (evx_meth0 c.none O hj ho hi hl (fun QR QE h1 _ => hF QR QE (h1 _ _ ⟨rfl, rfl⟩)) hnm ht)
theorem ev_make {nm : Str} {ps : List Str} {drs : List It} {F : Fn} (c : Cxo X W k) (O : OkC X.prog X.w X.K X.mg X.base j C nm ps drs F) (ha : EvA X (e :: es) G S rs S1)
    (hF : ∀ (QR : It → Sto → Prop) (QE : Addr → Sto → Prop), QR (.d .none) S2 → F (.o S1.length :: (rs ++ drs)) (S1 ++ [.ins C []]) QR QE) (hj : j + 1 ≤ k := by decide) (hl : (.o S1.length :: (rs ++ drs) : List It).length = ps.length := by rfl) (hg : Gl X nm := by rfl) (hdb : (nm == ("__debug__" : Str)) = false := by decide)
    (he : starEach (e :: es) X.env = (false, eval e X.env) :: starEach es X.env := by rfl) (hpl : (backTo pos (starEach es X.env)).any (·.1) = false := by rfl) : Ev X (.Call (.Name nm p) (e :: es) [] pos) G S (.o S1.length) S2 :=
  EvX.ev (evx_make c.none O hj ha hl (fun QR QE h1 _ => hF QR QE (h1 _ ⟨rfl, rfl⟩)) hg hdb he hpl)
/-! ### raise, try -/
theorem ws_raise {x mtx : Str} {j : Nat} (c : Cxo X W k) (T : ExcF X.K X.mg x C) (q : P.xc C G S) (hg : Gl X x := by rfl) (hdb : (x == ("__debug__" : Str)) = false := by decide) : WS X W (.Raise (some (.Call (.Name x p) [.Constant (.str mtx) j p2] [] pos)) none pos2) G S P := fun M σ H D s m =>
  toS (ps_raise c.calm c.tk (pmk_own PySem.F.excBase_ValueError T.xC T.gC T.kC (raises_own T.bC T.tC) hg hdb)) (m.xc M σ H G C S Ext.refl s q)
/-- the context of a try's body -/
abbrev trX (X : Cx) (pn : List (Addr × Obj)) (xe : Value → Shared → Prop) : Cx := X.tr pn xe
/-- the context of a suite that holds the error at a -/
abbrev suX (X : Cx) (ad : Addr) (oe : Obj) (pn : List (Addr × Obj)) : Cx := X.suite ad ((ad, oe) :: pn)
/-- try: .. except x as n: suite -/
theorem ws_try_as {x n : Str} {c0 : Value} {b₀ : Stmt} (i : Nat) (c : Cxo X W k) (hs : X.stack = X.env :: X.outer) (hf : X.env.frame = some X.env.locals) (hc : Names X x c0) (Qx : Addr → Gam → Sto → Prop)
    (hb : ∀ (W' : WX) (pn : List (Addr × Obj)) (xe : Value → Shared → Prop), Cxo (trX X pn xe) W' k → WSs (trX X pn xe) W' body G S { P with xc := Qx })
    (hsu : ∀ C G' S', Qx C G' S' → PySem.W.exmOne X.K (.ref C) c0 = some true ∧ ∀ (ad : Addr) (oe : Obj) (pn : List (Addr × Obj)), Zc (.ref C) none oe → (∃ vs, oe.data = .fields vs) →
      WSs (suX X ad oe pn) (fun _ _ _ _ => False) (b₀ :: suite) (G'.set i (some (.r (.ref ad)))) S' { nx := fun G S => P.nx (G.set i none) S, rt := P.rt, bk := fun G S => P.bk (G.set i none) S, ct := fun G S => P.ct (G.set i none) S })
    (hi : X.N[i]? = some n := by rfl) (hln : X.env.kindOf n = some .local := by rfl) : WS X W (.Try body [.ExceptHandler (some (.Name x np)) (some n) (b₀ :: suite) pos'] [] [] pos) G S P := fun M σ H D s m =>
  toS (ps_try_as (i := i) (tb := fun W' => fun D σ H => ∀ pn xe, Takes (X.tr pn xe) W' → PassesOwn (model X.prog X.w) X.A X.env xe → sSs (X.tr pn xe) body D σ H) (ts := fun ad cls d => fun D σ H => ∀ oe pn, Zc cls d oe → (∃ vs, oe.data = .fields vs) → sSs (suX X ad oe pn) (b₀ :: suite) D σ H) hs hf c.nd hi hln hc c.tk
    (fun W' pn xe tk po => ⟨fun pins s1 σ1 H1 D1 I1 h1 => h1 pn xe tk po pins s1 I1⟩) (fun ad oe cls d pn hz hd => ⟨fun pins s1 σ1 H1 D1 I1 h1 => h1 oe pn hz hd pins s1 I1⟩)) (by
    intro pn xe tk po
    refine hb _ pn xe ⟨c.calm, c.nd, tk, po, c.hr⟩ M σ H D s ⟨m.nx, m.rt, m.bk, m.ct, fun M' σ' H' G' C S' e1 t1 q1 => ?_⟩
    obtain ⟨h1, h2⟩ := hsu C G' S' q1
    refine ⟨true, h1, fun _ ad had oe pn' hz hd => ?_, fun q => (nomatch q)⟩
    have t2 : Stt X.K M' H' S' (G'.set i (some (.r (.ref ad)))) (σ'.set i (some (.ref ad))) := t1.set rfl
    refine h2 ad oe pn' hz hd M' _ H' _ t2 ⟨fun M2 σ2 H2 G2 S2 e2 t2 q2 => ?_, fun v M2 H2 r S2 e2 => m.rt v M2 H2 r S2 (e1.trans e2), fun M2 σ2 H2 G2 S2 e2 t2 q2 => ?_, fun M2 σ2 H2 G2 S2 e2 t2 q2 => ?_, fun _ _ _ _ _ _ _ _ q2 => q2.elim⟩
    all_goals
      have t3 : Stt X.K M2 H2 S2 (G2.set i none) (σ2.set i none) := by
        refine ⟨t2.sto, by rw [List.length_set, List.length_set]; exact t2.len, fun l u e => ?_⟩
        by_cases hl : i = l
        · subst hl
          by_cases hlt : i < G2.length
          · rw [List.getElem?_set_self hlt] at e; cases e
          · rw [List.getElem?_eq_none (by rw [List.length_set]; omega)] at e; cases e
        · rw [List.getElem?_set_ne hl] at e
          obtain ⟨v, h1, h2⟩ := t2.at_ l u e
          exact ⟨v, by rw [List.getElem?_set_ne hl]; exact h1, h2⟩
    · exact m.nx M2 _ H2 _ S2 (e1.trans e2) t3 q2
    · exact m.bk M2 _ H2 _ S2 (e1.trans e2) t3 q2
    · exact m.ct M2 _ H2 _ S2 (e1.trans e2) t3 q2)
/-! ### isinstance of the error that a suite holds -/
/-- isinstance(e, (c1, c2, ..)) -/
theorem call_isET {a D : Addr} {oe : Obj} {pn : List (Addr × Obj)} (C : ExcC X.K D) (hz : Zc (.ref D) none oe) (hf : ∃ vs, oe.data = .fields vs) : CallR (X.suite a ((a, oe) :: pn)) (.builtin "isinstance") (fun xs H Q => ∃ (tp : Addr) (cs : List V) (us : List Value) (b : Bool), xs = [.ref a, .ref tp] ∧ H tp = some (.tup cs) ∧ Paired ClsV cs us ∧ PySem.W.kitAny X.K (.ref D) us = some b ∧ Q (.bl b) H) := by
  intro pins s σ H xs us Q I r h
  obtain ⟨tp, cs, ws, b, rfl, hT, k, e, q⟩ := h
  obtain ⟨u1, u2, rfl, r1, r2⟩ := vals2 r
  cases (show u2 = Value.ref tp from r2)
  cases (show u1 = Value.ref a from r1)
  obtain ⟨hget, _⟩ := I.pin (a, oe) (List.mem_append.mpr (.inl List.mem_cons_self))
  obtain ⟨vs, hv⟩ := hf
  have J : PySem.W.InstAt s.heap a oe D none := by
    obtain ⟨oc, od, oda, osl⟩ := oe
    obtain ⟨h1, h2⟩ := hz
    dsimp only at h1 h2 hv
    subst h1 h2 hv
    exact ⟨hget, rfl, rfl, trivial⟩
  obtain ⟨_, its, rv, o, h1, h2, n, h3⟩ := (show ObjOk X.prog X.w H s.heap tp (.tup cs) from I.hok tp _ hT)
  have e3 := ClsV.all k rv
  subst e3
  obtain ⟨oc, od, dt, sl⟩ := o
  simp only at h2 h3
  subst h2 h3
  exact PySem.W.kia_tup (PySem.W.handS_kitx_exc C.hg C.hk C.hs C.hd C.ha C.hn C.ht C.hm) I.kIn J h1 e (fun z => nomatch z) fun tk => ⟨.bl b, H, I.kept (t' := tk) fun _ _ z => z, rfl, q⟩
/-- the answer's class value -/
def clsVal : It → Option Value
  | .r (.ty n) => some (.type n)
  | .r (.ref C) => some (.ref C)
  | _ => none
/-- isinstance(e, c) -/
theorem ev_isE {ad D : Addr} {oe : Obj} {pn : List (Addr × Obj)} {cv : Value} {kk : Bool} (T : ExcC X.K D) (hz : Zc (.ref D) none oe) (hf : ∃ vs, oe.data = .fields vs) (hm : X.mg "isinstance" = none) (ha : Ev (suX X ad oe pn) a G S (.r (.ref ad)) S1) (hb : Ev (suX X ad oe pn) b G S1 r S2) (hr : clsVal r = some cv) (hk : PySem.W.kitOne X.K (.ref D) cv = some kk)
    (hg : Gl X "isinstance" := by rfl) (he : starEach [a, b] X.env = (false, eval a X.env) :: starEach [b] X.env := by rfl) (he2 : starEach [b] X.env = (false, eval b X.env) :: starEach [] X.env := by rfl) (hpl : (backTo pos (starEach [b] X.env)).any (·.1) = false := by rfl) : Ev (suX X ad oe pn) (.Call (.Name "isinstance" p) [a, b] [] pos) G S (.d (.bool kk)) S2 :=
  ev_blt (X := suX X ad oe pn) (call_isE T hz hf) hm (by decide +kernel) (eva_cons ha (eva_cons hb eva_nil he2) he) (fun M H vs Q s hv q => by
    obtain ⟨v, u, rfl, h1, h2⟩ := vr2 hv
    have e1 : v = .ref ad := h1
    subst e1
    have hu : ∀ w, RelV u w → w = cv := by
      intro w hw
      cases r with
      | r x =>
        have e2 : u = x := h2
        subst e2
        cases u <;> first | (cases hr; exact hw) | cases hr
      | _ => cases hr
    exact ⟨u, cv, kk, rfl, hu, hk, q _ M H Ext.refl s (Fz.bl _)⟩) hg (by decide) (by decide) he hpl
end
end Cu
/-! CuG: isinstance, methods of texts and lists, str, join, min, over data. -/
namespace Cu
open PySem PySem.Spec PyProof.Rows L2
/-- what the classes of the text must say, so that isinstance asks their instances rightly -/
structure InsC (K : PySem.W.Frag) (C : Addr) : Prop where
  cl : Cls K C
  ha : PySem.W.findIn K (.ref C) "__class__" = some (some (.builtin "object.__class__"))
  hn : PySem.W.specialIn K (.builtin "object.__class__") "__get__" = some (some (.builtin "getset_descriptor.__get__"))
  ht : PySem.W.takesIn K (.builtin "object.__class__") = some true
  hm : PySem.W.mroIn K C (.type "object") = some true
def tyName : PyData → String
  | .none => "NoneType"
  | .bool _ => "bool"
  | .int _ => "int"
  | .str _ => "str"
  | .list _ => "list"
  | .tuple _ => "tuple"
  | .dict _ => "dict"
theorem fz_ty {K : PySem.W.Frag} {M : List Addr} {H : Hp} {v : V} {x : PyData} (h : Fz M H v x) : TyX K H v (.type (tyName x)) := by
  cases h with
  | non => exact .base .non
  | bl b => exact .base (.bl b)
  | int i => exact .base (.int i)
  | str x => exact .base (.str x)
  | lst h1 h2 =>
    rcases h1.1 with e | ⟨o, e⟩
    · exact .base (.lst e)
    · exact .base (.frz e)
  | tup h1 h2 => exact .base (.tup h1.1)
/-- the class value of what isinstance is asked of -/
inductive TyIt (K : PySem.W.Frag) (S : Sto) : It → Value → Prop
  | d (x : PyData) : TyIt K S (.d x) (.type (tyName x))
  | l {n : Nat} {xs : List It} (h : S[n]? = some (.lst xs)) : TyIt K S (.o n) (.type "list")
  | dT {n : Nat} {xs : List (List Key × It)} (h : S[n]? = some (.dT xs)) : TyIt K S (.o n) (.type "dict")
  | dK {n : Nat} {xs : List (Key × It)} (h : S[n]? = some (.dK xs)) : TyIt K S (.o n) (.type "dict")
  | ins {n : Nat} {C : Addr} {fs : List (Str × It)} (T : InsC K C) (h : S[n]? = some (.ins C fs)) : TyIt K S (.o n) (.ref C)
  | tup {n : Nat} {xs : List It} (h : S[n]? = some (.tup xs)) : TyIt K S (.o n) (.type "tuple")
theorem TyIt.tyx {K : PySem.W.Frag} {S : Sto} {M : List Addr} {H : Hp} {v : V} {r : It} {t : Value} (s : StoreOk K M H S) (h : TyIt K S r t) (hv : VRep K M H v r) : TyX K H v t := by
  cases h with
  | d x => exact fz_ty hv
  | l h =>
    obtain ⟨ad, had, rfl⟩ := hv
    obtain ⟨vs, e, _⟩ := s.rep _ ad _ had h
    exact .base (.lst e)
  | dT h =>
    obtain ⟨ad, had, rfl⟩ := hv
    obtain ⟨vs, e, _⟩ := s.rep _ ad _ had h
    exact .base (.dT e)
  | dK h =>
    obtain ⟨ad, had, rfl⟩ := hv
    obtain ⟨vs, e, _⟩ := s.rep _ ad _ had h
    exact .base (.dK e)
  | ins T h =>
    obtain ⟨ad, had, rfl⟩ := hv
    obtain ⟨dx, vs, e, _⟩ := s.rep _ ad _ had h
    exact .base (.ins e T.cl T.ha T.hn T.ht T.hm)
  | tup h =>
    obtain ⟨ad, had, rfl⟩ := hv
    obtain ⟨vs, e, _⟩ := s.rep _ ad _ had h
    exact .base (.tup e)
section
variable {X : Cx} {W : WX} {k j : Nat} {G G1 G2 : Gam} {S S1 S2 S3 : Sto} {P : Post} {e a b o iter tg elt : Expr} {es ifs : List Expr} {r y z : It} {rs : List It} {pos pos' pos2 p p2 apos np cpos : Pos} {st : Stmt} {sts body suite : List Stmt} {ds : List PyData} {C : Addr} {m n : Int} {Qr : It → Sto → Prop} {Qx : Addr → Sto → Prop}
theorem clsV_of {u : V} {cv : Value} (hr : clsVal r = some cv) {K : PySem.W.Frag} {M : List Addr} {H : Hp} (h : VRep K M H u r) : ClsV u cv := by
  cases r with
  | r x =>
    have e2 : u = x := h
    subst e2
    cases u <;> first | (cases hr; exact .ty _) | (cases hr; exact .own _) | cases hr
  | _ => cases hr
/-- isinstance(x, c) -/
theorem ev_isi {t cv : Value} {kk : Bool} (hm : X.mg "isinstance" = none) (ha : Ev X a G S z S1) (hb : Ev X b G S1 r S2) (hr : clsVal r = some cv) (hT : TyIt X.K S2 z t) (hk : PySem.W.kitOne X.K t cv = some kk)
    (hg : Gl X "isinstance" := by rfl) (he : starEach [a, b] X.env = (false, eval a X.env) :: starEach [b] X.env := by rfl) (he2 : starEach [b] X.env = (false, eval b X.env) :: starEach [] X.env := by rfl) (hpl : (backTo pos (starEach [b] X.env)).any (·.1) = false := by rfl) : Ev X (.Call (.Name "isinstance" p) [a, b] [] pos) G S (.d (.bool kk)) S2 :=
  ev_blt call_isi hm (by decide +kernel) (eva_cons ha (eva_cons hb eva_nil he2) he) (fun M H vs Q s hv q => by
    obtain ⟨v, u, rfl, h1, h2⟩ := vr2 hv
    exact ⟨v, u, t, cv, kk, rfl, clsV_of hr h2, hT.tyx s h1, hk, q _ M H Ext.refl s (Fz.bl _)⟩) hg (by decide) (by decide) he hpl
/-- isinstance of a datum with a built-in class -/
theorem ev_isD {x : PyData} {T : String} {nm : Str} {kk : Bool} {pn : Pos} (hm : X.mg "isinstance" = none) (hT : X.mg nm = none) (ha : Ev X a G S (.d x) S1) (hB : kitB (tyName x) T = some kk) (hv : bootBuiltins nm = some (.type T) := by decide +kernel) (hg : Gl X "isinstance" := by rfl) (hg2 : Gl X nm := by rfl) (hn : nm ≠ "__name__" := by decide) (hd : (nm == ("__debug__" : Str)) = false := by decide)
    (he : starEach [a, .Name nm pn] X.env = (false, eval a X.env) :: starEach [.Name nm pn] X.env := by rfl) (he2 : starEach [.Name nm pn] X.env = (false, eval (.Name nm pn) X.env) :: starEach [] X.env := by rfl) (hpl : (backTo pos (starEach [.Name nm pn] X.env)).any (·.1) = false := by rfl) : Ev X (.Call (.Name "isinstance" p) [a, .Name nm pn] [] pos) G S (.d (.bool kk)) S1 :=
  ev_isi hm ha (ev_type hT hv hg2 hn hd) rfl (.d x) (kit_ty hB) hg he he2 hpl
/-- the class values of items -/
def clsVals : List It → Option (List Value)
  | [] => some []
  | r :: rs => match clsVal r, clsVals rs with
    | some v, some vs => some (v :: vs)
    | _, _ => none
theorem clsVs_of {K : PySem.W.Frag} {M : List Addr} {H : Hp} : ∀ {rs : List It} {cvs : List Value} {us : List V}, clsVals rs = some cvs → VReps K M H us rs → Paired ClsV us cvs
  | [], cvs, us, h, hr => by
    cases h
    cases hr
    exact .nil
  | r :: rs, cvs, us, h, hr => by
    cases hr with
    | cons h1 h2 =>
      have h' : (match clsVal r, clsVals rs with | some v, some vs => some (v :: vs) | _, _ => none) = some cvs := h
      cases e1 : clsVal r with
      | none => rw [e1] at h'; cases h'
      | some v =>
        cases e2 : clsVals rs with
        | none => rw [e1, e2] at h'; cases h'
        | some vs =>
          rw [e1, e2] at h'
          cases h'
          exact .cons (clsV_of e1 h1) (clsVs_of e2 h2)
/-- isinstance(e, (c1, c2, ..)), e the error that the suite holds -/
theorem ev_isET {ad D : Addr} {oe : Obj} {pn : List (Addr × Obj)} {cvs : List Value} {kk : Bool} {x1 : Nat} {tpos : Pos} (T : ExcC X.K D) (hz : Zc (.ref D) none oe) (hf : ∃ vs, oe.data = .fields vs) (hm : X.mg "isinstance" = none) (ha : Ev (suX X ad oe pn) a G S (.r (.ref ad)) S1) (hb : EvA (suX X ad oe pn) es G S1 rs S2) (hr : clsVals rs = some cvs) (hk : PySem.W.kitAny X.K (.ref D) cvs = some kk)
    (hl : rs.length ≤ 1000 := by exact Nat.le_of_ble_eq_true rfl) (hg : Gl X "isinstance" := by rfl) (he : starEach [a, .Tuple es x1 tpos] X.env = (false, eval a X.env) :: starEach [.Tuple es x1 tpos] X.env := by rfl) (he2 : starEach [.Tuple es x1 tpos] X.env = (false, eval (.Tuple es x1 tpos) X.env) :: starEach [] X.env := by rfl)
    (hpl : (backTo pos (starEach [.Tuple es x1 tpos] X.env)).any (·.1) = false := by rfl) : Ev (suX X ad oe pn) (.Call (.Name "isinstance" p) [a, .Tuple es x1 tpos] [] pos) G S (.d (.bool kk)) S2 := fun M σ H Q s q =>
  toE (X := suX X ad oe pn) (pe_callB (call_isET T hz hf) hg hm (by decide +kernel) (pa_cons pe_s (pa_cons (pe_tup pa_s) pa_nil he2) he) (by decide) (by decide) he hpl) (ha M σ H _ s fun v M1 H1 e1 t1 r1 => hb M1 σ H1 _ t1 fun us M2 H2 e2 t2 r2 => ⟨Nat.le_of_lt (small1000 (by rw [r2.len]; exact hl)), fun tp htp => by
    have e3 : v = .ref ad := r1
    subst e3
    exact ⟨tp, us, cvs, kk, rfl, upd_same, clsVs_of hr r2, hk, q _ M2 _ ((e1.trans e2).trans (Ext.fresh htp)) (t2.fresh htp) (Fz.bl _)⟩⟩)
/-! ### methods of built-in types -/
theorem ev_bm {T id : String} {name : Str} {rr : V → List V → Hp → VK → Prop} (pa : PlainAttrs T) (slot : Slot T name id) (hty : typeOf (.builtin id) = pure (.type "method_descriptor")) (hmt : MtR X id rr) (ho : Ev X o G S z S1) (hT : ∀ M H v, StoreOk X.K M H S1 → VRep X.K M H v z → tyV X.K T v H) (ha : EvA X (e :: es) G S1 rs S2) (hr : RWM X rr z rs S2 y S3)
    (hbase : attributeBase o name X.env (eval o X.env) = eval o X.env := by rfl)
    (hfew : ((backTo cpos (starEach (e :: es) X.env)).all (fun x => !x.1) && (backToKw cpos (keywordEach [] X.env)).all (fun x => x.1.isSome)
      && decide ((e :: es).length + ([] : List Keyword).length + (if ([] : List Keyword).isEmpty then 0 else 1) < 30)) = true := by rfl)
    (hline : (apos.endLine == cpos.line) = true := by rfl) (hs : starEach (e :: es) X.env = (false, eval e X.env) :: starEach es X.env := by rfl) (hplain : (backTo cpos (starEach es X.env)).any (·.1) = false := by rfl) : Ev X (.Call (.Attribute o name apos) (e :: es) [] cpos) G S y S3 := fun M σ H Q s q =>
  toE (pe_bm pa slot hty hmt pe_s pa_s hbase hfew hline hs hplain) (ho M σ H _ s fun v M1 H1 e1 t1 r1 => ⟨hT M1 H1 v t1.sto r1, ha M1 σ H1 _ t1 fun us M2 H2 e2 t2 r2 => hr M2 H2 v us _ t2.sto (r1.ext e2) r2 fun w M3 H3 e3 s3 r3 => q w M3 H3 ((e1.trans e2).trans e3) (t2.mono e3 s3) r3⟩)
theorem ev_bm0 {T id : String} {name : Str} {rr : V → List V → Hp → VK → Prop} (pa : PlainAttrs T) (slot : Slot T name id) (hty : typeOf (.builtin id) = pure (.type "method_descriptor")) (hmt : MtR X id rr) (ho : Ev X o G S z S1) (hT : ∀ M H v, StoreOk X.K M H S1 → VRep X.K M H v z → tyV X.K T v H) (hr : RWM X rr z [] S1 y S2)
    (hbase : attributeBase o name X.env (eval o X.env) = eval o X.env := by rfl) (hline : (apos.endLine == cpos.line) = true := by rfl) : Ev X (.Call (.Attribute o name apos) [] [] cpos) G S y S2 := fun M σ H Q s q =>
  toE (pe_bm0 pa slot hty hmt pe_s hbase hline) (ho M σ H _ s fun v M1 H1 e1 t1 r1 => ⟨hT M1 H1 v t1.sto r1, hr M1 H1 v [] _ t1.sto r1 .nil fun w M3 H3 e3 s3 r3 => q w M3 H3 (e1.trans e3) (t1.mono e3 s3) r3⟩)
theorem ty_str {x : Str} : ∀ M H v, StoreOk X.K M H S → VRep X.K M H v (.d (.str x)) → tyV X.K "str" v H := fun M H v _ h => by rw [vr_str h]; rfl
theorem ty_own {i : Nat} {xs : List It} (hi : S[i]? = some (.lst xs)) : ∀ M H v, StoreOk X.K M H S → VRep X.K M H v (.o i) → tyV X.K "list" v H := fun M H v s h => by
  obtain ⟨ad, had, rfl⟩ := h
  obtain ⟨vs, e, _⟩ := s.rep i ad _ had hi
  exact .inl ⟨rfl, vs, .of e⟩
/-- xs.append(e) -/
theorem ev_append {i : Nat} {xs : List It} (ho : Ev X o G S (.o i) S1) (hi : S1[i]? = some (.lst xs)) (ha : Ev X e G S1 r S2) (hi2 : S2[i]? = some (.lst xs)) (hz : xs.length < 1000000) (hbase : attributeBase o "append" X.env (eval o X.env) = eval o X.env := by rfl)
    (hfew : ((backTo cpos (starEach [e] X.env)).all (fun x => !x.1) && (backToKw cpos (keywordEach [] X.env)).all (fun x => x.1.isSome) && decide ([e].length + ([] : List Keyword).length + (if ([] : List Keyword).isEmpty then 0 else 1) < 30)) = true := by rfl)
    (hline : (apos.endLine == cpos.line) = true := by rfl) (hs : starEach [e] X.env = (false, eval e X.env) :: starEach [] X.env := by rfl) : Ev X (.Call (.Attribute o "append" apos) [e] [] cpos) G S (.d .none) (S2.set i (.lst (xs ++ [r]))) :=
  ev_bm PySem.F.plainAttrs_list PySem.F.slot_list_append PySem.F.type_list_append mt_append ho (ty_own hi) (eva_cons ha eva_nil hs) (fun M H v vs Q s hv hvs q => by
    obtain ⟨u, rfl, hu⟩ := vr1 hvs
    obtain ⟨ad, had, rfl⟩ := hv
    obtain ⟨ws, e1, e2⟩ := s.rep i ad _ had hi2
    have e3 : Ext M H M (upd H ad (.lst (ws ++ [u]))) := Ext.put (List.mem_of_getElem? had)
    exact ⟨ad, ws, u, rfl, rfl, e1, by rw [e2.len, sizeLine_eq]; omega, q .non M _ e3 (s.put had ⟨_, upd_same, VReps.append (VReps.ext e3 e2) (.cons (hu.ext e3) .nil)⟩) Fz.non⟩) hbase hfew hline hs rfl
/-- texts among data -/
theorem fz_strs {M : List Addr} {H : Hp} : ∀ {xs : List Str} {vs : List V}, FzAll M H vs (xs.map .str) → vs = xs.map V.str
  | [], _, h => by cases h; rfl
  | x :: xs, _, h => by
    cases h with
    | cons h1 h2 =>
      rw [List.map_cons, fz_strs h2, vr_str (K := []) h1]
theorem fz_ints {M : List Addr} {H : Hp} : ∀ {xs : List Int} {vs : List V}, FzAll M H vs (xs.map .int) → vs = xs.map V.int
  | [], _, h => by cases h; rfl
  | x :: xs, _, h => by
    cases h with
    | cons h1 h2 =>
      rw [List.map_cons, fz_ints h2, vr_int (K := []) h1]
theorem fz_bools {M : List Addr} {H : Hp} : ∀ {xs : List Bool} {vs : List V}, FzAll M H vs (xs.map .bool) → vs = xs.map V.bl
  | [], _, h => by cases h; rfl
  | x :: xs, _, h => by
    cases h with
    | cons h1 h2 =>
      rw [List.map_cons, fz_bools h2, vr_bool (K := []) h1]
/-- sep.join(xs) -/
theorem ev_join {x : Str} {ys : List Str} (ho : Ev X o G S (.d (.str x)) S1) (ha : Ev X e G S1 (.d (.list (ys.map .str))) S2) (hz : (ys.map (·.length)).sum + ys.length * x.length ≤ 16777216) (hbase : attributeBase o "join" X.env (eval o X.env) = eval o X.env := by rfl)
    (hfew : ((backTo cpos (starEach [e] X.env)).all (fun x => !x.1) && (backToKw cpos (keywordEach [] X.env)).all (fun x => x.1.isSome) && decide ([e].length + ([] : List Keyword).length + (if ([] : List Keyword).isEmpty then 0 else 1) < 30)) = true := by rfl)
    (hline : (apos.endLine == cpos.line) = true := by rfl) (hs : starEach [e] X.env = (false, eval e X.env) :: starEach [] X.env := by rfl) : Ev X (.Call (.Attribute o "join" apos) [e] [] cpos) G S (.d (.str (Txt.join x ys))) S2 :=
  ev_bm PySem.F.plainAttrs_str PySem.F.slot_str_join PySem.F.type_str_join mt_join ho ty_str (eva_cons ha eva_nil hs) (fun M H v vs Q s hv hvs q => by
    obtain ⟨u, rfl, hu⟩ := vr1 hvs
    have hu' : Fz M H u (.list (ys.map .str)) := hu
    cases hu' with
    | lst h1 h2 =>
      rw [vr_str hv]
      exact ⟨x, _, ys, rfl, rfl, .inl (by rw [← fz_strs h2]; exact h1.sq), hz, q _ M H Ext.refl s (Fz.str _)⟩) hbase hfew hline hs rfl
/-- str(n) -/
theorem ev_strI (hm : X.mg "str" = none) (ha : Ev X a G S (.d (.int n)) S1) (h : n.natAbs.log2 < 1920) (hg : Gl X "str" := by rfl) (he : starEach [a] X.env = (false, eval a X.env) :: starEach [] X.env := by rfl) : Ev X (.Call (.Name "str" p) [a] [] pos) G S (.d (.str (toString n))) S1 :=
  ev_ty call_str_int hm (by decide +kernel) (eva_cons ha eva_nil he) (fun M H vs Q s hvs q => by
    obtain ⟨v, rfl, hv⟩ := vr1 hvs
    exact ⟨n, by rw [vr_int hv], h, q _ M H Ext.refl s (Fz.str _)⟩) hg (by decide) (by decide) he rfl
/-- min(xs) -/
theorem ev_minL {ns : List Int} {l : Int} (c : Cxo X W k) (hm : X.mg "min" = none) (ha : Ev X a G S (.d (.list (ns.map .int))) S1) (h : l ∈ ns) (hl : ∀ y ∈ ns, l ≤ y) (hg : Gl X "min" := by rfl) (he : starEach [a] X.env = (false, eval a X.env) :: starEach [] X.env := by rfl) : Ev X (.Call (.Name "min" p) [a] [] pos) G S (.d (.int l)) S1 :=
  ev_blt (cr_min c.calm) hm (by decide +kernel) (eva_cons ha eva_nil he) (fun M H vs Q s hvs q => by
    obtain ⟨v, rfl, hv⟩ := vr1 hvs
    have hv' : Fz M H v (.list (ns.map .int)) := hv
    cases hv' with
    | lst h1 h2 =>
      refine ⟨_, ns, rfl, by rw [← fz_ints h2]; exact h1.sq, List.length_pos_of_mem h, fun m' hm1 hm2 => ?_⟩
      have e1 : m' = l := Int.le_antisymm (hm2 l h) (hl m' hm1)
      rw [e1]
      exact q _ M H Ext.refl s (Fz.int _)) hg (by decide) (by decide) he rfl
end
end Cu
/-! CuH: the facts of a text by a Hook of our own, the defs by names, the end. -/
namespace Cu
open PySem PySem.Spec PyProof.Rows L2 He
abbrev Fk := PySem.W.Frag → Bool
def obsC (fa : List Fk) (fn : List DefD) (K : PySem.W.Frag) : AlD := ((fa.all fun f => f K) && fn.all fun d => d.ok K, fn.map fun d => fnW K d.at_)
def valC (fn : List DefD) : AlD := (true, fn.map DefD.val)
def SaysC (fa : List Fk) (fn : List DefD) (K : PySem.W.Frag) : Prop := obsC fa fn K = valC fn
def obsCG (n : Nat) (fa : List Fk) (fn : List DefD) (g : Addr → Option Obj) : AlD := obsC fa fn (frG g (asD g n))
def hookC (n : Nat) (fa : List Fk) (fn : List DefD) : PySem.W.Hook where
  α := AlD
  obs := fun s => obsCG n fa fn s.heap.get?
  val := fun _ => valC fn
  says := fun _ h => ∃ K : PySem.W.Frag, K.In h ∧ SaysC fa fn K
  of := fun _ _ e => ⟨_, frG_in, e⟩
  keeps := fun _ _ _ ⟨K, hK, c⟩ k => ⟨K, PySem.W.Frag.In.keeps hK k, c⟩
theorem obsCG_eq {n : Nat} {fa : List Fk} {fn : List DefD} {g : Addr → Option Obj} {s : Shared} (h : ∀ a, g a = s.heap.get? a) : obsCG n fa fn g = (hookC n fa fn).obs s := by
  have e : g = s.heap.get? := funext h
  rw [e] <;> rfl
section
variable {fa : List Fk} {fn : List DefD} {K : PySem.W.Frag} {mg : Str → Option Value}
theorem SaysC.fact (c : SaysC fa fn K) (i : Nat) {f : Fk} (h : fa[i]? = some f := by rfl) : f K = true := by
  have c1 := (ba (show ((fa.all fun f => f K) && fn.all fun d => d.ok K) = true from congrArg (fun z : AlD => z.1) c)).1
  exact List.all_eq_true.mp c1 f (List.mem_of_getElem? h)
theorem SaysC.def_ (c : SaysC fa fn K) (i : Nat) {d : DefD} (h : fn[i]? = some d := by rfl) : ∃ fd, FunD K d.name d.qual d.params d.body d.scope (d.dvs K) (d.kws K) (fAd K d.at_) fd := by
  have c2 := (ba (show ((fa.all fun f => f K) && fn.all fun d => d.ok K) = true from congrArg (fun z : AlD => z.1) c)).2
  have e : fn.map (fun d => fnW K d.at_) = fn.map DefD.val := congrArg (fun z : AlD => z.2) c
  have e2 : (fn.map fun d => fnW K d.at_)[i]? = (fn.map DefD.val)[i]? := by rw [e]
  rw [List.getElem?_map, List.getElem?_map, h] at e2
  exact DefD.funD (Option.some.inj e2) (List.all_eq_true.mp c2 d (List.mem_of_getElem? h))
/-- the text's facts, and where the module's names stand -/
structure Txt (fa : List Fk) (fn : List DefD) (K : PySem.W.Frag) (mg : Str → Option Value) : Prop where
  c : SaysC fa fn K
  g : ∃ h : Heap, K.In h ∧ h.Ns mainGlobals mg
theorem Txt.glo (T : Txt fa fn K mg) (i : Nat) {x : Str} (h : fa[i]? = some (Fa.ok · (.glo x)) := by rfl) : mg x = some (.ref (ga K x)) := by
  obtain ⟨_, X, G⟩ := T.g
  exact glo_ok X G (T.c.fact i h)
theorem Txt.free (T : Txt fa fn K mg) (i : Nat) {x : Str} (h : fa[i]? = some (Fa.ok · (.free x)) := by rfl) : mg x = none := by
  obtain ⟨_, X, G⟩ := T.g
  exact free_ok X G (T.c.fact i h)
theorem Txt.int (T : Txt fa fn K mg) (i : Nat) {x : Str} {n : Int} (h : fa[i]? = some (Fa.ok · (.int x n)) := by rfl) : ∃ t, mg x = some (.int n t) := by
  obtain ⟨_, X, G⟩ := T.g
  exact int_ok X G (T.c.fact i h)
theorem Txt.str (T : Txt fa fn K mg) (i : Nat) {x z : Str} (h : fa[i]? = some (Fa.ok · (.str x z)) := by rfl) : ∃ t, mg x = some (.str z t) := by
  obtain ⟨_, X, G⟩ := T.g
  exact str_ok X G (T.c.fact i h)
/-! ### further facts -/
def bExcC (x : Str) : Fk := fun K => eqO (PySem.W.findIn K (.ref (ga K x)) "__getattribute__") (some (some (.builtin "BaseException.__getattribute__"))) && (eqO (PySem.W.findIn K (.ref (ga K x)) "__getattr__") (some none) && (decide (PySem.W.subIn K (.ref (ga K x)) (.type "BaseException") = some true) && (PySem.W.hasDictIn K (ga K x) &&
  (eqO (PySem.W.findIn K (.ref (ga K x)) "__class__") (some (some (.builtin "object.__class__"))) && (eqO (PySem.W.specialIn K (.builtin "object.__class__") "__get__") (some (some (.builtin "getset_descriptor.__get__"))) && (decide (PySem.W.takesIn K (.builtin "object.__class__") = some true) && decide (PySem.W.mroIn K (ga K x) (.type "object") = some true)))))))
theorem excC_ok {x : Str} (h : bExcC x K = true) : ExcC K (ga K x) := by
  obtain ⟨h1, h⟩ := ba h
  obtain ⟨h2, h⟩ := ba h
  obtain ⟨h3, h⟩ := ba h
  obtain ⟨h4, h⟩ := ba h
  obtain ⟨h5, h⟩ := ba h
  obtain ⟨h6, h⟩ := ba h
  obtain ⟨h7, h8⟩ := ba h
  exact ⟨eqO_ok h1, eqO_ok h2, of_decide_eq_true h3, h4, eqO_ok h5, eqO_ok h6, of_decide_eq_true h7, of_decide_eq_true h8⟩
def bInsC (x : Str) : Fk := fun K => Fa.ok K (.cls x) && (eqO (PySem.W.findIn K (.ref (ga K x)) "__class__") (some (some (.builtin "object.__class__"))) && (eqO (PySem.W.specialIn K (.builtin "object.__class__") "__get__") (some (some (.builtin "getset_descriptor.__get__"))) && (decide (PySem.W.takesIn K (.builtin "object.__class__") = some true) && decide (PySem.W.mroIn K (ga K x) (.type "object") = some true))))
theorem insC_ok {x : Str} (h : bInsC x K = true) : InsC K (ga K x) := by
  obtain ⟨h1, h⟩ := ba h
  obtain ⟨h2, h⟩ := ba h
  obtain ⟨h3, h⟩ := ba h
  obtain ⟨h4, h5⟩ := ba h
  exact ⟨cls_ok h1, eqO_ok h2, eqO_ok h3, of_decide_eq_true h4, of_decide_eq_true h5⟩
/-- an instance (an error) of the class x is one of the class y -/
def bKit (x y : Str) (b : Bool) : Fk := fun K => decide (PySem.W.kitOne K (.ref (ga K x)) (.ref (ga K y)) = some b)
theorem kitR_ok {x y : Str} {b : Bool} (h : bKit x y b K = true) : PySem.W.kitOne K (.ref (ga K x)) (.ref (ga K y)) = some b := of_decide_eq_true h
def bKitT (x : Str) (T : String) (b : Bool) : Fk := fun K => decide (PySem.W.kitOne K (.ref (ga K x)) (.type T) = some b)
theorem kitT_ok {x : Str} {T : String} {b : Bool} (h : bKitT x T b K = true) : PySem.W.kitOne K (.ref (ga K x)) (.type T) = some b := of_decide_eq_true h
def bTyK (T : String) (y : Str) (b : Bool) : Fk := fun K => decide (PySem.W.kitOne K (.type T) (.ref (ga K y)) = some b)
theorem tyK_ok {y : Str} {T : String} {b : Bool} (h : bTyK T y b K = true) : PySem.W.kitOne K (.type T) (.ref (ga K y)) = some b := of_decide_eq_true h
theorem Txt.excF (T : Txt fa fn K mg) (i j : Nat) {x : Str} (h : fa[i]? = some (Fa.ok · (.glo x)) := by rfl) (h2 : fa[j]? = some (Fa.ok · (.exc x)) := by rfl) : ExcF K mg x (ga K x) := by
  obtain ⟨e1, e2, e3, e4⟩ := exc_ok (T.c.fact j h2)
  exact ⟨T.glo i h, e1, e2, e3, e4⟩
/-! ### defs by names -/
variable {P : Program} {w : World} {base : Heap} {x qual : Str} {params : Arguments} {body : List Stmt} {scope : Scope} {f C : Addr} {ps : List Str} {k : Nat} {F : Fn}
theorem okF_of (g : mg x = some (.ref f)) (hd : ∃ fd, FunD K x qual params body scope [] [] f fd)
    (hb : ∀ (kV doc pm : Value) (an : Option Addr) (cdv ct : Value) (us : List Value), us.length = ps.length → bindArgs (PySem.W.fnOf x qual params body scope .none kV doc pm an cdv ct) ⟨us, []⟩ = pure (ps.zip us))
    (h : ∀ fd, FunD K x qual params body scope [] [] f fd → FnOk P w K mg base (L2.CX P w) k f fd ps (spF K ps.length F)) : OkF P w K mg base k x ps [] F := by
  obtain ⟨fd, Fd⟩ := hd
  exact ⟨f, fd, [], [], g, Fd.kp, Fd.bindsN hb, .nil, fun _ _ => .nil, h fd Fd⟩
theorem okM_of (c : Cls K C) (m : Meth K C x f) (hd : ∃ fd, FunD K x qual params body scope [] [] f fd)
    (hb : ∀ (kV doc pm : Value) (an : Option Addr) (cdv ct : Value) (us : List Value), us.length = ps.length → bindArgs (PySem.W.fnOf x qual params body scope .none kV doc pm an cdv ct) ⟨us, []⟩ = pure (ps.zip us))
    (h : ∀ fd, FunD K x qual params body scope [] [] f fd → FnOk P w K mg base (L2.CX P w) k f fd ps (spF K ps.length F)) : OkM P w K mg base k C x ps [] F := by
  obtain ⟨fd, Fd⟩ := hd
  exact ⟨f, fd, [], [], c, m, Fd.bindsN hb, .nil, fun _ _ => .nil, h fd Fd⟩
theorem okC_of {y : Str} (g : mg y = some (.ref C)) (m : Mk K C f) (hd : ∃ fd, FunD K x qual params body scope [] [] f fd)
    (hb : ∀ (kV doc pm : Value) (an : Option Addr) (cdv ct : Value) (us : List Value), us.length = ps.length → bindArgs (PySem.W.fnOf x qual params body scope .none kV doc pm an cdv ct) ⟨us, []⟩ = pure (ps.zip us))
    (h : ∀ fd, FunD K x qual params body scope [] [] f fd → FnOk P w K mg base (L2.CX P w) k f fd ps (spF K ps.length F)) : OkC P w K mg base k C y ps [] F := by
  obtain ⟨fd, Fd⟩ := hd
  exact ⟨f, fd, [], [], g, m, Fd.bindsN hb, .nil, fun _ _ => .nil, h fd Fd⟩
end
/-- the law's own promise -/
def lawF : Fn := fun rs S QR _ => ∃ ns : List Int, rs = [.s ns] ∧ S = [] ∧ ns.length ≤ 63 ∧ QR (.d (.bool true)) []
theorem law_sp {K : PySem.W.Frag} {H : Hp} {a : Addr} {ns : List Int} (hl : ns.length ≤ 63) (hO : Only H) (hS : SqL K H a (ns.map V.int)) : spF K 1 lawF [.ref a] H (fun v _ => v = .bl true) (fun _ _ _ => False) := by
  have h0 : StoreOk K [] H [] := ⟨List.nodup_nil, rfl, fun n a w h => by simp at h⟩
  have hN : NdS K [] H a (ns.map V.int) := hS.elim (fun h => .inl ⟨h, by simp⟩) .inr
  exact ⟨[], [], [.s ns], h0, .cons ⟨a, rfl, hN⟩ .nil, rfl, ns, rfl, rfl, hl, fun v M' H' _ _ hv => vr_bool hv⟩
/-- the end: from the law's def to the row -/
theorem walk_w {l : PySem.W.OpenLaw} {fa : List Fk} {fn : List DefD} {nn k : Nat} {q : Program} {loose : List Str} {XP : (Str → Option Value) → Heap → Prop} {d : DefRec} {x : Str} (hn : l.most = some 63) (hdf : d.params.defaults = []) (hr : Room k callerA) (hd : d.name = "law")
    (h : ∀ (w : World) (K : PySem.W.Frag) (mg : Str → Option Value), Txt fa fn K mg → mg "law" = some (.ref (ga K "law")) ∧ ∃ fd : FuncData, (∀ (s : Shared) (u : Value), BindsTo s fd ⟨[u], []⟩ [(x, u)]) ∧ ∀ base : Heap, FnOk l.prog w K mg base (L2.CX l.prog w) k (ga K "law") fd [x] (spF K 1 lawF)) :
    PySem.W.WalkO q loose XP (hookC nn fa fn).says l.row.toRowW d [] (fun f vs => PySem.call f vs) := by
  refine Att.attach_call hn hdf fun w s0 s1 mg mb f1 ob pm cd doc ad vs ns Gd Y ho hda hcd hmg hobj hins hlen hgn => ?_
  obtain ⟨K, KX, c⟩ := Y
  obtain ⟨hgl, fd, hb, hF⟩ := h w K mg ⟨c, _, KX, Gd.T.g⟩
  rw [hd, hgl] at hmg
  obtain rfl : ga K "law" = f1 := by injection hmg with hmg; injection hmg
  refine law_call KX Gd.T.g Gd.T.b Gd.T.builtins Gd.T.nolimit hgn hobj hins (Nat.le_trans hlen (by rw [sizeLine_eq]; omega)) hr (fun base _ _ => hF base) hb (fun H hO hS => law_sp hlen hO hS) fun H e s' hx => ?_
  obtain ⟨_, _, _, _, _, _, _, _, _, _, _, _, z⟩ := hx
  exact z
end Cu
namespace Pf
open PySem PySem.Spec PyProof.Rows L2 He Cu
/-! ### the text: where its defs stand -/
def top (i : Nat) : Stmt := PySem.Challenge.pw_copperbook_k61_whole_least_dear.main.body.getD i (.Pass ⟨0, 0, 0, 0⟩)
abbrev s_steps : Stmt := top 1
theorem sc_steps : FnScope ["size", "through", "cell", "x", "y", "z", "wide", "high", "layers", "found", "across", "down", "change", "layer"] ["size", "through", "cell"] (defScope s_steps) := ⟨rfl, rfl, rfl, by decide +kernel, rfl, by decide +kernel, by decide +kernel⟩
abbrev s_spread : Stmt := top 2
theorem sc_spread : FnScope ["size", "price", "through", "starts", "numbers", "ahead", "waiting", "cell", "number", "back", "other", "change", "cost"] ["size", "price", "through", "starts"] (defScope s_spread) := ⟨rfl, rfl, rfl, by decide +kernel, rfl, by decide +kernel, by decide +kernel⟩
abbrev s_wave : Stmt := top 3
theorem sc_wave : FnScope ["size", "price", "through", "starts", "goals", "numbers", "ahead", "reached", "cell", "total", "goal", "way"] ["size", "price", "through", "starts", "goals"] (defScope s_wave) := ⟨rfl, rfl, rfl, by decide +kernel, rfl, by decide +kernel, by decide +kernel⟩
abbrev s__law_cell_at : Stmt := top 5
theorem sc__law_cell_at : FnScope ["_law_script", "_law_k"] ["_law_script", "_law_k"] (defScope s__law_cell_at) := ⟨rfl, rfl, rfl, by decide +kernel, rfl, by decide +kernel, by decide +kernel⟩
abbrev s__law_mixed : Stmt := top 6
theorem sc__law_mixed : FnScope ["_law_cell", "_law_k", "_law_number"] ["_law_cell", "_law_k"] (defScope s__law_mixed) := ⟨rfl, rfl, rfl, by decide +kernel, rfl, by decide +kernel, by decide +kernel⟩
abbrev s__law_prices : Stmt := top 7
theorem sc__law_prices : FnScope ["_law_cell", "_law_cells", "_law_mixed_here", "_law_times", "_law_found", "_law_rest", "_law_k", "_law_draw"] ["_law_cell", "_law_cells", "_law_mixed_here", "_law_times"] (defScope s__law_prices) := ⟨rfl, rfl, rfl, by decide +kernel, rfl, by decide +kernel, by decide +kernel⟩
abbrev s__law_field : Stmt := top 8
theorem sc__law_field : FnScope ["_law_script", "_law_cell", "_law_size", "_law_squares", "_law_k", "_law_cells", "_law_often", "_law_prices_here", "_law_changes"] ["_law_script"] (defScope s__law_field) := ⟨rfl, rfl, rfl, by decide +kernel, rfl, by decide +kernel, by decide +kernel⟩
abbrev s__law_some : Stmt := top 9
theorem sc__law_some : FnScope ["_law_script", "_law_at", "_law_cells", "_law_count", "_law_k"] ["_law_script", "_law_at", "_law_cells"] (defScope s__law_some) := ⟨rfl, rfl, rfl, by decide +kernel, rfl, by decide +kernel, by decide +kernel⟩
abbrev s__law_steps : Stmt := top 10
theorem sc__law_steps : FnScope ["_law_size", "_law_prices_here", "_law_changes", "_law_cell", "_law_x", "_law_y", "_law_z", "_law_found", "_law_spot", "_law_layer"] ["_law_size", "_law_prices_here", "_law_changes", "_law_cell"] (defScope s__law_steps) := ⟨rfl, rfl, rfl, by decide +kernel, rfl, by decide +kernel, by decide +kernel⟩
abbrev s__law_numbers : Stmt := top 11
theorem sc__law_numbers : FnScope ["_law_field_here", "_law_numbers_here", "_law_starts", "_law_size", "_law_cells", "_law_prices_here", "_law_changes", "_law_shown", "_law_cell", "_law_come", "_law_other", "_law_price"] ["_law_field_here", "_law_numbers_here", "_law_starts"] (defScope s__law_numbers) := ⟨rfl, rfl, rfl, by decide +kernel, rfl, by decide +kernel, by decide +kernel⟩
abbrev s__law_way : Stmt := top 12
theorem sc__law_way : FnScope ["_law_field_here", "_law_line", "_law_sums", "_law_goal", "_law_size", "_law_cells", "_law_prices_here", "_law_changes", "_law_k", "_law_leads"] ["_law_field_here", "_law_line", "_law_sums", "_law_goal"] (defScope s__law_way) := ⟨rfl, rfl, rfl, by decide +kernel, rfl, by decide +kernel, by decide +kernel⟩
abbrev s__law_told : Stmt := top 13
theorem sc__law_told : FnScope ["_law_field_here", "_law_found", "_law_starts", "_law_goals", "_law_size", "_law_cells", "_law_prices_here", "_law_changes", "_law_numbers_here", "_law_reached", "_law_cell", "_law_goal"] ["_law_field_here", "_law_found", "_law_starts", "_law_goals"] (defScope s__law_told) := ⟨rfl, rfl, rfl, by decide +kernel, rfl, by decide +kernel, by decide +kernel⟩
abbrev s_law : Stmt := top 14
theorem sc_law : FnScope ["_law_script", "_law_field_here", "_law_size", "_law_cells", "_law_prices_here", "_law_changes", "_law_starts", "_law_goals", "_law_handed", "_law_asked", "_law_spots", "_law_cell", "_law_price", "_law_through", "_law_found", "_law_again", "_law_numbers_here", "_law_more"] ["_law_script"] (defScope s_law) := ⟨rfl, rfl, rfl, by decide +kernel, rfl, by decide +kernel, by decide +kernel⟩
/-! ### the defs, the facts -/
def fn : List DefD := [
  ⟨("steps", none), "steps", "steps", defArgs s_steps, defBody s_steps, defScope s_steps, [], []⟩,
  ⟨("spread", none), "spread", "spread", defArgs s_spread, defBody s_spread, defScope s_spread, [], []⟩,
  ⟨("wave", none), "wave", "wave", defArgs s_wave, defBody s_wave, defScope s_wave, [], []⟩,
  ⟨("_law_cell_at", none), "_law_cell_at", "_law_cell_at", defArgs s__law_cell_at, defBody s__law_cell_at, defScope s__law_cell_at, [], []⟩,
  ⟨("_law_mixed", none), "_law_mixed", "_law_mixed", defArgs s__law_mixed, defBody s__law_mixed, defScope s__law_mixed, [], []⟩,
  ⟨("_law_prices", none), "_law_prices", "_law_prices", defArgs s__law_prices, defBody s__law_prices, defScope s__law_prices, [], []⟩,
  ⟨("_law_field", none), "_law_field", "_law_field", defArgs s__law_field, defBody s__law_field, defScope s__law_field, [], []⟩,
  ⟨("_law_some", none), "_law_some", "_law_some", defArgs s__law_some, defBody s__law_some, defScope s__law_some, [], []⟩,
  ⟨("_law_steps", none), "_law_steps", "_law_steps", defArgs s__law_steps, defBody s__law_steps, defScope s__law_steps, [], []⟩,
  ⟨("_law_numbers", none), "_law_numbers", "_law_numbers", defArgs s__law_numbers, defBody s__law_numbers, defScope s__law_numbers, [], []⟩,
  ⟨("_law_way", none), "_law_way", "_law_way", defArgs s__law_way, defBody s__law_way, defScope s__law_way, [], []⟩,
  ⟨("_law_told", none), "_law_told", "_law_told", defArgs s__law_told, defBody s__law_told, defScope s__law_told, [], []⟩,
  ⟨("law", none), "law", "law", defArgs s_law, defBody s_law, defScope s_law, [], []⟩]
def fa : List Fk := [
  (Fa.ok · (.glo "steps")),
  (Fa.ok · (.glo "spread")),
  (Fa.ok · (.glo "wave")),
  (Fa.ok · (.glo "_law_cell_at")),
  (Fa.ok · (.glo "_law_mixed")),
  (Fa.ok · (.glo "_law_prices")),
  (Fa.ok · (.glo "_law_field")),
  (Fa.ok · (.glo "_law_some")),
  (Fa.ok · (.glo "_law_steps")),
  (Fa.ok · (.glo "_law_numbers")),
  (Fa.ok · (.glo "_law_way")),
  (Fa.ok · (.glo "_law_told")),
  (Fa.ok · (.glo "law")),
  (Fa.ok · (.free "bool")),
  (Fa.ok · (.free "dict")),
  (Fa.ok · (.free "divmod")),
  (Fa.ok · (.free "int")),
  (Fa.ok · (.free "isinstance")),
  (Fa.ok · (.free "len")),
  (Fa.ok · (.free "list")),
  (Fa.ok · (.free "min")),
  (Fa.ok · (.free "range")),
  (Fa.ok · (.free "reversed")),
  (Fa.ok · (.free "tuple"))]
abbrev TT (K : PySem.W.Frag) (mg : Str → Option Value) : Prop := Txt fa fn K mg
section
variable {K : PySem.W.Frag} {mg : Str → Option Value}
theorem g_steps (T : TT K mg) : mg "steps" = some (.ref (ga K "steps")) := T.glo 0
theorem g_spread (T : TT K mg) : mg "spread" = some (.ref (ga K "spread")) := T.glo 1
theorem g_wave (T : TT K mg) : mg "wave" = some (.ref (ga K "wave")) := T.glo 2
theorem g__law_cell_at (T : TT K mg) : mg "_law_cell_at" = some (.ref (ga K "_law_cell_at")) := T.glo 3
theorem g__law_mixed (T : TT K mg) : mg "_law_mixed" = some (.ref (ga K "_law_mixed")) := T.glo 4
theorem g__law_prices (T : TT K mg) : mg "_law_prices" = some (.ref (ga K "_law_prices")) := T.glo 5
theorem g__law_field (T : TT K mg) : mg "_law_field" = some (.ref (ga K "_law_field")) := T.glo 6
theorem g__law_some (T : TT K mg) : mg "_law_some" = some (.ref (ga K "_law_some")) := T.glo 7
theorem g__law_steps (T : TT K mg) : mg "_law_steps" = some (.ref (ga K "_law_steps")) := T.glo 8
theorem g__law_numbers (T : TT K mg) : mg "_law_numbers" = some (.ref (ga K "_law_numbers")) := T.glo 9
theorem g__law_way (T : TT K mg) : mg "_law_way" = some (.ref (ga K "_law_way")) := T.glo 10
theorem g__law_told (T : TT K mg) : mg "_law_told" = some (.ref (ga K "_law_told")) := T.glo 11
theorem g_law (T : TT K mg) : mg "law" = some (.ref (ga K "law")) := T.glo 12
theorem z_bool (T : TT K mg) : mg "bool" = none := T.free 13
theorem z_dict (T : TT K mg) : mg "dict" = none := T.free 14
theorem z_divmod (T : TT K mg) : mg "divmod" = none := T.free 15
theorem z_int (T : TT K mg) : mg "int" = none := T.free 16
theorem z_isinstance (T : TT K mg) : mg "isinstance" = none := T.free 17
theorem z_len (T : TT K mg) : mg "len" = none := T.free 18
theorem z_list (T : TT K mg) : mg "list" = none := T.free 19
theorem z_min (T : TT K mg) : mg "min" = none := T.free 20
theorem z_range (T : TT K mg) : mg "range" = none := T.free 21
theorem z_reversed (T : TT K mg) : mg "reversed" = none := T.free 22
theorem z_tuple (T : TT K mg) : mg "tuple" = none := T.free 23
theorem d_steps (T : TT K mg) : ∃ fd, FunD K "steps" "steps" (defArgs s_steps) (defBody s_steps) (defScope s_steps) [] [] (ga K "steps") fd := T.c.def_ 0
theorem d_spread (T : TT K mg) : ∃ fd, FunD K "spread" "spread" (defArgs s_spread) (defBody s_spread) (defScope s_spread) [] [] (ga K "spread") fd := T.c.def_ 1
theorem d_wave (T : TT K mg) : ∃ fd, FunD K "wave" "wave" (defArgs s_wave) (defBody s_wave) (defScope s_wave) [] [] (ga K "wave") fd := T.c.def_ 2
theorem d__law_cell_at (T : TT K mg) : ∃ fd, FunD K "_law_cell_at" "_law_cell_at" (defArgs s__law_cell_at) (defBody s__law_cell_at) (defScope s__law_cell_at) [] [] (ga K "_law_cell_at") fd := T.c.def_ 3
theorem d__law_mixed (T : TT K mg) : ∃ fd, FunD K "_law_mixed" "_law_mixed" (defArgs s__law_mixed) (defBody s__law_mixed) (defScope s__law_mixed) [] [] (ga K "_law_mixed") fd := T.c.def_ 4
theorem d__law_prices (T : TT K mg) : ∃ fd, FunD K "_law_prices" "_law_prices" (defArgs s__law_prices) (defBody s__law_prices) (defScope s__law_prices) [] [] (ga K "_law_prices") fd := T.c.def_ 5
theorem d__law_field (T : TT K mg) : ∃ fd, FunD K "_law_field" "_law_field" (defArgs s__law_field) (defBody s__law_field) (defScope s__law_field) [] [] (ga K "_law_field") fd := T.c.def_ 6
theorem d__law_some (T : TT K mg) : ∃ fd, FunD K "_law_some" "_law_some" (defArgs s__law_some) (defBody s__law_some) (defScope s__law_some) [] [] (ga K "_law_some") fd := T.c.def_ 7
theorem d__law_steps (T : TT K mg) : ∃ fd, FunD K "_law_steps" "_law_steps" (defArgs s__law_steps) (defBody s__law_steps) (defScope s__law_steps) [] [] (ga K "_law_steps") fd := T.c.def_ 8
theorem d__law_numbers (T : TT K mg) : ∃ fd, FunD K "_law_numbers" "_law_numbers" (defArgs s__law_numbers) (defBody s__law_numbers) (defScope s__law_numbers) [] [] (ga K "_law_numbers") fd := T.c.def_ 9
theorem d__law_way (T : TT K mg) : ∃ fd, FunD K "_law_way" "_law_way" (defArgs s__law_way) (defBody s__law_way) (defScope s__law_way) [] [] (ga K "_law_way") fd := T.c.def_ 10
theorem d__law_told (T : TT K mg) : ∃ fd, FunD K "_law_told" "_law_told" (defArgs s__law_told) (defBody s__law_told) (defScope s__law_told) [] [] (ga K "_law_told") fd := T.c.def_ 11
theorem d_law (T : TT K mg) : ∃ fd, FunD K "law" "law" (defArgs s_law) (defBody s_law) (defScope s_law) [] [] (ga K "law") fd := T.c.def_ 12
end
end Pf
/-! CuI: further sources of loops, further operators. -/
namespace Cu
open PySem PySem.Spec PyProof.Rows L2
theorem kitAny_no {K : PySem.W.Frag} {t c : Value} {cs : List Value} {b : Bool} (h : PySem.W.kitOne K t c = some false) (h2 : PySem.W.kitAny K t cs = some b) : PySem.W.kitAny K t (c :: cs) = some b := by
  simp only [PySem.W.kitAny, h]; exact h2
theorem kitAny_yes {K : PySem.W.Frag} {t c : Value} {cs : List Value} (h : PySem.W.kitOne K t c = some true) : PySem.W.kitAny K t (c :: cs) = some true := by
  simp only [PySem.W.kitAny, h]
theorem ev_gref {X : Cx} {G : Gam} {S : Sto} {pos : Pos} {n : Str} {C : Addr} (hm : X.mg n = some (.ref C)) (hg : Gl X n := by rfl) (hd : (n == ("__debug__" : Str)) = false := by decide) : Ev X (.Name n pos) G S (.r (.ref C)) S := ev_glob (v := .ref C) hm rfl hg hd
/-- the data of a list, be it a datum or owned -/
def lsOf (S : Sto) : It → Option (List PyData)
  | .d (.list ds) => some ds
  | .o n => match S[n]? with
    | some (.lst xs) => ds? xs
    | _ => none
  | _ => none
theorem ds_map : ∀ (ds : List PyData), ds? (ds.map .d) = some ds
  | [] => rfl
  | d :: ds => by
    show (ds? (ds.map .d)).map (d :: ·) = _
    rw [ds_map ds]; rfl
theorem ls_own {S : Sto} {n : Nat} {ds : List PyData} (h : S[n]? = some (.lst (ds.map .d))) : lsOf S (.o n) = some ds := by
  show (match S[n]? with | some (.lst xs) => ds? xs | _ => none) = _
  rw [h]; exact ds_map ds
theorem len_own {S : Sto} {n : Nat} {xs : List It} (h : S[n]? = some (.lst xs)) : lenOf S (.o n) = some xs.length := by
  show (match S[n]? with | some (.lst xs) => some xs.length | _ => none) = _
  rw [h]
theorem ls_rd {K : PySem.W.Frag} {M : List Addr} {H : Hp} {S : Sto} {v : V} {ds : List PyData} (s : StoreOk K M H S) {r : It} (hv : VRep K M H v r) (h : lsOf S r = some ds) : ∃ a xs, v = .ref a ∧ Rd H a (.lst xs) ∧ FzAll M H xs ds := by
  cases r with
  | d x =>
    cases x with
    | list ds' =>
      cases h
      have hv' : Fz M H v (.list ds) := hv
      cases hv' with
      | lst h1 h2 => exact ⟨_, _, rfl, h1.1, h2⟩
    | _ => cases h
  | o n =>
    obtain ⟨a, ha, rfl⟩ := hv
    have h' : (match S[n]? with | some (.lst xs) => ds? xs | _ => none) = some ds := h
    cases e : S[n]? with
    | none => rw [e] at h'; cases h'
    | some w =>
      rw [e] at h'
      cases w with
      | lst xs =>
        obtain ⟨vs, h1, h2⟩ := s.rep n a _ ha e
        exact ⟨a, vs, rfl, .inl h1, fz_all h' h2⟩
      | dT _ => cases h'
      | dK _ => cases h'
      | ins _ _ => cases h'
      | tup _ => cases h'
      | lkT _ _ _ => cases h'
      | lkK _ _ _ => cases h'
      | tbl _ _ => cases h'
      | tblN _ _ => cases h'
      | fn _ _ => cases h'
      | gone => cases h'
  | r _ => cases h
  | s _ => cases h
theorem ds_inv : ∀ {xs : List It} {ds : List PyData}, ds? xs = some ds → xs = ds.map .d
  | [], ds, h => by cases h; rfl
  | .d x :: rs, ds, h => by
    cases q : ds? rs with
    | none => rw [show ds? (.d x :: rs) = (ds? rs).map (x :: ·) from rfl, q] at h; cases h
    | some ds' =>
      rw [show ds? (.d x :: rs) = (ds? rs).map (x :: ·) from rfl, q] at h
      cases h
      rw [ds_inv q]; rfl
  | .o _ :: _, _, h => by cases h
  | .r _ :: _, _, h => by cases h
  | .s _ :: _, _, h => by cases h
theorem ls_inv {S : Sto} {r : It} {ds : List PyData} (h : lsOf S r = some ds) : r = .d (.list ds) ∨ ∃ n, r = .o n ∧ S[n]? = some (.lst (ds.map .d)) := by
  cases r with
  | d x =>
    cases x with
    | list ds' => cases h; exact .inl rfl
    | _ => cases h
  | o n =>
    have h' : (match S[n]? with | some (.lst xs) => ds? xs | _ => none) = some ds := h
    cases e : S[n]? with
    | none => rw [e] at h'; cases h'
    | some w =>
      rw [e] at h'
      cases w with
      | lst xs => exact .inr ⟨n, rfl, (ds_inv h' ▸ e : S[n]? = _)⟩
      | dT _ => cases h'
      | dK _ => cases h'
      | ins _ _ => cases h'
      | tup _ => cases h'
      | lkT _ _ _ => cases h'
      | lkK _ _ _ => cases h'
      | tbl _ _ => cases h'
      | tblN _ _ => cases h'
      | fn _ _ => cases h'
      | gone => cases h'
  | r _ => cases h
  | s _ => cases h
theorem ls_app {S : Sto} {r : It} {ds : List PyData} (h : lsOf S r = some ds) (L : Sto) : lsOf (S ++ L) r = some ds := by
  rcases ls_inv h with rfl | ⟨n, rfl, e⟩
  · exact h
  · exact ls_own (by rw [List.getElem?_append_left (List.getElem?_eq_some_iff.mp e).1]; exact e)
theorem ls_len {S : Sto} {r : It} {ds : List PyData} (h : lsOf S r = some ds) : lenOf S r = some ds.length := by
  rcases ls_inv h with rfl | ⟨n, rfl, e⟩
  · rfl
  · rw [len_own e, List.length_map]
section
variable {X : Cx} {W : WX} {k j : Nat} {G G1 G2 : Gam} {S S1 S2 S3 : Sto} {P : Post} {e a b o iter tg elt : Expr} {es ifs : List Expr} {r y z r' : It} {rs : List It} {pos pos' p apos cpos tpos : Pos} {st : Stmt} {sts body : List Stmt} {ds ds' : List PyData} {C : Sto → Prop} {m n : Int}
theorem Ev.is2 (h : Ev X e G S r S1) (hr : r = r') (hs : S1 = S2) : Ev X e G S r' S2 := by subst hr hs; exact h
/-! ### sources -/
def rngC (lo c : Int) (n : Nat) : List It := (List.range n).map fun (i : Nat) => It.d (.int (lo + (i : Int) * c))
theorem rngC_len (lo c : Int) (n : Nat) : (rngC lo c n).length = n := by unfold rngC; rw [List.length_map, List.length_range]
theorem rngC_at {lo c : Int} {n i : Nat} {r : It} (h : (rngC lo c n)[i]? = some r) : i < n ∧ r = .d (.int (lo + (i : Int) * c)) := by
  unfold rngC at h
  obtain ⟨hl, he⟩ := List.getElem?_eq_some_iff.mp h
  rw [List.length_map, List.length_range] at hl
  refine ⟨hl, ?_⟩
  rw [← he, List.getElem_map, List.getElem_range]
theorem wk_rangeC {K : PySem.W.Frag} {M1 : List Addr} {H1 : Hp} {lo c : Int} {n : Nat} : Wk K (Itc lo c n) anyS M1 H1 (rngC lo c n) where
  go := fun i M' H' S' hi e s _ => by rw [rngC_len] at hi; exact hi
  yl := fun i M' H' S' x H2 r hr e s _ y => by
    obtain ⟨rfl, rfl⟩ := y
    obtain ⟨_, rfl⟩ := rngC_at hr
    exact ⟨Ext.refl, s, Fz.int _⟩
  st := fun i M' H' S' hi e s _ => by rw [rngC_len] at hi; exact hi
/-- range(a, b, c) -/
theorem evi_range3 {lo hi c : Int} {n : Nat} {a1 a2 a3 : Expr} (hm : X.mg "range" = none) (h1 : Ev X a1 G S (.d (.int lo)) S1) (h2 : Ev X a2 G S1 (.d (.int hi)) S2) (h3 : Ev X a3 G S2 (.d (.int c)) S3) (hb : RgC lo hi c n)
    (hR : Gl X "range" := by rfl) (hst : starEach [a1, a2, a3] X.env = (false, eval a1 X.env) :: starEach [a2, a3] X.env := by rfl) (hst2 : starEach [a2, a3] X.env = (false, eval a2 X.env) :: starEach [a3] X.env := by rfl) (hst3 : starEach [a3] X.env = (false, eval a3 X.env) :: starEach [] X.env := by rfl)
    (hpl : (backTo pos' (starEach [a2, a3] X.env)).any (·.1) = false := by rfl) : EvI X tg (.Call (.Name "range" p) [a1, a2, a3] [] pos') G S (rngC lo c n) anyS S3 :=
  ⟨_, pi_range3 hR hm pa_s hst hpl, fun M σ H R s q => (eva_cons h1 (eva_cons h2 (eva_cons h3 eva_nil hst3) hst2) hst) M σ H _ s fun vs M1 H1 e1 t1 r1 => by
    cases r1 with
    | cons q1 r1 =>
      cases r1 with
      | cons q2 r1 =>
        cases r1 with
        | cons q3 r1 =>
          cases r1
          exact ⟨lo, hi, c, n, by rw [vr_int q1, vr_int q2, vr_int q3], hb, q M1 H1 _ e1 t1 wk_rangeC⟩⟩
theorem wk_enum {K : PySem.W.Frag} {M1 : List Addr} {H1 : Hp} {ad : Addr} {xs : List V} (hL : NdL M1 H1 ad xs) (hA : FzAll M1 H1 xs ds) : Wk K (Ite K ad) anyS M1 H1 (ds.zipIdx.map fun x => It.d (.tuple [.int (x.2 : Nat), x.1])) where
  go := fun i M' H' S' hi e s _ => ⟨xs, xs[i]'(by rw [fz_len hA]; simpa using hi), (hL.ext e).sq, List.getElem?_eq_getElem _⟩
  yl := fun i M' H' S' x H2 r hr e s _ y => by
    obtain ⟨T, u, rfl, hT, rfl, y⟩ := y
    have hx := y xs (hL.ext e).sq
    obtain ⟨d, h1, h2⟩ := fz_at hA hx
    rw [List.getElem?_map, List.getElem?_zipIdx, h1] at hr
    cases hr
    have e2 : Ext M' H' M' (upd H' T (.tup [.int ((0 + i : Nat) : Int), u])) := Ext.fresh hT
    rw [Nat.zero_add] at e2
    refine ⟨e2, s.fresh hT, ?_⟩
    show Fz M' _ (.ref T) (.tuple [.int ((0 + i : Nat) : Int), d])
    rw [Nat.zero_add]
    exact Fz.tup ⟨upd_same, s.nin hT⟩ (.cons (Fz.int _) (.cons (Fz.ext e2 (Fz.ext e h2)) .nil))
  st := fun i M' H' S' hi e s _ => ⟨xs, (hL.ext e).sq, by rw [fz_len hA]; simpa using hi⟩
/-- enumerate(xs), a list of data -/
theorem evi_enum {elts : List Expr} {kk : Nat} {a1 : Expr} (hm : X.mg "enumerate" = none) (hi : Ev X a1 G S (.d (.list ds)) S1) (hg : Gl X "enumerate" := by rfl) (hst : starEach [a1] X.env = [(false, eval a1 X.env)] := by rfl) :
    EvI X (.Tuple elts kk tpos) (.Call (.Name "enumerate" p) [a1] [] pos') G S (ds.zipIdx.map fun x => It.d (.tuple [.int (x.2 : Nat), x.1])) anyS S1 :=
  ⟨_, pi_enum hg hm pa_s hst, fun M σ H R s q => (eva_cons hi eva_nil hst) M σ H _ s fun vs M1 H1 e1 t1 r1 => by
    cases r1 with
    | cons q1 r1 =>
      cases r1
      have hv' : Fz M1 H1 _ (.list ds) := q1
      cases hv' with
      | lst h1 h2 => exact ⟨_, _, rfl, h1.sq, q M1 H1 _ e1 t1 (wk_enum h1 h2)⟩⟩
theorem wk_zip {K : PySem.W.Frag} {M1 : List Addr} {H1 : Hp} {ad bd : Addr} {xs ys : List V} (hL : NdL M1 H1 ad xs) (hA : FzAll M1 H1 xs ds) (hL' : NdL M1 H1 bd ys) (hA' : FzAll M1 H1 ys ds') : Wk K (Itz K ad bd) anyS M1 H1 ((ds.zip ds').map fun x => It.d (.tuple [x.1, x.2])) where
  go := fun i M' H' S' hi e s _ => by
    have l1 := fz_len hA
    have l2 := fz_len hA'
    have hi' : i < min ds.length ds'.length := by simpa using hi
    exact ⟨xs, ys, xs[i]'(by omega), ys[i]'(by omega), (hL.ext e).sq, (hL'.ext e).sq, List.getElem?_eq_getElem _, List.getElem?_eq_getElem _⟩
  yl := fun i M' H' S' x H2 r hr e s _ y => by
    obtain ⟨T, u, u', rfl, hT, rfl, y, y'⟩ := y
    have hx := y xs (hL.ext e).sq
    have hx' := y' ys (hL'.ext e).sq
    obtain ⟨d, h1, h2⟩ := fz_at hA hx
    obtain ⟨d', h1', h2'⟩ := fz_at hA' hx'
    have ez : (ds.zip ds')[i]? = some (d, d') := by rw [List.getElem?_zip_eq_some]; exact ⟨h1, h1'⟩
    rw [List.getElem?_map, ez] at hr
    cases hr
    have e2 : Ext M' H' M' (upd H' T (.tup [u, u'])) := Ext.fresh hT
    exact ⟨e2, s.fresh hT, Fz.tup ⟨upd_same, s.nin hT⟩ (.cons (Fz.ext e2 (Fz.ext e h2)) (.cons (Fz.ext e2 (Fz.ext e h2')) .nil))⟩
  st := fun i M' H' S' hi e s _ => ⟨xs, ys, (hL.ext e).sq, (hL'.ext e).sq, by
    have l1 := fz_len hA
    have l2 := fz_len hA'
    have hi' : min ds.length ds'.length ≤ i := by simpa using hi
    omega⟩
/-- zip(xs, ys), lists of data -/
theorem evi_zip {elts : List Expr} {kk : Nat} {a1 a2 : Expr} (hm : X.mg "zip" = none) (h1 : Ev X a1 G S (.d (.list ds)) S1) (h2 : Ev X a2 G S1 (.d (.list ds')) S2) (hg : Gl X "zip" := by rfl) (hst : starEach [a1, a2] X.env = (false, eval a1 X.env) :: starEach [a2] X.env := by rfl)
    (hst2 : starEach [a2] X.env = (false, eval a2 X.env) :: starEach [] X.env := by rfl) (hpl : (backTo pos' (starEach [a2] X.env)).any (·.1) = false := by rfl) :
    EvI X (.Tuple elts kk tpos) (.Call (.Name "zip" p) [a1, a2] [] pos') G S ((ds.zip ds').map fun x => It.d (.tuple [x.1, x.2])) anyS S2 :=
  ⟨_, pi_zip hg hm pa_s hst hpl, fun M σ H R s q => (eva_cons h1 (eva_cons h2 eva_nil hst2) hst) M σ H _ s fun vs M1 H1 e1 t1 r1 => by
    cases r1 with
    | cons q1 r1 =>
      cases r1 with
      | cons q2 r1 =>
        cases r1
        have hv : Fz M1 H1 _ (.list ds) := q1
        have hv' : Fz M1 H1 _ (.list ds') := q2
        cases hv with
        | lst h1 h2 =>
          cases hv' with
          | lst h3 h4 => exact ⟨_, _, _, _, rfl, h1.sq, h3.sq, q M1 H1 _ e1 t1 (wk_zip h1 h2 h3 h4)⟩⟩
/-- the signs of a text -/
def signs (x : Str) : List PyData := x.cps.toList.map fun c => .str ⟨#[c]⟩
theorem signs_len {x : Str} : (signs x).length = x.length := by unfold signs; rw [List.length_map, Array.length_toList]; rfl
theorem wk_str {K : PySem.W.Frag} {M1 : List Addr} {H1 : Hp} {x : Str} : Wk K (Its x) anyS M1 H1 ((signs x).map .d) where
  go := fun i M' H' S' hi e s _ => by rw [List.length_map, signs_len] at hi; exact hi
  yl := fun i M' H' S' v H2 r hr e s _ y => by
    obtain ⟨rfl, c, hc, rfl⟩ := y
    unfold signs at hr
    rw [List.getElem?_map, List.getElem?_map, Array.getElem?_toList, hc] at hr
    cases hr
    exact ⟨Ext.refl, s, Fz.str _⟩
  st := fun i M' H' S' hi e s _ => by rw [List.length_map, signs_len] at hi; exact hi
theorem evi_str {x : Str} (hi : Ev X iter G S (.d (.str x)) S1) : EvI X tg iter G S ((signs x).map .d) anyS S1 := ⟨_, pi_str pe_s, fun M σ H R s q => hi M σ H _ s fun v M1 H1 e1 t1 r1 => ⟨x, vr_str r1, q M1 H1 _ e1 t1 wk_str⟩⟩
theorem wk_rev {K : PySem.W.Frag} {M1 : List Addr} {H1 : Hp} {ad : Addr} {xs : List V} (hL : NdL M1 H1 ad xs) (hA : FzAll M1 H1 xs ds) : Wk K (Itv K ad xs.length) anyS M1 H1 (ds.reverse.map .d) where
  go := fun i M' H' S' hi e s _ => by
    have l1 := fz_len hA
    have hi' : i < ds.length := by simpa using hi
    exact ⟨by omega, xs, xs[xs.length - 1 - i]'(by omega), (hL.ext e).sq, List.getElem?_eq_getElem _⟩
  yl := fun i M' H' S' x H2 r hr e s _ y => by
    obtain ⟨rfl, y⟩ := y
    have hx := y xs (hL.ext e).sq
    obtain ⟨d, h1, h2⟩ := fz_at hA hx
    have l1 := fz_len hA
    obtain ⟨hl, _⟩ := List.getElem?_eq_some_iff.mp hr
    have hl' : i < ds.length := by simpa using hl
    rw [List.getElem?_map, List.getElem?_reverse hl', ← l1, h1] at hr
    cases hr
    exact ⟨Ext.refl, s, Fz.ext e h2⟩
  st := fun i M' H' S' hi e s _ => by
    have l1 := fz_len hA
    have hi' : ds.length ≤ i := by simpa using hi
    show xs.length ≤ i
    omega
/-- reversed(xs) -/
theorem evi_rev {a1 : Expr} (hm : X.mg "reversed" = none) (hi : Ev X a1 G S (.d (.list ds)) S1) (hg : Gl X "reversed" := by rfl) (hst : starEach [a1] X.env = [(false, eval a1 X.env)] := by rfl) :
    EvI X tg (.Call (.Name "reversed" p) [a1] [] pos') G S (ds.reverse.map .d) anyS S1 :=
  ⟨_, pi_reversed hg hm pa_s hst, fun M σ H R s q => (eva_cons hi eva_nil hst) M σ H _ s fun vs M1 H1 e1 t1 r1 => by
    cases r1 with
    | cons q1 r1 =>
      cases r1
      have hv' : Fz M1 H1 _ (.list ds) := q1
      cases hv' with
      | lst h1 h2 => exact ⟨_, _, rfl, h1.sq, q M1 H1 _ e1 t1 (wk_rev h1 h2)⟩⟩
/-- a list of data, owned or not -/
theorem evi_ls (hi : Ev X iter G S r S1) (h : lsOf S1 r = some ds) : EvI X tg iter G S (ds.map .d) (fun S' => lsOf S' r = some ds) S1 := by
  rcases ls_inv h with rfl | ⟨n, rfl, e⟩
  · obtain ⟨wi, h1, h2⟩ := evi_list (tg := tg) hi
    exact ⟨wi, h1, fun M σ H R s q => h2 M σ H R s fun M1 H1 J e1 t1 w1 => q M1 H1 J e1 t1 ⟨fun i M' H' S' a b c _ => w1.go i M' H' S' a b c trivial, fun i M' H' S' x H2 r a b c _ => w1.yl i M' H' S' x H2 r a b c trivial, fun i M' H' S' a b c _ => w1.st i M' H' S' a b c trivial⟩⟩
  · obtain ⟨wi, h1, h2⟩ := evi_own (tg := tg) hi e
    have conv : ∀ S' : Sto, lsOf S' (.o n) = some ds → S'[n]? = some (.lst (ds.map .d)) := fun S' h' => by
      rcases ls_inv h' with z | ⟨m, z, e'⟩
      · cases z
      · cases z; exact e'
    exact ⟨wi, h1, fun M σ H R s q => h2 M σ H R s fun M1 H1 J e1 t1 w1 => q M1 H1 J e1 t1 ⟨fun i M' H' S' a b c d => w1.go i M' H' S' a b c (conv _ d), fun i M' H' S' x H2 r a b c d => w1.yl i M' H' S' x H2 r a b c (conv _ d), fun i M' H' S' a b c d => w1.st i M' H' S' a b c (conv _ d)⟩⟩
/-- xs[i], owned or not -/
theorem ev_ixA {d : PyData} (ha : Ev X a G S r S1) (hb : Ev X b G S1 (.d (.int n)) S2) (hr : lsOf S2 r = some ds) (h : atI ds n = some d) (hs : PlainIx b := by exact fun _ _ => rfl) : Ev X (.Subscript a b pos) G S (.d d) S2 := by
  rcases ls_inv hr with rfl | ⟨i, rfl, e⟩
  · exact ev_ixL ha hb h hs
  · refine ev_ixO ha hb e ?_ hs
    unfold atI at h ⊢
    rw [List.length_map]
    cases q : ixN ds.length n with
    | none => rw [q] at h; cases h
    | some l =>
      rw [q] at h
      show (ds.map It.d)[l]? = _
      rw [List.getElem?_map, show ds[l]? = some d from h]
      rfl
theorem ev_lenA (hm : X.mg "len" = none) (ha : Ev X a G S r S1) (h : lsOf S1 r = some ds) (hg : Gl X "len" := by rfl) (he : starEach [a] X.env = (false, eval a X.env) :: starEach [] X.env := by rfl) : Ev X (.Call (.Name "len" p) [a] [] pos) G S (.d (.int ds.length)) S1 := ev_len hm ha (ls_len h) hg he
/-! ### slices and sums of lists, owned or not -/
theorem ev_slA {lo hi : Option Expr} {il ih : Option Int} {p2 : Pos} (ha : Ev X a G S r S1) (hr : lsOf S1 r = some ds) (hl : EvP X lo G S1 il) (hh : EvP X hi G S1 ih) : Ev X (.Subscript a (.Slice lo hi none p2) pos) G S (.d (.list (cutD ds il ih))) S1 := fun M σ H Q s q =>
  toE (pe_slice sl_list pe_s po_tEP po_tEP) (ha M σ H _ s fun v M1 H1 e1 t1 r1 => hl.run t1 fun M2 H2 e2 t2 => hh.run t2 fun M3 H3 e3 t3 => by
    obtain ⟨ad, xs, rfl, h1, h2⟩ := ls_rd t3.sto ((r1.ext e2).ext e3) hr
    exact ⟨_, _, rfl, .inl h1, fun p hp => q _ M3 _ (((e1.trans e2).trans e3).trans (Ext.fresh hp)) (t3.fresh hp) (Fz.lst ⟨.inl upd_same, t3.sto.nin hp⟩ (FzAll.ext (Ext.fresh hp) (fz_cut h2)))⟩)
/-- a slice that is owned -/
theorem ev_slO {lo hi : Option Expr} {il ih : Option Int} {p2 : Pos} (ha : Ev X a G S r S1) (hr : lsOf S1 r = some ds) (hl : EvP X lo G S1 il) (hh : EvP X hi G S1 ih) : Ev X (.Subscript a (.Slice lo hi none p2) pos) G S (.o S1.length) (S1 ++ [.lst ((cutD ds il ih).map .d)]) := fun M σ H Q s q =>
  toE (pe_slice sl_list pe_s po_tEP po_tEP) (ha M σ H _ s fun v M1 H1 e1 t1 r1 => hl.run t1 fun M2 H2 e2 t2 => hh.run t2 fun M3 H3 e3 t3 => by
    obtain ⟨ad, xs, rfl, h1, h2⟩ := ls_rd t3.sto ((r1.ext e2).ext e3) hr
    refine ⟨_, _, rfl, .inl h1, fun p hp => ?_⟩
    have e4 : Ext M3 H3 (M3 ++ [p]) (upd H3 p (.lst (cutV xs il ih))) := Ext.own hp
    have s4 := t3.sto.own (w := .lst ((cutD ds il ih).map .d)) hp ⟨_, upd_same, VReps.ext e4 (fz_reps (fz_cut h2))⟩
    exact q _ _ _ (((e1.trans e2).trans e3).trans e4) (t3.mono e4 s4) ⟨p, by rw [← t3.sto.len, List.getElem?_append_right (Nat.le_refl _), Nat.sub_self]; rfl, rfl⟩)
theorem ev_catA (ha : Ev X a G S r S1) (hb : Ev X b G S1 r' S2) (hr : lsOf S2 r = some ds) (hr' : lsOf S2 r' = some ds') (hz : ds.length + ds'.length ≤ 1000000) : Ev X (.BinOp a .Add b pos) G S (.d (.list (ds ++ ds'))) S2 := ev_op op_catR ha hb (fun M H v u Q s hv hu q => by
  obtain ⟨ad, xs, rfl, h1, h2⟩ := ls_rd s hv hr
  obtain ⟨bd, ys, rfl, h3, h4⟩ := ls_rd s hu hr'
  exact ⟨_, _, _, _, rfl, rfl, h1, h3, by rw [fz_len h2, fz_len h4, sizeLine_eq]; omega, fun p hp => q _ M _ (Ext.fresh hp) (s.fresh hp) (Fz.lst ⟨.inl upd_same, s.nin hp⟩ (FzAll.ext (Ext.fresh hp) (fz_app h2 h4)))⟩)
theorem fz_rep {M : List Addr} {H : Hp} {vs : List V} (h : FzAll M H vs ds) : ∀ (i : Nat), FzAll M H (List.replicate i vs).flatten (List.replicate i ds).flatten
  | 0 => .nil
  | i + 1 => by
    rw [List.replicate_succ, List.replicate_succ, List.flatten_cons, List.flatten_cons]
    exact fz_app h (fz_rep h i)
/-- xs * n, xs owned -/
theorem ev_repO {i : Nat} (ha : Ev X a G S (.o i) S1) (hb : Ev X b G S1 (.d (.int n)) S2) (hi : S2[i]? = some (.lst (ds.map .d))) (h1 : -(2 ^ 63) ≤ n) (h2 : n < 2 ^ 63) (hz : ds.length * n.toNat ≤ 1000000) : Ev X (.BinOp a .Mult b pos) G S (.d (.list (List.replicate n.toNat ds).flatten)) S2 := ev_op op_rep ha hb (fun M H v u Q s hv hu q => by
  obtain ⟨ad, had, rfl⟩ := hv
  obtain ⟨ws, e1, e2⟩ := s.rep i ad _ had hi
  have e3 := fz_all (ds_map ds) e2
  rw [vr_int hu]
  exact ⟨ad, n, ws, rfl, rfl, e1, h1, h2, by rw [fz_len e3, sizeLine_eq]; omega, fun p hp => q _ M _ (Ext.fresh hp) (s.fresh hp) (Fz.lst ⟨.inl upd_same, s.nin hp⟩ (FzAll.ext (Ext.fresh hp) (fz_rep e3 _)))⟩)
/-- xs.extend(ys), ys owned -/
theorem ev_extend {i l : Nat} {xs ys : List It} (ho : Ev X o G S (.o i) S1) (hi : S1[i]? = some (.lst xs)) (ha : Ev X e G S1 (.o l) S2) (hi2 : S2[i]? = some (.lst xs)) (hl2 : S2[l]? = some (.lst ys)) (hz : xs.length + ys.length < 1000000) (hbase : attributeBase o "extend" X.env (eval o X.env) = eval o X.env := by rfl)
    (hfew : ((backTo cpos (starEach [e] X.env)).all (fun x => !x.1) && (backToKw cpos (keywordEach [] X.env)).all (fun x => x.1.isSome) && decide ([e].length + ([] : List Keyword).length + (if ([] : List Keyword).isEmpty then 0 else 1) < 30)) = true := by rfl)
    (hline : (apos.endLine == cpos.line) = true := by rfl) (hs : starEach [e] X.env = (false, eval e X.env) :: starEach [] X.env := by rfl) : Ev X (.Call (.Attribute o "extend" apos) [e] [] cpos) G S (.d .none) (S2.set i (.lst (xs ++ ys))) :=
  ev_bm PySem.F.plainAttrs_list PySem.F.slot_list_extend PySem.F.type_list_extend mt_extend ho (ty_own hi) (eva_cons ha eva_nil hs) (fun M H v vs Q s hv hvs q => by
    obtain ⟨u, rfl, hu⟩ := vr1 hvs
    obtain ⟨ad, had, rfl⟩ := hv
    obtain ⟨bd, hbd, rfl⟩ := hu
    obtain ⟨ws, e1, e2⟩ := s.rep i ad _ had hi2
    obtain ⟨us, f1, f2⟩ := s.rep l bd _ hbd hl2
    have e3 : Ext M H M (upd H ad (.lst (ws ++ us))) := Ext.put (List.mem_of_getElem? had)
    exact ⟨ad, bd, ws, us, rfl, rfl, e1, f1, by rw [e2.len, f2.len, sizeLine_eq]; omega, q .non M _ e3 (s.put had ⟨_, upd_same, VReps.append (VReps.ext e3 e2) (VReps.ext e3 f2)⟩) Fz.non⟩) hbase hfew hline hs rfl
/-! ### in, not in, of flat data -/
theorem evt_inT {x : PyData} (ha : Ev X a G S (.d x) S1) (hb : Ev X b G S1 (.d (.tuple ds)) S2) (hx : flatD x = true := by rfl) (hd : ds.all flatD = true := by rfl) (hm : behindInMarks .In b = false := by rfl) : EvT X (.Compare a [.In] [b] pos) G S (inV (toV x) (ds.map toV)) S2 := evt_cmp op_in_seq ha hb (rw_inFT (neg := false) hx hd) hm
theorem evt_notInT {x : PyData} (ha : Ev X a G S (.d x) S1) (hb : Ev X b G S1 (.d (.tuple ds)) S2) (hx : flatD x = true := by rfl) (hd : ds.all flatD = true := by rfl) (hm : behindInMarks .NotIn b = false := by rfl) : EvT X (.Compare a [.NotIn] [b] pos) G S (!inV (toV x) (ds.map toV)) S2 := evt_cmp op_notIn_seq ha hb (rw_inFT (neg := true) hx hd) hm
theorem evt_inL {x : PyData} (ha : Ev X a G S (.d x) S1) (hb : Ev X b G S1 (.d (.list ds)) S2) (hx : flatD x = true := by rfl) (hd : ds.all flatD = true := by rfl) (hm : behindInMarks .In b = false := by rfl) : EvT X (.Compare a [.In] [b] pos) G S (inV (toV x) (ds.map toV)) S2 := evt_cmp op_in_seq ha hb (rw_inF (neg := false) hx hd) hm
theorem evt_notInL {x : PyData} (ha : Ev X a G S (.d x) S1) (hb : Ev X b G S1 (.d (.list ds)) S2) (hx : flatD x = true := by rfl) (hd : ds.all flatD = true := by rfl) (hm : behindInMarks .NotIn b = false := by rfl) : EvT X (.Compare a [.NotIn] [b] pos) G S (!inV (toV x) (ds.map toV)) S2 := evt_cmp op_notIn_seq ha hb (rw_inF (neg := true) hx hd) hm
theorem ev_inT {x : PyData} (ha : Ev X a G S (.d x) S1) (hb : Ev X b G S1 (.d (.tuple ds)) S2) (hx : flatD x = true := by rfl) (hd : ds.all flatD = true := by rfl) (hm : behindInMarks .In b = false := by rfl) : Ev X (.Compare a [.In] [b] pos) G S (.d (.bool (inV (toV x) (ds.map toV)))) S2 := ev_cmp op_in_seq ha hb (rw_inFT (neg := false) hx hd) hm
theorem ev_notInT {x : PyData} (ha : Ev X a G S (.d x) S1) (hb : Ev X b G S1 (.d (.tuple ds)) S2) (hx : flatD x = true := by rfl) (hd : ds.all flatD = true := by rfl) (hm : behindInMarks .NotIn b = false := by rfl) : Ev X (.Compare a [.NotIn] [b] pos) G S (.d (.bool (!inV (toV x) (ds.map toV)))) S2 := ev_cmp op_notIn_seq ha hb (rw_inFT (neg := true) hx hd) hm
theorem inV_int {m : Int} {ns : List Int} : inV (.int m) (ns.map V.int) = decide (m ∈ ns) := by
  unfold inV
  induction ns with
  | nil => rfl
  | cons n ns ih =>
    rw [List.map_cons, List.any_cons, ih]
    show ((n == m) || _) = _
    by_cases h : n = m
    · subst h; simp
    · have h' : m ≠ n := fun e => h e.symm
      simp [h, h']
/-! ### texts -/
theorem ev_addS {x y : Str} (ha : Ev X a G S (.d (.str x)) S1) (hb : Ev X b G S1 (.d (.str y)) S2) (hz : x.length + y.length ≤ 1000000) : Ev X (.BinOp a .Add b pos) G S (.d (.str (x ++ y))) S2 := ev_op op_add_str ha hb fun M H v u Q s hv hu q =>
  ⟨x, y, vr_str hv, vr_str hu, by rw [sizeLine_eq]; omega, q _ M H Ext.refl s (Fz.str _)⟩
end
end Cu
/-! CuJ: sorted of data, comprehensions that own, bits, defaults. -/
namespace Cu
open PySem PySem.Spec PyProof.Rows L2
/-! ### sorted -/
def rSortD (K : PySem.W.Frag) : List V → Hp → VK → Prop := fun vs H Q => ∃ (a : Addr) (xs : List V) (ds : List PyData) (Rel : V → PyData → Prop), vs = [V.ref a] ∧ SqL K H a xs ∧ DpAll K H xs ds ∧ Paired Rel xs ds ∧ PySem.W.AllAlike ds ∧ PySem.W.Sortable ds ∧ (∀ d ∈ ds, d.depth ≤ 60) ∧
  ∀ (ys : List V) (p : Addr), Paired Rel ys (ds.mergeSort (PySem.W.dataLe false id)) → H p = none → Q (.ref p) (upd H p (.lst ys))
theorem each_of {Rel : V → PyData → Prop} : ∀ {xs : List V} {ds : List PyData} {us : List Value}, Vals xs us → Paired Rel xs ds → PySem.W.EachIs (fun u d => ∃ v, RelV v u ∧ Rel v d) us ds
  | _, _, _, .nil, .nil => .nil
  | _, _, _, .cons a t, .cons b s => .cons ⟨_, a, b⟩ (each_of t s)
theorem each_back {Rel : V → PyData → Prop} {us : List Value} {ds : List PyData} (h : PySem.W.EachIs (fun u d => ∃ v, RelV v u ∧ Rel v d) us ds) : ∃ ys, Vals ys us ∧ Paired Rel ys ds := by
  induction h with
  | nil => exact ⟨[], .nil, .nil⟩
  | cons a _ ih =>
    obtain ⟨v, h1, h2⟩ := a
    obtain ⟨ys, i1, i2⟩ := ih
    exact ⟨v :: ys, .cons h1 i1, .cons h2 i2⟩
theorem each_reads {s : Shared} {X : Cx} {pins : List (Addr × Obj)} {σ : Sig} {H : Hp} (I : Inv X pins σ H s) : ∀ {xs : List V} {ds : List PyData} {us : List Value}, Vals xs us → DpAll X.K H xs ds → PySem.W.EachIs (fun u d => ∃ as, Reads s.heap u (id d) as) us ds
  | [], _, _, r, h => by cases r; cases h; exact .nil
  | x :: xs, _, _, r, h => by
    cases r with
    | cons r1 r2 =>
      cases h with
      | cons h1 h2 => exact .cons (Dp.reads I _ _ _ h1 r1) (each_reads I r2 h2)
theorem Paired.len2 {α β : Type} {F : α → β → Prop} : ∀ {l1 : List α} {l2 : List β}, Paired F l1 l2 → l1.length = l2.length
  | _, _, .nil => rfl
  | _, _, .cons _ t => congrArg Nat.succ (Paired.len2 t)
theorem cr_sortD {X : Cx} (hu : X.A.units + 64 < cLine) : CallR X (.builtin "sorted") (rSortD X.K) := by
  intro pins s σ H vs us Q I r h
  obtain ⟨a, xs, ds, Rel, rfl, hs, hdp, hrel, hal, hso, hde, q⟩ := h
  obtain ⟨its, rv, hl, hz⟩ := I.list hs
  rw [Vals.ref1 r]
  have hlen : ds.length = its.length := by rw [← Paired.len2 hrel]; exact rv.length
  refine PySem.W.sorted_data (bs := ds) (enc := id) (vs := its) hl.isList (each_of rv hrel) (each_reads I rv hdp) (by rw [List.map_id]; exact hal) (by rw [List.map_id]; exact hso) (by rw [hlen, ← rv.length]; exact hz) (fun d hd => ?_) fun out h1 h2 => ?_
  · have := hde d hd
    show X.A.units + 2 + d.depth < cLine
    omega
  · obtain ⟨ys, hy, hyr⟩ := each_back h2
    obtain ⟨ep, he'⟩ := PyProof.Rows.sortedAll_at s.heap its out.toArray
    have hle : ys.length ≤ sizeLine := by rw [hy.length, h1, hlen, ← rv.length]; exact hz
    exact ⟨.ref _, upd H (s.heap.objs.size + 1) (.lst ys), I.laid (t' := s.toks) (fun _ _ => PyProof.Rows.sortedAll_old) (Nat.le_succ _) ⟨hle, out, ep, hy, he'⟩, rfl, q ys _ hyr (I.hok.fresh (Nat.le_succ _))⟩
theorem fz_pair {M : List Addr} {H : Hp} : ∀ {vs : List V} {ds : List PyData}, FzAll M H vs ds → Paired (fun v d => Fz M H v d) vs ds
  | [], _, h => by cases h; exact .nil
  | _ :: _, _, h => by
    cases h with
    | cons h1 h2 => exact .cons h1 (fz_pair h2)
theorem fz_unpair {M : List Addr} {H : Hp} : ∀ {vs : List V} {ds : List PyData}, Paired (fun v d => Fz M H v d) vs ds → FzAll M H vs ds
  | _, _, .nil => .nil
  | _, _, .cons h1 h2 => .cons h1 (fz_unpair h2)
section
variable {X : Cx} {W : WX} {k j : Nat} {G G1 G2 : Gam} {S S1 S2 S3 : Sto} {P : Post} {e a b o iter tg elt : Expr} {es ifs : List Expr} {r y z r' : It} {rs : List It} {pos pos' p apos cpos tpos : Pos} {st : Stmt} {sts body : List Stmt} {ds ds' : List PyData} {C : Sto → Prop} {m n : Int} {scope : Scope} {own : List (Str × Nat)}
def sortD (ds : List PyData) : List PyData := ds.mergeSort (PySem.W.dataLe false id)
/-- sorted(xs), a list of data -/
theorem ev_sorted (c : Cxo X W k) (hm : X.mg "sorted" = none) (ha : Ev X a G S r S1) (hr : lsOf S1 r = some ds) (hal : PySem.W.AllAlike ds) (hso : PySem.W.Sortable ds) (hde : ∀ d ∈ ds, d.depth ≤ 60) (hg : Gl X "sorted" := by rfl) (he : starEach [a] X.env = (false, eval a X.env) :: starEach [] X.env := by rfl) : Ev X (.Call (.Name "sorted" p) [a] [] pos) G S (.d (.list (sortD ds))) S1 :=
  ev_blt (cr_sortD c.hr.units) hm (by decide +kernel) (eva_cons ha eva_nil he) (fun M H vs Q s hvs q => by
    obtain ⟨v, rfl, hv⟩ := vr1 hvs
    obtain ⟨ad, xs, rfl, h1, h2⟩ := ls_rd s hv hr
    exact ⟨ad, xs, ds, _, rfl, .inl h1, FzAll.dp h2, fz_pair h2, hal, hso, hde, fun ys p hp hn => q _ M _ (Ext.fresh hn) (s.fresh hn) (Fz.lst ⟨.inl upd_same, s.nin hn⟩ (FzAll.ext (Ext.fresh hn) (fz_unpair hp)))⟩) hg (by decide) (by decide) he rfl
/-! ### whole numbers, further -/
theorem ev_bor (ha : Ev X a G S (.d (.int m)) S1) (hb : Ev X b G S1 (.d (.int n)) S2) : Ev X (.BinOp a .BitOr b pos) G S (.d (.int (Builtin.bitOr m n))) S2 := ev_op op_or ha hb rw_int
theorem ev_band (ha : Ev X a G S (.d (.int m)) S1) (hb : Ev X b G S1 (.d (.int n)) S2) : Ev X (.BinOp a .BitAnd b pos) G S (.d (.int (Builtin.bitAnd m n))) S2 := ev_op op_and ha hb rw_int
theorem ev_shl (ha : Ev X a G S (.d (.int m)) S1) (hb : Ev X b G S1 (.d (.int n)) S2) (h : CPow m n) : Ev X (.BinOp a .LShift b pos) G S (.d (.int (m * 2 ^ n.toNat))) S2 := ev_op op_shl ha hb (rw_intC h)
theorem ev_shr (ha : Ev X a G S (.d (.int m)) S1) (hb : Ev X b G S1 (.d (.int n)) S2) (h : 0 ≤ n) : Ev X (.BinOp a .RShift b pos) G S (.d (.int (m / 2 ^ n.toNat))) S2 := ev_op op_shr ha hb (rw_intC (D := fun _ j => 0 ≤ j) h)
theorem ev_inv (ha : Ev X a G S (.d (.int m)) S1) : Ev X (.UnaryOp .Invert a pos) G S (.d (.int (Builtin.bitNot m))) S1 := ev_un un_inv ha fun M H v Q s hv q => ⟨m, vr_int hv, q _ M H Ext.refl s (Fz.int _)⟩
theorem ev_divmod (hm : X.mg "divmod" = none) (ha : Ev X a G S (.d (.int m)) S1) (hb : Ev X b G S1 (.d (.int n)) S2) (h : CDiv m n) (hg : Gl X "divmod" := by rfl) (he : starEach [a, b] X.env = (false, eval a X.env) :: starEach [b] X.env := by rfl) (he2 : starEach [b] X.env = (false, eval b X.env) :: starEach [] X.env := by rfl)
    (hpl : (backTo pos (starEach [b] X.env)).any (·.1) = false := by rfl) : Ev X (.Call (.Name "divmod" p) [a, b] [] pos) G S (.d (.tuple [.int (m / n), .int (m % n)])) S2 :=
  ev_blt call_divmod hm (by decide +kernel) (eva_cons ha (eva_cons hb eva_nil he2) he) (fun M H vs Q s hvs q => by
    obtain ⟨v, u, rfl, hv, hu⟩ := vr2 hvs
    rw [vr_int hv, vr_int hu]
    exact ⟨m, n, rfl, h, fun p hp => q _ M _ (Ext.fresh hp) (s.fresh hp) (Fz.tup ⟨upd_same, s.nin hp⟩ (.cons (Fz.int _) (.cons (Fz.int _) .nil)))⟩) hg (by decide) (by decide) he hpl
theorem ev_abs (hm : X.mg "abs" = none) (ha : Ev X a G S (.d (.int m)) S1) (hg : Gl X "abs" := by rfl) (he : starEach [a] X.env = (false, eval a X.env) :: starEach [] X.env := by rfl) : Ev X (.Call (.Name "abs" p) [a] [] pos) G S (.d (.int (if m < 0 then -m else m))) S1 :=
  ev_blt call_abs hm (by decide +kernel) (eva_cons ha eva_nil he) (fun M H vs Q s hvs q => by
    obtain ⟨v, rfl, hv⟩ := vr1 hvs
    exact ⟨m, by rw [vr_int hv], q _ M H Ext.refl s (Fz.int _)⟩) hg (by decide) (by decide) he rfl
theorem ev_max2 (c : Cxo X W k) (hm : X.mg "max" = none) (ha : Ev X a G S (.d (.int m)) S1) (hb : Ev X b G S1 (.d (.int n)) S2) (hg : Gl X "max" := by rfl) (he : starEach [a, b] X.env = (false, eval a X.env) :: starEach [b] X.env := by rfl) (he2 : starEach [b] X.env = (false, eval b X.env) :: starEach [] X.env := by rfl)
    (hpl : (backTo pos (starEach [b] X.env)).any (·.1) = false := by rfl) : Ev X (.Call (.Name "max" p) [a, b] [] pos) G S (.d (.int (max m n))) S2 :=
  ev_blt (call_max2 c.calm) hm (by decide +kernel) (eva_cons ha (eva_cons hb eva_nil he2) he) (fun M H vs Q s hvs q => by
    obtain ⟨v, u, rfl, hv, hu⟩ := vr2 hvs
    rw [vr_int hv, vr_int hu]
    refine ⟨m, n, rfl, ?_⟩
    rw [show (if n > m then n else m) = max m n by split <;> omega]
    exact q _ M H Ext.refl s (Fz.int _)) hg (by decide) (by decide) he hpl
theorem ev_min2 (c : Cxo X W k) (hm : X.mg "min" = none) (ha : Ev X a G S (.d (.int m)) S1) (hb : Ev X b G S1 (.d (.int n)) S2) (hg : Gl X "min" := by rfl) (he : starEach [a, b] X.env = (false, eval a X.env) :: starEach [b] X.env := by rfl) (he2 : starEach [b] X.env = (false, eval b X.env) :: starEach [] X.env := by rfl)
    (hpl : (backTo pos (starEach [b] X.env)).any (·.1) = false := by rfl) : Ev X (.Call (.Name "min" p) [a, b] [] pos) G S (.d (.int (min m n))) S2 :=
  ev_blt (call_min2 c.calm) hm (by decide +kernel) (eva_cons ha (eva_cons hb eva_nil he2) he) (fun M H vs Q s hvs q => by
    obtain ⟨v, u, rfl, hv, hu⟩ := vr2 hvs
    rw [vr_int hv, vr_int hu]
    refine ⟨m, n, rfl, ?_⟩
    rw [show (if n < m then n else m) = min m n by split <;> omega]
    exact q _ M H Ext.refl s (Fz.int _)) hg (by decide) (by decide) he hpl
/-- tuple(xs) of a list of data -/
theorem ev_tupleL (hm : X.mg "tuple" = none) (ha : Ev X a G S r S1) (hr : lsOf S1 r = some ds) (hg : Gl X "tuple" := by rfl) (he : starEach [a] X.env = (false, eval a X.env) :: starEach [] X.env := by rfl) : Ev X (.Call (.Name "tuple" p) [a] [] pos) G S (.d (.tuple ds)) S1 := ev_ty call_tuple_of hm (by decide +kernel) (eva_cons ha eva_nil he) (fun M H vs Q s hvs q => by
  obtain ⟨v, rfl, hv⟩ := vr1 hvs
  obtain ⟨ad, xs, rfl, h1, h2⟩ := ls_rd s hv hr
  exact ⟨_, _, rfl, .inl ⟨.inl h1, fun l hl => q _ M _ (Ext.fresh hl) (s.fresh hl) (Fz.tup ⟨upd_same, s.nin hl⟩ (FzAll.ext (Ext.fresh hl) h2))⟩⟩) hg (by decide) (by decide) he rfl
theorem ev_tupleT (hm : X.mg "tuple" = none) (ha : Ev X a G S (.d (.tuple ds)) S1) (hg : Gl X "tuple" := by rfl) (he : starEach [a] X.env = (false, eval a X.env) :: starEach [] X.env := by rfl) : Ev X (.Call (.Name "tuple" p) [a] [] pos) G S (.d (.tuple ds)) S1 := ev_ty call_tuple_of hm (by decide +kernel) (eva_cons ha eva_nil he) (fun M H vs Q s hvs q => by
  obtain ⟨v, rfl, hv⟩ := vr1 hvs
  have hv' : Fz M H v (.tuple ds) := hv
  cases hv' with
  | tup h1 h2 => exact ⟨_, _, rfl, .inr ⟨h1.sq, q _ M H Ext.refl s (Fz.tup h1 h2)⟩⟩) hg (by decide) (by decide) he rfl
/-! ### a comprehension whose list is owned -/
structure LcOwn (X : Cx) (scope : Scope) (own : List (Str × Nat)) (elt tg iter : Expr) (ifs : List Expr) (G : Gam) (S : Sto) (l : Nat) (S2 : Sto) : Prop where
  ex : ∃ (wi : TI) (g : TG), PI X tg iter wi ∧ (∀ s H C cl fp, PG (blkX X scope s H C cl fp) tg g) ∧ ∀ (M : List Addr) (σ : Sig) (H : Hp) (Q : VK), Stt X.K M H S G σ → (∀ v M' H', Ext M H M' H' → Stt X.K M' H' S2 G σ → VRep X.K M' H' v (.o l) → Q v H') →
      tLc wi g (tTs X scope ifs) (tEl X scope elt) (own.map (·.2)) σ H Q
/-- J by the turn and the whole store, the new list among it -/
theorem lc_own {bind : It → Gam → Option Gam} {C : Sto → Prop} (c : Cxo X W k) (hi : EvI X tg iter G S rs C S1) (ht : TgOk X scope tg (own.map (·.2)) bind) (J : Nat → Sto → Prop) (h0 : J 0 (S1 ++ [.lst []])) (hC : ∀ i S', J i S' → C S')
    (hs : ∀ i r S', rs[i]? = some r → J i S' → ∃ G' b, bind r (wipeG G (own.map (·.2))) = some G' ∧ (∀ s H C cl fp, EvTs (blkX X scope s H C cl fp) ifs G' S' b) ∧
      (b = true → ∃ y S3 acc, (∀ s H C cl fp, Ev (blkX X scope s H C cl fp) elt G' S' y S3) ∧ S3[S1.length]? = some (.lst acc) ∧ acc.length < 1000000 ∧ J (i + 1) (S3.set S1.length (.lst (acc ++ [y])))) ∧ (b = false → J (i + 1) S'))
    (hd : ∀ S', J rs.length S' → S' = S2) : LcOwn X scope own elt tg iter ifs G S S1.length S2 := by
  obtain ⟨g, hpg, hg⟩ := ht.ex
  obtain ⟨wi, hpi, hw⟩ := hi
  refine ⟨wi, g, hpi, hpg, fun M σ H Q s q => hw M σ H _ s fun M1 H1 Jt e1 t1 wk => ?_⟩
  intro D hD
  have eD : Ext M1 H1 (M1 ++ [D]) (upd H1 D (.lst [])) := Ext.own hD
  have ww : ∀ (vs us : List Nat) (σ : Sig), (∀ v ∈ us, v ∈ vs) → wipe (wipe σ us) vs = wipe σ vs := by
    intro vs us
    induction us with
    | nil => intro σ _; rfl
    | cons u r ih =>
      intro σ hm
      show wipe ((wipe σ r).set u none) vs = _
      rw [wipe_set _ (hm u List.mem_cons_self), ih σ fun v hv => hm v (List.mem_cons_of_mem _ hv)]
  have hDn : (M1 ++ [D])[S1.length]? = some D := by rw [← t1.sto.len, List.getElem?_append_right (Nat.le_refl _), Nat.sub_self]; rfl
  refine ⟨fun i m' H' => (m' = rs.length - i ∧ i ≤ rs.length) ∧ ∃ M' S', Ext (M1 ++ [D]) (upd H1 D (.lst [])) M' H' ∧ Stt X.K M' H' S' G σ ∧ J i S',
    ⟨_, ⟨rfl, Nat.zero_le _⟩, M1 ++ [D], _, Ext.refl, t1.mono eD (t1.sto.own (w := .lst ([] : List It)) hD ⟨[], upd_same, .nil⟩), h0⟩, fun i m' H' hw' => ?_⟩
  obtain ⟨⟨rfl, hi'⟩, M', S', e', t', hJ⟩ := hw'
  have cS := hC i S' hJ
  by_cases hlt : i < rs.length
  · refine .inr ⟨wk.go i _ H' _ hlt (eD.trans e') t'.sto cS, fun H2 => ∃ M2 S2, Ext (M1 ++ [D]) (upd H1 D (.lst [])) M2 H2 ∧ Stt X.K M2 H2 S2 G σ ∧ J (i + 1) S2, fun H2 q => ⟨rs.length - (i + 1), by omega, ⟨rfl, by omega⟩, q⟩, fun x H2 y => ?_⟩
    have hri : rs[i]? = some rs[i] := List.getElem?_eq_getElem hlt
    obtain ⟨ey, sy, vy⟩ := wk.yl i _ H' _ x H2 _ hri (eD.trans e') t'.sto cS y
    have ty : Stt X.K M' H2 S' G σ := t'.mono ey sy
    have e2 := e'.trans ey
    obtain ⟨G', b, hb, hT, hy, hn⟩ := hs i _ S' hri hJ
    refine hg M' H2 S' (wipeG G (own.map fun (p : Str × Nat) => p.2)) G' (wipe σ (own.map fun (p : Str × Nat) => p.2)) x rs[i] _ (ty.wipe _) vy hb ?_
    intro σ2 t2 w2
    refine ⟨w2.trans (ww _ _ _ fun _ h => h), ?_⟩
    have fin : ∀ (M3 : List Addr) (H3 : Hp), Ext M' H2 M3 H3 → Stt X.K M3 H3 S' G' σ2 → (if b = true then tEl X scope elt σ2 H3 fun y H4 => ∃ acc, H4 D = some (.lst acc) ∧ acc.length < sizeLine ∧ ∃ M2 S2, Ext (M1 ++ [D]) (upd H1 D (.lst [])) M2 (upd H4 D (.lst (acc ++ [y]))) ∧ Stt X.K M2 (upd H4 D (.lst (acc ++ [y]))) S2 G σ ∧ J (i + 1) S2
        else ∃ M2 S2, Ext (M1 ++ [D]) (upd H1 D (.lst [])) M2 H3 ∧ Stt X.K M2 H3 S2 G σ ∧ J (i + 1) S2) := by
      intro M3 H3 e3 t3
      cases b with
      | false => exact iteF ⟨M3, S', e2.trans e3, ty.mono e3 t3.sto, hn rfl⟩
      | true =>
        refine iteT fun s0 H0 C cl fp => ?_
        obtain ⟨y, S3, acc, hE, hSn, hacc, hJ3⟩ := hy rfl
        refine hE s0 H0 C cl fp M3 σ2 H3 _ t3 fun v4 M4 H4 e4 t4 r4 => ?_
        have hD4 : M4[S1.length]? = some D := (e4.get (e3.get (e2.get hDn)))
        obtain ⟨vs4, hv4, hr4⟩ := t4.sto.rep _ _ _ hD4 hSn
        have e5 : Ext M4 H4 M4 (upd H4 D (.lst (vs4 ++ [v4]))) := Ext.put (List.mem_of_getElem? hD4)
        have s5 := t4.sto.put (w := .lst (acc ++ [y])) hD4 ⟨vs4 ++ [v4], upd_same, VReps.append (VReps.ext e5 hr4) (.cons (r4.ext e5) .nil)⟩
        refine ⟨vs4, hv4, by rw [hr4.len, sizeLine_eq]; omega, M4, _, ((e2.trans e3).trans e4).trans e5, ty.mono ((e3.trans e4).trans e5) s5, hJ3⟩
    intro s0 H0 C cl fp
    have hT' := hT s0 H0 C cl fp
    cases ifs with
    | nil =>
      have hb1 : b = true := hT'
      have f0 := fin M' H2 Ext.refl t2
      rw [hb1] at f0
      exact f0
    | cons tt r =>
      cases r with
      | nil => exact hT' M' σ2 H2 _ t2 fun M4 H4 e4 t4 => fin M4 H4 e4 t4
      | cons _ _ => exact hT'.elim
  · have ei : i = rs.length := by omega
    subst ei
    refine .inl ⟨wk.st _ _ H' _ (Nat.le_refl _) (eD.trans e') t'.sto cS, ?_⟩
    obtain rfl := hd S' hJ
    exact q (.ref D) M' H' (e1.trans (eD.trans e')) t' ⟨D, e'.get hDn, rfl⟩
theorem ev_lcO {l : Nat} (c : Cxo X W k) (ok : BlkOk X.N X.env.scope scope own) (h : LcOwn X scope own elt tg iter ifs G S l S2) (hf : ∀ x, foldedSetIterable iter X.env x = pure x := by intro _; rfl) : Ev X (.ListComp elt [⟨tg, iter, ifs, 0⟩] scope pos) G S (.o l) S2 := fun M σ H Q s q => by
  obtain ⟨wi, g, hpi, hpg, h⟩ := h.ex
  exact toE (pe_lc c.calm c.nd hpi ok hpg pts_tTs pe_tEl hf) (h M σ H Q s q)
end
/-! ### defs with defaults -/
section
variable {P : Program} {w : World} {K : PySem.W.Frag} {mg : Str → Option Value} {base : Heap} {x qual : Str} {params : Arguments} {body : List Stmt} {scope : Scope} {f C : Addr} {ps : List Str} {k : Nat} {F : Fn} {dvs : List V} {drs : List It}
/-- n arguments are told, of the defaults the last ones behind the j-th fill up -/
theorem okM_ofD (c : Cls K C) (m : Meth K C x f) (hd : ∃ fd, FunD K x qual params body scope dvs [] f fd) (n j : Nat) (hne : dvs ≠ []) (hn : n + (dvs.length - j) = ps.length)
    (hb : ∀ (T : Addr) (kV doc pm : Value) (an : Option Addr) (cdv ct : Value) (us its : List Value), us.length = n → its.length = dvs.length →
      ∃ k, bindArgs (PySem.W.fnOf x qual params body scope (.ref T) kV doc pm an cdv ct) ⟨us, []⟩ = seqItems? (.ref T) >>= k ∧ k (some its.toArray) = pure (ps.zip (us ++ its.drop j)))
    (hr : ∀ M H, VReps K M H (dvs.drop j) drs)
    (h : ∀ fd, FunD K x qual params body scope dvs [] f fd → FnOk P w K mg base (L2.CX P w) k f fd ps (spF K ps.length F)) : OkM P w K mg base k C x ps drs F := by
  obtain ⟨fd, Fd⟩ := hd
  obtain ⟨ds, h1, h2⟩ := Fd.binds1 n j hne hn hb
  exact ⟨f, fd, dvs.drop j, ds, c, m, h2, h1, hr, h fd Fd⟩
theorem okF_ofD (g : mg x = some (.ref f)) (hd : ∃ fd, FunD K x qual params body scope dvs [] f fd) (n j : Nat) (hne : dvs ≠ []) (hn : n + (dvs.length - j) = ps.length)
    (hb : ∀ (T : Addr) (kV doc pm : Value) (an : Option Addr) (cdv ct : Value) (us its : List Value), us.length = n → its.length = dvs.length →
      ∃ k, bindArgs (PySem.W.fnOf x qual params body scope (.ref T) kV doc pm an cdv ct) ⟨us, []⟩ = seqItems? (.ref T) >>= k ∧ k (some its.toArray) = pure (ps.zip (us ++ its.drop j)))
    (hr : ∀ M H, VReps K M H (dvs.drop j) drs) (hk : PySem.W.keepIn K (.ref f) = true)
    (h : ∀ fd, FunD K x qual params body scope dvs [] f fd → FnOk P w K mg base (L2.CX P w) k f fd ps (spF K ps.length F)) : OkF P w K mg base k x ps drs F := by
  obtain ⟨fd, Fd⟩ := hd
  obtain ⟨ds, h1, h2⟩ := Fd.binds1 n j hne hn hb
  exact ⟨f, fd, dvs.drop j, ds, g, hk, h2, h1, hr, h fd Fd⟩
theorem okC_ofD {y : Str} (g : mg y = some (.ref C)) (m : Mk K C f) (hd : ∃ fd, FunD K x qual params body scope dvs [] f fd) (n j : Nat) (hne : dvs ≠ []) (hn : n + (dvs.length - j) = ps.length)
    (hb : ∀ (T : Addr) (kV doc pm : Value) (an : Option Addr) (cdv ct : Value) (us its : List Value), us.length = n → its.length = dvs.length →
      ∃ k, bindArgs (PySem.W.fnOf x qual params body scope (.ref T) kV doc pm an cdv ct) ⟨us, []⟩ = seqItems? (.ref T) >>= k ∧ k (some its.toArray) = pure (ps.zip (us ++ its.drop j)))
    (hr : ∀ M H, VReps K M H (dvs.drop j) drs)
    (h : ∀ fd, FunD K x qual params body scope dvs [] f fd → FnOk P w K mg base (L2.CX P w) k f fd ps (spF K ps.length F)) : OkC P w K mg base k C y ps drs F := by
  obtain ⟨fd, Fd⟩ := hd
  obtain ⟨ds, h1, h2⟩ := Fd.binds1 n j hne hn hb
  exact ⟨f, fd, dvs.drop j, ds, g, m, h2, h1, hr, h fd Fd⟩
end
end Cu
/-! CuK: a list many times, parts of a store. -/
namespace Cu
open PySem PySem.Spec PyProof.Rows L2
def rRepR : R2 := fun x y H Q => ∃ l k xs, x = .ref l ∧ y = .int k ∧ Rd H l (.lst xs) ∧ -(2 ^ 63) ≤ k ∧ k < 2 ^ 63 ∧ xs.length * k.toNat ≤ sizeLine ∧
  ∀ p, H p = none → Q (.ref p) (upd H p (.lst (List.replicate k.toNat xs).flatten))
section
variable {X : Cx} {W : WX} {k j : Nat} {G G1 G2 : Gam} {S S1 S2 S3 : Sto} {P : Post} {e a b o iter tg elt : Expr} {es ifs : List Expr} {r y z r' : It} {rs : List It} {pos pos' p apos cpos tpos : Pos} {ds ds' : List PyData} {m n : Int}
theorem op_repR : OpR X (binaryOp .Mult) rRepR := by
  intro pins s σ H x y v u Q I rx ry h
  obtain ⟨l, k, xs, rfl, rfl, hH, h1, h2, hz, q⟩ := h
  cases rx
  obtain ⟨t, rfl⟩ := ry
  obtain ⟨z, its, n, r, e⟩ := hH.ok I.hok
  have hl : xs.length = its.length := r.length
  have hsz : its.toArray.size * k.toNat ≤ sizeLine := by rw [List.size_toArray, ← hl]; exact hz
  have hc1 : ¬ its.toArray.size * k.toNat > (2 ^ 63 - 1) / 8 := by
    have hq : (sizeLine : Nat) ≤ (2 ^ 63 - 1) / 8 := by decide
    omega
  have hc2 : ¬ (!Builtin.List.listFitsIndex k) = true := by rw [fitsIndex_both h1 h2]; decide
  have hc3 : ¬ Builtin.List.listTooLong (its.toArray.size * k.toNat) = true := by rw [notLongL hsz]; decide
  have fold : ∀ i : Nat, List.foldl (fun x1 x2 => x1 ++ x2) #[] (List.replicate i its.toArray) = (List.replicate i its).flatten.toArray := fun i => by
    have q := foldl_rep its i []
    rwa [List.nil_append] at q
  have hnew : List.foldl (fun x1 x2 => x1 ++ x2) #[] (List.replicate (if its.toArray.isEmpty = true then 0 else k.toNat) its.toArray) = (List.replicate k.toNat its).flatten.toArray := by
    rw [fold]
    cases its with
    | nil => simp
    | cons a r' => rw [if_neg (by simp)]
  have ty : s.TypeIs (.ref l) "list" := ⟨_, e, rfl⟩
  refine wpAny_binaryOp_repeat_ref (T := "list") (U := "int") (by decide) ty (fun s' => typeIs_int s' k t) noFill_list_mul F.fills_int_mul F.slot_int_rmul repeat_list F.slot_int_index.lookup ?_
  refine call_meets F.slot_int_rmul (typeIs_int s k t) F.entry_int_rmul (F.args_int_rmul_2 _ _) (int___rmul___int_list k t l its.toArray n) ⟨e, rfl, ty, ?_⟩
  refine call_meets F.slot_list_mul ty F.entry_list_mul (F.args_list_mul_2 _ _) (AutoListH.list___mul___list_int_3 l its.toArray n k t hc2 hc1 hc3) ⟨e, ?_⟩
  rw [hnew]
  refine ⟨.ref _, _, I.lnew (t' := s.toks) (r.rep k.toNat) ?_, rfl, q _ I.fresh⟩
  rw [PyProof.Rows.lm_len_rep_flat, Nat.mul_comm]
  exact hz
/-- xs * n, a datum -/
theorem ev_rep (ha : Ev X a G S r S1) (hb : Ev X b G S1 (.d (.int n)) S2) (hr : lsOf S2 r = some ds) (h1 : -(2 ^ 63) ≤ n) (h2 : n < 2 ^ 63) (hz : ds.length * n.toNat ≤ 1000000) : Ev X (.BinOp a .Mult b pos) G S (.d (.list (List.replicate n.toNat ds).flatten)) S2 := ev_op op_repR ha hb (fun M H v u Q s hv hu q => by
  obtain ⟨ad, xs, rfl, h3, h4⟩ := ls_rd s hv hr
  rw [vr_int hu]
  exact ⟨ad, n, xs, rfl, rfl, h3, h1, h2, by rw [fz_len h4, sizeLine_eq]; omega, fun p hp => q _ M _ (Ext.fresh hp) (s.fresh hp) (Fz.lst ⟨.inl upd_same, s.nin hp⟩ (FzAll.ext (Ext.fresh hp) (fz_rep h4 _)))⟩)
/-- xs * n, owned -/
theorem ev_repN (ha : Ev X a G S r S1) (hb : Ev X b G S1 (.d (.int n)) S2) (hr : lsOf S2 r = some ds) (h1 : -(2 ^ 63) ≤ n) (h2 : n < 2 ^ 63) (hz : ds.length * n.toNat ≤ 1000000) : Ev X (.BinOp a .Mult b pos) G S (.o S2.length) (S2 ++ [.lst (((List.replicate n.toNat ds).flatten).map .d)]) := ev_op op_repR ha hb (fun M H v u Q s hv hu q => by
  obtain ⟨ad, xs, rfl, h3, h4⟩ := ls_rd s hv hr
  rw [vr_int hu]
  refine ⟨ad, n, xs, rfl, rfl, h3, h1, h2, by rw [fz_len h4, sizeLine_eq]; omega, fun p hp => ?_⟩
  have e4 : Ext M H (M ++ [p]) (upd H p (.lst (List.replicate n.toNat xs).flatten)) := Ext.own hp
  have s4 := s.own (w := .lst (((List.replicate n.toNat ds).flatten).map .d)) hp ⟨_, upd_same, VReps.ext e4 (fz_reps (fz_rep h4 _))⟩
  exact q _ _ _ e4 s4 ⟨p, by rw [← s.len, List.getElem?_append_right (Nat.le_refl _), Nat.sub_self]; rfl, rfl⟩)
/-- xs + ys, owned -/
theorem ev_catN (ha : Ev X a G S r S1) (hb : Ev X b G S1 r' S2) (hr : lsOf S2 r = some ds) (hr' : lsOf S2 r' = some ds') (hz : ds.length + ds'.length ≤ 1000000) : Ev X (.BinOp a .Add b pos) G S (.o S2.length) (S2 ++ [.lst ((ds ++ ds').map .d)]) := ev_op op_catR ha hb (fun M H v u Q s hv hu q => by
  obtain ⟨ad, xs, rfl, h1, h2⟩ := ls_rd s hv hr
  obtain ⟨bd, ys, rfl, h3, h4⟩ := ls_rd s hu hr'
  refine ⟨_, _, _, _, rfl, rfl, h1, h3, by rw [fz_len h2, fz_len h4, sizeLine_eq]; omega, fun p hp => ?_⟩
  have e4 : Ext M H (M ++ [p]) (upd H p (.lst (xs ++ ys))) := Ext.own hp
  have s4 := s.own (w := .lst ((ds ++ ds').map .d)) hp ⟨_, upd_same, VReps.ext e4 (fz_reps (fz_app h2 h4))⟩
  exact q _ _ _ e4 s4 ⟨p, by rw [← s.len, List.getElem?_append_right (Nat.le_refl _), Nat.sub_self]; rfl, rfl⟩)
/-- a <= b <= c, a <= b < c of whole numbers -/
theorem ev_leLe {i l h : Int} {e3 : Expr} (ha : Ev X a G S (.d (.int l)) S1) (hb : Ev X b G S1 (.d (.int i)) S2) (hc : l ≤ i → Ev X e3 G S2 (.d (.int h)) S2) (hm : lastMarks [.LtE, .LtE] [b, e3] = false := by rfl) : Ev X (.Compare a [.LtE, .LtE] [b, e3] pos) G S (.d (.bool (decide (l ≤ i) && decide (i ≤ h)))) S2 :=
  ev_chain op_le op_le ha hb (rw_intB (f := fun i j => decide (i ≤ j))) (fun z => hc (of_decide_eq_true z)) (fun _ => rw_intB (f := fun i j => decide (i ≤ j))) hm
theorem ev_leLt {i l h : Int} {e3 : Expr} (ha : Ev X a G S (.d (.int l)) S1) (hb : Ev X b G S1 (.d (.int i)) S2) (hc : l ≤ i → Ev X e3 G S2 (.d (.int h)) S2) (hm : lastMarks [.LtE, .Lt] [b, e3] = false := by rfl) : Ev X (.Compare a [.LtE, .Lt] [b, e3] pos) G S (.d (.bool (decide (l ≤ i) && decide (i < h)))) S2 :=
  ev_chain op_le op_lt ha hb (rw_intB (f := fun i j => decide (i ≤ j))) (fun z => hc (of_decide_eq_true z)) (fun _ => rw_intB (f := fun i j => decide (i < j))) hm
theorem evt_leLe {i l h : Int} {e3 : Expr} (ha : Ev X a G S (.d (.int l)) S1) (hb : Ev X b G S1 (.d (.int i)) S2) (hc : l ≤ i → Ev X e3 G S2 (.d (.int h)) S2) (hm : lastMarks [.LtE, .LtE] [b, e3] = false := by rfl) : EvT X (.Compare a [.LtE, .LtE] [b, e3] pos) G S (decide (l ≤ i) && decide (i ≤ h)) S2 :=
  evt_chain op_le op_le ha hb (rw_intB (f := fun i j => decide (i ≤ j))) (fun z => hc (of_decide_eq_true z)) (fun _ => rw_intB (f := fun i j => decide (i ≤ j))) hm
theorem evt_leLt {i l h : Int} {e3 : Expr} (ha : Ev X a G S (.d (.int l)) S1) (hb : Ev X b G S1 (.d (.int i)) S2) (hc : l ≤ i → Ev X e3 G S2 (.d (.int h)) S2) (hm : lastMarks [.LtE, .Lt] [b, e3] = false := by rfl) : EvT X (.Compare a [.LtE, .Lt] [b, e3] pos) G S (decide (l ≤ i) && decide (i < h)) S2 :=
  evt_chain op_le op_lt ha hb (rw_intB (f := fun i j => decide (i ≤ j))) (fun z => hc (of_decide_eq_true z)) (fun _ => rw_intB (f := fun i j => decide (i < j))) hm
end
theorem atI_nat {α : Type} {xs : List α} {k : Nat} {i : Int} {d : α} (hi : i = k) (h : xs[k]? = some d) : atI xs i = some d := by
  subst hi
  have hk := (List.getElem?_eq_some_iff.mp h).1
  unfold atI ixN
  rw [if_pos (by omega), if_pos (by omega)]
  show xs[(k : Int).toNat]? = _
  rw [Int.toNat_natCast]; exact h
/-! ### parts of a store -/
/-- L stands in S from n on -/
def At (S : Sto) (n : Nat) (L : Sto) : Prop := n + L.length ≤ S.length ∧ ∀ j, j < L.length → S[n + j]? = L[j]?
/-- S with L from n on -/
def over (S : Sto) (n : Nat) (L : Sto) : Sto := S.take n ++ (L ++ S.drop (n + L.length))
theorem At.get {S : Sto} {n : Nat} {L : Sto} (h : At S n L) {j : Nat} {w : Own} (hj : L[j]? = some w) : S[n + j]? = some w := by
  rw [h.2 j (List.getElem?_eq_some_iff.mp hj).1]; exact hj
theorem At.get0 {S : Sto} {n : Nat} {w : Own} {L : Sto} (h : At S n (w :: L)) : S[n]? = some w := h.get (j := 0) rfl
theorem over_len {S : Sto} {n : Nat} {L : Sto} (h : n + L.length ≤ S.length) : (over S n L).length = S.length := by
  unfold over
  rw [List.length_append, List.length_append, List.length_take, List.length_drop]
  omega
theorem over_in {S : Sto} {n : Nat} {L : Sto} (h : n + L.length ≤ S.length) {j : Nat} (hj : j < L.length) : (over S n L)[n + j]? = L[j]? := by
  unfold over
  have hl : (S.take n).length = n := by rw [List.length_take]; omega
  rw [List.getElem?_append_right (by omega), hl, show n + j - n = j by omega, List.getElem?_append_left hj]
theorem over_out {S : Sto} {n : Nat} {L : Sto} (h : n + L.length ≤ S.length) {j : Nat} (hj : j < n ∨ n + L.length ≤ j) : (over S n L)[j]? = S[j]? := by
  unfold over
  have hl : (S.take n).length = n := by rw [List.length_take]; omega
  rcases hj with hj | hj
  · rw [List.getElem?_append_left (by omega), List.getElem?_take_of_lt hj]
  · rw [List.getElem?_append_right (by omega), hl, List.getElem?_append_right (by omega), List.getElem?_drop]
    congr 1
    omega
theorem At.over {S : Sto} {n : Nat} {L L' : Sto} (h : At S n L) (hl : L'.length = L.length) : At (over S n L') n L' := by
  have h1 : n + L'.length ≤ S.length := by rw [hl]; exact h.1
  exact ⟨by rw [over_len h1]; exact h1, fun j hj => over_in h1 hj⟩
theorem At.other {S : Sto} {n m : Nat} {L M : Sto} (h : n + L.length ≤ S.length) (hm : At S m M) (d : m + M.length ≤ n ∨ n + L.length ≤ m) : At (Cu.over S n L) m M := by
  refine ⟨by rw [over_len h]; exact hm.1, fun j hj => ?_⟩
  rw [over_out h (by omega)]
  exact hm.2 j hj
theorem sto_ext {A B : Sto} (h : ∀ j : Nat, A[j]? = B[j]?) : A = B := List.ext_getElem? h
theorem over_self {S : Sto} {n : Nat} {L : Sto} (h : At S n L) : over S n L = S := sto_ext fun j => by
  by_cases hj : n ≤ j ∧ j < n + L.length
  · obtain ⟨i, rfl⟩ := Nat.exists_eq_add_of_le hj.1
    rw [over_in h.1 (by omega), h.2 i (by omega)]
  · exact over_out h.1 (by omega)
theorem over_over {S : Sto} {n : Nat} {L L' : Sto} (h : n + L.length ≤ S.length) (hl : L'.length = L.length) : over (over S n L) n L' = over S n L' := sto_ext fun j => by
  have h1 : n + L'.length ≤ (over S n L).length := by rw [over_len h, hl]; exact h
  have h2 : n + L'.length ≤ S.length := by rw [hl]; exact h
  by_cases hj : n ≤ j ∧ j < n + L.length
  · obtain ⟨i, rfl⟩ := Nat.exists_eq_add_of_le hj.1
    rw [over_in h1 (by omega), over_in h2 (by omega)]
  · rw [over_out h1 (by omega), over_out h (by omega), over_out h2 (by omega)]
theorem set_over {S : Sto} {n : Nat} {L : Sto} (h : At S n L) {j : Nat} {w : Own} (hj : j < L.length) : S.set (n + j) w = over S n (L.set j w) := sto_ext fun i => by
  have hl : (L.set j w).length = L.length := List.length_set
  have h2 : n + (L.set j w).length ≤ S.length := by rw [hl]; exact h.1
  by_cases hi : n ≤ i ∧ i < n + L.length
  · obtain ⟨i, rfl⟩ := Nat.exists_eq_add_of_le hi.1
    rw [over_in h2 (by omega)]
    by_cases e : j = i
    · subst e
      have := h.1
      rw [List.getElem?_set_self hj, List.getElem?_set_self (by omega)]
    · rw [List.getElem?_set_ne e, List.getElem?_set_ne (by omega), h.2 i (by omega)]
  · rw [over_out h2 (by omega), List.getElem?_set_ne (by omega)]
theorem at_mid (A L T : Sto) : At (A ++ (L ++ T)) A.length L := by
  refine ⟨by rw [List.length_append, List.length_append]; omega, fun j hj => ?_⟩
  rw [List.getElem?_append_right (Nat.le_add_right _ _), Nat.add_sub_cancel_left, List.getElem?_append_left hj]
theorem at_end (A L : Sto) : At (A ++ L) A.length L := by
  have := at_mid A L []
  rwa [List.append_nil] at this
theorem At.app {S : Sto} {n : Nat} {L : Sto} (h : At S n L) (T : Sto) : At (S ++ T) n L := by
  have := h.1
  refine ⟨by rw [List.length_append]; omega, fun j hj => ?_⟩
  rw [List.getElem?_append_left (by omega)]
  exact h.2 j hj
theorem over_app {S : Sto} {n : Nat} {L : Sto} (h : n + L.length ≤ S.length) (T : Sto) : over (S ++ T) n L = over S n L ++ T := by
  unfold over
  rw [List.take_append_of_le_length (by omega), List.drop_append_of_le_length (by omega)]
  simp
theorem over_mid (A L L' T : Sto) (h : L'.length = L.length) : over (A ++ (L ++ T)) A.length L' = A ++ (L' ++ T) := by
  unfold over
  rw [List.take_left, h, ← List.append_assoc A L T, show A.length + L.length = (A ++ L).length by rw [List.length_append], List.drop_left]
theorem over_end (A L L' : Sto) (h : L'.length = L.length) : over (A ++ L) A.length L' = A ++ L' := by
  have := over_mid A L L' [] h
  rwa [List.append_nil, List.append_nil] at this
end Cu
/-! CuL: membership among data, slices of tuples. -/
namespace Cu
open PySem PySem.Spec PyProof.Rows L2
section
variable {X : Cx} {W : WX} {k j : Nat} {G G1 G2 : Gam} {S S1 S2 S3 : Sto} {P : Post} {e a b o iter tg elt : Expr} {es ifs : List Expr} {r y z r' : It} {rs : List It} {pos pos' p apos cpos tpos : Pos} {ds ds' : List PyData} {m n : Int}
theorem dp_list {K : PySem.W.Frag} {H : Hp} {M : List Addr} {a : Addr} {xs : List V} (h1 : Rd H a (.lst xs)) (h2 : FzAll M H xs ds) : Dp K H (.ref a) (.list ds) := .lst (.inl h1) (FzAll.dp h2)
theorem evt_inD {x : PyData} (c : Cxo X W k) (ha : Ev X a G S (.d x) S1) (hb : Ev X b G S1 r S2) (hr : lsOf S2 r = some ds) (hx : SeqAt.shaped x = true) (hd : SeqAt.shaped (.list ds) = true) (hm : behindInMarks .In b = false := by rfl) : EvT X (.Compare a [.In] [b] pos) G S (ds.any fun z => PyData.eqv z x) S2 := evt_cmp (op_inD (by have := c.hr.un; omega)) ha hb (fun M H v u Q s hv hw q => by
  obtain ⟨ad, xs, rfl, h1, h2⟩ := ls_rd s hw hr
  exact ⟨x, ds, Fz.dp hv, dp_list h1 h2, hx, hd, q _ M H Ext.refl s (Fz.bl _)⟩) hm
theorem evt_notInD {x : PyData} (c : Cxo X W k) (ha : Ev X a G S (.d x) S1) (hb : Ev X b G S1 r S2) (hr : lsOf S2 r = some ds) (hx : SeqAt.shaped x = true) (hd : SeqAt.shaped (.list ds) = true) (hm : behindInMarks .NotIn b = false := by rfl) : EvT X (.Compare a [.NotIn] [b] pos) G S (!ds.any fun z => PyData.eqv z x) S2 := evt_cmp (op_notInD (by have := c.hr.un; omega)) ha hb (fun M H v u Q s hv hw q => by
  obtain ⟨ad, xs, rfl, h1, h2⟩ := ls_rd s hw hr
  exact ⟨x, ds, Fz.dp hv, dp_list h1 h2, hx, hd, q _ M H Ext.refl s (Fz.bl _)⟩) hm
/-- t[lo:hi] of a tuple of data -/
theorem ev_slT {lo hi : Option Expr} {il ih : Option Int} {p2 : Pos} (ha : Ev X a G S (.d (.tuple ds)) S1) (hl : EvP X lo G S1 il) (hh : EvP X hi G S1 ih) (hw : ¬ (HT.sIx ds.length 0 il = 0 ∧ HT.sIx ds.length ds.length ih = ds.length)) : Ev X (.Subscript a (.Slice lo hi none p2) pos) G S (.d (.tuple (cutD ds il ih))) S1 := fun M σ H Q s q =>
  toE (pe_slice sl_tup pe_s po_tEP po_tEP) (ha M σ H _ s fun v M1 H1 e1 t1 r1 => hl.run t1 fun M2 H2 e2 t2 => hh.run t2 fun M3 H3 e3 t3 => by
    have r3 : Fz M3 H3 v (.tuple ds) := (r1.ext e2).ext e3
    cases r3 with
    | tup h1 h2 => exact ⟨_, _, rfl, h1.sq, by rw [fz_len h2]; exact hw, fun p hp => q _ M3 _ (((e1.trans e2).trans e3).trans (Ext.fresh hp)) (t3.fresh hp) (Fz.tup ⟨upd_same, t3.sto.nin hp⟩ (FzAll.ext (Ext.fresh hp) (fz_cut h2)))⟩)
end
end Cu
/-! CuM: and, or, whose parts change the store. -/
namespace Cu
open PySem PySem.Spec PyProof.Rows L2
section
variable {X : Cx} {W : WX} {k j : Nat} {G G1 G2 : Gam} {S S1 S2 S3 : Sto} {e a b : Expr} {es : List Expr} {r y z r' : It} {pos : Pos} {Qr : It → Sto → Prop} {Qx : Addr → Sto → Prop}
theorem ev_andT {d : It} (h : Ev X a G S (.d (.bool true)) S1) (h2 : Ev X (.BoolOp .And (b :: es) pos) G S1 d S2) : Ev X (.BoolOp .And (a :: b :: es) pos) G S d S2 := fun M σ H Q s q =>
  toE (pe_and pe_s pe_s) (h M σ H _ s fun v M1 H1 e1 s1 r1 => ⟨true, vr_bool r1, iteT (h2 M1 σ H1 _ s1 fun w M2 H2 e2 s2 r2 => q w M2 H2 (e1.trans e2) s2 r2)⟩)
theorem ev_andF (h : Ev X a G S (.d (.bool false)) S1) : Ev X (.BoolOp .And (a :: b :: es) pos) G S (.d (.bool false)) S1 := fun M σ H Q s q =>
  toE (pe_and pe_s pe_s) (h M σ H _ s fun v M1 H1 e1 s1 r1 => ⟨false, vr_bool r1, iteF (q _ M1 H1 e1 s1 (Fz.bl false))⟩)
theorem ev_orF {d : It} (h : Ev X a G S (.d (.bool false)) S1) (h2 : Ev X (.BoolOp .Or (b :: es) pos) G S1 d S2) : Ev X (.BoolOp .Or (a :: b :: es) pos) G S d S2 := fun M σ H Q s q =>
  toE (pe_or pe_s pe_s) (h M σ H _ s fun v M1 H1 e1 s1 r1 => ⟨false, vr_bool r1, iteF (h2 M1 σ H1 _ s1 fun w M2 H2 e2 s2 r2 => q w M2 H2 (e1.trans e2) s2 r2)⟩)
theorem evw_andT {d : Bool} (h : EvT X a G S true S1) (h2 : EvW X (.BoolOp .And (b :: es) pos) G S1 d S2) : EvW X (.BoolOp .And (a :: b :: es) pos) G S d S2 := fun M σ H Q s q =>
  toW (pw_and pt_s pw_s) (h M σ H _ s fun M1 H1 e1 s1 => iteT (h2 M1 σ H1 _ s1 fun M2 H2 e2 s2 => q M2 H2 (e1.trans e2) s2))
theorem evw_andF (h : EvT X a G S false S1) : EvW X (.BoolOp .And (a :: b :: es) pos) G S false S1 := fun M σ H Q s q =>
  toW (pw_and pt_s pw_s) (h M σ H _ s fun M1 H1 e1 s1 => iteF (q M1 H1 e1 s1))
theorem evw_orF {d : Bool} (h : EvT X a G S false S1) (h2 : EvW X (.BoolOp .Or (b :: es) pos) G S1 d S2) : EvW X (.BoolOp .Or (a :: b :: es) pos) G S d S2 := fun M σ H Q s q =>
  toW (pw_or pt_s pw_s) (h M σ H _ s fun M1 H1 e1 s1 => iteF (h2 M1 σ H1 _ s1 fun M2 H2 e2 s2 => q M2 H2 (e1.trans e2) s2))
theorem evw_orT (h : EvT X a G S true S1) : EvW X (.BoolOp .Or (a :: b :: es) pos) G S true S1 := fun M σ H Q s q =>
  toW (pw_or pt_s pw_s) (h M σ H _ s fun M1 H1 e1 s1 => iteT (q M1 H1 e1 s1))
theorem evx_one {op : BoolOp} (h : EvX X W a G S Qr Qx) : EvX X W (.BoolOp op [a] pos) G S Qr Qx := fun M σ H Q s h1 h2 => toE (pe_one pe_s) (h M σ H _ s h1 h2)
theorem evx_andT (h : Ev X a G S (.d (.bool true)) S1) (hx : EvX X W (.BoolOp .And (b :: es) pos) G S1 Qr Qx) : EvX X W (.BoolOp .And (a :: b :: es) pos) G S Qr Qx := fun M σ H Q s h1 h2 =>
  toE (pe_and pe_s pe_s) (h M σ H _ s fun v M1 H1 e1 s1 r1 => ⟨true, vr_bool r1, iteT (hx M1 σ H1 _ s1 (fun v M' H' r S' e2 => h1 v M' H' r S' (e1.trans e2)) (fun M' H' C S' e2 => h2 M' H' C S' (e1.trans e2)))⟩)
end
end Cu
/-! CuN: sorted that owns, list() that doesn't, == of lists owned or not, reversed, pop. -/
namespace Cu
open PySem PySem.Spec PyProof.Rows L2
section
variable {X : Cx} {W : WX} {k j : Nat} {G G1 G2 : Gam} {S S1 S2 S3 : Sto} {P : Post} {e a b o : Expr} {es : List Expr} {r y z r' : It} {rs : List It} {pos pos' p apos cpos : Pos} {ds ds' : List PyData} {m n : Int}
theorem ev_sortedN (c : Cxo X W k) (hm : X.mg "sorted" = none) (ha : Ev X a G S r S1) (hr : lsOf S1 r = some ds) (hal : PySem.W.AllAlike ds) (hso : PySem.W.Sortable ds) (hde : ∀ d ∈ ds, d.depth ≤ 60) (hg : Gl X "sorted" := by rfl) (he : starEach [a] X.env = (false, eval a X.env) :: starEach [] X.env := by rfl) : Ev X (.Call (.Name "sorted" p) [a] [] pos) G S (.o S1.length) (S1 ++ [.lst ((sortD ds).map .d)]) :=
  ev_blt (cr_sortD c.hr.units) hm (by decide +kernel) (eva_cons ha eva_nil he) (fun M H vs Q s hvs q => by
    obtain ⟨v, rfl, hv⟩ := vr1 hvs
    obtain ⟨ad, xs, rfl, h1, h2⟩ := ls_rd s hv hr
    refine ⟨ad, xs, ds, _, rfl, .inl h1, FzAll.dp h2, fz_pair h2, hal, hso, hde, fun ys p hp hn => ?_⟩
    have e4 : Ext M H (M ++ [p]) (upd H p (.lst ys)) := Ext.own hn
    have s4 := s.own (w := .lst ((sortD ds).map .d)) hn ⟨_, upd_same, VReps.ext e4 (fz_reps (fz_unpair hp))⟩
    exact q _ _ _ e4 s4 ⟨p, by rw [← s.len, List.getElem?_append_right (Nat.le_refl _), Nat.sub_self]; rfl, rfl⟩) hg (by decide) (by decide) he rfl
/-- list(xs): a new list that stays as it is -/
theorem ev_listF (hm : X.mg "list" = none) (ha : Ev X a G S r S1) (hr : lsOf S1 r = some ds) (hg : Gl X "list" := by rfl) (he : starEach [a] X.env = (false, eval a X.env) :: starEach [] X.env := by rfl) : Ev X (.Call (.Name "list" p) [a] [] pos) G S (.d (.list ds)) S1 := ev_ty call_list_of hm (by decide +kernel) (eva_cons ha eva_nil he) (fun M H vs Q s hvs q => by
  obtain ⟨v, rfl, hv⟩ := vr1 hvs
  obtain ⟨ad, xs, rfl, h1, h2⟩ := ls_rd s hv hr
  exact ⟨_, _, rfl, .inl (.inl h1), fun l hl => q _ M _ (Ext.fresh hl) (s.fresh hl) (Fz.lst ⟨.inl upd_same, s.nin hl⟩ (FzAll.ext (Ext.fresh hl) h2))⟩) hg (by decide) (by decide) he rfl
/-- list(xs): a new list that is owned -/
theorem ev_listO (hm : X.mg "list" = none) (ha : Ev X a G S r S1) (hr : lsOf S1 r = some ds) (hg : Gl X "list" := by rfl) (he : starEach [a] X.env = (false, eval a X.env) :: starEach [] X.env := by rfl) : Ev X (.Call (.Name "list" p) [a] [] pos) G S (.o S1.length) (S1 ++ [.lst (ds.map .d)]) := ev_ty call_list_of hm (by decide +kernel) (eva_cons ha eva_nil he) (fun M H vs Q s hvs q => by
  obtain ⟨v, rfl, hv⟩ := vr1 hvs
  obtain ⟨ad, xs, rfl, h1, h2⟩ := ls_rd s hv hr
  refine ⟨_, _, rfl, .inl (.inl h1), fun l hl => ?_⟩
  have e2 : Ext M H (M ++ [l]) (upd H l (.lst xs)) := Ext.own hl
  exact q _ _ _ e2 (s.own hl ⟨_, upd_same, VReps.ext e2 (fz_reps h2)⟩) ⟨l, by rw [← s.len, List.getElem?_append_right (Nat.le_refl _), Nat.sub_self]; rfl, rfl⟩) hg (by decide) (by decide) he rfl
theorem evt_neA (c : Cxo X W k) (ha : Ev X a G S r S1) (hb : Ev X b G S1 r' S2) (hr : lsOf S2 r = some ds) (hr' : lsOf S2 r' = some ds') (hx : SeqAt.shaped (.list ds) = true) (hy : SeqAt.shaped (.list ds') = true) : EvT X (.Compare a [.NotEq] [b] pos) G S (!PyData.eqv (.list ds) (.list ds')) S2 := evt_cmp (op_neD c.hr.units) ha hb (fun M H v u Q s hv hu q => by
  obtain ⟨ad, xs, rfl, h1, h2⟩ := ls_rd s hv hr
  obtain ⟨bd, ys, rfl, h3, h4⟩ := ls_rd s hu hr'
  exact ⟨_, _, dp_list h1 h2, dp_list h3 h4, hx, hy, q _ M H Ext.refl s (Fz.bl _)⟩)
theorem ev_eqA (c : Cxo X W k) (ha : Ev X a G S r S1) (hb : Ev X b G S1 r' S2) (hr : lsOf S2 r = some ds) (hr' : lsOf S2 r' = some ds') (hx : SeqAt.shaped (.list ds) = true) (hy : SeqAt.shaped (.list ds') = true) : Ev X (.Compare a [.Eq] [b] pos) G S (.d (.bool (PyData.eqv (.list ds) (.list ds')))) S2 := ev_cmp (op_eqD c.hr.units) ha hb (fun M H v u Q s hv hu q => by
  obtain ⟨ad, xs, rfl, h1, h2⟩ := ls_rd s hv hr
  obtain ⟨bd, ys, rfl, h3, h4⟩ := ls_rd s hu hr'
  exact ⟨_, _, dp_list h1 h2, dp_list h3 h4, hx, hy, q _ M H Ext.refl s (Fz.bl _)⟩)
theorem evt_eqA (c : Cxo X W k) (ha : Ev X a G S r S1) (hb : Ev X b G S1 r' S2) (hr : lsOf S2 r = some ds) (hr' : lsOf S2 r' = some ds') (hx : SeqAt.shaped (.list ds) = true) (hy : SeqAt.shaped (.list ds') = true) : EvT X (.Compare a [.Eq] [b] pos) G S (PyData.eqv (.list ds) (.list ds')) S2 := evt_cmp (op_eqD c.hr.units) ha hb (fun M H v u Q s hv hu q => by
  obtain ⟨ad, xs, rfl, h1, h2⟩ := ls_rd s hv hr
  obtain ⟨bd, ys, rfl, h3, h4⟩ := ls_rd s hu hr'
  exact ⟨_, _, dp_list h1 h2, dp_list h3 h4, hx, hy, q _ M H Ext.refl s (Fz.bl _)⟩)
end
end Cu
/-! CuO: extend by any list, pop. -/
namespace Cu
open PySem PySem.Spec PyProof.Rows L2
def rExtR : V → List V → Hp → VK → Prop := fun x vs H Q => ∃ l b xs zs, x = .ref l ∧ vs = [.ref b] ∧ H l = some (.lst xs) ∧ Rd H b (.lst zs) ∧ xs.length + zs.length ≤ sizeLine ∧ Q .non (upd H l (.lst (xs ++ zs)))
section
variable {X : Cx} {W : WX} {k j : Nat} {G G1 G2 : Gam} {S S1 S2 S3 : Sto} {P : Post} {e a b o : Expr} {es : List Expr} {r y z r' : It} {rs : List It} {pos pos' p apos cpos : Pos} {ds ds' : List PyData} {m n : Int}
theorem mt_extR : MtM X "list.extend" rExtR := by
  intro pins s σ H x vs v us Q I rx rv h
  obtain ⟨l, b, xs, zs, rfl, rfl, hH, hB, hz, q⟩ := h
  cases rx
  obtain ⟨u, rfl, ru⟩ := rv.one
  cases ru
  obtain ⟨z, its, n, r, hl, e⟩ := I.lstM hH
  obtain ⟨z2, its2, n2, r2, e2⟩ := hB.ok I.hok
  have hl2 : zs.length = its2.length := r2.length
  have hs1 : its2.toArray.size ≤ sizeLine := by rw [List.size_toArray]; omega
  have hs2 : its.toArray.size + its2.toArray.size ≤ sizeLine := by rw [List.size_toArray, List.size_toArray]; omega
  have hq : ¬ (!its.toArray.isEmpty && Builtin.List.listTooLong (its.toArray.size + its2.toArray.size)) = true := by rw [notLongL hs2, Bool.and_false]; decide
  have M := AutoSeq1.list_extend_list_list_0 l its.toArray n b its2.toArray n2 hq (by rw [List.size_toArray]; omega) (by omega)
  refine call_meets F.slot_list_extend ⟨_, e, rfl⟩ F.entry_list_extend (F.args_list_extend_2 _ _) M ⟨e, e2, ?_⟩
  have hlen : (xs ++ zs).length ≤ sizeLine := by rw [List.length_append]; omega
  exact ⟨.non, _, I.lset (its' := its ++ its2) hH e (by simp) (r.append r2) hlen, rfl, q⟩
/-- xs.extend(ys), ys any list of data -/
theorem ev_extA {i : Nat} {xs : List It} (ho : Ev X o G S (.o i) S1) (hi : S1[i]? = some (.lst xs)) (ha : Ev X e G S1 r S2) (hi2 : S2[i]? = some (.lst xs)) (hr : lsOf S2 r = some ds) (hz : xs.length + ds.length < 1000000) (hbase : attributeBase o "extend" X.env (eval o X.env) = eval o X.env := by rfl)
    (hfew : ((backTo cpos (starEach [e] X.env)).all (fun x => !x.1) && (backToKw cpos (keywordEach [] X.env)).all (fun x => x.1.isSome) && decide ([e].length + ([] : List Keyword).length + (if ([] : List Keyword).isEmpty then 0 else 1) < 30)) = true := by rfl)
    (hline : (apos.endLine == cpos.line) = true := by rfl) (hs : starEach [e] X.env = (false, eval e X.env) :: starEach [] X.env := by rfl) : Ev X (.Call (.Attribute o "extend" apos) [e] [] cpos) G S (.d .none) (S2.set i (.lst (xs ++ ds.map .d))) :=
  ev_bm PySem.F.plainAttrs_list PySem.F.slot_list_extend PySem.F.type_list_extend mt_extR ho (ty_own hi) (eva_cons ha eva_nil hs) (fun M H v vs Q s hv hvs q => by
    obtain ⟨u, rfl, hu⟩ := vr1 hvs
    obtain ⟨ad, had, rfl⟩ := hv
    obtain ⟨ws, e1, e2⟩ := s.rep i ad _ had hi2
    obtain ⟨bd, ys, rfl, h3, h4⟩ := ls_rd s hu hr
    have e3 : Ext M H M (upd H ad (.lst (ws ++ ys))) := Ext.put (List.mem_of_getElem? had)
    exact ⟨ad, bd, ws, ys, rfl, rfl, e1, h3, by rw [e2.len, fz_len h4, sizeLine_eq]; omega, q .non M _ e3 (s.put had ⟨_, upd_same, VReps.append (VReps.ext e3 e2) (VReps.ext e3 (fz_reps h4))⟩) Fz.non⟩) hbase hfew hline hs rfl
theorem reps_dropLast {K : PySem.W.Frag} {M : List Addr} {H : Hp} {vs : List V} {rs : List It} (h : VReps K M H vs rs) : VReps K M H vs.dropLast rs.dropLast := by
  induction h with
  | nil => exact .nil
  | cons a t ih =>
    cases t with
    | nil => exact .nil
    | cons b t => exact .cons a ih
/-- xs.pop() -/
theorem ev_pop {i : Nat} {xs : List It} {y : It} (ho : Ev X o G S (.o i) S1) (hi : S1[i]? = some (.lst xs)) (hy : xs[xs.length - 1]? = some y) (hbase : attributeBase o "pop" X.env (eval o X.env) = eval o X.env := by rfl) (hline : (apos.endLine == cpos.line) = true := by rfl) : Ev X (.Call (.Attribute o "pop" apos) [] [] cpos) G S y (S1.set i (.lst xs.dropLast)) :=
  ev_bm0 PySem.F.plainAttrs_list PySem.F.slot_list_pop PySem.F.type_list_pop mt_pop ho (ty_own hi) (fun M H v vs Q s hv hvs q => by
    cases hvs
    obtain ⟨ad, had, rfl⟩ := hv
    obtain ⟨ws, e1, e2⟩ := s.rep i ad _ had hi
    have hl := e2.len
    obtain ⟨u, hu1, hu2⟩ := reps_get e2 hy
    have e3 : Ext M H M (upd H ad (.lst ws.dropLast)) := Ext.put (List.mem_of_getElem? had)
    have hd := reps_dropLast e2
    exact ⟨ad, ws, u, rfl, rfl, e1, by rw [hl]; exact hu1, q u M _ e3 (s.put (w := .lst xs.dropLast) had ⟨_, upd_same, VReps.ext e3 hd⟩) (hu2.ext e3)⟩) hbase hline
end
end Cu
/-! CuP: pop(i). -/
namespace Cu
open PySem PySem.Spec PyProof.Rows L2
theorem reps_eraseIdx {K : PySem.W.Frag} {M : List Addr} {H : Hp} {vs : List V} {rs : List It} (h : VReps K M H vs rs) : ∀ i : Nat, VReps K M H (vs.eraseIdx i) (rs.eraseIdx i) := by
  induction h with
  | nil => intro i; exact .nil
  | cons a t ih =>
    intro i
    cases i with
    | zero => exact t
    | succ i => exact .cons a (ih i)
section
variable {X : Cx} {W : WX} {k j : Nat} {G G1 G2 : Gam} {S S1 S2 S3 : Sto} {P : Post} {e a b o : Expr} {es : List Expr} {r y z r' : It} {rs : List It} {pos pos' p apos cpos : Pos} {ds ds' : List PyData} {m n : Int}
/-- xs.pop(n), n from 0 on -/
theorem ev_popAt {i l : Nat} {xs : List It} {y : It} (ho : Ev X o G S (.o i) S1) (hi : S1[i]? = some (.lst xs)) (ha : Ev X e G S1 (.d (.int n)) S2) (hi2 : S2[i]? = some (.lst xs)) (hn : n = (l : Int)) (hz : l < 1000000) (hy : xs[l]? = some y) (hbase : attributeBase o "pop" X.env (eval o X.env) = eval o X.env := by rfl)
    (hfew : ((backTo cpos (starEach [e] X.env)).all (fun x => !x.1) && (backToKw cpos (keywordEach [] X.env)).all (fun x => x.1.isSome) && decide ([e].length + ([] : List Keyword).length + (if ([] : List Keyword).isEmpty then 0 else 1) < 30)) = true := by rfl)
    (hline : (apos.endLine == cpos.line) = true := by rfl) (hs : starEach [e] X.env = (false, eval e X.env) :: starEach [] X.env := by rfl) : Ev X (.Call (.Attribute o "pop" apos) [e] [] cpos) G S y (S2.set i (.lst (xs.eraseIdx l))) :=
  ev_bm PySem.F.plainAttrs_list PySem.F.slot_list_pop PySem.F.type_list_pop mt_popAt ho (ty_own hi) (eva_cons ha eva_nil hs) (fun M H v vs Q s hv hvs q => by
    obtain ⟨u, rfl, hu⟩ := vr1 hvs
    obtain ⟨ad, had, rfl⟩ := hv
    obtain ⟨ws, e1, e2⟩ := s.rep i ad _ had hi2
    obtain ⟨w, hw1, hw2⟩ := reps_get e2 hy
    have hl := e2.len
    have hlt := (List.getElem?_eq_some_iff.mp hy).1
    have e3 : Ext M H M (upd H ad (.lst (ws.eraseIdx l))) := Ext.put (List.mem_of_getElem? had)
    rw [vr_int hu]
    refine ⟨ad, ws, n, l, w, rfl, rfl, e1, by omega, by omega, ?_, hw1, q w M _ e3 (s.put (w := .lst (xs.eraseIdx l)) had ⟨_, upd_same, VReps.ext e3 (reps_eraseIdx e2 l)⟩) (hw2.ext e3)⟩
    subst hn
    refine (ixN_seq (j := l) ?_).1
    unfold ixN
    rw [if_pos (by omega), if_pos (by omega), Int.toNat_natCast]) hbase hfew hline hs rfl
end
end Cu
/-! CuQ: a statement whose ends join. -/
namespace Cu
open PySem PySem.Spec PyProof.Rows L2
section
variable {X : Cx} {W : WX} {k j : Nat} {G G1 G2 : Gam} {S S1 S2 S3 : Sto} {P : Post} {st : Stmt} {sts : List Stmt}
theorem ss_mid (J : Gam → Sto → Prop) (h : WS X W st G S { P with nx := J }) (h2 : ∀ G' S', J G' S' → WSs X W sts G' S' P) : WSs X W (st :: sts) G S P :=
  ss_cons fun M σ H D s m => h M σ H D s ⟨fun M' σ' H' G' S' e t q => m.nx M' σ' H' G' S' e t (h2 _ _ q), m.rt, m.bk, m.ct, m.xc⟩
end
end Cu
/-! CuR: dicts whose keys are tuples. -/
namespace Cu
open PySem PySem.Spec PyProof.Rows L2
/-! ### keys -/
def keyA : PyData → Option Key
  | .int i => some (.inl i)
  | .str x => some (.inr x)
  | _ => none
def keyL : List PyData → Option (List Key)
  | [] => some []
  | d :: ds => match keyA d, keyL ds with
    | some k, some ks => some (k :: ks)
    | _, _ => none
def keyD : PyData → Option (List Key)
  | .tuple ds => keyL ds
  | _ => none
theorem key_fz {M : List Addr} {H : Hp} : ∀ {ds : List PyData} {vs : List V} {ks : List Key}, keyL ds = some ks → FzAll M H vs ds → vs = ks.map kV
  | [], _, _, h, q => by cases h; cases q; rfl
  | d :: ds, _, ks, h, q => by
    cases q with
    | cons q1 q2 =>
      unfold keyL at h
      cases e1 : keyA d with
      | none => rw [e1] at h; cases h
      | some k =>
        cases e2 : keyL ds with
        | none => rw [e1, e2] at h; cases h
        | some ks' =>
          rw [e1, e2] at h
          cases h
          rw [List.map_cons, key_fz e2 q2]
          congr 1
          cases d with
          | int i => cases e1; cases q1; rfl
          | str x => cases e1; cases q1; rfl
          | _ => cases e1
theorem key_at {M : List Addr} {H : Hp} {v : V} {d : PyData} {ks : List Key} (h : keyD d = some ks) (q : Fz M H v d) : ∃ b, v = .ref b ∧ H b = some (.tup (ks.map kV)) ∧ b ∉ M := by
  cases d with
  | tuple ds =>
    cases q with
    | tup h1 h2 => exact ⟨_, rfl, by rw [← key_fz h h2]; exact h1.1, h1.2⟩
  | _ => cases h
/-! ### pairs -/
section
variable {κ : Type} [DecidableEq κ]
def valI (kvs : List (κ × It)) (k : κ) : Option It := (kvs.find? fun kv => decide (kv.1 = k)).map (·.2)
def putI (kvs : List (κ × It)) (k : κ) (v : It) : List (κ × It) := if kvs.any (fun kv => decide (kv.1 = k)) then kvs.map fun kv => if kv.1 = k then (kv.1, v) else kv else kvs ++ [(k, v)]
abbrev PRep (K : PySem.W.Frag) (M : List Addr) (H : Hp) : List (κ × V) → List (κ × It) → Prop := Paired fun p q => p.1 = q.1 ∧ VRep K M H p.2 q.2
variable {K : PySem.W.Frag} {M : List Addr} {H : Hp}
theorem prep_val {k : κ} : ∀ {ps : List (κ × V)} {kvs : List (κ × It)}, PRep K M H ps kvs → (valV ps k = none ∧ valI kvs k = none) ∨ ∃ v r, valV ps k = some v ∧ valI kvs k = some r ∧ VRep K M H v r
  | _, _, .nil => .inl ⟨rfl, rfl⟩
  | (p1, p2) :: ps, (q1, q2) :: kvs, .cons h t => by
    obtain ⟨e, h2⟩ := h
    have e : p1 = q1 := e
    subst e
    by_cases q : p1 = k
    · exact .inr ⟨p2, q2, valV_pos q, by simp [valI, List.find?_cons, q], h2⟩
    · rw [valV_neg q, show valI ((p1, q2) :: kvs) k = valI kvs k by simp [valI, List.find?_cons, q]]
      exact prep_val t
theorem prep_len {ps : List (κ × V)} {kvs : List (κ × It)} (h : PRep K M H ps kvs) : ps.length = kvs.length := Paired.length h
theorem prep_some {k : κ} {ps : List (κ × V)} {kvs : List (κ × It)} (h : PRep K M H ps kvs) : (valV ps k).isSome = (valI kvs k).isSome := by
  rcases prep_val (k := k) h with ⟨a, b⟩ | ⟨v, r, a, b, _⟩ <;> rw [a, b] <;> rfl
theorem prep_map {k : κ} {v : V} {r : It} (hv : VRep K M H v r) : ∀ {ps : List (κ × V)} {kvs : List (κ × It)}, PRep K M H ps kvs → PRep K M H (ps.map fun kv => if kv.1 = k then (kv.1, v) else kv) (kvs.map fun kv => if kv.1 = k then (kv.1, r) else kv)
  | _, _, .nil => .nil
  | (p1, p2) :: ps, (q1, q2) :: kvs, .cons h t => by
    obtain ⟨e, h2⟩ := h
    have e : p1 = q1 := e
    subst e
    rw [List.map_cons, List.map_cons]
    refine .cons ?_ (prep_map hv t)
    by_cases q : p1 = k
    · show (if p1 = k then (p1, v) else (p1, p2)).1 = (if p1 = k then (p1, r) else (p1, q2)).1 ∧ VRep K M H (if p1 = k then (p1, v) else (p1, p2)).2 (if p1 = k then (p1, r) else (p1, q2)).2
      rw [if_pos q, if_pos q]; exact ⟨rfl, hv⟩
    · show (if p1 = k then (p1, v) else (p1, p2)).1 = (if p1 = k then (p1, r) else (p1, q2)).1 ∧ VRep K M H (if p1 = k then (p1, v) else (p1, p2)).2 (if p1 = k then (p1, r) else (p1, q2)).2
      rw [if_neg q, if_neg q]; exact ⟨rfl, h2⟩
theorem prep_put {k : κ} {v : V} {r : It} {ps : List (κ × V)} {kvs : List (κ × It)} (h : PRep K M H ps kvs) (hv : VRep K M H v r) : PRep K M H (putK ps k v) (putI kvs k r) := by
  have e : ∀ kvs : List (κ × It), (kvs.any fun kv => decide (kv.1 = k)) = (valI kvs k).isSome := by
    intro kvs
    induction kvs with
    | nil => rfl
    | cons a t ih =>
      rw [List.any_cons, ih]
      unfold valI
      rw [List.find?_cons]
      by_cases q : a.1 = k
      · simp [q]
      · simp [q]
  unfold putK putI
  rw [valV_any, prep_some h, e]
  split
  · exact prep_map hv h
  · exact Paired.snoc h ⟨rfl, hv⟩
end
section
variable {X : Cx} {W : WX} {k j : Nat} {G G1 G2 : Gam} {S S1 S2 S3 : Sto} {P : Post} {e a b o : Expr} {es : List Expr} {r y z r' : It} {rs : List It} {pos pos' p apos cpos : Pos} {ds ds' : List PyData} {m n : Int} {i : Nat} {kd : PyData} {kk : List Key} {kvs : List (List Key × It)}
theorem u1 (c : Cxo X W k) : X.A.units + 1 < cLine := by have := c.hr.units; omega
/-- {} with tuples for keys -/
theorem ev_dNewT : Ev X (.Dict [] [] pos) G S (.o S.length) (S ++ [.dT []]) := fun M σ H Q s q =>
  toE pe_dnewT fun p hp => by
    have e2 : Ext M H (M ++ [p]) (upd H p (.dT [])) := Ext.own hp
    have s2 : StoreOk X.K (M ++ [p]) (upd H p (.dT [])) (S ++ [.dT []]) := s.sto.own hp ⟨[], upd_same, .nil⟩
    exact q _ _ _ e2 (s.mono e2 s2) ⟨p, by rw [← s.sto.len, List.getElem?_append_right (Nat.le_refl _), Nat.sub_self]; rfl, rfl⟩
/-- {} with whole numbers or texts for keys -/
theorem ev_dNewK : Ev X (.Dict [] [] pos) G S (.o S.length) (S ++ [.dK []]) := fun M σ H Q s q =>
  toE pe_dnewK fun p hp => by
    have e2 : Ext M H (M ++ [p]) (upd H p (.dK [])) := Ext.own hp
    have s2 : StoreOk X.K (M ++ [p]) (upd H p (.dK [])) (S ++ [.dK []]) := s.sto.own hp ⟨[], upd_same, .nil⟩
    exact q _ _ _ e2 (s.mono e2 s2) ⟨p, by rw [← s.sto.len, List.getElem?_append_right (Nat.le_refl _), Nat.sub_self]; rfl, rfl⟩
/-- the dict of a store -/
theorem dT_at {K : PySem.W.Frag} {M : List Addr} {H : Hp} {v : V} (s : StoreOk K M H S) (hv : VRep K M H v (.o i)) (hi : S[i]? = some (.dT kvs)) : ∃ a ps, v = .ref a ∧ M[i]? = some a ∧ H a = some (.dT ps) ∧ PRep K M H ps kvs := by
  obtain ⟨a, ha, rfl⟩ := hv
  obtain ⟨ps, h1, h2⟩ := s.rep _ a _ ha hi
  exact ⟨a, ps, rfl, ha, h1, h2⟩
theorem evt_dinT (c : Cxo X W k) (ha : Ev X a G S (.d kd) S1) (hb : Ev X b G S1 (.o i) S2) (hi : S2[i]? = some (.dT kvs)) (hk : keyD kd = some kk) (hm : behindInMarks .In b = false := by rfl) : EvT X (.Compare a [.In] [b] pos) G S (valI kvs kk).isSome S2 := fun M σ H Q s q =>
  toT (pt_cmp (pc_din (u1 c) pe_s pe_s) hm) (ha M σ H _ s fun v M1 H1 e1 s1 r1 => hb M1 σ H1 _ s1 fun u M2 H2 e2 s2 r2 => by
    obtain ⟨a, ps, rfl, _, h1, h2⟩ := dT_at s2.sto r2 hi
    obtain ⟨b, rfl, hb, _⟩ := key_at hk (r1.ext e2)
    exact ⟨a, valV ps kk, rfl, DGet.t h1 hb, _, rfl, by rw [prep_some h2]; exact q M2 H2 (e1.trans e2) s2⟩)
theorem evt_dnotinT (c : Cxo X W k) (ha : Ev X a G S (.d kd) S1) (hb : Ev X b G S1 (.o i) S2) (hi : S2[i]? = some (.dT kvs)) (hk : keyD kd = some kk) (hm : behindInMarks .NotIn b = false := by rfl) : EvT X (.Compare a [.NotIn] [b] pos) G S (!(valI kvs kk).isSome) S2 := fun M σ H Q s q =>
  toT (pt_cmp (pc_dnotin (u1 c) pe_s pe_s) hm) (ha M σ H _ s fun v M1 H1 e1 s1 r1 => hb M1 σ H1 _ s1 fun u M2 H2 e2 s2 r2 => by
    obtain ⟨a, ps, rfl, _, h1, h2⟩ := dT_at s2.sto r2 hi
    obtain ⟨b, rfl, hb, _⟩ := key_at hk (r1.ext e2)
    exact ⟨a, valV ps kk, rfl, DGet.t h1 hb, _, rfl, by rw [prep_some h2]; exact q M2 H2 (e1.trans e2) s2⟩)
theorem ev_dinT (c : Cxo X W k) (ha : Ev X a G S (.d kd) S1) (hb : Ev X b G S1 (.o i) S2) (hi : S2[i]? = some (.dT kvs)) (hk : keyD kd = some kk) (hm : behindInMarks .In b = false := by rfl) : Ev X (.Compare a [.In] [b] pos) G S (.d (.bool (valI kvs kk).isSome)) S2 := fun M σ H Q s q =>
  toE (pe_cmp (pc_din (u1 c) pe_s pe_s) hm) (ha M σ H _ s fun v M1 H1 e1 s1 r1 => hb M1 σ H1 _ s1 fun u M2 H2 e2 s2 r2 => by
    obtain ⟨a, ps, rfl, _, h1, h2⟩ := dT_at s2.sto r2 hi
    obtain ⟨b, rfl, hb, _⟩ := key_at hk (r1.ext e2)
    exact ⟨a, valV ps kk, rfl, DGet.t h1 hb, by rw [prep_some h2]; exact q _ M2 H2 (e1.trans e2) s2 (Fz.bl _)⟩)
theorem ev_dnotinT (c : Cxo X W k) (ha : Ev X a G S (.d kd) S1) (hb : Ev X b G S1 (.o i) S2) (hi : S2[i]? = some (.dT kvs)) (hk : keyD kd = some kk) (hm : behindInMarks .NotIn b = false := by rfl) : Ev X (.Compare a [.NotIn] [b] pos) G S (.d (.bool (!(valI kvs kk).isSome))) S2 := fun M σ H Q s q =>
  toE (pe_cmp (pc_dnotin (u1 c) pe_s pe_s) hm) (ha M σ H _ s fun v M1 H1 e1 s1 r1 => hb M1 σ H1 _ s1 fun u M2 H2 e2 s2 r2 => by
    obtain ⟨a, ps, rfl, _, h1, h2⟩ := dT_at s2.sto r2 hi
    obtain ⟨b, rfl, hb, _⟩ := key_at hk (r1.ext e2)
    exact ⟨a, valV ps kk, rfl, DGet.t h1 hb, by rw [prep_some h2]; exact q _ M2 H2 (e1.trans e2) s2 (Fz.bl _)⟩)
/-- d[k], there -/
theorem ev_dgetT (c : Cxo X W k) (ho : Ev X o G S (.o i) S1) (ha : Ev X a G S1 (.d kd) S2) (hi : S2[i]? = some (.dT kvs)) (hk : keyD kd = some kk) (hv : valI kvs kk = some r) (hs : NoSl a := by exact fun _ _ => rfl) : Ev X (.Subscript o a pos) G S r S2 := fun M σ H Q s q =>
  toE (pe_dget (u1 c) pe_s pe_s hs) (ho M σ H _ s fun v M1 H1 e1 s1 r1 => ha M1 σ H1 _ s1 fun u M2 H2 e2 s2 r2 => by
    obtain ⟨a, ps, rfl, _, h1, h2⟩ := dT_at s2.sto (r1.ext e2) hi
    obtain ⟨b, rfl, hb, _⟩ := key_at hk r2
    rcases prep_val (k := kk) h2 with ⟨_, z⟩ | ⟨v, r', h3, h4, h5⟩
    · rw [z] at hv; cases hv
    · rw [h4] at hv
      cases hv
      refine ⟨a, v, rfl, ?_, q _ M2 H2 (e1.trans e2) s2 h5⟩
      rw [← h3]
      exact DGet.t h1 hb)
/-- d[k] = e -/
theorem ws_dputT (c : Cxo X W k) (he : Ev X e G S r S1) (ho : Ev X o G S1 (.o i) S2) (ha : Ev X a G S2 (.d kd) S3) (hi : S3[i]? = some (.dT kvs)) (hk : keyD kd = some kk) (hz : kvs.length < 1000000) (q : P.nx G (S3.set i (.dT (putI kvs kk r))))
    (hs : swapsWith e (some (.Subscript o a pos')) pos.line X.env = pure false := by rfl) : WS X W (.Assign [.Subscript o a pos'] e pos) G S P := fun M σ H D s m =>
  toS (ps_dput (u1 c) pe_s pe_s pe_s hs) (he M σ H _ s fun v M1 H1 e1 s1 r1 => ho M1 σ H1 _ s1 fun u M2 H2 e2 s2 r2 => ha M2 σ H2 _ s2 fun w M3 H3 e3 s3 r3 => by
    obtain ⟨a, ps, rfl, ha, h1, h2⟩ := dT_at s3.sto (r2.ext e3) hi
    obtain ⟨b, rfl, hb, _⟩ := key_at hk r3
    have e4 : Ext M3 H3 M3 (upd H3 a (.dT (putK ps kk v))) := Ext.put (List.mem_of_getElem? ha)
    have s4 := s3.sto.put (w := .dT (putI kvs kk r)) ha ⟨putK ps kk v, upd_same, Paired.mapP (prep_put h2 (r1.ext (e2.trans e3))) fun _ _ z => ⟨z.1, z.2.ext e4⟩⟩
    refine ⟨a, _, rfl, DPut.t h1 hb (by rw [prep_len h2, sizeLine_eq]; omega), m.nx M3 σ _ G _ (((e1.trans e2).trans e3).trans e4) (s3.mono e4 s4) q⟩)
end
end Cu
/-! CuS: a dict written with one tuple key; sorted of a dict with tuple keys. -/
namespace Cu
open PySem PySem.Spec PyProof.Rows L2
section
variable {X : Cx}
/-- {k: v}, k a tuple -/
def tDisp1 (tk tv : TE) : TE := fun σ H Q => ∀ p, H p = none → tPairs [(tk, tv)] σ (upd H p (.dT [])) fun ps H2 => ∃ (k : List Key) (b : Addr) (v : V), ps = [(.ref b, v)] ∧ H2 p = some (.dT []) ∧ H2 b = some (.tup (k.map kV)) ∧ Q (.ref p) (upd H2 p (.dT [(k, v)]))
theorem pe_disp1 {ek ev : Expr} {pos : Pos} {tk tv : TE} (hu : X.A.units + 1 < cLine) (hk : PE X ek tk) (hv : PE X ev tv) : PE X (.Dict [some ek] [ev] pos) (tDisp1 tk tv) := by
  refine ⟨fun pins s σ H Q I q => ?_⟩
  have hn := I.hok.fresh (Nat.le_refl s.heap.objs.size)
  have I1 := I.laid (a := s.heap.objs.size) (o := .dT []) (h' := s.heap.push { cls := .type "dict", data := .dict #[] }) (t' := s.toks) (fun _ _ q => Heap.get?_push_of_some _ q) (Nat.le_refl _) (dt_empty s.heap I.big)
  have hsh := zip_pairTrees [some ek] [ev] X.env pos rfl rfl
  have hl := pairTrees_length [some ek] [ev] X.env pos rfl rfl
  rw [arm_eval_Dict, hsh, dictDisplay_pairs (pairTrees [some ek] [ev] X.env pos) (fun z => by rw [z] at hl; cases hl) (by rw [hl]; show 1 < 17; decide)]
  refine wpAny_bind (wpAny_standAt (wpAny_bind (wpAny_subDictH (knd := tupleKind (mixKind X.prog X.w)) (show X.A.units < cLine by omega) (by rw [hl]; show 1 ≤ 15; decide) ?_)))
  refine thn ((pps_cons hk hv pps_nil).run pins _ σ _ _ I1 (q _ hn)) fun ws s2 ⟨ps, H2, I2, rel, k, b, v, e, e0, eb, q2⟩ => ?_
  subst e
  cases rel with
  | @cons _ w2 _ _ h t =>
  cases t
  obtain ⟨u1, u2⟩ := w2
  obtain ⟨h1, h2⟩ := h
  cases (show u1 = Value.ref b from h1)
  obtain ⟨z, hd, xs, rel, dd⟩ := dt_of I2.hok e0
  cases rel
  refine ⟨[(k, b, u2)], ⟨rfl, rfl, key_of I2.hok eb, trivial⟩, dd, fun h' tk' dd' hs => ?_⟩
  refine wpAny_pure ⟨.ref s.heap.objs.size, upd H2 s.heap.objs.size (.dT [(k, v)]), ?_, rfl, q2⟩
  obtain ⟨q, es, ep, hq, h2', h3, h4, _, h5⟩ := dd'
  refine d_write I2 (by rw [e0]; exact True.intro) hs ⟨q, hq⟩ ⟨by rw [sizeLine_eq]; show 1 ≤ 16777216; decide, hd, [(k, b, u2)], .cons ⟨rfl, ?_, h2⟩ .nil, q, es, ep, hq, h2', h3, h4, h5⟩
  rw [upd_ne (ne_of eb e0 (fun z => nomatch z))]
  exact eb
end
section
variable {X : Cx} {W : WX} {k j : Nat} {G G1 G2 : Gam} {S S1 S2 S3 : Sto} {P : Post} {e a b o : Expr} {es : List Expr} {r y z r' : It} {rs : List It} {pos pos' p apos cpos : Pos} {ds ds' : List PyData} {m n : Int} {i : Nat} {kd : PyData} {kk : List Key} {kvs : List (List Key × It)}
/-- {k: v} -/
theorem ev_disp1 (c : Cxo X W k) (ha : Ev X a G (S ++ [.dT []]) (.d kd) (S ++ [.dT []])) (hb : Ev X b G (S ++ [.dT []]) r (S ++ [.dT []])) (hk : keyD kd = some kk) : Ev X (.Dict [some a] [b] pos) G S (.o S.length) (S ++ [.dT [(kk, r)]]) := fun M σ H Q s q =>
  toE (pe_disp1 (u1 c) pe_s pe_s) fun p hp => by
    have e2 : Ext M H (M ++ [p]) (upd H p (.dT [])) := Ext.own hp
    have s2 : StoreOk X.K (M ++ [p]) (upd H p (.dT [])) (S ++ [.dT []]) := s.sto.own hp ⟨[], upd_same, .nil⟩
    refine ha (M ++ [p]) σ _ _ (s.mono e2 s2) fun v M1 H1 e1 s1 r1 => hb M1 σ H1 _ s1 fun u M2 H2 e3 s3 r3 => ?_
    have e4 : Ext (M ++ [p]) (upd H p (.dT [])) M2 H2 := e1.trans e3
    have eM : M2 = M ++ [p] := by
      obtain ⟨L, eL⟩ := e4.pre
      have h1 := s3.sto.len
      rw [eL, List.length_append, List.length_append, List.length_append, s.sto.len] at h1
      have h2 : L.length = 0 := by
        have : [p].length = 1 := rfl
        have : [Own.dT []].length = 1 := rfl
        omega
      rw [eL, List.eq_nil_of_length_eq_zero h2, List.append_nil]
    subst eM
    have hn : (M ++ [p])[S.length]? = some p := by rw [← s.sto.len, List.getElem?_append_right (Nat.le_refl _), Nat.sub_self]; rfl
    have hS : (S ++ [Own.dT []])[S.length]? = some (.dT []) := by rw [List.getElem?_append_right (Nat.le_refl _), Nat.sub_self]; rfl
    obtain ⟨ps, h1, h2⟩ := s3.sto.rep _ p _ hn hS
    cases h2
    obtain ⟨b', rfl, hb', _⟩ := key_at hk (VRep.ext e3 r1)
    have e5 : Ext (M ++ [p]) H2 (M ++ [p]) (upd H2 p (.dT [(kk, u)])) := Ext.put (List.mem_of_getElem? hn)
    have s5 := s3.sto.put (w := .dT [(kk, r)]) hn ⟨[(kk, u)], upd_same, .cons ⟨rfl, r3.ext e5⟩ .nil⟩
    rw [List.set_append_right _ _ (Nat.le_refl _), Nat.sub_self] at s5
    exact ⟨kk, b', u, rfl, h1, hb', q _ _ _ ((e2.trans e4).trans e5) (s.mono ((e2.trans e4).trans e5) s5) ⟨p, hn, rfl⟩⟩
end
end Cu
/-! CuT: sorted of a dict with tuple keys. -/
namespace Cu
open PySem PySem.Spec PyProof.Rows L2
def keyB : Key → PyData
  | .inl i => .int i
  | .inr x => .str x
def keyU (ks : List Key) : PyData := .tuple (ks.map keyB)
theorem keyB_A {d : PyData} {k : Key} (h : keyA d = some k) : d = keyB k := by
  cases d with
  | int i => cases h; rfl
  | str x => cases h; rfl
  | _ => cases h
theorem keyL_B : ∀ {ds : List PyData} {ks : List Key}, keyL ds = some ks → ds = ks.map keyB
  | [], ks, h => by cases h; rfl
  | d :: ds, ks, h => by
    unfold keyL at h
    cases e1 : keyA d with
    | none => rw [e1] at h; cases h
    | some k =>
      cases e2 : keyL ds with
      | none => rw [e1, e2] at h; cases h
      | some ks' =>
        rw [e1, e2] at h
        cases h
        rw [List.map_cons, ← keyB_A e1, ← keyL_B e2]
theorem keyD_U {d : PyData} {ks : List Key} (h : keyD d = some ks) : d = keyU ks := by
  cases d with
  | tuple ds => unfold keyU; rw [← keyL_B h]
  | _ => cases h
theorem keyU_D (ks : List Key) : keyD (keyU ks) = some ks := by
  show keyL (ks.map keyB) = some ks
  induction ks with
  | nil => rfl
  | cons k ks ih =>
    rw [List.map_cons]
    unfold keyL
    rw [ih]
    cases k <;> rfl
theorem dpU {K : PySem.W.Frag} {H : Hp} {b : Addr} {ks : List Key} (h : H b = some (.tup (ks.map kV))) : Dp K H (.ref b) (keyU ks) := by
  refine .tup (.inl (.inl h)) ?_
  clear h
  induction ks with
  | nil => exact .nil
  | cons k ks ih =>
    rw [List.map_cons, List.map_cons]
    refine .cons ?_ ih
    cases k with
    | inl i => exact .int i
    | inr x => exact .str x
theorem readsB {h : Heap} {u : Value} {k : Key} {as : List Addr} (r : Reads h u (keyB k) as) : as = [] := by
  cases k with
  | inl i => cases r; rfl
  | inr x => cases r; rfl
theorem readsBs {h : Heap} : ∀ {ks : List Key} {us : List Value} {as : List Addr}, ReadsAll h us (ks.map keyB) as → as = []
  | [], _, _, r => by rw [List.map_nil] at r; cases r; rfl
  | k :: ks, _, _, r => by
    rw [List.map_cons] at r
    cases r with
    | cons h1 h2 => rw [readsB h1, readsBs h2]; rfl
theorem readsU {h : Heap} {u : Value} {ks : List Key} {as : List Addr} (r : Reads h u (keyU ks) as) : as = [] := by
  cases r with
  | tuple _ _ _ h4 => exact readsBs h4
def keysU {α : Type} (kvs : List (List Key × α)) : List PyData := kvs.map fun p => keyU p.1
/-! ### the keys of a dict are gathered; the heap has grown -/
section
variable {prog : Program} {w : World} {A : Around} {E : Value → Shared → Prop} {s : Shared} {T : String} {r d : Addr} {n : Nat} {Pv : Nat → Value → Prop} {Oh : Heap → Prop}
theorem gatherT {R : List Value → Shared → Prop} (src : PySem.W.KdlSrc prog w T r d n Pv Oh) (free : A.handled = none) (now : Oh s.heap) (few : n ≤ sizeLine)
    (next : ∀ (g : Heap) (c : Nat) (got : Array Value), (∀ b u, s.heap.get? b = some u → g.get? b = some u) → s.heap.objs.size < g.objs.size → ItemsOf Pv got n → R got.toList { s with heap := g, toks := c }) :
    wpAny (model prog w) A (collect (.ref r)) R E s := by
  have below := src.there _ now
  have base : (s.heap.push (seqObj "list" #[] 0)).get? s.heap.objs.size = some (seqObj "list" #[] 0) := Heap.get?_push_size _ rfl
  have fill := PySem.W.kdl_extend (A := A) (s := { s with heap := s.heap.push (seqObj "list" #[] 0) })
    (R := fun (q : Result) (t : Shared) => ∃ (g : Heap) (c : Nat) (got : Array Value) (e : Nat), (q = .ok (.ret (.ref s.heap.objs.size)) ∧ t = { s with heap := g, toks := c }) ∧
      (∀ b u, s.heap.get? b = some u → g.get? b = some u) ∧ (g.get? s.heap.objs.size = some (seqObj "list" got e) ∧ ItemsOf Pv got n))
    src free (src.keep _ _ now fun b _ u z => Heap.get?_push_of_some _ z) s.heap.objs.size (Nat.ne_of_gt below.1) (Nat.ne_of_gt below.2) (.ref s.heap.objs.size) 0 base
    (fun g c got e kept there all => ⟨g, c, got, e, ⟨rfl, rfl⟩, fun b u z => kept b u (Nat.ne_of_lt (Heap.lt_size z)) (Heap.get?_push_of_some _ z), there, all⟩) few
  unfold collect
  refine wpAny_bind (wpAny_runValue (codeAny_builtin entry_proto_collect' ?_))
  rw [PySem.Around.under_plainId PySem.F.plain_proto_collect _]
  refine wpAny_bind (m := newList []) (wpAny_newObj_type (wpAny_pure ⟨plainId_quiet PySem.F.plain_list_iadd _, codeAny_builtin entry_list_iadd' ?_⟩))
  rw [PySem.Around.under_plainId PySem.F.plain_list_iadd _]
  refine wpAny_mono (show wpAny _ A.in1 (Builtin.«list.__iadd__» { pos := [Value.ref s.heap.objs.size, Value.ref r] }) _ _ _ from fill) (fun fin t x => ?_) fun _ _ x => ?_
  · cases fin with
    | done f =>
      obtain ⟨g, c, got, e, ⟨q1, rfl⟩, kept, there, all⟩ := x
      cases q1
      exact wpAny_bind (m := load s.heap.objs.size) (wpAny_load there (wpAny_pure (next g c got kept (Heap.lt_size there) all)))
    | again c1 =>
      refine ⟨x.1, codeAny_mono x.2 fun q t y => ?_⟩
      obtain ⟨g, c, got, e, ⟨rfl, rfl⟩, kept, there, all⟩ := y
      exact wpAny_bind (m := load s.heap.objs.size) (wpAny_load there (wpAny_pure (next g c got kept (Heap.lt_size there) all)))
  · obtain ⟨_, _, _, _, ⟨z, _⟩, _⟩ := x
    cases z
end
/-- sorted of a dict with tuple keys -/
def rSortT : List V → Hp → VK → Prop := fun vs H Q => ∃ (d : Addr) (kvs : List (List Key × V)), vs = [V.ref d] ∧ Rd H d (.dT kvs) ∧ PySem.W.AllAlike (keysU kvs) ∧ PySem.W.Sortable (keysU kvs) ∧ (∀ d ∈ keysU kvs, d.depth ≤ 60) ∧
  ∀ (ys : List V) (p : Addr), Paired (fun v d => ∃ (b : Addr) (ks : List Key), v = .ref b ∧ d = keyU ks ∧ H b = some (.tup (ks.map kV))) ys ((keysU kvs).mergeSort (PySem.W.dataLe false id)) → H p = none → Q (.ref p) (upd H p (.lst ys))
theorem cr_sortT {X : Cx} (hc : X.calm = true) (hu : X.A.units + 64 < cLine) : CallR X (.builtin "sorted") rSortT := by
  intro pins s σ H vs us Q I r h
  obtain ⟨d, kvs, rfl, hd, hal, hso, hde, q⟩ := h
  rw [Vals.ref1 r]
  obtain ⟨z, hs, ks, pr, o, es, ep, ho, hx, hdt, he, hn⟩ := (show ObjOk X.prog X.w H s.heap d (.dT kvs) from hd.ok I.hok)
  have l1 : es.size = ks.length := size_of_entries he
  have l2 : kvs.length = ks.length := Paired.length pr
  have hz : es.size ≤ sizeLine := by omega
  refine Calls.call_function_entry kind_sorted plain_sorted entry_sorted (args_sorted1 _) ?_
  unfold Builtin.«sorted»
  refine wpAny_bind (m := checkCount "sorted" 1 1 _) (wpAny_pure ?_)
  refine wpAny_bind (gatherT (A := X.A.in1) (kdl_raw hs hx hdt) (I.ok.hd hc) ho hz fun h' tk acc hk hgt hacc => ?_)
  have ea : acc.toList = ks.map fun x => Value.ref x.2.1 := by
    refine List.ext_getElem? fun j => ?_
    rw [List.getElem?_map, Array.getElem?_toList]
    rcases Nat.lt_or_ge j es.size with hj | hj
    · have hj' : j < acc.size := by rw [hacc.1]; exact hj
      obtain ⟨en, hen, hv⟩ := hacc.2 j acc[j] (Array.getElem?_eq_getElem hj')
      have at_ := entry_at he j
      rw [hen, List.getElem?_eq_getElem (by omega : j < ks.length)] at at_
      rw [Array.getElem?_eq_getElem hj', List.getElem?_eq_getElem (by omega : j < ks.length), hv, Option.some.inj at_]
      rfl
    · rw [Array.getElem?_eq_none (by rw [hacc.1]; exact hj), List.getElem?_eq_none (by omega)]
      rfl
  have hlen : acc.toList.length = kvs.length := by rw [ea, List.length_map, l2]
  -- the keys' values and what they are
  have rel : ∀ {kvs : List (List Key × V)} {ks : List (List Key × Addr × Value)}, KT H kvs ks → Paired (fun v d => ∃ (b : Addr) (ks : List Key), v = .ref b ∧ d = keyU ks ∧ H b = some (.tup (ks.map kV))) (ks.map fun x => V.ref x.2.1) (keysU kvs) ∧ DpAll X.K H (ks.map fun x => V.ref x.2.1) (keysU kvs) ∧ Vals (ks.map fun x => V.ref x.2.1) (ks.map fun x => Value.ref x.2.1) := by
    intro kvs ks r
    induction r with
    | nil => exact ⟨.nil, .nil, .nil⟩
    | @cons p q ps qs h t ih =>
      obtain ⟨i1, i2, i3⟩ := ih
      exact ⟨.cons ⟨q.2.1, p.1, rfl, rfl, h.2.1⟩ i1, .cons (dpU h.2.1) i2, .cons rfl i3⟩
  obtain ⟨r1, r2, r3⟩ := rel pr
  rw [← ea] at r3
  have er0 := each_reads I r3 r2
  have hD : (h'.push { cls := .type "list", data := .seq acc.toList.toArray }).get? h'.objs.size = some (seqObj "list" acc.toList.toArray 0) := Heap.get?_push_size _ rfl
  have kp : ∀ b o, s.heap.get? b = some o → (h'.push { cls := .type "list", data := .seq acc.toList.toArray }).get? b = some o := fun b o e => Heap.get?_push_of_some _ (hk b o e)
  refine wpAny_bind (wpAny_newList ?_ (by rw [hlen]; exact z))
  have er : PySem.W.EachIs (fun v d => ∃ as, Reads (h'.push { cls := .type "list", data := .seq acc.toList.toArray }) v (id d) as ∧ h'.objs.size ∉ as) acc.toList (keysU kvs) := by
    have gen : ∀ {us : List Value} {ds : List PyData}, (∀ d ∈ ds, ∃ ks, d = keyU ks) → PySem.W.EachIs (fun u d => ∃ as, Reads s.heap u (id d) as) us ds → PySem.W.EachIs (fun v d => ∃ as, Reads (h'.push { cls := .type "list", data := .seq acc.toList.toArray }) v (id d) as ∧ h'.objs.size ∉ as) us ds := by
      intro us ds hds e
      induction e with
      | nil => exact .nil
      | @cons u d us ds a t ih =>
        obtain ⟨as, ra⟩ := a
        obtain ⟨ks, rfl⟩ := hds d List.mem_cons_self
        refine .cons ⟨as, PyProof.Rows.Reads.keeps (fun b o => kp b o) ra, ?_⟩ (ih fun d hd => hds d (List.mem_cons_of_mem _ hd))
        rw [readsU ra]; exact List.not_mem_nil
    refine gen (fun d hd => ?_) er0
    unfold keysU at hd
    obtain ⟨p, _, rfl⟩ := List.mem_map.mp hd
    exact ⟨_, rfl⟩
  refine wpAny_bind (wpAny_holding (PySem.W.list_sort_data (bs := keysU kvs) (enc := id) (s := { s with heap := h'.push { cls := .type "list", data := .seq acc.toList.toArray }, toks := tk }) hD (each_of r3 r1) er (by rw [List.map_id]; exact hal) (by rw [List.map_id]; exact hso) (by unfold keysU; rw [List.length_map]; exact z) (fun d hd => ?_) fun out h1 h2 => ?_))
  · have := hde d hd
    show X.A.units + 1 + 1 + d.depth < cLine
    omega
  · refine wpAny_pure ⟨_, rfl, ?_⟩
    obtain ⟨ys, hy, hyr⟩ := each_back h2
    obtain ⟨ep', he'⟩ := sortedHeap_at (out := out.toArray) hD
    have hlt : s.heap.objs.size ≤ h'.objs.size := Nat.le_of_lt hgt
    have hle : ys.length ≤ sizeLine := by rw [hy.length, h1]; unfold keysU; rw [List.length_map]; exact z
    refine ⟨.ref h'.objs.size, upd H h'.objs.size (.lst ys), I.laid (t' := tk) (fun b ob e => ?_) hlt ⟨hle, out, ep', hy, he'⟩, rfl, q ys _ hyr (I.hok.fresh hlt)⟩
    have hb := Heap.lt_size (hk b ob e)
    rw [sortedHeap_old (Nat.ne_of_lt hb) (by rw [size_push']; exact Nat.lt_succ_of_lt hb)]
    exact kp b ob e
/-- no owned object is a tuple of plain values -/
theorem no_tup {K : PySem.W.Frag} {M : List Addr} {H : Hp} {S : Sto} (s : StoreOk K M H S) {a : Addr} {xs : List V} (h : H a = some (.tup xs)) (hx : ∀ b, V.ref b ∉ xs) : a ∉ M := fun hm => by
  obtain ⟨n, hn⟩ := List.getElem?_of_mem hm
  obtain ⟨hl, _⟩ := List.getElem?_eq_some_iff.mp hn
  have hl' : n < S.length := by rw [← s.len]; exact hl
  have q := s.rep n a S[n] hn (List.getElem?_eq_getElem hl')
  revert q
  cases S[n] with
  | lst xs => rintro ⟨vs, e, _⟩; rw [h] at e; cases e
  | dT xs => rintro ⟨vs, e, _⟩; rw [h] at e; cases e
  | dK xs => rintro ⟨vs, e, _⟩; rw [h] at e; cases e
  | ins C fs => rintro ⟨dx, vs, e, _⟩; rw [h] at e; cases e
  | tup ys => rintro ⟨vs, e, _, b, hb⟩; rw [h] at e; cases e; exact hx b hb
  | lkT od ps kvs => rintro ⟨e, _⟩; rw [h] at e; cases e
  | lkK od ps kvs => rintro ⟨e, _⟩; rw [h] at e; cases e
  | tbl P q => rintro ⟨_, ps, e, _⟩; rw [h] at e; cases e
  | tblN P nm => rintro ⟨_, ps, e, _⟩; rw [h] at e; cases e
  | fn F cap => rintro ⟨e, _⟩; rw [h] at e; cases e
  | gone => rintro ⟨o, e, z⟩; rw [h] at e; cases e; exact z _ rfl
theorem fzU {M : List Addr} {H : Hp} {b : Addr} {ks : List Key} (h : H b = some (.tup (ks.map kV))) (hb : b ∉ M) : Fz M H (.ref b) (keyU ks) := by
  refine .tup ⟨h, hb⟩ ?_
  clear h
  induction ks with
  | nil => exact .nil
  | cons k ks ih =>
    rw [List.map_cons, List.map_cons]
    refine .cons ?_ ih
    cases k with
    | inl i => exact .int i
    | inr x => exact .str x
theorem prep_keys {K : PySem.W.Frag} {M : List Addr} {H : Hp} : ∀ {ps : List (List Key × V)} {kvs : List (List Key × It)}, PRep K M H ps kvs → keysU ps = keysU kvs
  | _, _, .nil => rfl
  | _, _, .cons h t => by
    unfold keysU
    rw [List.map_cons, List.map_cons, h.1]
    exact congrArg (_ :: ·) (prep_keys t)
section
variable {X : Cx} {W : WX} {k j : Nat} {G G1 G2 : Gam} {S S1 S2 S3 : Sto} {e a b o : Expr} {pos pos' p : Pos} {i : Nat} {kvs : List (List Key × It)}
theorem fz_rel {K : PySem.W.Frag} {M : List Addr} {H : Hp} {S : Sto} (s : StoreOk K M H S) : ∀ {ys : List V} {ds : List PyData}, Paired (fun v d => ∃ (b : Addr) (ks : List Key), v = .ref b ∧ d = keyU ks ∧ H b = some (.tup (ks.map kV))) ys ds → FzAll M H ys ds
  | _, _, .nil => .nil
  | _, _, .cons h t => by
    obtain ⟨b, ks, rfl, rfl, hb⟩ := h
    exact .cons (fzU hb (no_tup s hb fun b' hm => by obtain ⟨k, _, e⟩ := List.mem_map.mp hm; cases k <;> cases e)) (fz_rel s t)
/-- sorted(d), a list that stays as it is -/
theorem ev_sortedT (c : Cxo X W k) (hm : X.mg "sorted" = none) (ha : Ev X a G S (.o i) S1) (hi : S1[i]? = some (.dT kvs)) (hal : PySem.W.AllAlike (keysU kvs)) (hso : PySem.W.Sortable (keysU kvs)) (hde : ∀ d ∈ keysU kvs, d.depth ≤ 60) (hg : Gl X "sorted" := by rfl) (he : starEach [a] X.env = (false, eval a X.env) :: starEach [] X.env := by rfl) : Ev X (.Call (.Name "sorted" p) [a] [] pos) G S (.d (.list (sortD (keysU kvs)))) S1 :=
  ev_blt (cr_sortT c.calm c.hr.units) hm (by decide +kernel) (eva_cons ha eva_nil he) (fun M H vs Q s hvs q => by
    obtain ⟨v, rfl, hv⟩ := vr1 hvs
    obtain ⟨ad, ps, rfl, _, h1, h2⟩ := dT_at s hv hi
    have ek := prep_keys h2
    refine ⟨ad, ps, rfl, .inl h1, by rw [ek]; exact hal, by rw [ek]; exact hso, by rw [ek]; exact hde, fun ys p hp hn => ?_⟩
    rw [ek] at hp
    exact q _ M _ (Ext.fresh hn) (s.fresh hn) (Fz.lst ⟨.inl upd_same, s.nin hn⟩ (FzAll.ext (Ext.fresh hn) (fz_rel s hp)))) hg (by decide) (by decide) he rfl
/-- sorted(d), owned -/
theorem ev_sortedTN (c : Cxo X W k) (hm : X.mg "sorted" = none) (ha : Ev X a G S (.o i) S1) (hi : S1[i]? = some (.dT kvs)) (hal : PySem.W.AllAlike (keysU kvs)) (hso : PySem.W.Sortable (keysU kvs)) (hde : ∀ d ∈ keysU kvs, d.depth ≤ 60) (hg : Gl X "sorted" := by rfl) (he : starEach [a] X.env = (false, eval a X.env) :: starEach [] X.env := by rfl) : Ev X (.Call (.Name "sorted" p) [a] [] pos) G S (.o S1.length) (S1 ++ [.lst ((sortD (keysU kvs)).map .d)]) :=
  ev_blt (cr_sortT c.calm c.hr.units) hm (by decide +kernel) (eva_cons ha eva_nil he) (fun M H vs Q s hvs q => by
    obtain ⟨v, rfl, hv⟩ := vr1 hvs
    obtain ⟨ad, ps, rfl, _, h1, h2⟩ := dT_at s hv hi
    have ek := prep_keys h2
    refine ⟨ad, ps, rfl, .inl h1, by rw [ek]; exact hal, by rw [ek]; exact hso, by rw [ek]; exact hde, fun ys p hp hn => ?_⟩
    rw [ek] at hp
    have e2 : Ext M H (M ++ [p]) (upd H p (.lst ys)) := Ext.own hn
    exact q _ _ _ e2 (s.own (w := .lst ((sortD (keysU kvs)).map .d)) hn ⟨ys, upd_same, VReps.ext e2 (fz_reps (fz_rel s hp))⟩) ⟨p, by rw [← s.len, List.getElem?_append_right (Nat.le_refl _), Nat.sub_self]; rfl, rfl⟩) hg (by decide) (by decide) he rfl
end
end Cu
/-! CuU: a built-in of one argument that may raise, or whose answer is not told exactly. -/
namespace Cu
open PySem PySem.Spec PyProof.Rows L2
section
variable {X : Cx} {W : WX} {k j : Nat} {G G1 G2 : Gam} {S S1 S2 S3 : Sto} {e a b o : Expr} {pos pos' p : Pos} {i : Nat} {kvs : List (List Key × It)} {Qr Qr0 : It → Sto → Prop} {Qx : Addr → Sto → Prop}
theorem evx_blt {id : String} {nm : Str} {rr : List V → Hp → VK → Prop} (ho : CallR X (.builtin id) rr) (hm : X.mg nm = none) (hv : bootBuiltins nm = some (.builtin id)) (h : EvX X W a G S Qr0 Qx) (hr : ∀ r S', Qr0 r S' → ∃ z S2, RWC X rr [r] S' z S2 ∧ Qr z S2) (hg : Gl X nm := by rfl) (hn : nm ≠ "__name__" := by decide) (hdb : (nm == ("__debug__" : Str)) = false := by decide)
    (he : starEach [a] X.env = (false, eval a X.env) :: starEach [] X.env := by rfl) : EvX X W (.Call (.Name nm p) [a] [] pos) G S Qr Qx := fun M σ H Q s h1 h2 =>
  toE (pe_callB ho hg hm hv (pa_cons pe_s pa_nil he) hn hdb he rfl) (h M σ H _ s (fun v M1 H1 r S' e1 s1 r1 q1 => by
    obtain ⟨z, S2, hR, q2⟩ := hr r S' q1
    exact hR M1 H1 [v] _ s1.sto (.cons r1 .nil) fun w M2 H2 e2 s2 r2 => h1 w M2 H2 z S2 (e1.trans e2) (s1.mono e2 s2) r2 q2) h2)
theorem rwc_sortT (hi : S[i]? = some (.dT kvs)) (hal : PySem.W.AllAlike (keysU kvs)) (hso : PySem.W.Sortable (keysU kvs)) (hde : ∀ d ∈ keysU kvs, d.depth ≤ 60) : RWC X rSortT [.o i] S (.d (.list (sortD (keysU kvs)))) S := fun M H vs Q s hvs q => by
  obtain ⟨v, rfl, hv⟩ := vr1 hvs
  obtain ⟨ad, ps, rfl, _, h1, h2⟩ := dT_at s hv hi
  have ek := prep_keys h2
  refine ⟨ad, ps, rfl, .inl h1, by rw [ek]; exact hal, by rw [ek]; exact hso, by rw [ek]; exact hde, fun ys p hp hn => ?_⟩
  rw [ek] at hp
  exact q _ M _ (Ext.fresh hn) (s.fresh hn) (Fz.lst ⟨.inl upd_same, s.nin hn⟩ (FzAll.ext (Ext.fresh hn) (fz_rel s hp)))
theorem rwc_sortTN (hi : S[i]? = some (.dT kvs)) (hal : PySem.W.AllAlike (keysU kvs)) (hso : PySem.W.Sortable (keysU kvs)) (hde : ∀ d ∈ keysU kvs, d.depth ≤ 60) : RWC X rSortT [.o i] S (.o S.length) (S ++ [.lst ((sortD (keysU kvs)).map .d)]) := fun M H vs Q s hvs q => by
  obtain ⟨v, rfl, hv⟩ := vr1 hvs
  obtain ⟨ad, ps, rfl, _, h1, h2⟩ := dT_at s hv hi
  have ek := prep_keys h2
  refine ⟨ad, ps, rfl, .inl h1, by rw [ek]; exact hal, by rw [ek]; exact hso, by rw [ek]; exact hde, fun ys p hp hn => ?_⟩
  rw [ek] at hp
  have e2 : Ext M H (M ++ [p]) (upd H p (.lst ys)) := Ext.own hn
  exact q _ _ _ e2 (s.own (w := .lst ((sortD (keysU kvs)).map .d)) hn ⟨ys, upd_same, VReps.ext e2 (fz_reps (fz_rel s hp))⟩) ⟨p, by rw [← s.len, List.getElem?_append_right (Nat.le_refl _), Nat.sub_self]; rfl, rfl⟩
/-! ### what stands for a datum, by owned lists -/
mutual
theorem Den.dp {K : PySem.W.Frag} {M : List Addr} {H : Hp} {S : Sto} {n : Nat} (s : StoreOk K M H S) : ∀ {x : PyData} {r : It} {v : V}, Den n S r x → VRep K M H v r → Dp K H v x
  | .none, _, _, h, q => by cases h with | d => exact Fz.dp q
  | .bool _, _, _, h, q => by cases h with | d => exact Fz.dp q
  | .int _, _, _, h, q => by cases h with | d => exact Fz.dp q
  | .str _, _, _, h, q => by cases h with | d => exact Fz.dp q
  | .tuple ds, _, _, h, q => by
    cases h with
    | d => exact Fz.dp q
    | t h1 h2 h3 =>
      obtain ⟨a, ha, rfl⟩ := q
      obtain ⟨vs, e1, e2, _⟩ := s.rep _ a _ ha h2
      exact .tup (.inl (.inl e1)) (DenAll.dp s h3 e2)
  | .dict _, _, _, h, q => by cases h with | d => exact Fz.dp q
  | .list ds, _, _, h, q => by
    cases h with
    | d => exact Fz.dp q
    | l h1 h2 h3 =>
      obtain ⟨a, ha, rfl⟩ := q
      obtain ⟨vs, e1, e2⟩ := s.rep _ a _ ha h2
      exact .lst (.inl (.inl e1)) (DenAll.dp s h3 e2)
theorem DenAll.dp {K : PySem.W.Frag} {M : List Addr} {H : Hp} {S : Sto} {n : Nat} (s : StoreOk K M H S) : ∀ {xs : List PyData} {rs : List It} {vs : List V}, DenAll n S rs xs → VReps K M H vs rs → DpAll K H vs xs
  | [], _, _, h, q => by
    cases h
    cases q
    exact .nil
  | x :: xs, _, _, h, q => by
    cases h with
    | cons h1 h2 =>
      cases q with
      | cons q1 q2 => exact .cons (Den.dp s h1 q1) (DenAll.dp s h2 q2)
end
variable {r r' : It} {x y : PyData} {n n' : Nat} {ds : List PyData}
theorem evt_neDen (c : Cxo X W k) (ha : Ev X a G S r S1) (hb : Ev X b G S1 r' S2) (hr : Den n S2 r x) (hr' : Den n' S2 r' y) (hx : SeqAt.shaped x = true) (hy : SeqAt.shaped y = true) : EvT X (.Compare a [.NotEq] [b] pos) G S (!PyData.eqv x y) S2 := evt_cmp (op_neD c.hr.units) ha hb (fun M H v u Q s hv hu q => ⟨x, y, Den.dp s hr hv, Den.dp s hr' hu, hx, hy, q _ M H Ext.refl s (Fz.bl _)⟩)
theorem evt_eqDen (c : Cxo X W k) (ha : Ev X a G S r S1) (hb : Ev X b G S1 r' S2) (hr : Den n S2 r x) (hr' : Den n' S2 r' y) (hx : SeqAt.shaped x = true) (hy : SeqAt.shaped y = true) : EvT X (.Compare a [.Eq] [b] pos) G S (PyData.eqv x y) S2 := evt_cmp (op_eqD c.hr.units) ha hb (fun M H v u Q s hv hu q => ⟨x, y, Den.dp s hr hv, Den.dp s hr' hu, hx, hy, q _ M H Ext.refl s (Fz.bl _)⟩)
theorem evt_notinDen (c : Cxo X W k) (ha : Ev X a G S r S1) (hb : Ev X b G S1 r' S2) (hr : Den n S2 r x) (hr' : Den n' S2 r' (.list ds)) (hx : SeqAt.shaped x = true) (hd : SeqAt.shaped (.list ds) = true) (hm : behindInMarks .NotIn b = false := by rfl) : EvT X (.Compare a [.NotIn] [b] pos) G S (!ds.any fun z => PyData.eqv z x) S2 := evt_cmp (op_notInD (by have := c.hr.un; omega)) ha hb (fun M H v u Q s hv hw q => ⟨_, _, Den.dp s hr hv, Den.dp s hr' hw, hx, hd, q _ M H Ext.refl s (Fz.bl _)⟩) hm
/-- xs.append(e), e may raise -/
theorem evx_append {apos cpos : Pos} {xs : List It} (ho : Ev X o G S (.o i) S1) (hi : S1[i]? = some (.lst xs)) (ha : EvX X W e G S1 Qr0 Qx) (hq : ∀ r S2, Qr0 r S2 → S2[i]? = some (.lst xs) ∧ xs.length < 1000000 ∧ Qr (.d .none) (S2.set i (.lst (xs ++ [r])))) (hbase : attributeBase o "append" X.env (eval o X.env) = eval o X.env := by rfl)
    (hfew : ((backTo cpos (starEach [e] X.env)).all (fun x => !x.1) && (backToKw cpos (keywordEach [] X.env)).all (fun x => x.1.isSome) && decide ([e].length + ([] : List Keyword).length + (if ([] : List Keyword).isEmpty then 0 else 1) < 30)) = true := by rfl)
    (hline : (apos.endLine == cpos.line) = true := by rfl) (hs : starEach [e] X.env = (false, eval e X.env) :: starEach [] X.env := by rfl) : EvX X W (.Call (.Attribute o "append" apos) [e] [] cpos) G S Qr Qx := fun M σ H Q s h1 h2 =>
  toE (pe_bm PySem.F.plainAttrs_list PySem.F.slot_list_append PySem.F.type_list_append mt_append pe_s (pa_cons pe_s pa_nil hs) hbase hfew hline hs rfl) (ho M σ H _ s fun v M1 H1 e1 t1 r1 => ⟨ty_own hi M1 H1 v t1.sto r1, ha M1 σ H1 _ t1 (fun u M2 H2 r S2 e2 t2 r2 q2 => by
    obtain ⟨hi2, hz, q3⟩ := hq r S2 q2
    obtain ⟨ad, had, rfl⟩ := VRep.ext e2 r1
    obtain ⟨ws, e3, e4⟩ := t2.sto.rep i ad _ had hi2
    have e5 : Ext M2 H2 M2 (upd H2 ad (.lst (ws ++ [u]))) := Ext.put (List.mem_of_getElem? had)
    have s5 := t2.sto.put (w := .lst (xs ++ [r])) had ⟨_, upd_same, VReps.append (VReps.ext e5 e4) (.cons (r2.ext e5) .nil)⟩
    exact ⟨ad, ws, u, rfl, rfl, e3, by rw [e4.len, sizeLine_eq]; omega, h1 .non M2 _ (.d .none) _ ((e1.trans e2).trans e5) (t2.mono e5 s5) Fz.non q3⟩) fun M' H' C S' e3 t3 q => h2 M' H' C S' (e1.trans e3) t3 q⟩)
end
end Cu
/-! CuV: xs.clear(). -/
namespace Cu
open PySem PySem.Spec PyProof.Rows L2
section
variable {X : Cx} {G : Gam} {S S1 : Sto} {o : Expr} {apos cpos : Pos}
theorem ev_clear {i : Nat} {xs : List It} (ho : Ev X o G S (.o i) S1) (hi : S1[i]? = some (.lst xs)) (hbase : attributeBase o "clear" X.env (eval o X.env) = eval o X.env := by rfl) (hline : (apos.endLine == cpos.line) = true := by rfl) : Ev X (.Call (.Attribute o "clear" apos) [] [] cpos) G S (.d .none) (S1.set i (.lst [])) :=
  ev_bm0 PySem.F.plainAttrs_list PySem.F.slot_list_clear PySem.F.type_list_clear mt_clear ho (ty_own hi) (fun M H v vs Q s hv hvs q => by
    cases hvs
    obtain ⟨ad, had, rfl⟩ := hv
    obtain ⟨ws, e1, e2⟩ := s.rep i ad _ had hi
    have e3 : Ext M H M (upd H ad (.lst [])) := Ext.put (List.mem_of_getElem? had)
    exact ⟨ad, ws, rfl, rfl, e1, q .non M _ e3 (s.put (w := .lst []) had ⟨_, upd_same, .nil⟩) Fz.non⟩) hbase hline
end
end Cu
/-! CuW: list(reversed(xs)). -/
namespace Cu
open PySem PySem.Spec PyProof.Rows L2
section
variable {prog : Program} {w : World} {A : Around} {E : Value → Shared → Prop} {s : Shared} {it l S : Addr} {src : Array Value} {res : Value}
/-- an empty list takes what a reversed one yields -/
theorem revInto {R : Result → Shared → Prop} {e0 : Nat} (free : A.handled = none) (run : s.heap.IsRevIter it l ((src.size : Int) - 1)) (lst : s.heap.IsList l src) (apart : l ≠ it) (few : src.size ≤ sizeLine) (base : s.heap.get? S = some (seqObj "list" #[] e0)) (n1 : S ≠ it) (n2 : S ≠ l)
    (next : ∀ (g : Heap) (c : Nat) (got : Array Value) (e : Nat), (∀ b u, b ≠ S → b ≠ it → s.heap.get? b = some u → g.get? b = some u) → g.get? S = some (seqObj "list" got e) → ItemsOf (fun j v => src[src.size - 1 - j]? = some v) got src.size → R (.ok (.ret res)) { s with heap := g, toks := c }) :
    wpAny (model prog w) A.in1 (Builtin.List.listExtendWith (.ref S) (.ref it) res)
      (fun fin t => match fin with
        | .done f => R (.ok f) t
        | .again c => c.quiet = true ∧ codeAny (model prog w) A c R t) (fun e t => R (.error e) t) s := by
  have walk := (Walks.listRev (prog := prog) (w := w) (A := A.in1) free it l apart src).toS
  have ty := run.typeIs
  have off : S ∉ [it, l] := fun z => by
    rcases List.mem_cons.mp z with z | z
    · exact n1 z
    · exact n2 (List.mem_singleton.mp z)
  have diff : Builtin.List.listSameRef (.ref S) (.ref it) = false := by simp [Builtin.List.listSameRef, n1]
  unfold Builtin.List.listExtendWith
  refine wpAny_bind (wpAny_typeOf ty ?_)
  rw [if_neg (by rw [diff]; decide)]
  refine wpAny_bind (wpAny_pyIter_revIter run ?_)
  refine wpAny_bind (wpAny_holding ?_)
  unfold Builtin.List.listLengthHint
  refine wpAny_bind (wpAny_specialOf ty RT.nolen_lri ?_)
  refine wpAny_bind (m := specialOf (Value.ref it) (Str.ofString "__length_hint__")) (wpAny_specialOf ty RT.hint_lri ?_)
  generalize same : ("list_reverseiterator.__length_hint__" : String) = nm
  wp_delta
  rw [show splitId nm = some ("list_reverseiterator", "__length_hint__") from by rw [← same]; decide +kernel]
  subst same
  refine wpAny_bind (wpAny_isInstance (b := true) ty (by rw [isSubtype_type]; kernel_rfl) (wpAny_pure ?_))
  rw [if_neg (by decide)]
  refine wpAny_pure ⟨plainId_quiet PySem.F.plain_extend_loop _, codeAny_extend_loopS walk few _ off _ src.size 0 _ _ _ rfl (Nat.zero_le _) ⟨Nat.zero_le _, by rw [show ((src.size : Nat) : Int) - 1 - ((0 : Nat) : Int) = (src.size : Int) - 1 by omega]; exact run, lst⟩ base (ItemsOf.nil _) fun t got e mv there all => ?_⟩
  rw [Moved.eq_with mv]
  refine next t.heap t.toks got e (fun b u b1 b2 z => mv.heap b u (fun mem => ?_) z) there all
  rcases List.mem_cons.mp mem with q | q
  · exact b1 q
  · exact b2 (List.mem_singleton.mp q)
/-- list(it), it reversed(l) -/
theorem call_list_rev {Q : Value → Shared → Prop} (free : A.handled = none) (run : s.heap.IsRevIter it l ((src.size : Int) - 1)) (lst : s.heap.IsList l src) (apart : l ≠ it) (few : src.size ≤ sizeLine)
    (next : ∀ (g : Heap) (c : Nat) (got : Array Value) (e : Nat), (∀ b u, b ≠ it → s.heap.get? b = some u → g.get? b = some u) → g.get? s.heap.objs.size = some (seqObj "list" got e) → ItemsOf (fun j v => src[src.size - 1 - j]? = some v) got src.size → Q (.ref s.heap.objs.size) { s with heap := g, toks := c }) :
    wpAny (model prog w) A (call (.type "list") [.ref it]) Q E s := by
  have s1 : (s.heap.push (seqObj "list" #[] 0)).get? s.heap.objs.size = some (seqObj "list" #[] 0) := Heap.get?_push_size _ rfl
  have new1 : s.heap.objs.size ≠ it := by obtain ⟨o, ho, _⟩ := id run; exact Nat.ne_of_gt (Heap.lt_size ho)
  have new2 : s.heap.objs.size ≠ l := by obtain ⟨o, ho, _⟩ := id lst; exact Nat.ne_of_gt (Heap.lt_size ho)
  refine callType_codes (Q₁ := fun ob t => ob = .ref s.heap.objs.size ∧ t = { s with heap := s.heap.push (seqObj "list" #[] 0) }) PySem.F.called_list (PySem.F.typeCall_list_1 _) PySem.F.entry_list_init (code_list_new _ ⟨rfl, rfl⟩) ?_
  rintro _ _ ⟨rfl, rfl⟩
  refine ⟨⟨_, s1, rfl⟩, PySem.F.args_list_init_2 _ _, ?_⟩
  have up1 : ∀ b u, s.heap.get? b = some u → (s.heap.push (seqObj "list" #[] 0)).get? b = some u := fun b u z => Heap.get?_push_of_some _ z
  show wpAny _ _ (Builtin.List.listItems (.ref s.heap.objs.size) >>= fun old => Builtin.List.listUpdate (.ref s.heap.objs.size) (fun _ => #[]) >>= fun _ => letGo old.toList.reverse >>= fun _ => Builtin.List.listExtendWith (.ref s.heap.objs.size) (.ref it) .none) _ _ _
  refine wpAny_bind ?_
  unfold Builtin.List.listItems
  refine wpAny_bind (wpAny_seqItems s1 rfl (wpAny_pure (wpAny_bind (m := updateSeq s.heap.objs.size (fun _ => #[])) (wpAny_updateSeq s1 rfl (wpAny_bind (wpAny_letGo ?_))))))
  have s2 := Heap.get?_update_self (Obj.mapSeq (fun _ => (#[] : Array Value))) s1 rfl
  have up2 : ∀ b u, b ≠ s.heap.objs.size → s.heap.get? b = some u → ((s.heap.push (seqObj "list" #[] 0)).update s.heap.objs.size (Obj.mapSeq (fun _ => (#[] : Array Value)))).get? b = some u := fun b u nb z =>
    (Heap.get?_update_other _ _ (Ne.symm nb)).trans (up1 b u z)
  have run2 : ((s.heap.push (seqObj "list" #[] 0)).update s.heap.objs.size (Obj.mapSeq (fun _ => (#[] : Array Value)))).IsRevIter it l ((src.size : Int) - 1) := run.at fun o z => up2 it o new1.symm z
  have lst2 : ((s.heap.push (seqObj "list" #[] 0)).update s.heap.objs.size (Obj.mapSeq (fun _ => (#[] : Array Value)))).IsList l src := by
    obtain ⟨o, ho, h2⟩ := id lst
    exact ⟨o, up2 l o new2.symm ho, h2⟩
  refine revInto (A := A.in1) (s := { s with heap := (s.heap.push (seqObj "list" #[] 0)).update s.heap.objs.size (Obj.mapSeq (fun _ => (#[] : Array Value))) }) free run2 lst2 apart few s2 new1 new2 fun g c got e kept there all => ?_
  exact ⟨rfl, next g c got e (fun b u b2 z => kept b u (Nat.ne_of_lt (Heap.lt_size z)) b2 (up2 b u (Nat.ne_of_lt (Heap.lt_size z)) z)) there all⟩
end
section
variable {X : Cx}
def tListRev (K : PySem.W.Frag) (te : TE) : TE := fun σ H Q => te σ H fun v H1 => ∃ (a : Addr) (xs : List V), v = .ref a ∧ SqL K H1 a xs ∧ ∀ q, H1 q = none → Q (.ref q) (upd H1 q (.lst xs.reverse))
theorem pe_listRev {e : Expr} {te : TE} {p p2 pos pos2 : Pos} (hc : X.calm = true) (hg : Gl X "list") (hm : X.mg "list" = none) (hg2 : Gl X "reversed") (hm2 : X.mg "reversed" = none) (he : PE X e te) (hs : starEach [e] X.env = (false, eval e X.env) :: starEach [] X.env)
    (hs2 : starEach [.Call (.Name "reversed" p2) [e] [] pos2] X.env = (false, eval (.Call (.Name "reversed" p2) [e] [] pos2) X.env) :: starEach [] X.env) : PE X (.Call (.Name "list" p) [.Call (.Name "reversed" p2) [e] [] pos2] [] pos) (tListRev X.K te) := by
  refine ⟨fun pins s σ H Q I h => Call_ (ld_blt I hg hm (show bootBuiltins "list" = some (.type "list") by decide +kernel) (PyProof.Rows.callWith_type1 (args_cons (Call_ (ld_blt I hg2 hm2 PyProof.Rows.boot_reversed (PyProof.Rows.callWith_type1 (args_cons (thn (he.run pins s σ H _ I h) fun u s1 ⟨v, H1, I1, r1, a, xs, ev, hq, q⟩ => args_nil ?_) hs) hs rfl))) hs2) hs2 rfl))⟩
  subst ev
  obtain rfl : u = Value.ref a := r1
  obtain ⟨its, rv, p', hz⟩ := I1.list hq
  refine call_reversed_list p'.isList (args_nil ?_)
  have I2 : Inv X pins σ H1 { s1 with heap := s1.heap.push (revObj a ((its.toArray.size : Int) - 1)) } := I1.kept (t' := s1.toks) fun b o z => Heap.get?_push_of_some _ z
  obtain ⟨f0, f1, f2, f3, f4, f5⟩ := I1.fpOk (H' := H1) (b := s1.heap.objs.size) (Nat.le_refl _) (I1.hok.fresh (Nat.le_refl _))
  have hne : a ≠ s1.heap.objs.size := by obtain ⟨ol, hol, _⟩ := id p'.isList; exact Nat.ne_of_lt (Heap.lt_size hol)
  have sz : (s1.heap.push (revObj a ((its.toArray.size : Int) - 1))).objs.size = s1.heap.objs.size + 1 := size_push' _ _
  refine call_list_rev (s := { s1 with heap := s1.heap.push (revObj a ((its.toArray.size : Int) - 1)) }) (I1.ok.hd hc) ⟨_, Heap.get?_push_size _ rfl, rfl, rfl⟩ (p'.isList.push _) hne (by rw [List.size_toArray, ← rv.length]; exact hz) fun g c got e kept there all => ?_
  have fr : H1 (s1.heap.objs.size + 1) = none := I1.hok.fresh (Nat.le_succ _)
  refine ⟨.ref (s1.heap.push (revObj a ((its.toArray.size : Int) - 1))).objs.size, upd H1 (s1.heap.push (revObj a ((its.toArray.size : Int) - 1))).objs.size (.lst xs.reverse), ?_, rfl, q _ (by rw [sz]; exact fr)⟩
  have I3 : Inv X pins σ H1 { s1 with heap := s1.heap } := I1
  refine I1.laid (t' := c) (h' := g) (fun b u z => kept b u (Nat.ne_of_lt (Heap.lt_size z)) (Heap.get?_push_of_some _ z)) (by rw [sz]; exact Nat.le_succ _) ?_
  exact ⟨by rw [List.length_reverse]; exact hz, got.toList, e, RT.vals_rev rv all, by rw [Array.toArray_toList]; exact there⟩
end
theorem fz_rev {M : List Addr} {H : Hp} {ds : List PyData} {vs : List V} (h : FzAll M H vs ds) : FzAll M H vs.reverse ds.reverse := by
  induction ds generalizing vs with
  | nil => cases h; exact .nil
  | cons d ds ih =>
    cases h with
    | cons h1 h2 =>
      rw [List.reverse_cons, List.reverse_cons]
      exact fz_app (ih h2) (.cons h1 .nil)
section
variable {X : Cx} {W : WX} {k : Nat} {G : Gam} {S S1 : Sto} {a : Expr} {r : It} {p p2 pos pos2 : Pos} {ds : List PyData}
theorem ev_listRev (c : Cxo X W k) (hm : X.mg "list" = none) (hm2 : X.mg "reversed" = none) (ha : Ev X a G S r S1) (hr : lsOf S1 r = some ds) (hg : Gl X "list" := by rfl) (hg2 : Gl X "reversed" := by rfl) (hs : starEach [a] X.env = (false, eval a X.env) :: starEach [] X.env := by rfl)
    (hs2 : starEach [.Call (.Name "reversed" p2) [a] [] pos2] X.env = (false, eval (.Call (.Name "reversed" p2) [a] [] pos2) X.env) :: starEach [] X.env := by rfl) : Ev X (.Call (.Name "list" p) [.Call (.Name "reversed" p2) [a] [] pos2] [] pos) G S (.d (.list ds.reverse)) S1 := fun M σ H Q s q =>
  toE (pe_listRev c.calm hg hm hg2 hm2 pe_s hs hs2) (ha M σ H _ s fun v M1 H1 e1 t1 r1 => by
    obtain ⟨ad, xs, rfl, h1, h2⟩ := ls_rd t1.sto r1 hr
    exact ⟨ad, xs, rfl, .inl h1, fun p hp => q _ M1 _ (e1.trans (Ext.fresh hp)) (t1.fresh hp) (Fz.lst ⟨.inl upd_same, t1.sto.nin hp⟩ (FzAll.ext (Ext.fresh hp) (fz_rev h2)))⟩)
theorem ev_listRevN (c : Cxo X W k) (hm : X.mg "list" = none) (hm2 : X.mg "reversed" = none) (ha : Ev X a G S r S1) (hr : lsOf S1 r = some ds) (hg : Gl X "list" := by rfl) (hg2 : Gl X "reversed" := by rfl) (hs : starEach [a] X.env = (false, eval a X.env) :: starEach [] X.env := by rfl)
    (hs2 : starEach [.Call (.Name "reversed" p2) [a] [] pos2] X.env = (false, eval (.Call (.Name "reversed" p2) [a] [] pos2) X.env) :: starEach [] X.env := by rfl) : Ev X (.Call (.Name "list" p) [.Call (.Name "reversed" p2) [a] [] pos2] [] pos) G S (.o S1.length) (S1 ++ [.lst (ds.reverse.map .d)]) := fun M σ H Q s q =>
  toE (pe_listRev c.calm hg hm hg2 hm2 pe_s hs hs2) (ha M σ H _ s fun v M1 H1 e1 t1 r1 => by
    obtain ⟨ad, xs, rfl, h1, h2⟩ := ls_rd t1.sto r1 hr
    refine ⟨ad, xs, rfl, .inl h1, fun p hp => ?_⟩
    have e2 : Ext M1 H1 (M1 ++ [p]) (upd H1 p (.lst xs.reverse)) := Ext.own hp
    exact q _ _ _ (e1.trans e2) (t1.mono e2 (t1.sto.own (w := .lst (ds.reverse.map .d)) hp ⟨_, upd_same, VReps.ext e2 (fz_reps (fz_rev h2))⟩)) ⟨p, by rw [← t1.sto.len, List.getElem?_append_right (Nat.le_refl _), Nat.sub_self]; rfl, rfl⟩)
end
end Cu
/-! CuX: texts: split, startswith, endswith, strip of signs, slices, int; all of truths. -/
namespace Cu
open PySem PySem.Spec PyProof.Rows L2
theorem fz_strL {M : List Addr} {H : Hp} : ∀ (xs : List Str), FzAll M H (xs.map V.str) (xs.map .str)
  | [] => .nil
  | x :: xs => .cons (.str x) (fz_strL xs)
section
variable {X : Cx} {W : WX} {k : Nat} {G : Gam} {S S1 S2 : Sto} {a b o e : Expr} {r : It} {p pos apos cpos p2 : Pos} {ds : List PyData} {x y : Str} {n : Int}
theorem ev_split (ho : Ev X o G S (.d (.str x)) S1) (ha : Ev X e G S1 (.d (.str y)) S2) (h0 : (y.length == 0) = false) (hz : x.length ≤ 1000000) (hbase : attributeBase o "split" X.env (eval o X.env) = eval o X.env := by rfl)
    (hfew : ((backTo cpos (starEach [e] X.env)).all (fun x => !x.1) && (backToKw cpos (keywordEach [] X.env)).all (fun x => x.1.isSome) && decide ([e].length + ([] : List Keyword).length + (if ([] : List Keyword).isEmpty then 0 else 1) < 30)) = true := by rfl)
    (hline : (apos.endLine == cpos.line) = true := by rfl) (hs : starEach [e] X.env = (false, eval e X.env) :: starEach [] X.env := by rfl) : Ev X (.Call (.Attribute o "split" apos) [e] [] cpos) G S (.d (.list ((Txt.split x y).map .str))) S2 :=
  ev_bm PySem.F.plainAttrs_str PySem.F.slot_str_split PySem.F.type_str_split mt_split ho ty_str (eva_cons ha eva_nil hs) (fun M H v vs Q s hv hvs q => by
    obtain ⟨u, rfl, hu⟩ := vr1 hvs
    exact ⟨x, y, vr_str hv, by rw [vr_str hu], h0, by rw [sizeLine_eq]; omega, fun p hp => q _ M _ (Ext.fresh hp) (s.fresh hp) (Fz.lst ⟨.inl upd_same, s.nin hp⟩ (fz_strL _))⟩) hbase hfew hline hs rfl
theorem ev_splitN (ho : Ev X o G S (.d (.str x)) S1) (ha : Ev X e G S1 (.d (.str y)) S2) (h0 : (y.length == 0) = false) (hz : x.length ≤ 1000000) (hbase : attributeBase o "split" X.env (eval o X.env) = eval o X.env := by rfl)
    (hfew : ((backTo cpos (starEach [e] X.env)).all (fun x => !x.1) && (backToKw cpos (keywordEach [] X.env)).all (fun x => x.1.isSome) && decide ([e].length + ([] : List Keyword).length + (if ([] : List Keyword).isEmpty then 0 else 1) < 30)) = true := by rfl)
    (hline : (apos.endLine == cpos.line) = true := by rfl) (hs : starEach [e] X.env = (false, eval e X.env) :: starEach [] X.env := by rfl) : Ev X (.Call (.Attribute o "split" apos) [e] [] cpos) G S (.o S2.length) (S2 ++ [.lst (((Txt.split x y).map PyData.str).map .d)]) :=
  ev_bm PySem.F.plainAttrs_str PySem.F.slot_str_split PySem.F.type_str_split mt_split ho ty_str (eva_cons ha eva_nil hs) (fun M H v vs Q s hv hvs q => by
    obtain ⟨u, rfl, hu⟩ := vr1 hvs
    refine ⟨x, y, vr_str hv, by rw [vr_str hu], h0, by rw [sizeLine_eq]; omega, fun p hp => ?_⟩
    have e2 : Ext M H (M ++ [p]) (upd H p (.lst ((Txt.split x y).map V.str))) := Ext.own hp
    exact q _ _ _ e2 (s.own (w := .lst (((Txt.split x y).map PyData.str).map .d)) hp ⟨_, upd_same, fz_reps (fz_strL _)⟩) ⟨p, by rw [← s.len, List.getElem?_append_right (Nat.le_refl _), Nat.sub_self]; rfl, rfl⟩) hbase hfew hline hs rfl
theorem ev_startswith (ho : Ev X o G S (.d (.str x)) S1) (ha : Ev X e G S1 (.d (.str y)) S2) (hbase : attributeBase o "startswith" X.env (eval o X.env) = eval o X.env := by rfl)
    (hfew : ((backTo cpos (starEach [e] X.env)).all (fun x => !x.1) && (backToKw cpos (keywordEach [] X.env)).all (fun x => x.1.isSome) && decide ([e].length + ([] : List Keyword).length + (if ([] : List Keyword).isEmpty then 0 else 1) < 30)) = true := by rfl)
    (hline : (apos.endLine == cpos.line) = true := by rfl) (hs : starEach [e] X.env = (false, eval e X.env) :: starEach [] X.env := by rfl) : Ev X (.Call (.Attribute o "startswith" apos) [e] [] cpos) G S (.d (.bool (Txt.startswith x y))) S2 :=
  ev_bm PySem.F.plainAttrs_str PySem.F.slot_str_startswith PySem.F.type_str_startswith mt_startswith ho ty_str (eva_cons ha eva_nil hs) (fun M H v vs Q s hv hvs q => by
    obtain ⟨u, rfl, hu⟩ := vr1 hvs
    exact ⟨x, y, vr_str hv, by rw [vr_str hu], q _ M H Ext.refl s (Fz.bl _)⟩) hbase hfew hline hs rfl
theorem ev_endswith (ho : Ev X o G S (.d (.str x)) S1) (ha : Ev X e G S1 (.d (.str y)) S2) (hbase : attributeBase o "endswith" X.env (eval o X.env) = eval o X.env := by rfl)
    (hfew : ((backTo cpos (starEach [e] X.env)).all (fun x => !x.1) && (backToKw cpos (keywordEach [] X.env)).all (fun x => x.1.isSome) && decide ([e].length + ([] : List Keyword).length + (if ([] : List Keyword).isEmpty then 0 else 1) < 30)) = true := by rfl)
    (hline : (apos.endLine == cpos.line) = true := by rfl) (hs : starEach [e] X.env = (false, eval e X.env) :: starEach [] X.env := by rfl) : Ev X (.Call (.Attribute o "endswith" apos) [e] [] cpos) G S (.d (.bool (Txt.endswith x y))) S2 :=
  ev_bm PySem.F.plainAttrs_str PySem.F.slot_str_endswith PySem.F.type_str_endswith mt_endswith ho ty_str (eva_cons ha eva_nil hs) (fun M H v vs Q s hv hvs q => by
    obtain ⟨u, rfl, hu⟩ := vr1 hvs
    exact ⟨x, y, vr_str hv, by rw [vr_str hu], q _ M H Ext.refl s (Fz.bl _)⟩) hbase hfew hline hs rfl
theorem ev_stripC (ho : Ev X o G S (.d (.str x)) S1) (ha : Ev X e G S1 (.d (.str y)) S2) (hz : x.length ≤ 1000000) (hbase : attributeBase o "strip" X.env (eval o X.env) = eval o X.env := by rfl)
    (hfew : ((backTo cpos (starEach [e] X.env)).all (fun x => !x.1) && (backToKw cpos (keywordEach [] X.env)).all (fun x => x.1.isSome) && decide ([e].length + ([] : List Keyword).length + (if ([] : List Keyword).isEmpty then 0 else 1) < 30)) = true := by rfl)
    (hline : (apos.endLine == cpos.line) = true := by rfl) (hs : starEach [e] X.env = (false, eval e X.env) :: starEach [] X.env := by rfl) : Ev X (.Call (.Attribute o "strip" apos) [e] [] cpos) G S (.d (.str (Txt.stripChars x y))) S2 :=
  ev_bm PySem.F.plainAttrs_str PySem.F.slot_str_strip PySem.F.type_str_strip mt_stripChars ho ty_str (eva_cons ha eva_nil hs) (fun M H v vs Q s hv hvs q => by
    obtain ⟨u, rfl, hu⟩ := vr1 hvs
    exact ⟨x, y, vr_str hv, by rw [vr_str hu], by rw [sizeLine_eq]; omega, q _ M H Ext.refl s (Fz.str _)⟩) hbase hfew hline hs rfl
/-- x[lo:hi] of a text -/
theorem ev_slS {lo hi : Option Expr} {il ih : Option Int} (ha : Ev X a G S (.d (.str x)) S1) (hl : EvP X lo G S1 il) (hh : EvP X hi G S1 ih) (hz : x.length ≤ 1000000) : Ev X (.Subscript a (.Slice lo hi none p2) pos) G S (.d (.str (cutS x il ih))) S1 := fun M σ H Q s q =>
  toE (pe_slice sl_str pe_s po_tEP po_tEP) (ha M σ H _ s fun v M1 H1 e1 t1 r1 => hl.run t1 fun M2 H2 e2 t2 => hh.run t2 fun M3 H3 e3 t3 => ⟨x, vr_str r1, by rw [sizeLine_eq]; omega, q _ M3 H3 ((e1.trans e2).trans e3) t3 (Fz.str _)⟩)
/-- int(s) -/
theorem ev_intS (hm : X.mg "int" = none) (ha : Ev X a G S (.d (.str x)) S1) (h : PySem.intText? x = some n) (hz : x.length ≤ 640) (hg : Gl X "int" := by rfl) (he : starEach [a] X.env = (false, eval a X.env) :: starEach [] X.env := by rfl) : Ev X (.Call (.Name "int" p) [a] [] pos) G S (.d (.int n)) S1 :=
  ev_ty call_int_str hm (by decide +kernel) (eva_cons ha eva_nil he) (fun M H vs Q s hvs q => by
    obtain ⟨v, rfl, hv⟩ := vr1 hvs
    exact ⟨x, n, by rw [vr_str hv], h, hz, q _ M H Ext.refl s (Fz.int _)⟩) hg (by decide) (by decide) he rfl
/-- all(xs), xs a list of truths -/
theorem ev_all (c : Cxo X W k) {bs : List Bool} (hm : X.mg "all" = none) (ha : Ev X a G S r S1) (hr : lsOf S1 r = some (bs.map .bool)) (hg : Gl X "all" := by rfl) (he : starEach [a] X.env = (false, eval a X.env) :: starEach [] X.env := by rfl) : Ev X (.Call (.Name "all" p) [a] [] pos) G S (.d (.bool (bs.all id))) S1 :=
  ev_blt (cr_all c.calm) hm (by decide +kernel) (eva_cons ha eva_nil he) (fun M H vs Q s hvs q => by
    obtain ⟨v, rfl, hv⟩ := vr1 hvs
    obtain ⟨ad, xs, rfl, h1, h2⟩ := ls_rd s hv hr
    exact ⟨ad, bs, rfl, .inl (by rw [← fz_bools h2]; exact h1), q _ M H Ext.refl s (Fz.bl _)⟩) hg (by decide) (by decide) he rfl
end
end Cu
/-! CuY: a comprehension of data whose list is owned. -/
namespace Cu
open PySem PySem.Spec PyProof.Rows L2
section
variable {X : Cx} {W : WX} {k j : Nat} {G : Gam} {S S1 : Sto} {rs : List It} {elt tg iter : Expr} {ifs : List Expr} {scope : Scope} {own : List (Str × Nat)}
theorem lc_pureO {bind : It → Gam → Option Gam} {C : Sto → Prop} (c : Cxo X W k) (hi : EvI X tg iter G S rs C S1) (ht : TgOk X scope tg (own.map (·.2)) bind) (f : It → Bool) (gg : It → PyData) (hC : ∀ L, C (S1 ++ L))
    (hs : ∀ r ∈ rs, ∃ G', bind r (wipeG G (own.map (·.2))) = some G' ∧ (∀ L s H C cl fp, EvTs (blkX X scope s H C cl fp) ifs G' (S1 ++ L) (f r)) ∧ (f r = true → ∀ L s H C cl fp, Ev (blkX X scope s H C cl fp) elt G' (S1 ++ L) (.d (gg r)) (S1 ++ L))) (hz : rs.length ≤ 900000) :
    LcOwn X scope own elt tg iter ifs G S S1.length (S1 ++ [.lst (((rs.filter f).map gg).map .d)]) := by
  have hat : ∀ u : Own, (S1 ++ [u])[S1.length]? = some u := fun u => by rw [List.getElem?_append_right (Nat.le_refl _), Nat.sub_self]; rfl
  have hset : ∀ u v : Own, (S1 ++ [u]).set S1.length v = S1 ++ [v] := fun u v => by rw [List.set_append_right _ _ (Nat.le_refl _), Nat.sub_self]; rfl
  refine lc_own c hi ht (fun i S' => i ≤ rs.length ∧ S' = S1 ++ [.lst ((((rs.take i).filter f).map gg).map .d)]) ⟨Nat.zero_le _, rfl⟩ (fun i S' h => by rw [h.2]; exact hC _) (fun i r S' hr hJ => ?_) (fun S' h => by rw [h.2, List.take_length])
  obtain ⟨hi', rfl⟩ := hJ
  obtain ⟨G', h1, h2, h3⟩ := hs r (List.mem_of_getElem? hr)
  have hlt := (List.getElem?_eq_some_iff.mp hr).1
  have et : rs.take (i + 1) = rs.take i ++ [r] := by rw [List.take_add_one, hr]; rfl
  refine ⟨G', f r, h1, fun s H C cl fp => h2 _ s H C cl fp, fun hf => ⟨.d (gg r), _, _, fun s H C cl fp => h3 hf _ s H C cl fp, hat _, ?_, hlt, ?_⟩, fun hf => ⟨hlt, ?_⟩⟩
  · rw [List.length_map, List.length_map]
    have := List.length_filter_le f (rs.take i)
    rw [List.length_take] at this
    omega
  · rw [hset, et, List.filter_append, List.map_append, List.map_append]
    simp [hf]
  · rw [et, List.filter_append]
    simp [hf]
end
end Cu
/-! CuZ: f-strings of numbers, int of a truth, a text within a text, try without a name. -/
namespace Cu
open PySem PySem.Spec PyProof.Rows L2
section
variable {X : Cx} {W : WX} {k : Nat} {G : Gam} {S S1 S2 : Sto} {P : Post} {a b o e : Expr} {es : List Expr} {r : It} {p pos pos' np apos cpos p2 : Pos} {ds : List PyData} {x y acc out : Str} {n : Int} {body suite : List Stmt}
/-- int(b), b a truth -/
theorem ev_intB {t : Bool} (hm : X.mg "int" = none) (ha : Ev X a G S (.d (.bool t)) S1) (hg : Gl X "int" := by rfl) (he : starEach [a] X.env = (false, eval a X.env) :: starEach [] X.env := by rfl) : Ev X (.Call (.Name "int" p) [a] [] pos) G S (.d (.int (if t then 1 else 0))) S1 :=
  ev_ty call_int1 hm (by decide +kernel) (eva_cons ha eva_nil he) (fun M H vs Q s hvs q => by
    obtain ⟨v, rfl, hv⟩ := vr1 hvs
    exact .inr ⟨t, by rw [vr_bool hv], q _ M H Ext.refl s (Fz.int _)⟩) hg (by decide) (by decide) he rfl
/-- the one text lies in the other -/
def strIn (x y : Str) : Bool := !(Builtin.Str.occurrences y x 0 y.length 1).isEmpty
theorem evt_inStr (ha : Ev X a G S (.d (.str x)) S1) (hb : Ev X b G S1 (.d (.str y)) S2) (hm : behindInMarks .In b = false := by rfl) : EvT X (.Compare a [.In] [b] pos) G S (strIn x y) S2 := evt_cmp op_in_str ha hb (fun M H v u Q s hv hu q => ⟨x, y, vr_str hv, vr_str hu, q _ M H Ext.refl s (Fz.bl _)⟩) hm
theorem ev_inStr (ha : Ev X a G S (.d (.str x)) S1) (hb : Ev X b G S1 (.d (.str y)) S2) (hm : behindInMarks .In b = false := by rfl) : Ev X (.Compare a [.In] [b] pos) G S (.d (.bool (strIn x y))) S2 := ev_cmp op_in_str ha hb (fun M H v u Q s hv hu q => ⟨x, y, vr_str hv, vr_str hu, q _ M H Ext.refl s (Fz.bl _)⟩) hm
/-- {n} of an f-string -/
theorem ev_fmtI (ha : Ev X a G S (.d (.int n)) S1) (hz : n.natAbs.log2 < 1920) : Ev X (.FormattedValue a (-1) none pos) G S (.d (.str (toString n))) S1 := fun M σ H Q s q =>
  toE (pe_fmt pe_s) (ha M σ H _ s fun v M1 H1 e1 t1 r1 => .inr ⟨n, vr_int r1, hz, q _ M1 H1 e1 t1 (Fz.str _)⟩)
/-- the parts of an f-string, one behind the other -/
def EvJ (X : Cx) (es : List Expr) (G : Gam) (S : Sto) (acc out : Str) (S' : Sto) : Prop := ∀ (M : List Addr) (σ : Sig) (H : Hp) (Q : Str → Hp → Prop), Stt X.K M H S G σ →
  (∀ M' H', Ext M H M' H' → Stt X.K M' H' S' G σ → Q out H') → tJs (es.map (sE X)) acc σ H Q
theorem evj_nil : EvJ X [] G S acc acc S := fun M σ H Q s q => q M H Ext.refl s
theorem evj_cons (he : Ev X e G S (.d (.str y)) S1) (hr : EvJ X es G S1 (acc ++ y) out S2) (hz : (acc ++ y).length ≤ 1000000) : EvJ X (e :: es) G S acc out S2 := fun M σ H Q s q =>
  he M σ H _ s fun v M1 H1 e1 t1 r1 => ⟨y, vr_str r1, by rw [sizeLine_eq]; omega, hr M1 σ H1 Q t1 fun M2 H2 e2 t2 => q M2 H2 (e1.trans e2) t2⟩
theorem pj_s : ∀ es : List Expr, PJ X es (es.map (sE X))
  | [] => .nil
  | _ :: es => .cons pe_s (pj_s es)
theorem ev_fstr {v1 v2 : Expr} {rest : List Expr} (h : EvJ X (v1 :: v2 :: rest) G S Str.empty out S1) : Ev X (.JoinedStr (v1 :: v2 :: rest) pos) G S (.d (.str out)) S1 := fun M σ H Q s q =>
  toE (pe_joined (pj_s _)) (h M σ H _ s fun M1 H1 e1 t1 => q _ M1 H1 e1 t1 (Fz.str _))
/-- try: .. except x: suite; the suite raises nothing -/
theorem ws_try_only {x : Str} {c0 : Value} {b₀ : Stmt} (c : Cxo X W k) (hs : X.stack = X.env :: X.outer) (hf : X.env.frame = some X.env.locals) (hc : Names X x c0) (Qx : Addr → Gam → Sto → Prop)
    (hb : ∀ (W' : WX) (pn : List (Addr × Obj)) (xe : Value → Shared → Prop), Cxo (trX X pn xe) W' k → WSs (trX X pn xe) W' body G S { P with xc := Qx })
    (hsu : ∀ C G' S', Qx C G' S' → PySem.W.exmOne X.K (.ref C) c0 = some true ∧ ∀ (ad : Addr) (oe : Obj) (pn : List (Addr × Obj)), Zc (.ref C) none oe → (∃ vs, oe.data = .fields vs) →
      WSs (suX X ad oe pn) (fun _ _ _ _ => False) (b₀ :: suite) G' S' { nx := P.nx, rt := P.rt, bk := P.bk, ct := P.ct }) : WS X W (.Try body [.ExceptHandler (some (.Name x np)) none (b₀ :: suite) pos'] [] [] pos) G S P := fun M σ H D s m =>
  toS (ps_try_only (tb := fun W' => fun D σ H => ∀ pn xe, Takes (X.tr pn xe) W' → PassesOwn (model X.prog X.w) X.A X.env xe → sSs (X.tr pn xe) body D σ H) (ts := fun ad cls d => fun D σ H => ∀ oe pn, Zc cls d oe → (∃ vs, oe.data = .fields vs) → sSs (suX X ad oe pn) (b₀ :: suite) D σ H) hs hf hc c.tk
    (fun W' pn xe tk po => ⟨fun pins s1 σ1 H1 D1 I1 h1 => h1 pn xe tk po pins s1 I1⟩) (fun ad oe cls d pn hz hd => ⟨fun pins s1 σ1 H1 D1 I1 h1 => h1 oe pn hz hd pins s1 I1⟩)) (by
    intro pn xe tk po
    refine hb _ pn xe ⟨c.calm, c.nd, tk, po, c.hr⟩ M σ H D s ⟨m.nx, m.rt, m.bk, m.ct, fun M' σ' H' G' C S' e1 t1 q1 => ?_⟩
    obtain ⟨h1, h2⟩ := hsu C G' S' q1
    refine ⟨true, h1, fun _ ad had oe pn' hz hd => ?_, fun q => (nomatch q)⟩
    refine h2 ad oe pn' hz hd M' _ H' _ t1 ⟨fun M2 σ2 H2 G2 S2 e2 t2 q2 => m.nx M2 _ H2 _ S2 (e1.trans e2) t2 q2, fun v M2 H2 r S2 e2 => m.rt v M2 H2 r S2 (e1.trans e2), fun M2 σ2 H2 G2 S2 e2 t2 q2 => m.bk M2 _ H2 _ S2 (e1.trans e2) t2 q2, fun M2 σ2 H2 G2 S2 e2 t2 q2 => m.ct M2 _ H2 _ S2 (e1.trans e2) t2 q2, fun _ _ _ _ _ _ _ _ q2 => q2.elim⟩)
end
end Cu
/-! CvA: enumerate of a text. -/
namespace L2
open PySem PySem.Spec PyProof.Rows
/-- the signs of a text, each in a new pair with its number -/
def Itq (x : Str) : It := ⟨fun i _ => i < x.cps.size, fun i H v H' => ∃ T c, v = .ref T ∧ H T = none ∧ H' = upd H T (.tup [.int (i : Nat), .str ⟨#[c]⟩]) ∧ x.cps[i]? = some c, fun i _ => x.cps.size ≤ i⟩
theorem enumQ_end {prog : Program} {w : World} {A : Around} {E : Value → Shared → Prop} {s : Shared} {e it : Addr} {x : Str} {t : Tok} {i : Int} {j : Nat} {old : Value} {Q : Option Value → Shared → Prop} (hh : A.handled = none) (he : IsEnum s.heap e it i old) (hit : s.heap.IsStrIter it (strIterType x) x t j) (hx : x.cps[j]? = none)
    (hQ : ∀ h', Heap.ExtBut it s.heap h' → Q none { s with heap := h' }) : wpAny (model prog w) A (pyNext (.ref e)) Q E s := by
  have hT : s.TypeIs (.ref e) "enumerate" := ⟨_, he, rfl⟩
  have nx : ∀ {A' : Around} {Q : Value → Shared → Prop} {E : Value → Shared → Prop}, A'.handled = none → (∀ h' e, Heap.ExtBut it s.heap h' → (∃ o, h'.get? e = some o ∧ o.cls = .type "StopIteration") → E (.ref e) { s with heap := h' }) → wpAny (model prog w) A' (Builtin.SmallTypes.nextOf (.ref it)) Q E s := by
    intro A' Q E h1 h2
    cases ha : x.cps.all (· < 128)
    · simp only [strIterType, ha, Bool.false_eq_true, if_false] at hit
      exact wpAny_nextOf_wide_end h1 hit hx h2
    · simp only [strIterType, ha, if_true] at hit
      exact wpAny_nextOf_ascii_end h1 hit hx h2
  unfold pyNext
  refine wpAny_bind (wpAny_attempt (wpAny_callSpecial?_slot (name := Str.ofString "__next__") hT F.slot_enumerate_next
    (wpAny_call_entry F.slot_enumerate_next hT F.entry_enumerate_next ?_ (F.args_enumerate_next_1 _))))
  show wpAny _ _ (field (.ref e) 2 >>= _) _ _ _
  refine wpAny_bind (wpAny_field he rfl (x := .ref it) rfl ?_)
  refine wpAny_bind (nx hh fun h' y he' hx' => ?_)
  obtain ⟨o, ho, hc⟩ := hx'
  refine wpAny_bind (wpAny_isInstance (T := "StopIteration") (b := true) ⟨o, ho, hc⟩ isSubtype_stop ?_)
  exact wpAny_pure (hQ _ he')
theorem turn_enumQ {P : Program} {w : World} {K : PySem.W.Frag} {elts : List Expr} {kk : Nat} {tpos : Pos} (x : Str) (t : Tok) (e it : Addr) :
    Turn P w K (.Tuple elts kk tpos) (Itq x) [e, it] e (fun i h => (∃ old, IsEnum h e it ((i : Nat) : Int) old) ∧ h.IsStrIter it (strIterType x) x t i ∧ e ≠ it) where
  mem := by simp
  obj := fun i h st b hb => by
    obtain ⟨⟨old, he⟩, ⟨o, ho, hc, hd⟩, _⟩ := st
    have e' : b = e ∨ b = it := by simpa using hb
    rcases e' with z | z
    · rw [z]; exact ⟨_, he, fun v q => nomatch q⟩
    · rw [z]; exact ⟨o, ho, fun v q => by rw [hd] at q; cases q⟩
  keep := fun i h h' st k => let ⟨⟨old, he⟩, ⟨o, ho, r⟩, hne⟩ := st; ⟨⟨old, k e (by simp) _ he⟩, ⟨o, k it (by simp) o ho, r⟩, hne⟩
  item := by
    intro X hP hw hK hc i pins s σ H E I hf st hg
    subst hP hw hK
    obtain ⟨⟨old, he⟩, hit, hne⟩ := st
    have hh : X.A.in1.handled = none := I.ok.hd hc
    have D : Draws X.prog X.w X.A.in1 it [it] x.cps.size _ _ := Draws.text hh it x t
    have hel : e < s.heap.objs.size := Heap.lt_size he
    refine wpAny_pyNext_enum_itemD D he hit hg hne (by simpa using hne) fun v h' tk hv ho hit' hT hsz hk => ?_
    obtain ⟨c, u, hx, rfl⟩ := hv
    refine ⟨_, rfl, wpAny_letOwnedTupleGo_enum (s := { s with heap := h', toks := tk + 1 }) ho fun h'' he' sb => ?_⟩
    have hT2 : h''.get? s.heap.objs.size = some { cls := .type "tuple", data := .seq #[.int i tk, .str ⟨#[c]⟩ u] } := (sb.2 _ (Nat.ne_of_gt hel)).trans hT
    have new : ObjOk X.prog X.w (upd H s.heap.objs.size (.tup [.int (i : Nat), .str ⟨#[c]⟩])) h'' s.heap.objs.size (.tup [.int (i : Nat), .str ⟨#[c]⟩]) :=
      ⟨by show 2 ≤ sizeLine; decide, [.int i tk, .str ⟨#[c]⟩ u], .cons ⟨_, rfl⟩ (.cons ⟨_, rfl⟩ .nil), ⟨_, hT2, rfl, _, rfl⟩⟩
    have I1 : Inv X pins σ (upd H s.heap.objs.size (.tup [.int (i : Nat), .str ⟨#[c]⟩])) { s with heap := h'', toks := tk + 1 } :=
      I.turnedNew (ch := [e, it]) (fun b ob hb q => (sb.2 b (fun z => hb (by simp [z]))).trans (hk b ob (fun z => hb (by simp [z])) (fun z => hb (by simp [z])) q)) hf (Nat.le_refl _) new
    obtain ⟨oi, hoi, ri⟩ := hit'
    refine ⟨.ref s.heap.objs.size, _, I1, rfl, ⟨_, c, rfl, I.hok.fresh (Nat.le_refl _), rfl, hx⟩, ⟨⟨.str ⟨#[c]⟩ u, ?_⟩, ⟨oi, (sb.2 it (Ne.symm hne)).trans hoi, ri⟩, hne⟩, fun b hb => ?_⟩
    · have e1 : ((i + 1 : Nat) : Int) = (i : Int) + 1 := by omega
      rw [e1]; exact he'
    · have hb' : b < s.heap.objs.size := by
        have e' : b = e ∨ b = it := by simpa using hb
        rcases e' with z | z
        · rw [z]; exact hel
        · rw [z]; obtain ⟨_, q, _⟩ := hit; exact Heap.lt_size q
      rw [upd_ne (Nat.ne_of_lt hb')]
      exact (hf b hb).1
  done := by
    intro X hP hw hK hc i pins s σ H E I hf st hg
    subst hP hw hK
    obtain ⟨⟨old, he⟩, hit, hne⟩ := st
    obtain ⟨f0, f1, f2, f3, f4, f5⟩ := hf it (by simp)
    exact enumQ_end (I.ok.hd hc) he hit (Array.getElem?_eq_none hg) fun h' eb => ⟨rfl, I.turned (t' := s.toks) (fun b o hb q => eb b o hb q) f0 f1 f3 f4 f5⟩
  self := fun A i s Q E st h => let ⟨⟨_, he⟩, _⟩ := st; wpAny_pyIter_enum he h
def iEnumQ (ta : TA) : TI := fun σ H R => ta σ H fun vs H1 => ∃ x, vs = [.str x] ∧ R (Itq x) H1
theorem pi_enumQ {X : Cx} {e : Expr} {ta : TA} {p pos tpos : Pos} {elts : List Expr} {kk : Nat} (hg : Gl X "enumerate") (hm : X.mg "enumerate" = none) (ha : PA X [e] ta) (hs : starEach [e] X.env = [(false, eval e X.env)] := by rfl) :
    PI X (.Tuple elts kk tpos) (.Call (.Name "enumerate" p) [e] [] pos) (iEnumQ ta) := by
  refine ⟨fun pins s σ H R I h => ?_⟩
  refine Call_ (ld_blt I hg hm boot_enumerate (PyProof.Rows.callWith_type1 (thn (ha.run pos pins s σ H _ I h) fun us s1 ⟨vs, H1, I1, r1, q1⟩ => ?_) hs rfl))
  obtain ⟨x, ex, q⟩ := q1
  subst ex
  cases r1 with
  | cons r rr =>
    cases rr
    obtain ⟨t, rfl⟩ := r
    refine call_enumerate_str fun h' he hit hsz hk => wpAny_pyIter_enum he ?_
    have I2 : Inv X pins σ H1 { s1 with heap := h' } := I1.kept (t' := s1.toks) hk
    refine ⟨s1.heap.objs.size + 1, [s1.heap.objs.size + 1, s1.heap.objs.size], _, _, H1, rfl, I2, turn_enumQ x t (s1.heap.objs.size + 1) s1.heap.objs.size, ⟨⟨.none, he⟩, hit, Nat.succ_ne_self _⟩, fun b hb => ?_, q⟩
    have e' : b = s1.heap.objs.size + 1 ∨ b = s1.heap.objs.size := by simpa using hb
    have hle : s1.heap.objs.size ≤ b := by
      rcases e' with z | z
      · rw [z]; exact Nat.le_add_right _ _
      · rw [z]; exact Nat.le_refl _
    exact I1.fpOk hle (I1.hok.fresh hle)
end L2
namespace Cu
open PySem PySem.Spec PyProof.Rows L2
section
variable {X : Cx} {W : WX} {k : Nat} {G : Gam} {S S1 S2 : Sto} {p pos pos' tpos : Pos}
theorem wk_enumQ {K : PySem.W.Frag} {M1 : List Addr} {H1 : Hp} {x : Str} : Wk K (Itq x) anyS M1 H1 ((signs x).zipIdx.map fun y => It.d (.tuple [.int (y.2 : Nat), y.1])) where
  go := fun i M' H' S' hi e s _ => by rw [List.length_map, List.length_zipIdx, signs_len] at hi; exact hi
  yl := fun i M' H' S' v H2 r hr e s _ y => by
    obtain ⟨T, c, rfl, hT, rfl, hc⟩ := y
    unfold signs at hr
    rw [List.getElem?_map, List.getElem?_zipIdx, List.getElem?_map, Array.getElem?_toList, hc] at hr
    cases hr
    have e2 : Ext M' H' M' (upd H' T (.tup [.int ((0 + i : Nat) : Int), .str ⟨#[c]⟩])) := Ext.fresh hT
    rw [Nat.zero_add] at e2
    refine ⟨e2, s.fresh hT, ?_⟩
    show Fz M' _ (.ref T) (.tuple [.int ((0 + i : Nat) : Int), .str ⟨#[c]⟩])
    rw [Nat.zero_add]
    exact Fz.tup ⟨upd_same, s.nin hT⟩ (.cons (Fz.int _) (.cons (Fz.str _) .nil))
  st := fun i M' H' S' hi e s _ => by rw [List.length_map, List.length_zipIdx, signs_len] at hi; exact hi
/-- enumerate(x), x a text -/
theorem evi_enumQ {elts : List Expr} {kk : Nat} {a1 : Expr} {x : Str} (hm : X.mg "enumerate" = none) (hi : Ev X a1 G S (.d (.str x)) S1) (hg : Gl X "enumerate" := by rfl) (hst : starEach [a1] X.env = [(false, eval a1 X.env)] := by rfl) :
    EvI X (.Tuple elts kk tpos) (.Call (.Name "enumerate" p) [a1] [] pos') G S ((signs x).zipIdx.map fun y => It.d (.tuple [.int (y.2 : Nat), y.1])) anyS S1 :=
  ⟨_, pi_enumQ hg hm pa_s hst, fun M σ H R s q => (eva_cons hi eva_nil hst) M σ H _ s fun vs M1 H1 e1 t1 r1 => by
    obtain ⟨v, rfl, hv⟩ := vr1 r1
    exact ⟨x, by rw [vr_str hv], q M1 H1 _ e1 t1 wk_enumQ⟩⟩
theorem ev_ltLe {a b : Expr} {i l h : Int} {e3 : Expr} (ha : Ev X a G S (.d (.int l)) S1) (hb : Ev X b G S1 (.d (.int i)) S2) (hc : l < i → Ev X e3 G S2 (.d (.int h)) S2) (hm : lastMarks [.Lt, .LtE] [b, e3] = false := by rfl) : Ev X (.Compare a [.Lt, .LtE] [b, e3] pos) G S (.d (.bool (decide (l < i) && decide (i ≤ h)))) S2 :=
  ev_chain op_lt op_le ha hb (rw_intB (f := fun i j => decide (i < j))) (fun z => hc (of_decide_eq_true z)) (fun _ => rw_intB (f := fun i j => decide (i ≤ j))) hm
/-- enumerate(xs), xs owned data that stays -/
theorem evi_enumO {elts : List Expr} {kk n : Nat} {a1 : Expr} {ds : List PyData} (hm : X.mg "enumerate" = none) (hi : Ev X a1 G S (.o n) S1) (hn : S1[n]? = some (.lst (ds.map .d))) (hg : Gl X "enumerate" := by rfl) (hst : starEach [a1] X.env = [(false, eval a1 X.env)] := by rfl) :
    EvI X (.Tuple elts kk tpos) (.Call (.Name "enumerate" p) [a1] [] pos') G S (ds.zipIdx.map fun x => It.d (.tuple [.int (x.2 : Nat), x.1])) (fun S' => S'[n]? = some (.lst (ds.map .d))) S1 :=
  ⟨_, pi_enum hg hm pa_s hst, fun M σ H R s q => (eva_cons hi eva_nil hst) M σ H _ s fun vs M1 H1 e1 t1 r1 => by
    obtain ⟨v, rfl, hv⟩ := vr1 r1
    obtain ⟨ad, had, ev⟩ := hv
    obtain ⟨vs0, hv0, hr0⟩ := t1.sto.rep n ad _ had hn
    refine ⟨ad, vs0, by rw [ev], .of hv0, q M1 H1 _ e1 t1 ⟨fun i M' H' S' hi e s hC => ?_, fun i M' H' S' x H2 r hr e s hC y => ?_, fun i M' H' S' hi e s hC => ?_⟩⟩
    · obtain ⟨vs, hv, hr⟩ := s.rep n ad _ (e.get had) hC
      exact ⟨vs, vs[i]'(by rw [hr.len, List.length_map]; simpa using hi), .of hv, List.getElem?_eq_getElem _⟩
    · obtain ⟨vs, hv, hr'⟩ := s.rep n ad _ (e.get had) hC
      obtain ⟨T, u, rfl, hT, rfl, y⟩ := y
      have hx := y vs (.of hv)
      obtain ⟨r', h1, h2⟩ := reps_at hr' hx
      rw [List.getElem?_map] at hr h1
      rw [List.getElem?_zipIdx] at hr
      cases ed : ds[i]? with
      | none => rw [ed] at h1; cases h1
      | some d =>
      rw [ed] at h1 hr
      cases h1
      cases hr
      have e2 : Ext M' H' M' (upd H' T (.tup [.int ((0 + i : Nat) : Int), u])) := Ext.fresh hT
      rw [Nat.zero_add] at e2
      refine ⟨e2, s.fresh hT, ?_⟩
      show Fz M' _ (.ref T) (.tuple [.int ((0 + i : Nat) : Int), d])
      rw [Nat.zero_add]
      exact Fz.tup ⟨upd_same, s.nin hT⟩ (.cons (Fz.int _) (.cons (Fz.ext e2 h2) .nil))
    · obtain ⟨vs, hv, hr⟩ := s.rep n ad _ (e.get had) hC
      refine ⟨vs, .of hv, ?_⟩
      rw [hr.len, List.length_map]
      simpa using hi⟩
theorem evx_andX {a b : Expr} {es : List Expr} {Q1 Qr : It → Sto → Prop} {Qx : Addr → Sto → Prop} (h : EvX X W a G S Q1 Qx) (hx : ∀ r S1, Q1 r S1 → r = .d (.bool true) ∧ EvX X W (.BoolOp .And (b :: es) pos) G S1 Qr Qx) : EvX X W (.BoolOp .And (a :: b :: es) pos) G S Qr Qx := fun M σ H Q s h1 h2 =>
  toE (pe_and pe_s pe_s) (h M σ H _ s (fun v M1 H1 r S1 e1 s1 r1 q1 => by
    obtain ⟨rfl, hx⟩ := hx r S1 q1
    exact ⟨true, vr_bool r1, iteT (hx M1 σ H1 _ s1 (fun v M' H' r S' e2 => h1 v M' H' r S' (e1.trans e2)) (fun M' H' C S' e2 => h2 M' H' C S' (e1.trans e2)))⟩) h2)
end
end Cu
/-! CvB: range(a, b) of whole numbers of any size. -/
namespace L2
open PySem PySem.Spec PyProof.Rows
theorem turn_long {P : Program} {w : World} {K : PySem.W.Frag} {tg : Expr} (it : Addr) (lo : Int) (n : Nat) : Turn P w K tg (Itr lo n) [it] it (fun i h => IsLongIter h it (lo + (i : Nat) * 1) ((n : Int) - (i : Nat)) 1) where
  mem := by simp
  obj := fun i h st b hb => by
    have e : b = it := by simpa using hb
    subst e
    exact ⟨_, st, fun v z => nomatch z⟩
  keep := fun i h h' st k => k it (by simp) _ st
  item := by
    intro X hP hw hK hc i pins s σ H E I hf st hg
    subst hP hw hK
    obtain ⟨f0, f1, f2, f3, f4, f5⟩ := hf it (by simp)
    have W := Walks.longrange (prog := X.prog) (w := X.w) (I.ok.hd hc) it lo 1 n
    refine W.item i s _ _ hg st fun v h' tk hv st' kk => ?_
    obtain ⟨t, rfl⟩ := hv
    have I1 : Inv X pins σ H { s with heap := h', toks := tk } := I.turned (fun b o hb e => kk b o (by simpa using hb) e) f0 f1 f3 f4 f5
    refine ⟨_, rfl, go_of (s := { s with heap := h', toks := tk }) (n := "longrange_iterator") st' rfl rfl (by decide) ⟨.int (lo + i), H, I1, ⟨t, ?_⟩, ⟨rfl, rfl⟩, st', fun b hb => (hf b hb).1⟩⟩
    rw [Int.mul_one]
  done := by
    intro X hP hw hK hc i pins s σ H E I hf st hg
    subst hP hw hK
    obtain ⟨f0, f1, f2, f3, f4, f5⟩ := hf it (by simp)
    exact wpAny_pyNext_long_end (I.ok.hd hc) st (by have : n ≤ i := hg; omega) fun h' eb => ⟨rfl, I.turned (t' := s.toks) (fun b o hb e => eb b o hb e) f0 f1 f3 f4 f5⟩
  self := fun _ _ _ _ _ st h => wpAny_pyIter_longiter st h
theorem range_itB {X : Cx} {tg : Expr} {pins : List (Addr × Obj)} {σ : St} {H : Hp} {s : Shared} {R : It → Hp → Prop} {E : Value → Shared → Prop} {lo hi : Int} {t u v : Tok} {tk : Nat} (I : Inv X pins σ H s)
    (q : R (Itr lo (hi - lo).toNat) H) : wpAny (model X.prog X.w) X.A (pyIter (.ref s.heap.objs.size)) (PIE X pins σ tg R) E { s with heap := s.heap.push { cls := .type "range", data := .fields #[.int lo t, .int hi u, .int 1 v] }, toks := tk } := by
  have e1 : lo + ((0 : Nat) : Int) * 1 = lo := by simp
  have e2 : (((hi - lo).toNat : Nat) : Int) - ((0 : Nat) : Int) = Builtin.Range.rangeSize lo hi 1 := by rw [rangeSize_one]; split <;> omega
  have I1 : Inv X pins σ H { s with heap := s.heap.push { cls := .type "range", data := .fields #[.int lo t, .int hi u, .int 1 v] }, toks := tk } := I.kept fun b o e => Heap.get?_push_of_some _ e
  have fp : ∀ b ∈ [(s.heap.push { cls := .type "range", data := .fields #[.int lo t, .int hi u, .int 1 v] }).objs.size], FpOk X pins H b := fun b hb => by
    have e : b = (s.heap.push { cls := .type "range", data := .fields #[.int lo t, .int hi u, .int 1 v] }).objs.size := by simpa using hb
    subst e
    exact I1.fpOk (Nat.le_refl _) (I1.hok.fresh (Nat.le_refl _))
  cases hs : Builtin.Range.small lo hi 1 with
  | true =>
    refine wpAny_pyIter_range (IsRange.new ..) hs ?_
    refine ⟨(s.heap.push { cls := .type "range", data := .fields #[.int lo t, .int hi u, .int 1 v] }).objs.size, [(s.heap.push { cls := .type "range", data := .fields #[.int lo t, .int hi u, .int 1 v] }).objs.size], _, _, H, rfl,
      I1.kept (t' := tk) fun b o e => Heap.get?_push_of_some _ e, turn_range _ lo (hi - lo).toNat, ?_, fp, q⟩
    show IsRangeIter _ _ (lo + ((0 : Nat) : Int) * 1) ((((hi - lo).toNat : Nat) : Int) - ((0 : Nat) : Int)) 1
    rw [e1, e2]
    exact Heap.get?_push_size _ rfl
  | false =>
    refine wpAny_pyIter_longrange (IsRange.new ..) hs ?_
    refine ⟨(s.heap.push { cls := .type "range", data := .fields #[.int lo t, .int hi u, .int 1 v] }).objs.size, [(s.heap.push { cls := .type "range", data := .fields #[.int lo t, .int hi u, .int 1 v] }).objs.size], _, _, H, rfl,
      I1.kept (t' := tk) fun b o e => Heap.get?_push_of_some _ e, turn_long _ lo (hi - lo).toNat, ?_, fp, q⟩
    show IsLongIter _ _ (lo + ((0 : Nat) : Int) * 1) ((((hi - lo).toNat : Nat) : Int) - ((0 : Nat) : Int)) 1
    rw [e1, e2]
    exact Heap.get?_push_size _ rfl
def iRng2B (ta : TA) : TI := fun σ H R => ta σ H fun vs H1 => ∃ i j : Int, vs = [.int i, .int j] ∧ R (Itr i (j - i).toNat) H1
theorem pi_range2B {X : Cx} {tg a b : Expr} {ta : TA} {p pos : Pos} (hg : Gl X "range") (hm : X.mg "range" = none) (ha : PA X [a, b] ta) (hs : starEach [a, b] X.env = [(false, eval a X.env), (false, eval b X.env)] := by rfl) (hs2 : starEach [b] X.env = [(false, eval b X.env)] := by rfl) :
    PI X tg (.Call (.Name "range" p) [a, b] [] pos) (iRng2B ta) := by
  refine ⟨fun pins s σ H R I h => ?_⟩
  refine Call_ (ld_blt I hg hm boot_range (PyProof.Rows.callWith_type1 (thn (ha.run pos pins s σ H _ I h) fun us s1 ⟨vs, H1, I1, r1, q1⟩ => ?_) (by rw [hs, hs2]) (by rw [hs2]; rfl)))
  obtain ⟨i, j, e, q⟩ := q1
  subst e
  cases r1 with
  | cons r rr =>
    cases rr with
    | cons r' rr =>
      cases rr
      obtain ⟨t, rfl⟩ := r
      obtain ⟨t', rfl⟩ := r'
      exact call_range_2 (range_itB I1 q)
end L2
namespace Cu
open PySem PySem.Spec PyProof.Rows L2
section
variable {X : Cx} {W : WX} {k : Nat} {G : Gam} {S S1 S2 : Sto} {tg : Expr} {p pos pos' tpos : Pos}
theorem evi_range2B {lo hi : Int} {a1 a2 : Expr} (hm : X.mg "range" = none) (h1 : Ev X a1 G S (.d (.int lo)) S1) (h2 : Ev X a2 G S1 (.d (.int hi)) S2)
    (hR : Gl X "range" := by rfl) (hst : starEach [a1, a2] X.env = [(false, eval a1 X.env), (false, eval a2 X.env)] := by rfl) (hst2 : starEach [a2] X.env = [(false, eval a2 X.env)] := by rfl) : EvI X tg (.Call (.Name "range" p) [a1, a2] [] pos') G S (rngI lo (hi - lo).toNat) anyS S2 :=
  ⟨_, pi_range2B hR hm pa_s hst hst2, fun M σ H R s q => toA (pa_cons pe_s (pa_cons pe_s pa_nil hst2) (by rw [hst, hst2])) (h1 M σ H _ s fun v M1 H1 e1 t1 r1 => h2 M1 σ H1 _ t1 fun v2 M2 H2 e2 t2 r2 => ⟨lo, hi, by rw [vr_int r1, vr_int r2], q M2 H2 _ (e1.trans e2) t2 wk_range⟩)⟩
end
end Cu
/-! CvC: tuples that hold owned objects. -/
namespace Cu
open PySem PySem.Spec PyProof.Rows L2
section
variable {X : Cx} {W : WX} {k j : Nat} {G G1 G2 : Gam} {S S1 S2 S3 : Sto} {P : Post} {e a b : Expr} {es : List Expr} {r x y z : It} {rs : List It} {pos pos' : Pos} {n : Int} {ds : List PyData}
theorem has_ref {K : PySem.W.Frag} {M : List Addr} {H : Hp} : ∀ {vs : List V} {rs : List It}, VReps K M H vs rs → (∃ m, It.o m ∈ rs) → ∃ b, V.ref b ∈ vs
  | _, _, .nil, ⟨_, h⟩ => nomatch h
  | _, _, .cons q t, ⟨m, h⟩ => by
    rcases List.mem_cons.mp h with e | h
    · subst e
      obtain ⟨a, _, rfl⟩ := q
      exact ⟨a, List.mem_cons_self⟩
    · obtain ⟨b, hb⟩ := has_ref t ⟨m, h⟩
      exact ⟨b, List.mem_cons_of_mem _ hb⟩
/-- a tuple, some of its items owned -/
theorem ev_tupO {x1} (h : EvA X es G S rs S1) (ho : ∃ m, It.o m ∈ rs) (hl : rs.length ≤ 1000 := by exact Nat.le_of_ble_eq_true rfl) : Ev X (.Tuple es x1 pos) G S (.o S1.length) (S1 ++ [.tup rs]) := fun M σ H Q s q =>
  toE (pe_tup pa_s) (h M σ H _ s fun vs M1 H1 e1 s1 r1 => ⟨Nat.le_of_lt (small1000 (by rw [r1.len]; exact hl)), fun p hp => by
    have e2 : Ext M1 H1 (M1 ++ [p]) (upd H1 p (.tup vs)) := Ext.own hp
    have s2 : StoreOk X.K (M1 ++ [p]) (upd H1 p (.tup vs)) (S1 ++ [.tup rs]) := s1.sto.own hp ⟨vs, upd_same, r1.ext e2, has_ref r1 ho⟩
    exact q _ _ _ (e1.trans e2) (s1.mono e2 s2) ⟨p, by rw [← s1.sto.len, List.getElem?_append_right (Nat.le_refl _), Nat.sub_self]; rfl, rfl⟩⟩)
/-- a target of a tuple that is owned -/
theorem evg_tupO {j t : Nat} (hc : X.calm = true) (hi : S[t]? = some (.tup rs)) (h : EvGs X es rs G S G1 S1) (hn : (assignEach es X.env).length = rs.length := by rfl) (hst : (assignEach es X.env).findIdx? (·.1) = none := by rfl) : EvG X (.Tuple es j pos) (.o t) G S G1 S1 := fun M σ H v Q s hv q => by
  obtain ⟨a, ha, rfl⟩ := hv
  obtain ⟨vs, h1, h2, _⟩ := s.sto.rep t a _ ha hi
  exact toG (pg_tup hc pgs_s hn hst) ⟨_, _, rfl, .of h1, by rw [h2.len], h M σ H _ Q s h2 q⟩
/-- t[i] of a tuple that is owned -/
theorem ev_ixTO {i : Nat} {d : It} (ha : Ev X a G S (.o i) S1) (hb : Ev X b G S1 (.d (.int n)) S2) (hi : S2[i]? = some (.tup rs)) (h : atI rs n = some d) (hs : PlainIx b := by exact fun _ _ => rfl) : Ev X (.Subscript a b pos) G S d S2 := ev_ixR ix_tup ha hb (fun M H v u Q s hv hu q => by
  obtain ⟨ad, had, rfl⟩ := hv
  obtain ⟨vs, h1, h2, _⟩ := s.rep i ad _ had hi
  unfold atI at h
  cases q1 : ixN rs.length n with
  | none => rw [q1] at h; cases h
  | some l =>
    rw [q1] at h
    have hl : l < rs.length := (List.getElem?_eq_some_iff.mp h).1
    obtain ⟨w, hw⟩ : ∃ w, vs[l]? = some w := ⟨_, List.getElem?_eq_getElem (by rw [h2.len]; exact hl)⟩
    obtain ⟨r', h3, h4⟩ := reps_at h2 hw
    rw [show rs[l]? = some d from h] at h3
    cases h3
    exact ⟨ad, vs, n, w, rfl, vr_int hu, .of h1, by unfold atI; rw [h2.len, q1]; exact hw, q _ M H Ext.refl s h4⟩) hs
end
end Cu
/-! CwI: dicts with tuple keys: d.pop(k, v), dict(d), == of pairs of dicts whose values are all True. -/
namespace Cu
open PySem PySem.Spec PyProof.Rows L2
section
variable {κ : Type} [DecidableEq κ]
def dropI (kvs : List (κ × It)) (k : κ) : List (κ × It) := kvs.filter fun kv => decide (kv.1 ≠ k)
theorem prep_drop {K : PySem.W.Frag} {M : List Addr} {H : Hp} {k : κ} : ∀ {ps : List (κ × V)} {kvs : List (κ × It)}, PRep K M H ps kvs → PRep K M H (dropK ps k) (dropI kvs k)
  | _, _, .nil => .nil
  | (p1, p2) :: ps, (q1, q2) :: kvs, .cons h t => by
    obtain ⟨e, h2⟩ := h
    have e : p1 = q1 := e
    subst e
    have ih := prep_drop (k := k) t
    unfold dropK dropI
    rw [List.filter_cons, List.filter_cons]
    by_cases c : p1 ≠ k
    · rw [if_pos (by simpa using c), if_pos (by simpa using c)]
      exact .cons ⟨rfl, h2⟩ ih
    · rw [if_neg (by simpa using c), if_neg (by simpa using c)]
      exact ih
theorem drop_none {kvs : List (κ × It)} {k : κ} (h : valI kvs k = none) : dropI kvs k = kvs := by
  unfold dropI
  refine List.filter_eq_self.mpr fun p hp => ?_
  refine decide_eq_true fun e => ?_
  unfold valI at h
  rw [Option.map_eq_none_iff, List.find?_eq_none] at h
  exact h p hp (by simpa using e)
end
section
variable {X : Cx} {W : WX} {k j : Nat} {G : Gam} {S S1 S2 : Sto} {e a b o : Expr} {pos apos cpos p : Pos} {i : Nat} {kd : PyData} {kk : List Key} {kvs : List (List Key × It)} {z : PyData}
theorem ty_dT (hi : S[i]? = some (.dT kvs)) : ∀ M H v, StoreOk X.K M H S → VRep X.K M H v (.o i) → tyV X.K "dict" v H := fun M H v s h => by
  obtain ⟨ad, ps, rfl, _, h1, _⟩ := dT_at s h hi
  exact .inr (.inr (.inl ⟨rfl, .inr ⟨ps, h1⟩⟩))
/-- d.pop(k, z) -/
theorem ev_dpopT (c : Cxo X W k) (ho : Ev X o G S (.o i) S1) (hi : S1[i]? = some (.dT kvs)) (ha : Ev X a G S1 (.d kd) S2) (hb : Ev X b G S2 (.d z) S2) (hi2 : S2[i]? = some (.dT kvs)) (hk : keyD kd = some kk) (hbase : attributeBase o "pop" X.env (eval o X.env) = eval o X.env := by rfl)
    (hfew : ((backTo cpos (starEach [a, b] X.env)).all (fun x => !x.1) && (backToKw cpos (keywordEach [] X.env)).all (fun x => x.1.isSome) && decide ([a, b].length + ([] : List Keyword).length + (if ([] : List Keyword).isEmpty then 0 else 1) < 30)) = true := by rfl)
    (hline : (apos.endLine == cpos.line) = true := by rfl) (hs : starEach [a, b] X.env = (false, eval a X.env) :: starEach [b] X.env := by rfl) (hs2 : starEach [b] X.env = (false, eval b X.env) :: starEach [] X.env := by rfl) (hpl : (backTo cpos (starEach [b] X.env)).any (·.1) = false := by rfl) :
    Ev X (.Call (.Attribute o "pop" apos) [a, b] [] cpos) G S ((valI kvs kk).getD (.d z)) (S2.set i (.dT (dropI kvs kk))) :=
  ev_bm PySem.F.plainAttrs_dict PySem.F.slot_dict_pop PySem.F.type_dict_pop (DX.mt_popT (u1 c)) ho (ty_dT hi) (eva_cons ha (eva_cons hb eva_nil hs2) hs) (fun M H v vs Q s hv hvs q => by
    obtain ⟨v1, v2, rfl, hv1, hv2⟩ := vr2 hvs
    obtain ⟨ad, ps, rfl, had, h1, h2⟩ := dT_at s hv hi2
    obtain ⟨t, rfl, ht, htM⟩ := key_at hk hv1
    refine ⟨ad, ps, kk, t, v2, rfl, rfl, h1, ht, fun w hw => ?_, fun hn => ?_⟩
    · rcases prep_val (k := kk) h2 with ⟨z, _⟩ | ⟨w', r', h3, h4, h5⟩
      · rw [hw] at z; cases z
      · rw [hw] at h3
        cases h3
        rw [h4] at q
        have e3 : Ext M H M (upd H ad (.dT (dropK ps kk))) := Ext.put (List.mem_of_getElem? had)
        have p2 : PRep X.K M H (dropK ps kk) (dropI kvs kk) := prep_drop h2
        exact q w M _ e3 (s.put (w := .dT (dropI kvs kk)) had ⟨_, upd_same, Paired.mapP p2 fun _ _ q => ⟨q.1, q.2.ext e3⟩⟩) (h5.ext e3)
    · rcases prep_val (k := kk) h2 with ⟨_, z⟩ | ⟨w', r', h3, _, _⟩
      · rw [z] at q
        rw [drop_none z] at q
        have e : S2.set i (.dT kvs) = S2 := by
          have hl := (List.getElem?_eq_some_iff.mp hi2).1
          refine List.ext_getElem? fun j => ?_
          by_cases e : i = j
          · subst e; rw [List.getElem?_set_self hl, hi2]
          · rw [List.getElem?_set_ne e]
        rw [e] at q
        exact q v2 M H Ext.refl s hv2
      · rw [hn] at h3; cases h3) hbase hfew hline hs hpl
end
/-! ### dict(d) -/
def rDictCopyT (P : Program) (w : World) : List V → Hp → VK → Prop := fun xs H Q => ∃ (a : Addr) (kvs : List (List Key × V)), xs = [V.ref a] ∧ H a = some (.dT kvs) ∧ (kvs.map fun p => (tupleKind (mixKind P w)).hash p.1).Nodup ∧ ∀ d, H d = none → Q (.ref d) (upd H d (.dT kvs))
theorem cr_dictCopyT {X : Cx} (hu : X.A.units + 64 < cLine) : CallR X (.type "dict") (rDictCopyT X.prog X.w) := by
  intro pins s σ H xs us Q I r h
  obtain ⟨a, kvs, rfl, ha, hap, q⟩ := h
  rw [Vals.ref1 r]
  obtain ⟨hz, hm, ps, rel, dd⟩ := dt_of I.hok ha
  have hn : H s.heap.objs.size = none := I.hok.fresh (Nat.le_refl _)
  have hl : kvs.length = ps.length := Paired.length rel
  have hkeys : ∀ {l : List (List Key × V)} {m : List (List Key × Addr × Value)}, KT H l m → (m.map fun x => (tupleKind (mixKind X.prog X.w)).hash x.1) = l.map fun p => (tupleKind (mixKind X.prog X.w)).hash p.1 := by
    intro l m h
    induction h with
    | nil => rfl
    | cons h t ih => rw [List.map_cons, List.map_cons, ih, h.1]
  have hty : ∀ x ∈ ps, s.TypeIs (.ref x.2.1) "tuple" := fun x hx => by
    obtain ⟨o, es, ep, ho, h2, h3, h4, h5, h6⟩ := dd
    obtain ⟨ob, items, n, hob, hc, _⟩ := h5 x hx
    exact ⟨ob, hob, hc⟩
  have hne : a ≠ s.heap.objs.size := fun e => by rw [e] at ha; rw [hn] at ha; cases ha
  refine callType_codes (Q₁ := fun obj s₁ => obj = .ref s.heap.objs.size ∧ s₁ = { s with heap := s.heap.push { cls := .type "dict", data := .dict #[] } }) F.kt_called_dict (F.kt_typeCall_dict_1 _) F.entry_dict_init (kt_code_dict_new _ ⟨rfl, rfl⟩) ?_
  rintro obj s₁ ⟨rfl, rfl⟩
  have hT : Shared.TypeIs { s with heap := s.heap.push { cls := .type "dict", data := .dict #[] } } (.ref s.heap.objs.size) "dict" := ⟨_, Heap.get?_push_size _ rfl, rfl⟩
  refine ⟨hT, F.args_dict_init_2 _ _, ?_⟩
  unfold Builtin.«dict.__init__»
  refine wpAny_bind ?_
  unfold Builtin.Dict.selfAndRest
  refine wpAny_bind (wpAny_notOrdered_dict hT ?_)
  show wpAny _ _ (pure (s.heap.objs.size, [Value.ref a])) _ _ _
  refine wpAny_pure ?_
  have gp : ∀ b o, s.heap.get? b = some o → (s.heap.push { cls := .type "dict", data := .dict #[] }).get? b = some o := fun b o e => Heap.get?_push_of_some _ e
  have dd1 : (s.heap.push { cls := .type "dict", data := .dict #[] }).DictOfH (tupleKind (mixKind X.prog X.w)) a ps := dd.at' (fun o e => gp _ _ e) fun y hy => by
    obtain ⟨o, es, ep, ho, h2, h3, h4, h5, h6⟩ := dd
    obtain ⟨ob, items, n, hob, hc, hd, hi⟩ := h5 y hy
    exact ⟨ob, items, n, gp _ _ hob, hc, hd, hi⟩
  refine updateFrom_dictH (A := X.A.in1) (knd := tupleKind (mixKind X.prog X.w)) (kvs := []) .none (show X.A.units + 2 < cLine by omega) (Ne.symm hne) hm (Heap.DictOfH.new s.heap) dd1 (.inr ⟨fun x hx => ?_, by rw [hkeys rel]; exact hap⟩) (by rw [sizeLine_eq]; rw [sizeLine_eq] at hz; simp only [List.length_nil]; omega) fun h' hd' ho' hs' => ?_
  · obtain ⟨o, ho, hc⟩ := hty x hx
    exact ⟨o, gp _ _ ho, hc⟩
  · refine ⟨rfl, ?_⟩
    rw [storedAllH_nil_of_nodup ps dd.nodup] at hd'
    obtain ⟨q0, es, ep, hq, h2', h3, h4, _, h5⟩ := hd'
    have hg : ∀ b o, s.heap.get? b = some o → h'.get? b = some o := fun b o e => by
      rw [hs'.2 b (fun z => by rw [z] at e; exact absurd (Heap.lt_size e) (Nat.lt_irrefl _))]
      exact gp _ _ e
    refine ⟨.ref s.heap.objs.size, upd H s.heap.objs.size (.dT kvs), I.laid hg (Nat.le_refl _) ?_, rfl, q _ hn⟩
    refine ⟨hz, beq_eq_false_iff_ne.mpr (Nat.ne_of_gt I.big), ps, ?_, q0, es, ep, hq, h2', h3, h4, h5⟩
    exact Paired.mapP rel fun x y h => ⟨h.1, by rw [upd_ne (ne_of_none h.2.1 hn)]; exact h.2.1, h.2.2⟩
end Cu
/-! CzA: dicts whose keys are whole numbers or texts: in, not in, get, put, setdefault, pop, list(d.items()). -/
namespace Cu
open PySem PySem.Spec PyProof.Rows L2
theorem keyA_fz {M : List Addr} {H : Hp} {d : PyData} {k : Key} {v : V} (h : keyA d = some k) (q : Fz M H v d) : v = kV k := by
  cases d with
  | int i => cases h; cases q; rfl
  | str x => cases h; cases q; rfl
  | _ => cases h
def keyOf : Key → PyData
  | .inl i => .int i
  | .inr x => .str x
theorem fz_key {M : List Addr} {H : Hp} : ∀ k : Key, Fz M H (kV k) (keyOf k)
  | .inl i => .int i
  | .inr x => .str x
theorem Ext.many {M L : List Addr} {H H' : Hp} (kp : ∀ b o, H b = some o → H' b = some o) (hn : ∀ a ∈ L, H a = none) : Ext M H (M ++ L) H' :=
  ⟨⟨L, rfl⟩, fun b o _ h => kp b o h, fun b hb => (List.mem_append.mp hb).elim .inl fun z => .inr (hn b z)⟩
theorem StoreOk.many {K : PySem.W.Frag} {M L : List Addr} {H H' : Hp} {S W : Sto} (h : StoreOk K M H S) (kp : ∀ b o, H b = some o → H' b = some o) (hn : ∀ a ∈ L, H a = none) (nd : L.Nodup) (hl : L.length = W.length)
    (hw : ∀ (j : Nat) (a : Addr) (w : Own), L[j]? = some a → W[j]? = some w → ORep K (M ++ L) H' a w) : StoreOk K (M ++ L) H' (S ++ W) := by
  refine ⟨?_, by rw [List.length_append, List.length_append, h.len, hl], fun n a u h1 h2 => ?_⟩
  · rw [List.nodup_append]
    exact ⟨h.nd, nd, fun a ha b hb z => h.nin (hn b hb) (z ▸ ha)⟩
  · by_cases hlt : n < M.length
    · rw [List.getElem?_append_left hlt] at h1
      rw [List.getElem?_append_left (by rw [← h.len]; exact hlt)] at h2
      obtain ⟨o, ho⟩ := h.live (List.mem_of_getElem? h1)
      exact (h.rep n a u h1 h2).ext (Ext.many kp hn) (by rw [ho, kp _ _ ho])
    · have hge : M.length ≤ n := Nat.le_of_not_lt hlt
      rw [List.getElem?_append_right hge] at h1
      rw [List.getElem?_append_right (by rw [← h.len]; exact hge), ← h.len] at h2
      exact hw _ _ _ h1 h2
theorem prep_keysL {κ : Type} {K : PySem.W.Frag} {M : List Addr} {H : Hp} : ∀ {ps : List (κ × V)} {kvs : List (κ × It)}, PRep K M H ps kvs → ps.map (·.1) = kvs.map (·.1)
  | _, _, .nil => rfl
  | _, _, .cons x t => by rw [List.map_cons, List.map_cons, prep_keysL t]; exact congrArg (· :: _) x.1
theorem paired_of {α β : Type} {F : α → β → Prop} : ∀ {xs : List α} {ys : List β}, xs.length = ys.length → (∀ (j : Nat) (x : α) (y : β), xs[j]? = some x → ys[j]? = some y → F x y) → Paired F xs ys
  | [], [], _, _ => .nil
  | [], _ :: _, h, _ => nomatch h
  | _ :: _, [], h, _ => nomatch h
  | x :: xs, y :: ys, h, g => .cons (g 0 x y rfl rfl) (paired_of (Nat.succ.inj h) fun j => g (j + 1))
section
variable {X : Cx} {W : WX} {k j : Nat} {G G1 G2 : Gam} {S S1 S2 S3 : Sto} {P : Post} {e f a b o : Expr} {es : List Expr} {r y z r' : It} {rs : List It} {pos pos' p apos cpos : Pos} {ds ds' : List PyData} {m n : Int} {i : Nat} {kd : PyData} {kk : Key} {kvs kvs1 : List (Key × It)}
theorem dK_at {K : PySem.W.Frag} {M : List Addr} {H : Hp} {v : V} (s : StoreOk K M H S) (hv : VRep K M H v (.o i)) (hi : S[i]? = some (.dK kvs)) : ∃ a ps, v = .ref a ∧ M[i]? = some a ∧ H a = some (.dK ps) ∧ PRep K M H ps kvs := by
  obtain ⟨a, ha, rfl⟩ := hv
  obtain ⟨ps, h1, h2⟩ := s.rep _ a _ ha hi
  exact ⟨a, ps, rfl, ha, h1, h2⟩
theorem evt_dinK (c : Cxo X W k) (ha : Ev X a G S (.d kd) S1) (hb : Ev X b G S1 (.o i) S2) (hi : S2[i]? = some (.dK kvs)) (hk : keyA kd = some kk) (hm : behindInMarks .In b = false := by rfl) : EvT X (.Compare a [.In] [b] pos) G S (valI kvs kk).isSome S2 := fun M σ H Q s q =>
  toT (pt_cmp (pc_din (u1 c) pe_s pe_s) hm) (ha M σ H _ s fun v M1 H1 e1 s1 r1 => hb M1 σ H1 _ s1 fun u M2 H2 e2 s2 r2 => by
    obtain ⟨a, ps, rfl, _, h1, h2⟩ := dK_at s2.sto r2 hi
    obtain rfl := keyA_fz hk r1
    exact ⟨a, valV ps kk, rfl, DGet.k h1, _, rfl, by rw [prep_some h2]; exact q M2 H2 (e1.trans e2) s2⟩)
theorem evt_dnotinK (c : Cxo X W k) (ha : Ev X a G S (.d kd) S1) (hb : Ev X b G S1 (.o i) S2) (hi : S2[i]? = some (.dK kvs)) (hk : keyA kd = some kk) (hm : behindInMarks .NotIn b = false := by rfl) : EvT X (.Compare a [.NotIn] [b] pos) G S (!(valI kvs kk).isSome) S2 := fun M σ H Q s q =>
  toT (pt_cmp (pc_dnotin (u1 c) pe_s pe_s) hm) (ha M σ H _ s fun v M1 H1 e1 s1 r1 => hb M1 σ H1 _ s1 fun u M2 H2 e2 s2 r2 => by
    obtain ⟨a, ps, rfl, _, h1, h2⟩ := dK_at s2.sto r2 hi
    obtain rfl := keyA_fz hk r1
    exact ⟨a, valV ps kk, rfl, DGet.k h1, _, rfl, by rw [prep_some h2]; exact q M2 H2 (e1.trans e2) s2⟩)
/-- d[k], there -/
theorem ev_dgetK (c : Cxo X W k) (ho : Ev X o G S (.o i) S1) (ha : Ev X a G S1 (.d kd) S2) (hi : S2[i]? = some (.dK kvs)) (hk : keyA kd = some kk) (hv : valI kvs kk = some r) (hs : NoSl a := by exact fun _ _ => rfl) : Ev X (.Subscript o a pos) G S r S2 := fun M σ H Q s q =>
  toE (pe_dget (u1 c) pe_s pe_s hs) (ho M σ H _ s fun v M1 H1 e1 s1 r1 => ha M1 σ H1 _ s1 fun u M2 H2 e2 s2 r2 => by
    obtain ⟨a, ps, rfl, _, h1, h2⟩ := dK_at s2.sto (r1.ext e2) hi
    obtain rfl := keyA_fz hk r2
    rcases prep_val (k := kk) h2 with ⟨_, z⟩ | ⟨v, r', h3, h4, h5⟩
    · rw [z] at hv; cases hv
    · rw [h4] at hv
      cases hv
      refine ⟨a, v, rfl, ?_, q _ M2 H2 (e1.trans e2) s2 h5⟩
      rw [← h3]
      exact DGet.k h1)
/-- d[k] = e -/
theorem ws_dputK (c : Cxo X W k) (he : Ev X e G S r S1) (ho : Ev X o G S1 (.o i) S2) (ha : Ev X a G S2 (.d kd) S3) (hi : S3[i]? = some (.dK kvs)) (hk : keyA kd = some kk) (hz : kvs.length < 1000000) (q : P.nx G (S3.set i (.dK (putI kvs kk r))))
    (hs : swapsWith e (some (.Subscript o a pos')) pos.line X.env = pure false := by rfl) : WS X W (.Assign [.Subscript o a pos'] e pos) G S P := fun M σ H D s m =>
  toS (ps_dput (u1 c) pe_s pe_s pe_s hs) (he M σ H _ s fun v M1 H1 e1 s1 r1 => ho M1 σ H1 _ s1 fun u M2 H2 e2 s2 r2 => ha M2 σ H2 _ s2 fun w M3 H3 e3 s3 r3 => by
    obtain ⟨a, ps, rfl, ha, h1, h2⟩ := dK_at s3.sto (r2.ext e3) hi
    obtain rfl := keyA_fz hk r3
    have e4 : Ext M3 H3 M3 (upd H3 a (.dK (putK ps kk v))) := Ext.put (List.mem_of_getElem? ha)
    have s4 := s3.sto.put (w := .dK (putI kvs kk r)) ha ⟨putK ps kk v, upd_same, Paired.mapP (prep_put h2 (r1.ext (e2.trans e3))) fun _ _ z => ⟨z.1, z.2.ext e4⟩⟩
    refine ⟨a, _, rfl, DPut.k h1 (by rw [prep_len h2, sizeLine_eq]; omega), m.nx M3 σ _ G _ (((e1.trans e2).trans e3).trans e4) (s3.mono e4 s4) q⟩)
/-- d.setdefault(k, e) -/
theorem ev_setdefault (ho : Ev X o G S (.o i) S1) (hi1 : S1[i]? = some (.dK kvs1)) (he : Ev X e G S1 (.d kd) S2) (hf : Ev X f G S2 r S3) (hi : S3[i]? = some (.dK kvs)) (hk : keyA kd = some kk) (hz : kvs.length < 1000000)
    (m : M2 X o "setdefault" apos e f cpos := by exact ⟨rfl, rfl, rfl, rfl⟩) :
    Ev X (.Call (.Attribute o "setdefault" apos) [e, f] [] cpos) G S ((valI kvs kk).getD r) (if (valI kvs kk).isSome then S3 else S3.set i (.dK (putI kvs kk r))) := fun M σ H Q s q =>
  toE (pe_dsetd pe_s pe_s pe_s m) (ho M σ H _ s fun v M1 H1 e1 s1 r1 => by
    obtain ⟨a, ps1, rfl, ha1, g1, _⟩ := dK_at s1.sto r1 hi1
    refine ⟨a, rfl, .inl ⟨ps1, .inl g1⟩, he M1 σ H1 _ s1 fun u M2 H2 e2 s2 r2 => hf M2 σ H2 _ s2 fun w M3 H3 e3 s3 r3 => ?_⟩
    obtain ⟨a', ps, ea, ha, h1, h2⟩ := dK_at s3.sto (r1.ext (e2.trans e3)) hi
    cases ea
    obtain rfl := keyA_fz hk r2
    refine ⟨ps, kk, h1, rfl, by rw [prep_len h2, sizeLine_eq]; omega, fun v hv => ?_, fun hn => ?_⟩
    · rcases prep_val (k := kk) h2 with ⟨z, _⟩ | ⟨v', r', h3, h4, h5⟩
      · rw [hv] at z; cases z
      · rw [hv] at h3
        cases h3
        rw [h4] at q
        exact q v M3 H3 ((e1.trans e2).trans e3) s3 h5
    · rcases prep_val (k := kk) h2 with ⟨_, z⟩ | ⟨v', r', h3, _, _⟩
      · rw [z] at q
        have e4 : Ext M3 H3 M3 (upd H3 a (.dK (putK ps kk w))) := Ext.put (List.mem_of_getElem? ha)
        have s4 := s3.sto.put (w := .dK (putI kvs kk r)) ha ⟨putK ps kk w, upd_same, Paired.mapP (prep_put h2 r3) fun _ _ z => ⟨z.1, z.2.ext e4⟩⟩
        exact q w M3 _ (((e1.trans e2).trans e3).trans e4) (s3.mono e4 s4) (r3.ext e4)
      · rw [hn] at h3; cases h3)
/-- the items of a dict as tuples, laid behind n objects -/
def itemsO (n : Nat) (kvs : List (Key × It)) : Sto := .lst ((List.range kvs.length).map fun j => .o (n + 1 + j)) :: kvs.map fun kv => .tup [.d (keyOf kv.1), kv.2]
/-- list(e.items()), the values owned objects -/
theorem ev_listItems (hc : X.calm = true) (he : Ev X e G S (.o i) S1) (hi : S1[i]? = some (.dK kvs)) (hnd : (kvs.map (·.1)).Nodup) (hown : ∀ kv ∈ kvs, ∃ n, kv.2 = It.o n) (hm : X.mg "list" = none) (hg : Gl X "list" := by rfl)
    (hbase : attributeBase e "items" X.env (eval e X.env) = eval e X.env := by rfl) (hline : (apos.endLine == cpos.line) = true := by rfl)
    (hs : starEach [.Call (.Attribute e "items" apos) [] [] cpos] X.env = (false, eval (.Call (.Attribute e "items" apos) [] [] cpos) X.env) :: starEach [] X.env := by rfl) :
    Ev X (.Call (.Name "list" p) [.Call (.Attribute e "items" apos) [] [] cpos] [] pos) G S (.o S1.length) (S1 ++ itemsO S1.length kvs) := fun M σ H Q s q =>
  toE (LiI.pe_listItems hc pe_s hg hm PyProof.Rows.boot_list hbase hline hs) (he M σ H _ s fun v M1 H1 e1 s1 r1 => by
    obtain ⟨a, ps, rfl, ha, h1, h2⟩ := dK_at s1.sto r1 hi
    refine ⟨a, ps, rfl, h1, fun H' p ts kp hp hts hpt hl hpr => ?_⟩
    have hlen : ts.length = kvs.length := by rw [Paired.length hpr, prep_len h2]
    have keys : ps.map (·.1) = kvs.map (·.1) := prep_keysL h2
    have hpr' : ∀ (j : Nat) (t : Addr), ts[j]? = some t → ∃ q, ps[j]? = some q ∧ H' t = some (.tup [kV q.1, q.2]) := fun j t h => LiI.paired_get hpr h
    have tnd : ts.Nodup := by
      have pn : (ps.map (·.1)).Nodup := by rw [keys]; exact hnd
      clear hpr' hlen hl hpt hts keys h2 h1
      induction hpr with
      | nil => exact List.nodup_nil
      | @cons t q ts' ps' x xs ih =>
        have pn' := List.nodup_cons.mp pn
        refine List.nodup_cons.mpr ⟨fun hm => ?_, ih pn'.2⟩
        obtain ⟨j, q', e1, e2, e3⟩ := LiI.paired_ix xs hm
        rw [x] at e3
        have e4 : kV q.1 = kV q'.1 := by
          have := Option.some.inj e3
          injection this with z
          injection z
        have e5 : q.1 = q'.1 := kV_inj e4
        exact pn'.1 (by show q.1 ∈ _; rw [e5]; exact List.mem_map_of_mem (List.mem_of_getElem? e2))
    have hn : ∀ b ∈ p :: ts, H1 b = none := fun b hb => (List.mem_cons.mp hb).elim (fun z => by rw [z]; exact hp) (hts b)
    have e2 : Ext M1 H1 (M1 ++ (p :: ts)) H' := Ext.many kp hn
    have s2 : StoreOk X.K (M1 ++ (p :: ts)) H' (S1 ++ itemsO S1.length kvs) := s1.sto.many kp hn (List.nodup_cons.mpr ⟨hpt, tnd⟩) (by show _ = (itemsO _ _).length; unfold itemsO; rw [List.length_cons, List.length_cons, List.length_map, hlen]) fun j a w hj hw => by
      cases j with
      | zero =>
        cases hj; cases hw
        refine ⟨_, hl, ?_⟩
        refine paired_of (by rw [List.length_map, List.length_map, List.length_range, hlen]) fun j v r hv hr => ?_
        rw [List.getElem?_map] at hv hr
        cases ht : ts[j]? with
        | none => rw [ht] at hv; cases hv
        | some t =>
          rw [ht] at hv
          cases hv
          have hj2 : j < kvs.length := by rw [← hlen]; exact (List.getElem?_eq_some_iff.mp ht).1
          rw [List.getElem?_range hj2] at hr
          cases hr
          exact ⟨t, by rw [← s1.sto.len, List.getElem?_append_right (by omega), show M1.length + 1 + j - M1.length = j + 1 by omega]; exact ht, rfl⟩
      | succ j =>
        have hj : ts[j]? = some a := hj
        have hw : (kvs.map fun kv => Own.tup [.d (keyOf kv.1), kv.2])[j]? = some w := hw
        rw [List.getElem?_map] at hw
        cases hk : kvs[j]? with
        | none => rw [hk] at hw; cases hw
        | some kv =>
          rw [hk] at hw
          cases hw
          obtain ⟨q', g1, g2⟩ := hpr' j a hj
          obtain ⟨kv', g3, g4, g5⟩ := LiI.paired_get h2 g1
          rw [hk] at g3
          cases g3
          obtain ⟨n, hn'⟩ := hown kv (List.mem_of_getElem? hk)
          refine ⟨_, g2, .cons ?_ (.cons (VRep.ext e2 g5) .nil), ?_⟩
          · rw [g4]; exact fz_key _
          · rw [hn'] at g5
            obtain ⟨b, _, hb⟩ := g5
            exact ⟨b, by rw [hb]; exact List.mem_cons_of_mem _ List.mem_cons_self⟩
    exact q _ _ H' (e1.trans e2) (s1.mono e2 s2) ⟨p, by rw [← s1.sto.len, List.getElem?_append_right (Nat.le_refl _), Nat.sub_self]; rfl, rfl⟩)
end
end Cu
/-! CyO: dicts: d.pop(k), d.get(k), {k: v} of one number, d != {}. -/
namespace Cu
open PySem PySem.Spec PyProof.Rows L2
section
variable {X : Cx} {W : WX} {k j : Nat} {G G1 G2 : Gam} {S S1 S2 S3 : Sto} {P : Post} {e f a b o : Expr} {r y z r' : It} {rs : List It} {pos pos' p apos cpos : Pos} {m n : Int} {i : Nat} {kd : PyData} {kk : Key} {kt : List Key} {kvs kvs1 : List (Key × It)} {tvs tvs1 : List (List Key × It)}
theorem drop_K {ps : List (Key × V)} {K : PySem.W.Frag} {M : List Addr} {H : Hp} (h : PRep K M H ps kvs) : PRep K M H (dropK ps kk) (dropI kvs kk) := prep_drop h
/-- d.pop(k), k there -/
theorem ev_dpopK (ho : Ev X o G S (.o i) S1) (hi1 : S1[i]? = some (.dK kvs1)) (he : Ev X e G S1 (.d kd) S2) (hi : S2[i]? = some (.dK kvs)) (hk : keyA kd = some kk) (hv : valI kvs kk = some r)
    (m : M1 X o "pop" apos e cpos := by exact ⟨rfl, rfl, rfl, rfl⟩) : Ev X (.Call (.Attribute o "pop" apos) [e] [] cpos) G S r (S2.set i (.dK (dropI kvs kk))) := fun M σ H Q s q =>
  toE (pe_dpop1 pe_s pe_s m) (ho M σ H _ s fun v M1 H1 e1 s1 r1 => by
    obtain ⟨a, ps1, rfl, ha1, g1, _⟩ := dK_at s1.sto r1 hi1
    refine ⟨a, rfl, .inl ⟨ps1, .inl g1⟩, he M1 σ H1 _ s1 fun u M2 H2 e2 s2 r2 => ?_⟩
    obtain ⟨a', ps, ea, ha, h1, h2⟩ := dK_at s2.sto (r1.ext e2) hi
    cases ea
    obtain rfl := keyA_fz hk r2
    rcases prep_val (k := kk) h2 with ⟨_, z⟩ | ⟨v', r', h3, h4, h5⟩
    · rw [hv] at z; cases z
    · rw [hv] at h4
      cases h4
      have e4 : Ext M2 H2 M2 (upd H2 a (.dK (dropK ps kk))) := Ext.put (List.mem_of_getElem? ha)
      have s4 := s2.sto.put (w := .dK (dropI kvs kk)) ha ⟨dropK ps kk, upd_same, Paired.mapP (drop_K h2) fun _ _ z => ⟨z.1, z.2.ext e4⟩⟩
      exact ⟨ps, kk, v', h1, rfl, h3, q v' M2 _ ((e1.trans e2).trans e4) (s2.mono e4 s4) (h5.ext e4)⟩)
/-- d.get(k), a dict with tuple keys -/
theorem ev_dget1T (c : Cxo X W k) (ho : Ev X o G S (.o i) S1) (hi1 : S1[i]? = some (.dT tvs1)) (he : Ev X e G S1 (.d kd) S2) (hi : S2[i]? = some (.dT tvs)) (hk : keyD kd = some kt)
    (m : M1 X o "get" apos e cpos := by exact ⟨rfl, rfl, rfl, rfl⟩) : Ev X (.Call (.Attribute o "get" apos) [e] [] cpos) G S ((valI tvs kt).getD (.d .none)) S2 := fun M σ H Q s q =>
  toE (pe_dget1 (u1 c) pe_s pe_s m) (ho M σ H _ s fun v M1 H1 e1 s1 r1 => by
    obtain ⟨a, ps1, rfl, ha1, g1, _⟩ := dT_at s1.sto r1 hi1
    refine ⟨a, rfl, .inr ⟨ps1, .inl g1⟩, he M1 σ H1 _ s1 fun u M2 H2 e2 s2 r2 => ?_⟩
    obtain ⟨a', ps, ea, ha, h1, h2⟩ := dT_at s2.sto (r1.ext e2) hi
    cases ea
    obtain ⟨b, rfl, hb, _⟩ := key_at hk r2
    refine ⟨_, DGet.t h1 hb, ?_⟩
    rcases prep_val (k := kt) h2 with ⟨z1, z2⟩ | ⟨v', r', h3, h4, h5⟩
    · rw [z1]
      rw [z2] at q
      exact q .non M2 H2 (e1.trans e2) s2 Fz.non
    · rw [h3]
      rw [h4] at q
      exact q v' M2 H2 (e1.trans e2) s2 h5)
/-- {k: v}, k a number or a text -/
theorem ev_disp1K (ha : Ev X a G (S ++ [.dK []]) (.d kd) S1) (hb : Ev X b G S1 r S2) (hi : S2[S.length]? = some (.dK [])) (hk : keyA kd = some kk) : Ev X (.Dict [some a] [b] pos) G S (.o S.length) (S2.set S.length (.dK [(kk, r)])) := fun M σ H Q s q =>
  toE (pe_disp (pps_cons pe_s pe_s pps_nil) rfl rfl (by simp) (Nat.le_of_ble_eq_true rfl)) fun p hp => by
    have e2 : Ext M H (M ++ [p]) (upd H p (.dK [])) := Ext.own hp
    have s2 : Stt X.K (M ++ [p]) (upd H p (.dK [])) (S ++ [.dK []]) G σ := s.mono e2 (s.sto.own hp ⟨[], upd_same, .nil⟩)
    have hn : (M ++ [p])[S.length]? = some p := by rw [← s.sto.len, List.getElem?_append_right (Nat.le_refl _), Nat.sub_self] <;> rfl
    refine ha _ σ _ _ s2 fun u M3 H3 e3 s3 r3 => hb _ σ _ _ s3 fun v M4 H4 e4 s4 r4 => ?_
    have hn4 : M4[S.length]? = some p := e4.get (e3.get hn)
    obtain ⟨ps, h1, h2⟩ := s4.sto.rep _ _ _ hn4 hi
    cases h2
    refine ⟨h1, [(kk, v)], by rw [keyA_fz hk r3] <;> rfl, Nat.le_of_ble_eq_true rfl, ?_⟩
    have e5 : Ext M4 H4 M4 (upd H4 p (.dK [(kk, v)])) := Ext.put (List.mem_of_getElem? hn4)
    have s5 := s4.sto.put (w := .dK [(kk, r)]) hn4 ⟨[(kk, v)], upd_same, .cons ⟨rfl, r4.ext e5⟩ .nil⟩
    exact q (.ref p) M4 _ (((e2.trans e3).trans e4).trans e5) (s.mono (((e2.trans e3).trans e4).trans e5) s5) ⟨p, hn4, rfl⟩
end
/-- d != {}: whether there is anything in d -/
def rNeE : R2 := fun x y H Q => ∃ a b ks, x = .ref a ∧ y = .ref b ∧ H a = some (.dK ks) ∧ H b = some (.dK []) ∧ Q (.bl !ks.isEmpty) H
theorem op_neE {X : Cx} (hu : X.A.units < cLine) : OpR X (compareOp .NotEq) rNeE := by
  intro pins s σ H x y v u Q I rx ry h
  obtain ⟨a, b, ks, rfl, rfl, ea, eb, q⟩ := h
  obtain rfl : v = Value.ref a := rx
  obtain rfl : u = Value.ref b := ry
  obtain ⟨_, ya, va, ra, da⟩ := (show ObjOk X.prog X.w H s.heap a (.dK ks) from I.hok a _ ea)
  obtain ⟨_, yb, vb, rb, db⟩ := (show ObjOk X.prog X.w H s.heap b (.dK []) from I.hok b _ eb)
  have hb0 : vb = [] := by cases rb; rfl
  subst hb0
  have e : (va.length == 0) = ks.isEmpty := by
    rw [← ra.length]
    cases ks <;> rfl
  refine PySem.W.keq_ne (knd := mixKind X.prog X.w) (r := true) ya yb da db hu (fun z => ?_) (fin_bl I q (by
    rw [← e, Bool.and_true] <;> rfl))
  have : va = [] := List.eq_nil_of_length_eq_zero z
  subst this
  exact .nil
section
variable {X : Cx} {W : WX} {k : Nat} {G : Gam} {S S1 S2 : Sto} {a b : Expr} {pos : Pos} {i j : Nat} {kvs : List (Key × It)}
theorem evt_neE (c : Cxo X W k) (ha : Ev X a G S (.o i) S1) (hb : Ev X b G S1 (.o j) S2) (hi : S2[i]? = some (.dK kvs)) (hj : S2[j]? = some (.dK [])) (hm : behindInMarks .NotEq b = false := by first | exact nomark _ | rfl) : EvT X (.Compare a [.NotEq] [b] pos) G S (!kvs.isEmpty) S2 := evt_cmp (op_neE (by have := c.hr.un; omega)) ha hb (fun M H v u Q s hv hu q => by
  obtain ⟨ad, ps, rfl, _, h1, h2⟩ := dK_at s hv hi
  obtain ⟨bd, ps', rfl, _, h3, h4⟩ := dK_at s hu hj
  cases h4
  refine ⟨ad, bd, ps, rfl, rfl, h1, h3, ?_⟩
  have e : ps.isEmpty = kvs.isEmpty := by
    have := prep_len h2
    cases ps <;> cases kvs <;> first | rfl | cases this
  rw [e]
  exact q _ M H Ext.refl s (Fz.bl _)) hm
end
end Cu
/-! CyI: min, max of a tuple of whole numbers. -/
namespace Cu
open PySem PySem.Spec PyProof.Rows L2
section
variable {prog : Program} {w : World} {A : Around} {E : Value → Shared → Prop} {s : Shared} {l : Addr} {its : List Value} {ns : List Int} {Q : Value → Shared → Prop}
theorem best_tup {big : Bool} (hh : A.handled = none) (hl : s.heap.IsTuple l its.toArray) (hi : IntsAre its ns) (hne : 0 < ns.length)
    (h : ∀ h' tk m t', (∀ b o, s.heap.get? b = some o → h'.get? b = some o) → m ∈ ns → (∀ a, a ∈ ns → if big = true then a ≤ m else m ≤ a) → Q (.int m t') { s with heap := h', toks := tk }) : wpAny (model prog w) A (call (.builtin (if big = true then "max" else "min")) [.ref l]) Q E s := by
  obtain ⟨xs, e⟩ := hi.allInts.items
  have hn : numsOf (intItems xs).toList = ns := by rw [← e]; exact hi.numsOf
  rw [nums_intItems] at hn
  subst hn
  rw [e] at hl
  have hsz : 0 < xs.size := by simpa using hne
  have hlt : l < s.heap.objs.size := by
    obtain ⟨_, e, _⟩ := hl
    exact Heap.lt_size e
  have kept : ∀ {h' : Heap}, (∀ b o, b ∉ [s.heap.objs.size] → (s.heap.push { cls := .type "tuple_iterator", data := .fields #[.ref l, .int 0 0] }).get? b = some o → h'.get? b = some o) → ∀ b o, s.heap.get? b = some o → h'.get? b = some o := fun hk b o e =>
    hk b o (fun hm => Nat.ne_of_lt (Heap.lt_size e) (List.mem_singleton.mp hm)) (Heap.get?_push_of_some _ e)
  have sz : ∀ b ∈ [s.heap.objs.size, l], b < (s.heap.push { cls := .type "tuple_iterator", data := .fields #[.ref l, .int 0 0] }).objs.size := fun b hb => by
    rw [Heap.size_push]
    simp only [List.mem_cons, List.not_mem_nil, or_false] at hb
    rcases hb with e | e
    · rw [e]; exact Nat.lt_succ_self _
    · rw [e]; exact Nat.lt_succ_of_lt hlt
  have st0 : (s.heap.push { cls := .type "tuple_iterator", data := .fields #[.ref l, .int 0 0] }).IsTupleIter s.heap.objs.size l 0 ∧ (s.heap.push { cls := .type "tuple_iterator", data := .fields #[.ref l, .int 0 0] }).IsTuple l (intItems xs) :=
    ⟨⟨_, Heap.get?_push_size _ rfl, rfl, rfl⟩, hl.at fun o e => Heap.get?_push_of_some _ e⟩
  have it0 : ∀ {R : Value → Shared → Prop}, R (.ref s.heap.objs.size) { s with heap := s.heap.push { cls := .type "tuple_iterator", data := .fields #[.ref l, .int 0 0] } } → wpAny (model prog w) A.in1 (pyIter (.ref l)) R E s := fun q => wpAny_pyIter_tuple hl q
  have W := Walks.tuple (prog := prog) (w := w) (A := A.in1) hh s.heap.objs.size l (Nat.ne_of_lt hlt) (intItems xs)
  have hsI : 0 < (intItems xs).size := by simpa [intItems] using hsz
  cases big with
  | true =>
    refine call_max_walk (it0 ⟨_, _, _, _, _, _, _, rfl, W, st0, sz, hsI, CmpOf.ints_gt (numAt xs) (fun _ _ => intItems_at), fun v h' tk hP hk => ?_⟩)
    obtain ⟨t, rfl⟩ := intItems_at (show (intItems xs)[argBest (fun i j => decide (numAt xs i > numAt xs j)) (xs.size - 1)]? = some v by simpa [intItems] using hP)
    obtain ⟨h1, h2⟩ := argBest_gt (numAt xs) (xs.size - 1)
    refine h h' tk _ t (kept hk) ?_ fun a ha => ?_
    · rw [numAt_eq]
      exact PySem.getD_mem (by rw [List.length_map, Array.length_toList]; omega)
    · obtain ⟨j, hj, rfl⟩ := mem_getD ha
      rw [List.length_map, Array.length_toList] at hj
      rw [if_pos rfl, ← numAt_eq]
      exact h2 j (by omega)
  | false =>
    refine call_min_walk (it0 ⟨_, _, _, _, _, _, _, rfl, W, st0, sz, hsI, CmpOf.ints_lt (numAt xs) (fun _ _ => intItems_at), fun v h' tk hP hk => ?_⟩)
    obtain ⟨t, rfl⟩ := intItems_at (show (intItems xs)[argBest (fun i j => decide (numAt xs i < numAt xs j)) (xs.size - 1)]? = some v by simpa [intItems] using hP)
    obtain ⟨h1, h2⟩ := argBest_lt (numAt xs) (xs.size - 1)
    refine h h' tk _ t (kept hk) ?_ fun a ha => ?_
    · rw [numAt_eq]
      exact PySem.getD_mem (by rw [List.length_map, Array.length_toList]; omega)
    · obtain ⟨j, hj, rfl⟩ := mem_getD ha
      rw [List.length_map, Array.length_toList] at hj
      rw [if_neg (by decide), ← numAt_eq]
      exact h2 j (by omega)
end
def rBestT (K : PySem.W.Frag) (big : Bool) : List V → Hp → VK → Prop := fun vs H Q => ∃ (a : Addr) (ns : List Int), vs = [V.ref a] ∧ SqT K H a (ns.map V.int) ∧ 0 < ns.length ∧ ∀ m, m ∈ ns → (∀ y, y ∈ ns → if big = true then y ≤ m else m ≤ y) → Q (.int m) H
theorem cr_bestT {X : Cx} {big : Bool} (hc : X.calm = true) : CallR X (.builtin (if big = true then "max" else "min")) (rBestT X.K big) := by
  rintro pins s σ H vs us Q I r ⟨a, ns, rfl, hs, hne, q⟩
  obtain ⟨its, rv, hl, _⟩ := I.tuple hs
  rw [Vals.ref1 r]
  exact best_tup (big := big) (I.ok.hd hc) hl rv.ints hne fun h' tk m t' hk h1 h2 => ⟨.int _, H, I.kept hk, ⟨_, rfl⟩, q m h1 h2⟩
section
variable {X : Cx} {W : WX} {k : Nat} {G : Gam} {S S1 : Sto} {a : Expr} {p pos : Pos}
theorem ev_minT {ns : List Int} {l : Int} (c : Cxo X W k) (hm : X.mg "min" = none) (ha : Ev X a G S (.d (.tuple (ns.map .int))) S1) (h : l ∈ ns) (hl : ∀ y ∈ ns, l ≤ y) (hg : Gl X "min" := by rfl) (he : starEach [a] X.env = (false, eval a X.env) :: starEach [] X.env := by rfl) : Ev X (.Call (.Name "min" p) [a] [] pos) G S (.d (.int l)) S1 :=
  ev_blt (cr_bestT (big := false) c.calm) hm (by decide +kernel) (eva_cons ha eva_nil he) (fun M H vs Q s hvs q => by
    obtain ⟨v, rfl, hv⟩ := vr1 hvs
    have hv' : Fz M H v (.tuple (ns.map .int)) := hv
    cases hv' with
    | tup h1 h2 =>
      refine ⟨_, ns, rfl, by rw [← fz_ints h2]; exact h1.sq, List.length_pos_of_mem h, fun m' hm1 hm2 => ?_⟩
      have e1 : m' = l := Int.le_antisymm (by simpa using hm2 l h) (hl m' hm1)
      rw [e1]
      exact q _ M H Ext.refl s (Fz.int _)) hg (by decide) (by decide) he rfl
theorem ev_maxT {ns : List Int} {l : Int} (c : Cxo X W k) (hm : X.mg "max" = none) (ha : Ev X a G S (.d (.tuple (ns.map .int))) S1) (h : l ∈ ns) (hl : ∀ y ∈ ns, y ≤ l) (hg : Gl X "max" := by rfl) (he : starEach [a] X.env = (false, eval a X.env) :: starEach [] X.env := by rfl) : Ev X (.Call (.Name "max" p) [a] [] pos) G S (.d (.int l)) S1 :=
  ev_blt (cr_bestT (big := true) c.calm) hm (by decide +kernel) (eva_cons ha eva_nil he) (fun M H vs Q s hvs q => by
    obtain ⟨v, rfl, hv⟩ := vr1 hvs
    have hv' : Fz M H v (.tuple (ns.map .int)) := hv
    cases hv' with
    | tup h1 h2 =>
      refine ⟨_, ns, rfl, by rw [← fz_ints h2]; exact h1.sq, List.length_pos_of_mem h, fun m' hm1 hm2 => ?_⟩
      have e1 : m' = l := Int.le_antisymm (hl m' hm1) (by simpa using hm2 l h)
      rw [e1]
      exact q _ M H Ext.refl s (Fz.int _)) hg (by decide) (by decide) he rfl
end
end Cu
/-! CyP: min(d) of a dict whose keys are whole numbers; min(xs) of a list of data; d.clear() with tuple keys. -/
namespace Cu
open PySem PySem.Spec PyProof.Rows L2 PySem.W
section
variable {prog : Program} {w : World} {A : Around} {E : Value → Shared → Prop} {s : Shared} {d : Addr} {ns : List Int} {kvs : List (Key × Value)} {Q : Value → Shared → Prop}
theorem min_dict (hh : A.handled = none) (hd : (d == sysModules) = false) (dd : s.heap.DictOf (mixKind prog w) d kvs) (hk : kvs.map (·.1) = ns.map Sum.inl) (hne : 0 < ns.length)
    (h : ∀ h' tk m t', (∀ b o, s.heap.get? b = some o → h'.get? b = some o) → m ∈ ns → (∀ a ∈ ns, m ≤ a) → Q (.int m t') { s with heap := h', toks := tk }) : wpAny (model prog w) A (call (.builtin "min") [.ref d]) Q E s := by
  obtain ⟨es, ep, hr, hsz, hget⟩ := dd.raw
  have hl : kvs.length = ns.length := by
    have := congrArg List.length hk
    rwa [List.length_map, List.length_map] at this
  have hlt : d < s.heap.objs.size := by
    obtain ⟨_, e, _⟩ := hr
    exact Heap.lt_size e
  have hval : ∀ i v, (∃ hi : i < es.size, v = es[i].key) → ∃ t, v = Value.int (ns.getD i 0) t := fun i v ⟨hi, e⟩ => by
    have hi2 : i < kvs.length := by omega
    have hkv : kvs[i]? = some (kvs[i].1, kvs[i].2) := List.getElem?_eq_getElem hi2
    obtain ⟨h1, _⟩ := hget i hi _ _ hkv
    have hk1 : kvs[i].1 = Sum.inl (ns[i]'(by omega)) := by
      have : (kvs.map (·.1))[i]? = (ns.map Sum.inl)[i]? := by rw [hk]
      rw [List.getElem?_map, List.getElem?_map, List.getElem?_eq_getElem hi2, List.getElem?_eq_getElem (by omega : i < ns.length)] at this
      exact Option.some.inj this
    rw [hk1] at h1
    rcases keyIs_shape (show keyIs (Sum.inl (ns[i]'(by omega))) es[i].key = true from h1) with ⟨j, t, e1, e2⟩ | ⟨x, t, e1, e2⟩
    · injection e1 with e1
      exact ⟨t, by rw [e, e2, List.getD_eq_getElem?_getD, List.getElem?_eq_getElem (by omega : i < ns.length), ← e1] <;> rfl⟩
    · cases e1
  have kept : ∀ {h' : Heap}, (∀ b o, b ∉ [s.heap.objs.size] → (s.heap.push { cls := .type "dict_keyiterator", data := .fields #[.ref d, .int 0 0, .int es.size 0, .int ep 0] }).get? b = some o → h'.get? b = some o) → ∀ b o, s.heap.get? b = some o → h'.get? b = some o := fun hk b o e =>
    hk b o (fun hm => Nat.ne_of_lt (Heap.lt_size e) (List.mem_singleton.mp hm)) (Heap.get?_push_of_some _ e)
  refine call_min_walk (wpAny_pyIter_dict_raw hd hr ⟨s.heap.objs.size, _, _, _, _, _, _, rfl, Walks.rawKeys (prog := prog) (w := w) (A := A.in1) hh s.heap.objs.size d (Nat.ne_of_lt hlt) es ep, ⟨⟨_, Heap.get?_push_size _ rfl, rfl, rfl⟩, hr.at fun o e => Heap.get?_push_of_some _ e⟩, fun b hb => ?_, by omega, CmpOf.ints_lt (fun i => ns.getD i 0) hval, fun v h' tk hP hk => ?_⟩)
  · show b < (s.heap.push _).objs.size
    rw [Heap.size_push]
    simp only [List.mem_cons, List.not_mem_nil, or_false] at hb
    rcases hb with e | e
    · rw [e]; exact Nat.lt_succ_self _
    · rw [e]; exact Nat.lt_succ_of_lt hlt
  · obtain ⟨t, rfl⟩ := hval _ v hP
    obtain ⟨h1, h2⟩ := argBest_lt (fun i => ns.getD i 0) (es.size - 1)
    refine h h' tk _ t (kept hk) (PySem.getD_mem (by omega)) fun a ha => ?_
    obtain ⟨j, hj, rfl⟩ := mem_getD ha
    exact h2 j (by omega)
end
def rMinDK : List V → Hp → VK → Prop := fun vs H Q => ∃ (d : Addr) (kvs : List (Key × V)) (ns : List Int), vs = [V.ref d] ∧ Rd H d (.dK kvs) ∧ kvs.map (·.1) = ns.map Sum.inl ∧ 0 < ns.length ∧ ∀ m, m ∈ ns → (∀ a ∈ ns, m ≤ a) → Q (.int m) H
theorem cr_minDK {X : Cx} (hc : X.calm = true) : CallR X (.builtin "min") rMinDK := by
  intro pins s σ H vs us Q I r h
  obtain ⟨d, kvs, ns, rfl, hr, hk, hne, q⟩ := h
  rw [Vals.ref1 r]
  obtain ⟨hz, hd, ws, rel, dd⟩ := dk_rd I.hok hr
  have hk2 : ws.map (·.1) = ns.map Sum.inl := by
    rw [← hk]
    clear dd hk hr hz
    induction rel with
    | nil => rfl
    | cons a _ ih => rw [List.map_cons, List.map_cons, ih, a.1]
  exact min_dict (I.ok.hd hc) hd dd hk2 hne fun h' tk m t' kp hm hl => ⟨.int m, H, I.kept kp, ⟨_, rfl⟩, q m hm hl⟩
theorem vals_back : ∀ {xs : List V} {us : List Value} {i : Nat} {u : Value}, L2.Vals xs us → us[i]? = some u → ∃ x, xs[i]? = some x ∧ L2.RelV x u
  | _, _, i, u, .nil, h => by simp at h
  | _, _, 0, u, .cons q t, h => by cases h; exact ⟨_, rfl, q⟩
  | _, _, i + 1, u, .cons q t, h => vals_back (i := i) t h
theorem paired_get {α β : Type} {F : α → β → Prop} : ∀ {l : List α} {m : List β} {i : Nat} {a : α}, Paired F l m → l[i]? = some a → ∃ b, m[i]? = some b ∧ F a b
  | _, _, i, a, .nil, h => by simp at h
  | _, _, 0, a, .cons q t, h => by cases h; exact ⟨_, rfl, q⟩
  | _, _, i + 1, a, .cons q t, h => paired_get (i := i) t h
theorem reads_at {h : Heap} : ∀ {vs : List Value} {xs : List PyData} {as : List Addr}, ReadsAll h vs xs as → vs.length = xs.length
  | [], [], _, _ => rfl
  | [], _ :: _, _, h => nomatch h
  | _ :: _, [], _, h => nomatch h
  | _ :: _, _ :: _, _, .cons _ t => congrArg Nat.succ (reads_at t)
section
variable {X : Cx} {W : WX} {k : Nat} {G : Gam} {S S1 : Sto} {a : Expr} {p pos : Pos} {i : Nat} {kvs : List (Key × It)} {ns : List Int} {m : Int}
/-- min(d), the keys whole numbers -/
theorem ev_minDK (c : Cxo X W k) (hm : X.mg "min" = none) (ha : Ev X a G S (.o i) S1) (hi : S1[i]? = some (.dK kvs)) (hk : kvs.map (·.1) = ns.map Sum.inl) (hmm : m ∈ ns) (hl : ∀ a ∈ ns, m ≤ a) (hg : Gl X "min" := by rfl) (he : starEach [a] X.env = (false, eval a X.env) :: starEach [] X.env := by rfl) : Ev X (.Call (.Name "min" p) [a] [] pos) G S (.d (.int m)) S1 :=
  ev_blt (cr_minDK c.calm) hm (by decide +kernel) (eva_cons ha eva_nil he) (fun M H vs Q s hvs q => by
    obtain ⟨v, rfl, hv⟩ := vr1 hvs
    obtain ⟨ad, ps, rfl, _, h1, h2⟩ := dK_at s hv hi
    refine ⟨ad, ps, ns, rfl, .inl h1, by rw [prep_keysL h2]; exact hk, by cases ns with | nil => cases hmm | cons _ _ => exact Nat.succ_pos _, fun m' h3 h4 => ?_⟩
    obtain rfl : m' = m := Int.le_antisymm (h4 m hmm) (hl m' h3)
    exact q _ M H Ext.refl s (Fz.int _)) hg (by decide) (by decide) he rfl
end
/-! ### min of data -/
section
variable {prog : Program} {w : World} {A : Around} {E : Value → Shared → Prop} {s : Shared}
theorem min_list_at {l : Addr} {vs : Array Value} {x : PyData} {xs : List PyData} {as : List Addr} {Q : Value → Shared → Prop} (hh : A.handled = none) (hl : s.heap.IsList l vs) (hr : ReadsAll s.heap vs.toList (x :: xs) as) (ha : PySem.W.AlikeAll (x :: xs)) (hu : A.units + 1 + PyData.depthAll (x :: xs) < cLine)
    (h : ∀ (i : Nat) v h' tk, vs[i]? = some v → (x :: xs).getD i .none = PySem.W.minD x xs → (∀ b o, s.heap.get? b = some o → h'.get? b = some o) → Q v { s with heap := h', toks := tk }) :
    wpAny (model prog w) A (call (.builtin "min") [.ref l]) Q E s := by
  have hn : vs.size = xs.length + 1 := PySem.W.readsAll_len hr
  refine call_min_walkH (iter_listW (A := A.in1) hh hl fun s₂ e W st hfp hw hk => ?_)
  refine ⟨_, _, _, _, _, _, _, s.heap, _, rfl, W, st, hfp, by omega, hw, hk, cmpIn_lt (A := A.in1) hr ha (by show A.units + 1 + _ < _; exact hu), fun v s' hP m => ?_⟩
  obtain ⟨h', tk, rfl, hk'⟩ := moved_old e rfl m
  have e1 : vs.size - 1 = xs.length := by omega
  have e2 := (PySem.W.argBest_fold PySem.W.dataLt PyData.none x xs xs.length (Nat.le_refl _)).2
  rw [List.take_length] at e2
  exact h _ v h' tk hP (by rw [e1]; exact e2) hk'
end
def rMinD (K : PySem.W.Frag) : List V → Hp → VK → Prop := fun vs H Q => ∃ (a : Addr) (xs : List V) (x : PyData) (ds : List PyData) (Rel : V → PyData → Prop), vs = [V.ref a] ∧ SqL K H a xs ∧ DpAll K H xs (x :: ds) ∧ Paired Rel xs (x :: ds) ∧ PySem.W.AlikeAll (x :: ds) ∧ PyData.depthAll (x :: ds) ≤ 60 ∧
  ∀ v : V, Rel v (PySem.W.minD x ds) → Q v H
theorem cr_minD {X : Cx} (hc : X.calm = true) (hu : X.A.units + 64 < cLine) : CallR X (.builtin "min") (rMinD X.K) := by
  intro pins s σ H vs us Q I r h
  obtain ⟨a, xs, x, ds, Rel, rfl, hs, hdp, hrel, hal, hde, q⟩ := h
  obtain ⟨its, rv, hl, hz⟩ := I.list hs
  rw [Vals.ref1 r]
  obtain ⟨as, hE⟩ := Dp.readsAll I (x :: ds) _ its hdp rv
  refine min_list_at (vs := its.toArray) (I.ok.hd hc) hl.isList (by rw [List.toList_toArray]; exact hE) hal (by show X.A.units + 1 + _ < _; omega) fun i v h' tk hv hm kp => ?_
  rw [List.getElem?_toArray] at hv
  obtain ⟨y, hy, ry⟩ := vals_back rv hv
  have hi : i < (x :: ds).length := by
    have h1 := (List.getElem?_eq_some_iff.mp hy).1
    rw [Paired.len2 hrel] at h1
    exact h1
  rw [List.getD_eq_getElem?_getD, List.getElem?_eq_getElem hi] at hm
  have hm : (x :: ds)[i] = PySem.W.minD x ds := hm
  have hR : Rel y (PySem.W.minD x ds) := by
    rw [← hm]
    obtain ⟨d, hd, q⟩ := paired_get hrel hy
    rw [List.getElem?_eq_getElem hi] at hd
    cases hd
    exact q
  exact ⟨y, H, I.kept kp, ry, q y hR⟩
section
variable {X : Cx} {W : WX} {k : Nat} {G : Gam} {S S1 : Sto} {a : Expr} {p pos : Pos} {r : It} {x : PyData} {ds : List PyData}
/-- min(xs) of a list of data -/
theorem ev_minD (c : Cxo X W k) (hm : X.mg "min" = none) (ha : Ev X a G S r S1) (hr : lsOf S1 r = some (x :: ds)) (hal : PySem.W.AlikeAll (x :: ds)) (hde : PyData.depthAll (x :: ds) ≤ 60) (hg : Gl X "min" := by rfl) (he : starEach [a] X.env = (false, eval a X.env) :: starEach [] X.env := by rfl) : Ev X (.Call (.Name "min" p) [a] [] pos) G S (.d (PySem.W.minD x ds)) S1 :=
  ev_blt (cr_minD c.calm c.hr.units) hm (by decide +kernel) (eva_cons ha eva_nil he) (fun M H vs Q s hvs q => by
    obtain ⟨v, rfl, hv⟩ := vr1 hvs
    obtain ⟨ad, xs, rfl, h1, h2⟩ := ls_rd s hv hr
    exact ⟨ad, xs, x, ds, _, rfl, .inl h1, FzAll.dp h2, fz_pair h2, hal, hde, fun v hv => q v M H Ext.refl s hv⟩) hg (by decide) (by decide) he rfl
end
end Cu
/-! KWaveP: waves, plainly: what the rounds of a wave keep. -/
namespace Pf
open PySem PySem.Spec PyProof.Rows L2 Cu
abbrev WC := Int × Int × Int
def wc (c : WC) : PyData := .tuple [.int c.1, .int c.2.1, .int c.2.2]
def wcK (c : WC) : List Key := [.inl c.1, .inl c.2.1, .inl c.2.2]
theorem keyD_wc (c : WC) : keyD (wc c) = some (wcK c) := rfl
theorem keyU_wc (c : WC) : keyU (wcK c) = wc c := rfl
theorem wcK_inj {c d : WC} : wcK c = wcK d ↔ c = d := by
  refine ⟨fun h => ?_, fun h => by rw [h]⟩
  injection h with h1 h2
  injection h2 with h2 h3
  injection h3 with h3 _
  injection h1 with h1
  injection h2 with h2
  injection h3 with h3
  exact Prod.ext h1 (Prod.ext h2 h3)
def numO : Option Int → PyData
  | none => .none
  | some i => .int i
def cellO : Option WC → PyData
  | none => .none
  | some c => wc c
/-- a field: its size, what a cell costs, what a change of layer costs -/
structure Fld where
  w : Nat
  h : Nat
  l : Nat
  pr : WC → Option Int
  th : Int → Int → Option Int
def Fld.sq (F : Fld) (x y : Int) : Bool := decide (0 ≤ x) && decide (x < F.w) && (decide (0 ≤ y) && decide (y < F.h))
def Fld.has (F : Fld) (c : WC) : Bool := F.sq c.1 c.2.1 && (decide (0 ≤ c.2.2) && decide (c.2.2 < F.l))
structure Fld.Ok (F : Fld) : Prop where
  w1 : 1 ≤ F.w
  w2 : F.w ≤ 12
  h1 : 1 ≤ F.h
  h2 : F.h ≤ 12
  l1 : 1 ≤ F.l
  l2 : F.l ≤ 3
  pp : ∀ c p, F.pr c = some p → 0 ≤ p
  tp : ∀ x y p, F.th x y = some p → 0 ≤ p
def Fld.flat4 (F : Fld) (c : WC) : List (Int × Int) := [(c.1 - 1, c.2.1), (c.1 + 1, c.2.1), (c.1, c.2.1 - 1), (c.1, c.2.1 + 1)]
def Fld.flatS (F : Fld) (c : WC) (qs : List (Int × Int)) : List (WC × Int) := (qs.filter fun q => F.sq q.1 q.2).map fun q => ((q.1, q.2, c.2.2), 0)
def Fld.overS (F : Fld) (c : WC) (m : Int) : List (WC × Int) := ((List.range F.l).filter fun (k : Nat) => !decide ((k : Int) = c.2.2)).map fun (k : Nat) => ((c.1, c.2.1, (k : Int)), m)
/-- the steps from a cell, each with what the change of layer costs -/
def Fld.steps (F : Fld) (c : WC) : List (WC × Int) := F.flatS c (F.flat4 c) ++ (if 1 < F.l then (match F.th c.1 c.2.1 with | none => [] | some m => F.overS c m) else [])
theorem Fld.steps_len {F : Fld} (k : F.Ok) {c : WC} (hc : F.has c = true) : (F.steps c).length ≤ 6 := by
  have h1 : (F.flatS c (F.flat4 c)).length ≤ 4 := by
    unfold Fld.flatS
    rw [List.length_map]
    exact List.length_filter_le _ _
  have hz : 0 ≤ c.2.2 ∧ c.2.2 < F.l := by
    unfold Fld.has at hc
    simp only [Bool.and_eq_true, decide_eq_true_iff] at hc
    exact hc.2
  have h2 : ∀ m, (F.overS c m).length ≤ F.l - 1 := fun m => by
    unfold Fld.overS
    rw [List.length_map]
    have hm : c.2.2.toNat ∈ List.range F.l := List.mem_range.mpr (by omega)
    have h3 : ((List.range F.l).filter fun (k : Nat) => !decide ((k : Int) = c.2.2)).length < (List.range F.l).length := List.length_filter_lt_length_iff_exists.mpr ⟨_, hm, by
      rw [decide_eq_true (show ((c.2.2.toNat : Nat) : Int) = c.2.2 by omega)]
      simp⟩
    rw [List.length_range] at h3
    omega
  have hl := k.l2
  unfold Fld.steps
  rw [List.length_append]
  by_cases e : 1 < F.l
  · rw [if_pos e]
    cases F.th c.1 c.2.1 with
    | none => show _ + 0 ≤ _; omega
    | some m => have := h2 m; show _ + (F.overS c m).length ≤ _; omega
  · rw [if_neg e]
    show _ + 0 ≤ _
    omega
theorem Fld.has_mk {F : Fld} {c : WC} (h1 : F.sq c.1 c.2.1 = true) (h2 : 0 ≤ c.2.2 ∧ c.2.2 < F.l) : F.has c = true := by
  unfold Fld.has
  rw [h1, decide_eq_true h2.1, decide_eq_true h2.2] <;> rfl
theorem Fld.has_z {F : Fld} {c : WC} (hc : F.has c = true) : 0 ≤ c.2.2 ∧ c.2.2 < F.l := by
  unfold Fld.has at hc
  simp only [Bool.and_eq_true, decide_eq_true_iff] at hc
  exact hc.2
theorem Fld.has_sq {F : Fld} {c : WC} (hc : F.has c = true) : F.sq c.1 c.2.1 = true := by
  unfold Fld.has at hc
  rw [Bool.and_eq_true] at hc
  exact hc.1
/-- steps lead to cells of the field, and cost nothing below 0 -/
theorem Fld.steps_in {F : Fld} (k : F.Ok) {c d : WC} {m : Int} (hc : F.has c = true) (h : (d, m) ∈ F.steps c) : F.has d = true ∧ 0 ≤ m := by
  unfold Fld.steps at h
  rcases List.mem_append.mp h with h | h
  · unfold Fld.flatS at h
    obtain ⟨q, hq, e⟩ := List.mem_map.mp h
    cases e
    exact ⟨Fld.has_mk (List.mem_filter.mp hq).2 (show 0 ≤ c.2.2 ∧ c.2.2 < F.l from Fld.has_z hc), Int.le_refl _⟩
  · by_cases e : 1 < F.l
    · rw [if_pos e] at h
      cases ht : F.th c.1 c.2.1 with
      | none => rw [ht] at h; cases h
      | some m' =>
        rw [ht] at h
        unfold Fld.overS at h
        obtain ⟨j, hj, e⟩ := List.mem_map.mp h
        cases e
        have := List.mem_range.mp (List.mem_filter.mp hj).1
        exact ⟨Fld.has_mk (show F.sq c.1 c.2.1 = true from Fld.has_sq hc) ⟨Int.natCast_nonneg _, by show (j : Int) < _; omega⟩, k.tp _ _ _ ht⟩
    · rw [if_neg e] at h
      cases h
/-! ### rounds -/
/-- a cell that was come to: its number, from where -/
abbrev Num := WC × Int × Option WC
/-- a cell that waits -/
abbrev Ent := Int × WC × Option WC
/-- from where c was come to, and for what -/
def FromOk (F : Fld) (starts : List WC) (R : List Num) (n : Int) (c : WC) : Option WC → Prop
  | none => n = 0 ∧ c ∈ starts
  | some b => ∃ f ∈ R, f.1 = b ∧ ∃ ch p, (c, ch) ∈ F.steps b ∧ F.pr c = some p ∧ n = f.2.1 + p + ch
theorem FromOk.app {F : Fld} {starts : List WC} {R R' : List Num} {n : Int} {c : WC} : ∀ {b : Option WC}, FromOk F starts R n c b → FromOk F starts (R ++ R') n c b
  | none, h => h
  | some b, ⟨f, hf, h⟩ => ⟨f, List.mem_append_left _ hf, h⟩
structure Rnd (F : Fld) (starts : List WC) (R : List Num) (E : List Ent) (Hd : List (WC × WC × Int)) : Prop where
  nd : (R.map (·.1)).Nodup
  op : ∀ e ∈ R, F.has e.1 = true ∧ ∃ p, F.pr e.1 = some p
  nn : ∀ e ∈ R, 0 ≤ e.2.1
  from_ : ∀ (i : Nat) e, R[i]? = some e → FromOk F starts (R.take i) e.2.1 e.1 e.2.2
  pend : ∀ q ∈ E, F.has q.2.1 = true ∧ (∃ p, F.pr q.2.1 = some p) ∧ 0 ≤ q.1 ∧ FromOk F starts R q.1 q.2.1 q.2.2
  mono : ∀ e ∈ R, ∀ q ∈ E, e.2.1 ≤ q.1
  st : ∀ s ∈ starts, (∃ p, F.pr s = some p) → (∃ e ∈ R, e.1 = s ∧ e.2.1 = 0) ∨ ∃ b, ((0, s, b) : Ent) ∈ E
  rel : ∀ f ∈ R, ∀ c ch p, (c, ch) ∈ F.steps f.1 → F.pr c = some p → (∃ e ∈ R, e.1 = c ∧ e.2.1 ≤ f.2.1 + p + ch) ∨ (∃ b, ((f.2.1 + p + ch, c, b) : Ent) ∈ E) ∨ ((f.1, c, ch) : WC × WC × Int) ∈ Hd
section
variable {F : Fld} {starts : List WC} {R : List Num} {E : List Ent} {Hd : List (WC × WC × Int)}
/-- the start -/
theorem Rnd.start (k : F.Ok) (hs : ∀ s ∈ starts, F.has s = true) : Rnd F starts [] ((starts.filter fun s => (F.pr s).isSome).map fun s => ((0, s, none) : Ent)) [] := by
  refine ⟨List.nodup_nil, (fun _ h => nomatch h), (fun _ h => nomatch h), fun i e h => by simp at h, fun q hq => ?_, (fun _ h => nomatch h), fun s hs2 ⟨p, hp⟩ => .inr ⟨none, List.mem_map.mpr ⟨s, List.mem_filter.mpr ⟨hs2, by rw [hp] <;> rfl⟩, rfl⟩⟩, (fun _ h => nomatch h)⟩
  obtain ⟨s, h1, rfl⟩ := List.mem_map.mp hq
  obtain ⟨h2, h3⟩ := List.mem_filter.mp h1
  exact ⟨hs s h2, Option.isSome_iff_exists.mp h3, Int.le_refl _, rfl, h2⟩
/-- the same entries in another order -/
theorem Rnd.sub {E' : List Ent} (h : Rnd F starts R E Hd) (he : ∀ q, q ∈ E' ↔ q ∈ E) : Rnd F starts R E' Hd :=
  ⟨h.nd, h.op, h.nn, h.from_, fun q hq => h.pend q ((he q).mp hq), fun e hR q hq => h.mono e hR q ((he q).mp hq), fun s hs hp => (h.st s hs hp).imp id fun ⟨b, z⟩ => ⟨b, (he _).mpr z⟩, fun f hf c ch p h1 h2 => (h.rel f hf c ch p h1 h2).imp id (Or.imp (fun ⟨b, z⟩ => ⟨b, (he _).mpr z⟩) id)⟩
/-- a cell that was come to before is passed by -/
theorem Rnd.skip {q : Ent} (h : Rnd F starts R (q :: E) Hd) (hq : q.2.1 ∈ R.map (·.1)) : Rnd F starts R E Hd := by
  obtain ⟨e, he, e1⟩ := List.mem_map.mp hq
  refine ⟨h.nd, h.op, h.nn, h.from_, fun q hq => h.pend q (List.mem_cons_of_mem _ hq), fun e hR q hq => h.mono e hR q (List.mem_cons_of_mem _ hq), fun s hs hp => ?_, fun f hf c ch p h1 h2 => ?_⟩
  · rcases h.st s hs hp with z | ⟨b, z⟩
    · exact .inl z
    · rcases List.mem_cons.mp z with z | z
      · have h1 := h.mono e he q List.mem_cons_self
        have h2 := h.nn e he
        rw [← z] at h1 e1
        exact .inl ⟨e, he, e1, Int.le_antisymm h1 h2⟩
      · exact .inr ⟨b, z⟩
  · rcases h.rel f hf c ch p h1 h2 with z | ⟨b, z⟩ | z
    · exact .inl z
    · rcases List.mem_cons.mp z with z | z
      · have h1 := h.mono e he q List.mem_cons_self
        rw [← z] at h1 e1
        exact .inl ⟨e, he, e1, h1⟩
      · exact .inr (.inl ⟨b, z⟩)
    · exact .inr (.inr z)
/-- a cell is come to; its steps are in hand -/
theorem Rnd.add {n : Int} {c : WC} {b : Option WC} (h : Rnd F starts R ((n, c, b) :: E) []) (hc : c ∉ R.map (·.1)) (hm : ∀ q ∈ E, n ≤ q.1) : Rnd F starts (R ++ [(c, n, b)]) E ((F.steps c).map fun d => (c, d.1, d.2)) := by
  obtain ⟨p1, p2, p3, p4⟩ := h.pend _ List.mem_cons_self
  refine ⟨?_, fun e he => ?_, fun e he => ?_, fun i e he => ?_, fun q hq => ?_, fun e he q hq => ?_, fun s hs hp => ?_, fun f hf d ch p h1 h2 => ?_⟩
  · rw [List.map_append, List.nodup_append]
    refine ⟨h.nd, List.pairwise_singleton _ _, fun a ha b' hb => ?_⟩
    have hb : b' ∈ [c] := hb
    rw [List.mem_singleton.mp hb]
    exact fun z => hc (z ▸ ha)
  · rcases List.mem_append.mp he with z | z
    · exact h.op e z
    · rw [List.mem_singleton.mp z]; exact ⟨p1, p2⟩
  · rcases List.mem_append.mp he with z | z
    · exact h.nn e z
    · rw [List.mem_singleton.mp z]; exact p3
  · by_cases hi : i < R.length
    · rw [List.getElem?_append_left hi] at he
      rw [List.take_append_of_le_length (Nat.le_of_lt hi)]
      exact h.from_ i e he
    · rw [List.getElem?_append_right (by omega)] at he
      have e0 : i - R.length = 0 := by
        cases z : i - R.length with
        | zero => rfl
        | succ k => rw [z] at he; simp at he
      rw [e0] at he
      cases he
      rw [show i = R.length by omega, List.take_left]
      exact p4
  · obtain ⟨z1, z2, z3, z4⟩ := h.pend q (List.mem_cons_of_mem _ hq)
    exact ⟨z1, z2, z3, z4.app⟩
  · rcases List.mem_append.mp he with z | z
    · exact h.mono e z q (List.mem_cons_of_mem _ hq)
    · rw [List.mem_singleton.mp z]; exact hm q hq
  · rcases h.st s hs hp with ⟨e, z1, z2⟩ | ⟨b', z⟩
    · exact .inl ⟨e, List.mem_append_left _ z1, z2⟩
    · rcases List.mem_cons.mp z with z | z
      · cases z
        exact .inl ⟨_, List.mem_append_right _ List.mem_cons_self, rfl, rfl⟩
      · exact .inr ⟨b', z⟩
  · rcases List.mem_append.mp hf with hf | hf
    · rcases h.rel f hf d ch p h1 h2 with ⟨e, z1, z2⟩ | ⟨b', z⟩ | z
      · exact .inl ⟨e, List.mem_append_left _ z1, z2⟩
      · rcases List.mem_cons.mp z with z | z
        · cases z
          exact .inl ⟨_, List.mem_append_right _ List.mem_cons_self, rfl, Int.le_refl _⟩
        · exact .inr (.inl ⟨b', z⟩)
      · cases z
    · rw [List.mem_singleton.mp hf] at h1 ⊢
      exact .inr (.inr (List.mem_map.mpr ⟨(d, ch), h1, rfl⟩))
/-- a step to a shut cell, or to one that was come to -/
theorem Rnd.pass {d : WC × WC × Int} (k : F.Ok) (h : Rnd F starts R E (d :: Hd)) {n : Int} {b : Option WC} (hn : (d.1, n, b) ∈ R) (hmax : ∀ e ∈ R, e.2.1 ≤ n) (hst : (d.2.1, d.2.2) ∈ F.steps d.1) (hd : F.pr d.2.1 = none ∨ d.2.1 ∈ R.map (·.1)) : Rnd F starts R E Hd := by
  refine ⟨h.nd, h.op, h.nn, h.from_, h.pend, h.mono, h.st, fun f hf c ch p h1 h2 => ?_⟩
  rcases h.rel f hf c ch p h1 h2 with z | z | z
  · exact .inl z
  · exact .inr (.inl z)
  · rcases List.mem_cons.mp z with z | z
    · subst z
      rcases hd with hd | hd
      · rw [h2] at hd; cases hd
      · obtain ⟨e, he, e1⟩ := List.mem_map.mp hd
        have hfn : f.2.1 = n := by
          have hnd := h.nd
          obtain ⟨i, hi⟩ := List.getElem?_of_mem hf
          obtain ⟨j, hj⟩ := List.getElem?_of_mem hn
          have e3 : (R.map (·.1))[i]? = (R.map (·.1))[j]? := by rw [List.getElem?_map, List.getElem?_map, hi, hj] <;> rfl
          have hil := (List.getElem?_eq_some_iff.mp hi).1
          have := (List.getElem?_inj (by rw [List.length_map]; exact hil) hnd).mp e3
          subst this
          rw [hi] at hj
          exact congrArg (fun z : Num => z.2.1) (Option.some.inj hj)
        have h3 := hmax e he
        have h4 := k.pp _ _ h2
        have h5 := (Fld.steps_in k (h.op f hf).1 h1).2
        exact .inl ⟨e, he, e1, by omega⟩
    · exact .inr (.inr z)
/-- a step to an open cell that was not come to: it waits -/
theorem Rnd.push {d : WC × WC × Int} (k : F.Ok) (h : Rnd F starts R E (d :: Hd)) {n p : Int} {b : Option WC} (hn : (d.1, n, b) ∈ R) (hmax : ∀ e ∈ R, e.2.1 ≤ n) (hst : (d.2.1, d.2.2) ∈ F.steps d.1) (hp : F.pr d.2.1 = some p) : Rnd F starts R ((n + p + d.2.2, d.2.1, some d.1) :: E) Hd := by
  have h4 := k.pp _ _ hp
  have hin := (h.op _ hn).1
  obtain ⟨h6, h5⟩ := Fld.steps_in k hin hst
  have h7 := h.nn _ hn
  have h7 : 0 ≤ n := h7
  refine ⟨h.nd, h.op, h.nn, h.from_, fun q hq => ?_, fun e he q hq => ?_, fun s hs hp => ?_, fun f hf c ch p' h1 h2 => ?_⟩
  · rcases List.mem_cons.mp hq with rfl | hq
    · exact ⟨h6, ⟨p, hp⟩, by show 0 ≤ n + p + d.2.2; omega, _, hn, rfl, d.2.2, p, hst, hp, rfl⟩
    · exact h.pend q hq
  · rcases List.mem_cons.mp hq with rfl | hq
    · have := hmax e he
      show _ ≤ n + p + d.2.2
      omega
    · exact h.mono e he q hq
  · rcases h.st s hs hp with z | ⟨b, z⟩
    · exact .inl z
    · exact .inr ⟨b, List.mem_cons_of_mem _ z⟩
  · rcases h.rel f hf c ch p' h1 h2 with z | ⟨b, z⟩ | z
    · exact .inl z
    · exact .inr (.inl ⟨b, List.mem_cons_of_mem _ z⟩)
    · rcases List.mem_cons.mp z with z | z
      · subst z
        have hfn : f.2.1 = n := by
          have hnd := h.nd
          obtain ⟨i, hi⟩ := List.getElem?_of_mem hf
          obtain ⟨j, hj⟩ := List.getElem?_of_mem hn
          have e3 : (R.map (·.1))[i]? = (R.map (·.1))[j]? := by rw [List.getElem?_map, List.getElem?_map, hi, hj] <;> rfl
          have hil := (List.getElem?_eq_some_iff.mp hi).1
          have := (List.getElem?_inj (by rw [List.length_map]; exact hil) hnd).mp e3
          subst this
          rw [hi] at hj
          exact congrArg (fun z : Num => z.2.1) (Option.some.inj hj)
        have hp : F.pr c = some p := hp
        rw [hp] at h2
        cases h2
        exact .inr (.inl ⟨some f.1, by rw [hfn]; exact List.mem_cons_self⟩)
      · exact .inr (.inr z)
end
/-- what a wave tells at its end -/
def WaveOk (F : Fld) (starts : List WC) (R : List Num) : Prop := Rnd F starts R [] []
/-! ### the cells of the field, counted -/
def Fld.cells (F : Fld) : List WC := (List.range F.w).flatMap fun (x : Nat) => (List.range F.h).flatMap fun (y : Nat) => (List.range F.l).map fun (z : Nat) => ((x : Int), (y : Int), (z : Int))
theorem Fld.mem_cells {F : Fld} {c : WC} (h : F.has c = true) : c ∈ F.cells := by
  unfold Fld.has Fld.sq at h
  simp only [Bool.and_eq_true, decide_eq_true_iff] at h
  obtain ⟨⟨⟨h1, h2⟩, h3, h4⟩, h5, h6⟩ := h
  refine List.mem_flatMap.mpr ⟨c.1.toNat, List.mem_range.mpr (by omega), List.mem_flatMap.mpr ⟨c.2.1.toNat, List.mem_range.mpr (by omega), List.mem_map.mpr ⟨c.2.2.toNat, List.mem_range.mpr (by omega), ?_⟩⟩⟩
  exact Prod.ext (by show ((c.1.toNat : Nat) : Int) = _; omega) (Prod.ext (by show ((c.2.1.toNat : Nat) : Int) = _; omega) (by show ((c.2.2.toNat : Nat) : Int) = _; omega))
theorem flatMap_len {α β : Type} (f : α → List β) (n : Nat) : ∀ (l : List α), (∀ a ∈ l, (f a).length = n) → (l.flatMap f).length = l.length * n
  | [], _ => by simp
  | a :: l, h => by
    rw [List.flatMap_cons, List.length_append, h a List.mem_cons_self, flatMap_len f n l fun b hb => h b (List.mem_cons_of_mem _ hb), List.length_cons, Nat.succ_mul]
    omega
theorem Fld.cells_len {F : Fld} (k : F.Ok) : F.cells.length ≤ 432 := by
  unfold Fld.cells
  rw [flatMap_len _ (F.h * F.l) _ fun x _ => by
    rw [flatMap_len _ F.l _ fun y _ => by rw [List.length_map, List.length_range], List.length_range], List.length_range]
  have h1 : F.h * F.l ≤ 12 * 3 := Nat.mul_le_mul k.h2 k.l2
  exact Nat.le_trans (Nat.mul_le_mul k.w2 h1) (by decide)
theorem Rnd.few {F : Fld} {starts : List WC} {R : List Num} {E : List Ent} {Hd : List (WC × WC × Int)} (k : F.Ok) (h : Rnd F starts R E Hd) : R.length ≤ F.cells.length := by
  have := h.nd.length_le_of_subset (l₂ := F.cells) fun c hc => by
    obtain ⟨e, he, rfl⟩ := List.mem_map.mp hc
    exact Fld.mem_cells (h.op e he).1
  rwa [List.length_map] at this
end Pf
/-! CwA: a dict with tuple keys, walked; it is locked meanwhile. -/
namespace Cu
open PySem PySem.Spec PyProof.Rows L2
/-- the dict, locked -/
def LkT (kvs : List (List Key × It)) (L : Own) : Prop := ∃ od ps, L = .lkT od ps kvs
section
variable {X : Cx} {W : WX} {k j : Nat} {G G1 G2 : Gam} {S S1 S2 S3 : Sto} {P : Post} {e a b o iter tg elt : Expr} {es : List Expr} {r y z r' : It} {rs : List It} {pos pos' p apos cpos : Pos} {ds ds' : List PyData} {m n : Int} {i : Nat} {kd : PyData} {kk : List Key} {kvs : List (List Key × It)} {body : List Stmt} {Qr : It → Sto → Prop} {Qx : Addr → Sto → Prop} {st : Stmt}
/-- a dict, locked or not -/
def HasT (S : Sto) (i : Nat) (kvs : List (List Key × It)) : Prop := S[i]? = some (.dT kvs) ∨ ∃ L, LkT kvs L ∧ S[i]? = some L
theorem hasT_at {K : PySem.W.Frag} {M : List Addr} {H : Hp} {v : V} (s : StoreOk K M H S) (hv : VRep K M H v (.o i)) (hi : HasT S i kvs) : ∃ a ps, v = .ref a ∧ M[i]? = some a ∧ (H a = some (.dT ps) ∨ ∃ od, H a = some (.frz od (.dT ps))) ∧ PRep K M H ps kvs := by
  obtain ⟨a, ha, rfl⟩ := hv
  rcases hi with hi | ⟨L, ⟨od, ps, rfl⟩, hi⟩
  · obtain ⟨ps, h1, h2⟩ := s.rep _ a _ ha hi
    exact ⟨a, ps, rfl, ha, .inl h1, h2⟩
  · obtain ⟨h1, h2⟩ := s.rep _ a _ ha hi
    exact ⟨a, ps, rfl, ha, .inr ⟨od, h1⟩, h2⟩
theorem dget_of {H : Hp} {a b : Addr} {ps : List (List Key × V)} {kk : List Key} (h : H a = some (.dT ps) ∨ ∃ od, H a = some (.frz od (.dT ps))) (hb : H b = some (.tup (kk.map kV))) : DGet H a (.ref b) (valV ps kk) := .inr ⟨ps, kk, b, h, rfl, hb, rfl⟩
theorem evt_dinTL (c : Cxo X W k) (ha : Ev X a G S (.d kd) S1) (hb : Ev X b G S1 (.o i) S2) (hi : HasT S2 i kvs) (hk : keyD kd = some kk) (hm : behindInMarks .In b = false := by rfl) : EvT X (.Compare a [.In] [b] pos) G S (valI kvs kk).isSome S2 := fun M σ H Q s q =>
  toT (pt_cmp (pc_din (u1 c) pe_s pe_s) hm) (ha M σ H _ s fun v M1 H1 e1 s1 r1 => hb M1 σ H1 _ s1 fun u M2 H2 e2 s2 r2 => by
    obtain ⟨a, ps, rfl, _, h1, h2⟩ := hasT_at s2.sto r2 hi
    obtain ⟨b, rfl, hb, _⟩ := key_at hk (r1.ext e2)
    exact ⟨a, valV ps kk, rfl, dget_of h1 hb, _, rfl, by rw [prep_some h2]; exact q M2 H2 (e1.trans e2) s2⟩)
theorem evt_dnotinTL (c : Cxo X W k) (ha : Ev X a G S (.d kd) S1) (hb : Ev X b G S1 (.o i) S2) (hi : HasT S2 i kvs) (hk : keyD kd = some kk) (hm : behindInMarks .NotIn b = false := by rfl) : EvT X (.Compare a [.NotIn] [b] pos) G S (!(valI kvs kk).isSome) S2 := fun M σ H Q s q =>
  toT (pt_cmp (pc_dnotin (u1 c) pe_s pe_s) hm) (ha M σ H _ s fun v M1 H1 e1 s1 r1 => hb M1 σ H1 _ s1 fun u M2 H2 e2 s2 r2 => by
    obtain ⟨a, ps, rfl, _, h1, h2⟩ := hasT_at s2.sto r2 hi
    obtain ⟨b, rfl, hb, _⟩ := key_at hk (r1.ext e2)
    exact ⟨a, valV ps kk, rfl, dget_of h1 hb, _, rfl, by rw [prep_some h2]; exact q M2 H2 (e1.trans e2) s2⟩)
/-- d[k], there; d may be locked -/
theorem ev_dgetTL (c : Cxo X W k) (ho : Ev X o G S (.o i) S1) (ha : Ev X a G S1 (.d kd) S2) (hi : HasT S2 i kvs) (hk : keyD kd = some kk) (hv : valI kvs kk = some r) (hs : NoSl a := by exact fun _ _ => rfl) : Ev X (.Subscript o a pos) G S r S2 := fun M σ H Q s q =>
  toE (pe_dget (u1 c) pe_s pe_s hs) (ho M σ H _ s fun v M1 H1 e1 s1 r1 => ha M1 σ H1 _ s1 fun u M2 H2 e2 s2 r2 => by
    obtain ⟨a, ps, rfl, _, h1, h2⟩ := hasT_at s2.sto (r1.ext e2) hi
    obtain ⟨b, rfl, hb, _⟩ := key_at hk r2
    rcases prep_val (k := kk) h2 with ⟨_, z⟩ | ⟨v, r', h3, h4, h5⟩
    · rw [z] at hv; cases hv
    · rw [h4] at hv
      cases hv
      refine ⟨a, v, rfl, ?_, q _ M2 H2 (e1.trans e2) s2 h5⟩
      rw [← h3]
      exact dget_of h1 hb)
/-- the keys, in order -/
def keysI (kvs : List (List Key × It)) : List It := kvs.map fun p => It.d (keyU p.1)
theorem prep_get {κ : Type} {K : PySem.W.Frag} {M : List Addr} {H : Hp} : ∀ {ps : List (κ × V)} {kvs : List (κ × It)} {i : Nat} {k : κ} {v : V}, PRep K M H ps kvs → ps[i]? = some (k, v) → ∃ r, kvs[i]? = some (k, r)
  | _, _, _, _, _, .nil, e => by simp at e
  | _, _, 0, _, _, .cons h t, e => by
    cases e
    exact ⟨_, congrArg some (Prod.ext h.1.symm rfl)⟩
  | _, _, i + 1, _, _, .cons h t, e => prep_get (i := i) t e
/-- a locked dict is walked by its keys -/
theorem evi_keysT {L : Own} (hi : Ev X iter G S (.o i) S1) (hL : LkT kvs L) (hd : S1[i]? = some L) : EvI X tg iter G S (keysI kvs) (fun S' => S'[i]? = some L) S1 := by
  obtain ⟨od, ps, rfl⟩ := hL
  refine ⟨_, pi_keys pe_s, fun M σ H R s q => hi M σ H _ s fun v M1 H1 e1 t1 r1 => ?_⟩
  obtain ⟨ad, had, rfl⟩ := r1
  obtain ⟨h1, h2⟩ := t1.sto.rep _ ad _ had hd
  have hlen : (keysI kvs).length = ps.length := by unfold keysI; rw [List.length_map]; exact (Paired.length h2).symm
  refine ⟨ad, od, rfl, .inr ⟨ps, h1, q M1 H1 _ e1 t1 ⟨fun n M' H' S' hn e' s' hc => ?_, fun n M' H' S' x H2 r hr e' s' hc yl => ?_, fun n M' H' S' hn e' s' hc => ?_⟩⟩⟩
  · exact ⟨(s'.rep _ ad _ (e'.get had) hc).1, by rw [← hlen]; exact hn⟩
  · obtain ⟨rfl, kx, vx, qx, hk, rfl, hq⟩ := yl
    obtain ⟨rr, hrr⟩ := prep_get h2 hk
    unfold keysI at hr
    rw [List.getElem?_map, hrr] at hr
    cases hr
    refine ⟨Ext.refl, s', fzU hq (no_tup s' hq fun b hb => ?_)⟩
    obtain ⟨k0, _, e0⟩ := List.mem_map.mp hb
    cases k0 <;> cases e0
  · exact ⟨(s'.rep _ ad _ (e'.get had) hc).1, by rw [← hlen]; exact hn⟩
/-- the wish of a turn while the i-th object is locked as L -/
abbrev Post.turnL (P : Post) (i : Nat) (L w : Own) (N : Gam → Sto → Prop) : Post := { nx := N, ct := N, bk := fun G S => S[i]? = some L ∧ P.nx G (S.set i w), rt := fun r S => S[i]? = some L ∧ P.rt r (S.set i w) }
/-- the state, its dict unlocked -/
theorem stt_unlock {K : PySem.W.Frag} {M : List Addr} {H : Hp} {σ : Sig} {ad : Addr} {od : Obj} {ps : List (List Key × V)} (t : Stt K M H S G σ) (had : M[i]? = some ad) (hi : S[i]? = some (.lkT od ps kvs)) : Ext M H M (upd H ad (.dT ps)) ∧ Stt K M (upd H ad (.dT ps)) (S.set i (.dT kvs)) G σ ∧ H ad = some (.frz od (.dT ps)) := by
  obtain ⟨h1, h2⟩ := t.sto.rep _ ad _ had hi
  have e3 : Ext M H M (upd H ad (.dT ps)) := Ext.put (List.mem_of_getElem? had)
  exact ⟨e3, t.mono e3 (t.sto.put (w := .dT kvs) had ⟨ps, upd_same, Paired.mapP h2 fun _ _ q => ⟨q.1, q.2.ext e3⟩⟩), h1⟩
theorem stt_lock {K : PySem.W.Frag} {M : List Addr} {H : Hp} {σ : Sig} {ad : Addr} {ps : List (List Key × V)} (od : Obj) (t : Stt K M H S G σ) (had : M[i]? = some ad) (h1 : H ad = some (.dT ps)) (h2 : PRep K M H ps kvs) : Ext M H M (upd H ad (.frz od (.dT ps))) ∧ Stt K M (upd H ad (.frz od (.dT ps))) (S.set i (.lkT od ps kvs)) G σ := by
  have e3 : Ext M H M (upd H ad (.frz od (.dT ps))) := Ext.put (List.mem_of_getElem? had)
  exact ⟨e3, t.mono e3 (t.sto.put (w := .lkT od ps kvs) had ⟨upd_same, Paired.mapP h2 fun _ _ q => ⟨q.1, q.2.ext e3⟩⟩)⟩
/-- a statement while the i-th object, a dict, is locked; nothing is raised -/
theorem ws_lockT (hd : S[i]? = some (.dT kvs)) (h : ∀ L, LkT kvs L → WS X W st G (S.set i L) { nx := fun G' S' => S'[i]? = some L ∧ P.nx G' (S'.set i (.dT kvs)), rt := fun r S' => S'[i]? = some L ∧ P.rt r (S'.set i (.dT kvs)), bk := fun G' S' => S'[i]? = some L ∧ P.bk G' (S'.set i (.dT kvs)), ct := fun G' S' => S'[i]? = some L ∧ P.ct G' (S'.set i (.dT kvs)) }) : WS X W st G S P := fun M σ H D s m => by
  obtain ⟨ad, had, ps, h1, h2⟩ := s.sto.addr hd
  refine toS (ps_lock ps_s) ⟨ad, _, h1, trivial, fun od => ?_⟩
  obtain ⟨e1, s1⟩ := stt_lock od s had h1 h2
  refine h _ ⟨od, ps, rfl⟩ M σ _ _ s1 ⟨fun M' σ' H' G' S' e t q => ?_, fun v M' H' r S' e t hv q => ?_, fun M' σ' H' G' S' e t q => ?_, fun M' σ' H' G' S' e t q => ?_, fun _ _ _ _ _ _ _ _ q => q.elim⟩
  · obtain ⟨e2, s2, f2⟩ := stt_unlock t (e.get had) q.1
    exact ⟨f2, m.nx M' σ' _ G' _ ((e1.trans e).trans e2) s2 q.2⟩
  · obtain ⟨e2, s2, f2⟩ := stt_unlock (G := []) (σ := []) ⟨t, rfl, fun _ _ q => nomatch q⟩ (e.get had) q.1
    exact ⟨f2, m.rt v M' _ r _ ((e1.trans e).trans e2) s2.sto (hv.ext e2) q.2⟩
  · obtain ⟨e2, s2, f2⟩ := stt_unlock t (e.get had) q.1
    exact ⟨f2, m.bk M' σ' _ G' _ ((e1.trans e).trans e2) s2 q.2⟩
  · obtain ⟨e2, s2, f2⟩ := stt_unlock t (e.get had) q.1
    exact ⟨f2, m.ct M' σ' _ G' _ ((e1.trans e).trans e2) s2 q.2⟩
/-- an expression while the i-th object, a dict, is locked -/
theorem ev_lockT {S' : Sto} (hd : S[i]? = some (.dT kvs)) (h : ∀ L, LkT kvs L → ∃ S1, Ev X e G (S.set i L) r S1 ∧ S1[i]? = some L ∧ S1.set i (.dT kvs) = S') : Ev X e G S r S' := fun M σ H Q s q => by
  obtain ⟨ad, had, ps, h1, h2⟩ := s.sto.addr hd
  refine toE (pe_lock pe_s) ⟨ad, _, h1, trivial, fun od => ?_⟩
  obtain ⟨e1, s1⟩ := stt_lock od s had h1 h2
  obtain ⟨S1, hev, hL, hS⟩ := h _ ⟨od, ps, rfl⟩
  refine hev M σ _ _ s1 fun v M' H' e t hv => ?_
  obtain ⟨e2, s2, f2⟩ := stt_unlock t (e.get had) hL
  rw [hS] at s2
  exact ⟨f2, q v M' _ ((e1.trans e).trans e2) s2 (hv.ext e2)⟩
/-- for x in d: the dict stands still meanwhile -/
theorem ws_forDT (c : Cxo X W k) (hi : ∀ S', Ev X iter G S' (.o i) S') (hd : S[i]? = some (.dT kvs)) (tgt : It → Gam → Gam)
    (h : ∀ L, LkT kvs L → ∃ J : Nat → Gam → Sto → Prop, J 0 G (S.set i L) ∧ (∀ n G' S', J n G' S' → S'[i]? = some L) ∧ (∀ n r G' S', (keysI kvs)[n]? = some r → J n G' S' → EvG X tg r G' S' (tgt r G') S') ∧
      (∀ n r G' S', (keysI kvs)[n]? = some r → J n G' S' → WSs X W body (tgt r G') S' (P.turnL i L (.dT kvs) (J (n + 1)))) ∧ (∀ G' S', J (keysI kvs).length G' S' → P.nx G' (S'.set i (.dT kvs))))
    (hf : ∀ x, foldedSetIterable iter X.env x = pure x := by intro _; rfl) : WS X W (.For tg iter body [] pos) G S P :=
  ws_lockT hd fun L hL => by
    obtain ⟨J, h0, hC, hg, hs, hq⟩ := h L hL
    have hl : i < S.length := (List.getElem?_eq_some_iff.mp hd).1
    have hLi : (S.set i L)[i]? = some L := List.getElem?_set_self hl
    refine ws_for c (evi_keysT (hi _) hL hLi) J tgt h0 hC hg (fun n r G' S' hr hJ => ?_) (fun G' S' hJ => ⟨hC _ _ _ hJ, hq G' S' hJ⟩) hf
    exact hs n r G' S' hr hJ
end
end Cu
/-! CwB: sorted by a lambda's keys. -/
namespace Cu
open PySem PySem.Spec PyProof.Rows L2
abbrev KeepH (h h' : Heap) : Prop := ∀ b o, h.get? b = some o → h'.get? b = some o
/-- e, read where x is a datum d, gives the datum kd; all stays -/
def KEv (e : Expr) (x : Str) (d kd : PyData) : Prop := ∀ (prog : Program) (w : World) (A : Around) (env : Env) (E : Value → Shared → Prop) (s : Shared) (u : Value) (as : List Addr) (m : Str → Option Value) (Q : Value → Shared → Prop),
  env.scope.kind = .function → env.kindOf x = some .local → s.heap.Ns env.locals m → m x = some u → Reads s.heap u d as →
  (∀ v' h' tk' as', KeepH s.heap h' → Reads h' v' kd as' → Q v' { s with heap := h', toks := tk' }) → wpAny (model prog w) A (eval e env) Q E s
def KEvs (es : List Expr) (x : Str) (d : PyData) (kds : List PyData) : Prop := ∀ (prog : Program) (w : World) (A : Around) (env : Env) (E : Value → Shared → Prop) (s : Shared) (u : Value) (as : List Addr) (m : Str → Option Value) (pos : Pos) (Q : List Value → Shared → Prop),
  env.scope.kind = .function → env.kindOf x = some .local → s.heap.Ns env.locals m → m x = some u → Reads s.heap u d as →
  (∀ vs h' tk' as', KeepH s.heap h' → ReadsAll h' vs kds as' → Q vs { s with heap := h', toks := tk' }) → wpAny (model prog w) A (spliced (backTo pos (starEach es env))) Q E s
theorem ns_keep {h h' : Heap} {L : Addr} {m : Str → Option Value} (n : h.Ns L m) (k : KeepH h h') : h'.Ns L m := by
  obtain ⟨o, es, ep, ho, r⟩ := n
  exact ⟨o, es, ep, k _ _ ho, r⟩
theorem key_name {x : Str} {d : PyData} {p : Pos} (hd : (x == ("__debug__" : Str)) = false := by decide) : KEv (.Name x p) x d d := fun prog w A env E s u as m Q hk hl hn hm hr q => by
  refine wpAny_Name (wpAny_loadName_local hk hl hn hm ?_) hd
  exact q u s.heap s.toks as (fun _ _ h => h) hr
theorem readsAll_get {h : Heap} : ∀ {vs : List Value} {ds : List PyData} {as : List Addr} {i : Nat} {d : PyData}, ReadsAll h vs ds as → ds[i]? = some d → ∃ v as', vs[i]? = some v ∧ Reads h v d as'
  | _, _, _, i, d, .nil, e => by simp at e
  | _, _, _, 0, d, .cons h1 h2, e => by
    cases e
    exact ⟨_, _, rfl, h1⟩
  | _, _, _, i + 1, d, .cons h1 h2, e => readsAll_get (i := i) h2 e
theorem readsAll_len {h : Heap} : ∀ {vs : List Value} {ds : List PyData} {as : List Addr}, ReadsAll h vs ds as → vs.length = ds.length
  | _, _, _, .nil => rfl
  | _, _, _, .cons _ t => congrArg Nat.succ (readsAll_len t)
/-- t[i] of a tuple -/
theorem key_ixT {a : Expr} {x : Str} {d kd : PyData} {ds : List PyData} {i : Nat} {j : Nat} {p pos : Pos} (ha : KEv a x d (.tuple ds)) (hi : ds[i]? = some kd) (hz : i < 1000000)
    (hs : ∀ v u, subscripted (.Constant (.int (i : Int)) j p) false v u = operate [v, u] (getItem v u) := by intros; rfl) : KEv (.Subscript a (.Constant (.int (i : Int)) j p) pos) x d kd := fun prog w A env E s u as m Q hk hl hn hm hr q => by
  refine Subscript_ (ha prog w A env E s u as m _ hk hl hn hm hr fun v' h' tk' as' kp hr' => ?_)
  refine wpAny_Constant_int ?_
  cases hr' with
  | tuple e1 e2 e3 e4 =>
    obtain ⟨v, as2, hv, hrv⟩ := readsAll_get e4 hi
    have hlt : i < ds.length := (List.getElem?_eq_some_iff.mp hi).1
    have hlen := readsAll_len e4
    rename_i vs n
    have hsz : vs.size = ds.length := by rw [← hlen, Array.length_toList]
    refine subscriptTail_builtinR (x := v) (T := "tuple") ⟨_, e1, e2⟩ slot_tuple_getitem.lookup
      (PyProof.Rows.getItem_tuple (j := i) (Q := fun r s' => r = v ∧ Q r s') ⟨_, e1, e2, n, e3⟩ (by omega) (by omega) (by unfold seqIndex?; simp; omega) (by rw [← Array.getElem?_toList]; exact hv) ⟨rfl, ?_⟩) (hs _ _)
    exact q v h' (tk' + 1) as2 kp hrv
theorem keys_nil {x : Str} {d : PyData} : KEvs [] x d [] := fun prog w A env E s u as m pos Q hk hl hn hm hr q => Calls.spliced_nil (q [] s.heap s.toks [] (fun _ _ h => h) .nil)
theorem keys_cons {e : Expr} {es : List Expr} {x : Str} {d kd : PyData} {kds : List PyData} (h : KEv e x d kd) (hr : KEvs es x d kds) (he : ∀ env, starEach (e :: es) env = (false, eval e env) :: starEach es env := by intro _; rfl) : KEvs (e :: es) x d (kd :: kds) := fun prog w A env E s u as m pos Q hk hl hn hm hrd q => by
  rw [he]
  show wpAny _ _ (spliced ((false, eval e env) :: backTo pos (starEach es env))) _ _ _
  refine Calls.spliced_cons (h prog w A env E s u as m _ hk hl hn hm hrd fun v' h' tk' as' kp hv => ?_)
  refine hr prog w A env E { s with heap := h', toks := tk' } u as m pos _ hk hl (ns_keep hn kp) hm (Reads.keeps kp hrd) fun vs h2 tk2 as2 kp2 hvs => ?_
  exact q (v' :: vs) h2 tk2 _ (fun b o z => kp2 b o (kp b o z)) (.cons (Reads.keeps kp2 hv) hvs)
/-- (e1, e2, ..) -/
theorem key_tup {es : List Expr} {x : Str} {d : PyData} {kds : List PyData} {j : Nat} {pos : Pos} (h : KEvs es x d kds) (hz : kds.length ≤ 1000) : KEv (.Tuple es j pos) x d (.tuple kds) := fun prog w A env E s u as m Q hk hl hn hm hr q => by
  refine wpAny_Tuple_spliced (h prog w A env E s u as m pos _ hk hl hn hm hr fun vs h' tk' as' kp hvs => ⟨by rw [readsAll_len hvs, sizeLine_eq]; omega, ?_⟩)
  refine q _ _ tk' as' (fun b o z => Heap.get?_push_of_some _ (kp b o z)) ?_
  exact .tuple (Heap.get?_push_size _ rfl) rfl rfl (by rw [List.toList_toArray]; exact ReadsAll.keeps (fun b o z => Heap.get?_push_of_some _ z) hvs)
/-- the lambda's one parameter, its names -/
structure Lam1 (scope : Scope) (params : Arguments) (x : Str) : Prop where
  kind : scope.kind = .function
  co : scope.isCoroutine = false
  gen : scope.isGenerator = false
  nocell : ∀ y ∈ scope.names, y.2 ≠ .cell
  nofree : ∀ y ∈ scope.names, y.2 ≠ .free
  loc : scope.names.lookup x = some .local
  bind : ∀ (q : Str) (body : Expr) (pm cv ct v : Value), bindArgs (PySem.W.kla_fn "<lambda>" q params body scope [] pm cv ct) ⟨[v], []⟩ = pure [(x, v)]
/-- a call of the lambda on what reads as d -/
theorem lam_call {prog : Program} {w : World} {A : Around} {s : Shared} {f c' : Addr} {q x : Str} {params : Arguments} {body : Expr} {scope : Scope} {pm ctv v : Value} {d kd : PyData} {as : List Addr} (L : Lam1 scope params x) (hb : KEv body x d kd) (hkd : ∀ h v as, Reads h v kd as → as = [])
    (hf : s.heap.get? f = some (PySem.W.kla_obj "<lambda>" q params body scope [] pm c' ctv)) (hc : s.heap.CodeRec (.ref c') q) (hr : A.depth < recursionLimit) (hlim : s.heap.NoLimit) (hv : Reads s.heap v d as) :
    wpAny (model prog w) A (call (.ref f) [v]) (PySem.W.KeyPure kd s) (fun _ _ => False) s := by
  refine wpAny_call ?_
  refine PySem.W.kla_callFunE hr hf rfl L.co L.gen rfl hc ?_
  rw [L.bind]
  refine wpAny_pure (wpAny_newFunctionEnv L.nocell (fun y hy => ?_) (fun h₁ hns hsb => ⟨hlim.fresh _ hsb, ?_⟩) L.kind)
  · rw [List.mem_singleton.mp hy]; exact L.loc
  · have kp : KeepH s.heap h₁ := fun b o e => hsb.extBut b o (Nat.ne_of_lt (Heap.lt_size e)) (Heap.get?_push_of_some _ e)
    refine PySem.W.kla_codeExpr (hb prog w _ _ _ _ v as _ _ L.kind ?_ hns ?_ (Reads.keeps kp hv) fun v' h' tk' as' kp2 hv' => ?_)
    · exact L.loc
    · show ([(x, v)] : List (Str × Value)).reverse.lookup x = some v
      simp
    · have e := hkd _ _ _ hv'
      subst e
      exact ⟨h', tk', rfl, fun b o z => kp2 b o (kp b o z), hv'⟩
theorem upd_swap {H : Hp} {a b : Addr} {o u : HO} (h : a ≠ b) : upd (upd H a o) b u = upd (upd H b u) a o := by
  funext c
  by_cases h1 : c = b
  · subst h1; rw [upd_same, upd_ne (Ne.symm h), upd_same]
  · by_cases h2 : c = a
    · subst h2; rw [upd_ne h1, upd_same, upd_same]
    · rw [upd_ne h1, upd_ne h2, upd_ne h2, upd_ne h1]
/-- what the making of a lambda leaves of the heap's picture -/
def LamHp (H : Hp) (P : Addr) (ps : Array Value) (q : Str) (c' : Addr) (H1 : Hp) : Prop :=
  (H1 = H ∧ H c' = some (LamX.CodeO c' q)) ∨ ∃ ps' : Array Value, H c' = none ∧ c' ≠ P ∧ H1 = upd (upd H P (.tbl ps')) c' (LamX.CodeO c' q) ∧ TriplesOk ps'.toList ∧ ∀ (pos : Pos) (cv : Value), codeAmong pos ps'.toList = some cv → codeAmong pos ps.toList = some cv ∨ cv = .ref c'
section
variable {X : Cx} {pins : List (Addr × Obj)} {σ : Sig} {H : Hp} {s : Shared}
theorem lam_make3 {c P : Addr} {ps : Array Value} {params : Arguments} {body : Expr} {scope : Scope} {pos : Pos} {E : Value → Shared → Prop} {Q : Value → Shared → Prop} (I : Inv X pins σ H s) (TB : LamX.TabB X.base X.mg c P) (hcode : X.env.code = .ref c) (hP : H P = some (.tbl ps)) (ht : TriplesOk ps.toList)
    (ha : ∀ (pos : Pos) (cv : Value), codeAmong pos ps.toList = some cv → ∃ c, cv = .ref c ∧ H c = some (LamX.CodeO c (X.env.qual ++ "<lambda>"))) (hdef : defaultsOf params X.env = ([], [])) (hfree : ∀ y ∈ scope.names, y.2 = .free → ∃ c, X.env.cells.lookup y.1 = some c)
    (h : ∀ (f c' : Addr) (pm ctv : Value) (H1 : Hp) (s' : Shared), Inv X pins σ H1 s' → LamHp H P ps (X.env.qual ++ "<lambda>") c' H1 → s'.heap.get? f = some (PySem.W.kla_obj "<lambda>" (X.env.qual ++ "<lambda>") params body scope (cloFrom X.env.cells scope.names []) pm c' ctv) → H1 f = none → f ∉ frs X.stack → s'.heap.CodeRec (.ref c') (X.env.qual ++ "<lambda>") → Q (.ref f) s') :
    wpAny (model X.prog X.w) X.A (eval (.Lambda params body scope pos) X.env) Q E s := by
  refine PySem.W.kla_eval hdef ?_
  have b1 := TB.bm.keeps I.bk
  have g1 := I.mod.glob.keeps I.bk
  have C1 := TB.code.keeps I.bk
  have hPs : s.heap.get? P = some { cls := .none, data := .fields ps } := I.hok P _ hP
  have outF : ∀ f, s.heap.objs.size ≤ f → f ∉ frs X.stack := fun f hf z => (List.mem_cons.mp (I.stkSub _ z)).elim (fun e => absurd I.lt (by rw [← e]; exact Nat.not_lt.mpr hf)) (fun e => I.nofs hf e)
  cases hit : codeAmong pos ps.toList with
  | some cv =>
    obtain ⟨c', rfl, hco⟩ := ha pos cv hit
    refine PySem.W.kla_makeFunctionHit (c := c) (closure_ok hfree) I.ok.glob g1 hcode C1 hPs ht hit b1 fun ctv h' tk up le => ?_
    have kp : KeepH s.heap (h'.push (PySem.W.kla_obj "<lambda>" (X.env.qual ++ "<lambda>") params body scope (cloFrom X.env.cells scope.names []) ((X.mg "__name__").getD .none) c' ctv)) := fun b o e => Heap.get?_push_of_some _ (up b o e)
    obtain ⟨⟨oc, vs, tq, r1, r2, r3⟩, _⟩ := I.hok c' _ hco
    exact h _ c' _ ctv H _ (I.kept (t' := tk) kp) (.inl ⟨rfl, hco⟩) (Heap.get?_push_size _ rfl) (I.hok.fresh le) (outF _ le) ⟨c', oc, vs, tq, rfl, kp _ _ r1, r2, r3⟩
  | none =>
    refine PySem.W.kla_makeFunction (c := c) (closure_ok hfree) I.ok.glob g1 hcode C1 hPs ht hit TB.gP b1 fun c' ctv h' tk up le lt rec tab => ?_
    obtain ⟨c2, oc, vs, tq, e2, r1, r2, r3⟩ := rec
    cases e2
    have le2 : s.heap.objs.size ≤ h'.objs.size := Nat.le_of_lt (Nat.lt_of_le_of_lt le lt)
    have nc : H c' = none := I.hok.fresh le
    have ne1 : c' ≠ P := fun z => by rw [z, hP] at nc; cases nc
    have app : (ps ++ #[rawInt pos.line, rawInt pos.col, .ref c']).toList = ps.toList ++ [rawInt pos.line, rawInt pos.col, .ref c'] := by simp
    have J := LamX.inv_table (t' := tk) (more := #[rawInt pos.line, rawInt pos.col, .ref c']) (q := X.env.qual ++ "<lambda>")
      (h' := h'.push (PySem.W.kla_obj "<lambda>" (X.env.qual ++ "<lambda>") params body scope (cloFrom X.env.cells scope.names []) ((X.mg "__name__").getD .none) c' ctv)) I hP
      (fun b o nb e => Heap.get?_push_of_some _ (up b o nb e)) (Heap.get?_push_of_some _ tab) le ⟨oc, vs, tq, Heap.get?_push_of_some _ r1, r2, r3⟩
    refine h _ c' _ ctv _ _ J (.inr ⟨_, nc, ne1, rfl, by rw [app]; exact PySem.TriplesOk_snoc _ _ _ _ ht, fun p2 cv hcv => ?_⟩) (Heap.get?_push_size _ rfl) ?_ (outF _ le2) ⟨c', oc, vs, tq, rfl, Heap.get?_push_of_some _ r1, r2, r3⟩
    · rw [app] at hcv
      exact LamX.among_app _ ht hcv
    · rw [upd_ne (Nat.ne_of_gt lt), upd_ne fun z => absurd (Heap.lt_size hPs) (Nat.not_lt.mpr (by rw [← z]; exact le2))]
      exact I.hok.fresh le2
end
/-- the store, its table grown -/
theorem stt_lam {K : PySem.W.Frag} {M : List Addr} {H H1 : Hp} {S : Sto} {G : Gam} {σ : Sig} {P : Addr} {q : Str} {t : Nat} {ps : Array Value} {c' : Addr} (st : Stt K M H S G σ) (ht : S[t]? = some (.tbl P q)) (hP : H P = some (.tbl ps)) (hps : ∀ (pos : Pos) (cv : Value), codeAmong pos ps.toList = some cv → ∃ c, cv = .ref c ∧ H c = some (LamX.CodeO c q) ∧ c ∉ M)
    (had : M[t]? = some P) (h : LamHp H P ps q c' H1) : Ext M H M H1 ∧ Stt K M H1 S G σ := by
  rcases h with ⟨rfl, _⟩ | ⟨ps', nc, ne1, rfl, h2, h3⟩
  · exact ⟨Ext.refl, st⟩
  · rw [upd_swap (Ne.symm ne1)]
    have e1 : Ext M H M (upd H c' (LamX.CodeO c' q)) := Ext.fresh nc
    have s1 := st.fresh (o := LamX.CodeO c' q) nc
    have e2 : Ext M (upd H c' (LamX.CodeO c' q)) M (upd (upd H c' (LamX.CodeO c' q)) P (.tbl ps')) := Ext.put (List.mem_of_getElem? had)
    have nM : c' ∉ M := st.sto.nin nc
    have w2 := s1.sto.put (w := .tbl P q) (o := .tbl ps') had ⟨rfl, ps', upd_same, h2, fun pos cv hcv => by
      rcases h3 pos cv hcv with z | z
      · obtain ⟨c, x1, x2, x3⟩ := hps pos cv z
        refine ⟨c, x1, ?_, x3⟩
        have n1 : c ≠ P := fun y => by
          rw [y, hP] at x2
          exact LamX.codeO_ne _ (Option.some.inj x2).symm
        have n2 : c ≠ c' := fun y => by
          rw [y, nc] at x2
          cases x2
        rw [upd_ne n1, upd_ne n2]
        exact x2
      · exact ⟨c', z, by rw [upd_ne ne1, upd_same], nM⟩⟩
    rw [show S.set t (.tbl P q) = S from List.ext_getElem? fun i => by
      by_cases hi : t = i
      · subst hi
        rw [List.getElem?_set_self (List.getElem?_eq_some_iff.mp ht).1, ht]
      · rw [List.getElem?_set_ne hi]] at w2
    exact ⟨e1.trans e2, s1.mono e2 w2⟩
theorem clo_nil {cells : List (Str × Addr)} : ∀ {names : List (Str × NameKind)} {acc : List (Str × Addr)}, (∀ y ∈ names, y.2 ≠ .free) → cloFrom cells names acc = acc
  | [], _, _ => rfl
  | (n, k) :: r, acc, h => by
    have hk : (k == NameKind.free) = false := beq_eq_false_iff_ne.mpr (h (n, k) List.mem_cons_self)
    show (if (k == NameKind.free) = true then _ else _) = _
    rw [hk, if_neg Bool.false_ne_true]
    exact clo_nil fun y hy => h y (List.mem_cons_of_mem _ hy)
theorem each_both {α β : Type} {P Q : α → β → Prop} : ∀ {l : List α} {m : List β}, PySem.W.EachIs P l m → PySem.W.EachIs Q l m → PySem.W.EachIs (fun a b => P a b ∧ Q a b) l m
  | _, _, .nil, .nil => .nil
  | _, _, .cons a t, .cons b s => .cons ⟨a, b⟩ (each_both t s)
section
variable {X : Cx} {W : WX} {k j : Nat} {G G1 G2 : Gam} {S S1 S2 S3 : Sto} {e a : Expr} {r : It} {pos lpos kpos p : Pos} {ds : List PyData} {t : Nat} {cA PA_ : Addr} {params : Arguments} {body : Expr} {scope : Scope} {x : Str}
/-- sorted(a, key=lambda x: body), a list that stays as it is -/
theorem ev_sortedLam (kf : PyData → PyData) (c : Cxo X W k) (hk2 : 2 ≤ k) (hm : X.mg "sorted" = none) (ha : Ev X a G S r S1) (hr : lsOf S1 r = some ds) (L : Lam1 scope params x) (hkey : ∀ d ∈ ds, KEv body x d (kf d)) (hlf : ∀ d ∈ ds, ∀ h v as, Reads h v (kf d) as → as = [])
    (hal : PySem.W.AllAlike (ds.map kf)) (hso : PySem.W.Sortable (ds.map kf)) (hde : ∀ d ∈ ds, (kf d).depth ≤ 60) (ht : S1[t]? = some (.tbl PA_ (X.env.qual ++ "<lambda>"))) (TB : LamX.TabB X.base X.mg cA PA_) (hcode : X.env.code = .ref cA)
    (hdef : defaultsOf params X.env = ([], []) := by rfl) (hg : Gl X "sorted" := by rfl)
    (he : backTo pos (starEach [a] X.env) = (false, eval a X.env) :: backTo pos (starEach [] X.env) := by rfl) (hpl : (backTo pos (starEach [a] X.env)).any (·.1) = false := by rfl) (he2 : starEach [a] X.env = (false, eval a X.env) :: starEach [] X.env := by rfl)
    (hall : (backToKw pos (keywordEach [⟨some "key", .Lambda params body scope lpos, kpos⟩] X.env)).all (·.1.isSome) = true := by rfl) (hnone : (backToKw pos (keywordEach [⟨some "key", .Lambda params body scope lpos, kpos⟩] X.env)).any (·.1.isNone) = false := by rfl) :
    Ev X (.Call (.Name "sorted" p) [a] [⟨some "key", .Lambda params body scope lpos, kpos⟩] pos) G S (.d (.list (ds.mergeSort (PySem.W.dataLe false kf)))) S1 := fun M σ H Q st q pins s0 I => by
  refine wpAny_Call_Name_kw (ld_blt I hg hm (PyProof.Rows.boot_sorted) ?_ (by decide) (by decide))
  refine PyProof.Rows.callWith_kw (thn ((pa_cons (pe_s (e := a)) pa_nil he2).run pos pins s0 σ H (fun vs H1 => ∃ v M1, vs = [v] ∧ Ext M H M1 H1 ∧ Stt X.K M1 H1 S1 G σ ∧ VRep X.K M1 H1 v r) I (ha M σ H _ st fun v M' H' e' s' r' => ⟨v, M', rfl, e', s', r'⟩)) fun us s1 hus => ?_) he hpl hall hnone
  obtain ⟨vs, H1, I1, r1, v, M1, rfl, e1, t1, q1⟩ := hus
  obtain ⟨ad0, xs0, ev0, _, _⟩ := ls_rd t1.sto q1 hr
  subst ev0
  obtain rfl := Vals.ref1 r1
  obtain ⟨aP, hadP, rfl, ps, hP, hps1, hps2⟩ := t1.sto.addr ht
  show wpAny _ _ (evalAll ((do let v ← eval (.Lambda params body scope lpos) X.env; standAt pos; pure v) :: [])) _ _ _
  refine wpAny_evalAll_cons (wpAny_bind (lam_make3 I1 TB hcode hP hps1 (fun p2 cv hcv => let ⟨c2, x1, x2, _⟩ := hps2 p2 cv hcv; ⟨c2, x1, x2⟩) hdef (fun y hy hf => absurd hf (L.nofree y hy)) fun f c' pm ctv H2 s2 I2 hH hf hfn hfr hrec => ?_))
  refine wpAny_bind (wpAny_standAt (wpAny_pure (wpAny_evalAll_nil ?_)))
  obtain ⟨e2, t2⟩ := stt_lam t1 ht hP hps2 hadP hH
  obtain ⟨ad, xs, ev, hx1, hx2⟩ := ls_rd t2.sto (q1.ext e2) hr
  cases ev
  obtain ⟨its, rv, hl, hz⟩ := I2.list (.inl hx1)
  have hlen : ds.length = its.length := by rw [← fz_len hx2]; exact rv.length
  have lim : s2.heap.NoLimit := I2.mod.nolimit.keeps I2.bk
  have hu := c.hr.units
  show wpAny _ _ (call (.builtin "sorted") [.ref ad0] [(Str.ofString "key", .ref f)]) _ _ _
  rw [clo_nil L.nofree] at hf
  refine PySem.W.sorted_key_data (b := false) (bs := ds) (vs := its) (R := fun u d => (∃ v, RelV v u ∧ Fz M1 H2 v d) ∧ ∃ as, Reads s2.heap u d as) kf hl.isList (each_both (each_of rv (fz_pair hx2)) (each_reads I2 rv (FzAll.dp hx2))) hal hso (by rw [hlen, ← rv.length]; exact hz)
    (fun d hd => ?_) (PyProof.Rows.ksk_s1 _ _) (fun _ => PyProof.Rows.ksk_l1 _ _) (fun x => PyProof.Rows.ksk_t1 f x) (fun u d hR hd g tk kp => ?_) fun out c2 h' tk kp fr hat ho hs => ?_
  · have := hde d hd
    omega
  · obtain ⟨_, as, hrd⟩ := hR
    refine lam_call (s := { s2 with heap := g, toks := tk }) L (hkey d hd) (hlf d hd) (kp _ _ hf) ?_ ?_ (lim.keeps kp) (Reads.keeps kp hrd)
    · obtain ⟨c3, oc, ws, tq, x1, x2, x3, x4⟩ := hrec
      exact ⟨c3, oc, ws, tq, x1, kp _ _ x2, x3, x4⟩
    · have := c.hr.dp
      show X.A.depth < recursionLimit
      omega
  · obtain ⟨ys, hy, hyr⟩ := each_back (hs.mono fun u d z => z.1)
    have hle : ys.length ≤ sizeLine := by rw [hy.length, ho, hlen, ← rv.length]; exact hz
    have hn : H2 (s2.heap.objs.size + 1) = none := I2.hok.fresh (Nat.le_succ _)
    refine ⟨.ref _, upd H2 (s2.heap.objs.size + 1) (.lst ys), I2.laid (t' := tk) kp (Nat.le_succ _) ⟨hle, out, c2, hy, hat⟩, rfl, ?_⟩
    exact q _ M1 _ ((e1.trans e2).trans (Ext.fresh hn)) (t2.fresh hn) (Fz.lst ⟨.inl upd_same, t2.sto.nin hn⟩ (FzAll.ext (Ext.fresh hn) (fz_unpair hyr)))
end
end Cu
/-! CwC: laws whose defs make lambdas: the tables of their code objects stand at the store's start. -/
namespace Cu
open PySem PySem.Spec PyProof.Rows L2 He
/-- the tables stand apart -/
def apartB (tf : List Defn) (K : PySem.W.Frag) : Bool := decide ((tf.map fun p => (cT K p).2).Nodup)
structure SaysTb (fa : List Fk) (fn : List DefD) (tf : List Defn) (h : Heap) (K : PySem.W.Frag) : Prop where
  c : SaysC fa fn K
  nd : (tf.map fun p => (cT K p).2).Nodup
  hd : ∀ p ∈ tf, PySem.W.codeHdIn K (cT K p).1 (cT K p).2 = true
  out : ∀ p ∈ tf, K.lookup (cT K p).2 = none
  empty : ∀ p ∈ tf, h.get? (cT K p).2 = some { cls := .none, data := .fields #[] }
abbrev AlTb : Type := AlD × Bool
def obsTb (n : Nat) (fa : List Fk) (fn : List DefD) (tf : List Defn) (g : Addr → Option Obj) : AlTb := (obsC fa fn (frT g (asD g n)), apartB tf (frT g (asD g n)) && tabsB g tf (frT g (asD g n)))
def valTb (fn : List DefD) : AlTb := (valC fn, true)
theorem saysTb_of {n : Nat} {fa : List Fk} {fn : List DefD} {tf : List Defn} {h : Heap} (e : obsTb n fa fn tf h.get? = valTb fn) : SaysTb fa fn tf h (frT h.get? (asD h.get? n)) := by
  have e2 := congrArg (fun z : AlTb => z.2) e
  obtain ⟨h1, h2⟩ := Bool.and_eq_true_iff.mp (show (apartB tf (frT h.get? (asD h.get? n)) && tabsB h.get? tf (frT h.get? (asD h.get? n))) = true from e2)
  have each : ∀ p ∈ tf, PySem.W.codeHdIn (frT h.get? (asD h.get? n)) (cT (frT h.get? (asD h.get? n)) p).1 (cT (frT h.get? (asD h.get? n)) p).2 = true ∧ ∃ ob, h.get? (cT (frT h.get? (asD h.get? n)) p).2 = some ob ∧ emptyTab ob = true := fun p hp => by
    have h3 := List.all_eq_true.mp h2 p hp
    cases ob : h.get? (cT (frT h.get? (asD h.get? n)) p).2 with
    | none => rw [ob, Bool.and_false] at h3; cases h3
    | some ob' => rw [ob] at h3; exact ⟨(Bool.and_eq_true_iff.mp h3).1, ob', rfl, (Bool.and_eq_true_iff.mp h3).2⟩
  refine ⟨congrArg (fun z : AlTb => z.1) e, of_decide_eq_true h1, fun p hp => (each p hp).1, fun p hp => ?_, fun p hp => ?_⟩
  · obtain ⟨_, ob, x1, x2⟩ := each p hp
    exact frT_none x1 x2
  · obtain ⟨_, ob, x1, x2⟩ := each p hp
    rw [x1, emptyTab_eq x2]
def hookTb (n : Nat) (fa : List Fk) (fn : List DefD) (tf : List Defn) : PySem.W.Hook where
  α := AlTb
  obs := fun s => obsTb n fa fn tf s.heap.get?
  val := fun _ => valTb fn
  says := fun _ h => ∃ K : PySem.W.Frag, K.In h ∧ SaysTb fa fn tf h K
  of := fun _ _ e => ⟨_, frT_in, saysTb_of e⟩
  keeps := fun _ _ _ ⟨K, hK, c⟩ k => ⟨K, PySem.W.Frag.In.keeps hK k, ⟨c.c, c.nd, c.hd, c.out, fun p hp => k _ _ (c.empty p hp)⟩⟩
theorem obsTb_eq {n : Nat} {fa : List Fk} {fn : List DefD} {tf : List Defn} {g : Addr → Option Obj} {s : Shared} (h : ∀ a, g a = s.heap.get? a) : obsTb n fa fn tf g = (hookTb n fa fn tf).obs s := by
  have e : g = s.heap.get? := funext h
  rw [e] <;> rfl
/-- the store's start: the tables, by the defs and what their lambdas are called -/
def tabS (K : PySem.W.Frag) (tf : List (Defn × Str)) : Sto := tf.map fun p => .tbl (cT K p.1).2 p.2
def lawFT (K : PySem.W.Frag) (tf : List (Defn × Str)) : Fn := fun rs S QR _ => ∃ ns : List Int, rs = [.s ns] ∧ S = tabS K tf ∧ ns.length ≤ 63 ∧ QR (.d (.bool true)) S
theorem law_spT {K : PySem.W.Frag} {tf : List (Defn × Str)} {H : Hp} {a : Addr} {ns : List Int} (hl : ns.length ≤ 63) (nd : (tf.map fun p => (cT K p.1).2).Nodup) (hH : ∀ p ∈ tf, H (cT K p.1).2 = some (.tbl #[])) (hS : SqL K H a (ns.map V.int)) : spF K 1 (lawFT K tf) [.ref a] H (fun v _ => v = .bl true) (fun _ _ _ => False) := by
  have h0 : StoreOk K (tf.map fun p => (cT K p.1).2) H (tabS K tf) := by
    refine ⟨nd, by unfold tabS; rw [List.length_map, List.length_map], fun n b w h1 h2 => ?_⟩
    unfold tabS at h2
    rw [List.getElem?_map] at h1 h2
    cases e : tf[n]? with
    | none => rw [e] at h1; cases h1
    | some p =>
      rw [e] at h1 h2
      cases h1
      cases h2
      refine ⟨rfl, #[], hH p (List.mem_of_getElem? e), trivial, fun pos cv hc => ?_⟩
      simp [codeAmong] at hc
  have hN : NdS K (tf.map fun p => (cT K p.1).2) H a (ns.map V.int) := by
    rcases hS with h | h
    · refine .inl ⟨h, fun z => ?_⟩
      obtain ⟨p, hp, e⟩ := List.mem_map.mp z
      have := hH p hp
      rw [e] at this
      rcases h with h | ⟨o, h⟩ <;> rw [h] at this <;> cases this
    · exact .inr h
  exact ⟨_, _, [.s ns], h0, .cons ⟨a, rfl, hN⟩ .nil, rfl, ns, rfl, rfl, hl, fun v M' H' _ _ hv => vr_bool hv⟩
/-- the text's facts, with the tables' -/
structure TxtT (fa : List Fk) (fn : List DefD) (tf : List (Defn × Str)) (K : PySem.W.Frag) (mg : Str → Option Value) : Prop where
  t : Txt fa fn K mg
  hd : ∀ p ∈ tf, PySem.W.codeHdIn K (cT K p.1).1 (cT K p.1).2 = true
/-- the end: from the law's def to the row -/
theorem walk_wT {l : PySem.W.OpenLaw} {fa : List Fk} {fn : List DefD} {tf : List (Defn × Str)} {nn k : Nat} {q : Program} {loose : List Str} {XP : (Str → Option Value) → Heap → Prop} {d : DefRec} {x : Str} (hn : l.most = some 63) (hdf : d.params.defaults = []) (hr : Room k callerA) (hd : d.name = "law")
    (h : ∀ (w : World) (K : PySem.W.Frag) (mg : Str → Option Value), Txt fa fn K mg → mg "law" = some (.ref (ga K "law")) ∧ ∃ fd : FuncData, (∀ (s : Shared) (u : Value), BindsTo s fd ⟨[u], []⟩ [(x, u)]) ∧ ∀ base : Heap, (∀ p ∈ tf, LamX.TabB base mg (cT K p.1).1 (cT K p.1).2) → FnOk l.prog w K mg base (L2.CX l.prog w) k (ga K "law") fd [x] (spF K 1 (lawFT K tf))) :
    PySem.W.WalkO q loose XP (hookTb nn fa fn (tf.map (·.1))).says l.row.toRowW d [] (fun f vs => PySem.call f vs) := by
  refine Att.attach_call hn hdf fun w s0 s1 mg mb f1 ob pm cd doc ad vs ns Gd Y ho hda hcd hmg hobj hins hlen hgn => ?_
  obtain ⟨K, KX, c⟩ := Y
  obtain ⟨hgl, fd, hb, hF⟩ := h w K mg ⟨c.c, _, KX, Gd.T.g⟩
  rw [hd, hgl] at hmg
  obtain rfl : ga K "law" = f1 := by injection hmg with hmg; injection hmg
  have mem : ∀ p ∈ tf.map fun p => cT K p.1, ∃ z ∈ tf, p = cT K z.1 := fun p hp => by
    obtain ⟨z, hz, e⟩ := List.mem_map.mp hp
    exact ⟨z, hz, e.symm⟩
  have inM : ∀ z ∈ tf, z.1 ∈ tf.map (·.1) := fun z hz => List.mem_map.mpr ⟨z, hz, rfl⟩
  refine LamX.law_callTs (cs := tf.map fun p => cT K p.1) KX Gd.T.g Gd.T.b Gd.T.builtins Gd.T.nolimit hgn (fun p hp => ?_) (fun p hp => ?_) (fun p hp => ?_) Gd.T.bmain hobj hins (Nat.le_trans hlen (by rw [sizeLine_eq]; omega)) hr
    (fun base _ _ hT => hF base fun p hp => hT _ (List.mem_map.mpr ⟨p, hp, rfl⟩)) hb (fun H hT hS => law_spT hlen ?_ (fun p hp => hT _ (List.mem_map.mpr ⟨p, hp, rfl⟩)) hS) fun H e s' hx => ?_
  · obtain ⟨z, hz, rfl⟩ := mem p hp
    exact c.empty _ (inM z hz)
  · obtain ⟨z, hz, rfl⟩ := mem p hp
    exact c.out _ (inM z hz)
  · obtain ⟨z, hz, rfl⟩ := mem p hp
    exact PySem.W.codeHd_of_K KX (c.hd _ (inM z hz))
  · have := c.nd
    rw [List.map_map] at this
    exact this
  · obtain ⟨_, _, _, _, _, _, _, _, _, _, _, _, z⟩ := hx
    exact z
section
variable {P : Program} {w : World} {K : PySem.W.Frag} {mg : Str → Option Value} {base : Heap} {x qual : Str} {params : Arguments} {body : List Stmt} {scope : Scope} {dvs : List V} {kws : List (Str × V)} {f : Addr} {fd : FuncData}
/-- THE RULE for a def that makes lambdas: its code object is known -/
theorem fn_wT {F : Fn} {N ps : List Str} {k : Nat} (Fd : FunD K x qual params body scope dvs kws f fd) (Sc : FnScope N ps scope) (p : Defn) (hf : fAd K p = f)
    (h : ∀ (cdv : Value) (A : Around) (outer : List Env) (s : Shared) (H : Hp) (E : XK) (rs : List It) (S : Sto) (QR : It → Sto → Prop) (QE : Addr → Sto → Prop), cdv = .ref (cT K p).1 → Cxo (cxF P w K mg base N qual scope f cdv A outer s H E) (wF E) k →
      ClS S → rs.length = ps.length → F rs S QR QE → WSs (cxF P w K mg base N qual scope f cdv A outer s H E) (wF E) body (startG N rs) S ⟨fun _ S' => Back S.length S' (.d .none) QR, fun r S' => Back S.length S' r QR, fun _ _ => False, fun _ _ => False, fun C _ S' => BackX S.length S' C QE⟩) :
    FnOk P w K mg base (L2.CX P w) (k + 1) f fd ps (spF K ps.length F) := by
  obtain ⟨oc, od, dV, kV, doc, pm, an, cdv, ct, osl, rfl, lk, hcd, _, _⟩ := Fd.ex
  obtain ⟨c, rfl⟩ := codeIn_ref hcd
  have hc : codeOf K p = c := codeOf_eq (by rw [hf]; exact lk) rfl
  refine fn_of lk hcd Sc (fun vs H Q E hs => ?_) (fun A outer s H vs Q E hr hs => ⟨sSs _ body, pss_s, ?_⟩)
  · obtain ⟨M, S, rs, h1, h2, h3, _⟩ := hs
    rw [h2.len, h3]
  · obtain ⟨M, S, rs, h1, h2, h3, hF⟩ := hs
    have giveR : ∀ {v : V} {M' : List Addr} {H' : Hp} {r : It} {S' : Sto}, Ext M H M' H' → StoreOk K M' H' S' → VRep K M' H' v r → Back S.length S' r (fun r S' => ∀ v M' H', Ext M H M' H' → StoreOk K M' H' S' → VRep K M' H' v r → Q v H') → Q v H' := by
      intro v M' H' r S' e s' hv hb
      obtain ⟨S1, L, r1, rfl, hn, hc, hr1, q⟩ := hb
      refine q v (M'.take S1.length) H' (e.take (by rw [h1.len]; exact hn)) (s'.take (hc s'.closed)) ?_
      rcases hr1 with ⟨rfl, hcl⟩ | ⟨z, rfl, hd⟩
      · exact hv.take hcl
      · exact Den.fz s' hd hv
    refine h (.ref c) A outer s H E rs S _ _ (by show _ = Value.ref (codeOf K p); rw [hc]) (cxo_of Sc hr) h1.closed h3 hF M (L2.start N vs) H _ (stt_start h1 N h2) ⟨fun M' σ' H' G' S' e t q => giveR (v := .non) (r := .d .none) e t.sto Fz.non q, fun v M' H' r S' e t hv q => giveR e t hv q, fun _ _ _ _ _ _ _ q => q.elim, fun _ _ _ _ _ _ _ q => q.elim, fun M' σ' H' G' C S' e t q => ?_⟩
    obtain ⟨S1, L, rfl, hn, hc, q⟩ := q
    exact q (M'.take S1.length) H' (e.take (by rw [h1.len]; exact hn)) (t.sto.take (hc t.sto.closed))
end
end Cu
/-! CvD: min of four whole numbers; zip of two lists of data, owned or not. -/
namespace PySem
open Sem (wp)
section
variable {prog : Program} {w : World} {A : Around} {E : Value → Shared → Prop} {s : Shared}
theorem F.args_min4 (a b c d : Value) : argsOk "min" ⟨[a, b, c, d], []⟩ := by unfold argsOk; kernel_rfl
theorem argBest_le (val : Nat → Int) : ∀ k, argBest (fun i j => decide (val i < val j)) k ≤ k ∧ ∀ i, i ≤ k → val (argBest (fun i j => decide (val i < val j)) k) ≤ val i
  | 0 => ⟨Nat.le_refl _, fun i hi => by rw [Nat.le_zero.mp hi]; exact Int.le_refl _⟩
  | k + 1 => by
    obtain ⟨h1, h2⟩ := argBest_le val k
    show (if decide (val (k + 1) < val (argBest (fun i j => decide (val i < val j)) k)) = true then k + 1 else argBest (fun i j => decide (val i < val j)) k) ≤ k + 1 ∧ ∀ i, i ≤ k + 1 → val (if decide (val (k + 1) < val (argBest (fun i j => decide (val i < val j)) k)) = true then k + 1 else argBest (fun i j => decide (val i < val j)) k) ≤ val i
    by_cases h : val (k + 1) < val (argBest (fun i j => decide (val i < val j)) k)
    · rw [if_pos (decide_eq_true h)]
      refine ⟨Nat.le_refl _, fun i hi => ?_⟩
      rcases Nat.lt_or_eq_of_le hi with q | q
      · have := h2 i (Nat.lt_succ_iff.mp q)
        omega
      · rw [q]; exact Int.le_refl _
    · rw [if_neg (fun z => h (of_decide_eq_true z))]
      refine ⟨Nat.le_succ_of_le h1, fun i hi => ?_⟩
      rcases Nat.lt_or_eq_of_le hi with q | q
      · exact h2 i (Nat.lt_succ_iff.mp q)
      · rw [q]; omega
theorem call_min_four {a b c d : Value} {Q : Value → Shared → Prop}
    (h : wpAny (model prog w) A.in1 (pyIter (.ref s.heap.objs.size)) (fun it s₂ => ∃ I fp wr n P St bt, it = .ref I ∧ Walks prog w A.in1 I fp wr n P St ∧ St 0 s₂.heap ∧ (∀ b ∈ fp, b < s₂.heap.objs.size) ∧ 0 < n ∧ CmpOf prog w A.in1 .Lt P bt ∧
      ∀ v h' tk, P (argBest bt (n - 1)) v → (∀ b o, b ∉ wr → s₂.heap.get? b = some o → h'.get? b = some o) → Q v { s₂ with heap := h', toks := tk }) E
      { s with heap := s.heap.push { cls := .type "tuple", data := .seq #[a, b, c, d] } }) :
    wpAny (model prog w) A (call (.builtin "min") [a, b, c, d]) Q E s := by
  have hname : (toString "min" ++ toString ".loop" : String) = "min.loop" := by decide
  refine call_function_tree F.kind_min F.plain_min F.entry_min (F.args_min4 _ _ _ _) ?_
  show wpAny _ A.in1 (Builtin.Builtins.bindParams "min" ["key", "default"] 0 ⟨[], []⟩ >>= _) _ _ s
  refine wpAny_bind (wpAny_of_eq (show Builtin.Builtins.bindParams "min" ["key", "default"] 0 ⟨[], []⟩ = pure [none, none] from rfl) ?_)
  show wpAny _ A.in1 (newTuple [a, b, c, d] >>= _) _ _ s
  refine wpAny_bind (wpAny_newObj_type ?_)
  refine wpAny_bind (wpAny_mono h (fun it s₂ h₂ => ?_) fun _ _ e => e)
  obtain ⟨I, fp, wr, n, P, St, bt, rfl, W, hst, hfp, hn, hcmp, hQ⟩ := h₂
  refine wpAny_bind (wpAny_newObj_type ?_)
  have hSf : s₂.heap.objs.size ∉ fp := fun hm => Nat.lt_irrefl _ (hfp _ hm)
  rw [hname]
  refine wpAny_pure ⟨plainId_quiet F.plain_min_loop _, codeAny_min_loop_first W bt hcmp s₂.heap.objs.size hSf hn (W.frame _ _ _ hst fun b _ o e => Heap.get?_push_of_some _ e) (Heap.get?_push_size _ rfl) fun v h' tk hP hk => ?_⟩
  exact hQ v h' tk hP fun b o hbw e => hk b o hbw (Nat.ne_of_lt (Heap.lt_size e)) (Heap.get?_push_of_some _ e)
theorem min_four_ints {a b c e : Int} {t u x y : Tok} {Q : Value → Shared → Prop} (hh : A.handled = none)
    (h : ∀ h' tk z, (∀ d o, s.heap.get? d = some o → h'.get? d = some o) → Q (.int (min (min a b) (min c e)) z) { s with heap := h', toks := tk }) :
    wpAny (model prog w) A (call (.builtin "min") [.int a t, .int b u, .int c x, .int e y]) Q E s := by
  have hT : (s.heap.push { cls := .type "tuple", data := .seq #[.int a t, .int b u, .int c x, .int e y] }).IsTuple s.heap.objs.size (intItems #[(a, t), (b, u), (c, x), (e, y)]) := ⟨_, Heap.get?_push_size _ rfl, rfl, 0, by simp [intItems]⟩
  refine call_min_four (wpAny_pyIter_tuple hT ?_)
  have hsz : (s.heap.push { cls := .type "tuple", data := .seq #[.int a t, .int b u, .int c x, .int e y] }).objs.size = s.heap.objs.size + 1 := Heap.size_push ..
  refine ⟨_, [_, s.heap.objs.size], [_], _, _, _, _, rfl, Walks.tuple (A := A.in1) hh _ s.heap.objs.size (by rw [hsz]; exact Nat.ne_of_lt (Nat.lt_succ_self _)) (intItems #[(a, t), (b, u), (c, x), (e, y)]),
    ⟨⟨_, Heap.get?_push_size _ rfl, rfl, rfl⟩, hT.push _⟩, fun d hd => ?_, by simp [intItems], CmpOf.ints_lt (numAt #[(a, t), (b, u), (c, x), (e, y)]) (fun _ _ => intItems_at), fun v h' tk hP hk => ?_⟩
  · show d < ((s.heap.push _).push _).objs.size
    rw [Heap.size_push, hsz]
    rcases List.mem_cons.mp hd with rfl | hd
    · rw [hsz]; exact Nat.lt_succ_self _
    · rcases List.mem_cons.mp hd with rfl | hd
      · exact Nat.lt_succ_of_lt (Nat.lt_succ_self _)
      · cases hd
  · have hold : ∀ d o, s.heap.get? d = some o → h'.get? d = some o := fun d o q => by
      refine hk d o (fun hm => ?_) (Heap.get?_push_of_some _ (Heap.get?_push_of_some _ q))
      rcases List.mem_cons.mp hm with e1 | hm
      · have := Heap.lt_size q; rw [e1, hsz] at this; exact Nat.lt_irrefl _ (Nat.lt_of_succ_lt this)
      · cases hm
    have hsz2 : (intItems #[(a, t), (b, u), (c, x), (e, y)]).size - 1 = 3 := by simp [intItems]
    rw [hsz2] at hP
    obtain ⟨h1, h2⟩ := argBest_le (numAt #[(a, t), (b, u), (c, x), (e, y)]) 3
    obtain ⟨z, rfl⟩ := intItems_at hP
    generalize argBest (fun i j => decide (numAt #[(a, t), (b, u), (c, x), (e, y)] i < numAt #[(a, t), (b, u), (c, x), (e, y)] j)) 3 = k at h1 h2 hP
    have n0 : numAt #[(a, t), (b, u), (c, x), (e, y)] 0 = a := by simp [numAt]
    have n1 : numAt #[(a, t), (b, u), (c, x), (e, y)] 1 = b := by simp [numAt]
    have n2 : numAt #[(a, t), (b, u), (c, x), (e, y)] 2 = c := by simp [numAt]
    have n3 : numAt #[(a, t), (b, u), (c, x), (e, y)] 3 = e := by simp [numAt]
    have m0 := h2 0 (by decide); have m1 := h2 1 (by decide); have m2 := h2 2 (by decide); have m3 := h2 3 (by decide)
    rw [n0] at m0; rw [n1] at m1; rw [n2] at m2; rw [n3] at m3
    have ek : numAt #[(a, t), (b, u), (c, x), (e, y)] k = min (min a b) (min c e) := by
      have : k = 0 ∨ k = 1 ∨ k = 2 ∨ k = 3 := by omega
      rcases this with rfl | rfl | rfl | rfl
      · rw [n0] at *; omega
      · rw [n1] at *; omega
      · rw [n2] at *; omega
      · rw [n3] at *; omega
    rw [ek]
    exact h h' tk z hold
end
end PySem
namespace L2
open PySem PySem.Spec PyProof.Rows
theorem vals4 {x y z w : V} {us : List Value} (r : Vals [x, y, z, w] us) : ∃ a b c d, us = [a, b, c, d] ∧ RelV x a ∧ RelV y b ∧ RelV z c ∧ RelV w d := by
  cases r with
  | cons r1 r => cases r with
    | cons r2 r => cases r with
      | cons r3 r => cases r with
        | cons r4 r => cases r; exact ⟨_, _, _, _, rfl, r1, r2, r3, r4⟩
theorem call_min4 {X : Cx} (hc : X.calm = true) : CallR X (.builtin "min") (fun xs H Q => ∃ i j k l, xs = [.int i, .int j, .int k, .int l] ∧ Q (.int (min (min i j) (min k l))) H) := by
  intro pins s σ H xs us Q I r h
  obtain ⟨i, j, k, l, rfl, q⟩ := h
  obtain ⟨_, _, _, _, rfl, ⟨t, rfl⟩, ⟨t', rfl⟩, ⟨t2, rfl⟩, ⟨t3, rfl⟩⟩ := vals4 r
  exact min_four_ints (I.ok.hd hc) fun h' tk z kp => ⟨.int (min (min i j) (min k l)), H, I.kept kp, ⟨_, rfl⟩, q⟩
end L2
namespace Cu
open PySem PySem.Spec PyProof.Rows L2
section
variable {X : Cx} {W : WX} {k : Nat} {G : Gam} {S S1 S2 S3 S4 : Sto} {a b d e : Expr} {m n i j : Int} {p pos pos' tpos : Pos} {ds ds' : List PyData} {r r' : It}
theorem vr4 {K : PySem.W.Frag} {M : List Addr} {H : Hp} {vs : List V} {r1 r2 r3 r4 : It} (h : VReps K M H vs [r1, r2, r3, r4]) : ∃ v1 v2 v3 v4, vs = [v1, v2, v3, v4] ∧ VRep K M H v1 r1 ∧ VRep K M H v2 r2 ∧ VRep K M H v3 r3 ∧ VRep K M H v4 r4 := by
  cases h with
  | cons q1 h => cases h with
    | cons q2 h => cases h with
      | cons q3 h => cases h with
        | cons q4 h => cases h; exact ⟨_, _, _, _, rfl, q1, q2, q3, q4⟩
/-- min(a, b, d, e) -/
theorem ev_min4 (c : Cxo X W k) (hm : X.mg "min" = none) (ha : Ev X a G S (.d (.int m)) S1) (hb : Ev X b G S1 (.d (.int n)) S2) (hd : Ev X d G S2 (.d (.int i)) S3) (he : Ev X e G S3 (.d (.int j)) S4) (hg : Gl X "min" := by rfl)
    (s1 : starEach [a, b, d, e] X.env = (false, eval a X.env) :: starEach [b, d, e] X.env := by rfl) (s2 : starEach [b, d, e] X.env = (false, eval b X.env) :: starEach [d, e] X.env := by rfl) (s3 : starEach [d, e] X.env = (false, eval d X.env) :: starEach [e] X.env := by rfl) (s4 : starEach [e] X.env = (false, eval e X.env) :: starEach [] X.env := by rfl)
    (hpl : (backTo pos (starEach [b, d, e] X.env)).any (·.1) = false := by rfl) : Ev X (.Call (.Name "min" p) [a, b, d, e] [] pos) G S (.d (.int (min (min m n) (min i j)))) S4 :=
  ev_blt (call_min4 c.calm) hm (by decide +kernel) (eva_cons ha (eva_cons hb (eva_cons hd (eva_cons he eva_nil s4) s3) s2) s1) (fun M H vs Q s hvs q => by
    obtain ⟨v1, v2, v3, v4, rfl, h1, h2, h3, h4⟩ := vr4 hvs
    rw [vr_int h1, vr_int h2, vr_int h3, vr_int h4]
    exact ⟨m, n, i, j, rfl, q _ M H Ext.refl s (Fz.int _)⟩) hg (by decide) (by decide) s1 hpl
/-- zip of an owned list of data that stays and a list of data -/
theorem evi_zipO {elts : List Expr} {kk z : Nat} {a1 a2 : Expr} (hm : X.mg "zip" = none) (h1 : Ev X a1 G S (.o z) S1) (h2 : Ev X a2 G S1 (.d (.list ds')) S2) (hz : S2[z]? = some (.lst (ds.map .d))) (hg : Gl X "zip" := by rfl) (hst : starEach [a1, a2] X.env = (false, eval a1 X.env) :: starEach [a2] X.env := by rfl)
    (hst2 : starEach [a2] X.env = (false, eval a2 X.env) :: starEach [] X.env := by rfl) (hpl : (backTo pos' (starEach [a2] X.env)).any (·.1) = false := by rfl) :
    EvI X (.Tuple elts kk tpos) (.Call (.Name "zip" p) [a1, a2] [] pos') G S ((ds.zip ds').map fun x => It.d (.tuple [x.1, x.2])) (fun S' => S'[z]? = some (.lst (ds.map .d))) S2 :=
  ⟨_, pi_zip hg hm pa_s hst hpl, fun M σ H R s q => (eva_cons h1 (eva_cons h2 eva_nil hst2) hst) M σ H _ s fun vs M1 H1 e1 t1 r1 => by
    obtain ⟨v, u, rfl, hv, hu⟩ := vr2 r1
    obtain ⟨ad, had, rfl⟩ := hv
    obtain ⟨vs0, hv0, hr0⟩ := t1.sto.rep z ad _ had hz
    have hu' : Fz M1 H1 u (.list ds') := hu
    cases hu' with
    | lst hL' hA' =>
      refine ⟨ad, _, vs0, _, rfl, .of hv0, hL'.sq, q M1 H1 _ e1 t1 ⟨fun i M' H' S' hi e s hC => ?_, fun i M' H' S' x H2 r hr e s hC y => ?_, fun i M' H' S' hi e s hC => ?_⟩⟩
      · obtain ⟨vs, hv, hr⟩ := s.rep z ad _ (e.get had) hC
        have l2 := fz_len hA'
        have hi' : i < min ds.length ds'.length := by simpa using hi
        have l1 := hr.len
        rw [List.length_map] at l1
        exact ⟨vs, _, vs[i]'(by omega), _, .of hv, (hL'.ext e).sq, List.getElem?_eq_getElem _, List.getElem?_eq_getElem (by omega)⟩
      · obtain ⟨vs, hv, hr'⟩ := s.rep z ad _ (e.get had) hC
        obtain ⟨T, u1, u2, rfl, hT, rfl, y, y'⟩ := y
        have hx := y vs (.of hv)
        have hx' := y' _ (hL'.ext e).sq
        obtain ⟨r1, g1, g2⟩ := reps_at hr' hx
        rw [List.getElem?_map] at g1
        cases ed : ds[i]? with
        | none => rw [ed] at g1; cases g1
        | some d =>
        rw [ed] at g1
        cases g1
        obtain ⟨d', h1', h2'⟩ := fz_at hA' hx'
        have ez : (ds.zip ds')[i]? = some (d, d') := by rw [List.getElem?_zip_eq_some]; exact ⟨ed, h1'⟩
        rw [List.getElem?_map, ez] at hr
        cases hr
        have e2 : Ext M' H' M' (upd H' T (.tup [u1, u2])) := Ext.fresh hT
        exact ⟨e2, s.fresh hT, Fz.tup ⟨upd_same, s.nin hT⟩ (.cons (Fz.ext e2 g2) (.cons (Fz.ext e2 (Fz.ext e h2')) .nil))⟩
      · obtain ⟨vs, hv, hr⟩ := s.rep z ad _ (e.get had) hC
        refine ⟨vs, _, .of hv, (hL'.ext e).sq, ?_⟩
        have l2 := fz_len hA'
        have hi' : min ds.length ds'.length ≤ i := by simpa using hi
        have l1 := hr.len
        rw [List.length_map] at l1
        omega⟩
end
end Cu
/-! CvG: x = [..], an owned list. -/
namespace Cu
open PySem PySem.Spec PyProof.Rows L2
section
variable {X : Cx} {W : WX} {k : Nat} {G : Gam} {S S2 : Sto} {P : Post} {elt tg iter : Expr} {ifs : List Expr} {scope : Scope} {own : List (Str × Nat)} {pos pos' apos : Pos}
/-- x = [..], an owned list -/
theorem ws_setLcO {l : Nat} (i : Nat) {n : Str} (c : Cxo X W k) (ok : BlkOk X.N X.env.scope scope own) (h : LcOwn X scope own elt tg iter ifs G S l S2) (q : P.nx (G.set i (some (.o l))) S2) (hy : X.N[i]? = some n := by rfl) (hyl : X.env.scope.names.lookup n = some .local := by rfl)
    (hsw : swapsWith (.ListComp elt [⟨tg, iter, ifs, 0⟩] scope pos) (some (.Name n pos')) apos.line X.env = pure true := by exact sw_true rfl rfl rfl (by decide +kernel)) (hf : ∀ x, foldedSetIterable iter X.env x = pure x := by intro _; rfl) : WS X W (.Assign [.Name n pos'] (.ListComp elt [⟨tg, iter, ifs, 0⟩] scope pos) apos) G S P := fun M σ H D s m => by
  obtain ⟨wi, g, hpi, hpg, h⟩ := h.ex
  exact toS (ps_setLc (i := i) c.calm c.nd hy hyl hsw hpi ok hpg pts_tTs pe_tEl hf) (h M σ H _ s fun v M1 H1 e1 t1 r1 => m.nx M1 _ H1 _ S2 e1 (t1.set r1) q)
end
end Cu
/-! CvH: a text times a number; a sign that is not in a text. -/
namespace Cu
open PySem PySem.Spec PyProof.Rows L2
/-- a text, so often -/
def repS (x : Str) (n : Nat) : Str := ⟨(List.replicate n x.cps).foldl (· ++ ·) #[]⟩
theorem rep_size (a : Array Nat) : ∀ (n : Nat) (b : Array Nat), ((List.replicate n a).foldl (· ++ ·) b).size = b.size + a.size * n
  | 0, b => by show b.size = _; omega
  | n + 1, b => by
    rw [List.replicate_succ, List.foldl_cons, rep_size a n, Array.size_append, Nat.mul_succ]
    omega
theorem repS_len (x : Str) (n : Nat) : (repS x n).length = x.length * n := by
  show ((List.replicate n x.cps).foldl (· ++ ·) #[]).size = _
  rw [rep_size]
  show 0 + x.cps.size * n = x.cps.size * n
  omega
section
variable {X : Cx} {W : WX} {k : Nat} {G : Gam} {S S1 S2 : Sto} {a b e : Expr} {p pos : Pos} {x y : Str} {n : Int}
theorem op_mulS : OpR X (binaryOp .Mult) (fun x y H Q => ∃ (i : Str) (n : Int), x = .str i ∧ y = .int n ∧ 2 ≤ n ∧ n ≤ 1000 ∧ 0 < i.length ∧ i.length ≤ 1000 ∧ Q (.str (repS i n.toNat)) H) := by
  intro pins s σ H x y v u Q I rx ry h
  obtain ⟨i, n, rfl, rfl, h1, h2, h3, h4, q⟩ := h
  obtain ⟨t, rfl⟩ := rx
  obtain ⟨t', rfl⟩ := ry
  have e1 : (n == 1 || i.length == 0) = false := by
    rw [Bool.or_eq_false_iff]
    exact ⟨beq_eq_false_iff_ne.mpr (by omega), beq_eq_false_iff_ne.mpr (by omega)⟩
  have hm : i.length * n.toNat ≤ 1000 * 1000 := Nat.mul_le_mul h4 (by omega)
  refine PySem.P.mul_str (by rw [decide_eq_false (by omega), decide_eq_false (by omega)]; rfl) (fun _ _ => ?_) (fun _ _ => ?_) ?_
  · have hm2 : (i.length : Int) * n ≤ 1000 * 1000 := Int.mul_le_mul (by omega) h2 (by omega) (by decide)
    have : (i.length : Int) ≤ (2 ^ 63 - 1) / n := (Int.le_ediv_iff_mul_le (by omega)).mpr (by omega)
    omega
  · unfold Builtin.Str.tooLong
    exact decide_eq_false (by rw [sizeLine_eq]; omega)
  · rw [if_neg (by omega), e1, if_neg Bool.false_ne_true]
    refine ⟨?_, ⟨.str (repS i n.toNat), H, I.tok _, ⟨_, rfl⟩, q⟩⟩
    show (repS i n.toNat).length ≤ _
    rw [repS_len]
    first | (rw [sizeLine_eq]; omega) | omega
theorem ev_mulS (ha : Ev X a G S (.d (.str x)) S1) (hb : Ev X b G S1 (.d (.int n)) S2) (h1 : 2 ≤ n) (h2 : n ≤ 1000) (h3 : 0 < x.length) (h4 : x.length ≤ 1000) : Ev X (.BinOp a .Mult b pos) G S (.d (.str (repS x n.toNat))) S2 := ev_op op_mulS ha hb fun M H v u Q s hv hu q =>
  ⟨x, n, vr_str hv, vr_int hu, h1, h2, h3, h4, q _ M H Ext.refl s (Fz.str _)⟩
theorem evt_inSign {c : Nat} (ha : Ev X a G S (.d (.str ⟨#[c]⟩)) S1) (hb : Ev X b G S1 (.d (.str y)) S2) (hm : behindInMarks .In b = false := by rfl) : EvT X (.Compare a [.In] [b] pos) G S (decide (c ∈ y.cps.toList)) S2 := evt_cmp op_in_sign ha hb (fun M H v u Q s hv hu q => ⟨c, y, vr_str hv, vr_str hu, q _ M H Ext.refl s (Fz.bl _)⟩) hm
theorem evt_notInSign {c : Nat} (ha : Ev X a G S (.d (.str ⟨#[c]⟩)) S1) (hb : Ev X b G S1 (.d (.str y)) S2) (hm : behindInMarks .NotIn b = false := by rfl) : EvT X (.Compare a [.NotIn] [b] pos) G S (!decide (c ∈ y.cps.toList)) S2 := evt_cmp op_notIn_sign ha hb (fun M H v u Q s hv hu q => ⟨c, y, vr_str hv, vr_str hu, q _ M H Ext.refl s (Fz.bl _)⟩) hm
end
end Cu
/-! CvI: a def called in an except suite, that raises nothing and loops nowhere; it may get the error. -/
namespace Cu
open PySem PySem.Spec PyProof.Rows L2
/-- such a def's promise; p: the error at hand -/
structure FnQ (P : Program) (w : World) (K : PySem.W.Frag) (mg : Str → Option Value) (base : Heap) (k : Nat) (f : Addr) (fd : FuncData) (ps : List Str) (sp : Addr × Obj → Sp) : Prop where
  many : ∀ p vs H Q E, sp p vs H Q E → vs.length = ps.length
  does : ∀ (A : Around) (outer : List Env) (s : Shared) (H : Hp) (args : Args) (us : List Value) (vs : List V) (Q : VK) (E : XK) (p : Addr × Obj), L2H.RoomH k A → L2H.PinOk outer H s p → Env0 P w K mg base A outer s H →
    BindsTo s fd args (ps.zip us) → L2.Vals vs us → sp p vs H Q E → codeAny (model P w) A (.call (.ref f) args) (CR (L2.CX P w) outer P w H s Q E) s
/-- the context of its body -/
abbrev cxQ (P : Program) (w : World) (K : PySem.W.Frag) (mg : Str → Option Value) (base : Heap) (N : List Str) (qual : Str) (scope : Scope) (f : Addr) (cdv : Value) (A : Around) (outer : List Env) (s : Shared) (H : Hp) (E : XK) (p : Addr × Obj) : Cx :=
  L2H.cxH (L2.CX P w) P w K mg base N qual scope f cdv A outer s H E p
section
variable {P : Program} {w : World} {K : PySem.W.Frag} {mg : Str → Option Value} {base : Heap} {x qual : Str} {params : Arguments} {body : List Stmt} {scope : Scope} {dvs : List V} {kws : List (Str × V)} {f : Addr} {fd : FuncData}
theorem fn_quiet {N ps : List Str} {k : Nat} {sp : Addr × Obj → Sp} (Fd : FunD K x qual params body scope dvs kws f fd) (Sc : FnScope N ps scope) (many : ∀ p vs H Q E, sp p vs H Q E → vs.length = ps.length)
    (hb : ∀ (cdv : Value) (A : Around) (outer : List Env) (s : Shared) (H : Hp) (vs : List V) (Q : VK) (E : XK) (p : Addr × Obj), L2H.RoomH k (A.deeper (envOfC qual scope s.heap.objs.size f cdv)) → sp p vs H Q E →
      sSs (cxQ P w K mg base N qual scope f cdv A outer s H E p) body { nx := fun _ H' => Q .non H', rt := Q } (L2.start N vs) H) : FnQ P w K mg base (k + 1) f fd ps sp := by
  obtain ⟨oc, od, dV, kV, doc, pm, an, cdv, ct, osl, rfl, lk, hcd, _, _⟩ := Fd.ex
  refine ⟨many, fun A outer s H args us vs Q E p hr hp e0 bt rv hs => ?_⟩
  have nm := many _ _ _ _ _ hs
  have inK : K.In s.heap := e0.mod.kin.keeps fun b o z => (e0.bs b o z).1
  refine codeAny_call_function hr.depth (inK _ _ lk) rfl Sc.co Sc.gen rfl (PySem.W.codeRec_of inK hcd) (bt _ _ _ _ (wpAny_newFunctionEnv_cells Sc.kind ?_ ?_))
  · rintro ⟨n, v⟩ hy
    rcases Sc.par n (List.of_mem_zip hy).1 with q | q
    · exact .inl q
    · exact .inr ⟨q, PySem.W.cellsFrom_some _ _ _ (.inl q)⟩
  · intro env he s1 z
    subst he
    refine ⟨(e0.mod.nolimit.keeps fun b o y => (e0.bs b o y).1).keeps z.toInCall.keep, codeAny_func ?_⟩
    refine wpAny_mono (hb cdv A outer s H vs Q E p (hr.deeper _) hs [] s1 (L2H.inv_startH Sc hp e0 nm rv z)) (fun fl t ht => ?_) fun _ _ y => y
    cases fl with
    | brk => obtain ⟨_, _, _, y⟩ := ht; exact y.elim
    | cont => obtain ⟨_, _, _, y⟩ := ht; exact y.elim
    | next =>
      obtain ⟨σ1, H1, J, y⟩ := ht
      exact ⟨.non, H1, J.os, J.bare, J.base, J.hok, rfl, y⟩
    | ret u =>
      obtain ⟨v1, σ1, H1, J, rr, y⟩ := ht
      exact ⟨v1, H1, J.os, J.bare, J.base, J.hok, rr, y⟩
/-- THE RULE for such a def -/
theorem fn_wQ {F : Addr × Obj → Fn} {N ps : List Str} {k : Nat} (Fd : FunD K x qual params body scope dvs kws f fd) (Sc : FnScope N ps scope)
    (h : ∀ (cdv : Value) (A : Around) (outer : List Env) (s : Shared) (H : Hp) (E : XK) (p : Addr × Obj) (rs : List It) (S : Sto) (QR : It → Sto → Prop), L2H.RoomH k (A.deeper (envOfC qual scope s.heap.objs.size f cdv)) →
      rs.length = ps.length → F p rs S QR (fun _ _ => False) → ClS S → WSs (cxQ P w K mg base N qual scope f cdv A outer s H E p) (fun _ _ _ _ => False) body (startG N rs) S ⟨fun _ S' => Back S.length S' (.d .none) QR, fun r S' => Back S.length S' r QR, fun _ _ => False, fun _ _ => False, fun _ _ _ => False⟩)
    (hq : ∀ p rs S QR QE, F p rs S QR QE → F p rs S QR fun _ _ => False) : FnQ P w K mg base (k + 1) f fd ps (fun p => spF K ps.length (F p)) := by
  refine fn_quiet Fd Sc (fun p vs H Q E hs => ?_) (fun cdv A outer s H vs Q E p hr hs => ?_)
  · obtain ⟨M, S, rs, _, h2, h3, _⟩ := hs
    rw [h2.len, h3]
  · obtain ⟨M, S, rs, h1, h2, h3, hF⟩ := hs
    have out : ∀ {v : V} {M' : List Addr} {H' : Hp} {r : It} {S' : Sto}, Ext M H M' H' → StoreOk K M' H' S' → VRep K M' H' v r → Back S.length S' r (fun r S' => ∀ v M' H', Ext M H M' H' → StoreOk K M' H' S' → VRep K M' H' v r → Q v H') → Q v H' := by
      intro v M' H' r S' e s' hv hb
      obtain ⟨S1, L, r1, rfl, hn, hc, hr1, q⟩ := hb
      refine q v (M'.take S1.length) H' (e.take (by rw [h1.len]; exact hn)) (s'.take (hc s'.closed)) ?_
      rcases hr1 with ⟨rfl, hcl⟩ | ⟨z, rfl, hd⟩
      · exact hv.take hcl
      · exact Den.fz s' hd hv
    exact h cdv A outer s H E p rs S _ hr h3 (hq _ _ _ _ _ hF) h1.closed M (L2.start N vs) H _ (stt_start h1 N h2) ⟨fun M' σ' H' G' S' e t q => out (v := .non) (r := .d .none) e t.sto Fz.non q, fun v M' H' r S' e t hv q => out e t hv q, fun _ _ _ _ _ _ _ q => q.elim, fun _ _ _ _ _ _ _ q => q.elim, fun _ _ _ _ _ _ _ _ q => q.elim⟩
/-- by its name -/
structure OkQ (P : Program) (w : World) (K : PySem.W.Frag) (mg : Str → Option Value) (base : Heap) (k : Nat) (x : Str) (ps : List Str) (F : Addr × Obj → Fn) : Prop where
  ex : ∃ (f : Addr) (fd : FuncData), mg x = some (.ref f) ∧ PySem.W.keepIn K (.ref f) = true ∧ Binds K fd ps [] ∧ FnQ P w K mg base k f fd ps (fun p => spF K ps.length (F p))
end
section
variable {X : Cx} {W : WX} {k j : Nat} {G : Gam} {S S1 S2 : Sto} {e a b o : Expr} {es : List Expr} {r : It} {rs : List It} {p pos apos cpos : Pos} {n : Str} {ps : List Str} {F : Addr × Obj → Fn}
/-- its call, in the suite -/
theorem ev_callQ {ad : Addr} {oe : Obj} {pn : List (Addr × Obj)} (c : Cxo X W k) (hf : ∃ vs, oe.data = .fields vs) (O : OkQ X.prog X.w X.K X.mg X.base j n ps F) (ha : EvA (suX X ad oe pn) (e :: es) G S rs S1)
    (hF : ∀ (QR : It → Sto → Prop) (QE : Addr → Sto → Prop), QR r S2 → F (ad, oe) rs S1 QR QE) (hj : j ≤ k := by decide) (hl : rs.length = ps.length := by rfl) (hg : Gl X n := by rfl) (hdb : (n == ("__debug__" : Str)) = false := by decide)
    (he : starEach (e :: es) X.env = (false, eval e X.env) :: starEach es X.env := by rfl) (hpl : (backTo pos (starEach es X.env)).any (·.1) = false := by rfl) : Ev (suX X ad oe pn) (.Call (.Name n p) (e :: es) [] pos) G S r S2 := fun M σ H Q s q pins s0 I => by
  obtain ⟨f, fd, hm, hk, hb, fq⟩ := O.ex
  refine wpAny_Call_Name_kw (ld_glob (X := suX X ad oe pn) I hg hm ?_ hdb)
  refine PySem.W.callWith_K (h₀ := X.base) I.ok.mod.kin hk ?_ he hpl
  refine thn ((pa_s (X := suX X ad oe pn) (es := e :: es)).run pos pins s0 σ H _ I (ha M σ H (fun vs H1 => ∃ M1, Ext M H M1 H1 ∧ Stt X.K M1 H1 S1 G σ ∧ VReps X.K M1 H1 vs rs) s fun vs M' H' e' s' r' => ⟨M', e', s', r'⟩)) fun us s1 ⟨vs, H1, I1, r1, M1, e1, t1, q1⟩ => ⟨I1.kIn, ?_⟩
  have hlen : vs.length = ps.length := by rw [q1.len, hl]
  have bt := hb s1 us I1.kIn (by rw [List.append_nil, ← r1.length]; exact hlen)
  rw [List.append_nil] at bt
  have pk := I1.pin (ad, oe) (List.mem_append_left _ List.mem_cons_self)
  have hp : L2H.PinOk X.stack H1 s1 (ad, oe) := ⟨pk.1, pk.2.1, fun hm => (List.mem_cons.mp (I1.stkSub _ hm)).elim pk.2.2.1 pk.2.2.2.1, pk.2.2.2.2⟩
  have hr : L2H.RoomH j (suX X ad oe pn).A := by
    have := L2H.roomH_of (c.hr.mono hj)
    exact ⟨this.dp, this.un⟩
  refine wpAny_call (codeAny_mono (fq.does _ X.stack s1 H1 ⟨us, []⟩ us vs (fun v H2 => Q v H2) (fun _ _ _ => False) (ad, oe) hr hp I1.env0 bt r1 ?_) fun u s2 hu => ?_)
  · exact ⟨M1, S1, rs, t1.sto, q1, hl, hF _ _ fun v M2 H2 e2 s2 hv => q v M2 H2 (e1.trans e2) (t1.mono e2 s2) hv⟩
  · cases u with
    | error z =>
      obtain ⟨_, _, _, _, _, _, _, _, _, _, _, _, y⟩ := (show L2.CX _ _ _ _ _ _ _ _ from hu)
      exact y.elim
    | ok fl =>
      cases fl with
      | ret u => exact I1.after hu
      | next => exact (show False from hu).elim
      | brk => exact (show False from hu).elim
      | cont => exact (show False from hu).elim
end
/-! ### in its body: isinstance of the error -/
section
variable {P : Program} {w : World} {K : PySem.W.Frag} {mg : Str → Option Value} {base : Heap} {N : List Str} {qual : Str} {scope : Scope} {f : Addr} {cdv : Value} {A : Around} {outer : List Env} {s0 : Shared} {H0 : Hp} {E : XK} {ad : Addr} {oe : Obj} {G : Gam} {S S1 S2 : Sto} {a b : Expr} {r : It} {p pos : Pos}
theorem call_isQ {D : Addr} (C : ExcC K D) (hz : Zc (.ref D) none oe) (hf : ∃ vs, oe.data = .fields vs) : CallR (cxQ P w K mg base N qual scope f cdv A outer s0 H0 E (ad, oe)) (.builtin "isinstance") (fun xs H Q => ∃ (c : V) (cv : Value) (b : Bool), xs = [.ref ad, c] ∧ (∀ u, RelV c u → u = cv) ∧ PySem.W.kitOne K (.ref D) cv = some b ∧ Q (.bl b) H) := by
  intro pins s σ H xs us Q I rx h
  obtain ⟨c, cv, b, rfl, hc, hk, q⟩ := h
  obtain ⟨u1, u2, rfl, r1, r2⟩ := vals2 rx
  cases (show u1 = Value.ref ad from r1)
  obtain rfl := hc u2 r2
  have hget := (I.pin (ad, oe) (List.mem_append.mpr (.inl List.mem_cons_self))).1
  obtain ⟨vs, hv⟩ := hf
  have J : PySem.W.InstAt s.heap ad oe D none := by
    obtain ⟨oc, od, oda, osl⟩ := oe
    obtain ⟨h1, h2⟩ := hz
    dsimp only at h1 h2 hv
    subst h1 h2 hv
    exact ⟨hget, rfl, rfl, trivial⟩
  exact PySem.W.kia_one (PySem.W.handS_kitx_exc C.hg C.hk C.hs C.hd C.ha C.hn C.ht C.hm) I.kIn J hk (fun z => nomatch z) fun tk => ⟨.bl b, H, I.kept (t' := tk) fun _ _ z => z, rfl, q⟩
/-- isinstance(e, c) -/
theorem ev_isQ {D : Addr} {cv : Value} {kk : Bool} (C : ExcC K D) (hz : Zc (.ref D) none oe) (hf : ∃ vs, oe.data = .fields vs) (hm : mg "isinstance" = none) (ha : Ev (cxQ P w K mg base N qual scope f cdv A outer s0 H0 E (ad, oe)) a G S (.r (.ref ad)) S1)
    (hb : Ev (cxQ P w K mg base N qual scope f cdv A outer s0 H0 E (ad, oe)) b G S1 r S2) (hr : clsVal r = some cv) (hk : PySem.W.kitOne K (.ref D) cv = some kk)
    (hg : Gl (cxQ P w K mg base N qual scope f cdv A outer s0 H0 E (ad, oe)) "isinstance" := by rfl) (he : starEach [a, b] (cxQ P w K mg base N qual scope f cdv A outer s0 H0 E (ad, oe)).env = (false, eval a (cxQ P w K mg base N qual scope f cdv A outer s0 H0 E (ad, oe)).env) :: starEach [b] (cxQ P w K mg base N qual scope f cdv A outer s0 H0 E (ad, oe)).env := by rfl)
    (he2 : starEach [b] (cxQ P w K mg base N qual scope f cdv A outer s0 H0 E (ad, oe)).env = (false, eval b (cxQ P w K mg base N qual scope f cdv A outer s0 H0 E (ad, oe)).env) :: starEach [] (cxQ P w K mg base N qual scope f cdv A outer s0 H0 E (ad, oe)).env := by rfl)
    (hpl : (backTo pos (starEach [b] (cxQ P w K mg base N qual scope f cdv A outer s0 H0 E (ad, oe)).env)).any (·.1) = false := by rfl) :
    Ev (cxQ P w K mg base N qual scope f cdv A outer s0 H0 E (ad, oe)) (.Call (.Name "isinstance" p) [a, b] [] pos) G S (.d (.bool kk)) S2 :=
  ev_blt (call_isQ C hz hf) hm (by decide +kernel) (eva_cons ha (eva_cons hb eva_nil he2) he) (fun M H vs Q s hv q => by
    obtain ⟨v, u, rfl, h1, h2⟩ := vr2 hv
    obtain rfl : v = .ref ad := h1
    refine ⟨u, cv, kk, rfl, fun z hz => ?_, hk, q _ M H Ext.refl s (Fz.bl _)⟩
    cases r with
    | r x =>
      obtain rfl : u = x := h2
      cases u <;> first | (cases hr; exact hz) | cases hr
    | _ => cases hr) hg (by decide) (by decide) he hpl
end
/-! ### how often a truth is in a list of truths, and where -/
def eqB (k : Bool) : Value → Bool
  | .bool b => b == k
  | .int i _ => i == (if k then 1 else 0)
  | _ => false
theorem bools_of {bs : List Bool} {its : List Value} (h : L2.Vals (bs.map V.bl) its) : its = bs.map Value.bool := by
  induction bs generalizing its with
  | nil => cases h; rfl
  | cons b bs ih =>
    cases h with
    | cons h1 h2 => rw [List.map_cons, ih h2]; cases h1; rfl
section
variable {X : Cx} {G : Gam} {S S1 S2 : Sto} {o e : Expr} {r : It} {apos cpos : Pos}
theorem mt_countB : MtR X "list.count" (fun x xs H Q => ∃ (p : Addr) (bs : List Bool) (k : Bool), x = .ref p ∧ xs = [.bl k] ∧ SqL X.K H p (bs.map V.bl) ∧ Q (.int (bs.count k : Nat)) H) := by
  intro pins s σ H x xs v us Q I rx rxs h
  obtain ⟨p, bs, k, rfl, rfl, hs, q⟩ := h
  cases rx
  obtain ⟨u, rfl, ru⟩ := rxs.one
  cases ru
  obtain ⟨its, rv, ⟨⟨cls, dd, data, sl⟩, n, ho, hc, hdn, hd⟩, hlen⟩ := I.list hs
  simp only at hc hd
  subst hc hd
  have hb := bools_of rv
  have ec : its.toArray.toList.countP (eqB k) = bs.count k := by
    show its.countP (eqB k) = _
    rw [hb, List.countP_map]
    rfl
  refine call_meets PySem.F.slot_list_count ⟨_, ho, rfl⟩ PySem.F.entry_list_count (PySem.F.args_list_count_2 _ _)
    (SeqAt.list_countAt p its.toArray n dd sl (.bool k) (eqB k)) ⟨ho, fun y hy => ?_, ?_⟩
  · have hy : y ∈ its := by simpa using hy
    rw [hb] at hy
    obtain ⟨b, _, rfl⟩ := List.mem_map.mp hy
    exact eqAt_V (y := .bl b) (x := .bl k) rfl rfl rfl rfl
  · refine ⟨.int (bs.count k : Nat), H, I.tok _, ⟨s.toks, ?_⟩, q⟩
    show Value.int ((its.toArray.toList.countP (eqB k) : Nat) : Int) s.toks = _
    rw [ec]
/-- xs.count(k) -/
theorem ev_countB {i : Nat} {bs : List Bool} {k : Bool} (ho : Ev X o G S (.o i) S1) (hi : S1[i]? = some (.lst ((bs.map .bool).map .d))) (ha : Ev X e G S1 (.d (.bool k)) S1) (hbase : attributeBase o "count" X.env (eval o X.env) = eval o X.env := by rfl)
    (hfew : ((backTo cpos (starEach [e] X.env)).all (fun x => !x.1) && (backToKw cpos (keywordEach [] X.env)).all (fun x => x.1.isSome) && decide ([e].length + ([] : List Keyword).length + (if ([] : List Keyword).isEmpty then 0 else 1) < 30)) = true := by rfl)
    (hline : (apos.endLine == cpos.line) = true := by rfl) (hs : starEach [e] X.env = (false, eval e X.env) :: starEach [] X.env := by rfl) : Ev X (.Call (.Attribute o "count" apos) [e] [] cpos) G S (.d (.int (bs.count k : Nat))) S1 :=
  ev_bm PySem.F.plainAttrs_list PySem.F.slot_list_count PySem.F.type_list_count mt_countB ho (ty_own hi) (eva_cons ha eva_nil hs) (fun M H v vs Q s hv hvs q => by
    obtain ⟨u, rfl, hu⟩ := vr1 hvs
    obtain ⟨ad, xs, rfl, h3, h4⟩ := ls_rd s hv (ls_own hi)
    exact ⟨ad, bs, k, rfl, by rw [vr_bool hu], .inl (by rw [← fz_bools h4]; exact h3), q _ M H Ext.refl s (Fz.int _)⟩) hbase hfew hline hs rfl
/-- xs.index(k) -/
theorem ev_indexB {i j : Nat} {bs : List Bool} {k : Bool} (ho : Ev X o G S (.o i) S1) (hi : S1[i]? = some (.lst ((bs.map .bool).map .d))) (ha : Ev X e G S1 (.d (.bool k)) S1) (hj : bs[j]? = some k) (hno : ∀ m, m < j → bs[m]? ≠ some k) (hbase : attributeBase o "index" X.env (eval o X.env) = eval o X.env := by rfl)
    (hfew : ((backTo cpos (starEach [e] X.env)).all (fun x => !x.1) && (backToKw cpos (keywordEach [] X.env)).all (fun x => x.1.isSome) && decide ([e].length + ([] : List Keyword).length + (if ([] : List Keyword).isEmpty then 0 else 1) < 30)) = true := by rfl)
    (hline : (apos.endLine == cpos.line) = true := by rfl) (hs : starEach [e] X.env = (false, eval e X.env) :: starEach [] X.env := by rfl) : Ev X (.Call (.Attribute o "index" apos) [e] [] cpos) G S (.d (.int (j : Nat))) S1 :=
  ev_bm PySem.F.plainAttrs_list PySem.F.slot_list_index PySem.F.type_list_index mt_index ho (ty_own hi) (eva_cons ha eva_nil hs) (fun M H v vs Q s hv hvs q => by
    obtain ⟨u, rfl, hu⟩ := vr1 hvs
    obtain ⟨ad, xs, rfl, h3, h4⟩ := ls_rd s hv (ls_own hi)
    refine ⟨ad, bs.map V.bl, .bl k, j, .bl k, rfl, by rw [vr_bool hu], .inl (by rw [← fz_bools h4]; exact h3), rfl, ?_, by rw [List.getElem?_map, hj]; rfl, by show (k == k) = true; exact beq_self_eq_true k, fun m z' hm hz => ?_, q _ M H Ext.refl s (Fz.int _)⟩
    · rw [List.all_map]
      exact List.all_eq_true.mpr fun _ _ => rfl
    · rw [List.getElem?_map] at hz
      cases e : bs[m]? with
      | none => rw [e] at hz; cases hz
      | some b =>
        rw [e] at hz
        cases hz
        show (b == k) = false
        have := hno m hm
        rw [e] at this
        exact beq_eq_false_iff_ne.mpr fun z => this (by rw [z])) hbase hfew hline hs rfl
end
end Cu
/-! CwD: how often a text is in a list of texts; len of an owned tuple; x in what stands for a list. -/
namespace Cu
open PySem PySem.Spec PyProof.Rows L2
def eqTx (k : Str) : Value → Bool
  | .str x _ => decide (x = k)
  | _ => false
theorem txs_count {k : Str} : ∀ {ws : List Str} {its : List Value}, L2.Vals (ws.map V.str) its → its.countP (eqTx k) = ws.count k
  | [], _, h => by cases h; rfl
  | w :: ws, _, h => by
    cases h with
    | cons h1 h2 =>
      obtain ⟨t, rfl⟩ := h1
      rw [List.countP_cons, txs_count h2, List.count_cons]
      rfl
theorem txs_mem : ∀ {ws : List Str} {its : List Value}, L2.Vals (ws.map V.str) its → ∀ y ∈ its, ∃ x t, y = Value.str x t
  | [], _, h, y, hy => by cases h; cases hy
  | w :: ws, _, h, y, hy => by
    cases h with
    | cons h1 h2 =>
      obtain ⟨t, rfl⟩ := h1
      rcases List.mem_cons.mp hy with rfl | q
      · exact ⟨_, _, rfl⟩
      · exact txs_mem h2 y q
section
variable {X : Cx} {W : WX} {k j : Nat} {G G1 G2 : Gam} {S S1 S2 S3 : Sto} {P : Post} {e a b o : Expr} {es : List Expr} {r y z r' : It} {rs : List It} {pos p apos cpos : Pos} {ds : List PyData} {m n : Int}
theorem mt_countTx : MtR X "list.count" (fun x xs H Q => ∃ (p : Addr) (ws : List Str) (k : Str), x = .ref p ∧ xs = [.str k] ∧ SqL X.K H p (ws.map V.str) ∧ Q (.int (ws.count k : Nat)) H) := by
  intro pins s σ H x xs v us Q I rx rxs h
  obtain ⟨p, ws, k, rfl, rfl, hs, q⟩ := h
  cases rx
  obtain ⟨u, rfl, tk, rfl⟩ := rxs.one
  obtain ⟨its, rv, ⟨⟨cls, dd, data, sl⟩, n, ho, hc, hdn, hd⟩, hlen⟩ := I.list hs
  simp only at hc hd
  subst hc hd
  have hb := txs_count (k := k) rv
  refine call_meets PySem.F.slot_list_count ⟨_, ho, rfl⟩ PySem.F.entry_list_count (PySem.F.args_list_count_2 _ _)
    (SeqAt.list_countAt p its.toArray n dd sl (.str k tk) (eqTx k)) ⟨ho, fun y hy => ?_, ?_⟩
  · have hy : y ∈ its := by simpa using hy
    obtain ⟨x, t, rfl⟩ := txs_mem rv y hy
    have q := eqAt_V (A := X.A.in1) (s := s) (y := .str x) (x := .str k) (u := .str x t) (v := .str k tk) ⟨_, rfl⟩ ⟨_, rfl⟩ rfl rfl
    exact q
  · refine ⟨.int (ws.count k : Nat), H, I.tok _, ⟨s.toks, ?_⟩, q⟩
    show Value.int ((its.toArray.toList.countP (eqTx k) : Nat) : Int) s.toks = _
    rw [show its.toArray.toList = its by simp, hb]
/-- xs.count(t) of texts -/
theorem ev_countTx {ws : List Str} {k : Str} (ho : Ev X o G S r S1) (hi : lsOf S2 r = some (ws.map .str)) (ha : Ev X e G S1 (.d (.str k)) S2) (hT : ∀ M H v, StoreOk X.K M H S1 → VRep X.K M H v r → tyV X.K "list" v H) (hbase : attributeBase o "count" X.env (eval o X.env) = eval o X.env := by rfl)
    (hfew : ((backTo cpos (starEach [e] X.env)).all (fun x => !x.1) && (backToKw cpos (keywordEach [] X.env)).all (fun x => x.1.isSome) && decide ([e].length + ([] : List Keyword).length + (if ([] : List Keyword).isEmpty then 0 else 1) < 30)) = true := by rfl)
    (hline : (apos.endLine == cpos.line) = true := by rfl) (hs : starEach [e] X.env = (false, eval e X.env) :: starEach [] X.env := by rfl) : Ev X (.Call (.Attribute o "count" apos) [e] [] cpos) G S (.d (.int (ws.count k : Nat))) S2 :=
  ev_bm PySem.F.plainAttrs_list PySem.F.slot_list_count PySem.F.type_list_count mt_countTx ho hT (eva_cons ha eva_nil hs) (fun M H v vs Q s hv hvs q => by
    obtain ⟨u, rfl, hu⟩ := vr1 hvs
    obtain ⟨ad, xs, rfl, h3, h4⟩ := ls_rd s hv hi
    exact ⟨ad, ws, k, rfl, by rw [vr_str hu], .inl (by rw [← fz_strs h4]; exact h3), q _ M H Ext.refl s (Fz.int _)⟩) hbase hfew hline hs rfl
theorem ty_dl {ds : List PyData} : ∀ M H v, StoreOk X.K M H S → VRep X.K M H v (.d (.list ds)) → tyV X.K "list" v H := fun M H v s h => by
  have h' : Fz M H v (.list ds) := h
  cases h' with
  | lst h1 h2 => exact .inl ⟨rfl, _, h1.sq⟩
/-- len of an owned tuple -/
theorem ev_lenTO {i : Nat} (hm : X.mg "len" = none) (ha : Ev X a G S (.o i) S1) (h : S1[i]? = some (.tup rs)) (hg : Gl X "len" := by rfl) (he : starEach [a] X.env = (false, eval a X.env) :: starEach [] X.env := by rfl) : Ev X (.Call (.Name "len" p) [a] [] pos) G S (.d (.int rs.length)) S1 := ev_blt call_len_seq hm PySem.boot_len (eva_cons ha eva_nil he) (fun M H vs Q s hvs q => by
  obtain ⟨v, rfl, hv⟩ := vr1 hvs
  obtain ⟨ad, had, rfl⟩ := hv
  obtain ⟨ws, h1, h2, _⟩ := s.rep i ad _ had h
  exact ⟨ad, ws, rfl, .inr (.inl (.inl h1)), by rw [h2.len]; exact q _ M H Ext.refl s (Fz.int _)⟩) hg (by decide) (by decide) he rfl
theorem evt_inDen {x : PyData} {n n' : Nat} (c : Cxo X W k) (ha : Ev X a G S r S1) (hb : Ev X b G S1 r' S2) (hr : Den n S2 r x) (hr' : Den n' S2 r' (.list ds)) (hx : SeqAt.shaped x = true) (hd : SeqAt.shaped (.list ds) = true) (hm : behindInMarks .In b = false := by rfl) : EvT X (.Compare a [.In] [b] pos) G S (ds.any fun z => PyData.eqv z x) S2 := evt_cmp (op_inD (by have := c.hr.un; omega)) ha hb (fun M H v u Q s hv hw q => ⟨x, ds, Den.dp s hr hv, Den.dp s hr' hw, hx, hd, q _ M H Ext.refl s (Fz.bl _)⟩) hm
end
end Cu
/-! CvJ: a slice of the script. -/
namespace Cu
open PySem PySem.Spec PyProof.Rows L2
theorem fz_intsL {M : List Addr} {H : Hp} : ∀ (ns : List Int), FzAll M H (ns.map V.int) (ns.map .int)
  | [] => .nil
  | n :: ns => .cons (.int n) (fz_intsL ns)
theorem cut_ints (ns : List Int) (a b : Option Int) : cutD (ns.map PyData.int) a b = (cutD ns a b).map .int := by
  unfold cutD
  rw [List.length_map, List.map_take, List.map_drop]
section
variable {X : Cx} {G : Gam} {S S1 : Sto} {a : Expr} {pos : Pos}
theorem ev_slSc {ns : List Int} {lo hi : Option Expr} {il ih : Option Int} {p2 : Pos} (ha : Ev X a G S (.s ns) S1) (hl : EvP X lo G S1 il) (hh : EvP X hi G S1 ih) : Ev X (.Subscript a (.Slice lo hi none p2) pos) G S (.d (.list ((cutD ns il ih).map .int))) S1 := fun M σ H Q s q =>
  toE (pe_slice sl_list pe_s po_tEP po_tEP) (ha M σ H _ s fun v M1 H1 e1 t1 r1 => hl.run t1 fun M2 H2 e2 t2 => hh.run t2 fun M3 H3 e3 t3 => by
    obtain ⟨ad, rfl, h1⟩ := (r1.ext e2).ext e3
    refine ⟨_, _, rfl, h1.sq, fun p hp => q _ M3 _ (((e1.trans e2).trans e3).trans (Ext.fresh hp)) (t3.fresh hp) (Fz.lst (xs := cutD (ns.map V.int) il ih) ⟨.inl upd_same, t3.sto.nin hp⟩ ?_)⟩
    rw [← cut_ints]
    exact FzAll.ext (Ext.fresh hp) (fz_cut (fz_intsL ns)))
end
end Cu
/-! CvK: name = [..], an element may raise. -/
namespace Cu
open PySem PySem.Spec PyProof.Rows L2
/-! ### what an error does to its state -/
theorem inv_put {X : Cx} {f : Value → Shared → Prop} {pins : List (Addr × Obj)} {σ : Sig} {H : Hp} {s : Shared} (I : Inv X pins σ H s) : Inv { X with xe := f } pins σ H s :=
  ⟨⟨I.ok.mod, I.ok.kind, I.ok.glob, I.ok.blt, I.ok.above, I.ok.inj, I.ok.has, I.ok.cab, I.ok.hd, I.ok.frames, I.ok.stk, I.ok.exf, I.ok.bs, I.ok.bsz, I.ok.noex, I.ok.exfs, I.ok.funs, I.ok.frf⟩, I.os, I.bare, I.base, I.loc, I.cell, I.free, I.freeC, I.pin, I.hok, I.len⟩
theorem inv_off {X : Cx} {f : Value → Shared → Prop} {pins : List (Addr × Obj)} {σ : Sig} {H : Hp} {s : Shared} (I : Inv { X with xe := f } pins σ H s) : Inv X pins σ H s :=
  ⟨⟨I.ok.mod, I.ok.kind, I.ok.glob, I.ok.blt, I.ok.above, I.ok.inj, I.ok.has, I.ok.cab, I.ok.hd, I.ok.frames, I.ok.stk, I.ok.exf, I.ok.bs, I.ok.bsz, I.ok.noex, I.ok.exfs, I.ok.funs, I.ok.frf⟩, I.os, I.bare, I.base, I.loc, I.cell, I.free, I.freeC, I.pin, I.hok, I.len⟩
/-- an error in the air, of whatever hand, is noted at the frame L -/
theorem sky_note {M : Model} {A : Around} {E : Value → Shared → Prop} {env : Env} {outer : List Env} {L C a : Addr} {Z : Obj → Prop} {B : Heap} {s : Shared} {Q : Unit → Shared → Prop} (hZ : HandSPX.Steady Z) (hfr : A.frames = some (env :: outer)) (hf : env.frame = some L) (hne : C ≠ L)
    (x : Sky B (env :: outer) a Z C s.heap) (hQ : ∀ h', HandSPX.HeldZ B (env :: outer) a Z L h' → s.heap.UpToSlots h' → Q () { s with heap := h' }) : wpAny M A (noteFrame (.ref a) env) Q E s := by
  rcases x with ⟨g0, g1, g2, ob, fs, g3, g4, g5, g6⟩ | fl | ⟨g0, g1, g2, ob, fs, tb, ot, us, g3, g4, g5, g6, g7, g8, g9, g10, g11⟩
  · exact HandSPX.look_newZ hZ hfr g2 hf g3 g0 g1 g5 g6 g4 hQ
  · exact HandSPX.looks_onZ hZ hfr hf fl hQ
  · unfold noteFrame
    simp only [hf]
    refine wpAny_bind (wpAny_field g3 g5 g6 ?_)
    rw [if_pos (show (Value.ref tb != Value.none) = true by simp)]
    refine wpAny_bind (wpAny_field g9 g10 g11 ?_)
    have hraw : ¬ ((rawInt (C : Int) == rawInt (L : Int)) = true) := by
      unfold rawInt
      simp
      intro e
      exact hne (by exact_mod_cast e)
    rw [if_neg hraw]
    refine wpAny_bind (wpAny_setField g9 g10 (Array.getElem?_eq_some_iff.mp g11).1 ?_)
    have oth : ∀ b, b ≠ tb → (s.heap.update tb (Obj.mapFields (·.setIfInBounds 3 Value.none))).get? b = s.heap.get? b := fun b hb => Heap.get?_update_other _ _ (Ne.symm hb)
    have nrec : ∀ b o, s.heap.get? b = some o → (∀ vs, o.data ≠ .fields vs) → b ≠ tb := fun b o e hn z => by
      rw [z, g9] at e
      injection e with e
      subst e
      exact hn us g10
    have fr2 := g2.of_keeps fun b o e hn => ⟨o, (oth b (nrec b o e hn)).trans e, rfl⟩
    have st2 : B.StaysIn (s.heap.update tb (Obj.mapFields (·.setIfInBounds 3 Value.none))) := fun b o e => (oth b fun z => by rw [z, g7] at e; cases e).trans (g0 b o e)
    refine HandSPX.wpAny_entryZ hZ hfr fr2 hf ((oth a (Ne.symm g8)).trans g3) st2 g1 g5 (Array.getElem?_eq_some_iff.mp g6).1 g4 fun h' hN => ?_
    exact hQ h' ⟨hN.1, g1, hN.2.1, hN.2.2.1⟩ fun b o e hn => hN.2.2.2 b o ((oth b (nrec b o e hn)).trans e) hn
/-- frames elsewhere do not see that C is another one -/
theorem frames_but {h h' base base' : Heap} {C : Addr} : ∀ {l : List Env}, h.FunFrames base l → (∀ b ∈ frs l, b ≠ C) → (∀ b, b ≠ C → h'.get? b = h.get? b) → (∀ b, base.get? b = none → base'.get? b = none) → h'.FunFrames base' l
  | [], _, _, _, _ => trivial
  | e :: l, ⟨h1, ⟨L, o, h2, h3, h4, h5⟩, h6⟩, hC, hk, hb => by
    have hL : L ∈ frs (e :: l) := List.mem_filterMap.mpr ⟨e, List.mem_cons_self, h2⟩
    refine ⟨h1, ⟨L, o, h2, hb L h3, (hk L (hC L hL)).trans h4, h5⟩, frames_but h6 (fun b hm => ?_) hk hb⟩
    obtain ⟨e', he, q⟩ := List.mem_filterMap.mp hm
    exact hC b (List.mem_filterMap.mpr ⟨e', List.mem_cons_of_mem _ he, q⟩)
/-- the block's context, an error wished for -/
abbrev blkE (X : Cx) (scope : Scope) (s0 : Shared) (H0 : Hp) (C : Addr) (cl : List (Str × Addr)) (fp : List Addr) (f : Value → Shared → Prop) : Cx := { blkX X scope s0 H0 C cl fp with xe := f }
/-- it comes out of the block -/
theorem block_out {X : Cx} {W : WX} {pins : List (Addr × Obj)} {σ : Sig} {H : Hp} {s : Shared} {scope : Scope} {cl : List (Str × Addr)} {fp : List Addr} {f : Value → Shared → Prop} {u : Value} {s' : Shared} {cenv : Env} {Qn : Value → Shared → Prop} {E1 : Value → Shared → Prop}
    (hs : X.stack = X.env :: X.outer) (hf : X.env.frame = some X.env.locals) (tk : Takes X W) (I : Inv X pins σ H s) (hfp : ∀ b ∈ fp, FpOk X pins H b) (hce : cenv.frame = X.env.frame)
    (x : XE (blkE X scope s H s.heap.objs.size cl fp f) (fun cls d _ H' => W cls d σ H') u s') :
    wpAny (model X.prog X.w) X.A (noteFrame u (compEnvC scope cl s.heap.objs.size X.env)) (fun _ s2 => ∃ m, s2.heap.Ns s.heap.objs.size m ∧ ∀ h', Heap.SameBut s.heap.objs.size s2.heap h' → wpAny (model X.prog X.w) X.A (PySem.passOn "comprehension.variables-let-go" u cenv : Sem Value) Qn X.xe { s2 with heap := h' }) E1 s' := by
  obtain ⟨a, B, sI, pins1, σ1, H1, cls, d, rfl, I6, nb, up, sky, na, os, ag, w⟩ := x
  have I6 := inv_off I6
  have hfr : X.A.frames = some (X.env :: X.outer) := by rw [I.ok.frames, hs]
  generalize hC : s.heap.objs.size = C at *
  have hCL : C ≠ X.env.locals := fun z => by
    have := I.lt
    rw [hC, ← z] at this
    exact Nat.lt_irrefl _ this
  have hCf : ∀ b ∈ frs (X.env :: X.outer), b ≠ C := fun b hb z => by
    rw [← hs] at hb
    obtain ⟨_, o, e, _⟩ := I.stack.mem hb
    have := Heap.lt_size e
    rw [hC, z] at this
    exact Nat.lt_irrefl _ this
  show wpAny _ _ (noteFrame (.ref a) X.env) _ _ _
  have sky : Sky B X.stack a (Zc cls d) C s'.heap := sky
  have nb : ∀ b o, sI.heap.get? b = some o → b ∉ frs X.stack → B.get? b = some o := nb
  rw [hs] at sky nb
  refine sky_note Zc.steady hfr hf hCL sky fun h1 hh up1 => ?_
  obtain ⟨m, hn, _⟩ := I6.loc
  have hn : sI.heap.Ns C m := hn
  have nC : H1 C = none := I6.free
  have n1 : h1.Ns C m := (up.trans up1).ns hn
  refine ⟨m, n1, fun h' sb => ?_⟩
  -- the def's own state
  have I7 : Inv X pins σ H1 sI := I.call' (ch := fp) I6.os I6.base I6.hok I6.bare fun b hb => ⟨(hfp b hb).2.2.2.1, (hfp b hb).2.1, (hfp b hb).2.2.2.2.1, (hfp b hb).2.2.2.2.2⟩
  obtain ⟨G, gg1, gg2⟩ := restrict sI.heap fun b => decide (b ≠ C)
  obtain ⟨B', bb1, bb2⟩ := restrict B fun b => decide (b ≠ C)
  obtain ⟨f0, f1, f2, f3, f4, f5⟩ := I.fpOk (Nat.le_of_eq hC) nC
  have I8 : Inv X pins σ H1 { sI with heap := G } := I7.turned (it := C) (t' := sI.toks) (fun b o hb e => (gg1 b (decide_eq_true hb)).trans e) f0 f1 f3 f4 f5
  have inG : ∀ b o, G.get? b = some o → b ≠ C ∧ sI.heap.get? b = some o := fun b o e => by
    by_cases hb : b = C
    · rw [gg2 b (decide_eq_false fun z => z hb)] at e; cases e
    · exact ⟨hb, (gg1 b (decide_eq_true hb)).symm.trans e⟩
  have inB : ∀ b o, B'.get? b = some o → b ≠ C ∧ B.get? b = some o := fun b o e => by
    by_cases hb : b = C
    · rw [bb2 b (decide_eq_false fun z => z hb)] at e; cases e
    · exact ⟨hb, (bb1 b (decide_eq_true hb)).symm.trans e⟩
  have noB : ∀ b, B.get? b = none → B'.get? b = none := fun b e => by
    cases q : B'.get? b with
    | none => rfl
    | some o => rw [(inB b o q).2] at e; cases e
  obtain ⟨k0, k1, k2, ob, vs, tb, ot, us, k3, k4, k5, k6, k7, k8, k9, k10, k11⟩ := hh
  have notC : ∀ {b o vs}, h1.get? b = some o → o.data = .fields vs → b ≠ C := fun {b o vs} e1 e2 z => by
    obtain ⟨o', es, ep, q1, q2, _⟩ := n1
    rw [z, q1] at e1
    injection e1 with e1
    rw [← e1, q2] at e2
    cases e2
  have hld : HandSPX.HeldZ B' (X.env :: X.outer) a (Zc cls d) X.env.locals h' :=
    ⟨fun b o e => (sb.2 b (inB b o e).1).trans (k0 b o (inB b o e).2), noB a k1, frames_but k2 hCf sb.2 noB,
      ob, vs, tb, ot, us, (sb.2 a (notC k3 k5)).trans k3, k4, k5, k6, noB tb k7, k8, (sb.2 tb (notC k9 k10)).trans k9, k10, k11⟩
  unfold PySem.passOn
  refine wpAny_bind (wpAny_field ((sb.2 a (notC k3 k5)).trans k3) k5 k6 ?_)
  rw [if_neg (show ¬ ((Value.ref tb == Value.none) = true) by simp)]
  rw [hce, hf]
  have fin : ∀ h2, HandSPX.HeldZ B' (X.env :: X.outer) a (Zc cls d) X.env.locals h2 → h'.UpToSlots h2 → wpAny (model X.prog X.w) X.A (throw (.ref a)) Qn X.xe ({ s' with heap := h2 } : Shared) := fun h2 hh2 up2 => by
    refine wpAny_throw (tk _ _ ⟨a, B', { sI with heap := G }, pins, σ, H1, cls, d, rfl, I8, fun b o e hb => ?_, ?_, .inr (.inr (by rw [hs]; exact hh2)), na, os, ag, w⟩)
    · obtain ⟨q1, q2⟩ := inG b o e
      rw [hs] at hb
      exact (bb1 b (decide_eq_true q1)).trans (nb b o q2 hb)
    · intro b o e hnf
      obtain ⟨q1, q2⟩ := inG b o e
      obtain ⟨sl, q3⟩ := (up.trans up1) b o q2 hnf
      obtain ⟨sl2, q4⟩ := up2 b _ ((sb.2 b q1).trans q3) hnf
      exact ⟨sl2, q4⟩
  exact wpAny_bind (HandSPX.setFlight_onZ hld fun h2 hh2 up2 => fin h2 hh2 up2)
/-! ### the comprehension -/
theorem clo_none {cells : List (Str × Addr)} : ∀ {names : List (Str × NameKind)} {acc : List (Str × Addr)}, (∀ y ∈ names, y.2 ≠ .free) → cloFrom cells names acc = acc
  | [], _, _ => rfl
  | (n, k) :: r, acc, h => by
    have hk : (k == NameKind.free) = false := beq_eq_false_iff_ne.mpr (h (n, k) List.mem_cons_self)
    show (if (k == NameKind.free) = true then _ else _) = _
    rw [hk, if_neg Bool.false_ne_true]
    exact clo_none fun y hy => h y (List.mem_cons_of_mem _ hy)
theorem rel_none {scope : Scope} {env : Env} (h : ∀ y ∈ scope.names, y.2 ≠ .free) : relabel scope env = scope := by
  have e : ∀ names : List (Str × NameKind), (∀ y ∈ names, y.2 ≠ .free) → (names.map fun (n, k) => if (k == NameKind.free && env.scope.kind == .function && env.kindOf n == some .cell) then (n, NameKind.cell) else (n, k)) = names := fun names => by
    induction names with
    | nil => exact fun _ => rfl
    | cons y r ih =>
      intro h
      obtain ⟨n, k⟩ := y
      have hk : (k == NameKind.free) = false := beq_eq_false_iff_ne.mpr (h (n, k) List.mem_cons_self)
      rw [List.map_cons, ih fun y hy => h y (List.mem_cons_of_mem _ hy)]
      simp [hk]
  unfold relabel
  rw [e _ h]
/-- the element, whatever the block's own error wish -/
def tElE (X : Cx) (W : WX) (σ0 : Sig) (scope : Scope) (elt : Expr) : TE := fun σ H Q => ∀ s0 H0 C cl fp f, Takes (blkE X scope s0 H0 C cl fp f) (fun cls d _ H' => W cls d σ0 H') → PassesOwn (model X.prog X.w) X.A (compEnvC scope cl C X.env) f → sE (blkE X scope s0 H0 C cl fp f) elt σ H Q
def tLcE (X : Cx) (W : WX) (scope : Scope) (elt : Expr) (wi : TI) (g : TG) (vs : List Nat) : TE := fun σ H Q => wi σ H fun J H1 => ∀ D, H1 D = none → ∃ Wt : Nat → Nat → Hp → Prop, (∃ m, Wt 0 m (upd H1 D (.lst []))) ∧ ∀ i m H, Wt i m H →
  (J.stop i H ∧ Q (.ref D) H) ∨ (J.go i H ∧ ∃ Nx : Hp → Prop, (∀ H', Nx H' → ∃ m', m' < m ∧ Wt (i + 1) m' H') ∧ ∀ x H', J.yld i H x H' → g x (wipe σ vs) H' fun σ2 H2 => wipe σ2 vs = wipe σ vs ∧
    tElE X W σ scope elt σ2 H2 fun y H4 => ∃ acc, H4 D = some (.lst acc) ∧ acc.length < sizeLine ∧ Nx (upd H4 D (.lst (acc ++ [y]))))
theorem ps_setLcE {X : Cx} {W : WX} {i : Nat} {y : Str} {py : Pos} {elt tg iter : Expr} {scope : Scope} {own : List (Str × Nat)} {pos spos : Pos} {wi : TI} {g : TG} (hc : X.calm = true) (hN : X.N.Nodup) (hst : X.stack = X.env :: X.outer) (hfr : X.env.frame = some X.env.locals) (tk : Takes X W)
    (hy : X.N[i]? = some y) (hyl : X.env.scope.names.lookup y = some .local) (hsw : swapsWith (.ListComp elt [⟨tg, iter, [], 0⟩] scope pos) (some (.Name y py)) spos.line X.env = pure true) (hi : PI X tg iter wi) (ok : BlkOk X.N X.env.scope scope own) (hfree : ∀ y ∈ scope.names, y.2 ≠ .free)
    (hg : ∀ (s : Shared) (H : Hp) (C : Addr) (cl : List (Str × Addr)) (fp : List Addr), PG (blkX X scope s H C cl fp) tg g) (hs : ∀ x, foldedSetIterable iter X.env x = pure x := by intro _; rfl) :
    PS X (.Assign [.Name y py] (.ListComp elt [⟨tg, iter, [], 0⟩] scope pos) spos) (fun D σ H => tLcE X W scope elt wi g (own.map (·.2)) σ H fun x H1 => gName i x σ H1 D.nx) := by
  refine ⟨fun pins s σ H Dn I h => ?_⟩
  rw [exec_Assign_Name_used _ _ _ _ hsw]
  refine wpAny_bind (wpAny_standAt (wpAny_bind ?_))
  show wpAny _ X.A (do let _ ← comprehension (.ListComp elt [⟨tg, iter, [], 0⟩] scope pos) scope X.env (firstIterPos [⟨tg, iter, [], 0⟩] pos) (newList []) false (eval iter X.env) (some (assign (.Name y py) X.env))) _ _ s
  have h : tLcE X W scope elt wi g (own.map (·.2)) σ H (fun x H1 => gName i x σ H1 Dn.nx) := h
  refine wpAny_bind (thn (Q := fun _ s' => SP X pins Dn .next s') ?_ fun _ s' hq => wpAny_pure (wpAny_pure hq))
  refine wpAny_comprehension_use (u := assign (.Name y py) X.env) rfl hs hfree ok.kind (fun y hy e => by rw [ok.uniq y hy, e]) (thn (hi.run pins s σ H _ I h) fun xv s1 hx => thn hx fun itv s2 h2 => ?_)
  obtain ⟨it, fp, tn, J, H2, e, I2, Tn, st2, f2, q⟩ := h2
  subst e
  refine wpAny_newObj_type (newEnv_comp ?_) (by show 0 ≤ sizeLine; decide)
  generalize hD : s2.heap.objs.size = D
  have hDn : H2 D = none := I2.hok.fresh (Nat.le_of_eq hD)
  obtain ⟨Wt, ⟨m0, w0⟩, turn⟩ := q D hDn
  generalize hs3 : ({ s2 with heap := s2.heap.push { cls := .type "list", data := .seq ([] : List Value).toArray } } : Shared) = s3
  have I3 : Inv X pins σ (upd H2 D (.lst [])) s3 := by
    rw [← hs3]
    exact I2.laid (t' := s2.toks) (fun b o e => Heap.get?_push_of_some _ e) (Nat.le_of_eq hD) ⟨Nat.zero_le _, [], 0, .nil, by rw [← hD]; exact Heap.get?_push_size _ rfl⟩
  have h3 : s3.heap = s2.heap.push { cls := .type "list", data := .seq ([] : List Value).toArray } := by rw [← hs3]
  have f3 : ∀ b ∈ fp, FpOk X pins (upd H2 D (.lst [])) b ∧ b < s3.heap.objs.size := fun b hb => by
    obtain ⟨o, eo, _⟩ := Tn.obj _ _ st2 b hb
    have hlt := Heap.lt_size eo
    exact ⟨⟨by rw [upd_ne (by rw [← hD]; exact Nat.ne_of_lt hlt)]; exact (f2 b hb).1, (f2 b hb).2⟩, by rw [h3, Heap.size_push]; exact Nat.lt_succ_of_lt hlt⟩
  have st3 : tn 0 s3.heap := Tn.keep _ _ _ st2 fun b _ o eo => by rw [h3]; exact Heap.get?_push_of_some _ eo
  have I4 := block_start I3 ok hN f3
  rw [clo_none hfree] at I4
  have hce : ({ newEnv scope s3.heap.objs.size X.env.globals (cellsFrom (s3.heap.objs.size + 1) scope.names []) X.env.qual none .none (some X.env) X.env.builtins with scope := scope } : Env) = compEnvC scope (cellsFrom (s3.heap.objs.size + 1) scope.names []) s3.heap.objs.size X.env := by
    unfold compEnvC
    rw [rel_none hfree]
    rfl
  have hcf : ({ newEnv scope s3.heap.objs.size X.env.globals (cellsFrom (s3.heap.objs.size + 1) scope.names []) X.env.qual none .none (some X.env) X.env.builtins with scope := scope } : Env).frame = X.env.frame := rfl
  show codeAny _ _ (.compStart (.ListComp elt [⟨tg, iter, [], 0⟩] scope pos) 0 (.ref it) (.ref D) { newEnv scope s3.heap.objs.size X.env.globals (cellsFrom (s3.heap.objs.size + 1) scope.names []) X.env.qual none .none (some X.env) X.env.builtins with scope := scope }) _ { s3 with heap := pushCells (s3.heap.push { cls := .type "dict", data := .dict #[] }) scope.names }
  have nfp : ∀ b ∈ fp, (upd H2 D (.lst [])) b = none := fun b hb => (f3 b hb).1.1
  generalize hce0 : ({ newEnv scope s3.heap.objs.size X.env.globals (cellsFrom (s3.heap.objs.size + 1) scope.names []) X.env.qual none .none (some X.env) X.env.builtins with scope := scope } : Env) = ce at hce hcf ⊢
  generalize hcl : cellsFrom (s3.heap.objs.size + 1) scope.names [] = cl at hce I4 ⊢
  subst hce
  generalize hH3 : upd H2 D (.lst []) = H3 at I3 I4 w0 nfp f3
  generalize hC : s3.heap.objs.size = C at I4 hcf ⊢
  generalize hs4 : ({ s3 with heap := pushCells (s3.heap.push { cls := .type "dict", data := .dict #[] }) scope.names } : Shared) = s4 at I4 ⊢
  have st4 : tn 0 s4.heap := Tn.keep _ _ _ st3 fun b _ o eo => by rw [← hs4]; exact pushCells_keeps _ _ _ _ (Heap.get?_push_of_some _ eo)
  have hpost : ∀ {u : Value} {s' : Shared} {f : Value → Shared → Prop}, XE (blkE X scope s3 H3 C cl fp f) (fun cls d _ H' => W cls d σ H') u s' →
      notedBy (model X.prog X.w) X.A (compEnvC scope cl C X.env) (fun x s' => ∃ m, s'.heap.Ns C m ∧ ∀ h', Heap.SameBut C s'.heap h' → wpAny (model X.prog X.w) X.A (PySem.passOn "comprehension.variables-let-go" x (compEnvC scope cl C X.env) : Sem Value) (fun _ s' => SP X pins Dn .next s') X.xe { s' with heap := h' }) u s' := fun {u s' f} x => by
    subst hC
    exact block_out (Qn := fun _ s' => SP X pins Dn .next s') (cenv := compEnvC scope cl s3.heap.objs.size X.env) hst hfr tk I3 (fun b hb => (f3 b hb).1) hcf x
  have pg := hg s3 H3 C cl fp
  have stat : ∀ {σ' : Sig} {H' : Hp} {s' : Shared}, Inv (blkX X scope s3 H3 C cl fp) [] σ' H' s' → (∀ b ∈ fp, H' b = none) → ∀ b ∈ fp, FpOk (blkX X scope s3 H3 C cl fp) [] H' b := fun {σ' H' s'} I' hn b hb =>
    ⟨hn b hb, (I'.ok.exf b hb).1, I'.ok.exfs b hb, .inl hb, fun x c eo => (I'.ok.exf b hb).2 x c eo, fun p hp => absurd (show p ∈ ([] : List (Addr × Obj)) ++ [] from hp) (by simp)⟩
  have nC0 : ∀ {σ' : Sig} {H' : Hp} {s' : Shared}, Inv (blkX X scope s3 H3 C cl fp) [] σ' H' s' → H' C = none := fun I' => I'.free
  suffices loop : codeAny (model X.prog X.w) X.A (.compLoop (.ListComp elt [⟨tg, iter, [], 0⟩] scope pos) 0 (.ref it) (.ref D) (compEnvC scope cl C X.env)) _ s4 from codeAny_compStart_list loop (Tn.self X.A 0 _ _ _ st4 loop)
  refine compLoop_any (fun n s' => ∃ i H', Inv (blkX X scope s3 H3 C cl fp) [] (wipe σ (own.map (·.2))) H' s' ∧ tn i s'.heap ∧ (∀ b ∈ fp, H' b = none) ∧ Wt i n H') ?_ m0 ⟨0, H3, I4, st4, nfp, w0⟩
  rintro n s5 ⟨j, H5, I5, st5, n5, w5⟩
  rcases turn j n H5 w5 with ⟨stop, qq⟩ | ⟨go, Nx, hNx, step⟩
  · refine thnF (Tn.done (blkX X scope s3 H3 C cl fp) rfl rfl rfl hc j [] s5 _ H5 (fun _ _ => False) I5 (stat I5 n5) st5 stop) fun r s6 hr6 => ?_
    obtain ⟨hr, I6⟩ := hr6
    subst hr
    have I7 : Inv X pins σ H5 s6 := I3.call' (ch := fp) I6.os I6.base I6.hok I6.bare fun b hb => ⟨(f3 b hb).1.2.2.2.1, (f3 b hb).1.2.1, (f3 b hb).1.2.2.2.2.1, (f3 b hb).1.2.2.2.2.2⟩
    obtain ⟨f0, f1, f2', f3', f4, f5⟩ := I3.fpOk (Nat.le_of_eq hC) (nC0 I6)
    obtain ⟨m, hn, _⟩ := I6.loc
    have hn : s6.heap.Ns C m := hn
    show wpAny _ _ (assign (.Name y py) X.env (.ref D)) _ _ _
    refine wpAny_assign_Name (store_ok2 (v := V.ref D) I7 hN hy (.inl hyl) rfl (fun s8 I8 hx8 => ?_) (.inr hyl))
    obtain ⟨a, sb, ha⟩ := hx8
    have haC : C ≠ a := by
      rcases ha with z | z
      · rw [z]; exact f1
      · exact fun eq => f4 y a z eq.symm
    refine ⟨m, hn.sameBut sb haC, fun h9 sb9 => ?_⟩
    exact ⟨_, H5, I8.turned (t' := s8.toks) (fun b o hb eo => (sb9.2 b hb).trans eo) f0 f1 f3' f4 f5, qq⟩
  · refine thnF (Tn.item (blkX X scope s3 H3 C cl fp) rfl rfl rfl hc j [] s5 _ H5 (fun _ _ => False) I5 (stat I5 n5) st5 go) fun r s6 hr6 => ?_
    obtain ⟨u, hr, h6⟩ := hr6
    subst hr
    refine thnF h6 fun _ s7 hx7 => ?_
    obtain ⟨x, H7, I7, r7, y7, st7, n7⟩ := hx7
    have I7' := I7.pinned (stat I7 n7) (Tn.obj _ _ st7)
    refine thnF (pg.run _ s7 _ H7 x u _ I7' r7 (step x H7 y7)) fun _ s8 hx8 => ?_
    obtain ⟨σ8, H8, I8, hw8, q8⟩ := hx8
    refine thnF ((pts_nil (X := blkX X scope s3 H3 C cl fp)).run _ s8 σ8 H8 (fun b Hb => b = true ∧ Hb = H8) I8 ⟨rfl, rfl⟩) fun b s9 hx9 => ?_
    obtain ⟨H9, I9, hb9, hH9⟩ := hx9
    subst hb9 hH9
    simp only [if_true]
    have q9 := q8 s3 H3 C cl fp _ (fun u s' x => hpost x) PassesOwn.looking _ s9 (inv_put I9)
    refine wpAny_mono q9 (fun z s10 hx10 => ?_) fun _ _ eo => eo
    obtain ⟨yv, H10, I10, r10, acc, hD10, hz10, nx⟩ := hx10
    refine app_ok (X := blkX X scope s3 H3 C cl fp) (inv_off I10) hD10 hz10 r10 fun s11 I11 => ?_
    obtain ⟨m', hm, w'⟩ := hNx _ nx
    have pin' : ∀ b ∈ fp, ∀ o, s7.heap.get? b = some o → s11.heap.get? b = some o ∧ (upd H10 D (.lst (acc ++ [yv]))) b = none := fun b hb o eo =>
      let z := I11.pin (b, o) (List.mem_append_right _ (List.mem_append_right _ (mem_pinsAt hb eo)))
      ⟨z.1, z.2.1⟩
    have hl : (wipe σ (own.map (·.2))).length = σ8.length := by rw [← hw8, wipe_length]
    refine ⟨m', hm, j + 1, _, (I11.unpinned (pins := [])).weak hl (fun k v eo => ?_), Tn.keep _ _ _ st7 fun b hb o eo => (pin' b hb o eo).1, fun b hb => ?_, w'⟩
    · rw [← hw8] at eo
      exact (wipe_some eo).1
    · obtain ⟨o, eo, _⟩ := Tn.obj _ _ st7 b hb
      exact (pin' b hb o eo).2
end Cu
/-! CvL: name = [..], an element may raise, over states told by data. -/
namespace Cu
open PySem PySem.Spec PyProof.Rows L2
theorem wipe_wipe : ∀ (vs us : List Nat) (σ : Sig), (∀ v ∈ us, v ∈ vs) → wipe (wipe σ us) vs = wipe σ vs := by
  intro vs us
  induction us with
  | nil => intro σ _; rfl
  | cons u r ih =>
    intro σ hm
    show wipe ((wipe σ r).set u none) vs = _
    rw [wipe_set _ (hm u List.mem_cons_self), ih σ fun v hv => hm v (List.mem_cons_of_mem _ hv)]
theorem dsOf_map : ∀ acc : List PyData, ds? (acc.map It.d) = some acc
  | [] => rfl
  | x :: r => by show (ds? (r.map It.d)).map (x :: ·) = _; rw [dsOf_map r]; rfl
section
variable {X : Cx} {W : WX} {k : Nat} {G : Gam} {S S1 : Sto} {P : Post} {elt tg iter : Expr} {scope : Scope} {own : List (Str × Nat)} {pos pos' apos : Pos} {rs : List It}
/-- name = [..]: every item gives by gg a datum, or an error of class C0 -/
theorem ws_setLcE {bind : It → Gam → Option Gam} {C : Sto → Prop} {C0 : Addr} (i : Nat) {n : Str} (c : Cxo X W k) (ok : BlkOk X.N X.env.scope scope own) (hi : EvI X tg iter G S rs C S1) (ht : TgOk X scope tg (own.map (·.2)) bind) (gg : It → Option PyData) (hC : ∀ L, C (S1 ++ L))
    (hs : ∀ r ∈ rs, ∃ G', bind r (wipeG G (own.map (·.2))) = some G' ∧ ∀ L s H Ca cl fp f W', Cxo (blkE X scope s H Ca cl fp f) W' k → EvX (blkE X scope s H Ca cl fp f) W' elt G' (S1 ++ L) (fun r' S' => S' = S1 ++ L ∧ ∃ y, gg r = some y ∧ r' = .d y) (fun Cx S' => S' = S1 ++ L ∧ Cx = C0 ∧ gg r = none))
    (hz : rs.length ≤ 1000000) (q : ∀ ys : List PyData, rs.map gg = ys.map some → P.nx (G.set i (some (.d (.list ys)))) S1) (qx : ∀ r ∈ rs, gg r = none → ∀ L, P.xc C0 G (S1 ++ L))
    (hst : X.stack = X.env :: X.outer := by rfl) (hfr : X.env.frame = some X.env.locals := by rfl) (hfree : ∀ y ∈ scope.names, y.2 ≠ .free := by decide)
    (hy : X.N[i]? = some n := by rfl) (hyl : X.env.scope.names.lookup n = some .local := by rfl)
    (hsw : swapsWith (.ListComp elt [⟨tg, iter, [], 0⟩] scope pos) (some (.Name n pos')) apos.line X.env = pure true := by exact sw_true rfl rfl rfl (by decide +kernel)) (hf : ∀ x, foldedSetIterable iter X.env x = pure x := by intro _; rfl) : WS X W (.Assign [.Name n pos'] (.ListComp elt [⟨tg, iter, [], 0⟩] scope pos) apos) G S P := fun M σ H D s m => by
  obtain ⟨g, hpg, hg⟩ := ht.ex
  obtain ⟨wi, hpi, hw⟩ := hi
  refine toS (ps_setLcE (i := i) c.calm c.nd hst hfr c.tk hy hyl hsw hpi ok hfree hpg hf) ?_
  refine hw M σ H _ s fun M1 H1 Jt e1 t1 wk => ?_
  intro Da hD
  have eD : Ext M1 H1 (M1 ++ [Da]) (upd H1 Da (.lst [])) := Ext.own hD
  have lenM : ∀ {M' : List Addr} {H' : Hp} {acc : List PyData}, StoreOk X.K M' H' (S1 ++ [Own.lst (acc.map .d)]) → Ext (M1 ++ [Da]) (upd H1 Da (.lst [])) M' H' → M' = M1 ++ [Da] := fun {M' H' acc} s' e' => by
    obtain ⟨L, eL⟩ := e'.pre
    have h1 := s'.len
    rw [eL, List.length_append, List.length_append, List.length_append, t1.sto.len] at h1
    have h2 : L.length = 0 := by
      have : [Da].length = 1 := rfl
      have : [Own.lst (acc.map .d)].length = 1 := rfl
      omega
    rw [eL, List.eq_nil_of_length_eq_zero h2, List.append_nil]
  have hDn : (M1 ++ [Da])[S1.length]? = some Da := by rw [← t1.sto.len, List.getElem?_append_right (Nat.le_refl _), Nat.sub_self]; rfl
  refine ⟨fun j m' H' => (m' = rs.length - j ∧ j ≤ rs.length) ∧ ∃ acc : List PyData, Ext (M1 ++ [Da]) (upd H1 Da (.lst [])) (M1 ++ [Da]) H' ∧ Stt X.K (M1 ++ [Da]) H' (S1 ++ [.lst (acc.map .d)]) G σ ∧ (rs.take j).map gg = acc.map some,
    ⟨_, ⟨rfl, Nat.zero_le _⟩, [], Ext.refl, t1.mono eD (t1.sto.own (w := .lst ([] : List It)) hD ⟨[], upd_same, .nil⟩), rfl⟩, fun j m' H' hw' => ?_⟩
  obtain ⟨⟨rfl, hj'⟩, acc, e', t', hJ⟩ := hw'
  have hacc : acc.length ≤ j := by
    have := congrArg List.length hJ
    rw [List.length_map, List.length_map, List.length_take] at this
    omega
  have cS := hC [.lst (acc.map .d)]
  by_cases hlt : j < rs.length
  · refine .inr ⟨wk.go j _ H' _ hlt (eD.trans e') t'.sto cS, fun H2 => ∃ acc : List PyData, Ext (M1 ++ [Da]) (upd H1 Da (.lst [])) (M1 ++ [Da]) H2 ∧ Stt X.K (M1 ++ [Da]) H2 (S1 ++ [.lst (acc.map .d)]) G σ ∧ (rs.take (j + 1)).map gg = acc.map some, fun H2 q => ⟨rs.length - (j + 1), by omega, ⟨rfl, by omega⟩, q⟩, fun x H2 y => ?_⟩
    have hri : rs[j]? = some rs[j] := List.getElem?_eq_getElem hlt
    have hmem : rs[j] ∈ rs := List.getElem_mem hlt
    obtain ⟨ey, sy, vy⟩ := wk.yl j _ H' _ x H2 _ hri (eD.trans e') t'.sto cS y
    have ty : Stt X.K (M1 ++ [Da]) H2 (S1 ++ [.lst (acc.map .d)]) G σ := t'.mono ey sy
    have e2 := e'.trans ey
    obtain ⟨G', hb, hE⟩ := hs _ hmem
    refine hg (M1 ++ [Da]) H2 (S1 ++ [.lst (acc.map .d)]) (wipeG G (own.map (·.2))) G' (wipe σ (own.map (·.2))) x rs[j] _ (ty.wipe _) vy hb ?_
    intro σ2 t2 w2
    refine ⟨w2.trans (wipe_wipe _ _ _ fun _ h => h), fun s0 H0 Ca cl fp f htk hpo => ?_⟩
    refine hE [.lst (acc.map .d)] s0 H0 Ca cl fp f (fun cls d _ H' => W cls d σ H') ⟨c.calm, c.nd, htk, hpo, c.hr⟩ (M1 ++ [Da]) σ2 H2 _ t2 (fun v4 M4 H4 r S' e4 t4 r4 hr => ?_) (fun M4 H4 Cx S' e4 t4 hx => ?_)
    · obtain ⟨rfl, z, hz2, rfl⟩ := hr
      obtain rfl : M4 = M1 ++ [Da] := lenM t4.sto (e2.trans e4)
      have hSn : (S1 ++ [Own.lst (acc.map .d)])[S1.length]? = some (.lst (acc.map .d)) := by rw [List.getElem?_append_right (Nat.le_refl _), Nat.sub_self]; rfl
      obtain ⟨vs4, hv4, hr4⟩ := t4.sto.rep _ _ _ hDn hSn
      have hl4 : vs4.length = acc.length := by rw [hr4.len, List.length_map]
      have e5 : Ext (M1 ++ [Da]) H4 (M1 ++ [Da]) (upd H4 Da (.lst (vs4 ++ [v4]))) := Ext.put (List.mem_of_getElem? hDn)
      have s5 := t4.sto.put (w := .lst ((acc ++ [z]).map .d)) hDn ⟨vs4 ++ [v4], upd_same, by
        rw [List.map_append]
        exact VReps.append (VReps.ext e5 hr4) (.cons (r4.ext e5) .nil)⟩
      have hset : (S1 ++ [Own.lst (acc.map It.d)]).set S1.length (.lst ((acc ++ [z]).map .d)) = S1 ++ [.lst ((acc ++ [z]).map .d)] := by
        rw [List.set_append_right _ _ (Nat.le_refl _), Nat.sub_self]
        rfl
      rw [hset] at s5
      refine ⟨vs4, hv4, ?_, acc ++ [z], (e2.trans e4).trans e5, ty.mono (e4.trans e5) s5, ?_⟩
      · rw [sizeLine_eq]
        omega
      · rw [List.take_add_one, hri, List.map_append, hJ, List.map_append]
        show _ ++ [gg rs[j]] = _
        rw [hz2]; rfl
    · obtain ⟨rfl, rfl, hn⟩ := hx
      exact m.xc M4 σ H4 G Cx _ (((e1.trans eD).trans e2).trans e4) (ty.mono e4 t4.sto) (qx _ hmem hn _)
  · have ej : j = rs.length := by omega
    subst ej
    refine .inl ⟨wk.st _ _ H' _ (Nat.le_refl _) (eD.trans e') t'.sto cS, ?_⟩
    rw [List.take_length] at hJ
    have hSn : (S1 ++ [Own.lst (acc.map .d)])[S1.length]? = some (.lst (acc.map .d)) := by rw [List.getElem?_append_right (Nat.le_refl _), Nat.sub_self]; rfl
    obtain ⟨vs4, hv4, hr4⟩ := t'.sto.rep _ _ _ hDn hSn
    have eT : (M1 ++ [Da]).take S1.length = M1 := by rw [← t1.sto.len]; exact List.take_left ..
    have s6 := t'.sto.take t1.sto.closed
    rw [eT] at s6
    have e6 : Ext M1 H1 M1 H' := by
      have := (eD.trans e').take (n := M1.length) (Nat.le_refl _)
      rwa [List.take_left] at this
    have t6 : Stt X.K M1 H' S1 G σ := t1.mono e6 s6
    have r6 : VRep X.K M1 H' (.ref Da) (.d (.list acc)) := Fz.lst ⟨.inl hv4, t1.sto.nin hD⟩ (FzAll.less (fun _ h => List.mem_append_left _ h) (fz_all (dsOf_map acc) hr4))
    exact m.nx M1 _ H' _ S1 (e1.trans e6) (t6.set r6) (q acc hJ)
end
end Cu
/-! CvM: errors that stand in no other's context; try whose suite raises. -/
namespace Cu
open PySem PySem.Spec PyProof.Rows L2
/-- the context of a def whose errors stand in no other's context -/
abbrev cxN (P : Program) (w : World) (K : PySem.W.Frag) (mg : Str → Option Value) (base : Heap) (N : List Str) (qual : Str) (scope : Scope) (f : Addr) (cdv : Value) (A : Around) (outer : List Env) (s : Shared) (H : Hp) (E : XK) : Cx := cxOf (L2N.CX P w) P w K mg base N qual scope f cdv A outer s H E
abbrev wNo : WX := fun _ _ _ _ => False
section
variable {P : Program} {w : World} {K : PySem.W.Frag} {mg : Str → Option Value} {base : Heap} {x qual : Str} {params : Arguments} {body : List Stmt} {scope : Scope} {dvs : List V} {kws : List (Str × V)} {f C : Addr} {fd : FuncData} {ps : List Str} {drs : List It} {F : Fn}
theorem fn_wN {N : List Str} {k : Nat} (Fd : FunD K x qual params body scope dvs kws f fd) (Sc : FnScope N ps scope)
    (h : ∀ (cdv : Value) (A : Around) (outer : List Env) (s : Shared) (H : Hp) (E : XK) (rs : List It) (S : Sto) (QR : It → Sto → Prop) (QE : Addr → Sto → Prop), Cxo (cxN P w K mg base N qual scope f cdv A outer s H E) wNo k → L2N.Takes (cxN P w K mg base N qual scope f cdv A outer s H E) (wF E) →
      ClS S → rs.length = ps.length → F rs S QR QE → WSs (cxN P w K mg base N qual scope f cdv A outer s H E) (wF E) body (startG N rs) S ⟨fun _ S' => Back S.length S' (.d .none) QR, fun r S' => Back S.length S' r QR, fun _ _ => False, fun _ _ => False, fun C _ S' => BackX S.length S' C QE⟩) :
    FnOk P w K mg base (L2N.CX P w) (k + 1) f fd ps (spF K ps.length F) := by
  refine Fd.ok Sc (fun vs H Q E hs => ?_) (fun cdv A outer s H vs Q E hr hs => ⟨sSs _ body, pss_s, ?_⟩)
  · obtain ⟨M, S, rs, h1, h2, h3, _⟩ := hs
    rw [h2.len, h3]
  · obtain ⟨M, S, rs, h1, h2, h3, hF⟩ := hs
    have out : ∀ {v : V} {M' : List Addr} {H' : Hp} {r : It} {S' : Sto}, Ext M H M' H' → StoreOk K M' H' S' → VRep K M' H' v r → Back S.length S' r (fun r S' => ∀ v M' H', Ext M H M' H' → StoreOk K M' H' S' → VRep K M' H' v r → Q v H') → Q v H' := by
      intro v M' H' r S' e s' hv hb
      obtain ⟨S1, L, r1, rfl, hn, hc, hr1, q⟩ := hb
      refine q v (M'.take S1.length) H' (e.take (by rw [h1.len]; exact hn)) (s'.take (hc s'.closed)) ?_
      rcases hr1 with ⟨rfl, hcl⟩ | ⟨z, rfl, hd⟩
      · exact hv.take hcl
      · exact Den.fz s' hd hv
    have cx : Cxo (cxN P w K mg base N qual scope f cdv A outer s H E) wNo k := ⟨rfl, Sc.nd, takes_none5, passes_of rfl, hr⟩
    refine h cdv A outer s H E rs S _ _ cx (L2N.takes_of rfl rfl rfl rfl) h1.closed h3 hF M (L2.start N vs) H _ (stt_start h1 N h2) ⟨fun M' σ' H' G' S' e t q => out (v := .non) (r := .d .none) e t.sto Fz.non q, fun v M' H' r S' e t hv q => out e t hv q, fun _ _ _ _ _ _ _ q => q.elim, fun _ _ _ _ _ _ _ q => q.elim, fun M' σ' H' G' C S' e t q => ?_⟩
    obtain ⟨S1, L, rfl, hn, hc, q⟩ := q
    exact q (M'.take S1.length) H' (e.take (by rw [h1.len]; exact hn)) (t.sto.take (hc t.sto.closed))
/-- a class whose __init__ raises such errors alone -/
structure OkCN (P : Program) (w : World) (K : PySem.W.Frag) (mg : Str → Option Value) (base : Heap) (k : Nat) (C : Addr) (x : Str) (ps : List Str) (drs : List It) (F : Fn) : Prop where
  ex : ∃ (f : Addr) (fd : FuncData) (dvs : List V) (ds : List Value), mg x = some (.ref C) ∧ Mk K C f ∧ Binds K fd ps ds ∧ L2.Vals dvs ds ∧ (∀ M H, VReps K M H dvs drs) ∧ FnOk P w K mg base (L2N.CX P w) k f fd ps (spF K ps.length F)
theorem okCN_ofD {y : Str} {k : Nat} (g : mg y = some (.ref C)) (m : Mk K C f) (hd : ∃ fd, FunD K x qual params body scope dvs [] f fd) (n j : Nat) (hne : dvs ≠ []) (hn : n + (dvs.length - j) = ps.length)
    (hb : ∀ (T : Addr) (kV doc pm : Value) (an : Option Addr) (cdv ct : Value) (us its : List Value), us.length = n → its.length = dvs.length →
      ∃ k, bindArgs (PySem.W.fnOf x qual params body scope (.ref T) kV doc pm an cdv ct) ⟨us, []⟩ = seqItems? (.ref T) >>= k ∧ k (some its.toArray) = pure (ps.zip (us ++ its.drop j)))
    (hr : ∀ M H, VReps K M H (dvs.drop j) drs)
    (h : ∀ fd, FunD K x qual params body scope dvs [] f fd → FnOk P w K mg base (L2N.CX P w) k f fd ps (spF K ps.length F)) : OkCN P w K mg base k C y ps drs F := by
  obtain ⟨fd, Fd⟩ := hd
  obtain ⟨ds, h1, h2⟩ := Fd.binds1 n j hne hn hb
  exact ⟨f, fd, dvs.drop j, ds, g, m, h2, h1, hr, h fd Fd⟩
end
section
variable {X : Cx} {W W0 : WX} {k j : Nat} {G G1 G2 : Gam} {S S1 S2 S3 : Sto} {P : Post} {e a b o iter tg elt : Expr} {es ifs : List Expr} {r y z : It} {rs drs : List It} {pos pos' pos2 p p2 apos np : Pos} {st : Stmt} {sts body suite : List Stmt} {ds : List PyData} {C : Addr} {n : Str} {ps : List Str} {F : Fn} {Qr : It → Sto → Prop} {Qx : Addr → Sto → Prop}
theorem ws_raiseN {x mtx : Str} {j : Nat} (c : Cxo X W0 k) (tk : L2N.Takes X W) (T : ExcF X.K X.mg x C) (q : P.xc C G S) (hg : Gl X x := by rfl) (hdb : (x == ("__debug__" : Str)) = false := by decide) : WS X W (.Raise (some (.Call (.Name x p) [.Constant (.str mtx) j p2] [] pos)) none pos2) G S P := fun M σ H D s m =>
  toS (L2N.ps_raise c.calm tk (L2N.pmk_own PySem.F.excBase_ValueError T.xC T.gC T.kC (raises_own T.bC T.tC) hg hdb)) (m.xc M σ H G C S Ext.refl s q)
/-- raise in an except suite -/
theorem ws_raiseH {x mtx : Str} {j : Nat} (hot : L2H.HotC X) (tk : L2.Takes X W) (T : ExcF X.K X.mg x C) (q : P.xc C G S) (hg : Gl X x := by rfl) (hdb : (x == ("__debug__" : Str)) = false := by decide) : WS X W (.Raise (some (.Call (.Name x p) [.Constant (.str mtx) j p2] [] pos)) none pos2) G S P := fun M σ H D s m =>
  toS (L2H.ps_raiseH hot tk (L2N.pmk_own PySem.F.excBase_ValueError T.xC T.gC T.kC (raises_own T.bC T.tC) hg hdb)) (m.xc M σ H G C S Ext.refl s q)
theorem evx_makeN (c : Cxo X W0 k) (tk : L2N.Takes X W) (O : OkCN X.prog X.w X.K X.mg X.base j C n ps drs F) (hj : j + 1 ≤ k) (ha : EvA X (e :: es) G S rs S1) (hl : (.o S1.length :: (rs ++ drs) : List It).length = ps.length)
    (hF : ∀ (QR : It → Sto → Prop) (QE : Addr → Sto → Prop), (∀ S', Qr (.o S1.length) S' → QR (.d .none) S') → (∀ C' S' S2 L, S' = S2 ++ L → S1.length ≤ S2.length → (ClS S' → ClS S2) → Qx C' S2 → QE C' S') → F (.o S1.length :: (rs ++ drs)) (S1 ++ [.ins C []]) QR QE)
    (hg : Gl X n := by rfl) (hdb : (n == ("__debug__" : Str)) = false := by decide)
    (he : starEach (e :: es) X.env = (false, eval e X.env) :: starEach es X.env := by rfl) (hpl : (backTo pos (starEach es X.env)).any (·.1) = false := by rfl) : EvX X W (.Call (.Name n p) (e :: es) [] pos) G S Qr Qx := fun M σ H Q s h1 h2 pins s0 I => by
  obtain ⟨f, fd, dvs, dus, hm, hk, hb, hd, rd, ok⟩ := O.ex
  refine wpAny_Call_Name_kw (ld_glob I hg hm ?_ hdb)
  refine PySem.W.callWith_K (h₀ := X.base) I.ok.mod.kin hk.kp ?_ he hpl
  refine thn ((pa_s (es := e :: es)).run pos pins s0 σ H _ I (ha M σ H (fun vs H1 => ∃ M1, Ext M H M1 H1 ∧ Stt X.K M1 H1 S1 G σ ∧ VReps X.K M1 H1 vs rs) s fun vs M' H' e' s' r' => ⟨M', e', s', r'⟩)) fun us s1 ⟨vs, H1, I1, r1, M1, e1, t1, q1⟩ => ⟨I1.kIn, ?_⟩
  refine run_makeAt (E := eAt W σ) hk ok (c.hr.mono hj) hb hd (fun pins' H' s' e s'' I' cx => L2N.passAt tk σ pins' H' s' e s'' I' cx) I1 r1 fun xa dx hxa hdx hne => ?_
  have hx' : (upd H1 dx (.own xa)) xa = none := by rw [upd_ne (Ne.symm hne)]; exact hxa
  have e2 : Ext M1 H1 M1 (upd H1 dx (.own xa)) := Ext.fresh hdx
  have e3 : Ext M1 (upd H1 dx (.own xa)) (M1 ++ [xa]) (upd (upd H1 dx (.own xa)) xa (.ins C dx [])) := Ext.own hx'
  have s3 : StoreOk X.K (M1 ++ [xa]) (upd (upd H1 dx (.own xa)) xa (.ins C dx [])) (S1 ++ [.ins C []]) := (t1.sto.fresh hdx).own hx' ⟨dx, [], upd_same, .nil⟩
  have hn : (M1 ++ [xa])[S1.length]? = some xa := by rw [← t1.sto.len, List.getElem?_append_right (Nat.le_refl _), Nat.sub_self]; rfl
  have q3 : VReps X.K (M1 ++ [xa]) (upd (upd H1 dx (.own xa)) xa (.ins C dx [])) (.ref xa :: vs) (.o S1.length :: rs) := .cons ⟨xa, hn, rfl⟩ (VReps.ext (e2.trans e3) q1)
  refine spF_of (Qr := fun r S' => r = .d .none ∧ Qr (.o S1.length) S') (Qx := fun C' S' => ∃ S2 L, S' = S2 ++ L ∧ S1.length ≤ S2.length ∧ (ClS S' → ClS S2) ∧ Qx C' S2) s3 q3 rd hl (fun QR QE k1 k2 => hF QR QE (fun S' q => k1 _ _ ⟨rfl, q⟩) fun C' S' S2 L h3 h4 h5 h6 => k2 _ _ ⟨S2, L, h3, h4, h5, h6⟩) (fun v M' H' r S' e4 s4 hv q => ?_) fun M' H' C' S' e4 s4 q => ?_
  · obtain ⟨hr0, q⟩ := q
    rw [hr0] at hv
    refine ⟨vr_none hv, h1 (.ref xa) M' H' (.o S1.length) S' (((e1.trans e2).trans e3).trans e4) (t1.mono ((e2.trans e3).trans e4) s4) ⟨xa, e4.get hn, rfl⟩ q⟩
  · obtain ⟨S2, L, rfl, hle, hcl, q⟩ := q
    have e5 : Ext M1 H1 (M'.take S2.length) H' := ((e2.trans e3).trans e4).take (by rw [t1.sto.len]; exact hle)
    exact h2 _ H' C' S2 (e1.trans e5) (t1.mono e5 (s4.take (hcl s4.closed))) q
/-- the context of a suite that may raise -/
abbrev suXX (X : Cx) (ad : Addr) (oe : Obj) (pn : List (Addr × Obj)) : Cx := L2H.suiteX X ad ((ad, oe) :: pn)
/-- try: .. except x: suite; the suite may raise -/
theorem ws_try_onlyX {x : Str} {c0 : Value} {b₀ : Stmt} (c : Cxo X W k) (hs : X.stack = X.env :: X.outer) (hf : X.env.frame = some X.env.locals) (hc : Names X x c0) (hpa : ∀ hd : Option Value, PassesOwnAt (model X.prog X.w) (X.A.mark hd) X.A X.env X.xe) (Qx : Addr → Gam → Sto → Prop)
    (hb : ∀ (W' : WX) (pn : List (Addr × Obj)) (xe : Value → Shared → Prop), Cxo (trX X pn xe) wNo k → L2N.Takes (trX X pn xe) W' → WSs (trX X pn xe) W' body G S { P with xc := Qx })
    (hsu : ∀ C G' S', Qx C G' S' → PySem.W.exmOne X.K (.ref C) c0 = some true ∧ ∀ (ad : Addr) (oe : Obj) (pn : List (Addr × Obj)), L2N.Zn (.ref C) none oe → (∃ vs, oe.data = .fields vs) → L2.Takes (suXX X ad oe pn) W → L2H.HotC (suXX X ad oe pn) →
      WSs (suXX X ad oe pn) W (b₀ :: suite) G' S' P) : WS X W (.Try body [.ExceptHandler (some (.Name x np)) none (b₀ :: suite) pos'] [] [] pos) G S P := fun M σ H D s m =>
  toS (L2H.ps_try_onlyX (tb := fun W' => fun D σ H => ∀ pn xe, L2N.Takes (X.tr pn xe) W' → PassesOwn (model X.prog X.w) X.A X.env xe → sSs (X.tr pn xe) body D σ H) (ts := fun ad cls d => fun D σ H => ∀ oe pn, L2N.Zn cls d oe → (∃ vs, oe.data = .fields vs) → L2.Takes (suXX X ad oe pn) W → L2H.HotC (suXX X ad oe pn) → sSs (suXX X ad oe pn) (b₀ :: suite) D σ H) hs hf hc hpa c.tk
    (fun W' pn xe tk _ po => ⟨fun pins s1 σ1 H1 D1 I1 h1 => h1 pn xe tk po pins s1 I1⟩) (fun ad oe cls d pn hz hd t2 h2 => ⟨fun pins s1 σ1 H1 D1 I1 h1 => h1 oe pn hz hd t2 h2 pins s1 I1⟩)) (by
    intro pn xe tk po
    refine hb _ pn xe ⟨c.calm, c.nd, takes_none5, po, c.hr⟩ tk M σ H D s ⟨m.nx, m.rt, m.bk, m.ct, fun M' σ' H' G' C S' e1 t1 q1 => ?_⟩
    obtain ⟨h1, h2⟩ := hsu C G' S' q1
    refine ⟨true, h1, fun _ ad had oe pn' hz hd tk2 hot => ?_, fun q => (nomatch q)⟩
    exact h2 ad oe pn' hz hd tk2 hot M' _ H' _ t1 (m.ext e1))
end
end Cu
/-! CvN: upper; join of owned texts; a dict written with four texts for keys. -/
namespace Cu
open PySem PySem.Spec PyProof.Rows L2
section
variable {X : Cx} {W : WX} {k j : Nat} {G : Gam} {S S1 S2 : Sto} {P : Post} {e a b o : Expr} {r : It} {pos apos cpos : Pos} {n : Nat}
theorem ev_upper {x : Str} (ho : Ev X o G S (.d (.str x)) S1) (hz : x.length ≤ 1000000) (hbase : attributeBase o "upper" X.env (eval o X.env) = eval o X.env := by rfl) (hline : (apos.endLine == pos.line) = true := by rfl) : Ev X (.Call (.Attribute o "upper" apos) [] [] pos) G S (.d (.str (Txt.upper x))) S1 := fun M σ H Q s q =>
  toE (pe_upper pe_s hbase hline) (ho M σ H _ s fun v M1 H1 e1 t1 r1 => by
    rw [vr_str r1]
    exact ⟨⟨x, rfl⟩, x, rfl, rfl, by omega, q _ M1 H1 e1 t1 (Fz.str _)⟩)
theorem ev_joinO {x : Str} {ys : List Str} (ho : Ev X o G S (.d (.str x)) S1) (ha : Ev X e G S1 (.o n) S2) (hn : S2[n]? = some (.lst ((ys.map PyData.str).map .d))) (hz : (ys.map (·.length)).sum + ys.length * x.length ≤ 16777216) (hbase : attributeBase o "join" X.env (eval o X.env) = eval o X.env := by rfl)
    (hfew : ((backTo cpos (starEach [e] X.env)).all (fun x => !x.1) && (backToKw cpos (keywordEach [] X.env)).all (fun x => x.1.isSome) && decide ([e].length + ([] : List Keyword).length + (if ([] : List Keyword).isEmpty then 0 else 1) < 30)) = true := by rfl)
    (hline : (apos.endLine == cpos.line) = true := by rfl) (hs : starEach [e] X.env = (false, eval e X.env) :: starEach [] X.env := by rfl) : Ev X (.Call (.Attribute o "join" apos) [e] [] cpos) G S (.d (.str (Txt.join x ys))) S2 :=
  ev_bm PySem.F.plainAttrs_str PySem.F.slot_str_join PySem.F.type_str_join mt_join ho ty_str (eva_cons ha eva_nil hs) (fun M H v vs Q s hv hvs q => by
    obtain ⟨u, rfl, hu⟩ := vr1 hvs
    obtain ⟨ad, h1, rfl⟩ := hu
    obtain ⟨us, h2, h3⟩ := s.rep _ ad _ h1 hn
    rw [vr_str hv]
    refine ⟨x, _, ys, rfl, rfl, .inl ?_, hz, q _ M H Ext.refl s (Fz.str _)⟩
    rw [← fz_strs (fz_all (dsOf_map _) h3)]
    exact .inl (.inl h2)) hbase hfew hline hs rfl
def kS (x : Str) : Key := .inr x
theorem ev_dispS4 {k1 k2 k3 k4 v1 v2 v3 v4 : Str} {i1 i2 i3 i4 j1 j2 j3 j4 : Nat} {p1 p2 p3 p4 q1 q2 q3 q4 : Pos} (hm : mergeK [] [(kS k1, V.str v1), (kS k2, V.str v2), (kS k3, V.str v3), (kS k4, V.str v4)] = [(kS k1, V.str v1), (kS k2, V.str v2), (kS k3, V.str v3), (kS k4, V.str v4)]) :
    Ev X (.Dict [some (.Constant (.str k1) i1 p1), some (.Constant (.str k2) i2 p2), some (.Constant (.str k3) i3 p3), some (.Constant (.str k4) i4 p4)] [.Constant (.str v1) j1 q1, .Constant (.str v2) j2 q2, .Constant (.str v3) j3 q3, .Constant (.str v4) j4 q4] pos) G S (.o S.length)
      (S ++ [.dK [(kS k1, .d (.str v1)), (kS k2, .d (.str v2)), (kS k3, .d (.str v3)), (kS k4, .d (.str v4))]]) := fun M σ H Q s q =>
  toE (pe_disp (pps_cons pe_str pe_str (pps_cons pe_str pe_str (pps_cons pe_str pe_str (pps_cons pe_str pe_str pps_nil)))) rfl rfl (by simp) (Nat.le_of_ble_eq_true rfl)) fun p hp => by
    have e2 : Ext M H (M ++ [p]) (upd H p (.dK [])) := Ext.own hp
    have s2 : StoreOk X.K (M ++ [p]) (upd H p (.dK [])) (S ++ [.dK []]) := s.sto.own hp ⟨[], upd_same, .nil⟩
    have hn : (M ++ [p])[S.length]? = some p := by rw [← s.sto.len, List.getElem?_append_right (Nat.le_refl _), Nat.sub_self]; rfl
    refine ⟨upd_same, [(kS k1, V.str v1), (kS k2, V.str v2), (kS k3, V.str v3), (kS k4, V.str v4)], rfl, Nat.le_of_ble_eq_true rfl, ?_⟩
    rw [hm]
    have e3 : Ext (M ++ [p]) (upd H p (.dK [])) (M ++ [p]) (upd (upd H p (.dK [])) p (.dK [(kS k1, V.str v1), (kS k2, V.str v2), (kS k3, V.str v3), (kS k4, V.str v4)])) := Ext.put (List.mem_of_getElem? hn)
    have fs : ∀ (k v : Str) {Mx : List Addr} {Hx : Hp}, (fun (p : Key × V) (q : Key × It) => p.1 = q.1 ∧ VRep X.K Mx Hx p.2 q.2) (kS k, V.str v) (kS k, .d (.str v)) := fun k v Mx Hx => ⟨rfl, Fz.str v⟩
    have s3 := s2.put (w := .dK [(kS k1, .d (.str v1)), (kS k2, .d (.str v2)), (kS k3, .d (.str v3)), (kS k4, .d (.str v4))]) hn ⟨[(kS k1, V.str v1), (kS k2, V.str v2), (kS k3, V.str v3), (kS k4, V.str v4)], upd_same, .cons (fs k1 v1) (.cons (fs k2 v2) (.cons (fs k3 v3) (.cons (fs k4 v4) .nil)))⟩
    rw [List.set_append_right _ _ (Nat.le_refl _), Nat.sub_self] at s3
    exact q _ _ _ (e2.trans e3) (s.mono (e2.trans e3) s3) ⟨p, hn, rfl⟩
theorem ev_dgetS {i : Nat} {x : Str} {kvs : List (Key × It)} (c : Cxo X W k) (ho : Ev X o G S (.o i) S1) (ha : Ev X a G S1 (.d (.str x)) S2) (hi : S2[i]? = some (.dK kvs)) (hv : valI kvs (kS x) = some r) (hs : NoSl a := by exact fun _ _ => rfl) : Ev X (.Subscript o a pos) G S r S2 := fun M σ H Q s q =>
  toE (pe_dget (u1 c) pe_s pe_s hs) (ho M σ H _ s fun v M1 H1 e1 s1 r1 => ha M1 σ H1 _ s1 fun u M2 H2 e2 s2 r2 => by
    obtain ⟨ad, h0, rfl⟩ := r1.ext e2
    obtain ⟨ps, h1, h2⟩ := s2.sto.rep _ ad _ h0 hi
    rw [vr_str r2]
    rcases prep_val (k := kS x) h2 with ⟨_, z⟩ | ⟨v, r', h3, h4, h5⟩
    · rw [z] at hv; cases hv
    · rw [h4] at hv
      cases hv
      refine ⟨ad, v, rfl, ?_, q _ M2 H2 (e1.trans e2) s2 h5⟩
      rw [← h3]
      exact DGet.k (k := kS x) h1)
end
end Cu
/-! CvO: a call whose one argument is told loosely; if a != b, a told loosely. -/
namespace Cu
open PySem PySem.Spec PyProof.Rows L2
section
variable {X : Cx} {W : WX} {k j : Nat} {G : Gam} {S : Sto} {P : Post} {e a b : Expr} {pos pos' p : Pos} {n : Str} {ps : List Str} {drs : List It} {F : Fn} {Q1 Qr : It → Sto → Prop} {Qx : Addr → Sto → Prop}
theorem evx_call1 (c : Cxo X W k) (O : OkF X.prog X.w X.K X.mg X.base j n ps drs F) (hj : j ≤ k) (ha : EvX X W e G S Q1 Qx)
    (hF : ∀ r S1, Q1 r S1 → ([r] ++ drs).length = ps.length ∧ ∀ (QR : It → Sto → Prop) (QE : Addr → Sto → Prop), (∀ r S', Qr r S' → QR r S') → (∀ C S', Qx C S' → QE C S') → F ([r] ++ drs) S1 QR QE) (hg : Gl X n := by rfl) (hdb : (n == ("__debug__" : Str)) = false := by decide)
    (he : starEach [e] X.env = (false, eval e X.env) :: starEach [] X.env := by rfl) (hpl : (backTo pos (starEach [] X.env)).any (·.1) = false := by rfl) : EvX X W (.Call (.Name n p) [e] [] pos) G S Qr Qx := fun M σ H Q s h1 h2 pins s0 I => by
  obtain ⟨f, fd, dvs, dus, hm, hk, hb, hd, rd, ok⟩ := O.ex
  refine wpAny_Call_Name_kw (ld_glob I hg hm ?_ hdb)
  refine PySem.W.callWith_K (h₀ := X.base) I.ok.mod.kin hk ?_ he hpl
  have arg : sA X [e] σ H (fun vs H1 => ∃ M1 r S1, Ext M H M1 H1 ∧ Stt X.K M1 H1 S1 G σ ∧ VReps X.K M1 H1 vs [r] ∧ Q1 r S1) :=
    toA (pa_cons pe_s pa_nil he) (ha M σ H _ s (fun v M' H' r S' e1 t1 r1 q1 => ⟨M', r, S', e1, t1, .cons r1 .nil, q1⟩) h2)
  refine thn ((pa_s (es := [e])).run pos pins s0 σ H _ I arg) fun us s1 ⟨vs, H1, I1, r1, M1, r, S1, e1, t1, q1, qq⟩ => ⟨I1.kIn, ?_⟩
  obtain ⟨hl, hF2⟩ := hF r S1 qq
  exact run_fnAt (E := eAt W σ) ok (c.hr.mono hj) hb hd (fun e s' cx => passAt c.tk σ pins H1 s1 e s' I1 cx) I1 r1 (spF_of t1.sto q1 rd hl hF2 (fun v M' H' r S' e2 s2 hv q => h1 v M' H' r S' (e1.trans e2) (t1.mono e2 s2) hv q) fun M' H' C S' e2 s2 q => h2 M' H' C S' (e1.trans e2) (t1.mono e2 s2) q)
/-- if a != b: texts -/
theorem ws_ifNeX {pp qq : List Stmt} (ha : EvX X W a G S Q1 Qx) (h : ∀ r S1, Q1 r S1 → ∃ (x y : Str) (S2 : Sto), r = .d (.str x) ∧ Ev X b G S1 (.d (.str y)) S2 ∧ (x ≠ y → WSs X W pp G S2 P) ∧ (x = y → WSs X W qq G S2 P)) (qx : ∀ C S', Qx C S' → P.xc C G S')
    (hm : behindInMarks .NotEq b = false := by first | exact nomark _ | rfl) : WS X W (.If (.Compare a [.NotEq] [b] pos') pp qq pos) G S P := fun M σ H D s m =>
  toS (ps_if pt_s pss_s pss_s) (toT (pt_cmpR op_ne pe_s pe_s hm) (ha M σ H _ s (fun v M1 H1 r S1 e1 s1 r1 q1 => by
    obtain ⟨x, y, S2, rfl, hb, k1, k2⟩ := h r S1 q1
    refine hb M1 σ H1 _ s1 fun u M2 H2 e2 s2 r2 => rw_neS (x := .str x) (y := .str y) (S := S2) rfl rfl rfl M2 H2 v u _ s2.sto (r1.ext e2) r2 fun w M3 H3 e3 s3 r3 => ⟨_, vr_bool r3, ?_⟩
    have t3 : Stt X.K M3 H3 S2 G σ := s2.mono e3 s3
    have m3 := m.ext ((e1.trans e2).trans e3)
    rw [eqS_str]
    by_cases e : x = y
    · rw [decide_eq_true e]
      exact iteF (k2 e M3 σ H3 D t3 m3)
    · rw [decide_eq_false e]
      exact iteT (k1 e M3 σ H3 D t3 m3)) fun M1 H1 C S' e1 t1 q1 => m.xc M1 σ H1 G C S' e1 t1 (qx C S' q1)))
end
end Cu
/-! CwE: arguments, tests whose parts are told loosely. -/
namespace Cu
open PySem PySem.Spec PyProof.Rows L2
/-- the arguments, told loosely -/
def EvAX (X : Cx) (W : WX) (es : List Expr) (G : Gam) (S : Sto) (Qa : List It → Sto → Prop) (Qx : Addr → Sto → Prop) : Prop := ∀ (M : List Addr) (σ : Sig) (H : Hp) (Q : List V → Hp → Prop), Stt X.K M H S G σ →
  (∀ vs M' H' rs S', Ext M H M' H' → Stt X.K M' H' S' G σ → VReps X.K M' H' vs rs → Qa rs S' → Q vs H') → (∀ M' H' C S', Ext M H M' H' → Stt X.K M' H' S' G σ → Qx C S' → W (.ref C) none σ H') → sA X es σ H Q
/-- a test, told loosely -/
def EvTX (X : Cx) (W : WX) (e : Expr) (G : Gam) (S : Sto) (Qb : Bool → Sto → Prop) (Qx : Addr → Sto → Prop) : Prop := ∀ (M : List Addr) (σ : Sig) (H : Hp) (Q : Bool → Hp → Prop), Stt X.K M H S G σ →
  (∀ b M' H' S', Ext M H M' H' → Stt X.K M' H' S' G σ → Qb b S' → Q b H') → (∀ M' H' C S', Ext M H M' H' → Stt X.K M' H' S' G σ → Qx C S' → W (.ref C) none σ H') → sT X e σ H Q
def EvWX (X : Cx) (W : WX) (e : Expr) (G : Gam) (S : Sto) (Qb : Bool → Sto → Prop) (Qx : Addr → Sto → Prop) : Prop := ∀ (M : List Addr) (σ : Sig) (H : Hp) (Q : Bool → Hp → Prop), Stt X.K M H S G σ →
  (∀ b M' H' S', Ext M H M' H' → Stt X.K M' H' S' G σ → Qb b S' → Q b H') → (∀ M' H' C S', Ext M H M' H' → Stt X.K M' H' S' G σ → Qx C S' → W (.ref C) none σ H') → sW X e σ H Q
section
variable {X : Cx} {W : WX} {k j : Nat} {G : Gam} {S S1 : Sto} {P : Post} {e a b : Expr} {es : List Expr} {r : It} {pos p : Pos} {n : Str} {ps : List Str} {drs : List It} {F : Fn} {Q1 Qr : It → Sto → Prop} {Qx : Addr → Sto → Prop} {Qa : List It → Sto → Prop} {Qb Qc : Bool → Sto → Prop} {c0 : Bool}
theorem evax_nil (h : Qa [] S) : EvAX X W [] G S Qa Qx := fun M σ H Q s h1 _ => toA pa_nil (h1 [] M H [] S Ext.refl s .nil h)
theorem evax_cons (h : EvX X W e G S Q1 Qx) (hs : ∀ r S1, Q1 r S1 → EvAX X W es G S1 (fun rs S2 => Qa (r :: rs) S2) Qx) (he : starEach (e :: es) X.env = (false, eval e X.env) :: starEach es X.env := by rfl) : EvAX X W (e :: es) G S Qa Qx := fun M σ H Q s h1 h2 =>
  toA (pa_cons pe_s pa_s he) (h M σ H _ s (fun v M1 H1 r S1 e1 t1 r1 q1 => hs r S1 q1 M1 σ H1 _ t1 (fun vs M2 H2 rs S2 e2 t2 r2 q2 => h1 (v :: vs) M2 H2 (r :: rs) S2 (e1.trans e2) t2 (.cons (r1.ext e2) r2) q2) fun M2 H2 C S2 e2 t2 q2 => h2 M2 H2 C S2 (e1.trans e2) t2 q2) h2)
/-- one argument exactly, the rest loosely -/
theorem evax_con (h : Ev X e G S r S1) (hs : EvAX X W es G S1 (fun rs S2 => Qa (r :: rs) S2) Qx) (he : starEach (e :: es) X.env = (false, eval e X.env) :: starEach es X.env := by rfl) : EvAX X W (e :: es) G S Qa Qx :=
  evax_cons (Ev.ex (Qr := fun r' S' => r' = r ∧ S' = S1) h ⟨rfl, rfl⟩) (fun _ _ ⟨h1, h2⟩ => by rw [h1, h2]; exact hs) he
theorem evx_callX (c : Cxo X W k) (O : OkF X.prog X.w X.K X.mg X.base j n ps drs F) (hj : j ≤ k) (ha : EvAX X W (e :: es) G S Qa Qx)
    (hF : ∀ rs S1, Qa rs S1 → (rs ++ drs).length = ps.length ∧ ∀ (QR : It → Sto → Prop) (QE : Addr → Sto → Prop), (∀ r S', Qr r S' → QR r S') → (∀ C S', Qx C S' → QE C S') → F (rs ++ drs) S1 QR QE) (hg : Gl X n := by rfl) (hdb : (n == ("__debug__" : Str)) = false := by decide)
    (he : starEach (e :: es) X.env = (false, eval e X.env) :: starEach es X.env := by rfl) (hpl : (backTo pos (starEach es X.env)).any (·.1) = false := by rfl) : EvX X W (.Call (.Name n p) (e :: es) [] pos) G S Qr Qx := fun M σ H Q s h1 h2 pins s0 I => by
  obtain ⟨f, fd, dvs, dus, hm, hk, hb, hd, rd, ok⟩ := O.ex
  refine wpAny_Call_Name_kw (ld_glob I hg hm ?_ hdb)
  refine PySem.W.callWith_K (h₀ := X.base) I.ok.mod.kin hk ?_ he hpl
  have arg : sA X (e :: es) σ H (fun vs H1 => ∃ M1 rs S1, Ext M H M1 H1 ∧ Stt X.K M1 H1 S1 G σ ∧ VReps X.K M1 H1 vs rs ∧ Qa rs S1) :=
    ha M σ H _ s (fun vs M' H' rs S' e1 t1 r1 q1 => ⟨M', rs, S', e1, t1, r1, q1⟩) h2
  refine thn ((pa_s (es := e :: es)).run pos pins s0 σ H _ I arg) fun us s1 ⟨vs, H1, I1, r1, M1, rs, S1, e1, t1, q1, qq⟩ => ⟨I1.kIn, ?_⟩
  obtain ⟨hl, hF2⟩ := hF rs S1 qq
  exact run_fnAt (E := eAt W σ) ok (c.hr.mono hj) hb hd (fun e s' cx => passAt c.tk σ pins H1 s1 e s' I1 cx) I1 r1 (spF_of t1.sto q1 rd hl hF2 (fun v M' H' r S' e2 s2 hv q => h1 v M' H' r S' (e1.trans e2) (t1.mono e2 s2) hv q) fun M' H' C S' e2 s2 q => h2 M' H' C S' (e1.trans e2) (t1.mono e2 s2) q)
/-! ### tests -/
theorem evtx_of (h : EvT X e G S c0 S1) (q : Qb c0 S1) : EvTX X W e G S Qb Qx := fun M σ H Q s h1 _ => h M σ H Q s fun M' H' e1 t1 => h1 _ M' H' S1 e1 t1 q
theorem evwx_of (h : EvW X e G S c0 S1) (q : Qb c0 S1) : EvWX X W e G S Qb Qx := fun M σ H Q s h1 _ => h M σ H Q s fun M' H' e1 t1 => h1 _ M' H' S1 e1 t1 q
theorem evtx_val (h : EvX X W e G S Q1 Qx) (hb : ∀ r S', Q1 r S' → ∃ b, r = .d (.bool b) ∧ Qb b S') (he : ∀ whole, isTrue e X.env whole = (do let v ← whole; standAt e.pos; holding [v] (truthy v)) := by intro _; rfl) : EvTX X W e G S Qb Qx := fun M σ H Q s h1 h2 =>
  toT (pt_val pe_s he) (h M σ H _ s (fun v M' H' r S' e1 t1 r1 q1 => by
    obtain ⟨b, rfl, q⟩ := hb r S' q1
    exact ⟨b, vr_bool r1, h1 b M' H' S' e1 t1 q⟩) h2)
theorem evtx_not (h : EvTX X W e G S Qc Qx) (hq : ∀ b S', Qc b S' → Qb (!b) S') : EvTX X W (.UnaryOp .Not e pos) G S Qb Qx := fun M σ H Q s h1 h2 =>
  toT (pt_not pt_s) (h M σ H _ s (fun b M' H' S' e1 t1 q => h1 _ M' H' S' e1 t1 (hq b S' q)) h2)
theorem evtx_w (h : EvWX X W e G S Qb Qx) : EvTX X W e G S Qb Qx := fun M σ H Q s h1 h2 => toT pw_s.pt (h M σ H _ s h1 h2)
theorem evwx_one {op : BoolOp} (h : EvTX X W a G S Qb Qx) (ho : op = .And ∨ op = .Or := by first | exact .inl rfl | exact .inr rfl) : EvWX X W (.BoolOp op [a] pos) G S Qb Qx := fun M σ H Q s h1 h2 => by
  rcases ho with rfl | rfl
  · exact toW (pw_and1 pt_s) (h M σ H _ s h1 h2)
  · exact toW (pw_or1 pt_s) (h M σ H _ s h1 h2)
theorem evwx_or (h : EvTX X W a G S Qc Qx) (ht : ∀ S', Qc true S' → Qb true S') (hf : ∀ S', Qc false S' → EvWX X W (.BoolOp .Or (b :: es) pos) G S' Qb Qx) : EvWX X W (.BoolOp .Or (a :: b :: es) pos) G S Qb Qx := fun M σ H Q s h1 h2 =>
  toW (pw_or pt_s pw_s) (h M σ H _ s (fun c M1 H1 S1 e1 t1 q => by
    cases c with
    | true => exact iteT (h1 true M1 H1 S1 e1 t1 (ht S1 q))
    | false => exact iteF (hf S1 q M1 σ H1 _ t1 (fun b M2 H2 S2 e2 t2 q2 => h1 b M2 H2 S2 (e1.trans e2) t2 q2) fun M2 H2 C S2 e2 t2 q2 => h2 M2 H2 C S2 (e1.trans e2) t2 q2)) h2)
theorem evwx_and (h : EvTX X W a G S Qc Qx) (hf : ∀ S', Qc false S' → Qb false S') (ht : ∀ S', Qc true S' → EvWX X W (.BoolOp .And (b :: es) pos) G S' Qb Qx) : EvWX X W (.BoolOp .And (a :: b :: es) pos) G S Qb Qx := fun M σ H Q s h1 h2 =>
  toW (pw_and pt_s pw_s) (h M σ H _ s (fun c M1 H1 S1 e1 t1 q => by
    cases c with
    | false => exact iteF (h1 false M1 H1 S1 e1 t1 (hf S1 q))
    | true => exact iteT (ht S1 q M1 σ H1 _ t1 (fun b M2 H2 S2 e2 t2 q2 => h1 b M2 H2 S2 (e1.trans e2) t2 q2) fun M2 H2 C S2 e2 t2 q2 => h2 M2 H2 C S2 (e1.trans e2) t2 q2)) h2)
theorem ws_ifX {pp qq : List Stmt} (h : EvTX X W e G S Qb Qx) (h1 : ∀ S1, Qb true S1 → WSs X W pp G S1 P) (h2 : ∀ S1, Qb false S1 → WSs X W qq G S1 P) (qx : ∀ C S', Qx C S' → P.xc C G S') : WS X W (.If e pp qq pos) G S P := fun M σ H D s m =>
  toS (ps_if pt_s pss_s pss_s) (h M σ H _ s (fun c M1 H1 S1 e1 t1 q => by
    cases c with
    | true => exact iteT (h1 S1 q M1 σ H1 D t1 (m.ext e1))
    | false => exact iteF (h2 S1 q M1 σ H1 D t1 (m.ext e1))) fun M1 H1 C S' e1 t1 q1 => m.xc M1 σ H1 G C S' e1 t1 (qx C S' q1))
end
end Cu
/-! CxD: comparisons and lengths of what is told loosely; truths compared. -/
namespace Cu
open PySem PySem.Spec PyProof.Rows L2
section
variable {X : Cx} {W : WX} {k : Nat} {G : Gam} {S S1 S2 : Sto} {a b : Expr} {r r' : It} {pos p : Pos} {Q1 Qr : It → Sto → Prop} {Qx : Addr → Sto → Prop} {Qb : Bool → Sto → Prop} {ds ds' : List PyData}
theorem evx_cmp {op : CmpOp} {rr : R2} (ho : OpR X (compareOp op) rr) (ha : EvX X W a G S Q1 Qx) (h : ∀ r S1, Q1 r S1 → ∃ y S2 z S3, Ev X b G S1 y S2 ∧ RW2 X rr r y S2 z S3 ∧ Qr z S3) (hm : behindInMarks op b = false := by first | exact nomark _ | rfl) : EvX X W (.Compare a [op] [b] pos) G S Qr Qx := fun M σ H Q s h1 h2 =>
  toE (pe_cmpR ho pe_s pe_s hm) (ha M σ H _ s (fun v M1 H1 r S1 e1 s1 r1 q1 => by
    obtain ⟨y, S2, z, S3, hb, hr, q⟩ := h r S1 q1
    exact hb M1 σ H1 _ s1 fun u M2 H2 e2 s2 r2 => hr M2 H2 v u _ s2.sto (r1.ext e2) r2 fun w M3 H3 e3 s3 r3 => h1 w M3 H3 z S3 ((e1.trans e2).trans e3) (s2.mono e3 s3) r3 q) h2)
theorem evtx_cmp {op : CmpOp} {rr : R2} (ho : OpR X (compareOp op) rr) (ha : EvX X W a G S Q1 Qx) (h : ∀ r S1, Q1 r S1 → ∃ y S2 c S3, Ev X b G S1 y S2 ∧ RW2 X rr r y S2 (.d (.bool c)) S3 ∧ Qb c S3) (hm : behindInMarks op b = false := by first | exact nomark _ | rfl) : EvTX X W (.Compare a [op] [b] pos) G S Qb Qx := fun M σ H Q s h1 h2 =>
  toT (pt_cmpR ho pe_s pe_s hm) (ha M σ H _ s (fun v M1 H1 r S1 e1 s1 r1 q1 => by
    obtain ⟨y, S2, z, S3, hb, hr, q⟩ := h r S1 q1
    exact hb M1 σ H1 _ s1 fun u M2 H2 e2 s2 r2 => hr M2 H2 v u _ s2.sto (r1.ext e2) r2 fun w M3 H3 e3 s3 r3 => ⟨_, vr_bool r3, h1 z M3 H3 S3 ((e1.trans e2).trans e3) (s2.mono e3 s3) q⟩) h2)
theorem rw_eqLs (hr : lsOf S r = some ds) (hr' : lsOf S r' = some ds') (hx : SeqAt.shaped (.list ds) = true) (hy : SeqAt.shaped (.list ds') = true) : RW2 X (rEqD X.K) r r' S (.d (.bool (PyData.eqv (.list ds) (.list ds')))) S := fun M H v u Q s hv hu q => by
  obtain ⟨ad, xs, rfl, h1, h2⟩ := ls_rd s hv hr
  obtain ⟨bd, ys, rfl, h3, h4⟩ := ls_rd s hu hr'
  exact ⟨_, _, dp_list h1 h2, dp_list h3 h4, hx, hy, q _ M H Ext.refl s (Fz.bl _)⟩
theorem rw_neLs (hr : lsOf S r = some ds) (hr' : lsOf S r' = some ds') (hx : SeqAt.shaped (.list ds) = true) (hy : SeqAt.shaped (.list ds') = true) : RW2 X (rNeD X.K) r r' S (.d (.bool (!PyData.eqv (.list ds) (.list ds')))) S := fun M H v u Q s hv hu q => by
  obtain ⟨ad, xs, rfl, h1, h2⟩ := ls_rd s hv hr
  obtain ⟨bd, ys, rfl, h3, h4⟩ := ls_rd s hu hr'
  exact ⟨_, _, dp_list h1 h2, dp_list h3 h4, hx, hy, q _ M H Ext.refl s (Fz.bl _)⟩
/-- len of what is told loosely -/
theorem evx_len (hm : X.mg "len" = none) (ha : EvX X W a G S Q1 Qx) (h : ∀ r S1, Q1 r S1 → ∃ l, lenOf S1 r = some l ∧ Qr (.d (.int (l : Nat))) S1) (hg : Gl X "len" := by rfl) (he : starEach [a] X.env = (false, eval a X.env) :: starEach [] X.env := by rfl) : EvX X W (.Call (.Name "len" p) [a] [] pos) G S Qr Qx :=
  evx_blt call_len_seq hm PySem.boot_len ha (fun r S' q => by
    obtain ⟨l, hl, q⟩ := h r S' q
    exact ⟨_, _, rw_len hl, q⟩) hg (by decide) (by decide) he
theorem ev_inD {x : PyData} (c : Cxo X W k) (ha : Ev X a G S (.d x) S1) (hb : Ev X b G S1 r S2) (hr : lsOf S2 r = some ds) (hx : SeqAt.shaped x = true) (hd : SeqAt.shaped (.list ds) = true) (hm : behindInMarks .In b = false := by rfl) : Ev X (.Compare a [.In] [b] pos) G S (.d (.bool (ds.any fun z => PyData.eqv z x))) S2 := ev_cmp (op_inD (by have := c.hr.un; omega)) ha hb (fun M H v u Q s hv hw q => by
  obtain ⟨ad, xs, rfl, h1, h2⟩ := ls_rd s hw hr
  exact ⟨x, ds, Fz.dp hv, dp_list h1 h2, hx, hd, q _ M H Ext.refl s (Fz.bl _)⟩) hm
theorem eqS_bool {x y : Bool} : eqS (.bool x) (.bool y) = (x == y) := by
  unfold eqS
  cases x <;> cases y <;> decide
theorem evt_neB {x y : Bool} (ha : Ev X a G S (.d (.bool x)) S1) (hb : Ev X b G S1 (.d (.bool y)) S2) : EvT X (.Compare a [.NotEq] [b] pos) G S (!(x == y)) S2 := by rw [← eqS_bool]; exact evt_cmp op_ne ha hb (rw_neS rfl rfl rfl)
theorem evt_eqB {x y : Bool} (ha : Ev X a G S (.d (.bool x)) S1) (hb : Ev X b G S1 (.d (.bool y)) S2) : EvT X (.Compare a [.Eq] [b] pos) G S (x == y) S2 := by rw [← eqS_bool]; exact evt_cmp op_eq ha hb (rw_eqS rfl rfl rfl)
theorem ev_eqB {x y : Bool} (ha : Ev X a G S (.d (.bool x)) S1) (hb : Ev X b G S1 (.d (.bool y)) S2) : Ev X (.Compare a [.Eq] [b] pos) G S (.d (.bool (x == y))) S2 := by rw [← eqS_bool]; exact ev_cmp op_eq ha hb (rw_eqS rfl rfl rfl)
end
end Cu
/-! CyK: a def within a def: its making. -/
namespace Cu
open PySem PySem.Spec PyProof.Rows L2 NdefX
/-- what the making of a nested def leaves of the heap's picture, ahead of the function itself -/
def NdHp (H : Hp) (P : Addr) (ps : Array Value) (pos : Pos) (q : Str) (c' : Addr) (H1 : Hp) : Prop :=
  (H1 = H ∧ codeAmong pos ps.toList = some (.ref c')) ∨ ∃ ps' : Array Value, H c' = none ∧ c' ≠ P ∧ H1 = upd (upd H P (.tbl ps')) c' (LamX.CodeO c' q) ∧ TriplesOk ps'.toList ∧ ∀ (p' : Pos) (cv : Value), codeAmong p' ps'.toList = some cv → codeAmong p' ps.toList = some cv ∨ (cv = .ref c' ∧ pos.line = p'.line ∧ pos.col = p'.col)
section
variable {X : Cx} {pins : List (Addr × Obj)} {σ : Sig} {H : Hp} {s : Shared}
theorem ndef_make3 {c P : Addr} {ps : Array Value} {nm : Nat → Nat → Str} {name : Str} {params : Arguments} {body : List Stmt} {scope : Scope} {pos : Pos} {E : Value → Shared → Prop} {Q : Value → Shared → Prop} (I : Inv X pins σ H s) (TB : LamX.TabB X.base X.mg c P) (hcode : X.env.code = .ref c) (hP : H P = some (.tbl ps)) (ht : TriplesOk ps.toList)
    (ha : ∀ (p' : Pos) (cv : Value), codeAmong p' ps.toList = some cv → ∃ c, cv = .ref c ∧ H c = some (LamX.CodeO c (nm p'.line p'.col))) (hn : nm pos.line pos.col = X.env.qual ++ name) (hfree : ∀ y ∈ scope.names, y.2 = .free → ∃ c, X.env.cells.lookup y.1 = some c)
    (h : ∀ (f c' : Addr) (H1 : Hp) (s' : Shared), NdHp H P ps pos (X.env.qual ++ name) c' H1 → H1 f = none → Inv X pins σ (upd H1 f (FnO f ⟨name, X.env.qual ++ name, params, body, scope, cloFrom X.env.cells scope.names [], c'⟩)) s' → Q (.ref f) s') :
    wpAny (model X.prog X.w) X.A (makeFunction name (X.env.qual ++ name) params (.stmts body) scope X.env [] [] [] pos pos.line) Q E s := by
  have b1 : s.heap.BuiltinsAt X.mg P := TB.bm.keeps I.bk
  have g1 := I.mod.glob.keeps I.bk
  have C1 := TB.code.keeps I.bk
  have hPs : s.heap.get? P = some { cls := .none, data := .fields ps } := I.hok P _ hP
  cases hit : codeAmong pos ps.toList with
  | some cv =>
    obtain ⟨c', rfl, hco⟩ := ha pos cv hit
    refine PySem.W.makeFunction_hit (mg := X.mg) (c := c) (P := P) (ps := ps) (closure_ok hfree) I.ok.glob g1 hcode C1 hPs ht hit b1 fun ctv doc h' tk hx hsz => ?_
    have I1 : Inv X pins σ H { s with heap := h', toks := tk } := I.kept hx
    exact h h'.objs.size c' H _ (.inl ⟨rfl, hit⟩) (I1.hok.fresh (Nat.le_refl _)) (inv_fn (t' := tk) (doc := doc) (pm := (X.mg "__name__").getD .none) (ctv := ctv) I1 rfl)
  | none =>
    refine PySem.W.makeFunction_K (mg := X.mg) (c := c) (P := P) (ps := ps) (closure_ok hfree) I.ok.glob g1 hcode C1 hPs ht hit TB.gP b1 fun c' ctv doc h' tk hx hge hlt rec tab => ?_
    obtain ⟨c2, oc, vs, tq, e2, r1, r2, r3⟩ := rec
    cases e2
    have nc : H c' = none := I.hok.fresh hge
    have ne1 : c' ≠ P := fun z => by rw [z, hP] at nc; cases nc
    have J := LamX.inv_table (t' := tk) (more := #[rawInt pos.line, rawInt pos.col, .ref c']) (q := X.env.qual ++ name) (h' := h') I hP (fun b o nb e => hx b o nb e) tab hge ⟨oc, vs, tq, r1, r2, r3⟩
    have app : (ps ++ #[rawInt pos.line, rawInt pos.col, .ref c']).toList = ps.toList ++ [rawInt pos.line, rawInt pos.col, .ref c'] := by simp
    refine h h'.objs.size c' _ _ (.inr ⟨_, nc, ne1, rfl, by rw [app]; exact PySem.TriplesOk_snoc _ _ _ _ ht, fun p2 cv hcv => ?_⟩) (J.hok.fresh (Nat.le_refl _)) (inv_fn (t' := tk) (doc := doc) (pm := (X.mg "__name__").getD .none) (ctv := ctv) J rfl)
    rw [app] at hcv
    exact among_app2 _ ht hcv
end
/-- the store behind it: the table grown, the function at its end -/
theorem stt_ndef {K : PySem.W.Frag} {M : List Addr} {H H1 : Hp} {S : Sto} {G : Gam} {σ : Sig} {P : Addr} {nm : Nat → Nat → Str} {t : Nat} {ps : Array Value} {pos : Pos} {q : Str} {c' f : Addr} {F : NF} (st : Stt K M H S G σ) (ht : S[t]? = some (.tblN P nm)) (hP : H P = some (.tbl ps))
    (hps : ∀ (p' : Pos) (cv : Value), codeAmong p' ps.toList = some cv → ∃ c, cv = .ref c ∧ H c = some (LamX.CodeO c (nm p'.line p'.col)) ∧ c ∉ M) (hq : nm pos.line pos.col = q) (had : M[t]? = some P) (h : NdHp H P ps pos q c' H1) (hf : H1 f = none) (hF : F.c = c') (hFq : F.qual = q) :
    Ext M H (M ++ [f]) (upd H1 f (FnO f F)) ∧ Stt K (M ++ [f]) (upd H1 f (FnO f F)) (S ++ [.fn F []]) G σ := by
  have first : Ext M H M H1 ∧ Stt K M H1 S G σ ∧ H1 c' = some (LamX.CodeO c' q) ∧ c' ∉ M := by
    rcases h with ⟨rfl, hc⟩ | ⟨ps', nc, ne1, rfl, h2, h3⟩
    · obtain ⟨c, e, h2, h3⟩ := hps pos _ hc
      cases e
      exact ⟨Ext.refl, st, by rw [h2, hq], h3⟩
    · rw [upd_swap (Ne.symm ne1)]
      have e1 : Ext M H M (upd H c' (LamX.CodeO c' q)) := Ext.fresh nc
      have s1 := st.fresh (o := LamX.CodeO c' q) nc
      have e2 : Ext M (upd H c' (LamX.CodeO c' q)) M (upd (upd H c' (LamX.CodeO c' q)) P (.tbl ps')) := Ext.put (List.mem_of_getElem? had)
      have nM : c' ∉ M := st.sto.nin nc
      have w2 := s1.sto.put (w := .tblN P nm) (o := .tbl ps') had ⟨rfl, ps', upd_same, h2, fun p' cv hcv => by
        rcases h3 p' cv hcv with z | ⟨z, z1, z2⟩
        · obtain ⟨c, x1, x2, x3⟩ := hps p' cv z
          refine ⟨c, x1, ?_, x3⟩
          have n1 : c ≠ P := fun y => by
            rw [y, hP] at x2
            exact LamX.codeO_ne _ (Option.some.inj x2).symm
          have n2 : c ≠ c' := fun y => by
            rw [y, nc] at x2
            cases x2
          rw [upd_ne n1, upd_ne n2]
          exact x2
        · exact ⟨c', z, by rw [upd_ne ne1, upd_same, ← z1, ← z2, hq], nM⟩⟩
      rw [show S.set t (.tblN P nm) = S from List.ext_getElem? fun i => by
        by_cases hi : t = i
        · subst hi
          rw [List.getElem?_set_self (List.getElem?_eq_some_iff.mp ht).1, ht]
        · rw [List.getElem?_set_ne hi]] at w2
      exact ⟨e1.trans e2, s1.mono e2 w2, by rw [upd_ne ne1, upd_same], nM⟩
  obtain ⟨e1, s1, hc, nM⟩ := first
  have nfc : c' ≠ f := fun z => by rw [z, hf] at hc; cases hc
  have e3 : Ext M H1 (M ++ [f]) (upd H1 f (FnO f F)) := Ext.own hf
  have s3 := s1.sto.own (w := .fn F []) hf ⟨upd_same, by rw [hF, hFq, upd_ne nfc]; exact hc, by
    rw [hF]
    intro hm
    rcases List.mem_append.mp hm with hm | hm
    · exact nM hm
    · exact nfc (List.mem_singleton.mp hm), .nil⟩
  exact ⟨e1.trans e3, s1.mono e3 s3⟩
section
variable {X : Cx} {W : WX} {k : Nat} {G : Gam} {S : Sto} {P : Post}
/-- def name(..): .. -/
theorem ws_ndef {c PA_ : Addr} {nm : Nat → Nat → Str} {name : Str} {params : Arguments} {body : List Stmt} {scope : Scope} {pos : Pos} (i t : Nat) (cx : Cxo X W k) (TB : LamX.TabB X.base X.mg c PA_) (hcode : X.env.code = .ref c) (ht : S[t]? = some (.tblN PA_ nm)) (hn : nm pos.line pos.col = X.env.qual ++ name)
    (hfree : ∀ y ∈ scope.names, y.2 = .free → X.env.scope.names.lookup y.1 = some .cell ∨ X.env.scope.names.lookup y.1 = some .free)
    (q : ∀ c', P.nx (G.set i (some (.o S.length))) (S ++ [.fn ⟨name, X.env.qual ++ name, params, body, scope, cloFrom X.env.cells scope.names [], c'⟩ []]))
    (hi : X.N[i]? = some name := by rfl) (hx : Loc X.env.scope name := by first | exact Or.inl rfl | exact Or.inr rfl) (hf : X.fn name = true ∨ X.env.scope.names.lookup name = some .local := by first | exact .inl rfl | exact .inr rfl | assumption)
    (hd0 : params.defaults = [] := by rfl) (hk0 : params.kw_defaults = [] := by rfl) (ha : annTrees params none X.env = [] := by rfl) : WS X W (.FunctionDef name params body [] none [] scope none name pos) G S P := fun M σ H D s m pins s0 I => by
  obtain ⟨ad, had, h0, ps, hP, htr, hps⟩ := s.sto.addr ht
  subst h0
  have hq : qualnameIn X.env name name = X.env.qual ++ name := by
    have hk : X.env.kindOf name = some .local ∨ X.env.kindOf name = some .cell := hx
    unfold qualnameIn
    rcases hk with k | k <;> rw [k] <;> first | rfl | exact if_neg (by decide)
  refine PySem.W.nestDef_K hd0 hk0 ha ?_
  rw [hq]
  refine ndef_make3 I TB hcode hP htr (fun p' cv e => by obtain ⟨c1, x1, x2, _⟩ := hps p' cv e; exact ⟨c1, x1, x2⟩) hn (fun y hy e => (hfree y hy e).elim (fun z => I.ok.has _ (.inl z)) fun z => I.ok.has _ (.inr z)) fun f c' H1 s' hN hf0 I1 => ?_
  obtain ⟨e1, t1⟩ := stt_ndef (F := ⟨name, X.env.qual ++ name, params, body, scope, cloFrom X.env.cells scope.names [], c'⟩) s ht hP hps hn had hN hf0 rfl rfl
  refine store_ok I1 cx.nd hi hx (v := .ref f) rfl (fun s'' J => ?_) hf
  have hat : (M ++ [f])[S.length]? = some f := by rw [← s.sto.len, List.getElem?_append_right (Nat.le_refl _), Nat.sub_self]; rfl
  exact ⟨_, _, J, m.nx _ _ _ _ _ e1 (t1.set (r := .o S.length) ⟨f, hat, rfl⟩) (q c')⟩
end
end Cu
/-! CyL: a def within a def: what it promises where its cells are among what always stands; its call by a name. -/
namespace Cu
open PySem PySem.Spec PyProof.Rows L2 NdefX
/-- the cells of a closure, among the base's objects -/
structure CellsB (base : Heap) (cl : List (Str × Addr)) (fr : List Str) (vs : List V) : Prop where
  len : vs.length = fr.length
  all : ∀ y c, cl.lookup y = some c → ∃ v, base.IsCell c v
  inj : ∀ x y c, cl.lookup x = some c → cl.lookup y = some c → x = y
  has : ∀ (i : Nat) (y : Str), fr[i]? = some y → ∃ c, cl.lookup y = some c ∧ ∀ v, vs[i]? = some v → ∃ u, L2.RelV v u ∧ base.IsCell c (some u)
theorem CellsB.at_ {base h : Heap} {H : Hp} {cl : List (Str × Addr)} {fr : List Str} {vs : List V} (C : CellsB base cl fr vs) (b : ∀ a o, base.get? a = some o → h.get? a = some o ∧ H a = none) : CellsAt cl fr (vs.map some) h H := by
  have up : ∀ {c v}, base.IsCell c v → H c = none ∧ h.IsCell c v := fun ⟨o, h1, h2⟩ => ⟨(b _ _ h1).2, o, (b _ _ h1).1, h2⟩
  refine ⟨by rw [List.length_map]; exact C.len, fun y c e => ?_, C.inj, fun i y e => ?_⟩
  · obtain ⟨v, hv⟩ := C.all y c e
    exact ⟨(up hv).1, v, (up hv).2⟩
  · obtain ⟨c, h1, h2⟩ := C.has i y e
    refine ⟨c, h1, fun v hv => ?_⟩
    rw [List.getElem?_map] at hv
    cases e2 : vs[i]? with
    | none => rw [e2] at hv; cases hv
    | some v' =>
      rw [e2] at hv
      cases hv
      obtain ⟨u, r, z⟩ := h2 v e2
      exact ⟨u, r, (up z).2⟩
/-- what a closure promises, its captured names' values told by cap -/
structure OkV (P : Program) (w : World) (K : PySem.W.Frag) (mg : Str → Option Value) (base : Heap) (k : Nat) (F : NF) (cap : List (V × It)) (ps : List Str) (Fc : Fn) : Prop where
  run : ∀ (f : Addr) (A : Around) (outer : List Env) (s : Shared) (H : Hp) (us : List Value) (vs : List V) (Q : VK) (E : XK), Room k A → Env0 P w K mg base A outer s H → H f = some (FnO f F) → H F.c = some (LamX.CodeO F.c F.qual) → Vals vs us →
    (∃ (M : List Addr) (S : Sto) (rs : List It), StoreOk K M H S ∧ VReps K M H vs rs ∧ VReps K M H (cap.map (·.1)) (cap.map (·.2)) ∧ rs.length = ps.length ∧
      Fc rs S (fun r S' => ∀ v M' H', Ext M H M' H' → StoreOk K M' H' S' → VRep K M' H' v r → Q v H') (fun C S' => ∀ M' H', Ext M H M' H' → StoreOk K M' H' S' → E (.ref C) none H')) → codeAny (model P w) A (.call (.ref f) ⟨us, []⟩) (CR (L2.CX P w) outer P w H s Q E) s
theorem startF_eq (N : List Str) (vs ws : List V) : startF N vs (ws.map some) = L2.start N (vs ++ ws) := by
  unfold startF L2.start
  rw [List.map_append, List.append_assoc, List.length_append, List.length_map, Nat.sub_sub]
/-- THE RULE for a closure that raises nothing -/
theorem okV_of {P : Program} {w : World} {K : PySem.W.Frag} {mg : Str → Option Value} {base : Heap} {k : Nat} {F : NF} {N ps fr : List Str} {cap : List (V × It)} {Fc : Fn} (Sc : NScope N ps fr F.scope) (hb : ∀ (doc pm ctv : Value) (us : List Value), us.length = ps.length → bindArgs (F.fd doc pm ctv) ⟨us, []⟩ = pure (ps.zip us))
    (C : CellsB base F.cl fr (cap.map (·.1)))
    (h : ∀ (f : Addr) (A : Around) (outer : List Env) (s : Shared) (H : Hp) (E : XK) (rs : List It) (S : Sto) (QR : It → Sto → Prop), Cxo (ncx (L2.CX P w) P w K mg base N F f A outer s H E) (fun _ _ _ _ => False) k → ClS S → rs.length = ps.length → Fc rs S QR (fun _ _ => False) →
      WSs (ncx (L2.CX P w) P w K mg base N F f A outer s H E) (fun _ _ _ _ => False) F.body (startG N (rs ++ cap.map (·.2))) S ⟨fun _ S' => Back S.length S' (.d .none) QR, fun r S' => Back S.length S' r QR, fun _ _ => False, fun _ _ => False, fun _ _ _ => False⟩)
    (hq : ∀ rs S QR QE, Fc rs S QR QE → Fc rs S QR fun _ _ => False) : OkV P w K mg base (k + 1) F cap ps Fc := by
  refine ⟨fun f A outer s H us vs Q E hr e0 hf hc rv hsp => ?_⟩
  have nk := nok_of (P := P) (w := w) (K := K) (mg := mg) (base := base) (CX := L2.CX P w) (N := N) (k := k) (f := f) (F := F) (ps := ps) (fr := fr)
    (sp := fun ws vs H Q E => ws = (cap.map (·.1)).map some ∧ ∃ (M : List Addr) (S : Sto) (rs : List It), StoreOk K M H S ∧ VReps K M H vs rs ∧ VReps K M H (cap.map (·.1)) (cap.map (·.2)) ∧ rs.length = ps.length ∧
      Fc rs S (fun r S' => ∀ v M' H', Ext M H M' H' → StoreOk K M' H' S' → VRep K M' H' v r → Q v H') (fun C S' => ∀ M' H', Ext M H M' H' → StoreOk K M' H' S' → E (.ref C) none H')) Sc hb
    (fun ws vs H Q E ⟨_, M, S, rs, _, h2, _, h3, _⟩ => by rw [h2.len, h3]) (fun A outer s H vs ws Q E hr hf hc hl hs => ?_)
  · exact nk.run A outer s H us vs _ Q E hr e0 hf hc (C.at_ fun a o e => e0.bs a o e) rv ⟨rfl, hsp⟩
  · obtain ⟨rfl, M, S, rs, h1, h2, h2', h3, hF⟩ := hs
    refine ⟨sSs _ F.body, pss_s, ?_⟩
    have out : ∀ {v : V} {M' : List Addr} {H' : Hp} {r : It} {S' : Sto}, Ext M H M' H' → StoreOk K M' H' S' → VRep K M' H' v r → Back S.length S' r (fun r S' => ∀ v M' H', Ext M H M' H' → StoreOk K M' H' S' → VRep K M' H' v r → Q v H') → Q v H' := by
      intro v M' H' r S' e s' hv hb
      obtain ⟨S1, L, r1, rfl, hn, hc, hr1, q⟩ := hb
      refine q v (M'.take S1.length) H' (e.take (by rw [h1.len]; exact hn)) (s'.take (hc s'.closed)) ?_
      rcases hr1 with ⟨rfl, hcl⟩ | ⟨z, rfl, hd⟩
      · exact hv.take hcl
      · exact Den.fz s' hd hv
    have cx : Cxo (ncx (L2.CX P w) P w K mg base N F f A outer s H E) (fun _ _ _ _ => False) k := ⟨rfl, Sc.nd, takes_none5, passes_of rfl, hr⟩
    rw [startF_eq]
    exact h f A outer s H E rs S _ cx h1.closed h3 (hq _ _ _ _ hF) M _ H _ (stt_start h1 N (VReps.append h2 h2')) ⟨fun M' σ' H' G' S' e t q => out (v := .non) (r := .d .none) e t.sto Fz.non q, fun v M' H' r S' e t hv q => out e t hv q, fun _ _ _ _ _ _ _ q => q.elim, fun _ _ _ _ _ _ _ q => q.elim, fun _ _ _ _ _ _ _ _ q => q.elim⟩
/-! ### its call, by a name that holds it -/
section
variable {X : Cx} {W : WX} {k j : Nat} {G : Gam} {S S1 S2 : Sto} {e : Expr} {es : List Expr} {r : It} {rs : List It} {p pos : Pos} {x : Str} {ps : List Str} {Fc : Fn} {F : NF} {cap : List (V × It)} {n : Nat}
theorem ev_callV (i : Nat) (c : Cxo X W k) (hG : G[i]? = some (some (.o n))) (hN : X.N[i]? = some x) (O : OkV X.prog X.w X.K X.mg X.base j F cap ps Fc) (ha : EvA X (e :: es) G S rs S1) (hS : S[n]? = some (.fn F cap)) (hS1 : S1[n]? = some (.fn F cap)) (hF : ∀ (QR : It → Sto → Prop) (QE : Addr → Sto → Prop), QR r S2 → Fc rs S1 QR QE) (hj : j ≤ k) (hl : rs.length = ps.length)
    (hv : Vis X.env.scope x) (hdb : (x == ("__debug__" : Str)) = false := by decide) (hcd : (x == ("__classdict__" : Str)) = false := by decide) (he : starEach (e :: es) X.env = (false, eval e X.env) :: starEach es X.env := by rfl) (hpl : (backTo pos (starEach es X.env)).any (·.1) = false := by rfl) : Ev X (.Call (.Name x p) (e :: es) [] pos) G S r S2 := fun M σ H Q s q pins s0 I => by
  obtain ⟨v, hσ, f, hM, rfl⟩ := s.at_ i _ hG
  obtain ⟨hf, _, _, _⟩ := s.sto.rep n f _ hM hS
  refine wpAny_Call_Name_kw (thn ((pe_var (pos := p) hN hv hdb hcd).run pins s0 σ H (fun v H1 => v = .ref f ∧ H1 = H) I ⟨.ref f, hσ, rfl, rfl⟩) fun u s1 ⟨v, H1, I1, r1, q1⟩ => ?_)
  obtain ⟨ev, eH⟩ := q1
  subst ev
  subst eH
  obtain rfl : u = Value.ref f := r1
  refine PySem.W.callWith_F (first := []) (fnAt_of I1 hf) (thn ((pa_s (es := e :: es)).run pos pins s1 σ _ _ I1 (ha M σ _ (fun vs H2 => ∃ M2, Ext M H1 M2 H2 ∧ Stt X.K M2 H2 S1 G σ ∧ VReps X.K M2 H2 vs rs) s fun vs M' H' e' s' r' => ⟨M', e', s', r'⟩)) fun us s2 ⟨vs, H2, I2, r2, M2, e2, t2, q2⟩ => ?_) he hpl
  obtain ⟨h1, h2, _, h4⟩ := t2.sto.rep n f _ (e2.get hM) hS1
  refine ⟨fnAt_of I2 h1, ?_⟩
  show wpAny _ _ (call (.ref f) us) _ _ _
  refine wpAny_call (codeAny_mono (O.run f X.A X.stack s2 H2 us vs (fun v H3 => Q v H3) (fun _ _ _ => False) (c.hr.mono hj) I2.env0 h1 h2 r2 ⟨M2, S1, rs, t2.sto, q2, h4, hl, hF _ _ fun v M' H' e3 s3 hv => q v M' H' (e2.trans e3) (t2.mono e3 s3) hv⟩) fun u s' hq => ?_)
  cases u with
  | error z =>
    obtain ⟨_, _, _, _, _, _, _, _, _, _, _, _, y⟩ := (show L2.CX _ _ _ _ _ _ _ _ from hq)
    exact y.elim
  | ok fl =>
    cases fl with
    | ret u => exact I2.after hq
    | next => exact (show False from hq).elim
    | brk => exact (show False from hq).elim
    | cont => exact (show False from hq).elim
end
end Cu
/-! KWave1: what a wave is handed: two closures that look at a field and note it in one object; steps. -/
namespace Pf
open PySem PySem.Spec PyProof.Rows L2 He Cu
structure Wv (α : Type) where
  S0 : Sto
  a : Nat
  ob : α → Own
  mm : α → Nat
  F : Fld
  s1 : WC → α → α
  s2 : Int → Int → α → α
  n1 : Nat
  n2 : Nat
  F1 : NdefX.NF
  F2 : NdefX.NF
  cap1 : List (V × Cu.It)
  cap2 : List (V × Cu.It)
  ps1 : List Str
  ps2 : List Str
/-- the store: the object that is noted in, what came behind -/
def Wv.st {α : Type} (v : Wv α) (x : α) (L : Sto) : Sto := v.S0.set v.a (v.ob x) ++ L
def Wv.FPr {α : Type} (v : Wv α) : Fn := fun rs S QR _ => ∃ (c : WC) (x : α) (L : Sto), rs = [.d (wc c)] ∧ S = v.st x L ∧ v.F.has c = true ∧ v.mm x < 900000 ∧ QR (.d (numO (v.F.pr c))) (v.st (v.s1 c x) L)
def Wv.FTh {α : Type} (v : Wv α) : Fn := fun rs S QR _ => ∃ (i j : Int) (x : α) (L : Sto), rs = [.d (.int i), .d (.int j)] ∧ S = v.st x L ∧ v.F.sq i j = true ∧ v.mm x < 900000 ∧ QR (.d (numO (v.F.th i j))) (v.st (v.s2 i j x) L)
structure Wv.Ok {α : Type} (P : Program) (w : World) (K : PySem.W.Frag) (mg : Str → Option Value) (base : Heap) (k : Nat) (v : Wv α) : Prop where
  f : v.F.Ok
  la : v.a < v.S0.length
  f1 : v.S0[v.n1]? = some (.fn v.F1 v.cap1)
  f2 : v.S0[v.n2]? = some (.fn v.F2 v.cap2)
  e1 : v.a ≠ v.n1
  e2 : v.a ≠ v.n2
  o1 : OkV P w K mg base k v.F1 v.cap1 v.ps1 v.FPr
  o2 : OkV P w K mg base k v.F2 v.cap2 v.ps2 v.FTh
  l1 : v.ps1.length = 1
  l2 : v.ps2.length = 2
  m1 : ∀ c x, v.mm (v.s1 c x) ≤ v.mm x + 1
  m2 : ∀ i j x, v.mm (v.s2 i j x) ≤ v.mm x + 1
  cl : ∀ x, ClO v.S0.length (v.ob x)
section
variable {α : Type} {v : Wv α} {x y : α} {L M : Sto}
theorem st_len : (v.st x L).length = v.S0.length + L.length := by
  unfold Wv.st
  rw [List.length_append, List.length_set]
theorem st_app : v.st x L ++ M = v.st x (L ++ M) := List.append_assoc _ _ _
theorem st_get (j : Nat) : (v.st x L)[v.S0.length + j]? = L[j]? := by
  unfold Wv.st
  rw [List.getElem?_append_right (by rw [List.length_set]; omega), List.length_set, Nat.add_sub_cancel_left]
theorem st_put (j : Nat) (w : Own) : (v.st x L).set (v.S0.length + j) w = v.st x (L.set j w) := by
  unfold Wv.st
  rw [List.set_append_right _ _ (by rw [List.length_set]; omega), List.length_set, Nat.add_sub_cancel_left]
theorem st_old {n : Nat} {w : Own} (h : v.S0[n]? = some w) (hn : v.a ≠ n) : (v.st x L)[n]? = some w := by
  have hl := (List.getElem?_eq_some_iff.mp h).1
  unfold Wv.st
  rw [List.getElem?_append_left (by rw [List.length_set]; exact hl), List.getElem?_set_ne hn]
  exact h
theorem st_end (w : Own) : (v.st x (L ++ [w]))[v.S0.length + L.length]? = some w := by rw [st_get, List.getElem?_append_right (Nat.le_refl _), Nat.sub_self] <;> rfl
theorem st_endS (w u : Own) : (v.st x (L ++ [w])).set (v.S0.length + L.length) u = v.st x (L ++ [u]) := by rw [st_put, List.set_append_right _ _ (Nat.le_refl _), Nat.sub_self] <;> rfl
theorem st_turn (hl : v.a < v.S0.length) : (v.st x L).set v.a (v.ob y) = v.st y L := by
  unfold Wv.st
  rw [List.set_append_left _ _ (by rw [List.length_set]; exact hl), List.set_set]
theorem st_cl (hl : v.a < v.S0.length) (hc : ∀ x, ClO v.S0.length (v.ob x)) (h : ClS (v.st x L)) : ClS (v.st y L) := by
  rw [← st_turn (x := x) (y := y) hl]
  exact cls_set h ((hc y).mono (by rw [st_len]; omega))
end
def szD (F : Fld) : PyData := .tuple [.int F.w, .int F.h, .int F.l]
def stD (d : WC × Int) : PyData := .tuple [wc d.1, .int d.2]
def Wv.sx {α : Type} (v : Wv α) (c : WC) (x : α) : α := if 1 < v.F.l then v.s2 c.1 c.2.1 x else x
def pairI (q : Int × Int) : PyData := .tuple [.int q.1, .int q.2]
def F_steps (P : Program) (w : World) (K : PySem.W.Frag) (mg : Str → Option Value) (base : Heap) (k : Nat) : Fn := fun rs S QR _ => ∃ (α : Type) (v : Wv α) (c : WC) (x : α) (L : Sto), v.Ok P w K mg base k ∧ rs = [.d (szD v.F), .o v.n2, .d (wc c)] ∧ S = v.st x L ∧ v.F.has c = true ∧ v.mm x < 900000 ∧ QR (.d (.list ((v.F.steps c).map stD))) (v.st (v.sx c x) L)
theorem flat_snoc (F : Fld) (c : WC) (A : List (Int × Int)) (q : Int × Int) : F.flatS c (A ++ [q]) = F.flatS c A ++ (if F.sq q.1 q.2 = true then [((q.1, q.2, c.2.2), 0)] else []) := by
  unfold Fld.flatS
  rw [List.filter_append, List.map_append]
  congr 1
  rw [List.filter_cons]
  by_cases h : F.sq q.1 q.2 = true
  · rw [if_pos h, if_pos h] <;> rfl
  · rw [if_neg h, if_neg h] <;> rfl
def ovB (z : Int) : Cu.It → Bool
  | .d (.int k) => !decide (k = z)
  | _ => false
def ovG (x y m : Int) : Cu.It → PyData
  | .d (.int k) => stD ((x, y, k), m)
  | _ => .none
theorem over_out (F : Fld) (c : WC) (m : Int) : ((rngI 0 F.l).filter (ovB c.2.2)).map (ovG c.1 c.2.1 m) = (F.overS c m).map stD := by
  unfold rngI Fld.overS
  induction List.range F.l with
  | nil => rfl
  | cons j r ih =>
    rw [List.map_cons, List.filter_cons, List.filter_cons]
    have e0 : (0 : Int) + (j : Int) = (j : Int) := Int.zero_add _
    rw [e0]
    show ((if (!decide ((j : Int) = c.2.2)) = true then _ else _ : List Cu.It).map _) = _
    by_cases h : (!decide ((j : Int) = c.2.2)) = true
    · rw [if_pos h, if_pos h, List.map_cons, ih] <;> rfl
    · rw [if_neg h, if_neg h, ih]
section
variable {P : Program} {w : World} {K : PySem.W.Frag} {mg : Str → Option Value} {base : Heap}
theorem fn_steps {k : Nat} (T : TT K mg) {fd : FuncData} (Fd : FunD K "steps" "steps" (defArgs s_steps) (defBody s_steps) (defScope s_steps) [] [] (ga K "steps") fd) : FnOk P w K mg base (L2.CX P w) (k + 1) (ga K "steps") fd ["size", "through", "cell"] (spF K 3 (F_steps P w K mg base k)) := by
  refine fn_w Fd sc_steps fun cdv A outer s H E rs S QR QE c hc hl hF => ?_
  obtain ⟨α, v, ⟨cx, cy, cz⟩, x, L, ok, rfl, rfl, hin, hm, q⟩ := hF
  have hsz := ok.f
  refine ss_cons (ws_asg (ev_name 2) (evg_tup (ds := [.int cx, .int cy, .int cz]) c.calm (evgs_cons (evg_name 3 c.nd) (evgs_cons (evg_name 4 c.nd) (evgs_cons (evg_name 5 c.nd) evgs_nil)))) ?_)
  refine ss_cons (ws_asg (ev_name 0) (evg_tup (ds := [.int v.F.w, .int v.F.h, .int v.F.l]) c.calm (evgs_cons (evg_name 6 c.nd) (evgs_cons (evg_name 7 c.nd) (evgs_cons (evg_name 8 c.nd) evgs_nil)))) ?_)
  refine ss_cons (ws_set 9 c.nd (r := .o (v.S0.length + L.length)) (S1 := v.st x (L ++ [.lst []])) (Ev.is2 (ev_lstO eva_nil) (by rw [st_len]) st_app) ?_)
  refine ss_cons (ws_for c (evi_list (ds := (v.F.flat4 (cx, cy, cz)).map pairI) (ev_lst (eva_cons (ev_tup (eva_cons (ev_sub (ev_name 3) ev_int) (eva_cons (ev_name 4) eva_nil))) (eva_cons (ev_tup (eva_cons (ev_add (ev_name 3) ev_int) (eva_cons (ev_name 4) eva_nil))) (eva_cons (ev_tup (eva_cons (ev_name 3) (eva_cons (ev_sub (ev_name 4) ev_int) eva_nil))) (eva_cons (ev_tup (eva_cons (ev_name 3) (eva_cons (ev_add (ev_name 4) ev_int) eva_nil))) eva_nil))))))
    (fun i G' S' => (∃ g10 g11, G' = [some (.d (szD v.F)), some (.o v.n2), some (.d (wc (cx, cy, cz))), some (.d (.int cx)), some (.d (.int cy)), some (.d (.int cz)), some (.d (.int v.F.w)), some (.d (.int v.F.h)), some (.d (.int v.F.l)), some (.o (v.S0.length + L.length)), g10, g11, none, none]) ∧ S' = v.st x (L ++ [.lst (((v.F.flatS (cx, cy, cz) ((v.F.flat4 (cx, cy, cz)).take i)).map stD).map .d)])) (fun r G => match r with | .d (.tuple [d0, d1]) => (G.set 10 (some (.d d0))).set 11 (some (.d d1)) | _ => G) ⟨⟨_, _, rfl⟩, rfl⟩ (fun _ _ _ _ => trivial) ?_ ?_ ?_)
  · rintro i r' G' S' hr' ⟨⟨g10, g11, rfl⟩, rfl⟩
    rw [List.getElem?_map, List.getElem?_map] at hr'
    cases hx : (v.F.flat4 (cx, cy, cz))[i]? with
    | none => rw [hx] at hr'; cases hr'
    | some p =>
      rw [hx] at hr'
      cases hr'
      exact (evg_tup c.calm (evgs_cons (evg_name 10 c.nd) (evgs_cons (evg_name 11 c.nd) evgs_nil)))
  · rintro i r' G' S' hr' ⟨⟨g10, g11, rfl⟩, rfl⟩
    rw [List.getElem?_map, List.getElem?_map] at hr'
    cases hx : (v.F.flat4 (cx, cy, cz))[i]? with
    | none => rw [hx] at hr'; cases hr'
    | some p =>
      rw [hx] at hr'
      cases hr'
      have hi : i < 4 := (List.getElem?_eq_some_iff.mp hx).1
      have hlen : (v.F.flatS (cx, cy, cz) ((v.F.flat4 (cx, cy, cz)).take i)).length ≤ 4 := by
        unfold Fld.flatS
        rw [List.length_map]
        refine Nat.le_trans (List.length_filter_le _ _) ?_
        rw [List.length_take]
        exact Nat.le_trans (Nat.min_le_left _ _) (Nat.le_of_lt hi)
      have htk : (v.F.flat4 (cx, cy, cz)).take (i + 1) = (v.F.flat4 (cx, cy, cz)).take i ++ [p] := by rw [List.take_add_one, hx] <;> rfl
      refine ss_cons (ws_if (k1 := v.F.sq p.1 p.2) (evt_w (evw_and (evt_leLt ev_int (ev_name 10) (fun _ => ev_name 6)) fun _ => evw_and1 (evt_leLt ev_int (ev_name 11) (fun _ => ev_name 7)))) (fun h => ?_) (fun h => ?_))
      · refine ss_cons (ws_expr (ev_append (xs := ((v.F.flatS (cx, cy, cz) ((v.F.flat4 (cx, cy, cz)).take i)).map stD).map .d) (ev_name 9) (st_end _) (ev_tup (eva_cons (ev_tup (eva_cons (ev_name 10) (eva_cons (ev_name 11) (eva_cons (ev_name 5) eva_nil)))) (eva_cons ev_int eva_nil))) (st_end _) (by rw [List.length_map, List.length_map]; omega)) (ss_nil (ss_nil ⟨⟨_, _, rfl⟩, ?_⟩)))
        rw [st_endS, htk, flat_snoc, if_pos h, List.map_append, List.map_append] <;> rfl
      · refine ss_nil (ss_nil ⟨⟨_, _, rfl⟩, ?_⟩)
        rw [htk, flat_snoc, if_neg (by rw [h]; exact Bool.false_ne_true), List.append_nil]
  rintro G' S' ⟨⟨g10, g11, rfl⟩, rfl⟩
  rw [show (((v.F.flat4 (cx, cy, cz)).map pairI).map Cu.It.d).length = (v.F.flat4 (cx, cy, cz)).length by rw [List.length_map, List.length_map], List.take_length]
  have hlen : (v.F.flatS (cx, cy, cz) (v.F.flat4 (cx, cy, cz))).length ≤ 4 := by
    unfold Fld.flatS
    rw [List.length_map]
    exact List.length_filter_le _ _
  refine ss_cons (ws_set 12 c.nd ev_none ?_)
  -- a change of layer
  refine ss_mid (J := fun G1 S1 => G1 = [some (.d (szD v.F)), some (.o v.n2), some (.d (wc (cx, cy, cz))), some (.d (.int cx)), some (.d (.int cy)), some (.d (.int cz)), some (.d (.int v.F.w)), some (.d (.int v.F.h)), some (.d (.int v.F.l)), some (.o (v.S0.length + L.length)), g10, g11, some (.d (numO (if 1 < v.F.l then v.F.th cx cy else none))), none] ∧ S1 = v.st (v.sx (cx, cy, cz) x) (L ++ [.lst (((v.F.flatS (cx, cy, cz) (v.F.flat4 (cx, cy, cz))).map stD).map .d)])) ?_ ?_
  · refine ws_if (k1 := decide ((1 : Int) < (v.F.l : Int))) (evt_gt (ev_name 8) ev_int) (fun h => ?_) (fun h => ss_nil ?_)
    · have h : 1 < v.F.l := by have := of_decide_eq_true h; omega
      refine ss_cons (ws_set 12 c.nd (r := .d (numO (v.F.th cx cy))) (S1 := v.st (v.s2 cx cy x) (L ++ [.lst (((v.F.flatS (cx, cy, cz) (v.F.flat4 (cx, cy, cz))).map stD).map .d)])) (ev_callV 1 c rfl rfl ok.o2 (eva_cons (ev_name 3) (eva_cons (ev_name 4) eva_nil)) (st_old ok.f2 ok.e2) (st_old ok.f2 ok.e2) (fun QR QE q => ⟨cx, cy, x, _, rfl, rfl, Fld.has_sq hin, hm, q⟩) (Nat.le_refl _) ok.l2.symm (.inl rfl)) (ss_nil ⟨?_, ?_⟩))
      · rw [if_pos h] <;> rfl
      · unfold Wv.sx
        rw [if_pos h]
    · have h : ¬ 1 < v.F.l := by have := of_decide_eq_false h; omega
      refine ⟨?_, ?_⟩
      · rw [if_neg h] <;> rfl
      · unfold Wv.sx
        rw [if_neg h]
  rintro _ _ ⟨rfl, rfl⟩
  have hclx : ClS (v.st (v.sx (cx, cy, cz) x) L) := st_cl ok.la ok.cl hc
  have hle : (v.st x L).length ≤ (v.st (v.sx (cx, cy, cz) x) L).length := by rw [st_len, st_len]; exact Nat.le_refl _
  have fin : ∀ {ds : List PyData}, ds = (v.F.steps (cx, cy, cz)).map stD → Back (v.st x L).length (v.st (v.sx (cx, cy, cz) x) (L ++ [.lst (ds.map .d)])) (.o (v.S0.length + L.length)) QR := fun {ds} e => by
    rw [← st_app]
    refine back_lst (ds := ds) _ hclx (by rw [st_len]; exact Nat.le_refl _) ?_ (by rw [e]; exact q) rfl hle
    rw [st_app]
    exact st_end _
  cases hch : (if 1 < v.F.l then v.F.th cx cy else none) with
  | none =>
    refine ss_cons (ws_if (k1 := false) (EvT.is (evt_notN (r := .d .none) (ev_name 12)) rfl) (fun z => nomatch z) (fun _ => ss_nil ?_))
    refine ss_cons (ws_ret (ev_name 9) (fin ?_))
    unfold Fld.steps
    by_cases h : 1 < v.F.l
    · rw [if_pos h] at hch
      rw [if_pos h, hch, List.append_nil]
    · rw [if_neg h, List.append_nil]
  | some m =>
    have h : 1 < v.F.l := by
      by_cases h : 1 < v.F.l
      · exact h
      · rw [if_neg h] at hch; cases hch
    rw [if_pos h] at hch
    have hst : v.F.steps (cx, cy, cz) = v.F.flatS (cx, cy, cz) (v.F.flat4 (cx, cy, cz)) ++ v.F.overS (cx, cy, cz) m := by
      unfold Fld.steps
      rw [if_pos h, hch]
    refine ss_cons (ws_if (k1 := true) (EvT.is (evt_notN (r := .d (.int m)) (ev_name 12)) rfl) (fun _ => ?_) (fun z => nomatch z))
    refine ss_cons (ws_expr (ev_extA (ds := (v.F.overS (cx, cy, cz) m).map stD) (r := .d (.list ((v.F.overS (cx, cy, cz) m).map stD))) (ev_name 9) (st_end _) (Ev.is (ev_lc c (blkOk_by (by rfl)) (lc_pure (own := [("layer", 13)]) c (evi_range1 (n := v.F.l) (z_range T) (ev_name 8) (by have := hsz.l2; omega)) (tg_name 13 c.nd) (ovB cz) (ovG cx cy m) (fun _ => trivial) (fun r hr => ?_) ?_)) ?_) (st_end _) rfl ?_) (ss_nil ?_))
    · obtain ⟨j, hj, rfl⟩ := List.mem_map.mp hr
      exact ⟨_, rfl, fun L s H C cl fp => evt_neI (ev_name 13) (ev_name 5), fun _ L s H C cl fp => ev_tup (eva_cons (ev_tup (eva_cons (ev_name 3) (eva_cons (ev_name 4) (eva_cons (ev_name 13) eva_nil)))) (eva_cons (ev_name 12) eva_nil))⟩
    · rw [rngI_len]; have := hsz.l2; omega
    · rw [show ((v.F.l : Nat) : Int).toNat = v.F.l from rfl]
      exact congrArg (fun z => Cu.It.d (.list z)) (over_out v.F (cx, cy, cz) m)
    · rw [List.length_map, List.length_map, List.length_map]
      have := Fld.steps_len ok.f hin
      rw [hst, List.length_append] at this
      omega
    · refine ss_cons (ws_ret (ev_name 9) ?_)
      rw [st_endS, ← List.map_append]
      exact fin (by rw [hst, List.map_append])
theorem ok_steps {k : Nat} (T : TT K mg) : OkF P w K mg base (k + 1) "steps" ["size", "through", "cell"] [] (F_steps P w K mg base k) := okF_of (g_steps T) (d_steps T) (fun _ _ _ _ _ _ us hl => match us, hl with | [_, _, _], _ => rfl) fun fd Fd => fn_steps T Fd
end
end Pf
/-! KWaveR: the store of a wave under way: the numbers, from where, what waits. -/
namespace Pf
open PySem PySem.Spec PyProof.Rows L2 He Cu
abbrev DI := Cu.It
/-! ### dicts that are maps of a list -/
section
variable {κ β : Type} [DecidableEq κ] {f : β → κ} {g : β → DI} {k : κ}
theorem valI_out {l : List β} (h : ∀ b ∈ l, f b ≠ k) : valI (l.map fun b => (f b, g b)) k = none := by
  unfold valI
  rw [List.find?_eq_none.mpr fun z hz => ?_]
  · rfl
  · obtain ⟨b, hb, rfl⟩ := List.mem_map.mp hz
    rw [decide_eq_false (h b hb)]
    exact Bool.false_ne_true
theorem valI_in {f : β → κ} {g : β → DI} : ∀ {l : List β} {b : β}, (l.map f).Nodup → b ∈ l → valI (l.map fun b => (f b, g b)) (f b) = some (g b)
  | a :: l, b, hn, hb => by
    rw [List.map_cons] at hn ⊢
    rcases List.mem_cons.mp hb with rfl | hb
    · unfold valI
      rw [List.find?_cons_of_pos (by exact decide_eq_true rfl)] <;> rfl
    · have hne : f a ≠ f b := fun e => (List.nodup_cons.mp hn).1 (e ▸ List.mem_map_of_mem hb)
      have := valI_in (g := g) (List.nodup_cons.mp hn).2 hb
      unfold valI at this ⊢
      rw [List.find?_cons_of_neg (by rw [decide_eq_false hne]; exact Bool.false_ne_true)]
      exact this
theorem putI_new {kvs : List (κ × DI)} {r : DI} (h : ∀ b ∈ kvs, b.1 ≠ k) : putI kvs k r = kvs ++ [(k, r)] := by
  unfold putI
  rw [if_neg]
  intro z
  obtain ⟨b, hb, e⟩ := List.any_eq_true.mp z
  exact h b hb (of_decide_eq_true e)
theorem dropI_map {l : List β} : dropI (l.map fun b => (f b, g b)) k = (l.filter fun b => decide (f b ≠ k)).map fun b => (f b, g b) := by
  unfold dropI
  rw [List.filter_map]
  rfl
end
def numK (R : List Num) : List (List Key × DI) := R.map fun e => (wcK e.1, .d (.int e.2.1))
def ahK (R : List Num) : List (List Key × DI) := R.map fun e => (wcK e.1, .d (cellO e.2.2))
theorem numK_in {R : List Num} {c : WC} : (valI (numK R) (wcK c)).isSome = decide (c ∈ R.map (·.1)) := by
  unfold numK
  induction R with
  | nil => rfl
  | cons a R ih =>
    unfold valI at ih ⊢
    rw [List.map_cons, List.map_cons]
    by_cases e : a.1 = c
    · rw [List.find?_cons_of_pos (by exact decide_eq_true (wcK_inj.mpr e)), decide_eq_true (e ▸ List.mem_cons_self)] <;> rfl
    · rw [List.find?_cons_of_neg (by rw [decide_eq_false (fun z => e (wcK_inj.mp z))]; exact Bool.false_ne_true), ih]
      congr 1
      refine propext ⟨fun h => List.mem_cons_of_mem _ h, fun h => ?_⟩
      rcases List.mem_cons.mp h with h | h
      · exact (e h.symm).elim
      · exact h
theorem numK_get {R : List Num} {e : Num} (hn : (R.map (·.1)).Nodup) (he : e ∈ R) : valI (numK R) (wcK e.1) = some (.d (.int e.2.1)) :=
  valI_in (f := fun e : Num => wcK e.1) (g := fun e => .d (.int e.2.1)) (by
    rw [show (fun e : Num => wcK e.1) = wcK ∘ (fun e : Num => e.1) from rfl, ← List.map_map]
    exact List.pairwise_map.mpr (hn.imp fun h z => h (wcK_inj.mp z))) he
theorem ahK_get {R : List Num} {e : Num} (hn : (R.map (·.1)).Nodup) (he : e ∈ R) : valI (ahK R) (wcK e.1) = some (.d (cellO e.2.2)) :=
  valI_in (f := fun e : Num => wcK e.1) (g := fun e => .d (cellO e.2.2)) (by
    rw [show (fun e : Num => wcK e.1) = wcK ∘ (fun e : Num => e.1) from rfl, ← List.map_map]
    exact List.pairwise_map.mpr (hn.imp fun h z => h (wcK_inj.mp z))) he
theorem numK_put {R : List Num} {e : Num} (h : e.1 ∉ R.map (·.1)) : putI (numK R) (wcK e.1) (.d (.int e.2.1)) = numK (R ++ [e]) := by
  rw [putI_new fun b hb z => ?_]
  · unfold numK; rw [List.map_append] <;> rfl
  · obtain ⟨a, ha, rfl⟩ := List.mem_map.mp hb
    exact h (List.mem_map.mpr ⟨a, ha, wcK_inj.mp z⟩)
theorem ahK_put {R : List Num} {e : Num} (h : e.1 ∉ R.map (·.1)) : putI (ahK R) (wcK e.1) (.d (cellO e.2.2)) = ahK (R ++ [e]) := by
  rw [putI_new fun b hb z => ?_]
  · unfold ahK; rw [List.map_append] <;> rfl
  · obtain ⟨a, ha, rfl⟩ := List.mem_map.mp hb
    exact h (List.mem_map.mpr ⟨a, ha, wcK_inj.mp z⟩)
/-! ### what waits -/
/-- a number, where its list lies, who waits -/
abbrev Wq := Int × Nat × List (WC × Option WC)
def entI (e : WC × Option WC) : PyData := .tuple [wc e.1, cellO e.2]
def entL (es : List (WC × Option WC)) : List DI := (es.map entI).map .d
def kvW (n : Nat) (ws : List Wq) : List (Key × DI) := ws.map fun q => (.inl q.1, .o (n + q.2.1))
def entsW (ws : List Wq) : List Ent := ws.flatMap fun q => q.2.2.map fun e => (q.1, e)
def dropW (ws : List Wq) (m : Int) : List Wq := ws.filter fun q => decide (q.1 ≠ m)
def addW (ws : List Wq) (m : Int) (e : WC × Option WC) : List Wq := ws.map fun q => if q.1 = m then (q.1, q.2.1, q.2.2 ++ [e]) else q
theorem entL_snoc (es : List (WC × Option WC)) (e : WC × Option WC) : entL (es ++ [e]) = entL es ++ [.d (entI e)] := by
  unfold entL
  rw [List.map_append, List.map_append] <;> rfl
theorem mem_entsW {ws : List Wq} {z : Ent} : z ∈ entsW ws ↔ ∃ q ∈ ws, z.1 = q.1 ∧ z.2 ∈ q.2.2 := by
  unfold entsW
  refine ⟨fun h => ?_, fun ⟨q, hq, e, h⟩ => ?_⟩
  · obtain ⟨q, hq, h⟩ := List.mem_flatMap.mp h
    obtain ⟨e, he, rfl⟩ := List.mem_map.mp h
    exact ⟨q, hq, rfl, he⟩
  · exact List.mem_flatMap.mpr ⟨q, hq, List.mem_map.mpr ⟨z.2, h, by rw [← e]⟩⟩
theorem key_same {ws : List Wq} (h : (ws.map (·.1)).Nodup) {p q : Wq} (hp : p ∈ ws) (hq : q ∈ ws) (e : p.1 = q.1) : p = q := by
  obtain ⟨i, hi⟩ := List.getElem?_of_mem hp
  obtain ⟨j, hj⟩ := List.getElem?_of_mem hq
  have e3 : (ws.map (·.1))[i]? = (ws.map (·.1))[j]? := by rw [List.getElem?_map, List.getElem?_map, hi, hj]; exact congrArg some e
  have hil := (List.getElem?_eq_some_iff.mp hi).1
  have := (List.getElem?_inj (by rw [List.length_map]; exact hil) h).mp e3
  subst this
  rw [hi] at hj
  exact Option.some.inj hj
theorem id_same {ws : List Wq} (h : (ws.map (·.2.1)).Nodup) {p q : Wq} (hp : p ∈ ws) (hq : q ∈ ws) (e : p.2.1 = q.2.1) : p = q := by
  obtain ⟨i, hi⟩ := List.getElem?_of_mem hp
  obtain ⟨j, hj⟩ := List.getElem?_of_mem hq
  have e3 : (ws.map (·.2.1))[i]? = (ws.map (·.2.1))[j]? := by rw [List.getElem?_map, List.getElem?_map, hi, hj]; exact congrArg some e
  have hil := (List.getElem?_eq_some_iff.mp hi).1
  have := (List.getElem?_inj (by rw [List.length_map]; exact hil) h).mp e3
  subst this
  rw [hi] at hj
  exact Option.some.inj hj
structure Wt (n : Nat) (T : Nat) (R : List Num) (ws : List Wq) (L : Sto) : Prop where
  n0 : L[0]? = some (.dT (numK R))
  n1 : L[1]? = some (.dT (ahK R))
  n2 : L[2]? = some (.dK (kvW n ws))
  ls : ∀ q ∈ ws, L[q.2.1]? = some (.lst (entL q.2.2))
  nk : (ws.map (·.1)).Nodup
  ni : (ws.map (·.2.1)).Nodup
  n3 : ∀ q ∈ ws, 3 ≤ q.2.1
  len : ∀ q ∈ ws, q.2.2.length ≤ T
/-- a list that is being gone through -/
structure Kp (p : Nat) (rs : List DI) (ws : List Wq) (L : Sto) : Prop where
  at_ : L[p]? = some (.lst rs)
  n3 : 3 ≤ p
  ne : ∀ q ∈ ws, q.2.1 ≠ p
section
variable {n T p : Nat} {R : List Num} {ws : List Wq} {L : Sto} {rs : List DI}
theorem Wt.up {T' : Nat} (h : Wt n T R ws L) (hT : T ≤ T') : Wt n T' R ws L := ⟨h.n0, h.n1, h.n2, h.ls, h.nk, h.ni, h.n3, fun q hq => Nat.le_trans (h.len q hq) hT⟩
/-- what comes behind does not matter -/
theorem Wt.more (M : Sto) (h : Wt n T R ws L) : Wt n T R ws (L ++ M) := by
  have up : ∀ {i : Nat} {w : Own}, L[i]? = some w → (L ++ M)[i]? = some w := fun e => by
    rw [List.getElem?_append_left (List.getElem?_eq_some_iff.mp e).1]
    exact e
  exact ⟨up h.n0, up h.n1, up h.n2, fun q hq => up (h.ls q hq), h.nk, h.ni, h.n3, h.len⟩
theorem Kp.more (M : Sto) (h : Kp p rs ws L) : Kp p rs ws (L ++ M) := ⟨by
    rw [List.getElem?_append_left (List.getElem?_eq_some_iff.mp h.at_).1]
    exact h.at_, h.n3, h.ne⟩
theorem Wt.pop {q : Wq} (h : Wt n T R ws L) (hq : q ∈ ws) : valI (kvW n ws) (.inl q.1) = some (.o (n + q.2.1)) ∧ dropI (kvW n ws) (.inl q.1) = kvW n (dropW ws q.1) ∧ Wt n T R (dropW ws q.1) (L.set 2 (.dK (kvW n (dropW ws q.1)))) ∧
    Kp q.2.1 (entL q.2.2) (dropW ws q.1) (L.set 2 (.dK (kvW n (dropW ws q.1)))) ∧ (dropW ws q.1).length < ws.length ∧ ∀ z, z ∈ q.2.2.map (fun e => ((q.1, e) : Ent)) ++ entsW (dropW ws q.1) ↔ z ∈ entsW ws := by
  have inj : (ws.map fun q : Wq => (Sum.inl q.1 : Key)).Nodup := by
    rw [show (fun q : Wq => (Sum.inl q.1 : Key)) = Sum.inl ∘ (fun q : Wq => q.1) from rfl, ← List.map_map]
    exact List.pairwise_map.mpr (h.nk.imp fun h z => h (Sum.inl.inj z))
  have h2 : 2 < L.length := (List.getElem?_eq_some_iff.mp h.n2).1
  have hm : ∀ {z}, z ∈ dropW ws q.1 ↔ z ∈ ws ∧ z.1 ≠ q.1 := fun {z} => by
    unfold dropW
    rw [List.mem_filter, decide_eq_true_iff]
  have sub : (dropW ws q.1).Sublist ws := List.filter_sublist
  have kept : ∀ {i : Nat}, 3 ≤ i → (L.set 2 (.dK (kvW n (dropW ws q.1))))[i]? = L[i]? := fun {i} hi => List.getElem?_set_ne (by omega)
  refine ⟨valI_in (f := fun q : Wq => (Sum.inl q.1 : Key)) (g := fun q : Wq => Cu.It.o (n + q.2.1)) inj hq, ?_, ⟨?_, ?_, ?_, ?_, ?_, ?_, ?_, ?_⟩, ⟨?_, h.n3 q hq, fun z hz e => ?_⟩, ?_, fun z => ?_⟩
  · unfold kvW
    rw [dropI_map (f := fun q : Wq => (Sum.inl q.1 : Key)) (g := fun q : Wq => Cu.It.o (n + q.2.1))]
    unfold dropW
    congr 2
    funext z
    congr 1
    exact propext ⟨fun a b => a (congrArg _ b), fun a b => a (Sum.inl.inj b)⟩
  · rw [List.getElem?_set_ne (by decide)]; exact h.n0
  · rw [List.getElem?_set_ne (by decide)]; exact h.n1
  · rw [List.getElem?_set_self h2]
  · intro z hz
    have hz := (hm.mp hz).1
    rw [kept (h.n3 z hz)]; exact h.ls z hz
  · exact h.nk.sublist (sub.map _)
  · exact h.ni.sublist (sub.map _)
  · exact fun z hz => h.n3 z (hm.mp hz).1
  · exact fun z hz => h.len z (hm.mp hz).1
  · rw [kept (h.n3 q hq)]; exact h.ls q hq
  · exact (hm.mp hz).2 (congrArg (·.1) (id_same h.ni (hm.mp hz).1 hq e))
  · exact List.length_filter_lt_length_iff_exists.mpr ⟨q, hq, by simp⟩
  · rw [List.mem_append, mem_entsW, mem_entsW]
    refine ⟨fun hz => ?_, fun ⟨q', hq', e, hz⟩ => ?_⟩
    · rcases hz with hz | ⟨q', hq', e, hz⟩
      · obtain ⟨e, he, rfl⟩ := List.mem_map.mp hz
        exact ⟨q, hq, rfl, he⟩
      · exact ⟨q', (hm.mp hq').1, e, hz⟩
    · by_cases ek : q'.1 = q.1
      · have := key_same h.nk hq' hq ek
        subst this
        exact .inl (List.mem_map.mpr ⟨z.2, hz, by rw [← e]⟩)
      · exact .inr ⟨q', hm.mpr ⟨hq', ek⟩, e, hz⟩
theorem Wt.add {e : Num} (h : Wt n T R ws L) : Wt n T (R ++ [e]) ws ((L.set 0 (.dT (numK (R ++ [e])))).set 1 (.dT (ahK (R ++ [e])))) := by
  have h1 : 1 < L.length := (List.getElem?_eq_some_iff.mp h.n1).1
  refine ⟨?_, ?_, ?_, fun q hq => ?_, h.nk, h.ni, h.n3, h.len⟩
  · rw [List.getElem?_set_ne (by decide), List.getElem?_set_self (by omega)]
  · rw [List.getElem?_set_self (by rw [List.length_set]; omega)]
  · rw [List.getElem?_set_ne (by decide), List.getElem?_set_ne (by decide)]; exact h.n2
  · have := h.n3 q hq
    rw [List.getElem?_set_ne (by omega), List.getElem?_set_ne (by omega)]; exact h.ls q hq
theorem Kp.set {i : Nat} {w : Own} (h : Kp p rs ws L) (hi : i ≠ p) : Kp p rs ws (L.set i w) := ⟨by rw [List.getElem?_set_ne hi]; exact h.at_, h.n3, h.ne⟩
/-- one more waits where others wait -/
theorem Wt.push_old {q : Wq} {e : WC × Option WC} (h : Wt n T R ws L) (k : Kp p rs ws L) (hq : q ∈ ws) : Wt n (T + 1) R (addW ws q.1 e) (L.set q.2.1 (.lst (entL (q.2.2 ++ [e])))) ∧ Kp p rs (addW ws q.1 e) (L.set q.2.1 (.lst (entL (q.2.2 ++ [e])))) ∧ (addW ws q.1 e).length = ws.length ∧ ∀ z, z ∈ entsW (addW ws q.1 e) ↔ z ∈ ((q.1, e) : Ent) :: entsW ws := by
  have hl : q.2.1 < L.length := (List.getElem?_eq_some_iff.mp (h.ls q hq)).1
  have h3 := h.n3 q hq
  have mk : (addW ws q.1 e).map (·.1) = ws.map (·.1) := by
    unfold addW
    rw [List.map_map]
    refine List.map_congr_left fun z _ => ?_
    show (if z.1 = q.1 then _ else _ : Wq).1 = _
    by_cases c : z.1 = q.1
    · rw [if_pos c]
    · rw [if_neg c]
  have mi : (addW ws q.1 e).map (·.2.1) = ws.map (·.2.1) := by
    unfold addW
    rw [List.map_map]
    refine List.map_congr_left fun z _ => ?_
    show (if z.1 = q.1 then _ else _ : Wq).2.1 = _
    by_cases c : z.1 = q.1
    · rw [if_pos c]
    · rw [if_neg c]
  have kv : kvW n (addW ws q.1 e) = kvW n ws := by
    unfold kvW addW
    rw [List.map_map]
    refine List.map_congr_left fun z _ => ?_
    show ((Sum.inl (if z.1 = q.1 then _ else _ : Wq).1 : Key), Cu.It.o (n + (if z.1 = q.1 then _ else _ : Wq).2.1)) = _
    by_cases c : z.1 = q.1
    · rw [if_pos c]
    · rw [if_neg c]
  have hm : ∀ {z}, z ∈ addW ws q.1 e ↔ (z ∈ ws ∧ z.1 ≠ q.1) ∨ z = (q.1, q.2.1, q.2.2 ++ [e]) := fun {z} => by
    unfold addW
    rw [List.mem_map]
    refine ⟨fun ⟨a, ha, ea⟩ => ?_, fun h' => ?_⟩
    · by_cases c : a.1 = q.1
      · rw [if_pos c] at ea
        rw [key_same h.nk ha hq c] at ea
        exact .inr ea.symm
      · rw [if_neg c] at ea
        subst ea
        exact .inl ⟨ha, c⟩
    · rcases h' with ⟨ha, c⟩ | rfl
      · exact ⟨z, ha, if_neg c⟩
      · exact ⟨q, hq, if_pos rfl⟩
  have ids : ∀ z ∈ addW ws q.1 e, ∃ y ∈ ws, y.2.1 = z.2.1 := fun z hz => by
    have : z.2.1 ∈ (addW ws q.1 e).map (·.2.1) := List.mem_map_of_mem hz
    rw [mi] at this
    exact List.mem_map.mp this
  refine ⟨⟨?_, ?_, ?_, fun z hz => ?_, ?_, ?_, fun z hz => ?_, fun z hz => ?_⟩, ⟨?_, k.n3, fun z hz => ?_⟩, by unfold addW; rw [List.length_map], fun z => ?_⟩
  · rw [List.getElem?_set_ne (by omega)]; exact h.n0
  · rw [List.getElem?_set_ne (by omega)]; exact h.n1
  · rw [List.getElem?_set_ne (by omega), kv]; exact h.n2
  · rcases hm.mp hz with ⟨ha, c⟩ | rfl
    · rw [List.getElem?_set_ne fun e' => c (congrArg (·.1) (id_same h.ni hq ha e')).symm]
      exact h.ls z ha
    · rw [List.getElem?_set_self hl]
  · rw [mk]; exact h.nk
  · rw [mi]; exact h.ni
  · obtain ⟨y, hy, ey⟩ := ids z hz
    rw [← ey]; exact h.n3 y hy
  · rcases hm.mp hz with ⟨ha, c⟩ | rfl
    · exact Nat.le_succ_of_le (h.len z ha)
    · show (q.2.2 ++ [e]).length ≤ _
      rw [List.length_append]
      exact Nat.succ_le_succ (h.len q hq)
  · rw [List.getElem?_set_ne (k.ne q hq)]; exact k.at_
  · obtain ⟨y, hy, ey⟩ := ids z hz
    rw [← ey]; exact k.ne y hy
  · rw [List.mem_cons, mem_entsW, mem_entsW]
    refine ⟨fun ⟨q', hq', e1, hz⟩ => ?_, fun hz => ?_⟩
    · rcases hm.mp hq' with ⟨ha, c⟩ | rfl
      · exact .inr ⟨q', ha, e1, hz⟩
      · rcases List.mem_append.mp hz with hz | hz
        · exact .inr ⟨q, hq, e1, hz⟩
        · exact .inl (Prod.ext e1 (List.mem_singleton.mp hz))
    · rcases hz with rfl | ⟨q', hq', e1, hz⟩
      · exact ⟨_, hm.mpr (.inr rfl), rfl, List.mem_append_right _ List.mem_cons_self⟩
      · by_cases c : q'.1 = q.1
        · have := key_same h.nk hq' hq c
          subst this
          exact ⟨_, hm.mpr (.inr rfl), e1, List.mem_append_left _ hz⟩
        · exact ⟨q', hm.mpr (.inl ⟨hq', c⟩), e1, hz⟩
/-- the first that waits for a number -/
theorem Wt.push_new {m : Int} {e : WC × Option WC} (h : Wt n T R ws L) (k : Kp p rs ws L) (hm : ∀ q ∈ ws, q.1 ≠ m) : Wt n (T + 1) R (ws ++ [(m, L.length, [e])]) (((L ++ [Own.lst []]).set 2 (Own.dK (kvW n (ws ++ [(m, L.length, [e])])))).set L.length (Own.lst (entL [e]))) ∧
    Kp p rs (ws ++ [(m, L.length, [e])]) (((L ++ [Own.lst []]).set 2 (Own.dK (kvW n (ws ++ [(m, L.length, [e])])))).set L.length (Own.lst (entL [e]))) ∧ ∀ z, z ∈ entsW (ws ++ [(m, L.length, [e])]) ↔ z ∈ ((m, e) : Ent) :: entsW ws := by
  have h2 : 2 < L.length := (List.getElem?_eq_some_iff.mp h.n2).1
  have old : ∀ {i : Nat} {w : Own}, i ≠ 2 → L[i]? = some w → (((L ++ [Own.lst []]).set 2 (Own.dK (kvW n (ws ++ [(m, L.length, [e])])))).set L.length (Own.lst (entL [e])))[i]? = some w := fun {i w} hi e' => by
    have hl := (List.getElem?_eq_some_iff.mp e').1
    rw [List.getElem?_set_ne (by omega), List.getElem?_set_ne (fun z => hi z.symm), List.getElem?_append_left hl]
    exact e'
  have idl : ∀ q ∈ ws, q.2.1 < L.length := fun q hq => (List.getElem?_eq_some_iff.mp (h.ls q hq)).1
  refine ⟨⟨old (by decide) h.n0, old (by decide) h.n1, ?_, fun z hz => ?_, ?_, ?_, fun z hz => ?_, fun z hz => ?_⟩, ⟨old (by have := k.n3; omega) k.at_, k.n3, fun z hz => ?_⟩, fun z => ?_⟩
  · rw [List.getElem?_set_ne (by omega), List.getElem?_set_self (by rw [List.length_append]; omega)]
  · rcases List.mem_append.mp hz with hz | hz
    · exact old (by have := h.n3 z hz; omega) (h.ls z hz)
    · rw [List.mem_singleton.mp hz]
      exact List.getElem?_set_self (by rw [List.length_set, List.length_append]; exact Nat.lt_succ_self _)
  · rw [List.map_append, List.nodup_append]
    refine ⟨h.nk, List.pairwise_singleton _ _, fun a ha b hb => ?_⟩
    have hb : b ∈ [m] := hb
    rw [List.mem_singleton.mp hb]
    obtain ⟨q, hq, rfl⟩ := List.mem_map.mp ha
    exact hm q hq
  · rw [List.map_append, List.nodup_append]
    refine ⟨h.ni, List.pairwise_singleton _ _, fun a ha b hb => ?_⟩
    have hb : b ∈ [L.length] := hb
    rw [List.mem_singleton.mp hb]
    obtain ⟨q, hq, rfl⟩ := List.mem_map.mp ha
    exact Nat.ne_of_lt (idl q hq)
  · rcases List.mem_append.mp hz with hz | hz
    · exact h.n3 z hz
    · rw [List.mem_singleton.mp hz]; exact h2
  · rcases List.mem_append.mp hz with hz | hz
    · exact Nat.le_succ_of_le (h.len z hz)
    · rw [List.mem_singleton.mp hz]; exact Nat.succ_le_succ (Nat.zero_le _)
  · rcases List.mem_append.mp hz with hz | hz
    · exact k.ne z hz
    · rw [List.mem_singleton.mp hz]
      exact Nat.ne_of_gt (List.getElem?_eq_some_iff.mp k.at_).1
  · rw [List.mem_cons, mem_entsW, mem_entsW]
    refine ⟨fun ⟨q', hq', e1, hz⟩ => ?_, fun hz => ?_⟩
    · rcases List.mem_append.mp hq' with hq' | hq'
      · exact .inr ⟨q', hq', e1, hz⟩
      · rw [List.mem_singleton.mp hq'] at e1 hz
        exact .inl (Prod.ext e1 (List.mem_singleton.mp hz))
    · rcases hz with rfl | ⟨q', hq', e1, hz⟩
      · exact ⟨_, List.mem_append_right _ List.mem_cons_self, rfl, List.mem_cons_self⟩
      · exact ⟨q', List.mem_append_left _ hq', e1, hz⟩
end
theorem least (l : List Int) (h : l ≠ []) : ∃ m ∈ l, ∀ a ∈ l, m ≤ a := by
  induction l with
  | nil => exact (h rfl).elim
  | cons a l ih =>
    cases l with
    | nil => exact ⟨a, List.mem_cons_self, fun b hb => by rw [List.mem_singleton.mp hb]; exact Int.le_refl _⟩
    | cons b l =>
      obtain ⟨m, hm, hl⟩ := ih (by simp)
      by_cases c : a ≤ m
      · refine ⟨a, List.mem_cons_self, fun z hz => ?_⟩
        rcases List.mem_cons.mp hz with rfl | hz
        · exact Int.le_refl _
        · exact Int.le_trans c (hl z hz)
      · refine ⟨m, List.mem_cons_of_mem _ hm, fun z hz => ?_⟩
        rcases List.mem_cons.mp hz with rfl | hz
        · omega
        · exact hl z hz
end Pf
/-! CwJ: == of two pairs of dicts with tuple keys, all values True. -/
namespace Cu
open PySem PySem.Spec PyProof.Rows L2 PySem.W PySem.Calls
section
variable {prog : Program} {w : World} {K : Type} [DecidableEq K] {knd : HeapKind prog w K} {A : Around} {E : Value → Shared → Prop} {s : Shared}
theorem atKey_get {xs : List (K × Addr × Value)} {k : K} {j : Nat} {p : Addr × Value} (hn : (xs.map (·.1)).Nodup) (h : xs[j]? = some (k, p)) : atKey xs k = some p := atKey_of_get hn h
/-- == of two dicts: as many entries, and each key is in the other with an equal value -/
theorem sameH {nm : String} {a b : Addr} {ka kb : List (K × Addr × Value)} {Q : Bool → Shared → Prop} (hu : knd.room A) (ha : (a == sysModules) = false) (hb : (b == sysModules) = false)
    (da : s.heap.DictOfH knd a ka) (db : s.heap.DictOfH knd b kb) (hv : ∀ x ∈ ka, ∀ y ∈ kb, SeqAt.EqP prog w A s x.2.2 y.2.2 true) (h : Q (ka.length == kb.length && ka.all fun x => (atKey kb x.1).isSome) s) :
    wpAny (model prog w) A (Builtin.Dict.samePairs nm a b) Q E s := by
  obtain ⟨oa, es, ep, hoa, _, hda, hea, hia, hna⟩ := da
  obtain ⟨ob, es', ep', hob, _, hdb, heb, hib, hnb⟩ := db
  have hla : es.size = ka.length := size_of_entries hea
  have hlb : es'.size = kb.length := size_of_entries heb
  unfold Builtin.Dict.samePairs Builtin.Dict.showsAll
  rw [if_neg (show ¬ (a == sysModules) = true by rw [ha]; exact Bool.false_ne_true), if_neg (show ¬ (b == sysModules) = true by rw [hb]; exact Bool.false_ne_true)]
  refine wpAny_bind (wpAny_pure (wpAny_bind (wpAny_pure ?_)))
  refine wpAny_bind (wpAny_dictEntries hoa hda ?_)
  dsimp only
  refine wpAny_bind (wpAny_dictEntries hob hdb ?_)
  by_cases hsz : es.size = es'.size
  case neg =>
    rw [if_pos (by simpa using hsz)]
    have hbf : (ka.length == kb.length) = false := by rw [← hla, ← hlb]; simpa using hsz
    rw [hbf, Bool.false_and] at h
    exact wpAny_bind (wpAny_rule (wpAny_pure h))
  case pos =>
    have hbt : (ka.length == kb.length) = true := by rw [← hla, ← hlb]; simpa using hsz
    rw [hbt, Bool.true_and] at h
    rw [if_neg (by rw [hsz]; simp)]
    refine wpAny_bind (wpAny_dictEpoch hoa hda ?_)
    refine wpAny_bind ?_
    rw [Std.Legacy.Range.forIn_eq_forIn_range']
    simp only [Std.Legacy.Range.size, Nat.sub_zero, Nat.add_sub_cancel, Nat.div_one]
    refine wpAny_forIn_list _
      (fun rest q s' => s' = s ∧ q = (none, ()) ∧ ∃ i, rest = List.range' i (es.size - i) ∧ i ≤ es.size ∧ ((ka.take i).all fun x => (atKey kb x.1).isSome) = true)
      _ ?_ ?_ _ _ ⟨rfl, rfl, 0, by simp, Nat.zero_le _, by simp⟩
    · rintro x rest q s' ⟨rfl, rfl, i, hr, hi, hpre⟩
      have hlt : i < es.size := by
        rcases Nat.lt_or_ge i es.size with h | h
        · exact h
        · rw [Nat.sub_eq_zero_of_le h] at hr; simp at hr
      obtain ⟨rfl, hrest⟩ : x = i ∧ rest = List.range' (i + 1) (es.size - (i + 1)) := by
        have e : es.size - i = (es.size - (i + 1)) + 1 := by omega
        rw [e, List.range'_succ] at hr
        injection hr with h1 h2
        exact ⟨h1, h2⟩
      refine wpAny_bind (wpAny_dictEntries hoa hda ?_)
      obtain ⟨⟨k, c, v⟩, hkv⟩ : ∃ kv, ka[x]? = some kv := ⟨ka[x]'(by rw [← hla]; exact hlt), List.getElem?_eq_getElem _⟩
      rw [entry_at hea x, hkv]
      show wpAny _ _ (holding [.ref c, v] _ >>= _) _ _ _
      have hkm : (k, c, v) ∈ ka := List.mem_of_getElem? hkv
      refine wpAny_bind (wpAny_holding (wpAny_bind (wpAny_dictFind_heap hu (hia _ hkm) hob hdb heb hib hnb (fun hno => ?_) fun j p hj => ?_)))
      · have hn : atKey kb k = none := atKey_none_of_get hno
        have hf : (ka.all fun x => (atKey kb x.1).isSome) = false := by
          rw [Bool.eq_false_iff]
          intro z
          have := List.all_eq_true.mp z _ hkm
          rw [hn] at this
          cases this
        rw [hf] at h
        refine wpAny_pure ?_
        show wpAny _ _ (if (!false) = true then _ else _) _ _ _
        rw [if_pos (by decide)]
        exact wpAny_pure (wpAny_pure h)
      · have hsome : (atKey kb k).isSome = true := by rw [atKey_get hnb hj]; rfl
        refine wpAny_bind (wpAny_dictEntries hob hdb ?_)
        rw [entry_at heb j, hj]
        refine wpAny_holding (hv _ hkm _ (List.mem_of_getElem? hj) _ _ ?_)
        show wpAny _ _ (if (!true) = true then _ else _) _ _ _
        rw [if_neg (by decide)]
        refine wpAny_bind (wpAny_dictEpoch hoa hda ?_)
        rw [if_neg (by simp)]
        refine wpAny_pure ⟨rfl, rfl, x + 1, hrest, hlt, ?_⟩
        rw [List.take_add_one, hkv, List.all_append, hpre, Bool.true_and]
        show ((atKey kb k).isSome && true) = true
        rw [hsome]; rfl
    · rintro q s' ⟨rfl, rfl, i, hr, hi, hpre⟩
      have hin : i = es.size := by
        rcases Nat.lt_or_ge i es.size with h | h
        · have e : es.size - i = (es.size - (i + 1)) + 1 := by omega
          rw [e, List.range'_succ] at hr; exact nomatch hr
        · exact Nat.le_antisymm hi h
      refine wpAny_pure ?_
      rw [hin, hla, List.take_length] at hpre
      rw [hpre] at h
      exact h
theorem rc_dictsH {a b : Addr} {ka kb : List (K × Addr × Value)} (hu : knd.room A.in1) (hu2 : A.units < cLine) (ha : (a == sysModules) = false) (hb : (b == sysModules) = false)
    (da : s.heap.DictOfH knd a ka) (db : s.heap.DictOfH knd b kb) (hv : ∀ x ∈ ka, ∀ y ∈ kb, SeqAt.EqP prog w A.in1 s x.2.2 y.2.2 true) (E Q : Value → Shared → Prop) (h : Q (.bool (ka.length == kb.length && ka.all fun x => (atKey kb x.1).isSome)) s) :
    wpAny (model prog w) A (richCompare .Eq (.ref a) (.ref b)) Q E s := by
  refine wpAny_richCompare_same_room (op := .Eq) da.typeIs db.typeIs PySem.F.slot_dict_eq (wpAny_call_entry PySem.F.slot_dict_eq da.typeIs PySem.F.entry_dict_eq ?_ (PySem.F.args_dict_eq_2 _ _)) hu2
  show wpAny _ _ (Builtin.Dict.dictSlotArgs "__eq__" ⟨[.ref a, .ref b], []⟩ >>= _) _ _ s
  refine wpAny_bind ?_
  unfold Builtin.Dict.dictSlotArgs
  refine wpAny_bind (wpAny_notOrdered_dict da.typeIs ?_)
  show wpAny _ _ (pure (Value.ref a, Value.ref b)) _ _ s
  refine wpAny_pure ?_
  refine wpAny_bind (wpAny_isInstance (T := "dict") db.typeIs PySem.F.sub_dict_dict ?_)
  simp only [Bool.not_true, Bool.false_eq_true, if_false]
  refine wpAny_bind (wpAny_pure (wpAny_bind (wpAny_pure ?_)))
  refine wpAny_bind (sameH hu ha hb da db hv ?_)
  refine wpAny_pure ⟨_, rfl, ?_, ?_⟩
  · exact fun x => nomatch x
  · simpa using h
end
end Cu
/-! CwK: == of two pairs of dicts, the rule; dict(d), the rule. -/
namespace Cu
open PySem PySem.Spec PyProof.Rows L2
def eqV (ka kb : List (List Key × V)) : Bool := ka.length == kb.length && ka.all fun p => (valV kb p.1).isSome
def eqI (ka kb : List (List Key × It)) : Bool := ka.length == kb.length && ka.all fun p => (valI kb p.1).isSome
def rEqTD : R2 := fun x y H Q => ∃ (t u a1 a2 b1 b2 : Addr) (k1 k2 l1 l2 : List (List Key × V)), x = .ref t ∧ y = .ref u ∧ H t = some (.tup [.ref a1, .ref a2]) ∧ H u = some (.tup [.ref b1, .ref b2]) ∧
  H a1 = some (.dT k1) ∧ H a2 = some (.dT k2) ∧ H b1 = some (.dT l1) ∧ H b2 = some (.dT l2) ∧ a1 ≠ b1 ∧ a2 ≠ b2 ∧ (∀ p ∈ k1 ++ k2 ++ l1 ++ l2, p.2 = V.bl true) ∧ Q (.bl (eqV k1 l1 && eqV k2 l2)) H
theorem kt_true {H : Hp} : ∀ {kvs : List (List Key × V)} {xs : List (List Key × Addr × Value)}, KT H kvs xs → (∀ p ∈ kvs, p.2 = V.bl true) → ∀ x ∈ xs, x.2.2 = Value.bool true
  | _, _, .nil, _, x, h => nomatch h
  | _, _, .cons a t, hp, x, h => by
    rcases List.mem_cons.mp h with rfl | h
    · have := a.2.2
      rw [hp _ List.mem_cons_self] at this
      exact this
    · exact kt_true t (fun p hm => hp p (List.mem_cons_of_mem _ hm)) x h
theorem kt_eq {H : Hp} {ka kb : List (List Key × V)} {xa xb : List (List Key × Addr × Value)} (ha : KT H ka xa) (hb : KT H kb xb) : (xa.length == xb.length && xa.all fun x => (atKey xb x.1).isSome) = eqV ka kb := by
  unfold eqV
  rw [Paired.length ha, Paired.length hb]
  congr 1
  have hk : ∀ k, (atKey xb k).isSome = (valV kb k).isSome := fun k => by
    have := KT.val hb k
    cases e1 : valV kb k with
    | none =>
      rw [e1] at this
      cases e2 : atKey xb k with
      | none => rfl
      | some p => rw [e2] at this; exact this.elim
    | some v =>
      rw [e1] at this
      cases e2 : atKey xb k with
      | none => rw [e2] at this; exact this.elim
      | some p => rfl
  have aux : ∀ {l : List (List Key × V)} {m : List (List Key × Addr × Value)}, KT H l m → (m.all fun x => (atKey xb x.1).isSome) = l.all fun p => (valV kb p.1).isSome := by
    intro l m h
    induction h with
    | nil => rfl
    | cons h t ih => rw [List.all_cons, List.all_cons, ih, hk, h.1]
  exact aux ha
theorem op_eqTD {X : Cx} (hu : X.A.units + 64 < cLine) : OpR X (compareOp .Eq) rEqTD := by
  intro pins s σ H x y v u Q I rx ry h
  obtain ⟨t, tu, a1, a2, b1, b2, k1, k2, l1, l2, rfl, rfl, ht, htu, ha1, ha2, hb1, hb2, n1, n2, hv, q⟩ := h
  cases rx
  cases ry
  have items : ∀ {t c1 c2 : Addr}, H t = some (.tup [.ref c1, .ref c2]) → s.heap.IsTuple t #[.ref c1, .ref c2] := fun {t c1 c2} e => by
    obtain ⟨_, its, r, it⟩ := (show ObjOk X.prog X.w H s.heap t (.tup [V.ref c1, V.ref c2]) from I.hok t _ e)
    cases r with
    | cons h1 h2 =>
      cases h2 with
      | cons h3 h4 =>
        cases h4
        cases h1
        cases h3
        exact it
  have dict : ∀ {a b : Addr} {ka kb : List (List Key × V)}, H a = some (.dT ka) → H b = some (.dT kb) → a ≠ b → (∀ p ∈ ka, p.2 = V.bl true) → (∀ p ∈ kb, p.2 = V.bl true) → SeqAt.EqP X.prog X.w X.A.in1 s (.ref a) (.ref b) (eqV ka kb) := by
    intro a b ka kb ea eb hne va vb
    obtain ⟨_, ma, xa, ra, da⟩ := dt_of I.hok ea
    obtain ⟨_, mb, xb, rb, db⟩ := dt_of I.hok eb
    refine SeqAt.eqP_refs hne fun E Q hq => rc_dictsH (A := X.A.in1) (knd := tupleKind (mixKind X.prog X.w)) (show X.A.units + 2 < cLine by omega) (show X.A.units + 1 < cLine by omega) ma mb da db (fun x hx y hy => ?_) E Q (by rw [kt_eq ra rb]; exact hq)
    rw [kt_true ra va x hx, kt_true rb vb y hy]
    exact (SeqAt.EqAt.bool_bool (A := X.A.in1.in1) (s := s) true true).eqP
  have e1 := dict ha1 hb1 n1 (fun p hp => hv p (by simp [hp])) (fun p hp => hv p (by simp [hp]))
  have e2 := dict ha2 hb2 n2 (fun p hp => hv p (by simp [hp])) (fun p hp => hv p (by simp [hp]))
  have R := SeqAt.rcIn_tuples (prog := X.prog) (w := X.w) (A := X.A) (s := s) (E := X.xe) (Q := EP X pins σ Q) (e := fun j => if j = 0 then eqV k1 l1 else eqV k2 l2) (items ht) (items htu) (show X.A.units < cLine by omega) (fun j h1 h2 => by
    match j, h1 with
    | 0, _ => exact e1
    | 1, _ => exact e2) ⟨.bl _, H, I, rfl, by
      show Q (.bl ((List.range 2).all (fun j => if j = 0 then eqV k1 l1 else eqV k2 l2) && (2 == 2))) H
      have : ((List.range 2).all (fun j => if j = 0 then eqV k1 l1 else eqV k2 l2) && (2 == 2)) = (eqV k1 l1 && eqV k2 l2) := by
        simp [List.range_succ]
      rw [this]; exact q⟩
  exact R
section
variable {X : Cx} {W : WX} {k j : Nat} {G : Gam} {S S1 S2 : Sto} {e a b o : Expr} {r : It} {pos apos cpos p : Pos} {i : Nat} {kvs : List (List Key × It)}
theorem prep_all {K : PySem.W.Frag} {M : List Addr} {H : Hp} : ∀ {ps : List (List Key × V)} {kvs : List (List Key × It)}, PRep K M H ps kvs → (∀ q ∈ kvs, q.2 = It.d (.bool true)) → ∀ p ∈ ps, p.2 = V.bl true
  | _, _, .nil, _, p, h => nomatch h
  | _, _, .cons a t, hq, p, h => by
    rcases List.mem_cons.mp h with rfl | h
    · have := a.2
      rw [hq _ List.mem_cons_self] at this
      exact vr_bool this
    · exact prep_all t (fun q hm => hq q (List.mem_cons_of_mem _ hm)) p h
theorem prep_eq {K : PySem.W.Frag} {M : List Addr} {H : Hp} {ps qs : List (List Key × V)} {kvs lvs : List (List Key × It)} (h1 : PRep K M H ps kvs) (h2 : PRep K M H qs lvs) : eqV ps qs = eqI kvs lvs := by
  unfold eqV eqI
  rw [prep_len h1, prep_len h2]
  congr 1
  have aux : ∀ {l : List (List Key × V)} {m : List (List Key × It)}, PRep K M H l m → (l.all fun x => (valV qs x.1).isSome) = m.all fun p => (valI lvs p.1).isSome := by
    intro l m h
    induction h with
    | nil => rfl
    | cons h t ih => rw [List.all_cons, List.all_cons, ih, h.1, prep_some h2]
  exact aux h1
/-- a == b: pairs of dicts -/
theorem ev_eqTD {t u i1 i2 j1 j2 : Nat} {k1 k2 l1 l2 : List (List Key × It)} (c : Cxo X W k) (ha : Ev X a G S (.o t) S1) (hb : Ev X b G S1 (.o u) S2) (ht : S2[t]? = some (.tup [.o i1, .o i2])) (hu : S2[u]? = some (.tup [.o j1, .o j2]))
    (h1 : S2[i1]? = some (.dT k1)) (h2 : S2[i2]? = some (.dT k2)) (h3 : S2[j1]? = some (.dT l1)) (h4 : S2[j2]? = some (.dT l2)) (n1 : i1 ≠ j1) (n2 : i2 ≠ j2) (hv : ∀ p ∈ k1 ++ k2 ++ l1 ++ l2, p.2 = It.d (.bool true)) :
    Ev X (.Compare a [.Eq] [b] pos) G S (.d (.bool (eqI k1 l1 && eqI k2 l2))) S2 := ev_cmp (op_eqTD c.hr.units) ha hb (fun M H v w Q s hv' hw q => by
  obtain ⟨at_, hat, rfl⟩ := hv'
  obtain ⟨au, hau, rfl⟩ := hw
  have tup : ∀ {t c1 c2 : Nat} {ad : Addr}, M[t]? = some ad → S2[t]? = some (.tup [.o c1, .o c2]) → ∃ d1 d2, H ad = some (.tup [.ref d1, .ref d2]) ∧ M[c1]? = some d1 ∧ M[c2]? = some d2 := fun {t c1 c2 ad} had ht => by
    obtain ⟨vs, e, r, _⟩ := s.rep t ad _ had ht
    obtain ⟨v1, v2, rfl, ⟨d1, m1, rfl⟩, ⟨d2, m2, rfl⟩⟩ := vr2 r
    exact ⟨d1, d2, e, m1, m2⟩
  obtain ⟨a1, a2, e1, m1, m2⟩ := tup hat ht
  obtain ⟨b1, b2, e2, m3, m4⟩ := tup hau hu
  obtain ⟨p1, q1, r1⟩ := s.rep _ _ _ m1 h1
  obtain ⟨p2, q2, r2⟩ := s.rep _ _ _ m2 h2
  obtain ⟨p3, q3, r3⟩ := s.rep _ _ _ m3 h3
  obtain ⟨p4, q4, r4⟩ := s.rep _ _ _ m4 h4
  have ne : ∀ {i j : Nat} {x y : Addr}, M[i]? = some x → M[j]? = some y → i ≠ j → x ≠ y := fun {i j x y} hi hj hn e => by
    subst e
    obtain ⟨l1, g1⟩ := List.getElem?_eq_some_iff.mp hi
    obtain ⟨l2, g2⟩ := List.getElem?_eq_some_iff.mp hj
    exact hn ((List.getElem_inj s.nd).mp (g1.trans g2.symm))
  refine ⟨at_, au, a1, a2, b1, b2, p1, p2, p3, p4, rfl, rfl, e1, e2, q1, q2, q3, q4, ne m1 m3 n1, ne m2 m4 n2, fun p hp => ?_, ?_⟩
  · simp only [List.mem_append] at hp hv
    rcases hp with ((hp | hp) | hp) | hp
    · exact prep_all r1 (fun q hq => hv q (.inl (.inl (.inl hq)))) p hp
    · exact prep_all r2 (fun q hq => hv q (.inl (.inl (.inr hq)))) p hp
    · exact prep_all r3 (fun q hq => hv q (.inl (.inr hq))) p hp
    · exact prep_all r4 (fun q hq => hv q (.inr hq)) p hp
  · rw [prep_eq r1 r3, prep_eq r2 r4]
    exact q _ M H Ext.refl s (Fz.bl _))
/-- dict(d) -/
theorem ev_dictCopyT (c : Cxo X W k) (hm : X.mg "dict" = none) (ha : Ev X a G S (.o i) S1) (hi : S1[i]? = some (.dT kvs)) (hap : ∀ (P : Program) (w : World), (kvs.map fun p => (tupleKind (mixKind P w)).hash p.1).Nodup) (hg : Gl X "dict" := by rfl) (he : starEach [a] X.env = (false, eval a X.env) :: starEach [] X.env := by rfl) :
    Ev X (.Call (.Name "dict" p) [a] [] pos) G S (.o S1.length) (S1 ++ [.dT kvs]) :=
  ev_ty (cr_dictCopyT c.hr.units) hm (by decide +kernel) (eva_cons ha eva_nil he) (fun M H vs Q s hvs q => by
    obtain ⟨v, rfl, hv⟩ := vr1 hvs
    obtain ⟨ad, ps, rfl, had, h1, h2⟩ := dT_at s hv hi
    have hk : (ps.map fun p => (tupleKind (mixKind X.prog X.w)).hash p.1) = kvs.map fun p => (tupleKind (mixKind X.prog X.w)).hash p.1 := by
      have aux : ∀ {l : List (List Key × V)} {m : List (List Key × It)}, PRep X.K M H l m → (l.map fun p => (tupleKind (mixKind X.prog X.w)).hash p.1) = m.map fun p => (tupleKind (mixKind X.prog X.w)).hash p.1 := by
        intro l m h
        induction h with
        | nil => rfl
        | cons h t ih => rw [List.map_cons, List.map_cons, ih, h.1]
      exact aux h2
    refine ⟨ad, ps, rfl, h1, by rw [hk]; exact hap _ _, fun d hd => ?_⟩
    have e5 : Ext M H (M ++ [d]) (upd H d (.dT ps)) := Ext.own hd
    exact q _ _ _ e5 (s.own hd ⟨_, upd_same, Paired.mapP h2 fun _ _ q => ⟨q.1, q.2.ext e5⟩⟩) ⟨d, by rw [← s.len, List.getElem?_append_right (Nat.le_refl _), Nat.sub_self]; rfl, rfl⟩) hg (by decide) (by decide) he rfl
end
end Cu
/-! CyR: d.clear(), xs.clear(); tuple + tuple; == of two dicts with int values; == of two tuples with the same dict in them. -/
namespace Cu
open PySem PySem.Spec PyProof.Rows L2 PySem.W PySem.Calls
section
variable {prog : Program} {w : World} {K : Type} [DecidableEq K] {knd : HeapKind prog w K} {A : Around} {E : Value → Shared → Prop} {s : Shared}
/-- == of two dicts: as many entries, and each key is in the other with an equal value -/
theorem sameH2 {nm : String} {a b : Addr} {ka kb : List (K × Addr × Value)} {Q : Bool → Shared → Prop} (hu : knd.room A) (ha : (a == sysModules) = false) (hb : (b == sysModules) = false)
    (da : s.heap.DictOfH knd a ka) (db : s.heap.DictOfH knd b kb) (hv : ∀ x ∈ ka, ∀ y ∈ kb, x.1 = y.1 → SeqAt.EqP prog w A s x.2.2 y.2.2 true) (h : Q (ka.length == kb.length && ka.all fun x => (atKey kb x.1).isSome) s) :
    wpAny (model prog w) A (Builtin.Dict.samePairs nm a b) Q E s := by
  obtain ⟨oa, es, ep, hoa, _, hda, hea, hia, hna⟩ := da
  obtain ⟨ob, es', ep', hob, _, hdb, heb, hib, hnb⟩ := db
  have hla : es.size = ka.length := size_of_entries hea
  have hlb : es'.size = kb.length := size_of_entries heb
  unfold Builtin.Dict.samePairs Builtin.Dict.showsAll
  rw [if_neg (show ¬ (a == sysModules) = true by rw [ha]; exact Bool.false_ne_true), if_neg (show ¬ (b == sysModules) = true by rw [hb]; exact Bool.false_ne_true)]
  refine wpAny_bind (wpAny_pure (wpAny_bind (wpAny_pure ?_)))
  refine wpAny_bind (wpAny_dictEntries hoa hda ?_)
  dsimp only
  refine wpAny_bind (wpAny_dictEntries hob hdb ?_)
  by_cases hsz : es.size = es'.size
  case neg =>
    rw [if_pos (by simpa using hsz)]
    have hbf : (ka.length == kb.length) = false := by rw [← hla, ← hlb]; simpa using hsz
    rw [hbf, Bool.false_and] at h
    exact wpAny_bind (wpAny_rule (wpAny_pure h))
  case pos =>
    have hbt : (ka.length == kb.length) = true := by rw [← hla, ← hlb]; simpa using hsz
    rw [hbt, Bool.true_and] at h
    rw [if_neg (by rw [hsz]; simp)]
    refine wpAny_bind (wpAny_dictEpoch hoa hda ?_)
    refine wpAny_bind ?_
    rw [Std.Legacy.Range.forIn_eq_forIn_range']
    simp only [Std.Legacy.Range.size, Nat.sub_zero, Nat.add_sub_cancel, Nat.div_one]
    refine wpAny_forIn_list _
      (fun rest q s' => s' = s ∧ q = (none, ()) ∧ ∃ i, rest = List.range' i (es.size - i) ∧ i ≤ es.size ∧ ((ka.take i).all fun x => (atKey kb x.1).isSome) = true)
      _ ?_ ?_ _ _ ⟨rfl, rfl, 0, by simp, Nat.zero_le _, by simp⟩
    · rintro x rest q s' ⟨rfl, rfl, i, hr, hi, hpre⟩
      have hlt : i < es.size := by
        rcases Nat.lt_or_ge i es.size with h | h
        · exact h
        · rw [Nat.sub_eq_zero_of_le h] at hr; simp at hr
      obtain ⟨rfl, hrest⟩ : x = i ∧ rest = List.range' (i + 1) (es.size - (i + 1)) := by
        have e : es.size - i = (es.size - (i + 1)) + 1 := by omega
        rw [e, List.range'_succ] at hr
        injection hr with h1 h2
        exact ⟨h1, h2⟩
      refine wpAny_bind (wpAny_dictEntries hoa hda ?_)
      obtain ⟨⟨k, c, v⟩, hkv⟩ : ∃ kv, ka[x]? = some kv := ⟨ka[x]'(by rw [← hla]; exact hlt), List.getElem?_eq_getElem _⟩
      rw [entry_at hea x, hkv]
      show wpAny _ _ (holding [.ref c, v] _ >>= _) _ _ _
      have hkm : (k, c, v) ∈ ka := List.mem_of_getElem? hkv
      refine wpAny_bind (wpAny_holding (wpAny_bind (wpAny_dictFind_heap hu (hia _ hkm) hob hdb heb hib hnb (fun hno => ?_) fun j p hj => ?_)))
      · have hn : atKey kb k = none := atKey_none_of_get hno
        have hf : (ka.all fun x => (atKey kb x.1).isSome) = false := by
          rw [Bool.eq_false_iff]
          intro z
          have := List.all_eq_true.mp z _ hkm
          rw [hn] at this
          cases this
        rw [hf] at h
        refine wpAny_pure ?_
        show wpAny _ _ (if (!false) = true then _ else _) _ _ _
        rw [if_pos (by decide)]
        exact wpAny_pure (wpAny_pure h)
      · have hsome : (atKey kb k).isSome = true := by rw [atKey_get hnb hj]; rfl
        refine wpAny_bind (wpAny_dictEntries hob hdb ?_)
        rw [entry_at heb j, hj]
        refine wpAny_holding (hv _ hkm _ (List.mem_of_getElem? hj) rfl _ _ ?_)
        show wpAny _ _ (if (!true) = true then _ else _) _ _ _
        rw [if_neg (by decide)]
        refine wpAny_bind (wpAny_dictEpoch hoa hda ?_)
        rw [if_neg (by simp)]
        refine wpAny_pure ⟨rfl, rfl, x + 1, hrest, hlt, ?_⟩
        rw [List.take_add_one, hkv, List.all_append, hpre, Bool.true_and]
        show ((atKey kb k).isSome && true) = true
        rw [hsome]; rfl
    · rintro q s' ⟨rfl, rfl, i, hr, hi, hpre⟩
      have hin : i = es.size := by
        rcases Nat.lt_or_ge i es.size with h | h
        · have e : es.size - i = (es.size - (i + 1)) + 1 := by omega
          rw [e, List.range'_succ] at hr; exact nomatch hr
        · exact Nat.le_antisymm hi h
      refine wpAny_pure ?_
      rw [hin, hla, List.take_length] at hpre
      rw [hpre] at h
      exact h
theorem rc_dictsH2 {a b : Addr} {ka kb : List (K × Addr × Value)} (hu : knd.room A.in1) (hu2 : A.units < cLine) (ha : (a == sysModules) = false) (hb : (b == sysModules) = false)
    (da : s.heap.DictOfH knd a ka) (db : s.heap.DictOfH knd b kb) (hv : ∀ x ∈ ka, ∀ y ∈ kb, x.1 = y.1 → SeqAt.EqP prog w A.in1 s x.2.2 y.2.2 true) (E Q : Value → Shared → Prop) (h : Q (.bool (ka.length == kb.length && ka.all fun x => (atKey kb x.1).isSome)) s) :
    wpAny (model prog w) A (richCompare .Eq (.ref a) (.ref b)) Q E s := by
  refine wpAny_richCompare_same_room (op := .Eq) da.typeIs db.typeIs PySem.F.slot_dict_eq (wpAny_call_entry PySem.F.slot_dict_eq da.typeIs PySem.F.entry_dict_eq ?_ (PySem.F.args_dict_eq_2 _ _)) hu2
  show wpAny _ _ (Builtin.Dict.dictSlotArgs "__eq__" ⟨[.ref a, .ref b], []⟩ >>= _) _ _ s
  refine wpAny_bind ?_
  unfold Builtin.Dict.dictSlotArgs
  refine wpAny_bind (wpAny_notOrdered_dict da.typeIs ?_)
  show wpAny _ _ (pure (Value.ref a, Value.ref b)) _ _ s
  refine wpAny_pure ?_
  refine wpAny_bind (wpAny_isInstance (T := "dict") db.typeIs PySem.F.sub_dict_dict ?_)
  simp only [Bool.not_true, Bool.false_eq_true, if_false]
  refine wpAny_bind (wpAny_pure (wpAny_bind (wpAny_pure ?_)))
  refine wpAny_bind (sameH2 hu ha hb da db hv ?_)
  refine wpAny_pure ⟨_, rfl, ?_, ?_⟩
  · exact fun x => nomatch x
  · simpa using h
end
/-! ### == of two dicts with tuple keys, the values whole numbers -/
def rEqT : R2 := fun x y H Q => ∃ (a b : Addr) (ka kb : List (List Key × V)), x = .ref a ∧ y = .ref b ∧ H a = some (.dT ka) ∧ H b = some (.dT kb) ∧ (∀ p ∈ ka, ∀ q ∈ kb, p.1 = q.1 → ∃ n : Int, p.2 = V.int n ∧ q.2 = V.int n) ∧ Q (.bl (eqV ka kb)) H
theorem kt_int {H : Hp} : ∀ {kvs : List (List Key × V)} {xs : List (List Key × Addr × Value)}, KT H kvs xs → ∀ x ∈ xs, ∃ p ∈ kvs, p.1 = x.1 ∧ RelV p.2 x.2.2
  | _, _, .nil, x, h => nomatch h
  | p :: _, _, .cons a t, x, h => by
    rcases List.mem_cons.mp h with rfl | h
    · exact ⟨p, List.mem_cons_self, a.1, a.2.2⟩
    · obtain ⟨p, hp, q⟩ := kt_int t x h
      exact ⟨p, List.mem_cons_of_mem _ hp, q⟩
theorem op_eqT2 {X : Cx} (hu : X.A.units + 64 < cLine) : OpR X (compareOp .Eq) rEqT := by
  intro pins s σ H x y v u Q I rx ry h
  obtain ⟨a, b, ka, kb, rfl, rfl, ea, eb, hv, q⟩ := h
  cases rx
  cases ry
  obtain ⟨_, ma, xa, ra, da⟩ := dt_of I.hok ea
  obtain ⟨_, mb, xb, rb, db⟩ := dt_of I.hok eb
  refine rc_dictsH2 (A := X.A) (knd := tupleKind (mixKind X.prog X.w)) (show X.A.units + 1 < cLine by omega) (show X.A.units < cLine by omega) ma mb da db (fun x hx y hy e => ?_) _ _ ⟨.bl _, H, I, rfl, by
    show Q (.bl (xa.length == xb.length && xa.all fun x => (atKey xb x.1).isSome)) H
    rw [kt_eq ra rb]; exact q⟩
  obtain ⟨p, hp, e1, r1⟩ := kt_int ra x hx
  obtain ⟨p', hp', e2, r2⟩ := kt_int rb y hy
  obtain ⟨n, h1, h2⟩ := hv p hp p' hp' (by rw [e1, e2, e])
  rw [h1] at r1
  rw [h2] at r2
  obtain ⟨t1, z1⟩ := (show ∃ t, x.2.2 = Value.int n t from r1)
  obtain ⟨t2, z2⟩ := (show ∃ t, y.2.2 = Value.int n t from r2)
  rw [z1, z2]
  have := (SeqAt.EqAt.int_int (A := X.A.in1) (s := s) n t1 n t2).eqP (prog := X.prog) (w := X.w)
  rwa [show (n == n) = true from by simp] at this
section
variable {X : Cx} {W : WX} {k : Nat} {G : Gam} {S S1 S2 : Sto} {e a b o : Expr} {r r' : It} {pos apos cpos p : Pos} {i j : Nat} {kvs lvs : List (List Key × It)} {xs ys : List PyData} {its : List It}
theorem prep_mem {K : PySem.W.Frag} {M : List Addr} {H : Hp} : ∀ {ps : List (List Key × V)} {kvs : List (List Key × It)}, PRep K M H ps kvs → ∀ p ∈ ps, ∃ q ∈ kvs, p.1 = q.1 ∧ VRep K M H p.2 q.2
  | _, _, .nil, p, h => nomatch h
  | _, q :: _, .cons a t, p, h => by
    rcases List.mem_cons.mp h with rfl | h
    · exact ⟨q, List.mem_cons_self, a⟩
    · obtain ⟨q, hq, z⟩ := prep_mem t p h
      exact ⟨q, List.mem_cons_of_mem _ hq, z⟩
/-- a == b: dicts with tuple keys, the values whole numbers, the same where both have a key -/
theorem ev_eqDT (c : Cxo X W k) (ha : Ev X a G S (.o i) S1) (hb : Ev X b G S1 (.o j) S2) (hi : S2[i]? = some (.dT kvs)) (hj : S2[j]? = some (.dT lvs)) (hv : ∀ p ∈ kvs, ∀ q ∈ lvs, p.1 = q.1 → ∃ n : Int, p.2 = .d (.int n) ∧ q.2 = .d (.int n)) : Ev X (.Compare a [.Eq] [b] pos) G S (.d (.bool (eqI kvs lvs))) S2 := ev_cmp (op_eqT2 c.hr.units) ha hb (fun M H v w Q s hv' hw q => by
  obtain ⟨ad, ps, rfl, _, h1, h2⟩ := dT_at s hv' hi
  obtain ⟨bd, ps', rfl, _, h3, h4⟩ := dT_at s hw hj
  refine ⟨ad, bd, ps, ps', rfl, rfl, h1, h3, fun p hp p' hp' e => ?_, ?_⟩
  · obtain ⟨z, hz, e1, r1⟩ := prep_mem h2 p hp
    obtain ⟨z', hz', e2, r2⟩ := prep_mem h4 p' hp'
    obtain ⟨n, n1, n2⟩ := hv z hz z' hz' (by rw [← e1, ← e2, e])
    rw [n1] at r1
    rw [n2] at r2
    exact ⟨n, vr_int r1, vr_int r2⟩
  · rw [prep_eq h2 h4]
    exact q _ M H Ext.refl s (Fz.bl _))
end
/-! ### == of two tuples: a text, and one and the same object -/
def rEqTS : R2 := fun x y H Q => ∃ (t u a : Addr) (z z' : Str), x = .ref t ∧ y = .ref u ∧ H t = some (.tup [.str z, .ref a]) ∧ H u = some (.tup [.str z', .ref a]) ∧ Q (.bl (z == z')) H
theorem op_eqTS {X : Cx} (hu : X.A.units + 64 < cLine) : OpR X (compareOp .Eq) rEqTS := by
  intro pins s σ H x y v u Q I rx ry h
  obtain ⟨t, tu, a, z, z', rfl, rfl, ht, htu, q⟩ := h
  cases rx
  cases ry
  have items : ∀ {t : Addr} {z : Str}, H t = some (.tup [.str z, .ref a]) → ∃ tk, s.heap.IsTuple t #[.str z tk, .ref a] := fun {t z} e => by
    obtain ⟨_, its, r, it⟩ := (show ObjOk X.prog X.w H s.heap t (.tup [V.str z, V.ref a]) from I.hok t _ e)
    cases r with
    | cons h1 h2 =>
      cases h2 with
      | cons h3 h4 =>
        cases h4
        obtain ⟨tk, rfl⟩ := (show ∃ tk, _ = Value.str z tk from h1)
        cases h3
        exact ⟨tk, it⟩
  obtain ⟨k1, i1⟩ := items ht
  obtain ⟨k2, i2⟩ := items htu
  have e1 : SeqAt.EqP X.prog X.w X.A.in1 s (.str z k1) (.str z' k2) (z == z') := (SeqAt.EqAt.str_str z k1 z' k2).eqP
  have e2 : SeqAt.EqP X.prog X.w X.A.in1 s (.ref a) (.ref a) true := (SeqAt.EqAt.same (.ref a)).eqP
  exact SeqAt.rcIn_tuples (prog := X.prog) (w := X.w) (A := X.A) (s := s) (E := X.xe) (Q := EP X pins σ Q) (e := fun j => if j = 0 then z == z' else true) i1 i2 (show X.A.units < cLine by omega) (fun j h1 h2 => by
    match j, h1 with
    | 0, _ => exact e1
    | 1, _ => exact e2) ⟨.bl _, H, I, rfl, by
      show Q (.bl ((List.range 2).all (fun j => if j = 0 then z == z' else true) && (2 == 2))) H
      have : ((List.range 2).all (fun j => if j = 0 then z == z' else true) && (2 == 2)) = (z == z') := by
        simp [List.range_succ]
      rw [this]; exact q⟩
section
variable {X : Cx} {W : WX} {k : Nat} {G : Gam} {S S1 S2 : Sto} {e a b o : Expr} {pos apos cpos p : Pos} {t u i : Nat} {z z' : Str}
theorem ev_eqTS (c : Cxo X W k) (ha : Ev X a G S (.o t) S1) (hb : Ev X b G S1 (.o u) S2) (ht : S2[t]? = some (.tup [.d (.str z), .o i])) (hu : S2[u]? = some (.tup [.d (.str z'), .o i])) : Ev X (.Compare a [.Eq] [b] pos) G S (.d (.bool (z == z'))) S2 := ev_cmp (op_eqTS c.hr.units) ha hb (fun M H v w Q s hv' hw q => by
  obtain ⟨at_, hat, rfl⟩ := hv'
  obtain ⟨au, hau, rfl⟩ := hw
  have tup : ∀ {t : Nat} {z : Str} {ad : Addr}, M[t]? = some ad → S2[t]? = some (.tup [.d (.str z), .o i]) → ∃ d1, H ad = some (.tup [.str z, .ref d1]) ∧ M[i]? = some d1 := fun {t z ad} had ht => by
    obtain ⟨vs, e, r, _⟩ := s.rep t ad _ had ht
    obtain ⟨v1, v2, rfl, h1, ⟨d1, m1, rfl⟩⟩ := vr2 r
    rw [vr_str h1] at e
    exact ⟨d1, e, m1⟩
  obtain ⟨a1, e1, m1⟩ := tup hat ht
  obtain ⟨b1, e2, m2⟩ := tup hau hu
  rw [m1] at m2
  cases m2
  exact ⟨at_, au, a1, z, z', rfl, rfl, e1, e2, q _ M H Ext.refl s (Fz.bl _)⟩)
end
/-! ### tuple + tuple -/
def rCatTup : R2 := fun x y H Q => ∃ l b xs zs, x = .ref l ∧ y = .ref b ∧ Rd H l (.tup xs) ∧ Rd H b (.tup zs) ∧ xs ≠ [] ∧ zs ≠ [] ∧ xs.length + zs.length ≤ sizeLine ∧ ∀ p, H p = none → Q (.ref p) (upd H p (.tup (xs ++ zs)))
theorem op_catTup {X : Cx} : OpR X (binaryOp .Add) rCatTup := by
  intro pins s σ H x y v u Q I rx ry h
  obtain ⟨l, b, xs, zs, rfl, rfl, hH, hB, n1, n2, hz, q⟩ := h
  cases rx
  cases ry
  obtain ⟨z, its, r, ht⟩ := hH.ok I.hok
  obtain ⟨z2, its2, r2, hb⟩ := hB.ok I.hok
  have hl := r.length
  have hl2 := r2.length
  obtain ⟨⟨cls, dd, data, sl⟩, ho, hc, n, hd⟩ := id ht
  obtain ⟨⟨cls2, dd2, data2, sl2⟩, ho2, hc2, m, hd2⟩ := id hb
  simp only at hc hd hc2 hd2
  subst hc hd hc2 hd2
  have e1 : its ≠ [] := fun h => n1 (by rw [h] at hl; exact List.eq_nil_of_length_eq_zero hl)
  have e2 : its2 ≠ [] := fun h => n2 (by rw [h] at hl2; exact List.eq_nil_of_length_eq_zero hl2)
  refine concat_meets ⟨_, ho, rfl⟩ ⟨_, ho2, rfl⟩ noFill_tuple_add seq_tuple_add PySem.F.slot_tuple_add PySem.F.entry_tuple_add (PySem.F.args_tuple_add_2 _ _)
    (tuple_addW2 l b its.toArray its2.toArray n m dd dd2 sl sl2 (by simpa using e1) (by simpa using e2) (by rw [List.size_toArray, List.size_toArray]; omega)) ⟨ho, ho2, ?_⟩
  have ea : its.toArray ++ its2.toArray = (its ++ its2).toArray := by simp
  rw [ea]
  have hp := I.hok.fresh (Nat.le_refl _)
  exact ⟨.ref s.heap.objs.size, upd H s.heap.objs.size (.tup (xs ++ zs)), I.laid (t' := s.toks) (fun b u q => Heap.get?_push_of_some _ q) (Nat.le_refl _) ⟨by rw [List.length_append]; omega, _, r.append r2, IsTup.new _ _⟩, rfl, q _ hp⟩
/-! ### clear -/
def rClearT : V → List V → Hp → VK → Prop := fun x vs H Q => ∃ a kvs, x = .ref a ∧ vs = [] ∧ H a = some (.dT kvs) ∧ Q .non (upd H a (.dT []))
theorem mt_clearT {X : Cx} : MtR X "dict.clear" rClearT := by
  intro pins s σ H x xs v us Q I rx rxs h
  obtain ⟨a, kvs, rfl, rfl, ha, q⟩ := h
  cases rx
  cases rxs
  obtain ⟨z, hd, xs', rel, dd⟩ := dt_of I.hok ha
  have hz : xs'.length ≤ sizeLine := by rw [← Paired.length rel]; exact z
  obtain ⟨o, es, ep, ho, h2, h3, h4, h5, h6⟩ := id dd
  refine call_meetsIn PySem.F.slot_dict_clear dd.typeIs PySem.F.entry_dict_clear (PySem.F.args_dict_clear_1 _) (PySem.meets_dict_clear_raw a) ⟨es, ep, ⟨o, ho, h2, h3⟩, by rw [size_of_entries h4]; exact hz, fun h' hr' hs' => ?_⟩
  obtain ⟨o', ho', hc', hdat'⟩ := hr'
  have I2 : Inv X pins σ (upd H a (.dT [])) { s with heap := h' } := d_write I (by rw [ha]; exact True.intro) hs' ⟨o', ho'⟩ ⟨Nat.zero_le _, hd, [], .nil, o', #[], ep + 1, ho', hc', hdat', rfl, List.nodup_nil⟩
  exact ⟨.non, _, I2, rfl, q⟩
def rClearL : V → List V → Hp → VK → Prop := fun x vs H Q => ∃ a xs, x = .ref a ∧ vs = [] ∧ H a = some (.lst xs) ∧ Q .non (upd H a (.lst []))
theorem mt_clearL {X : Cx} : MtR X "list.clear" rClearL := by
  intro pins s σ H x vs v us Q I rx rv h
  obtain ⟨l, xs, rfl, rfl, hH, q⟩ := h
  cases rx
  cases rv
  obtain ⟨z, its, n, r, hl, e⟩ := I.lstM hH
  refine call_meets F.slot_list_clear ⟨_, e, rfl⟩ F.entry_list_clear (F.args_list_clear_1 _) (PySem.AutoSeq1.list_clear_list_0 l its.toArray n (by rw [List.size_toArray]; omega)) ⟨e, ?_⟩
  exact ⟨.non, _, I.lset (its' := []) hH e rfl .nil (Nat.zero_le _), rfl, q⟩
section
variable {X : Cx} {W : WX} {k : Nat} {G : Gam} {S S1 S2 : Sto} {e a b o : Expr} {r r' : It} {pos apos cpos p : Pos} {i : Nat} {kvs : List (List Key × It)} {xs : List It} {ds es : List PyData}
/-- d.clear() -/
theorem ev_clearT (ho : Ev X o G S (.o i) S1) (hi : S1[i]? = some (.dT kvs)) (hbase : attributeBase o "clear" X.env (eval o X.env) = eval o X.env := by rfl) (hline : (apos.endLine == cpos.line) = true := by rfl) : Ev X (.Call (.Attribute o "clear" apos) [] [] cpos) G S (.d .none) (S1.set i (.dT [])) :=
  ev_bm0 PySem.F.plainAttrs_dict PySem.F.slot_dict_clear PySem.F.type_dict_clear mt_clearT ho (ty_dT hi) (fun M H v vs Q s hv hvs q => by
    cases hvs
    obtain ⟨ad, ps, rfl, had, h1, h2⟩ := dT_at s hv hi
    have e3 : Ext M H M (upd H ad (.dT [])) := Ext.put (List.mem_of_getElem? had)
    exact ⟨ad, ps, rfl, rfl, h1, q .non M _ e3 (s.put (w := .dT []) had ⟨_, upd_same, .nil⟩) Fz.non⟩) hbase hline
/-- xs.clear() -/
theorem ev_clearL (ho : Ev X o G S (.o i) S1) (hi : S1[i]? = some (.lst xs)) (hbase : attributeBase o "clear" X.env (eval o X.env) = eval o X.env := by rfl) (hline : (apos.endLine == cpos.line) = true := by rfl) : Ev X (.Call (.Attribute o "clear" apos) [] [] cpos) G S (.d .none) (S1.set i (.lst [])) :=
  ev_bm0 PySem.F.plainAttrs_list PySem.F.slot_list_clear PySem.F.type_list_clear mt_clearL ho (ty_own hi) (fun M H v vs Q s hv hvs q => by
    cases hvs
    obtain ⟨ad, had, rfl⟩ := hv
    obtain ⟨ws, h1, h2⟩ := s.rep i ad _ had hi
    have e3 : Ext M H M (upd H ad (.lst [])) := Ext.put (List.mem_of_getElem? had)
    exact ⟨ad, ws, rfl, rfl, h1, q .non M _ e3 (s.put (w := .lst []) had ⟨[], upd_same, .nil⟩) Fz.non⟩) hbase hline
/-- t + u of tuples that are data -/
theorem ev_catTup (ha : Ev X a G S (.d (.tuple ds)) S1) (hb : Ev X b G S1 (.d (.tuple es)) S2) (n1 : ds ≠ []) (n2 : es ≠ []) (hz : ds.length + es.length ≤ 1000000) : Ev X (.BinOp a .Add b pos) G S (.d (.tuple (ds ++ es))) S2 := ev_op op_catTup ha hb (fun M H v u Q s hv hu q => by
  have hv' : Fz M H v (.tuple ds) := hv
  have hu' : Fz M H u (.tuple es) := hu
  cases hv' with
  | tup h1 h2 =>
    cases hu' with
    | tup h3 h4 =>
      exact ⟨_, _, _, _, rfl, rfl, .of h1.1, .of h3.1, fun z => n1 (List.eq_nil_of_length_eq_zero (by rw [← fz_len h2, z] <;> rfl)), fun z => n2 (List.eq_nil_of_length_eq_zero (by rw [← fz_len h4, z] <;> rfl)), by rw [fz_len h2, fz_len h4, sizeLine_eq]; omega, fun p hp => q _ M _ (Ext.fresh hp) (s.fresh hp) (Fz.tup ⟨upd_same, s.nin hp⟩ (FzAll.ext (Ext.fresh hp) (fz_app h2 h4)))⟩)
end
end Cu
/-! K61A: the script's numbers; prices; the field; some of its cells. -/
namespace Pf
open PySem PySem.Spec PyProof.Rows L2 He Cu
def cellN (ns : List Int) (k : Int) : Int := if k < ns.length then ns.getD k.toNat 0 else 0
def mxA (c k : Int) : Int := (c % 2147483647 + 7919 * k + 1) * 48271 % 2147483647
def mxB (c k : Int) : Int := mxA c k * (mxA c k / 1009 + 69621) % 2147483647
def mxN (c k : Int) : Int := (mxB c k + 104729 * k) % 2147483647 * (mxB c k / 2003 + 16807) % 2147483647
def F_cellAt : Fn := fun rs S QR _ => ∃ (ns : List Int) (k : Int), rs = [.s ns, .d (.int k)] ∧ 0 ≤ k ∧ QR (.d (.int (cellN ns k))) S
def F_mixedB : Fn := fun rs S QR _ => ∃ (c k : Int), rs = [.d (.int c), .d (.int k)] ∧ QR (.d (.int (mxN c k))) S
/-! ### prices, plainly -/
def drawP (cell rest : Int) (m : Bool) (k : Nat) : Int := if m || decide (rest = 0) then mxN cell (0 + (k : Int)) / 11 % 12 else rest % 12
def restP (rest : Int) (m : Bool) : Int := if m || decide (rest = 0) then rest else rest / 12
def priceS {β : Type} (cell t : Int) (m : Bool) (st : List (β × Int) × Int) (p : Nat × β) : List (β × Int) × Int :=
  (if 2 < drawP cell st.2 m p.1 then st.1 ++ [(p.2, (drawP cell st.2 m p.1 - 2) * t)] else st.1, restP st.2 m)
def priceF {β : Type} (cell t : Int) (m : Bool) (cs : List β) (n : Nat) : List (β × Int) × Int := (((List.range cs.length).zip cs).take n).foldl (priceS cell t m) ([], cell)
def prices {β : Type} (cell t : Int) (m : Bool) (cs : List β) : List (β × Int) := (priceF cell t m cs cs.length).1
theorem priceF_step {β : Type} {cell t : Int} {m : Bool} {cs : List β} {n : Nat} {b : β} (h : cs[n]? = some b) : priceF cell t m cs (n + 1) = priceS cell t m (priceF cell t m cs n) (n, b) := by
  have hn := (List.getElem?_eq_some_iff.mp h).1
  have hz : ((List.range cs.length).zip cs)[n]? = some (n, b) := by
    rw [List.getElem?_zip_eq_some]
    exact ⟨List.getElem?_range hn, h⟩
  unfold priceF
  rw [List.take_add_one, hz, List.foldl_append] <;> rfl
theorem priceF_mem {β : Type} {cell t : Int} {m : Bool} {cs : List β} : ∀ (n : Nat) (p : β × Int), p ∈ (priceF cell t m cs n).1 → (∃ i, i < n ∧ cs[i]? = some p.1) ∧ ∃ d : Int, 0 < d ∧ p.2 = d * t
  | 0, p, h => by cases h
  | n + 1, p, h => by
    cases hb : cs[n]? with
    | none =>
      have hl : cs.length ≤ n := List.getElem?_eq_none_iff.mp hb
      have e : priceF cell t m cs (n + 1) = priceF cell t m cs n := by
        unfold priceF
        rw [List.take_of_length_le (by rw [List.length_zip, List.length_range]; omega), List.take_of_length_le (by rw [List.length_zip, List.length_range]; omega)]
      rw [e] at h
      obtain ⟨⟨i, h1, h2⟩, h3⟩ := priceF_mem n p h
      exact ⟨⟨i, by omega, h2⟩, h3⟩
    | some b =>
      rw [priceF_step hb] at h
      unfold priceS at h
      by_cases c : 2 < drawP cell (priceF cell t m cs n).2 m n
      · rw [if_pos c] at h
        rcases List.mem_append.mp h with h | h
        · obtain ⟨⟨i, h1, h2⟩, h3⟩ := priceF_mem n p h
          exact ⟨⟨i, by omega, h2⟩, h3⟩
        · rw [List.mem_singleton.mp h]
          exact ⟨⟨n, Nat.lt_succ_self _, hb⟩, _, Int.sub_pos_of_lt c, rfl⟩
      · rw [if_neg c] at h
        obtain ⟨⟨i, h1, h2⟩, h3⟩ := priceF_mem n p h
        exact ⟨⟨i, by omega, h2⟩, h3⟩
theorem priceF_nd {β : Type} {cell t : Int} {m : Bool} {cs : List β} (nd : cs.Nodup) : ∀ (n : Nat), ((priceF cell t m cs n).1.map (·.1)).Nodup
  | 0 => List.nodup_nil
  | n + 1 => by
    cases hb : cs[n]? with
    | none =>
      have hl : cs.length ≤ n := List.getElem?_eq_none_iff.mp hb
      have e : priceF cell t m cs (n + 1) = priceF cell t m cs n := by
        unfold priceF
        rw [List.take_of_length_le (by rw [List.length_zip, List.length_range]; omega), List.take_of_length_le (by rw [List.length_zip, List.length_range]; omega)]
      rw [e]
      exact priceF_nd nd n
    | some b =>
      rw [priceF_step hb]
      unfold priceS
      by_cases c : 2 < drawP cell (priceF cell t m cs n).2 m n
      · rw [if_pos c, List.map_append, List.nodup_append]
        refine ⟨priceF_nd nd n, List.pairwise_singleton _ _, fun x hx y hy e => ?_⟩
        have hy : y ∈ [b] := hy
        rw [List.mem_singleton.mp hy] at e
        subst e
        obtain ⟨p, hp, rfl⟩ := List.mem_map.mp hx
        obtain ⟨⟨i, h1, h2⟩, _⟩ := priceF_mem n p hp
        have hil := (List.getElem?_eq_some_iff.mp h2).1
        have := (List.getElem?_inj hil nd).mp (h2.trans hb.symm)
        omega
      · rw [if_neg c]
        exact priceF_nd nd n
theorem priceF_len {β : Type} {cell t : Int} {m : Bool} {cs : List β} (nd : cs.Nodup) (n : Nat) : (priceF cell t m cs n).1.length ≤ cs.length := by
  have h := (priceF_nd (cell := cell) (t := t) (m := m) nd n).length_le_of_subset (l₂ := cs) fun x hx => by
    obtain ⟨p, hp, rfl⟩ := List.mem_map.mp hx
    obtain ⟨⟨i, _, h2⟩, _⟩ := priceF_mem n p hp
    exact List.mem_of_getElem? h2
  rwa [List.length_map] at h
def prK {β : Type} (kf : β → List Key) (ps : List (β × Int)) : List (List Key × Cu.It) := ps.map fun p => (kf p.1, .d (.int p.2))
def F_prices : Fn := fun rs S QR _ => ∃ (β : Type) (f : β → PyData) (kf : β → List Key) (cell t : Int) (m : Bool) (cs : List β), (∀ b, keyD (f b) = some (kf b)) ∧ (∀ a b, kf a = kf b → a = b) ∧ rs = [.d (.int cell), .d (.list (cs.map f)), .d (.bool m), .d (.int t)] ∧ cs.Nodup ∧ cs.length ≤ 1000 ∧ QR (.o S.length) (S ++ [.dT (prK kf (prices cell t m cs))])
section
variable {P : Program} {w : World} {K : PySem.W.Frag} {mg : Str → Option Value} {base : Heap}
theorem fn__law_cell_at (T : TT K mg) {fd : FuncData} (Fd : FunD K "_law_cell_at" "_law_cell_at" (defArgs s__law_cell_at) (defBody s__law_cell_at) (defScope s__law_cell_at) [] [] (ga K "_law_cell_at") fd) : FnOk P w K mg base (L2.CX P w) 1 (ga K "_law_cell_at") fd ["_law_script", "_law_k"] (spF K 2 F_cellAt) := by
  refine fn_w Fd sc__law_cell_at fun cdv A outer s H E rs S QR QE c hc hl hF => ?_
  obtain ⟨ns, k, rfl, hk, q⟩ := hF
  refine ss_cons (ws_if (evt_lt (ev_name 1) (ev_len (z_len T) (ev_name 0) (by rfl))) (fun h => ?_) (fun h => ?_))
  · have h := of_decide_eq_true h
    refine ss_cons (ws_ret (ev_ixS (ev_name 0) (ev_name 1) (i := cellN ns k) ?_) (back_d q))
    unfold atI ixN cellN
    rw [if_pos hk, if_pos h, if_pos h]
    show ns[k.toNat]? = _
    rw [List.getElem?_eq_getElem (by omega), List.getD_eq_getElem?_getD, List.getElem?_eq_getElem (by omega)]
    rfl
  · have h := of_decide_eq_false h
    refine ss_nil (ss_cons (ws_ret ev_int (back_d ?_)))
    unfold cellN at q
    rw [if_neg h] at q
    exact q
theorem ok__law_cell_at (T : TT K mg) : OkF P w K mg base 1 "_law_cell_at" ["_law_script", "_law_k"] [] F_cellAt := okF_of (g__law_cell_at T) (d__law_cell_at T) (fun _ _ _ _ _ _ us hl => match us, hl with | [_, _], _ => rfl) fun fd Fd => fn__law_cell_at T Fd
theorem fn__law_mixed (T : TT K mg) {fd : FuncData} (Fd : FunD K "_law_mixed" "_law_mixed" (defArgs s__law_mixed) (defBody s__law_mixed) (defScope s__law_mixed) [] [] (ga K "_law_mixed") fd) : FnOk P w K mg base (L2.CX P w) 1 (ga K "_law_mixed") fd ["_law_cell", "_law_k"] (spF K 2 F_mixedB) := by
  refine fn_w Fd sc__law_mixed fun cdv A outer s H E rs S QR QE c hc hl hF => ?_
  obtain ⟨n, k, rfl, q⟩ := hF
  have h0 : 0 ≤ mxA n k := Int.emod_nonneg _ (by decide)
  have h1 : mxA n k < 2147483647 := Int.emod_lt_of_pos _ (by decide)
  have h2 : 0 ≤ (mxB n k + 104729 * k) % 2147483647 := Int.emod_nonneg _ (by decide)
  have h3 : (mxB n k + 104729 * k) % 2147483647 < 2147483647 := Int.emod_lt_of_pos _ (by decide)
  refine ss_cons (ws_set 2 c.nd (ev_mod (ev_mul (ev_add (ev_add (ev_mod (ev_name 0) ev_int (by decide)) (ev_mul ev_int (ev_name 1) (.inl (by decide)))) ev_int) ev_int (.inr (by decide))) ev_int (by decide)) ?_)
  refine ss_cons (ws_set 2 c.nd (ev_mod (ev_mul (ev_name 2 (r := .d (.int (mxA n k)))) (ev_add (ev_fdiv (ev_name 2) ev_int ⟨by decide, by decide⟩) ev_int) (.inl (by omega))) ev_int (by decide)) ?_)
  exact ss_cons (ws_ret (ev_mod (ev_mul (ev_mod (ev_add (ev_name 2 (r := .d (.int (mxB n k)))) (ev_mul ev_int (ev_name 1) (.inl (by decide)))) ev_int (by decide)) (ev_add (ev_fdiv (ev_name 2 (r := .d (.int (mxB n k)))) ev_int ⟨by decide, by decide⟩) ev_int) (.inl (by omega))) ev_int (by decide)) (back_d q))
theorem ok__law_mixed (T : TT K mg) : OkF P w K mg base 1 "_law_mixed" ["_law_cell", "_law_k"] [] F_mixedB := okF_of (g__law_mixed T) (d__law_mixed T) (fun _ _ _ _ _ _ us hl => match us, hl with | [_, _], _ => rfl) fun fd Fd => fn__law_mixed T Fd
theorem fn__law_prices (T : TT K mg) {fd : FuncData} (Fd : FunD K "_law_prices" "_law_prices" (defArgs s__law_prices) (defBody s__law_prices) (defScope s__law_prices) [] [] (ga K "_law_prices") fd) : FnOk P w K mg base (L2.CX P w) 2 (ga K "_law_prices") fd ["_law_cell", "_law_cells", "_law_mixed_here", "_law_times"] (spF K 4 F_prices) := by
  refine fn_w Fd sc__law_prices fun cdv A outer s H E rs S QR QE c hc hl hF => ?_
  obtain ⟨β, f, kf, cell, t, m, cs, hk, hinj, rfl, nd, hlen, q⟩ := hF
  have hat : ∀ (u : Own), (S ++ [u])[S.length]? = some u := fun u => by rw [List.getElem?_append_right (Nat.le_refl _), Nat.sub_self]; rfl
  have hset : ∀ (u v : Own), (S ++ [u]).set S.length v = S ++ [v] := fun u v => by rw [List.set_append_right _ _ (Nat.le_refl _), Nat.sub_self]; rfl
  refine ss_cons (ws_set 4 c.nd ev_dNewT ?_)
  refine ss_cons (ws_set 5 c.nd (ev_name 0) ?_)
  refine ss_cons (ws_for c (evi_range1 (n := cs.length) (z_range T) (ev_len (z_len T) (ev_name 1) (by show some _ = some _; rw [List.length_map])) (by omega)) (J := fun i G' S' => ∃ g6 g7, G' = [some (.d (.int cell)), some (.d (.list (cs.map f))), some (.d (.bool m)), some (.d (.int t)), some (.o S.length), some (.d (.int (priceF cell t m cs i).2)), g6, g7] ∧ S' = S ++ [.dT (prK kf (priceF cell t m cs i).1)]) (fun r G => G.set 6 (some r)) ⟨_, _, rfl, rfl⟩ (fun _ _ _ _ => trivial) ?_ ?_ ?_)
  · rintro i r G' S' hr ⟨g1, g2, rfl, rfl⟩
    exact evg_name 6 c.nd
  · rintro i r G' S' hr ⟨g1, g2, rfl, rfl⟩
    obtain ⟨hi, rfl⟩ := rngI_at hr
    have hi : i < cs.length := by simpa using hi
    obtain ⟨b, hb⟩ : ∃ b, cs[i]? = some b := ⟨_, List.getElem?_eq_getElem hi⟩
    rw [priceF_step hb]
    have hnd := priceF_nd (cell := cell) (t := t) (m := m) nd i
    have hmem := priceF_mem (cell := cell) (t := t) (m := m) (cs := cs) i
    have hln := priceF_len (cell := cell) (t := t) (m := m) nd i
    generalize priceF cell t m cs i = st at *
    obtain ⟨ps, rest⟩ := st
    unfold priceS
    have hatc : atI (cs.map f) (0 + (i : Int)) = some (f b) := atI_nat (k := i) (Int.zero_add _) (by rw [List.getElem?_map, hb] <;> rfl)
    refine ss_cons (ws_set 7 c.nd (ev_mod (ev_name 5) ev_int (by decide)) ?_)
    refine ss_mid (J := fun G1 S1 => G1 = [some (.d (.int cell)), some (.d (.list (cs.map f))), some (.d (.bool m)), some (.d (.int t)), some (.o S.length), some (.d (.int (restP rest m))), some (.d (.int (0 + (i : Int)))), some (.d (.int (drawP cell rest m i)))] ∧ S1 = S ++ [.dT (prK kf ps)]) ?_ ?_
    · refine ws_if (k1 := m || decide (rest = 0)) (evt_w (evw_or (evt_val (ev_name 2)) fun _ => evw_or1 (evt_eqI (ev_name 5) ev_int))) (fun h => ?_) (fun h => ?_)
      · refine ss_cons (ws_set 7 c.nd (ev_mod (ev_fdiv (ev_call c (ok__law_mixed T) (eva_cons (ev_name 0) (eva_cons (ev_name 6) eva_nil)) (fun QR QE q => ⟨_, _, rfl, q⟩)) ev_int ⟨by decide, by decide⟩) ev_int (by decide)) (ss_nil ⟨?_, rfl⟩))
        unfold restP drawP
        rw [if_pos h, if_pos h] <;> rfl
      · refine ss_cons (ws_set 5 c.nd (ev_fdiv (ev_name 5) ev_int ⟨by decide, by decide⟩) (ss_nil ⟨?_, rfl⟩))
        unfold restP drawP
        rw [if_neg (by rw [h]; exact Bool.false_ne_true), if_neg (by rw [h]; exact Bool.false_ne_true)] <;> rfl
    rintro _ _ ⟨rfl, rfl⟩
    have hd1 : 0 ≤ drawP cell rest m i ∧ drawP cell rest m i < 12 := by
      unfold drawP
      split
      · exact ⟨Int.emod_nonneg _ (by decide), Int.emod_lt_of_pos _ (by decide)⟩
      · exact ⟨Int.emod_nonneg _ (by decide), Int.emod_lt_of_pos _ (by decide)⟩
    refine ss_cons (ws_if (evt_gt (ev_name 7) ev_int) (fun h => ?_) (fun h => ss_nil (ss_nil ⟨_, _, rfl, ?_⟩)))
    · have h := of_decide_eq_true h
      have hnew : ∀ z ∈ prK kf ps, z.1 ≠ kf b := fun z hz e => by
        obtain ⟨p, hp, rfl⟩ := List.mem_map.mp hz
        obtain ⟨⟨j, h1, h2⟩, _⟩ := hmem p hp
        rw [hinj _ _ e] at h2
        have := (List.getElem?_inj (List.getElem?_eq_some_iff.mp h2).1 nd).mp (h2.trans hb.symm)
        omega
      refine ss_cons (ws_dputT c (ev_mul (ev_sub (ev_name 7) ev_int) (ev_name 3) (.inl (by omega))) (ev_name 4) (ev_ixL (ev_name 1) (ev_name 6) hatc) (hat _) (hk b) ?_ (ss_nil (ss_nil ⟨_, _, rfl, ?_⟩)))
      · unfold prK
        rw [List.length_map]
        have hln : ps.length ≤ cs.length := hln
        omega
      · rw [hset, putI_new hnew]
        show _ = S ++ [.dT (prK kf (if 2 < drawP cell rest m i then _ else _))]
        rw [if_pos h]
        unfold prK
        rw [List.map_append] <;> rfl
    · have h := of_decide_eq_false h
      show _ = S ++ [.dT (prK kf (if 2 < drawP cell rest m i then _ else _))]
      rw [if_neg h]
  · rintro G' S' ⟨g1, g2, rfl, rfl⟩
    rw [rngI_len, Int.toNat_natCast]
    refine ss_cons (ws_ret (ev_name 4) (back_same ?_ q))
    show S.length < (S ++ [_]).length
    rw [List.length_append]
    exact Nat.lt_succ_self _
theorem ok__law_prices (T : TT K mg) : OkF P w K mg base 2 "_law_prices" ["_law_cell", "_law_cells", "_law_mixed_here", "_law_times"] [] F_prices := okF_of (g__law_prices T) (d__law_prices T) (fun _ _ _ _ _ _ us hl => match us, hl with | [_, _, _, _], _ => rfl) fun fd Fd => fn__law_prices T Fd
end
end Pf
/-! K61B: the field; some of its cells. -/
namespace Pf
open PySem PySem.Spec PyProof.Rows L2 He Cu
def sqAt (h : Nat) (k : Int) : Int × Int := (k / (h : Int), k % (h : Int))
def clAt (h l : Nat) (k : Int) : WC := (k / (l : Int) / (h : Int), k / (l : Int) % (h : Int), k % (l : Int))
def wdN (ns : List Int) : Nat := 1 + (cellN ns 0 % 12).toNat
def hgN (ns : List Int) : Nat := 1 + (cellN ns 0 / 12 % 12).toNat
def lyN (ns : List Int) : Nat := 1 + (cellN ns 0 / 144 % 3).toNat
def sqL (ns : List Int) : List (Int × Int) := (List.range (wdN ns * hgN ns)).map fun (k : Nat) => sqAt (hgN ns) k
def clL (ns : List Int) : List WC := (List.range (wdN ns * hgN ns * lyN ns)).map fun (k : Nat) => clAt (hgN ns) (lyN ns) k
def oftN (ns : List Int) : Int := if cellN ns 0 / 432 % 3 = 1 then 1 + cellN ns 0 / 2592 % 10 ^ (20 : Int).toNat else 1
def mixN (ns : List Int) : Bool := decide (cellN ns 0 / 1296 % 2 = 1)
def prL (ns : List Int) : List (WC × Int) := prices (cellN ns 1) (oftN ns) (mixN ns) (clL ns)
def chL (ns : List Int) : List ((Int × Int) × Int) := prices (cellN ns 2) 1 (mixN ns) (sqL ns)
def sqK (q : Int × Int) : List Key := [.inl q.1, .inl q.2]
theorem keyD_sq (q : Int × Int) : keyD (pairI q) = some (sqK q) := rfl
theorem sqK_inj {c d : Int × Int} (h : sqK c = sqK d) : c = d := by
  injection h with h1 h2
  injection h2 with h2 _
  injection h1 with h1
  injection h2 with h2
  exact Prod.ext h1 h2
theorem wdN_eq (ns : List Int) : ((wdN ns : Nat) : Int) = 1 + cellN ns 0 % 12 ∧ 1 ≤ wdN ns ∧ wdN ns ≤ 12 := by
  unfold wdN
  have h1 := Int.emod_nonneg (cellN ns 0) (show (12 : Int) ≠ 0 by decide)
  have h2 := Int.emod_lt_of_pos (cellN ns 0) (show (0 : Int) < 12 by decide)
  omega
theorem hgN_eq (ns : List Int) : ((hgN ns : Nat) : Int) = 1 + cellN ns 0 / 12 % 12 ∧ 1 ≤ hgN ns ∧ hgN ns ≤ 12 := by
  unfold hgN
  have h1 := Int.emod_nonneg (cellN ns 0 / 12) (show (12 : Int) ≠ 0 by decide)
  have h2 := Int.emod_lt_of_pos (cellN ns 0 / 12) (show (0 : Int) < 12 by decide)
  omega
theorem lyN_eq (ns : List Int) : ((lyN ns : Nat) : Int) = 1 + cellN ns 0 / 144 % 3 ∧ 1 ≤ lyN ns ∧ lyN ns ≤ 3 := by
  unfold lyN
  have h1 := Int.emod_nonneg (cellN ns 0 / 144) (show (3 : Int) ≠ 0 by decide)
  have h2 := Int.emod_lt_of_pos (cellN ns 0 / 144) (show (0 : Int) < 3 by decide)
  omega
theorem oftN_pos (ns : List Int) : 1 ≤ oftN ns := by
  unfold oftN
  split
  · have := Int.emod_nonneg (cellN ns 0 / 2592) (show ((10 : Int) ^ (20 : Int).toNat) ≠ 0 by decide)
    omega
  · exact Int.le_refl _
theorem sqL_len (ns : List Int) : (sqL ns).length = wdN ns * hgN ns := by
  unfold sqL
  rw [List.length_map, List.length_range]
theorem clL_len (ns : List Int) : (clL ns).length = wdN ns * hgN ns * lyN ns := by
  unfold clL
  rw [List.length_map, List.length_range]
theorem few_sq (ns : List Int) : wdN ns * hgN ns ≤ 144 := Nat.mul_le_mul (wdN_eq ns).2.2 (hgN_eq ns).2.2
theorem few_cl (ns : List Int) : wdN ns * hgN ns * lyN ns ≤ 432 := Nat.mul_le_mul (few_sq ns) (lyN_eq ns).2.2
theorem sqAt_inj {h : Nat} {j k : Int} (e : sqAt h j = sqAt h k) : j = k := by
  injection e with e1 e2
  rw [← Int.mul_ediv_add_emod j h, ← Int.mul_ediv_add_emod k h, e1, e2]
theorem clAt_inj {h l : Nat} {j k : Int} (e : clAt h l j = clAt h l k) : j = k := by
  injection e with e1 e2
  injection e2 with e2 e3
  have e4 : j / (l : Int) = k / (l : Int) := sqAt_inj (h := h) (Prod.ext e1 e2)
  rw [← Int.mul_ediv_add_emod j l, ← Int.mul_ediv_add_emod k l, e4, e3]
theorem sqL_nd (ns : List Int) : (sqL ns).Nodup := List.pairwise_map.mpr (List.nodup_range.imp fun h e => h (Int.ofNat.inj (sqAt_inj e)))
theorem clL_nd (ns : List Int) : (clL ns).Nodup := List.pairwise_map.mpr (List.nodup_range.imp fun h e => h (Int.ofNat.inj (clAt_inj e)))
theorem sqL_at (ns : List Int) {k : Nat} (h : k < wdN ns * hgN ns) : (sqL ns)[k]? = some (sqAt (hgN ns) k) := by
  unfold sqL
  rw [List.getElem?_map, List.getElem?_range h] <;> rfl
theorem clL_at (ns : List Int) {k : Nat} (h : k < wdN ns * hgN ns * lyN ns) : (clL ns)[k]? = some (clAt (hgN ns) (lyN ns) k) := by
  unfold clL
  rw [List.getElem?_map, List.getElem?_range h] <;> rfl
def sqG (h : Nat) : Cu.It → PyData
  | .d (.int k) => pairI (sqAt h k)
  | _ => .none
def clG (h l : Nat) : Cu.It → PyData
  | .d (.int k) => wc (clAt h l k)
  | _ => .none
theorem sq_out (n h : Nat) : ((rngI 0 n).filter fun _ => true).map (sqG h) = ((List.range n).map fun (k : Nat) => sqAt h k).map pairI := by
  rw [List.filter_eq_self.mpr fun _ _ => rfl]
  show ((List.range n).map fun (j : Nat) => Cu.It.d (.int (0 + (j : Int)))).map (sqG h) = _
  rw [List.map_map, List.map_map]
  refine List.map_congr_left fun k _ => ?_
  show pairI (sqAt h (0 + (k : Int))) = _
  rw [Int.zero_add] <;> rfl
theorem cl_out (n h l : Nat) : ((rngI 0 n).filter fun _ => true).map (clG h l) = ((List.range n).map fun (k : Nat) => clAt h l k).map wc := by
  rw [List.filter_eq_self.mpr fun _ _ => rfl]
  show ((List.range n).map fun (j : Nat) => Cu.It.d (.int (0 + (j : Int)))).map (clG h l) = _
  rw [List.map_map, List.map_map]
  refine List.map_congr_left fun k _ => ?_
  show wc (clAt h l (0 + (k : Int))) = _
  rw [Int.zero_add] <;> rfl
def szN (ns : List Int) : PyData := .tuple [.int (wdN ns), .int (hgN ns), .int (lyN ns)]
def fieldO (ns : List Int) (n : Nat) : Sto := [.dT (prK wcK (prL ns)), .dT (prK sqK (chL ns)), .tup [.d (szN ns), .d (.list ((clL ns).map wc)), .o n, .o (n + 1)]]
def F_field : Fn := fun rs S QR _ => ∃ ns : List Int, rs = [.s ns] ∧ QR (.o (S.length + 2)) (S ++ fieldO ns S.length)
def someN (ns : List Int) (a : Int) : Nat := (cellN ns 3 / (if 4 < a then 6 else 1) % 6).toNat
def someC (ns : List Int) (a : Int) (k : Int) : WC := (clL ns).getD (cellN ns (a + k) % ((clL ns).length : Int)).toNat (0, 0, 0)
def someL (ns : List Int) (a : Int) : List WC := (List.range (someN ns a)).map fun (k : Nat) => someC ns a k
def F_some : Fn := fun rs S QR _ => ∃ (ns : List Int) (a : Int), rs = [.s ns, .d (.int a), .d (.list ((clL ns).map wc))] ∧ 0 ≤ a ∧ QR (.d (.list ((someL ns a).map wc))) S
def smG (ns : List Int) (a : Int) : Cu.It → PyData
  | .d (.int k) => wc (someC ns a k)
  | _ => .none
theorem sm_out (ns : List Int) (a : Int) (n : Nat) : ((rngI 0 n).filter fun _ => true).map (smG ns a) = ((List.range n).map fun (k : Nat) => someC ns a k).map wc := by
  rw [List.filter_eq_self.mpr fun _ _ => rfl]
  show ((List.range n).map fun (j : Nat) => Cu.It.d (.int (0 + (j : Int)))).map (smG ns a) = _
  rw [List.map_map, List.map_map]
  refine List.map_congr_left fun k _ => ?_
  show wc (someC ns a (0 + (k : Int))) = _
  rw [Int.zero_add] <;> rfl
section
variable {P : Program} {w : World} {K : PySem.W.Frag} {mg : Str → Option Value} {base : Heap}
theorem fn__law_field (T : TT K mg) {fd : FuncData} (Fd : FunD K "_law_field" "_law_field" (defArgs s__law_field) (defBody s__law_field) (defScope s__law_field) [] [] (ga K "_law_field") fd) : FnOk P w K mg base (L2.CX P w) 3 (ga K "_law_field") fd ["_law_script"] (spF K 1 F_field) := by
  refine fn_w Fd sc__law_field fun cdv A outer s H E rs S QR QE c hc hl hF => ?_
  obtain ⟨ns, rfl, q⟩ := hF
  have hw := wdN_eq ns; have hh := hgN_eq ns; have hly := lyN_eq ns
  have fs := few_sq ns; have fc := few_cl ns
  refine ss_cons (ws_set 1 c.nd (ev_call c (ok__law_cell_at T) (eva_cons (ev_name 0) (eva_cons ev_int eva_nil)) (fun QR QE q => ⟨ns, 0, rfl, by decide, q⟩)) ?_)
  refine ss_cons (ws_set 2 c.nd (r := .d (szN ns)) (Ev.is (ev_tup (eva_cons (ev_add ev_int (ev_mod (ev_name 1) ev_int (by decide))) (eva_cons (ev_add ev_int (ev_mod (ev_fdiv (ev_name 1) ev_int ⟨by decide, by decide⟩) ev_int (by decide))) (eva_cons (ev_add ev_int (ev_mod (ev_fdiv (ev_name 1) ev_int ⟨by decide, by decide⟩) ev_int (by decide))) eva_nil)))) (by unfold szN; rw [hw.1, hh.1, hly.1])) ?_)
  refine ss_cons (ws_set 3 c.nd (r := .d (.list ((sqL ns).map pairI))) (S1 := S) (Ev.is (ev_lc c (blkOk_by (by rfl)) (lc_pure (own := [("_law_k", 4)]) c (evi_range1 (n := ((wdN ns * hgN ns : Nat) : Int)) (z_range T) (Ev.is (ev_mul (ev_ixT (ev_name 2) ev_int (atI_nat (k := 0) rfl rfl)) (ev_ixT (ev_name 2) ev_int (atI_nat (k := 1) rfl rfl)) (.inl (by omega))) (by rw [Int.natCast_mul])) (by omega)) (tg_name 4 c.nd) (fun _ => true) (sqG (hgN ns)) (fun _ => trivial) (fun r hr => ?_) ?_)) ?_) ?_)
  · obtain ⟨j, hj, rfl⟩ := List.mem_map.mp hr
    refine ⟨_, rfl, fun L s H C cl fp => rfl, fun _ L s H C cl fp => ev_divmod (z_divmod T) (ev_name 4) (ev_ixT (ev_name 2) ev_int (atI_nat (k := 1) rfl rfl)) ⟨by omega, by omega⟩⟩
  · rw [rngI_len]; omega
  · exact congrArg (fun z => Cu.It.d (.list z)) (sq_out _ _)
  refine ss_cons (ws_setLc 5 c (blkOk_by (by rfl)) (lc_pure (own := [("_law_k", 4)]) c (evi_range1 (n := ((wdN ns * hgN ns * lyN ns : Nat) : Int)) (z_range T) (Ev.is (ev_mul (ev_len (l := wdN ns * hgN ns) (z_len T) (ev_name 3) (by show some _ = some _; rw [List.length_map, sqL_len])) (ev_ixT (ev_name 2) ev_int (atI_nat (k := 2) rfl rfl)) (.inl (by omega))) (by rw [Int.natCast_mul (wdN ns * hgN ns)])) (by omega)) (tg_name 4 c.nd) (fun _ => true) (clG (hgN ns) (lyN ns)) (fun _ => trivial) (fun r hr => ?_) ?_) ?_)
  · obtain ⟨j, hj, rfl⟩ := List.mem_map.mp hr
    have hj : j < wdN ns * hgN ns * lyN ns := List.mem_range.mp hj
    have hq : j / lyN ns < wdN ns * hgN ns := Nat.div_lt_of_lt_mul (by rw [Nat.mul_comm]; exact hj)
    have hat : atI ((sqL ns).map pairI) ((0 + (j : Int)) / (lyN ns : Int)) = some (pairI (sqAt (hgN ns) ((0 + (j : Int)) / (lyN ns : Int)))) := by
      refine atI_nat (k := j / lyN ns) (by rw [Int.zero_add]; exact (Int.natCast_ediv _ _).symm) ?_
      rw [List.getElem?_map, sqL_at ns hq, Int.zero_add, ← Int.natCast_ediv] <;> rfl
    exact ⟨_, rfl, fun L s H C cl fp => rfl, fun _ L s H C cl fp => ev_catTup (ev_ixL (ev_name 3) (ev_fdiv (ev_name 4) (ev_ixT (ev_name 2) ev_int (atI_nat (k := 2) rfl rfl)) ⟨by omega, by omega⟩) hat) (ev_tup (eva_cons (ev_mod (ev_name 4) (ev_ixT (ev_name 2) ev_int (atI_nat (k := 2) rfl rfl)) (by omega)) eva_nil)) (fun z => nomatch z) (fun z => nomatch z) (Nat.le_of_ble_eq_true rfl)⟩
  · rw [rngI_len]; show wdN ns * hgN ns * lyN ns ≤ _; omega
  rw [show ((wdN ns * hgN ns * lyN ns : Nat) : Int).toNat = wdN ns * hgN ns * lyN ns from rfl, cl_out]
  refine ss_cons (ws_set 6 c.nd ev_int ?_)
  refine ss_mid (J := fun G1 S1 => ∃ g4, G1 = [some (.s ns), some (.d (.int (cellN ns 0))), some (.d (szN ns)), some (.d (.list ((sqL ns).map pairI))), g4, some (.d (.list ((clL ns).map wc))), some (.d (.int (oftN ns))), none, none] ∧ S1 = S) ?_ ?_
  · refine ws_if (evt_eqI (ev_mod (ev_fdiv (ev_name 1) ev_int ⟨by decide, by decide⟩) ev_int (by decide)) ev_int) (fun h => ?_) (fun h => ss_nil ⟨none, ?_, rfl⟩)
    · refine ss_cons (ws_set 6 c.nd (ev_add ev_int (ev_mod (ev_fdiv (ev_name 1) ev_int ⟨by decide, by decide⟩) (ev_pow ev_int ev_int ⟨by decide, by decide, by decide⟩) (by decide))) (ss_nil ⟨none, ?_, rfl⟩))
      unfold oftN
      rw [if_pos (of_decide_eq_true h)] <;> rfl
    · unfold oftN
      rw [if_neg (of_decide_eq_false h)] <;> rfl
  rintro _ S1 ⟨g4, rfl, rfl⟩
  refine ss_cons (ws_set 7 c.nd (ev_call c (ok__law_prices T) (eva_cons (ev_call c (ok__law_cell_at T) (eva_cons (ev_name 0) (eva_cons ev_int eva_nil)) (fun QR QE q => ⟨ns, 1, rfl, by decide, q⟩)) (eva_cons (ev_name 5) (eva_cons (ev_eqI (ev_mod (ev_fdiv (ev_name 1) ev_int ⟨by decide, by decide⟩) ev_int (by decide)) ev_int) (eva_cons (ev_name 6) eva_nil)))) (fun QR QE q => ⟨WC, wc, wcK, _, _, mixN ns, clL ns, keyD_wc, fun _ _ => wcK_inj.mp, rfl, clL_nd ns, by rw [clL_len]; omega, q⟩)) ?_)
  refine ss_cons (ws_set 8 c.nd (ev_call c (ok__law_prices T) (eva_cons (ev_call c (ok__law_cell_at T) (eva_cons (ev_name 0) (eva_cons ev_int eva_nil)) (fun QR QE q => ⟨ns, 2, rfl, by decide, q⟩)) (eva_cons (ev_name 3) (eva_cons (ev_eqI (ev_mod (ev_fdiv (ev_name 1) ev_int ⟨by decide, by decide⟩) ev_int (by decide)) ev_int) (eva_cons ev_int eva_nil)))) (fun QR QE q => ⟨Int × Int, pairI, sqK, _, _, mixN ns, sqL ns, keyD_sq, fun _ _ => sqK_inj, rfl, sqL_nd ns, by rw [sqL_len]; omega, q⟩)) ?_)
  refine ss_cons (ws_ret (Ev.is2 (r' := .o (S1.length + 2)) (S2 := S1 ++ fieldO ns S1.length) (ev_tupO (eva_cons (ev_name 2) (eva_cons (ev_name 5) (eva_cons (ev_name 7) (eva_cons (ev_name 8) eva_nil)))) ⟨_, List.mem_cons_of_mem _ (List.mem_cons_of_mem _ List.mem_cons_self)⟩) ?_ ?_) (back_same ?_ q))
  · rw [List.length_append, List.length_append] <;> rfl
  · unfold fieldO
    rw [List.append_assoc, List.append_assoc, List.length_append] <;> rfl
  · show S1.length + 2 < (S1 ++ fieldO ns S1.length).length
    rw [List.length_append]
    show S1.length + 2 < S1.length + 3
    omega
theorem ok__law_field (T : TT K mg) : OkF P w K mg base 3 "_law_field" ["_law_script"] [] F_field := okF_of (g__law_field T) (d__law_field T) (fun _ _ _ _ _ _ us hl => match us, hl with | [_], _ => rfl) fun fd Fd => fn__law_field T Fd
theorem fn__law_some (T : TT K mg) {fd : FuncData} (Fd : FunD K "_law_some" "_law_some" (defArgs s__law_some) (defBody s__law_some) (defScope s__law_some) [] [] (ga K "_law_some") fd) : FnOk P w K mg base (L2.CX P w) 2 (ga K "_law_some") fd ["_law_script", "_law_at", "_law_cells"] (spF K 3 F_some) := by
  refine fn_w Fd sc__law_some fun cdv A outer s H E rs S QR QE c hc hl hF => ?_
  obtain ⟨ns, a, rfl, ha, q⟩ := hF
  have hw := wdN_eq ns; have hh := hgN_eq ns; have hly := lyN_eq ns
  have fc := few_cl ns
  have h1 : 1 ≤ wdN ns * hgN ns * lyN ns := Nat.mul_pos (Nat.mul_pos hw.2.1 hh.2.1) hly.2.1
  have hl0 : ((clL ns).length : Int) = ((wdN ns * hgN ns * lyN ns : Nat) : Int) := by rw [clL_len]
  have hn0 := Int.emod_nonneg (cellN ns 3 / (if 4 < a then 6 else 1)) (show (6 : Int) ≠ 0 by decide)
  have hn1 := Int.emod_lt_of_pos (cellN ns 3 / (if 4 < a then 6 else 1)) (show (0 : Int) < 6 by decide)
  have hsn : ((someN ns a : Nat) : Int) = cellN ns 3 / (if 4 < a then 6 else 1) % 6 := by unfold someN; omega
  refine ss_cons (ws_set 3 c.nd (r := .d (.int (someN ns a))) (Ev.is (ev_mod (n := 6) (ev_fdiv (n := if 4 < a then 6 else 1) (ev_call c (ok__law_cell_at T) (eva_cons (ev_name 0) (eva_cons ev_int eva_nil)) (fun QR QE q => ⟨ns, 3, rfl, by decide, q⟩)) (ev_ixL (ds := [.int 1, .int 6]) (ev_lst (eva_cons ev_int (eva_cons ev_int eva_nil))) (ev_intB (z_int T) (ev_gt (ev_name 1) ev_int)) ?_) ?_) ev_int (by decide)) (by rw [hsn])) ?_)
  · by_cases h : 4 < a
    · rw [if_pos h, decide_eq_true h] <;> rfl
    · rw [if_neg h, decide_eq_false h] <;> rfl
  · by_cases h : 4 < a
    · rw [if_pos h]; exact ⟨by decide, by decide⟩
    · rw [if_neg h]; exact ⟨by decide, by decide⟩
  refine ss_cons (ws_ret (r := .d (.list ((someL ns a).map wc))) (Ev.is (ev_lc c (blkOk_by (by rfl)) (lc_pure (own := [("_law_k", 4)]) c (evi_range1 (n := (someN ns a : Int)) (z_range T) (ev_name 3) (by omega)) (tg_name 4 c.nd) (fun _ => true) (smG ns a) (fun _ => trivial) (fun r hr => ?_) ?_)) ?_) (back_d q))
  · obtain ⟨j, hj, rfl⟩ := List.mem_map.mp hr
    have hm0 := Int.emod_nonneg (cellN ns (a + (0 + (j : Int)))) (show ((clL ns).length : Int) ≠ 0 by omega)
    have hm1 := Int.emod_lt_of_pos (cellN ns (a + (0 + (j : Int)))) (show 0 < ((clL ns).length : Int) by omega)
    refine ⟨_, rfl, fun L s H C cl fp => rfl, fun _ L s H C cl fp => ev_ixL (ev_name 2) (ev_mod (ev_call (c.blk _ _ _ _ _ _) (ok__law_cell_at T) (eva_cons (ev_name 0) (eva_cons (ev_add (ev_name 1) (ev_name 4)) eva_nil)) (fun QR QE q => ⟨ns, _, rfl, by omega, q⟩)) (ev_len (l := (clL ns).length) (z_len T) (ev_name 2) (by show some _ = some _; rw [List.length_map])) (by omega)) (atI_nat (k := (cellN ns (a + (0 + (j : Int))) % ((clL ns).length : Int)).toNat) (by omega) ?_)⟩
    show ((clL ns).map wc)[_]? = some (wc (someC ns a (0 + (j : Int))))
    unfold someC
    rw [List.getElem?_map, List.getD_eq_getElem?_getD, List.getElem?_eq_getElem (by omega)] <;> rfl
  · rw [rngI_len]; show someN ns a ≤ _; omega
  · exact congrArg (fun z => Cu.It.d (.list z)) (sm_out _ _ _)
theorem ok__law_some (T : TT K mg) : OkF P w K mg base 2 "_law_some" ["_law_script", "_law_at", "_law_cells"] [] F_some := okF_of (g__law_some T) (d__law_some T) (fun _ _ _ _ _ _ us hl => match us, hl with | [_, _, _], _ => rfl) fun fd Fd => fn__law_some T Fd
end
end Pf
/-! CyQ: a comprehension whose list is owned, its test may change the store. -/
namespace Cu
open PySem PySem.Spec PyProof.Rows L2
section
variable {X : Cx} {W : WX} {k j : Nat} {G G1 G2 : Gam} {S S1 S2 S3 : Sto} {P : Post} {e a b o iter tg elt : Expr} {es ifs : List Expr} {r y z r' : It} {rs : List It} {scope : Scope} {own : List (Str × Nat)}
theorem lc_ownT {tt : Expr} {bind : It → Gam → Option Gam} {C : Sto → Prop} (c : Cxo X W k) (hi : EvI X tg iter G S rs C S1) (ht : TgOk X scope tg (own.map (·.2)) bind) (J : Nat → Sto → Prop) (h0 : J 0 (S1 ++ [.lst []])) (hC : ∀ i S', J i S' → C S')
    (hs : ∀ i r S', rs[i]? = some r → J i S' → ∃ G' b S'', bind r (wipeG G (own.map (·.2))) = some G' ∧ (∀ s H C cl fp, EvT (blkX X scope s H C cl fp) tt G' S' b S'') ∧
      (b = true → ∃ y S3 acc, (∀ s H C cl fp, Ev (blkX X scope s H C cl fp) elt G' S'' y S3) ∧ S3[S1.length]? = some (.lst acc) ∧ acc.length < 1000000 ∧ J (i + 1) (S3.set S1.length (.lst (acc ++ [y])))) ∧ (b = false → J (i + 1) S''))
    (hd : ∀ S', J rs.length S' → S' = S2) : LcOwn X scope own elt tg iter [tt] G S S1.length S2 := by
  obtain ⟨g, hpg, hg⟩ := ht.ex
  obtain ⟨wi, hpi, hw⟩ := hi
  refine ⟨wi, g, hpi, hpg, fun M σ H Q s q => hw M σ H _ s fun M1 H1 Jt e1 t1 wk => ?_⟩
  intro D hD
  have eD : Ext M1 H1 (M1 ++ [D]) (upd H1 D (.lst [])) := Ext.own hD
  have ww : ∀ (vs us : List Nat) (σ : Sig), (∀ v ∈ us, v ∈ vs) → wipe (wipe σ us) vs = wipe σ vs := by
    intro vs us
    induction us with
    | nil => intro σ _; rfl
    | cons u r ih =>
      intro σ hm
      show wipe ((wipe σ r).set u none) vs = _
      rw [wipe_set _ (hm u List.mem_cons_self), ih σ fun v hv => hm v (List.mem_cons_of_mem _ hv)]
  have hDn : (M1 ++ [D])[S1.length]? = some D := by rw [← t1.sto.len, List.getElem?_append_right (Nat.le_refl _), Nat.sub_self]; rfl
  refine ⟨fun i m' H' => (m' = rs.length - i ∧ i ≤ rs.length) ∧ ∃ M' S', Ext (M1 ++ [D]) (upd H1 D (.lst [])) M' H' ∧ Stt X.K M' H' S' G σ ∧ J i S',
    ⟨_, ⟨rfl, Nat.zero_le _⟩, M1 ++ [D], _, Ext.refl, t1.mono eD (t1.sto.own (w := .lst ([] : List It)) hD ⟨[], upd_same, .nil⟩), h0⟩, fun i m' H' hw' => ?_⟩
  obtain ⟨⟨rfl, hi'⟩, M', S', e', t', hJ⟩ := hw'
  have cS := hC i S' hJ
  by_cases hlt : i < rs.length
  · refine .inr ⟨wk.go i _ H' _ hlt (eD.trans e') t'.sto cS, fun H2 => ∃ M2 S2, Ext (M1 ++ [D]) (upd H1 D (.lst [])) M2 H2 ∧ Stt X.K M2 H2 S2 G σ ∧ J (i + 1) S2, fun H2 q => ⟨rs.length - (i + 1), by omega, ⟨rfl, by omega⟩, q⟩, fun x H2 y => ?_⟩
    have hri : rs[i]? = some rs[i] := List.getElem?_eq_getElem hlt
    obtain ⟨ey, sy, vy⟩ := wk.yl i _ H' _ x H2 _ hri (eD.trans e') t'.sto cS y
    have ty : Stt X.K M' H2 S' G σ := t'.mono ey sy
    have e2 := e'.trans ey
    obtain ⟨G', b, S'', hb, hT, hy, hn⟩ := hs i _ S' hri hJ
    refine hg M' H2 S' (wipeG G (own.map fun (p : Str × Nat) => p.2)) G' (wipe σ (own.map fun (p : Str × Nat) => p.2)) x rs[i] _ (ty.wipe _) vy hb ?_
    intro σ2 t2 w2
    refine ⟨w2.trans (ww _ _ _ fun _ h => h), ?_⟩
    have fin : ∀ (M3 : List Addr) (H3 : Hp), Ext M' H2 M3 H3 → Stt X.K M3 H3 S'' G' σ2 → (if b = true then tEl X scope elt σ2 H3 fun y H4 => ∃ acc, H4 D = some (.lst acc) ∧ acc.length < sizeLine ∧ ∃ M2 S2, Ext (M1 ++ [D]) (upd H1 D (.lst [])) M2 (upd H4 D (.lst (acc ++ [y]))) ∧ Stt X.K M2 (upd H4 D (.lst (acc ++ [y]))) S2 G σ ∧ J (i + 1) S2
        else ∃ M2 S2, Ext (M1 ++ [D]) (upd H1 D (.lst [])) M2 H3 ∧ Stt X.K M2 H3 S2 G σ ∧ J (i + 1) S2) := by
      intro M3 H3 e3 t3
      cases b with
      | false => exact iteF ⟨M3, S'', e2.trans e3, ty.mono e3 t3.sto, hn rfl⟩
      | true =>
        refine iteT fun s0 H0 C cl fp => ?_
        obtain ⟨y, S3, acc, hE, hSn, hacc, hJ3⟩ := hy rfl
        refine hE s0 H0 C cl fp M3 σ2 H3 _ t3 fun v4 M4 H4 e4 t4 r4 => ?_
        have hD4 : M4[S1.length]? = some D := (e4.get (e3.get (e2.get hDn)))
        obtain ⟨vs4, hv4, hr4⟩ := t4.sto.rep _ _ _ hD4 hSn
        have e5 : Ext M4 H4 M4 (upd H4 D (.lst (vs4 ++ [v4]))) := Ext.put (List.mem_of_getElem? hD4)
        have s5 := t4.sto.put (w := .lst (acc ++ [y])) hD4 ⟨vs4 ++ [v4], upd_same, VReps.append (VReps.ext e5 hr4) (.cons (r4.ext e5) .nil)⟩
        refine ⟨vs4, hv4, by rw [hr4.len, sizeLine_eq]; omega, M4, _, ((e2.trans e3).trans e4).trans e5, ty.mono ((e3.trans e4).trans e5) s5, hJ3⟩
    intro s0 H0 C cl fp
    have hT' := hT s0 H0 C cl fp
    exact hT' M' σ2 H2 _ t2 fun M4 H4 e4 t4 => fin M4 H4 e4 t4
  · have ei : i = rs.length := by omega
    subst ei
    refine .inl ⟨wk.st _ _ H' _ (Nat.le_refl _) (eD.trans e') t'.sto cS, ?_⟩
    obtain rfl := hd S' hJ
    exact q (.ref D) M' H' (e1.trans (eD.trans e')) t' ⟨D, e'.get hDn, rfl⟩
end
end Cu
/-! KWave2: spread, walked. -/
namespace Pf
open PySem PySem.Spec PyProof.Rows L2 He Cu
def Wv.sl {α : Type} (v : Wv α) (cs : List WC) (x : α) : α := cs.foldl (fun x c => v.s1 c x) x
def enS (F : Fld) (cs : List WC) : List (WC × Option WC) := (cs.filter fun s => (F.pr s).isSome).map fun s => (s, none)
theorem isNone_numO (o : Option Int) : (!isNone (.d (numO o))) = o.isSome := by cases o <;> rfl
theorem isNone_cellO (o : Option WC) : (!isNone (.d (cellO o))) = o.isSome := by cases o <;> rfl
theorem drop_at {β : Type} {l : List β} {i : Nat} {a : β} (h : l[i]? = some a) : l.drop i = a :: l.drop (i + 1) := by
  obtain ⟨hi, e⟩ := List.getElem?_eq_some_iff.mp h
  rw [List.drop_eq_getElem_cons hi, e]
theorem take_at {β : Type} {l : List β} {i : Nat} {a : β} (h : l[i]? = some a) : l.take (i + 1) = l.take i ++ [a] := by rw [List.take_add_one, h] <;> rfl
section
variable {P : Program} {w : World} {K : PySem.W.Frag} {mg : Str → Option Value} {base : Heap} {α : Type} {v : Wv α} {k : Nat}
theorem Wv.Ok.msl (ok : v.Ok P w K mg base k) : ∀ (cs : List WC) (x : α), v.mm (v.sl cs x) ≤ v.mm x + cs.length
  | [], x => Nat.le_refl _
  | c :: cs, x => by
    have h1 := ok.msl cs (v.s1 c x)
    have h2 := ok.m1 c x
    show v.mm (v.sl cs (v.s1 c x)) ≤ _
    rw [List.length_cons]
    omega
theorem Wv.sl_snoc (cs : List WC) (c : WC) (x : α) : v.sl (cs ++ [c]) x = v.s1 c (v.sl cs x) := by
  unfold Wv.sl
  rw [List.foldl_append] <;> rfl
theorem enS_snoc (F : Fld) (cs : List WC) (c : WC) : enS F (cs ++ [c]) = enS F cs ++ (if (F.pr c).isSome = true then [(c, none)] else []) := by
  unfold enS
  rw [List.filter_append, List.map_append]
  congr 1
  rw [List.filter_cons]
  by_cases h : (F.pr c).isSome = true
  · rw [if_pos h, if_pos h] <;> rfl
  · rw [if_neg h, if_neg h] <;> rfl
theorem enS_len (F : Fld) (cs : List WC) : (enS F cs).length ≤ cs.length := by
  unfold enS
  rw [List.length_map]
  exact List.length_filter_le _ _
end
def F_spread (P : Program) (w : World) (K : PySem.W.Frag) (mg : Str → Option Value) (base : Heap) (k : Nat) : Fn := fun rs S QR _ => ∃ (α : Type) (v : Wv α) (x : α) (starts : List WC), v.Ok P w K mg base k ∧ rs = [.d (szD v.F), .o v.n1, .o v.n2, .d (.list (starts.map wc))] ∧ S = v.st x [] ∧ (∀ s ∈ starts, v.F.has s = true) ∧ starts.length ≤ 1000 ∧ v.mm x < 800000 ∧
  ∀ (y : α) (R : List Num) (L : Sto) (t : Nat), WaveOk v.F starts R → v.mm y ≤ v.mm x + 5000 → L[0]? = some (.dT (numK R)) → L[1]? = some (.dT (ahK R)) → L[t]? = some (.tup [.o (v.S0.length + 0), .o (v.S0.length + 1)]) → QR (.o (v.S0.length + t)) (v.st y L)
section
variable {P : Program} {w : World} {K : PySem.W.Frag} {mg : Str → Option Value} {base : Heap}
theorem fn_spread {k : Nat} (T : TT K mg) {fd : FuncData} (Fd : FunD K "spread" "spread" (defArgs s_spread) (defBody s_spread) (defScope s_spread) [] [] (ga K "spread") fd) : FnOk P w K mg base (L2.CX P w) (k + 2) (ga K "spread") fd ["size", "price", "through", "starts"] (spF K 4 (F_spread P w K mg base k)) := by
  refine fn_w Fd sc_spread fun cdv A outer s H E rs S QR QE c hc hl hF => ?_
  obtain ⟨α, v, x, starts, ok, rfl, rfl, hst, hsl, hm, q⟩ := hF
  have hC : v.F.cells.length ≤ 432 := Fld.cells_len ok.f
  refine ss_cons (ws_set 4 c.nd (r := .o (v.S0.length + 0)) (S1 := v.st x [.dT []]) (Ev.is2 ev_dNewT (by rw [st_len] <;> rfl) st_app) ?_)
  refine ss_cons (ws_set 5 c.nd (r := .o (v.S0.length + 1)) (S1 := v.st x [.dT [], .dT []]) (Ev.is2 ev_dNewT (by rw [st_len] <;> rfl) st_app) ?_)
  refine ss_cons (ws_set 6 c.nd (r := .o (v.S0.length + 2)) (S1 := v.st (v.sl starts x) [.dT [], .dT [], .dK [(.inl 0, .o (v.S0.length + 3))], .lst (entL (enS v.F starts))]) (Ev.is2 (ev_disp1K (kd := .int 0) (kk := .inl 0) (r := .o (v.S0.length + 3)) (S1 := v.st x [.dT [], .dT [], .dK []]) (S2 := v.st (v.sl starts x) [.dT [], .dT [], .dK [], .lst (entL (enS v.F starts))]) (Ev.is2 ev_int rfl st_app) (Ev.is2 (ev_lcO c (blkOk_by (by rfl)) (lc_ownT (own := [("cell", 7)]) c (evi_list (ds := starts.map wc) (ev_name 3)) (tg_name 7 c.nd)
    (fun i S' => S' = v.st (v.sl (starts.take i) x) [.dT [], .dT [], .dK [], .lst (entL (enS v.F (starts.take i)))]) st_app (fun _ _ _ => trivial) ?_ ?_)) ?_ rfl) ?_ rfl) ?_ ?_) ?_)
  · rintro i r S' hr rfl
    rw [List.getElem?_map, List.getElem?_map] at hr
    cases hx : starts[i]? with
    | none => rw [hx] at hr; cases hr
    | some s =>
      rw [hx] at hr
      cases hr
      have hlen : (entL (enS v.F (starts.take i))).length < 1000000 := by
        unfold entL
        rw [List.length_map, List.length_map]
        have h1 := enS_len v.F (starts.take i)
        rw [List.length_take] at h1
        omega
      have hmm : v.mm (v.sl (starts.take i) x) < 900000 := by
        have h1 := ok.msl (starts.take i) x
        rw [List.length_take] at h1
        omega
      refine ⟨_, (v.F.pr s).isSome, v.st (v.s1 s (v.sl (starts.take i) x)) [.dT [], .dT [], .dK [], .lst (entL (enS v.F (starts.take i)))], rfl, fun s0 H0 C cl fp => EvT.is (evt_notN (r := .d (numO (v.F.pr s))) (ev_callV 1 (c.blk _ _ _ _ _ _) rfl rfl ok.o1 (eva_cons (ev_name 7) eva_nil) (st_old ok.f1 ok.e1) (st_old ok.f1 ok.e1) (fun QR QE q => ⟨s, _, _, rfl, rfl, hst s (List.mem_of_getElem? hx), hmm, q⟩) (Nat.le_succ _) ok.l1.symm (by first | exact Or.inl rfl | exact Or.inr (Or.inl rfl) | exact Or.inr (Or.inr rfl)))) (isNone_numO _), fun hb => ⟨.d (entI (s, none)), _, entL (enS v.F (starts.take i)), fun s0 H0 C cl fp => ev_tup (eva_cons (ev_name 7) (eva_cons ev_none eva_nil)), ?_, hlen, ?_⟩, fun hb => ?_⟩
      · rw [st_len, st_get] <;> rfl
      · rw [st_len, st_put, take_at hx, Wv.sl_snoc, enS_snoc, if_pos hb, entL_snoc] <;> rfl
      · rw [take_at hx, Wv.sl_snoc, enS_snoc, if_neg (by rw [hb]; exact Bool.false_ne_true), List.append_nil]
  · rintro S' rfl
    rw [show ((starts.map wc).map Cu.It.d).length = starts.length by rw [List.length_map, List.length_map], List.take_length]
  · rw [st_len] <;> rfl
  · rw [st_len, st_get] <;> rfl
  · rw [st_len] <;> rfl
  · rw [st_len, st_put] <;> rfl
  have w0 : Wt v.S0.length starts.length [] [(0, 3, enS v.F starts)] [.dT [], .dT [], .dK [(.inl 0, .o (v.S0.length + 3))], .lst (entL (enS v.F starts))] := ⟨rfl, rfl, rfl, fun q hq => by rw [List.mem_singleton.mp hq] <;> rfl, List.pairwise_singleton _ _, List.pairwise_singleton _ _, fun q hq => by rw [List.mem_singleton.mp hq]; exact Nat.le_refl _, fun q hq => by rw [List.mem_singleton.mp hq]; exact enS_len _ _⟩
  have r0 : Rnd v.F starts [] (entsW [(0, 3, enS v.F starts)]) [] := (Rnd.start ok.f hst).sub fun z => by
    unfold entsW enS
    rw [List.flatMap_cons, List.flatMap_nil, List.append_nil, List.map_map]
    exact Iff.rfl
  refine ss_cons (ws_while c (fun N G' S' => ∃ Tn y R ws L g7 g8 g9 g10 g11 g12, G' = [some (.d (szD v.F)), some (.o v.n1), some (.o v.n2), some (.d (.list (starts.map wc))), some (.o (v.S0.length + 0)), some (.o (v.S0.length + 1)), some (.o (v.S0.length + 2)), g7, g8, g9, g10, g11, g12] ∧ S' = v.st y L ∧ Wt v.S0.length Tn R ws L ∧ Rnd v.F starts R (entsW ws) [] ∧
    Tn ≤ starts.length + 7 * R.length ∧ v.mm y ≤ v.mm x + Tn ∧ ws.length + 7 * v.F.cells.length ≤ N + 7 * R.length ∧ N ≤ 4000) (7 * v.F.cells.length + 1) ⟨starts.length, _, [], _, _, _, _, _, _, _, _, rfl, rfl, w0, r0, Nat.le_add_right _ _, ok.msl _ _, by show 1 + _ ≤ _; omega, by omega⟩ ?_)
  rintro N G' S' ⟨Tn, y, R, ws, L, g7, g8, g9, g10, g11, g12, rfl, rfl, hW, hR, hT, hmy, hN, hN2⟩
  have hfew := hR.few ok.f
  refine ⟨!(kvW v.S0.length ws).isEmpty, v.st y (L ++ [Own.dK []]), evt_neE c (ev_name 6) (Ev.is2 ev_dNewK (by rw [st_len]) st_app) (by rw [st_get]; exact (hW.more _).n2) (st_end _), fun hb => ?_, fun hb => ?_⟩
  · have hne : ws ≠ [] := fun z => by subst z; cases hb
    have hn1 : 1 ≤ N := by
      have : 1 ≤ ws.length := List.length_pos_iff.mpr hne
      omega
    obtain ⟨m, hmm, hle⟩ := least (ws.map (·.1)) (by simpa using hne)
    obtain ⟨p, hp, rfl⟩ := List.mem_map.mp hmm
    have hW := hW.more [Own.dK []]
    obtain ⟨e1, e2, e3, e4, e5, e6⟩ := hW.pop hp
    have hR := hR.sub e6
    refine ss_cons (ws_set 8 c.nd (ev_minDK c (z_min T) (ev_name 6) (by rw [st_get]; exact hW.n2) (ns := ws.map (·.1)) (by unfold kvW; rw [List.map_map, List.map_map] <;> rfl) hmm hle) ?_)
    refine ss_cons (ws_for c (S1 := v.st y ((L ++ [Own.dK []]).set 2 (.dK (kvW v.S0.length (dropW ws p.1))))) (rs := entL p.2.2) (evi_own (n := v.S0.length + p.2.1) (Ev.is2 (ev_dpopK (kd := .int p.1) (kk := .inl p.1) (ev_name 6) (by rw [st_get]; exact hW.n2) (ev_name 8) (by rw [st_get]; exact hW.n2) rfl e1) rfl (by rw [st_put, e2])) (by rw [st_get]; exact e4.at_))
      (fun i G' S' => ∃ Tn y R ws L g7 g9 g10 g11 g12, G' = [some (.d (szD v.F)), some (.o v.n1), some (.o v.n2), some (.d (.list (starts.map wc))), some (.o (v.S0.length + 0)), some (.o (v.S0.length + 1)), some (.o (v.S0.length + 2)), g7, some (.d (.int p.1)), g9, g10, g11, g12] ∧ S' = v.st y L ∧ Wt v.S0.length Tn R ws L ∧ Kp p.2.1 (entL p.2.2) ws L ∧
        Rnd v.F starts R ((p.2.2.drop i).map (fun e => ((p.1, e) : Ent)) ++ entsW ws) [] ∧ (∀ z ∈ entsW ws, p.1 ≤ z.1) ∧ Tn ≤ starts.length + 7 * R.length ∧ v.mm y ≤ v.mm x + Tn ∧ ws.length + 1 + 7 * v.F.cells.length ≤ N + 7 * R.length)
      (fun r G => match r with | .d (.tuple [d0, d1]) => (G.set 7 (some (.d d0))).set 9 (some (.d d1)) | _ => G) ⟨Tn, y, R, _, _, _, _, _, _, _, rfl, rfl, e3, e4, hR, fun z hz => ?_, hT, hmy, by omega⟩ ?_ ?_ ?_ ?_)
    · obtain ⟨q', hq', e, _⟩ := mem_entsW.mp ((e6 z).mp (List.mem_append_right _ hz))
      rw [e]
      exact hle _ (List.mem_map_of_mem hq')
    · rintro i G' S' ⟨Tn, y, R, ws, L, g7, g9, g10, g11, g12, rfl, rfl, hW, hK, _⟩
      rw [st_get]; exact hK.at_
    · rintro i r G' S' hr ⟨Tn, y, R, ws, L, g7, g9, g10, g11, g12, rfl, rfl, _⟩
      unfold entL at hr
      rw [List.getElem?_map, List.getElem?_map] at hr
      cases hx : p.2.2[i]? with
      | none => rw [hx] at hr; cases hr
      | some e =>
        rw [hx] at hr
        cases hr
        exact evg_tup (ds := [wc e.1, cellO e.2]) c.calm (evgs_cons (evg_name 7 c.nd) (evgs_cons (evg_name 9 c.nd) evgs_nil))
    · rintro i r G' S' hr ⟨Tn, y, R, ws, L, g7, g9, g10, g11, g12, rfl, rfl, hW, hK, hR, hlo, hT, hmy, hN⟩
      unfold entL at hr
      rw [List.getElem?_map, List.getElem?_map] at hr
      cases hx : p.2.2[i]? with
      | none => rw [hx] at hr; cases hr
      | some e =>
        obtain ⟨cl, bk⟩ := e
        rw [hx] at hr
        cases hr
        rw [drop_at hx] at hR
        have hfew := hR.few ok.f
        refine ss_cons (ws_if (evt_dnotinT c (ev_name 7) (ev_name 4) (by rw [st_get]; exact hW.n0) (keyD_wc cl)) (fun hb => ?_) (fun hb => ?_))
        · have hout : cl ∉ R.map (·.1) := fun z => by
            rw [numK_in, decide_eq_true z] at hb
            cases hb
          have hR : Rnd v.F starts R ((p.1, cl, bk) :: ((p.2.2.drop (i + 1)).map (fun e => ((p.1, e) : Ent)) ++ entsW ws)) [] := hR
          have hlim : ∀ z ∈ (p.2.2.drop (i + 1)).map (fun e => ((p.1, e) : Ent)) ++ entsW ws, p.1 ≤ z.1 := fun z hz => by
            rcases List.mem_append.mp hz with hz | hz
            · obtain ⟨_, _, rfl⟩ := List.mem_map.mp hz
              exact Int.le_refl _
            · exact hlo z hz
          have hin : v.F.has cl = true := (hR.pend _ List.mem_cons_self).1
          have hR' := hR.add hout hlim
          have hmax : ∀ e ∈ R ++ [(cl, p.1, bk)], e.2.1 ≤ p.1 := fun e he => by
            rcases List.mem_append.mp he with he | he
            · exact hR.mono e he _ List.mem_cons_self
            · rw [List.mem_singleton.mp he]; exact Int.le_refl _
          have hme : (cl, p.1, bk) ∈ R ++ [(cl, p.1, bk)] := List.mem_append_right _ List.mem_cons_self
          have hRl : (R ++ [(cl, p.1, bk)]).length = R.length + 1 := List.length_append
          have hst6 := Fld.steps_len ok.f hin
          have hK3 := hK.n3
          refine ss_cons (ws_dputT c (ev_name 8) (ev_name 4) (ev_name 7) (by rw [st_get]; exact hW.n0) (keyD_wc cl) (by unfold numK; rw [List.length_map]; omega) ?_)
          rw [numK_put (e := (cl, p.1, bk)) hout, st_put]
          refine ss_cons (ws_dputT c (ev_name 9) (ev_name 5) (ev_name 7) (by rw [st_get, List.getElem?_set_ne (by decide)]; exact hW.n1) (keyD_wc cl) (by unfold ahK; rw [List.length_map]; omega) ?_)
          rw [ahK_put (e := (cl, p.1, bk)) hout, st_put]
          have hmy' := ok.m2 cl.1 cl.2.1 y
          have hmx : v.mm (v.sx cl y) ≤ v.mm y + 1 := by
            unfold Wv.sx
            by_cases h : 1 < v.F.l
            · rw [if_pos h]; exact hmy'
            · rw [if_neg h]; omega
          refine ss_cons (ws_for c (evi_list (ds := (v.F.steps cl).map stD) (ev_call c (ok_steps T) (eva_cons (ev_name 0) (eva_cons (ev_name 2) (eva_cons (ev_name 7) eva_nil))) (fun QR QE q => ⟨α, v, cl, y, _, ok, rfl, rfl, hin, by omega, q⟩) (Nat.le_refl _)))
            (fun j G' S' => ∃ Tn y ws L g10 g11 g12, G' = [some (.d (szD v.F)), some (.o v.n1), some (.o v.n2), some (.d (.list (starts.map wc))), some (.o (v.S0.length + 0)), some (.o (v.S0.length + 1)), some (.o (v.S0.length + 2)), some (.d (wc cl)), some (.d (.int p.1)), some (.d (cellO bk)), g10, g11, g12] ∧ S' = v.st y L ∧ Wt v.S0.length Tn (R ++ [(cl, p.1, bk)]) ws L ∧ Kp p.2.1 (entL p.2.2) ws L ∧
              Rnd v.F starts (R ++ [(cl, p.1, bk)]) ((p.2.2.drop (i + 1)).map (fun e => ((p.1, e) : Ent)) ++ entsW ws) (((v.F.steps cl).drop j).map fun d => (cl, d.1, d.2)) ∧ (∀ z ∈ entsW ws, p.1 ≤ z.1) ∧ Tn + 6 ≤ starts.length + 7 * (R ++ [(cl, p.1, bk)]).length + j ∧ v.mm y ≤ v.mm x + Tn ∧ ws.length + 8 + 7 * v.F.cells.length ≤ N + 7 * (R ++ [(cl, p.1, bk)]).length + j)
            (fun r G => match r with | .d (.tuple [d0, d1]) => (G.set 10 (some (.d d0))).set 11 (some (.d d1)) | _ => G) ⟨Tn + 1, v.sx cl y, ws, _, _, _, _, rfl, rfl, hW.add.up (Nat.le_succ _), (hK.set (by omega)).set (by omega), hR', hlo, by omega, by omega, by omega⟩ (fun _ _ _ _ => trivial) ?_ ?_ ?_)
          · rintro j r G' S' hr ⟨Tn, y, ws, L, g10, g11, g12, rfl, rfl, _⟩
            rw [List.getElem?_map, List.getElem?_map] at hr
            cases hx2 : (v.F.steps cl)[j]? with
            | none => rw [hx2] at hr; cases hr
            | some d =>
              rw [hx2] at hr
              cases hr
              exact evg_tup (ds := [wc d.1, .int d.2]) c.calm (evgs_cons (evg_name 10 c.nd) (evgs_cons (evg_name 11 c.nd) evgs_nil))
          · rintro j r G' S' hr ⟨Tn, y, ws, L, g10, g11, g12, rfl, rfl, hW, hK, hR, hlo, hT, hmy, hN⟩
            rw [List.getElem?_map, List.getElem?_map] at hr
            cases hx2 : (v.F.steps cl)[j]? with
            | none => rw [hx2] at hr; cases hr
            | some d =>
              obtain ⟨o, ch⟩ := d
              rw [hx2] at hr
              cases hr
              rw [drop_at hx2] at hR
              have hR : Rnd v.F starts (R ++ [(cl, p.1, bk)]) ((p.2.2.drop (i + 1)).map (fun e => ((p.1, e) : Ent)) ++ entsW ws) ((cl, o, ch) :: ((v.F.steps cl).drop (j + 1)).map fun d => (cl, d.1, d.2)) := hR
              have hstep : (o, ch) ∈ v.F.steps cl := List.mem_of_getElem? hx2
              have hj : j < (v.F.steps cl).length := (List.getElem?_eq_some_iff.mp hx2).1
              have hpin := Fld.steps_in ok.f hin hstep
              have hfew := hR.few ok.f
              have hm1 := ok.m1 o y
              have hwl : ws.length < 1000000 := by omega
              refine ss_cons (ws_set 12 c.nd (r := .d (numO (v.F.pr o))) (S1 := v.st (v.s1 o y) L) (ev_callV 1 c rfl rfl ok.o1 (eva_cons (ev_name 10) eva_nil) (st_old ok.f1 ok.e1) (st_old ok.f1 ok.e1) (fun QR QE q => ⟨o, y, L, rfl, rfl, hpin.1, by omega, q⟩) (Nat.le_succ _) ok.l1.symm (by first | exact Or.inl rfl | exact Or.inr (Or.inl rfl) | exact Or.inr (Or.inr rfl))) ?_)
              refine ss_cons (ws_if (evt_w (evw_and (EvT.is (evt_notN (r := .d (numO (v.F.pr o))) (ev_name 12)) (isNone_numO _)) fun _ => evw_and1 (evt_dnotinT c (ev_name 10) (ev_name 4) (by rw [st_get]; exact hW.n0) (keyD_wc o)))) (fun hb => ?_) (fun hb => ?_))
              · rw [Bool.and_eq_true, numK_in] at hb
                obtain ⟨hb1, hb2⟩ := hb
                obtain ⟨pr, hpr⟩ := Option.isSome_iff_exists.mp hb1
                have hpu := hR.push ok.f hme hmax hstep hpr
                have hpr0 := ok.f.pp _ _ hpr
                have fin : ∀ {ws' : List Wq} {L' : Sto} {g12 : Option Cu.It}, Wt v.S0.length (Tn + 1) (R ++ [(cl, p.1, bk)]) ws' L' → Kp p.2.1 (entL p.2.2) ws' L' → ws'.length ≤ ws.length + 1 → (∀ z, z ∈ entsW ws' ↔ z ∈ ((p.1 + pr + ch, o, some cl) : Ent) :: entsW ws) → ∃ Tn' y' ws'' L'' g10' g11' g12', [some (.d (szD v.F)), some (.o v.n1), some (.o v.n2), some (.d (.list (starts.map wc))), some (.o (v.S0.length + 0)), some (.o (v.S0.length + 1)), some (.o (v.S0.length + 2)), some (.d (wc cl)), some (.d (.int p.1)), some (.d (cellO bk)), some (.d (wc o)), some (.d (.int ch)), g12] = [some (.d (szD v.F)), some (.o v.n1), some (.o v.n2), some (.d (.list (starts.map wc))), some (.o (v.S0.length + 0)), some (.o (v.S0.length + 1)), some (.o (v.S0.length + 2)), some (.d (wc cl)), some (.d (.int p.1)), some (.d (cellO bk)), g10', g11', g12'] ∧ v.st (v.s1 o y) L' = v.st y' L'' ∧ Wt v.S0.length Tn' (R ++ [(cl, p.1, bk)]) ws'' L'' ∧ Kp p.2.1 (entL p.2.2) ws'' L'' ∧
                    Rnd v.F starts (R ++ [(cl, p.1, bk)]) ((p.2.2.drop (i + 1)).map (fun e => ((p.1, e) : Ent)) ++ entsW ws'') (((v.F.steps cl).drop (j + 1)).map fun d => (cl, d.1, d.2)) ∧ (∀ z ∈ entsW ws'', p.1 ≤ z.1) ∧ Tn' + 6 ≤ starts.length + 7 * (R ++ [(cl, p.1, bk)]).length + (j + 1) ∧ v.mm y' ≤ v.mm x + Tn' ∧ ws''.length + 8 + 7 * v.F.cells.length ≤ N + 7 * (R ++ [(cl, p.1, bk)]).length + (j + 1) := fun {ws' L' g12} a b l e => by
                  refine ⟨Tn + 1, _, ws', L', _, _, _, rfl, rfl, a, b, hpu.sub fun z => ?_, fun z hz => ?_, by omega, by omega, by omega⟩
                  · rw [List.mem_append, e, List.mem_cons, List.mem_cons, List.mem_append]
                    exact or_left_comm
                  · rcases List.mem_cons.mp ((e z).mp hz) with rfl | hz
                    · show p.1 ≤ p.1 + pr + ch
                      have := hpin.2
                      omega
                    · exact hlo z hz
                rw [hpr]
                by_cases hk : p.1 + pr + ch ∈ ws.map (·.1)
                · obtain ⟨q', hq', eq'⟩ := List.mem_map.mp hk
                  have hv : valI (kvW v.S0.length ws) (.inl (p.1 + pr + ch)) = some (.o (v.S0.length + q'.2.1)) := by rw [← eq']; exact (hW.pop hq').1
                  have hlen : (entL q'.2.2).length < 1000000 := by
                    have := hW.len q' hq'
                    unfold entL
                    rw [List.length_map, List.length_map]
                    omega
                  obtain ⟨a1, a2, a3, a4⟩ := hW.push_old (e := (o, some cl)) hK hq'
                  refine ss_cons (ws_expr (ev_append (i := v.S0.length + q'.2.1) (xs := entL q'.2.2) (S1 := v.st (v.s1 o y) L) (Ev.is2 (ev_setdefault (kd := .int (p.1 + pr + ch)) (kk := .inl (p.1 + pr + ch)) (r := .d (.list [])) (ev_name 6) (by rw [st_get]; exact hW.n2) (ev_add (ev_add (ev_name 8) (ev_name 12)) (ev_name 11)) (ev_lst eva_nil) (by rw [st_get]; exact hW.n2) rfl (by unfold kvW; rw [List.length_map]; exact hwl)) (by rw [hv] <;> rfl) (by rw [hv] <;> rfl)) (by rw [st_get]; exact hW.ls q' hq') (ev_tup (eva_cons (ev_name 10) (eva_cons (ev_name 7) eva_nil))) (by rw [st_get]; exact hW.ls q' hq') hlen) (ss_nil (ss_nil ?_)))
                  rw [st_put]
                  rw [eq'] at a1 a2 a3 a4
                  rw [entL_snoc] at a1 a2
                  exact fin a1 a2 (by omega) a4
                · have hnk : ∀ q ∈ ws, q.1 ≠ p.1 + pr + ch := fun q' hq' e => hk (e ▸ List.mem_map_of_mem hq')
                  have hv : valI (kvW v.S0.length ws) (.inl (p.1 + pr + ch)) = none := valI_out (f := fun q : Wq => (Sum.inl q.1 : Key)) fun b hb e => hnk b hb (Sum.inl.inj e)
                  have hpk : putI (kvW v.S0.length ws) (.inl (p.1 + pr + ch)) (.o (v.S0.length + L.length)) = kvW v.S0.length (ws ++ [(p.1 + pr + ch, L.length, [(o, some cl)])]) := by
                    rw [putI_new fun b hb e => by
                      obtain ⟨q', hq', rfl⟩ := List.mem_map.mp hb
                      exact hnk q' hq' (Sum.inl.inj e)]
                    unfold kvW
                    rw [List.map_append] <;> rfl
                  obtain ⟨a1, a2, a3⟩ := hW.push_new (e := (o, some cl)) hK hnk
                  have hLl : 2 < L.length := (List.getElem?_eq_some_iff.mp hW.n2).1
                  refine ss_cons (ws_expr (ev_append (i := v.S0.length + L.length) (xs := []) (S1 := v.st (v.s1 o y) ((L ++ [Own.lst []]).set 2 (Own.dK (kvW v.S0.length (ws ++ [(p.1 + pr + ch, L.length, [(o, some cl)])]))))) (Ev.is2 (ev_setdefault (kd := .int (p.1 + pr + ch)) (kk := .inl (p.1 + pr + ch)) (r := .o (v.S0.length + L.length)) (S3 := v.st (v.s1 o y) (L ++ [Own.lst []])) (ev_name 6) (by rw [st_get]; exact hW.n2) (ev_add (ev_add (ev_name 8) (ev_name 12)) (ev_name 11)) (Ev.is2 (ev_lstO eva_nil) (by rw [st_len]) st_app) (by rw [st_get]; exact (hW.more _).n2) rfl (by unfold kvW; rw [List.length_map]; exact hwl)) (by rw [hv] <;> rfl) (by rw [hv, hpk]; exact st_put _ _)) ?_ (ev_tup (eva_cons (ev_name 10) (eva_cons (ev_name 7) eva_nil))) ?_ (Nat.zero_lt_succ _)) (ss_nil (ss_nil ?_)))
                  · rw [st_get, List.getElem?_set_ne (by omega), List.getElem?_append_right (Nat.le_refl _), Nat.sub_self] <;> rfl
                  · rw [st_get, List.getElem?_set_ne (by omega), List.getElem?_append_right (Nat.le_refl _), Nat.sub_self] <;> rfl
                  · rw [st_put]
                    exact fin a1 a2 (by rw [List.length_append] <;> exact Nat.le_refl _) a3
              · have hd : v.F.pr o = none ∨ o ∈ (R ++ [(cl, p.1, bk)]).map (·.1) := by
                  rw [numK_in] at hb
                  cases hpr : v.F.pr o with
                  | none => exact .inl rfl
                  | some pr =>
                    rw [hpr] at hb
                    refine .inr ?_
                    by_cases z : o ∈ (R ++ [(cl, p.1, bk)]).map (·.1)
                    · exact z
                    · rw [decide_eq_false z] at hb; cases hb
                exact ss_nil (ss_nil ⟨Tn + 1, _, ws, L, _, _, _, rfl, rfl, hW.up (Nat.le_succ _), hK, hR.pass ok.f hme hmax hstep hd, hlo, by omega, by omega, by omega⟩)
          · rintro G' S' ⟨Tn, y, ws, L, g10, g11, g12, rfl, rfl, hW, hK, hR, hlo, hT, hmy, hN⟩
            have el : (((v.F.steps cl).map stD).map Cu.It.d).length = (v.F.steps cl).length := by rw [List.length_map, List.length_map]
            rw [el, List.drop_length] at hR
            rw [el] at hT hN
            exact ss_nil (ss_nil ⟨Tn, y, _, ws, L, _, _, _, _, _, rfl, rfl, hW, hK, hR, hlo, by omega, hmy, by omega⟩)
        · rw [numK_in] at hb
          have hin : cl ∈ R.map (·.1) := by
            by_cases z : cl ∈ R.map (·.1)
            · exact z
            · rw [decide_eq_false z] at hb; cases hb
          exact ss_nil (ss_nil ⟨Tn, y, R, ws, L, _, _, _, _, _, rfl, rfl, hW, hK, hR.skip hin, hlo, hT, hmy, hN⟩)
    · rintro G' S' ⟨Tn, y, R, ws, L, g7, g9, g10, g11, g12, rfl, rfl, hW, hK, hR, hlo, hT, hmy, hN⟩
      have el : (entL p.2.2).length = p.2.2.length := by unfold entL; rw [List.length_map, List.length_map]
      rw [el, List.drop_length] at hR
      exact ss_nil ⟨N - 1, by omega, Tn, y, R, ws, L, _, _, _, _, _, _, rfl, rfl, hW, hR, hT, hmy, by omega, by omega⟩
  · have hnil : ws = [] := by
      cases ws with
      | nil => rfl
      | cons _ _ => cases hb
    subst hnil
    have hT' : v.mm y ≤ v.mm x + 5000 := by omega
    refine ss_cons (ws_ret (ev_tupO (eva_cons (ev_name 4) (eva_cons (ev_name 5) eva_nil)) ⟨_, List.mem_cons_self⟩) ?_)
    refine back_same ?_ ?_ ?_
    · rw [st_app, st_len, st_len, List.length_append]
      exact Nat.lt_succ_self _
    · rw [st_app, st_len]
      have hW := (hW.more [Own.dK []]).more [Own.tup [.o (v.S0.length + 0), .o (v.S0.length + 1)]]
      exact q y R _ _ hR hT' hW.n0 hW.n1 (by rw [List.getElem?_append_right (Nat.le_refl _), Nat.sub_self] <;> rfl)
    · rw [st_app, st_len, st_len]
      exact Nat.le_add_right _ _
theorem ok_spread {k : Nat} (T : TT K mg) : OkF P w K mg base (k + 2) "spread" ["size", "price", "through", "starts"] [] (F_spread P w K mg base k) := okF_of (g_spread T) (d_spread T) (fun _ _ _ _ _ _ us hl => match us, hl with | [_, _, _, _], _ => rfl) fun fd Fd => fn_spread T Fd
end
end Pf
namespace Pf
open PySem PySem.Spec PyProof.Rows L2 Cu
theorem eqvAll_map {α : Type} [DecidableEq α] (f : α → PyData) (h : ∀ a b, PyData.eqv (f a) (f b) = decide (a = b)) : ∀ (l m : List α), PyData.eqvAll (l.map f) (m.map f) = decide (l = m)
  | [], [] => by simp [PyData.eqvAll]
  | [], _ :: _ => by simp [PyData.eqvAll]
  | _ :: _, [] => by simp [PyData.eqvAll]
  | a :: l, b :: m => by
    rw [List.map_cons, List.map_cons, PyData.eqvAll, h, eqvAll_map f h l m]
    by_cases e1 : a = b <;> by_cases e2 : l = m <;> simp [e1, e2]
theorem eqv_list {α : Type} [DecidableEq α] (f : α → PyData) (h : ∀ a b, PyData.eqv (f a) (f b) = decide (a = b)) (l m : List α) : PyData.eqv (.list (l.map f)) (.list (m.map f)) = decide (l = m) := by
  rw [PyData.eqv]; exact eqvAll_map f h l m
theorem eqv_int (a b : Int) : PyData.eqv (.int a) (.int b) = decide (a = b) := by
  rw [PyData.eqv]
  by_cases h : a = b <;> simp [h]
theorem shaped_all {ds : List PyData} (h : ∀ d ∈ ds, PyData.canLay0 d = true ∧ d.depth ≤ 50) : PyData.canLayAll0 ds = true ∧ PyData.depthAll ds ≤ 50 := by
  induction ds with
  | nil => exact ⟨by simp only [PyData.canLayAll0], by simp only [PyData.depthAll]; exact Nat.zero_le _⟩
  | cons x xs ih =>
    obtain ⟨i1, i2⟩ := ih fun d hd => h d (List.mem_cons_of_mem _ hd)
    obtain ⟨j1, j2⟩ := h x List.mem_cons_self
    exact ⟨by simp only [PyData.canLayAll0, i1, j1]; rfl, by simp only [PyData.depthAll]; exact Nat.max_le.mpr ⟨j2, i2⟩⟩
theorem shaped_list {ds : List PyData} (h : ∀ d ∈ ds, PyData.canLay0 d = true ∧ d.depth ≤ 50) : SeqAt.shaped (.list ds) = true := by
  obtain ⟨h1, h2⟩ := shaped_all h
  unfold SeqAt.shaped
  rw [show PyData.canLay0 (.list ds) = PyData.canLayAll0 ds by simp only [PyData.canLay0], h1, show PyData.depth (.list ds) = PyData.depthAll ds + 1 by simp only [PyData.depth], decide_eq_true (by omega)]; rfl
theorem shaped_tup {ds : List PyData} (h : ∀ d ∈ ds, PyData.canLay0 d = true ∧ d.depth ≤ 50) : SeqAt.shaped (.tuple ds) = true := by
  obtain ⟨h1, h2⟩ := shaped_all h
  unfold SeqAt.shaped
  rw [show PyData.canLay0 (.tuple ds) = PyData.canLayAll0 ds by simp only [PyData.canLay0], h1, show PyData.depth (.tuple ds) = PyData.depthAll ds + 1 by simp only [PyData.depth], decide_eq_true (by omega)]; rfl
theorem lay_int (i : Int) : PyData.canLay0 (.int i) = true ∧ (PyData.int i).depth ≤ 50 := ⟨by simp only [PyData.canLay0], by simp only [PyData.depth]; exact Nat.zero_le _⟩
theorem lay_tup {ds : List PyData} (h : ∀ d ∈ ds, ∃ i, d = .int i) : PyData.canLay0 (.tuple ds) = true ∧ (PyData.tuple ds).depth ≤ 50 := by
  have h1 : PyData.canLayAll0 ds = true ∧ PyData.depthAll ds = 0 := by
    induction ds with
    | nil => exact ⟨by simp only [PyData.canLayAll0], by simp only [PyData.depthAll]⟩
    | cons x xs ih =>
      obtain ⟨i1, i2⟩ := ih fun d hd => h d (List.mem_cons_of_mem _ hd)
      obtain ⟨i, rfl⟩ := h x List.mem_cons_self
      exact ⟨by simp only [PyData.canLayAll0, PyData.canLay0, i1]; rfl, by simp only [PyData.depthAll, PyData.depth, i2]; rfl⟩
  exact ⟨by simp only [PyData.canLay0]; exact h1.1, by simp only [PyData.depth]; rw [h1.2]; decide⟩
theorem shaped_ints (l : List Int) : SeqAt.shaped (.tuple (l.map .int)) = true := shaped_tup fun d hd => by
  obtain ⟨i, _, rfl⟩ := List.mem_map.mp hd
  exact lay_int i
/-! ### filled, same_as, turned, mirrored -/
theorem lay_list {ds : List PyData} (h : ∀ d ∈ ds, PyData.canLay0 d = true ∧ d.depth ≤ 40) : PyData.canLay0 (.list ds) = true ∧ (PyData.list ds).depth ≤ 50 := by
  have h1 : PyData.canLayAll0 ds = true ∧ PyData.depthAll ds ≤ 40 := by
    induction ds with
    | nil => exact ⟨by simp only [PyData.canLayAll0], by simp only [PyData.depthAll]; exact Nat.zero_le _⟩
    | cons x xs ih =>
      obtain ⟨i1, i2⟩ := ih fun d hd => h d (List.mem_cons_of_mem _ hd)
      obtain ⟨j1, j2⟩ := h x List.mem_cons_self
      exact ⟨by simp only [PyData.canLayAll0, i1, j1]; rfl, by simp only [PyData.depthAll]; exact Nat.max_le.mpr ⟨j2, i2⟩⟩
  exact ⟨by simp only [PyData.canLay0]; exact h1.1, by simp only [PyData.depth]; have := h1.2; omega⟩
theorem tup_depth {ds : List PyData} (h : ∀ d ∈ ds, ∃ i, d = .int i) : (PyData.tuple ds).depth ≤ 40 := by
  have h1 : PyData.depthAll ds = 0 := by
    induction ds with
    | nil => simp only [PyData.depthAll]
    | cons x xs ih =>
      have i2 := ih fun d hd => h d (List.mem_cons_of_mem _ hd)
      obtain ⟨i, rfl⟩ := h x List.mem_cons_self
      simp only [PyData.depthAll, PyData.depth, i2]; rfl
  simp only [PyData.depth]; rw [h1]; decide
end Pf
/-! KWave3: wave, walked. -/
namespace Pf
open PySem PySem.Spec PyProof.Rows L2 He Cu
/-! ### min of (number, cell) -/
def rchD (e : Int × WC) : PyData := .tuple [.int e.1, wc e.2]
theorem rch_lt {a b : Int × WC} (h : a.1 ≠ b.1) : PySem.W.dataLt (rchD a) (rchD b) = decide (a.1 < b.1) := by
  unfold PySem.W.dataLt rchD
  simp only [PySem.W.keyToks, PySem.W.keyToksAll]
  rw [lex_self (O := itemOrd)]
  show PyProof.Rows.lexLt itemOrd (Sum.inl a.1 :: _) (Sum.inl b.1 :: _) = _
  rw [lex_diff (O := itemOrd) fun z => h (Sum.inl.inj z)]
  rfl
theorem rch_min (x : Int × WC) (xs : List (Int × WC)) : ∃ e, e ∈ x :: xs ∧ PySem.W.minD (rchD x) (xs.map rchD) = rchD e ∧ ∀ a ∈ x :: xs, e.1 ≤ a.1 := by
  unfold PySem.W.minD
  induction xs generalizing x with
  | nil => exact ⟨x, List.mem_cons_self, rfl, fun a ha => by rw [List.mem_singleton.mp ha]; exact Int.le_refl _⟩
  | cons y ys ih =>
    rw [List.map_cons, List.foldl_cons]
    cases hb : PySem.W.dataLt (rchD y) (rchD x) with
    | true =>
      rw [if_pos rfl]
      obtain ⟨e, h1, h2, h3⟩ := ih y
      refine ⟨e, List.mem_cons_of_mem _ h1, h2, fun a ha => ?_⟩
      rcases List.mem_cons.mp ha with rfl | ha
      · have hy := h3 y List.mem_cons_self
        by_cases c : y.1 = a.1
        · omega
        · rw [rch_lt c] at hb
          have := of_decide_eq_true hb
          omega
      · exact h3 a ha
    | false =>
      rw [if_neg Bool.false_ne_true]
      obtain ⟨e, h1, h2, h3⟩ := ih x
      refine ⟨e, ?_, h2, fun a ha => ?_⟩
      · rcases List.mem_cons.mp h1 with rfl | h1
        · exact List.mem_cons_self
        · exact List.mem_cons_of_mem _ (List.mem_cons_of_mem _ h1)
      · rcases List.mem_cons.mp ha with rfl | ha
        · exact h3 _ List.mem_cons_self
        · rcases List.mem_cons.mp ha with rfl | ha
          · have hx := h3 x List.mem_cons_self
            by_cases c : a.1 = x.1
            · omega
            · rw [rch_lt c] at hb
              have := of_decide_eq_false hb
              omega
          · exact h3 a (List.mem_cons_of_mem _ ha)
theorem rch_alike (l : List (Int × WC)) : PySem.W.AlikeAll (l.map rchD) := ⟨fun x hx y hy => by
    obtain ⟨a, _, rfl⟩ := List.mem_map.mp hx
    obtain ⟨b, _, rfl⟩ := List.mem_map.mp hy
    rfl, fun x hx => by
    obtain ⟨a, _, rfl⟩ := List.mem_map.mp hx
    exact fun z => nomatch z⟩
theorem rch_dp (a : Int × WC) : (rchD a).depth ≤ 50 := by
  unfold rchD wc
  simp [PyData.depth, PyData.depthAll]
theorem rch_depth : ∀ (l : List (Int × WC)), PyData.depthAll (l.map rchD) ≤ 60
  | [] => Nat.zero_le _
  | a :: l => Nat.max_le.mpr ⟨Nat.le_trans (rch_dp a) (by decide), rch_depth l⟩
/-! ### a way -/
/-- b was come to from a -/
def Link (R : List Num) (a b : WC) : Prop := ∃ e ∈ R, e.1 = b ∧ e.2.2 = some a
/-- from goal back -/
structure BackTo (R : List Num) (goal : WC) (l : List WC) : Prop where
  hd : l[0]? = some goal
  lk : ∀ k a b, l[k]? = some a → l[k + 1]? = some b → Link R b a
theorem BackTo.more {R : List Num} {goal : WC} {l : List WC} {e : Num} {a : WC} (h : BackTo R goal l) (he : e ∈ R) (h1 : l.getLast? = some e.1) (h2 : e.2.2 = some a) : BackTo R goal (l ++ [a]) := by
  have hne : 0 < l.length := (List.getElem?_eq_some_iff.mp h.hd).1
  refine ⟨by rw [List.getElem?_append_left hne]; exact h.hd, fun k x y hx hy => ?_⟩
  by_cases c : k + 1 < l.length
  · rw [List.getElem?_append_left (by omega)] at hx
    rw [List.getElem?_append_left c] at hy
    exact h.lk k x y hx hy
  · have hk : k + 1 < (l ++ [a]).length := (List.getElem?_eq_some_iff.mp hy).1
    rw [List.length_append] at hk
    have hk : k + 1 < l.length + 1 := hk
    have ek : k + 1 = l.length := by omega
    rw [ek, List.getElem?_append_right (Nat.le_refl _), Nat.sub_self] at hy
    cases hy
    rw [List.getElem?_append_left (by omega)] at hx
    rw [List.getLast?_eq_getElem?, ← ek, Nat.add_sub_cancel, hx] at h1
    cases h1
    exact ⟨e, he, rfl, h2⟩
/-- the way and its number -/
structure WayTo (F : Fld) (starts goals : List WC) (R : List Num) (total : Int) (way : List WC) : Prop where
  goal : ∃ g ∈ goals, way.getLast? = some g ∧ ∃ b, ((g, total, b) : Num) ∈ R
  least : ∀ e ∈ R, e.1 ∈ goals → total ≤ e.2.1
  start : ∃ s, way[0]? = some s ∧ ∃ n, ((s, n, none) : Num) ∈ R
  lk : ∀ k a b, way[k]? = some a → way[k + 1]? = some b → Link R a b
  len : way.length ≤ 432
theorem WayTo.of {F : Fld} {starts goals : List WC} {R : List Num} {total : Int} {l : List WC} {g : WC} {e : Num} {b : Option WC} (h : BackTo R g l) (hg : g ∈ goals) (hr : ((g, total, b) : Num) ∈ R) (hl : ∀ e ∈ R, e.1 ∈ goals → total ≤ e.2.1) (he : e ∈ R) (h1 : l.getLast? = some e.1) (h2 : e.2.2 = none) (hn : l.length ≤ 432) : WayTo F starts goals R total l.reverse := by
  have hne : 0 < l.length := (List.getElem?_eq_some_iff.mp h.hd).1
  refine ⟨⟨g, hg, ?_, b, hr⟩, hl, ⟨e.1, ?_, e.2.1, by rw [← h2]; exact he⟩, fun k x y hx hy => ?_, by rw [List.length_reverse]; exact hn⟩
  · rw [List.getLast?_reverse, List.head?_eq_getElem?]; exact h.hd
  · rw [← List.head?_eq_getElem?, List.head?_reverse]; exact h1
  · have hk : k + 1 < l.reverse.length := (List.getElem?_eq_some_iff.mp hy).1
    rw [List.length_reverse] at hk
    rw [List.getElem?_reverse (by omega)] at hx hy
    exact h.lk (l.length - 1 - (k + 1)) y x hy (by rw [show l.length - 1 - (k + 1) + 1 = l.length - 1 - k by omega]; exact hx)
/-- what a wave answers -/
inductive Ans (F : Fld) (starts goals : List WC) (R : List Num) (n : Nat) (L : Sto) : List Cu.It → Prop where
  | shut : (∀ g ∈ goals, g ∉ R.map (·.1)) → Ans F starts goals R n L [.d (.str "shut"), .o (n + 0)]
  | way (j : Nat) (total : Int) (way : List WC) : L[j]? = some (.lst ((way.map wc).map .d)) → WayTo F starts goals R total way → Ans F starts goals R n L [.d (.str "way"), .o (n + j), .d (.int total), .o (n + 0)]
def F_wave (P : Program) (w : World) (K : PySem.W.Frag) (mg : Str → Option Value) (base : Heap) (k : Nat) : Fn := fun rs S QR _ => ∃ (α : Type) (v : Wv α) (x : α) (starts goals : List WC), v.Ok P w K mg base k ∧ rs = [.d (szD v.F), .o v.n1, .o v.n2, .d (.list (starts.map wc)), .d (.list (goals.map wc))] ∧ S = v.st x [] ∧ (∀ s ∈ starts, v.F.has s = true) ∧ starts.length ≤ 1000 ∧ goals.length ≤ 1000 ∧ v.mm x < 800000 ∧
  ∀ (y : α) (R : List Num) (L : Sto) (t : Nat) (a : List Cu.It), WaveOk v.F starts R → v.mm y ≤ v.mm x + 5000 → L[0]? = some (.dT (numK R)) → L[t]? = some (.tup a) → Ans v.F starts goals R v.S0.length L a → QR (.o (v.S0.length + t)) (v.st y L)
def inNum (R : List Num) (c : WC) : Option Int := (R.find? fun e => decide (e.1 = c)).map (·.2.1)
theorem valI_numK {R : List Num} {c : WC} : valI (numK R) (wcK c) = (inNum R c).map fun n => .d (.int n) := by
  unfold numK inNum
  induction R with
  | nil => rfl
  | cons a R ih =>
    unfold valI at ih ⊢
    rw [List.map_cons]
    by_cases e : a.1 = c
    · rw [List.find?_cons_of_pos (by exact decide_eq_true (wcK_inj.mpr e)), List.find?_cons_of_pos (by exact decide_eq_true e)] <;> rfl
    · rw [List.find?_cons_of_neg (by rw [decide_eq_false (fun z => e (wcK_inj.mp z))]; exact Bool.false_ne_true), List.find?_cons_of_neg (by rw [decide_eq_false e]; exact Bool.false_ne_true), ih]
theorem inNum_mem {R : List Num} {c : WC} {n : Int} (h : inNum R c = some n) : ∃ b, ((c, n, b) : Num) ∈ R := by
  unfold inNum at h
  cases hf : R.find? (fun e => decide (e.1 = c)) with
  | none => rw [hf] at h; cases h
  | some e =>
    rw [hf] at h
    cases h
    have h1 := of_decide_eq_true (List.find?_some (p := fun e : Num => decide (e.1 = c)) hf)
    refine ⟨e.2.2, ?_⟩
    rw [← h1]
    exact List.mem_of_find?_eq_some hf
theorem inNum_none {R : List Num} {c : WC} (h : inNum R c = none) : c ∉ R.map (·.1) := fun z => by
  obtain ⟨e, he, rfl⟩ := List.mem_map.mp z
  unfold inNum at h
  cases hf : R.find? (fun a => decide (a.1 = e.1)) with
  | none =>
    have := List.find?_eq_none.mp hf e he
    rw [decide_eq_true rfl] at this
    exact this rfl
  | some a => rw [hf] at h; cases h
def rchL (R : List Num) (goals : List WC) : List (Int × WC) := goals.filterMap fun g => (inNum R g).map fun n => (n, g)
def rcF (R : List Num) : Cu.It → Bool
  | .d (.tuple [.int a, .int b, .int c]) => (inNum R (a, b, c)).isSome
  | _ => false
def rcG (R : List Num) : Cu.It → PyData
  | .d (.tuple [.int a, .int b, .int c]) => rchD (((inNum R (a, b, c)).getD 0), (a, b, c))
  | _ => .none
theorem rch_out (R : List Num) (goals : List WC) : (((goals.map wc).map Cu.It.d).filter (rcF R)).map (rcG R) = (rchL R goals).map rchD := by
  unfold rchL
  induction goals with
  | nil => rfl
  | cons g gs ih =>
    rw [List.map_cons, List.map_cons, List.filter_cons, List.filterMap_cons]
    show (if (inNum R g).isSome = true then _ else _ : List Cu.It).map _ = _
    cases h : inNum R g with
    | none => rw [if_neg (by simp), ih] <;> rfl
    | some n =>
      rw [if_pos (show (some n).isSome = true from rfl), List.map_cons, ih]
      show rchD (((inNum R g).getD 0), g) :: _ = _
      rw [h] <;> rfl
theorem atI_lastW {α : Type} {xs : List α} {d : α} (h : xs.getLast? = some d) : atI xs (-1) = some d := by
  unfold atI ixN
  have hne : xs ≠ [] := fun z => by rw [z] at h; cases h
  have hl : 0 < xs.length := List.length_pos_iff.mpr hne
  rw [if_neg (by omega), if_pos (by omega)]
  show xs[((-1 : Int) + (xs.length : Int)).toNat]? = _
  rw [show ((-1 : Int) + (xs.length : Int)).toNat = xs.length - 1 by omega, ← List.getLast?_eq_getElem?]
  exact h
theorem eqv_nilW (ds : List PyData) : PyData.eqv (.list ds) (.list []) = ds.isEmpty := by
  cases ds with
  | nil => simp only [PyData.eqv, PyData.eqvAll] <;> rfl
  | cons x xs => simp only [PyData.eqv, PyData.eqvAll] <;> rfl
theorem mem_rchL {R : List Num} {goals : List WC} {e : Int × WC} : e ∈ rchL R goals ↔ e.2 ∈ goals ∧ inNum R e.2 = some e.1 := by
  unfold rchL
  rw [List.mem_filterMap]
  refine ⟨fun ⟨g, hg, h⟩ => ?_, fun ⟨h1, h2⟩ => ⟨e.2, h1, by rw [h2] <;> rfl⟩⟩
  cases hn : inNum R g with
  | none => rw [hn] at h; cases h
  | some n =>
    rw [hn] at h
    cases h
    exact ⟨hg, hn⟩
theorem inNum_get {R : List Num} (hn : (R.map (·.1)).Nodup) {e : Num} (he : e ∈ R) : inNum R e.1 = some e.2.1 := by
  have h1 := numK_get hn he
  rw [valI_numK] at h1
  cases h : inNum R e.1 with
  | none => rw [h] at h1; cases h1
  | some n => rw [h] at h1; cases h1; rfl
section
variable {P : Program} {w : World} {K : PySem.W.Frag} {mg : Str → Option Value} {base : Heap}
theorem fn_wave {k : Nat} (T : TT K mg) {fd : FuncData} (Fd : FunD K "wave" "wave" (defArgs s_wave) (defBody s_wave) (defScope s_wave) [] [] (ga K "wave") fd) : FnOk P w K mg base (L2.CX P w) (k + 3) (ga K "wave") fd ["size", "price", "through", "starts", "goals"] (spF K 5 (F_wave P w K mg base k)) := by
  refine fn_w Fd sc_wave fun cdv A outer s H E rs S QR QE c hc hl hF => ?_
  obtain ⟨α, v, x, starts, goals, ok, rfl, rfl, hst, hsl, hgl, hm, q⟩ := hF
  refine ss_cons (ws_asgX (evx_call c (ok_spread T) (Nat.le_refl _) (eva_cons (ev_name 0) (eva_cons (ev_name 1) (eva_cons (ev_name 2) (eva_cons (ev_name 3) eva_nil)))) rfl (Qr := fun r S' => ∃ y R L t, WaveOk v.F starts R ∧ v.mm y ≤ v.mm x + 5000 ∧ L[0]? = some (.dT (numK R)) ∧ L[1]? = some (.dT (ahK R)) ∧ L[t]? = some (.tup [.o (v.S0.length + 0), .o (v.S0.length + 1)]) ∧ r = .o (v.S0.length + t) ∧ S' = v.st y L) (Qx := fun _ _ => False) fun QR QE h1 _ => ⟨α, v, x, starts, ok, rfl, rfl, hst, hsl, hm, fun y R L t a1 a2 a3 a4 a5 => h1 _ _ ⟨y, R, L, t, a1, a2, a3, a4, a5, rfl, rfl⟩⟩) ?_ (fun _ _ z => z.elim))
  rintro r S' ⟨y, R, L, t, hW, hmy, h0, h1, ht, rfl, rfl⟩
  refine ⟨_, _, evg_tupO c.calm (by rw [st_get]; exact ht) (evgs_cons (evg_name 5 c.nd) (evgs_cons (evg_name 6 c.nd) evgs_nil)), ?_⟩
  have hRl := hW.few ok.f
  have hCl := Fld.cells_len ok.f
  have gg : ∀ {M : Sto} {i : Nat} {w : Own}, L[i]? = some w → (L ++ M)[i]? = some w := fun e => by
    rw [List.getElem?_append_left (List.getElem?_eq_some_iff.mp e).1]; exact e
  refine ss_cons (ws_setLc 7 c (blkOk_by (by rfl)) (lc_pure (own := [("cell", 8)]) c (evi_list (ds := goals.map wc) (ev_name 4)) (tg_name 8 c.nd) (rcF R) (rcG R) (fun _ => trivial) (fun r hr => ?_) ?_) ?_)
  · obtain ⟨d, hd, rfl⟩ := List.mem_map.mp hr
    obtain ⟨g, hg, rfl⟩ := List.mem_map.mp hd
    refine ⟨_, rfl, fun M s H C cl fp => EvT.is (evt_dinT (c.blk _ _ _ _ _ _) (ev_name 8) (ev_name 5) (by rw [st_app, st_get]; exact gg h0) (keyD_wc g)) (by rw [valI_numK, Option.isSome_map] <;> rfl), fun hf M s H C cl fp => ?_⟩
    have hf : (inNum R g).isSome = true := hf
    obtain ⟨n, hn⟩ := Option.isSome_iff_exists.mp hf
    show Ev _ _ _ _ (.d (rchD (((inNum R g).getD 0), g))) _
    rw [hn]
    exact ev_tup (eva_cons (ev_dgetT (c.blk _ _ _ _ _ _) (ev_name 5) (ev_name 8) (by rw [st_app, st_get]; exact gg h0) (keyD_wc g) (by rw [valI_numK, hn] <;> rfl)) (eva_cons (ev_name 8) eva_nil))
  · rw [List.length_map, List.length_map]; omega
  rw [rch_out]
  have hsh : SeqAt.shaped (.list ((rchL R goals).map rchD)) = true := shaped_list fun d hd => by
    obtain ⟨e, _, rfl⟩ := List.mem_map.mp hd
    exact ⟨rfl, rch_dp e⟩
  refine ss_cons (ws_if (evt_eqD c (ev_name 7) (ev_lst eva_nil) hsh rfl) (fun hb => ?_) (fun hb => ss_nil ?_))
  · refine ss_cons (ws_ret (ev_tupO (eva_cons ev_str (eva_cons (ev_name 5) eva_nil)) ⟨_, List.mem_cons_of_mem _ List.mem_cons_self⟩) (back_same ?_ ?_ ?_))
    · rw [st_app, st_len, st_len, List.length_append]
      exact Nat.lt_succ_self _
    · rw [st_app, st_len]
      refine q y R _ _ _ hW hmy (gg h0) (by rw [List.getElem?_append_right (Nat.le_refl _), Nat.sub_self] <;> rfl) (.shut fun g hg z => ?_)
      rw [eqv_nilW, List.isEmpty_iff, List.map_eq_nil_iff] at hb
      cases hn : inNum R g with
      | none => exact inNum_none hn z
      | some n =>
        have : (n, g) ∈ rchL R goals := mem_rchL.mpr ⟨hg, hn⟩
        rw [hb] at this
        cases this
    · rw [st_app, st_len, st_len]
      exact Nat.le_add_right _ _
  · rw [eqv_nilW] at hb
    cases hrl : rchL R goals with
    | nil => rw [hrl] at hb; cases hb
    | cons x0 xs =>
      obtain ⟨e, he, hmin, hle⟩ := rch_min x0 xs
      rw [← hrl] at he hle
      obtain ⟨hg, hie⟩ := mem_rchL.mp he
      obtain ⟨b0, hb0⟩ := inNum_mem hie
      have hleast : ∀ a ∈ R, a.1 ∈ goals → e.1 ≤ a.2.1 := fun a ha hag => hle (a.2.1, a.1) (mem_rchL.mpr ⟨hag, inNum_get hW.nd ha⟩)
      have hal := rch_alike (x0 :: xs)
      have hdp := rch_depth (x0 :: xs)
      refine ss_cons (ws_asg (r := .d (rchD e)) (Ev.is (ev_minD (x := rchD x0) (ds := xs.map rchD) c (z_min T) (ev_name 7) rfl hal hdp) (by rw [hmin])) (evg_tup (ds := [.int e.1, wc e.2]) c.calm (evgs_cons (evg_name 9 c.nd) (evgs_cons (evg_name 10 c.nd) evgs_nil))) ?_)
      refine ss_cons (ws_set 11 c.nd (r := .o (v.S0.length + L.length)) (S1 := v.st y (L ++ [.lst [.d (wc e.2)]])) (Ev.is2 (ev_lstO (eva_cons (ev_name 10) eva_nil)) (by rw [st_len]) st_app) ?_)
      obtain ⟨i0, hi0⟩ := List.getElem?_of_mem hb0
      have hi0l := (List.getElem?_eq_some_iff.mp hi0).1
      refine ss_cons (ws_while c (fun N G' S' => ∃ (l : List WC) (f : Num), G' = [some (.d (szD v.F)), some (.o v.n1), some (.o v.n2), some (.d (.list (starts.map wc))), some (.d (.list (goals.map wc))), some (.o (v.S0.length + 0)), some (.o (v.S0.length + 1)), some (.d (.list ((x0 :: xs).map rchD))), none, some (.d (.int e.1)), some (.d (wc e.2)), some (.o (v.S0.length + L.length))] ∧ S' = v.st y (L ++ [.lst ((l.map wc).map .d)]) ∧
        BackTo R e.2 l ∧ R[N]? = some f ∧ l.getLast? = some f.1 ∧ l.length + N ≤ 432) i0 ⟨[e.2], _, rfl, rfl, ⟨rfl, fun k a b h1 h2 => by simp at h2⟩, hi0, rfl, by show 1 + i0 ≤ 432; omega⟩ ?_)
      rintro N G' S' ⟨l, f, rfl, rfl, hB, hN, hlast, hlen⟩
      have hfR : f ∈ R := List.mem_of_getElem? hN
      have hat : atI ((l.map wc).map Cu.It.d) (-1) = some (.d (wc f.1)) := by
        refine atI_lastW ?_
        rw [List.getLast?_map, List.getLast?_map, hlast] <;> rfl
      refine ⟨f.2.2.isSome, _, EvT.is (evt_notN (r := .d (cellO f.2.2)) (ev_dgetT c (ev_name 6) (ev_ixO (ev_name 11) (ev_neg ev_int) (st_end _) hat) (by rw [st_get]; exact gg h1) (keyD_wc f.1) (ahK_get hW.nd hfR))) (isNone_cellO _), fun hb => ?_, fun hb => ?_⟩
      · obtain ⟨bk, hbk⟩ := Option.isSome_iff_exists.mp hb
        have hfrom := hW.from_ N f hN
        rw [hbk] at hfrom
        obtain ⟨f', hf', ef', _⟩ := hfrom
        obtain ⟨j, hj⟩ := List.getElem?_of_mem hf'
        have hjl := (List.getElem?_eq_some_iff.mp hj).1
        rw [List.length_take] at hjl
        have hjN : j < N := by omega
        rw [List.getElem?_take_of_lt hjN] at hj
        refine ss_cons (ws_expr (ev_append (xs := (l.map wc).map .d) (ev_name 11) (st_end _) (ev_dgetT c (ev_name 6) (ev_ixO (ev_name 11) (ev_neg ev_int) (st_end _) hat) (by rw [st_get]; exact gg h1) (keyD_wc f.1) (ahK_get hW.nd hfR)) (st_end _) (by rw [List.length_map, List.length_map]; omega)) (ss_nil ⟨j, hjN, l ++ [bk], f', rfl, ?_, hB.more hfR hlast hbk, hj, by rw [List.getLast?_append, ef'] <;> rfl, by rw [List.length_append]; show l.length + 1 + j ≤ 432; omega⟩))
        rw [st_endS, hbk, List.map_append, List.map_append] <;> rfl
      · have hnone : f.2.2 = none := by
          cases h : f.2.2 with
          | none => rfl
          | some _ => rw [h] at hb; cases hb
        have hway : WayTo v.F starts goals R e.1 l.reverse := WayTo.of hB hg hb0 hleast hfR hlast hnone (by omega)
        refine ss_cons (ws_ret (ev_tupO (S1 := v.st y (L ++ [.lst ((l.map wc).map .d)] ++ [.lst ((l.reverse.map wc).map .d)])) (eva_cons ev_str (eva_cons (r := .o (v.S0.length + (L.length + 1))) (Ev.is2 (ev_listRevN c (z_list T) (z_reversed T) (ev_name 11) (ls_own (ds := l.map wc) (st_end _))) (by rw [st_len, List.length_append] <;> rfl) (by rw [st_app, ← List.map_reverse])) (eva_cons (ev_name 9) (eva_cons (ev_name 5) eva_nil)))) ⟨_, List.mem_cons_of_mem _ List.mem_cons_self⟩) (back_same ?_ ?_ ?_))
        · rw [st_app, st_len, st_len, List.length_append]
          exact Nat.lt_succ_self _
        · rw [st_app, st_len]
          refine q y R _ _ _ hW hmy (by rw [List.append_assoc, List.append_assoc]; exact gg h0) (by rw [List.getElem?_append_right (Nat.le_refl _), Nat.sub_self] <;> rfl) (.way (L.length + 1) e.1 l.reverse ?_ hway)
          rw [List.append_assoc, List.append_assoc, List.getElem?_append_right (by omega), Nat.add_sub_cancel_left] <;> rfl
        · rw [st_app, st_len, st_len]
          exact Nat.le_add_right _ _
theorem ok_wave {k : Nat} (T : TT K mg) : OkF P w K mg base (k + 3) "wave" ["size", "price", "through", "starts", "goals"] [] (F_wave P w K mg base k) := okF_of (g_wave T) (d_wave T) (fun _ _ _ _ _ _ us hl => match us, hl with | [_, _, _, _, _], _ => rfl) fun fd Fd => fn_wave T Fd
end
end Pf
/-! K61C: the law's field; the law's steps. -/
namespace Pf
open PySem PySem.Spec PyProof.Rows L2 He Cu
def look {β : Type} [DecidableEq β] (ps : List (β × Int)) (b : β) : Option Int := (ps.find? fun p => decide (p.1 = b)).map (·.2)
theorem look_mem {β : Type} [DecidableEq β] {ps : List (β × Int)} {b : β} {n : Int} (h : look ps b = some n) : (b, n) ∈ ps := by
  unfold look at h
  cases hf : ps.find? (fun p => decide (p.1 = b)) with
  | none => rw [hf] at h; cases h
  | some e =>
    rw [hf] at h
    cases h
    have h1 := of_decide_eq_true (List.find?_some (p := fun e : β × Int => decide (e.1 = b)) hf)
    rw [← h1]
    exact List.mem_of_find?_eq_some hf
theorem valI_prK {β : Type} [DecidableEq β] {kf : β → List Key} (hi : ∀ a b, kf a = kf b → a = b) {ps : List (β × Int)} {b : β} : valI (prK kf ps) (kf b) = (look ps b).map fun n => .d (.int n) := by
  unfold prK look
  induction ps with
  | nil => rfl
  | cons a R ih =>
    unfold valI at ih ⊢
    rw [List.map_cons]
    by_cases e : a.1 = b
    · rw [List.find?_cons_of_pos (by exact decide_eq_true (congrArg kf e)), List.find?_cons_of_pos (by exact decide_eq_true e)] <;> rfl
    · rw [List.find?_cons_of_neg (by rw [decide_eq_false (fun z => e (hi _ _ z))]; exact Bool.false_ne_true), List.find?_cons_of_neg (by rw [decide_eq_false e]; exact Bool.false_ne_true), ih]
def FL (ns : List Int) : Fld := ⟨wdN ns, hgN ns, lyN ns, fun c => look (prL ns) c, fun x y => look (chL ns) (x, y)⟩
theorem sqL_sq {ns : List Int} {q : Int × Int} (h : q ∈ sqL ns) : (FL ns).sq q.1 q.2 = true := by
  obtain ⟨k, hk, rfl⟩ := List.mem_map.mp h
  have hk := List.mem_range.mp hk
  have h1 := (hgN_eq ns).2.1
  have hq : k / hgN ns < wdN ns := Nat.div_lt_of_lt_mul (by rw [Nat.mul_comm]; exact hk)
  have hr : k % hgN ns < hgN ns := Nat.mod_lt _ h1
  show (decide ((0 : Int) ≤ (k : Int) / (hgN ns : Int)) && decide ((k : Int) / (hgN ns : Int) < (wdN ns : Int)) && (decide ((0 : Int) ≤ (k : Int) % (hgN ns : Int)) && decide ((k : Int) % (hgN ns : Int) < (hgN ns : Int)))) = true
  rw [← Int.natCast_ediv, ← Int.natCast_emod, decide_eq_true (Int.natCast_nonneg _), decide_eq_true (Int.ofNat_lt.mpr hq), decide_eq_true (Int.natCast_nonneg _), decide_eq_true (Int.ofNat_lt.mpr hr)] <;> rfl
theorem clL_has {ns : List Int} {c : WC} (h : c ∈ clL ns) : (FL ns).has c = true := by
  obtain ⟨k, hk, rfl⟩ := List.mem_map.mp h
  have hk := List.mem_range.mp hk
  have h2 := (lyN_eq ns).2.1
  have hq : k / lyN ns < wdN ns * hgN ns := Nat.div_lt_of_lt_mul (by rw [Nat.mul_comm]; exact hk)
  have hr : k % lyN ns < lyN ns := Nat.mod_lt _ h2
  refine Fld.has_mk ?_ ?_
  · have := sqL_sq (ns := ns) (q := sqAt (hgN ns) ((k / lyN ns : Nat) : Int)) (List.mem_map.mpr ⟨_, List.mem_range.mpr hq, rfl⟩)
    rw [Int.natCast_ediv] at this
    exact this
  · show (0 : Int) ≤ (k : Int) % (lyN ns : Int) ∧ (k : Int) % (lyN ns : Int) < (lyN ns : Int)
    rw [← Int.natCast_emod]
    omega
theorem has_clL {ns : List Int} {c : WC} (h : (FL ns).has c = true) : c ∈ clL ns := by
  have hz := Fld.has_z h
  have hs := Fld.has_sq h
  unfold Fld.sq at hs
  simp only [Bool.and_eq_true, decide_eq_true_iff] at hs
  obtain ⟨⟨x1, x2⟩, y1, y2⟩ := hs
  obtain ⟨cx, cy, cz⟩ := c
  have x1 : 0 ≤ cx := x1
  have x2 : cx < (wdN ns : Int) := x2
  have y1 : 0 ≤ cy := y1
  have y2 : cy < (hgN ns : Int) := y2
  have z1 : 0 ≤ cz := hz.1
  have z2 : cz < (lyN ns : Int) := hz.2
  obtain ⟨x, rfl⟩ := Int.eq_ofNat_of_zero_le x1
  obtain ⟨y, rfl⟩ := Int.eq_ofNat_of_zero_le y1
  obtain ⟨z, rfl⟩ := Int.eq_ofNat_of_zero_le z1
  have x2 : x < wdN ns := by omega
  have y2 : y < hgN ns := by omega
  have z2 : z < lyN ns := by omega
  have e1 : (lyN ns * (hgN ns * x + y) + z) / lyN ns = hgN ns * x + y := by
    rw [Nat.mul_add_div (by omega), Nat.div_eq_of_lt z2, Nat.add_zero]
  have e2 : (lyN ns * (hgN ns * x + y) + z) % lyN ns = z := by
    rw [Nat.mul_add_mod, Nat.mod_eq_of_lt z2]
  have e3 : (hgN ns * x + y) / hgN ns = x := by
    rw [Nat.mul_add_div (by omega), Nat.div_eq_of_lt y2, Nat.add_zero]
  have e4 : (hgN ns * x + y) % hgN ns = y := by
    rw [Nat.mul_add_mod, Nat.mod_eq_of_lt y2]
  have hlt1 : hgN ns * x + y < wdN ns * hgN ns := by
    have : hgN ns * (x + 1) ≤ hgN ns * wdN ns := Nat.mul_le_mul_left _ x2
    rw [Nat.mul_add, Nat.mul_one, Nat.mul_comm (hgN ns) (wdN ns)] at this
    omega
  have hlt : lyN ns * (hgN ns * x + y) + z < wdN ns * hgN ns * lyN ns := by
    have : lyN ns * (hgN ns * x + y + 1) ≤ lyN ns * (wdN ns * hgN ns) := Nat.mul_le_mul_left _ hlt1
    rw [Nat.mul_add (lyN ns) _ 1, Nat.mul_one, Nat.mul_comm (lyN ns) (wdN ns * hgN ns)] at this
    omega
  refine List.mem_map.mpr ⟨lyN ns * (hgN ns * x + y) + z, List.mem_range.mpr hlt, ?_⟩
  unfold clAt
  rw [← Int.natCast_ediv, ← Int.natCast_ediv, ← Int.natCast_emod, ← Int.natCast_emod, e1, e2, e3, e4]
theorem FL_pr {ns : List Int} {c : WC} {p : Int} (h : (FL ns).pr c = some p) : (FL ns).has c = true ∧ 0 < p := by
  obtain ⟨⟨i, _, h1⟩, d, hd, e⟩ := priceF_mem _ _ (look_mem (show look (prL ns) c = some p from h))
  refine ⟨clL_has (List.mem_of_getElem? h1), ?_⟩
  have e : p = d * oftN ns := e
  rw [e]
  exact Int.mul_pos hd (by have := oftN_pos ns; omega)
theorem FL_th {ns : List Int} {x y p : Int} (h : (FL ns).th x y = some p) : (FL ns).sq x y = true ∧ 0 < p := by
  obtain ⟨⟨i, _, h1⟩, d, hd, e⟩ := priceF_mem _ _ (look_mem (show look (chL ns) (x, y) = some p from h))
  refine ⟨sqL_sq (List.mem_of_getElem? h1), ?_⟩
  have e : p = d * 1 := e
  omega
theorem FL_ok (ns : List Int) : (FL ns).Ok := ⟨(wdN_eq ns).2.1, (wdN_eq ns).2.2, (hgN_eq ns).2.1, (hgN_eq ns).2.2, (lyN_eq ns).2.1, (lyN_eq ns).2.2, fun _ _ h => Int.le_of_lt (FL_pr h).2, fun _ _ _ h => Int.le_of_lt (FL_th h).2⟩
theorem some_has {ns : List Int} {a : Int} {c : WC} (h : c ∈ someL ns a) : (FL ns).has c = true := by
  obtain ⟨k, _, rfl⟩ := List.mem_map.mp h
  have h1 : 1 ≤ wdN ns * hgN ns * lyN ns := Nat.mul_pos (Nat.mul_pos (wdN_eq ns).2.1 (hgN_eq ns).2.1) (lyN_eq ns).2.1
  have hl0 : ((clL ns).length : Int) = ((wdN ns * hgN ns * lyN ns : Nat) : Int) := by rw [clL_len]
  have hm0 := Int.emod_nonneg (cellN ns (a + (k : Int))) (show ((clL ns).length : Int) ≠ 0 by omega)
  have hm1 := Int.emod_lt_of_pos (cellN ns (a + (k : Int))) (show 0 < ((clL ns).length : Int) by omega)
  refine clL_has ?_
  unfold someC
  rw [List.getD_eq_getElem?_getD, List.getElem?_eq_getElem (by omega)]
  exact List.getElem_mem _
theorem some_len (ns : List Int) (a : Int) : (someL ns a).length ≤ 5 := by
  unfold someL someN
  rw [List.length_map, List.length_range]
  have hn0 := Int.emod_nonneg (cellN ns 3 / (if 4 < a then 6 else 1)) (show (6 : Int) ≠ 0 by decide)
  have hn1 := Int.emod_lt_of_pos (cellN ns 3 / (if 4 < a then 6 else 1)) (show (0 : Int) < 6 by decide)
  omega
/-! ### the law's steps -/
def spot4 (c : WC) : List WC := [(c.1 - 1, c.2.1, c.2.2), (c.1 + 1, c.2.1, c.2.2), (c.1, c.2.1 - 1, c.2.2), (c.1, c.2.1 + 1, c.2.2)]
def flP (F : Fld) (qs : List WC) : List (WC × Int) := qs.filterMap fun q => (F.pr q).map fun p => (q, p)
def ovP (F : Fld) (c : WC) (m : Int) (ks : List Nat) : List (WC × Int) := ks.filterMap fun (k : Nat) => if (k : Int) = c.2.2 then none else (F.pr (c.1, c.2.1, (k : Int))).map fun p => ((c.1, c.2.1, (k : Int)), p + m)
def stepsL (F : Fld) (c : WC) : List (WC × Int) := flP F (spot4 c) ++ (match F.th c.1 c.2.1 with | none => [] | some m => ovP F c m (List.range F.l))
theorem flP_snoc (F : Fld) (qs : List WC) (q : WC) : flP F (qs ++ [q]) = flP F qs ++ (match F.pr q with | none => [] | some p => [(q, p)]) := by
  unfold flP
  rw [List.filterMap_append]
  congr 1
  cases h : F.pr q with
  | none => rw [List.filterMap_cons, h] <;> rfl
  | some p => rw [List.filterMap_cons, h] <;> rfl
theorem ovP_snoc (F : Fld) (c : WC) (m : Int) (ks : List Nat) (k : Nat) : ovP F c m (ks ++ [k]) = ovP F c m ks ++ (if (k : Int) = c.2.2 then [] else match F.pr (c.1, c.2.1, (k : Int)) with | none => [] | some p => [((c.1, c.2.1, (k : Int)), p + m)]) := by
  unfold ovP
  rw [List.filterMap_append]
  congr 1
  by_cases e : (k : Int) = c.2.2
  · rw [List.filterMap_cons, if_pos e, if_pos e] <;> rfl
  · rw [List.filterMap_cons, if_neg e, if_neg e]
    cases h : F.pr (c.1, c.2.1, (k : Int)) <;> rfl
theorem flP_len (F : Fld) (qs : List WC) : (flP F qs).length ≤ qs.length := List.length_filterMap_le _ _
theorem ovP_len (F : Fld) (c : WC) (m : Int) (ks : List Nat) : (ovP F c m ks).length ≤ ks.length := List.length_filterMap_le _ _
theorem stepsL_len {F : Fld} (k : F.Ok) (c : WC) : (stepsL F c).length ≤ 7 := by
  unfold stepsL
  rw [List.length_append]
  have h1 : (flP F (spot4 c)).length ≤ 4 := flP_len F (spot4 c)
  cases F.th c.1 c.2.1 with
  | none => show _ + 0 ≤ 7; omega
  | some m =>
    have h2 := ovP_len F c m (List.range F.l)
    rw [List.length_range] at h2
    have := k.l2
    show _ + (ovP F c m (List.range F.l)).length ≤ 7
    omega
/-- the law's steps are the wave's -/
theorem stepsL_of {ns : List Int} {c d : WC} {n : Int} (hc : (FL ns).has c = true) (h : (d, n) ∈ stepsL (FL ns) c) : ∃ ch p, (d, ch) ∈ (FL ns).steps c ∧ (FL ns).pr d = some p ∧ n = p + ch := by
  unfold stepsL at h
  rcases List.mem_append.mp h with h | h
  · obtain ⟨q, hq, e⟩ := List.mem_filterMap.mp h
    cases hp : (FL ns).pr q with
    | none => rw [hp] at e; cases e
    | some p =>
      rw [hp] at e
      cases e
      refine ⟨0, _, ?_, hp, (Int.add_zero _).symm⟩
      unfold Fld.steps
      refine List.mem_append_left _ ?_
      unfold Fld.flatS
      refine List.mem_map.mpr ⟨(d.1, d.2.1), List.mem_filter.mpr ⟨?_, Fld.has_sq (FL_pr hp).1⟩, ?_⟩
      · unfold spot4 at hq
        unfold Fld.flat4
        simp only [List.mem_cons, List.not_mem_nil, or_false] at hq ⊢
        rcases hq with rfl | rfl | rfl | rfl
        · exact .inl rfl
        · exact .inr (.inl rfl)
        · exact .inr (.inr (.inl rfl))
        · exact .inr (.inr (.inr rfl))
      · have : d.2.2 = c.2.2 := by
          unfold spot4 at hq
          simp only [List.mem_cons, List.not_mem_nil, or_false] at hq
          rcases hq with rfl | rfl | rfl | rfl <;> rfl
        show (((d.1, d.2.1, c.2.2) : WC), (0 : Int)) = (d, 0)
        rw [← this]
  · cases ht : (FL ns).th c.1 c.2.1 with
    | none => rw [ht] at h; cases h
    | some m =>
      rw [ht] at h
      obtain ⟨k, hk, e⟩ := List.mem_filterMap.mp h
      have hk := List.mem_range.mp hk
      by_cases ek : (k : Int) = c.2.2
      · rw [if_pos ek] at e; cases e
      · rw [if_neg ek] at e
        cases hp : (FL ns).pr (c.1, c.2.1, (k : Int)) with
        | none => rw [hp] at e; cases e
        | some p =>
          rw [hp] at e
          cases e
          refine ⟨m, _, ?_, hp, rfl⟩
          have hz := Fld.has_z hc
          have h1 : 1 < (FL ns).l := by omega
          unfold Fld.steps
          refine List.mem_append_right _ ?_
          rw [if_pos h1, ht]
          exact List.mem_map.mpr ⟨k, List.mem_filter.mpr ⟨List.mem_range.mpr hk, by rw [decide_eq_false ek] <;> rfl⟩, rfl⟩
theorem of_stepsL {F : Fld} {c d : WC} {ch p : Int} (h : (d, ch) ∈ F.steps c) (hp : F.pr d = some p) : (d, p + ch) ∈ stepsL F c := by
  unfold Fld.steps at h
  unfold stepsL
  rcases List.mem_append.mp h with h | h
  · refine List.mem_append_left _ ?_
    unfold Fld.flatS at h
    obtain ⟨q, hq, e⟩ := List.mem_map.mp h
    have hq := (List.mem_filter.mp hq).1
    cases e
    refine List.mem_filterMap.mpr ⟨(q.1, q.2, c.2.2), ?_, by rw [hp, Option.map_some, Int.add_zero]⟩
    unfold Fld.flat4 at hq
    unfold spot4
    simp only [List.mem_cons, List.not_mem_nil, or_false] at hq ⊢
    rcases hq with rfl | rfl | rfl | rfl
    · exact .inl rfl
    · exact .inr (.inl rfl)
    · exact .inr (.inr (.inl rfl))
    · exact .inr (.inr (.inr rfl))
  · refine List.mem_append_right _ ?_
    by_cases e : 1 < F.l
    · rw [if_pos e] at h
      cases ht : F.th c.1 c.2.1 with
      | none => rw [ht] at h; cases h
      | some m =>
        rw [ht] at h
        obtain ⟨k, hk, e⟩ := List.mem_map.mp h
        obtain ⟨h1, h2⟩ := List.mem_filter.mp hk
        cases e
        refine List.mem_filterMap.mpr ⟨k, h1, ?_⟩
        have ek : ¬ (k : Int) = c.2.2 := fun z => by rw [decide_eq_true z] at h2; cases h2
        rw [if_neg ek, hp] <;> rfl
    · rw [if_neg e] at h; cases h
def F_lsteps : Fn := fun rs S QR _ => ∃ (ns : List Int) (a b : Nat) (c : WC), rs = [.d (szN ns), .o a, .o b, .d (wc c)] ∧ S[a]? = some (.dT (prK wcK (prL ns))) ∧ S[b]? = some (.dT (prK sqK (chL ns))) ∧ QR (.d (.list ((stepsL (FL ns) c).map stD))) S
theorem valI_pr {ns : List Int} {c : WC} : valI (prK wcK (prL ns)) (wcK c) = ((FL ns).pr c).map fun n => .d (.int n) := valI_prK fun _ _ => wcK_inj.mp
theorem valI_th {ns : List Int} {x y : Int} : valI (prK sqK (chL ns)) (sqK (x, y)) = ((FL ns).th x y).map fun n => .d (.int n) := valI_prK fun _ _ => sqK_inj
section
variable {P : Program} {w : World} {K : PySem.W.Frag} {mg : Str → Option Value} {base : Heap}
theorem fn__law_steps (T : TT K mg) {fd : FuncData} (Fd : FunD K "_law_steps" "_law_steps" (defArgs s__law_steps) (defBody s__law_steps) (defScope s__law_steps) [] [] (ga K "_law_steps") fd) : FnOk P w K mg base (L2.CX P w) 1 (ga K "_law_steps") fd ["_law_size", "_law_prices_here", "_law_changes", "_law_cell"] (spF K 4 F_lsteps) := by
  refine fn_w Fd sc__law_steps fun cdv A outer s H E rs S QR QE c hc hl hF => ?_
  obtain ⟨ns, a, b, ⟨cx, cy, cz⟩, rfl, ha, hb, q⟩ := hF
  have hat : ∀ (u : Own), (S ++ [u])[S.length]? = some u := fun u => by rw [List.getElem?_append_right (Nat.le_refl _), Nat.sub_self]; rfl
  have hset : ∀ (u v : Own), (S ++ [u]).set S.length v = S ++ [v] := fun u v => by rw [List.set_append_right _ _ (Nat.le_refl _), Nat.sub_self]; rfl
  have gg : ∀ {u : Own} {i : Nat} {w : Own}, S[i]? = some w → (S ++ [u])[i]? = some w := fun e => by
    rw [List.getElem?_append_left (List.getElem?_eq_some_iff.mp e).1]; exact e
  refine ss_cons (ws_asg (ev_name 3) (evg_tup (ds := [.int cx, .int cy, .int cz]) c.calm (evgs_cons (evg_name 4 c.nd) (evgs_cons (evg_name 5 c.nd) (evgs_cons (evg_name 6 c.nd) evgs_nil)))) ?_)
  refine ss_cons (ws_set 7 c.nd (ev_lstO eva_nil) ?_)
  refine ss_cons (ws_for c (evi_list (ds := (spot4 (cx, cy, cz)).map wc) (ev_lst (eva_cons (ev_tup (eva_cons (ev_sub (ev_name 4) ev_int) (eva_cons (ev_name 5) (eva_cons (ev_name 6) eva_nil)))) (eva_cons (ev_tup (eva_cons (ev_add (ev_name 4) ev_int) (eva_cons (ev_name 5) (eva_cons (ev_name 6) eva_nil)))) (eva_cons (ev_tup (eva_cons (ev_name 4) (eva_cons (ev_sub (ev_name 5) ev_int) (eva_cons (ev_name 6) eva_nil)))) (eva_cons (ev_tup (eva_cons (ev_name 4) (eva_cons (ev_add (ev_name 5) ev_int) (eva_cons (ev_name 6) eva_nil)))) eva_nil))))))
    (fun i G' S' => (∃ g8, G' = [some (.d (szN ns)), some (.o a), some (.o b), some (.d (wc (cx, cy, cz))), some (.d (.int cx)), some (.d (.int cy)), some (.d (.int cz)), some (.o S.length), g8, none]) ∧ S' = S ++ [.lst (((flP (FL ns) ((spot4 (cx, cy, cz)).take i)).map stD).map .d)]) (fun r G => G.set 8 (some r)) ⟨⟨_, rfl⟩, rfl⟩ (fun _ _ _ _ => trivial) ?_ ?_ ?_)
  · rintro i r G' S' hr ⟨⟨g8, rfl⟩, rfl⟩
    exact evg_name 8 c.nd
  · rintro i r G' S' hr ⟨⟨g8, rfl⟩, rfl⟩
    rw [List.getElem?_map, List.getElem?_map] at hr
    cases hx : (spot4 (cx, cy, cz))[i]? with
    | none => rw [hx] at hr; cases hr
    | some d =>
      rw [hx] at hr
      cases hr
      have hi : i < 4 := (List.getElem?_eq_some_iff.mp hx).1
      have hln := flP_len (FL ns) ((spot4 (cx, cy, cz)).take i)
      rw [List.length_take] at hln
      rw [take_at hx, flP_snoc]
      refine ss_cons (ws_if (EvT.is (evt_dinT c (ev_name 8) (ev_name 1) (gg ha) (keyD_wc d)) (by rw [valI_pr, Option.isSome_map])) (fun h => ?_) (fun h => ?_))
      · obtain ⟨p, hp⟩ := Option.isSome_iff_exists.mp h
        refine ss_cons (ws_expr (ev_append (xs := ((flP (FL ns) ((spot4 (cx, cy, cz)).take i)).map stD).map .d) (ev_name 7) (hat _) (ev_tup (eva_cons (ev_name 8) (eva_cons (ev_dgetT c (ev_name 1) (ev_name 8) (gg ha) (keyD_wc d) (by rw [valI_pr, hp] <;> rfl)) eva_nil))) (hat _) (by rw [List.length_map, List.length_map]; omega)) (ss_nil (ss_nil ⟨⟨_, rfl⟩, ?_⟩)))
        rw [hset, hp, List.map_append, List.map_append] <;> rfl
      · have hp : (FL ns).pr d = none := by
          cases z : (FL ns).pr d with
          | none => rfl
          | some _ => rw [z] at h; cases h
        refine ss_nil (ss_nil ⟨⟨_, rfl⟩, ?_⟩)
        rw [hp]
        show _ = S ++ [.lst (((flP (FL ns) ((spot4 (cx, cy, cz)).take i) ++ []).map stD).map .d)]
        rw [List.append_nil]
  rintro G' S' ⟨⟨g8, rfl⟩, rfl⟩
  rw [show (((spot4 (cx, cy, cz)).map wc).map Cu.It.d).length = (spot4 (cx, cy, cz)).length by rw [List.length_map, List.length_map], List.take_length]
  have h4 : (flP (FL ns) (spot4 (cx, cy, cz))).length ≤ 4 := flP_len (FL ns) (spot4 (cx, cy, cz))
  refine ss_cons (ws_if (EvT.is (evt_dinT c (ev_tup (eva_cons (ev_name 4) (eva_cons (ev_name 5) eva_nil))) (ev_name 2) (gg hb) (keyD_sq (cx, cy))) (by rw [valI_th, Option.isSome_map])) (fun h => ?_) (fun h => ss_nil ?_))
  · obtain ⟨m, hm⟩ := Option.isSome_iff_exists.mp h
    have hly := lyN_eq ns
    refine ss_cons (ws_for c (evi_range1 (n := (lyN ns : Int)) (z_range T) (ev_ixT (ev_name 0) ev_int (atI_nat (k := 2) rfl rfl)) (by omega)) (fun i G' S' => (∃ g9, G' = [some (.d (szN ns)), some (.o a), some (.o b), some (.d (wc (cx, cy, cz))), some (.d (.int cx)), some (.d (.int cy)), some (.d (.int cz)), some (.o S.length), g8, g9]) ∧ S' = S ++ [.lst (((flP (FL ns) (spot4 (cx, cy, cz)) ++ ovP (FL ns) (cx, cy, cz) m (List.range i)).map stD).map .d)]) (fun r G => G.set 9 (some r)) ⟨⟨_, rfl⟩, by show _ = S ++ [.lst (((flP (FL ns) (spot4 (cx, cy, cz)) ++ []).map stD).map .d)]; rw [List.append_nil]⟩ (fun _ _ _ _ => trivial) ?_ ?_ ?_)
    · rintro i r G' S' hr ⟨⟨g9, rfl⟩, rfl⟩
      exact evg_name 9 c.nd
    · rintro i r G' S' hr ⟨⟨g9, rfl⟩, rfl⟩
      obtain ⟨hi, rfl⟩ := rngI_at hr
      rw [Int.zero_add, List.range_succ, ovP_snoc]
      have hln := ovP_len (FL ns) (cx, cy, cz) m (List.range i)
      rw [List.length_range] at hln
      have hi : i < lyN ns := hi
      have hz : (((flP (FL ns) (spot4 (cx, cy, cz)) ++ ovP (FL ns) (cx, cy, cz) m (List.range i)).map stD).map Cu.It.d).length < 1000000 := by
        rw [List.length_map, List.length_map, List.length_append]; omega
      refine ss_cons (ws_if (k1 := !decide ((i : Int) = cz) && ((FL ns).pr (cx, cy, (i : Int))).isSome) (evt_w (evw_and (evt_neI (ev_name 9) (ev_name 6)) fun _ => evw_and1 (EvT.is (evt_dinT c (ev_tup (eva_cons (ev_name 4) (eva_cons (ev_name 5) (eva_cons (ev_name 9) eva_nil)))) (ev_name 1) (gg ha) (keyD_wc (cx, cy, (i : Int)))) (by rw [valI_pr, Option.isSome_map])))) (fun h => ?_) (fun h => ?_))
      · rw [Bool.and_eq_true] at h
        obtain ⟨h1, h2⟩ := h
        have h1 : ¬ (i : Int) = cz := fun z => by rw [decide_eq_true z] at h1; cases h1
        obtain ⟨p, hp⟩ := Option.isSome_iff_exists.mp h2
        refine ss_cons (ws_expr (ev_append (xs := ((flP (FL ns) (spot4 (cx, cy, cz)) ++ ovP (FL ns) (cx, cy, cz) m (List.range i)).map stD).map .d) (ev_name 7) (hat _) (ev_tup (eva_cons (ev_tup (eva_cons (ev_name 4) (eva_cons (ev_name 5) (eva_cons (ev_name 9) eva_nil)))) (eva_cons (ev_add (m := p) (n := m) (ev_dgetT c (ev_name 1) (ev_tup (eva_cons (ev_name 4) (eva_cons (ev_name 5) (eva_cons (ev_name 9) eva_nil)))) (gg ha) (keyD_wc (cx, cy, (i : Int))) (by rw [valI_pr, hp] <;> rfl)) (ev_dgetT c (ev_name 2) (ev_tup (eva_cons (ev_name 4) (eva_cons (ev_name 5) eva_nil))) (gg hb) (keyD_sq (cx, cy)) (by rw [valI_th, hm] <;> rfl))) eva_nil))) (hat _) hz) (ss_nil (ss_nil ⟨⟨_, rfl⟩, ?_⟩)))
        rw [hset, if_neg h1, hp]
        show _ = S ++ [Own.lst (((flP (FL ns) (spot4 (cx, cy, cz)) ++ (ovP (FL ns) (cx, cy, cz) m (List.range i) ++ [((cx, cy, (i : Int)), p + m)])).map stD).map .d)]
        simp only [List.map_append, List.append_assoc]
        rfl
      · refine ss_nil (ss_nil ⟨⟨_, rfl⟩, ?_⟩)
        by_cases e : (i : Int) = cz
        · rw [if_pos e, List.append_nil]
        · rw [if_neg e]
          have hp : (FL ns).pr (cx, cy, (i : Int)) = none := by
            cases z : (FL ns).pr (cx, cy, (i : Int)) with
            | none => rfl
            | some _ => rw [z, decide_eq_false e] at h; cases h
          rw [hp]
          show _ = S ++ [.lst (((flP (FL ns) (spot4 (cx, cy, cz)) ++ (ovP (FL ns) (cx, cy, cz) m (List.range i) ++ [])).map stD).map .d)]
          rw [List.append_nil]
    rintro G' S' ⟨⟨g9, rfl⟩, rfl⟩
    rw [rngI_len]
    refine ss_nil (ss_cons (ws_ret (ev_name 7) (back_lst (ds := (stepsL (FL ns) (cx, cy, cz)).map stD) [_] hc (Nat.le_refl _) ?_ q)))
    unfold stepsL
    rw [hm]
    exact hat _
  · have hm : (FL ns).th cx cy = none := by
      cases z : (FL ns).th cx cy with
      | none => rfl
      | some _ => rw [z] at h; cases h
    refine ss_cons (ws_ret (ev_name 7) (back_lst (ds := (stepsL (FL ns) (cx, cy, cz)).map stD) [_] hc (Nat.le_refl _) ?_ q))
    unfold stepsL
    rw [hm]
    show _ = some (Own.lst (((flP (FL ns) (spot4 (cx, cy, cz)) ++ []).map stD).map .d))
    rw [List.append_nil]
    exact hat _
theorem ok__law_steps (T : TT K mg) : OkF P w K mg base 1 "_law_steps" ["_law_size", "_law_prices_here", "_law_changes", "_law_cell"] [] F_lsteps := okF_of (g__law_steps T) (d__law_steps T) (fun _ _ _ _ _ _ us hl => match us, hl with | [_, _, _, _], _ => rfl) fun fd Fd => fn__law_steps T Fd
end
end Pf
/-! K61D: the law's check of the numbers. -/
namespace Pf
open PySem PySem.Spec PyProof.Rows L2 He Cu
structure FldAt (ns : List Int) (S : Sto) (f a b : Nat) : Prop where
  f : S[f]? = some (.tup [.d (szN ns), .d (.list ((clL ns).map wc)), .o a, .o b])
  a : S[a]? = some (.dT (prK wcK (prL ns)))
  b : S[b]? = some (.dT (prK sqK (chL ns)))
def shF (F : Fld) : Cu.It → Bool
  | .d (.tuple [.int a, .int b, .int c]) => (F.pr (a, b, c)).isSome
  | _ => false
def idG : Cu.It → PyData
  | .d d => d
  | _ => .none
theorem sh_out (F : Fld) (l : List WC) : (((l.map wc).map Cu.It.d).filter (shF F)).map idG = (l.filter fun c => (F.pr c).isSome).map wc := by
  induction l with
  | nil => rfl
  | cons c l ih =>
    rw [List.map_cons, List.map_cons, List.filter_cons, List.filter_cons]
    show (if (F.pr c).isSome = true then _ else _ : List Cu.It).map _ = _
    by_cases h : (F.pr c).isSome = true
    · rw [if_pos h, if_pos h, List.map_cons, ih] <;> rfl
    · rw [if_neg h, if_neg h, ih]
def cmK (cm : List WC) : List (List Key × Cu.It) := cm.map fun c => (wcK c, .d (.bool true))
theorem cmK_in {cm : List WC} {c : WC} : (valI (cmK cm) (wcK c)).isSome = decide (c ∈ cm) := by
  unfold cmK
  induction cm with
  | nil => rfl
  | cons a R ih =>
    unfold valI at ih ⊢
    rw [List.map_cons]
    by_cases e : a = c
    · rw [List.find?_cons_of_pos (by exact decide_eq_true (wcK_inj.mpr e)), decide_eq_true (e ▸ List.mem_cons_self)] <;> rfl
    · rw [List.find?_cons_of_neg (by rw [decide_eq_false (fun z => e (wcK_inj.mp z))]; exact Bool.false_ne_true), ih]
      congr 1
      refine propext ⟨fun h => List.mem_cons_of_mem _ h, fun h => ?_⟩
      rcases List.mem_cons.mp h with h | h
      · exact (e h.symm).elim
      · exact h
theorem cmK_put (cm : List WC) (c : WC) : ∃ cm', putI (cmK cm) (wcK c) (.d (.bool true)) = cmK cm' ∧ c ∈ cm' ∧ (∀ d ∈ cm, d ∈ cm') ∧ cm'.length ≤ cm.length + 1 := by
  by_cases h : c ∈ cm
  · refine ⟨cm, ?_, h, fun _ h => h, Nat.le_succ _⟩
    unfold putI
    rw [if_pos (show ((cmK cm).any fun kv => decide (kv.1 = wcK c)) = true from List.any_eq_true.mpr ⟨(wcK c, Cu.It.d (.bool true)), List.mem_map.mpr ⟨c, h, rfl⟩, decide_eq_true rfl⟩)]
    unfold cmK
    rw [List.map_map]
    refine List.map_congr_left fun d _ => ?_
    show (if wcK d = wcK c then (wcK d, Cu.It.d (.bool true)) else (wcK d, Cu.It.d (.bool true))) = _
    rw [ite_self]
  · refine ⟨cm ++ [c], ?_, List.mem_append_right _ List.mem_cons_self, fun _ h => List.mem_append_left _ h, by rw [List.length_append]; exact Nat.le_refl _⟩
    rw [putI_new fun b hb e => ?_]
    · unfold cmK; rw [List.map_append] <;> rfl
    · obtain ⟨d, hd, rfl⟩ := List.mem_map.mp hb
      exact h (wcK_inj.mp e ▸ hd)
theorem keysI_num (R : List Num) : keysI (numK R) = (R.map fun e => wc e.1).map .d := by
  unfold keysI numK
  rw [List.map_map, List.map_map] <;> rfl
theorem wc_shaped (c : WC) : SeqAt.shaped (wc c) = true := rfl
theorem wcs_shaped (l : List WC) : SeqAt.shaped (.list (l.map wc)) = true := shaped_list fun d hd => by
  obtain ⟨e, _, rfl⟩ := List.mem_map.mp hd
  exact ⟨rfl, by unfold wc; simp [PyData.depth, PyData.depthAll]⟩
theorem eqv_wc (c d : WC) : PyData.eqv (wc c) (wc d) = decide (c = d) := by
  obtain ⟨c1, c2, c3⟩ := c
  obtain ⟨d1, d2, d3⟩ := d
  unfold wc
  simp only [PyData.eqv, PyData.eqvAll]
  rw [Bool.eq_iff_iff]
  simp
/-! ### what the law asks of the numbers, plainly -/
structure NumsOk (F : Fld) (starts : List WC) (R : List Num) : Prop where
  op : ∀ e ∈ R, (F.pr e.1).isSome = true
  st : ∀ s ∈ starts, (F.pr s).isSome = true → inNum R s = some 0
  nn : ∀ e ∈ R, 0 ≤ e.2.1
  rel : ∀ f ∈ R, ∀ d n, (d, n) ∈ stepsL F f.1 → ∃ m, inNum R d = some m ∧ m ≤ f.2.1 + n
  come : ∀ e ∈ R, (e.1 ∈ starts) ∨ ∃ f ∈ R, ∃ n, (e.1, n) ∈ stepsL F f.1 ∧ e.2.1 = f.2.1 + n
theorem wave_nums {ns : List Int} {starts : List WC} {R : List Num} (h : WaveOk (FL ns) starts R) : NumsOk (FL ns) starts R := by
  refine ⟨fun e he => Option.isSome_iff_exists.mpr (h.op e he).2, fun s hs hp => ?_, h.nn, fun f hf d n hd => ?_, fun e he => ?_⟩
  · rcases h.st s hs (Option.isSome_iff_exists.mp hp) with ⟨e, he, e1, e2⟩ | ⟨b, z⟩
    · have := inNum_get h.nd he
      rw [e1, e2] at this
      exact this
    · cases z
  · obtain ⟨ch, p, h1, h2, rfl⟩ := stepsL_of (h.op f hf).1 hd
    rcases h.rel f hf d ch p h1 h2 with ⟨e, he, e1, e2⟩ | ⟨b, z⟩ | z
    · refine ⟨e.2.1, ?_, by omega⟩
      have := inNum_get h.nd he
      rw [e1] at this
      exact this
    · cases z
    · cases z
  · obtain ⟨i, hi⟩ := List.getElem?_of_mem he
    have hfr := h.from_ i e hi
    cases hb : e.2.2 with
    | none =>
      rw [hb] at hfr
      exact .inl hfr.2
    | some b =>
      rw [hb] at hfr
      obtain ⟨f, hf, rfl, ch, p, h1, h2, h3⟩ := hfr
      exact .inr ⟨f, List.mem_of_mem_take hf, p + ch, of_stepsL h1 h2, by omega⟩
def F_lnum : Fn := fun rs S QR _ => ∃ (ns : List Int) (f a b n : Nat) (starts : List WC) (R : List Num), rs = [.o f, .o n, .d (.list (starts.map wc))] ∧ FldAt ns S f a b ∧ S[n]? = some (.dT (numK R)) ∧ n ≠ a ∧ n ≠ b ∧ starts.length ≤ 1000 ∧ R.length ≤ 432 ∧ (R.map (·.1)).Nodup ∧ NumsOk (FL ns) starts R ∧ QR (.d (.bool true)) S
section
variable {P : Program} {w : World} {K : PySem.W.Frag} {mg : Str → Option Value} {base : Heap}
theorem fn__law_numbers (T : TT K mg) {fd : FuncData} (Fd : FunD K "_law_numbers" "_law_numbers" (defArgs s__law_numbers) (defBody s__law_numbers) (defScope s__law_numbers) [] [] (ga K "_law_numbers") fd) : FnOk P w K mg base (L2.CX P w) 2 (ga K "_law_numbers") fd ["_law_field_here", "_law_numbers_here", "_law_starts"] (spF K 3 F_lnum) := by
  refine fn_w Fd sc__law_numbers fun cdv A outer s H E rs S QR QE c hc hl hF => ?_
  obtain ⟨ns, f, a, b, n, starts, R, rfl, hfl, hn, na, nb, hsl, hRl, hnd, hN, q⟩ := hF
  have hnl : n < S.length := (List.getElem?_eq_some_iff.mp hn).1
  have setn : ∀ {L : Own} {M : Sto}, (S ++ M).set n L = S.set n L ++ M := fun {L M} => List.set_append_left _ _ hnl
  have getn : ∀ {L : Own} {M : Sto}, (S.set n L ++ M)[n]? = some L := fun {L M} => by
    rw [List.getElem?_append_left (by rw [List.length_set]; exact hnl), List.getElem?_set_self hnl]
  have geto : ∀ {L : Own} {M : Sto} {j : Nat} {u : Own}, n ≠ j → S[j]? = some u → (S.set n L ++ M)[j]? = some u := fun {L M j u} hj hu => by
    have hjl := (List.getElem?_eq_some_iff.mp hu).1
    rw [List.getElem?_append_left (by rw [List.length_set]; exact hjl), List.getElem?_set_ne hj]
    exact hu
  have back : ∀ {L : Own} {M : Sto}, (S.set n L ++ M).set n (.dT (numK R)) = S ++ M := fun {L M} => by
    rw [List.set_append_left _ _ (by rw [List.length_set]; exact hnl), List.set_set]
    congr 1
    refine List.ext_getElem? fun i => ?_
    by_cases e : n = i
    · subst e; rw [List.getElem?_set_self hnl, hn]
    · rw [List.getElem?_set_ne e]
  have endS : ∀ {L u : Own}, (S.set n L ++ [u])[S.length]? = some u := fun {L u} => by
    rw [List.getElem?_append_right (by rw [List.length_set]; exact Nat.le_refl _), List.length_set, Nat.sub_self] <;> rfl
  have setE : ∀ {L u v : Own}, (S.set n L ++ [u]).set S.length v = S.set n L ++ [v] := fun {L u v} => by
    rw [List.set_append_right _ _ (by rw [List.length_set]; exact Nat.le_refl _), List.length_set, Nat.sub_self] <;> rfl
  have endS' : ∀ {u : Own}, (S ++ [u])[S.length]? = some u := fun {u} => by rw [List.getElem?_append_right (Nat.le_refl _), Nat.sub_self] <;> rfl
  have gn : ∀ {e : Num}, e ∈ R → valI (numK R) (wcK e.1) = some (.d (.int e.2.1)) := fun {e} he => numK_get hnd he
  -- what is the first line
  refine ss_cons (ws_asg (ev_name 0) (evg_tupO c.calm hfl.f (evgs_cons (evg_name 3 c.nd) (evgs_cons (evg_name 4 c.nd) (evgs_cons (evg_name 5 c.nd) (evgs_cons (evg_name 6 c.nd) evgs_nil))))) ?_)
  refine ss_cons (ws_set 7 c.nd (r := .d (.list ((starts.filter fun c => ((FL ns).pr c).isSome).map wc))) (S1 := S) (Ev.is (ev_lc c (blkOk_by (by rfl)) (lc_pure (own := [("_law_cell", 8)]) c (evi_list (ds := starts.map wc) (ev_name 2)) (tg_name 8 c.nd) (shF (FL ns)) idG (fun _ => trivial) (fun r hr => ?_) ?_)) ?_) ?_)
  · obtain ⟨d, hd, rfl⟩ := List.mem_map.mp hr
    obtain ⟨g, hg, rfl⟩ := List.mem_map.mp hd
    exact ⟨_, rfl, fun M s H C cl fp => EvT.is (evt_dinT (c.blk _ _ _ _ _ _) (ev_name 8) (ev_name 5) (by rw [List.getElem?_append_left (List.getElem?_eq_some_iff.mp hfl.a).1]; exact hfl.a) (keyD_wc g)) (by rw [valI_pr, Option.isSome_map] <;> rfl), fun _ M s H C cl fp => ev_name 8⟩
  · rw [List.length_map, List.length_map]; omega
  · exact congrArg (fun z => Cu.It.d (.list z)) (sh_out _ _)
  -- a dict; its keys are open cells
  refine ss_cons (ws_if (k1 := false) (S1 := S) (EvT.is (evt_w (evw_orF (EvT.is (evt_not (evt_val (ev_isi (kk := true) (z_isinstance T) (ev_name 1) (ev_type (T := "dict") (z_dict T)) rfl (.dT hn) (kit_ty rfl)))) rfl) (evw_or1 (evt_neD c (x := .list []) (y := .list []) (ev_lockT (i := n) (kvs := numK R) hn fun L hL => ⟨S.set n L, Ev.is (ev_lc c (blkOk_by (by rfl)) (lc_pure (own := [("_law_cell", 8)]) c (evi_keysT (ev_name 1) hL (List.getElem?_set_self hnl)) (tg_name 8 c.nd) (fun _ => false) idG (fun M => getn) (fun r hr => ?_) ?_)) ?_, List.getElem?_set_self hnl, ?_⟩) (ev_lst eva_nil) rfl rfl)))) rfl) (fun z => nomatch z) (fun _ => ss_nil ?_))
  · rw [keysI_num] at hr
    obtain ⟨d, hd, rfl⟩ := List.mem_map.mp hr
    obtain ⟨e, he, rfl⟩ := List.mem_map.mp hd
    refine ⟨_, rfl, fun M s H C cl fp => EvT.is (evt_dnotinT (c.blk _ _ _ _ _ _) (ev_name 8) (ev_name 5) (geto na hfl.a) (keyD_wc e.1)) ?_, fun h => nomatch h⟩
    rw [valI_pr, Option.isSome_map, hN.op e he] <;> rfl
  · rw [keysI_num, List.length_map, List.length_map]; omega
  · rw [List.filter_eq_nil_iff.mpr fun _ _ => Bool.false_ne_true] <;> rfl
  · have := back (L := L) (M := [])
    rw [List.append_nil, List.append_nil] at this
    exact this
  -- the starts have 0
  refine ss_cons (ws_if (k1 := false) (EvT.is (evt_neD c (x := .list []) (y := .list []) (Ev.is (ev_lc c (blkOk_by (by rfl)) (lc_pure (own := [("_law_cell", 8)]) c (evi_list (ds := (starts.filter fun c => ((FL ns).pr c).isSome).map wc) (ev_name 7)) (tg_name 8 c.nd) (fun _ => false) idG (fun _ => trivial) (fun r hr => ?_) ?_)) ?_) (ev_lst eva_nil) rfl rfl) rfl) (fun z => nomatch z) (fun _ => ss_nil ?_))
  · obtain ⟨d, hd, rfl⟩ := List.mem_map.mp hr
    obtain ⟨g, hg, rfl⟩ := List.mem_map.mp hd
    obtain ⟨hg1, hg2⟩ := List.mem_filter.mp hg
    have h0 := hN.st g hg1 hg2
    have hnM : ∀ M : Sto, (S ++ M)[n]? = some (.dT (numK R)) := fun M => by rw [List.getElem?_append_left hnl]; exact hn
    refine ⟨_, rfl, fun M s H C cl fp => EvT.is (evt_w (evw_orF (EvT.is (evt_dnotinT (c.blk _ _ _ _ _ _) (ev_name 8) (ev_name 1) (hnM M) (keyD_wc g)) (by rw [valI_numK, h0] <;> rfl)) (evw_or1 (evt_neI (m := 0) (n := 0) (ev_dgetT (c.blk _ _ _ _ _ _) (ev_name 1) (ev_name 8) (hnM M) (keyD_wc g) (by rw [valI_numK, h0] <;> rfl)) ev_int)))) rfl, fun h => nomatch h⟩
  · rw [List.length_map, List.length_map]
    have := List.length_filter_le (fun c => ((FL ns).pr c).isSome) starts
    omega
  · rw [List.filter_eq_nil_iff.mpr fun _ _ => Bool.false_ne_true] <;> rfl
  refine ss_cons (ws_set 9 c.nd ev_dNewT ?_)
  refine ss_cons (ws_forDT (i := n) (kvs := numK R) c (fun S' => ev_name 1) (by rw [List.getElem?_append_left hnl]; exact hn) (fun r G => G.set 8 (some r)) fun L hL => ⟨fun i G' S' => ∃ cm g8 g10 g11, G' = [some (.o f), some (.o n), some (.d (.list (starts.map wc))), some (.d (szN ns)), some (.d (.list ((clL ns).map wc))), some (.o a), some (.o b), some (.d (.list ((starts.filter fun c => ((FL ns).pr c).isSome).map wc))), g8, some (.o S.length), g10, g11] ∧ S' = S.set n L ++ [.dT (cmK cm)] ∧
    (∀ j, j < i → ∀ e, R[j]? = some e → ∀ d p, (d, p) ∈ stepsL (FL ns) e.1 → inNum R d = some (e.2.1 + p) → d ∈ cm) ∧ cm.length ≤ 7 * i, ?_, ?_, ?_, ?_, ?_⟩)
  · exact ⟨[], _, _, _, rfl, setn, fun j hj => absurd hj (Nat.not_lt_zero _), Nat.zero_le _⟩
  · rintro i G' S' ⟨cm, g8, g10, g11, rfl, rfl, _⟩
    exact getn
  · rintro i r G' S' hr ⟨cm, g8, g10, g11, rfl, rfl, _⟩
    exact evg_name 8 c.nd
  · rintro i r G' S' hr ⟨cm, g8, g10, g11, rfl, rfl, hall, hcm⟩
    rw [keysI_num, List.getElem?_map, List.getElem?_map] at hr
    cases hx : R[i]? with
    | none => rw [hx] at hr; cases hr
    | some e =>
      rw [hx] at hr
      cases hr
      have he : e ∈ R := List.mem_of_getElem? hx
      have hi : i < R.length := (List.getElem?_eq_some_iff.mp hx).1
      have hasn : ∀ {M : Sto}, HasT (S.set n L ++ M) n (numK R) := fun {M} => .inr ⟨L, hL, getn⟩
      have h0 := hN.nn e he
      have hs7 := stepsL_len (FL_ok ns) e.1
      refine ss_cons (ws_if (k1 := false) (EvT.is (evt_w (evw_orF (EvT.is (evt_not (c := true) (evt_val (ev_isD (T := "int") (kk := true) (z_isinstance T) (z_int T) (ev_dgetTL c (ev_name 1) (ev_name 8) hasn (keyD_wc e.1) (gn he)) rfl))) rfl) (evw_orF (evt_val (ev_isD (T := "bool") (kk := false) (z_isinstance T) (z_bool T) (ev_dgetTL c (ev_name 1) (ev_name 8) hasn (keyD_wc e.1) (gn he)) rfl)) (evw_or1 (EvT.is (evt_lt (m := e.2.1) (n := 0) (ev_dgetTL c (ev_name 1) (ev_name 8) hasn (keyD_wc e.1) (gn he)) ev_int) (decide_eq_false (by omega))))))) rfl) (fun z => nomatch z) (fun _ => ss_nil ?_))
      refine ss_cons (ws_for c (evi_list (ds := (stepsL (FL ns) e.1).map stD) (ev_call c (ok__law_steps T) (eva_cons (ev_name 3) (eva_cons (ev_name 5) (eva_cons (ev_name 6) (eva_cons (ev_name 8) eva_nil)))) (fun QR QE q => ⟨ns, a, b, e.1, rfl, geto na hfl.a, geto nb hfl.b, q⟩)))
        (fun j G' S' => ∃ cm g10 g11, G' = [some (.o f), some (.o n), some (.d (.list (starts.map wc))), some (.d (szN ns)), some (.d (.list ((clL ns).map wc))), some (.o a), some (.o b), some (.d (.list ((starts.filter fun c => ((FL ns).pr c).isSome).map wc))), some (.d (wc e.1)), some (.o S.length), g10, g11] ∧ S' = S.set n L ++ [.dT (cmK cm)] ∧
          (∀ j, j < i → ∀ e, R[j]? = some e → ∀ d p, (d, p) ∈ stepsL (FL ns) e.1 → inNum R d = some (e.2.1 + p) → d ∈ cm) ∧ (∀ j', j' < j → ∀ d p, (stepsL (FL ns) e.1)[j']? = some (d, p) → inNum R d = some (e.2.1 + p) → d ∈ cm) ∧ cm.length ≤ 7 * i + j)
        (fun r G => match r with | .d (.tuple [d0, d1]) => (G.set 10 (some (.d d0))).set 11 (some (.d d1)) | _ => G) ⟨cm, _, _, rfl, rfl, hall, fun j hj => absurd hj (Nat.not_lt_zero _), hcm⟩ (fun _ _ _ _ => trivial) ?_ ?_ ?_)
      · rintro j r G' S' hr ⟨cm, g10, g11, rfl, rfl, _⟩
        rw [List.getElem?_map, List.getElem?_map] at hr
        cases hx2 : (stepsL (FL ns) e.1)[j]? with
        | none => rw [hx2] at hr; cases hr
        | some d =>
          rw [hx2] at hr
          cases hr
          exact evg_tup (ds := [wc d.1, .int d.2]) c.calm (evgs_cons (evg_name 10 c.nd) (evgs_cons (evg_name 11 c.nd) evgs_nil))
      · rintro j r G' S' hr ⟨cm, g10, g11, rfl, rfl, hall, hnow, hcm⟩
        rw [List.getElem?_map, List.getElem?_map] at hr
        cases hx2 : (stepsL (FL ns) e.1)[j]? with
        | none => rw [hx2] at hr; cases hr
        | some dp =>
          obtain ⟨d, p⟩ := dp
          rw [hx2] at hr
          cases hr
          have hj : j < (stepsL (FL ns) e.1).length := (List.getElem?_eq_some_iff.mp hx2).1
          obtain ⟨m, hm, hle⟩ := hN.rel e he d p (List.mem_of_getElem? hx2)
          have gd : valI (numK R) (wcK d) = some (.d (.int m)) := by rw [valI_numK, hm] <;> rfl
          refine ss_cons (ws_if (k1 := false) (EvT.is (evt_w (evw_orF (EvT.is (evt_dnotinTL c (ev_name 10) (ev_name 1) hasn (keyD_wc d)) (by rw [gd] <;> rfl)) (evw_or1 (EvT.is (evt_gt (m := m) (n := e.2.1 + p) (ev_dgetTL c (ev_name 1) (ev_name 10) hasn (keyD_wc d) gd) (ev_add (ev_dgetTL c (ev_name 1) (ev_name 8) hasn (keyD_wc e.1) (gn he)) (ev_name 11))) (decide_eq_false (by omega)))))) rfl) (fun z => nomatch z) (fun _ => ss_nil ?_))
          have next : ∀ {cm' : List WC}, (∀ x ∈ cm, x ∈ cm') → (m = e.2.1 + p → d ∈ cm') → ∀ j', j' < j + 1 → ∀ d' p', (stepsL (FL ns) e.1)[j']? = some (d', p') → inNum R d' = some (e.2.1 + p') → d' ∈ cm' := fun {cm'} h1 h2 j' hj' d' p' h3 h4 => by
            by_cases ej : j' < j
            · exact h1 _ (hnow j' ej d' p' h3 h4)
            · have ej : j' = j := by omega
              subst ej
              rw [hx2] at h3
              cases h3
              rw [hm] at h4
              exact h2 (Option.some.inj h4)
          refine ss_cons (ws_if (evt_eqI (m := m) (n := e.2.1 + p) (ev_dgetTL c (ev_name 1) (ev_name 10) hasn (keyD_wc d) gd) (ev_add (ev_dgetTL c (ev_name 1) (ev_name 8) hasn (keyD_wc e.1) (gn he)) (ev_name 11))) (fun h => ?_) (fun h => ?_))
          · obtain ⟨cm', e1, e2, e3, e4⟩ := cmK_put cm d
            refine ss_cons (ws_dputT c ev_bool (ev_name 9) (ev_name 10) endS (keyD_wc d) (by unfold cmK; rw [List.length_map]; omega) (ss_nil (ss_nil ⟨cm', _, _, rfl, ?_, fun j hj x hx d p h3 h4 => e3 _ (hall j hj x hx d p h3 h4), next e3 fun _ => e2, by omega⟩)))
            rw [setE, e1]
          · exact ss_nil (ss_nil ⟨cm, _, _, rfl, rfl, hall, next (fun _ h => h) fun z => absurd z (of_decide_eq_false h), by omega⟩)
      · rintro G' S' ⟨cm, g10, g11, rfl, rfl, hall, hnow, hcm⟩
        rw [show (((stepsL (FL ns) e.1).map stD).map Cu.It.d).length = (stepsL (FL ns) e.1).length by rw [List.length_map, List.length_map]] at hnow hcm
        refine ss_nil ⟨cm, _, _, _, rfl, rfl, fun j hj x hx' d p h3 h4 => ?_, by omega⟩
        by_cases ej : j < i
        · exact hall j ej x hx' d p h3 h4
        · have ej : j = i := by omega
          subst ej
          rw [hx] at hx'
          cases hx'
          obtain ⟨j', hj'⟩ := List.getElem?_of_mem h3
          exact hnow j' (List.getElem?_eq_some_iff.mp hj').1 d p hj' h4
  rintro G' S' ⟨cm, g8, g10, g11, rfl, rfl, hall, hcm⟩
  rw [back]
  rw [keysI_num, List.length_map, List.length_map] at hall
  have hnM : (S ++ [Own.dT (cmK cm)])[n]? = some (.dT (numK R)) := by rw [List.getElem?_append_left hnl]; exact hn
  refine ss_cons (ws_ret (r := .d (.bool true)) (S1 := S ++ [Own.dT (cmK cm)]) (Ev.is (ev_eqD c (x := .list []) (y := .list []) (ev_lockT (i := n) (kvs := numK R) hnM fun L hL => ⟨S.set n L ++ [Own.dT (cmK cm)], ?_, getn, back⟩) (ev_lst eva_nil) rfl rfl) rfl) (back_drop [_] hc q))
  rw [setn]
  refine Ev.is (ev_lc c (blkOk_by (by rfl)) (lc_pure (own := [("_law_cell", 8)]) c (evi_keysT (ev_name 1) hL getn) (tg_name 8 c.nd) (fun _ => false) idG (fun M => by rw [List.append_assoc]; exact getn) (fun r hr => ?_) ?_)) ?_
  · rw [keysI_num] at hr
    obtain ⟨d, hd, rfl⟩ := List.mem_map.mp hr
    obtain ⟨e, he, rfl⟩ := List.mem_map.mp hd
    refine ⟨_, rfl, fun M s H C cl fp => EvT.is (evt_w (evw_and (evt_dnotinT (c.blk _ _ _ _ _ _) (ev_name 8) (ev_name 9) (kvs := cmK cm) ?_ (keyD_wc e.1)) fun _ => evw_and1 (evt_notInD (c.blk _ _ _ _ _ _) (ev_name 8) (ev_name 7) rfl (wc_shaped e.1) (wcs_shaped _)))) ?_, fun h => nomatch h⟩
    · rw [List.append_assoc, List.getElem?_append_right (by rw [List.length_set]; exact Nat.le_refl _), List.length_set, Nat.sub_self] <;> rfl
    · rw [cmK_in]
      rcases hN.come e he with hs | ⟨x, hx, p, h1, h2⟩
      · have : (((starts.filter fun c => ((FL ns).pr c).isSome).map wc).any fun z => PyData.eqv z (wc e.1)) = true := List.any_eq_true.mpr ⟨wc e.1, List.mem_map.mpr ⟨e.1, List.mem_filter.mpr ⟨hs, hN.op e he⟩, rfl⟩, by rw [eqv_wc]; exact decide_eq_true rfl⟩
        rw [this]
        exact Bool.and_false _
      · obtain ⟨j, hj⟩ := List.getElem?_of_mem hx
        have : e.1 ∈ cm := hall j (List.getElem?_eq_some_iff.mp hj).1 x hj e.1 p h1 (by rw [inNum_get hnd he, h2])
        rw [decide_eq_true this]
        exact Bool.false_and _
  · rw [keysI_num, List.length_map, List.length_map]; omega
  · rw [List.filter_eq_nil_iff.mpr fun _ _ => Bool.false_ne_true] <;> rfl
theorem ok__law_numbers (T : TT K mg) : OkF P w K mg base 2 "_law_numbers" ["_law_field_here", "_law_numbers_here", "_law_starts"] [] F_lnum := okF_of (g__law_numbers T) (d__law_numbers T) (fun _ _ _ _ _ _ us hl => match us, hl with | [_, _, _], _ => rfl) fun fd Fd => fn__law_numbers T Fd
end
end Pf
/-! CwF: < of data, sorted(set(pairs)), dict of pairs with tuple keys, xs.remove of a datum. -/
namespace Cu
open PySem PySem.Spec PyProof.Rows L2
def rLtD (K : PySem.W.Frag) : R2 := fun x y H Q => ∃ d e, Dp K H x d ∧ Dp K H y e ∧ PySem.W.alike d e = true ∧ d ≠ .none ∧ d.depth ≤ 60 ∧ Q (.bl (PySem.W.dataLt d e)) H
theorem op_ltD {X : Cx} (hu : X.A.units + 64 < cLine) : OpR X (compareOp .Lt) (rLtD X.K) := by
  intro pins s σ H x y v u Q I rx ry h
  obtain ⟨d, e, hd, he, al, nn, dd, q⟩ := h
  obtain ⟨as, r1⟩ := Dp.reads I d x v hd rx
  obtain ⟨bs, r2⟩ := Dp.reads I e y u he ry
  exact PySem.W.lt_data r1 r2 al nn (by have := Nat.min_le_left d.depth e.depth; omega) ⟨.bl _, H, I, rfl, q⟩
section
variable {X : Cx} {W : WX} {k j : Nat} {G G1 G2 : Gam} {S S1 S2 S3 : Sto} {P : Post} {e a b o : Expr} {es : List Expr} {r y z r' : It} {rs : List It} {pos pos' p p2 pos2 apos cpos : Pos} {ds ds' : List PyData} {m n : Int} {i : Nat} {Qr : It → Sto → Prop} {Qx : Addr → Sto → Prop}
/-- a < b, data -/
theorem evt_ltD {x y : PyData} (c : Cxo X W k) (ha : Ev X a G S (.d x) S1) (hb : Ev X b G S1 (.d y) S2) (hal : PySem.W.alike x y = true) (hn : x ≠ .none) (hd : x.depth ≤ 60) : EvT X (.Compare a [.Lt] [b] pos) G S (PySem.W.dataLt x y) S2 :=
  evt_cmp (op_ltD c.hr.units) ha hb fun M H v u Q s hv hu q => ⟨x, y, Fz.dp hv, Fz.dp hu, hal, hn, hd, q _ M H Ext.refl s (Fz.bl _)⟩
end
/-! ### xs.remove(x) -/
def rRemD (K : PySem.W.Frag) : V → List V → Hp → VK → Prop := fun x xs H Q => ∃ (a : Addr) (vs : List V) (y : V) (d : PyData) (ds : List PyData) (j : Nat) (z : PyData), x = V.ref a ∧ xs = [y] ∧ H a = some (.lst vs) ∧ DpAll K H vs ds ∧ Dp K H y d ∧
  SeqAt.shaped (.list ds) = true ∧ SeqAt.shaped d = true ∧ ds[j]? = some z ∧ PyData.eqv z d = true ∧ (∀ (m : Nat) (z' : PyData), m < j → ds[m]? = some z' → PyData.eqv z' d = false) ∧ Q .non (upd H a (.lst (vs.eraseIdx j)))
theorem mt_remD {X : Cx} (hu : X.A.units + 65 < cLine) : MtM X "list.remove" (rRemD X.K) := by
  intro pins s σ H x xs v us Q I rx rxs h
  obtain ⟨a, vs, y, d, ds, j, z, rfl, rfl, hH, ha, hy, sl, sd, hz, hzj, hno, q⟩ := h
  cases rx
  obtain ⟨uy, rfl, ry⟩ := rxs.one
  obtain ⟨bs, r1⟩ := Dp.reads I d y uy hy ry
  have hxs : PyData.canLayAll0 ds = true := SeqAt.canLay_of_shaped sl
  have hroom : X.A.units + 1 + min (PyData.depthAll ds) d.depth < cLine := room_in_shaped sd hu
  obtain ⟨zl, its, n, rv, hl, e0⟩ := I.lstM hH
  obtain ⟨as, h4⟩ := Dp.readsAll I ds _ its ha rv
  have hn : its.length = ds.length := SeqAt.ReadsAll.length ds its as h4
  have hmap : its.map (SeqAt.readOf s.heap) = ds := SeqAt.readsAll_map ds its as hxs h4
  have hvl := rv.length
  have hsl := sizeLine_eq
  obtain ⟨hjd, _⟩ := List.getElem?_eq_some_iff.mp hz
  have hjl : j < its.length := by omega
  have hj : j < its.toArray.size := by simpa using hjl
  have at_ : ∀ (m : Nat) (hm : m < its.toArray.size) (z' : PyData), ds[m]? = some z' → SeqAt.readOf s.heap its.toArray[m] = z' := by
    intro m hm z' hz'
    have hml : m < its.length := by simpa using hm
    rw [← hmap, List.getElem?_map, List.getElem?_eq_getElem hml] at hz'
    have e1 : SeqAt.readOf s.heap its[m] = z' := Option.some.inj (show some (SeqAt.readOf s.heap its[m]) = some z' from hz')
    simpa using e1
  refine call_meets PySem.F.slot_list_remove ⟨_, e0, rfl⟩ PySem.F.entry_list_remove (PySem.F.args_list_remove_2 _ _)
    (SeqAt.list_removeAt a its.toArray n none #[] uy (fun u => PyData.eqv (SeqAt.readOf s.heap u) d) j hj ?_ ?_ (by rw [List.size_toArray]; omega)) ⟨e0, SeqAt.items_eqAt (vs := its.toArray) (show ReadsAll s.heap its.toArray.toList ds as from h4) r1 hxs (SeqAt.canLay_of_shaped sd) hroom, ?_⟩
  · show PyData.eqv (SeqAt.readOf s.heap its.toArray[j]) d = true
    rw [at_ j hj z hz]; exact hzj
  · intro m hm hlt
    show PyData.eqv (SeqAt.readOf s.heap its.toArray[m]) d = false
    have hm2 : m < ds.length := by rw [← hn]; simpa using hm
    rw [at_ m hm _ (List.getElem?_eq_getElem hm2)]
    exact hno m _ hlt (List.getElem?_eq_getElem hm2)
  · refine ⟨.non, _, I.lset (its' := its.eraseIdx j) hH e0 ?_ (rv.eraseIdx j) ?_, rfl, q⟩
    · show its.toArray.eraseIdxIfInBounds j = (its.eraseIdx j).toArray
      rw [List.eraseIdxIfInBounds_toArray]
    · have := List.length_eraseIdx_le vs j
      omega
theorem map_erase_d : ∀ (ds : List PyData) (j : Nat), (ds.map It.d).eraseIdx j = (ds.eraseIdx j).map .d
  | [], _ => rfl
  | _ :: _, 0 => rfl
  | d :: ds, j + 1 => by
    show It.d d :: (ds.map It.d).eraseIdx j = It.d d :: (ds.eraseIdx j).map .d
    rw [map_erase_d ds j]
theorem ls_dp {K : PySem.W.Frag} {M : List Addr} {H : Hp} {S : Sto} (s : StoreOk K M H S) {i : Nat} {ad : Addr} {ds : List PyData} (had : M[i]? = some ad) (hi : S[i]? = some (.lst (ds.map .d))) : ∃ vs, H ad = some (.lst vs) ∧ VReps K M H vs (ds.map .d) ∧ FzAll M H vs ds := by
  obtain ⟨vs, h1, h2⟩ := s.rep i ad _ had hi
  exact ⟨vs, h1, h2, fz_all (ds_map ds) h2⟩
section
variable {X : Cx} {W : WX} {k j : Nat} {G G1 G2 : Gam} {S S1 S2 S3 : Sto} {P : Post} {e a b o : Expr} {es : List Expr} {r y z r' : It} {rs : List It} {pos pos' p p2 pos2 apos cpos : Pos} {ds ds' : List PyData} {m n : Int} {i : Nat} {Qr : It → Sto → Prop} {Qx : Addr → Sto → Prop}
/-- xs.remove(x): the j-th item is the first equal one -/
theorem ev_removeD {x z : PyData} (c : Cxo X W k) (ho : Ev X o G S (.o i) S1) (hi : S1[i]? = some (.lst (ds.map .d))) (ha : Ev X e G S1 (.d x) S2) (hi2 : S2[i]? = some (.lst (ds.map .d))) (hsl : SeqAt.shaped (.list ds) = true) (hsd : SeqAt.shaped x = true)
    (hz : ds[j]? = some z) (hzj : PyData.eqv z x = true) (hno : ∀ (m : Nat) (z' : PyData), m < j → ds[m]? = some z' → PyData.eqv z' x = false) (hbase : attributeBase o "remove" X.env (eval o X.env) = eval o X.env := by rfl)
    (hfew : ((backTo cpos (starEach [e] X.env)).all (fun x => !x.1) && (backToKw cpos (keywordEach [] X.env)).all (fun x => x.1.isSome) && decide ([e].length + ([] : List Keyword).length + (if ([] : List Keyword).isEmpty then 0 else 1) < 30)) = true := by rfl)
    (hline : (apos.endLine == cpos.line) = true := by rfl) (hs : starEach [e] X.env = (false, eval e X.env) :: starEach [] X.env := by rfl) : Ev X (.Call (.Attribute o "remove" apos) [e] [] cpos) G S (.d .none) (S2.set i (.lst ((ds.eraseIdx j).map .d))) :=
  ev_bm PySem.F.plainAttrs_list PySem.F.slot_list_remove PySem.F.type_list_remove (mt_remD (by have := c.hr.units; have := c.hr.un; omega)) ho (ty_own hi) (eva_cons ha eva_nil hs) (fun M H v vs Q s hv hvs q => by
    obtain ⟨u, rfl, hu⟩ := vr1 hvs
    obtain ⟨ad, had, rfl⟩ := hv
    obtain ⟨ws, e1, e2, e4⟩ := ls_dp s had hi2
    have e3 : Ext M H M (upd H ad (.lst (ws.eraseIdx j))) := Ext.put (List.mem_of_getElem? had)
    refine ⟨ad, ws, u, x, ds, j, z, rfl, rfl, e1, FzAll.dp e4, Fz.dp hu, hsl, hsd, hz, hzj, hno, q .non M _ e3 (s.put had ⟨_, upd_same, ?_⟩) Fz.non⟩
    have e5 := reps_eraseIdx e2 j
    rw [map_erase_d] at e5
    exact VReps.ext e3 e5) hbase hfew hline hs rfl
end
end Cu
/-! CwG: dict of pairs with tuple keys, sorted(set(pairs)). -/
namespace Cu
open PySem PySem.Spec PyProof.Rows L2
/-- dict(xs), xs pairs of a tuple and a value; no tuple twice -/
def rDictPairs (K : PySem.W.Frag) : List V → Hp → VK → Prop := fun xs H Q => ∃ (l : Addr) (ps : List (Addr × List Key × Addr × V)), xs = [V.ref l] ∧ SqL K H l (ps.map fun p => V.ref p.1) ∧ (∀ p ∈ ps, H p.1 = some (.tup [V.ref p.2.2.1, p.2.2.2]) ∧ H p.2.2.1 = some (.tup (p.2.1.map kV))) ∧
  (ps.map (·.2.1)).Nodup ∧ ∀ d, H d = none → Q (.ref d) (upd H d (.dT (ps.map fun p => (p.2.1, p.2.2.2))))
theorem tup_two {P : Program} {w : World} {H : Hp} {h : Heap} {t b : Addr} {v : V} (ok : HOk P w H h) (e : H t = some (.tup [V.ref b, v])) : ∃ u, RelV v u ∧ h.IsTuple t #[.ref b, u] := by
  obtain ⟨_, its, r, it⟩ := (show ObjOk P w H h t (.tup [V.ref b, v]) from ok t _ e)
  cases r with
  | @cons _ u1 _ _ h1 h2 =>
    cases h2 with
    | @cons _ u2 _ _ h3 h4 =>
      cases h4
      cases (show u1 = Value.ref b from h1)
      exact ⟨u2, h3, it⟩
theorem cr_dictPairs {X : Cx} (hc : X.calm = true) (hu : X.A.units + 64 < cLine) : CallR X (.type "dict") (rDictPairs X.K) := by
  intro pins s σ H xs us Q I r h
  obtain ⟨l, ps, rfl, hl, hp, nd, q⟩ := h
  rw [Vals.ref1 r]
  obtain ⟨its, rv, pl, hz⟩ := I.list hl
  have hn : H s.heap.objs.size = none := I.hok.fresh (Nat.le_refl _)
  have hits : its = ps.map fun p => Value.ref p.1 := by
    have aux : ∀ (ps : List (Addr × List Key × Addr × V)) (its : List Value), Vals (ps.map fun p => V.ref p.1) its → its = ps.map fun p => Value.ref p.1 := by
      intro ps
      induction ps with
      | nil => intro its h; cases h; rfl
      | cons p ps ih =>
        intro its h
        cases h with
        | @cons _ u _ us h1 h2 =>
          cases (show u = Value.ref p.1 from h1)
          rw [ih _ h2]; rfl
    exact aux ps its rv
  -- the values of the pairs
  have hval : ∃ vs : List Value, vs.length = ps.length ∧ ∀ (j : Nat) (p : Addr × List Key × Addr × V), ps[j]? = some p → ∃ u, vs[j]? = some u ∧ RelV p.2.2.2 u ∧ s.heap.IsTuple p.1 #[.ref p.2.2.1, u] := by
    have aux : ∀ (ps : List (Addr × List Key × Addr × V)), (∀ p ∈ ps, H p.1 = some (.tup [V.ref p.2.2.1, p.2.2.2])) → ∃ vs : List Value, vs.length = ps.length ∧ ∀ (j : Nat) (p : Addr × List Key × Addr × V), ps[j]? = some p → ∃ u, vs[j]? = some u ∧ RelV p.2.2.2 u ∧ s.heap.IsTuple p.1 #[.ref p.2.2.1, u] := by
      intro ps
      induction ps with
      | nil => exact fun _ => ⟨[], rfl, fun j p h => by simp at h⟩
      | cons p ps ih =>
        intro hp
        obtain ⟨vs, h1, h2⟩ := ih fun p hm => hp p (List.mem_cons_of_mem _ hm)
        obtain ⟨u, hu1, hu2⟩ := tup_two I.hok (hp p List.mem_cons_self)
        refine ⟨u :: vs, by simp [h1], fun j p' hj => ?_⟩
        cases j with
        | zero => cases hj; exact ⟨u, rfl, hu1, hu2⟩
        | succ j => exact h2 j p' hj
    exact aux ps fun p hm => (hp p hm).1
  obtain ⟨vs, hvl, hvs⟩ := hval
  let kps : List (List Key × Addr × Value) := (ps.zip vs).map fun z => (z.1.2.1, z.1.2.2.1, z.2)
  let vps : List (Value × Value) := (ps.zip vs).map fun z => (Value.ref z.1.2.2.1, z.2)
  have hkl : kps.length = ps.length := by simp only [kps, List.length_map, List.length_zip]; omega
  have hvpl : vps.length = ps.length := by simp only [vps, List.length_map, List.length_zip]; omega
  have zat : ∀ (j : Nat) (z : (Addr × List Key × Addr × V) × Value), (ps.zip vs)[j]? = some z → ps[j]? = some z.1 ∧ vs[j]? = some z.2 := by
    intro j z hz
    rw [List.getElem?_zip_eq_some] at hz
    exact hz
  have hPA := PairArg.list (prog := X.prog) (w := X.w) l its.toArray (fun j => ((ps[j]?).map (·.1)).getD 0) vps
  have hok : PlainSeq "list" s.heap l its.toArray ∧ PairItems s.heap its.toArray (fun j => ((ps[j]?).map (·.1)).getD 0) vps := by
    refine ⟨pl, by rw [List.size_toArray, hits, List.length_map, hvpl], fun j kk v hj => ?_⟩
    simp only [vps, List.getElem?_map] at hj
    cases hz : (ps.zip vs)[j]? with
    | none => rw [hz] at hj; cases hj
    | some z =>
      rw [hz] at hj
      cases hj
      obtain ⟨h1, h2⟩ := zat j z hz
      obtain ⟨u, hu1, hu2, hu3⟩ := hvs j z.1 h1
      rw [h2] at hu1
      cases hu1
      have eT : ((ps[j]?).map (·.1)).getD 0 = z.1.1 := by rw [h1]; rfl
      refine ⟨?_, ?_⟩
      · show its.toArray[j]? = some (Value.ref (((ps[j]?).map (·.1)).getD 0))
        rw [eT, List.getElem?_toArray, hits, List.getElem?_map, h1]; rfl
      · show PairAt s.heap (((ps[j]?).map (·.1)).getD 0) _ _
        rw [eT]; exact .inl hu3
  refine call_dict_pairsH (knd := tupleKind (mixKind X.prog X.w)) (ps := kps) hPA (I.ok.hd hc) (show X.A.units + 2 < cLine by omega) hok ⟨by rw [hkl, hvpl], fun j key v hj => ?_⟩ (fun h' hk x hx => ?_) ?_ fun h' tk dd hk => ?_
  · have hj' : vps[j]? = some (key, v) := hj
    simp only [vps, List.getElem?_map] at hj'
    cases hz : (ps.zip vs)[j]? with
    | none => rw [hz] at hj'; cases hj'
    | some z =>
      rw [hz] at hj'
      cases hj'
      exact ⟨z.1.2.1, z.1.2.2.1, by simp only [kps, List.getElem?_map, hz]; rfl, rfl⟩
  · obtain ⟨z, hz, rfl⟩ := List.mem_map.mp hx
    obtain ⟨j, hj⟩ := List.getElem?_of_mem hz
    obtain ⟨h1, h2⟩ := zat j z hj
    have hkey := key_of I.hok (hp z.1 (List.mem_of_getElem? h1)).2
    obtain ⟨o, items, n, ho, hc', hd', hi'⟩ := hkey
    exact ⟨o, items, n, hk _ _ (fun z' => by rw [z'] at ho; exact absurd (Heap.lt_size ho) (Nat.lt_irrefl _)) (fun h => nomatch h) ho, hc', hd', hi'⟩
  · rw [hvpl]
    rw [List.length_map] at hz
    exact hz
  · have hkeys : kps.map (·.1) = ps.map (·.2.1) := by
      simp only [kps, List.map_map]
      have : ((fun z : List Key × Addr × Value => z.1) ∘ fun z : (Addr × List Key × Addr × V) × Value => (z.1.2.1, z.1.2.2.1, z.2)) = (fun p : Addr × List Key × Addr × V => p.2.1) ∘ Prod.fst := rfl
      rw [this, ← List.map_map, List.map_fst_zip (by omega)]
    rw [PySem.storedAllH_nil_of_nodup kps (by rw [hkeys]; exact nd)] at dd
    have hg : ∀ b o, s.heap.get? b = some o → h'.get? b = some o := fun b o e => hk b o (fun h => nomatch h) e
    obtain ⟨q0, es, ep, hq, h2', h3, h4, _, h5⟩ := dd
    refine ⟨.ref s.heap.objs.size, upd H s.heap.objs.size (.dT (ps.map fun p => (p.2.1, p.2.2.2))), I.laid (t' := tk) hg (Nat.le_refl _) ?_, rfl, q _ hn⟩
    refine ⟨by rw [List.length_map] at hz ⊢; exact hz, ?_, kps, ?_, q0, es, ep, hq, h2', h3, h4, h5⟩
    · exact beq_eq_false_iff_ne.mpr (Nat.ne_of_gt I.big)
    · have aux : ∀ (ps0 ps : List (Addr × List Key × Addr × V)) (vs : List Value), vs.length = ps.length → (∀ (j : Nat) (p : Addr × List Key × Addr × V), ps[j]? = some p → ∃ u, vs[j]? = some u ∧ RelV p.2.2.2 u ∧ s.heap.IsTuple p.1 #[.ref p.2.2.1, u]) → (∀ p ∈ ps, H p.2.2.1 = some (.tup (p.2.1.map kV))) →
          Paired (fun (p : List Key × V) (q : List Key × Addr × Value) => p.1 = q.1 ∧ (upd H s.heap.objs.size (.dT (ps0.map fun p => (p.2.1, p.2.2.2)))) q.2.1 = some (.tup (p.1.map kV)) ∧ RelV p.2 q.2.2) (ps.map fun p => (p.2.1, p.2.2.2)) ((ps.zip vs).map fun z => (z.1.2.1, z.1.2.2.1, z.2)) := by
        intro ps0 ps
        induction ps with
        | nil => exact fun vs _ _ _ => .nil
        | cons p ps ih =>
          intro vs hl hv hk
          cases vs with
          | nil => cases hl
          | cons v vs =>
            obtain ⟨u, hu1, hu2, _⟩ := hv 0 p rfl
            cases hu1
            have e := hk p List.mem_cons_self
            exact .cons ⟨rfl, by rw [upd_ne (ne_of_none e hn)]; exact e, hu2⟩ (ih vs (Nat.succ.inj hl) (fun j p' hj => hv (j + 1) p' hj) fun p' hm => hk p' (List.mem_cons_of_mem _ hm))
      exact aux ps ps vs hvl hvs fun p hm => (hp p hm).2
/-- a list of pairs (tuple of keys, value) among data -/
def pairK (p : List Key × PyData) : PyData := .tuple [keyU p.1, p.2]
theorem fz_pairK {M : List Addr} {H : Hp} : ∀ {ps : List (List Key × PyData)} {vs : List V}, FzAll M H vs (ps.map pairK) →
    ∃ qs : List (Addr × List Key × Addr × V), vs = qs.map (fun q => V.ref q.1) ∧ qs.map (·.2.1) = ps.map (·.1) ∧ (∀ q ∈ qs, H q.1 = some (.tup [V.ref q.2.2.1, q.2.2.2]) ∧ H q.2.2.1 = some (.tup (q.2.1.map kV))) ∧
      Paired (fun q (p : List Key × PyData) => q.1 = p.1 ∧ Fz M H q.2 p.2) (qs.map fun q => (q.2.1, q.2.2.2)) ps
  | [], _, h => by cases h; exact ⟨[], rfl, rfl, (fun _ h => nomatch h), .nil⟩
  | p :: ps, _, h => by
    cases h with
    | @cons v vs _ _ h1 h2 =>
      obtain ⟨qs, e1, e2, e3, e4⟩ := fz_pairK h2
      unfold pairK at h1
      cases h1 with
      | @tup t xs _ ht hx =>
        cases hx with
        | @cons v1 _ _ _ k1 k2 =>
          cases k2 with
          | @cons v2 _ _ _ k3 k4 =>
            cases k4
            obtain ⟨b, rfl, hb, _⟩ := key_at (keyU_D p.1) k1
            refine ⟨(t, p.1, b, v2) :: qs, by rw [e1]; rfl, by rw [List.map_cons, e2]; rfl, fun q hq => ?_, .cons ⟨rfl, k3⟩ e4⟩
            rcases List.mem_cons.mp hq with rfl | hq
            · exact ⟨ht.1, hb⟩
            · exact e3 q hq
section
variable {X : Cx} {W : WX} {k j : Nat} {G : Gam} {S S1 S2 : Sto} {e a : Expr} {r : It} {pos pos' p p2 pos2 : Pos} {Q1 Qr : It → Sto → Prop} {Qx : Addr → Sto → Prop}
/-- dict(xs) -/
theorem ev_dictP {ps : List (List Key × PyData)} (c : Cxo X W k) (hm : X.mg "dict" = none) (ha : Ev X a G S r S1) (hr : lsOf S1 r = some (ps.map pairK)) (nd : (ps.map (·.1)).Nodup) (hg : Gl X "dict" := by rfl) (he : starEach [a] X.env = (false, eval a X.env) :: starEach [] X.env := by rfl) :
    Ev X (.Call (.Name "dict" p) [a] [] pos) G S (.o S1.length) (S1 ++ [.dT (ps.map fun p => (p.1, .d p.2))]) :=
  ev_ty (cr_dictPairs c.calm c.hr.units) hm (by decide +kernel) (eva_cons ha eva_nil he) (fun M H vs Q s hvs q => by
    obtain ⟨v, rfl, hv⟩ := vr1 hvs
    obtain ⟨ad, xs, rfl, h1, h2⟩ := ls_rd s hv hr
    obtain ⟨qs, rfl, e2, e3, e4⟩ := fz_pairK h2
    refine ⟨ad, qs, rfl, .inl h1, e3, by rw [e2]; exact nd, fun d hd => ?_⟩
    have e5 : Ext M H (M ++ [d]) (upd H d (.dT (qs.map fun p => (p.2.1, p.2.2.2)))) := Ext.own hd
    refine q _ _ _ e5 (s.own hd ⟨_, upd_same, ?_⟩) ⟨d, by rw [← s.len, List.getElem?_append_right (Nat.le_refl _), Nat.sub_self]; rfl, rfl⟩
    have aux : ∀ {l : List (List Key × V)} {ps : List (List Key × PyData)}, Paired (fun q (p : List Key × PyData) => q.1 = p.1 ∧ Fz M H q.2 p.2) l ps → PRep X.K (M ++ [d]) (upd H d (.dT (qs.map fun p => (p.2.1, p.2.2.2)))) l (ps.map fun p => (p.1, .d p.2)) := by
      intro l ps h
      induction h with
      | nil => exact .nil
      | cons h t ih => exact .cons ⟨h.1, Fz.ext e5 h.2⟩ ih
    exact aux e4) hg (by decide) (by decide) he rfl
end
/-- pairs of whole numbers -/
def pairD (c : Int × Int) : PyData := .tuple [.int c.1, .int c.2]
def ltP (a b : Int × Int) : Prop := a.1 < b.1 ∨ (a.1 = b.1 ∧ a.2 < b.2)
theorem fz_pairD {M : List Addr} {H : Hp} : ∀ {cs : List (Int × Int)} {vs : List V}, FzAll M H vs (cs.map pairD) →
    ∃ ks : List (Addr × List Int), vs = ks.map (fun p => V.ref p.1) ∧ ks.map (·.2) = cs.map (fun c => [c.1, c.2]) ∧ ∀ p ∈ ks, NdT M H p.1 (p.2.map V.int)
  | [], _, h => by cases h; exact ⟨[], rfl, rfl, (fun _ h => nomatch h)⟩
  | c :: cs, _, h => by
    cases h with
    | @cons v vs _ _ h1 h2 =>
      obtain ⟨ks, e1, e2, e3⟩ := fz_pairD h2
      unfold pairD at h1
      cases h1 with
      | @tup t xs _ ht hx =>
        have ex := fz_ints (xs := [c.1, c.2]) hx
        subst ex
        refine ⟨(t, [c.1, c.2]) :: ks, by rw [e1]; rfl, by rw [List.map_cons, e2]; rfl, fun p hp => ?_⟩
        rcases List.mem_cons.mp hp with rfl | hp
        · exact ht
        · exact e3 p hp
theorem fz_ofPairs {M : List Addr} {H : Hp} : ∀ {ks : List (Addr × List Int)} {cs : List (Int × Int)}, ks.map (·.2) = cs.map (fun c => [c.1, c.2]) → (∀ p ∈ ks, NdT M H p.1 (p.2.map V.int)) → FzAll M H (ks.map fun p => V.ref p.1) (cs.map pairD)
  | [], [], _, _ => .nil
  | [], _ :: _, h, _ => by cases h
  | _ :: _, [], h, _ => by cases h
  | p :: ks, c :: cs, h, hp => by
    rw [List.map_cons, List.map_cons] at h
    injection h with h1 h2
    have ht := hp p List.mem_cons_self
    rw [show p.2 = [c.1, c.2] from h1] at ht
    exact .cons (.tup ht (.cons (.int c.1) (.cons (.int c.2) .nil))) (fz_ofPairs h2 fun q hq => hp q (List.mem_cons_of_mem _ hq))
theorem pairs_inv : ∀ {cs : List (Int × Int)} {ls : List (List Int)}, (∀ l ∈ ls, l ∈ cs.map fun c => [c.1, c.2]) → ∃ qs : List (Int × Int), ls = qs.map (fun c => [c.1, c.2]) := by
  intro cs ls
  induction ls with
  | nil => exact fun _ => ⟨[], rfl⟩
  | cons l ls ih =>
    intro h
    obtain ⟨qs, e⟩ := ih fun l hl => h l (List.mem_cons_of_mem _ hl)
    obtain ⟨c, _, ec⟩ := List.mem_map.mp (h l List.mem_cons_self)
    exact ⟨c :: qs, by rw [List.map_cons, ← e, ec]⟩
section
variable {X : Cx} {W : WX} {k j : Nat} {G : Gam} {S S1 S2 : Sto} {e a : Expr} {r : It} {pos pos' p p2 pos2 : Pos} {Q1 Qr : It → Sto → Prop} {Qx : Addr → Sto → Prop}
/-- sorted(set(xs)), xs few pairs of small numbers -/
theorem evx_sortedSet {cs : List (Int × Int)} (c : Cxo X W k) (hm : X.mg "sorted" = none) (hm2 : X.mg "set" = none) (ha : Ev X a G S r S1) (hr : lsOf S1 r = some (cs.map pairD)) (hl : cs.length < 64) (hb : ∀ c ∈ cs, (0 ≤ c.1 ∧ c.1 < 64) ∧ 0 ≤ c.2 ∧ c.2 < 64)
    (hq : ∀ qs : List (Int × Int), qs.Pairwise ltP → (∀ q, q ∈ qs ↔ q ∈ cs) → Qr (.o S1.length) (S1 ++ [.lst ((qs.map pairD).map .d)]))
    (hg : Gl X "sorted" := by rfl) (hg2 : Gl X "set" := by rfl) (he : starEach [a] X.env = (false, eval a X.env) :: starEach [] X.env := by rfl)
    (he2 : starEach [.Call (.Name "set" p2) [a] [] pos2] X.env = (false, eval (.Call (.Name "set" p2) [a] [] pos2) X.env) :: starEach [] X.env := by rfl) :
    EvX X W (.Call (.Name "sorted" p) [.Call (.Name "set" p2) [a] [] pos2] [] pos) G S Qr Qx := fun M σ H Q s h1 _ =>
  toE (pe_callB (cr_sortedT c.calm) hg hm (by decide +kernel) (pa_cons (pe_callTy (cr_setOfT c.calm c.hr.units) hg2 hm2 (by decide +kernel) (pa_cons pe_s pa_nil he) (by decide) (by decide) he rfl) pa_nil he2) (by decide) (by decide) he2 rfl)
    (ha M σ H _ s fun v M1 H1 e1 s1 r1 => by
      obtain ⟨ad, xs, rfl, k1, k2⟩ := ls_rd s1.sto r1 hr
      obtain ⟨ks, rfl, e2, e3⟩ := fz_pairD k2
      have hkl : ks.length = cs.length := by have := congrArg List.length e2; simpa using this
      refine ⟨ad, ks, rfl, .inl k1, fun p hp => .inl (.inl (e3 p hp).1), by omega, fun st L hst hL1 hL2 => ?_⟩
      have ef : Ext M1 H1 M1 (upd H1 st (SetTO X.prog X.w st L)) := Ext.fresh hst
      have sf := s1.fresh (o := SetTO X.prog X.w st L) hst
      have hLt : ∀ p ∈ L, NdT M1 (upd H1 st (SetTO X.prog X.w st L)) p.1 (p.2.map V.int) := fun p hp => (e3 p (hL1 p hp)).ext ef
      have hin : ∀ p ∈ L, ∃ c ∈ cs, p.2 = [c.1, c.2] := fun p hp => by
        have : p.2 ∈ ks.map (·.2) := List.mem_map.mpr ⟨p, hL1 p hp, rfl⟩
        rw [e2] at this
        obtain ⟨c, hc, e⟩ := List.mem_map.mp this
        exact ⟨c, hc, e.symm⟩
      refine ⟨st, L, 2, 64, rfl, upd_same, fun p hp => .inl (.inl (hLt p hp).1), by decide, fun p hp => ?_, fun L' q pm nd few pw hq' => ?_⟩
      · obtain ⟨c, hc, e⟩ := hin p hp
        rw [e]
        refine ⟨rfl, fun m hm => ?_⟩
        rcases List.mem_cons.mp hm with rfl | hm
        · exact (hb c hc).1
        · rw [List.mem_singleton.mp hm]; exact (hb c hc).2
      · obtain ⟨qs, eqs⟩ := pairs_inv (cs := cs) (ls := L'.map (·.2)) fun l hl' => by
          obtain ⟨p, hp, rfl⟩ := List.mem_map.mp hl'
          obtain ⟨c, hc, e⟩ := hin p (pm.mem_iff.mp hp)
          exact List.mem_map.mpr ⟨c, hc, e.symm⟩
        have hqm : ∀ q, q ∈ qs ↔ q ∈ cs := fun q => by
          have inj : ∀ (l : List (Int × Int)), q ∈ l ↔ [q.1, q.2] ∈ l.map fun c => [c.1, c.2] := fun l => ⟨fun h => List.mem_map.mpr ⟨q, h, rfl⟩, fun h => by
            obtain ⟨c, hc, e⟩ := List.mem_map.mp h
            injection e with a1 a2
            injection a2 with a2 _
            rw [← Prod.ext a1 a2]
            exact hc⟩
          rw [inj qs, inj cs, ← eqs, ← e2]
          constructor
          · intro h
            obtain ⟨p, hp, e⟩ := List.mem_map.mp h
            rw [← e]
            exact List.mem_map.mpr ⟨p, hL1 p (pm.mem_iff.mp hp), rfl⟩
          · intro h
            obtain ⟨p, hp, e⟩ := List.mem_map.mp h
            have := hL2 p hp
            rw [e] at this
            obtain ⟨p', hp', e'⟩ := List.mem_map.mp this
            rw [← e']
            exact List.mem_map.mpr ⟨p', pm.mem_iff.mpr hp', rfl⟩
        have hqp : qs.Pairwise ltP := by
          have p1 : (L'.map (·.2)).Pairwise fun a b => TS.code 64 a ≤ TS.code 64 b := List.Pairwise.map _ (fun _ _ h => h) pw
          rw [eqs] at p1 nd
          have p2 := List.pairwise_map.mp p1
          have p3 := List.pairwise_map.mp nd
          refine (p2.and p3).imp_of_mem fun {a b} ha hb' h => ?_
          have ba := hb a ((hqm a).mp ha)
          have bb := hb b ((hqm b).mp hb')
          exact pair_lt h.1 h.2 ba.1 ba.2 bb.1 bb.2
        have e4 : Ext M1 (upd H1 st (SetTO X.prog X.w st L)) (M1 ++ [q]) (upd (upd H1 st (SetTO X.prog X.w st L)) q (.lst (L'.map fun q => V.ref q.1))) := Ext.own hq'
        have fz : FzAll (M1 ++ [q]) (upd (upd H1 st (SetTO X.prog X.w st L)) q (.lst (L'.map fun q => V.ref q.1))) (L'.map fun q => V.ref q.1) (qs.map pairD) := fz_ofPairs eqs fun p hp => (hLt p (pm.mem_iff.mp hp)).ext e4
        have s4 := sf.sto.own (w := .lst ((qs.map pairD).map .d)) hq' ⟨_, upd_same, fz_reps fz⟩
        exact h1 _ _ _ (.o S1.length) (S1 ++ [.lst ((qs.map pairD).map .d)]) ((e1.trans ef).trans e4) (sf.mono e4 s4) ⟨q, by rw [← sf.sto.len, List.getElem?_append_right (Nat.le_refl _), Nat.sub_self]; rfl, rfl⟩ (hq qs hqp hqm))
end
end Cu
/-! K61E: the law's check of a way; of all that a wave tells. -/
namespace Pf
open PySem PySem.Spec PyProof.Rows L2 He Cu
theorem flP_sub (F : Fld) (qs : List WC) : ((flP F qs).map (·.1)).Sublist qs := by
  unfold flP
  induction qs with
  | nil => exact .slnil
  | cons q qs ih =>
    cases h : F.pr q with
    | none => rw [List.filterMap_cons, h]; exact ih.cons _
    | some p => rw [List.filterMap_cons, h]; exact ih.cons₂ _
theorem ovP_sub (F : Fld) (c : WC) (m : Int) (ks : List Nat) : ((ovP F c m ks).map (·.1)).Sublist (ks.map fun (k : Nat) => ((c.1, c.2.1, (k : Int)) : WC)) := by
  unfold ovP
  induction ks with
  | nil => exact .slnil
  | cons k ks ih =>
    rw [List.map_cons (l := ks)]
    by_cases e : (k : Int) = c.2.2
    · rw [List.filterMap_cons, if_pos e]; exact ih.cons _
    · rw [List.filterMap_cons, if_neg e]
      cases h : F.pr (c.1, c.2.1, (k : Int)) with
      | none => exact ih.cons _
      | some p => exact ih.cons₂ _
theorem stepsL_nd (F : Fld) (c : WC) : ((stepsL F c).map (·.1)).Nodup := by
  obtain ⟨cx, cy, cz⟩ := c
  unfold stepsL
  rw [List.map_append, List.nodup_append]
  refine ⟨(flP_sub F _).nodup ?_, ?_, fun x hx y hy e => ?_⟩
  · unfold spot4
    simp only [List.nodup_cons, List.mem_cons, List.not_mem_nil, or_false, Prod.mk.injEq, List.nodup_nil, and_true, not_or, not_false_eq_true]
    omega
  · cases F.th cx cy with
    | none => exact List.nodup_nil
    | some m =>
      refine (ovP_sub F _ _ _).nodup (List.pairwise_map.mpr (List.nodup_range.imp fun h e => h ?_))
      injection e with _ e
      injection e with _ e
      exact Int.ofNat.inj e
  · subst e
    have h1 := (flP_sub F _).subset hx
    cases ht : F.th cx cy with
    | none => rw [ht] at hy; cases hy
    | some m =>
      rw [ht] at hy
      obtain ⟨k, _, e⟩ := List.mem_map.mp ((ovP_sub F _ _ _).subset hy)
      subst e
      unfold spot4 at h1
      simp only [List.mem_cons, List.not_mem_nil, or_false, Prod.mk.injEq] at h1
      omega
/-- the way, as the law checks it -/
structure WayOk (F : Fld) (R : List Num) (way : List WC) (g : WC) : Prop where
  fst : ∃ s, way[0]? = some s ∧ inNum R s = some 0
  lst : way.getLast? = some g
  lk : ∀ k a b, way[k]? = some a → way[k + 1]? = some b → ∃ n m, inNum R a = some n ∧ inNum R b = some m ∧ (b, m - n) ∈ stepsL F a
  len : way.length ≤ 432
def F_lway : Fn := fun rs S QR _ => ∃ (ns : List Int) (f a b n m : Nat) (R : List Num) (way : List WC) (g : WC), rs = [.o f, .o m, .o n, .d (wc g)] ∧ FldAt ns S f a b ∧ S[n]? = some (.dT (numK R)) ∧ S[m]? = some (.lst ((way.map wc).map .d)) ∧ WayOk (FL ns) R way g ∧ QR (.d (.bool true)) S
def psK (l : List (WC × Int)) : List (List Key × PyData) := l.map fun d => (wcK d.1, .int d.2)
theorem psK_pair (l : List (WC × Int)) : (psK l).map pairK = l.map stD := by
  unfold psK
  rw [List.map_map] <;> rfl
theorem psK_nd {l : List (WC × Int)} (h : (l.map (·.1)).Nodup) : ((psK l).map (·.1)).Nodup := by
  unfold psK
  rw [List.map_map, show ((fun d : List Key × PyData => d.1) ∘ fun d : WC × Int => (wcK d.1, PyData.int d.2)) = wcK ∘ (fun d : WC × Int => d.1) from rfl, ← List.map_map]
  exact List.pairwise_map.mpr (h.imp fun h z => h (wcK_inj.mp z))
theorem psK_get {l : List (WC × Int)} {d : WC} {n : Int} (h : (l.map (·.1)).Nodup) (hd : (d, n) ∈ l) : valI ((psK l).map fun p => (p.1, Cu.It.d p.2)) (wcK d) = some (.d (.int n)) := by
  unfold psK
  rw [List.map_map]
  refine valI_in (f := fun e : WC × Int => wcK e.1) (g := fun e => .d (.int e.2)) (b := (d, n)) ?_ hd
  rw [show (fun e : WC × Int => wcK e.1) = wcK ∘ (fun d : WC × Int => d.1) from rfl, ← List.map_map]
  exact List.pairwise_map.mpr (h.imp fun h z => h (wcK_inj.mp z))
section
variable {P : Program} {w : World} {K : PySem.W.Frag} {mg : Str → Option Value} {base : Heap}
theorem fn__law_way (T : TT K mg) {fd : FuncData} (Fd : FunD K "_law_way" "_law_way" (defArgs s__law_way) (defBody s__law_way) (defScope s__law_way) [] [] (ga K "_law_way") fd) : FnOk P w K mg base (L2.CX P w) 2 (ga K "_law_way") fd ["_law_field_here", "_law_line", "_law_sums", "_law_goal"] (spF K 4 F_lway) := by
  refine fn_w Fd sc__law_way fun cdv A outer s H E rs S QR QE c hc hl hF => ?_
  obtain ⟨ns, f, a, b, n, m, R, way, g, rfl, hfl, hn, hm, hW, q⟩ := hF
  have gg : ∀ {M : Sto} {i : Nat} {u : Own}, S[i]? = some u → (S ++ M)[i]? = some u := fun e => by
    rw [List.getElem?_append_left (List.getElem?_eq_some_iff.mp e).1]; exact e
  obtain ⟨s0, hs0, hn0⟩ := hW.fst
  have hne : 0 < way.length := (List.getElem?_eq_some_iff.mp hs0).1
  have gI : ∀ {k : Nat} {x : WC} {i : Int}, i = k → way[k]? = some x → atI ((way.map wc).map Cu.It.d) i = some (.d (wc x)) := fun {k x i} hi hx => atI_nat (k := k) hi (by rw [List.getElem?_map, List.getElem?_map, hx] <;> rfl)
  have gN : ∀ {x : WC} {v : Int}, inNum R x = some v → valI (numK R) (wcK x) = some (.d (.int v)) := fun h => by rw [valI_numK, h] <;> rfl
  refine ss_cons (ws_asg (ev_name 0) (evg_tupO c.calm hfl.f (evgs_cons (evg_name 4 c.nd) (evgs_cons (evg_name 5 c.nd) (evgs_cons (evg_name 6 c.nd) (evgs_cons (evg_name 7 c.nd) evgs_nil))))) ?_)
  refine ss_cons (ws_if (k1 := false) (S1 := S) (EvT.is (evt_w (evw_orF (EvT.is (evt_neI (m := 0) (n := 0) (ev_dgetT c (ev_name 2) (ev_ixO (ev_name 1) ev_int hm (gI (k := 0) rfl hs0)) hn (keyD_wc s0) (gN hn0)) ev_int) rfl) (evw_or1 (EvT.is (evt_neD c (x := wc g) (y := wc g) (ev_ixO (ev_name 1) (ev_neg ev_int) hm (atI_lastW (by rw [List.getLast?_map, List.getLast?_map, hW.lst] <;> rfl))) (ev_name 3) (wc_shaped g) (wc_shaped g)) (by rw [eqv_wc, decide_eq_true rfl] <;> rfl))))) rfl) (fun z => nomatch z) (fun _ => ss_nil ?_))
  have hwl := hW.len
  refine ss_cons (ws_for c (evi_range2 (lo := 1) (hi := (way.length : Int)) (z_range T) ev_int (ev_len (l := way.length) (z_len T) (ev_name 1) (by unfold lenOf; simp only [hm, List.length_map])) (by omega)) (fun i G' S' => ∃ g8 g9 M, G' = [some (.o f), some (.o m), some (.o n), some (.d (wc g)), some (.d (szN ns)), some (.d (.list ((clL ns).map wc))), some (.o a), some (.o b), g8, g9] ∧ S' = S ++ M) (fun r G => G.set 8 (some r)) ⟨_, _, [], rfl, (List.append_nil S).symm⟩ (fun _ _ _ _ => trivial) ?_ ?_ ?_)
  · rintro i r G' S' hr ⟨g8, g9, M, rfl, rfl⟩
    exact evg_name 8 c.nd
  · rintro i r G' S' hr ⟨g8, g9, M, rfl, rfl⟩
    obtain ⟨hi, rfl⟩ := rngI_at hr
    have hi : i + 1 < way.length := by omega
    obtain ⟨x, hx⟩ : ∃ x, way[i]? = some x := ⟨_, List.getElem?_eq_getElem (by omega)⟩
    obtain ⟨y, hy⟩ : ∃ y, way[i + 1]? = some y := ⟨_, List.getElem?_eq_getElem hi⟩
    obtain ⟨nx, ny, h1, h2, h3⟩ := hW.lk i x y hx hy
    have nd := stepsL_nd (FL ns) x
    have hin : valI ((psK (stepsL (FL ns) x)).map fun p => (p.1, Cu.It.d p.2)) (wcK y) = some (.d (.int (ny - nx))) := psK_get nd h3
    have endM : ∀ (u : Own), (S ++ M ++ [u])[(S ++ M).length]? = some u := fun u => by rw [List.getElem?_append_right (Nat.le_refl _), Nat.sub_self] <;> rfl
    have gM : ∀ {u : Own} {i : Nat} {w : Own}, S[i]? = some w → (S ++ M ++ [u])[i]? = some w := fun e => by rw [List.append_assoc]; exact gg e
    refine ss_cons (ws_set 9 c.nd (ev_dictP (ps := psK (stepsL (FL ns) x)) c (z_dict T) (ev_call c (ok__law_steps T) (eva_cons (ev_name 4) (eva_cons (ev_name 6) (eva_cons (ev_name 7) (eva_cons (ev_ixO (ev_name 1) (ev_sub (ev_name 8) ev_int) (gg hm) (gI (k := i) (by omega) hx)) eva_nil)))) (fun QR QE q => ⟨ns, a, b, x, rfl, gg hfl.a, gg hfl.b, q⟩)) (by rw [psK_pair] <;> rfl) (psK_nd nd)) ?_)
    refine ss_cons (ws_if (k1 := false) (EvT.is (evt_dnotinT c (ev_ixO (ev_name 1) (ev_name 8) (gM hm) (gI (k := i + 1) (by omega) hy)) (ev_name 9) (endM _) (keyD_wc y)) (by rw [hin] <;> rfl)) (fun z => nomatch z) (fun _ => ss_nil ?_))
    refine ss_cons (ws_if (k1 := false) (EvT.is (evt_neI (m := ny) (n := nx + (ny - nx)) (ev_dgetT c (ev_name 2) (ev_ixO (ev_name 1) (ev_name 8) (gM hm) (gI (k := i + 1) (by omega) hy)) (gM hn) (keyD_wc y) (gN h2)) (ev_add (ev_dgetT c (ev_name 2) (ev_ixO (ev_name 1) (ev_sub (ev_name 8) ev_int) (gM hm) (gI (k := i) (by omega) hx)) (gM hn) (keyD_wc x) (gN h1)) (ev_dgetT c (ev_name 9) (ev_ixO (ev_name 1) (ev_name 8) (gM hm) (gI (k := i + 1) (by omega) hy)) (endM _) (keyD_wc y) hin))) (by rw [decide_eq_true (by omega)] <;> rfl)) (fun z => nomatch z) (fun _ => ss_nil (ss_nil ⟨_, _, _, rfl, by rw [List.append_assoc]⟩)))
  · rintro G' S' ⟨g8, g9, M, rfl, rfl⟩
    exact ss_cons (ws_ret ev_bool (back_drop M hc q))
theorem ok__law_way (T : TT K mg) : OkF P w K mg base 2 "_law_way" ["_law_field_here", "_law_line", "_law_sums", "_law_goal"] [] F_lway := okF_of (g__law_way T) (d__law_way T) (fun _ _ _ _ _ _ us hl => match us, hl with | [_, _, _, _], _ => rfl) fun fd Fd => fn__law_way T Fd
end
end Pf
/-! K61F: the law's check of all that a wave tells. -/
namespace Pf
open PySem PySem.Spec PyProof.Rows L2 He Cu
theorem int_lt (a b : Int) : PySem.W.dataLt (.int a) (.int b) = decide (a < b) := by
  by_cases h : a = b
  · subst h
    unfold PySem.W.dataLt
    simp only [PySem.W.keyToks]
    rw [lex_self (O := itemOrd), decide_eq_false (Int.lt_irrefl a)] <;> rfl
  · unfold PySem.W.dataLt
    simp only [PySem.W.keyToks]
    rw [lex_diff (O := itemOrd) fun z => h (Sum.inl.inj z)] <;> rfl
theorem int_min (x : Int) (xs : List Int) : ∃ e, e ∈ x :: xs ∧ PySem.W.minD (.int x) (xs.map .int) = .int e ∧ ∀ a ∈ x :: xs, e ≤ a := by
  unfold PySem.W.minD
  induction xs generalizing x with
  | nil => exact ⟨x, List.mem_cons_self, rfl, fun a ha => by rw [List.mem_singleton.mp ha]; exact Int.le_refl _⟩
  | cons y ys ih =>
    rw [List.map_cons, List.foldl_cons, int_lt]
    by_cases c : y < x
    · rw [decide_eq_true c, if_pos rfl]
      obtain ⟨e, h1, h2, h3⟩ := ih y
      refine ⟨e, List.mem_cons_of_mem _ h1, h2, fun a ha => ?_⟩
      rcases List.mem_cons.mp ha with rfl | ha
      · have := h3 y List.mem_cons_self; omega
      · exact h3 a ha
    · rw [decide_eq_false c, if_neg Bool.false_ne_true]
      obtain ⟨e, h1, h2, h3⟩ := ih x
      refine ⟨e, ?_, h2, fun a ha => ?_⟩
      · rcases List.mem_cons.mp h1 with rfl | h1
        · exact List.mem_cons_self
        · exact List.mem_cons_of_mem _ (List.mem_cons_of_mem _ h1)
      · rcases List.mem_cons.mp ha with rfl | ha
        · exact h3 _ List.mem_cons_self
        · rcases List.mem_cons.mp ha with rfl | ha
          · have := h3 x List.mem_cons_self; omega
          · exact h3 a (List.mem_cons_of_mem _ ha)
theorem ints_alike (l : List Int) : PySem.W.AlikeAll (l.map .int) := ⟨fun x hx y hy => by
    obtain ⟨a, _, rfl⟩ := List.mem_map.mp hx
    obtain ⟨b, _, rfl⟩ := List.mem_map.mp hy
    rfl, fun x hx => by
    obtain ⟨a, _, rfl⟩ := List.mem_map.mp hx
    exact fun z => nomatch z⟩
theorem ints_depth : ∀ (l : List Int), PyData.depthAll (l.map .int) ≤ 60
  | [] => Nat.zero_le _
  | a :: l => Nat.max_le.mpr ⟨Nat.zero_le _, ints_depth l⟩
/-- a wave's answer, in a store -/
inductive AnsS (F : Fld) (starts goals : List WC) (R : List Num) (S : Sto) (nn : Nat) : List Cu.It → Prop where
  | shut : (∀ g ∈ goals, g ∉ R.map (·.1)) → AnsS F starts goals R S nn [.d (.str "shut"), .o nn]
  | way (j : Nat) (total : Int) (way : List WC) : S[j]? = some (.lst ((way.map wc).map .d)) → WayTo F starts goals R total way → AnsS F starts goals R S nn [.d (.str "way"), .o j, .d (.int total), .o nn]
theorem AnsS.last {F : Fld} {starts goals : List WC} {R : List Num} {S : Sto} {nn : Nat} {al : List Cu.It} (h : AnsS F starts goals R S nn al) : atI al (-1) = some (.o nn) := by
  cases h with
  | shut _ => rfl
  | way _ _ _ _ _ => rfl
theorem wayOk_of {ns : List Int} {starts goals : List WC} {R : List Num} {total : Int} {way : List WC} {g : WC} (hW : WaveOk (FL ns) starts R) (h : WayTo (FL ns) starts goals R total way) (hg : way.getLast? = some g) : WayOk (FL ns) R way g := by
  refine ⟨?_, hg, fun k a b ha hb => ?_, h.len⟩
  · obtain ⟨s, h1, n, h2⟩ := h.start
    refine ⟨s, h1, ?_⟩
    have h3 := inNum_get hW.nd h2
    obtain ⟨i, hi⟩ := List.getElem?_of_mem h2
    have h4 := hW.from_ i _ hi
    have h4 : n = 0 ∧ s ∈ starts := h4
    rw [h4.1] at h3
    exact h3
  · obtain ⟨e, he, rfl, e2⟩ := h.lk k a b ha hb
    obtain ⟨i, hi⟩ := List.getElem?_of_mem he
    have h4 := hW.from_ i _ hi
    rw [e2] at h4
    obtain ⟨f, hf, rfl, ch, p, h1, h2, h3⟩ := h4
    refine ⟨f.2.1, e.2.1, inNum_get hW.nd (List.mem_of_mem_take hf), inNum_get hW.nd he, ?_⟩
    rw [show e.2.1 - f.2.1 = p + ch by omega]
    exact of_stepsL h1 h2
theorem start_in {F : Fld} {starts goals : List WC} {R : List Num} {total : Int} {way : List WC} (hW : WaveOk F starts R) (h : WayTo F starts goals R total way) : ∃ s, way[0]? = some s ∧ s ∈ starts := by
  obtain ⟨s, h1, n, h2⟩ := h.start
  obtain ⟨i, hi⟩ := List.getElem?_of_mem h2
  have h4 := hW.from_ i _ hi
  exact ⟨s, h1, (show n = 0 ∧ s ∈ starts from h4).2⟩
def rcN (R : List Num) : Cu.It → PyData
  | .d (.tuple [.int a, .int b, .int c]) => .int ((inNum R (a, b, c)).getD 0)
  | _ => .none
theorem rcN_out (R : List Num) (goals : List WC) : (((goals.map wc).map Cu.It.d).filter (rcF R)).map (rcN R) = ((rchL R goals).map (·.1)).map .int := by
  unfold rchL
  induction goals with
  | nil => rfl
  | cons g gs ih =>
    rw [List.map_cons, List.map_cons, List.filter_cons, List.filterMap_cons]
    show (if (inNum R g).isSome = true then _ else _ : List Cu.It).map _ = _
    cases h : inNum R g with
    | none => rw [if_neg (by simp), ih] <;> rfl
    | some n =>
      rw [if_pos (show (some n).isSome = true from rfl), List.map_cons, ih]
      show PyData.int ((inNum R g).getD 0) :: _ = _
      rw [h] <;> rfl
def F_told : Fn := fun rs S QR _ => ∃ (ns : List Int) (f a b t nn : Nat) (starts goals : List WC) (R : List Num) (al : List Cu.It), rs = [.o f, .o t, .d (.list (starts.map wc)), .d (.list (goals.map wc))] ∧ FldAt ns S f a b ∧ S[t]? = some (.tup al) ∧ S[nn]? = some (.dT (numK R)) ∧ nn ≠ a ∧ nn ≠ b ∧ starts.length ≤ 1000 ∧ goals.length ≤ 1000 ∧ WaveOk (FL ns) starts R ∧ AnsS (FL ns) starts goals R S nn al ∧ QR (.d (.bool true)) S
section
variable {P : Program} {w : World} {K : PySem.W.Frag} {mg : Str → Option Value} {base : Heap}
theorem fn__law_told (T : TT K mg) {fd : FuncData} (Fd : FunD K "_law_told" "_law_told" (defArgs s__law_told) (defBody s__law_told) (defScope s__law_told) [] [] (ga K "_law_told") fd) : FnOk P w K mg base (L2.CX P w) 3 (ga K "_law_told") fd ["_law_field_here", "_law_found", "_law_starts", "_law_goals"] (spF K 4 F_told) := by
  refine fn_w Fd sc__law_told fun cdv A outer s H E rs S QR QE c hc hl hF => ?_
  obtain ⟨ns, f, a, b, t, nn, starts, goals, R, al, rfl, hfl, ht, hn, na, nb, hsl, hgl, hW, hA, q⟩ := hF
  have hRl : R.length ≤ 432 := Nat.le_trans (hW.few (FL_ok ns)) (Fld.cells_len (FL_ok ns))
  have gg : ∀ {M : Sto} {i : Nat} {u : Own}, S[i]? = some u → (S ++ M)[i]? = some u := fun e => by
    rw [List.getElem?_append_left (List.getElem?_eq_some_iff.mp e).1]; exact e
  refine ss_cons (ws_asg (ev_name 0) (evg_tupO c.calm hfl.f (evgs_cons (evg_name 4 c.nd) (evgs_cons (evg_name 5 c.nd) (evgs_cons (evg_name 6 c.nd) (evgs_cons (evg_name 7 c.nd) evgs_nil))))) ?_)
  refine ss_cons (ws_if (k1 := false) (S1 := S) (EvT.is (evt_w (evw_orF (EvT.is (evt_not (c := true) (evt_val (ev_isi (kk := true) (z_isinstance T) (ev_name 1) (ev_type (T := "tuple") (z_tuple T)) rfl (.tup ht) (kit_ty (by rfl))))) rfl) (evw_or1 (EvT.is (evt_not (c := true) (evt_val (ev_call c (ok__law_numbers T) (eva_cons (ev_name 0) (eva_cons (ev_ixTO (ev_name 1) (ev_neg ev_int) ht hA.last) (eva_cons (ev_name 2) eva_nil))) (fun QR QE q => ⟨ns, f, a, b, nn, starts, R, rfl, hfl, hn, na, nb, hsl, hRl, hW.nd, wave_nums hW, q⟩)))) rfl)))) rfl) (fun z => nomatch z) (fun _ => ss_nil ?_))
  refine ss_cons (ws_set 8 c.nd (ev_ixTO (ev_name 1) (ev_neg ev_int) ht hA.last) ?_)
  refine ss_cons (ws_setLc 9 c (blkOk_by (by rfl)) (lc_pure (own := [("_law_cell", 10)]) c (evi_list (ds := goals.map wc) (ev_name 3)) (tg_name 10 c.nd) (rcF R) (rcN R) (fun _ => trivial) (fun r hr => ?_) ?_) ?_)
  · obtain ⟨d, hd, rfl⟩ := List.mem_map.mp hr
    obtain ⟨g, hg, rfl⟩ := List.mem_map.mp hd
    refine ⟨_, rfl, fun M s H C cl fp => EvT.is (evt_dinT (c.blk _ _ _ _ _ _) (ev_name 10) (ev_name 8) (gg hn) (keyD_wc g)) (by rw [valI_numK, Option.isSome_map] <;> rfl), fun hf M s H C cl fp => ?_⟩
    have hf : (inNum R g).isSome = true := hf
    obtain ⟨n, hn'⟩ := Option.isSome_iff_exists.mp hf
    show Ev _ _ _ _ (.d (.int ((inNum R g).getD 0))) _
    rw [hn']
    exact ev_dgetT (c.blk _ _ _ _ _ _) (ev_name 8) (ev_name 10) (gg hn) (keyD_wc g) (by rw [valI_numK, hn'] <;> rfl)
  · rw [List.length_map, List.length_map]; omega
  rw [rcN_out]
  have hsh : SeqAt.shaped (.list (((rchL R goals).map (·.1)).map .int)) = true := shaped_list fun d hd => by
    obtain ⟨e, _, rfl⟩ := List.mem_map.mp hd
    exact ⟨rfl, Nat.zero_le _⟩
  cases hA with
  | shut hno =>
    have hnil : rchL R goals = [] := by
      refine List.eq_nil_iff_forall_not_mem.mpr fun e he => ?_
      obtain ⟨h1, h2⟩ := mem_rchL.mp he
      obtain ⟨b', hb'⟩ := inNum_mem h2
      exact hno _ h1 (List.mem_map.mpr ⟨_, hb', rfl⟩)
    rw [hnil]
    refine ss_cons (ws_if (k1 := true) (EvT.is (evt_eqD c (ev_name 9) (ev_lst eva_nil) rfl rfl) (eqv_nilW _)) (fun _ => ?_) (fun z => nomatch z))
    refine ss_cons (ws_ret (r := .d (.bool true)) (Ev.is (ev_eqTS (z := "shut") (z' := "shut") (i := nn) c (ev_name 1) (ev_tupO (eva_cons ev_str (eva_cons (ev_name 8) eva_nil)) ⟨_, List.mem_cons_of_mem _ List.mem_cons_self⟩) (gg ht) (by rw [List.getElem?_append_right (Nat.le_refl _), Nat.sub_self] <;> rfl)) (by rw [beq_self_eq_true])) (back_drop [_] hc q))
  | way j total way hj hway =>
    obtain ⟨g, hg, hlast, b0, hb0⟩ := hway.goal
    have hig : inNum R g = some total := inNum_get hW.nd hb0
    have hgr : (total, g) ∈ rchL R goals := mem_rchL.mpr ⟨hg, hig⟩
    obtain ⟨s0, hs0, hs1⟩ := start_in hW hway
    have hne : 0 < way.length := (List.getElem?_eq_some_iff.mp hs0).1
    refine ss_cons (ws_if (k1 := false) (EvT.is (evt_eqD c (ev_name 9) (ev_lst eva_nil) hsh rfl) ?_) (fun z => nomatch z) (fun _ => ss_nil ?_))
    · rw [eqv_nilW]
      cases h : rchL R goals with
      | nil => rw [h] at hgr; cases hgr
      | cons _ _ => rfl
    have h0 : atI [Cu.It.d (.str "way"), .o j, .d (.int total), .o nn] 0 = some (.d (.str "way")) := rfl
    have h1 : atI [Cu.It.d (.str "way"), .o j, .d (.int total), .o nn] 1 = some (.o j) := rfl
    have h2 : atI [Cu.It.d (.str "way"), .o j, .d (.int total), .o nn] 2 = some (.d (.int total)) := rfl
    refine ss_cons (ws_if (k1 := false) (S1 := S) (EvT.is (evt_w (evw_orF (EvT.is (evt_neI (m := 4) (n := 4) (ev_lenTO (z_len T) (ev_name 1) ht) ev_int) rfl) (evw_orF (EvT.is (evt_neT (x := "way") (y := "way") (ev_ixTO (ev_name 1) ev_int ht h0) ev_str) (by rw [decide_eq_true rfl] <;> rfl)) (evw_or1 (EvT.is (evt_not (c := true) (evt_val (ev_isi (kk := true) (z_isinstance T) (ev_ixTO (ev_name 1) ev_int ht h1) (ev_type (T := "list") (z_list T)) rfl (.l hj) (kit_ty (by rfl))))) rfl))))) rfl) (fun z => nomatch z) (fun _ => ss_nil ?_))
    obtain ⟨x0, xs, hx0⟩ : ∃ x0 xs, (rchL R goals).map (·.1) = x0 :: xs := by
      cases h : (rchL R goals).map (·.1) with
      | nil => rw [List.map_eq_nil_iff] at h; rw [h] at hgr; cases hgr
      | cons x0 xs => exact ⟨x0, xs, rfl⟩
    obtain ⟨e, he, hmin, hle⟩ := int_min x0 xs
    have het : e = total := by
      refine Int.le_antisymm (hle total ?_) ?_
      · rw [← hx0]; exact List.mem_map.mpr ⟨_, hgr, rfl⟩
      · rw [← hx0] at he
        obtain ⟨z, hz, rfl⟩ := List.mem_map.mp he
        obtain ⟨z1, z2⟩ := mem_rchL.mp hz
        obtain ⟨b', hb'⟩ := inNum_mem z2
        exact hway.least _ hb' z1
    refine ss_cons (ws_if (k1 := false) (S1 := S) (EvT.is (evt_neI (m := total) (n := e) (ev_ixTO (ev_name 1) ev_int ht h2) (Ev.is (ev_minD (x := .int x0) (ds := xs.map .int) c (z_min T) (ev_name 9) (by rw [hx0] <;> rfl) (ints_alike (x0 :: xs)) (ints_depth (x0 :: xs))) (by rw [hmin]))) (by rw [het, decide_eq_true rfl] <;> rfl)) (fun z => nomatch z) (fun _ => ss_nil ?_))
    have l0 : atI ((way.map wc).map Cu.It.d) 0 = some (.d (wc s0)) := atI_nat (k := 0) rfl (by rw [List.getElem?_map, List.getElem?_map, hs0] <;> rfl)
    have l1 : atI ((way.map wc).map Cu.It.d) (-1) = some (.d (wc g)) := atI_lastW (by rw [List.getLast?_map, List.getLast?_map, hlast] <;> rfl)
    have inD : ∀ {x : WC} {l : List WC}, x ∈ l → ((l.map wc).any fun z => PyData.eqv z (wc x)) = true := fun {x l} hx => List.any_eq_true.mpr ⟨wc x, List.mem_map.mpr ⟨x, hx, rfl⟩, by rw [eqv_wc]; exact decide_eq_true rfl⟩
    refine ss_cons (ws_if (k1 := false) (S1 := S) (EvT.is (evt_w (evw_orF (EvT.is (evt_eqA c (ds := way.map wc) (ds' := []) (ev_ixTO (ev_name 1) ev_int ht h1) (ev_lst eva_nil) (ls_own hj) rfl (wcs_shaped _) rfl) ?_) (evw_orF (EvT.is (evt_notInD c (ev_ixO (ev_ixTO (ev_name 1) ev_int ht h1) ev_int hj l0) (ev_name 2) rfl (wc_shaped s0) (wcs_shaped _)) (by rw [inD hs1] <;> rfl)) (evw_or1 (EvT.is (evt_notInD c (ev_ixO (ev_ixTO (ev_name 1) ev_int ht h1) (ev_neg ev_int) hj l1) (ev_name 3) rfl (wc_shaped g) (wcs_shaped _)) (by rw [inD hg] <;> rfl)))))) rfl) (fun z => nomatch z) (fun _ => ss_nil ?_))
    · rw [eqv_nilW]
      cases h : way with
      | nil => rw [h] at hne; exact absurd hne (Nat.lt_irrefl _)
      | cons _ _ => rfl
    refine ss_cons (ws_set 11 c.nd (ev_ixO (ev_ixTO (ev_name 1) ev_int ht h1) (ev_neg ev_int) hj l1) ?_)
    exact ss_cons (ws_ret (ev_andT (Ev.is (ev_eqI (m := total) (n := total) (ev_dgetT c (ev_name 8) (ev_name 11) hn (keyD_wc g) (by rw [valI_numK, hig] <;> rfl)) (ev_ixTO (ev_name 1) ev_int ht h2)) (by rw [decide_eq_true rfl])) (ev_and1 (ev_call c (ok__law_way T) (eva_cons (ev_name 0) (eva_cons (ev_ixTO (ev_name 1) ev_int ht h1) (eva_cons (ev_name 8) (eva_cons (ev_name 11) eva_nil)))) (fun QR QE q => ⟨ns, f, a, b, nn, j, R, way, g, rfl, hfl, hn, hj, wayOk_of hW hway hlast, q⟩)))) (back_d q))
theorem ok__law_told (T : TT K mg) : OkF P w K mg base 3 "_law_told" ["_law_field_here", "_law_found", "_law_starts", "_law_goals"] [] F_told := okF_of (g__law_told T) (d__law_told T) (fun _ _ _ _ _ _ us hl => match us, hl with | [_, _, _, _], _ => rfl) fun fd Fd => fn__law_told T Fd
end
end Pf
/-! CyM: a call that hands two closures over: what the callee sees is told over a base that has their cells. -/
namespace Cu
open PySem PySem.Spec PyProof.Rows L2 NdefX
theorem restrictS (h : Heap) (p : Addr → Bool) : ∃ G : Heap, (∀ b, p b = true → G.get? b = h.get? b) ∧ (∀ b, p b = false → G.get? b = none) ∧ G.objs.size = h.objs.size := by
  obtain ⟨l, hl⟩ : ∃ l : List Addr, l = (List.range h.objs.size).filter fun b => !p b := ⟨_, rfl⟩
  have m1 : ∀ b, b ∈ l → p b = false := fun b hb => by
    rw [hl] at hb
    have z := (List.mem_filter.mp hb).2
    simpa using z
  have m2 : ∀ b, b < h.objs.size → p b = false → b ∈ l := fun b h1 h2 => by
    rw [hl]
    exact List.mem_filter.mpr ⟨List.mem_range.mpr h1, by simp [h2]⟩
  refine ⟨PySem.W.hideAll h l, fun b hb => ?_, fun b hb => ?_, PySem.W.hideAll_size _ _⟩
  · cases e : h.get? b with
    | some o => exact PySem.W.hideAll_get l e fun hm => by rw [m1 b hm] at hb; cases hb
    | none =>
      cases q : (PySem.W.hideAll h l).get? b with
      | none => rfl
      | some o =>
        have z := PySem.W.of_hideAll l q
        rw [e] at z; cases z
  · cases q : (PySem.W.hideAll h l).get? b with
    | none => rfl
    | some o =>
      have z := PySem.W.of_hideAll l q
      rw [PySem.W.hideAll_none l (m2 b (Heap.lt_size z) hb)] at q; cases q
/-- the base, with the cells of the frame that runs -/
theorem env0_cells {X : Cx} {pins : List (Addr × Obj)} {σ : Sig} {H : Hp} {s : Shared} (I : Inv X pins σ H s) (cs : List Addr) (hcs : ∀ c ∈ cs, ∃ x, X.env.cells.lookup x = some c ∧ X.fn x = true) :
    ∃ base' : Heap, Env0 X.prog X.w X.K X.mg base' X.A X.stack s H ∧ (∀ c ∈ cs, base'.get? c = s.heap.get? c) := by
  obtain ⟨G, g1, g2, g3⟩ := restrictS s.heap fun b => (X.base.get? b).isSome || decide (b ∈ cs)
  have gb : ∀ b o, X.base.get? b = some o → G.get? b = some o := fun b o e => by
    rw [g1 b (by rw [e]; rfl)]
    exact (I.bs b o e).1
  have gc : ∀ c ∈ cs, G.get? c = s.heap.get? c := fun c hc => g1 c (by simp [hc])
  have sub : ∀ b o, G.get? b = some o → s.heap.get? b = some o ∧ H b = none := fun b o e => by
    by_cases hb : ((X.base.get? b).isSome || decide (b ∈ cs)) = true
    · have e2 := e
      rw [g1 b hb] at e2
      refine ⟨e2, ?_⟩
      rw [Bool.or_eq_true] at hb
      rcases hb with hb | hb
      · obtain ⟨o', ho'⟩ := Option.isSome_iff_exists.mp hb
        exact (I.bs b o' ho').2
      · obtain ⟨x, hx, _⟩ := hcs b (of_decide_eq_true hb)
        exact I.freeC x b hx
    · rw [g2 b (by simpa using hb)] at e
      cases e
  refine ⟨G, ⟨I.env0.frames, ⟨I.ok.mod.kin.keeps gb, I.ok.mod.glob.keeps gb, ?_, I.ok.mod.nolimit.keeps gb⟩, sub, Nat.le_of_eq g3, ?_, I.env0.frf, I.env0.hok, I.env0.bare⟩, gc⟩
  · obtain ⟨mb, h1, h2⟩ := I.ok.mod.blt
    exact ⟨mb, h1.keeps gb, h2⟩
  · refine funFrames_none I.env0.funs fun L hL => ?_
    have hbase : X.base.get? L = none := (Heap.FunFrames.mem I.env0.funs hL).1
    refine g2 L ?_
    rw [hbase]
    show (false || decide (L ∈ cs)) = false
    rw [Bool.false_or]
    refine decide_eq_false fun hc => ?_
    obtain ⟨x, hx, hfn⟩ := hcs L hc
    obtain ⟨v, hv⟩ := I.cell x L hx
    rcases I.ok.stk with e | ⟨e, e2⟩
    · rw [e] at hL
      have hlt : L < X.s_0.heap.objs.size := by
        obtain ⟨o, ho, _⟩ := (Heap.FunFrames.mem I.ok.funs hL).2
        exact Heap.lt_size ho
      exact absurd hlt (Nat.not_lt.mpr (I.ok.cab x L hfn hx))
    · rw [e] at hL
      have hL : L ∈ (X.env :: X.outer).filterMap (·.frame) := hL
      rw [List.filterMap_cons, e2] at hL
      rcases List.mem_cons.mp hL with rfl | hL
      · obtain ⟨m, hm, _⟩ := I.loc
        obtain ⟨o, h1, h2⟩ := hv
        obtain ⟨o', es, ep, h3, h4, _⟩ := hm
        rw [h1] at h3
        cases h3
        rw [h2] at h4
        cases h4
      · have hlt : L < X.s_0.heap.objs.size := by
          obtain ⟨o, ho, _⟩ := (Heap.FunFrames.mem I.ok.funs hL).2
          exact Heap.lt_size ho
        exact absurd hlt (Nat.not_lt.mpr (I.ok.cab x L hfn hx))
/-- a closure that is handed over: where it stands, what it is, the names that it captures, their slots and items -/
structure Clo where
  n : Nat
  F : NF
  fr : List Str
  js : List Nat
  its : List It
/-- it is one of the frame's own -/
structure Clo.At (q : Clo) (X : Cx) (G : Gam) (S : Sto) : Prop where
  fn : ∃ c0, S[q.n]? = some (.fn q.F c0)
  cap : X.Ok → Caps X q.F.cl q.fr q.js
  own : ∀ y ∈ q.fr, X.fn y = true
  sub : ∀ y c, q.F.cl.lookup y = some c → y ∈ q.fr
  its : q.js.map (fun j => G[j]?) = q.its.map fun r => some (some r)
theorem slots_of {K : PySem.W.Frag} {M : List Addr} {H : Hp} {S : Sto} {G : Gam} {σ : Sig} (s : Stt K M H S G σ) : ∀ {js : List Nat} {its : List It}, js.map (fun j => G[j]?) = its.map (fun r => some (some r)) → ∃ vs : List V, js.map (NdefX.slotAt σ) = vs.map some ∧ VReps K M H vs its
  | [], [], _ => ⟨[], rfl, .nil⟩
  | [], _ :: _, h => nomatch h
  | _ :: _, [], h => nomatch h
  | j :: js, r :: its, h => by
    rw [List.map_cons, List.map_cons] at h
    injection h with h1 h2
    obtain ⟨v, hv, hr⟩ := s.at_ j r h1
    obtain ⟨vs, e, hs⟩ := slots_of s h2
    refine ⟨v :: vs, ?_, .cons hr hs⟩
    rw [List.map_cons, List.map_cons, e]
    refine congrArg (· :: _) ?_
    unfold NdefX.slotAt
    rw [hv] <;> rfl
theorem zip_fst {α β : Type} : ∀ {l : List α} {m : List β}, l.length = m.length → (l.zip m).map (·.1) = l
  | [], [], _ => rfl
  | [], _ :: _, h => nomatch h
  | _ :: _, [], h => nomatch h
  | a :: l, b :: m, h => congrArg (a :: ·) (zip_fst (Nat.succ.inj h))
theorem zip_snd {α β : Type} : ∀ {l : List α} {m : List β}, l.length = m.length → (l.zip m).map (·.2) = m
  | [], [], _ => rfl
  | [], _ :: _, h => nomatch h
  | _ :: _, [], h => nomatch h
  | a :: l, b :: m, h => congrArg (b :: ·) (zip_snd (Nat.succ.inj h))
theorem CellsB.of {base' : Heap} {s : Shared} {H : Hp} {q : Clo} {vs : List V} {ws : List (Option V)} (ca : CellsAt q.F.cl q.fr ws s.heap H) (hw : ws = vs.map some) (hb : ∀ y c, q.F.cl.lookup y = some c → base'.get? c = s.heap.get? c) : CellsB base' q.F.cl q.fr vs := by
  have up : ∀ {y c v}, q.F.cl.lookup y = some c → s.heap.IsCell c v → base'.IsCell c v := fun e ⟨o, h1, h2⟩ => ⟨o, (hb _ _ e).trans h1, h2⟩
  refine ⟨by have := ca.len; rw [hw, List.length_map] at this; exact this, fun y c e => ?_, ca.inj, fun i y e => ?_⟩
  · obtain ⟨_, v, hv⟩ := ca.all y c e
    exact ⟨v, up e hv⟩
  · obtain ⟨c, h1, h2⟩ := ca.has i y e
    refine ⟨c, h1, fun v hv => ?_⟩
    obtain ⟨u, r, z⟩ := h2 v (by rw [hw, List.getElem?_map, hv] <;> rfl)
    exact ⟨u, r, up h1 z⟩
theorem sto_set {K : PySem.W.Frag} {M : List Addr} {H : Hp} {S : Sto} {n : Nat} {a : Addr} {w : Own} (h : StoreOk K M H S) (hn : M[n]? = some a) (hw : ORep K M H a w) : StoreOk K M H (S.set n w) := by
  refine ⟨h.nd, by rw [List.length_set]; exact h.len, fun i b u h1 h2 => ?_⟩
  by_cases e : n = i
  · subst e
    rw [List.getElem?_set_self (by rw [← h.len]; exact (List.getElem?_eq_some_iff.mp hn).1)] at h2
    cases h2
    rw [hn] at h1
    cases h1
    exact hw
  · rw [List.getElem?_set_ne e] at h2
    exact h.rep i b u h1 h2
theorem run_fnB {X : Cx} {k : Nat} {base' : Heap} {CX : CXT} {f : Addr} {fd : FuncData} {ps : List Str} {sp : Sp} {dvs : List V} {dvu : List Value} {E : XK} {pins : List (Addr × Obj)} {σ : Sig} {H : Hp} {s : Shared} {Q : VK} {us : List Value} {vs : List V} (E0 : Env0 X.prog X.w X.K X.mg base' X.A X.stack s H) (F : FnOk X.prog X.w X.K X.mg base' CX k f fd ps sp) (hr : Room k X.A) (hb : Binds X.K fd ps dvu) (hd : L2.Vals dvs dvu)
    (hx : ∀ (e : Value) (s' : Shared), CX X.stack H s E e s' → X.xe e s') (I : Inv X pins σ H s) (r : L2.Vals vs us) (h : sp (vs ++ dvs) H Q E) : wpAny (model X.prog X.w) X.A (call (.ref f) us) (EP X pins σ Q) X.xe s := by
  have r2 : L2.Vals (vs ++ dvs) (us ++ dvu) := r.append hd
  have hl : (us ++ dvu).length = ps.length := by rw [← r2.length]; exact F.len _ _ _ _ h
  refine wpAny_call (codeAny_mono (F.run X.A X.stack s H ⟨us, []⟩ (us ++ dvu) (vs ++ dvs) Q E hr E0 (hb s us I.kIn hl) r2 h) fun r s' hq => ?_)
  cases r with
  | error e => exact hx e s' hq
  | ok fl =>
    cases fl with
    | ret u => exact I.after hq
    | next => exact False.elim hq
    | brk => exact False.elim hq
    | cont => exact False.elim hq
section
variable {X : Cx} {W : WX} {k j : Nat} {G : Gam} {S S1 : Sto} {e : Expr} {es : List Expr} {rs drs : List It} {p pos : Pos} {n : Str} {ps : List Str} {F : Heap → Fn} {Qr : It → Sto → Prop} {Qx : Addr → Sto → Prop} {q1 q2 : Clo}
/-- a call that is handed two closures of the frame that calls -/
theorem evx_callB (c : Cxo X W k) (O : ∀ base, OkF X.prog X.w X.K X.mg base j n ps drs (F base)) (hj : j ≤ k) (ha : EvA X (e :: es) G S rs S1) (hl : (rs ++ drs).length = ps.length) (c1 : q1.At X G S1) (c2 : q2.At X G S1) (hne : q1.n ≠ q2.n)
    (hF : ∀ (base : Heap) (vs1 vs2 : List V), CellsB base q1.F.cl q1.fr ((vs1.zip q1.its).map (·.1)) → CellsB base q2.F.cl q2.fr ((vs2.zip q2.its).map (·.1)) → (vs1.zip q1.its).map (·.2) = q1.its → (vs2.zip q2.its).map (·.2) = q2.its → ∀ (QR : It → Sto → Prop) (QE : Addr → Sto → Prop), (∀ r S', Qr r S' → QR r S') → (∀ C S', Qx C S' → QE C S') → F base (rs ++ drs) ((S1.set q1.n (.fn q1.F (vs1.zip q1.its))).set q2.n (.fn q2.F (vs2.zip q2.its))) QR QE)
    (hg : Gl X n := by rfl) (hdb : (n == ("__debug__" : Str)) = false := by decide)
    (he : starEach (e :: es) X.env = (false, eval e X.env) :: starEach es X.env := by rfl) (hpl : (backTo pos (starEach es X.env)).any (·.1) = false := by rfl) : EvX X W (.Call (.Name n p) (e :: es) [] pos) G S Qr Qx := fun M σ H Q s h1 h2 pins s0 I => by
  obtain ⟨f, fd, dvs, dus, hm, hk, _⟩ := (O X.base).ex
  refine wpAny_Call_Name_kw (ld_glob I hg hm ?_ hdb)
  refine PySem.W.callWith_K (h₀ := X.base) I.ok.mod.kin hk ?_ he hpl
  refine thn ((pa_s (es := e :: es)).run pos pins s0 σ H _ I (ha M σ H (fun vs H1 => ∃ M1, Ext M H M1 H1 ∧ Stt X.K M1 H1 S1 G σ ∧ VReps X.K M1 H1 vs rs) s fun vs M' H' e' s' r' => ⟨M', e', s', r'⟩)) fun us s1 ⟨vs, H1, I1, r1, M1, e1, t1, vr⟩ => ⟨I1.kIn, ?_⟩
  -- what is captured
  obtain ⟨vs1, w1, v1⟩ := slots_of t1 c1.its
  obtain ⟨vs2, w2, v2⟩ := slots_of t1 c2.its
  obtain ⟨C1, hC1⟩ := c1.fn
  obtain ⟨C2, hC2⟩ := c2.fn
  have K1 := c1.cap I1.ok
  have K2 := c2.cap I1.ok
  obtain ⟨base', E0, hb⟩ := env0_cells I1 ((q1.fr ++ q2.fr).filterMap fun y => X.env.cells.lookup y) (fun a hm => by
    obtain ⟨y, hy, e⟩ := List.mem_filterMap.mp hm
    refine ⟨y, e, ?_⟩
    rcases List.mem_append.mp hy with h | h
    · exact c1.own y h
    · exact c2.own y h)
  have hb1 : ∀ y a, q1.F.cl.lookup y = some a → base'.get? a = s1.heap.get? a := fun y a e => hb a (List.mem_filterMap.mpr ⟨y, List.mem_append_left _ (c1.sub y a e), K1.sub y a e⟩)
  have hb2 : ∀ y a, q2.F.cl.lookup y = some a → base'.get? a = s1.heap.get? a := fun y a e => hb a (List.mem_filterMap.mpr ⟨y, List.mem_append_right _ (c2.sub y a e), K2.sub y a e⟩)
  have B1 : CellsB base' q1.F.cl q1.fr vs1 := .of (cells_of I1 K1) w1 hb1
  have B2 : CellsB base' q2.F.cl q2.fr vs2 := .of (cells_of I1 K2) w2 hb2
  have z1 := v1.len
  have z2 := v2.len
  obtain ⟨a1, ha1, o1, o2, o3, _⟩ := t1.sto.addr hC1
  obtain ⟨a2, ha2, p1, p2, p3, _⟩ := t1.sto.addr hC2
  have st1 : StoreOk X.K M1 H1 (S1.set q1.n (.fn q1.F (vs1.zip q1.its))) := sto_set t1.sto ha1 ⟨o1, o2, o3, by rw [zip_fst z1, zip_snd z1]; exact v1⟩
  have st2 : StoreOk X.K M1 H1 ((S1.set q1.n (.fn q1.F (vs1.zip q1.its))).set q2.n (.fn q2.F (vs2.zip q2.its))) := sto_set st1 ha2 ⟨p1, p2, p3, by rw [zip_fst z2, zip_snd z2]; exact v2⟩
  obtain ⟨f', fd, dvs, dus, hm', hk', hb', hd, rd, ok⟩ := (O base').ex
  obtain rfl : f' = f := by rw [hm] at hm'; cases hm'; rfl
  refine run_fnB (E := eAt W σ) E0 ok (c.hr.mono hj) hb' hd (fun e s' cx => passAt c.tk σ pins H1 s1 e s' I1 cx) I1 r1 (spF_of st2 vr rd hl (hF base' vs1 vs2 (by rw [zip_fst z1]; exact B1) (by rw [zip_fst z2]; exact B2) (zip_snd z1) (zip_snd z2)) (fun v M' H' r S' e2 s2 hv q => h1 v M' H' r S' (e1.trans e2) (t1.mono e2 s2) hv q) fun M' H' C S' e2 s2 q => h2 M' H' C S' (e1.trans e2) (t1.mono e2 s2) q)
end
end Cu
/-! K61G: the law's two closures. -/
namespace Pf
open PySem PySem.Spec PyProof.Rows L2 He Cu NdefX
def nd_price : Stmt := (defBody s_law).getD 8 (.Pass ⟨0, 0, 0, 0⟩)
def nd_through : Stmt := (defBody s_law).getD 9 (.Pass ⟨0, 0, 0, 0⟩)
def NFp (qual : Str) (cl : List (Str × Addr)) (c' : Addr) : NF := ⟨"_law_price", qual, defArgs nd_price, defBody nd_price, defScope nd_price, cl, c'⟩
def NFt (qual : Str) (cl : List (Str × Addr)) (c' : Addr) : NF := ⟨"_law_through", qual, defArgs nd_through, defBody nd_through, defScope nd_through, cl, c'⟩
def frP : List Str := ["_law_asked", "_law_spots", "_law_prices_here"]
def frT : List Str := ["_law_asked", "_law_spots", "_law_changes"]
theorem nsc_price : NScope ["_law_cell", "_law_asked", "_law_spots", "_law_prices_here"] ["_law_cell"] frP (defScope nd_price) := nscope_by (by decide +kernel)
theorem nsc_through : NScope ["_law_x", "_law_y", "_law_asked", "_law_spots", "_law_changes"] ["_law_x", "_law_y"] frT (defScope nd_through) := nscope_by (by decide +kernel)
def askO (x : Nat) : Own := .lst (List.replicate x (.d (.bool true)))
def lawW (ns : List Int) (S0 : Sto) (F1 F2 : NF) (cap1 cap2 : List (V × Cu.It)) : Wv Nat := { S0 := S0, a := 4, ob := askO, mm := fun x => x, F := FL ns, s1 := fun _ x => x + 1, s2 := fun _ _ x => x + 1, n1 := 6, n2 := 7, F1 := F1, F2 := F2, cap1 := cap1, cap2 := cap2, ps1 := ["_law_cell"], ps2 := ["_law_x", "_law_y"] }
structure LawS (ns : List Int) (S0 : Sto) : Prop where
  pr : S0[1]? = some (.dT (prK wcK (prL ns)))
  ch : S0[2]? = some (.dT (prK sqK (chL ns)))
  ask : ∃ x, S0[4]? = some (askO x)
  spots : S0[5]? = some (.dT (cmK (clL ns)))
theorem ask_put (x : Nat) : Own.lst (List.replicate x (Cu.It.d (.bool true)) ++ [.d (.bool true)]) = askO (x + 1) := by
  unfold askO
  rw [List.replicate_succ']
section
variable {P : Program} {w : World} {K : PySem.W.Frag} {mg : Str → Option Value} {base : Heap} {ns : List Int} {S0 : Sto} {F1 F2 : NF} {cap1 cap2 : List (V × Cu.It)}
theorem okV_price {k : Nat} {qual : Str} {cl : List (Str × Addr)} {c' : Addr} (hS : LawS ns S0) (C : CellsB base cl frP (cap1.map (·.1))) (hits : cap1.map (·.2) = [.o 4, .o 5, .o 1]) : OkV P w K mg base (k + 1) (NFp qual cl c') cap1 ["_law_cell"] (lawW ns S0 F1 F2 cap1 cap2).FPr := by
  refine okV_of (F := NFp qual cl c') nsc_price (fun doc pm ctv us hl => match us, hl with | [_], _ => rfl) C (fun f A outer s H E rs S QR c hc hl hF => ?_) fun rs S QR QE h => h
  obtain ⟨cc, x, L, rfl, rfl, hin, hm, q⟩ := hF
  rw [hits]
  obtain ⟨x0, hx0⟩ := hS.ask
  have hlen : 4 < S0.length := (List.getElem?_eq_some_iff.mp hx0).1
  have h4 : ((lawW ns S0 F1 F2 cap1 cap2).st x L)[4]? = some (askO x) := by
    show (S0.set 4 (askO x) ++ L)[4]? = _
    rw [List.getElem?_append_left (by rw [List.length_set]; exact hlen), List.getElem?_set_self hlen]
  have h5 : ((lawW ns S0 F1 F2 cap1 cap2).st x L)[5]? = some (.dT (cmK (clL ns))) := st_old hS.spots (by show (4 : Nat) ≠ 5; decide)
  have h1 : ((lawW ns S0 F1 F2 cap1 cap2).st (x + 1) L)[1]? = some (.dT (prK wcK (prL ns))) := st_old hS.pr (by show (4 : Nat) ≠ 1; decide)
  have hm : x < 900000 := hm
  refine ss_cons (ws_expr (ev_append (i := 4) (xs := List.replicate x (.d (.bool true))) (ev_name 1) h4 (Ev.is (r' := .d (.bool true)) (ev_dinT c (ev_name 0) (ev_name 2) h5 (keyD_wc cc)) (by rw [cmK_in, decide_eq_true (has_clL hin)])) h4 (by rw [List.length_replicate]; omega)) ?_)
  rw [ask_put, show ((lawW ns S0 F1 F2 cap1 cap2).st x L).set 4 (askO (x + 1)) = (lawW ns S0 F1 F2 cap1 cap2).st (x + 1) L from st_turn (y := x + 1) hlen]
  refine ss_cons (ws_ret (r := .d (numO ((FL ns).pr cc))) (Ev.is (ev_dget1T c (ev_name 3) h1 (ev_name 0) h1 (keyD_wc cc)) ?_) (back_d q (by rw [st_len, st_len]; exact Nat.le_refl _)))
  rw [valI_pr]
  cases (FL ns).pr cc <;> rfl
theorem okV_through {k : Nat} {qual : Str} {cl : List (Str × Addr)} {c' : Addr} (hS : LawS ns S0) (C : CellsB base cl frT (cap2.map (·.1))) (hits : cap2.map (·.2) = [.o 4, .o 5, .o 2]) : OkV P w K mg base (k + 1) (NFt qual cl c') cap2 ["_law_x", "_law_y"] (lawW ns S0 F1 F2 cap1 cap2).FTh := by
  refine okV_of (F := NFt qual cl c') nsc_through (fun doc pm ctv us hl => match us, hl with | [_, _], _ => rfl) C (fun f A outer s H E rs S QR c hc hl hF => ?_) fun rs S QR QE h => h
  obtain ⟨i, j, x, L, rfl, rfl, hin, hm, q⟩ := hF
  rw [hits]
  obtain ⟨x0, hx0⟩ := hS.ask
  have hlen : 4 < S0.length := (List.getElem?_eq_some_iff.mp hx0).1
  have h4 : ((lawW ns S0 F1 F2 cap1 cap2).st x L)[4]? = some (askO x) := by
    show (S0.set 4 (askO x) ++ L)[4]? = _
    rw [List.getElem?_append_left (by rw [List.length_set]; exact hlen), List.getElem?_set_self hlen]
  have h5 : ((lawW ns S0 F1 F2 cap1 cap2).st x L)[5]? = some (.dT (cmK (clL ns))) := st_old hS.spots (by show (4 : Nat) ≠ 5; decide)
  have h2 : ((lawW ns S0 F1 F2 cap1 cap2).st (x + 1) L)[2]? = some (.dT (prK sqK (chL ns))) := st_old hS.ch (by show (4 : Nat) ≠ 2; decide)
  have hm : x < 900000 := hm
  have hcl : (i, j, (0 : Int)) ∈ clL ns := has_clL (Fld.has_mk hin ⟨Int.le_refl _, by
    show (0 : Int) < (lyN ns : Int)
    have := (lyN_eq ns).2.1
    omega⟩)
  refine ss_cons (ws_expr (ev_append (i := 4) (xs := List.replicate x (.d (.bool true))) (ev_name 2) h4 (Ev.is (r' := .d (.bool true)) (ev_dinT c (ev_tup (eva_cons (ev_name 0) (eva_cons (ev_name 1) (eva_cons ev_int eva_nil)))) (ev_name 3) h5 (keyD_wc (i, j, 0))) (by rw [cmK_in, decide_eq_true hcl])) h4 (by rw [List.length_replicate]; omega)) ?_)
  rw [ask_put, show ((lawW ns S0 F1 F2 cap1 cap2).st x L).set 4 (askO (x + 1)) = (lawW ns S0 F1 F2 cap1 cap2).st (x + 1) L from st_turn (y := x + 1) hlen]
  refine ss_cons (ws_ret (r := .d (numO ((FL ns).th i j))) (Ev.is (ev_dget1T c (ev_name 4) h2 (ev_tup (eva_cons (ev_name 0) (eva_cons (ev_name 1) eva_nil))) h2 (keyD_sq (i, j))) ?_) (back_d q (by rw [st_len, st_len]; exact Nat.le_refl _)))
  rw [valI_th]
  cases (FL ns).th i j <;> rfl
end
end Pf
/-! K61K: a wave's numbers are the only ones; hashes; answers in a store. -/
namespace Pf
open PySem PySem.Spec PyProof.Rows L2 He Cu
theorem wave_le {F : Fld} {starts : List WC} {R R' : List Num} (h : WaveOk F starts R) (h' : WaveOk F starts R') : ∀ (i : Nat) e, R[i]? = some e → ∃ m, inNum R' e.1 = some m ∧ m ≤ e.2.1 := by
  intro i
  induction i using Nat.strongRecOn with
  | _ i ih =>
    intro e he
    have hem := List.mem_of_getElem? he
    have hfr := h.from_ i e he
    cases hb : e.2.2 with
    | none =>
      rw [hb] at hfr
      have hfr : e.2.1 = 0 ∧ e.1 ∈ starts := hfr
      rcases h'.st e.1 hfr.2 (h.op e hem).2 with ⟨z, hz, z1, z2⟩ | ⟨b, z⟩
      · have := inNum_get h'.nd hz
        rw [z1] at this
        exact ⟨_, this, by omega⟩
      · cases z
    | some b =>
      rw [hb] at hfr
      obtain ⟨f, hf, rfl, ch, p, h1, h2, h3⟩ := hfr
      obtain ⟨j, hj⟩ := List.getElem?_of_mem hf
      have hjl := (List.getElem?_eq_some_iff.mp hj).1
      rw [List.length_take] at hjl
      rw [List.getElem?_take_of_lt (by omega)] at hj
      obtain ⟨m, hm, hle⟩ := ih j (by omega) f hj
      obtain ⟨b', hb'⟩ := inNum_mem hm
      rcases h'.rel _ hb' e.1 ch p h1 h2 with ⟨z, hz, z1, z2⟩ | ⟨b, z⟩ | z
      · have := inNum_get h'.nd hz
        rw [z1] at this
        have z2 : z.2.1 ≤ m + p + ch := z2
        exact ⟨_, this, by omega⟩
      · cases z
      · cases z
theorem wave_same {F : Fld} {starts : List WC} {R R' : List Num} (h : WaveOk F starts R) (h' : WaveOk F starts R') {e : Num} (he : e ∈ R) : inNum R' e.1 = some e.2.1 := by
  obtain ⟨i, hi⟩ := List.getElem?_of_mem he
  obtain ⟨m, hm, h1⟩ := wave_le h h' i e hi
  obtain ⟨b', hb'⟩ := inNum_mem hm
  obtain ⟨j, hj⟩ := List.getElem?_of_mem hb'
  obtain ⟨m2, hm2, h2⟩ := wave_le h' h j _ hj
  rw [inNum_get h.nd he] at hm2
  cases hm2
  have h2 : e.2.1 ≤ m := h2
  rw [hm, Int.le_antisymm h2 h1]
theorem wave_len {F : Fld} {starts : List WC} {R R' : List Num} (h : WaveOk F starts R) (h' : WaveOk F starts R') : R.length ≤ R'.length := by
  have := h.nd.length_le_of_subset (l₂ := R'.map (·.1)) fun c hc => by
    obtain ⟨e, he, rfl⟩ := List.mem_map.mp hc
    obtain ⟨b, hb⟩ := inNum_mem (wave_same h h' he)
    exact List.mem_map.mpr ⟨_, hb, rfl⟩
  rwa [List.length_map, List.length_map] at this
theorem wave_eqI {F : Fld} {starts : List WC} {R R' : List Num} (h : WaveOk F starts R) (h' : WaveOk F starts R') : eqI (numK R) (numK R') = true := by
  unfold eqI
  rw [Bool.and_eq_true]
  refine ⟨?_, List.all_eq_true.mpr fun p hp => ?_⟩
  · unfold numK
    rw [List.length_map, List.length_map, Nat.le_antisymm (wave_len h h') (wave_len h' h)]
    exact beq_self_eq_true _
  · obtain ⟨e, he, rfl⟩ := List.mem_map.mp hp
    show (valI (numK R') (wcK e.1)).isSome = true
    rw [valI_numK, wave_same h h' he] <;> rfl
theorem wave_vals {F : Fld} {starts : List WC} {R R' : List Num} (h : WaveOk F starts R) (h' : WaveOk F starts R') : ∀ p ∈ numK R, ∀ q ∈ numK R', p.1 = q.1 → ∃ n : Int, p.2 = .d (.int n) ∧ q.2 = .d (.int n) := fun p hp q hq e => by
  obtain ⟨x, hx, rfl⟩ := List.mem_map.mp hp
  obtain ⟨y, hy, rfl⟩ := List.mem_map.mp hq
  have e : x.1 = y.1 := wcK_inj.mp e
  have h1 := wave_same h h' hx
  rw [e, inNum_get h'.nd hy] at h1
  exact ⟨x.2.1, rfl, by show Cu.It.d (.int y.2.1) = _; rw [Option.some.inj h1]⟩
theorem Ans.inS {F : Fld} {starts goals : List WC} {R : List Num} {n : Nat} {L S : Sto} {al : List Cu.It} (h : Ans F starts goals R n L al) (hS : ∀ (j : Nat) w, L[j]? = some w → S[n + j]? = some w) : AnsS F starts goals R S (n + 0) al := by
  cases h with
  | shut h => exact .shut h
  | way j total way hj hw => exact .way (n + j) total way (hS j _ hj) hw
end Pf
/-! K61J: hashes of the keys of the numbers. -/
namespace Pf
open PySem PySem.Spec PyProof.Rows L2 He Cu
/-! ### hashes -/
def hIw (l : List Int) : Int := reduceHash (Builtin.Tuple.tupleHashOf (l.map hashInt))
theorem hash_wcK (P : Program) (w : World) (c : WC) : (tupleKind (mixKind P w)).hash (wcK c) = hIw [c.1, c.2.1, c.2.2] :=
  congrArg (fun l => reduceHash (Builtin.Tuple.tupleHashOf l)) (show (wcK c).map (mixKind P w).hash = [c.1, c.2.1, c.2.2].map hashInt from rfl)
def chkW {α : Type} (f : α → Nat) : List α → Nat → Bool
  | [], _ => true
  | a :: l, m => !(m.testBit (f a)) && chkW f l (m ||| 2 ^ f a)
theorem chkW_ok {α : Type} {f : α → Nat} : ∀ {l : List α} {m : Nat}, chkW f l m = true → (∀ a ∈ l, m.testBit (f a) = false) ∧ (l.map f).Nodup
  | [], _, _ => ⟨(fun _ h => nomatch h), List.nodup_nil⟩
  | a :: l, m, h => by
    unfold chkW at h
    rw [Bool.and_eq_true, Bool.not_eq_true'] at h
    obtain ⟨h1, h2⟩ := chkW_ok h.2
    have h3 : ∀ b ∈ l, m.testBit (f b) = false ∧ f a ≠ f b := fun b hb => by
      have := h1 b hb
      rw [Nat.testBit_or, Bool.or_eq_false_iff, Nat.testBit_two_pow] at this
      exact ⟨this.1, fun e => by rw [decide_eq_true e] at this; exact Bool.noConfusion this.2⟩
    refine ⟨fun b hb => ?_, ?_⟩
    · rcases List.mem_cons.mp hb with rfl | hb
      · exact h.1
      · exact (h3 b hb).1
    · rw [List.map_cons, List.nodup_cons]
      refine ⟨fun hm => ?_, h2⟩
      obtain ⟨b, hb, e⟩ := List.mem_map.mp hm
      exact (h3 b hb).2 e.symm
theorem inj_ofW {α β : Type} {f : α → β} : ∀ {l : List α}, (l.map f).Nodup → ∀ a ∈ l, ∀ b ∈ l, f a = f b → a = b
  | [], _, _, h, _, _, _ => nomatch h
  | x :: l, hn, a, ha, b, hb, e => by
    rw [List.map_cons, List.nodup_cons] at hn
    rcases List.mem_cons.mp ha with rfl | ha2
    · rcases List.mem_cons.mp hb with rfl | hb2
      · rfl
      · exact absurd (List.mem_map.mpr ⟨b, hb2, e.symm⟩) hn.1
    · rcases List.mem_cons.mp hb with rfl | hb2
      · exact absurd (List.mem_map.mpr ⟨a, ha2, e⟩) hn.1
      · exact inj_ofW hn.2 a ha2 b hb2 e
def gridW : List (Nat × Nat × Nat) := (List.range 12).flatMap fun x => (List.range 12).flatMap fun y => (List.range 3).map fun z => (x, y, z)
theorem gridW_ok : chkW (fun c : Nat × Nat × Nat => (hIw [(c.1 : Int), (c.2.1 : Int), (c.2.2 : Int)] % 4181).toNat) gridW 0 = true := by decide +kernel
theorem mem_gridW {x y z : Nat} (hx : x < 12) (hy : y < 12) (hz : z < 3) : (x, y, z) ∈ gridW := List.mem_flatMap.mpr ⟨x, List.mem_range.mpr hx, List.mem_flatMap.mpr ⟨y, List.mem_range.mpr hy, List.mem_map.mpr ⟨z, List.mem_range.mpr hz, rfl⟩⟩⟩
theorem hash_W {F : Fld} (k : F.Ok) {c d : WC} (hc : F.has c = true) (hd : F.has d = true) (h : hIw [c.1, c.2.1, c.2.2] = hIw [d.1, d.2.1, d.2.2]) : c = d := by
  have on : ∀ {c : WC}, F.has c = true → (0 ≤ c.1 ∧ c.1 < 12) ∧ (0 ≤ c.2.1 ∧ c.2.1 < 12) ∧ 0 ≤ c.2.2 ∧ c.2.2 < 3 := fun {c} hc => by
    unfold Fld.has Fld.sq at hc
    simp only [Bool.and_eq_true, decide_eq_true_iff] at hc
    have := k.w2; have := k.h2; have := k.l2
    omega
  have hc := on hc
  have hd := on hd
  obtain ⟨x, y, z⟩ := c
  obtain ⟨x', y', z'⟩ := d
  dsimp only at hc hd h
  obtain ⟨a, rfl⟩ : ∃ a : Nat, x = a := ⟨x.toNat, by omega⟩
  obtain ⟨b, rfl⟩ : ∃ a : Nat, y = a := ⟨y.toNat, by omega⟩
  obtain ⟨e, rfl⟩ : ∃ a : Nat, z = a := ⟨z.toNat, by omega⟩
  obtain ⟨a', rfl⟩ : ∃ a : Nat, x' = a := ⟨x'.toNat, by omega⟩
  obtain ⟨b', rfl⟩ : ∃ a : Nat, y' = a := ⟨y'.toNat, by omega⟩
  obtain ⟨e', rfl⟩ : ∃ a : Nat, z' = a := ⟨z'.toNat, by omega⟩
  have := inj_ofW (chkW_ok gridW_ok).2 (a, b, e) (mem_gridW (by omega) (by omega) (by omega)) (a', b', e') (mem_gridW (by omega) (by omega) (by omega)) (by dsimp only; rw [h])
  cases this
  rfl
end Pf
/-! K61I: the keys of the numbers have hashes of their own. -/
namespace Pf
open PySem PySem.Spec PyProof.Rows L2 He Cu
theorem hash_num {F : Fld} (k : F.Ok) {starts : List WC} {R : List Num} (h : WaveOk F starts R) (P : Program) (w : World) : ((numK R).map fun p => (tupleKind (mixKind P w)).hash p.1).Nodup := by
  have e : ((numK R).map fun p => (tupleKind (mixKind P w)).hash p.1) = (R.map (·.1)).map fun c => hIw [c.1, c.2.1, c.2.2] := by
    unfold numK
    rw [List.map_map, List.map_map]
    refine List.map_congr_left fun c _ => ?_
    rw [Function.comp_apply, Function.comp_apply]
    exact hash_wcK P w c.1
  rw [e]
  unfold List.Nodup
  rw [List.pairwise_map]
  refine List.Pairwise.imp_of_mem (fun {a b} ha hb hne e => hne ?_) h.nd
  obtain ⟨x, hx, rfl⟩ := List.mem_map.mp ha
  obtain ⟨y, hy, rfl⟩ := List.mem_map.mp hb
  exact hash_W k (h.op x hx).1 (h.op y hy).1 e
end Pf
/-! CyN: laws whose defs make lambdas and nested defs: their tables at the store's start. -/
namespace Cu
open PySem PySem.Spec PyProof.Rows L2 He
/-- the store's start: the tables, by the defs and what their lambdas are called -/
def tabG (K : PySem.W.Frag) (tf : List (Defn × (Addr → Own))) : Sto := tf.map fun p => p.2 (cT K p.1).2
/-- an empty table is such a one -/
def TabO (tf : List (Defn × (Addr → Own))) : Prop := ∀ p ∈ tf, ∀ (K : PySem.W.Frag) (M : List Addr) (H : Hp) (a : Addr), H a = some (.tbl #[]) → ORep K M H a (p.2 a)
theorem tabO_l (q : Str) (K : PySem.W.Frag) (M : List Addr) (H : Hp) (a : Addr) (h : H a = some (.tbl #[])) : ORep K M H a (.tbl a q) := ⟨rfl, #[], h, trivial, fun pos cv hc => by simp [codeAmong] at hc⟩
theorem tabO_n (nm : Nat → Nat → Str) (K : PySem.W.Frag) (M : List Addr) (H : Hp) (a : Addr) (h : H a = some (.tbl #[])) : ORep K M H a (.tblN a nm) := ⟨rfl, #[], h, trivial, fun pos cv hc => by simp [codeAmong] at hc⟩
def lawFG (K : PySem.W.Frag) (tf : List (Defn × (Addr → Own))) : Fn := fun rs S QR _ => ∃ ns : List Int, rs = [.s ns] ∧ S = tabG K tf ∧ ns.length ≤ 63 ∧ QR (.d (.bool true)) S
theorem law_spG {K : PySem.W.Frag} {tf : List (Defn × (Addr → Own))} {H : Hp} {a : Addr} {ns : List Int} (hO : TabO tf) (hl : ns.length ≤ 63) (nd : (tf.map fun p => (cT K p.1).2).Nodup) (hH : ∀ p ∈ tf, H (cT K p.1).2 = some (.tbl #[])) (hS : SqL K H a (ns.map V.int)) : spF K 1 (lawFG K tf) [.ref a] H (fun v _ => v = .bl true) (fun _ _ _ => False) := by
  have h0 : StoreOk K (tf.map fun p => (cT K p.1).2) H (tabG K tf) := by
    refine ⟨nd, by unfold tabG; rw [List.length_map, List.length_map], fun n b w h1 h2 => ?_⟩
    unfold tabG at h2
    rw [List.getElem?_map] at h1 h2
    cases e : tf[n]? with
    | none => rw [e] at h1; cases h1
    | some p =>
      rw [e] at h1 h2
      cases h1
      cases h2
      exact hO p (List.mem_of_getElem? e) _ _ _ _ (hH p (List.mem_of_getElem? e))
  have hN : NdS K (tf.map fun p => (cT K p.1).2) H a (ns.map V.int) := by
    rcases hS with h | h
    · refine .inl ⟨h, fun z => ?_⟩
      obtain ⟨p, hp, e⟩ := List.mem_map.mp z
      have := hH p hp
      rw [e] at this
      rcases h with h | ⟨o, h⟩ <;> rw [h] at this <;> cases this
    · exact .inr h
  exact ⟨_, _, [.s ns], h0, .cons ⟨a, rfl, hN⟩ .nil, rfl, ns, rfl, rfl, hl, fun v M' H' _ _ hv => vr_bool hv⟩
/-- the end: from the law's def to the row -/
theorem walk_wG {l : PySem.W.OpenLaw} {fa : List Fk} {fn : List DefD} {tf : List (Defn × (Addr → Own))} {nn k : Nat} {q : Program} {loose : List Str} {XP : (Str → Option Value) → Heap → Prop} {d : DefRec} {x : Str} (hO : TabO tf) (hn : l.most = some 63) (hdf : d.params.defaults = []) (hr : Room k callerA) (hd : d.name = "law")
    (h : ∀ (w : World) (K : PySem.W.Frag) (mg : Str → Option Value), Txt fa fn K mg → mg "law" = some (.ref (ga K "law")) ∧ ∃ fd : FuncData, (∀ (s : Shared) (u : Value), BindsTo s fd ⟨[u], []⟩ [(x, u)]) ∧ ∀ base : Heap, (∀ p ∈ tf, LamX.TabB base mg (cT K p.1).1 (cT K p.1).2) → FnOk l.prog w K mg base (L2.CX l.prog w) k (ga K "law") fd [x] (spF K 1 (lawFG K tf))) :
    PySem.W.WalkO q loose XP (hookTb nn fa fn (tf.map (·.1))).says l.row.toRowW d [] (fun f vs => PySem.call f vs) := by
  refine Att.attach_call hn hdf fun w s0 s1 mg mb f1 ob pm cd doc ad vs ns Gd Y ho hda hcd hmg hobj hins hlen hgn => ?_
  obtain ⟨K, KX, c⟩ := Y
  obtain ⟨hgl, fd, hb, hF⟩ := h w K mg ⟨c.c, _, KX, Gd.T.g⟩
  rw [hd, hgl] at hmg
  obtain rfl : ga K "law" = f1 := by injection hmg with hmg; injection hmg
  have mem : ∀ p ∈ tf.map fun p => cT K p.1, ∃ z ∈ tf, p = cT K z.1 := fun p hp => by
    obtain ⟨z, hz, e⟩ := List.mem_map.mp hp
    exact ⟨z, hz, e.symm⟩
  have inM : ∀ z ∈ tf, z.1 ∈ tf.map (·.1) := fun z hz => List.mem_map.mpr ⟨z, hz, rfl⟩
  refine LamX.law_callTs (cs := tf.map fun p => cT K p.1) KX Gd.T.g Gd.T.b Gd.T.builtins Gd.T.nolimit hgn (fun p hp => ?_) (fun p hp => ?_) (fun p hp => ?_) Gd.T.bmain hobj hins (Nat.le_trans hlen (by rw [sizeLine_eq]; omega)) hr
    (fun base _ _ hT => hF base fun p hp => hT _ (List.mem_map.mpr ⟨p, hp, rfl⟩)) hb (fun H hT hS => law_spG hO hlen ?_ (fun p hp => hT _ (List.mem_map.mpr ⟨p, hp, rfl⟩)) hS) fun H e s' hx => ?_
  · obtain ⟨z, hz, rfl⟩ := mem p hp
    exact c.empty _ (inM z hz)
  · obtain ⟨z, hz, rfl⟩ := mem p hp
    exact c.out _ (inM z hz)
  · obtain ⟨z, hz, rfl⟩ := mem p hp
    exact PySem.W.codeHd_of_K KX (c.hd _ (inM z hz))
  · have := c.nd
    rw [List.map_map] at this
    exact this
  · obtain ⟨_, _, _, _, _, _, _, _, _, _, _, _, z⟩ := hx
    exact z
end Cu
/-! K61L: the law, walked. -/
namespace Pf
open PySem PySem.Spec PyProof.Rows L2 He Cu NdefX
def lawD : Defn := ("law", none)
def qP : Str := "law.<locals>._law_price"
def qT : Str := "law.<locals>._law_through"
def nmL (l _c : Nat) : Str := if l = 141 then qP else qT
def tfL : List (Defn × (Addr → Own)) := [(lawD, fun a => .tblN a nmL)]
theorem tfL_ok : TabO tfL := fun p hp => by
  rw [List.mem_singleton.mp hp]
  exact fun K M H a h => tabO_n nmL K M H a h
theorem hfreeP : ∀ y ∈ (defScope nd_price).names, y.2 = .free → (defScope s_law).names.lookup y.1 = some .cell ∨ (defScope s_law).names.lookup y.1 = some .free := by decide +kernel
theorem hfreeT : ∀ y ∈ (defScope nd_through).names, y.2 = .free → (defScope s_law).names.lookup y.1 = some .cell ∨ (defScope s_law).names.lookup y.1 = some .free := by decide +kernel
theorem hfrP : ∀ y ∈ frP, (y, NameKind.free) ∈ (defScope nd_price).names := by decide +kernel
theorem hfrT : ∀ y ∈ frT, (y, NameKind.free) ∈ (defScope nd_through).names := by decide +kernel
theorem sub_fr {N ps fr : List Str} {sc : Scope} {cells : List (Str × Addr)} (h : NScope N ps fr sc) : ∀ y c, (cloFrom cells sc.names []).lookup y = some c → y ∈ fr := fun y c e => by
  rcases cloFrom_mem (PySem.mem_of_lookup e) with hm | ⟨h1, _⟩
  · cases hm
  · exact h.free _ h1 rfl
/-- the law's store ahead of a wave -/
structure LS (ns : List Int) (F1 F2 : NF) (S : Sto) (x : Nat) : Prop where
  pr : S[1]? = some (.dT (prK wcK (prL ns)))
  ch : S[2]? = some (.dT (prK sqK (chL ns)))
  fl : S[3]? = some (.tup [.d (szN ns), .d (.list ((clL ns).map wc)), .o 1, .o 2])
  ask : S[4]? = some (askO x)
  spots : S[5]? = some (.dT (cmK (clL ns)))
  f1 : ∃ c, S[6]? = some (.fn F1 c)
  f2 : ∃ c, S[7]? = some (.fn F2 c)
theorem LS.keep {ns : List Int} {F1 F2 : NF} {S : Sto} {x y : Nat} {c1 c2 : List (V × Cu.It)} (h : LS ns F1 F2 S x) (L : Sto) : LS ns F1 F2 ((((S.set 6 (.fn F1 c1)).set 7 (.fn F2 c2)).set 4 (askO y)) ++ L) y := by
  obtain ⟨_, h7⟩ := h.f2
  have hl : 7 < S.length := (List.getElem?_eq_some_iff.mp h7).1
  have up : ∀ {i : Nat} {w : Own}, i ≤ 7 → (((S.set 6 (.fn F1 c1)).set 7 (.fn F2 c2)).set 4 (askO y))[i]? = some w → ((((S.set 6 (.fn F1 c1)).set 7 (.fn F2 c2)).set 4 (askO y)) ++ L)[i]? = some w := fun {i w} hi e => by
    rw [List.getElem?_append_left (by rw [List.length_set, List.length_set, List.length_set]; omega)]; exact e
  have old : ∀ {i : Nat} {w : Own}, i ≠ 4 → i ≠ 6 → i ≠ 7 → i ≤ 7 → S[i]? = some w → ((((S.set 6 (.fn F1 c1)).set 7 (.fn F2 c2)).set 4 (askO y)) ++ L)[i]? = some w := fun {i w} n1 n2 n3 hi e => up hi (by
    rw [List.getElem?_set_ne (Ne.symm n1), List.getElem?_set_ne (Ne.symm n3), List.getElem?_set_ne (Ne.symm n2)]; exact e)
  refine ⟨old (by decide) (by decide) (by decide) (by decide) h.pr, old (by decide) (by decide) (by decide) (by decide) h.ch, old (by decide) (by decide) (by decide) (by decide) h.fl, up (by decide) ?_, old (by decide) (by decide) (by decide) (by decide) h.spots, ⟨c1, up (by decide) ?_⟩, ⟨c2, up (by decide) ?_⟩⟩
  · rw [List.getElem?_set_self (by rw [List.length_set, List.length_set]; omega)]
  · rw [List.getElem?_set_ne (by decide), List.getElem?_set_ne (by decide), List.getElem?_set_self (by omega)]
  · rw [List.getElem?_set_ne (by decide), List.getElem?_set_self (by rw [List.length_set]; omega)]
theorem LS.fldAt {ns : List Int} {F1 F2 : NF} {S : Sto} {x : Nat} (h : LS ns F1 F2 S x) : FldAt ns S 3 1 2 := ⟨h.fl, h.pr, h.ch⟩
theorem ask_cl (n x : Nat) : ClO n (askO x) := by
  have : askO x = .lst ((List.replicate x (PyData.bool true)).map .d) := by
    unfold askO
    rw [List.map_replicate]
  rw [this]
  exact clo_data
section
variable {P : Program} {w : World} {K : PySem.W.Frag} {mg : Str → Option Value} {base : Heap}
/-- what wave is handed, at a store -/
theorem LS.wv {ns : List Int} {q1 q2 : Str} {cl1 cl2 : List (Str × Addr)} {d1 d2 : Addr} {S : Sto} {x : Nat} {c1 c2 : List (V × Cu.It)} (h : LS ns (NFp q1 cl1 d1) (NFt q2 cl2 d2) S x) (C1 : CellsB base cl1 frP (c1.map (·.1))) (C2 : CellsB base cl2 frT (c2.map (·.1))) (h1 : c1.map (·.2) = [.o 4, .o 5, .o 1]) (h2 : c2.map (·.2) = [.o 4, .o 5, .o 2]) :
    (lawW ns ((S.set 6 (.fn (NFp q1 cl1 d1) c1)).set 7 (.fn (NFt q2 cl2 d2) c2)) (NFp q1 cl1 d1) (NFt q2 cl2 d2) c1 c2).Ok P w K mg base 1 ∧ (S.set 6 (.fn (NFp q1 cl1 d1) c1)).set 7 (.fn (NFt q2 cl2 d2) c2) = (lawW ns ((S.set 6 (.fn (NFp q1 cl1 d1) c1)).set 7 (.fn (NFt q2 cl2 d2) c2)) (NFp q1 cl1 d1) (NFt q2 cl2 d2) c1 c2).st x [] := by
  obtain ⟨_, h7⟩ := h.f2
  have hl : 7 < S.length := (List.getElem?_eq_some_iff.mp h7).1
  have old : ∀ {i : Nat} {w : Own}, i ≠ 6 → i ≠ 7 → S[i]? = some w → ((S.set 6 (.fn (NFp q1 cl1 d1) c1)).set 7 (.fn (NFt q2 cl2 d2) c2))[i]? = some w := fun {i w} n2 n3 e => by
    rw [List.getElem?_set_ne (Ne.symm n3), List.getElem?_set_ne (Ne.symm n2)]; exact e
  have hS : LawS ns ((S.set 6 (.fn (NFp q1 cl1 d1) c1)).set 7 (.fn (NFt q2 cl2 d2) c2)) := ⟨old (by decide) (by decide) h.pr, old (by decide) (by decide) h.ch, ⟨x, old (by decide) (by decide) h.ask⟩, old (by decide) (by decide) h.spots⟩
  refine ⟨⟨FL_ok ns, ?_, ?_, ?_, ?_, ?_, okV_price hS C1 h1, okV_through hS C2 h2, rfl, rfl, fun _ _ => Nat.le_refl _, fun _ _ _ => Nat.le_refl _, fun y => ask_cl _ y⟩, ?_⟩
  · show 4 < ((S.set 6 _).set 7 _).length
    rw [List.length_set, List.length_set]; omega
  · show ((S.set 6 _).set 7 _)[6]? = _
    rw [List.getElem?_set_ne (by decide), List.getElem?_set_self (by omega)]; rfl
  · show ((S.set 6 _).set 7 _)[7]? = _
    rw [List.getElem?_set_self (by rw [List.length_set]; omega)]; rfl
  · show (4 : Nat) ≠ 6; decide
  · show (4 : Nat) ≠ 7; decide
  · show _ = ((S.set 6 _).set 7 _).set 4 (askO x) ++ []
    rw [List.append_nil]
    refine List.ext_getElem? fun i => ?_
    by_cases e : 4 = i
    · subst e
      rw [List.getElem?_set_self (by rw [List.length_set, List.length_set]; omega)]
      exact old (by decide) (by decide) h.ask
    · rw [List.getElem?_set_ne e]
theorem keep_get {S L : Sto} {a b d : Own} {j : Nat} {w : Own} (h : L[j]? = some w) : ((((S.set 6 a).set 7 b).set 4 d) ++ L)[S.length + j]? = some w := by
  rw [List.getElem?_append_right (by rw [List.length_set, List.length_set, List.length_set]; omega), List.length_set, List.length_set, List.length_set, Nat.add_sub_cancel_left]
  exact h
theorem keep_old {S L : Sto} {a b d : Own} {i : Nat} {w : Own} (h : S[i]? = some w) (hi : 8 ≤ i) : ((((S.set 6 a).set 7 b).set 4 d) ++ L)[i]? = some w := by
  have hl := (List.getElem?_eq_some_iff.mp h).1
  rw [List.getElem?_append_left (by rw [List.length_set, List.length_set, List.length_set]; exact hl), List.getElem?_set_ne (by omega), List.getElem?_set_ne (by omega), List.getElem?_set_ne (by omega)]
  exact h
theorem keep_len {S L : Sto} {a b d : Own} : S.length ≤ ((((S.set 6 a).set 7 b).set 4 d) ++ L).length := by
  rw [List.length_append, List.length_set, List.length_set, List.length_set]
  exact Nat.le_add_right _ _
def cloP (X : Cx) : List (Str × Addr) := cloFrom X.env.cells (defScope nd_price).names []
def cloT (X : Cx) : List (Str × Addr) := cloFrom X.env.cells (defScope nd_through).names []
end
section
variable {X : Cx} {W : WX} {G : Gam} {S : Sto} {e : Expr} {es : List Expr} {p pos : Pos} {ns : List Int} {x : Nat} {starts goals : List WC} {d1 d2 : Addr} {q1 q2 : Str}
/-- a wave of the law's -/
theorem evx_wave (c : Cxo X W 4) (T : TT X.K X.mg) (hsc : X.env.scope = defScope s_law) (hN1 : [9, 10, 4].map (fun j => X.N[j]?) = frP.map some) (hN2 : [9, 10, 5].map (fun j => X.N[j]?) = frT.map some) (hfn1 : (frP.all fun y => X.fn y) = true) (hfn2 : (frT.all fun y => X.fn y) = true)
    (hls : LS ns (NFp q1 (cloP X) d1) (NFt q2 (cloT X) d2) S x) (hG1 : [9, 10, 4].map (fun j => G[j]?) = [some (some (.o 4)), some (some (.o 5)), some (some (.o 1))]) (hG2 : [9, 10, 5].map (fun j => G[j]?) = [some (some (.o 4)), some (some (.o 5)), some (some (.o 2))])
    (ha : EvA X (e :: es) G S [.d (szN ns), .o 6, .o 7, .d (.list (starts.map wc)), .d (.list (goals.map wc))] S) (hs1 : ∀ s ∈ starts, (FL ns).has s = true) (hs2 : starts.length ≤ 5) (hg2 : goals.length ≤ 5) (hx : x < 800000)
    (hg : Gl X "wave" := by rfl) (he : starEach (e :: es) X.env = (false, eval e X.env) :: starEach es X.env := by rfl) (hpl : (backTo pos (starEach es X.env)).any (·.1) = false := by rfl) :
    EvX X W (.Call (.Name "wave" p) (e :: es) [] pos) G S (fun r S' => ∃ y R L t al c1 c2, WaveOk (FL ns) starts R ∧ y ≤ x + 5000 ∧ L[0]? = some (.dT (numK R)) ∧ L[t]? = some (.tup al) ∧ Ans (FL ns) starts goals R S.length L al ∧ r = .o (S.length + t) ∧ S' = (((S.set 6 (.fn (NFp q1 (cloP X) d1) c1)).set 7 (.fn (NFt q2 (cloT X) d2) c2)).set 4 (askO y)) ++ L) (fun _ _ => False) := by
  obtain ⟨_, h6⟩ := hls.f1
  obtain ⟨_, h7⟩ := hls.f2
  refine evx_callB (F := fun base => F_wave X.prog X.w X.K X.mg base 1) (q1 := ⟨6, NFp q1 (cloP X) d1, frP, [9, 10, 4], [.o 4, .o 5, .o 1]⟩) (q2 := ⟨7, NFt q2 (cloT X) d2, frT, [9, 10, 5], [.o 4, .o 5, .o 2]⟩) c (fun base => ok_wave T) (Nat.le_refl _) ha rfl ⟨⟨_, h6⟩, fun ok => Caps.made ok (by rw [hsc]; exact hfreeP) hfrP hN1, List.all_eq_true.mp hfn1, sub_fr nsc_price, hG1⟩ ⟨⟨_, h7⟩, fun ok => Caps.made ok (by rw [hsc]; exact hfreeT) hfrT hN2, List.all_eq_true.mp hfn2, sub_fr nsc_through, hG2⟩ (by show (6 : Nat) ≠ 7; decide) ?_ hg (by decide) he hpl
  intro base vs1 vs2 C1 C2 h1 h2 QR QE k1 _
  obtain ⟨wok, weq⟩ := hls.wv C1 C2 h1 h2
  have hlen : ((S.set 6 (.fn (NFp q1 (cloP X) d1) (vs1.zip [.o 4, .o 5, .o 1]))).set 7 (.fn (NFt q2 (cloT X) d2) (vs2.zip [.o 4, .o 5, .o 2]))).length = S.length := by rw [List.length_set, List.length_set]
  refine ⟨Nat, _, x, starts, goals, wok, rfl, weq, hs1, by omega, by omega, hx, fun y R L t al a1 a2 a3 a4 a5 => k1 _ _ ⟨y, R, L, t, al, _, _, a1, a2, a3, a4, ?_, ?_, rfl⟩⟩
  · rw [← hlen]; exact a5
  · rw [← hlen]; rfl
end
section
variable {P : Program} {w : World} {K : PySem.W.Frag} {mg : Str → Option Value} {base : Heap}
abbrev xOf {X : Cx} {W : WX} {k : Nat} (_ : Cxo X W k) : Cx := X
theorem wss_eq {X : Cx} {W : WX} {st : List Stmt} {G : Gam} {S S' : Sto} {P : Post} (e : S = S') (h : WSs X W st G S' P) : WSs X W st G S P := by
  subst e
  exact h
theorem LS.set {ns : List Int} {F1 F2 : NF} {S : Sto} {x i : Nat} {u : Own} (h : LS ns F1 F2 S x) (hi : 8 ≤ i) : LS ns F1 F2 (S.set i u) x := by
  have old : ∀ {j : Nat} {w : Own}, j < 8 → S[j]? = some w → (S.set i u)[j]? = some w := fun {j w} hj e => by rw [List.getElem?_set_ne (by omega)]; exact e
  obtain ⟨c1, h6⟩ := h.f1
  obtain ⟨c2, h7⟩ := h.f2
  exact ⟨old (by decide) h.pr, old (by decide) h.ch, old (by decide) h.fl, old (by decide) h.ask, old (by decide) h.spots, ⟨c1, old (by decide) h6⟩, ⟨c2, old (by decide) h7⟩⟩
theorem LS.app {ns : List Int} {F1 F2 : NF} {S L : Sto} {x : Nat} (h : LS ns F1 F2 S x) : LS ns F1 F2 (S ++ L) x := by
  have old : ∀ {j : Nat} {w : Own}, S[j]? = some w → (S ++ L)[j]? = some w := fun {j w} e => by
    rw [List.getElem?_append_left (List.getElem?_eq_some_iff.mp e).1]; exact e
  obtain ⟨c1, h6⟩ := h.f1
  obtain ⟨c2, h7⟩ := h.f2
  exact ⟨old h.pr, old h.ch, old h.fl, old h.ask, old h.spots, ⟨c1, old h6⟩, ⟨c2, old h7⟩⟩
theorem hd_set {S : Sto} {u w : Own} {i : Nat} (h : ∃ M, S = u :: M) (hi : 0 < i) : ∃ M, S.set i w = u :: M := by
  obtain ⟨M, rfl⟩ := h
  cases i with
  | zero => omega
  | succ i => exact ⟨M.set i w, rfl⟩
theorem hd_app {S L : Sto} {u : Own} (h : ∃ M, S = u :: M) : ∃ M, S ++ L = u :: M := by
  obtain ⟨M, rfl⟩ := h
  exact ⟨M ++ L, rfl⟩
theorem ask_ls {S : Sto} {y : Nat} (h : S[4]? = some (askO y)) : lsOf S (.o 4) = some (List.replicate y (.bool true)) := ls_own (by rw [h]; unfold askO; rw [List.map_replicate])
theorem ask_sh (y : Nat) : SeqAt.shaped (.list (List.replicate y (.bool true))) = true := shaped_list fun d hd => by
  rw [(List.mem_replicate.mp hd).2]
  exact ⟨rfl, Nat.zero_le _⟩
theorem ask_no (y : Nat) : ((List.replicate y (PyData.bool true)).any fun z => PyData.eqv z (.bool false)) = false := List.any_eq_false.mpr fun d hd => by
  rw [(List.mem_replicate.mp hd).2]
  simp [PyData.eqv]
theorem dep_wcs : ∀ l : List WC, PyData.depthAll (l.map wc) ≤ 2
  | [] => Nat.zero_le _
  | a :: l => Nat.max_le.mpr ⟨by unfold wc; simp [PyData.depth, PyData.depthAll], dep_wcs l⟩
theorem hand_lay (l m : List WC) : ∀ d ∈ [PyData.list (l.map wc), .list (m.map wc)], PyData.canLay0 d = true ∧ d.depth ≤ 50 := fun d hd => by
  have one : ∀ l : List WC, PyData.canLay0 (.list (l.map wc)) = true ∧ (PyData.list (l.map wc)).depth ≤ 50 := fun l => ⟨SeqAt.canLay_of_shaped (wcs_shaped l), by
    have := dep_wcs l
    simp only [PyData.depth]
    omega⟩
  simp only [List.mem_cons, List.not_mem_nil, or_false] at hd
  rcases hd with rfl | rfl
  · exact one l
  · exact one m
theorem hand_sh (l m : List WC) : SeqAt.shaped (.tuple [.list (l.map wc), .list (m.map wc)]) = true := shaped_tup (hand_lay l m)
theorem fn_law (T : TT K mg) (B : LamX.TabB base mg (cT K lawD).1 (cT K lawD).2) {fd : FuncData} (Fd : FunD K "law" "law" (defArgs s_law) (defBody s_law) (defScope s_law) [] [] (ga K "law") fd) : FnOk P w K mg base (L2.CX P w) 5 (ga K "law") fd ["_law_script"] (spF K 1 (lawFG K tfL)) := by
  refine fn_wT Fd sc_law lawD rfl fun cdv A outer s H E rs S QR QE hcd c hc hl hF => ?_
  obtain ⟨ns, rfl, rfl, hns, q⟩ := hF
  have hw := wdN_eq ns; have hh := hgN_eq ns; have hly := lyN_eq ns
  have fc := few_cl ns
  refine ss_cons (ws_set 1 c.nd (r := .o 3) (S1 := [.tblN (cT K lawD).2 nmL, .dT (prK wcK (prL ns)), .dT (prK sqK (chL ns)), .tup [.d (szN ns), .d (.list ((clL ns).map wc)), .o 1, .o 2]]) (ev_call c (ok__law_field T) (eva_cons (ev_name 0) eva_nil) (fun QR QE q => ⟨ns, rfl, q⟩)) ?_)
  refine ss_cons (ws_asg (ev_name 1) (evg_tupO c.calm rfl (evgs_cons (evg_name 2 c.nd) (evgs_cons (evg_name 3 c.nd) (evgs_cons (evg_name 4 c.nd) (evgs_cons (evg_name 5 c.nd) evgs_nil))))) ?_)
  refine ss_cons (ws_set 6 c.nd (ev_call c (ok__law_some T) (eva_cons (ev_name 0) (eva_cons ev_int (eva_cons (ev_name 3) eva_nil))) (fun QR QE q => ⟨ns, 4, rfl, by decide, q⟩)) ?_)
  refine ss_cons (ws_set 7 c.nd (ev_call c (ok__law_some T) (eva_cons (ev_name 0) (eva_cons ev_int (eva_cons (ev_name 3) eva_nil))) (fun QR QE q => ⟨ns, 9, rfl, by decide, q⟩)) ?_)
  generalize hst : someL ns 4 = starts
  generalize hgo : someL ns 9 = goals
  have hs1 : ∀ z ∈ starts, (FL ns).has z = true := fun z hz => some_has (hst ▸ hz)
  have hg1 : ∀ z ∈ goals, (FL ns).has z = true := fun z hz => some_has (hgo ▸ hz)
  have hs2 : starts.length ≤ 5 := hst ▸ some_len ns 4
  have hg2 : goals.length ≤ 5 := hgo ▸ some_len ns 9
  refine ss_cons (ws_set 8 c.nd (ev_tup (eva_cons (ev_listF (z_list T) (ev_name 6) rfl) (eva_cons (ev_listF (z_list T) (ev_name 7) rfl) eva_nil))) ?_)
  refine ss_cons (ws_set 9 c.nd (r := .o 4) (S1 := [.tblN (cT K lawD).2 nmL, .dT (prK wcK (prL ns)), .dT (prK sqK (chL ns)), .tup [.d (szN ns), .d (.list ((clL ns).map wc)), .o 1, .o 2], askO 0]) (ev_lstO eva_nil) ?_)
  refine ss_cons (ws_set 10 c.nd (r := .o 5) (S1 := [.tblN (cT K lawD).2 nmL, .dT (prK wcK (prL ns)), .dT (prK sqK (chL ns)), .tup [.d (szN ns), .d (.list ((clL ns).map wc)), .o 1, .o 2], askO 0, .dT []]) ev_dNewT ?_)
  refine ss_cons (ws_for c (evi_list (ds := (clL ns).map wc) (ev_name 3)) (fun i G' S' => (∃ g11, G' = [some (.s ns), some (.o 3), some (.d (szN ns)), some (.d (.list ((clL ns).map wc))), some (.o 1), some (.o 2), some (.d (.list (starts.map wc))), some (.d (.list (goals.map wc))), some (.d (.tuple [.list (starts.map wc), .list (goals.map wc)])), some (.o 4), some (.o 5), g11, none, none, none, none, none, none]) ∧ S' = [.tblN (cT K lawD).2 nmL, .dT (prK wcK (prL ns)), .dT (prK sqK (chL ns)), .tup [.d (szN ns), .d (.list ((clL ns).map wc)), .o 1, .o 2], askO 0, .dT (cmK ((clL ns).take i))]) (fun r G => G.set 11 (some r)) ⟨⟨_, rfl⟩, rfl⟩ (fun _ _ _ _ => trivial) ?_ ?_ ?_)
  · rintro i r G' S' hr ⟨⟨g11, rfl⟩, rfl⟩
    exact evg_name 11 c.nd
  · rintro i r G' S' hr ⟨⟨g11, rfl⟩, rfl⟩
    rw [List.getElem?_map, List.getElem?_map] at hr
    cases hx : (clL ns)[i]? with
    | none => rw [hx] at hr; cases hr
    | some cc =>
      rw [hx] at hr
      cases hr
      have hnew : ∀ b ∈ cmK ((clL ns).take i), b.1 ≠ wcK cc := fun b hb e => by
        obtain ⟨d, hd, rfl⟩ := List.mem_map.mp hb
        have e : d = cc := wcK_inj.mp e
        subst e
        obtain ⟨j, hj⟩ := List.getElem?_of_mem hd
        have hjl := (List.getElem?_eq_some_iff.mp hj).1
        rw [List.length_take] at hjl
        rw [List.getElem?_take_of_lt (by omega)] at hj
        have := (List.getElem?_inj (List.getElem?_eq_some_iff.mp hj).1 (clL_nd ns)).mp (hj.trans hx.symm)
        omega
      refine ss_cons (ws_dputT c ev_bool (ev_name 10) (ev_name 11) rfl (keyD_wc cc) ?_ (ss_nil ⟨⟨_, rfl⟩, ?_⟩))
      · unfold cmK
        rw [List.length_map, List.length_take]
        have := clL_len ns
        omega
      · rw [putI_new hnew, take_at hx]
        unfold cmK
        rw [List.map_append] <;> rfl
  rintro G' S' ⟨⟨g11, rfl⟩, rfl⟩
  rw [show (((clL ns).map wc).map Cu.It.d).length = (clL ns).length by rw [List.length_map, List.length_map], List.take_length]
  refine ss_cons (ws_ndef 12 0 c B hcd rfl rfl hfreeP fun d1 => ?_)
  refine ss_cons (ws_ndef 13 0 c B hcd rfl rfl hfreeT fun d2 => ?_)
  obtain ⟨S, hSe, hls, hSl, hS0⟩ : ∃ S : Sto, [.tblN (cT K lawD).2 nmL, .dT (prK wcK (prL ns)), .dT (prK sqK (chL ns)), .tup [.d (szN ns), .d (.list ((clL ns).map wc)), .o 1, .o 2], askO 0, .dT (cmK (clL ns)), .fn (NFp ((xOf c).env.qual ++ "_law_price") (cloP (xOf c)) d1) [], .fn (NFt ((xOf c).env.qual ++ "_law_through") (cloT (xOf c)) d2) []] = S ∧ LS ns (NFp ((xOf c).env.qual ++ "_law_price") (cloP (xOf c)) d1) (NFt ((xOf c).env.qual ++ "_law_through") (cloT (xOf c)) d2) S 0 ∧ S.length = 8 ∧ ∃ M, S = .tblN (cT K lawD).2 nmL :: M := ⟨_, rfl, ⟨rfl, rfl, rfl, rfl, rfl, ⟨[], rfl⟩, ⟨[], rfl⟩⟩, rfl, _, rfl⟩
  refine wss_eq hSe ?_
  clear hSe
  -- the first wave
  refine ss_cons (ws_setX 14 c.nd (evx_wave (x := 0) (ns := ns) (starts := starts) (goals := goals) c T rfl rfl rfl rfl rfl hls rfl rfl (eva_cons (ev_name 2) (eva_cons (ev_name 12) (eva_cons (ev_name 13) (eva_cons (ev_ixT (ev_name 8) ev_int (atI_nat (k := 0) rfl rfl)) (eva_cons (ev_ixT (ev_name 8) ev_int (atI_nat (k := 1) rfl rfl)) eva_nil))))) hs1 hs2 hg2 (by decide)) ?_ (fun _ _ z => z.elim))
  rintro _ _ ⟨y1, R1, L1, t1, al1, c1, c2, hW1, hy1, hz1, ht1, hA1, rfl, rfl⟩
  have hls1 := hls.keep (y := y1) (c1 := c1) (c2 := c2) L1
  have at1 : ∀ (j : Nat) w, L1[j]? = some w → _ := fun j w h => keep_get (S := S) (a := (.fn (NFp ((xOf c).env.qual ++ "_law_price") (cloP (xOf c)) d1) c1)) (b := (.fn (NFt ((xOf c).env.qual ++ "_law_through") (cloT (xOf c)) d2) c2)) (d := askO y1) h
  have old1 : ∀ (i : Nat) w, S[i]? = some w → 8 ≤ i → _ := fun i w h hi => keep_old (S := S) (L := L1) (a := (.fn (NFp ((xOf c).env.qual ++ "_law_price") (cloP (xOf c)) d1) c1)) (b := (.fn (NFt ((xOf c).env.qual ++ "_law_through") (cloT (xOf c)) d2) c2)) (d := askO y1) h hi
  have hd1 := hd_app (L := L1) (hd_set (i := 4) (w := askO y1) (hd_set (i := 7) (w := (.fn (NFt ((xOf c).env.qual ++ "_law_through") (cloT (xOf c)) d2) c2)) (hd_set (i := 6) (w := (.fn (NFp ((xOf c).env.qual ++ "_law_price") (cloP (xOf c)) d1) c1)) hS0 (by decide)) (by decide)) (by decide))
  have ln1 := keep_len (S := S) (L := L1) (a := (.fn (NFp ((xOf c).env.qual ++ "_law_price") (cloP (xOf c)) d1) c1)) (b := (.fn (NFt ((xOf c).env.qual ++ "_law_through") (cloT (xOf c)) d2) c2)) (d := askO y1)
  generalize ((((S.set 6 (.fn (NFp ((xOf c).env.qual ++ "_law_price") (cloP (xOf c)) d1) c1)).set 7 (.fn (NFt ((xOf c).env.qual ++ "_law_through") (cloT (xOf c)) d2) c2)).set 4 (askO y1)) ++ L1) = S1 at *
  refine ss_cons (ws_if (k1 := false) (S1 := S1) (EvT.is (evt_w (evw_orF (EvT.is (evt_not (c := true) (evt_val (ev_call c (ok__law_told T) (eva_cons (ev_name 1) (eva_cons (ev_name 14) (eva_cons (ev_name 6) (eva_cons (ev_name 7) eva_nil)))) (fun QR QE q => ⟨ns, 3, 1, 2, S.length + t1, S.length + 0, starts, goals, R1, al1, rfl, hls1.fldAt, at1 _ _ ht1, at1 _ _ hz1, by omega, by omega, by omega, by omega, hW1, hA1.inS at1, q⟩)))) rfl) (evw_orF (EvT.is (evt_neD c (x := .tuple [.list (starts.map wc), .list (goals.map wc)]) (y := .tuple [.list (starts.map wc), .list (goals.map wc)]) (ev_name 8) (ev_tup (eva_cons (ev_name 6) (eva_cons (ev_name 7) eva_nil))) (hand_sh _ _) (hand_sh _ _)) (by rw [SeqAt.eqv_refl _ (SeqAt.canLay_of_shaped (hand_sh starts goals))] <;> rfl)) (evw_or1 (EvT.is (evt_inD c ev_bool (ev_name 9) (ask_ls hls1.ask) rfl (ask_sh _)) (ask_no _)))))) rfl) (fun z => nomatch z) (fun _ => ss_nil ?_))
  -- the second wave
  refine ss_cons (ws_setX 15 c.nd (evx_wave (x := y1) (ns := ns) (starts := goals) (goals := starts) c T rfl rfl rfl rfl rfl hls1 rfl rfl (eva_cons (ev_name 2) (eva_cons (ev_name 12) (eva_cons (ev_name 13) (eva_cons (ev_name 7) (eva_cons (ev_name 6) eva_nil))))) hg1 hg2 hs2 (by omega)) ?_ (fun _ _ z => z.elim))
  rintro _ _ ⟨y2, R2, L2, t2, al2, c3, c4, hW2, hy2, hz2, ht2, hA2, rfl, rfl⟩
  have hls2 := hls1.keep (y := y2) (c1 := c3) (c2 := c4) L2
  have at2 : ∀ (j : Nat) w, L2[j]? = some w → _ := fun j w h => keep_get (S := S1) (a := (.fn (NFp ((xOf c).env.qual ++ "_law_price") (cloP (xOf c)) d1) c3)) (b := (.fn (NFt ((xOf c).env.qual ++ "_law_through") (cloT (xOf c)) d2) c4)) (d := askO y2) h
  have old2 : ∀ (i : Nat) w, S1[i]? = some w → 8 ≤ i → _ := fun i w h hi => keep_old (S := S1) (L := L2) (a := (.fn (NFp ((xOf c).env.qual ++ "_law_price") (cloP (xOf c)) d1) c3)) (b := (.fn (NFt ((xOf c).env.qual ++ "_law_through") (cloT (xOf c)) d2) c4)) (d := askO y2) h hi
  have hd2 := hd_app (L := L2) (hd_set (i := 4) (w := askO y2) (hd_set (i := 7) (w := (.fn (NFt ((xOf c).env.qual ++ "_law_through") (cloT (xOf c)) d2) c4)) (hd_set (i := 6) (w := (.fn (NFp ((xOf c).env.qual ++ "_law_price") (cloP (xOf c)) d1) c3)) hd1 (by decide)) (by decide)) (by decide))
  have ln2 := keep_len (S := S1) (L := L2) (a := (.fn (NFp ((xOf c).env.qual ++ "_law_price") (cloP (xOf c)) d1) c3)) (b := (.fn (NFt ((xOf c).env.qual ++ "_law_through") (cloT (xOf c)) d2) c4)) (d := askO y2)
  generalize ((((S1.set 6 (.fn (NFp ((xOf c).env.qual ++ "_law_price") (cloP (xOf c)) d1) c3)).set 7 (.fn (NFt ((xOf c).env.qual ++ "_law_through") (cloT (xOf c)) d2) c4)).set 4 (askO y2)) ++ L2) = S2 at *
  refine ss_cons (ws_if (k1 := false) (S1 := S2) (EvT.is (evt_not (c := true) (evt_val (ev_call c (ok__law_told T) (eva_cons (ev_name 1) (eva_cons (ev_name 15) (eva_cons (ev_name 7) (eva_cons (ev_name 6) eva_nil)))) (fun QR QE q => ⟨ns, 3, 1, 2, S1.length + t2, S1.length + 0, goals, starts, R2, al2, rfl, hls2.fldAt, at2 _ _ ht2, at2 _ _ hz2, by omega, by omega, by omega, by omega, hW2, hA2.inS at2, q⟩)))) rfl) (fun z => nomatch z) (fun _ => ss_nil ?_))
  have hla1 : atI al1 (-1) = some (.o (S.length + 0)) := (hA1.inS at1).last
  have htA := old2 _ _ (at1 _ _ ht1) (by omega)
  have hzA := old2 _ _ (at1 _ _ hz1) (by omega)
  refine ss_cons (ws_set 16 c.nd (ev_dictCopyT c (z_dict T) (ev_ixTO (ev_name 14) (ev_neg ev_int) htA hla1) hzA (fun P w => hash_num (FL_ok ns) hW1 P w)) ?_)
  have app : ∀ {i : Nat} {u : Own}, S2[i]? = some u → (S2 ++ [Own.dT (numK R1)])[i]? = some u := fun e => by
    rw [List.getElem?_append_left (List.getElem?_eq_some_iff.mp e).1]; exact e
  have hS2l : S.length + t1 < S2.length := (List.getElem?_eq_some_iff.mp htA).1
  have hS2z : S.length + 0 < S2.length := (List.getElem?_eq_some_iff.mp hzA).1
  have hnew : (S2 ++ [Own.dT (numK R1)])[S2.length]? = some (.dT (numK R1)) := by rw [List.getElem?_append_right (Nat.le_refl _), Nat.sub_self] <;> rfl
  refine ss_cons (ws_expr (ev_clearT (ev_ixTO (ev_name 14) (ev_neg ev_int) (app htA) hla1) (app hzA)) ?_)
  have hls3 : LS ns _ _ ((S2 ++ [Own.dT (numK R1)]).set (S.length + 0) (.dT [])) y2 := (hls2.app (L := [Own.dT (numK R1)])).set (i := S.length + 0) (u := .dT []) (by omega)
  have hd3 := hd_set (i := S.length + 0) (w := .dT []) (hd_app (L := [Own.dT (numK R1)]) hd2) (by omega)
  have hn3 : ((S2 ++ [Own.dT (numK R1)]).set (S.length + 0) (.dT []))[S2.length]? = some (.dT (numK R1)) := by rw [List.getElem?_set_ne (by omega)]; exact hnew
  have ht3 : t1 ≠ 0 → ((S2 ++ [Own.dT (numK R1)]).set (S.length + 0) (.dT []))[S.length + t1]? = some (.tup al1) := fun hne => by rw [List.getElem?_set_ne (by omega)]; exact app htA
  have ht0 : t1 ≠ 0 := fun z => by rw [z, hz1] at ht1; cases ht1
  have ht3 := ht3 ht0
  have hjs : ∀ (j : Nat) xs, L1[j]? = some (.lst xs) → ((S2 ++ [Own.dT (numK R1)]).set (S.length + 0) (.dT []))[S.length + j]? = some (.lst xs) := fun j xs hj => by
    have hj0 : j ≠ 0 := fun z => by rw [z, hz1] at hj; cases hj
    rw [List.getElem?_set_ne (by omega)]
    exact app (old2 _ _ (at1 _ _ hj) (by omega))
  have ln3 : ((S2 ++ [Own.dT (numK R1)]).set (S.length + 0) (.dT [])).length = S2.length + 1 := by rw [List.length_set, List.length_append] <;> rfl
  generalize (S2 ++ [Own.dT (numK R1)]).set (S.length + 0) (.dT []) = S3 at *
  refine ss_mid (J := fun G1 S4 => G1 = [some (.s ns), some (.o 3), some (.d (szN ns)), some (.d (.list ((clL ns).map wc))), some (.o 1), some (.o 2), some (.d (.list (starts.map wc))), some (.d (.list (goals.map wc))), some (.d (.tuple [.list (starts.map wc), .list (goals.map wc)])), some (.o 4), some (.o 5), g11, some (.o 6), some (.o 7), some (.o (S.length + t1)), some (.o (S1.length + t2)), some (.o S2.length), none] ∧ LS ns (NFp ((xOf c).env.qual ++ "_law_price") (cloP (xOf c)) d1) (NFt ((xOf c).env.qual ++ "_law_through") (cloT (xOf c)) d2) S4 y2 ∧ (∃ M, S4 = .tblN (cT K lawD).2 nmL :: M) ∧ S4[S2.length]? = some (.dT (numK R1))) ?_ ?_
  · cases hA1 with
    | shut hno =>
      exact ws_if (k1 := false) (EvT.is (evt_eqT (x := "shut") (y := "way") (ev_ixTO (ev_name 14) ev_int ht3 rfl) ev_str) (by decide)) (fun z => nomatch z) (fun _ => ss_nil ⟨rfl, hls3, hd3, hn3⟩)
    | way j total way hj hway =>
      refine ws_if (k1 := true) (S1 := S3) (EvT.is (evt_eqT (x := "way") (y := "way") (ev_ixTO (ev_name 14) ev_int ht3 rfl) ev_str) (decide_eq_true rfl)) (fun _ => ?_) (fun z => nomatch z)
      have hjl := (List.getElem?_eq_some_iff.mp (old2 _ _ (at1 _ _ hj) (by omega))).1
      exact ss_cons (ws_expr (ev_clearL (ev_ixTO (ev_name 14) ev_int ht3 rfl) (hjs j _ hj)) (ss_nil ⟨rfl, hls3.set (by omega), hd_set hd3 (by omega), by rw [List.getElem?_set_ne (by omega)]; exact hn3⟩))
  rintro _ S4 ⟨rfl, hls4, hd4, hn4⟩
  have hS4l : S2.length < S4.length := (List.getElem?_eq_some_iff.mp hn4).1
  -- the third wave
  refine ss_cons (ws_setX 17 c.nd (evx_wave (x := y2) (ns := ns) (starts := starts) (goals := goals) c T rfl rfl rfl rfl rfl hls4 rfl rfl (eva_cons (ev_name 2) (eva_cons (ev_name 12) (eva_cons (ev_name 13) (eva_cons (ev_name 6) (eva_cons (ev_name 7) eva_nil))))) hs1 hs2 hg2 (by omega)) ?_ (fun _ _ z => z.elim))
  rintro _ _ ⟨y3, R3, L3, t3, al3, c5, c6, hW3, hy3, hz3, htt3, hA3, rfl, rfl⟩
  have hls5 := hls4.keep (y := y3) (c1 := c5) (c2 := c6) L3
  have at5 : ∀ (j : Nat) w, L3[j]? = some w → _ := fun j w h => keep_get (S := S4) (a := (.fn (NFp ((xOf c).env.qual ++ "_law_price") (cloP (xOf c)) d1) c5)) (b := (.fn (NFt ((xOf c).env.qual ++ "_law_through") (cloT (xOf c)) d2) c6)) (d := askO y3) h
  have old5 : ∀ (i : Nat) w, S4[i]? = some w → 8 ≤ i → _ := fun i w h hi => keep_old (S := S4) (L := L3) (a := (.fn (NFp ((xOf c).env.qual ++ "_law_price") (cloP (xOf c)) d1) c5)) (b := (.fn (NFt ((xOf c).env.qual ++ "_law_through") (cloT (xOf c)) d2) c6)) (d := askO y3) h hi
  have hd5 := hd_app (L := L3) (hd_set (i := 4) (w := askO y3) (hd_set (i := 7) (w := (.fn (NFt ((xOf c).env.qual ++ "_law_through") (cloT (xOf c)) d2) c6)) (hd_set (i := 6) (w := (.fn (NFp ((xOf c).env.qual ++ "_law_price") (cloP (xOf c)) d1) c5)) hd4 (by decide)) (by decide)) (by decide))
  have ln5 := keep_len (S := S4) (L := L3) (a := (.fn (NFp ((xOf c).env.qual ++ "_law_price") (cloP (xOf c)) d1) c5)) (b := (.fn (NFt ((xOf c).env.qual ++ "_law_through") (cloT (xOf c)) d2) c6)) (d := askO y3)
  generalize ((((S4.set 6 (.fn (NFp ((xOf c).env.qual ++ "_law_price") (cloP (xOf c)) d1) c5)).set 7 (.fn (NFt ((xOf c).env.qual ++ "_law_through") (cloT (xOf c)) d2) c6)).set 4 (askO y3)) ++ L3) = S5 at *
  obtain ⟨M6, h6⟩ := hd5
  refine ss_cons (ws_ret (ev_andT (Ev.is (ev_eqDT c (ev_ixTO (ev_name 17) (ev_neg ev_int) (at5 _ _ htt3) (hA3.inS at5).last) (ev_name 16) (at5 _ _ hz3) (old5 _ _ hn4 (by omega)) (wave_vals hW3 hW1)) (by rw [wave_eqI hW3 hW1])) (ev_and1 (ev_call c (ok__law_told T) (eva_cons (ev_name 1) (eva_cons (ev_name 17) (eva_cons (ev_name 6) (eva_cons (ev_name 7) eva_nil)))) (fun QR QE q => ⟨ns, 3, 1, 2, S4.length + t3, S4.length + 0, starts, goals, R3, al3, rfl, hls5.fldAt, at5 _ _ htt3, at5 _ _ hz3, by omega, by omega, by omega, by omega, hW3, hA3.inS at5, q⟩)))) (back_drop M6 hc q (by rw [h6] <;> rfl)))
end
end Pf
namespace Pf
open PySem PySem.Spec PyProof.Rows L2 He Cu
/-! ### the top's run -/
def loose0 : List PySem.Str := ["steps", "spread", "wave", "_law_cell_at", "_law_mixed", "_law_prices", "_law_field", "_law_some", "_law_steps", "_law_numbers", "_law_way", "_law_told"]
def loose : List PySem.Str := loose0
abbrev R : PySem.W.OpenRow := PySem.W.OpenLaw.row PySem.Challenge.rw_copperbook_k61_whole_least_dear
abbrev hk : PySem.W.Hook := hookTb 5 fa fn (tfL.map (·.1))
def ob (s : PySem.W.SharedT) : AlTb := obsTb 5 fa fn (tfL.map (·.1)) (HandSHeadRun.getT s)
theorem ob_eq (s : PySem.W.SharedT) : ob s = hk.obs s.abs := obsTb_eq (HandSHeadRun.getT_eq s)
theorem run (w : World) : HandSHeadRun.RunEq R (PySem.W.view R.prog [14]) hk ob 8000 loose w := by
  intro os
  kernel_rfl
end Pf
open PySem PySem.W PySem.Calls PyProof.Rows
set_option maxHeartbeats 0 in
theorem PySem.Challenge.cw_copperbook_k61_whole_least_dear_holds : PySem.Challenge.rw_copperbook_k61_whole_least_dear.Holds := by
  w_on; o_law
  refine HandSHeadRun.head_any (r := Pf.R) (q := view Pf.R.prog [14]) (H := Pf.hk) (ob := Pf.ob) (M := 8000) (loose := Pf.loose) (d := HandSHeadRun.topDef Pf.R.prog 14) (kwd := []) Pf.ob_eq
    (by kernel_rfl) (fun s => by kernel_rfl) Pf.run (by kernel_rfl) (by kernel_rfl) (by kernel_rfl) (by rfl) (by first | assumption | decide +kernel) (by decide +kernel) ⟨rfl, rfl, rfl, rfl, rfl, by decide +kernel⟩ ?hw ?hc
  case hw => w_witness2
  case hc =>
    exact Cu.walk_wG (tf := Pf.tfL) (l := PySem.Challenge.rw_copperbook_k61_whole_least_dear) (fa := Pf.fa) (fn := Pf.fn) (k := 5) (x := "_law_script") Pf.tfL_ok rfl (by kernel_rfl) ⟨rfl, by decide, by decide⟩ (by kernel_rfl) fun w K mg T => ⟨Pf.g_law T, by
      obtain ⟨fd, Fd⟩ := Pf.d_law T
      exact ⟨fd, fun s u => L2.FunD.bindsA (ps := ["_law_script"]) Fd (fun _ _ _ _ _ _ us hl => match us, hl with | [_], _ => rfl) s [u] rfl, fun base B => Pf.fn_law T (B _ List.mem_cons_self) Fd⟩⟩
