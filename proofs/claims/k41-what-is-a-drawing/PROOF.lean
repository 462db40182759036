import PyProof.Rows.All
import Wide.All
import OpenK.AllK
import Wide.FinOn
import HandS.ForMost
import HandS.ForExc
import HandS.Lambda
import HandS.Nested
import HandS.Defaults
import HandS.Iter
import HandS.IsInst
import HandS.Deep
import HandS.StrMore
import HandS.ExcIs
import HandS.More
import HandS.Head0
import HandS.Head1
import HandS.Head2
import HandS.HeadEnd
import HandS.HeadHook1
import HandS.HeadHook2
import PySem.Challenge.RW_copperbook_k41_what_is_a_drawing
import KE.SortData
import HandS.ForDict
import HandS.Conv
import KE.KDictDisplayH
import KE.KDictSum
import PyProof.Rows.SortShell
import HandS.Rev
import KE.SortKeyHeap
import HandS.SortKw
import HandS.FStr
import HandS.TryOnly
import PyProof.Draws
import PyProof.EnumMake
import KE.GoesMore
import PyProof.LongRange
import HandS.DictTup
import KE.KDictCopyH
import KE.KEqNest
import HandS.ListEq
import HandS.DictEq
import HandS.SetKeys
import HandS.ListItems
import HandS.TupSets
import KE.KDictPairs
import KE.DataFind
import KE.DataCmp
import HandS.Strs
import PyProof.StrOps2
import KE.GoesEnum
import HandS.HeadHook4
import HandS.EndTab
import PyProof.MaxThree
import HandS.HotCalls
import HandS.SetFor
import PyProof.CompUse
import HandS.SuiteRaise
import PyProof.Rows.IntBool
set_option Elab.async false
set_option linter.all false
set_option maxRecDepth 100000
set_option maxHeartbeats 16000000
/-! CuA: states told by data. It: a frozen datum or an owned object (by its number); Own: what an owned object holds; StoreOk: the heap bears the store. -/
namespace Cu
open PySem PySem.Spec PyProof.Rows L2
abbrev Sig := List (Option V)
/-- what a name holds: a datum that never changes, or the n-th owned object, or a plain value -/
inductive It where
  | d (x : PyData)
  | o (n : Nat)
  | r (v : V)
  | s (ns : List Int)
/-- an owned object -/
inductive Own where
  | lst (xs : List It)
  | dT (kvs : List (List Key × It))
  | dK (kvs : List (Key × It))
  | ins (C : Addr) (fs : List (Str × It))
  | tup (xs : List It)
  | lkT (od : Obj) (ps : List (List Key × V)) (kvs : List (List Key × It))
  | lkK (od : Obj) (ps : List (Key × V)) (kvs : List (Key × It))
  | tbl (P : Addr) (q : Str)
  | tblN (P : Addr) (nm : Nat → Nat → Str)
  | fn (F : NdefX.NF) (cap : List (V × It))
  | gone
abbrev Sto := List Own
abbrev Gam := List (Option It)
section
variable (K : PySem.W.Frag) (M : List Addr) (H : Hp)
/-- a tracked node, none of M -/
def NdL (a : Addr) (xs : List V) : Prop := Rd H a (.lst xs) ∧ a ∉ M
def NdT (a : Addr) (xs : List V) : Prop := H a = some (.tup xs) ∧ a ∉ M
/-- the script -/
def NdS (a : Addr) (xs : List V) : Prop := (Rd H a (.lst xs) ∧ a ∉ M) ∨
    ∃ (o : Obj) (its : Array Value) (n : Nat), K.lookup a = some o ∧ o.cls = .type "list" ∧ o.dict = none ∧ o.data = .seq its n ∧ its.size ≤ sizeLine ∧ Vals xs its.toList
mutual
/-- a value is a datum whose objects are none of those at M -/
inductive Fz : V → PyData → Prop
  | non : Fz .non .none
  | bl (b : Bool) : Fz (.bl b) (.bool b)
  | int (i : Int) : Fz (.int i) (.int i)
  | str (x : Str) : Fz (.str x) (.str x)
  | lst {a : Addr} {xs : List V} {ds : List PyData} : NdL M H a xs → FzAll xs ds → Fz (.ref a) (.list ds)
  | tup {a : Addr} {xs : List V} {ds : List PyData} : NdT M H a xs → FzAll xs ds → Fz (.ref a) (.tuple ds)
inductive FzAll : List V → List PyData → Prop
  | nil : FzAll [] []
  | cons {v : V} {vs : List V} {d : PyData} {ds : List PyData} : Fz v d → FzAll vs ds → FzAll (v :: vs) (d :: ds)
end
def VRep (v : V) : It → Prop
  | .d x => Fz M H v x
  | .o n => ∃ a, M[n]? = some a ∧ v = .ref a
  | .r u => v = u
  | .s ns => ∃ a, v = .ref a ∧ NdS K M H a (ns.map V.int)
abbrev VReps : List V → List It → Prop := Paired fun v r => VRep K M H v r
def ORep (a : Addr) : Own → Prop
  | .lst xs => ∃ vs, H a = some (.lst vs) ∧ VReps K M H vs xs
  | .dT kvs => ∃ ps, H a = some (.dT ps) ∧ Paired (fun (p : List Key × V) (q : List Key × It) => p.1 = q.1 ∧ VRep K M H p.2 q.2) ps kvs
  | .dK kvs => ∃ ps, H a = some (.dK ps) ∧ Paired (fun (p : Key × V) (q : Key × It) => p.1 = q.1 ∧ VRep K M H p.2 q.2) ps kvs
  | .ins C fs => ∃ dx ps, H a = some (.ins C dx ps) ∧ Paired (fun (p : Str × V) (q : Str × It) => p.1 = q.1 ∧ VRep K M H p.2 q.2) ps fs
  | .tup xs => ∃ vs, H a = some (.tup vs) ∧ VReps K M H vs xs ∧ ∃ b, V.ref b ∈ vs
  | .lkT od ps kvs => H a = some (.frz od (.dT ps)) ∧ Paired (fun (p : List Key × V) (q : List Key × It) => p.1 = q.1 ∧ VRep K M H p.2 q.2) ps kvs
  | .lkK od ps kvs => H a = some (.frz od (.dK ps)) ∧ Paired (fun (p : Key × V) (q : Key × It) => p.1 = q.1 ∧ VRep K M H p.2 q.2) ps kvs
  | .tbl P q => a = P ∧ ∃ ps : Array Value, H a = some (.tbl ps) ∧ TriplesOk ps.toList ∧ ∀ (pos : Pos) (cv : Value), codeAmong pos ps.toList = some cv → ∃ c, cv = .ref c ∧ H c = some (LamX.CodeO c q) ∧ c ∉ M
  | .tblN P nm => a = P ∧ ∃ ps : Array Value, H a = some (.tbl ps) ∧ TriplesOk ps.toList ∧ ∀ (pos : Pos) (cv : Value), codeAmong pos ps.toList = some cv → ∃ c, cv = .ref c ∧ H c = some (LamX.CodeO c (nm pos.line pos.col)) ∧ c ∉ M
  | .fn F cap => H a = some (NdefX.FnO a F) ∧ H F.c = some (LamX.CodeO F.c F.qual) ∧ F.c ∉ M ∧ VReps K M H (cap.map (·.1)) (cap.map (·.2))
  | .gone => ∃ o, H a = some o ∧ ∀ xs, o ≠ .tup xs
structure StoreOk (S : Sto) : Prop where
  nd : M.Nodup
  len : M.length = S.length
  rep : ∀ (n : Nat) (a : Addr) (w : Own), M[n]? = some a → S[n]? = some w → ORep K M H a w
structure Stt (S : Sto) (G : Gam) (σ : Sig) : Prop where
  sto : StoreOk K M H S
  len : σ.length = G.length
  at_ : ∀ (i : Nat) (r : It), G[i]? = some (some r) → ∃ v, σ[i]? = some (some v) ∧ VRep K M H v r
end
/-- later: more owned objects, what isn't owned stands -/
structure Ext (M : List Addr) (H : Hp) (M' : List Addr) (H' : Hp) : Prop where
  pre : ∃ L, M' = M ++ L
  keep : ∀ b o, b ∉ M → H b = some o → H' b = some o
  new : ∀ b ∈ M', b ∈ M ∨ H b = none
theorem Ext.refl {M : List Addr} {H : Hp} : Ext M H M H := ⟨⟨[], (List.append_nil M).symm⟩, fun _ _ _ h => h, fun _ h => .inl h⟩
theorem Ext.nin {M M' : List Addr} {H H' : Hp} (e : Ext M H M' H') {b : Addr} {o : HO} (h : b ∉ M) (hb : H b = some o) : b ∉ M' := fun hm => by
  rcases e.new b hm with q | q
  · exact h q
  · rw [hb] at q; cases q
theorem Ext.trans {M M1 M2 : List Addr} {H H1 H2 : Hp} (a : Ext M H M1 H1) (b : Ext M1 H1 M2 H2) : Ext M H M2 H2 := by
  refine ⟨?_, fun c o hc h => b.keep c o (a.nin hc h) (a.keep c o hc h), fun c hc => ?_⟩
  · obtain ⟨L1, e1⟩ := a.pre
    obtain ⟨L2, e2⟩ := b.pre
    exact ⟨L1 ++ L2, by rw [e2, e1, List.append_assoc]⟩
  · rcases b.new c hc with q | q
    · exact a.new c q
    · by_cases hm : c ∈ M
      · exact .inl hm
      · cases e : H c with
        | none => exact .inr rfl
        | some o =>
          rw [a.keep c o hm e] at q
          cases q
theorem Ext.get {M M' : List Addr} {H H' : Hp} (e : Ext M H M' H') {n : Nat} {a : Addr} (h : M[n]? = some a) : M'[n]? = some a := by
  obtain ⟨L, rfl⟩ := e.pre
  obtain ⟨hl, h2⟩ := List.getElem?_eq_some_iff.mp h
  rw [List.getElem?_append_left hl]
  exact h
theorem Ext.rd {M M' : List Addr} {H H' : Hp} (e : Ext M H M' H') {a : Addr} {u : HO} (h : Rd H a u ∧ a ∉ M) : Rd H' a u ∧ a ∉ M' := by
  obtain ⟨h, n⟩ := h
  rcases h with h | ⟨o, h⟩
  · exact ⟨.inl (e.keep a _ n h), e.nin n h⟩
  · exact ⟨.inr ⟨o, e.keep a _ n h⟩, e.nin n h⟩
/-- a new object, not owned -/
theorem Ext.fresh {M : List Addr} {H : Hp} {p : Addr} {o : HO} (h : H p = none) : Ext M H M (upd H p o) :=
  ⟨⟨[], (List.append_nil M).symm⟩, fun b u _ hb => by rw [upd_ne (ne_of_none hb h)]; exact hb, fun _ hm => .inl hm⟩
/-- a new object, owned -/
theorem Ext.own {M : List Addr} {H : Hp} {p : Addr} {o : HO} (h : H p = none) : Ext M H (M ++ [p]) (upd H p o) :=
  ⟨⟨[p], rfl⟩, fun b u _ hb => by rw [upd_ne (ne_of_none hb h)]; exact hb, fun b hm => by
    rcases List.mem_append.mp hm with q | q
    · exact .inl q
    · rw [List.mem_singleton.mp q]; exact .inr h⟩
/-- an owned object is changed -/
theorem Ext.put {M : List Addr} {H : Hp} {a : Addr} {o : HO} (h : a ∈ M) : Ext M H M (upd H a o) :=
  ⟨⟨[], (List.append_nil M).symm⟩, fun b u hb e => by
    rw [upd_ne (show b ≠ a from fun z => hb (by rw [z]; exact h))]
    exact e, fun _ hm => .inl hm⟩
section
variable {K : PySem.W.Frag} {M M' M1 M2 : List Addr} {H H' H1 H2 : Hp}
theorem NdL.sq {a : Addr} {xs : List V} (h : NdL M H a xs) : SqL K H a xs := .inl h.1
theorem NdT.sq {a : Addr} {xs : List V} (h : NdT M H a xs) : SqT K H a xs := .inl (.inl h.1)
theorem NdL.ext {a : Addr} {xs : List V} (e : Ext M H M' H') (h : NdL M H a xs) : NdL M' H' a xs := e.rd h
theorem NdT.ext {a : Addr} {xs : List V} (e : Ext M H M' H') (h : NdT M H a xs) : NdT M' H' a xs := ⟨e.keep a _ h.2 h.1, e.nin h.2 h.1⟩
theorem NdS.sq {a : Addr} {xs : List V} (h : NdS K M H a xs) : SqL K H a xs := h.elim (fun h => .inl h.1) .inr
theorem NdS.ext {a : Addr} {xs : List V} (e : Ext M H M' H') (h : NdS K M H a xs) : NdS K M' H' a xs := h.elim (fun h => .inl (e.rd h)) .inr
theorem NdS.less (e : ∀ a ∈ M', a ∈ M) {a : Addr} {xs : List V} (h : NdS K M H a xs) : NdS K M' H a xs := h.elim (fun h => .inl ⟨h.1, fun z => h.2 (e _ z)⟩) .inr
mutual
theorem Fz.ext (e : Ext M H M' H') : ∀ {x : PyData} {v : V}, Fz M H v x → Fz M' H' v x
  | .none, _, h => by cases h; exact .non
  | .bool _, _, h => by cases h; exact .bl _
  | .int _, _, h => by cases h; exact .int _
  | .str _, _, h => by cases h; exact .str _
  | .list ds, _, h => by
    cases h with
    | lst h1 h2 => exact .lst (h1.ext e) (FzAll.ext e h2)
  | .tuple ds, _, h => by
    cases h with
    | tup h1 h2 => exact .tup (h1.ext e) (FzAll.ext e h2)
  | .dict _, _, h => by cases h
theorem FzAll.ext (e : Ext M H M' H') : ∀ {xs : List PyData} {vs : List V}, FzAll M H vs xs → FzAll M' H' vs xs
  | [], _, h => by cases h; exact .nil
  | _ :: _, _, h => by
    cases h with
    | cons h1 h2 => exact .cons (Fz.ext e h1) (FzAll.ext e h2)
end
mutual
/-- fewer objects are owned -/
theorem Fz.less (e : ∀ a ∈ M', a ∈ M) : ∀ {x : PyData} {v : V}, Fz M H v x → Fz M' H v x
  | .none, _, h => by cases h; exact .non
  | .bool _, _, h => by cases h; exact .bl _
  | .int _, _, h => by cases h; exact .int _
  | .str _, _, h => by cases h; exact .str _
  | .list ds, _, h => by
    cases h with
    | lst h1 h2 => exact .lst ⟨h1.1, fun z => h1.2 (e _ z)⟩ (FzAll.less e h2)
  | .tuple ds, _, h => by
    cases h with
    | tup h1 h2 => exact .tup ⟨h1.1, fun z => h1.2 (e _ z)⟩ (FzAll.less e h2)
  | .dict _, _, h => by cases h
theorem FzAll.less (e : ∀ a ∈ M', a ∈ M) : ∀ {xs : List PyData} {vs : List V}, FzAll M H vs xs → FzAll M' H vs xs
  | [], _, h => by cases h; exact .nil
  | _ :: _, _, h => by
    cases h with
    | cons h1 h2 => exact .cons (Fz.less e h1) (FzAll.less e h2)
end
mutual
theorem Fz.dp : ∀ {x : PyData} {v : V}, Fz M H v x → Dp K H v x
  | .none, _, h => by cases h; exact .non
  | .bool _, _, h => by cases h; exact .bl _
  | .int _, _, h => by cases h; exact .int _
  | .str _, _, h => by cases h; exact .str _
  | .list ds, _, h => by
    cases h with
    | lst h1 h2 => exact .lst h1.sq (FzAll.dp h2)
  | .tuple ds, _, h => by
    cases h with
    | tup h1 h2 => exact .tup h1.sq (FzAll.dp h2)
  | .dict _, _, h => by cases h
theorem FzAll.dp : ∀ {xs : List PyData} {vs : List V}, FzAll M H vs xs → DpAll K H vs xs
  | [], _, h => by cases h; exact .nil
  | _ :: _, _, h => by
    cases h with
    | cons h1 h2 => exact .cons (Fz.dp h1) (FzAll.dp h2)
end
theorem VRep.ext (e : Ext M H M' H') {v : V} : ∀ {r : It}, VRep K M H v r → VRep K M' H' v r
  | .d _, h => Fz.ext e h
  | .o _, ⟨a, h1, h2⟩ => ⟨a, e.get h1, h2⟩
  | .r _, h => h
  | .s _, ⟨a, h1, h2⟩ => ⟨a, h1, h2.ext e⟩
theorem VReps.ext (e : Ext M H M' H') {vs : List V} {rs : List It} (h : VReps K M H vs rs) : VReps K M' H' vs rs := Paired.mapP h fun _ _ q => VRep.ext e q
theorem StoreOk.live {S : Sto} (h : StoreOk K M H S) {a : Addr} (hm : a ∈ M) : ∃ o, H a = some o := by
  obtain ⟨n, hn⟩ := List.getElem?_of_mem hm
  obtain ⟨hl, _⟩ := List.getElem?_eq_some_iff.mp hn
  have hl' : n < S.length := by rw [← h.len]; exact hl
  have q := h.rep n a S[n] hn (List.getElem?_eq_getElem hl')
  revert q
  cases S[n] with
  | lst xs => exact fun ⟨vs, e, _⟩ => ⟨_, e⟩
  | dT xs => exact fun ⟨vs, e, _⟩ => ⟨_, e⟩
  | dK xs => exact fun ⟨vs, e, _⟩ => ⟨_, e⟩
  | ins C fs => exact fun ⟨dx, ps, e, _⟩ => ⟨_, e⟩
  | tup xs => exact fun ⟨vs, e, _⟩ => ⟨_, e⟩
  | lkT od ps kvs => exact fun ⟨e, _⟩ => ⟨_, e⟩
  | lkK od ps kvs => exact fun ⟨e, _⟩ => ⟨_, e⟩
  | tbl P q => exact fun ⟨_, ps, e, _⟩ => ⟨_, e⟩
  | tblN P nm => exact fun ⟨_, ps, e, _⟩ => ⟨_, e⟩
  | fn F cap => exact fun ⟨e, _⟩ => ⟨_, e⟩
  | gone => exact fun ⟨o, e, _⟩ => ⟨o, e⟩
theorem StoreOk.nin {S : Sto} (h : StoreOk K M H S) {p : Addr} (hp : H p = none) : p ∉ M := fun hm => by
  obtain ⟨o, e⟩ := h.live hm
  rw [hp] at e; cases e
theorem StoreOk.addr {S : Sto} (h : StoreOk K M H S) {n : Nat} {w : Own} (hs : S[n]? = some w) : ∃ a, M[n]? = some a ∧ ORep K M H a w := by
  obtain ⟨hl, _⟩ := List.getElem?_eq_some_iff.mp hs
  have hm : M[n]? = some (M[n]'(by rw [h.len]; exact hl)) := List.getElem?_eq_getElem _
  exact ⟨_, hm, h.rep n _ w hm hs⟩
/-- an object that stands where it stood keeps what it bears -/
theorem ORep.ext (e : Ext M H M' H') {a : Addr} (k : H' a = H a) : ∀ {w : Own}, ORep K M H a w → ORep K M' H' a w
  | .lst _, ⟨vs, h1, h2⟩ => ⟨vs, k.trans h1, h2.ext e⟩
  | .dT _, ⟨ps, h1, h2⟩ => ⟨ps, k.trans h1, Paired.mapP h2 fun _ _ q => ⟨q.1, q.2.ext e⟩⟩
  | .dK _, ⟨ps, h1, h2⟩ => ⟨ps, k.trans h1, Paired.mapP h2 fun _ _ q => ⟨q.1, q.2.ext e⟩⟩
  | .ins _ _, ⟨dx, ps, h1, h2⟩ => ⟨dx, ps, k.trans h1, Paired.mapP h2 fun _ _ q => ⟨q.1, q.2.ext e⟩⟩
  | .tup _, ⟨vs, h1, h2, h3⟩ => ⟨vs, k.trans h1, h2.ext e, h3⟩
  | .lkT _ _ _, ⟨h1, h2⟩ => ⟨k.trans h1, Paired.mapP h2 fun _ _ q => ⟨q.1, q.2.ext e⟩⟩
  | .lkK _ _ _, ⟨h1, h2⟩ => ⟨k.trans h1, Paired.mapP h2 fun _ _ q => ⟨q.1, q.2.ext e⟩⟩
  | .tbl _ _, ⟨h0, ps, h1, h2, h3⟩ => ⟨h0, ps, k.trans h1, h2, fun pos cv hc => let ⟨c, x1, x2, x3⟩ := h3 pos cv hc; ⟨c, x1, e.keep c _ x3 x2, e.nin x3 x2⟩⟩
  | .tblN _ _, ⟨h0, ps, h1, h2, h3⟩ => ⟨h0, ps, k.trans h1, h2, fun pos cv hc => let ⟨c, x1, x2, x3⟩ := h3 pos cv hc; ⟨c, x1, e.keep c _ x3 x2, e.nin x3 x2⟩⟩
  | .fn _ _, ⟨h1, h2, h3, h4⟩ => ⟨k.trans h1, e.keep _ _ h3 h2, e.nin h3 h2, h4.ext e⟩
  | .gone, ⟨o, h1, h2⟩ => ⟨o, k.trans h1, h2⟩
/-- all owned objects stand as they stood -/
theorem StoreOk.same {S : Sto} (h : StoreOk K M H S) (e : Ext M H M H') (k : ∀ a ∈ M, H' a = H a) : StoreOk K M H' S :=
  ⟨h.nd, h.len, fun n a w h1 h2 => (h.rep n a w h1 h2).ext e (k a (List.mem_of_getElem? h1))⟩
theorem StoreOk.fresh {S : Sto} (h : StoreOk K M H S) {p : Addr} {o : HO} (hp : H p = none) : StoreOk K M (upd H p o) S :=
  h.same (Ext.fresh hp) fun a ha => upd_ne fun z => h.nin hp (z ▸ ha)
theorem Stt.fresh {S : Sto} {G : Gam} {σ : Sig} (h : Stt K M H S G σ) {p : Addr} {o : HO} (hp : H p = none) : Stt K M (upd H p o) S G σ :=
  ⟨h.sto.fresh hp, h.len, fun i r e => let ⟨v, h1, h2⟩ := h.at_ i r e; ⟨v, h1, h2.ext (Ext.fresh hp)⟩⟩
/-- one more owned object -/
theorem StoreOk.own {S : Sto} (h : StoreOk K M H S) {p : Addr} {o : HO} {w : Own} (hp : H p = none) (hw : ORep K (M ++ [p]) (upd H p o) p w) : StoreOk K (M ++ [p]) (upd H p o) (S ++ [w]) := by
  refine ⟨?_, by simp [h.len], fun n a u h1 h2 => ?_⟩
  · rw [List.nodup_append]
    refine ⟨h.nd, List.nodup_cons.mpr ⟨by simp, List.nodup_nil⟩, fun a ha b hb => ?_⟩
    rw [List.mem_singleton.mp hb]
    exact fun z => h.nin hp (z ▸ ha)
  · by_cases hn : n < M.length
    · rw [List.getElem?_append_left hn] at h1
      rw [List.getElem?_append_left (by rw [← h.len]; exact hn)] at h2
      exact (h.rep n a u h1 h2).ext (Ext.own hp) (upd_ne fun z => h.nin hp (z ▸ List.mem_of_getElem? h1))
    · have hn' : M.length ≤ n := Nat.le_of_not_lt hn
      rw [List.getElem?_append_right hn'] at h1
      rw [List.getElem?_append_right (by rw [← h.len]; exact hn')] at h2
      have e0 : n - M.length = 0 := by
        cases q : n - M.length with
        | zero => rfl
        | succ j => rw [q] at h1; simp at h1
      rw [e0] at h1
      rw [show n - S.length = 0 by rw [← h.len]; exact e0] at h2
      cases h1; cases h2
      exact hw
/-- an owned object is changed -/
theorem StoreOk.put {S : Sto} (h : StoreOk K M H S) {n : Nat} {a : Addr} {o : HO} {w : Own} (hn : M[n]? = some a) (hw : ORep K M (upd H a o) a w) : StoreOk K M (upd H a o) (S.set n w) := by
  refine ⟨h.nd, by rw [List.length_set]; exact h.len, fun m b u h1 h2 => ?_⟩
  by_cases e : m = n
  · subst e
    rw [hn] at h1; cases h1
    obtain ⟨hl, _⟩ := List.getElem?_eq_some_iff.mp hn
    rw [List.getElem?_set_self (by rw [← h.len]; exact hl)] at h2
    cases h2
    exact hw
  · rw [List.getElem?_set_ne (Ne.symm e)] at h2
    have hb : b ≠ a := fun z => e (by
      subst z
      obtain ⟨l1, q1⟩ := List.getElem?_eq_some_iff.mp h1
      obtain ⟨l2, q2⟩ := List.getElem?_eq_some_iff.mp hn
      exact (List.getElem_inj h.nd).mp (q1.trans q2.symm))
    exact (h.rep m b u h1 h2).ext (Ext.put (List.mem_of_getElem? hn)) (upd_ne hb)
theorem Stt.mono {S : Sto} {G : Gam} {σ : Sig} (h : Stt K M H S G σ) {S' : Sto} (e : Ext M H M' H') (s : StoreOk K M' H' S') : Stt K M' H' S' G σ :=
  ⟨s, h.len, fun i r q => let ⟨v, h1, h2⟩ := h.at_ i r q; ⟨v, h1, h2.ext e⟩⟩
/-- a slot is stored -/
theorem Stt.set {S : Sto} {G : Gam} {σ : Sig} (h : Stt K M H S G σ) {i : Nat} {v : V} {r : It} (hv : VRep K M H v r) : Stt K M H S (G.set i (some r)) (σ.set i (some v)) := by
  refine ⟨h.sto, by rw [List.length_set, List.length_set]; exact h.len, fun j u e => ?_⟩
  by_cases q : i = j
  · subst q
    by_cases hl : i < G.length
    · rw [List.getElem?_set_self hl] at e
      cases e
      exact ⟨v, List.getElem?_set_self (by rw [h.len]; exact hl), hv⟩
    · rw [List.getElem?_eq_none (by rw [List.length_set]; omega)] at e
      cases e
  · rw [List.getElem?_set_ne q] at e
    obtain ⟨w, h1, h2⟩ := h.at_ j u e
    exact ⟨w, by rw [List.getElem?_set_ne q]; exact h1, h2⟩
/-- a slot is forgotten -/
theorem Stt.forget {S : Sto} {G : Gam} {σ : Sig} (h : Stt K M H S G σ) (i : Nat) : Stt K M H S (G.set i none) σ := by
  refine ⟨h.sto, by rw [List.length_set]; exact h.len, fun j u e => ?_⟩
  by_cases q : i = j
  · subst q
    by_cases hl : i < G.length
    · rw [List.getElem?_set_self hl] at e
      cases e
    · rw [List.getElem?_eq_none (by rw [List.length_set]; omega)] at e
      cases e
  · rw [List.getElem?_set_ne q] at e
    exact h.at_ j u e
theorem Stt.wipe {S : Sto} : ∀ {G : Gam} {σ : Sig} (is : List Nat), Stt K M H S G σ → Stt K M H S (is.foldr (fun i g => g.set i none) G) (L2.wipe σ is)
  | G, σ, [], h => h
  | G, σ, i :: is, h => by
    have ih := Stt.wipe is h
    refine ⟨ih.sto, ?_, fun j u e => ?_⟩
    · show ((L2.wipe σ is).set i none).length = ((is.foldr (fun i g => g.set i none) G).set i none).length
      rw [List.length_set, List.length_set]; exact ih.len
    · have e' : ((is.foldr (fun i g => g.set i none) G).set i none)[j]? = some (some u) := e
      by_cases q : i = j
      · subst q
        by_cases hl : i < (is.foldr (fun i g => g.set i none) G).length
        · rw [List.getElem?_set_self hl] at e'
          cases e'
        · rw [List.getElem?_eq_none (by rw [List.length_set]; omega)] at e'
          cases e'
      · rw [List.getElem?_set_ne q] at e'
        obtain ⟨v, h1, h2⟩ := ih.at_ j u e'
        refine ⟨v, ?_, h2⟩
        show ((L2.wipe σ is).set i none)[j]? = _
        rw [List.getElem?_set_ne q]
        exact h1
end
end Cu
/-! CuB: the judgements over states told by data, and the rules of the base. -/
namespace Cu
open PySem PySem.Spec PyProof.Rows L2
/-! ### what a piece of code does, by its own meaning -/
def sE (X : Cx) (e : Expr) : TE := fun σ H Q => ∀ (pins : List (Addr × Obj)) (s : Shared), Inv X pins σ H s → wpAny (model X.prog X.w) X.A (eval e X.env) (EP X pins σ Q) X.xe s
def sT (X : Cx) (e : Expr) : TT := fun σ H Q => ∀ (pins : List (Addr × Obj)) (s : Shared), Inv X pins σ H s → wpAny (model X.prog X.w) X.A (isTrue e X.env (eval e X.env)) (TP X pins σ Q) X.xe s
def sW (X : Cx) (e : Expr) : TT := fun σ H Q => ∀ (whole : Sem Value) (pins : List (Addr × Obj)) (s : Shared), Inv X pins σ H s → wpAny (model X.prog X.w) X.A (isTrue e X.env whole) (TP X pins σ Q) X.xe s
def sA (X : Cx) (es : List Expr) : TA := fun σ H Q => ∀ (pos : Pos) (pins : List (Addr × Obj)) (s : Shared), Inv X pins σ H s → wpAny (model X.prog X.w) X.A (spliced (backTo pos (starEach es X.env))) (AP X pins σ Q) X.xe s
def sS (X : Cx) (st : Stmt) : TS := fun D σ H => ∀ (pins : List (Addr × Obj)) (s : Shared), Inv X pins σ H s → wpAny (model X.prog X.w) X.A (exec st X.env) (SP X pins D) X.xe s
def sSs (X : Cx) (st : List Stmt) : TS := fun D σ H => ∀ (pins : List (Addr × Obj)) (s : Shared), Inv X pins σ H s → wpAny (model X.prog X.w) X.A (execs st X.env) (SP X pins D) X.xe s
def sG (X : Cx) (tg : Expr) : TG := fun v σ H Q => ∀ (pins : List (Addr × Obj)) (s : Shared) (u : Value), Inv X pins σ H s → RelV v u → wpAny (model X.prog X.w) X.A (assign tg X.env u) (fun _ s' => ∃ σ' H', Inv X pins σ' H' s' ∧ Q σ' H') X.xe s
def sGs (X : Cx) (ts : List Expr) : TGs := fun vs σ H Q => ∀ (pins : List (Addr × Obj)) (s : Shared) (us : List Value), Inv X pins σ H s → Vals vs us → wpAny (model X.prog X.w) X.A (assignInOrder ((assignEach ts X.env).map (·.2)) us) (fun _ s' => ∃ σ' H', Inv X pins σ' H' s' ∧ Q σ' H') X.xe s
section
variable {X : Cx}
theorem pe_s {e : Expr} : PE X e (sE X e) := ⟨fun pins s _ _ _ I h => h pins s I⟩
theorem pt_s {e : Expr} : PT X e (sT X e) := ⟨fun pins s _ _ _ I h => h pins s I⟩
theorem pw_s {e : Expr} : PW X e (sW X e) := ⟨fun w pins s _ _ _ I h => h w pins s I⟩
theorem pa_s {es : List Expr} : PA X es (sA X es) := ⟨fun pos pins s _ _ _ I h => h pos pins s I⟩
theorem ps_s {st : Stmt} : PS X st (sS X st) := ⟨fun pins s _ _ _ I h => h pins s I⟩
theorem pss_s {st : List Stmt} : PSs X st (sSs X st) := ⟨fun pins s _ _ _ I h => h pins s I⟩
theorem pg_s {e : Expr} : PG X e (sG X e) := ⟨fun pins s _ _ _ u _ I r h => h pins s u I r⟩
theorem pgs_s {es : List Expr} : PGs X es (sGs X es) := ⟨fun pins s _ _ _ us _ I r h => h pins s us I r⟩
theorem toE {e : Expr} {t : TE} (h : PE X e t) {σ : Sig} {H : Hp} {Q : VK} (q : t σ H Q) : sE X e σ H Q := fun pins s I => h.run pins s σ H Q I q
theorem toT {e : Expr} {t : TT} (h : PT X e t) {σ : Sig} {H : Hp} {Q : Bool → Hp → Prop} (q : t σ H Q) : sT X e σ H Q := fun pins s I => h.run pins s σ H Q I q
theorem toW {e : Expr} {t : TT} (h : PW X e t) {σ : Sig} {H : Hp} {Q : Bool → Hp → Prop} (q : t σ H Q) : sW X e σ H Q := fun w pins s I => h.run w pins s σ H Q I q
theorem toA {es : List Expr} {t : TA} (h : PA X es t) {σ : Sig} {H : Hp} {Q : List V → Hp → Prop} (q : t σ H Q) : sA X es σ H Q := fun pos pins s I => h.run pos pins s σ H Q I q
theorem toS {st : Stmt} {t : TS} (h : PS X st t) {D : Ends} {σ : Sig} {H : Hp} (q : t D σ H) : sS X st D σ H := fun pins s I => h.run pins s σ H D I q
theorem toSs {st : List Stmt} {t : TS} (h : PSs X st t) {D : Ends} {σ : Sig} {H : Hp} (q : t D σ H) : sSs X st D σ H := fun pins s I => h.run pins s σ H D I q
theorem toG {e : Expr} {t : TG} (h : PG X e t) {v : V} {σ : Sig} {H : Hp} {Q : Sig → Hp → Prop} (q : t v σ H Q) : sG X e v σ H Q := fun pins s u I r => h.run pins s σ H v u Q I r q
theorem toGs {es : List Expr} {t : TGs} (h : PGs X es t) {vs : List V} {σ : Sig} {H : Hp} {Q : Sig → Hp → Prop} (q : t vs σ H Q) : sGs X es vs σ H Q := fun pins s us I r => h.run pins s σ H vs us Q I r q
end
/-- what stands around a piece of code: nothing is being handled, W is what is wanted of an error, k levels of room -/
structure Cxo (X : Cx) (W : WX) (k : Nat) : Prop where
  calm : X.calm = true
  nd : X.N.Nodup
  tk : Takes X W
  po : PassesOwn (model X.prog X.w) X.A X.env X.xe
  hr : Room k X.A
theorem Cxo.less {X : Cx} {W : WX} {k j : Nat} (c : Cxo X W k) (h : j ≤ k) : Cxo X W j := ⟨c.calm, c.nd, c.tk, c.po, c.hr.mono h⟩
/-- e gives r and leaves the store S' -/
def Ev (X : Cx) (e : Expr) (G : Gam) (S : Sto) (r : It) (S' : Sto) : Prop := ∀ (M : List Addr) (σ : Sig) (H : Hp) (Q : VK), Stt X.K M H S G σ →
  (∀ v M' H', Ext M H M' H' → Stt X.K M' H' S' G σ → VRep X.K M' H' v r → Q v H') → sE X e σ H Q
def EvT (X : Cx) (e : Expr) (G : Gam) (S : Sto) (b : Bool) (S' : Sto) : Prop := ∀ (M : List Addr) (σ : Sig) (H : Hp) (Q : Bool → Hp → Prop), Stt X.K M H S G σ →
  (∀ M' H', Ext M H M' H' → Stt X.K M' H' S' G σ → Q b H') → sT X e σ H Q
def EvW (X : Cx) (e : Expr) (G : Gam) (S : Sto) (b : Bool) (S' : Sto) : Prop := ∀ (M : List Addr) (σ : Sig) (H : Hp) (Q : Bool → Hp → Prop), Stt X.K M H S G σ →
  (∀ M' H', Ext M H M' H' → Stt X.K M' H' S' G σ → Q b H') → sW X e σ H Q
def EvA (X : Cx) (es : List Expr) (G : Gam) (S : Sto) (rs : List It) (S' : Sto) : Prop := ∀ (M : List Addr) (σ : Sig) (H : Hp) (Q : List V → Hp → Prop), Stt X.K M H S G σ →
  (∀ vs M' H', Ext M H M' H' → Stt X.K M' H' S' G σ → VReps X.K M' H' vs rs → Q vs H') → sA X es σ H Q
/-- the target takes r -/
def EvG (X : Cx) (tg : Expr) (r : It) (G : Gam) (S : Sto) (G' : Gam) (S' : Sto) : Prop := ∀ (M : List Addr) (σ : Sig) (H : Hp) (v : V) (Q : Sig → Hp → Prop), Stt X.K M H S G σ → VRep X.K M H v r →
  (∀ σ' M' H', Ext M H M' H' → Stt X.K M' H' S' G' σ' → Q σ' H') → sG X tg v σ H Q
def EvGs (X : Cx) (ts : List Expr) (rs : List It) (G : Gam) (S : Sto) (G' : Gam) (S' : Sto) : Prop := ∀ (M : List Addr) (σ : Sig) (H : Hp) (vs : List V) (Q : Sig → Hp → Prop), Stt X.K M H S G σ → VReps X.K M H vs rs →
  (∀ σ' M' H', Ext M H M' H' → Stt X.K M' H' S' G' σ' → Q σ' H') → sGs X ts vs σ H Q
/-- what is wanted behind a statement -/
structure Post where
  nx : Gam → Sto → Prop
  rt : It → Sto → Prop := fun _ _ => False
  bk : Gam → Sto → Prop := fun _ _ => False
  ct : Gam → Sto → Prop := fun _ _ => False
  xc : Addr → Gam → Sto → Prop := fun _ _ _ => False
structure Meets (K : PySem.W.Frag) (W : WX) (M : List Addr) (H : Hp) (P : Post) (D : Ends) : Prop where
  nx : ∀ (M' : List Addr) (σ' : Sig) (H' : Hp) (G' : Gam) (S' : Sto), Ext M H M' H' → Stt K M' H' S' G' σ' → P.nx G' S' → D.nx σ' H'
  rt : ∀ (v : V) (M' : List Addr) (H' : Hp) (r : It) (S' : Sto), Ext M H M' H' → StoreOk K M' H' S' → VRep K M' H' v r → P.rt r S' → D.rt v H'
  bk : ∀ (M' : List Addr) (σ' : Sig) (H' : Hp) (G' : Gam) (S' : Sto), Ext M H M' H' → Stt K M' H' S' G' σ' → P.bk G' S' → D.bk σ' H'
  ct : ∀ (M' : List Addr) (σ' : Sig) (H' : Hp) (G' : Gam) (S' : Sto), Ext M H M' H' → Stt K M' H' S' G' σ' → P.ct G' S' → D.ct σ' H'
  xc : ∀ (M' : List Addr) (σ' : Sig) (H' : Hp) (G' : Gam) (C : Addr) (S' : Sto), Ext M H M' H' → Stt K M' H' S' G' σ' → P.xc C G' S' → W (.ref C) none σ' H'
theorem Meets.ext {K : PySem.W.Frag} {W : WX} {M M1 : List Addr} {H H1 : Hp} {P : Post} {D : Ends} (m : Meets K W M H P D) (e : Ext M H M1 H1) : Meets K W M1 H1 P D :=
  ⟨fun M' σ' H' G' S' x => m.nx M' σ' H' G' S' (e.trans x), fun v M' H' r S' x => m.rt v M' H' r S' (e.trans x), fun M' σ' H' G' S' x => m.bk M' σ' H' G' S' (e.trans x), fun M' σ' H' G' S' x => m.ct M' σ' H' G' S' (e.trans x), fun M' σ' H' G' C S' x => m.xc M' σ' H' G' C S' (e.trans x)⟩
def WS (X : Cx) (W : WX) (st : Stmt) (G : Gam) (S : Sto) (P : Post) : Prop := ∀ (M : List Addr) (σ : Sig) (H : Hp) (D : Ends), Stt X.K M H S G σ → Meets X.K W M H P D → sS X st D σ H
def WSs (X : Cx) (W : WX) (st : List Stmt) (G : Gam) (S : Sto) (P : Post) : Prop := ∀ (M : List Addr) (σ : Sig) (H : Hp) (D : Ends), Stt X.K M H S G σ → Meets X.K W M H P D → sSs X st D σ H
section
variable {X : Cx} {W : WX} {k : Nat} {G G1 G2 : Gam} {S S1 S2 S3 : Sto} {P : Post} {e a b : Expr} {es : List Expr} {r x y z : It} {rs : List It} {pos pos' : Pos} {st : Stmt} {sts : List Stmt}
/-! ### weakening -/
theorem WSs.imp {P' : Post} (h : WSs X W sts G S P) (h1 : ∀ G S, P.nx G S → P'.nx G S) (h2 : ∀ r S, P.rt r S → P'.rt r S := by intro _ _ h; exact h) (h3 : ∀ G S, P.bk G S → P'.bk G S := by intro _ _ h; exact h) (h4 : ∀ G S, P.ct G S → P'.ct G S := by intro _ _ h; exact h) (h5 : ∀ C G S, P.xc C G S → P'.xc C G S := by intro _ _ _ h; exact h) : WSs X W sts G S P' :=
  fun M σ H D s m => h M σ H D s ⟨fun M' σ' H' G' S' e t q => m.nx M' σ' H' G' S' e t (h1 _ _ q), fun v M' H' r S' e t u q => m.rt v M' H' r S' e t u (h2 _ _ q), fun M' σ' H' G' S' e t q => m.bk M' σ' H' G' S' e t (h3 _ _ q), fun M' σ' H' G' S' e t q => m.ct M' σ' H' G' S' e t (h4 _ _ q), fun M' σ' H' G' C S' e t q => m.xc M' σ' H' G' C S' e t (h5 _ _ _ q)⟩
/-! ### names and constants -/
theorem vr_int {K : PySem.W.Frag} {M : List Addr} {H : Hp} {v : V} {i : Int} (h : VRep K M H v (.d (.int i))) : v = .int i := by
  have h' : Fz M H v (.int i) := h
  cases h'; rfl
theorem vr_bool {K : PySem.W.Frag} {M : List Addr} {H : Hp} {v : V} {i : Bool} (h : VRep K M H v (.d (.bool i))) : v = .bl i := by
  have h' : Fz M H v (.bool i) := h
  cases h'; rfl
theorem vr_str {K : PySem.W.Frag} {M : List Addr} {H : Hp} {v : V} {i : Str} (h : VRep K M H v (.d (.str i))) : v = .str i := by
  have h' : Fz M H v (.str i) := h
  cases h'; rfl
theorem vr_none {K : PySem.W.Frag} {M : List Addr} {H : Hp} {v : V} (h : VRep K M H v (.d .none)) : v = .non := by
  have h' : Fz M H v .none := h
  cases h'; rfl
theorem ev_name (i : Nat) {n : Str} (hg : G[i]? = some (some r) := by rfl) (hN : X.N[i]? = some n := by rfl) (hv : Vis X.env.scope n := by first | exact Or.inl rfl | exact Or.inr (Or.inl rfl) | exact Or.inr (Or.inr rfl)) (hd : (n == ("__debug__" : Str)) = false := by decide)
    (hcd : (n == ("__classdict__" : Str)) = false := by decide) : Ev X (.Name n pos) G S r S := fun M σ H Q s q => by
  obtain ⟨v, h1, h2⟩ := s.at_ i r hg
  exact toE (pe_var hN hv hd hcd) ⟨v, h1, q v M H Ext.refl s h2⟩
theorem ev_int {i : Int} {j : Nat} : Ev X (.Constant (.int i) j pos) G S (.d (.int i)) S := fun M σ H Q s q => toE pe_int (q _ M H Ext.refl s (Fz.int i))
theorem ev_bool {i : Bool} {j : Nat} : Ev X (.Constant (.bool i) j pos) G S (.d (.bool i)) S := fun M σ H Q s q => toE pe_bl (q _ M H Ext.refl s (Fz.bl i))
theorem ev_none {j : Nat} : Ev X (.Constant .none j pos) G S (.d .none) S := fun M σ H Q s q => toE pe_non (q _ M H Ext.refl s Fz.non)
theorem ev_str {i : Str} {j : Nat} : Ev X (.Constant (.str i) j pos) G S (.d (.str i)) S := fun M σ H Q s q => toE pe_str (q _ M H Ext.refl s (Fz.str i))
theorem ev_glob {n : Str} {v : V} {u : Value} (hm : X.mg n = some u) (hr : RelV v u) (hg : Gl X n := by rfl) (hd : (n == ("__debug__" : Str)) = false := by decide) : Ev X (.Name n pos) G S (.r v) S := fun M σ H Q s q => toE (pe_glob hg hm hr hd) (q _ M H Ext.refl s rfl)
theorem ev_gint {n : Str} {i : Int} (hm : ∃ t, X.mg n = some (.int i t)) (hg : Gl X n := by rfl) (hd : (n == ("__debug__" : Str)) = false := by decide) : Ev X (.Name n pos) G S (.d (.int i)) S := fun M σ H Q s q => by
  obtain ⟨t, hm⟩ := hm
  exact toE (pe_glob (v := .int i) hg hm ⟨t, rfl⟩ hd) (q _ M H Ext.refl s (Fz.int i))
theorem ev_gstr {n : Str} {i : Str} (hm : ∃ t, X.mg n = some (.str i t)) (hg : Gl X n := by rfl) (hd : (n == ("__debug__" : Str)) = false := by decide) : Ev X (.Name n pos) G S (.d (.str i)) S := fun M σ H Q s q => by
  obtain ⟨t, hm⟩ := hm
  exact toE (pe_glob (v := .str i) hg hm ⟨t, rfl⟩ hd) (q _ M H Ext.refl s (Fz.str i))
theorem ev_type {n : Str} {T : String} (hm : X.mg n = none) (hv : bootBuiltins n = some (.type T) := by decide +kernel) (hg : Gl X n := by rfl) (hn : n ≠ "__name__" := by decide) (hd : (n == ("__debug__" : Str)) = false := by decide) : Ev X (.Name n pos) G S (.r (.ty T)) S := fun M σ H Q s q =>
  toE (pe_bltn (v := .ty T) hg hm hv rfl hn hd) (q _ M H Ext.refl s rfl)
/-! ### operators, by values -/
/-- an operation on two values -/
def RW2 (X : Cx) (rr : R2) (x y : It) (S : Sto) (z : It) (S' : Sto) : Prop := ∀ (M : List Addr) (H : Hp) (v u : V) (Q : VK), StoreOk X.K M H S → VRep X.K M H v x → VRep X.K M H u y →
  (∀ w M' H', Ext M H M' H' → StoreOk X.K M' H' S' → VRep X.K M' H' w z → Q w H') → rr v u H Q
def RW1 (X : Cx) (rr : V → Hp → VK → Prop) (x : It) (S : Sto) (z : It) (S' : Sto) : Prop := ∀ (M : List Addr) (H : Hp) (v : V) (Q : VK), StoreOk X.K M H S → VRep X.K M H v x →
  (∀ w M' H', Ext M H M' H' → StoreOk X.K M' H' S' → VRep X.K M' H' w z → Q w H') → rr v H Q
/-- a call of a built-in by values -/
def RWC (X : Cx) (rr : List V → Hp → VK → Prop) (xs : List It) (S : Sto) (z : It) (S' : Sto) : Prop := ∀ (M : List Addr) (H : Hp) (vs : List V) (Q : VK), StoreOk X.K M H S → VReps X.K M H vs xs →
  (∀ w M' H', Ext M H M' H' → StoreOk X.K M' H' S' → VRep X.K M' H' w z → Q w H') → rr vs H Q
/-- a method of a built-in type by values -/
def RWM (X : Cx) (rr : V → List V → Hp → VK → Prop) (x : It) (xs : List It) (S : Sto) (z : It) (S' : Sto) : Prop := ∀ (M : List Addr) (H : Hp) (v : V) (vs : List V) (Q : VK), StoreOk X.K M H S → VRep X.K M H v x → VReps X.K M H vs xs →
  (∀ w M' H', Ext M H M' H' → StoreOk X.K M' H' S' → VRep X.K M' H' w z → Q w H') → rr v vs H Q
theorem ev_op {op : Operator} {rr : R2} (ho : OpR X (binaryOp op) rr) (ha : Ev X a G S x S1) (hb : Ev X b G S1 y S2) (hr : RW2 X rr x y S2 z S3) : Ev X (.BinOp a op b pos) G S z S3 := fun M σ H Q s q =>
  toE (pe_op ho pe_s pe_s) (ha M σ H _ s fun v M1 H1 e1 s1 r1 => hb M1 σ H1 _ s1 fun u M2 H2 e2 s2 r2 => hr M2 H2 v u _ s2.sto (r1.ext e2) r2 fun w M3 H3 e3 s3 r3 => q w M3 H3 ((e1.trans e2).trans e3) (s2.mono e3 s3) r3)
theorem ev_cmp {op : CmpOp} {rr : R2} (ho : OpR X (compareOp op) rr) (ha : Ev X a G S x S1) (hb : Ev X b G S1 y S2) (hr : RW2 X rr x y S2 z S3) (hm : behindInMarks op b = false := by first | exact nomark _ | rfl) : Ev X (.Compare a [op] [b] pos) G S z S3 := fun M σ H Q s q =>
  toE (pe_cmpR ho pe_s pe_s hm) (ha M σ H _ s fun v M1 H1 e1 s1 r1 => hb M1 σ H1 _ s1 fun u M2 H2 e2 s2 r2 => hr M2 H2 v u _ s2.sto (r1.ext e2) r2 fun w M3 H3 e3 s3 r3 => q w M3 H3 ((e1.trans e2).trans e3) (s2.mono e3 s3) r3)
theorem evt_cmp {op : CmpOp} {rr : R2} {c : Bool} (ho : OpR X (compareOp op) rr) (ha : Ev X a G S x S1) (hb : Ev X b G S1 y S2) (hr : RW2 X rr x y S2 (.d (.bool c)) S3) (hm : behindInMarks op b = false := by first | exact nomark _ | rfl) : EvT X (.Compare a [op] [b] pos) G S c S3 := fun M σ H Q s q =>
  toT (pt_cmpR ho pe_s pe_s hm) (ha M σ H _ s fun v M1 H1 e1 s1 r1 => hb M1 σ H1 _ s1 fun u M2 H2 e2 s2 r2 => hr M2 H2 v u _ s2.sto (r1.ext e2) r2 fun w M3 H3 e3 s3 r3 => ⟨c, vr_bool r3, q M3 H3 ((e1.trans e2).trans e3) (s2.mono e3 s3)⟩)
theorem ev_un {op : UnaryOp} {rr : V → Hp → VK → Prop} (ho : UnR X (unaryOp op) rr) (ha : Ev X a G S x S1) (hr : RW1 X rr x S1 z S2) : Ev X (.UnaryOp op a pos) G S z S2 := fun M σ H Q s q =>
  toE (pe_un ho pe_s) (ha M σ H _ s fun v M1 H1 e1 s1 r1 => hr M1 H1 v _ s1.sto r1 fun w M3 H3 e3 s3 r3 => q w M3 H3 (e1.trans e3) (s1.mono e3 s3) r3)
/-- a op b op' c -/
theorem ev_chain {op op' : CmpOp} {rr rr' : R2} {c : Expr} {w : It} {k1 k2 : Bool} (ho : OpR X (compareOp op) rr) (ho' : OpR X (compareOp op') rr') (ha : Ev X a G S x S1) (hb : Ev X b G S1 y S2) (hr : RW2 X rr x y S2 (.d (.bool k1)) S2)
    (hc : k1 = true → Ev X c G S2 w S2) (hr' : k1 = true → RW2 X rr' y w S2 (.d (.bool k2)) S2) (hm : lastMarks [op, op'] [b, c] = false := by rfl) : Ev X (.Compare a [op, op'] [b, c] pos) G S (.d (.bool (k1 && k2))) S2 := fun M σ H Q s q =>
  toE (pe_chain ho ho' pe_s pe_s pe_s hm) (ha M σ H _ s fun v M1 H1 e1 s1 r1 => hb M1 σ H1 _ s1 fun u M2 H2 e2 s2 r2 => hr M2 H2 v u _ s2.sto (r1.ext e2) r2 fun w' M3 H3 e3 s3 r3 => ⟨k1, vr_bool r3, by
    cases k1 with
    | true =>
      exact iteT (hc rfl M3 σ H3 _ (s2.mono e3 s3) fun u4 M4 H4 e4 s4 r4 => hr' rfl M4 H4 u u4 _ s4.sto (r2.ext (e3.trans e4)) r4 fun u5 M5 H5 e5 s5 r5 => q u5 M5 H5 ((((e1.trans e2).trans e3).trans e4).trans e5) (s4.mono e5 s5) r5)
    | false => exact iteF (q _ M3 H3 ((e1.trans e2).trans e3) (s2.mono e3 s3) (Fz.bl false))⟩)
theorem evt_chain {op op' : CmpOp} {rr rr' : R2} {c : Expr} {w : It} {k1 k2 : Bool} (ho : OpR X (compareOp op) rr) (ho' : OpR X (compareOp op') rr') (ha : Ev X a G S x S1) (hb : Ev X b G S1 y S2) (hr : RW2 X rr x y S2 (.d (.bool k1)) S2)
    (hc : k1 = true → Ev X c G S2 w S2) (hr' : k1 = true → RW2 X rr' y w S2 (.d (.bool k2)) S2) (hm : lastMarks [op, op'] [b, c] = false := by rfl) : EvT X (.Compare a [op, op'] [b, c] pos) G S (k1 && k2) S2 := fun M σ H Q s q =>
  toT (pt_chain ho ho' pe_s pe_s pe_s hm) (ha M σ H _ s fun v M1 H1 e1 s1 r1 => hb M1 σ H1 _ s1 fun u M2 H2 e2 s2 r2 => hr M2 H2 v u _ s2.sto (r1.ext e2) r2 fun w' M3 H3 e3 s3 r3 => ⟨k1, vr_bool r3, by
    cases k1 with
    | true =>
      exact iteT (hc rfl M3 σ H3 _ (s2.mono e3 s3) fun u4 M4 H4 e4 s4 r4 => hr' rfl M4 H4 u u4 _ s4.sto (r2.ext (e3.trans e4)) r4 fun u5 M5 H5 e5 s5 r5 => ⟨k2, vr_bool r5, q M5 H5 ((((e1.trans e2).trans e3).trans e4).trans e5) (s4.mono e5 s5)⟩)
    | false => exact iteF ⟨false, rfl, q M3 H3 ((e1.trans e2).trans e3) (s2.mono e3 s3)⟩⟩)
/-! ### tests -/
theorem evt_val {c : Bool} (h : Ev X e G S (.d (.bool c)) S1) (he : ∀ whole, isTrue e X.env whole = (do let v ← whole; standAt e.pos; holding [v] (truthy v)) := by intro _; rfl) : EvT X e G S c S1 := fun M σ H Q s q =>
  toT (pt_val pe_s he) (h M σ H _ s fun v M1 H1 e1 s1 r1 => ⟨c, vr_bool r1, q M1 H1 e1 s1⟩)
theorem evt_w {c : Bool} (h : EvW X e G S c S1) : EvT X e G S c S1 := fun M σ H Q s q => toT pw_s.pt (h M σ H _ s q)
theorem evt_not {c : Bool} (h : EvT X a G S c S1) : EvT X (.UnaryOp .Not a pos) G S (!c) S1 := fun M σ H Q s q => toT (pt_not pt_s) (h M σ H _ s q)
theorem evw_and1 {c : Bool} (h : EvT X a G S c S1) : EvW X (.BoolOp .And [a] pos) G S c S1 := fun M σ H Q s q => toW (pw_and1 pt_s) (h M σ H _ s q)
theorem evw_or1 {c : Bool} (h : EvT X a G S c S1) : EvW X (.BoolOp .Or [a] pos) G S c S1 := fun M σ H Q s q => toW (pw_or1 pt_s) (h M σ H _ s q)
theorem evw_and {c d : Bool} (h : EvT X a G S c S) (h2 : c = true → EvW X (.BoolOp .And (b :: es) pos) G S d S) : EvW X (.BoolOp .And (a :: b :: es) pos) G S (c && d) S := fun M σ H Q s q =>
  toW (pw_and pt_s pw_s) (h M σ H _ s fun M1 H1 e1 s1 => by
    cases c with
    | true => exact iteT (h2 rfl M1 σ H1 _ s1 fun M2 H2 e2 s2 => q M2 H2 (e1.trans e2) s2)
    | false => exact iteF (q M1 H1 e1 s1))
theorem evw_or {c d : Bool} (h : EvT X a G S c S) (h2 : c = false → EvW X (.BoolOp .Or (b :: es) pos) G S d S) : EvW X (.BoolOp .Or (a :: b :: es) pos) G S (c || d) S := fun M σ H Q s q =>
  toW (pw_or pt_s pw_s) (h M σ H _ s fun M1 H1 e1 s1 => by
    cases c with
    | true => exact iteT (q M1 H1 e1 s1)
    | false => exact iteF (h2 rfl M1 σ H1 _ s1 fun M2 H2 e2 s2 => q M2 H2 (e1.trans e2) s2))
theorem ev_and1 {op : BoolOp} (h : Ev X a G S x S1) : Ev X (.BoolOp op [a] pos) G S x S1 := fun M σ H Q s q => toE (pe_one pe_s) (h M σ H _ s q)
theorem ev_and {c d : Bool} (h : Ev X a G S (.d (.bool c)) S) (h2 : c = true → Ev X (.BoolOp .And (b :: es) pos) G S (.d (.bool d)) S) : Ev X (.BoolOp .And (a :: b :: es) pos) G S (.d (.bool (c && d))) S := fun M σ H Q s q =>
  toE (pe_and pe_s pe_s) (h M σ H _ s fun v M1 H1 e1 s1 r1 => ⟨c, vr_bool r1, by
    cases c with
    | true => exact iteT (h2 rfl M1 σ H1 _ s1 fun w M2 H2 e2 s2 r2 => q w M2 H2 (e1.trans e2) s2 r2)
    | false => exact iteF (q _ M1 H1 e1 s1 (Fz.bl false))⟩)
theorem ev_or {c d : Bool} (h : Ev X a G S (.d (.bool c)) S) (h2 : c = false → Ev X (.BoolOp .Or (b :: es) pos) G S (.d (.bool d)) S) : Ev X (.BoolOp .Or (a :: b :: es) pos) G S (.d (.bool (c || d))) S := fun M σ H Q s q =>
  toE (pe_or pe_s pe_s) (h M σ H _ s fun v M1 H1 e1 s1 r1 => ⟨c, vr_bool r1, by
    cases c with
    | true => exact iteT (q _ M1 H1 e1 s1 (Fz.bl true))
    | false => exact iteF (h2 rfl M1 σ H1 _ s1 fun w M2 H2 e2 s2 r2 => q w M2 H2 (e1.trans e2) s2 r2)⟩)
theorem ev_not {c : Bool} (h : Ev X a G S (.d (.bool c)) S1) : Ev X (.UnaryOp .Not a pos) G S (.d (.bool (!c))) S1 := fun M σ H Q s q =>
  toE (pe_not pe_s) (h M σ H _ s fun v M1 H1 e1 s1 r1 => ⟨c, vr_bool r1, q _ M1 H1 e1 s1 (Fz.bl _)⟩)
theorem ev_ife {t : Expr} {c : Bool} (h : EvT X t G S c S1) (h1 : c = true → Ev X a G S1 x S2) (h2 : c = false → Ev X b G S1 x S2) : Ev X (.IfExp t a b pos) G S x S2 := fun M σ H Q s q =>
  toE (pe_ifExp pt_s pe_s pe_s) (h M σ H _ s fun M1 H1 e1 s1 => by
    cases c with
    | true => exact iteT (h1 rfl M1 σ H1 _ s1 fun w M2 H2 e2 s2 r2 => q w M2 H2 (e1.trans e2) s2 r2)
    | false => exact iteF (h2 rfl M1 σ H1 _ s1 fun w M2 H2 e2 s2 r2 => q w M2 H2 (e1.trans e2) s2 r2))
/-- another name for the same answer -/
theorem Ev.is {r' : It} (h : Ev X e G S r S1) (q : r = r') : Ev X e G S r' S1 := q ▸ h
theorem EvT.is {c c' : Bool} (h : EvT X e G S c S1) (q : c = c') : EvT X e G S c' S1 := q ▸ h
/-! ### arguments, displays -/
theorem eva_nil : EvA X [] G S [] S := fun M σ H Q s q => toA pa_nil (q [] M H Ext.refl s .nil)
theorem eva_cons (h : Ev X e G S r S1) (h2 : EvA X es G S1 rs S2) (hs : starEach (e :: es) X.env = (false, eval e X.env) :: starEach es X.env := by rfl) : EvA X (e :: es) G S (r :: rs) S2 := fun M σ H Q s q =>
  toA (pa_cons pe_s pa_s hs) (h M σ H _ s fun v M1 H1 e1 s1 r1 => h2 M1 σ H1 _ s1 fun vs M2 H2 e2 s2 r2 => q (v :: vs) M2 H2 (e1.trans e2) s2 (.cons (r1.ext e2) r2))
end
/-- data among items -/
def ds? : List It → Option (List PyData)
  | [] => some []
  | .d x :: r => (ds? r).map (x :: ·)
  | _ :: _ => none
theorem fz_all {K : PySem.W.Frag} {M : List Addr} {H : Hp} : ∀ {rs : List It} {ds : List PyData} {vs : List V}, ds? rs = some ds → VReps K M H vs rs → FzAll M H vs ds
  | [], ds, vs, h, r => by
    cases h
    cases r
    exact .nil
  | .d x :: rs, ds, vs, h, r => by
    cases r with
    | cons r1 r2 =>
      cases q : ds? rs with
      | none => rw [show ds? (.d x :: rs) = (ds? rs).map (x :: ·) from rfl, q] at h; cases h
      | some ds' =>
        rw [show ds? (.d x :: rs) = (ds? rs).map (x :: ·) from rfl, q] at h
        cases h
        exact .cons r1 (fz_all q r2)
  | .o _ :: _, _, _, h, _ => by cases h
  | .r _ :: _, _, _, h, _ => by cases h
  | .s _ :: _, _, _, h, _ => by cases h
theorem VReps.len {K : PySem.W.Frag} {M : List Addr} {H : Hp} {rs : List It} {vs : List V} (r : VReps K M H vs rs) : vs.length = rs.length := Paired.length r
theorem ds_len : ∀ {rs : List It} {ds : List PyData}, ds? rs = some ds → ds.length = rs.length
  | [], ds, h => by cases h; rfl
  | .d x :: rs, ds, h => by
    cases q : ds? rs with
    | none => rw [show ds? (.d x :: rs) = (ds? rs).map (x :: ·) from rfl, q] at h; cases h
    | some ds' =>
      rw [show ds? (.d x :: rs) = (ds? rs).map (x :: ·) from rfl, q] at h
      cases h
      show ds'.length + 1 = rs.length + 1
      rw [ds_len q]
  | .o _ :: _, _, h => by cases h
  | .r _ :: _, _, h => by cases h
  | .s _ :: _, _, h => by cases h
section
variable {X : Cx} {W : WX} {k : Nat} {G G1 G2 : Gam} {S S1 S2 S3 : Sto} {P : Post} {e a b : Expr} {es : List Expr} {r x y z : It} {rs : List It} {pos pos' : Pos} {st : Stmt} {sts : List Stmt} {ds : List PyData}
/-- a tuple of data -/
theorem ev_tup {x1} (h : EvA X es G S rs S1) (hd : ds? rs = some ds := by rfl) (hl : rs.length ≤ 1000 := by exact Nat.le_of_ble_eq_true rfl) : Ev X (.Tuple es x1 pos) G S (.d (.tuple ds)) S1 := fun M σ H Q s q =>
  toE (pe_tup pa_s) (h M σ H _ s fun vs M1 H1 e1 s1 r1 => ⟨Nat.le_of_lt (small1000 (by rw [r1.len]; exact hl)), fun p hp =>
    q _ M1 _ (e1.trans (Ext.fresh hp)) (s1.fresh hp) (Fz.tup ⟨upd_same, s1.sto.nin hp⟩ (FzAll.ext (Ext.fresh hp) (fz_all hd r1)))⟩)
/-- a list of data that stays as it is -/
theorem ev_lst (h : EvA X es G S rs S1) (hd : ds? rs = some ds := by rfl) (hl : rs.length ≤ 1000 := by exact Nat.le_of_ble_eq_true rfl) : Ev X (.List es pos) G S (.d (.list ds)) S1 := fun M σ H Q s q =>
  toE (pe_lst pa_s) (h M σ H _ s fun vs M1 H1 e1 s1 r1 => ⟨Nat.le_of_lt (small1000 (by rw [r1.len]; exact hl)), fun p hp =>
    q _ M1 _ (e1.trans (Ext.fresh hp)) (s1.fresh hp) (Fz.lst ⟨.inl upd_same, s1.sto.nin hp⟩ (FzAll.ext (Ext.fresh hp) (fz_all hd r1)))⟩)
/-- a list that is owned -/
theorem ev_lstO (h : EvA X es G S rs S1) (hl : rs.length ≤ 1000 := by exact Nat.le_of_ble_eq_true rfl) : Ev X (.List es pos) G S (.o S1.length) (S1 ++ [.lst rs]) := fun M σ H Q s q =>
  toE (pe_lst pa_s) (h M σ H _ s fun vs M1 H1 e1 s1 r1 => ⟨Nat.le_of_lt (small1000 (by rw [r1.len]; exact hl)), fun p hp => by
    have e2 : Ext M1 H1 (M1 ++ [p]) (upd H1 p (.lst vs)) := Ext.own hp
    have s2 : StoreOk X.K (M1 ++ [p]) (upd H1 p (.lst vs)) (S1 ++ [.lst rs]) := s1.sto.own hp ⟨vs, upd_same, r1.ext e2⟩
    exact q _ _ _ (e1.trans e2) (s1.mono e2 s2) ⟨p, by rw [← s1.sto.len, List.getElem?_append_right (Nat.le_refl _), Nat.sub_self]; rfl, rfl⟩⟩)
/-! ### statements -/
theorem ss_nil (h : P.nx G S) : WSs X W [] G S P := fun M σ H D s m => toSs pss_nil (m.nx M σ H G S Ext.refl s h)
theorem ss_cons (h : WS X W st G S { P with nx := fun G' S' => WSs X W sts G' S' P }) : WSs X W (st :: sts) G S P := fun M σ H D s m =>
  toSs (pss_cons ps_s pss_s) (h M σ H _ s ⟨fun M' σ' H' G' S' e t q => q M' σ' H' D t (m.ext e), m.rt, m.bk, m.ct, m.xc⟩)
theorem ws_pass (h : P.nx G S) : WS X W (.Pass pos) G S P := fun M σ H D s m => toS ps_pass (m.nx M σ H G S Ext.refl s h)
theorem ws_break (h : P.bk G S) : WS X W (.Break pos) G S P := fun M σ H D s m => toS ps_break (m.bk M σ H G S Ext.refl s h)
theorem ws_continue (h : P.ct G S) : WS X W (.Continue pos) G S P := fun M σ H D s m => toS ps_continue (m.ct M σ H G S Ext.refl s h)
theorem ws_expr (h : Ev X e G S r S1) (q : P.nx G S1) (hs : swapsWith e none pos.line X.env = pure false := by rfl) : WS X W (.Expr e pos) G S P := fun M σ H D s m =>
  toS (ps_expr pe_s hs) (h M σ H _ s fun v M1 H1 e1 s1 r1 => m.nx M1 σ H1 G S1 e1 s1 q)
theorem ws_ret (h : Ev X e G S r S1) (q : P.rt r S1) : WS X W (.Return (some e) pos) G S P := fun M σ H D s m =>
  toS (ps_ret pe_s) (h M σ H _ s fun v M1 H1 e1 s1 r1 => m.rt v M1 H1 r S1 e1 s1.sto r1 q)
theorem ws_retN (q : P.rt (.d .none) S) : WS X W (.Return none pos) G S P := fun M σ H D s m => toS ps_retN (m.rt .non M H (.d .none) S Ext.refl s.sto Fz.non q)
theorem ws_if {c : Expr} {p q : List Stmt} {k1 : Bool} (h : EvT X c G S k1 S1) (h1 : k1 = true → WSs X W p G S1 P) (h2 : k1 = false → WSs X W q G S1 P) : WS X W (.If c p q pos) G S P := fun M σ H D s m =>
  toS (ps_if pt_s pss_s pss_s) (h M σ H _ s fun M1 H1 e1 s1 => by
    cases k1 with
    | true => exact iteT (h1 rfl M1 σ H1 D s1 (m.ext e1))
    | false => exact iteF (h2 rfl M1 σ H1 D s1 (m.ext e1)))
theorem ws_asg {tg : Expr} (h : Ev X e G S r S1) (hg : EvG X tg r G S1 G2 S2) (q : P.nx G2 S2) (hs : swapsWithSole [tg] e pos.line X.env = pure false := by rfl) (hw : swappedStores [tg] e X.env = pure none := by rfl)
    (h1 : (assignEach [tg] X.env).map (·.2) = [assign tg X.env] := by rfl) : WS X W (.Assign [tg] e pos) G S P := fun M σ H D s m =>
  toS (ps_asg pe_s pg_s hs hw h1) (h M σ H _ s fun v M1 H1 e1 s1 r1 => hg M1 σ H1 v _ s1 r1 fun σ' M2 H2 e2 s2 => m.nx M2 σ' H2 G2 S2 (e1.trans e2) s2 q)
theorem evg_name (i : Nat) {n : Str} (nd : X.N.Nodup) (hi : X.N[i]? = some n := by rfl) (hx : Loc X.env.scope n := by first | exact Or.inl rfl | exact Or.inr rfl) (hf : X.fn n = true ∨ X.env.scope.names.lookup n = some .local := by first | exact .inl rfl | exact .inr rfl | assumption) :
    EvG X (.Name n pos) r G S (G.set i (some r)) S := fun M σ H v Q s hv q => toG (pg_name (i := i) nd hi hx hf) (q _ M H Ext.refl (s.set hv))
theorem ws_set (i : Nat) {n : Str} (nd : X.N.Nodup) (h : Ev X e G S r S1) (q : P.nx (G.set i (some r)) S1) (hi : X.N[i]? = some n := by rfl) (hx : Loc X.env.scope n := by first | exact Or.inl rfl | exact Or.inr rfl)
    (hs : swapsWith e (some (.Name n pos')) pos.line X.env = pure false := by rfl) (hf : X.fn n = true ∨ X.env.scope.names.lookup n = some .local := by first | exact .inl rfl | exact .inr rfl | assumption) : WS X W (.Assign [.Name n pos'] e pos) G S P := fun M σ H D s m =>
  toS (ps_set (i := i) nd hi hx pe_s hs hf) (h M σ H _ s fun v M1 H1 e1 s1 r1 => m.nx M1 _ H1 _ S1 e1 (s1.set r1) q)
theorem evgs_nil : EvGs X [] [] G S G S := fun M σ H vs Q s hv q => by
  cases hv
  exact toGs pgs_nil ⟨rfl, q σ M H Ext.refl s⟩
theorem evgs_cons (h : EvG X e r G S G1 S1) (h2 : EvGs X es rs G1 S1 G2 S2) (hs : (assignEach (e :: es) X.env).map (·.2) = assign e X.env :: (assignEach es X.env).map (·.2) := by rfl) : EvGs X (e :: es) (r :: rs) G S G2 S2 := fun M σ H vs Q s hv q => by
  cases hv with
  | cons v1 v2 =>
    exact toGs (pgs_cons pg_s pgs_s hs) ⟨_, _, rfl, h M σ H _ _ s v1 fun σ1 M1 H1 e1 s1 => h2 M1 σ1 H1 _ _ s1 (VReps.ext e1 v2) fun σ2 M2 H2 e2 s2 => q σ2 M2 H2 (e1.trans e2) s2⟩
theorem fz_reps {K : PySem.W.Frag} {M : List Addr} {H : Hp} : ∀ {ds : List PyData} {vs : List V}, FzAll M H vs ds → VReps K M H vs (ds.map .d)
  | [], _, h => by cases h; exact .nil
  | _ :: _, _, h => by
    cases h with
    | cons h1 h2 => exact .cons h1 (fz_reps h2)
theorem fz_len {M : List Addr} {H : Hp} : ∀ {ds : List PyData} {vs : List V}, FzAll M H vs ds → vs.length = ds.length
  | [], _, h => by cases h; rfl
  | _ :: _, _, h => by
    cases h with
    | cons h1 h2 => exact congrArg Nat.succ (fz_len h2)
/-- a, b, .. = a tuple of data -/
theorem evg_tup {j : Nat} (hc : X.calm = true) (h : EvGs X es (ds.map .d) G S G1 S1) (hn : (assignEach es X.env).length = ds.length := by rfl) (hst : (assignEach es X.env).findIdx? (·.1) = none := by rfl) : EvG X (.Tuple es j pos) (.d (.tuple ds)) G S G1 S1 := fun M σ H v Q s hv q => by
  have hv' : Fz M H v (.tuple ds) := hv
  cases hv' with
  | tup h1 h2 => exact toG (pg_tup hc pgs_s hn hst) ⟨_, _, rfl, h1.sq, fz_len h2, h M σ H _ Q s (fz_reps h2) q⟩
end
end Cu
/-! CuC: defs and their calls, loops, comprehensions, over states told by data. -/
namespace Cu
open PySem PySem.Spec PyProof.Rows L2
/-! ### closed stores, objects given back -/
def ClI (n : Nat) : It → Prop
  | .o m => m < n
  | _ => True
def ClO (n : Nat) : Own → Prop
  | .lst xs => ∀ r ∈ xs, ClI n r
  | .dT kvs => ∀ p ∈ kvs, ClI n p.2
  | .dK kvs => ∀ p ∈ kvs, ClI n p.2
  | .ins _ fs => ∀ p ∈ fs, ClI n p.2
  | .tup xs => ∀ r ∈ xs, ClI n r
  | .lkT _ _ kvs => ∀ p ∈ kvs, ClI n p.2
  | .lkK _ _ kvs => ∀ p ∈ kvs, ClI n p.2
  | .tbl _ _ => True
  | .tblN _ _ => True
  | .fn _ cap => ∀ p ∈ cap, ClI n p.2
  | .gone => True
def ClS (S : Sto) : Prop := ∀ w ∈ S, ClO S.length w
section
variable {K : PySem.W.Frag} {M : List Addr} {H : Hp}
theorem Paired.mem2 {α β : Type} {F : α → β → Prop} : ∀ {l1 : List α} {l2 : List β}, Paired F l1 l2 → ∀ b ∈ l2, ∃ a ∈ l1, F a b
  | _, _, .nil, b, h => by cases h
  | _, _, .cons r t, b, h => by
    rcases List.mem_cons.mp h with e | h
    · subst e; exact ⟨_, List.mem_cons_self, r⟩
    · obtain ⟨a, ha, q⟩ := Paired.mem2 t b h
      exact ⟨a, List.mem_cons_of_mem _ ha, q⟩
theorem VRep.closed {v : V} : ∀ {r : It}, VRep K M H v r → ClI M.length r
  | .d _, _ => trivial
  | .o m, ⟨a, h, _⟩ => (List.getElem?_eq_some_iff.mp h).1
  | .r _, _ => trivial
  | .s _, _ => trivial
theorem StoreOk.closed {S : Sto} (h : StoreOk K M H S) : ClS S := fun w hw => by
  obtain ⟨n, hn⟩ := List.getElem?_of_mem hw
  obtain ⟨a, ha, q⟩ := h.addr hn
  rw [← h.len]
  revert q
  cases w with
  | lst xs => exact fun ⟨vs, _, r⟩ b hb => let ⟨v, _, q⟩ := Paired.mem2 r b hb; VRep.closed q
  | dT xs => exact fun ⟨vs, _, r⟩ b hb => let ⟨v, _, q⟩ := Paired.mem2 r b hb; VRep.closed q.2
  | dK xs => exact fun ⟨vs, _, r⟩ b hb => let ⟨v, _, q⟩ := Paired.mem2 r b hb; VRep.closed q.2
  | ins C fs => exact fun ⟨dx, vs, _, r⟩ b hb => let ⟨v, _, q⟩ := Paired.mem2 r b hb; VRep.closed q.2
  | tup xs => exact fun ⟨vs, _, r, _⟩ b hb => let ⟨v, _, q⟩ := Paired.mem2 r b hb; VRep.closed q
  | lkT od ps xs => exact fun ⟨_, r⟩ b hb => let ⟨v, _, q⟩ := Paired.mem2 r b hb; VRep.closed q.2
  | lkK od ps xs => exact fun ⟨_, r⟩ b hb => let ⟨v, _, q⟩ := Paired.mem2 r b hb; VRep.closed q.2
  | tbl P q => exact fun _ => trivial
  | tblN P nm => exact fun _ => trivial
  | fn F cap => exact fun ⟨_, _, _, r⟩ b hb => let ⟨v, _, q⟩ := Paired.mem2 r b.2 (List.mem_map_of_mem hb); VRep.closed q
  | gone => exact fun _ => trivial
theorem VRep.take {n : Nat} {v : V} : ∀ {r : It}, ClI n r → VRep K M H v r → VRep K (M.take n) H v r
  | .d _, _, h => Fz.less (fun _ q => List.mem_of_mem_take q) h
  | .o m, c, ⟨a, h1, h2⟩ => ⟨a, by rw [List.getElem?_take_of_lt c]; exact h1, h2⟩
  | .r _, _, h => h
  | .s _, _, ⟨a, h1, h2⟩ => ⟨a, h1, h2.less fun _ q => List.mem_of_mem_take q⟩
theorem Paired.mapM {α β : Type} {F G : α → β → Prop} : ∀ {l1 : List α} {l2 : List β}, Paired F l1 l2 → (∀ a b, b ∈ l2 → F a b → G a b) → Paired G l1 l2
  | _, _, .nil, _ => .nil
  | _, _, .cons r t, f => .cons (f _ _ List.mem_cons_self r) (Paired.mapM t fun a b hb => f a b (List.mem_cons_of_mem _ hb))
theorem ORep.take {n : Nat} {a : Addr} : ∀ {w : Own}, ClO n w → ORep K M H a w → ORep K (M.take n) H a w
  | .lst _, c, ⟨vs, h1, h2⟩ => ⟨vs, h1, Paired.mapM h2 fun _ b hb q => q.take (c b hb)⟩
  | .dT _, c, ⟨ps, h1, h2⟩ => ⟨ps, h1, Paired.mapM h2 fun _ b hb q => ⟨q.1, q.2.take (c b hb)⟩⟩
  | .dK _, c, ⟨ps, h1, h2⟩ => ⟨ps, h1, Paired.mapM h2 fun _ b hb q => ⟨q.1, q.2.take (c b hb)⟩⟩
  | .ins _ _, c, ⟨dx, ps, h1, h2⟩ => ⟨dx, ps, h1, Paired.mapM h2 fun _ b hb q => ⟨q.1, q.2.take (c b hb)⟩⟩
  | .tup _, c, ⟨vs, h1, h2, h3⟩ => ⟨vs, h1, Paired.mapM h2 fun _ b hb q => q.take (c b hb), h3⟩
  | .lkT _ _ _, c, ⟨h1, h2⟩ => ⟨h1, Paired.mapM h2 fun _ b hb q => ⟨q.1, q.2.take (c b hb)⟩⟩
  | .lkK _ _ _, c, ⟨h1, h2⟩ => ⟨h1, Paired.mapM h2 fun _ b hb q => ⟨q.1, q.2.take (c b hb)⟩⟩
  | .tbl _ _, _, ⟨h0, ps, h1, h2, h3⟩ => ⟨h0, ps, h1, h2, fun pos cv hc => let ⟨c, x1, x2, x3⟩ := h3 pos cv hc; ⟨c, x1, x2, fun z => x3 (List.mem_of_mem_take z)⟩⟩
  | .tblN _ _, _, ⟨h0, ps, h1, h2, h3⟩ => ⟨h0, ps, h1, h2, fun pos cv hc => let ⟨c, x1, x2, x3⟩ := h3 pos cv hc; ⟨c, x1, x2, fun z => x3 (List.mem_of_mem_take z)⟩⟩
  | .fn _ _, c, ⟨h1, h2, h3, h4⟩ => ⟨h1, h2, fun z => h3 (List.mem_of_mem_take z), Paired.mapM h4 fun _ b hb q => by obtain ⟨p, hp, rfl⟩ := List.mem_map.mp hb; exact q.take (c p hp)⟩
  | .gone, _, h => h
/-- later objects are let go -/
theorem StoreOk.take {S L : Sto} (h : StoreOk K M H (S ++ L)) (c : ClS S) : StoreOk K (M.take S.length) H S := by
  have hl : M.length = S.length + L.length := by rw [h.len, List.length_append]
  refine ⟨h.nd.sublist (List.take_sublist _ _), by rw [List.length_take, hl]; omega, fun n a w h1 h2 => ?_⟩
  obtain ⟨hn, _⟩ := List.getElem?_eq_some_iff.mp h2
  rw [List.getElem?_take_of_lt hn] at h1
  exact (h.rep n a w h1 (by rw [List.getElem?_append_left hn]; exact h2)).take (c w (List.mem_of_getElem? h2))
theorem Ext.take {M' : List Addr} {H' : Hp} (e : Ext M H M' H') {n : Nat} (hn : M.length ≤ n) : Ext M H (M'.take n) H' := by
  obtain ⟨L, rfl⟩ := e.pre
  refine ⟨⟨L.take (n - M.length), ?_⟩, e.keep, fun b hb => e.new b (List.mem_of_mem_take hb)⟩
  rw [List.take_append, List.take_of_length_le hn]
mutual
/-- an item, its objects of the n-th and later ones let go, is a datum -/
inductive Den (n : Nat) (S : Sto) : It → PyData → Prop
  | d (x : PyData) : Den n S (.d x) x
  | l {m : Nat} {xs : List It} {ds : List PyData} : n ≤ m → S[m]? = some (.lst xs) → DenAll n S xs ds → Den n S (.o m) (.list ds)
  | t {m : Nat} {xs : List It} {ds : List PyData} : n ≤ m → S[m]? = some (.tup xs) → DenAll n S xs ds → Den n S (.o m) (.tuple ds)
inductive DenAll (n : Nat) (S : Sto) : List It → List PyData → Prop
  | nil : DenAll n S [] []
  | cons {r : It} {rs : List It} {x : PyData} {xs : List PyData} : Den n S r x → DenAll n S rs xs → DenAll n S (r :: rs) (x :: xs)
end
theorem nin_take {n m : Nat} (nd : M.Nodup) (h : n ≤ m) {a : Addr} (ha : M[m]? = some a) : a ∉ M.take n := fun hm => by
  obtain ⟨j, hj⟩ := List.getElem?_of_mem hm
  have hjn : j < n := by
    rcases Nat.lt_or_ge j n with q | q
    · exact q
    · rw [List.getElem?_eq_none (by rw [List.length_take]; omega)] at hj
      cases hj
  rw [List.getElem?_take_of_lt hjn] at hj
  obtain ⟨l1, q1⟩ := List.getElem?_eq_some_iff.mp hj
  obtain ⟨l2, q2⟩ := List.getElem?_eq_some_iff.mp ha
  have := (List.getElem_inj nd).mp (q1.trans q2.symm)
  omega
mutual
theorem Den.fz {S : Sto} {n : Nat} (s : StoreOk K M H S) : ∀ {x : PyData} {r : It} {v : V}, Den n S r x → VRep K M H v r → Fz (M.take n) H v x
  | .none, _, _, h, q => by cases h with | d => exact Fz.less (fun _ q => List.mem_of_mem_take q) q
  | .bool _, _, _, h, q => by cases h with | d => exact Fz.less (fun _ q => List.mem_of_mem_take q) q
  | .int _, _, _, h, q => by cases h with | d => exact Fz.less (fun _ q => List.mem_of_mem_take q) q
  | .str _, _, _, h, q => by cases h with | d => exact Fz.less (fun _ q => List.mem_of_mem_take q) q
  | .tuple ds, _, _, h, q => by
    cases h with
    | d => exact Fz.less (fun _ q => List.mem_of_mem_take q) q
    | t h1 h2 h3 =>
      obtain ⟨a, ha, e⟩ := q
      obtain ⟨vs, hv, hr, _⟩ := s.rep _ a _ ha h2
      rw [e]
      exact .tup ⟨hv, nin_take s.nd h1 ha⟩ (DenAll.fz s h3 hr)
  | .dict _, _, _, h, q => by cases h with | d => exact Fz.less (fun _ q => List.mem_of_mem_take q) q
  | .list ds, _, _, h, q => by
    cases h with
    | d => exact Fz.less (fun _ q => List.mem_of_mem_take q) q
    | l h1 h2 h3 =>
      obtain ⟨a, ha, e⟩ := q
      obtain ⟨vs, hv, hr⟩ := s.rep _ a _ ha h2
      rw [e]
      exact .lst ⟨.inl hv, nin_take s.nd h1 ha⟩ (DenAll.fz s h3 hr)
theorem DenAll.fz {S : Sto} {n : Nat} (s : StoreOk K M H S) : ∀ {xs : List PyData} {rs : List It} {vs : List V}, DenAll n S rs xs → VReps K M H vs rs → FzAll (M.take n) H vs xs
  | [], _, _, h, q => by
    cases h
    cases q
    exact .nil
  | x :: xs, _, _, h, q => by
    cases h with
    | cons h1 h2 =>
      cases q with
      | cons q1 q2 => exact .cons (Den.fz s h1 q1) (DenAll.fz s h2 q2)
end
end
/-- what a def hands back: of its store it keeps S1 (the caller's objects, and perhaps new ones), the answer is r1 -/
def Back (n0 : Nat) (S : Sto) (r : It) (Q : It → Sto → Prop) : Prop := ∃ S1 L r1, S = S1 ++ L ∧ n0 ≤ S1.length ∧ (ClS S → ClS S1) ∧ ((r = r1 ∧ ClI S1.length r) ∨ ∃ x, r1 = .d x ∧ Den S1.length S r x) ∧ Q r1 S1
def BackX (n0 : Nat) (S : Sto) (C : Addr) (Q : Addr → Sto → Prop) : Prop := ∃ S1 L, S = S1 ++ L ∧ n0 ≤ S1.length ∧ (ClS S → ClS S1) ∧ Q C S1
theorem back_d {n : Nat} {S : Sto} {x : PyData} {Q : It → Sto → Prop} (h : Q (.d x) S) (hn : n ≤ S.length := by first | exact Nat.le_refl _ | simp) : Back n S (.d x) Q := ⟨S, [], _, (List.append_nil S).symm, hn, id, .inl ⟨rfl, trivial⟩, h⟩
theorem back_same {n : Nat} {S : Sto} {r : It} {Q : It → Sto → Prop} (hr : ClI S.length r) (h : Q r S) (hn : n ≤ S.length := by first | exact Nat.le_refl _ | simp) : Back n S r Q := ⟨S, [], _, (List.append_nil S).symm, hn, id, .inl ⟨rfl, hr⟩, h⟩
theorem backx_same {n : Nat} {S : Sto} {C : Addr} {Q : Addr → Sto → Prop} (h : Q C S) (hn : n ≤ S.length := by first | exact Nat.le_refl _ | simp) : BackX n S C Q := ⟨S, [], (List.append_nil S).symm, hn, id, h⟩
/-- later objects are let go, the answer a datum -/
theorem back_drop {n : Nat} {S1 : Sto} (L : Sto) {S : Sto} {x : PyData} {Q : It → Sto → Prop} (c : ClS S1) (h : Q (.d x) S1) (hS : S = S1 ++ L := by rfl) (hn : n ≤ S1.length := by first | exact Nat.le_refl _ | simp) : Back n S (.d x) Q := ⟨S1, L, _, hS, hn, fun _ => c, .inl ⟨rfl, trivial⟩, h⟩
theorem backx_drop {n : Nat} {S1 : Sto} (L : Sto) {S : Sto} {C : Addr} {Q : Addr → Sto → Prop} (c : ClS S1) (h : Q C S1) (hS : S = S1 ++ L := by rfl) (hn : n ≤ S1.length := by first | exact Nat.le_refl _ | simp) : BackX n S C Q := ⟨S1, L, hS, hn, fun _ => c, h⟩
theorem den_all {n : Nat} {S : Sto} : ∀ (ds : List PyData), DenAll n S (ds.map .d) ds
  | [] => .nil
  | d :: ds => .cons (.d d) (den_all ds)
/-- an owned list of data is handed back as a datum, later objects are let go -/
theorem back_lst {n i : Nat} {S1 : Sto} (L : Sto) {S : Sto} {ds : List PyData} {Q : It → Sto → Prop} (c : ClS S1) (hi : S1.length ≤ i) (h : S[i]? = some (.lst (ds.map .d))) (q : Q (.d (.list ds)) S1) (hS : S = S1 ++ L := by rfl) (hn : n ≤ S1.length := by first | exact Nat.le_refl _ | simp) : Back n S (.o i) Q :=
  ⟨S1, L, _, hS, hn, fun _ => c, .inr ⟨_, rfl, .l hi h (den_all ds)⟩, q⟩
theorem ClI.mono {n m : Nat} (h : n ≤ m) : ∀ {r : It}, ClI n r → ClI m r
  | .o _, q => Nat.lt_of_lt_of_le q h
  | .d _, _ => trivial
  | .r _, _ => trivial
  | .s _, _ => trivial
theorem ClO.mono {n m : Nat} (h : n ≤ m) : ∀ {w : Own}, ClO n w → ClO m w
  | .lst _, q => fun r hr => (q r hr).mono h
  | .dT _, q => fun r hr => (q r hr).mono h
  | .dK _, q => fun r hr => (q r hr).mono h
  | .ins _ _, q => fun r hr => (q r hr).mono h
  | .tup _, q => fun r hr => (q r hr).mono h
  | .lkT _ _ _, q => fun r hr => (q r hr).mono h
  | .lkK _ _ _, q => fun r hr => (q r hr).mono h
  | .tbl _ _, _ => trivial
  | .tblN _ _, _ => trivial
  | .fn _ _, q => fun p hp => (q p hp).mono h
  | .gone, _ => trivial
theorem cls_set {S : Sto} {i : Nat} {w : Own} (c : ClS S) (hw : ClO S.length w) : ClS (S.set i w) := fun u hu => by
  rw [List.length_set]
  rcases List.mem_or_eq_of_mem_set hu with q | q
  · exact c u q
  · rw [q]; exact hw
theorem cls_app {S : Sto} {w : Own} (c : ClS S) (hw : ClO (S.length + 1) w) : ClS (S ++ [w]) := fun u hu => by
  rw [List.length_append]
  rcases List.mem_append.mp hu with q | q
  · exact (c u q).mono (Nat.le_add_right _ _)
  · rw [List.mem_singleton.mp q]; exact hw
theorem cls_nil : ClS [] := fun _ h => nomatch h
theorem clo_data {n : Nat} {ds : List PyData} : ClO n (.lst (ds.map .d)) := fun r hr => by
  obtain ⟨d, _, rfl⟩ := List.mem_map.mp hr
  trivial
/-! ### defs -/
/-- what a def does, by data: the arguments' items, the store; what is wanted of the answer, of an error -/
abbrev Fn := List It → Sto → (It → Sto → Prop) → (Addr → Sto → Prop) → Prop
def spF (K : PySem.W.Frag) (n : Nat) (F : Fn) : Sp := fun vs H Q E => ∃ (M : List Addr) (S : Sto) (rs : List It), StoreOk K M H S ∧ VReps K M H vs rs ∧ rs.length = n ∧
  F rs S (fun r S' => ∀ v M' H', Ext M H M' H' → StoreOk K M' H' S' → VRep K M' H' v r → Q v H') (fun C S' => ∀ M' H', Ext M H M' H' → StoreOk K M' H' S' → E (.ref C) none H')
def startG (N : List Str) (rs : List It) : Gam := rs.map some ++ List.replicate (N.length - rs.length) none
section
variable {K : PySem.W.Frag} {M : List Addr} {H : Hp}
theorem stt_start {S : Sto} (s : StoreOk K M H S) (N : List Str) {vs : List V} {rs : List It} (r : VReps K M H vs rs) : Stt K M H S (startG N rs) (L2.start N vs) := by
  have hl := r.len
  refine ⟨s, by unfold L2.start startG; rw [List.length_append, List.length_append, List.length_map, List.length_map, List.length_replicate, List.length_replicate, hl], fun i u e => ?_⟩
  unfold startG at e
  by_cases hi : i < rs.length
  · rw [List.getElem?_append_left (by rw [List.length_map]; exact hi), List.getElem?_map, List.getElem?_eq_getElem hi] at e
    cases e
    have get : ∀ {vs : List V} {rs : List It} {i : Nat} (r : VReps K M H vs rs) (hi : i < rs.length), ∃ v, vs[i]? = some v ∧ VRep K M H v rs[i] := by
      intro vs rs i r hi
      induction r generalizing i with
      | nil => exact absurd hi (Nat.not_lt_zero _)
      | cons a t ih =>
        cases i with
        | zero => exact ⟨_, rfl, a⟩
        | succ j => exact ih (Nat.lt_of_succ_lt_succ hi)
    obtain ⟨v, h1, h2⟩ := get r hi
    refine ⟨v, ?_, h2⟩
    unfold L2.start
    rw [List.getElem?_append_left (by rw [List.length_map, hl]; exact hi), List.getElem?_map, h1]
    rfl
  · rw [List.getElem?_append_right (by rw [List.length_map]; omega)] at e
    rw [List.getElem?_replicate] at e
    split at e <;> cases e
end
section
variable {P : Program} {w : World} {K : PySem.W.Frag} {mg : Str → Option Value} {base : Heap} {x qual : Str} {params : Arguments} {body : List Stmt} {scope : Scope} {dvs : List V} {kws : List (Str × V)} {f : Addr} {fd : FuncData}
/-- the context of a def's body -/
abbrev cxF (P : Program) (w : World) (K : PySem.W.Frag) (mg : Str → Option Value) (base : Heap) (N : List Str) (qual : Str) (scope : Scope) (f : Addr) (cdv : Value) (A : Around) (outer : List Env) (s : Shared) (H : Hp) (E : XK) : Cx := cxOf (L2.CX P w) P w K mg base N qual scope f cdv A outer s H E
/-- what is wanted of an error that leaves a def -/
abbrev wF (E : XK) : WX := fun cls d _ H => E cls d H
theorem cxo_of {N ps : List Str} {k : Nat} (Sc : FnScope N ps scope) {cdv : Value} {A : Around} {outer : List Env} {s : Shared} {H : Hp} {E : XK} (hr : Room k (A.deeper (envOfC qual scope s.heap.objs.size f cdv))) :
    Cxo (cxF P w K mg base N qual scope f cdv A outer s H E) (wF E) k := ⟨rfl, Sc.nd, takes_of rfl rfl rfl rfl, passes_of rfl, hr⟩
/-- THE RULE for a def -/
theorem fn_w {F : Fn} {N ps : List Str} {k : Nat} (Fd : FunD K x qual params body scope dvs kws f fd) (Sc : FnScope N ps scope)
    (h : ∀ (cdv : Value) (A : Around) (outer : List Env) (s : Shared) (H : Hp) (E : XK) (rs : List It) (S : Sto) (QR : It → Sto → Prop) (QE : Addr → Sto → Prop), Cxo (cxF P w K mg base N qual scope f cdv A outer s H E) (wF E) k →
      ClS S → rs.length = ps.length → F rs S QR QE → WSs (cxF P w K mg base N qual scope f cdv A outer s H E) (wF E) body (startG N rs) S ⟨fun _ S' => Back S.length S' (.d .none) QR, fun r S' => Back S.length S' r QR, fun _ _ => False, fun _ _ => False, fun C _ S' => BackX S.length S' C QE⟩) :
    FnOk P w K mg base (L2.CX P w) (k + 1) f fd ps (spF K ps.length F) := by
  refine Fd.ok Sc (fun vs H Q E hs => ?_) (fun cdv A outer s H vs Q E hr hs => ⟨sSs _ body, pss_s, ?_⟩)
  · obtain ⟨M, S, rs, h1, h2, h3, _⟩ := hs
    rw [h2.len, h3]
  · obtain ⟨M, S, rs, h1, h2, h3, hF⟩ := hs
    have giveR : ∀ {v : V} {M' : List Addr} {H' : Hp} {r : It} {S' : Sto}, Ext M H M' H' → StoreOk K M' H' S' → VRep K M' H' v r → Back S.length S' r (fun r S' => ∀ v M' H', Ext M H M' H' → StoreOk K M' H' S' → VRep K M' H' v r → Q v H') → Q v H' := by
      intro v M' H' r S' e s' hv hb
      obtain ⟨S1, L, r1, rfl, hn, hc, hr1, q⟩ := hb
      refine q v (M'.take S1.length) H' (e.take (by rw [h1.len]; exact hn)) (s'.take (hc s'.closed)) ?_
      rcases hr1 with ⟨rfl, hcl⟩ | ⟨z, rfl, hd⟩
      · exact hv.take hcl
      · exact Den.fz s' hd hv
    refine h cdv A outer s H E rs S _ _ (cxo_of Sc hr) h1.closed h3 hF M (L2.start N vs) H _ (stt_start h1 N h2) ⟨fun M' σ' H' G' S' e t q => giveR (v := .non) (r := .d .none) e t.sto Fz.non q, fun v M' H' r S' e t hv q => giveR e t hv q, fun _ _ _ _ _ _ _ q => q.elim, fun _ _ _ _ _ _ _ q => q.elim, fun M' σ' H' G' C S' e t q => ?_⟩
    obtain ⟨S1, L, rfl, hn, hc, q⟩ := q
    exact q (M'.take S1.length) H' (e.take (by rw [h1.len]; exact hn)) (t.sto.take (hc t.sto.closed))
end
/-- a def by its name; drs: the defaults that fill up -/
structure OkF (P : Program) (w : World) (K : PySem.W.Frag) (mg : Str → Option Value) (base : Heap) (k : Nat) (x : Str) (ps : List Str) (drs : List It) (F : Fn) : Prop where
  ex : ∃ (f : Addr) (fd : FuncData) (dvs : List V) (ds : List Value), mg x = some (.ref f) ∧ PySem.W.keepIn K (.ref f) = true ∧ Binds K fd ps ds ∧ L2.Vals dvs ds ∧ (∀ M H, VReps K M H dvs drs) ∧ FnOk P w K mg base (L2.CX P w) k f fd ps (spF K ps.length F)
/-- a method of the class at C -/
structure OkM (P : Program) (w : World) (K : PySem.W.Frag) (mg : Str → Option Value) (base : Heap) (k : Nat) (C : Addr) (x : Str) (ps : List Str) (drs : List It) (F : Fn) : Prop where
  ex : ∃ (f : Addr) (fd : FuncData) (dvs : List V) (ds : List Value), Cls K C ∧ Meth K C x f ∧ Binds K fd ps ds ∧ L2.Vals dvs ds ∧ (∀ M H, VReps K M H dvs drs) ∧ FnOk P w K mg base (L2.CX P w) k f fd ps (spF K ps.length F)
/-- the class at C, made by its __init__ -/
structure OkC (P : Program) (w : World) (K : PySem.W.Frag) (mg : Str → Option Value) (base : Heap) (k : Nat) (C : Addr) (x : Str) (ps : List Str) (drs : List It) (F : Fn) : Prop where
  ex : ∃ (f : Addr) (fd : FuncData) (dvs : List V) (ds : List Value), mg x = some (.ref C) ∧ Mk K C f ∧ Binds K fd ps ds ∧ L2.Vals dvs ds ∧ (∀ M H, VReps K M H dvs drs) ∧ FnOk P w K mg base (L2.CX P w) k f fd ps (spF K ps.length F)
/-- e may raise: Qr of the answer, Qx of an error -/
def EvX (X : Cx) (W : WX) (e : Expr) (G : Gam) (S : Sto) (Qr : It → Sto → Prop) (Qx : Addr → Sto → Prop) : Prop := ∀ (M : List Addr) (σ : Sig) (H : Hp) (Q : VK), Stt X.K M H S G σ →
  (∀ v M' H' r S', Ext M H M' H' → Stt X.K M' H' S' G σ → VRep X.K M' H' v r → Qr r S' → Q v H') → (∀ M' H' C S', Ext M H M' H' → Stt X.K M' H' S' G σ → Qx C S' → W (.ref C) none σ H') → sE X e σ H Q
section
variable {X : Cx} {W : WX} {k j : Nat} {G G1 G2 : Gam} {S S1 S2 S3 : Sto} {P : Post} {e a b o : Expr} {es : List Expr} {r y z : It} {rs : List It} {pos pos' p apos : Pos} {st : Stmt} {sts body : List Stmt} {n m : Str} {ps : List Str} {drs : List It} {F : Fn} {C : Addr} {Qr : It → Sto → Prop} {Qx : Addr → Sto → Prop} {ds : List PyData}
theorem Ev.ex (h : Ev X e G S r S1) (q : Qr r S1) : EvX X W e G S Qr Qx := fun M σ H Q s h1 _ => h M σ H Q s fun v M' H' e' s' r' => h1 v M' H' r S1 e' s' r' q
theorem VReps.append {K : PySem.W.Frag} {M : List Addr} {H : Hp} : ∀ {vs us : List V} {rs ts : List It}, VReps K M H vs rs → VReps K M H us ts → VReps K M H (vs ++ us) (rs ++ ts)
  | _, _, _, _, .nil, h => h
  | _, _, _, _, .cons a t, h => .cons a (VReps.append t h)
/-- the callee runs, at the slots σ -/
theorem run_fnAt {CX : CXT} {f : Addr} {fd : FuncData} {sp : Sp} {dvs : List V} {dvu : List Value} {E : XK} {pins : List (Addr × Obj)} {σ : Sig} {H : Hp} {s : Shared} {Q : VK} {us : List Value} {vs : List V} (F : FnOk X.prog X.w X.K X.mg X.base CX k f fd ps sp) (hr : Room k X.A) (hb : Binds X.K fd ps dvu) (hd : L2.Vals dvs dvu)
    (hx : ∀ (e : Value) (s' : Shared), CX X.stack H s E e s' → X.xe e s') (I : Inv X pins σ H s) (r : L2.Vals vs us) (h : sp (vs ++ dvs) H Q E) : wpAny (model X.prog X.w) X.A (call (.ref f) us) (EP X pins σ Q) X.xe s := by
  have r2 : L2.Vals (vs ++ dvs) (us ++ dvu) := r.append hd
  have hl : (us ++ dvu).length = ps.length := by rw [← r2.length]; exact F.len _ _ _ _ h
  refine wpAny_call (codeAny_mono (F.run X.A X.stack s H ⟨us, []⟩ (us ++ dvu) (vs ++ dvs) Q E hr I.env0 (hb s us I.kIn hl) r2 h) fun r s' hq => ?_)
  cases r with
  | error e => exact hx e s' hq
  | ok fl =>
    cases fl with
    | ret u => exact I.after hq
    | next => exact False.elim hq
    | brk => exact False.elim hq
    | cont => exact False.elim hq
/-- the promise, as a caller uses it -/
theorem spF_of {K : PySem.W.Frag} {M : List Addr} {H : Hp} {vs dvs : List V} {E : XK} {Q : VK} {N : Nat} (s : StoreOk K M H S) (r : VReps K M H vs rs) (rd : ∀ M H, VReps K M H dvs drs) (hl : (rs ++ drs).length = N)
    (hF : ∀ (QR : It → Sto → Prop) (QE : Addr → Sto → Prop), (∀ r S', Qr r S' → QR r S') → (∀ C S', Qx C S' → QE C S') → F (rs ++ drs) S QR QE)
    (h1 : ∀ v M' H' r S', Ext M H M' H' → StoreOk K M' H' S' → VRep K M' H' v r → Qr r S' → Q v H') (h2 : ∀ M' H' C S', Ext M H M' H' → StoreOk K M' H' S' → Qx C S' → E (.ref C) none H') : spF K N F (vs ++ dvs) H Q E :=
  ⟨M, S, rs ++ drs, s, VReps.append r (rd M H), hl, hF _ _ (fun r S' q v M' H' e s' hv => h1 v M' H' r S' e s' hv q) fun C S' q M' H' e s' => h2 M' H' C S' e s' q⟩
/-- the wish about errors, at these slots -/
abbrev eAt (W : WX) (σ : Sig) : XK := fun cls d H => W cls d σ H
theorem evx_call (c : Cxo X W k) (O : OkF X.prog X.w X.K X.mg X.base j n ps drs F) (hj : j ≤ k) (ha : EvA X (e :: es) G S rs S1) (hl : (rs ++ drs).length = ps.length)
    (hF : ∀ (QR : It → Sto → Prop) (QE : Addr → Sto → Prop), (∀ r S', Qr r S' → QR r S') → (∀ C S', Qx C S' → QE C S') → F (rs ++ drs) S1 QR QE) (hg : Gl X n := by rfl) (hdb : (n == ("__debug__" : Str)) = false := by decide)
    (he : starEach (e :: es) X.env = (false, eval e X.env) :: starEach es X.env := by rfl) (hpl : (backTo pos (starEach es X.env)).any (·.1) = false := by rfl) : EvX X W (.Call (.Name n p) (e :: es) [] pos) G S Qr Qx := fun M σ H Q s h1 h2 pins s0 I => by
  obtain ⟨f, fd, dvs, dus, hm, hk, hb, hd, rd, ok⟩ := O.ex
  refine wpAny_Call_Name_kw (ld_glob I hg hm ?_ hdb)
  refine PySem.W.callWith_K (h₀ := X.base) I.ok.mod.kin hk ?_ he hpl
  refine thn ((pa_s (es := e :: es)).run pos pins s0 σ H _ I (ha M σ H (fun vs H1 => ∃ M1, Ext M H M1 H1 ∧ Stt X.K M1 H1 S1 G σ ∧ VReps X.K M1 H1 vs rs) s fun vs M' H' e' s' r' => ⟨M', e', s', r'⟩)) fun us s1 ⟨vs, H1, I1, r1, M1, e1, t1, q1⟩ => ⟨I1.kIn, ?_⟩
  exact run_fnAt (E := eAt W σ) ok (c.hr.mono hj) hb hd (fun e s' cx => passAt c.tk σ pins H1 s1 e s' I1 cx) I1 r1 (spF_of t1.sto q1 rd hl hF (fun v M' H' r S' e2 s2 hv q => h1 v M' H' r S' (e1.trans e2) (t1.mono e2 s2) hv q) fun M' H' C S' e2 s2 q => h2 M' H' C S' (e1.trans e2) (t1.mono e2 s2) q)
theorem evx_call0 (c : Cxo X W k) (O : OkF X.prog X.w X.K X.mg X.base j n ps drs F) (hj : j ≤ k) (hl : drs.length = ps.length)
    (hF : ∀ (QR : It → Sto → Prop) (QE : Addr → Sto → Prop), (∀ r S', Qr r S' → QR r S') → (∀ C S', Qx C S' → QE C S') → F drs S QR QE) (hg : Gl X n := by rfl) (hdb : (n == ("__debug__" : Str)) = false := by decide) : EvX X W (.Call (.Name n p) [] [] pos) G S Qr Qx := fun M σ H Q s h1 h2 pins s0 I => by
  obtain ⟨f, fd, dvs, dus, hm, hk, hb, hd, rd, ok⟩ := O.ex
  refine wpAny_Call_Name_kw (ld_glob I hg hm ?_ hdb)
  refine PySem.W.callWith_K0 I.kIn hk ?_
  exact run_fnAt (us := []) (E := eAt W σ) (vs := []) ok (c.hr.mono hj) hb hd (fun e s' cx => passAt c.tk σ pins H s0 e s' I cx) I .nil (spF_of (rs := []) s.sto .nil rd hl hF (fun v M' H' r S' e2 s2 hv q => h1 v M' H' r S' e2 (s.mono e2 s2) hv q) fun M' H' C S' e2 s2 q => h2 M' H' C S' e2 (s.mono e2 s2) q)
/-! ### instances -/
theorem fs_look {K : PySem.W.Frag} {M : List Addr} {H : Hp} {f : Str} : ∀ {ps : List (Str × V)} {fs : List (Str × It)}, Paired (fun (p : Str × V) (q : Str × It) => p.1 = q.1 ∧ VRep K M H p.2 q.2) ps fs →
    (∀ r, fs.lookup f = some r → ∃ v, ps.lookup f = some v ∧ VRep K M H v r) ∧ (fs.lookup f = none → ps.lookup f = none)
  | _, _, .nil => ⟨fun _ h => (nomatch (show (none : Option It) = some _ from h)), fun _ => rfl⟩
  | (pn, pv') :: ps, (qn, qv) :: fs, .cons h t => by
    obtain ⟨h1, h2⟩ := h
    have e : pn = qn := h1
    subst e
    obtain ⟨ih1, ih2⟩ := fs_look t
    rw [List.lookup_cons, List.lookup_cons]
    cases q : f == pn with
    | true => exact ⟨fun r e => ⟨pv', rfl, by cases e; exact h2⟩, fun e => (nomatch e)⟩
    | false => exact ⟨ih1, ih2⟩
/-- o.m(e, ..) -/
theorem evx_meth {fs : List (Str × It)} {i : Nat} {pl : Sem Bool} (c : Cxo X W k) (O : OkM X.prog X.w X.K X.mg X.base j C m ps drs F) (hj : j ≤ k) (ho : Ev X o G S (.o i) S1) (hi : S1[i]? = some (.ins C fs)) (ha : EvA X (e :: es) G S1 rs S2) (hl : (.o i :: (rs ++ drs) : List It).length = ps.length)
    (hF : ∀ (QR : It → Sto → Prop) (QE : Addr → Sto → Prop), (∀ r S', Qr r S' → QR r S') → (∀ C S', Qx C S' → QE C S') → F (.o i :: (rs ++ drs)) S2 QR QE) (hnm : fs.lookup m = none := by rfl)
    (hst : starEach (e :: es) X.env = (false, eval e X.env) :: starEach es X.env := by rfl) (hpl : (backTo pos (starEach es X.env)).any (·.1) = false := by rfl)
    (ht : eval (.Call (.Attribute o m apos) (e :: es) [] pos) X.env = (do
      let ov ← eval o X.env
      standAt apos.atName
      let (f, first) ← holding [ov] (getMethod ov m pl)
      callWith pos f first (backTo pos (starEach (e :: es) X.env)) (backToKw pos (keywordEach [] X.env))) := by rfl) : EvX X W (.Call (.Attribute o m apos) (e :: es) [] pos) G S Qr Qx := fun M σ H Q s h1 h2 pins s0 I => by
  obtain ⟨f, fd, dvs, dus, hc, hm, hb, hd, rd, ok⟩ := O.ex
  refine PySem.W.methodCall_KW (pl := pl) (thn ((pe_s (e := o)).run pins s0 σ H _ I (ho M σ H (fun v H1 => ∃ M1, Ext M H M1 H1 ∧ Stt X.K M1 H1 S1 G σ ∧ VRep X.K M1 H1 v (.o i)) s fun v M' H' e' s' r' => ⟨M', e', s', r'⟩)) fun u s1 ⟨v, H1, I1, rx, M1, e1, t1, q1⟩ => ?_) ht
  obtain ⟨ad, hmi, ev⟩ := id q1
  obtain ⟨dx, pf, hins, hpf⟩ := t1.sto.rep i ad _ hmi hi
  rw [ev] at rx
  obtain rfl : u = Value.ref ad := rx
  refine getmeth_ok I1 hins hc hm ((fs_look hpf).2 hnm) ?_
  refine PySem.W.callWith_K (first := [.ref ad]) (h₀ := X.base) I.ok.mod.kin hm.kp (thn ((pa_s (es := e :: es)).run pos pins s1 σ H1 _ I1 (ha M1 σ H1 (fun vs H2 => ∃ M2, Ext M1 H1 M2 H2 ∧ Stt X.K M2 H2 S2 G σ ∧ VReps X.K M2 H2 vs rs) t1 fun vs M' H' e' s' r' => ⟨M', e', s', r'⟩)) fun us s2 ⟨vs, H2, I2, r, M2, e2, t2, q2⟩ => ⟨I2.kIn, ?_⟩) hst hpl
  have q1' : VRep X.K M2 H2 (.ref ad) (.o i) := by rw [← ev]; exact q1.ext e2
  exact run_fnAt (E := eAt W σ) (us := .ref ad :: us) (vs := .ref ad :: vs) ok (c.hr.mono hj) hb hd (fun e s' cx => passAt c.tk σ pins H2 s2 e s' I2 cx) I2 (.cons rfl r)
    (spF_of (rs := .o i :: rs) t2.sto (.cons q1' q2) rd hl hF (fun v M' H' r S' e3 s3 hv q => h1 v M' H' r S' ((e1.trans e2).trans e3) (t2.mono e3 s3) hv q) fun M' H' C S' e3 s3 q => h2 M' H' C S' ((e1.trans e2).trans e3) (t2.mono e3 s3) q)
/-- o.m() -/
theorem evx_meth0 {fs : List (Str × It)} {i : Nat} {pl : Sem Bool} (c : Cxo X W k) (O : OkM X.prog X.w X.K X.mg X.base j C m ps drs F) (hj : j ≤ k) (ho : Ev X o G S (.o i) S1) (hi : S1[i]? = some (.ins C fs)) (hl : (.o i :: drs : List It).length = ps.length)
    (hF : ∀ (QR : It → Sto → Prop) (QE : Addr → Sto → Prop), (∀ r S', Qr r S' → QR r S') → (∀ C S', Qx C S' → QE C S') → F (.o i :: drs) S1 QR QE) (hnm : fs.lookup m = none := by rfl)
    (ht : eval (.Call (.Attribute o m apos) [] [] pos) X.env = (do
      let ov ← eval o X.env
      standAt apos.atName
      let (f, first) ← holding [ov] (getMethod ov m pl)
      callWith pos f first (backTo pos (starEach [] X.env)) (backToKw pos (keywordEach [] X.env))) := by rfl) : EvX X W (.Call (.Attribute o m apos) [] [] pos) G S Qr Qx := fun M σ H Q s h1 h2 pins s0 I => by
  obtain ⟨f, fd, dvs, dus, hc, hm, hb, hd, rd, ok⟩ := O.ex
  refine PySem.W.methodCall_KW (pl := pl) (thn ((pe_s (e := o)).run pins s0 σ H _ I (ho M σ H (fun v H1 => ∃ M1, Ext M H M1 H1 ∧ Stt X.K M1 H1 S1 G σ ∧ VRep X.K M1 H1 v (.o i)) s fun v M' H' e' s' r' => ⟨M', e', s', r'⟩)) fun u s1 ⟨v, H1, I1, rx, M1, e1, t1, q1⟩ => ?_) ht
  obtain ⟨ad, hmi, ev⟩ := id q1
  obtain ⟨dx, pf, hins, hpf⟩ := t1.sto.rep i ad _ hmi hi
  rw [ev] at rx q1
  obtain rfl : u = Value.ref ad := rx
  refine getmeth_ok I1 hins hc hm ((fs_look hpf).2 hnm) ?_
  exact PySem.W.callWith_K0 (first := [.ref ad]) I1.kIn hm.kp (run_fnAt (E := eAt W σ) (us := [.ref ad]) (vs := [.ref ad]) ok (c.hr.mono hj) hb hd (fun e s' cx => passAt c.tk σ pins H1 s1 e s' I1 cx) I1 (.cons rfl .nil)
    (spF_of (rs := [.o i]) t1.sto (.cons q1 .nil) rd hl hF (fun v M' H' r S' e3 s3 hv q => h1 v M' H' r S' (e1.trans e3) (t1.mono e3 s3) hv q) fun M' H' C S' e3 s3 q => h2 M' H' C S' (e1.trans e3) (t1.mono e3 s3) q))
/-- a new instance runs its __init__ -/
theorem run_makeAt {CX : CXT} {f : Addr} {fd : FuncData} {sp : Sp} {dvs : List V} {dvu : List Value} {E : XK} {pins : List (Addr × Obj)} {σ : Sig} {H : Hp} {s : Shared} {Q : VK} {us : List Value} {vs : List V} (M : Mk X.K C f) (F : FnOk X.prog X.w X.K X.mg X.base CX j f fd ps sp) (hr : Room (j + 1) X.A) (hb : Binds X.K fd ps dvu) (hd : L2.Vals dvs dvu)
    (hx : PassesAt CX X σ E) (I : Inv X pins σ H s) (r : L2.Vals vs us)
    (h : ∀ x dx, H x = none → H dx = none → dx ≠ x → sp (.ref x :: (vs ++ dvs)) (upd (upd H dx (.own x)) x (.ins C dx [])) (fun v H2 => v = .non ∧ Q (.ref x) H2) E) :
    wpAny (model X.prog X.w) X.A (call (.ref C) us) (EP X pins σ Q) X.xe s := by
  have hq := h (s.heap.objs.size + 1) s.heap.objs.size (I.hok.fresh (Nat.le_succ _)) (I.hok.fresh (Nat.le_refl _)) (Nat.ne_of_lt (Nat.lt_succ_self _))
  have I2 := Inv.made (C := C) I
  have r2 : L2.Vals (V.ref (s.heap.objs.size + 1) :: (vs ++ dvs)) (Value.ref (s.heap.objs.size + 1) :: (us ++ dvu)) := .cons rfl (r.append hd)
  have hl : (Value.ref (s.heap.objs.size + 1) :: us ++ dvu).length = ps.length := by
    have e := r2.length
    rw [F.len _ _ _ _ hq] at e
    exact e.symm
  refine wpAny_call (make_map (f := f) I.kIn M.makes M.init (beq_iff_eq.mp M.fn) (codeAny_mono (F.run _ X.stack _ _ ⟨Value.ref (s.heap.objs.size + 1) :: us, []⟩ (Value.ref (s.heap.objs.size + 1) :: (us ++ dvu)) _ _ E (hr.make C us [])
    (I2.env0.make C us []) (hb _ (Value.ref (s.heap.objs.size + 1) :: us) I2.kIn hl) r2 hq) fun r s' hq' => ?_))
  cases r with
  | error e => exact hx pins _ _ e s' I2 hq'
  | ok fl =>
    cases fl with
    | ret u =>
      obtain ⟨v, H', I3, rv, ev, q3⟩ := I2.after hq'
      subst ev
      exact ⟨rv, ⟨V.ref (s.heap.objs.size + 1), H', I3, rfl, q3⟩⟩
    | next => exact False.elim hq'
    | brk => exact False.elim hq'
    | cont => exact False.elim hq'
/-- C(e, ..) -/
theorem evx_make (c : Cxo X W k) (O : OkC X.prog X.w X.K X.mg X.base j C n ps drs F) (hj : j + 1 ≤ k) (ha : EvA X (e :: es) G S rs S1) (hl : (.o S1.length :: (rs ++ drs) : List It).length = ps.length)
    (hF : ∀ (QR : It → Sto → Prop) (QE : Addr → Sto → Prop), (∀ S', Qr (.o S1.length) S' → QR (.d .none) S') → (∀ C' S' S2 L, S' = S2 ++ L → S1.length ≤ S2.length → (ClS S' → ClS S2) → Qx C' S2 → QE C' S') → F (.o S1.length :: (rs ++ drs)) (S1 ++ [.ins C []]) QR QE)
    (hg : Gl X n := by rfl) (hdb : (n == ("__debug__" : Str)) = false := by decide)
    (he : starEach (e :: es) X.env = (false, eval e X.env) :: starEach es X.env := by rfl) (hpl : (backTo pos (starEach es X.env)).any (·.1) = false := by rfl) : EvX X W (.Call (.Name n p) (e :: es) [] pos) G S Qr Qx := fun M σ H Q s h1 h2 pins s0 I => by
  obtain ⟨f, fd, dvs, dus, hm, hk, hb, hd, rd, ok⟩ := O.ex
  refine wpAny_Call_Name_kw (ld_glob I hg hm ?_ hdb)
  refine PySem.W.callWith_K (h₀ := X.base) I.ok.mod.kin hk.kp ?_ he hpl
  refine thn ((pa_s (es := e :: es)).run pos pins s0 σ H _ I (ha M σ H (fun vs H1 => ∃ M1, Ext M H M1 H1 ∧ Stt X.K M1 H1 S1 G σ ∧ VReps X.K M1 H1 vs rs) s fun vs M' H' e' s' r' => ⟨M', e', s', r'⟩)) fun us s1 ⟨vs, H1, I1, r1, M1, e1, t1, q1⟩ => ⟨I1.kIn, ?_⟩
  refine run_makeAt (E := eAt W σ) hk ok (c.hr.mono hj) hb hd (fun pins' H' s' e s'' I' cx => passAt c.tk σ pins' H' s' e s'' I' cx) I1 r1 fun xa dx hxa hdx hne => ?_
  have hx' : (upd H1 dx (.own xa)) xa = none := by rw [upd_ne (Ne.symm hne)]; exact hxa
  have e2 : Ext M1 H1 M1 (upd H1 dx (.own xa)) := Ext.fresh hdx
  have e3 : Ext M1 (upd H1 dx (.own xa)) (M1 ++ [xa]) (upd (upd H1 dx (.own xa)) xa (.ins C dx [])) := Ext.own hx'
  have s3 : StoreOk X.K (M1 ++ [xa]) (upd (upd H1 dx (.own xa)) xa (.ins C dx [])) (S1 ++ [.ins C []]) := (t1.sto.fresh hdx).own hx' ⟨dx, [], upd_same, .nil⟩
  have hn : (M1 ++ [xa])[S1.length]? = some xa := by rw [← t1.sto.len, List.getElem?_append_right (Nat.le_refl _), Nat.sub_self]; rfl
  have q3 : VReps X.K (M1 ++ [xa]) (upd (upd H1 dx (.own xa)) xa (.ins C dx [])) (.ref xa :: vs) (.o S1.length :: rs) := .cons ⟨xa, hn, rfl⟩ (VReps.ext (e2.trans e3) q1)
  refine spF_of (Qr := fun r S' => r = .d .none ∧ Qr (.o S1.length) S') (Qx := fun C' S' => ∃ S2 L, S' = S2 ++ L ∧ S1.length ≤ S2.length ∧ (ClS S' → ClS S2) ∧ Qx C' S2) s3 q3 rd hl (fun QR QE k1 k2 => hF QR QE (fun S' q => k1 _ _ ⟨rfl, q⟩) fun C' S' S2 L h3 h4 h5 h6 => k2 _ _ ⟨S2, L, h3, h4, h5, h6⟩) (fun v M' H' r S' e4 s4 hv q => ?_) fun M' H' C' S' e4 s4 q => ?_
  · obtain ⟨hr0, q⟩ := q
    rw [hr0] at hv
    refine ⟨vr_none hv, h1 (.ref xa) M' H' (.o S1.length) S' (((e1.trans e2).trans e3).trans e4) (t1.mono ((e2.trans e3).trans e4) s4) ⟨xa, e4.get hn, rfl⟩ q⟩
  · obtain ⟨S2, L, rfl, hle, hcl, q⟩ := q
    have e5 : Ext M1 H1 (M'.take S2.length) H' := ((e2.trans e3).trans e4).take (by rw [t1.sto.len]; exact hle)
    exact h2 _ H' C' S2 (e1.trans e5) (t1.mono e5 (s4.take (hcl s4.closed))) q
/-- o.f -/
theorem ev_fld {fs : List (Str × It)} {f : Str} {i : Nat} (hc : Cls X.K C) (hn : NoAttr X.K C f) (ho : Ev X o G S (.o i) S1) (hi : S1[i]? = some (.ins C fs)) (hf : fs.lookup f = some r := by rfl) (hb : attributeBase o f X.env (eval o X.env) = eval o X.env := by rfl) : Ev X (.Attribute o f pos) G S r S1 := fun M σ H Q s q =>
  toE (pe_fld pe_s hb) (ho M σ H _ s fun v M1 H1 e1 t1 q1 => by
    obtain ⟨ad, hmi, ev⟩ := q1
    obtain ⟨dx, pf, hins, hpf⟩ := t1.sto.rep i ad _ hmi hi
    obtain ⟨u, hu, ru⟩ := (fs_look hpf).1 r hf
    exact ⟨ad, C, dx, pf, u, ev, hins, hc, hn, hu, q u M1 H1 e1 t1 ru⟩)
theorem put_paired {K : PySem.W.Frag} {M : List Addr} {H : Hp} {f : Str} {v : V} {r : It} (hv : VRep K M H v r) : ∀ {ps : List (Str × V)} {fs : List (Str × It)}, Paired (fun (p : Str × V) (q : Str × It) => p.1 = q.1 ∧ VRep K M H p.2 q.2) ps fs →
    fs.lookup f = none → Paired (fun (p : Str × V) (q : Str × It) => p.1 = q.1 ∧ VRep K M H p.2 q.2) (putF f v ps) (fs ++ [(f, r)])
  | _, _, .nil, _ => .cons ⟨rfl, hv⟩ .nil
  | (pn, pv') :: ps, (qn, qv) :: fs, .cons h t, hl => by
    obtain ⟨h1, h2⟩ := h
    have e : pn = qn := h1
    subst e
    rw [List.lookup_cons] at hl
    cases q : f == pn with
    | true => rw [q] at hl; cases hl
    | false =>
      rw [q] at hl
      have ne : pn ≠ f := fun z => by rw [z] at q; simp at q
      have e2 : putF f v ((pn, pv') :: ps) = (pn, pv') :: putF f v ps := by
        show (if pn = f then (pn, v) :: ps else (pn, pv') :: putF f v ps) = _
        rw [if_neg ne]
      rw [e2]
      exact .cons ⟨rfl, h2⟩ (put_paired hv t hl)
/-- o.f = e, f a new field -/
theorem ws_fldN {fs : List (Str × It)} {f : Str} {i : Nat} (hc : Cls X.K C) (hn : NoAttr X.K C f) (he : Ev X e G S r S1) (ho : Ev X o G S1 (.o i) S2) (hi : S2[i]? = some (.ins C fs)) (hf : fs.lookup f = none) (hlen : fs.length ≤ 100) (q : P.nx G (S2.set i (.ins C (fs ++ [(f, r)]))))
    (hs : swapsWith e (some (.Attribute o f pos')) pos.line X.env = pure false := by rfl) : WS X W (.Assign [.Attribute o f pos'] e pos) G S P := fun M σ H D s m =>
  toS (ps_fld pe_s pe_s hs) (he M σ H _ s fun v M1 H1 e1 t1 r1 => ho M1 σ H1 _ t1 fun u M2 H2 e2 t2 r2 => by
    obtain ⟨ad, hmi, ev⟩ := r2
    obtain ⟨dx, pf, hins, hpf⟩ := t2.sto.rep i ad _ hmi hi
    have e3 : Ext M2 H2 M2 (upd H2 ad (.ins C dx (putF f v pf))) := Ext.put (List.mem_of_getElem? hmi)
    have hpf' := Paired.mapP hpf fun _ _ (q : _ ∧ VRep X.K M2 H2 _ _) => (⟨q.1, q.2.ext e3⟩ : _ ∧ VRep X.K M2 (upd H2 ad (.ins C dx (putF f v pf))) _ _)
    have s3 := t2.sto.put (w := .ins C (fs ++ [(f, r)])) hmi ⟨dx, putF f v pf, upd_same, put_paired ((r1.ext e2).ext e3) hpf' hf⟩
    refine ⟨ad, C, dx, pf, ev, hins, hc, hn, by rw [Paired.length hpf]; omega, ?_⟩
    exact m.nx M2 σ _ G _ ((e1.trans e2).trans e3) (t2.mono e3 s3) q)
end
end Cu
/-! CuD: what is walked, loops, comprehensions. -/
namespace Cu
open PySem PySem.Spec PyProof.Rows L2
theorem fz_at {M : List Addr} {H : Hp} : ∀ {ds : List PyData} {vs : List V} {i : Nat} {v : V}, FzAll M H vs ds → vs[i]? = some v → ∃ d, ds[i]? = some d ∧ Fz M H v d
  | [], _, i, v, h, e => by cases h; simp at e
  | d :: ds, _, 0, v, h, e => by
    cases h with
    | cons h1 h2 =>
      cases e
      exact ⟨d, rfl, h1⟩
  | d :: ds, _, i + 1, v, h, e => by
    cases h with
    | cons h1 h2 => exact fz_at (i := i) h2 e
theorem reps_at {K : PySem.W.Frag} {M : List Addr} {H : Hp} : ∀ {rs : List It} {vs : List V} {i : Nat} {v : V}, VReps K M H vs rs → vs[i]? = some v → ∃ r, rs[i]? = some r ∧ VRep K M H v r
  | _, _, i, v, .nil, e => by simp at e
  | _, _, 0, v, .cons h1 h2, e => by
    cases e
    exact ⟨_, rfl, h1⟩
  | _, _, i + 1, v, .cons h1 h2, e => reps_at (i := i) h2 e
theorem reps_get {K : PySem.W.Frag} {M : List Addr} {H : Hp} : ∀ {rs : List It} {vs : List V} {i : Nat} {r : It}, VReps K M H vs rs → rs[i]? = some r → ∃ v, vs[i]? = some v ∧ VRep K M H v r
  | _, _, i, v, .nil, e => by simp at e
  | _, _, 0, v, .cons h1 h2, e => by
    cases e
    exact ⟨_, rfl, h1⟩
  | _, _, i + 1, v, .cons h1 h2, e => reps_get (i := i) h2 e
/-- the iterator J yields the items rs, one a turn, as long as the store is as C says -/
structure Wk (K : PySem.W.Frag) (J : L2.It) (C : Sto → Prop) (M1 : List Addr) (H1 : Hp) (rs : List It) : Prop where
  go : ∀ (i : Nat) (M' : List Addr) (H' : Hp) (S' : Sto), i < rs.length → Ext M1 H1 M' H' → StoreOk K M' H' S' → C S' → J.go i H'
  yl : ∀ (i : Nat) (M' : List Addr) (H' : Hp) (S' : Sto) (x : V) (H2 : Hp) (r : It), rs[i]? = some r → Ext M1 H1 M' H' → StoreOk K M' H' S' → C S' → J.yld i H' x H2 → Ext M' H' M' H2 ∧ StoreOk K M' H2 S' ∧ VRep K M' H2 x r
  st : ∀ (i : Nat) (M' : List Addr) (H' : Hp) (S' : Sto), rs.length ≤ i → Ext M1 H1 M' H' → StoreOk K M' H' S' → C S' → J.stop i H'
/-- iter walks rs -/
def EvI (X : Cx) (tg iter : Expr) (G : Gam) (S : Sto) (rs : List It) (C : Sto → Prop) (S1 : Sto) : Prop := ∃ wi : TI, PI X tg iter wi ∧ ∀ (M : List Addr) (σ : Sig) (H : Hp) (R : L2.It → Hp → Prop), Stt X.K M H S G σ →
  (∀ M1 H1 J, Ext M H M1 H1 → Stt X.K M1 H1 S1 G σ → Wk X.K J C M1 H1 rs → R J H1) → wi σ H R
abbrev anyS : Sto → Prop := fun _ => True
section
variable {X : Cx} {W : WX} {k j : Nat} {G G1 G2 : Gam} {S S1 S2 S3 : Sto} {P : Post} {e a b o iter tg elt : Expr} {es ifs : List Expr} {r y z : It} {rs : List It} {pos pos' p apos : Pos} {st : Stmt} {sts body : List Stmt} {ds : List PyData} {C : Sto → Prop}
theorem wk_list {K : PySem.W.Frag} {M1 : List Addr} {H1 : Hp} {ad : Addr} {xs : List V} (hL : NdL M1 H1 ad xs) (hA : FzAll M1 H1 xs ds) : Wk K (Itl K ad) anyS M1 H1 (ds.map .d) where
  go := fun i M' H' S' hi e s _ => ⟨xs, xs[i]'(by rw [fz_len hA]; simpa using hi), (hL.ext e).sq, List.getElem?_eq_getElem _⟩
  yl := fun i M' H' S' x H2 r hr e s _ y => by
    obtain ⟨rfl, y⟩ := y
    have hx := y xs (hL.ext e).sq
    obtain ⟨d, h1, h2⟩ := fz_at hA hx
    rw [List.getElem?_map, h1] at hr
    cases hr
    exact ⟨Ext.refl, s, Fz.ext e h2⟩
  st := fun i M' H' S' hi e s _ => ⟨xs, (hL.ext e).sq, by rw [fz_len hA]; simpa using hi⟩
theorem wk_tup {K : PySem.W.Frag} {M1 : List Addr} {H1 : Hp} {ad : Addr} {xs : List V} (hL : NdT M1 H1 ad xs) (hA : FzAll M1 H1 xs ds) : Wk K (Itt K ad) anyS M1 H1 (ds.map .d) where
  go := fun i M' H' S' hi e s _ => ⟨xs, xs[i]'(by rw [fz_len hA]; simpa using hi), (hL.ext e).sq, List.getElem?_eq_getElem _⟩
  yl := fun i M' H' S' x H2 r hr e s _ y => by
    obtain ⟨rfl, y⟩ := y
    have hx := y xs (hL.ext e).sq
    obtain ⟨d, h1, h2⟩ := fz_at hA hx
    rw [List.getElem?_map, h1] at hr
    cases hr
    exact ⟨Ext.refl, s, Fz.ext e h2⟩
  st := fun i M' H' S' hi e s _ => ⟨xs, (hL.ext e).sq, by rw [fz_len hA]; simpa using hi⟩
/-- a list of data -/
theorem evi_list (hi : Ev X iter G S (.d (.list ds)) S1) : EvI X tg iter G S (ds.map .d) anyS S1 := ⟨_, pi_list pe_s, fun M σ H R s q => hi M σ H _ s fun v M1 H1 e1 t1 r1 => by
  have r1' : Fz M1 H1 v (.list ds) := r1
  cases r1' with
  | lst hL hA => exact ⟨_, rfl, ⟨_, hL.sq⟩, q M1 H1 _ e1 t1 (wk_list hL hA)⟩⟩
/-- a tuple of data -/
theorem evi_tup (hi : Ev X iter G S (.d (.tuple ds)) S1) : EvI X tg iter G S (ds.map .d) anyS S1 := ⟨_, pi_tup pe_s, fun M σ H R s q => hi M σ H _ s fun v M1 H1 e1 t1 r1 => by
  have r1' : Fz M1 H1 v (.tuple ds) := r1
  cases r1' with
  | tup hL hA => exact ⟨_, rfl, ⟨_, hL.sq⟩, q M1 H1 _ e1 t1 (wk_tup hL hA)⟩⟩
/-- an owned list that stays as it is -/
theorem evi_own {n : Nat} (hi : Ev X iter G S (.o n) S1) (hn : S1[n]? = some (.lst rs)) : EvI X tg iter G S rs (fun S' => S'[n]? = some (.lst rs)) S1 := ⟨_, pi_list pe_s, fun M σ H R s q => hi M σ H _ s fun v M1 H1 e1 t1 r1 => by
  obtain ⟨ad, had, ev⟩ := r1
  obtain ⟨vs0, hv0, hr0⟩ := t1.sto.rep n ad _ had hn
  refine ⟨ad, ev, ⟨vs0, .of hv0⟩, q M1 H1 _ e1 t1 ⟨fun i M' H' S' hi e s hC => ?_, fun i M' H' S' x H2 r hr e s hC y => ?_, fun i M' H' S' hi e s hC => ?_⟩⟩
  · obtain ⟨vs, hv, hr⟩ := s.rep n ad _ (e.get had) hC
    exact ⟨vs, vs[i]'(by rw [hr.len]; exact hi), .of hv, List.getElem?_eq_getElem _⟩
  · obtain ⟨vs, hv, hr'⟩ := s.rep n ad _ (e.get had) hC
    obtain ⟨rfl, y⟩ := y
    have hx := y vs (.of hv)
    obtain ⟨r', h1, h2⟩ := reps_at hr' hx
    rw [hr] at h1
    cases h1
    exact ⟨Ext.refl, s, h2⟩
  · obtain ⟨vs, hv, hr⟩ := s.rep n ad _ (e.get had) hC
    exact ⟨vs, .of hv, by rw [hr.len]; exact hi⟩⟩
def rngI (lo : Int) (n : Nat) : List It := (List.range n).map fun (i : Nat) => It.d (.int (lo + (i : Int)))
theorem rngI_len (lo : Int) (n : Nat) : (rngI lo n).length = n := by unfold rngI; rw [List.length_map, List.length_range]
theorem rngI_at {lo : Int} {n i : Nat} {r : It} (h : (rngI lo n)[i]? = some r) : i < n ∧ r = .d (.int (lo + (i : Int))) := by
  unfold rngI at h
  rw [List.getElem?_map] at h
  cases e : (List.range n)[i]? with
  | none => rw [e] at h; cases h
  | some m =>
    rw [e] at h
    obtain ⟨hl, hm⟩ := List.getElem?_eq_some_iff.mp e
    rw [List.getElem_range] at hm
    subst hm
    cases h
    exact ⟨by simpa using hl, rfl⟩
theorem wk_range {K : PySem.W.Frag} {M1 : List Addr} {H1 : Hp} {lo : Int} {n : Nat} : Wk K (Itr lo n) anyS M1 H1 (rngI lo n) where
  go := fun i M' H' S' hi e s _ => by rw [rngI_len] at hi; exact hi
  yl := fun i M' H' S' x H2 r hr e s _ y => by
    obtain ⟨rfl, rfl⟩ := y
    obtain ⟨_, rfl⟩ := rngI_at hr
    exact ⟨Ext.refl, s, Fz.int _⟩
  st := fun i M' H' S' hi e s _ => by rw [rngI_len] at hi; exact hi
/-- range(n) -/
theorem evi_range1 {n : Int} {a1 : Expr} (hm : X.mg "range" = none) (hi : Ev X a1 G S (.d (.int n)) S1) (hb : -(2 ^ 62) ≤ n ∧ n < 2 ^ 62) (hR : Gl X "range" := by rfl) (hst : starEach [a1] X.env = [(false, eval a1 X.env)] := by rfl) : EvI X tg (.Call (.Name "range" p) [a1] [] pos') G S (rngI 0 n.toNat) anyS S1 :=
  ⟨_, pi_range1 hR hm pa_s hst, fun M σ H R s q => toA (pa_cons pe_s pa_nil hst) (hi M σ H _ s fun v M1 H1 e1 t1 r1 => ⟨n, by rw [vr_int r1], hb.1, hb.2, q M1 H1 _ e1 t1 wk_range⟩)⟩
/-- range(a, b) -/
theorem evi_range2 {lo hi : Int} {a1 a2 : Expr} (hm : X.mg "range" = none) (h1 : Ev X a1 G S (.d (.int lo)) S1) (h2 : Ev X a2 G S1 (.d (.int hi)) S2) (hb : -(2 ^ 62) ≤ lo ∧ lo < 2 ^ 62 ∧ -(2 ^ 62) ≤ hi ∧ hi < 2 ^ 62)
    (hR : Gl X "range" := by rfl) (hst : starEach [a1, a2] X.env = [(false, eval a1 X.env), (false, eval a2 X.env)] := by rfl) (hst2 : starEach [a2] X.env = [(false, eval a2 X.env)] := by rfl) : EvI X tg (.Call (.Name "range" p) [a1, a2] [] pos') G S (rngI lo (hi - lo).toNat) anyS S2 :=
  ⟨_, pi_range2 hR hm pa_s hst hst2, fun M σ H R s q => toA (pa_cons pe_s (pa_cons pe_s pa_nil hst2) (by rw [hst, hst2])) (h1 M σ H _ s fun v M1 H1 e1 t1 r1 => h2 M1 σ H1 _ t1 fun v2 M2 H2 e2 t2 r2 => ⟨lo, hi, by rw [vr_int r1, vr_int r2], hb, q M2 H2 _ (e1.trans e2) t2 wk_range⟩)⟩
/-- the wish of a loop's turn -/
abbrev Post.turn (P : Post) (N : Gam → Sto → Prop) : Post := { nx := N, ct := N, bk := P.nx, rt := P.rt, xc := P.xc }
/-- for x in what walks rs: J by the turn, the names, the store -/
theorem ws_for (c : Cxo X W k) (hi : EvI X tg iter G S rs C S1) (J : Nat → Gam → Sto → Prop) (tgt : It → Gam → Gam) (h0 : J 0 G S1) (hC : ∀ i G' S', J i G' S' → C S')
    (hg : ∀ i r G' S', rs[i]? = some r → J i G' S' → EvG X tg r G' S' (tgt r G') S')
    (hs : ∀ i r G' S', rs[i]? = some r → J i G' S' → WSs X W body (tgt r G') S' (P.turn (J (i + 1)))) (hd : ∀ G' S', J rs.length G' S' → P.nx G' S')
    (hf : ∀ x, foldedSetIterable iter X.env x = pure x := by intro _; rfl) : WS X W (.For tg iter body [] pos) G S P := fun M σ H D s m => by
  obtain ⟨wi, hpi, hw⟩ := hi
  refine toS (ps_for c.po c.calm hpi pg_s pss_s hf) (hw M σ H _ s fun M1 H1 Jt e1 t1 wk => ?_)
  refine ⟨fun i m' σ' H' => (m' = rs.length - i ∧ i ≤ rs.length) ∧ ∃ M' G' S', Ext M1 H1 M' H' ∧ Stt X.K M' H' S' G' σ' ∧ J i G' S', ⟨_, ⟨rfl, Nat.zero_le _⟩, M1, G, S1, Ext.refl, t1, h0⟩, fun i m' σ' H' hw => ?_⟩
  obtain ⟨⟨rfl, hi'⟩, M', G', S', e', t', hJ⟩ := hw
  have c' := hC i G' S' hJ
  by_cases hlt : i < rs.length
  · refine .inr ⟨wk.go i M' H' S' hlt e' t'.sto c', fun σ2 H2 => ∃ M2 G2 S2, Ext M1 H1 M2 H2 ∧ Stt X.K M2 H2 S2 G2 σ2 ∧ J (i + 1) G2 S2, fun σ2 H2 q => ⟨rs.length - (i + 1), by omega, ⟨rfl, by omega⟩, q⟩, fun x H2 y => ?_⟩
    have hri : rs[i]? = some rs[i] := List.getElem?_eq_getElem hlt
    obtain ⟨e2, s2, v2⟩ := wk.yl i M' H' S' x H2 _ hri e' t'.sto c' y
    have t2 : Stt X.K M' H2 S' G' σ' := t'.mono e2 s2
    have e12 := e'.trans e2
    refine hg i _ G' S' hri hJ M' σ' H2 x _ t2 v2 fun σ3 M3 H3 e3 t3 => ?_
    have e13 := e12.trans e3
    exact hs i _ G' S' hri hJ M3 σ3 H3 _ t3 ⟨fun M4 σ4 H4 G4 S4 x t q => ⟨M4, G4, S4, e13.trans x, t, q⟩, fun v M4 H4 r S4 x => m.rt v M4 H4 r S4 ((e1.trans e13).trans x), fun M4 σ4 H4 G4 S4 x => m.nx M4 σ4 H4 G4 S4 ((e1.trans e13).trans x), fun M4 σ4 H4 G4 S4 x t q => ⟨M4, G4, S4, e13.trans x, t, q⟩, fun M4 σ4 H4 G4 C4 S4 x => m.xc M4 σ4 H4 G4 C4 S4 ((e1.trans e13).trans x)⟩
  · have ei : i = rs.length := by omega
    subst ei
    exact .inl ⟨wk.st _ M' H' S' (Nat.le_refl _) e' t'.sto c', m.nx M' σ' H' G' S' (e1.trans e') t' (hd G' S' hJ)⟩
/-- while t: by a word of the names and the store, and a measure -/
theorem ws_while {t : Expr} (c : Cxo X W k) (J : Nat → Gam → Sto → Prop) (n0 : Nat) (h0 : J n0 G S)
    (hs : ∀ n G' S', J n G' S' → ∃ b S2, EvT X t G' S' b S2 ∧ (b = true → WSs X W body G' S2 (P.turn fun G3 S3 => ∃ n', n' < n ∧ J n' G3 S3)) ∧ (b = false → P.nx G' S2)) : WS X W (.While t body [] pos) G S P := fun M σ H D s m =>
  toS (ps_while c.po pt_s pss_s) (by
    refine ⟨fun n σ' H' => ∃ M' G' S', Ext M H M' H' ∧ Stt X.K M' H' S' G' σ' ∧ J n G' S', ⟨n0, M, G, S, Ext.refl, s, h0⟩, ?_⟩
    rintro n σ' H' ⟨M', G', S', e', t', hJ⟩
    obtain ⟨b, S2, hb, h1, h2⟩ := hs n G' S' hJ
    refine hb M' σ' H' _ t' fun M2 H2 e2 t2 => ?_
    cases b with
    | true =>
      refine iteT ⟨fun σ3 H3 => ∃ M3 G3 S3, Ext M H M3 H3 ∧ Stt X.K M3 H3 S3 G3 σ3 ∧ ∃ n', n' < n ∧ J n' G3 S3, fun σ3 H3 ⟨M3, G3, S3, e3, t3, n', hn', q⟩ => ⟨n', hn', M3, G3, S3, e3, t3, q⟩, ?_⟩
      exact h1 rfl M2 σ' H2 _ t2 ⟨fun M3 σ3 H3 G3 S3 x t q => ⟨M3, G3, S3, (e'.trans e2).trans x, t, q⟩, fun v M' H' r S' x => m.rt v M' H' r S' ((e'.trans e2).trans x), fun M' σ' H' G' S' x => m.nx M' σ' H' G' S' ((e'.trans e2).trans x), fun M3 σ3 H3 G3 S3 x t q => ⟨M3, G3, S3, (e'.trans e2).trans x, t, q⟩, fun M' σ' H' G' C S' x => m.xc M' σ' H' G' C S' ((e'.trans e2).trans x)⟩
    | false => exact iteF (m.nx M2 σ' H2 G' S2 (e'.trans e2) t2 (h2 rfl)))
end
/-! ### comprehensions -/
/-- the contexts of a comprehension's block -/
abbrev blkX (X : Cx) (scope : Scope) (s : Shared) (H : Hp) (C : Addr) (cl : List (Str × Addr)) (fp : List Addr) : Cx := X.blk s H scope (compEnvC scope cl C X.env) fp
theorem Cxo.blk {X : Cx} {W : WX} {k : Nat} (c : Cxo X W k) (scope : Scope) (s : Shared) (H : Hp) (C : Addr) (cl : List (Str × Addr)) (fp : List Addr) : Cxo (blkX X scope s H C cl fp) (fun _ _ _ _ => False) k :=
  ⟨c.calm, c.nd, fun _ _ x => by
    obtain ⟨_, _, _, _, _, _, _, _, _, _, _, _, _, _, _, _, z⟩ := x
    exact z.elim, PassesOwn.never, c.hr⟩
def wipeG (G : Gam) (vs : List Nat) : Gam := vs.foldr (fun i g => g.set i none) G
/-- a target of a comprehension: it stores into slots of vs alone -/
structure TgOk (X : Cx) (scope : Scope) (tg : Expr) (vs : List Nat) (bind : It → Gam → Option Gam) : Prop where
  ex : ∃ g : TG, (∀ s H C cl fp, PG (blkX X scope s H C cl fp) tg g) ∧ ∀ (M : List Addr) (H : Hp) (S : Sto) (G G' : Gam) (σ : Sig) (v : V) (r : It) (Q : Sig → Hp → Prop), Stt X.K M H S G σ → VRep X.K M H v r → bind r G = some G' →
    (∀ σ2, Stt X.K M H S G' σ2 → wipe σ2 vs = wipe σ vs → Q σ2 H) → g v σ H Q
theorem wipe_set {i : Nat} {v : Option V} : ∀ {vs : List Nat} (σ : Sig), i ∈ vs → wipe (σ.set i v) vs = wipe σ vs
  | j :: vs, σ, h => by
    show (wipe (σ.set i v) vs).set j none = (wipe σ vs).set j none
    by_cases hi : i ∈ vs
    · rw [wipe_set σ hi]
    · have e : i = j := by
        rcases List.mem_cons.mp h with q | q
        · exact q
        · exact absurd q hi
      subst e
      have out : ∀ {vs : List Nat}, i ∉ vs → wipe (σ.set i v) vs = (wipe σ vs).set i v := by
        intro vs
        induction vs with
        | nil => intro _; rfl
        | cons l r ih =>
          intro hn
          have h1 : i ≠ l := fun z => hn (by rw [z]; exact List.mem_cons_self)
          show (wipe (σ.set i v) r).set l none = ((wipe σ r).set l none).set i v
          rw [ih fun z => hn (List.mem_cons_of_mem _ z), List.set_comm _ _ h1]
      rw [out hi, List.set_set]
section
variable {X : Cx} {W : WX} {k j : Nat} {G G1 G2 : Gam} {S S1 S2 S3 : Sto} {P : Post} {e a b o iter tg elt : Expr} {es ifs : List Expr} {r y z : It} {rs : List It} {pos pos' p apos : Pos} {st : Stmt} {sts body : List Stmt} {ds : List PyData} {scope : Scope} {own : List (Str × Nat)} {vs : List Nat}
theorem tg_name (i : Nat) {n : Str} (nd : X.N.Nodup) (hv : i ∈ vs := by decide) (hi : X.N[i]? = some n := by rfl) (hx : scope.names.lookup n = some .local := by rfl) : TgOk X scope (.Name n pos) vs (fun r G => some (G.set i (some r))) := by
  refine ⟨gName i, fun s H C cl fp => ?_, fun M H S G G' σ v r Q t hr hb q => ?_⟩
  · have hx' : (relS scope X.env.scope).names.lookup n = some .local := lookup_relS_keep (by decide) hx
    exact pg_name (i := i) nd hi (.inl hx') (.inr hx')
  · cases hb
    exact q _ (t.set hr) (wipe_set σ hv)
def setAll : List Nat → List It → Gam → Option Gam
  | [], [], G => some G
  | i :: is, r :: rs, G => setAll is rs (G.set i (some r))
  | _, _, _ => none
theorem gs_names {s0 : Shared} {H0 : Hp} {C : Addr} {cl : List (Str × Addr)} {fp : List Addr} : ∀ {is : List Nat} {es : List Expr}, (∃ t : TGs, PGs (blkX X scope s0 H0 C cl fp) es t) → True := fun _ => trivial
/-- names in a tuple -/
def gNames : List Nat → TGs
  | [] => gNil
  | i :: is => gCons (gName i) (gNames is)
theorem gNames_ok : ∀ {is : List Nat} {rs : List It} {us : List V} {M : List Addr} {H : Hp} {S : Sto} {G G' : Gam} {σ : Sig} {Q : Sig → Hp → Prop}, (∀ i ∈ is, i ∈ vs) → Stt X.K M H S G σ → VReps X.K M H us rs → setAll is rs G = some G' →
    (∀ σ2, Stt X.K M H S G' σ2 → wipe σ2 vs = wipe σ vs → Q σ2 H) → gNames is us σ H Q
  | [], [], _, M, H, S, G, G', σ, Q, hm, t, r, hb, q => by
    cases r
    cases hb
    exact ⟨rfl, q σ t rfl⟩
  | i :: is, r :: rs, _, M, H, S, G, G', σ, Q, hm, t, hr, hb, q => by
    cases hr with
    | cons h1 h2 =>
      refine ⟨_, _, rfl, ?_⟩
      exact gNames_ok (fun j hj => hm j (List.mem_cons_of_mem _ hj)) (t.set h1) h2 hb fun σ2 t2 w2 => q σ2 t2 (w2.trans (wipe_set σ (hm i List.mem_cons_self)))
  | [], _ :: _, _, _, _, _, _, _, _, _, _, _, _, hb, _ => by cases hb
  | _ :: _, [], _, _, _, _, _, _, _, _, _, _, _, hb, _ => by cases hb
/-- (a, b, ..), the pairs' own PGs -/
theorem tg_tup {j : Nat} (is : List Nat) (hc : X.calm = true) (hp : ∀ s H C cl fp, PGs (blkX X scope s H C cl fp) es (gNames is)) (hv : ∀ i ∈ is, i ∈ vs := by decide) (hn : ∀ s H C cl fp, (assignEach es (blkX X scope s H C cl fp).env).length = is.length := by intros; rfl)
    (hst : ∀ s H C cl fp, (assignEach es (blkX X scope s H C cl fp).env).findIdx? (·.1) = none := by intros; rfl) : TgOk X scope (.Tuple es j pos) vs (fun r G => match r with | .d (.tuple ds) => setAll is (ds.map .d) G | _ => none) := by
  refine ⟨gTup X.K is.length (gNames is), fun s H C cl fp => pg_tup (X := blkX X scope s H C cl fp) hc (hp s H C cl fp) (hn s H C cl fp) (hst s H C cl fp), fun M H S G G' σ v r Q t hr hb q => ?_⟩
  cases r with
  | d x =>
    cases x with
    | tuple ds =>
      have hr' : Fz M H v (.tuple ds) := hr
      cases hr' with
      | tup hT hA =>
        have hlen : ∀ {is : List Nat} {rs : List It} {G G' : Gam}, setAll is rs G = some G' → rs.length = is.length := by
          intro is
          induction is with
          | nil => intro rs G G' h; cases rs with | nil => rfl | cons _ _ => cases h
          | cons i r ih => intro rs G G' h; cases rs with | nil => cases h | cons x xs => exact congrArg Nat.succ (ih h)
        have hl := hlen (show setAll is (ds.map It.d) G = some G' from hb)
        rw [List.length_map] at hl
        exact ⟨_, _, rfl, hT.sq, (fz_len hA).trans hl, gNames_ok hv t (fz_reps hA) hb q⟩
    | _ => cases hb
  | _ => cases hb
theorem pgs_names_nil {X : Cx} : PGs X [] (gNames []) := pgs_nil
theorem pgs_names_cons {X : Cx} {i : Nat} {is : List Nat} {e : Expr} {es : List Expr} (h1 : PG X e (gName i)) (h2 : PGs X es (gNames is)) (hs : (assignEach (e :: es) X.env).map (·.2) = assign e X.env :: (assignEach es X.env).map (·.2) := by rfl) : PGs X (e :: es) (gNames (i :: is)) := pgs_cons h1 h2 hs
theorem pg_blk (i : Nat) {n : Str} {s : Shared} {H : Hp} {C : Addr} {cl : List (Str × Addr)} {fp : List Addr} (nd : X.N.Nodup) (hi : X.N[i]? = some n := by rfl) (hx : scope.names.lookup n = some .local := by rfl) : PG (blkX X scope s H C cl fp) (.Name n pos) (gName i) :=
  have hx' : (relS scope X.env.scope).names.lookup n = some .local := lookup_relS_keep (by decide) hx
  pg_name (i := i) nd hi (.inl hx') (.inr hx')
/-- the tests, the element of a block, in any context of it -/
def tTs (X : Cx) (scope : Scope) (ifs : List Expr) : TT := fun σ H Q => ∀ s0 H0 C cl fp, match ifs with
  | [] => Q true H
  | [t] => sT (blkX X scope s0 H0 C cl fp) t σ H Q
  | _ => False
def tEl (X : Cx) (scope : Scope) (elt : Expr) : TE := fun σ H Q => ∀ s0 H0 C cl fp, sE (blkX X scope s0 H0 C cl fp) elt σ H Q
/-- tests of a comprehension -/
def EvTs (X : Cx) (ifs : List Expr) (G : Gam) (S : Sto) (b : Bool) : Prop := match ifs with
  | [] => b = true
  | [t] => EvT X t G S b S
  | _ => False
/-- the new list of a comprehension, as it is filled -/
theorem lc_reads {bind : It → Gam → Option Gam} {out : List PyData} {C : Sto → Prop} (c : Cxo X W k) (hi : EvI X tg iter G S rs C S1) (ht : TgOk X scope tg (own.map (·.2)) bind) (J : Nat → List PyData → Sto → Prop) (h0 : J 0 [] S1) (hC : ∀ i acc S', J i acc S' → ∀ L, C (S' ++ L))
    (hs : ∀ i r acc S', rs[i]? = some r → J i acc S' → S'.length = S1.length → ∃ G' b, bind r (wipeG G (own.map (·.2))) = some G' ∧ (∀ L s H C cl fp, EvTs (blkX X scope s H C cl fp) ifs G' (S' ++ L) b) ∧
      (b = true → ∃ y S3, S3.length = S1.length ∧ (∀ L s H C cl fp, Ev (blkX X scope s H C cl fp) elt G' (S' ++ L) (.d y) (S3 ++ L)) ∧ J (i + 1) (acc ++ [y]) S3) ∧ (b = false → J (i + 1) acc S'))
    (hd : ∀ acc S', J rs.length acc S' → acc = out ∧ S' = S2) (hz : rs.length ≤ 1000000) (hcl : ClS S1 → ClS S2) :
    ∃ (wi : TI) (g : TG), PI X tg iter wi ∧ (∀ s H C cl fp, PG (blkX X scope s H C cl fp) tg g) ∧ ∀ (M : List Addr) (σ : Sig) (H : Hp) (Q : VK), Stt X.K M H S G σ → (∀ v M' H', Ext M H M' H' → Stt X.K M' H' S2 G σ → VRep X.K M' H' v (.d (.list out)) → Q v H') →
      tLc wi g (tTs X scope ifs) (tEl X scope elt) (own.map (·.2)) σ H Q := by
  obtain ⟨g, hpg, hg⟩ := ht.ex
  obtain ⟨wi, hpi, hw⟩ := hi
  refine ⟨wi, g, hpi, hpg, fun M σ H Q s q => hw M σ H _ s fun M1 H1 Jt e1 t1 wk => ?_⟩
  intro D hD
  have eD : Ext M1 H1 (M1 ++ [D]) (upd H1 D (.lst [])) := Ext.own hD
  have lenM : ∀ {M' : List Addr} {H' : Hp} {S' : Sto} {acc : List PyData}, StoreOk X.K M' H' (S' ++ [Own.lst (acc.map .d)]) → S'.length = S1.length → Ext (M1 ++ [D]) (upd H1 D (.lst [])) M' H' → M' = M1 ++ [D] := fun {M' H' S' acc} s' hl e' => by
    obtain ⟨L, eL⟩ := e'.pre
    have h1 := s'.len
    rw [eL, List.length_append, List.length_append, List.length_append, t1.sto.len] at h1
    have h2 : L.length = 0 := by
      have : [D].length = 1 := rfl
      have : [Own.lst (acc.map .d)].length = 1 := rfl
      omega
    rw [eL, List.eq_nil_of_length_eq_zero h2, List.append_nil]
  have ww : ∀ (vs us : List Nat) (σ : Sig), (∀ v ∈ us, v ∈ vs) → wipe (wipe σ us) vs = wipe σ vs := by
    intro vs us
    induction us with
    | nil => intro σ _; rfl
    | cons u r ih =>
      intro σ hm
      show wipe ((wipe σ r).set u none) vs = _
      rw [wipe_set _ (hm u List.mem_cons_self), ih σ fun v hv => hm v (List.mem_cons_of_mem _ hv)]
  have hDn : (M1 ++ [D])[S1.length]? = some D := by rw [← t1.sto.len, List.getElem?_append_right (Nat.le_refl _), Nat.sub_self]; rfl
  refine ⟨fun i m' H' => (m' = rs.length - i ∧ i ≤ rs.length) ∧ ∃ S' acc, S'.length = S1.length ∧ Ext (M1 ++ [D]) (upd H1 D (.lst [])) (M1 ++ [D]) H' ∧ Stt X.K (M1 ++ [D]) H' (S' ++ [.lst (acc.map .d)]) G σ ∧ acc.length ≤ i ∧ J i acc S',
    ⟨_, ⟨rfl, Nat.zero_le _⟩, S1, [], rfl, Ext.refl, t1.mono eD (t1.sto.own (w := .lst ([] : List It)) hD ⟨[], upd_same, .nil⟩), Nat.le_refl _, h0⟩, fun i m' H' hw' => ?_⟩
  obtain ⟨⟨rfl, hi'⟩, S', acc, hl', e', t', hacc, hJ⟩ := hw'
  have cS := hC i acc S' hJ [.lst (acc.map .d)]
  by_cases hlt : i < rs.length
  · refine .inr ⟨wk.go i _ H' _ hlt (eD.trans e') t'.sto cS, fun H2 => ∃ S' acc, S'.length = S1.length ∧ Ext (M1 ++ [D]) (upd H1 D (.lst [])) (M1 ++ [D]) H2 ∧ Stt X.K (M1 ++ [D]) H2 (S' ++ [.lst (acc.map .d)]) G σ ∧ acc.length ≤ i + 1 ∧ J (i + 1) acc S', fun H2 q => ⟨rs.length - (i + 1), by omega, ⟨rfl, by omega⟩, q⟩, fun x H2 y => ?_⟩
    have hri : rs[i]? = some rs[i] := List.getElem?_eq_getElem hlt
    obtain ⟨ey, sy, vy⟩ := wk.yl i _ H' _ x H2 _ hri (eD.trans e') t'.sto cS y
    have ty : Stt X.K (M1 ++ [D]) H2 (S' ++ [.lst (acc.map .d)]) G σ := t'.mono ey sy
    have e2 := e'.trans ey
    obtain ⟨G', b, hb, hT, hy, hn⟩ := hs i _ acc S' hri hJ hl'
    refine hg (M1 ++ [D]) H2 (S' ++ [.lst (acc.map .d)]) (wipeG G (own.map (·.2))) G' (wipe σ (own.map (·.2))) x rs[i] _ (ty.wipe _) vy hb ?_
    intro σ2 t2 w2
    refine ⟨w2.trans (ww _ _ _ fun _ h => h), ?_⟩
    -- behind the tests
    have fin : ∀ (H3 : Hp), Ext (M1 ++ [D]) H2 (M1 ++ [D]) H3 → Stt X.K (M1 ++ [D]) H3 (S' ++ [.lst (acc.map .d)]) G' σ2 → (if b = true then tEl X scope elt σ2 H3 fun y H4 => ∃ acc, H4 D = some (.lst acc) ∧ acc.length < sizeLine ∧ ∃ S' acc_1, S'.length = S1.length ∧ Ext (M1 ++ [D]) (upd H1 D (.lst [])) (M1 ++ [D]) (upd H4 D (.lst (acc ++ [y]))) ∧ Stt X.K (M1 ++ [D]) (upd H4 D (.lst (acc ++ [y]))) (S' ++ [.lst (acc_1.map .d)]) G σ ∧ acc_1.length ≤ i + 1 ∧ J (i + 1) acc_1 S'
        else ∃ S' acc, S'.length = S1.length ∧ Ext (M1 ++ [D]) (upd H1 D (.lst [])) (M1 ++ [D]) H3 ∧ Stt X.K (M1 ++ [D]) H3 (S' ++ [.lst (acc.map .d)]) G σ ∧ acc.length ≤ i + 1 ∧ J (i + 1) acc S') := by
      intro H3 e3 t3
      cases b with
      | false => exact iteF ⟨S', acc, hl', e2.trans e3, ty.mono e3 t3.sto, Nat.le_succ_of_le hacc, hn rfl⟩
      | true =>
        refine iteT fun s0 H0 C cl fp => ?_
        obtain ⟨y, S3, hl3, hE, hJ3⟩ := hy rfl
        refine hE [.lst (acc.map .d)] s0 H0 C cl fp (M1 ++ [D]) σ2 H3 _ t3 fun v4 M4 H4 e4 t4 r4 => ?_
        obtain rfl : M4 = M1 ++ [D] := lenM t4.sto hl3 ((e2.trans e3).trans e4)
        have hSn : (S3 ++ [Own.lst (acc.map .d)])[S1.length]? = some (.lst (acc.map .d)) := by rw [← hl3, List.getElem?_append_right (Nat.le_refl _), Nat.sub_self]; rfl
        obtain ⟨vs4, hv4, hr4⟩ := t4.sto.rep _ _ _ hDn hSn
        have hl4 : vs4.length = acc.length := by rw [hr4.len, List.length_map]
        have e5 : Ext (M1 ++ [D]) H4 (M1 ++ [D]) (upd H4 D (.lst (vs4 ++ [v4]))) := Ext.put (List.mem_of_getElem? hDn)
        have s5 := t4.sto.put (w := .lst ((acc ++ [y]).map .d)) hDn ⟨vs4 ++ [v4], upd_same, by
          rw [List.map_append]
          exact VReps.append (VReps.ext e5 hr4) (.cons (r4.ext e5) .nil)⟩
        have hset : (S3 ++ [Own.lst (acc.map It.d)]).set S1.length (.lst ((acc ++ [y]).map .d)) = S3 ++ [.lst ((acc ++ [y]).map .d)] := by
          rw [← hl3, List.set_append_right _ _ (Nat.le_refl _), Nat.sub_self]
          rfl
        rw [hset] at s5
        refine ⟨vs4, hv4, ?_, S3, acc ++ [y], hl3, ((e2.trans e3).trans e4).trans e5, ty.mono ((e3.trans e4).trans e5) s5, by rw [List.length_append]; exact Nat.succ_le_succ hacc, hJ3⟩
        rw [sizeLine_eq]
        omega
    intro s0 H0 C cl fp
    have hT' := hT [.lst (acc.map .d)] s0 H0 C cl fp
    cases ifs with
    | nil =>
      have hb1 : b = true := hT'
      have f0 := fin H2 Ext.refl t2
      rw [hb1] at f0
      exact f0
    | cons tt r =>
      cases r with
      | nil =>
        refine hT' (M1 ++ [D]) σ2 H2 _ t2 fun M4 H4 e4 t4 => ?_
        obtain rfl : M4 = M1 ++ [D] := lenM t4.sto hl' (e2.trans e4)
        exact fin H4 e4 t4
      | cons _ _ => exact hT'.elim
  · have ei : i = rs.length := by omega
    subst ei
    refine .inl ⟨wk.st _ _ H' _ (Nat.le_refl _) (eD.trans e') t'.sto cS, ?_⟩
    obtain ⟨rfl, rfl⟩ := hd acc S' hJ
    have hSn : (S' ++ [Own.lst (acc.map .d)])[S1.length]? = some (.lst (acc.map .d)) := by rw [← hl', List.getElem?_append_right (Nat.le_refl _), Nat.sub_self]; rfl
    obtain ⟨vs4, hv4, hr4⟩ := t'.sto.rep _ _ _ hDn hSn
    have eT : (M1 ++ [D]).take S'.length = M1 := by rw [hl', ← t1.sto.len]; exact List.take_left ..
    have s6 := t'.sto.take (hcl t1.sto.closed)
    rw [eT] at s6
    have e6 : Ext M1 H1 M1 H' := by
      have := (eD.trans e').take (n := M1.length) (Nat.le_refl _)
      rwa [List.take_left] at this
    have hds : ∀ acc : List PyData, ds? (acc.map It.d) = some acc := by
      intro acc
      induction acc with
      | nil => rfl
      | cons x r ih => show (ds? (r.map It.d)).map (x :: ·) = _; rw [ih]; rfl
    exact q (.ref D) M1 H' (e1.trans e6) (t1.mono e6 s6) (Fz.lst ⟨.inl hv4, t1.sto.nin hD⟩ (FzAll.less (fun _ h => List.mem_append_left _ h) (fz_all (hds acc) hr4)))
theorem pts_tTs (s0 : Shared) (H0 : Hp) (C : Addr) (cl : List (Str × Addr)) (fp : List Addr) : PTs (blkX X scope s0 H0 C cl fp) ifs (tTs X scope ifs) := by
  cases ifs with
  | nil => exact ⟨fun pins s1 σ1 H1 Q1 I1 h1 => (pts_nil (X := blkX X scope s0 H0 C cl fp)).run pins s1 σ1 H1 Q1 I1 (h1 s0 H0 C cl fp)⟩
  | cons t r =>
    cases r with
    | nil => exact ⟨fun pins s1 σ1 H1 Q1 I1 h1 => (pts_one (pt_s (X := blkX X scope s0 H0 C cl fp) (e := t))).run pins s1 σ1 H1 Q1 I1 (h1 s0 H0 C cl fp)⟩
    | cons _ _ => exact ⟨fun pins s1 σ1 H1 Q1 I1 h1 => (h1 s0 H0 C cl fp).elim⟩
theorem pe_tEl (s0 : Shared) (H0 : Hp) (C : Addr) (cl : List (Str × Addr)) (fp : List Addr) : PE (blkX X scope s0 H0 C cl fp) elt (tEl X scope elt) := ⟨fun pins s1 σ1 H1 Q1 I1 h1 => h1 s0 H0 C cl fp pins s1 I1⟩
/-- what a comprehension asks: source, target, turns; data come of it -/
structure LcOk (X : Cx) (scope : Scope) (own : List (Str × Nat)) (elt tg iter : Expr) (ifs : List Expr) (G : Gam) (S : Sto) (out : List PyData) (S2 : Sto) : Prop where
  ex : ∃ (wi : TI) (g : TG), PI X tg iter wi ∧ (∀ s H C cl fp, PG (blkX X scope s H C cl fp) tg g) ∧ ∀ (M : List Addr) (σ : Sig) (H : Hp) (Q : VK), Stt X.K M H S G σ → (∀ v M' H', Ext M H M' H' → Stt X.K M' H' S2 G σ → VRep X.K M' H' v (.d (.list out)) → Q v H') →
      tLc wi g (tTs X scope ifs) (tEl X scope elt) (own.map (·.2)) σ H Q
/-- nothing that is owned changes: each item gives by f whether, by gg what -/
theorem lc_pure {bind : It → Gam → Option Gam} {C : Sto → Prop} (c : Cxo X W k) (hi : EvI X tg iter G S rs C S1) (ht : TgOk X scope tg (own.map (·.2)) bind) (f : It → Bool) (gg : It → PyData) (hC : ∀ L, C (S1 ++ L))
    (hs : ∀ r ∈ rs, ∃ G', bind r (wipeG G (own.map (·.2))) = some G' ∧ (∀ L s H C cl fp, EvTs (blkX X scope s H C cl fp) ifs G' (S1 ++ L) (f r)) ∧ (f r = true → ∀ L s H C cl fp, Ev (blkX X scope s H C cl fp) elt G' (S1 ++ L) (.d (gg r)) (S1 ++ L))) (hz : rs.length ≤ 1000000) :
    LcOk X scope own elt tg iter ifs G S ((rs.filter f).map gg) S1 := by
  refine ⟨lc_reads c hi ht (fun i acc S' => S' = S1 ∧ acc = ((rs.take i).filter f).map gg) ⟨rfl, rfl⟩ (fun i acc S' h L => by rw [h.1]; exact hC L) (fun i r acc S' hr hJ _ => ?_) (fun acc S' hJ => ?_) hz fun h => h⟩
  · obtain ⟨rfl, rfl⟩ := hJ
    obtain ⟨G', h1, h2, h3⟩ := hs r (List.mem_of_getElem? hr)
    have et : rs.take (i + 1) = rs.take i ++ [r] := by rw [List.take_add_one, hr]; rfl
    refine ⟨G', f r, h1, h2, fun hf => ⟨gg r, S', rfl, h3 hf, rfl, ?_⟩, fun hf => ⟨rfl, ?_⟩⟩
    · rw [et, List.filter_append, List.map_append]
      congr 1
      simp [hf]
    · rw [et, List.filter_append]
      simp [hf]
  · obtain ⟨rfl, rfl⟩ := hJ
    rw [List.take_length]
    exact ⟨rfl, rfl⟩
theorem ev_lc {out : List PyData} (c : Cxo X W k) (ok : BlkOk X.N X.env.scope scope own) (h : LcOk X scope own elt tg iter ifs G S out S2) (hf : ∀ x, foldedSetIterable iter X.env x = pure x := by intro _; rfl) : Ev X (.ListComp elt [⟨tg, iter, ifs, 0⟩] scope pos) G S (.d (.list out)) S2 := fun M σ H Q s q => by
  obtain ⟨wi, g, hpi, hpg, h⟩ := h.ex
  exact toE (pe_lc c.calm c.nd hpi ok hpg pts_tTs pe_tEl hf) (h M σ H Q s q)
/-- y = [..], y a local -/
theorem ws_setLc {out : List PyData} (i : Nat) {n : Str} (c : Cxo X W k) (ok : BlkOk X.N X.env.scope scope own) (h : LcOk X scope own elt tg iter ifs G S out S2) (q : P.nx (G.set i (some (.d (.list out)))) S2) (hy : X.N[i]? = some n := by rfl) (hyl : X.env.scope.names.lookup n = some .local := by rfl)
    (hsw : swapsWith (.ListComp elt [⟨tg, iter, ifs, 0⟩] scope pos) (some (.Name n pos')) apos.line X.env = pure true := by exact sw_true rfl rfl rfl (by decide +kernel)) (hf : ∀ x, foldedSetIterable iter X.env x = pure x := by intro _; rfl) : WS X W (.Assign [.Name n pos'] (.ListComp elt [⟨tg, iter, ifs, 0⟩] scope pos) apos) G S P := fun M σ H D s m => by
  obtain ⟨wi, g, hpi, hpg, h⟩ := h.ex
  exact toS (ps_setLc (i := i) c.calm c.nd hy hyl hsw hpi ok hpg pts_tTs pe_tEl hf) (h M σ H _ s fun v M1 H1 e1 t1 r1 => m.nx M1 _ H1 _ S2 e1 (t1.set r1) q)
end
end Cu
/-! CuE: operators, built-ins, methods of built-in types, over data. -/
namespace Cu
open PySem PySem.Spec PyProof.Rows L2
section
variable {X : Cx} {W : WX} {k j : Nat} {G G1 G2 : Gam} {S S1 S2 S3 : Sto} {P : Post} {e a b o iter tg elt : Expr} {es ifs : List Expr} {r y z : It} {rs : List It} {pos pos' p apos : Pos} {st : Stmt} {sts body : List Stmt} {ds : List PyData} {C : Sto → Prop} {m n : Int}
/-! ### whole numbers -/
theorem rw_int {f : Int → Int → Int} : RW2 X (rI0 fun i j => .int (f i j)) (.d (.int m)) (.d (.int n)) S (.d (.int (f m n))) S := fun M H v u Q s hv hu q =>
  ⟨m, n, vr_int hv, vr_int hu, q _ M H Ext.refl s (Fz.int _)⟩
theorem rw_intB {f : Int → Int → Bool} : RW2 X (rI0 fun i j => .bl (f i j)) (.d (.int m)) (.d (.int n)) S (.d (.bool (f m n))) S := fun M H v u Q s hv hu q =>
  ⟨m, n, vr_int hv, vr_int hu, q _ M H Ext.refl s (Fz.bl _)⟩
theorem rw_intC {D : Int → Int → Prop} {f : Int → Int → Int} (h : D m n) : RW2 X (rI D fun i j => .int (f i j)) (.d (.int m)) (.d (.int n)) S (.d (.int (f m n))) S := fun M H v u Q s hv hu q =>
  ⟨m, n, vr_int hv, vr_int hu, h, q _ M H Ext.refl s (Fz.int _)⟩
theorem ev_add (ha : Ev X a G S (.d (.int m)) S1) (hb : Ev X b G S1 (.d (.int n)) S2) : Ev X (.BinOp a .Add b pos) G S (.d (.int (m + n))) S2 := ev_op op_add ha hb rw_int
theorem ev_sub (ha : Ev X a G S (.d (.int m)) S1) (hb : Ev X b G S1 (.d (.int n)) S2) : Ev X (.BinOp a .Sub b pos) G S (.d (.int (m - n))) S2 := ev_op op_sub ha hb rw_int
theorem ev_mul (ha : Ev X a G S (.d (.int m)) S1) (hb : Ev X b G S1 (.d (.int n)) S2) (h : CMul m n) : Ev X (.BinOp a .Mult b pos) G S (.d (.int (m * n))) S2 := ev_op op_mul ha hb (rw_intC h)
theorem ev_fdiv (ha : Ev X a G S (.d (.int m)) S1) (hb : Ev X b G S1 (.d (.int n)) S2) (h : CDiv m n) : Ev X (.BinOp a .FloorDiv b pos) G S (.d (.int (m / n))) S2 := ev_op op_fdiv ha hb (rw_intC h)
theorem ev_mod (ha : Ev X a G S (.d (.int m)) S1) (hb : Ev X b G S1 (.d (.int n)) S2) (h : 0 < n) : Ev X (.BinOp a .Mod b pos) G S (.d (.int (m % n))) S2 := ev_op op_mod ha hb (rw_intC (D := fun _ j => 0 < j) h)
theorem ev_pow (ha : Ev X a G S (.d (.int m)) S1) (hb : Ev X b G S1 (.d (.int n)) S2) (h : CPow m n) : Ev X (.BinOp a .Pow b pos) G S (.d (.int (m ^ n.toNat))) S2 := ev_op op_pow ha hb (rw_intC h)
theorem ev_neg (ha : Ev X a G S (.d (.int m)) S1) : Ev X (.UnaryOp .USub a pos) G S (.d (.int (-m))) S1 := ev_un un_neg ha fun M H v Q s hv q => ⟨m, vr_int hv, q _ M H Ext.refl s (Fz.int _)⟩
theorem ev_lt (ha : Ev X a G S (.d (.int m)) S1) (hb : Ev X b G S1 (.d (.int n)) S2) : Ev X (.Compare a [.Lt] [b] pos) G S (.d (.bool (decide (m < n)))) S2 := ev_cmp op_lt ha hb rw_intB
theorem ev_le (ha : Ev X a G S (.d (.int m)) S1) (hb : Ev X b G S1 (.d (.int n)) S2) : Ev X (.Compare a [.LtE] [b] pos) G S (.d (.bool (decide (m ≤ n)))) S2 := ev_cmp op_le ha hb rw_intB
theorem ev_gt (ha : Ev X a G S (.d (.int m)) S1) (hb : Ev X b G S1 (.d (.int n)) S2) : Ev X (.Compare a [.Gt] [b] pos) G S (.d (.bool (decide (n < m)))) S2 := ev_cmp (rr := rI0 fun i j => .bl (decide (j < i))) op_gt ha hb (rw_intB (f := fun i j => decide (j < i)))
theorem ev_ge (ha : Ev X a G S (.d (.int m)) S1) (hb : Ev X b G S1 (.d (.int n)) S2) : Ev X (.Compare a [.GtE] [b] pos) G S (.d (.bool (decide (n ≤ m)))) S2 := ev_cmp (rr := rI0 fun i j => .bl (decide (j ≤ i))) op_ge ha hb (rw_intB (f := fun i j => decide (j ≤ i)))
theorem evt_lt (ha : Ev X a G S (.d (.int m)) S1) (hb : Ev X b G S1 (.d (.int n)) S2) : EvT X (.Compare a [.Lt] [b] pos) G S (decide (m < n)) S2 := evt_cmp op_lt ha hb rw_intB
theorem evt_le (ha : Ev X a G S (.d (.int m)) S1) (hb : Ev X b G S1 (.d (.int n)) S2) : EvT X (.Compare a [.LtE] [b] pos) G S (decide (m ≤ n)) S2 := evt_cmp op_le ha hb rw_intB
theorem evt_gt (ha : Ev X a G S (.d (.int m)) S1) (hb : Ev X b G S1 (.d (.int n)) S2) : EvT X (.Compare a [.Gt] [b] pos) G S (decide (n < m)) S2 := evt_cmp (rr := rI0 fun i j => .bl (decide (j < i))) op_gt ha hb (rw_intB (f := fun i j => decide (j < i)))
theorem evt_ge (ha : Ev X a G S (.d (.int m)) S1) (hb : Ev X b G S1 (.d (.int n)) S2) : EvT X (.Compare a [.GtE] [b] pos) G S (decide (n ≤ m)) S2 := evt_cmp (rr := rI0 fun i j => .bl (decide (j ≤ i))) op_ge ha hb (rw_intB (f := fun i j => decide (j ≤ i)))
/-! ### flat data: None, truths, whole numbers, texts -/
def flatD : PyData → Bool
  | .none => true
  | .bool _ => true
  | .int _ => true
  | .str _ => true
  | _ => false
def toV : PyData → V
  | .none => .non
  | .bool b => .bl b
  | .int i => .int i
  | .str x => .str x
  | _ => .non
theorem vr_flat {K : PySem.W.Frag} {M : List Addr} {H : Hp} {v : V} {x : PyData} (hx : flatD x = true) (h : VRep K M H v (.d x)) : v = toV x := by
  cases x with
  | none => exact vr_none h
  | bool b => exact vr_bool h
  | int i => exact vr_int h
  | str i => exact vr_str h
  | list _ => cases hx
  | tuple _ => cases hx
  | dict _ => cases hx
theorem flatV_toV {x : PyData} (hx : flatD x = true) : flatV (toV x) = true := by cases x <;> first | rfl | cases hx
/-- == of scalars as the layer tells it -/
def eqS (x y : PyData) : Bool := decide (toV x = toV y)
theorem rw_eqS {x y : PyData} (hx : flatD x = true) (hy : flatD y = true) (h : scal (toV x) (toV y) = true) : RW2 X rEq (.d x) (.d y) S (.d (.bool (eqS x y))) S := fun M H v u Q s hv hu q => by
  rw [vr_flat hx hv, vr_flat hy hu]
  exact ⟨h, q _ M H Ext.refl s (Fz.bl _)⟩
theorem rw_neS {x y : PyData} (hx : flatD x = true) (hy : flatD y = true) (h : scal (toV x) (toV y) = true) : RW2 X rNe (.d x) (.d y) S (.d (.bool (!eqS x y))) S := fun M H v u Q s hv hu q => by
  rw [vr_flat hx hv, vr_flat hy hu]
  exact ⟨h, q _ M H Ext.refl s (Fz.bl _)⟩
theorem eqS_int : eqS (.int m) (.int n) = decide (m = n) := by
  unfold eqS
  by_cases h : m = n
  · rw [h]; simp
  · rw [decide_eq_false h, decide_eq_false fun z => h (by injection z)]
theorem eqS_str {x y : Str} : eqS (.str x) (.str y) = decide (x = y) := by
  unfold eqS
  by_cases h : x = y
  · rw [h]; simp
  · rw [decide_eq_false h, decide_eq_false fun z => h (by injection z)]
theorem ev_eqI (ha : Ev X a G S (.d (.int m)) S1) (hb : Ev X b G S1 (.d (.int n)) S2) : Ev X (.Compare a [.Eq] [b] pos) G S (.d (.bool (decide (m = n)))) S2 := by rw [← eqS_int]; exact ev_cmp op_eq ha hb (rw_eqS rfl rfl rfl)
theorem ev_neI (ha : Ev X a G S (.d (.int m)) S1) (hb : Ev X b G S1 (.d (.int n)) S2) : Ev X (.Compare a [.NotEq] [b] pos) G S (.d (.bool (!decide (m = n)))) S2 := by rw [← eqS_int]; exact ev_cmp op_ne ha hb (rw_neS rfl rfl rfl)
theorem evt_eqI (ha : Ev X a G S (.d (.int m)) S1) (hb : Ev X b G S1 (.d (.int n)) S2) : EvT X (.Compare a [.Eq] [b] pos) G S (decide (m = n)) S2 := by rw [← eqS_int]; exact evt_cmp op_eq ha hb (rw_eqS rfl rfl rfl)
theorem evt_neI (ha : Ev X a G S (.d (.int m)) S1) (hb : Ev X b G S1 (.d (.int n)) S2) : EvT X (.Compare a [.NotEq] [b] pos) G S (!decide (m = n)) S2 := by rw [← eqS_int]; exact evt_cmp op_ne ha hb (rw_neS rfl rfl rfl)
theorem ev_eqT {x y : Str} (ha : Ev X a G S (.d (.str x)) S1) (hb : Ev X b G S1 (.d (.str y)) S2) : Ev X (.Compare a [.Eq] [b] pos) G S (.d (.bool (decide (x = y)))) S2 := by rw [← eqS_str]; exact ev_cmp op_eq ha hb (rw_eqS rfl rfl rfl)
theorem ev_neT {x y : Str} (ha : Ev X a G S (.d (.str x)) S1) (hb : Ev X b G S1 (.d (.str y)) S2) : Ev X (.Compare a [.NotEq] [b] pos) G S (.d (.bool (!decide (x = y)))) S2 := by rw [← eqS_str]; exact ev_cmp op_ne ha hb (rw_neS rfl rfl rfl)
theorem evt_eqT {x y : Str} (ha : Ev X a G S (.d (.str x)) S1) (hb : Ev X b G S1 (.d (.str y)) S2) : EvT X (.Compare a [.Eq] [b] pos) G S (decide (x = y)) S2 := by rw [← eqS_str]; exact evt_cmp op_eq ha hb (rw_eqS rfl rfl rfl)
theorem evt_neT {x y : Str} (ha : Ev X a G S (.d (.str x)) S1) (hb : Ev X b G S1 (.d (.str y)) S2) : EvT X (.Compare a [.NotEq] [b] pos) G S (!decide (x = y)) S2 := by rw [← eqS_str]; exact evt_cmp op_ne ha hb (rw_neS rfl rfl rfl)
/-- is None -/
def isNone : It → Bool
  | .d .none => true
  | .r .non => true
  | _ => false
theorem none_of {K : PySem.W.Frag} {M : List Addr} {H : Hp} {v : V} : ∀ {r : It}, VRep K M H v r → decide (v = .non) = isNone r
  | .d x, h => by
    have h' : Fz M H v x := h
    cases h' <;> rfl
  | .o n, ⟨a, _, e⟩ => by rw [e]; rfl
  | .r u, h => by
    have h' : v = u := h
    subst h'
    cases v <;> rfl
  | .s ns, ⟨a, e, _⟩ => by rw [e]; rfl
theorem ev_isN {j : Nat} (ha : Ev X a G S r S1) : Ev X (.Compare a [.Is] [.Constant .none j pos'] pos) G S (.d (.bool (isNone r))) S1 := fun M σ H Q s q => toE (pe_cmp (pc_isN pe_s)) (ha M σ H _ s fun v M1 H1 e1 t1 r1 => by rw [none_of r1]; exact q _ M1 H1 e1 t1 (Fz.bl _))
theorem ev_notN {j : Nat} (ha : Ev X a G S r S1) : Ev X (.Compare a [.IsNot] [.Constant .none j pos'] pos) G S (.d (.bool (!isNone r))) S1 := fun M σ H Q s q => toE (pe_cmp (pc_notN pe_s)) (ha M σ H _ s fun v M1 H1 e1 t1 r1 => by rw [none_of r1]; exact q _ M1 H1 e1 t1 (Fz.bl _))
theorem evt_isN {j : Nat} (ha : Ev X a G S r S1) : EvT X (.Compare a [.Is] [.Constant .none j pos'] pos) G S (isNone r) S1 := fun M σ H Q s q => toT (pt_cmp (pc_isN pe_s)) (ha M σ H _ s fun v M1 H1 e1 t1 r1 => ⟨_, rfl, by rw [none_of r1]; exact q M1 H1 e1 t1⟩)
theorem evt_notN {j : Nat} (ha : Ev X a G S r S1) : EvT X (.Compare a [.IsNot] [.Constant .none j pos'] pos) G S (!isNone r) S1 := fun M σ H Q s q => toT (pt_cmp (pc_notN pe_s)) (ha M σ H _ s fun v M1 H1 e1 t1 r1 => ⟨_, rfl, by rw [none_of r1]; exact q M1 H1 e1 t1⟩)
/-! ### data of any depth -/
theorem rw_eqD {x y : PyData} (hx : SeqAt.shaped x = true) (hy : SeqAt.shaped y = true) : RW2 X (rEqD X.K) (.d x) (.d y) S (.d (.bool (PyData.eqv x y))) S := fun M H v u Q s hv hu q =>
  ⟨x, y, Fz.dp hv, Fz.dp hu, hx, hy, q _ M H Ext.refl s (Fz.bl _)⟩
theorem rw_neD {x y : PyData} (hx : SeqAt.shaped x = true) (hy : SeqAt.shaped y = true) : RW2 X (rNeD X.K) (.d x) (.d y) S (.d (.bool (!PyData.eqv x y))) S := fun M H v u Q s hv hu q =>
  ⟨x, y, Fz.dp hv, Fz.dp hu, hx, hy, q _ M H Ext.refl s (Fz.bl _)⟩
theorem ev_eqD {x y : PyData} (c : Cxo X W k) (ha : Ev X a G S (.d x) S1) (hb : Ev X b G S1 (.d y) S2) (hx : SeqAt.shaped x = true) (hy : SeqAt.shaped y = true) : Ev X (.Compare a [.Eq] [b] pos) G S (.d (.bool (PyData.eqv x y))) S2 := ev_cmp (op_eqD c.hr.units) ha hb (rw_eqD hx hy)
theorem ev_neD {x y : PyData} (c : Cxo X W k) (ha : Ev X a G S (.d x) S1) (hb : Ev X b G S1 (.d y) S2) (hx : SeqAt.shaped x = true) (hy : SeqAt.shaped y = true) : Ev X (.Compare a [.NotEq] [b] pos) G S (.d (.bool (!PyData.eqv x y))) S2 := ev_cmp (op_neD c.hr.units) ha hb (rw_neD hx hy)
theorem evt_eqD {x y : PyData} (c : Cxo X W k) (ha : Ev X a G S (.d x) S1) (hb : Ev X b G S1 (.d y) S2) (hx : SeqAt.shaped x = true) (hy : SeqAt.shaped y = true) : EvT X (.Compare a [.Eq] [b] pos) G S (PyData.eqv x y) S2 := evt_cmp (op_eqD c.hr.units) ha hb (rw_eqD hx hy)
theorem evt_neD {x y : PyData} (c : Cxo X W k) (ha : Ev X a G S (.d x) S1) (hb : Ev X b G S1 (.d y) S2) (hx : SeqAt.shaped x = true) (hy : SeqAt.shaped y = true) : EvT X (.Compare a [.NotEq] [b] pos) G S (!PyData.eqv x y) S2 := evt_cmp (op_neD c.hr.units) ha hb (rw_neD hx hy)
/-! ### x in a flat list or tuple -/
theorem flat_all {M : List Addr} {H : Hp} : ∀ {ds : List PyData} {vs : List V}, ds.all flatD = true → FzAll M H vs ds → vs = ds.map toV
  | [], _, _, h => by cases h; rfl
  | d :: ds, _, ha, h => by
    cases h with
    | cons h1 h2 =>
      rw [List.all_cons, Bool.and_eq_true] at ha
      rw [List.map_cons, flat_all ha.2 h2, vr_flat (K := []) ha.1 h1]
theorem flat_toV {ds : List PyData} (h : ds.all flatD = true) : (ds.map toV).all flatV = true := by
  rw [List.all_map]
  exact List.all_eq_true.mpr fun d hd => flatV_toV (List.all_eq_true.mp h d hd)
theorem rw_inF {x : PyData} {neg : Bool} (hx : flatD x = true) (hd : ds.all flatD = true) : RW2 X (rIn X.K neg) (.d x) (.d (.list ds)) S (.d (.bool (if neg then !inV (toV x) (ds.map toV) else inV (toV x) (ds.map toV)))) S := fun M H v u Q s hv hu q => by
  have hu' : Fz M H u (.list ds) := hu
  cases hu' with
  | lst h1 h2 =>
    rw [vr_flat hx hv]
    refine ⟨_, _, rfl, .inl h1.sq, flatV_toV hx, ?_, ?_⟩
    · rw [flat_all hd h2]; exact flat_toV hd
    · rw [flat_all hd h2]; exact q _ M H Ext.refl s (Fz.bl _)
theorem rw_inFT {x : PyData} {neg : Bool} (hx : flatD x = true) (hd : ds.all flatD = true) : RW2 X (rIn X.K neg) (.d x) (.d (.tuple ds)) S (.d (.bool (if neg then !inV (toV x) (ds.map toV) else inV (toV x) (ds.map toV)))) S := fun M H v u Q s hv hu q => by
  have hu' : Fz M H u (.tuple ds) := hu
  cases hu' with
  | tup h1 h2 =>
    rw [vr_flat hx hv]
    refine ⟨_, _, rfl, .inr h1.sq, flatV_toV hx, ?_, ?_⟩
    · rw [flat_all hd h2]; exact flat_toV hd
    · rw [flat_all hd h2]; exact q _ M H Ext.refl s (Fz.bl _)
/-! ### subscripts -/
theorem ev_ixR {rr : R2} {x : It} (ho : IxR X rr) (ha : Ev X a G S x S1) (hb : Ev X b G S1 y S2) (hr : RW2 X rr x y S2 z S3) (hs : PlainIx b := by exact fun _ _ => rfl) : Ev X (.Subscript a b pos) G S z S3 := fun M σ H Q s q =>
  toE (pe_ix ho pe_s pe_s hs) (ha M σ H _ s fun v M1 H1 e1 s1 r1 => hb M1 σ H1 _ s1 fun u M2 H2 e2 s2 r2 => hr M2 H2 v u _ s2.sto (r1.ext e2) r2 fun w M3 H3 e3 s3 r3 => q w M3 H3 ((e1.trans e2).trans e3) (s2.mono e3 s3) r3)
theorem fz_get {M : List Addr} {H : Hp} : ∀ {ds : List PyData} {vs : List V} {i : Nat} {d : PyData}, FzAll M H vs ds → ds[i]? = some d → ∃ v, vs[i]? = some v ∧ Fz M H v d
  | [], _, i, d, h, e => by simp at e
  | d :: ds, _, 0, d', h, e => by
    cases h with
    | cons h1 h2 =>
      cases e
      exact ⟨_, rfl, h1⟩
  | d :: ds, _, i + 1, d', h, e => by
    cases h with
    | cons h1 h2 => exact fz_get (i := i) h2 e
theorem atI_fz {M : List Addr} {H : Hp} {vs : List V} {i : Int} {d : PyData} (h : FzAll M H vs ds) (hd : atI ds i = some d) : ∃ v, atI vs i = some v ∧ Fz M H v d := by
  unfold atI at hd ⊢
  rw [fz_len h]
  cases e : ixN ds.length i with
  | none => rw [e] at hd; cases hd
  | some l =>
    rw [e] at hd
    exact fz_get h hd
theorem atI_reps {K : PySem.W.Frag} {M : List Addr} {H : Hp} {vs : List V} {i : Int} {d : It} (h : VReps K M H vs rs) (hd : atI rs i = some d) : ∃ v, atI vs i = some v ∧ VRep K M H v d := by
  unfold atI at hd ⊢
  rw [h.len]
  cases e : ixN rs.length i with
  | none => rw [e] at hd; cases hd
  | some l =>
    rw [e] at hd
    exact reps_get h hd
/-- xs[i] of a list of data -/
theorem ev_ixL {d : PyData} (ha : Ev X a G S (.d (.list ds)) S1) (hb : Ev X b G S1 (.d (.int n)) S2) (h : atI ds n = some d) (hs : PlainIx b := by exact fun _ _ => rfl) : Ev X (.Subscript a b pos) G S (.d d) S2 := ev_ixR ix_list ha hb (fun M H v u Q s hv hu q => by
  have hv' : Fz M H v (.list ds) := hv
  cases hv' with
  | lst h1 h2 =>
    obtain ⟨w, hw, fw⟩ := atI_fz h2 h
    exact ⟨_, _, n, w, rfl, vr_int hu, h1.sq, hw, q w M H Ext.refl s fw⟩) hs
/-- t[i] of a tuple of data -/
theorem ev_ixT {d : PyData} (ha : Ev X a G S (.d (.tuple ds)) S1) (hb : Ev X b G S1 (.d (.int n)) S2) (h : atI ds n = some d) (hs : PlainIx b := by exact fun _ _ => rfl) : Ev X (.Subscript a b pos) G S (.d d) S2 := ev_ixR ix_tup ha hb (fun M H v u Q s hv hu q => by
  have hv' : Fz M H v (.tuple ds) := hv
  cases hv' with
  | tup h1 h2 =>
    obtain ⟨w, hw, fw⟩ := atI_fz h2 h
    exact ⟨_, _, n, w, rfl, vr_int hu, h1.sq, hw, q w M H Ext.refl s fw⟩) hs
/-- xs[i] of an owned list -/
theorem ev_ixO {i : Nat} {d : It} (ha : Ev X a G S (.o i) S1) (hb : Ev X b G S1 (.d (.int n)) S2) (hi : S2[i]? = some (.lst rs)) (h : atI rs n = some d) (hs : PlainIx b := by exact fun _ _ => rfl) : Ev X (.Subscript a b pos) G S d S2 := ev_ixR ix_list ha hb (fun M H v u Q s hv hu q => by
  obtain ⟨ad, had, rfl⟩ := hv
  obtain ⟨vs, h1, h2⟩ := s.rep i ad _ had hi
  obtain ⟨w, hw, fw⟩ := atI_reps h2 h
  exact ⟨_, _, n, w, rfl, vr_int hu, .of h1, hw, q w M H Ext.refl s fw⟩) hs
/-- the script's i-th number -/
theorem ev_ixS {ns : List Int} {i : Int} (ha : Ev X a G S (.s ns) S1) (hb : Ev X b G S1 (.d (.int n)) S2) (h : atI ns n = some i) (hs : PlainIx b := by exact fun _ _ => rfl) : Ev X (.Subscript a b pos) G S (.d (.int i)) S2 := ev_ixR ix_list ha hb (fun M H v u Q s hv hu q => by
  obtain ⟨ad, rfl, h1⟩ := hv
  have h2 : atI (ns.map V.int) n = some (.int i) := by
    unfold atI at h ⊢
    rw [List.length_map]
    cases e : ixN ns.length n with
    | none => rw [e] at h; cases h
    | some l =>
      rw [e] at h
      show (ns.map V.int)[l]? = some (.int i)
      rw [List.getElem?_map, show ns[l]? = some i from h]
      rfl
  exact ⟨_, _, n, .int i, rfl, vr_int hu, h1.sq, h2, q _ M H Ext.refl s (Fz.int _)⟩) hs
/-- s[i] of a text -/
theorem ev_ixStr {x : Str} {c : Nat} (ha : Ev X a G S (.d (.str x)) S1) (hb : Ev X b G S1 (.d (.int n)) S2) (hz : x.length ≤ sizeLine) (h : atI x.cps.toList n = some c) (hs : PlainIx b := by exact fun _ _ => rfl) : Ev X (.Subscript a b pos) G S (.d (.str ⟨#[c]⟩)) S2 := ev_ixR ix_str ha hb (fun M H v u Q s hv hu q =>
  ⟨x, n, c, vr_str hv, vr_int hu, hz, h, q _ M H Ext.refl s (Fz.str _)⟩) hs
/-- xs[i] = e, xs owned -/
theorem ws_setIx {i l : Nat} (he : Ev X e G S r S1) (ho : Ev X o G S1 (.o i) S2) (hb : Ev X b G S2 (.d (.int n)) S3) (hi : S3[i]? = some (.lst rs)) (hl : ixN rs.length n = some l) (q : P.nx G (S3.set i (.lst (rs.set l r))))
    (hs : swapsWithSole [.Subscript o b pos'] e pos.line X.env = pure false := by rfl) (hw : swappedStores [.Subscript o b pos'] e X.env = pure none := by rfl) (h1 : (assignEach [.Subscript o b pos'] X.env).map (·.2) = [assign (.Subscript o b pos') X.env] := by rfl)
    (ha : ∀ v, assign (.Subscript o b pos') X.env v = (do
      let ov ← holding [v] (eval o X.env)
      let iv ← holding [v, ov] (eval b X.env)
      standAt pos'
      holding [v, ov, iv] (setItem ov iv v)
      release [v, ov, iv] []) := by intro _; rfl) : WS X W (.Assign [.Subscript o b pos'] e pos) G S P := fun M σ H D s m =>
  toS (ps_asg pe_s (pg_sub pe_s pe_s set_list ha) hs hw h1) (he M σ H _ s fun v M1 H1 e1 t1 r1 => ho M1 σ H1 _ t1 fun v2 M2 H2 e2 t2 r2 => hb M2 σ H2 _ t2 fun v3 M3 H3 e3 t3 r3 => by
    obtain ⟨ad, had, rfl⟩ := r2.ext e3
    obtain ⟨vs, hv, hr⟩ := t3.sto.rep i ad _ had hi
    have e4 : Ext M3 H3 M3 (upd H3 ad (.lst (vs.set l v))) := Ext.put (List.mem_of_getElem? had)
    have setR : ∀ {vs : List V} {rs : List It} {l : Nat}, VReps X.K M3 (upd H3 ad (.lst (vs.set l v))) vs rs → True := fun _ => trivial
    have hr' := VReps.ext e4 hr
    have rv := ((r1.ext e2).ext e3).ext e4
    have s4 := t3.sto.put (w := .lst (rs.set l r)) had ⟨vs.set l v, upd_same, by
      have go : ∀ {M' : List Addr} {H' : Hp} {vs : List V} {rs : List It} {l : Nat}, VReps X.K M' H' vs rs → VRep X.K M' H' v r → VReps X.K M' H' (vs.set l v) (rs.set l r) := by
        intro M' H' vs rs l h hv
        induction h generalizing l with
        | nil => exact .nil
        | cons a t ih =>
          cases l with
          | zero => exact .cons hv t
          | succ l => exact .cons a ih
      exact go hr' rv⟩
    exact ⟨ad, vs, n, l, rfl, vr_int r3, hv, by rw [hr.len]; exact hl, m.nx M3 σ _ G _ (((e1.trans e2).trans e3).trans e4) (t3.mono e4 s4) q⟩)
/-! ### built-ins -/
theorem ev_blt {id : String} {nm : Str} {rr : List V → Hp → VK → Prop} (ho : CallR X (.builtin id) rr) (hm : X.mg nm = none) (hv : bootBuiltins nm = some (.builtin id)) (ha : EvA X (e :: es) G S rs S1) (hr : RWC X rr rs S1 z S2) (hg : Gl X nm := by rfl) (hn : nm ≠ "__name__" := by decide) (hdb : (nm == ("__debug__" : Str)) = false := by decide)
    (he : starEach (e :: es) X.env = (false, eval e X.env) :: starEach es X.env := by rfl) (hpl : (backTo pos (starEach es X.env)).any (·.1) = false := by rfl) : Ev X (.Call (.Name nm p) (e :: es) [] pos) G S z S2 := fun M σ H Q s q =>
  toE (pe_callB ho hg hm hv pa_s hn hdb he hpl) (ha M σ H _ s fun vs M1 H1 e1 t1 r1 => hr M1 H1 vs _ t1.sto r1 fun w M2 H2 e2 s2 r2 => q w M2 H2 (e1.trans e2) (t1.mono e2 s2) r2)
theorem ev_ty {T : String} {nm : Str} {rr : List V → Hp → VK → Prop} (ho : CallR X (.type T) rr) (hm : X.mg nm = none) (hv : bootBuiltins nm = some (.type T)) (ha : EvA X (e :: es) G S rs S1) (hr : RWC X rr rs S1 z S2) (hg : Gl X nm := by rfl) (hn : nm ≠ "__name__" := by decide) (hdb : (nm == ("__debug__" : Str)) = false := by decide)
    (he : starEach (e :: es) X.env = (false, eval e X.env) :: starEach es X.env := by rfl) (hpl : (backTo pos (starEach es X.env)).any (·.1) = false := by rfl) : Ev X (.Call (.Name nm p) (e :: es) [] pos) G S z S2 := fun M σ H Q s q =>
  toE (pe_callTy ho hg hm hv pa_s hn hdb he hpl) (ha M σ H _ s fun vs M1 H1 e1 t1 r1 => hr M1 H1 vs _ t1.sto r1 fun w M2 H2 e2 s2 r2 => q w M2 H2 (e1.trans e2) (t1.mono e2 s2) r2)
theorem vr1 {K : PySem.W.Frag} {M : List Addr} {H : Hp} {vs : List V} {r : It} (h : VReps K M H vs [r]) : ∃ v, vs = [v] ∧ VRep K M H v r := by
  cases h with
  | cons h1 h2 => cases h2; exact ⟨_, rfl, h1⟩
theorem vr2 {K : PySem.W.Frag} {M : List Addr} {H : Hp} {vs : List V} {r r' : It} (h : VReps K M H vs [r, r']) : ∃ v u, vs = [v, u] ∧ VRep K M H v r ∧ VRep K M H u r' := by
  cases h with
  | cons h1 h2 =>
    obtain ⟨u, rfl, h3⟩ := vr1 h2
    exact ⟨_, u, rfl, h1, h3⟩
/-- what has a length -/
def lenOf (S : Sto) : It → Option Nat
  | .d (.list ds) => some ds.length
  | .d (.tuple ds) => some ds.length
  | .o n => match S[n]? with
    | some (.lst xs) => some xs.length
    | _ => none
  | .s ns => some ns.length
  | _ => none
theorem rw_len {l : Nat} (h : lenOf S r = some l) : RWC X (fun xs H Q => ∃ p ys, xs = [.ref p] ∧ (SqL X.K H p ys ∨ SqT X.K H p ys) ∧ Q (.int ys.length) H) [r] S (.d (.int l)) S := fun M H vs Q s hvs q => by
  obtain ⟨v, rfl, hv⟩ := vr1 hvs
  cases r with
  | d x =>
    cases x with
    | list ds =>
      cases h
      have hv' : Fz M H v (.list ds) := hv
      cases hv' with
      | lst h1 h2 => exact ⟨_, _, rfl, .inl h1.sq, by rw [fz_len h2]; exact q _ M H Ext.refl s (Fz.int _)⟩
    | tuple ds =>
      cases h
      have hv' : Fz M H v (.tuple ds) := hv
      cases hv' with
      | tup h1 h2 => exact ⟨_, _, rfl, .inr h1.sq, by rw [fz_len h2]; exact q _ M H Ext.refl s (Fz.int _)⟩
    | _ => cases h
  | o n =>
    have h' : (match S[n]? with | some (.lst xs) => some xs.length | _ => none) = some l := h
    cases e : S[n]? with
    | none => rw [e] at h'; cases h'
    | some w =>
      rw [e] at h'
      cases w with
      | lst xs =>
        cases h'
        obtain ⟨ad, had, rfl⟩ := hv
        obtain ⟨us, h1, h2⟩ := s.rep n ad _ had e
        exact ⟨_, _, rfl, .inl (.of h1), by rw [h2.len]; exact q _ M H Ext.refl s (Fz.int _)⟩
      | _ => cases h'
  | s ns =>
    cases h
    obtain ⟨ad, rfl, h1⟩ := hv
    exact ⟨_, _, rfl, .inl h1.sq, by rw [List.length_map]; exact q _ M H Ext.refl s (Fz.int _)⟩
  | r _ => cases h
theorem ev_len {l : Nat} (hm : X.mg "len" = none) (ha : Ev X a G S r S1) (h : lenOf S1 r = some l) (hg : Gl X "len" := by rfl) (he : starEach [a] X.env = (false, eval a X.env) :: starEach [] X.env := by rfl) : Ev X (.Call (.Name "len" p) [a] [] pos) G S (.d (.int l)) S1 := ev_blt call_len_seq hm PySem.boot_len (eva_cons ha eva_nil he) (rw_len h) hg (by decide) (by decide) he rfl
theorem ev_lenS {x : Str} (hm : X.mg "len" = none) (ha : Ev X a G S (.d (.str x)) S1) (h : x.length ≤ sizeLine) (hg : Gl X "len" := by rfl) (he : starEach [a] X.env = (false, eval a X.env) :: starEach [] X.env := by rfl) : Ev X (.Call (.Name "len" p) [a] [] pos) G S (.d (.int x.length)) S1 := ev_blt call_len_str hm PySem.boot_len (eva_cons ha eva_nil he) (fun M H vs Q s hvs q => by
  obtain ⟨v, rfl, hv⟩ := vr1 hvs
  exact ⟨x, by rw [vr_str hv], h, q _ M H Ext.refl s (Fz.int _)⟩) hg (by decide) (by decide) he rfl
/-- list(xs): a new list that is owned -/
theorem ev_listD (hm : X.mg "list" = none) (ha : Ev X a G S (.d (.list ds)) S1) (hg : Gl X "list" := by rfl) (he : starEach [a] X.env = (false, eval a X.env) :: starEach [] X.env := by rfl) : Ev X (.Call (.Name "list" p) [a] [] pos) G S (.o S1.length) (S1 ++ [.lst (ds.map .d)]) := ev_ty call_list_of hm (by decide +kernel) (eva_cons ha eva_nil he) (fun M H vs Q s hvs q => by
  obtain ⟨v, rfl, hv⟩ := vr1 hvs
  have hv' : Fz M H v (.list ds) := hv
  cases hv' with
  | lst h1 h2 =>
    rename_i ad xs
    refine ⟨_, _, rfl, .inl h1.sq, fun l hl => ?_⟩
    have e2 : Ext M H (M ++ [l]) (upd H l (.lst xs)) := Ext.own hl
    exact q _ _ _ e2 (s.own hl ⟨_, upd_same, VReps.ext e2 (fz_reps h2)⟩) ⟨l, by rw [← s.len, List.getElem?_append_right (Nat.le_refl _), Nat.sub_self]; rfl, rfl⟩) hg (by decide) (by decide) he rfl
/-! ### slices, + and * of lists -/
def cutD {α : Type} (xs : List α) (lo hi : Option Int) : List α := (xs.drop (HT.sIx xs.length 0 lo)).take (HT.sIx xs.length xs.length hi - HT.sIx xs.length 0 lo)
theorem fz_drop {M : List Addr} {H : Hp} : ∀ {ds : List PyData} {vs : List V} (n : Nat), FzAll M H vs ds → FzAll M H (vs.drop n) (ds.drop n)
  | _, _, 0, h => h
  | [], _, n + 1, h => by cases h; exact .nil
  | d :: ds, _, n + 1, h => by
    cases h with
    | cons h1 h2 => exact fz_drop n h2
theorem fz_take {M : List Addr} {H : Hp} : ∀ {ds : List PyData} {vs : List V} (n : Nat), FzAll M H vs ds → FzAll M H (vs.take n) (ds.take n)
  | _, _, 0, h => .nil
  | [], _, n + 1, h => by cases h; exact .nil
  | d :: ds, _, n + 1, h => by
    cases h with
    | cons h1 h2 => exact .cons h1 (fz_take n h2)
theorem fz_cut {M : List Addr} {H : Hp} {vs : List V} {lo hi : Option Int} (h : FzAll M H vs ds) : FzAll M H (cutV vs lo hi) (cutD ds lo hi) := by
  unfold cutV cutD
  rw [fz_len h]
  exact fz_take _ (fz_drop _ h)
theorem fz_app {M : List Addr} {H : Hp} : ∀ {ds es : List PyData} {vs us : List V}, FzAll M H vs ds → FzAll M H us es → FzAll M H (vs ++ us) (ds ++ es)
  | [], _, _, _, h, h' => by cases h; exact h'
  | d :: ds, _, _, _, h, h' => by
    cases h with
    | cons h1 h2 => exact .cons h1 (fz_app h2 h')
/-- a part of a slice -/
def EvP (X : Cx) (e : Option Expr) (G : Gam) (S : Sto) (i : Option Int) : Prop := match e, i with
  | none, none => True
  | some e, some i => Ev X e G S (.d (.int i)) S
  | _, _ => False
def tEP (X : Cx) (e : Option Expr) : TO := match e with
  | none => tNoPart
  | some e => tPart (sE X e)
theorem po_tEP {e : Option Expr} : PO X e (tEP X e) := match e with
  | none => po_none
  | some _ => po_some pe_s
theorem EvP.run {e : Option Expr} {i : Option Int} (h : EvP X e G S i) {M : List Addr} {σ : Sig} {H : Hp} {Q : Option Int → Hp → Prop} (s : Stt X.K M H S G σ) (q : ∀ M' H', Ext M H M' H' → Stt X.K M' H' S G σ → Q i H') : tEP X e σ H Q := by
  cases e with
  | none =>
    cases i with
    | none => exact q M H Ext.refl s
    | some i => exact h.elim
  | some e =>
    cases i with
    | none => exact h.elim
    | some i => exact h M σ H _ s fun v M1 H1 e1 t1 r1 => ⟨i, vr_int r1, q M1 H1 e1 t1⟩
/-- xs[lo:hi] of a list of data -/
theorem ev_slL {lo hi : Option Expr} {il ih : Option Int} {p2 : Pos} (ha : Ev X a G S (.d (.list ds)) S1) (hl : EvP X lo G S1 il) (hh : EvP X hi G S1 ih) : Ev X (.Subscript a (.Slice lo hi none p2) pos) G S (.d (.list (cutD ds il ih))) S1 := fun M σ H Q s q =>
  toE (pe_slice sl_list pe_s po_tEP po_tEP) (ha M σ H _ s fun v M1 H1 e1 t1 r1 => hl.run t1 fun M2 H2 e2 t2 => hh.run t2 fun M3 H3 e3 t3 => by
    have r3 : Fz M3 H3 v (.list ds) := (r1.ext e2).ext e3
    cases r3 with
    | lst h1 h2 => exact ⟨_, _, rfl, h1.sq, fun p hp => q _ M3 _ (((e1.trans e2).trans e3).trans (Ext.fresh hp)) (t3.fresh hp) (Fz.lst ⟨.inl upd_same, t3.sto.nin hp⟩ (FzAll.ext (Ext.fresh hp) (fz_cut h2)))⟩)
/-- lists that are read, added up -/
def rCatR : R2 := fun x y H Q => ∃ l b xs zs, x = .ref l ∧ y = .ref b ∧ Rd H l (.lst xs) ∧ Rd H b (.lst zs) ∧ xs.length + zs.length ≤ sizeLine ∧ ∀ p, H p = none → Q (.ref p) (upd H p (.lst (xs ++ zs)))
theorem op_catR : OpR X (binaryOp .Add) rCatR := by
  intro pins s σ H x y v u Q I rx ry h
  obtain ⟨l, b, xs, zs, rfl, rfl, hH, hB, hz, q⟩ := h
  cases rx
  cases ry
  obtain ⟨z, its, n, r, e⟩ := hH.ok I.hok
  obtain ⟨z2, its2, n2, r2, e2⟩ := hB.ok I.hok
  have hl := r.length
  have hl2 := r2.length
  refine PySem.P.add_list e e2 ?_ (by rw [List.size_toArray, List.size_toArray]; omega)
  have ea : its.toArray ++ its2.toArray = (its ++ its2).toArray := by simp
  rw [ea]
  exact ⟨.ref _, _, I.lnew (t' := s.toks) (r.append r2) (by rw [List.length_append]; omega), rfl, q _ I.fresh⟩
theorem rw_cat {es : List PyData} (hz : ds.length + es.length ≤ 1000000) : RW2 X rCatR (.d (.list ds)) (.d (.list es)) S (.d (.list (ds ++ es))) S := fun M H v u Q s hv hu q => by
  have hv' : Fz M H v (.list ds) := hv
  have hu' : Fz M H u (.list es) := hu
  cases hv' with
  | lst h1 h2 =>
    cases hu' with
    | lst h3 h4 =>
      exact ⟨_, _, _, _, rfl, rfl, h1.1, h3.1, by rw [fz_len h2, fz_len h4, sizeLine_eq]; omega, fun p hp => q _ M _ (Ext.fresh hp) (s.fresh hp) (Fz.lst ⟨.inl upd_same, s.nin hp⟩ (FzAll.ext (Ext.fresh hp) (fz_app h2 h4)))⟩
theorem ev_cat {es : List PyData} (ha : Ev X a G S (.d (.list ds)) S1) (hb : Ev X b G S1 (.d (.list es)) S2) (hz : ds.length + es.length ≤ 1000000) : Ev X (.BinOp a .Add b pos) G S (.d (.list (ds ++ es))) S2 := ev_op op_catR ha hb (rw_cat hz)
end
end Cu
/-! CuF: statements that may raise, errors, try. -/
namespace Cu
open PySem PySem.Spec PyProof.Rows L2
/-- an error's class of the text, made with a text -/
structure ExcF (K : PySem.W.Frag) (mg : Str → Option Value) (x : Str) (C : Addr) : Prop where
  gC : mg x = some (.ref C)
  xC : PySem.W.excIn K C [.type "ValueError", .type "Exception", .type "BaseException", .type "object"] "ValueError.__new__" = true
  kC : PySem.W.keepIn K (.ref C) = true
  bC : PySem.W.subIn K (.ref C) (.type "BaseException") = some true
  tC : PySem.W.typeIn K (.ref C) = some (.type "type")
section
variable {X : Cx} {W : WX} {k j : Nat} {G G1 G2 : Gam} {S S1 S2 S3 : Sto} {P : Post} {e a b o iter tg elt : Expr} {es ifs : List Expr} {r y z : It} {rs : List It} {pos pos' pos2 p p2 apos np : Pos} {st : Stmt} {sts body suite : List Stmt} {ds : List PyData} {C : Addr} {m n : Int} {Qr : It → Sto → Prop} {Qx : Addr → Sto → Prop}
/-! ### statements whose expression may raise -/
theorem ws_exprX (h : EvX X W e G S Qr Qx) (q : ∀ r S', Qr r S' → P.nx G S') (qx : ∀ C S', Qx C S' → P.xc C G S') (hs : swapsWith e none pos.line X.env = pure false := by rfl) : WS X W (.Expr e pos) G S P := fun M σ H D s m =>
  toS (ps_expr pe_s hs) (h M σ H _ s (fun v M1 H1 r S' e1 s1 r1 q1 => m.nx M1 σ H1 G S' e1 s1 (q r S' q1)) fun M1 H1 C S' e1 s1 q1 => m.xc M1 σ H1 G C S' e1 s1 (qx C S' q1))
theorem ws_retX (h : EvX X W e G S Qr Qx) (q : ∀ r S', Qr r S' → P.rt r S') (qx : ∀ C S', Qx C S' → P.xc C G S') : WS X W (.Return (some e) pos) G S P := fun M σ H D s m =>
  toS (ps_ret pe_s) (h M σ H _ s (fun v M1 H1 r S' e1 s1 r1 q1 => m.rt v M1 H1 r S' e1 s1.sto r1 (q r S' q1)) fun M1 H1 C S' e1 s1 q1 => m.xc M1 σ H1 G C S' e1 s1 (qx C S' q1))
theorem ws_setX (i : Nat) {n : Str} (nd : X.N.Nodup) (h : EvX X W e G S Qr Qx) (q : ∀ r S', Qr r S' → P.nx (G.set i (some r)) S') (qx : ∀ C S', Qx C S' → P.xc C G S') (hi : X.N[i]? = some n := by rfl) (hx : Loc X.env.scope n := by first | exact Or.inl rfl | exact Or.inr rfl)
    (hs : swapsWith e (some (.Name n pos')) pos.line X.env = pure false := by rfl) (hf : X.fn n = true ∨ X.env.scope.names.lookup n = some .local := by first | exact .inl rfl | exact .inr rfl | assumption) : WS X W (.Assign [.Name n pos'] e pos) G S P := fun M σ H D s m =>
  toS (ps_set (i := i) nd hi hx pe_s hs hf) (h M σ H _ s (fun v M1 H1 r S' e1 s1 r1 q1 => m.nx M1 _ H1 _ S' e1 (s1.set r1) (q r S' q1)) fun M1 H1 C S' e1 s1 q1 => m.xc M1 σ H1 G C S' e1 s1 (qx C S' q1))
theorem ws_asgX {tg : Expr} (h : EvX X W e G S Qr Qx) (q : ∀ r S', Qr r S' → ∃ G2 S2, EvG X tg r G S' G2 S2 ∧ P.nx G2 S2) (qx : ∀ C S', Qx C S' → P.xc C G S') (hs : swapsWithSole [tg] e pos.line X.env = pure false := by rfl) (hw : swappedStores [tg] e X.env = pure none := by rfl)
    (h1 : (assignEach [tg] X.env).map (·.2) = [assign tg X.env] := by rfl) : WS X W (.Assign [tg] e pos) G S P := fun M σ H D s m =>
  toS (ps_asg pe_s pg_s hs hw h1) (h M σ H _ s (fun v M1 H1 r S' e1 s1 r1 q1 => by
    obtain ⟨G2, S2, hg, qn⟩ := q r S' q1
    exact hg M1 σ H1 v _ s1 r1 fun σ' M2 H2 e2 s2 => m.nx M2 σ' H2 G2 S2 (e1.trans e2) s2 qn) fun M1 H1 C S' e1 s1 q1 => m.xc M1 σ H1 G C S' e1 s1 (qx C S' q1))
/-- a call that raises nothing -/
theorem EvX.ev (h : EvX X (fun _ _ _ _ => False) e G S (fun r' S' => r' = r ∧ S' = S1) (fun _ _ => False)) : Ev X e G S r S1 := fun M σ H Q s q => h M σ H Q s (fun v M' H' r' S' e1 s1 r1 q1 => by
  obtain ⟨rfl, rfl⟩ := q1
  exact q v M' H' e1 s1 r1) fun _ _ _ _ _ _ q1 => q1.elim
/-! ### calls that raise nothing -/
theorem Cxo.none (c : Cxo X W k) : Cxo X (fun _ _ _ _ => False) k := ⟨c.calm, c.nd, c.tk.imp fun _ _ _ _ z => z.elim, c.po, c.hr⟩
theorem ev_call {nm : Str} {ps : List Str} {drs : List It} {F : Fn} (c : Cxo X W k) (O : OkF X.prog X.w X.K X.mg X.base j nm ps drs F) (ha : EvA X (e :: es) G S rs S1)
    (hF : ∀ (QR : It → Sto → Prop) (QE : Addr → Sto → Prop), QR r S2 → F (rs ++ drs) S1 QR QE) (hj : j ≤ k := by decide) (hl : (rs ++ drs).length = ps.length := by rfl) (hg : Gl X nm := by rfl) (hdb : (nm == ("__debug__" : Str)) = false := by decide)
    (he : starEach (e :: es) X.env = (false, eval e X.env) :: starEach es X.env := by rfl) (hpl : (backTo pos (starEach es X.env)).any (·.1) = false := by rfl) : Ev X (.Call (.Name nm p) (e :: es) [] pos) G S r S2 :=
  EvX.ev (evx_call c.none O hj ha hl (fun QR QE h1 _ => hF QR QE (h1 _ _ ⟨rfl, rfl⟩)) hg hdb he hpl)
theorem ev_call0 {nm : Str} {ps : List Str} {drs : List It} {F : Fn} (c : Cxo X W k) (O : OkF X.prog X.w X.K X.mg X.base j nm ps drs F)
    (hF : ∀ (QR : It → Sto → Prop) (QE : Addr → Sto → Prop), QR r S2 → F drs S QR QE) (hj : j ≤ k := by decide) (hl : drs.length = ps.length := by rfl) (hg : Gl X nm := by rfl) (hdb : (nm == ("__debug__" : Str)) = false := by decide) : Ev X (.Call (.Name nm p) [] [] pos) G S r S2 :=
  EvX.ev (evx_call0 c.none O hj hl (fun QR QE h1 _ => hF QR QE (h1 _ _ ⟨rfl, rfl⟩)) hg hdb)
theorem ev_meth {mt : Str} {ps : List Str} {drs : List It} {F : Fn} {fs : List (Str × It)} {i : Nat} {pl : Sem Bool} (c : Cxo X W k) (O : OkM X.prog X.w X.K X.mg X.base j C mt ps drs F) (ho : Ev X o G S (.o i) S1) (hi : S1[i]? = some (.ins C fs)) (ha : EvA X (e :: es) G S1 rs S2)
    (hF : ∀ (QR : It → Sto → Prop) (QE : Addr → Sto → Prop), QR r S3 → F (.o i :: (rs ++ drs)) S2 QR QE) (hj : j ≤ k := by decide) (hl : (.o i :: (rs ++ drs) : List It).length = ps.length := by rfl) (hnm : fs.lookup mt = none := by rfl)
    (hst : starEach (e :: es) X.env = (false, eval e X.env) :: starEach es X.env := by rfl) (hpl : (backTo pos (starEach es X.env)).any (·.1) = false := by rfl)
    (ht : eval (.Call (.Attribute o mt apos) (e :: es) [] pos) X.env = (do
      let ov ← eval o X.env
      standAt apos.atName
      let (f, first) ← holding [ov] (getMethod ov mt pl)
      callWith pos f first (backTo pos (starEach (e :: es) X.env)) (backToKw pos (keywordEach [] X.env))) := by rfl) : Ev X (.Call (.Attribute o mt apos) (e :: es) [] pos) G S r S3 :=
  EvX.ev (evx_meth c.none O hj ho hi ha hl (fun QR QE h1 _ => hF QR QE (h1 _ _ ⟨rfl, rfl⟩)) hnm hst hpl ht)
theorem ev_meth0 {mt : Str} {ps : List Str} {drs : List It} {F : Fn} {fs : List (Str × It)} {i : Nat} {pl : Sem Bool} (c : Cxo X W k) (O : OkM X.prog X.w X.K X.mg X.base j C mt ps drs F) (ho : Ev X o G S (.o i) S1) (hi : S1[i]? = some (.ins C fs))
    (hF : ∀ (QR : It → Sto → Prop) (QE : Addr → Sto → Prop), QR r S3 → F (.o i :: drs) S1 QR QE) (hj : j ≤ k := by decide) (hl : (.o i :: drs : List It).length = ps.length := by rfl) (hnm : fs.lookup mt = none := by rfl)
    (ht : eval (.Call (.Attribute o mt apos) [] [] pos) X.env = (do
      let ov ← eval o X.env
      standAt apos.atName
      let (f, first) ← holding [ov] (getMethod ov mt pl)
      callWith pos f first (backTo pos (starEach [] X.env)) (backToKw pos (keywordEach [] X.env))) := by rfl) : Ev X (.Call (.Attribute o mt apos) [] [] pos) G S r S3 :=
  EvX.ev (evx_meth0 c.none O hj ho hi hl (fun QR QE h1 _ => hF QR QE (h1 _ _ ⟨rfl, rfl⟩)) hnm ht)
theorem ev_make {nm : Str} {ps : List Str} {drs : List It} {F : Fn} (c : Cxo X W k) (O : OkC X.prog X.w X.K X.mg X.base j C nm ps drs F) (ha : EvA X (e :: es) G S rs S1)
    (hF : ∀ (QR : It → Sto → Prop) (QE : Addr → Sto → Prop), QR (.d .none) S2 → F (.o S1.length :: (rs ++ drs)) (S1 ++ [.ins C []]) QR QE) (hj : j + 1 ≤ k := by decide) (hl : (.o S1.length :: (rs ++ drs) : List It).length = ps.length := by rfl) (hg : Gl X nm := by rfl) (hdb : (nm == ("__debug__" : Str)) = false := by decide)
    (he : starEach (e :: es) X.env = (false, eval e X.env) :: starEach es X.env := by rfl) (hpl : (backTo pos (starEach es X.env)).any (·.1) = false := by rfl) : Ev X (.Call (.Name nm p) (e :: es) [] pos) G S (.o S1.length) S2 :=
  EvX.ev (evx_make c.none O hj ha hl (fun QR QE h1 _ => hF QR QE (h1 _ ⟨rfl, rfl⟩)) hg hdb he hpl)
/-! ### raise, try -/
theorem ws_raise {x mtx : Str} {j : Nat} (c : Cxo X W k) (T : ExcF X.K X.mg x C) (q : P.xc C G S) (hg : Gl X x := by rfl) (hdb : (x == ("__debug__" : Str)) = false := by decide) : WS X W (.Raise (some (.Call (.Name x p) [.Constant (.str mtx) j p2] [] pos)) none pos2) G S P := fun M σ H D s m =>
  toS (ps_raise c.calm c.tk (pmk_own PySem.F.excBase_ValueError T.xC T.gC T.kC (raises_own T.bC T.tC) hg hdb)) (m.xc M σ H G C S Ext.refl s q)
/-- the context of a try's body -/
abbrev trX (X : Cx) (pn : List (Addr × Obj)) (xe : Value → Shared → Prop) : Cx := X.tr pn xe
/-- the context of a suite that holds the error at a -/
abbrev suX (X : Cx) (ad : Addr) (oe : Obj) (pn : List (Addr × Obj)) : Cx := X.suite ad ((ad, oe) :: pn)
/-- try: .. except x as n: suite -/
theorem ws_try_as {x n : Str} {c0 : Value} {b₀ : Stmt} (i : Nat) (c : Cxo X W k) (hs : X.stack = X.env :: X.outer) (hf : X.env.frame = some X.env.locals) (hc : Names X x c0) (Qx : Addr → Gam → Sto → Prop)
    (hb : ∀ (W' : WX) (pn : List (Addr × Obj)) (xe : Value → Shared → Prop), Cxo (trX X pn xe) W' k → WSs (trX X pn xe) W' body G S { P with xc := Qx })
    (hsu : ∀ C G' S', Qx C G' S' → PySem.W.exmOne X.K (.ref C) c0 = some true ∧ ∀ (ad : Addr) (oe : Obj) (pn : List (Addr × Obj)), Zc (.ref C) none oe → (∃ vs, oe.data = .fields vs) →
      WSs (suX X ad oe pn) (fun _ _ _ _ => False) (b₀ :: suite) (G'.set i (some (.r (.ref ad)))) S' { nx := fun G S => P.nx (G.set i none) S, rt := P.rt, bk := fun G S => P.bk (G.set i none) S, ct := fun G S => P.ct (G.set i none) S })
    (hi : X.N[i]? = some n := by rfl) (hln : X.env.kindOf n = some .local := by rfl) : WS X W (.Try body [.ExceptHandler (some (.Name x np)) (some n) (b₀ :: suite) pos'] [] [] pos) G S P := fun M σ H D s m =>
  toS (ps_try_as (i := i) (tb := fun W' => fun D σ H => ∀ pn xe, Takes (X.tr pn xe) W' → PassesOwn (model X.prog X.w) X.A X.env xe → sSs (X.tr pn xe) body D σ H) (ts := fun ad cls d => fun D σ H => ∀ oe pn, Zc cls d oe → (∃ vs, oe.data = .fields vs) → sSs (suX X ad oe pn) (b₀ :: suite) D σ H) hs hf c.nd hi hln hc c.tk
    (fun W' pn xe tk po => ⟨fun pins s1 σ1 H1 D1 I1 h1 => h1 pn xe tk po pins s1 I1⟩) (fun ad oe cls d pn hz hd => ⟨fun pins s1 σ1 H1 D1 I1 h1 => h1 oe pn hz hd pins s1 I1⟩)) (by
    intro pn xe tk po
    refine hb _ pn xe ⟨c.calm, c.nd, tk, po, c.hr⟩ M σ H D s ⟨m.nx, m.rt, m.bk, m.ct, fun M' σ' H' G' C S' e1 t1 q1 => ?_⟩
    obtain ⟨h1, h2⟩ := hsu C G' S' q1
    refine ⟨true, h1, fun _ ad had oe pn' hz hd => ?_, fun q => (nomatch q)⟩
    have t2 : Stt X.K M' H' S' (G'.set i (some (.r (.ref ad)))) (σ'.set i (some (.ref ad))) := t1.set rfl
    refine h2 ad oe pn' hz hd M' _ H' _ t2 ⟨fun M2 σ2 H2 G2 S2 e2 t2 q2 => ?_, fun v M2 H2 r S2 e2 => m.rt v M2 H2 r S2 (e1.trans e2), fun M2 σ2 H2 G2 S2 e2 t2 q2 => ?_, fun M2 σ2 H2 G2 S2 e2 t2 q2 => ?_, fun _ _ _ _ _ _ _ _ q2 => q2.elim⟩
    all_goals
      have t3 : Stt X.K M2 H2 S2 (G2.set i none) (σ2.set i none) := by
        refine ⟨t2.sto, by rw [List.length_set, List.length_set]; exact t2.len, fun l u e => ?_⟩
        by_cases hl : i = l
        · subst hl
          by_cases hlt : i < G2.length
          · rw [List.getElem?_set_self hlt] at e; cases e
          · rw [List.getElem?_eq_none (by rw [List.length_set]; omega)] at e; cases e
        · rw [List.getElem?_set_ne hl] at e
          obtain ⟨v, h1, h2⟩ := t2.at_ l u e
          exact ⟨v, by rw [List.getElem?_set_ne hl]; exact h1, h2⟩
    · exact m.nx M2 _ H2 _ S2 (e1.trans e2) t3 q2
    · exact m.bk M2 _ H2 _ S2 (e1.trans e2) t3 q2
    · exact m.ct M2 _ H2 _ S2 (e1.trans e2) t3 q2)
/-! ### isinstance of the error that a suite holds -/
/-- isinstance(e, (c1, c2, ..)) -/
theorem call_isET {a D : Addr} {oe : Obj} {pn : List (Addr × Obj)} (C : ExcC X.K D) (hz : Zc (.ref D) none oe) (hf : ∃ vs, oe.data = .fields vs) : CallR (X.suite a ((a, oe) :: pn)) (.builtin "isinstance") (fun xs H Q => ∃ (tp : Addr) (cs : List V) (us : List Value) (b : Bool), xs = [.ref a, .ref tp] ∧ H tp = some (.tup cs) ∧ Paired ClsV cs us ∧ PySem.W.kitAny X.K (.ref D) us = some b ∧ Q (.bl b) H) := by
  intro pins s σ H xs us Q I r h
  obtain ⟨tp, cs, ws, b, rfl, hT, k, e, q⟩ := h
  obtain ⟨u1, u2, rfl, r1, r2⟩ := vals2 r
  cases (show u2 = Value.ref tp from r2)
  cases (show u1 = Value.ref a from r1)
  obtain ⟨hget, _⟩ := I.pin (a, oe) (List.mem_append.mpr (.inl List.mem_cons_self))
  obtain ⟨vs, hv⟩ := hf
  have J : PySem.W.InstAt s.heap a oe D none := by
    obtain ⟨oc, od, oda, osl⟩ := oe
    obtain ⟨h1, h2⟩ := hz
    dsimp only at h1 h2 hv
    subst h1 h2 hv
    exact ⟨hget, rfl, rfl, trivial⟩
  obtain ⟨_, its, rv, o, h1, h2, n, h3⟩ := (show ObjOk X.prog X.w H s.heap tp (.tup cs) from I.hok tp _ hT)
  have e3 := ClsV.all k rv
  subst e3
  obtain ⟨oc, od, dt, sl⟩ := o
  simp only at h2 h3
  subst h2 h3
  exact PySem.W.kia_tup (PySem.W.handS_kitx_exc C.hg C.hk C.hs C.hd C.ha C.hn C.ht C.hm) I.kIn J h1 e (fun z => nomatch z) fun tk => ⟨.bl b, H, I.kept (t' := tk) fun _ _ z => z, rfl, q⟩
/-- the answer's class value -/
def clsVal : It → Option Value
  | .r (.ty n) => some (.type n)
  | .r (.ref C) => some (.ref C)
  | _ => none
/-- isinstance(e, c) -/
theorem ev_isE {ad D : Addr} {oe : Obj} {pn : List (Addr × Obj)} {cv : Value} {kk : Bool} (T : ExcC X.K D) (hz : Zc (.ref D) none oe) (hf : ∃ vs, oe.data = .fields vs) (hm : X.mg "isinstance" = none) (ha : Ev (suX X ad oe pn) a G S (.r (.ref ad)) S1) (hb : Ev (suX X ad oe pn) b G S1 r S2) (hr : clsVal r = some cv) (hk : PySem.W.kitOne X.K (.ref D) cv = some kk)
    (hg : Gl X "isinstance" := by rfl) (he : starEach [a, b] X.env = (false, eval a X.env) :: starEach [b] X.env := by rfl) (he2 : starEach [b] X.env = (false, eval b X.env) :: starEach [] X.env := by rfl) (hpl : (backTo pos (starEach [b] X.env)).any (·.1) = false := by rfl) : Ev (suX X ad oe pn) (.Call (.Name "isinstance" p) [a, b] [] pos) G S (.d (.bool kk)) S2 :=
  ev_blt (X := suX X ad oe pn) (call_isE T hz hf) hm (by decide +kernel) (eva_cons ha (eva_cons hb eva_nil he2) he) (fun M H vs Q s hv q => by
    obtain ⟨v, u, rfl, h1, h2⟩ := vr2 hv
    have e1 : v = .ref ad := h1
    subst e1
    have hu : ∀ w, RelV u w → w = cv := by
      intro w hw
      cases r with
      | r x =>
        have e2 : u = x := h2
        subst e2
        cases u <;> first | (cases hr; exact hw) | cases hr
      | _ => cases hr
    exact ⟨u, cv, kk, rfl, hu, hk, q _ M H Ext.refl s (Fz.bl _)⟩) hg (by decide) (by decide) he hpl
end
end Cu
/-! CuG: isinstance, methods of texts and lists, str, join, min, over data. -/
namespace Cu
open PySem PySem.Spec PyProof.Rows L2
/-- what the classes of the text must say, so that isinstance asks their instances rightly -/
structure InsC (K : PySem.W.Frag) (C : Addr) : Prop where
  cl : Cls K C
  ha : PySem.W.findIn K (.ref C) "__class__" = some (some (.builtin "object.__class__"))
  hn : PySem.W.specialIn K (.builtin "object.__class__") "__get__" = some (some (.builtin "getset_descriptor.__get__"))
  ht : PySem.W.takesIn K (.builtin "object.__class__") = some true
  hm : PySem.W.mroIn K C (.type "object") = some true
def tyName : PyData → String
  | .none => "NoneType"
  | .bool _ => "bool"
  | .int _ => "int"
  | .str _ => "str"
  | .list _ => "list"
  | .tuple _ => "tuple"
  | .dict _ => "dict"
theorem fz_ty {K : PySem.W.Frag} {M : List Addr} {H : Hp} {v : V} {x : PyData} (h : Fz M H v x) : TyX K H v (.type (tyName x)) := by
  cases h with
  | non => exact .base .non
  | bl b => exact .base (.bl b)
  | int i => exact .base (.int i)
  | str x => exact .base (.str x)
  | lst h1 h2 =>
    rcases h1.1 with e | ⟨o, e⟩
    · exact .base (.lst e)
    · exact .base (.frz e)
  | tup h1 h2 => exact .base (.tup h1.1)
/-- the class value of what isinstance is asked of -/
inductive TyIt (K : PySem.W.Frag) (S : Sto) : It → Value → Prop
  | d (x : PyData) : TyIt K S (.d x) (.type (tyName x))
  | l {n : Nat} {xs : List It} (h : S[n]? = some (.lst xs)) : TyIt K S (.o n) (.type "list")
  | dT {n : Nat} {xs : List (List Key × It)} (h : S[n]? = some (.dT xs)) : TyIt K S (.o n) (.type "dict")
  | dK {n : Nat} {xs : List (Key × It)} (h : S[n]? = some (.dK xs)) : TyIt K S (.o n) (.type "dict")
  | ins {n : Nat} {C : Addr} {fs : List (Str × It)} (T : InsC K C) (h : S[n]? = some (.ins C fs)) : TyIt K S (.o n) (.ref C)
  | tup {n : Nat} {xs : List It} (h : S[n]? = some (.tup xs)) : TyIt K S (.o n) (.type "tuple")
theorem TyIt.tyx {K : PySem.W.Frag} {S : Sto} {M : List Addr} {H : Hp} {v : V} {r : It} {t : Value} (s : StoreOk K M H S) (h : TyIt K S r t) (hv : VRep K M H v r) : TyX K H v t := by
  cases h with
  | d x => exact fz_ty hv
  | l h =>
    obtain ⟨ad, had, rfl⟩ := hv
    obtain ⟨vs, e, _⟩ := s.rep _ ad _ had h
    exact .base (.lst e)
  | dT h =>
    obtain ⟨ad, had, rfl⟩ := hv
    obtain ⟨vs, e, _⟩ := s.rep _ ad _ had h
    exact .base (.dT e)
  | dK h =>
    obtain ⟨ad, had, rfl⟩ := hv
    obtain ⟨vs, e, _⟩ := s.rep _ ad _ had h
    exact .base (.dK e)
  | ins T h =>
    obtain ⟨ad, had, rfl⟩ := hv
    obtain ⟨dx, vs, e, _⟩ := s.rep _ ad _ had h
    exact .base (.ins e T.cl T.ha T.hn T.ht T.hm)
  | tup h =>
    obtain ⟨ad, had, rfl⟩ := hv
    obtain ⟨vs, e, _⟩ := s.rep _ ad _ had h
    exact .base (.tup e)
section
variable {X : Cx} {W : WX} {k j : Nat} {G G1 G2 : Gam} {S S1 S2 S3 : Sto} {P : Post} {e a b o iter tg elt : Expr} {es ifs : List Expr} {r y z : It} {rs : List It} {pos pos' pos2 p p2 apos np cpos : Pos} {st : Stmt} {sts body suite : List Stmt} {ds : List PyData} {C : Addr} {m n : Int} {Qr : It → Sto → Prop} {Qx : Addr → Sto → Prop}
theorem clsV_of {u : V} {cv : Value} (hr : clsVal r = some cv) {K : PySem.W.Frag} {M : List Addr} {H : Hp} (h : VRep K M H u r) : ClsV u cv := by
  cases r with
  | r x =>
    have e2 : u = x := h
    subst e2
    cases u <;> first | (cases hr; exact .ty _) | (cases hr; exact .own _) | cases hr
  | _ => cases hr
/-- isinstance(x, c) -/
theorem ev_isi {t cv : Value} {kk : Bool} (hm : X.mg "isinstance" = none) (ha : Ev X a G S z S1) (hb : Ev X b G S1 r S2) (hr : clsVal r = some cv) (hT : TyIt X.K S2 z t) (hk : PySem.W.kitOne X.K t cv = some kk)
    (hg : Gl X "isinstance" := by rfl) (he : starEach [a, b] X.env = (false, eval a X.env) :: starEach [b] X.env := by rfl) (he2 : starEach [b] X.env = (false, eval b X.env) :: starEach [] X.env := by rfl) (hpl : (backTo pos (starEach [b] X.env)).any (·.1) = false := by rfl) : Ev X (.Call (.Name "isinstance" p) [a, b] [] pos) G S (.d (.bool kk)) S2 :=
  ev_blt call_isi hm (by decide +kernel) (eva_cons ha (eva_cons hb eva_nil he2) he) (fun M H vs Q s hv q => by
    obtain ⟨v, u, rfl, h1, h2⟩ := vr2 hv
    exact ⟨v, u, t, cv, kk, rfl, clsV_of hr h2, hT.tyx s h1, hk, q _ M H Ext.refl s (Fz.bl _)⟩) hg (by decide) (by decide) he hpl
/-- isinstance of a datum with a built-in class -/
theorem ev_isD {x : PyData} {T : String} {nm : Str} {kk : Bool} {pn : Pos} (hm : X.mg "isinstance" = none) (hT : X.mg nm = none) (ha : Ev X a G S (.d x) S1) (hB : kitB (tyName x) T = some kk) (hv : bootBuiltins nm = some (.type T) := by decide +kernel) (hg : Gl X "isinstance" := by rfl) (hg2 : Gl X nm := by rfl) (hn : nm ≠ "__name__" := by decide) (hd : (nm == ("__debug__" : Str)) = false := by decide)
    (he : starEach [a, .Name nm pn] X.env = (false, eval a X.env) :: starEach [.Name nm pn] X.env := by rfl) (he2 : starEach [.Name nm pn] X.env = (false, eval (.Name nm pn) X.env) :: starEach [] X.env := by rfl) (hpl : (backTo pos (starEach [.Name nm pn] X.env)).any (·.1) = false := by rfl) : Ev X (.Call (.Name "isinstance" p) [a, .Name nm pn] [] pos) G S (.d (.bool kk)) S1 :=
  ev_isi hm ha (ev_type hT hv hg2 hn hd) rfl (.d x) (kit_ty hB) hg he he2 hpl
/-- the class values of items -/
def clsVals : List It → Option (List Value)
  | [] => some []
  | r :: rs => match clsVal r, clsVals rs with
    | some v, some vs => some (v :: vs)
    | _, _ => none
theorem clsVs_of {K : PySem.W.Frag} {M : List Addr} {H : Hp} : ∀ {rs : List It} {cvs : List Value} {us : List V}, clsVals rs = some cvs → VReps K M H us rs → Paired ClsV us cvs
  | [], cvs, us, h, hr => by
    cases h
    cases hr
    exact .nil
  | r :: rs, cvs, us, h, hr => by
    cases hr with
    | cons h1 h2 =>
      have h' : (match clsVal r, clsVals rs with | some v, some vs => some (v :: vs) | _, _ => none) = some cvs := h
      cases e1 : clsVal r with
      | none => rw [e1] at h'; cases h'
      | some v =>
        cases e2 : clsVals rs with
        | none => rw [e1, e2] at h'; cases h'
        | some vs =>
          rw [e1, e2] at h'
          cases h'
          exact .cons (clsV_of e1 h1) (clsVs_of e2 h2)
/-- isinstance(e, (c1, c2, ..)), e the error that the suite holds -/
theorem ev_isET {ad D : Addr} {oe : Obj} {pn : List (Addr × Obj)} {cvs : List Value} {kk : Bool} {x1 : Nat} {tpos : Pos} (T : ExcC X.K D) (hz : Zc (.ref D) none oe) (hf : ∃ vs, oe.data = .fields vs) (hm : X.mg "isinstance" = none) (ha : Ev (suX X ad oe pn) a G S (.r (.ref ad)) S1) (hb : EvA (suX X ad oe pn) es G S1 rs S2) (hr : clsVals rs = some cvs) (hk : PySem.W.kitAny X.K (.ref D) cvs = some kk)
    (hl : rs.length ≤ 1000 := by exact Nat.le_of_ble_eq_true rfl) (hg : Gl X "isinstance" := by rfl) (he : starEach [a, .Tuple es x1 tpos] X.env = (false, eval a X.env) :: starEach [.Tuple es x1 tpos] X.env := by rfl) (he2 : starEach [.Tuple es x1 tpos] X.env = (false, eval (.Tuple es x1 tpos) X.env) :: starEach [] X.env := by rfl)
    (hpl : (backTo pos (starEach [.Tuple es x1 tpos] X.env)).any (·.1) = false := by rfl) : Ev (suX X ad oe pn) (.Call (.Name "isinstance" p) [a, .Tuple es x1 tpos] [] pos) G S (.d (.bool kk)) S2 := fun M σ H Q s q =>
  toE (X := suX X ad oe pn) (pe_callB (call_isET T hz hf) hg hm (by decide +kernel) (pa_cons pe_s (pa_cons (pe_tup pa_s) pa_nil he2) he) (by decide) (by decide) he hpl) (ha M σ H _ s fun v M1 H1 e1 t1 r1 => hb M1 σ H1 _ t1 fun us M2 H2 e2 t2 r2 => ⟨Nat.le_of_lt (small1000 (by rw [r2.len]; exact hl)), fun tp htp => by
    have e3 : v = .ref ad := r1
    subst e3
    exact ⟨tp, us, cvs, kk, rfl, upd_same, clsVs_of hr r2, hk, q _ M2 _ ((e1.trans e2).trans (Ext.fresh htp)) (t2.fresh htp) (Fz.bl _)⟩⟩)
/-! ### methods of built-in types -/
theorem ev_bm {T id : String} {name : Str} {rr : V → List V → Hp → VK → Prop} (pa : PlainAttrs T) (slot : Slot T name id) (hty : typeOf (.builtin id) = pure (.type "method_descriptor")) (hmt : MtR X id rr) (ho : Ev X o G S z S1) (hT : ∀ M H v, StoreOk X.K M H S1 → VRep X.K M H v z → tyV X.K T v H) (ha : EvA X (e :: es) G S1 rs S2) (hr : RWM X rr z rs S2 y S3)
    (hbase : attributeBase o name X.env (eval o X.env) = eval o X.env := by rfl)
    (hfew : ((backTo cpos (starEach (e :: es) X.env)).all (fun x => !x.1) && (backToKw cpos (keywordEach [] X.env)).all (fun x => x.1.isSome)
      && decide ((e :: es).length + ([] : List Keyword).length + (if ([] : List Keyword).isEmpty then 0 else 1) < 30)) = true := by rfl)
    (hline : (apos.endLine == cpos.line) = true := by rfl) (hs : starEach (e :: es) X.env = (false, eval e X.env) :: starEach es X.env := by rfl) (hplain : (backTo cpos (starEach es X.env)).any (·.1) = false := by rfl) : Ev X (.Call (.Attribute o name apos) (e :: es) [] cpos) G S y S3 := fun M σ H Q s q =>
  toE (pe_bm pa slot hty hmt pe_s pa_s hbase hfew hline hs hplain) (ho M σ H _ s fun v M1 H1 e1 t1 r1 => ⟨hT M1 H1 v t1.sto r1, ha M1 σ H1 _ t1 fun us M2 H2 e2 t2 r2 => hr M2 H2 v us _ t2.sto (r1.ext e2) r2 fun w M3 H3 e3 s3 r3 => q w M3 H3 ((e1.trans e2).trans e3) (t2.mono e3 s3) r3⟩)
theorem ev_bm0 {T id : String} {name : Str} {rr : V → List V → Hp → VK → Prop} (pa : PlainAttrs T) (slot : Slot T name id) (hty : typeOf (.builtin id) = pure (.type "method_descriptor")) (hmt : MtR X id rr) (ho : Ev X o G S z S1) (hT : ∀ M H v, StoreOk X.K M H S1 → VRep X.K M H v z → tyV X.K T v H) (hr : RWM X rr z [] S1 y S2)
    (hbase : attributeBase o name X.env (eval o X.env) = eval o X.env := by rfl) (hline : (apos.endLine == cpos.line) = true := by rfl) : Ev X (.Call (.Attribute o name apos) [] [] cpos) G S y S2 := fun M σ H Q s q =>
  toE (pe_bm0 pa slot hty hmt pe_s hbase hline) (ho M σ H _ s fun v M1 H1 e1 t1 r1 => ⟨hT M1 H1 v t1.sto r1, hr M1 H1 v [] _ t1.sto r1 .nil fun w M3 H3 e3 s3 r3 => q w M3 H3 (e1.trans e3) (t1.mono e3 s3) r3⟩)
theorem ty_str {x : Str} : ∀ M H v, StoreOk X.K M H S → VRep X.K M H v (.d (.str x)) → tyV X.K "str" v H := fun M H v _ h => by rw [vr_str h]; rfl
theorem ty_own {i : Nat} {xs : List It} (hi : S[i]? = some (.lst xs)) : ∀ M H v, StoreOk X.K M H S → VRep X.K M H v (.o i) → tyV X.K "list" v H := fun M H v s h => by
  obtain ⟨ad, had, rfl⟩ := h
  obtain ⟨vs, e, _⟩ := s.rep i ad _ had hi
  exact .inl ⟨rfl, vs, .of e⟩
/-- xs.append(e) -/
theorem ev_append {i : Nat} {xs : List It} (ho : Ev X o G S (.o i) S1) (hi : S1[i]? = some (.lst xs)) (ha : Ev X e G S1 r S2) (hi2 : S2[i]? = some (.lst xs)) (hz : xs.length < 1000000) (hbase : attributeBase o "append" X.env (eval o X.env) = eval o X.env := by rfl)
    (hfew : ((backTo cpos (starEach [e] X.env)).all (fun x => !x.1) && (backToKw cpos (keywordEach [] X.env)).all (fun x => x.1.isSome) && decide ([e].length + ([] : List Keyword).length + (if ([] : List Keyword).isEmpty then 0 else 1) < 30)) = true := by rfl)
    (hline : (apos.endLine == cpos.line) = true := by rfl) (hs : starEach [e] X.env = (false, eval e X.env) :: starEach [] X.env := by rfl) : Ev X (.Call (.Attribute o "append" apos) [e] [] cpos) G S (.d .none) (S2.set i (.lst (xs ++ [r]))) :=
  ev_bm PySem.F.plainAttrs_list PySem.F.slot_list_append PySem.F.type_list_append mt_append ho (ty_own hi) (eva_cons ha eva_nil hs) (fun M H v vs Q s hv hvs q => by
    obtain ⟨u, rfl, hu⟩ := vr1 hvs
    obtain ⟨ad, had, rfl⟩ := hv
    obtain ⟨ws, e1, e2⟩ := s.rep i ad _ had hi2
    have e3 : Ext M H M (upd H ad (.lst (ws ++ [u]))) := Ext.put (List.mem_of_getElem? had)
    exact ⟨ad, ws, u, rfl, rfl, e1, by rw [e2.len, sizeLine_eq]; omega, q .non M _ e3 (s.put had ⟨_, upd_same, VReps.append (VReps.ext e3 e2) (.cons (hu.ext e3) .nil)⟩) Fz.non⟩) hbase hfew hline hs rfl
/-- texts among data -/
theorem fz_strs {M : List Addr} {H : Hp} : ∀ {xs : List Str} {vs : List V}, FzAll M H vs (xs.map .str) → vs = xs.map V.str
  | [], _, h => by cases h; rfl
  | x :: xs, _, h => by
    cases h with
    | cons h1 h2 =>
      rw [List.map_cons, fz_strs h2, vr_str (K := []) h1]
theorem fz_ints {M : List Addr} {H : Hp} : ∀ {xs : List Int} {vs : List V}, FzAll M H vs (xs.map .int) → vs = xs.map V.int
  | [], _, h => by cases h; rfl
  | x :: xs, _, h => by
    cases h with
    | cons h1 h2 =>
      rw [List.map_cons, fz_ints h2, vr_int (K := []) h1]
theorem fz_bools {M : List Addr} {H : Hp} : ∀ {xs : List Bool} {vs : List V}, FzAll M H vs (xs.map .bool) → vs = xs.map V.bl
  | [], _, h => by cases h; rfl
  | x :: xs, _, h => by
    cases h with
    | cons h1 h2 =>
      rw [List.map_cons, fz_bools h2, vr_bool (K := []) h1]
/-- sep.join(xs) -/
theorem ev_join {x : Str} {ys : List Str} (ho : Ev X o G S (.d (.str x)) S1) (ha : Ev X e G S1 (.d (.list (ys.map .str))) S2) (hz : (ys.map (·.length)).sum + ys.length * x.length ≤ 16777216) (hbase : attributeBase o "join" X.env (eval o X.env) = eval o X.env := by rfl)
    (hfew : ((backTo cpos (starEach [e] X.env)).all (fun x => !x.1) && (backToKw cpos (keywordEach [] X.env)).all (fun x => x.1.isSome) && decide ([e].length + ([] : List Keyword).length + (if ([] : List Keyword).isEmpty then 0 else 1) < 30)) = true := by rfl)
    (hline : (apos.endLine == cpos.line) = true := by rfl) (hs : starEach [e] X.env = (false, eval e X.env) :: starEach [] X.env := by rfl) : Ev X (.Call (.Attribute o "join" apos) [e] [] cpos) G S (.d (.str (Txt.join x ys))) S2 :=
  ev_bm PySem.F.plainAttrs_str PySem.F.slot_str_join PySem.F.type_str_join mt_join ho ty_str (eva_cons ha eva_nil hs) (fun M H v vs Q s hv hvs q => by
    obtain ⟨u, rfl, hu⟩ := vr1 hvs
    have hu' : Fz M H u (.list (ys.map .str)) := hu
    cases hu' with
    | lst h1 h2 =>
      rw [vr_str hv]
      exact ⟨x, _, ys, rfl, rfl, .inl (by rw [← fz_strs h2]; exact h1.sq), hz, q _ M H Ext.refl s (Fz.str _)⟩) hbase hfew hline hs rfl
/-- str(n) -/
theorem ev_strI (hm : X.mg "str" = none) (ha : Ev X a G S (.d (.int n)) S1) (h : n.natAbs.log2 < 1920) (hg : Gl X "str" := by rfl) (he : starEach [a] X.env = (false, eval a X.env) :: starEach [] X.env := by rfl) : Ev X (.Call (.Name "str" p) [a] [] pos) G S (.d (.str (toString n))) S1 :=
  ev_ty call_str_int hm (by decide +kernel) (eva_cons ha eva_nil he) (fun M H vs Q s hvs q => by
    obtain ⟨v, rfl, hv⟩ := vr1 hvs
    exact ⟨n, by rw [vr_int hv], h, q _ M H Ext.refl s (Fz.str _)⟩) hg (by decide) (by decide) he rfl
/-- min(xs) -/
theorem ev_minL {ns : List Int} {l : Int} (c : Cxo X W k) (hm : X.mg "min" = none) (ha : Ev X a G S (.d (.list (ns.map .int))) S1) (h : l ∈ ns) (hl : ∀ y ∈ ns, l ≤ y) (hg : Gl X "min" := by rfl) (he : starEach [a] X.env = (false, eval a X.env) :: starEach [] X.env := by rfl) : Ev X (.Call (.Name "min" p) [a] [] pos) G S (.d (.int l)) S1 :=
  ev_blt (cr_min c.calm) hm (by decide +kernel) (eva_cons ha eva_nil he) (fun M H vs Q s hvs q => by
    obtain ⟨v, rfl, hv⟩ := vr1 hvs
    have hv' : Fz M H v (.list (ns.map .int)) := hv
    cases hv' with
    | lst h1 h2 =>
      refine ⟨_, ns, rfl, by rw [← fz_ints h2]; exact h1.sq, List.length_pos_of_mem h, fun m' hm1 hm2 => ?_⟩
      have e1 : m' = l := Int.le_antisymm (hm2 l h) (hl m' hm1)
      rw [e1]
      exact q _ M H Ext.refl s (Fz.int _)) hg (by decide) (by decide) he rfl
end
end Cu
/-! CuH: the facts of a text by a Hook of our own, the defs by names, the end. -/
namespace Cu
open PySem PySem.Spec PyProof.Rows L2 He
abbrev Fk := PySem.W.Frag → Bool
def obsC (fa : List Fk) (fn : List DefD) (K : PySem.W.Frag) : AlD := ((fa.all fun f => f K) && fn.all fun d => d.ok K, fn.map fun d => fnW K d.at_)
def valC (fn : List DefD) : AlD := (true, fn.map DefD.val)
def SaysC (fa : List Fk) (fn : List DefD) (K : PySem.W.Frag) : Prop := obsC fa fn K = valC fn
def obsCG (n : Nat) (fa : List Fk) (fn : List DefD) (g : Addr → Option Obj) : AlD := obsC fa fn (frG g (asD g n))
def hookC (n : Nat) (fa : List Fk) (fn : List DefD) : PySem.W.Hook where
  α := AlD
  obs := fun s => obsCG n fa fn s.heap.get?
  val := fun _ => valC fn
  says := fun _ h => ∃ K : PySem.W.Frag, K.In h ∧ SaysC fa fn K
  of := fun _ _ e => ⟨_, frG_in, e⟩
  keeps := fun _ _ _ ⟨K, hK, c⟩ k => ⟨K, PySem.W.Frag.In.keeps hK k, c⟩
theorem obsCG_eq {n : Nat} {fa : List Fk} {fn : List DefD} {g : Addr → Option Obj} {s : Shared} (h : ∀ a, g a = s.heap.get? a) : obsCG n fa fn g = (hookC n fa fn).obs s := by
  have e : g = s.heap.get? := funext h
  rw [e] <;> rfl
section
variable {fa : List Fk} {fn : List DefD} {K : PySem.W.Frag} {mg : Str → Option Value}
theorem SaysC.fact (c : SaysC fa fn K) (i : Nat) {f : Fk} (h : fa[i]? = some f := by rfl) : f K = true := by
  have c1 := (ba (show ((fa.all fun f => f K) && fn.all fun d => d.ok K) = true from congrArg (fun z : AlD => z.1) c)).1
  exact List.all_eq_true.mp c1 f (List.mem_of_getElem? h)
theorem SaysC.def_ (c : SaysC fa fn K) (i : Nat) {d : DefD} (h : fn[i]? = some d := by rfl) : ∃ fd, FunD K d.name d.qual d.params d.body d.scope (d.dvs K) (d.kws K) (fAd K d.at_) fd := by
  have c2 := (ba (show ((fa.all fun f => f K) && fn.all fun d => d.ok K) = true from congrArg (fun z : AlD => z.1) c)).2
  have e : fn.map (fun d => fnW K d.at_) = fn.map DefD.val := congrArg (fun z : AlD => z.2) c
  have e2 : (fn.map fun d => fnW K d.at_)[i]? = (fn.map DefD.val)[i]? := by rw [e]
  rw [List.getElem?_map, List.getElem?_map, h] at e2
  exact DefD.funD (Option.some.inj e2) (List.all_eq_true.mp c2 d (List.mem_of_getElem? h))
/-- the text's facts, and where the module's names stand -/
structure Txt (fa : List Fk) (fn : List DefD) (K : PySem.W.Frag) (mg : Str → Option Value) : Prop where
  c : SaysC fa fn K
  g : ∃ h : Heap, K.In h ∧ h.Ns mainGlobals mg
theorem Txt.glo (T : Txt fa fn K mg) (i : Nat) {x : Str} (h : fa[i]? = some (Fa.ok · (.glo x)) := by rfl) : mg x = some (.ref (ga K x)) := by
  obtain ⟨_, X, G⟩ := T.g
  exact glo_ok X G (T.c.fact i h)
theorem Txt.free (T : Txt fa fn K mg) (i : Nat) {x : Str} (h : fa[i]? = some (Fa.ok · (.free x)) := by rfl) : mg x = none := by
  obtain ⟨_, X, G⟩ := T.g
  exact free_ok X G (T.c.fact i h)
theorem Txt.int (T : Txt fa fn K mg) (i : Nat) {x : Str} {n : Int} (h : fa[i]? = some (Fa.ok · (.int x n)) := by rfl) : ∃ t, mg x = some (.int n t) := by
  obtain ⟨_, X, G⟩ := T.g
  exact int_ok X G (T.c.fact i h)
theorem Txt.str (T : Txt fa fn K mg) (i : Nat) {x z : Str} (h : fa[i]? = some (Fa.ok · (.str x z)) := by rfl) : ∃ t, mg x = some (.str z t) := by
  obtain ⟨_, X, G⟩ := T.g
  exact str_ok X G (T.c.fact i h)
/-! ### further facts -/
def bExcC (x : Str) : Fk := fun K => eqO (PySem.W.findIn K (.ref (ga K x)) "__getattribute__") (some (some (.builtin "BaseException.__getattribute__"))) && (eqO (PySem.W.findIn K (.ref (ga K x)) "__getattr__") (some none) && (decide (PySem.W.subIn K (.ref (ga K x)) (.type "BaseException") = some true) && (PySem.W.hasDictIn K (ga K x) &&
  (eqO (PySem.W.findIn K (.ref (ga K x)) "__class__") (some (some (.builtin "object.__class__"))) && (eqO (PySem.W.specialIn K (.builtin "object.__class__") "__get__") (some (some (.builtin "getset_descriptor.__get__"))) && (decide (PySem.W.takesIn K (.builtin "object.__class__") = some true) && decide (PySem.W.mroIn K (ga K x) (.type "object") = some true)))))))
theorem excC_ok {x : Str} (h : bExcC x K = true) : ExcC K (ga K x) := by
  obtain ⟨h1, h⟩ := ba h
  obtain ⟨h2, h⟩ := ba h
  obtain ⟨h3, h⟩ := ba h
  obtain ⟨h4, h⟩ := ba h
  obtain ⟨h5, h⟩ := ba h
  obtain ⟨h6, h⟩ := ba h
  obtain ⟨h7, h8⟩ := ba h
  exact ⟨eqO_ok h1, eqO_ok h2, of_decide_eq_true h3, h4, eqO_ok h5, eqO_ok h6, of_decide_eq_true h7, of_decide_eq_true h8⟩
def bInsC (x : Str) : Fk := fun K => Fa.ok K (.cls x) && (eqO (PySem.W.findIn K (.ref (ga K x)) "__class__") (some (some (.builtin "object.__class__"))) && (eqO (PySem.W.specialIn K (.builtin "object.__class__") "__get__") (some (some (.builtin "getset_descriptor.__get__"))) && (decide (PySem.W.takesIn K (.builtin "object.__class__") = some true) && decide (PySem.W.mroIn K (ga K x) (.type "object") = some true))))
theorem insC_ok {x : Str} (h : bInsC x K = true) : InsC K (ga K x) := by
  obtain ⟨h1, h⟩ := ba h
  obtain ⟨h2, h⟩ := ba h
  obtain ⟨h3, h⟩ := ba h
  obtain ⟨h4, h5⟩ := ba h
  exact ⟨cls_ok h1, eqO_ok h2, eqO_ok h3, of_decide_eq_true h4, of_decide_eq_true h5⟩
/-- an instance (an error) of the class x is one of the class y -/
def bKit (x y : Str) (b : Bool) : Fk := fun K => decide (PySem.W.kitOne K (.ref (ga K x)) (.ref (ga K y)) = some b)
theorem kitR_ok {x y : Str} {b : Bool} (h : bKit x y b K = true) : PySem.W.kitOne K (.ref (ga K x)) (.ref (ga K y)) = some b := of_decide_eq_true h
def bKitT (x : Str) (T : String) (b : Bool) : Fk := fun K => decide (PySem.W.kitOne K (.ref (ga K x)) (.type T) = some b)
theorem kitT_ok {x : Str} {T : String} {b : Bool} (h : bKitT x T b K = true) : PySem.W.kitOne K (.ref (ga K x)) (.type T) = some b := of_decide_eq_true h
def bTyK (T : String) (y : Str) (b : Bool) : Fk := fun K => decide (PySem.W.kitOne K (.type T) (.ref (ga K y)) = some b)
theorem tyK_ok {y : Str} {T : String} {b : Bool} (h : bTyK T y b K = true) : PySem.W.kitOne K (.type T) (.ref (ga K y)) = some b := of_decide_eq_true h
theorem Txt.excF (T : Txt fa fn K mg) (i j : Nat) {x : Str} (h : fa[i]? = some (Fa.ok · (.glo x)) := by rfl) (h2 : fa[j]? = some (Fa.ok · (.exc x)) := by rfl) : ExcF K mg x (ga K x) := by
  obtain ⟨e1, e2, e3, e4⟩ := exc_ok (T.c.fact j h2)
  exact ⟨T.glo i h, e1, e2, e3, e4⟩
/-! ### defs by names -/
variable {P : Program} {w : World} {base : Heap} {x qual : Str} {params : Arguments} {body : List Stmt} {scope : Scope} {f C : Addr} {ps : List Str} {k : Nat} {F : Fn}
theorem okF_of (g : mg x = some (.ref f)) (hd : ∃ fd, FunD K x qual params body scope [] [] f fd)
    (hb : ∀ (kV doc pm : Value) (an : Option Addr) (cdv ct : Value) (us : List Value), us.length = ps.length → bindArgs (PySem.W.fnOf x qual params body scope .none kV doc pm an cdv ct) ⟨us, []⟩ = pure (ps.zip us))
    (h : ∀ fd, FunD K x qual params body scope [] [] f fd → FnOk P w K mg base (L2.CX P w) k f fd ps (spF K ps.length F)) : OkF P w K mg base k x ps [] F := by
  obtain ⟨fd, Fd⟩ := hd
  exact ⟨f, fd, [], [], g, Fd.kp, Fd.bindsN hb, .nil, fun _ _ => .nil, h fd Fd⟩
theorem okM_of (c : Cls K C) (m : Meth K C x f) (hd : ∃ fd, FunD K x qual params body scope [] [] f fd)
    (hb : ∀ (kV doc pm : Value) (an : Option Addr) (cdv ct : Value) (us : List Value), us.length = ps.length → bindArgs (PySem.W.fnOf x qual params body scope .none kV doc pm an cdv ct) ⟨us, []⟩ = pure (ps.zip us))
    (h : ∀ fd, FunD K x qual params body scope [] [] f fd → FnOk P w K mg base (L2.CX P w) k f fd ps (spF K ps.length F)) : OkM P w K mg base k C x ps [] F := by
  obtain ⟨fd, Fd⟩ := hd
  exact ⟨f, fd, [], [], c, m, Fd.bindsN hb, .nil, fun _ _ => .nil, h fd Fd⟩
theorem okC_of {y : Str} (g : mg y = some (.ref C)) (m : Mk K C f) (hd : ∃ fd, FunD K x qual params body scope [] [] f fd)
    (hb : ∀ (kV doc pm : Value) (an : Option Addr) (cdv ct : Value) (us : List Value), us.length = ps.length → bindArgs (PySem.W.fnOf x qual params body scope .none kV doc pm an cdv ct) ⟨us, []⟩ = pure (ps.zip us))
    (h : ∀ fd, FunD K x qual params body scope [] [] f fd → FnOk P w K mg base (L2.CX P w) k f fd ps (spF K ps.length F)) : OkC P w K mg base k C y ps [] F := by
  obtain ⟨fd, Fd⟩ := hd
  exact ⟨f, fd, [], [], g, m, Fd.bindsN hb, .nil, fun _ _ => .nil, h fd Fd⟩
end
/-- the law's own promise -/
def lawF : Fn := fun rs S QR _ => ∃ ns : List Int, rs = [.s ns] ∧ S = [] ∧ ns.length ≤ 63 ∧ QR (.d (.bool true)) []
theorem law_sp {K : PySem.W.Frag} {H : Hp} {a : Addr} {ns : List Int} (hl : ns.length ≤ 63) (hO : Only H) (hS : SqL K H a (ns.map V.int)) : spF K 1 lawF [.ref a] H (fun v _ => v = .bl true) (fun _ _ _ => False) := by
  have h0 : StoreOk K [] H [] := ⟨List.nodup_nil, rfl, fun n a w h => by simp at h⟩
  have hN : NdS K [] H a (ns.map V.int) := hS.elim (fun h => .inl ⟨h, by simp⟩) .inr
  exact ⟨[], [], [.s ns], h0, .cons ⟨a, rfl, hN⟩ .nil, rfl, ns, rfl, rfl, hl, fun v M' H' _ _ hv => vr_bool hv⟩
/-- the end: from the law's def to the row -/
theorem walk_w {l : PySem.W.OpenLaw} {fa : List Fk} {fn : List DefD} {nn k : Nat} {q : Program} {loose : List Str} {XP : (Str → Option Value) → Heap → Prop} {d : DefRec} {x : Str} (hn : l.most = some 63) (hdf : d.params.defaults = []) (hr : Room k callerA) (hd : d.name = "law")
    (h : ∀ (w : World) (K : PySem.W.Frag) (mg : Str → Option Value), Txt fa fn K mg → mg "law" = some (.ref (ga K "law")) ∧ ∃ fd : FuncData, (∀ (s : Shared) (u : Value), BindsTo s fd ⟨[u], []⟩ [(x, u)]) ∧ ∀ base : Heap, FnOk l.prog w K mg base (L2.CX l.prog w) k (ga K "law") fd [x] (spF K 1 lawF)) :
    PySem.W.WalkO q loose XP (hookC nn fa fn).says l.row.toRowW d [] (fun f vs => PySem.call f vs) := by
  refine Att.attach_call hn hdf fun w s0 s1 mg mb f1 ob pm cd doc ad vs ns Gd Y ho hda hcd hmg hobj hins hlen hgn => ?_
  obtain ⟨K, KX, c⟩ := Y
  obtain ⟨hgl, fd, hb, hF⟩ := h w K mg ⟨c, _, KX, Gd.T.g⟩
  rw [hd, hgl] at hmg
  obtain rfl : ga K "law" = f1 := by injection hmg with hmg; injection hmg
  refine law_call KX Gd.T.g Gd.T.b Gd.T.builtins Gd.T.nolimit hgn hobj hins (Nat.le_trans hlen (by rw [sizeLine_eq]; omega)) hr (fun base _ _ => hF base) hb (fun H hO hS => law_sp hlen hO hS) fun H e s' hx => ?_
  obtain ⟨_, _, _, _, _, _, _, _, _, _, _, _, z⟩ := hx
  exact z
end Cu
namespace Pf
open PySem PySem.Spec PyProof.Rows L2 He Cu
/-! ### the text: where its defs stand -/
def top (i : Nat) : Stmt := PySem.Challenge.pw_copperbook_k41_what_is_a_drawing.main.body.getD i (.Pass ⟨0, 0, 0, 0⟩)
abbrev s_is_whole : Stmt := top 8
theorem sc_is_whole : FnScope ["thing"] ["thing"] (defScope s_is_whole) := ⟨rfl, rfl, rfl, by decide +kernel, rfl, by decide +kernel, by decide +kernel⟩
abbrev s_is_name : Stmt := top 16
theorem sc_is_name : FnScope ["text", "sign"] ["text"] (defScope s_is_name) := ⟨rfl, rfl, rfl, by decide +kernel, rfl, by decide +kernel, by decide +kernel⟩
abbrev s_check_names : Stmt := top 17
theorem sc_check_names : FnScope ["names", "name"] ["names"] (defScope s_check_names) := ⟨rfl, rfl, rfl, by decide +kernel, rfl, by decide +kernel, by decide +kernel⟩
abbrev s_pins_of : Stmt := top 18
theorem sc_pins_of : FnScope ["parts", "found", "name", "kind", "many", "number"] ["parts"] (defScope s_pins_of) := ⟨rfl, rfl, rfl, by decide +kernel, rfl, by decide +kernel, by decide +kernel⟩
abbrev s_Drawing___init__ : Stmt := inClass (top 19) 0
theorem sc_Drawing___init__ : FnScope ["self", "parts", "nets", "part", "net", "name", "pins", "pin"] ["self", "parts", "nets"] (defScope s_Drawing___init__) := ⟨rfl, rfl, rfl, by decide +kernel, rfl, by decide +kernel, by decide +kernel⟩
abbrev s_Drawing_pins : Stmt := inClass (top 19) 1
theorem sc_Drawing_pins : FnScope ["self"] ["self"] (defScope s_Drawing_pins) := ⟨rfl, rfl, rfl, by decide +kernel, rfl, by decide +kernel, by decide +kernel⟩
abbrev s_Drawing_net_of : Stmt := inClass (top 19) 2
theorem sc_Drawing_net_of : FnScope ["self", "pin"] ["self", "pin"] (defScope s_Drawing_net_of) := ⟨rfl, rfl, rfl, by decide +kernel, rfl, by decide +kernel, by decide +kernel⟩
abbrev s__law_cell : Stmt := top 21
theorem sc__law_cell : FnScope ["_law_script", "_law_k"] ["_law_script", "_law_k"] (defScope s__law_cell) := ⟨rfl, rfl, rfl, by decide +kernel, rfl, by decide +kernel, by decide +kernel⟩
abbrev s__law_mixed : Stmt := top 22
theorem sc__law_mixed : FnScope ["_law_cell_here", "_law_k", "_law_number"] ["_law_cell_here", "_law_k"] (defScope s__law_mixed) := ⟨rfl, rfl, rfl, by decide +kernel, rfl, by decide +kernel, by decide +kernel⟩
abbrev s__law_twice : Stmt := top 23
theorem sc__law_twice : FnScope ["_law_cell_here", "_law_k", "_law_number"] ["_law_cell_here", "_law_k"] (defScope s__law_twice) := ⟨rfl, rfl, rfl, by decide +kernel, rfl, by decide +kernel, by decide +kernel⟩
abbrev s__law_well : Stmt := top 24
theorem sc__law_well : FnScope ["_law_script", "_law_k"] ["_law_script", "_law_k"] (defScope s__law_well) := ⟨rfl, rfl, rfl, by decide +kernel, rfl, by decide +kernel, by decide +kernel⟩
abbrev s__law_draw : Stmt := top 25
theorem sc__law_draw : FnScope ["_law_well_here", "_law_most", "_law_number"] ["_law_well_here", "_law_most"] (defScope s__law_draw) := ⟨rfl, rfl, rfl, by decide +kernel, rfl, by decide +kernel, by decide +kernel⟩
abbrev s__law_parts : Stmt := top 26
theorem sc__law_parts : FnScope ["_law_well_here", "_law_parts_here", "_law_k", "_law_name", "_law_many"] ["_law_well_here"] (defScope s__law_parts) := ⟨rfl, rfl, rfl, by decide +kernel, rfl, by decide +kernel, by decide +kernel⟩
abbrev s__law_nets : Stmt := top 27
theorem sc__law_nets : FnScope ["_law_well_here", "_law_parts_here", "_law_nets_here", "_law_name", "_law_kind", "_law_many", "_law_number", "_law_pins"] ["_law_well_here", "_law_parts_here"] (defScope s__law_nets) := ⟨rfl, rfl, rfl, by decide +kernel, rfl, by decide +kernel, by decide +kernel⟩
abbrev s__law_renamed : Stmt := top 28
theorem sc__law_renamed : FnScope ["_law_nets_here", "_law_name", "_law_other", "_law_found", "_law_net", "_law_pins", "_law_some", "_law_pin"] ["_law_nets_here", "_law_name", "_law_other"] (defScope s__law_renamed) := ⟨rfl, rfl, rfl, by decide +kernel, rfl, by decide +kernel, by decide +kernel⟩
abbrev s__law_counted : Stmt := top 29
theorem sc__law_counted : FnScope ["_law_nets_here", "_law_name", "_law_many", "_law_found", "_law_there", "_law_net", "_law_pins", "_law_some", "_law_pin", "_law_more", "_law_k"] ["_law_nets_here", "_law_name", "_law_many"] (defScope s__law_counted) := ⟨rfl, rfl, rfl, by decide +kernel, rfl, by decide +kernel, by decide +kernel⟩
abbrev s__law_crowd : Stmt := top 30
theorem sc__law_crowd : FnScope ["_law_well_here", "_law_parts_here", "_law_nets_here", "_law_many"] ["_law_well_here", "_law_parts_here", "_law_nets_here"] (defScope s__law_crowd) := ⟨rfl, rfl, rfl, by decide +kernel, rfl, by decide +kernel, by decide +kernel⟩
abbrev s__law_bad_part : Stmt := top 31
theorem sc__law_bad_part : FnScope ["_law_well_here", "_law_parts_here", "_law_nets_here", "_law_at", "_law_name", "_law_kind", "_law_many", "_law_way", "_law_words", "_law_other"] ["_law_well_here", "_law_parts_here", "_law_nets_here"] (defScope s__law_bad_part) := ⟨rfl, rfl, rfl, by decide +kernel, rfl, by decide +kernel, by decide +kernel⟩
abbrev s__law_bad_net : Stmt := top 32
theorem sc__law_bad_net : FnScope ["_law_well_here", "_law_nets_here", "_law_at", "_law_name", "_law_pins", "_law_way", "_law_some"] ["_law_well_here", "_law_nets_here"] (defScope s__law_bad_net) := ⟨rfl, rfl, rfl, by decide +kernel, rfl, by decide +kernel, by decide +kernel⟩
abbrev s__law_is_name : Stmt := top 33
theorem sc__law_is_name : FnScope ["_law_text", "_law_glyph"] ["_law_text"] (defScope s__law_is_name) := ⟨rfl, rfl, rfl, by decide +kernel, rfl, by decide +kernel, by decide +kernel⟩
abbrev s__law_unlike : Stmt := top 34
theorem sc__law_unlike : FnScope ["_law_names", "_law_one"] ["_law_names"] (defScope s__law_unlike) := ⟨rfl, rfl, rfl, by decide +kernel, rfl, by decide +kernel, by decide +kernel⟩
abbrev s__law_good : Stmt := top 35
theorem sc__law_good : FnScope ["_law_parts_here", "_law_nets_here", "_law_one", "_law_pins", "_law_name", "_law_kind", "_law_many", "_law_number", "_law_told", "_law_some"] ["_law_parts_here", "_law_nets_here"] (defScope s__law_good) := ⟨rfl, rfl, rfl, by decide +kernel, rfl, by decide +kernel, by decide +kernel⟩
abbrev s__law_refused : Stmt := top 36
theorem sc__law_refused : FnScope ["_law_parts_here", "_law_nets_here", "e"] ["_law_parts_here", "_law_nets_here"] (defScope s__law_refused) := ⟨rfl, rfl, rfl, by decide +kernel, rfl, by decide +kernel, by decide +kernel⟩
abbrev s__law_no_pin : Stmt := top 37
theorem sc__law_no_pin : FnScope ["_law_drawing", "_law_pin"] ["_law_drawing", "_law_pin"] (defScope s__law_no_pin) := ⟨rfl, rfl, rfl, by decide +kernel, rfl, by decide +kernel, by decide +kernel⟩
abbrev s__law_right : Stmt := top 38
theorem sc__law_right : FnScope ["_law_parts_here", "_law_nets_here", "_law_handed", "_law_name", "_law_pins", "_law_fresh", "_law_some", "_law_pin", "_law_drawing", "_law_found"] ["_law_parts_here", "_law_nets_here"] (defScope s__law_right) := ⟨rfl, rfl, rfl, by decide +kernel, rfl, by decide +kernel, by decide +kernel⟩
abbrev s_law : Stmt := top 39
theorem sc_law : FnScope ["_law_script", "_law_well_here", "_law_parts_here", "_law_nets_here", "_law_many", "_law_some", "_law_k", "_law_pins", "_law_lone"] ["_law_script"] (defScope s_law) := ⟨rfl, rfl, rfl, by decide +kernel, rfl, by decide +kernel, by decide +kernel⟩
/-! ### the defs, the facts -/
def fn : List DefD := [
  ⟨("is_whole", none), "is_whole", "is_whole", defArgs s_is_whole, defBody s_is_whole, defScope s_is_whole, [], []⟩,
  ⟨("is_name", none), "is_name", "is_name", defArgs s_is_name, defBody s_is_name, defScope s_is_name, [], []⟩,
  ⟨("check_names", none), "check_names", "check_names", defArgs s_check_names, defBody s_check_names, defScope s_check_names, [], []⟩,
  ⟨("pins_of", none), "pins_of", "pins_of", defArgs s_pins_of, defBody s_pins_of, defScope s_pins_of, [], []⟩,
  ⟨("Drawing", some "__init__"), "__init__", "Drawing.__init__", defArgs s_Drawing___init__, defBody s_Drawing___init__, defScope s_Drawing___init__, [], []⟩,
  ⟨("Drawing", some "pins"), "pins", "Drawing.pins", defArgs s_Drawing_pins, defBody s_Drawing_pins, defScope s_Drawing_pins, [], []⟩,
  ⟨("Drawing", some "net_of"), "net_of", "Drawing.net_of", defArgs s_Drawing_net_of, defBody s_Drawing_net_of, defScope s_Drawing_net_of, [], []⟩,
  ⟨("_law_cell", none), "_law_cell", "_law_cell", defArgs s__law_cell, defBody s__law_cell, defScope s__law_cell, [], []⟩,
  ⟨("_law_mixed", none), "_law_mixed", "_law_mixed", defArgs s__law_mixed, defBody s__law_mixed, defScope s__law_mixed, [], []⟩,
  ⟨("_law_twice", none), "_law_twice", "_law_twice", defArgs s__law_twice, defBody s__law_twice, defScope s__law_twice, [], []⟩,
  ⟨("_law_well", none), "_law_well", "_law_well", defArgs s__law_well, defBody s__law_well, defScope s__law_well, [], []⟩,
  ⟨("_law_draw", none), "_law_draw", "_law_draw", defArgs s__law_draw, defBody s__law_draw, defScope s__law_draw, [], []⟩,
  ⟨("_law_parts", none), "_law_parts", "_law_parts", defArgs s__law_parts, defBody s__law_parts, defScope s__law_parts, [], []⟩,
  ⟨("_law_nets", none), "_law_nets", "_law_nets", defArgs s__law_nets, defBody s__law_nets, defScope s__law_nets, [], []⟩,
  ⟨("_law_renamed", none), "_law_renamed", "_law_renamed", defArgs s__law_renamed, defBody s__law_renamed, defScope s__law_renamed, [], []⟩,
  ⟨("_law_counted", none), "_law_counted", "_law_counted", defArgs s__law_counted, defBody s__law_counted, defScope s__law_counted, [], []⟩,
  ⟨("_law_crowd", none), "_law_crowd", "_law_crowd", defArgs s__law_crowd, defBody s__law_crowd, defScope s__law_crowd, [], []⟩,
  ⟨("_law_bad_part", none), "_law_bad_part", "_law_bad_part", defArgs s__law_bad_part, defBody s__law_bad_part, defScope s__law_bad_part, [], []⟩,
  ⟨("_law_bad_net", none), "_law_bad_net", "_law_bad_net", defArgs s__law_bad_net, defBody s__law_bad_net, defScope s__law_bad_net, [], []⟩,
  ⟨("_law_is_name", none), "_law_is_name", "_law_is_name", defArgs s__law_is_name, defBody s__law_is_name, defScope s__law_is_name, [], []⟩,
  ⟨("_law_unlike", none), "_law_unlike", "_law_unlike", defArgs s__law_unlike, defBody s__law_unlike, defScope s__law_unlike, [], []⟩,
  ⟨("_law_good", none), "_law_good", "_law_good", defArgs s__law_good, defBody s__law_good, defScope s__law_good, [], []⟩,
  ⟨("_law_refused", none), "_law_refused", "_law_refused", defArgs s__law_refused, defBody s__law_refused, defScope s__law_refused, [], []⟩,
  ⟨("_law_no_pin", none), "_law_no_pin", "_law_no_pin", defArgs s__law_no_pin, defBody s__law_no_pin, defScope s__law_no_pin, [], []⟩,
  ⟨("_law_right", none), "_law_right", "_law_right", defArgs s__law_right, defBody s__law_right, defScope s__law_right, [], []⟩,
  ⟨("law", none), "law", "law", defArgs s_law, defBody s_law, defScope s_law, [], []⟩]
def fa : List Fk := [
  (Fa.ok · (.glo "is_whole")),
  (Fa.ok · (.glo "is_name")),
  (Fa.ok · (.glo "check_names")),
  (Fa.ok · (.glo "pins_of")),
  (Fa.ok · (.glo "_law_cell")),
  (Fa.ok · (.glo "_law_mixed")),
  (Fa.ok · (.glo "_law_twice")),
  (Fa.ok · (.glo "_law_well")),
  (Fa.ok · (.glo "_law_draw")),
  (Fa.ok · (.glo "_law_parts")),
  (Fa.ok · (.glo "_law_nets")),
  (Fa.ok · (.glo "_law_renamed")),
  (Fa.ok · (.glo "_law_counted")),
  (Fa.ok · (.glo "_law_crowd")),
  (Fa.ok · (.glo "_law_bad_part")),
  (Fa.ok · (.glo "_law_bad_net")),
  (Fa.ok · (.glo "_law_is_name")),
  (Fa.ok · (.glo "_law_unlike")),
  (Fa.ok · (.glo "_law_good")),
  (Fa.ok · (.glo "_law_refused")),
  (Fa.ok · (.glo "_law_no_pin")),
  (Fa.ok · (.glo "_law_right")),
  (Fa.ok · (.glo "law")),
  (Fa.ok · (.glo "CopperError")),
  (Fa.ok · (.glo "NoShape")),
  (Fa.ok · (.glo "NoBoard")),
  (Fa.ok · (.glo "NoRules")),
  (Fa.ok · (.glo "NoDrawing")),
  (Fa.ok · (.glo "NoPin")),
  (Fa.ok · (.glo "Drawing")),
  (Fa.ok · (.exc "CopperError")),
  (Fa.ok · (.exc "NoShape")),
  (Fa.ok · (.exc "NoBoard")),
  (Fa.ok · (.exc "NoRules")),
  (Fa.ok · (.exc "NoDrawing")),
  (Fa.ok · (.exc "NoPin")),
  (Fa.ok · (.str "SMALL" "abcdefghijklmnopqrstuvwxyz")),
  (Fa.ok · (.str "FIGURES" "0123456789")),
  (Fa.ok · (.int "MOST_PARTS" 8)),
  (Fa.ok · (.int "MOST_PINS" 8)),
  (Fa.ok · (.int "MOST_NETS" 24)),
  (Fa.ok · (.int "MOST_SIGNS" 8)),
  (Fa.ok · (.free "ValueError")),
  (Fa.ok · (.free "all")),
  (Fa.ok · (.free "bool")),
  (Fa.ok · (.free "int")),
  (Fa.ok · (.free "isinstance")),
  (Fa.ok · (.free "len")),
  (Fa.ok · (.free "list")),
  (Fa.ok · (.free "min")),
  (Fa.ok · (.free "range")),
  (Fa.ok · (.free "set")),
  (Fa.ok · (.free "sorted")),
  (Fa.ok · (.free "str")),
  (Fa.ok · (.free "tuple")),
  (Fa.ok · (.cls "Drawing")),
  (Fa.ok · (.mkr "Drawing")),
  (Fa.ok · (.noat "Drawing" "homes")),
  (Fa.ok · (.noat "Drawing" "nets")),
  (Fa.ok · (.noat "Drawing" "parts")),
  (Fa.ok · (.meth "Drawing" "pins")),
  (Fa.ok · (.meth "Drawing" "net_of")),
  (bInsC "Drawing"),
  (bExcC "CopperError"),
  (Fa.ok · (.exm "CopperError" "CopperError" true)),
  (Fa.ok · (.exm "CopperError" "NoPin" false)),
  (bKit "CopperError" "NoBoard" false),
  (bKit "CopperError" "NoDrawing" false),
  (bKit "CopperError" "NoPin" false),
  (bKit "CopperError" "NoRules" false),
  (bKit "CopperError" "NoShape" false),
  (bKitT "CopperError" "bool" false),
  (bKitT "CopperError" "int" false),
  (bKitT "CopperError" "list" false),
  (bKitT "CopperError" "str" false),
  (bExcC "NoShape"),
  (Fa.ok · (.exm "NoShape" "CopperError" true)),
  (Fa.ok · (.exm "NoShape" "NoPin" false)),
  (bKit "NoShape" "NoBoard" false),
  (bKit "NoShape" "NoDrawing" false),
  (bKit "NoShape" "NoPin" false),
  (bKit "NoShape" "NoRules" false),
  (bKit "NoShape" "NoShape" true),
  (bKitT "NoShape" "bool" false),
  (bKitT "NoShape" "int" false),
  (bKitT "NoShape" "list" false),
  (bKitT "NoShape" "str" false),
  (bExcC "NoBoard"),
  (Fa.ok · (.exm "NoBoard" "CopperError" true)),
  (Fa.ok · (.exm "NoBoard" "NoPin" false)),
  (bKit "NoBoard" "NoBoard" true),
  (bKit "NoBoard" "NoDrawing" false),
  (bKit "NoBoard" "NoPin" false),
  (bKit "NoBoard" "NoRules" false),
  (bKit "NoBoard" "NoShape" false),
  (bKitT "NoBoard" "bool" false),
  (bKitT "NoBoard" "int" false),
  (bKitT "NoBoard" "list" false),
  (bKitT "NoBoard" "str" false),
  (bExcC "NoRules"),
  (Fa.ok · (.exm "NoRules" "CopperError" true)),
  (Fa.ok · (.exm "NoRules" "NoPin" false)),
  (bKit "NoRules" "NoBoard" false),
  (bKit "NoRules" "NoDrawing" false),
  (bKit "NoRules" "NoPin" false),
  (bKit "NoRules" "NoRules" true),
  (bKit "NoRules" "NoShape" false),
  (bKitT "NoRules" "bool" false),
  (bKitT "NoRules" "int" false),
  (bKitT "NoRules" "list" false),
  (bKitT "NoRules" "str" false),
  (bExcC "NoDrawing"),
  (Fa.ok · (.exm "NoDrawing" "CopperError" true)),
  (Fa.ok · (.exm "NoDrawing" "NoPin" false)),
  (bKit "NoDrawing" "NoBoard" false),
  (bKit "NoDrawing" "NoDrawing" true),
  (bKit "NoDrawing" "NoPin" false),
  (bKit "NoDrawing" "NoRules" false),
  (bKit "NoDrawing" "NoShape" false),
  (bKitT "NoDrawing" "bool" false),
  (bKitT "NoDrawing" "int" false),
  (bKitT "NoDrawing" "list" false),
  (bKitT "NoDrawing" "str" false),
  (bExcC "NoPin"),
  (Fa.ok · (.exm "NoPin" "CopperError" true)),
  (Fa.ok · (.exm "NoPin" "NoPin" true)),
  (bKit "NoPin" "NoBoard" false),
  (bKit "NoPin" "NoDrawing" false),
  (bKit "NoPin" "NoPin" true),
  (bKit "NoPin" "NoRules" false),
  (bKit "NoPin" "NoShape" false),
  (bKitT "NoPin" "bool" false),
  (bKitT "NoPin" "int" false),
  (bKitT "NoPin" "list" false),
  (bKitT "NoPin" "str" false),
  (bKitT "Drawing" "bool" false),
  (bKitT "Drawing" "int" false),
  (bKitT "Drawing" "list" false),
  (bKitT "Drawing" "str" false)]
abbrev TT (K : PySem.W.Frag) (mg : Str → Option Value) : Prop := Txt fa fn K mg
section
variable {K : PySem.W.Frag} {mg : Str → Option Value}
theorem g_is_whole (T : TT K mg) : mg "is_whole" = some (.ref (ga K "is_whole")) := T.glo 0
theorem g_is_name (T : TT K mg) : mg "is_name" = some (.ref (ga K "is_name")) := T.glo 1
theorem g_check_names (T : TT K mg) : mg "check_names" = some (.ref (ga K "check_names")) := T.glo 2
theorem g_pins_of (T : TT K mg) : mg "pins_of" = some (.ref (ga K "pins_of")) := T.glo 3
theorem g__law_cell (T : TT K mg) : mg "_law_cell" = some (.ref (ga K "_law_cell")) := T.glo 4
theorem g__law_mixed (T : TT K mg) : mg "_law_mixed" = some (.ref (ga K "_law_mixed")) := T.glo 5
theorem g__law_twice (T : TT K mg) : mg "_law_twice" = some (.ref (ga K "_law_twice")) := T.glo 6
theorem g__law_well (T : TT K mg) : mg "_law_well" = some (.ref (ga K "_law_well")) := T.glo 7
theorem g__law_draw (T : TT K mg) : mg "_law_draw" = some (.ref (ga K "_law_draw")) := T.glo 8
theorem g__law_parts (T : TT K mg) : mg "_law_parts" = some (.ref (ga K "_law_parts")) := T.glo 9
theorem g__law_nets (T : TT K mg) : mg "_law_nets" = some (.ref (ga K "_law_nets")) := T.glo 10
theorem g__law_renamed (T : TT K mg) : mg "_law_renamed" = some (.ref (ga K "_law_renamed")) := T.glo 11
theorem g__law_counted (T : TT K mg) : mg "_law_counted" = some (.ref (ga K "_law_counted")) := T.glo 12
theorem g__law_crowd (T : TT K mg) : mg "_law_crowd" = some (.ref (ga K "_law_crowd")) := T.glo 13
theorem g__law_bad_part (T : TT K mg) : mg "_law_bad_part" = some (.ref (ga K "_law_bad_part")) := T.glo 14
theorem g__law_bad_net (T : TT K mg) : mg "_law_bad_net" = some (.ref (ga K "_law_bad_net")) := T.glo 15
theorem g__law_is_name (T : TT K mg) : mg "_law_is_name" = some (.ref (ga K "_law_is_name")) := T.glo 16
theorem g__law_unlike (T : TT K mg) : mg "_law_unlike" = some (.ref (ga K "_law_unlike")) := T.glo 17
theorem g__law_good (T : TT K mg) : mg "_law_good" = some (.ref (ga K "_law_good")) := T.glo 18
theorem g__law_refused (T : TT K mg) : mg "_law_refused" = some (.ref (ga K "_law_refused")) := T.glo 19
theorem g__law_no_pin (T : TT K mg) : mg "_law_no_pin" = some (.ref (ga K "_law_no_pin")) := T.glo 20
theorem g__law_right (T : TT K mg) : mg "_law_right" = some (.ref (ga K "_law_right")) := T.glo 21
theorem g_law (T : TT K mg) : mg "law" = some (.ref (ga K "law")) := T.glo 22
theorem g_CopperError (T : TT K mg) : mg "CopperError" = some (.ref (ga K "CopperError")) := T.glo 23
theorem g_NoShape (T : TT K mg) : mg "NoShape" = some (.ref (ga K "NoShape")) := T.glo 24
theorem g_NoBoard (T : TT K mg) : mg "NoBoard" = some (.ref (ga K "NoBoard")) := T.glo 25
theorem g_NoRules (T : TT K mg) : mg "NoRules" = some (.ref (ga K "NoRules")) := T.glo 26
theorem g_NoDrawing (T : TT K mg) : mg "NoDrawing" = some (.ref (ga K "NoDrawing")) := T.glo 27
theorem g_NoPin (T : TT K mg) : mg "NoPin" = some (.ref (ga K "NoPin")) := T.glo 28
theorem g_Drawing (T : TT K mg) : mg "Drawing" = some (.ref (ga K "Drawing")) := T.glo 29
theorem x_CopperError (T : TT K mg) : ExcF K mg "CopperError" (ga K "CopperError") := T.excF 23 30
theorem x_NoShape (T : TT K mg) : ExcF K mg "NoShape" (ga K "NoShape") := T.excF 24 31
theorem x_NoBoard (T : TT K mg) : ExcF K mg "NoBoard" (ga K "NoBoard") := T.excF 25 32
theorem x_NoRules (T : TT K mg) : ExcF K mg "NoRules" (ga K "NoRules") := T.excF 26 33
theorem x_NoDrawing (T : TT K mg) : ExcF K mg "NoDrawing" (ga K "NoDrawing") := T.excF 27 34
theorem x_NoPin (T : TT K mg) : ExcF K mg "NoPin" (ga K "NoPin") := T.excF 28 35
theorem c_SMALL (T : TT K mg) : ∃ t, mg "SMALL" = some (.str "abcdefghijklmnopqrstuvwxyz" t) := T.str 36
theorem c_FIGURES (T : TT K mg) : ∃ t, mg "FIGURES" = some (.str "0123456789" t) := T.str 37
theorem c_MOST_PARTS (T : TT K mg) : ∃ t, mg "MOST_PARTS" = some (.int 8 t) := T.int 38
theorem c_MOST_PINS (T : TT K mg) : ∃ t, mg "MOST_PINS" = some (.int 8 t) := T.int 39
theorem c_MOST_NETS (T : TT K mg) : ∃ t, mg "MOST_NETS" = some (.int 24 t) := T.int 40
theorem c_MOST_SIGNS (T : TT K mg) : ∃ t, mg "MOST_SIGNS" = some (.int 8 t) := T.int 41
theorem z_ValueError (T : TT K mg) : mg "ValueError" = none := T.free 42
theorem z_all (T : TT K mg) : mg "all" = none := T.free 43
theorem z_bool (T : TT K mg) : mg "bool" = none := T.free 44
theorem z_int (T : TT K mg) : mg "int" = none := T.free 45
theorem z_isinstance (T : TT K mg) : mg "isinstance" = none := T.free 46
theorem z_len (T : TT K mg) : mg "len" = none := T.free 47
theorem z_list (T : TT K mg) : mg "list" = none := T.free 48
theorem z_min (T : TT K mg) : mg "min" = none := T.free 49
theorem z_range (T : TT K mg) : mg "range" = none := T.free 50
theorem z_set (T : TT K mg) : mg "set" = none := T.free 51
theorem z_sorted (T : TT K mg) : mg "sorted" = none := T.free 52
theorem z_str (T : TT K mg) : mg "str" = none := T.free 53
theorem z_tuple (T : TT K mg) : mg "tuple" = none := T.free 54
theorem cls_Drawing (T : TT K mg) : Cls K (ga K "Drawing") := cls_ok (T.c.fact 55)
theorem mk_Drawing (T : TT K mg) : Mk K (ga K "Drawing") (ma K (ga K "Drawing") "__init__") := mkr_ok (T.c.fact 56)
theorem na_Drawing_homes (T : TT K mg) : NoAttr K (ga K "Drawing") "homes" := noat_ok (T.c.fact 57)
theorem na_Drawing_nets (T : TT K mg) : NoAttr K (ga K "Drawing") "nets" := noat_ok (T.c.fact 58)
theorem na_Drawing_parts (T : TT K mg) : NoAttr K (ga K "Drawing") "parts" := noat_ok (T.c.fact 59)
theorem m_Drawing_pins (T : TT K mg) : Meth K (ga K "Drawing") "pins" (ma K (ga K "Drawing") "pins") := meth_ok (T.c.fact 60)
theorem m_Drawing_net_of (T : TT K mg) : Meth K (ga K "Drawing") "net_of" (ma K (ga K "Drawing") "net_of") := meth_ok (T.c.fact 61)
theorem ins_Drawing (T : TT K mg) : InsC K (ga K "Drawing") := insC_ok (T.c.fact 62)
theorem ec_CopperError (T : TT K mg) : ExcC K (ga K "CopperError") := excC_ok (T.c.fact 63)
theorem exm_CopperError_CopperError (T : TT K mg) : PySem.W.exmOne K (.ref (ga K "CopperError")) (.ref (ga K "CopperError")) = some true := exm_ok (T.c.fact 64)
theorem exm_CopperError_NoPin (T : TT K mg) : PySem.W.exmOne K (.ref (ga K "CopperError")) (.ref (ga K "NoPin")) = some false := exm_ok (T.c.fact 65)
theorem kit_CopperError_NoBoard (T : TT K mg) : PySem.W.kitOne K (.ref (ga K "CopperError")) (.ref (ga K "NoBoard")) = some false := kitR_ok (T.c.fact 66)
theorem kit_CopperError_NoDrawing (T : TT K mg) : PySem.W.kitOne K (.ref (ga K "CopperError")) (.ref (ga K "NoDrawing")) = some false := kitR_ok (T.c.fact 67)
theorem kit_CopperError_NoPin (T : TT K mg) : PySem.W.kitOne K (.ref (ga K "CopperError")) (.ref (ga K "NoPin")) = some false := kitR_ok (T.c.fact 68)
theorem kit_CopperError_NoRules (T : TT K mg) : PySem.W.kitOne K (.ref (ga K "CopperError")) (.ref (ga K "NoRules")) = some false := kitR_ok (T.c.fact 69)
theorem kit_CopperError_NoShape (T : TT K mg) : PySem.W.kitOne K (.ref (ga K "CopperError")) (.ref (ga K "NoShape")) = some false := kitR_ok (T.c.fact 70)
theorem kitT_CopperError_bool (T : TT K mg) : PySem.W.kitOne K (.ref (ga K "CopperError")) (.type "bool") = some false := kitT_ok (T.c.fact 71)
theorem kitT_CopperError_int (T : TT K mg) : PySem.W.kitOne K (.ref (ga K "CopperError")) (.type "int") = some false := kitT_ok (T.c.fact 72)
theorem kitT_CopperError_list (T : TT K mg) : PySem.W.kitOne K (.ref (ga K "CopperError")) (.type "list") = some false := kitT_ok (T.c.fact 73)
theorem kitT_CopperError_str (T : TT K mg) : PySem.W.kitOne K (.ref (ga K "CopperError")) (.type "str") = some false := kitT_ok (T.c.fact 74)
theorem ec_NoShape (T : TT K mg) : ExcC K (ga K "NoShape") := excC_ok (T.c.fact 75)
theorem exm_NoShape_CopperError (T : TT K mg) : PySem.W.exmOne K (.ref (ga K "NoShape")) (.ref (ga K "CopperError")) = some true := exm_ok (T.c.fact 76)
theorem exm_NoShape_NoPin (T : TT K mg) : PySem.W.exmOne K (.ref (ga K "NoShape")) (.ref (ga K "NoPin")) = some false := exm_ok (T.c.fact 77)
theorem kit_NoShape_NoBoard (T : TT K mg) : PySem.W.kitOne K (.ref (ga K "NoShape")) (.ref (ga K "NoBoard")) = some false := kitR_ok (T.c.fact 78)
theorem kit_NoShape_NoDrawing (T : TT K mg) : PySem.W.kitOne K (.ref (ga K "NoShape")) (.ref (ga K "NoDrawing")) = some false := kitR_ok (T.c.fact 79)
theorem kit_NoShape_NoPin (T : TT K mg) : PySem.W.kitOne K (.ref (ga K "NoShape")) (.ref (ga K "NoPin")) = some false := kitR_ok (T.c.fact 80)
theorem kit_NoShape_NoRules (T : TT K mg) : PySem.W.kitOne K (.ref (ga K "NoShape")) (.ref (ga K "NoRules")) = some false := kitR_ok (T.c.fact 81)
theorem kit_NoShape_NoShape (T : TT K mg) : PySem.W.kitOne K (.ref (ga K "NoShape")) (.ref (ga K "NoShape")) = some true := kitR_ok (T.c.fact 82)
theorem kitT_NoShape_bool (T : TT K mg) : PySem.W.kitOne K (.ref (ga K "NoShape")) (.type "bool") = some false := kitT_ok (T.c.fact 83)
theorem kitT_NoShape_int (T : TT K mg) : PySem.W.kitOne K (.ref (ga K "NoShape")) (.type "int") = some false := kitT_ok (T.c.fact 84)
theorem kitT_NoShape_list (T : TT K mg) : PySem.W.kitOne K (.ref (ga K "NoShape")) (.type "list") = some false := kitT_ok (T.c.fact 85)
theorem kitT_NoShape_str (T : TT K mg) : PySem.W.kitOne K (.ref (ga K "NoShape")) (.type "str") = some false := kitT_ok (T.c.fact 86)
theorem ec_NoBoard (T : TT K mg) : ExcC K (ga K "NoBoard") := excC_ok (T.c.fact 87)
theorem exm_NoBoard_CopperError (T : TT K mg) : PySem.W.exmOne K (.ref (ga K "NoBoard")) (.ref (ga K "CopperError")) = some true := exm_ok (T.c.fact 88)
theorem exm_NoBoard_NoPin (T : TT K mg) : PySem.W.exmOne K (.ref (ga K "NoBoard")) (.ref (ga K "NoPin")) = some false := exm_ok (T.c.fact 89)
theorem kit_NoBoard_NoBoard (T : TT K mg) : PySem.W.kitOne K (.ref (ga K "NoBoard")) (.ref (ga K "NoBoard")) = some true := kitR_ok (T.c.fact 90)
theorem kit_NoBoard_NoDrawing (T : TT K mg) : PySem.W.kitOne K (.ref (ga K "NoBoard")) (.ref (ga K "NoDrawing")) = some false := kitR_ok (T.c.fact 91)
theorem kit_NoBoard_NoPin (T : TT K mg) : PySem.W.kitOne K (.ref (ga K "NoBoard")) (.ref (ga K "NoPin")) = some false := kitR_ok (T.c.fact 92)
theorem kit_NoBoard_NoRules (T : TT K mg) : PySem.W.kitOne K (.ref (ga K "NoBoard")) (.ref (ga K "NoRules")) = some false := kitR_ok (T.c.fact 93)
theorem kit_NoBoard_NoShape (T : TT K mg) : PySem.W.kitOne K (.ref (ga K "NoBoard")) (.ref (ga K "NoShape")) = some false := kitR_ok (T.c.fact 94)
theorem kitT_NoBoard_bool (T : TT K mg) : PySem.W.kitOne K (.ref (ga K "NoBoard")) (.type "bool") = some false := kitT_ok (T.c.fact 95)
theorem kitT_NoBoard_int (T : TT K mg) : PySem.W.kitOne K (.ref (ga K "NoBoard")) (.type "int") = some false := kitT_ok (T.c.fact 96)
theorem kitT_NoBoard_list (T : TT K mg) : PySem.W.kitOne K (.ref (ga K "NoBoard")) (.type "list") = some false := kitT_ok (T.c.fact 97)
theorem kitT_NoBoard_str (T : TT K mg) : PySem.W.kitOne K (.ref (ga K "NoBoard")) (.type "str") = some false := kitT_ok (T.c.fact 98)
theorem ec_NoRules (T : TT K mg) : ExcC K (ga K "NoRules") := excC_ok (T.c.fact 99)
theorem exm_NoRules_CopperError (T : TT K mg) : PySem.W.exmOne K (.ref (ga K "NoRules")) (.ref (ga K "CopperError")) = some true := exm_ok (T.c.fact 100)
theorem exm_NoRules_NoPin (T : TT K mg) : PySem.W.exmOne K (.ref (ga K "NoRules")) (.ref (ga K "NoPin")) = some false := exm_ok (T.c.fact 101)
theorem kit_NoRules_NoBoard (T : TT K mg) : PySem.W.kitOne K (.ref (ga K "NoRules")) (.ref (ga K "NoBoard")) = some false := kitR_ok (T.c.fact 102)
theorem kit_NoRules_NoDrawing (T : TT K mg) : PySem.W.kitOne K (.ref (ga K "NoRules")) (.ref (ga K "NoDrawing")) = some false := kitR_ok (T.c.fact 103)
theorem kit_NoRules_NoPin (T : TT K mg) : PySem.W.kitOne K (.ref (ga K "NoRules")) (.ref (ga K "NoPin")) = some false := kitR_ok (T.c.fact 104)
theorem kit_NoRules_NoRules (T : TT K mg) : PySem.W.kitOne K (.ref (ga K "NoRules")) (.ref (ga K "NoRules")) = some true := kitR_ok (T.c.fact 105)
theorem kit_NoRules_NoShape (T : TT K mg) : PySem.W.kitOne K (.ref (ga K "NoRules")) (.ref (ga K "NoShape")) = some false := kitR_ok (T.c.fact 106)
theorem kitT_NoRules_bool (T : TT K mg) : PySem.W.kitOne K (.ref (ga K "NoRules")) (.type "bool") = some false := kitT_ok (T.c.fact 107)
theorem kitT_NoRules_int (T : TT K mg) : PySem.W.kitOne K (.ref (ga K "NoRules")) (.type "int") = some false := kitT_ok (T.c.fact 108)
theorem kitT_NoRules_list (T : TT K mg) : PySem.W.kitOne K (.ref (ga K "NoRules")) (.type "list") = some false := kitT_ok (T.c.fact 109)
theorem kitT_NoRules_str (T : TT K mg) : PySem.W.kitOne K (.ref (ga K "NoRules")) (.type "str") = some false := kitT_ok (T.c.fact 110)
theorem ec_NoDrawing (T : TT K mg) : ExcC K (ga K "NoDrawing") := excC_ok (T.c.fact 111)
theorem exm_NoDrawing_CopperError (T : TT K mg) : PySem.W.exmOne K (.ref (ga K "NoDrawing")) (.ref (ga K "CopperError")) = some true := exm_ok (T.c.fact 112)
theorem exm_NoDrawing_NoPin (T : TT K mg) : PySem.W.exmOne K (.ref (ga K "NoDrawing")) (.ref (ga K "NoPin")) = some false := exm_ok (T.c.fact 113)
theorem kit_NoDrawing_NoBoard (T : TT K mg) : PySem.W.kitOne K (.ref (ga K "NoDrawing")) (.ref (ga K "NoBoard")) = some false := kitR_ok (T.c.fact 114)
theorem kit_NoDrawing_NoDrawing (T : TT K mg) : PySem.W.kitOne K (.ref (ga K "NoDrawing")) (.ref (ga K "NoDrawing")) = some true := kitR_ok (T.c.fact 115)
theorem kit_NoDrawing_NoPin (T : TT K mg) : PySem.W.kitOne K (.ref (ga K "NoDrawing")) (.ref (ga K "NoPin")) = some false := kitR_ok (T.c.fact 116)
theorem kit_NoDrawing_NoRules (T : TT K mg) : PySem.W.kitOne K (.ref (ga K "NoDrawing")) (.ref (ga K "NoRules")) = some false := kitR_ok (T.c.fact 117)
theorem kit_NoDrawing_NoShape (T : TT K mg) : PySem.W.kitOne K (.ref (ga K "NoDrawing")) (.ref (ga K "NoShape")) = some false := kitR_ok (T.c.fact 118)
theorem kitT_NoDrawing_bool (T : TT K mg) : PySem.W.kitOne K (.ref (ga K "NoDrawing")) (.type "bool") = some false := kitT_ok (T.c.fact 119)
theorem kitT_NoDrawing_int (T : TT K mg) : PySem.W.kitOne K (.ref (ga K "NoDrawing")) (.type "int") = some false := kitT_ok (T.c.fact 120)
theorem kitT_NoDrawing_list (T : TT K mg) : PySem.W.kitOne K (.ref (ga K "NoDrawing")) (.type "list") = some false := kitT_ok (T.c.fact 121)
theorem kitT_NoDrawing_str (T : TT K mg) : PySem.W.kitOne K (.ref (ga K "NoDrawing")) (.type "str") = some false := kitT_ok (T.c.fact 122)
theorem ec_NoPin (T : TT K mg) : ExcC K (ga K "NoPin") := excC_ok (T.c.fact 123)
theorem exm_NoPin_CopperError (T : TT K mg) : PySem.W.exmOne K (.ref (ga K "NoPin")) (.ref (ga K "CopperError")) = some true := exm_ok (T.c.fact 124)
theorem exm_NoPin_NoPin (T : TT K mg) : PySem.W.exmOne K (.ref (ga K "NoPin")) (.ref (ga K "NoPin")) = some true := exm_ok (T.c.fact 125)
theorem kit_NoPin_NoBoard (T : TT K mg) : PySem.W.kitOne K (.ref (ga K "NoPin")) (.ref (ga K "NoBoard")) = some false := kitR_ok (T.c.fact 126)
theorem kit_NoPin_NoDrawing (T : TT K mg) : PySem.W.kitOne K (.ref (ga K "NoPin")) (.ref (ga K "NoDrawing")) = some false := kitR_ok (T.c.fact 127)
theorem kit_NoPin_NoPin (T : TT K mg) : PySem.W.kitOne K (.ref (ga K "NoPin")) (.ref (ga K "NoPin")) = some true := kitR_ok (T.c.fact 128)
theorem kit_NoPin_NoRules (T : TT K mg) : PySem.W.kitOne K (.ref (ga K "NoPin")) (.ref (ga K "NoRules")) = some false := kitR_ok (T.c.fact 129)
theorem kit_NoPin_NoShape (T : TT K mg) : PySem.W.kitOne K (.ref (ga K "NoPin")) (.ref (ga K "NoShape")) = some false := kitR_ok (T.c.fact 130)
theorem kitT_NoPin_bool (T : TT K mg) : PySem.W.kitOne K (.ref (ga K "NoPin")) (.type "bool") = some false := kitT_ok (T.c.fact 131)
theorem kitT_NoPin_int (T : TT K mg) : PySem.W.kitOne K (.ref (ga K "NoPin")) (.type "int") = some false := kitT_ok (T.c.fact 132)
theorem kitT_NoPin_list (T : TT K mg) : PySem.W.kitOne K (.ref (ga K "NoPin")) (.type "list") = some false := kitT_ok (T.c.fact 133)
theorem kitT_NoPin_str (T : TT K mg) : PySem.W.kitOne K (.ref (ga K "NoPin")) (.type "str") = some false := kitT_ok (T.c.fact 134)
theorem kitT_Drawing_bool (T : TT K mg) : PySem.W.kitOne K (.ref (ga K "Drawing")) (.type "bool") = some false := kitT_ok (T.c.fact 135)
theorem kitT_Drawing_int (T : TT K mg) : PySem.W.kitOne K (.ref (ga K "Drawing")) (.type "int") = some false := kitT_ok (T.c.fact 136)
theorem kitT_Drawing_list (T : TT K mg) : PySem.W.kitOne K (.ref (ga K "Drawing")) (.type "list") = some false := kitT_ok (T.c.fact 137)
theorem kitT_Drawing_str (T : TT K mg) : PySem.W.kitOne K (.ref (ga K "Drawing")) (.type "str") = some false := kitT_ok (T.c.fact 138)
theorem d_is_whole (T : TT K mg) : ∃ fd, FunD K "is_whole" "is_whole" (defArgs s_is_whole) (defBody s_is_whole) (defScope s_is_whole) [] [] (ga K "is_whole") fd := T.c.def_ 0
theorem d_is_name (T : TT K mg) : ∃ fd, FunD K "is_name" "is_name" (defArgs s_is_name) (defBody s_is_name) (defScope s_is_name) [] [] (ga K "is_name") fd := T.c.def_ 1
theorem d_check_names (T : TT K mg) : ∃ fd, FunD K "check_names" "check_names" (defArgs s_check_names) (defBody s_check_names) (defScope s_check_names) [] [] (ga K "check_names") fd := T.c.def_ 2
theorem d_pins_of (T : TT K mg) : ∃ fd, FunD K "pins_of" "pins_of" (defArgs s_pins_of) (defBody s_pins_of) (defScope s_pins_of) [] [] (ga K "pins_of") fd := T.c.def_ 3
theorem d_Drawing___init__ (T : TT K mg) : ∃ fd, FunD K "__init__" "Drawing.__init__" (defArgs s_Drawing___init__) (defBody s_Drawing___init__) (defScope s_Drawing___init__) [] [] (ma K (ga K "Drawing") "__init__") fd := T.c.def_ 4
theorem d_Drawing_pins (T : TT K mg) : ∃ fd, FunD K "pins" "Drawing.pins" (defArgs s_Drawing_pins) (defBody s_Drawing_pins) (defScope s_Drawing_pins) [] [] (ma K (ga K "Drawing") "pins") fd := T.c.def_ 5
theorem d_Drawing_net_of (T : TT K mg) : ∃ fd, FunD K "net_of" "Drawing.net_of" (defArgs s_Drawing_net_of) (defBody s_Drawing_net_of) (defScope s_Drawing_net_of) [] [] (ma K (ga K "Drawing") "net_of") fd := T.c.def_ 6
theorem d__law_cell (T : TT K mg) : ∃ fd, FunD K "_law_cell" "_law_cell" (defArgs s__law_cell) (defBody s__law_cell) (defScope s__law_cell) [] [] (ga K "_law_cell") fd := T.c.def_ 7
theorem d__law_mixed (T : TT K mg) : ∃ fd, FunD K "_law_mixed" "_law_mixed" (defArgs s__law_mixed) (defBody s__law_mixed) (defScope s__law_mixed) [] [] (ga K "_law_mixed") fd := T.c.def_ 8
theorem d__law_twice (T : TT K mg) : ∃ fd, FunD K "_law_twice" "_law_twice" (defArgs s__law_twice) (defBody s__law_twice) (defScope s__law_twice) [] [] (ga K "_law_twice") fd := T.c.def_ 9
theorem d__law_well (T : TT K mg) : ∃ fd, FunD K "_law_well" "_law_well" (defArgs s__law_well) (defBody s__law_well) (defScope s__law_well) [] [] (ga K "_law_well") fd := T.c.def_ 10
theorem d__law_draw (T : TT K mg) : ∃ fd, FunD K "_law_draw" "_law_draw" (defArgs s__law_draw) (defBody s__law_draw) (defScope s__law_draw) [] [] (ga K "_law_draw") fd := T.c.def_ 11
theorem d__law_parts (T : TT K mg) : ∃ fd, FunD K "_law_parts" "_law_parts" (defArgs s__law_parts) (defBody s__law_parts) (defScope s__law_parts) [] [] (ga K "_law_parts") fd := T.c.def_ 12
theorem d__law_nets (T : TT K mg) : ∃ fd, FunD K "_law_nets" "_law_nets" (defArgs s__law_nets) (defBody s__law_nets) (defScope s__law_nets) [] [] (ga K "_law_nets") fd := T.c.def_ 13
theorem d__law_renamed (T : TT K mg) : ∃ fd, FunD K "_law_renamed" "_law_renamed" (defArgs s__law_renamed) (defBody s__law_renamed) (defScope s__law_renamed) [] [] (ga K "_law_renamed") fd := T.c.def_ 14
theorem d__law_counted (T : TT K mg) : ∃ fd, FunD K "_law_counted" "_law_counted" (defArgs s__law_counted) (defBody s__law_counted) (defScope s__law_counted) [] [] (ga K "_law_counted") fd := T.c.def_ 15
theorem d__law_crowd (T : TT K mg) : ∃ fd, FunD K "_law_crowd" "_law_crowd" (defArgs s__law_crowd) (defBody s__law_crowd) (defScope s__law_crowd) [] [] (ga K "_law_crowd") fd := T.c.def_ 16
theorem d__law_bad_part (T : TT K mg) : ∃ fd, FunD K "_law_bad_part" "_law_bad_part" (defArgs s__law_bad_part) (defBody s__law_bad_part) (defScope s__law_bad_part) [] [] (ga K "_law_bad_part") fd := T.c.def_ 17
theorem d__law_bad_net (T : TT K mg) : ∃ fd, FunD K "_law_bad_net" "_law_bad_net" (defArgs s__law_bad_net) (defBody s__law_bad_net) (defScope s__law_bad_net) [] [] (ga K "_law_bad_net") fd := T.c.def_ 18
theorem d__law_is_name (T : TT K mg) : ∃ fd, FunD K "_law_is_name" "_law_is_name" (defArgs s__law_is_name) (defBody s__law_is_name) (defScope s__law_is_name) [] [] (ga K "_law_is_name") fd := T.c.def_ 19
theorem d__law_unlike (T : TT K mg) : ∃ fd, FunD K "_law_unlike" "_law_unlike" (defArgs s__law_unlike) (defBody s__law_unlike) (defScope s__law_unlike) [] [] (ga K "_law_unlike") fd := T.c.def_ 20
theorem d__law_good (T : TT K mg) : ∃ fd, FunD K "_law_good" "_law_good" (defArgs s__law_good) (defBody s__law_good) (defScope s__law_good) [] [] (ga K "_law_good") fd := T.c.def_ 21
theorem d__law_refused (T : TT K mg) : ∃ fd, FunD K "_law_refused" "_law_refused" (defArgs s__law_refused) (defBody s__law_refused) (defScope s__law_refused) [] [] (ga K "_law_refused") fd := T.c.def_ 22
theorem d__law_no_pin (T : TT K mg) : ∃ fd, FunD K "_law_no_pin" "_law_no_pin" (defArgs s__law_no_pin) (defBody s__law_no_pin) (defScope s__law_no_pin) [] [] (ga K "_law_no_pin") fd := T.c.def_ 23
theorem d__law_right (T : TT K mg) : ∃ fd, FunD K "_law_right" "_law_right" (defArgs s__law_right) (defBody s__law_right) (defScope s__law_right) [] [] (ga K "_law_right") fd := T.c.def_ 24
theorem d_law (T : TT K mg) : ∃ fd, FunD K "law" "law" (defArgs s_law) (defBody s_law) (defScope s_law) [] [] (ga K "law") fd := T.c.def_ 25
end
end Pf
/-! CuI: further sources of loops, further operators. -/
namespace Cu
open PySem PySem.Spec PyProof.Rows L2
theorem kitAny_no {K : PySem.W.Frag} {t c : Value} {cs : List Value} {b : Bool} (h : PySem.W.kitOne K t c = some false) (h2 : PySem.W.kitAny K t cs = some b) : PySem.W.kitAny K t (c :: cs) = some b := by
  simp only [PySem.W.kitAny, h]; exact h2
theorem kitAny_yes {K : PySem.W.Frag} {t c : Value} {cs : List Value} (h : PySem.W.kitOne K t c = some true) : PySem.W.kitAny K t (c :: cs) = some true := by
  simp only [PySem.W.kitAny, h]
theorem ev_gref {X : Cx} {G : Gam} {S : Sto} {pos : Pos} {n : Str} {C : Addr} (hm : X.mg n = some (.ref C)) (hg : Gl X n := by rfl) (hd : (n == ("__debug__" : Str)) = false := by decide) : Ev X (.Name n pos) G S (.r (.ref C)) S := ev_glob (v := .ref C) hm rfl hg hd
/-- the data of a list, be it a datum or owned -/
def lsOf (S : Sto) : It → Option (List PyData)
  | .d (.list ds) => some ds
  | .o n => match S[n]? with
    | some (.lst xs) => ds? xs
    | _ => none
  | _ => none
theorem ds_map : ∀ (ds : List PyData), ds? (ds.map .d) = some ds
  | [] => rfl
  | d :: ds => by
    show (ds? (ds.map .d)).map (d :: ·) = _
    rw [ds_map ds]; rfl
theorem ls_own {S : Sto} {n : Nat} {ds : List PyData} (h : S[n]? = some (.lst (ds.map .d))) : lsOf S (.o n) = some ds := by
  show (match S[n]? with | some (.lst xs) => ds? xs | _ => none) = _
  rw [h]; exact ds_map ds
theorem len_own {S : Sto} {n : Nat} {xs : List It} (h : S[n]? = some (.lst xs)) : lenOf S (.o n) = some xs.length := by
  show (match S[n]? with | some (.lst xs) => some xs.length | _ => none) = _
  rw [h]
theorem ls_rd {K : PySem.W.Frag} {M : List Addr} {H : Hp} {S : Sto} {v : V} {ds : List PyData} (s : StoreOk K M H S) {r : It} (hv : VRep K M H v r) (h : lsOf S r = some ds) : ∃ a xs, v = .ref a ∧ Rd H a (.lst xs) ∧ FzAll M H xs ds := by
  cases r with
  | d x =>
    cases x with
    | list ds' =>
      cases h
      have hv' : Fz M H v (.list ds) := hv
      cases hv' with
      | lst h1 h2 => exact ⟨_, _, rfl, h1.1, h2⟩
    | _ => cases h
  | o n =>
    obtain ⟨a, ha, rfl⟩ := hv
    have h' : (match S[n]? with | some (.lst xs) => ds? xs | _ => none) = some ds := h
    cases e : S[n]? with
    | none => rw [e] at h'; cases h'
    | some w =>
      rw [e] at h'
      cases w with
      | lst xs =>
        obtain ⟨vs, h1, h2⟩ := s.rep n a _ ha e
        exact ⟨a, vs, rfl, .inl h1, fz_all h' h2⟩
      | dT _ => cases h'
      | dK _ => cases h'
      | ins _ _ => cases h'
      | tup _ => cases h'
      | lkT _ _ _ => cases h'
      | lkK _ _ _ => cases h'
      | tbl _ _ => cases h'
      | tblN _ _ => cases h'
      | fn _ _ => cases h'
      | gone => cases h'
  | r _ => cases h
  | s _ => cases h
theorem ds_inv : ∀ {xs : List It} {ds : List PyData}, ds? xs = some ds → xs = ds.map .d
  | [], ds, h => by cases h; rfl
  | .d x :: rs, ds, h => by
    cases q : ds? rs with
    | none => rw [show ds? (.d x :: rs) = (ds? rs).map (x :: ·) from rfl, q] at h; cases h
    | some ds' =>
      rw [show ds? (.d x :: rs) = (ds? rs).map (x :: ·) from rfl, q] at h
      cases h
      rw [ds_inv q]; rfl
  | .o _ :: _, _, h => by cases h
  | .r _ :: _, _, h => by cases h
  | .s _ :: _, _, h => by cases h
theorem ls_inv {S : Sto} {r : It} {ds : List PyData} (h : lsOf S r = some ds) : r = .d (.list ds) ∨ ∃ n, r = .o n ∧ S[n]? = some (.lst (ds.map .d)) := by
  cases r with
  | d x =>
    cases x with
    | list ds' => cases h; exact .inl rfl
    | _ => cases h
  | o n =>
    have h' : (match S[n]? with | some (.lst xs) => ds? xs | _ => none) = some ds := h
    cases e : S[n]? with
    | none => rw [e] at h'; cases h'
    | some w =>
      rw [e] at h'
      cases w with
      | lst xs => exact .inr ⟨n, rfl, (ds_inv h' ▸ e : S[n]? = _)⟩
      | dT _ => cases h'
      | dK _ => cases h'
      | ins _ _ => cases h'
      | tup _ => cases h'
      | lkT _ _ _ => cases h'
      | lkK _ _ _ => cases h'
      | tbl _ _ => cases h'
      | tblN _ _ => cases h'
      | fn _ _ => cases h'
      | gone => cases h'
  | r _ => cases h
  | s _ => cases h
theorem ls_app {S : Sto} {r : It} {ds : List PyData} (h : lsOf S r = some ds) (L : Sto) : lsOf (S ++ L) r = some ds := by
  rcases ls_inv h with rfl | ⟨n, rfl, e⟩
  · exact h
  · exact ls_own (by rw [List.getElem?_append_left (List.getElem?_eq_some_iff.mp e).1]; exact e)
theorem ls_len {S : Sto} {r : It} {ds : List PyData} (h : lsOf S r = some ds) : lenOf S r = some ds.length := by
  rcases ls_inv h with rfl | ⟨n, rfl, e⟩
  · rfl
  · rw [len_own e, List.length_map]
section
variable {X : Cx} {W : WX} {k j : Nat} {G G1 G2 : Gam} {S S1 S2 S3 : Sto} {P : Post} {e a b o iter tg elt : Expr} {es ifs : List Expr} {r y z r' : It} {rs : List It} {pos pos' p apos cpos tpos : Pos} {st : Stmt} {sts body : List Stmt} {ds ds' : List PyData} {C : Sto → Prop} {m n : Int}
theorem Ev.is2 (h : Ev X e G S r S1) (hr : r = r') (hs : S1 = S2) : Ev X e G S r' S2 := by subst hr hs; exact h
/-! ### sources -/
def rngC (lo c : Int) (n : Nat) : List It := (List.range n).map fun (i : Nat) => It.d (.int (lo + (i : Int) * c))
theorem rngC_len (lo c : Int) (n : Nat) : (rngC lo c n).length = n := by unfold rngC; rw [List.length_map, List.length_range]
theorem rngC_at {lo c : Int} {n i : Nat} {r : It} (h : (rngC lo c n)[i]? = some r) : i < n ∧ r = .d (.int (lo + (i : Int) * c)) := by
  unfold rngC at h
  obtain ⟨hl, he⟩ := List.getElem?_eq_some_iff.mp h
  rw [List.length_map, List.length_range] at hl
  refine ⟨hl, ?_⟩
  rw [← he, List.getElem_map, List.getElem_range]
theorem wk_rangeC {K : PySem.W.Frag} {M1 : List Addr} {H1 : Hp} {lo c : Int} {n : Nat} : Wk K (Itc lo c n) anyS M1 H1 (rngC lo c n) where
  go := fun i M' H' S' hi e s _ => by rw [rngC_len] at hi; exact hi
  yl := fun i M' H' S' x H2 r hr e s _ y => by
    obtain ⟨rfl, rfl⟩ := y
    obtain ⟨_, rfl⟩ := rngC_at hr
    exact ⟨Ext.refl, s, Fz.int _⟩
  st := fun i M' H' S' hi e s _ => by rw [rngC_len] at hi; exact hi
/-- range(a, b, c) -/
theorem evi_range3 {lo hi c : Int} {n : Nat} {a1 a2 a3 : Expr} (hm : X.mg "range" = none) (h1 : Ev X a1 G S (.d (.int lo)) S1) (h2 : Ev X a2 G S1 (.d (.int hi)) S2) (h3 : Ev X a3 G S2 (.d (.int c)) S3) (hb : RgC lo hi c n)
    (hR : Gl X "range" := by rfl) (hst : starEach [a1, a2, a3] X.env = (false, eval a1 X.env) :: starEach [a2, a3] X.env := by rfl) (hst2 : starEach [a2, a3] X.env = (false, eval a2 X.env) :: starEach [a3] X.env := by rfl) (hst3 : starEach [a3] X.env = (false, eval a3 X.env) :: starEach [] X.env := by rfl)
    (hpl : (backTo pos' (starEach [a2, a3] X.env)).any (·.1) = false := by rfl) : EvI X tg (.Call (.Name "range" p) [a1, a2, a3] [] pos') G S (rngC lo c n) anyS S3 :=
  ⟨_, pi_range3 hR hm pa_s hst hpl, fun M σ H R s q => (eva_cons h1 (eva_cons h2 (eva_cons h3 eva_nil hst3) hst2) hst) M σ H _ s fun vs M1 H1 e1 t1 r1 => by
    cases r1 with
    | cons q1 r1 =>
      cases r1 with
      | cons q2 r1 =>
        cases r1 with
        | cons q3 r1 =>
          cases r1
          exact ⟨lo, hi, c, n, by rw [vr_int q1, vr_int q2, vr_int q3], hb, q M1 H1 _ e1 t1 wk_rangeC⟩⟩
theorem wk_enum {K : PySem.W.Frag} {M1 : List Addr} {H1 : Hp} {ad : Addr} {xs : List V} (hL : NdL M1 H1 ad xs) (hA : FzAll M1 H1 xs ds) : Wk K (Ite K ad) anyS M1 H1 (ds.zipIdx.map fun x => It.d (.tuple [.int (x.2 : Nat), x.1])) where
  go := fun i M' H' S' hi e s _ => ⟨xs, xs[i]'(by rw [fz_len hA]; simpa using hi), (hL.ext e).sq, List.getElem?_eq_getElem _⟩
  yl := fun i M' H' S' x H2 r hr e s _ y => by
    obtain ⟨T, u, rfl, hT, rfl, y⟩ := y
    have hx := y xs (hL.ext e).sq
    obtain ⟨d, h1, h2⟩ := fz_at hA hx
    rw [List.getElem?_map, List.getElem?_zipIdx, h1] at hr
    cases hr
    have e2 : Ext M' H' M' (upd H' T (.tup [.int ((0 + i : Nat) : Int), u])) := Ext.fresh hT
    rw [Nat.zero_add] at e2
    refine ⟨e2, s.fresh hT, ?_⟩
    show Fz M' _ (.ref T) (.tuple [.int ((0 + i : Nat) : Int), d])
    rw [Nat.zero_add]
    exact Fz.tup ⟨upd_same, s.nin hT⟩ (.cons (Fz.int _) (.cons (Fz.ext e2 (Fz.ext e h2)) .nil))
  st := fun i M' H' S' hi e s _ => ⟨xs, (hL.ext e).sq, by rw [fz_len hA]; simpa using hi⟩
/-- enumerate(xs), a list of data -/
theorem evi_enum {elts : List Expr} {kk : Nat} {a1 : Expr} (hm : X.mg "enumerate" = none) (hi : Ev X a1 G S (.d (.list ds)) S1) (hg : Gl X "enumerate" := by rfl) (hst : starEach [a1] X.env = [(false, eval a1 X.env)] := by rfl) :
    EvI X (.Tuple elts kk tpos) (.Call (.Name "enumerate" p) [a1] [] pos') G S (ds.zipIdx.map fun x => It.d (.tuple [.int (x.2 : Nat), x.1])) anyS S1 :=
  ⟨_, pi_enum hg hm pa_s hst, fun M σ H R s q => (eva_cons hi eva_nil hst) M σ H _ s fun vs M1 H1 e1 t1 r1 => by
    cases r1 with
    | cons q1 r1 =>
      cases r1
      have hv' : Fz M1 H1 _ (.list ds) := q1
      cases hv' with
      | lst h1 h2 => exact ⟨_, _, rfl, h1.sq, q M1 H1 _ e1 t1 (wk_enum h1 h2)⟩⟩
theorem wk_zip {K : PySem.W.Frag} {M1 : List Addr} {H1 : Hp} {ad bd : Addr} {xs ys : List V} (hL : NdL M1 H1 ad xs) (hA : FzAll M1 H1 xs ds) (hL' : NdL M1 H1 bd ys) (hA' : FzAll M1 H1 ys ds') : Wk K (Itz K ad bd) anyS M1 H1 ((ds.zip ds').map fun x => It.d (.tuple [x.1, x.2])) where
  go := fun i M' H' S' hi e s _ => by
    have l1 := fz_len hA
    have l2 := fz_len hA'
    have hi' : i < min ds.length ds'.length := by simpa using hi
    exact ⟨xs, ys, xs[i]'(by omega), ys[i]'(by omega), (hL.ext e).sq, (hL'.ext e).sq, List.getElem?_eq_getElem _, List.getElem?_eq_getElem _⟩
  yl := fun i M' H' S' x H2 r hr e s _ y => by
    obtain ⟨T, u, u', rfl, hT, rfl, y, y'⟩ := y
    have hx := y xs (hL.ext e).sq
    have hx' := y' ys (hL'.ext e).sq
    obtain ⟨d, h1, h2⟩ := fz_at hA hx
    obtain ⟨d', h1', h2'⟩ := fz_at hA' hx'
    have ez : (ds.zip ds')[i]? = some (d, d') := by rw [List.getElem?_zip_eq_some]; exact ⟨h1, h1'⟩
    rw [List.getElem?_map, ez] at hr
    cases hr
    have e2 : Ext M' H' M' (upd H' T (.tup [u, u'])) := Ext.fresh hT
    exact ⟨e2, s.fresh hT, Fz.tup ⟨upd_same, s.nin hT⟩ (.cons (Fz.ext e2 (Fz.ext e h2)) (.cons (Fz.ext e2 (Fz.ext e h2')) .nil))⟩
  st := fun i M' H' S' hi e s _ => ⟨xs, ys, (hL.ext e).sq, (hL'.ext e).sq, by
    have l1 := fz_len hA
    have l2 := fz_len hA'
    have hi' : min ds.length ds'.length ≤ i := by simpa using hi
    omega⟩
/-- zip(xs, ys), lists of data -/
theorem evi_zip {elts : List Expr} {kk : Nat} {a1 a2 : Expr} (hm : X.mg "zip" = none) (h1 : Ev X a1 G S (.d (.list ds)) S1) (h2 : Ev X a2 G S1 (.d (.list ds')) S2) (hg : Gl X "zip" := by rfl) (hst : starEach [a1, a2] X.env = (false, eval a1 X.env) :: starEach [a2] X.env := by rfl)
    (hst2 : starEach [a2] X.env = (false, eval a2 X.env) :: starEach [] X.env := by rfl) (hpl : (backTo pos' (starEach [a2] X.env)).any (·.1) = false := by rfl) :
    EvI X (.Tuple elts kk tpos) (.Call (.Name "zip" p) [a1, a2] [] pos') G S ((ds.zip ds').map fun x => It.d (.tuple [x.1, x.2])) anyS S2 :=
  ⟨_, pi_zip hg hm pa_s hst hpl, fun M σ H R s q => (eva_cons h1 (eva_cons h2 eva_nil hst2) hst) M σ H _ s fun vs M1 H1 e1 t1 r1 => by
    cases r1 with
    | cons q1 r1 =>
      cases r1 with
      | cons q2 r1 =>
        cases r1
        have hv : Fz M1 H1 _ (.list ds) := q1
        have hv' : Fz M1 H1 _ (.list ds') := q2
        cases hv with
        | lst h1 h2 =>
          cases hv' with
          | lst h3 h4 => exact ⟨_, _, _, _, rfl, h1.sq, h3.sq, q M1 H1 _ e1 t1 (wk_zip h1 h2 h3 h4)⟩⟩
/-- the signs of a text -/
def signs (x : Str) : List PyData := x.cps.toList.map fun c => .str ⟨#[c]⟩
theorem signs_len {x : Str} : (signs x).length = x.length := by unfold signs; rw [List.length_map, Array.length_toList]; rfl
theorem wk_str {K : PySem.W.Frag} {M1 : List Addr} {H1 : Hp} {x : Str} : Wk K (Its x) anyS M1 H1 ((signs x).map .d) where
  go := fun i M' H' S' hi e s _ => by rw [List.length_map, signs_len] at hi; exact hi
  yl := fun i M' H' S' v H2 r hr e s _ y => by
    obtain ⟨rfl, c, hc, rfl⟩ := y
    unfold signs at hr
    rw [List.getElem?_map, List.getElem?_map, Array.getElem?_toList, hc] at hr
    cases hr
    exact ⟨Ext.refl, s, Fz.str _⟩
  st := fun i M' H' S' hi e s _ => by rw [List.length_map, signs_len] at hi; exact hi
theorem evi_str {x : Str} (hi : Ev X iter G S (.d (.str x)) S1) : EvI X tg iter G S ((signs x).map .d) anyS S1 := ⟨_, pi_str pe_s, fun M σ H R s q => hi M σ H _ s fun v M1 H1 e1 t1 r1 => ⟨x, vr_str r1, q M1 H1 _ e1 t1 wk_str⟩⟩
theorem wk_rev {K : PySem.W.Frag} {M1 : List Addr} {H1 : Hp} {ad : Addr} {xs : List V} (hL : NdL M1 H1 ad xs) (hA : FzAll M1 H1 xs ds) : Wk K (Itv K ad xs.length) anyS M1 H1 (ds.reverse.map .d) where
  go := fun i M' H' S' hi e s _ => by
    have l1 := fz_len hA
    have hi' : i < ds.length := by simpa using hi
    exact ⟨by omega, xs, xs[xs.length - 1 - i]'(by omega), (hL.ext e).sq, List.getElem?_eq_getElem _⟩
  yl := fun i M' H' S' x H2 r hr e s _ y => by
    obtain ⟨rfl, y⟩ := y
    have hx := y xs (hL.ext e).sq
    obtain ⟨d, h1, h2⟩ := fz_at hA hx
    have l1 := fz_len hA
    obtain ⟨hl, _⟩ := List.getElem?_eq_some_iff.mp hr
    have hl' : i < ds.length := by simpa using hl
    rw [List.getElem?_map, List.getElem?_reverse hl', ← l1, h1] at hr
    cases hr
    exact ⟨Ext.refl, s, Fz.ext e h2⟩
  st := fun i M' H' S' hi e s _ => by
    have l1 := fz_len hA
    have hi' : ds.length ≤ i := by simpa using hi
    show xs.length ≤ i
    omega
/-- reversed(xs) -/
theorem evi_rev {a1 : Expr} (hm : X.mg "reversed" = none) (hi : Ev X a1 G S (.d (.list ds)) S1) (hg : Gl X "reversed" := by rfl) (hst : starEach [a1] X.env = [(false, eval a1 X.env)] := by rfl) :
    EvI X tg (.Call (.Name "reversed" p) [a1] [] pos') G S (ds.reverse.map .d) anyS S1 :=
  ⟨_, pi_reversed hg hm pa_s hst, fun M σ H R s q => (eva_cons hi eva_nil hst) M σ H _ s fun vs M1 H1 e1 t1 r1 => by
    cases r1 with
    | cons q1 r1 =>
      cases r1
      have hv' : Fz M1 H1 _ (.list ds) := q1
      cases hv' with
      | lst h1 h2 => exact ⟨_, _, rfl, h1.sq, q M1 H1 _ e1 t1 (wk_rev h1 h2)⟩⟩
/-- a list of data, owned or not -/
theorem evi_ls (hi : Ev X iter G S r S1) (h : lsOf S1 r = some ds) : EvI X tg iter G S (ds.map .d) (fun S' => lsOf S' r = some ds) S1 := by
  rcases ls_inv h with rfl | ⟨n, rfl, e⟩
  · obtain ⟨wi, h1, h2⟩ := evi_list (tg := tg) hi
    exact ⟨wi, h1, fun M σ H R s q => h2 M σ H R s fun M1 H1 J e1 t1 w1 => q M1 H1 J e1 t1 ⟨fun i M' H' S' a b c _ => w1.go i M' H' S' a b c trivial, fun i M' H' S' x H2 r a b c _ => w1.yl i M' H' S' x H2 r a b c trivial, fun i M' H' S' a b c _ => w1.st i M' H' S' a b c trivial⟩⟩
  · obtain ⟨wi, h1, h2⟩ := evi_own (tg := tg) hi e
    have conv : ∀ S' : Sto, lsOf S' (.o n) = some ds → S'[n]? = some (.lst (ds.map .d)) := fun S' h' => by
      rcases ls_inv h' with z | ⟨m, z, e'⟩
      · cases z
      · cases z; exact e'
    exact ⟨wi, h1, fun M σ H R s q => h2 M σ H R s fun M1 H1 J e1 t1 w1 => q M1 H1 J e1 t1 ⟨fun i M' H' S' a b c d => w1.go i M' H' S' a b c (conv _ d), fun i M' H' S' x H2 r a b c d => w1.yl i M' H' S' x H2 r a b c (conv _ d), fun i M' H' S' a b c d => w1.st i M' H' S' a b c (conv _ d)⟩⟩
/-- xs[i], owned or not -/
theorem ev_ixA {d : PyData} (ha : Ev X a G S r S1) (hb : Ev X b G S1 (.d (.int n)) S2) (hr : lsOf S2 r = some ds) (h : atI ds n = some d) (hs : PlainIx b := by exact fun _ _ => rfl) : Ev X (.Subscript a b pos) G S (.d d) S2 := by
  rcases ls_inv hr with rfl | ⟨i, rfl, e⟩
  · exact ev_ixL ha hb h hs
  · refine ev_ixO ha hb e ?_ hs
    unfold atI at h ⊢
    rw [List.length_map]
    cases q : ixN ds.length n with
    | none => rw [q] at h; cases h
    | some l =>
      rw [q] at h
      show (ds.map It.d)[l]? = _
      rw [List.getElem?_map, show ds[l]? = some d from h]
      rfl
theorem ev_lenA (hm : X.mg "len" = none) (ha : Ev X a G S r S1) (h : lsOf S1 r = some ds) (hg : Gl X "len" := by rfl) (he : starEach [a] X.env = (false, eval a X.env) :: starEach [] X.env := by rfl) : Ev X (.Call (.Name "len" p) [a] [] pos) G S (.d (.int ds.length)) S1 := ev_len hm ha (ls_len h) hg he
/-! ### slices and sums of lists, owned or not -/
theorem ev_slA {lo hi : Option Expr} {il ih : Option Int} {p2 : Pos} (ha : Ev X a G S r S1) (hr : lsOf S1 r = some ds) (hl : EvP X lo G S1 il) (hh : EvP X hi G S1 ih) : Ev X (.Subscript a (.Slice lo hi none p2) pos) G S (.d (.list (cutD ds il ih))) S1 := fun M σ H Q s q =>
  toE (pe_slice sl_list pe_s po_tEP po_tEP) (ha M σ H _ s fun v M1 H1 e1 t1 r1 => hl.run t1 fun M2 H2 e2 t2 => hh.run t2 fun M3 H3 e3 t3 => by
    obtain ⟨ad, xs, rfl, h1, h2⟩ := ls_rd t3.sto ((r1.ext e2).ext e3) hr
    exact ⟨_, _, rfl, .inl h1, fun p hp => q _ M3 _ (((e1.trans e2).trans e3).trans (Ext.fresh hp)) (t3.fresh hp) (Fz.lst ⟨.inl upd_same, t3.sto.nin hp⟩ (FzAll.ext (Ext.fresh hp) (fz_cut h2)))⟩)
/-- a slice that is owned -/
theorem ev_slO {lo hi : Option Expr} {il ih : Option Int} {p2 : Pos} (ha : Ev X a G S r S1) (hr : lsOf S1 r = some ds) (hl : EvP X lo G S1 il) (hh : EvP X hi G S1 ih) : Ev X (.Subscript a (.Slice lo hi none p2) pos) G S (.o S1.length) (S1 ++ [.lst ((cutD ds il ih).map .d)]) := fun M σ H Q s q =>
  toE (pe_slice sl_list pe_s po_tEP po_tEP) (ha M σ H _ s fun v M1 H1 e1 t1 r1 => hl.run t1 fun M2 H2 e2 t2 => hh.run t2 fun M3 H3 e3 t3 => by
    obtain ⟨ad, xs, rfl, h1, h2⟩ := ls_rd t3.sto ((r1.ext e2).ext e3) hr
    refine ⟨_, _, rfl, .inl h1, fun p hp => ?_⟩
    have e4 : Ext M3 H3 (M3 ++ [p]) (upd H3 p (.lst (cutV xs il ih))) := Ext.own hp
    have s4 := t3.sto.own (w := .lst ((cutD ds il ih).map .d)) hp ⟨_, upd_same, VReps.ext e4 (fz_reps (fz_cut h2))⟩
    exact q _ _ _ (((e1.trans e2).trans e3).trans e4) (t3.mono e4 s4) ⟨p, by rw [← t3.sto.len, List.getElem?_append_right (Nat.le_refl _), Nat.sub_self]; rfl, rfl⟩)
theorem ev_catA (ha : Ev X a G S r S1) (hb : Ev X b G S1 r' S2) (hr : lsOf S2 r = some ds) (hr' : lsOf S2 r' = some ds') (hz : ds.length + ds'.length ≤ 1000000) : Ev X (.BinOp a .Add b pos) G S (.d (.list (ds ++ ds'))) S2 := ev_op op_catR ha hb (fun M H v u Q s hv hu q => by
  obtain ⟨ad, xs, rfl, h1, h2⟩ := ls_rd s hv hr
  obtain ⟨bd, ys, rfl, h3, h4⟩ := ls_rd s hu hr'
  exact ⟨_, _, _, _, rfl, rfl, h1, h3, by rw [fz_len h2, fz_len h4, sizeLine_eq]; omega, fun p hp => q _ M _ (Ext.fresh hp) (s.fresh hp) (Fz.lst ⟨.inl upd_same, s.nin hp⟩ (FzAll.ext (Ext.fresh hp) (fz_app h2 h4)))⟩)
theorem fz_rep {M : List Addr} {H : Hp} {vs : List V} (h : FzAll M H vs ds) : ∀ (i : Nat), FzAll M H (List.replicate i vs).flatten (List.replicate i ds).flatten
  | 0 => .nil
  | i + 1 => by
    rw [List.replicate_succ, List.replicate_succ, List.flatten_cons, List.flatten_cons]
    exact fz_app h (fz_rep h i)
/-- xs * n, xs owned -/
theorem ev_repO {i : Nat} (ha : Ev X a G S (.o i) S1) (hb : Ev X b G S1 (.d (.int n)) S2) (hi : S2[i]? = some (.lst (ds.map .d))) (h1 : -(2 ^ 63) ≤ n) (h2 : n < 2 ^ 63) (hz : ds.length * n.toNat ≤ 1000000) : Ev X (.BinOp a .Mult b pos) G S (.d (.list (List.replicate n.toNat ds).flatten)) S2 := ev_op op_rep ha hb (fun M H v u Q s hv hu q => by
  obtain ⟨ad, had, rfl⟩ := hv
  obtain ⟨ws, e1, e2⟩ := s.rep i ad _ had hi
  have e3 := fz_all (ds_map ds) e2
  rw [vr_int hu]
  exact ⟨ad, n, ws, rfl, rfl, e1, h1, h2, by rw [fz_len e3, sizeLine_eq]; omega, fun p hp => q _ M _ (Ext.fresh hp) (s.fresh hp) (Fz.lst ⟨.inl upd_same, s.nin hp⟩ (FzAll.ext (Ext.fresh hp) (fz_rep e3 _)))⟩)
/-- xs.extend(ys), ys owned -/
theorem ev_extend {i l : Nat} {xs ys : List It} (ho : Ev X o G S (.o i) S1) (hi : S1[i]? = some (.lst xs)) (ha : Ev X e G S1 (.o l) S2) (hi2 : S2[i]? = some (.lst xs)) (hl2 : S2[l]? = some (.lst ys)) (hz : xs.length + ys.length < 1000000) (hbase : attributeBase o "extend" X.env (eval o X.env) = eval o X.env := by rfl)
    (hfew : ((backTo cpos (starEach [e] X.env)).all (fun x => !x.1) && (backToKw cpos (keywordEach [] X.env)).all (fun x => x.1.isSome) && decide ([e].length + ([] : List Keyword).length + (if ([] : List Keyword).isEmpty then 0 else 1) < 30)) = true := by rfl)
    (hline : (apos.endLine == cpos.line) = true := by rfl) (hs : starEach [e] X.env = (false, eval e X.env) :: starEach [] X.env := by rfl) : Ev X (.Call (.Attribute o "extend" apos) [e] [] cpos) G S (.d .none) (S2.set i (.lst (xs ++ ys))) :=
  ev_bm PySem.F.plainAttrs_list PySem.F.slot_list_extend PySem.F.type_list_extend mt_extend ho (ty_own hi) (eva_cons ha eva_nil hs) (fun M H v vs Q s hv hvs q => by
    obtain ⟨u, rfl, hu⟩ := vr1 hvs
    obtain ⟨ad, had, rfl⟩ := hv
    obtain ⟨bd, hbd, rfl⟩ := hu
    obtain ⟨ws, e1, e2⟩ := s.rep i ad _ had hi2
    obtain ⟨us, f1, f2⟩ := s.rep l bd _ hbd hl2
    have e3 : Ext M H M (upd H ad (.lst (ws ++ us))) := Ext.put (List.mem_of_getElem? had)
    exact ⟨ad, bd, ws, us, rfl, rfl, e1, f1, by rw [e2.len, f2.len, sizeLine_eq]; omega, q .non M _ e3 (s.put had ⟨_, upd_same, VReps.append (VReps.ext e3 e2) (VReps.ext e3 f2)⟩) Fz.non⟩) hbase hfew hline hs rfl
/-! ### in, not in, of flat data -/
theorem evt_inT {x : PyData} (ha : Ev X a G S (.d x) S1) (hb : Ev X b G S1 (.d (.tuple ds)) S2) (hx : flatD x = true := by rfl) (hd : ds.all flatD = true := by rfl) (hm : behindInMarks .In b = false := by rfl) : EvT X (.Compare a [.In] [b] pos) G S (inV (toV x) (ds.map toV)) S2 := evt_cmp op_in_seq ha hb (rw_inFT (neg := false) hx hd) hm
theorem evt_notInT {x : PyData} (ha : Ev X a G S (.d x) S1) (hb : Ev X b G S1 (.d (.tuple ds)) S2) (hx : flatD x = true := by rfl) (hd : ds.all flatD = true := by rfl) (hm : behindInMarks .NotIn b = false := by rfl) : EvT X (.Compare a [.NotIn] [b] pos) G S (!inV (toV x) (ds.map toV)) S2 := evt_cmp op_notIn_seq ha hb (rw_inFT (neg := true) hx hd) hm
theorem evt_inL {x : PyData} (ha : Ev X a G S (.d x) S1) (hb : Ev X b G S1 (.d (.list ds)) S2) (hx : flatD x = true := by rfl) (hd : ds.all flatD = true := by rfl) (hm : behindInMarks .In b = false := by rfl) : EvT X (.Compare a [.In] [b] pos) G S (inV (toV x) (ds.map toV)) S2 := evt_cmp op_in_seq ha hb (rw_inF (neg := false) hx hd) hm
theorem evt_notInL {x : PyData} (ha : Ev X a G S (.d x) S1) (hb : Ev X b G S1 (.d (.list ds)) S2) (hx : flatD x = true := by rfl) (hd : ds.all flatD = true := by rfl) (hm : behindInMarks .NotIn b = false := by rfl) : EvT X (.Compare a [.NotIn] [b] pos) G S (!inV (toV x) (ds.map toV)) S2 := evt_cmp op_notIn_seq ha hb (rw_inF (neg := true) hx hd) hm
theorem ev_inT {x : PyData} (ha : Ev X a G S (.d x) S1) (hb : Ev X b G S1 (.d (.tuple ds)) S2) (hx : flatD x = true := by rfl) (hd : ds.all flatD = true := by rfl) (hm : behindInMarks .In b = false := by rfl) : Ev X (.Compare a [.In] [b] pos) G S (.d (.bool (inV (toV x) (ds.map toV)))) S2 := ev_cmp op_in_seq ha hb (rw_inFT (neg := false) hx hd) hm
theorem ev_notInT {x : PyData} (ha : Ev X a G S (.d x) S1) (hb : Ev X b G S1 (.d (.tuple ds)) S2) (hx : flatD x = true := by rfl) (hd : ds.all flatD = true := by rfl) (hm : behindInMarks .NotIn b = false := by rfl) : Ev X (.Compare a [.NotIn] [b] pos) G S (.d (.bool (!inV (toV x) (ds.map toV)))) S2 := ev_cmp op_notIn_seq ha hb (rw_inFT (neg := true) hx hd) hm
theorem inV_int {m : Int} {ns : List Int} : inV (.int m) (ns.map V.int) = decide (m ∈ ns) := by
  unfold inV
  induction ns with
  | nil => rfl
  | cons n ns ih =>
    rw [List.map_cons, List.any_cons, ih]
    show ((n == m) || _) = _
    by_cases h : n = m
    · subst h; simp
    · have h' : m ≠ n := fun e => h e.symm
      simp [h, h']
/-! ### texts -/
theorem ev_addS {x y : Str} (ha : Ev X a G S (.d (.str x)) S1) (hb : Ev X b G S1 (.d (.str y)) S2) (hz : x.length + y.length ≤ 1000000) : Ev X (.BinOp a .Add b pos) G S (.d (.str (x ++ y))) S2 := ev_op op_add_str ha hb fun M H v u Q s hv hu q =>
  ⟨x, y, vr_str hv, vr_str hu, by rw [sizeLine_eq]; omega, q _ M H Ext.refl s (Fz.str _)⟩
end
end Cu
namespace Pf
open PySem PySem.Spec PyProof.Rows L2 He Cu
/-! ### the script's wells -/
def cellN (ns : List Int) (k : Int) : Int := if k < ns.length then ns.getD k.toNat 0 else 0
def mixA (c k : Int) : Int := (c + 7919 * k + 1) * 48271 % 2147483647
def mixedN (c k : Int) : Int := mixA c k * (mixA c k / 1009 + 69621) % 2147483647
def twiA (c k : Int) : Int := (mixedN c k + 104729 * k + 11) * 69621 % 2147483647
def twiceN (c k : Int) : Int := twiA c k * (twiA c k / 1013 + 48271) % 2147483647
abbrev Well := Int × Int × Int
def wellO (w : Well) : Own := .lst [.d (.int w.1), .d (.int w.2.1), .d (.int w.2.2)]
def drawV (w : Well) (m : Int) : Int := if w.1 = 0 then w.2.1 % m else twiceN w.2.1 (w.2.2 + 1) % m
def drawW (w : Well) (m : Int) : Well := if w.1 = 0 then (w.1, w.2.1 / m, w.2.2) else (w.1, w.2.1, w.2.2 + 1)
theorem draw_lo {w : Well} {m : Int} (h : 0 < m) : 0 ≤ drawV w m := by
  unfold drawV
  split <;> exact Int.emod_nonneg _ (by omega)
theorem draw_hi {w : Well} {m : Int} (h : 0 < m) : drawV w m < m := by
  unfold drawV
  split <;> exact Int.emod_lt_of_pos _ h
theorem well_cl {n : Nat} {w : Well} : ClO n (wellO w) := fun r hr => by
  rcases List.mem_cons.mp hr with h | hr
  · rw [h]; trivial
  rcases List.mem_cons.mp hr with h | hr
  · rw [h]; trivial
  rcases List.mem_cons.mp hr with h | hr
  · rw [h]; trivial
  · exact absurd hr (List.not_mem_nil)
def F_cell : Fn := fun rs S QR _ => ∃ (ns : List Int) (k : Int), rs = [.s ns, .d (.int k)] ∧ 0 ≤ k ∧ QR (.d (.int (cellN ns k))) S
def F_mixed : Fn := fun rs S QR _ => ∃ (c k : Int), rs = [.d (.int c), .d (.int k)] ∧ QR (.d (.int (mixedN c k))) S
def F_twice : Fn := fun rs S QR _ => ∃ (c k : Int), rs = [.d (.int c), .d (.int k)] ∧ QR (.d (.int (twiceN c k))) S
def F_well : Fn := fun rs S QR _ => ∃ (ns : List Int) (k : Int), rs = [.s ns, .d (.int k)] ∧ 0 ≤ k ∧ ∀ w, QR (.o S.length) (S ++ [wellO w])
def F_draw : Fn := fun rs S QR _ => ∃ (n : Nat) (w : Well) (m : Int), rs = [.o n, .d (.int m)] ∧ S[n]? = some (wellO w) ∧ 0 < m ∧ m < 1073741824 ∧ QR (.d (.int (drawV w m))) (S.set n (wellO (drawW w m)))
section
variable {P : Program} {w : World} {K : PySem.W.Frag} {mg : Str → Option Value} {base : Heap}
theorem fn__law_cell (T : TT K mg) {fd : FuncData} (Fd : FunD K "_law_cell" "_law_cell" (defArgs s__law_cell) (defBody s__law_cell) (defScope s__law_cell) [] [] (ga K "_law_cell") fd) : FnOk P w K mg base (L2.CX P w) 1 (ga K "_law_cell") fd ["_law_script", "_law_k"] (spF K 2 F_cell) := by
  refine fn_w Fd sc__law_cell fun cdv A outer s H E rs S QR QE c hc hl hF => ?_
  obtain ⟨ns, k, rfl, hk, q⟩ := hF
  refine ss_cons (ws_if (evt_lt (ev_name 1) (ev_len (z_len T) (ev_name 0) (by rfl))) (fun h => ?_) (fun h => ?_))
  · have h := of_decide_eq_true h
    refine ss_cons (ws_ret (ev_ixS (ev_name 0) (ev_name 1) (i := cellN ns k) ?_) (back_d q))
    unfold atI ixN cellN
    rw [if_pos hk, if_pos h, if_pos h]
    show ns[k.toNat]? = _
    rw [List.getElem?_eq_getElem (by omega), List.getD_eq_getElem?_getD, List.getElem?_eq_getElem (by omega)]
    rfl
  · have h := of_decide_eq_false h
    refine ss_nil (ss_cons (ws_ret ev_int (back_d ?_)))
    unfold cellN at q
    rw [if_neg h] at q
    exact q
theorem ok__law_cell (T : TT K mg) : OkF P w K mg base 1 "_law_cell" ["_law_script", "_law_k"] [] F_cell := okF_of (g__law_cell T) (d__law_cell T) (fun _ _ _ _ _ _ us hl => match us, hl with | [_, _], _ => rfl) fun fd Fd => fn__law_cell T Fd
theorem fn__law_mixed (T : TT K mg) {fd : FuncData} (Fd : FunD K "_law_mixed" "_law_mixed" (defArgs s__law_mixed) (defBody s__law_mixed) (defScope s__law_mixed) [] [] (ga K "_law_mixed") fd) : FnOk P w K mg base (L2.CX P w) 1 (ga K "_law_mixed") fd ["_law_cell_here", "_law_k"] (spF K 2 F_mixed) := by
  refine fn_w Fd sc__law_mixed fun cdv A outer s H E rs S QR QE c hc hl hF => ?_
  obtain ⟨n, k, rfl, q⟩ := hF
  have h0 : 0 ≤ mixA n k := Int.emod_nonneg _ (by decide)
  have h1 : mixA n k < 2147483647 := Int.emod_lt_of_pos _ (by decide)
  refine ss_cons (ws_set 2 c.nd (ev_mod (ev_mul (ev_add (ev_add (ev_name 0) (ev_mul ev_int (ev_name 1) (.inl (by decide)))) ev_int) ev_int (.inr (by decide))) ev_int (by decide)) ?_)
  exact ss_cons (ws_ret (ev_mod (ev_mul (ev_name 2 (r := .d (.int (mixA n k)))) (ev_add (ev_fdiv (ev_name 2) ev_int ⟨by decide, by decide⟩) ev_int) (.inl (by omega))) ev_int (by decide)) (back_d q))
theorem ok__law_mixed (T : TT K mg) : OkF P w K mg base 1 "_law_mixed" ["_law_cell_here", "_law_k"] [] F_mixed := okF_of (g__law_mixed T) (d__law_mixed T) (fun _ _ _ _ _ _ us hl => match us, hl with | [_, _], _ => rfl) fun fd Fd => fn__law_mixed T Fd
theorem fn__law_twice (T : TT K mg) {fd : FuncData} (Fd : FunD K "_law_twice" "_law_twice" (defArgs s__law_twice) (defBody s__law_twice) (defScope s__law_twice) [] [] (ga K "_law_twice") fd) : FnOk P w K mg base (L2.CX P w) 2 (ga K "_law_twice") fd ["_law_cell_here", "_law_k"] (spF K 2 F_twice) := by
  refine fn_w Fd sc__law_twice fun cdv A outer s H E rs S QR QE c hc hl hF => ?_
  obtain ⟨n, k, rfl, q⟩ := hF
  have h0 : 0 ≤ twiA n k := Int.emod_nonneg _ (by decide)
  have h1 : twiA n k < 2147483647 := Int.emod_lt_of_pos _ (by decide)
  refine ss_cons (ws_set 2 c.nd (ev_mod (ev_mul (ev_add (ev_add (ev_call c (ok__law_mixed T) (eva_cons (ev_name 0) (eva_cons (ev_name 1) eva_nil)) (fun QR QE q => ⟨_, _, rfl, q⟩)) (ev_mul ev_int (ev_name 1) (.inl (by decide)))) ev_int) ev_int (.inr (by decide))) ev_int (by decide)) ?_)
  exact ss_cons (ws_ret (ev_mod (ev_mul (ev_name 2 (r := .d (.int (twiA n k)))) (ev_add (ev_fdiv (ev_name 2) ev_int ⟨by decide, by decide⟩) ev_int) (.inl (by omega))) ev_int (by decide)) (back_d q))
theorem ok__law_twice (T : TT K mg) : OkF P w K mg base 2 "_law_twice" ["_law_cell_here", "_law_k"] [] F_twice := okF_of (g__law_twice T) (d__law_twice T) (fun _ _ _ _ _ _ us hl => match us, hl with | [_, _], _ => rfl) fun fd Fd => fn__law_twice T Fd
theorem fn__law_well (T : TT K mg) {fd : FuncData} (Fd : FunD K "_law_well" "_law_well" (defArgs s__law_well) (defBody s__law_well) (defScope s__law_well) [] [] (ga K "_law_well") fd) : FnOk P w K mg base (L2.CX P w) 2 (ga K "_law_well") fd ["_law_script", "_law_k"] (spF K 2 F_well) := by
  refine fn_w Fd sc__law_well fun cdv A outer s H E rs S QR QE c hc hl hF => ?_
  obtain ⟨ns, k, rfl, hk, q⟩ := hF
  exact ss_cons (ws_ret (ev_lstO (eva_cons (ev_mod (ev_call c (ok__law_cell T) (eva_cons (ev_name 0) (eva_cons ev_int eva_nil)) (fun QR QE q => ⟨_, _, rfl, by decide, q⟩)) ev_int (by decide)) (eva_cons (ev_call c (ok__law_cell T) (eva_cons (ev_name 0) (eva_cons (ev_name 1) eva_nil)) (fun QR QE q => ⟨_, _, rfl, hk, q⟩)) (eva_cons ev_int eva_nil))))
    (back_same (by show S.length < _; simp) (q (_, _, _))))
theorem ok__law_well (T : TT K mg) : OkF P w K mg base 2 "_law_well" ["_law_script", "_law_k"] [] F_well := okF_of (g__law_well T) (d__law_well T) (fun _ _ _ _ _ _ us hl => match us, hl with | [_, _], _ => rfl) fun fd Fd => fn__law_well T Fd
theorem fn__law_draw (T : TT K mg) {fd : FuncData} (Fd : FunD K "_law_draw" "_law_draw" (defArgs s__law_draw) (defBody s__law_draw) (defScope s__law_draw) [] [] (ga K "_law_draw") fd) : FnOk P w K mg base (L2.CX P w) 3 (ga K "_law_draw") fd ["_law_well_here", "_law_most"] (spF K 2 F_draw) := by
  refine fn_w Fd sc__law_draw fun cdv A outer s H E rs S QR QE c hc hl hF => ?_
  obtain ⟨n, ⟨a, b, d⟩, m, rfl, hw, hm0, hm1, q⟩ := hF
  refine ss_cons (ws_if (evt_eqI (ev_ixO (ev_name 0) ev_int hw (d := .d (.int a)) (by rfl)) ev_int) (fun h => ?_) (fun h => ?_))
  · have h : a = 0 := of_decide_eq_true h
    subst h
    refine ss_cons (ws_set 2 c.nd (ev_mod (ev_ixO (ev_name 0) ev_int hw (d := .d (.int b)) (by rfl)) (ev_name 1) hm0) ?_)
    refine ss_cons (ws_setIx (ev_fdiv (ev_ixO (ev_name 0) ev_int hw (d := .d (.int b)) (by rfl)) (ev_name 1) ⟨by omega, by omega⟩) (ev_name 0) ev_int hw (by rfl) ?_)
    exact ss_cons (ws_ret (ev_name 2) (back_d q))
  · have h : ¬ a = 0 := of_decide_eq_false h
    have e1 : drawV (a, b, d) m = twiceN b (d + 1) % m := if_neg h
    have e2 : drawW (a, b, d) m = (a, b, d + 1) := if_neg h
    rw [e1, e2] at q
    have hn : n < S.length := (List.getElem?_eq_some_iff.mp hw).1
    have hw2 : (S.set n (wellO (a, b, d + 1)))[n]? = some (wellO (a, b, d + 1)) := by rw [List.getElem?_set_self hn]
    refine ss_nil (ss_cons (ws_setIx (ev_add (ev_ixO (ev_name 0) ev_int hw (d := .d (.int d)) (by rfl)) ev_int) (ev_name 0) ev_int hw (by rfl) ?_))
    exact ss_cons (ws_ret (ev_mod (ev_call c (ok__law_twice T) (eva_cons (ev_ixO (ev_name 0) ev_int hw2 (d := .d (.int b)) (by rfl)) (eva_cons (ev_ixO (ev_name 0) ev_int hw2 (d := .d (.int (d + 1))) (by rfl)) eva_nil)) (fun QR QE q => ⟨_, _, rfl, q⟩)) (ev_name 1) hm0) (back_d q))
theorem ok__law_draw (T : TT K mg) : OkF P w K mg base 3 "_law_draw" ["_law_well_here", "_law_most"] [] F_draw := okF_of (g__law_draw T) (d__law_draw T) (fun _ _ _ _ _ _ us hl => match us, hl with | [_, _], _ => rfl) fun fd Fd => fn__law_draw T Fd
end
end Pf
/-! CuJ: sorted of data, comprehensions that own, bits, defaults. -/
namespace Cu
open PySem PySem.Spec PyProof.Rows L2
/-! ### sorted -/
def rSortD (K : PySem.W.Frag) : List V → Hp → VK → Prop := fun vs H Q => ∃ (a : Addr) (xs : List V) (ds : List PyData) (Rel : V → PyData → Prop), vs = [V.ref a] ∧ SqL K H a xs ∧ DpAll K H xs ds ∧ Paired Rel xs ds ∧ PySem.W.AllAlike ds ∧ PySem.W.Sortable ds ∧ (∀ d ∈ ds, d.depth ≤ 60) ∧
  ∀ (ys : List V) (p : Addr), Paired Rel ys (ds.mergeSort (PySem.W.dataLe false id)) → H p = none → Q (.ref p) (upd H p (.lst ys))
theorem each_of {Rel : V → PyData → Prop} : ∀ {xs : List V} {ds : List PyData} {us : List Value}, Vals xs us → Paired Rel xs ds → PySem.W.EachIs (fun u d => ∃ v, RelV v u ∧ Rel v d) us ds
  | _, _, _, .nil, .nil => .nil
  | _, _, _, .cons a t, .cons b s => .cons ⟨_, a, b⟩ (each_of t s)
theorem each_back {Rel : V → PyData → Prop} {us : List Value} {ds : List PyData} (h : PySem.W.EachIs (fun u d => ∃ v, RelV v u ∧ Rel v d) us ds) : ∃ ys, Vals ys us ∧ Paired Rel ys ds := by
  induction h with
  | nil => exact ⟨[], .nil, .nil⟩
  | cons a _ ih =>
    obtain ⟨v, h1, h2⟩ := a
    obtain ⟨ys, i1, i2⟩ := ih
    exact ⟨v :: ys, .cons h1 i1, .cons h2 i2⟩
theorem each_reads {s : Shared} {X : Cx} {pins : List (Addr × Obj)} {σ : Sig} {H : Hp} (I : Inv X pins σ H s) : ∀ {xs : List V} {ds : List PyData} {us : List Value}, Vals xs us → DpAll X.K H xs ds → PySem.W.EachIs (fun u d => ∃ as, Reads s.heap u (id d) as) us ds
  | [], _, _, r, h => by cases r; cases h; exact .nil
  | x :: xs, _, _, r, h => by
    cases r with
    | cons r1 r2 =>
      cases h with
      | cons h1 h2 => exact .cons (Dp.reads I _ _ _ h1 r1) (each_reads I r2 h2)
theorem Paired.len2 {α β : Type} {F : α → β → Prop} : ∀ {l1 : List α} {l2 : List β}, Paired F l1 l2 → l1.length = l2.length
  | _, _, .nil => rfl
  | _, _, .cons _ t => congrArg Nat.succ (Paired.len2 t)
theorem cr_sortD {X : Cx} (hu : X.A.units + 64 < cLine) : CallR X (.builtin "sorted") (rSortD X.K) := by
  intro pins s σ H vs us Q I r h
  obtain ⟨a, xs, ds, Rel, rfl, hs, hdp, hrel, hal, hso, hde, q⟩ := h
  obtain ⟨its, rv, hl, hz⟩ := I.list hs
  rw [Vals.ref1 r]
  have hlen : ds.length = its.length := by rw [← Paired.len2 hrel]; exact rv.length
  refine PySem.W.sorted_data (bs := ds) (enc := id) (vs := its) hl.isList (each_of rv hrel) (each_reads I rv hdp) (by rw [List.map_id]; exact hal) (by rw [List.map_id]; exact hso) (by rw [hlen, ← rv.length]; exact hz) (fun d hd => ?_) fun out h1 h2 => ?_
  · have := hde d hd
    show X.A.units + 2 + d.depth < cLine
    omega
  · obtain ⟨ys, hy, hyr⟩ := each_back h2
    obtain ⟨ep, he'⟩ := PyProof.Rows.sortedAll_at s.heap its out.toArray
    have hle : ys.length ≤ sizeLine := by rw [hy.length, h1, hlen, ← rv.length]; exact hz
    exact ⟨.ref _, upd H (s.heap.objs.size + 1) (.lst ys), I.laid (t' := s.toks) (fun _ _ => PyProof.Rows.sortedAll_old) (Nat.le_succ _) ⟨hle, out, ep, hy, he'⟩, rfl, q ys _ hyr (I.hok.fresh (Nat.le_succ _))⟩
theorem fz_pair {M : List Addr} {H : Hp} : ∀ {vs : List V} {ds : List PyData}, FzAll M H vs ds → Paired (fun v d => Fz M H v d) vs ds
  | [], _, h => by cases h; exact .nil
  | _ :: _, _, h => by
    cases h with
    | cons h1 h2 => exact .cons h1 (fz_pair h2)
theorem fz_unpair {M : List Addr} {H : Hp} : ∀ {vs : List V} {ds : List PyData}, Paired (fun v d => Fz M H v d) vs ds → FzAll M H vs ds
  | _, _, .nil => .nil
  | _, _, .cons h1 h2 => .cons h1 (fz_unpair h2)
section
variable {X : Cx} {W : WX} {k j : Nat} {G G1 G2 : Gam} {S S1 S2 S3 : Sto} {P : Post} {e a b o iter tg elt : Expr} {es ifs : List Expr} {r y z r' : It} {rs : List It} {pos pos' p apos cpos tpos : Pos} {st : Stmt} {sts body : List Stmt} {ds ds' : List PyData} {C : Sto → Prop} {m n : Int} {scope : Scope} {own : List (Str × Nat)}
def sortD (ds : List PyData) : List PyData := ds.mergeSort (PySem.W.dataLe false id)
/-- sorted(xs), a list of data -/
theorem ev_sorted (c : Cxo X W k) (hm : X.mg "sorted" = none) (ha : Ev X a G S r S1) (hr : lsOf S1 r = some ds) (hal : PySem.W.AllAlike ds) (hso : PySem.W.Sortable ds) (hde : ∀ d ∈ ds, d.depth ≤ 60) (hg : Gl X "sorted" := by rfl) (he : starEach [a] X.env = (false, eval a X.env) :: starEach [] X.env := by rfl) : Ev X (.Call (.Name "sorted" p) [a] [] pos) G S (.d (.list (sortD ds))) S1 :=
  ev_blt (cr_sortD c.hr.units) hm (by decide +kernel) (eva_cons ha eva_nil he) (fun M H vs Q s hvs q => by
    obtain ⟨v, rfl, hv⟩ := vr1 hvs
    obtain ⟨ad, xs, rfl, h1, h2⟩ := ls_rd s hv hr
    exact ⟨ad, xs, ds, _, rfl, .inl h1, FzAll.dp h2, fz_pair h2, hal, hso, hde, fun ys p hp hn => q _ M _ (Ext.fresh hn) (s.fresh hn) (Fz.lst ⟨.inl upd_same, s.nin hn⟩ (FzAll.ext (Ext.fresh hn) (fz_unpair hp)))⟩) hg (by decide) (by decide) he rfl
/-! ### whole numbers, further -/
theorem ev_bor (ha : Ev X a G S (.d (.int m)) S1) (hb : Ev X b G S1 (.d (.int n)) S2) : Ev X (.BinOp a .BitOr b pos) G S (.d (.int (Builtin.bitOr m n))) S2 := ev_op op_or ha hb rw_int
theorem ev_band (ha : Ev X a G S (.d (.int m)) S1) (hb : Ev X b G S1 (.d (.int n)) S2) : Ev X (.BinOp a .BitAnd b pos) G S (.d (.int (Builtin.bitAnd m n))) S2 := ev_op op_and ha hb rw_int
theorem ev_shl (ha : Ev X a G S (.d (.int m)) S1) (hb : Ev X b G S1 (.d (.int n)) S2) (h : CPow m n) : Ev X (.BinOp a .LShift b pos) G S (.d (.int (m * 2 ^ n.toNat))) S2 := ev_op op_shl ha hb (rw_intC h)
theorem ev_shr (ha : Ev X a G S (.d (.int m)) S1) (hb : Ev X b G S1 (.d (.int n)) S2) (h : 0 ≤ n) : Ev X (.BinOp a .RShift b pos) G S (.d (.int (m / 2 ^ n.toNat))) S2 := ev_op op_shr ha hb (rw_intC (D := fun _ j => 0 ≤ j) h)
theorem ev_inv (ha : Ev X a G S (.d (.int m)) S1) : Ev X (.UnaryOp .Invert a pos) G S (.d (.int (Builtin.bitNot m))) S1 := ev_un un_inv ha fun M H v Q s hv q => ⟨m, vr_int hv, q _ M H Ext.refl s (Fz.int _)⟩
theorem ev_divmod (hm : X.mg "divmod" = none) (ha : Ev X a G S (.d (.int m)) S1) (hb : Ev X b G S1 (.d (.int n)) S2) (h : CDiv m n) (hg : Gl X "divmod" := by rfl) (he : starEach [a, b] X.env = (false, eval a X.env) :: starEach [b] X.env := by rfl) (he2 : starEach [b] X.env = (false, eval b X.env) :: starEach [] X.env := by rfl)
    (hpl : (backTo pos (starEach [b] X.env)).any (·.1) = false := by rfl) : Ev X (.Call (.Name "divmod" p) [a, b] [] pos) G S (.d (.tuple [.int (m / n), .int (m % n)])) S2 :=
  ev_blt call_divmod hm (by decide +kernel) (eva_cons ha (eva_cons hb eva_nil he2) he) (fun M H vs Q s hvs q => by
    obtain ⟨v, u, rfl, hv, hu⟩ := vr2 hvs
    rw [vr_int hv, vr_int hu]
    exact ⟨m, n, rfl, h, fun p hp => q _ M _ (Ext.fresh hp) (s.fresh hp) (Fz.tup ⟨upd_same, s.nin hp⟩ (.cons (Fz.int _) (.cons (Fz.int _) .nil)))⟩) hg (by decide) (by decide) he hpl
theorem ev_abs (hm : X.mg "abs" = none) (ha : Ev X a G S (.d (.int m)) S1) (hg : Gl X "abs" := by rfl) (he : starEach [a] X.env = (false, eval a X.env) :: starEach [] X.env := by rfl) : Ev X (.Call (.Name "abs" p) [a] [] pos) G S (.d (.int (if m < 0 then -m else m))) S1 :=
  ev_blt call_abs hm (by decide +kernel) (eva_cons ha eva_nil he) (fun M H vs Q s hvs q => by
    obtain ⟨v, rfl, hv⟩ := vr1 hvs
    exact ⟨m, by rw [vr_int hv], q _ M H Ext.refl s (Fz.int _)⟩) hg (by decide) (by decide) he rfl
theorem ev_max2 (c : Cxo X W k) (hm : X.mg "max" = none) (ha : Ev X a G S (.d (.int m)) S1) (hb : Ev X b G S1 (.d (.int n)) S2) (hg : Gl X "max" := by rfl) (he : starEach [a, b] X.env = (false, eval a X.env) :: starEach [b] X.env := by rfl) (he2 : starEach [b] X.env = (false, eval b X.env) :: starEach [] X.env := by rfl)
    (hpl : (backTo pos (starEach [b] X.env)).any (·.1) = false := by rfl) : Ev X (.Call (.Name "max" p) [a, b] [] pos) G S (.d (.int (max m n))) S2 :=
  ev_blt (call_max2 c.calm) hm (by decide +kernel) (eva_cons ha (eva_cons hb eva_nil he2) he) (fun M H vs Q s hvs q => by
    obtain ⟨v, u, rfl, hv, hu⟩ := vr2 hvs
    rw [vr_int hv, vr_int hu]
    refine ⟨m, n, rfl, ?_⟩
    rw [show (if n > m then n else m) = max m n by split <;> omega]
    exact q _ M H Ext.refl s (Fz.int _)) hg (by decide) (by decide) he hpl
theorem ev_min2 (c : Cxo X W k) (hm : X.mg "min" = none) (ha : Ev X a G S (.d (.int m)) S1) (hb : Ev X b G S1 (.d (.int n)) S2) (hg : Gl X "min" := by rfl) (he : starEach [a, b] X.env = (false, eval a X.env) :: starEach [b] X.env := by rfl) (he2 : starEach [b] X.env = (false, eval b X.env) :: starEach [] X.env := by rfl)
    (hpl : (backTo pos (starEach [b] X.env)).any (·.1) = false := by rfl) : Ev X (.Call (.Name "min" p) [a, b] [] pos) G S (.d (.int (min m n))) S2 :=
  ev_blt (call_min2 c.calm) hm (by decide +kernel) (eva_cons ha (eva_cons hb eva_nil he2) he) (fun M H vs Q s hvs q => by
    obtain ⟨v, u, rfl, hv, hu⟩ := vr2 hvs
    rw [vr_int hv, vr_int hu]
    refine ⟨m, n, rfl, ?_⟩
    rw [show (if n < m then n else m) = min m n by split <;> omega]
    exact q _ M H Ext.refl s (Fz.int _)) hg (by decide) (by decide) he hpl
/-- tuple(xs) of a list of data -/
theorem ev_tupleL (hm : X.mg "tuple" = none) (ha : Ev X a G S r S1) (hr : lsOf S1 r = some ds) (hg : Gl X "tuple" := by rfl) (he : starEach [a] X.env = (false, eval a X.env) :: starEach [] X.env := by rfl) : Ev X (.Call (.Name "tuple" p) [a] [] pos) G S (.d (.tuple ds)) S1 := ev_ty call_tuple_of hm (by decide +kernel) (eva_cons ha eva_nil he) (fun M H vs Q s hvs q => by
  obtain ⟨v, rfl, hv⟩ := vr1 hvs
  obtain ⟨ad, xs, rfl, h1, h2⟩ := ls_rd s hv hr
  exact ⟨_, _, rfl, .inl ⟨.inl h1, fun l hl => q _ M _ (Ext.fresh hl) (s.fresh hl) (Fz.tup ⟨upd_same, s.nin hl⟩ (FzAll.ext (Ext.fresh hl) h2))⟩⟩) hg (by decide) (by decide) he rfl
theorem ev_tupleT (hm : X.mg "tuple" = none) (ha : Ev X a G S (.d (.tuple ds)) S1) (hg : Gl X "tuple" := by rfl) (he : starEach [a] X.env = (false, eval a X.env) :: starEach [] X.env := by rfl) : Ev X (.Call (.Name "tuple" p) [a] [] pos) G S (.d (.tuple ds)) S1 := ev_ty call_tuple_of hm (by decide +kernel) (eva_cons ha eva_nil he) (fun M H vs Q s hvs q => by
  obtain ⟨v, rfl, hv⟩ := vr1 hvs
  have hv' : Fz M H v (.tuple ds) := hv
  cases hv' with
  | tup h1 h2 => exact ⟨_, _, rfl, .inr ⟨h1.sq, q _ M H Ext.refl s (Fz.tup h1 h2)⟩⟩) hg (by decide) (by decide) he rfl
/-! ### a comprehension whose list is owned -/
structure LcOwn (X : Cx) (scope : Scope) (own : List (Str × Nat)) (elt tg iter : Expr) (ifs : List Expr) (G : Gam) (S : Sto) (l : Nat) (S2 : Sto) : Prop where
  ex : ∃ (wi : TI) (g : TG), PI X tg iter wi ∧ (∀ s H C cl fp, PG (blkX X scope s H C cl fp) tg g) ∧ ∀ (M : List Addr) (σ : Sig) (H : Hp) (Q : VK), Stt X.K M H S G σ → (∀ v M' H', Ext M H M' H' → Stt X.K M' H' S2 G σ → VRep X.K M' H' v (.o l) → Q v H') →
      tLc wi g (tTs X scope ifs) (tEl X scope elt) (own.map (·.2)) σ H Q
/-- J by the turn and the whole store, the new list among it -/
theorem lc_own {bind : It → Gam → Option Gam} {C : Sto → Prop} (c : Cxo X W k) (hi : EvI X tg iter G S rs C S1) (ht : TgOk X scope tg (own.map (·.2)) bind) (J : Nat → Sto → Prop) (h0 : J 0 (S1 ++ [.lst []])) (hC : ∀ i S', J i S' → C S')
    (hs : ∀ i r S', rs[i]? = some r → J i S' → ∃ G' b, bind r (wipeG G (own.map (·.2))) = some G' ∧ (∀ s H C cl fp, EvTs (blkX X scope s H C cl fp) ifs G' S' b) ∧
      (b = true → ∃ y S3 acc, (∀ s H C cl fp, Ev (blkX X scope s H C cl fp) elt G' S' y S3) ∧ S3[S1.length]? = some (.lst acc) ∧ acc.length < 1000000 ∧ J (i + 1) (S3.set S1.length (.lst (acc ++ [y])))) ∧ (b = false → J (i + 1) S'))
    (hd : ∀ S', J rs.length S' → S' = S2) : LcOwn X scope own elt tg iter ifs G S S1.length S2 := by
  obtain ⟨g, hpg, hg⟩ := ht.ex
  obtain ⟨wi, hpi, hw⟩ := hi
  refine ⟨wi, g, hpi, hpg, fun M σ H Q s q => hw M σ H _ s fun M1 H1 Jt e1 t1 wk => ?_⟩
  intro D hD
  have eD : Ext M1 H1 (M1 ++ [D]) (upd H1 D (.lst [])) := Ext.own hD
  have ww : ∀ (vs us : List Nat) (σ : Sig), (∀ v ∈ us, v ∈ vs) → wipe (wipe σ us) vs = wipe σ vs := by
    intro vs us
    induction us with
    | nil => intro σ _; rfl
    | cons u r ih =>
      intro σ hm
      show wipe ((wipe σ r).set u none) vs = _
      rw [wipe_set _ (hm u List.mem_cons_self), ih σ fun v hv => hm v (List.mem_cons_of_mem _ hv)]
  have hDn : (M1 ++ [D])[S1.length]? = some D := by rw [← t1.sto.len, List.getElem?_append_right (Nat.le_refl _), Nat.sub_self]; rfl
  refine ⟨fun i m' H' => (m' = rs.length - i ∧ i ≤ rs.length) ∧ ∃ M' S', Ext (M1 ++ [D]) (upd H1 D (.lst [])) M' H' ∧ Stt X.K M' H' S' G σ ∧ J i S',
    ⟨_, ⟨rfl, Nat.zero_le _⟩, M1 ++ [D], _, Ext.refl, t1.mono eD (t1.sto.own (w := .lst ([] : List It)) hD ⟨[], upd_same, .nil⟩), h0⟩, fun i m' H' hw' => ?_⟩
  obtain ⟨⟨rfl, hi'⟩, M', S', e', t', hJ⟩ := hw'
  have cS := hC i S' hJ
  by_cases hlt : i < rs.length
  · refine .inr ⟨wk.go i _ H' _ hlt (eD.trans e') t'.sto cS, fun H2 => ∃ M2 S2, Ext (M1 ++ [D]) (upd H1 D (.lst [])) M2 H2 ∧ Stt X.K M2 H2 S2 G σ ∧ J (i + 1) S2, fun H2 q => ⟨rs.length - (i + 1), by omega, ⟨rfl, by omega⟩, q⟩, fun x H2 y => ?_⟩
    have hri : rs[i]? = some rs[i] := List.getElem?_eq_getElem hlt
    obtain ⟨ey, sy, vy⟩ := wk.yl i _ H' _ x H2 _ hri (eD.trans e') t'.sto cS y
    have ty : Stt X.K M' H2 S' G σ := t'.mono ey sy
    have e2 := e'.trans ey
    obtain ⟨G', b, hb, hT, hy, hn⟩ := hs i _ S' hri hJ
    refine hg M' H2 S' (wipeG G (own.map fun (p : Str × Nat) => p.2)) G' (wipe σ (own.map fun (p : Str × Nat) => p.2)) x rs[i] _ (ty.wipe _) vy hb ?_
    intro σ2 t2 w2
    refine ⟨w2.trans (ww _ _ _ fun _ h => h), ?_⟩
    have fin : ∀ (M3 : List Addr) (H3 : Hp), Ext M' H2 M3 H3 → Stt X.K M3 H3 S' G' σ2 → (if b = true then tEl X scope elt σ2 H3 fun y H4 => ∃ acc, H4 D = some (.lst acc) ∧ acc.length < sizeLine ∧ ∃ M2 S2, Ext (M1 ++ [D]) (upd H1 D (.lst [])) M2 (upd H4 D (.lst (acc ++ [y]))) ∧ Stt X.K M2 (upd H4 D (.lst (acc ++ [y]))) S2 G σ ∧ J (i + 1) S2
        else ∃ M2 S2, Ext (M1 ++ [D]) (upd H1 D (.lst [])) M2 H3 ∧ Stt X.K M2 H3 S2 G σ ∧ J (i + 1) S2) := by
      intro M3 H3 e3 t3
      cases b with
      | false => exact iteF ⟨M3, S', e2.trans e3, ty.mono e3 t3.sto, hn rfl⟩
      | true =>
        refine iteT fun s0 H0 C cl fp => ?_
        obtain ⟨y, S3, acc, hE, hSn, hacc, hJ3⟩ := hy rfl
        refine hE s0 H0 C cl fp M3 σ2 H3 _ t3 fun v4 M4 H4 e4 t4 r4 => ?_
        have hD4 : M4[S1.length]? = some D := (e4.get (e3.get (e2.get hDn)))
        obtain ⟨vs4, hv4, hr4⟩ := t4.sto.rep _ _ _ hD4 hSn
        have e5 : Ext M4 H4 M4 (upd H4 D (.lst (vs4 ++ [v4]))) := Ext.put (List.mem_of_getElem? hD4)
        have s5 := t4.sto.put (w := .lst (acc ++ [y])) hD4 ⟨vs4 ++ [v4], upd_same, VReps.append (VReps.ext e5 hr4) (.cons (r4.ext e5) .nil)⟩
        refine ⟨vs4, hv4, by rw [hr4.len, sizeLine_eq]; omega, M4, _, ((e2.trans e3).trans e4).trans e5, ty.mono ((e3.trans e4).trans e5) s5, hJ3⟩
    intro s0 H0 C cl fp
    have hT' := hT s0 H0 C cl fp
    cases ifs with
    | nil =>
      have hb1 : b = true := hT'
      have f0 := fin M' H2 Ext.refl t2
      rw [hb1] at f0
      exact f0
    | cons tt r =>
      cases r with
      | nil => exact hT' M' σ2 H2 _ t2 fun M4 H4 e4 t4 => fin M4 H4 e4 t4
      | cons _ _ => exact hT'.elim
  · have ei : i = rs.length := by omega
    subst ei
    refine .inl ⟨wk.st _ _ H' _ (Nat.le_refl _) (eD.trans e') t'.sto cS, ?_⟩
    obtain rfl := hd S' hJ
    exact q (.ref D) M' H' (e1.trans (eD.trans e')) t' ⟨D, e'.get hDn, rfl⟩
theorem ev_lcO {l : Nat} (c : Cxo X W k) (ok : BlkOk X.N X.env.scope scope own) (h : LcOwn X scope own elt tg iter ifs G S l S2) (hf : ∀ x, foldedSetIterable iter X.env x = pure x := by intro _; rfl) : Ev X (.ListComp elt [⟨tg, iter, ifs, 0⟩] scope pos) G S (.o l) S2 := fun M σ H Q s q => by
  obtain ⟨wi, g, hpi, hpg, h⟩ := h.ex
  exact toE (pe_lc c.calm c.nd hpi ok hpg pts_tTs pe_tEl hf) (h M σ H Q s q)
end
/-! ### defs with defaults -/
section
variable {P : Program} {w : World} {K : PySem.W.Frag} {mg : Str → Option Value} {base : Heap} {x qual : Str} {params : Arguments} {body : List Stmt} {scope : Scope} {f C : Addr} {ps : List Str} {k : Nat} {F : Fn} {dvs : List V} {drs : List It}
/-- n arguments are told, of the defaults the last ones behind the j-th fill up -/
theorem okM_ofD (c : Cls K C) (m : Meth K C x f) (hd : ∃ fd, FunD K x qual params body scope dvs [] f fd) (n j : Nat) (hne : dvs ≠ []) (hn : n + (dvs.length - j) = ps.length)
    (hb : ∀ (T : Addr) (kV doc pm : Value) (an : Option Addr) (cdv ct : Value) (us its : List Value), us.length = n → its.length = dvs.length →
      ∃ k, bindArgs (PySem.W.fnOf x qual params body scope (.ref T) kV doc pm an cdv ct) ⟨us, []⟩ = seqItems? (.ref T) >>= k ∧ k (some its.toArray) = pure (ps.zip (us ++ its.drop j)))
    (hr : ∀ M H, VReps K M H (dvs.drop j) drs)
    (h : ∀ fd, FunD K x qual params body scope dvs [] f fd → FnOk P w K mg base (L2.CX P w) k f fd ps (spF K ps.length F)) : OkM P w K mg base k C x ps drs F := by
  obtain ⟨fd, Fd⟩ := hd
  obtain ⟨ds, h1, h2⟩ := Fd.binds1 n j hne hn hb
  exact ⟨f, fd, dvs.drop j, ds, c, m, h2, h1, hr, h fd Fd⟩
theorem okF_ofD (g : mg x = some (.ref f)) (hd : ∃ fd, FunD K x qual params body scope dvs [] f fd) (n j : Nat) (hne : dvs ≠ []) (hn : n + (dvs.length - j) = ps.length)
    (hb : ∀ (T : Addr) (kV doc pm : Value) (an : Option Addr) (cdv ct : Value) (us its : List Value), us.length = n → its.length = dvs.length →
      ∃ k, bindArgs (PySem.W.fnOf x qual params body scope (.ref T) kV doc pm an cdv ct) ⟨us, []⟩ = seqItems? (.ref T) >>= k ∧ k (some its.toArray) = pure (ps.zip (us ++ its.drop j)))
    (hr : ∀ M H, VReps K M H (dvs.drop j) drs) (hk : PySem.W.keepIn K (.ref f) = true)
    (h : ∀ fd, FunD K x qual params body scope dvs [] f fd → FnOk P w K mg base (L2.CX P w) k f fd ps (spF K ps.length F)) : OkF P w K mg base k x ps drs F := by
  obtain ⟨fd, Fd⟩ := hd
  obtain ⟨ds, h1, h2⟩ := Fd.binds1 n j hne hn hb
  exact ⟨f, fd, dvs.drop j, ds, g, hk, h2, h1, hr, h fd Fd⟩
theorem okC_ofD {y : Str} (g : mg y = some (.ref C)) (m : Mk K C f) (hd : ∃ fd, FunD K x qual params body scope dvs [] f fd) (n j : Nat) (hne : dvs ≠ []) (hn : n + (dvs.length - j) = ps.length)
    (hb : ∀ (T : Addr) (kV doc pm : Value) (an : Option Addr) (cdv ct : Value) (us its : List Value), us.length = n → its.length = dvs.length →
      ∃ k, bindArgs (PySem.W.fnOf x qual params body scope (.ref T) kV doc pm an cdv ct) ⟨us, []⟩ = seqItems? (.ref T) >>= k ∧ k (some its.toArray) = pure (ps.zip (us ++ its.drop j)))
    (hr : ∀ M H, VReps K M H (dvs.drop j) drs)
    (h : ∀ fd, FunD K x qual params body scope dvs [] f fd → FnOk P w K mg base (L2.CX P w) k f fd ps (spF K ps.length F)) : OkC P w K mg base k C y ps drs F := by
  obtain ⟨fd, Fd⟩ := hd
  obtain ⟨ds, h1, h2⟩ := Fd.binds1 n j hne hn hb
  exact ⟨f, fd, dvs.drop j, ds, g, m, h2, h1, hr, h fd Fd⟩
end
end Cu
/-! CuK: a list many times, parts of a store. -/
namespace Cu
open PySem PySem.Spec PyProof.Rows L2
def rRepR : R2 := fun x y H Q => ∃ l k xs, x = .ref l ∧ y = .int k ∧ Rd H l (.lst xs) ∧ -(2 ^ 63) ≤ k ∧ k < 2 ^ 63 ∧ xs.length * k.toNat ≤ sizeLine ∧
  ∀ p, H p = none → Q (.ref p) (upd H p (.lst (List.replicate k.toNat xs).flatten))
section
variable {X : Cx} {W : WX} {k j : Nat} {G G1 G2 : Gam} {S S1 S2 S3 : Sto} {P : Post} {e a b o iter tg elt : Expr} {es ifs : List Expr} {r y z r' : It} {rs : List It} {pos pos' p apos cpos tpos : Pos} {ds ds' : List PyData} {m n : Int}
theorem op_repR : OpR X (binaryOp .Mult) rRepR := by
  intro pins s σ H x y v u Q I rx ry h
  obtain ⟨l, k, xs, rfl, rfl, hH, h1, h2, hz, q⟩ := h
  cases rx
  obtain ⟨t, rfl⟩ := ry
  obtain ⟨z, its, n, r, e⟩ := hH.ok I.hok
  have hl : xs.length = its.length := r.length
  have hsz : its.toArray.size * k.toNat ≤ sizeLine := by rw [List.size_toArray, ← hl]; exact hz
  have hc1 : ¬ its.toArray.size * k.toNat > (2 ^ 63 - 1) / 8 := by
    have hq : (sizeLine : Nat) ≤ (2 ^ 63 - 1) / 8 := by decide
    omega
  have hc2 : ¬ (!Builtin.List.listFitsIndex k) = true := by rw [fitsIndex_both h1 h2]; decide
  have hc3 : ¬ Builtin.List.listTooLong (its.toArray.size * k.toNat) = true := by rw [notLongL hsz]; decide
  have fold : ∀ i : Nat, List.foldl (fun x1 x2 => x1 ++ x2) #[] (List.replicate i its.toArray) = (List.replicate i its).flatten.toArray := fun i => by
    have q := foldl_rep its i []
    rwa [List.nil_append] at q
  have hnew : List.foldl (fun x1 x2 => x1 ++ x2) #[] (List.replicate (if its.toArray.isEmpty = true then 0 else k.toNat) its.toArray) = (List.replicate k.toNat its).flatten.toArray := by
    rw [fold]
    cases its with
    | nil => simp
    | cons a r' => rw [if_neg (by simp)]
  have ty : s.TypeIs (.ref l) "list" := ⟨_, e, rfl⟩
  refine wpAny_binaryOp_repeat_ref (T := "list") (U := "int") (by decide) ty (fun s' => typeIs_int s' k t) noFill_list_mul F.fills_int_mul F.slot_int_rmul repeat_list F.slot_int_index.lookup ?_
  refine call_meets F.slot_int_rmul (typeIs_int s k t) F.entry_int_rmul (F.args_int_rmul_2 _ _) (int___rmul___int_list k t l its.toArray n) ⟨e, rfl, ty, ?_⟩
  refine call_meets F.slot_list_mul ty F.entry_list_mul (F.args_list_mul_2 _ _) (AutoListH.list___mul___list_int_3 l its.toArray n k t hc2 hc1 hc3) ⟨e, ?_⟩
  rw [hnew]
  refine ⟨.ref _, _, I.lnew (t' := s.toks) (r.rep k.toNat) ?_, rfl, q _ I.fresh⟩
  rw [PyProof.Rows.lm_len_rep_flat, Nat.mul_comm]
  exact hz
/-- xs * n, a datum -/
theorem ev_rep (ha : Ev X a G S r S1) (hb : Ev X b G S1 (.d (.int n)) S2) (hr : lsOf S2 r = some ds) (h1 : -(2 ^ 63) ≤ n) (h2 : n < 2 ^ 63) (hz : ds.length * n.toNat ≤ 1000000) : Ev X (.BinOp a .Mult b pos) G S (.d (.list (List.replicate n.toNat ds).flatten)) S2 := ev_op op_repR ha hb (fun M H v u Q s hv hu q => by
  obtain ⟨ad, xs, rfl, h3, h4⟩ := ls_rd s hv hr
  rw [vr_int hu]
  exact ⟨ad, n, xs, rfl, rfl, h3, h1, h2, by rw [fz_len h4, sizeLine_eq]; omega, fun p hp => q _ M _ (Ext.fresh hp) (s.fresh hp) (Fz.lst ⟨.inl upd_same, s.nin hp⟩ (FzAll.ext (Ext.fresh hp) (fz_rep h4 _)))⟩)
/-- xs * n, owned -/
theorem ev_repN (ha : Ev X a G S r S1) (hb : Ev X b G S1 (.d (.int n)) S2) (hr : lsOf S2 r = some ds) (h1 : -(2 ^ 63) ≤ n) (h2 : n < 2 ^ 63) (hz : ds.length * n.toNat ≤ 1000000) : Ev X (.BinOp a .Mult b pos) G S (.o S2.length) (S2 ++ [.lst (((List.replicate n.toNat ds).flatten).map .d)]) := ev_op op_repR ha hb (fun M H v u Q s hv hu q => by
  obtain ⟨ad, xs, rfl, h3, h4⟩ := ls_rd s hv hr
  rw [vr_int hu]
  refine ⟨ad, n, xs, rfl, rfl, h3, h1, h2, by rw [fz_len h4, sizeLine_eq]; omega, fun p hp => ?_⟩
  have e4 : Ext M H (M ++ [p]) (upd H p (.lst (List.replicate n.toNat xs).flatten)) := Ext.own hp
  have s4 := s.own (w := .lst (((List.replicate n.toNat ds).flatten).map .d)) hp ⟨_, upd_same, VReps.ext e4 (fz_reps (fz_rep h4 _))⟩
  exact q _ _ _ e4 s4 ⟨p, by rw [← s.len, List.getElem?_append_right (Nat.le_refl _), Nat.sub_self]; rfl, rfl⟩)
/-- xs + ys, owned -/
theorem ev_catN (ha : Ev X a G S r S1) (hb : Ev X b G S1 r' S2) (hr : lsOf S2 r = some ds) (hr' : lsOf S2 r' = some ds') (hz : ds.length + ds'.length ≤ 1000000) : Ev X (.BinOp a .Add b pos) G S (.o S2.length) (S2 ++ [.lst ((ds ++ ds').map .d)]) := ev_op op_catR ha hb (fun M H v u Q s hv hu q => by
  obtain ⟨ad, xs, rfl, h1, h2⟩ := ls_rd s hv hr
  obtain ⟨bd, ys, rfl, h3, h4⟩ := ls_rd s hu hr'
  refine ⟨_, _, _, _, rfl, rfl, h1, h3, by rw [fz_len h2, fz_len h4, sizeLine_eq]; omega, fun p hp => ?_⟩
  have e4 : Ext M H (M ++ [p]) (upd H p (.lst (xs ++ ys))) := Ext.own hp
  have s4 := s.own (w := .lst ((ds ++ ds').map .d)) hp ⟨_, upd_same, VReps.ext e4 (fz_reps (fz_app h2 h4))⟩
  exact q _ _ _ e4 s4 ⟨p, by rw [← s.len, List.getElem?_append_right (Nat.le_refl _), Nat.sub_self]; rfl, rfl⟩)
/-- a <= b <= c, a <= b < c of whole numbers -/
theorem ev_leLe {i l h : Int} {e3 : Expr} (ha : Ev X a G S (.d (.int l)) S1) (hb : Ev X b G S1 (.d (.int i)) S2) (hc : l ≤ i → Ev X e3 G S2 (.d (.int h)) S2) (hm : lastMarks [.LtE, .LtE] [b, e3] = false := by rfl) : Ev X (.Compare a [.LtE, .LtE] [b, e3] pos) G S (.d (.bool (decide (l ≤ i) && decide (i ≤ h)))) S2 :=
  ev_chain op_le op_le ha hb (rw_intB (f := fun i j => decide (i ≤ j))) (fun z => hc (of_decide_eq_true z)) (fun _ => rw_intB (f := fun i j => decide (i ≤ j))) hm
theorem ev_leLt {i l h : Int} {e3 : Expr} (ha : Ev X a G S (.d (.int l)) S1) (hb : Ev X b G S1 (.d (.int i)) S2) (hc : l ≤ i → Ev X e3 G S2 (.d (.int h)) S2) (hm : lastMarks [.LtE, .Lt] [b, e3] = false := by rfl) : Ev X (.Compare a [.LtE, .Lt] [b, e3] pos) G S (.d (.bool (decide (l ≤ i) && decide (i < h)))) S2 :=
  ev_chain op_le op_lt ha hb (rw_intB (f := fun i j => decide (i ≤ j))) (fun z => hc (of_decide_eq_true z)) (fun _ => rw_intB (f := fun i j => decide (i < j))) hm
theorem evt_leLe {i l h : Int} {e3 : Expr} (ha : Ev X a G S (.d (.int l)) S1) (hb : Ev X b G S1 (.d (.int i)) S2) (hc : l ≤ i → Ev X e3 G S2 (.d (.int h)) S2) (hm : lastMarks [.LtE, .LtE] [b, e3] = false := by rfl) : EvT X (.Compare a [.LtE, .LtE] [b, e3] pos) G S (decide (l ≤ i) && decide (i ≤ h)) S2 :=
  evt_chain op_le op_le ha hb (rw_intB (f := fun i j => decide (i ≤ j))) (fun z => hc (of_decide_eq_true z)) (fun _ => rw_intB (f := fun i j => decide (i ≤ j))) hm
theorem evt_leLt {i l h : Int} {e3 : Expr} (ha : Ev X a G S (.d (.int l)) S1) (hb : Ev X b G S1 (.d (.int i)) S2) (hc : l ≤ i → Ev X e3 G S2 (.d (.int h)) S2) (hm : lastMarks [.LtE, .Lt] [b, e3] = false := by rfl) : EvT X (.Compare a [.LtE, .Lt] [b, e3] pos) G S (decide (l ≤ i) && decide (i < h)) S2 :=
  evt_chain op_le op_lt ha hb (rw_intB (f := fun i j => decide (i ≤ j))) (fun z => hc (of_decide_eq_true z)) (fun _ => rw_intB (f := fun i j => decide (i < j))) hm
end
theorem atI_nat {α : Type} {xs : List α} {k : Nat} {i : Int} {d : α} (hi : i = k) (h : xs[k]? = some d) : atI xs i = some d := by
  subst hi
  have hk := (List.getElem?_eq_some_iff.mp h).1
  unfold atI ixN
  rw [if_pos (by omega), if_pos (by omega)]
  show xs[(k : Int).toNat]? = _
  rw [Int.toNat_natCast]; exact h
/-! ### parts of a store -/
/-- L stands in S from n on -/
def At (S : Sto) (n : Nat) (L : Sto) : Prop := n + L.length ≤ S.length ∧ ∀ j, j < L.length → S[n + j]? = L[j]?
/-- S with L from n on -/
def over (S : Sto) (n : Nat) (L : Sto) : Sto := S.take n ++ (L ++ S.drop (n + L.length))
theorem At.get {S : Sto} {n : Nat} {L : Sto} (h : At S n L) {j : Nat} {w : Own} (hj : L[j]? = some w) : S[n + j]? = some w := by
  rw [h.2 j (List.getElem?_eq_some_iff.mp hj).1]; exact hj
theorem At.get0 {S : Sto} {n : Nat} {w : Own} {L : Sto} (h : At S n (w :: L)) : S[n]? = some w := h.get (j := 0) rfl
theorem over_len {S : Sto} {n : Nat} {L : Sto} (h : n + L.length ≤ S.length) : (over S n L).length = S.length := by
  unfold over
  rw [List.length_append, List.length_append, List.length_take, List.length_drop]
  omega
theorem over_in {S : Sto} {n : Nat} {L : Sto} (h : n + L.length ≤ S.length) {j : Nat} (hj : j < L.length) : (over S n L)[n + j]? = L[j]? := by
  unfold over
  have hl : (S.take n).length = n := by rw [List.length_take]; omega
  rw [List.getElem?_append_right (by omega), hl, show n + j - n = j by omega, List.getElem?_append_left hj]
theorem over_out {S : Sto} {n : Nat} {L : Sto} (h : n + L.length ≤ S.length) {j : Nat} (hj : j < n ∨ n + L.length ≤ j) : (over S n L)[j]? = S[j]? := by
  unfold over
  have hl : (S.take n).length = n := by rw [List.length_take]; omega
  rcases hj with hj | hj
  · rw [List.getElem?_append_left (by omega), List.getElem?_take_of_lt hj]
  · rw [List.getElem?_append_right (by omega), hl, List.getElem?_append_right (by omega), List.getElem?_drop]
    congr 1
    omega
theorem At.over {S : Sto} {n : Nat} {L L' : Sto} (h : At S n L) (hl : L'.length = L.length) : At (over S n L') n L' := by
  have h1 : n + L'.length ≤ S.length := by rw [hl]; exact h.1
  exact ⟨by rw [over_len h1]; exact h1, fun j hj => over_in h1 hj⟩
theorem At.other {S : Sto} {n m : Nat} {L M : Sto} (h : n + L.length ≤ S.length) (hm : At S m M) (d : m + M.length ≤ n ∨ n + L.length ≤ m) : At (Cu.over S n L) m M := by
  refine ⟨by rw [over_len h]; exact hm.1, fun j hj => ?_⟩
  rw [over_out h (by omega)]
  exact hm.2 j hj
theorem sto_ext {A B : Sto} (h : ∀ j : Nat, A[j]? = B[j]?) : A = B := List.ext_getElem? h
theorem over_self {S : Sto} {n : Nat} {L : Sto} (h : At S n L) : over S n L = S := sto_ext fun j => by
  by_cases hj : n ≤ j ∧ j < n + L.length
  · obtain ⟨i, rfl⟩ := Nat.exists_eq_add_of_le hj.1
    rw [over_in h.1 (by omega), h.2 i (by omega)]
  · exact over_out h.1 (by omega)
theorem over_over {S : Sto} {n : Nat} {L L' : Sto} (h : n + L.length ≤ S.length) (hl : L'.length = L.length) : over (over S n L) n L' = over S n L' := sto_ext fun j => by
  have h1 : n + L'.length ≤ (over S n L).length := by rw [over_len h, hl]; exact h
  have h2 : n + L'.length ≤ S.length := by rw [hl]; exact h
  by_cases hj : n ≤ j ∧ j < n + L.length
  · obtain ⟨i, rfl⟩ := Nat.exists_eq_add_of_le hj.1
    rw [over_in h1 (by omega), over_in h2 (by omega)]
  · rw [over_out h1 (by omega), over_out h (by omega), over_out h2 (by omega)]
theorem set_over {S : Sto} {n : Nat} {L : Sto} (h : At S n L) {j : Nat} {w : Own} (hj : j < L.length) : S.set (n + j) w = over S n (L.set j w) := sto_ext fun i => by
  have hl : (L.set j w).length = L.length := List.length_set
  have h2 : n + (L.set j w).length ≤ S.length := by rw [hl]; exact h.1
  by_cases hi : n ≤ i ∧ i < n + L.length
  · obtain ⟨i, rfl⟩ := Nat.exists_eq_add_of_le hi.1
    rw [over_in h2 (by omega)]
    by_cases e : j = i
    · subst e
      have := h.1
      rw [List.getElem?_set_self hj, List.getElem?_set_self (by omega)]
    · rw [List.getElem?_set_ne e, List.getElem?_set_ne (by omega), h.2 i (by omega)]
  · rw [over_out h2 (by omega), List.getElem?_set_ne (by omega)]
theorem at_mid (A L T : Sto) : At (A ++ (L ++ T)) A.length L := by
  refine ⟨by rw [List.length_append, List.length_append]; omega, fun j hj => ?_⟩
  rw [List.getElem?_append_right (Nat.le_add_right _ _), Nat.add_sub_cancel_left, List.getElem?_append_left hj]
theorem at_end (A L : Sto) : At (A ++ L) A.length L := by
  have := at_mid A L []
  rwa [List.append_nil] at this
theorem At.app {S : Sto} {n : Nat} {L : Sto} (h : At S n L) (T : Sto) : At (S ++ T) n L := by
  have := h.1
  refine ⟨by rw [List.length_append]; omega, fun j hj => ?_⟩
  rw [List.getElem?_append_left (by omega)]
  exact h.2 j hj
theorem over_app {S : Sto} {n : Nat} {L : Sto} (h : n + L.length ≤ S.length) (T : Sto) : over (S ++ T) n L = over S n L ++ T := by
  unfold over
  rw [List.take_append_of_le_length (by omega), List.drop_append_of_le_length (by omega)]
  simp
theorem over_mid (A L L' T : Sto) (h : L'.length = L.length) : over (A ++ (L ++ T)) A.length L' = A ++ (L' ++ T) := by
  unfold over
  rw [List.take_left, h, ← List.append_assoc A L T, show A.length + L.length = (A ++ L).length by rw [List.length_append], List.drop_left]
theorem over_end (A L L' : Sto) (h : L'.length = L.length) : over (A ++ L) A.length L' = A ++ L' := by
  have := over_mid A L L' [] h
  rwa [List.append_nil, List.append_nil] at this
end Cu
/-! CuL: membership among data, slices of tuples. -/
namespace Cu
open PySem PySem.Spec PyProof.Rows L2
section
variable {X : Cx} {W : WX} {k j : Nat} {G G1 G2 : Gam} {S S1 S2 S3 : Sto} {P : Post} {e a b o iter tg elt : Expr} {es ifs : List Expr} {r y z r' : It} {rs : List It} {pos pos' p apos cpos tpos : Pos} {ds ds' : List PyData} {m n : Int}
theorem dp_list {K : PySem.W.Frag} {H : Hp} {M : List Addr} {a : Addr} {xs : List V} (h1 : Rd H a (.lst xs)) (h2 : FzAll M H xs ds) : Dp K H (.ref a) (.list ds) := .lst (.inl h1) (FzAll.dp h2)
theorem evt_inD {x : PyData} (c : Cxo X W k) (ha : Ev X a G S (.d x) S1) (hb : Ev X b G S1 r S2) (hr : lsOf S2 r = some ds) (hx : SeqAt.shaped x = true) (hd : SeqAt.shaped (.list ds) = true) (hm : behindInMarks .In b = false := by rfl) : EvT X (.Compare a [.In] [b] pos) G S (ds.any fun z => PyData.eqv z x) S2 := evt_cmp (op_inD (by have := c.hr.un; omega)) ha hb (fun M H v u Q s hv hw q => by
  obtain ⟨ad, xs, rfl, h1, h2⟩ := ls_rd s hw hr
  exact ⟨x, ds, Fz.dp hv, dp_list h1 h2, hx, hd, q _ M H Ext.refl s (Fz.bl _)⟩) hm
theorem evt_notInD {x : PyData} (c : Cxo X W k) (ha : Ev X a G S (.d x) S1) (hb : Ev X b G S1 r S2) (hr : lsOf S2 r = some ds) (hx : SeqAt.shaped x = true) (hd : SeqAt.shaped (.list ds) = true) (hm : behindInMarks .NotIn b = false := by rfl) : EvT X (.Compare a [.NotIn] [b] pos) G S (!ds.any fun z => PyData.eqv z x) S2 := evt_cmp (op_notInD (by have := c.hr.un; omega)) ha hb (fun M H v u Q s hv hw q => by
  obtain ⟨ad, xs, rfl, h1, h2⟩ := ls_rd s hw hr
  exact ⟨x, ds, Fz.dp hv, dp_list h1 h2, hx, hd, q _ M H Ext.refl s (Fz.bl _)⟩) hm
/-- t[lo:hi] of a tuple of data -/
theorem ev_slT {lo hi : Option Expr} {il ih : Option Int} {p2 : Pos} (ha : Ev X a G S (.d (.tuple ds)) S1) (hl : EvP X lo G S1 il) (hh : EvP X hi G S1 ih) (hw : ¬ (HT.sIx ds.length 0 il = 0 ∧ HT.sIx ds.length ds.length ih = ds.length)) : Ev X (.Subscript a (.Slice lo hi none p2) pos) G S (.d (.tuple (cutD ds il ih))) S1 := fun M σ H Q s q =>
  toE (pe_slice sl_tup pe_s po_tEP po_tEP) (ha M σ H _ s fun v M1 H1 e1 t1 r1 => hl.run t1 fun M2 H2 e2 t2 => hh.run t2 fun M3 H3 e3 t3 => by
    have r3 : Fz M3 H3 v (.tuple ds) := (r1.ext e2).ext e3
    cases r3 with
    | tup h1 h2 => exact ⟨_, _, rfl, h1.sq, by rw [fz_len h2]; exact hw, fun p hp => q _ M3 _ (((e1.trans e2).trans e3).trans (Ext.fresh hp)) (t3.fresh hp) (Fz.tup ⟨upd_same, t3.sto.nin hp⟩ (FzAll.ext (Ext.fresh hp) (fz_cut h2)))⟩)
end
end Cu
/-! CuM: and, or, whose parts change the store. -/
namespace Cu
open PySem PySem.Spec PyProof.Rows L2
section
variable {X : Cx} {W : WX} {k j : Nat} {G G1 G2 : Gam} {S S1 S2 S3 : Sto} {e a b : Expr} {es : List Expr} {r y z r' : It} {pos : Pos} {Qr : It → Sto → Prop} {Qx : Addr → Sto → Prop}
theorem ev_andT {d : It} (h : Ev X a G S (.d (.bool true)) S1) (h2 : Ev X (.BoolOp .And (b :: es) pos) G S1 d S2) : Ev X (.BoolOp .And (a :: b :: es) pos) G S d S2 := fun M σ H Q s q =>
  toE (pe_and pe_s pe_s) (h M σ H _ s fun v M1 H1 e1 s1 r1 => ⟨true, vr_bool r1, iteT (h2 M1 σ H1 _ s1 fun w M2 H2 e2 s2 r2 => q w M2 H2 (e1.trans e2) s2 r2)⟩)
theorem ev_andF (h : Ev X a G S (.d (.bool false)) S1) : Ev X (.BoolOp .And (a :: b :: es) pos) G S (.d (.bool false)) S1 := fun M σ H Q s q =>
  toE (pe_and pe_s pe_s) (h M σ H _ s fun v M1 H1 e1 s1 r1 => ⟨false, vr_bool r1, iteF (q _ M1 H1 e1 s1 (Fz.bl false))⟩)
theorem ev_orF {d : It} (h : Ev X a G S (.d (.bool false)) S1) (h2 : Ev X (.BoolOp .Or (b :: es) pos) G S1 d S2) : Ev X (.BoolOp .Or (a :: b :: es) pos) G S d S2 := fun M σ H Q s q =>
  toE (pe_or pe_s pe_s) (h M σ H _ s fun v M1 H1 e1 s1 r1 => ⟨false, vr_bool r1, iteF (h2 M1 σ H1 _ s1 fun w M2 H2 e2 s2 r2 => q w M2 H2 (e1.trans e2) s2 r2)⟩)
theorem evw_andT {d : Bool} (h : EvT X a G S true S1) (h2 : EvW X (.BoolOp .And (b :: es) pos) G S1 d S2) : EvW X (.BoolOp .And (a :: b :: es) pos) G S d S2 := fun M σ H Q s q =>
  toW (pw_and pt_s pw_s) (h M σ H _ s fun M1 H1 e1 s1 => iteT (h2 M1 σ H1 _ s1 fun M2 H2 e2 s2 => q M2 H2 (e1.trans e2) s2))
theorem evw_andF (h : EvT X a G S false S1) : EvW X (.BoolOp .And (a :: b :: es) pos) G S false S1 := fun M σ H Q s q =>
  toW (pw_and pt_s pw_s) (h M σ H _ s fun M1 H1 e1 s1 => iteF (q M1 H1 e1 s1))
theorem evw_orF {d : Bool} (h : EvT X a G S false S1) (h2 : EvW X (.BoolOp .Or (b :: es) pos) G S1 d S2) : EvW X (.BoolOp .Or (a :: b :: es) pos) G S d S2 := fun M σ H Q s q =>
  toW (pw_or pt_s pw_s) (h M σ H _ s fun M1 H1 e1 s1 => iteF (h2 M1 σ H1 _ s1 fun M2 H2 e2 s2 => q M2 H2 (e1.trans e2) s2))
theorem evw_orT (h : EvT X a G S true S1) : EvW X (.BoolOp .Or (a :: b :: es) pos) G S true S1 := fun M σ H Q s q =>
  toW (pw_or pt_s pw_s) (h M σ H _ s fun M1 H1 e1 s1 => iteT (q M1 H1 e1 s1))
theorem evx_one {op : BoolOp} (h : EvX X W a G S Qr Qx) : EvX X W (.BoolOp op [a] pos) G S Qr Qx := fun M σ H Q s h1 h2 => toE (pe_one pe_s) (h M σ H _ s h1 h2)
theorem evx_andT (h : Ev X a G S (.d (.bool true)) S1) (hx : EvX X W (.BoolOp .And (b :: es) pos) G S1 Qr Qx) : EvX X W (.BoolOp .And (a :: b :: es) pos) G S Qr Qx := fun M σ H Q s h1 h2 =>
  toE (pe_and pe_s pe_s) (h M σ H _ s fun v M1 H1 e1 s1 r1 => ⟨true, vr_bool r1, iteT (hx M1 σ H1 _ s1 (fun v M' H' r S' e2 => h1 v M' H' r S' (e1.trans e2)) (fun M' H' C S' e2 => h2 M' H' C S' (e1.trans e2)))⟩)
end
end Cu
/-! CuN: sorted that owns, list() that doesn't, == of lists owned or not, reversed, pop. -/
namespace Cu
open PySem PySem.Spec PyProof.Rows L2
section
variable {X : Cx} {W : WX} {k j : Nat} {G G1 G2 : Gam} {S S1 S2 S3 : Sto} {P : Post} {e a b o : Expr} {es : List Expr} {r y z r' : It} {rs : List It} {pos pos' p apos cpos : Pos} {ds ds' : List PyData} {m n : Int}
theorem ev_sortedN (c : Cxo X W k) (hm : X.mg "sorted" = none) (ha : Ev X a G S r S1) (hr : lsOf S1 r = some ds) (hal : PySem.W.AllAlike ds) (hso : PySem.W.Sortable ds) (hde : ∀ d ∈ ds, d.depth ≤ 60) (hg : Gl X "sorted" := by rfl) (he : starEach [a] X.env = (false, eval a X.env) :: starEach [] X.env := by rfl) : Ev X (.Call (.Name "sorted" p) [a] [] pos) G S (.o S1.length) (S1 ++ [.lst ((sortD ds).map .d)]) :=
  ev_blt (cr_sortD c.hr.units) hm (by decide +kernel) (eva_cons ha eva_nil he) (fun M H vs Q s hvs q => by
    obtain ⟨v, rfl, hv⟩ := vr1 hvs
    obtain ⟨ad, xs, rfl, h1, h2⟩ := ls_rd s hv hr
    refine ⟨ad, xs, ds, _, rfl, .inl h1, FzAll.dp h2, fz_pair h2, hal, hso, hde, fun ys p hp hn => ?_⟩
    have e4 : Ext M H (M ++ [p]) (upd H p (.lst ys)) := Ext.own hn
    have s4 := s.own (w := .lst ((sortD ds).map .d)) hn ⟨_, upd_same, VReps.ext e4 (fz_reps (fz_unpair hp))⟩
    exact q _ _ _ e4 s4 ⟨p, by rw [← s.len, List.getElem?_append_right (Nat.le_refl _), Nat.sub_self]; rfl, rfl⟩) hg (by decide) (by decide) he rfl
/-- list(xs): a new list that stays as it is -/
theorem ev_listF (hm : X.mg "list" = none) (ha : Ev X a G S r S1) (hr : lsOf S1 r = some ds) (hg : Gl X "list" := by rfl) (he : starEach [a] X.env = (false, eval a X.env) :: starEach [] X.env := by rfl) : Ev X (.Call (.Name "list" p) [a] [] pos) G S (.d (.list ds)) S1 := ev_ty call_list_of hm (by decide +kernel) (eva_cons ha eva_nil he) (fun M H vs Q s hvs q => by
  obtain ⟨v, rfl, hv⟩ := vr1 hvs
  obtain ⟨ad, xs, rfl, h1, h2⟩ := ls_rd s hv hr
  exact ⟨_, _, rfl, .inl (.inl h1), fun l hl => q _ M _ (Ext.fresh hl) (s.fresh hl) (Fz.lst ⟨.inl upd_same, s.nin hl⟩ (FzAll.ext (Ext.fresh hl) h2))⟩) hg (by decide) (by decide) he rfl
/-- list(xs): a new list that is owned -/
theorem ev_listO (hm : X.mg "list" = none) (ha : Ev X a G S r S1) (hr : lsOf S1 r = some ds) (hg : Gl X "list" := by rfl) (he : starEach [a] X.env = (false, eval a X.env) :: starEach [] X.env := by rfl) : Ev X (.Call (.Name "list" p) [a] [] pos) G S (.o S1.length) (S1 ++ [.lst (ds.map .d)]) := ev_ty call_list_of hm (by decide +kernel) (eva_cons ha eva_nil he) (fun M H vs Q s hvs q => by
  obtain ⟨v, rfl, hv⟩ := vr1 hvs
  obtain ⟨ad, xs, rfl, h1, h2⟩ := ls_rd s hv hr
  refine ⟨_, _, rfl, .inl (.inl h1), fun l hl => ?_⟩
  have e2 : Ext M H (M ++ [l]) (upd H l (.lst xs)) := Ext.own hl
  exact q _ _ _ e2 (s.own hl ⟨_, upd_same, VReps.ext e2 (fz_reps h2)⟩) ⟨l, by rw [← s.len, List.getElem?_append_right (Nat.le_refl _), Nat.sub_self]; rfl, rfl⟩) hg (by decide) (by decide) he rfl
theorem evt_neA (c : Cxo X W k) (ha : Ev X a G S r S1) (hb : Ev X b G S1 r' S2) (hr : lsOf S2 r = some ds) (hr' : lsOf S2 r' = some ds') (hx : SeqAt.shaped (.list ds) = true) (hy : SeqAt.shaped (.list ds') = true) : EvT X (.Compare a [.NotEq] [b] pos) G S (!PyData.eqv (.list ds) (.list ds')) S2 := evt_cmp (op_neD c.hr.units) ha hb (fun M H v u Q s hv hu q => by
  obtain ⟨ad, xs, rfl, h1, h2⟩ := ls_rd s hv hr
  obtain ⟨bd, ys, rfl, h3, h4⟩ := ls_rd s hu hr'
  exact ⟨_, _, dp_list h1 h2, dp_list h3 h4, hx, hy, q _ M H Ext.refl s (Fz.bl _)⟩)
theorem ev_eqA (c : Cxo X W k) (ha : Ev X a G S r S1) (hb : Ev X b G S1 r' S2) (hr : lsOf S2 r = some ds) (hr' : lsOf S2 r' = some ds') (hx : SeqAt.shaped (.list ds) = true) (hy : SeqAt.shaped (.list ds') = true) : Ev X (.Compare a [.Eq] [b] pos) G S (.d (.bool (PyData.eqv (.list ds) (.list ds')))) S2 := ev_cmp (op_eqD c.hr.units) ha hb (fun M H v u Q s hv hu q => by
  obtain ⟨ad, xs, rfl, h1, h2⟩ := ls_rd s hv hr
  obtain ⟨bd, ys, rfl, h3, h4⟩ := ls_rd s hu hr'
  exact ⟨_, _, dp_list h1 h2, dp_list h3 h4, hx, hy, q _ M H Ext.refl s (Fz.bl _)⟩)
theorem evt_eqA (c : Cxo X W k) (ha : Ev X a G S r S1) (hb : Ev X b G S1 r' S2) (hr : lsOf S2 r = some ds) (hr' : lsOf S2 r' = some ds') (hx : SeqAt.shaped (.list ds) = true) (hy : SeqAt.shaped (.list ds') = true) : EvT X (.Compare a [.Eq] [b] pos) G S (PyData.eqv (.list ds) (.list ds')) S2 := evt_cmp (op_eqD c.hr.units) ha hb (fun M H v u Q s hv hu q => by
  obtain ⟨ad, xs, rfl, h1, h2⟩ := ls_rd s hv hr
  obtain ⟨bd, ys, rfl, h3, h4⟩ := ls_rd s hu hr'
  exact ⟨_, _, dp_list h1 h2, dp_list h3 h4, hx, hy, q _ M H Ext.refl s (Fz.bl _)⟩)
end
end Cu
/-! CuO: extend by any list, pop. -/
namespace Cu
open PySem PySem.Spec PyProof.Rows L2
def rExtR : V → List V → Hp → VK → Prop := fun x vs H Q => ∃ l b xs zs, x = .ref l ∧ vs = [.ref b] ∧ H l = some (.lst xs) ∧ Rd H b (.lst zs) ∧ xs.length + zs.length ≤ sizeLine ∧ Q .non (upd H l (.lst (xs ++ zs)))
section
variable {X : Cx} {W : WX} {k j : Nat} {G G1 G2 : Gam} {S S1 S2 S3 : Sto} {P : Post} {e a b o : Expr} {es : List Expr} {r y z r' : It} {rs : List It} {pos pos' p apos cpos : Pos} {ds ds' : List PyData} {m n : Int}
theorem mt_extR : MtM X "list.extend" rExtR := by
  intro pins s σ H x vs v us Q I rx rv h
  obtain ⟨l, b, xs, zs, rfl, rfl, hH, hB, hz, q⟩ := h
  cases rx
  obtain ⟨u, rfl, ru⟩ := rv.one
  cases ru
  obtain ⟨z, its, n, r, hl, e⟩ := I.lstM hH
  obtain ⟨z2, its2, n2, r2, e2⟩ := hB.ok I.hok
  have hl2 : zs.length = its2.length := r2.length
  have hs1 : its2.toArray.size ≤ sizeLine := by rw [List.size_toArray]; omega
  have hs2 : its.toArray.size + its2.toArray.size ≤ sizeLine := by rw [List.size_toArray, List.size_toArray]; omega
  have hq : ¬ (!its.toArray.isEmpty && Builtin.List.listTooLong (its.toArray.size + its2.toArray.size)) = true := by rw [notLongL hs2, Bool.and_false]; decide
  have M := AutoSeq1.list_extend_list_list_0 l its.toArray n b its2.toArray n2 hq (by rw [List.size_toArray]; omega) (by omega)
  refine call_meets F.slot_list_extend ⟨_, e, rfl⟩ F.entry_list_extend (F.args_list_extend_2 _ _) M ⟨e, e2, ?_⟩
  have hlen : (xs ++ zs).length ≤ sizeLine := by rw [List.length_append]; omega
  exact ⟨.non, _, I.lset (its' := its ++ its2) hH e (by simp) (r.append r2) hlen, rfl, q⟩
/-- xs.extend(ys), ys any list of data -/
theorem ev_extA {i : Nat} {xs : List It} (ho : Ev X o G S (.o i) S1) (hi : S1[i]? = some (.lst xs)) (ha : Ev X e G S1 r S2) (hi2 : S2[i]? = some (.lst xs)) (hr : lsOf S2 r = some ds) (hz : xs.length + ds.length < 1000000) (hbase : attributeBase o "extend" X.env (eval o X.env) = eval o X.env := by rfl)
    (hfew : ((backTo cpos (starEach [e] X.env)).all (fun x => !x.1) && (backToKw cpos (keywordEach [] X.env)).all (fun x => x.1.isSome) && decide ([e].length + ([] : List Keyword).length + (if ([] : List Keyword).isEmpty then 0 else 1) < 30)) = true := by rfl)
    (hline : (apos.endLine == cpos.line) = true := by rfl) (hs : starEach [e] X.env = (false, eval e X.env) :: starEach [] X.env := by rfl) : Ev X (.Call (.Attribute o "extend" apos) [e] [] cpos) G S (.d .none) (S2.set i (.lst (xs ++ ds.map .d))) :=
  ev_bm PySem.F.plainAttrs_list PySem.F.slot_list_extend PySem.F.type_list_extend mt_extR ho (ty_own hi) (eva_cons ha eva_nil hs) (fun M H v vs Q s hv hvs q => by
    obtain ⟨u, rfl, hu⟩ := vr1 hvs
    obtain ⟨ad, had, rfl⟩ := hv
    obtain ⟨ws, e1, e2⟩ := s.rep i ad _ had hi2
    obtain ⟨bd, ys, rfl, h3, h4⟩ := ls_rd s hu hr
    have e3 : Ext M H M (upd H ad (.lst (ws ++ ys))) := Ext.put (List.mem_of_getElem? had)
    exact ⟨ad, bd, ws, ys, rfl, rfl, e1, h3, by rw [e2.len, fz_len h4, sizeLine_eq]; omega, q .non M _ e3 (s.put had ⟨_, upd_same, VReps.append (VReps.ext e3 e2) (VReps.ext e3 (fz_reps h4))⟩) Fz.non⟩) hbase hfew hline hs rfl
theorem reps_dropLast {K : PySem.W.Frag} {M : List Addr} {H : Hp} {vs : List V} {rs : List It} (h : VReps K M H vs rs) : VReps K M H vs.dropLast rs.dropLast := by
  induction h with
  | nil => exact .nil
  | cons a t ih =>
    cases t with
    | nil => exact .nil
    | cons b t => exact .cons a ih
/-- xs.pop() -/
theorem ev_pop {i : Nat} {xs : List It} {y : It} (ho : Ev X o G S (.o i) S1) (hi : S1[i]? = some (.lst xs)) (hy : xs[xs.length - 1]? = some y) (hbase : attributeBase o "pop" X.env (eval o X.env) = eval o X.env := by rfl) (hline : (apos.endLine == cpos.line) = true := by rfl) : Ev X (.Call (.Attribute o "pop" apos) [] [] cpos) G S y (S1.set i (.lst xs.dropLast)) :=
  ev_bm0 PySem.F.plainAttrs_list PySem.F.slot_list_pop PySem.F.type_list_pop mt_pop ho (ty_own hi) (fun M H v vs Q s hv hvs q => by
    cases hvs
    obtain ⟨ad, had, rfl⟩ := hv
    obtain ⟨ws, e1, e2⟩ := s.rep i ad _ had hi
    have hl := e2.len
    obtain ⟨u, hu1, hu2⟩ := reps_get e2 hy
    have e3 : Ext M H M (upd H ad (.lst ws.dropLast)) := Ext.put (List.mem_of_getElem? had)
    have hd := reps_dropLast e2
    exact ⟨ad, ws, u, rfl, rfl, e1, by rw [hl]; exact hu1, q u M _ e3 (s.put (w := .lst xs.dropLast) had ⟨_, upd_same, VReps.ext e3 hd⟩) (hu2.ext e3)⟩) hbase hline
end
end Cu
/-! CuP: pop(i). -/
namespace Cu
open PySem PySem.Spec PyProof.Rows L2
theorem reps_eraseIdx {K : PySem.W.Frag} {M : List Addr} {H : Hp} {vs : List V} {rs : List It} (h : VReps K M H vs rs) : ∀ i : Nat, VReps K M H (vs.eraseIdx i) (rs.eraseIdx i) := by
  induction h with
  | nil => intro i; exact .nil
  | cons a t ih =>
    intro i
    cases i with
    | zero => exact t
    | succ i => exact .cons a (ih i)
section
variable {X : Cx} {W : WX} {k j : Nat} {G G1 G2 : Gam} {S S1 S2 S3 : Sto} {P : Post} {e a b o : Expr} {es : List Expr} {r y z r' : It} {rs : List It} {pos pos' p apos cpos : Pos} {ds ds' : List PyData} {m n : Int}
/-- xs.pop(n), n from 0 on -/
theorem ev_popAt {i l : Nat} {xs : List It} {y : It} (ho : Ev X o G S (.o i) S1) (hi : S1[i]? = some (.lst xs)) (ha : Ev X e G S1 (.d (.int n)) S2) (hi2 : S2[i]? = some (.lst xs)) (hn : n = (l : Int)) (hz : l < 1000000) (hy : xs[l]? = some y) (hbase : attributeBase o "pop" X.env (eval o X.env) = eval o X.env := by rfl)
    (hfew : ((backTo cpos (starEach [e] X.env)).all (fun x => !x.1) && (backToKw cpos (keywordEach [] X.env)).all (fun x => x.1.isSome) && decide ([e].length + ([] : List Keyword).length + (if ([] : List Keyword).isEmpty then 0 else 1) < 30)) = true := by rfl)
    (hline : (apos.endLine == cpos.line) = true := by rfl) (hs : starEach [e] X.env = (false, eval e X.env) :: starEach [] X.env := by rfl) : Ev X (.Call (.Attribute o "pop" apos) [e] [] cpos) G S y (S2.set i (.lst (xs.eraseIdx l))) :=
  ev_bm PySem.F.plainAttrs_list PySem.F.slot_list_pop PySem.F.type_list_pop mt_popAt ho (ty_own hi) (eva_cons ha eva_nil hs) (fun M H v vs Q s hv hvs q => by
    obtain ⟨u, rfl, hu⟩ := vr1 hvs
    obtain ⟨ad, had, rfl⟩ := hv
    obtain ⟨ws, e1, e2⟩ := s.rep i ad _ had hi2
    obtain ⟨w, hw1, hw2⟩ := reps_get e2 hy
    have hl := e2.len
    have hlt := (List.getElem?_eq_some_iff.mp hy).1
    have e3 : Ext M H M (upd H ad (.lst (ws.eraseIdx l))) := Ext.put (List.mem_of_getElem? had)
    rw [vr_int hu]
    refine ⟨ad, ws, n, l, w, rfl, rfl, e1, by omega, by omega, ?_, hw1, q w M _ e3 (s.put (w := .lst (xs.eraseIdx l)) had ⟨_, upd_same, VReps.ext e3 (reps_eraseIdx e2 l)⟩) (hw2.ext e3)⟩
    subst hn
    refine (ixN_seq (j := l) ?_).1
    unfold ixN
    rw [if_pos (by omega), if_pos (by omega), Int.toNat_natCast]) hbase hfew hline hs rfl
end
end Cu
/-! CuQ: a statement whose ends join. -/
namespace Cu
open PySem PySem.Spec PyProof.Rows L2
section
variable {X : Cx} {W : WX} {k j : Nat} {G G1 G2 : Gam} {S S1 S2 S3 : Sto} {P : Post} {st : Stmt} {sts : List Stmt}
theorem ss_mid (J : Gam → Sto → Prop) (h : WS X W st G S { P with nx := J }) (h2 : ∀ G' S', J G' S' → WSs X W sts G' S' P) : WSs X W (st :: sts) G S P :=
  ss_cons fun M σ H D s m => h M σ H D s ⟨fun M' σ' H' G' S' e t q => m.nx M' σ' H' G' S' e t (h2 _ _ q), m.rt, m.bk, m.ct, m.xc⟩
end
end Cu
/-! CuR: dicts whose keys are tuples. -/
namespace Cu
open PySem PySem.Spec PyProof.Rows L2
/-! ### keys -/
def keyA : PyData → Option Key
  | .int i => some (.inl i)
  | .str x => some (.inr x)
  | _ => none
def keyL : List PyData → Option (List Key)
  | [] => some []
  | d :: ds => match keyA d, keyL ds with
    | some k, some ks => some (k :: ks)
    | _, _ => none
def keyD : PyData → Option (List Key)
  | .tuple ds => keyL ds
  | _ => none
theorem key_fz {M : List Addr} {H : Hp} : ∀ {ds : List PyData} {vs : List V} {ks : List Key}, keyL ds = some ks → FzAll M H vs ds → vs = ks.map kV
  | [], _, _, h, q => by cases h; cases q; rfl
  | d :: ds, _, ks, h, q => by
    cases q with
    | cons q1 q2 =>
      unfold keyL at h
      cases e1 : keyA d with
      | none => rw [e1] at h; cases h
      | some k =>
        cases e2 : keyL ds with
        | none => rw [e1, e2] at h; cases h
        | some ks' =>
          rw [e1, e2] at h
          cases h
          rw [List.map_cons, key_fz e2 q2]
          congr 1
          cases d with
          | int i => cases e1; cases q1; rfl
          | str x => cases e1; cases q1; rfl
          | _ => cases e1
theorem key_at {M : List Addr} {H : Hp} {v : V} {d : PyData} {ks : List Key} (h : keyD d = some ks) (q : Fz M H v d) : ∃ b, v = .ref b ∧ H b = some (.tup (ks.map kV)) ∧ b ∉ M := by
  cases d with
  | tuple ds =>
    cases q with
    | tup h1 h2 => exact ⟨_, rfl, by rw [← key_fz h h2]; exact h1.1, h1.2⟩
  | _ => cases h
/-! ### pairs -/
section
variable {κ : Type} [DecidableEq κ]
def valI (kvs : List (κ × It)) (k : κ) : Option It := (kvs.find? fun kv => decide (kv.1 = k)).map (·.2)
def putI (kvs : List (κ × It)) (k : κ) (v : It) : List (κ × It) := if kvs.any (fun kv => decide (kv.1 = k)) then kvs.map fun kv => if kv.1 = k then (kv.1, v) else kv else kvs ++ [(k, v)]
abbrev PRep (K : PySem.W.Frag) (M : List Addr) (H : Hp) : List (κ × V) → List (κ × It) → Prop := Paired fun p q => p.1 = q.1 ∧ VRep K M H p.2 q.2
variable {K : PySem.W.Frag} {M : List Addr} {H : Hp}
theorem prep_val {k : κ} : ∀ {ps : List (κ × V)} {kvs : List (κ × It)}, PRep K M H ps kvs → (valV ps k = none ∧ valI kvs k = none) ∨ ∃ v r, valV ps k = some v ∧ valI kvs k = some r ∧ VRep K M H v r
  | _, _, .nil => .inl ⟨rfl, rfl⟩
  | (p1, p2) :: ps, (q1, q2) :: kvs, .cons h t => by
    obtain ⟨e, h2⟩ := h
    have e : p1 = q1 := e
    subst e
    by_cases q : p1 = k
    · exact .inr ⟨p2, q2, valV_pos q, by simp [valI, List.find?_cons, q], h2⟩
    · rw [valV_neg q, show valI ((p1, q2) :: kvs) k = valI kvs k by simp [valI, List.find?_cons, q]]
      exact prep_val t
theorem prep_len {ps : List (κ × V)} {kvs : List (κ × It)} (h : PRep K M H ps kvs) : ps.length = kvs.length := Paired.length h
theorem prep_some {k : κ} {ps : List (κ × V)} {kvs : List (κ × It)} (h : PRep K M H ps kvs) : (valV ps k).isSome = (valI kvs k).isSome := by
  rcases prep_val (k := k) h with ⟨a, b⟩ | ⟨v, r, a, b, _⟩ <;> rw [a, b] <;> rfl
theorem prep_map {k : κ} {v : V} {r : It} (hv : VRep K M H v r) : ∀ {ps : List (κ × V)} {kvs : List (κ × It)}, PRep K M H ps kvs → PRep K M H (ps.map fun kv => if kv.1 = k then (kv.1, v) else kv) (kvs.map fun kv => if kv.1 = k then (kv.1, r) else kv)
  | _, _, .nil => .nil
  | (p1, p2) :: ps, (q1, q2) :: kvs, .cons h t => by
    obtain ⟨e, h2⟩ := h
    have e : p1 = q1 := e
    subst e
    rw [List.map_cons, List.map_cons]
    refine .cons ?_ (prep_map hv t)
    by_cases q : p1 = k
    · show (if p1 = k then (p1, v) else (p1, p2)).1 = (if p1 = k then (p1, r) else (p1, q2)).1 ∧ VRep K M H (if p1 = k then (p1, v) else (p1, p2)).2 (if p1 = k then (p1, r) else (p1, q2)).2
      rw [if_pos q, if_pos q]; exact ⟨rfl, hv⟩
    · show (if p1 = k then (p1, v) else (p1, p2)).1 = (if p1 = k then (p1, r) else (p1, q2)).1 ∧ VRep K M H (if p1 = k then (p1, v) else (p1, p2)).2 (if p1 = k then (p1, r) else (p1, q2)).2
      rw [if_neg q, if_neg q]; exact ⟨rfl, h2⟩
theorem prep_put {k : κ} {v : V} {r : It} {ps : List (κ × V)} {kvs : List (κ × It)} (h : PRep K M H ps kvs) (hv : VRep K M H v r) : PRep K M H (putK ps k v) (putI kvs k r) := by
  have e : ∀ kvs : List (κ × It), (kvs.any fun kv => decide (kv.1 = k)) = (valI kvs k).isSome := by
    intro kvs
    induction kvs with
    | nil => rfl
    | cons a t ih =>
      rw [List.any_cons, ih]
      unfold valI
      rw [List.find?_cons]
      by_cases q : a.1 = k
      · simp [q]
      · simp [q]
  unfold putK putI
  rw [valV_any, prep_some h, e]
  split
  · exact prep_map hv h
  · exact Paired.snoc h ⟨rfl, hv⟩
end
section
variable {X : Cx} {W : WX} {k j : Nat} {G G1 G2 : Gam} {S S1 S2 S3 : Sto} {P : Post} {e a b o : Expr} {es : List Expr} {r y z r' : It} {rs : List It} {pos pos' p apos cpos : Pos} {ds ds' : List PyData} {m n : Int} {i : Nat} {kd : PyData} {kk : List Key} {kvs : List (List Key × It)}
theorem u1 (c : Cxo X W k) : X.A.units + 1 < cLine := by have := c.hr.units; omega
/-- {} with tuples for keys -/
theorem ev_dNewT : Ev X (.Dict [] [] pos) G S (.o S.length) (S ++ [.dT []]) := fun M σ H Q s q =>
  toE pe_dnewT fun p hp => by
    have e2 : Ext M H (M ++ [p]) (upd H p (.dT [])) := Ext.own hp
    have s2 : StoreOk X.K (M ++ [p]) (upd H p (.dT [])) (S ++ [.dT []]) := s.sto.own hp ⟨[], upd_same, .nil⟩
    exact q _ _ _ e2 (s.mono e2 s2) ⟨p, by rw [← s.sto.len, List.getElem?_append_right (Nat.le_refl _), Nat.sub_self]; rfl, rfl⟩
/-- {} with whole numbers or texts for keys -/
theorem ev_dNewK : Ev X (.Dict [] [] pos) G S (.o S.length) (S ++ [.dK []]) := fun M σ H Q s q =>
  toE pe_dnewK fun p hp => by
    have e2 : Ext M H (M ++ [p]) (upd H p (.dK [])) := Ext.own hp
    have s2 : StoreOk X.K (M ++ [p]) (upd H p (.dK [])) (S ++ [.dK []]) := s.sto.own hp ⟨[], upd_same, .nil⟩
    exact q _ _ _ e2 (s.mono e2 s2) ⟨p, by rw [← s.sto.len, List.getElem?_append_right (Nat.le_refl _), Nat.sub_self]; rfl, rfl⟩
/-- the dict of a store -/
theorem dT_at {K : PySem.W.Frag} {M : List Addr} {H : Hp} {v : V} (s : StoreOk K M H S) (hv : VRep K M H v (.o i)) (hi : S[i]? = some (.dT kvs)) : ∃ a ps, v = .ref a ∧ M[i]? = some a ∧ H a = some (.dT ps) ∧ PRep K M H ps kvs := by
  obtain ⟨a, ha, rfl⟩ := hv
  obtain ⟨ps, h1, h2⟩ := s.rep _ a _ ha hi
  exact ⟨a, ps, rfl, ha, h1, h2⟩
theorem evt_dinT (c : Cxo X W k) (ha : Ev X a G S (.d kd) S1) (hb : Ev X b G S1 (.o i) S2) (hi : S2[i]? = some (.dT kvs)) (hk : keyD kd = some kk) (hm : behindInMarks .In b = false := by rfl) : EvT X (.Compare a [.In] [b] pos) G S (valI kvs kk).isSome S2 := fun M σ H Q s q =>
  toT (pt_cmp (pc_din (u1 c) pe_s pe_s) hm) (ha M σ H _ s fun v M1 H1 e1 s1 r1 => hb M1 σ H1 _ s1 fun u M2 H2 e2 s2 r2 => by
    obtain ⟨a, ps, rfl, _, h1, h2⟩ := dT_at s2.sto r2 hi
    obtain ⟨b, rfl, hb, _⟩ := key_at hk (r1.ext e2)
    exact ⟨a, valV ps kk, rfl, DGet.t h1 hb, _, rfl, by rw [prep_some h2]; exact q M2 H2 (e1.trans e2) s2⟩)
theorem evt_dnotinT (c : Cxo X W k) (ha : Ev X a G S (.d kd) S1) (hb : Ev X b G S1 (.o i) S2) (hi : S2[i]? = some (.dT kvs)) (hk : keyD kd = some kk) (hm : behindInMarks .NotIn b = false := by rfl) : EvT X (.Compare a [.NotIn] [b] pos) G S (!(valI kvs kk).isSome) S2 := fun M σ H Q s q =>
  toT (pt_cmp (pc_dnotin (u1 c) pe_s pe_s) hm) (ha M σ H _ s fun v M1 H1 e1 s1 r1 => hb M1 σ H1 _ s1 fun u M2 H2 e2 s2 r2 => by
    obtain ⟨a, ps, rfl, _, h1, h2⟩ := dT_at s2.sto r2 hi
    obtain ⟨b, rfl, hb, _⟩ := key_at hk (r1.ext e2)
    exact ⟨a, valV ps kk, rfl, DGet.t h1 hb, _, rfl, by rw [prep_some h2]; exact q M2 H2 (e1.trans e2) s2⟩)
theorem ev_dinT (c : Cxo X W k) (ha : Ev X a G S (.d kd) S1) (hb : Ev X b G S1 (.o i) S2) (hi : S2[i]? = some (.dT kvs)) (hk : keyD kd = some kk) (hm : behindInMarks .In b = false := by rfl) : Ev X (.Compare a [.In] [b] pos) G S (.d (.bool (valI kvs kk).isSome)) S2 := fun M σ H Q s q =>
  toE (pe_cmp (pc_din (u1 c) pe_s pe_s) hm) (ha M σ H _ s fun v M1 H1 e1 s1 r1 => hb M1 σ H1 _ s1 fun u M2 H2 e2 s2 r2 => by
    obtain ⟨a, ps, rfl, _, h1, h2⟩ := dT_at s2.sto r2 hi
    obtain ⟨b, rfl, hb, _⟩ := key_at hk (r1.ext e2)
    exact ⟨a, valV ps kk, rfl, DGet.t h1 hb, by rw [prep_some h2]; exact q _ M2 H2 (e1.trans e2) s2 (Fz.bl _)⟩)
theorem ev_dnotinT (c : Cxo X W k) (ha : Ev X a G S (.d kd) S1) (hb : Ev X b G S1 (.o i) S2) (hi : S2[i]? = some (.dT kvs)) (hk : keyD kd = some kk) (hm : behindInMarks .NotIn b = false := by rfl) : Ev X (.Compare a [.NotIn] [b] pos) G S (.d (.bool (!(valI kvs kk).isSome))) S2 := fun M σ H Q s q =>
  toE (pe_cmp (pc_dnotin (u1 c) pe_s pe_s) hm) (ha M σ H _ s fun v M1 H1 e1 s1 r1 => hb M1 σ H1 _ s1 fun u M2 H2 e2 s2 r2 => by
    obtain ⟨a, ps, rfl, _, h1, h2⟩ := dT_at s2.sto r2 hi
    obtain ⟨b, rfl, hb, _⟩ := key_at hk (r1.ext e2)
    exact ⟨a, valV ps kk, rfl, DGet.t h1 hb, by rw [prep_some h2]; exact q _ M2 H2 (e1.trans e2) s2 (Fz.bl _)⟩)
/-- d[k], there -/
theorem ev_dgetT (c : Cxo X W k) (ho : Ev X o G S (.o i) S1) (ha : Ev X a G S1 (.d kd) S2) (hi : S2[i]? = some (.dT kvs)) (hk : keyD kd = some kk) (hv : valI kvs kk = some r) (hs : NoSl a := by exact fun _ _ => rfl) : Ev X (.Subscript o a pos) G S r S2 := fun M σ H Q s q =>
  toE (pe_dget (u1 c) pe_s pe_s hs) (ho M σ H _ s fun v M1 H1 e1 s1 r1 => ha M1 σ H1 _ s1 fun u M2 H2 e2 s2 r2 => by
    obtain ⟨a, ps, rfl, _, h1, h2⟩ := dT_at s2.sto (r1.ext e2) hi
    obtain ⟨b, rfl, hb, _⟩ := key_at hk r2
    rcases prep_val (k := kk) h2 with ⟨_, z⟩ | ⟨v, r', h3, h4, h5⟩
    · rw [z] at hv; cases hv
    · rw [h4] at hv
      cases hv
      refine ⟨a, v, rfl, ?_, q _ M2 H2 (e1.trans e2) s2 h5⟩
      rw [← h3]
      exact DGet.t h1 hb)
/-- d[k] = e -/
theorem ws_dputT (c : Cxo X W k) (he : Ev X e G S r S1) (ho : Ev X o G S1 (.o i) S2) (ha : Ev X a G S2 (.d kd) S3) (hi : S3[i]? = some (.dT kvs)) (hk : keyD kd = some kk) (hz : kvs.length < 1000000) (q : P.nx G (S3.set i (.dT (putI kvs kk r))))
    (hs : swapsWith e (some (.Subscript o a pos')) pos.line X.env = pure false := by rfl) : WS X W (.Assign [.Subscript o a pos'] e pos) G S P := fun M σ H D s m =>
  toS (ps_dput (u1 c) pe_s pe_s pe_s hs) (he M σ H _ s fun v M1 H1 e1 s1 r1 => ho M1 σ H1 _ s1 fun u M2 H2 e2 s2 r2 => ha M2 σ H2 _ s2 fun w M3 H3 e3 s3 r3 => by
    obtain ⟨a, ps, rfl, ha, h1, h2⟩ := dT_at s3.sto (r2.ext e3) hi
    obtain ⟨b, rfl, hb, _⟩ := key_at hk r3
    have e4 : Ext M3 H3 M3 (upd H3 a (.dT (putK ps kk v))) := Ext.put (List.mem_of_getElem? ha)
    have s4 := s3.sto.put (w := .dT (putI kvs kk r)) ha ⟨putK ps kk v, upd_same, Paired.mapP (prep_put h2 (r1.ext (e2.trans e3))) fun _ _ z => ⟨z.1, z.2.ext e4⟩⟩
    refine ⟨a, _, rfl, DPut.t h1 hb (by rw [prep_len h2, sizeLine_eq]; omega), m.nx M3 σ _ G _ (((e1.trans e2).trans e3).trans e4) (s3.mono e4 s4) q⟩)
end
end Cu
/-! CuS: a dict written with one tuple key; sorted of a dict with tuple keys. -/
namespace Cu
open PySem PySem.Spec PyProof.Rows L2
section
variable {X : Cx}
/-- {k: v}, k a tuple -/
def tDisp1 (tk tv : TE) : TE := fun σ H Q => ∀ p, H p = none → tPairs [(tk, tv)] σ (upd H p (.dT [])) fun ps H2 => ∃ (k : List Key) (b : Addr) (v : V), ps = [(.ref b, v)] ∧ H2 p = some (.dT []) ∧ H2 b = some (.tup (k.map kV)) ∧ Q (.ref p) (upd H2 p (.dT [(k, v)]))
theorem pe_disp1 {ek ev : Expr} {pos : Pos} {tk tv : TE} (hu : X.A.units + 1 < cLine) (hk : PE X ek tk) (hv : PE X ev tv) : PE X (.Dict [some ek] [ev] pos) (tDisp1 tk tv) := by
  refine ⟨fun pins s σ H Q I q => ?_⟩
  have hn := I.hok.fresh (Nat.le_refl s.heap.objs.size)
  have I1 := I.laid (a := s.heap.objs.size) (o := .dT []) (h' := s.heap.push { cls := .type "dict", data := .dict #[] }) (t' := s.toks) (fun _ _ q => Heap.get?_push_of_some _ q) (Nat.le_refl _) (dt_empty s.heap I.big)
  have hsh := zip_pairTrees [some ek] [ev] X.env pos rfl rfl
  have hl := pairTrees_length [some ek] [ev] X.env pos rfl rfl
  rw [arm_eval_Dict, hsh, dictDisplay_pairs (pairTrees [some ek] [ev] X.env pos) (fun z => by rw [z] at hl; cases hl) (by rw [hl]; show 1 < 17; decide)]
  refine wpAny_bind (wpAny_standAt (wpAny_bind (wpAny_subDictH (knd := tupleKind (mixKind X.prog X.w)) (show X.A.units < cLine by omega) (by rw [hl]; show 1 ≤ 15; decide) ?_)))
  refine thn ((pps_cons hk hv pps_nil).run pins _ σ _ _ I1 (q _ hn)) fun ws s2 ⟨ps, H2, I2, rel, k, b, v, e, e0, eb, q2⟩ => ?_
  subst e
  cases rel with
  | @cons _ w2 _ _ h t =>
  cases t
  obtain ⟨u1, u2⟩ := w2
  obtain ⟨h1, h2⟩ := h
  cases (show u1 = Value.ref b from h1)
  obtain ⟨z, hd, xs, rel, dd⟩ := dt_of I2.hok e0
  cases rel
  refine ⟨[(k, b, u2)], ⟨rfl, rfl, key_of I2.hok eb, trivial⟩, dd, fun h' tk' dd' hs => ?_⟩
  refine wpAny_pure ⟨.ref s.heap.objs.size, upd H2 s.heap.objs.size (.dT [(k, v)]), ?_, rfl, q2⟩
  obtain ⟨q, es, ep, hq, h2', h3, h4, _, h5⟩ := dd'
  refine d_write I2 (by rw [e0]; exact True.intro) hs ⟨q, hq⟩ ⟨by rw [sizeLine_eq]; show 1 ≤ 16777216; decide, hd, [(k, b, u2)], .cons ⟨rfl, ?_, h2⟩ .nil, q, es, ep, hq, h2', h3, h4, h5⟩
  rw [upd_ne (ne_of eb e0 (fun z => nomatch z))]
  exact eb
end
section
variable {X : Cx} {W : WX} {k j : Nat} {G G1 G2 : Gam} {S S1 S2 S3 : Sto} {P : Post} {e a b o : Expr} {es : List Expr} {r y z r' : It} {rs : List It} {pos pos' p apos cpos : Pos} {ds ds' : List PyData} {m n : Int} {i : Nat} {kd : PyData} {kk : List Key} {kvs : List (List Key × It)}
/-- {k: v} -/
theorem ev_disp1 (c : Cxo X W k) (ha : Ev X a G (S ++ [.dT []]) (.d kd) (S ++ [.dT []])) (hb : Ev X b G (S ++ [.dT []]) r (S ++ [.dT []])) (hk : keyD kd = some kk) : Ev X (.Dict [some a] [b] pos) G S (.o S.length) (S ++ [.dT [(kk, r)]]) := fun M σ H Q s q =>
  toE (pe_disp1 (u1 c) pe_s pe_s) fun p hp => by
    have e2 : Ext M H (M ++ [p]) (upd H p (.dT [])) := Ext.own hp
    have s2 : StoreOk X.K (M ++ [p]) (upd H p (.dT [])) (S ++ [.dT []]) := s.sto.own hp ⟨[], upd_same, .nil⟩
    refine ha (M ++ [p]) σ _ _ (s.mono e2 s2) fun v M1 H1 e1 s1 r1 => hb M1 σ H1 _ s1 fun u M2 H2 e3 s3 r3 => ?_
    have e4 : Ext (M ++ [p]) (upd H p (.dT [])) M2 H2 := e1.trans e3
    have eM : M2 = M ++ [p] := by
      obtain ⟨L, eL⟩ := e4.pre
      have h1 := s3.sto.len
      rw [eL, List.length_append, List.length_append, List.length_append, s.sto.len] at h1
      have h2 : L.length = 0 := by
        have : [p].length = 1 := rfl
        have : [Own.dT []].length = 1 := rfl
        omega
      rw [eL, List.eq_nil_of_length_eq_zero h2, List.append_nil]
    subst eM
    have hn : (M ++ [p])[S.length]? = some p := by rw [← s.sto.len, List.getElem?_append_right (Nat.le_refl _), Nat.sub_self]; rfl
    have hS : (S ++ [Own.dT []])[S.length]? = some (.dT []) := by rw [List.getElem?_append_right (Nat.le_refl _), Nat.sub_self]; rfl
    obtain ⟨ps, h1, h2⟩ := s3.sto.rep _ p _ hn hS
    cases h2
    obtain ⟨b', rfl, hb', _⟩ := key_at hk (VRep.ext e3 r1)
    have e5 : Ext (M ++ [p]) H2 (M ++ [p]) (upd H2 p (.dT [(kk, u)])) := Ext.put (List.mem_of_getElem? hn)
    have s5 := s3.sto.put (w := .dT [(kk, r)]) hn ⟨[(kk, u)], upd_same, .cons ⟨rfl, r3.ext e5⟩ .nil⟩
    rw [List.set_append_right _ _ (Nat.le_refl _), Nat.sub_self] at s5
    exact ⟨kk, b', u, rfl, h1, hb', q _ _ _ ((e2.trans e4).trans e5) (s.mono ((e2.trans e4).trans e5) s5) ⟨p, hn, rfl⟩⟩
end
end Cu
/-! CuT: sorted of a dict with tuple keys. -/
namespace Cu
open PySem PySem.Spec PyProof.Rows L2
def keyB : Key → PyData
  | .inl i => .int i
  | .inr x => .str x
def keyU (ks : List Key) : PyData := .tuple (ks.map keyB)
theorem keyB_A {d : PyData} {k : Key} (h : keyA d = some k) : d = keyB k := by
  cases d with
  | int i => cases h; rfl
  | str x => cases h; rfl
  | _ => cases h
theorem keyL_B : ∀ {ds : List PyData} {ks : List Key}, keyL ds = some ks → ds = ks.map keyB
  | [], ks, h => by cases h; rfl
  | d :: ds, ks, h => by
    unfold keyL at h
    cases e1 : keyA d with
    | none => rw [e1] at h; cases h
    | some k =>
      cases e2 : keyL ds with
      | none => rw [e1, e2] at h; cases h
      | some ks' =>
        rw [e1, e2] at h
        cases h
        rw [List.map_cons, ← keyB_A e1, ← keyL_B e2]
theorem keyD_U {d : PyData} {ks : List Key} (h : keyD d = some ks) : d = keyU ks := by
  cases d with
  | tuple ds => unfold keyU; rw [← keyL_B h]
  | _ => cases h
theorem keyU_D (ks : List Key) : keyD (keyU ks) = some ks := by
  show keyL (ks.map keyB) = some ks
  induction ks with
  | nil => rfl
  | cons k ks ih =>
    rw [List.map_cons]
    unfold keyL
    rw [ih]
    cases k <;> rfl
theorem dpU {K : PySem.W.Frag} {H : Hp} {b : Addr} {ks : List Key} (h : H b = some (.tup (ks.map kV))) : Dp K H (.ref b) (keyU ks) := by
  refine .tup (.inl (.inl h)) ?_
  clear h
  induction ks with
  | nil => exact .nil
  | cons k ks ih =>
    rw [List.map_cons, List.map_cons]
    refine .cons ?_ ih
    cases k with
    | inl i => exact .int i
    | inr x => exact .str x
theorem readsB {h : Heap} {u : Value} {k : Key} {as : List Addr} (r : Reads h u (keyB k) as) : as = [] := by
  cases k with
  | inl i => cases r; rfl
  | inr x => cases r; rfl
theorem readsBs {h : Heap} : ∀ {ks : List Key} {us : List Value} {as : List Addr}, ReadsAll h us (ks.map keyB) as → as = []
  | [], _, _, r => by rw [List.map_nil] at r; cases r; rfl
  | k :: ks, _, _, r => by
    rw [List.map_cons] at r
    cases r with
    | cons h1 h2 => rw [readsB h1, readsBs h2]; rfl
theorem readsU {h : Heap} {u : Value} {ks : List Key} {as : List Addr} (r : Reads h u (keyU ks) as) : as = [] := by
  cases r with
  | tuple _ _ _ h4 => exact readsBs h4
def keysU {α : Type} (kvs : List (List Key × α)) : List PyData := kvs.map fun p => keyU p.1
/-! ### the keys of a dict are gathered; the heap has grown -/
section
variable {prog : Program} {w : World} {A : Around} {E : Value → Shared → Prop} {s : Shared} {T : String} {r d : Addr} {n : Nat} {Pv : Nat → Value → Prop} {Oh : Heap → Prop}
theorem gatherT {R : List Value → Shared → Prop} (src : PySem.W.KdlSrc prog w T r d n Pv Oh) (free : A.handled = none) (now : Oh s.heap) (few : n ≤ sizeLine)
    (next : ∀ (g : Heap) (c : Nat) (got : Array Value), (∀ b u, s.heap.get? b = some u → g.get? b = some u) → s.heap.objs.size < g.objs.size → ItemsOf Pv got n → R got.toList { s with heap := g, toks := c }) :
    wpAny (model prog w) A (collect (.ref r)) R E s := by
  have below := src.there _ now
  have base : (s.heap.push (seqObj "list" #[] 0)).get? s.heap.objs.size = some (seqObj "list" #[] 0) := Heap.get?_push_size _ rfl
  have fill := PySem.W.kdl_extend (A := A) (s := { s with heap := s.heap.push (seqObj "list" #[] 0) })
    (R := fun (q : Result) (t : Shared) => ∃ (g : Heap) (c : Nat) (got : Array Value) (e : Nat), (q = .ok (.ret (.ref s.heap.objs.size)) ∧ t = { s with heap := g, toks := c }) ∧
      (∀ b u, s.heap.get? b = some u → g.get? b = some u) ∧ (g.get? s.heap.objs.size = some (seqObj "list" got e) ∧ ItemsOf Pv got n))
    src free (src.keep _ _ now fun b _ u z => Heap.get?_push_of_some _ z) s.heap.objs.size (Nat.ne_of_gt below.1) (Nat.ne_of_gt below.2) (.ref s.heap.objs.size) 0 base
    (fun g c got e kept there all => ⟨g, c, got, e, ⟨rfl, rfl⟩, fun b u z => kept b u (Nat.ne_of_lt (Heap.lt_size z)) (Heap.get?_push_of_some _ z), there, all⟩) few
  unfold collect
  refine wpAny_bind (wpAny_runValue (codeAny_builtin entry_proto_collect' ?_))
  rw [PySem.Around.under_plainId PySem.F.plain_proto_collect _]
  refine wpAny_bind (m := newList []) (wpAny_newObj_type (wpAny_pure ⟨plainId_quiet PySem.F.plain_list_iadd _, codeAny_builtin entry_list_iadd' ?_⟩))
  rw [PySem.Around.under_plainId PySem.F.plain_list_iadd _]
  refine wpAny_mono (show wpAny _ A.in1 (Builtin.«list.__iadd__» { pos := [Value.ref s.heap.objs.size, Value.ref r] }) _ _ _ from fill) (fun fin t x => ?_) fun _ _ x => ?_
  · cases fin with
    | done f =>
      obtain ⟨g, c, got, e, ⟨q1, rfl⟩, kept, there, all⟩ := x
      cases q1
      exact wpAny_bind (m := load s.heap.objs.size) (wpAny_load there (wpAny_pure (next g c got kept (Heap.lt_size there) all)))
    | again c1 =>
      refine ⟨x.1, codeAny_mono x.2 fun q t y => ?_⟩
      obtain ⟨g, c, got, e, ⟨rfl, rfl⟩, kept, there, all⟩ := y
      exact wpAny_bind (m := load s.heap.objs.size) (wpAny_load there (wpAny_pure (next g c got kept (Heap.lt_size there) all)))
  · obtain ⟨_, _, _, _, ⟨z, _⟩, _⟩ := x
    cases z
end
/-- sorted of a dict with tuple keys -/
def rSortT : List V → Hp → VK → Prop := fun vs H Q => ∃ (d : Addr) (kvs : List (List Key × V)), vs = [V.ref d] ∧ Rd H d (.dT kvs) ∧ PySem.W.AllAlike (keysU kvs) ∧ PySem.W.Sortable (keysU kvs) ∧ (∀ d ∈ keysU kvs, d.depth ≤ 60) ∧
  ∀ (ys : List V) (p : Addr), Paired (fun v d => ∃ (b : Addr) (ks : List Key), v = .ref b ∧ d = keyU ks ∧ H b = some (.tup (ks.map kV))) ys ((keysU kvs).mergeSort (PySem.W.dataLe false id)) → H p = none → Q (.ref p) (upd H p (.lst ys))
theorem cr_sortT {X : Cx} (hc : X.calm = true) (hu : X.A.units + 64 < cLine) : CallR X (.builtin "sorted") rSortT := by
  intro pins s σ H vs us Q I r h
  obtain ⟨d, kvs, rfl, hd, hal, hso, hde, q⟩ := h
  rw [Vals.ref1 r]
  obtain ⟨z, hs, ks, pr, o, es, ep, ho, hx, hdt, he, hn⟩ := (show ObjOk X.prog X.w H s.heap d (.dT kvs) from hd.ok I.hok)
  have l1 : es.size = ks.length := size_of_entries he
  have l2 : kvs.length = ks.length := Paired.length pr
  have hz : es.size ≤ sizeLine := by omega
  refine Calls.call_function_entry kind_sorted plain_sorted entry_sorted (args_sorted1 _) ?_
  unfold Builtin.«sorted»
  refine wpAny_bind (m := checkCount "sorted" 1 1 _) (wpAny_pure ?_)
  refine wpAny_bind (gatherT (A := X.A.in1) (kdl_raw hs hx hdt) (I.ok.hd hc) ho hz fun h' tk acc hk hgt hacc => ?_)
  have ea : acc.toList = ks.map fun x => Value.ref x.2.1 := by
    refine List.ext_getElem? fun j => ?_
    rw [List.getElem?_map, Array.getElem?_toList]
    rcases Nat.lt_or_ge j es.size with hj | hj
    · have hj' : j < acc.size := by rw [hacc.1]; exact hj
      obtain ⟨en, hen, hv⟩ := hacc.2 j acc[j] (Array.getElem?_eq_getElem hj')
      have at_ := entry_at he j
      rw [hen, List.getElem?_eq_getElem (by omega : j < ks.length)] at at_
      rw [Array.getElem?_eq_getElem hj', List.getElem?_eq_getElem (by omega : j < ks.length), hv, Option.some.inj at_]
      rfl
    · rw [Array.getElem?_eq_none (by rw [hacc.1]; exact hj), List.getElem?_eq_none (by omega)]
      rfl
  have hlen : acc.toList.length = kvs.length := by rw [ea, List.length_map, l2]
  -- the keys' values and what they are
  have rel : ∀ {kvs : List (List Key × V)} {ks : List (List Key × Addr × Value)}, KT H kvs ks → Paired (fun v d => ∃ (b : Addr) (ks : List Key), v = .ref b ∧ d = keyU ks ∧ H b = some (.tup (ks.map kV))) (ks.map fun x => V.ref x.2.1) (keysU kvs) ∧ DpAll X.K H (ks.map fun x => V.ref x.2.1) (keysU kvs) ∧ Vals (ks.map fun x => V.ref x.2.1) (ks.map fun x => Value.ref x.2.1) := by
    intro kvs ks r
    induction r with
    | nil => exact ⟨.nil, .nil, .nil⟩
    | @cons p q ps qs h t ih =>
      obtain ⟨i1, i2, i3⟩ := ih
      exact ⟨.cons ⟨q.2.1, p.1, rfl, rfl, h.2.1⟩ i1, .cons (dpU h.2.1) i2, .cons rfl i3⟩
  obtain ⟨r1, r2, r3⟩ := rel pr
  rw [← ea] at r3
  have er0 := each_reads I r3 r2
  have hD : (h'.push { cls := .type "list", data := .seq acc.toList.toArray }).get? h'.objs.size = some (seqObj "list" acc.toList.toArray 0) := Heap.get?_push_size _ rfl
  have kp : ∀ b o, s.heap.get? b = some o → (h'.push { cls := .type "list", data := .seq acc.toList.toArray }).get? b = some o := fun b o e => Heap.get?_push_of_some _ (hk b o e)
  refine wpAny_bind (wpAny_newList ?_ (by rw [hlen]; exact z))
  have er : PySem.W.EachIs (fun v d => ∃ as, Reads (h'.push { cls := .type "list", data := .seq acc.toList.toArray }) v (id d) as ∧ h'.objs.size ∉ as) acc.toList (keysU kvs) := by
    have gen : ∀ {us : List Value} {ds : List PyData}, (∀ d ∈ ds, ∃ ks, d = keyU ks) → PySem.W.EachIs (fun u d => ∃ as, Reads s.heap u (id d) as) us ds → PySem.W.EachIs (fun v d => ∃ as, Reads (h'.push { cls := .type "list", data := .seq acc.toList.toArray }) v (id d) as ∧ h'.objs.size ∉ as) us ds := by
      intro us ds hds e
      induction e with
      | nil => exact .nil
      | @cons u d us ds a t ih =>
        obtain ⟨as, ra⟩ := a
        obtain ⟨ks, rfl⟩ := hds d List.mem_cons_self
        refine .cons ⟨as, PyProof.Rows.Reads.keeps (fun b o => kp b o) ra, ?_⟩ (ih fun d hd => hds d (List.mem_cons_of_mem _ hd))
        rw [readsU ra]; exact List.not_mem_nil
    refine gen (fun d hd => ?_) er0
    unfold keysU at hd
    obtain ⟨p, _, rfl⟩ := List.mem_map.mp hd
    exact ⟨_, rfl⟩
  refine wpAny_bind (wpAny_holding (PySem.W.list_sort_data (bs := keysU kvs) (enc := id) (s := { s with heap := h'.push { cls := .type "list", data := .seq acc.toList.toArray }, toks := tk }) hD (each_of r3 r1) er (by rw [List.map_id]; exact hal) (by rw [List.map_id]; exact hso) (by unfold keysU; rw [List.length_map]; exact z) (fun d hd => ?_) fun out h1 h2 => ?_))
  · have := hde d hd
    show X.A.units + 1 + 1 + d.depth < cLine
    omega
  · refine wpAny_pure ⟨_, rfl, ?_⟩
    obtain ⟨ys, hy, hyr⟩ := each_back h2
    obtain ⟨ep', he'⟩ := sortedHeap_at (out := out.toArray) hD
    have hlt : s.heap.objs.size ≤ h'.objs.size := Nat.le_of_lt hgt
    have hle : ys.length ≤ sizeLine := by rw [hy.length, h1]; unfold keysU; rw [List.length_map]; exact z
    refine ⟨.ref h'.objs.size, upd H h'.objs.size (.lst ys), I.laid (t' := tk) (fun b ob e => ?_) hlt ⟨hle, out, ep', hy, he'⟩, rfl, q ys _ hyr (I.hok.fresh hlt)⟩
    have hb := Heap.lt_size (hk b ob e)
    rw [sortedHeap_old (Nat.ne_of_lt hb) (by rw [size_push']; exact Nat.lt_succ_of_lt hb)]
    exact kp b ob e
/-- no owned object is a tuple of plain values -/
theorem no_tup {K : PySem.W.Frag} {M : List Addr} {H : Hp} {S : Sto} (s : StoreOk K M H S) {a : Addr} {xs : List V} (h : H a = some (.tup xs)) (hx : ∀ b, V.ref b ∉ xs) : a ∉ M := fun hm => by
  obtain ⟨n, hn⟩ := List.getElem?_of_mem hm
  obtain ⟨hl, _⟩ := List.getElem?_eq_some_iff.mp hn
  have hl' : n < S.length := by rw [← s.len]; exact hl
  have q := s.rep n a S[n] hn (List.getElem?_eq_getElem hl')
  revert q
  cases S[n] with
  | lst xs => rintro ⟨vs, e, _⟩; rw [h] at e; cases e
  | dT xs => rintro ⟨vs, e, _⟩; rw [h] at e; cases e
  | dK xs => rintro ⟨vs, e, _⟩; rw [h] at e; cases e
  | ins C fs => rintro ⟨dx, vs, e, _⟩; rw [h] at e; cases e
  | tup ys => rintro ⟨vs, e, _, b, hb⟩; rw [h] at e; cases e; exact hx b hb
  | lkT od ps kvs => rintro ⟨e, _⟩; rw [h] at e; cases e
  | lkK od ps kvs => rintro ⟨e, _⟩; rw [h] at e; cases e
  | tbl P q => rintro ⟨_, ps, e, _⟩; rw [h] at e; cases e
  | tblN P nm => rintro ⟨_, ps, e, _⟩; rw [h] at e; cases e
  | fn F cap => rintro ⟨e, _⟩; rw [h] at e; cases e
  | gone => rintro ⟨o, e, z⟩; rw [h] at e; cases e; exact z _ rfl
theorem fzU {M : List Addr} {H : Hp} {b : Addr} {ks : List Key} (h : H b = some (.tup (ks.map kV))) (hb : b ∉ M) : Fz M H (.ref b) (keyU ks) := by
  refine .tup ⟨h, hb⟩ ?_
  clear h
  induction ks with
  | nil => exact .nil
  | cons k ks ih =>
    rw [List.map_cons, List.map_cons]
    refine .cons ?_ ih
    cases k with
    | inl i => exact .int i
    | inr x => exact .str x
theorem prep_keys {K : PySem.W.Frag} {M : List Addr} {H : Hp} : ∀ {ps : List (List Key × V)} {kvs : List (List Key × It)}, PRep K M H ps kvs → keysU ps = keysU kvs
  | _, _, .nil => rfl
  | _, _, .cons h t => by
    unfold keysU
    rw [List.map_cons, List.map_cons, h.1]
    exact congrArg (_ :: ·) (prep_keys t)
section
variable {X : Cx} {W : WX} {k j : Nat} {G G1 G2 : Gam} {S S1 S2 S3 : Sto} {e a b o : Expr} {pos pos' p : Pos} {i : Nat} {kvs : List (List Key × It)}
theorem fz_rel {K : PySem.W.Frag} {M : List Addr} {H : Hp} {S : Sto} (s : StoreOk K M H S) : ∀ {ys : List V} {ds : List PyData}, Paired (fun v d => ∃ (b : Addr) (ks : List Key), v = .ref b ∧ d = keyU ks ∧ H b = some (.tup (ks.map kV))) ys ds → FzAll M H ys ds
  | _, _, .nil => .nil
  | _, _, .cons h t => by
    obtain ⟨b, ks, rfl, rfl, hb⟩ := h
    exact .cons (fzU hb (no_tup s hb fun b' hm => by obtain ⟨k, _, e⟩ := List.mem_map.mp hm; cases k <;> cases e)) (fz_rel s t)
/-- sorted(d), a list that stays as it is -/
theorem ev_sortedT (c : Cxo X W k) (hm : X.mg "sorted" = none) (ha : Ev X a G S (.o i) S1) (hi : S1[i]? = some (.dT kvs)) (hal : PySem.W.AllAlike (keysU kvs)) (hso : PySem.W.Sortable (keysU kvs)) (hde : ∀ d ∈ keysU kvs, d.depth ≤ 60) (hg : Gl X "sorted" := by rfl) (he : starEach [a] X.env = (false, eval a X.env) :: starEach [] X.env := by rfl) : Ev X (.Call (.Name "sorted" p) [a] [] pos) G S (.d (.list (sortD (keysU kvs)))) S1 :=
  ev_blt (cr_sortT c.calm c.hr.units) hm (by decide +kernel) (eva_cons ha eva_nil he) (fun M H vs Q s hvs q => by
    obtain ⟨v, rfl, hv⟩ := vr1 hvs
    obtain ⟨ad, ps, rfl, _, h1, h2⟩ := dT_at s hv hi
    have ek := prep_keys h2
    refine ⟨ad, ps, rfl, .inl h1, by rw [ek]; exact hal, by rw [ek]; exact hso, by rw [ek]; exact hde, fun ys p hp hn => ?_⟩
    rw [ek] at hp
    exact q _ M _ (Ext.fresh hn) (s.fresh hn) (Fz.lst ⟨.inl upd_same, s.nin hn⟩ (FzAll.ext (Ext.fresh hn) (fz_rel s hp)))) hg (by decide) (by decide) he rfl
/-- sorted(d), owned -/
theorem ev_sortedTN (c : Cxo X W k) (hm : X.mg "sorted" = none) (ha : Ev X a G S (.o i) S1) (hi : S1[i]? = some (.dT kvs)) (hal : PySem.W.AllAlike (keysU kvs)) (hso : PySem.W.Sortable (keysU kvs)) (hde : ∀ d ∈ keysU kvs, d.depth ≤ 60) (hg : Gl X "sorted" := by rfl) (he : starEach [a] X.env = (false, eval a X.env) :: starEach [] X.env := by rfl) : Ev X (.Call (.Name "sorted" p) [a] [] pos) G S (.o S1.length) (S1 ++ [.lst ((sortD (keysU kvs)).map .d)]) :=
  ev_blt (cr_sortT c.calm c.hr.units) hm (by decide +kernel) (eva_cons ha eva_nil he) (fun M H vs Q s hvs q => by
    obtain ⟨v, rfl, hv⟩ := vr1 hvs
    obtain ⟨ad, ps, rfl, _, h1, h2⟩ := dT_at s hv hi
    have ek := prep_keys h2
    refine ⟨ad, ps, rfl, .inl h1, by rw [ek]; exact hal, by rw [ek]; exact hso, by rw [ek]; exact hde, fun ys p hp hn => ?_⟩
    rw [ek] at hp
    have e2 : Ext M H (M ++ [p]) (upd H p (.lst ys)) := Ext.own hn
    exact q _ _ _ e2 (s.own (w := .lst ((sortD (keysU kvs)).map .d)) hn ⟨ys, upd_same, VReps.ext e2 (fz_reps (fz_rel s hp))⟩) ⟨p, by rw [← s.len, List.getElem?_append_right (Nat.le_refl _), Nat.sub_self]; rfl, rfl⟩) hg (by decide) (by decide) he rfl
end
end Cu
/-! CuU: a built-in of one argument that may raise, or whose answer is not told exactly. -/
namespace Cu
open PySem PySem.Spec PyProof.Rows L2
section
variable {X : Cx} {W : WX} {k j : Nat} {G G1 G2 : Gam} {S S1 S2 S3 : Sto} {e a b o : Expr} {pos pos' p : Pos} {i : Nat} {kvs : List (List Key × It)} {Qr Qr0 : It → Sto → Prop} {Qx : Addr → Sto → Prop}
theorem evx_blt {id : String} {nm : Str} {rr : List V → Hp → VK → Prop} (ho : CallR X (.builtin id) rr) (hm : X.mg nm = none) (hv : bootBuiltins nm = some (.builtin id)) (h : EvX X W a G S Qr0 Qx) (hr : ∀ r S', Qr0 r S' → ∃ z S2, RWC X rr [r] S' z S2 ∧ Qr z S2) (hg : Gl X nm := by rfl) (hn : nm ≠ "__name__" := by decide) (hdb : (nm == ("__debug__" : Str)) = false := by decide)
    (he : starEach [a] X.env = (false, eval a X.env) :: starEach [] X.env := by rfl) : EvX X W (.Call (.Name nm p) [a] [] pos) G S Qr Qx := fun M σ H Q s h1 h2 =>
  toE (pe_callB ho hg hm hv (pa_cons pe_s pa_nil he) hn hdb he rfl) (h M σ H _ s (fun v M1 H1 r S' e1 s1 r1 q1 => by
    obtain ⟨z, S2, hR, q2⟩ := hr r S' q1
    exact hR M1 H1 [v] _ s1.sto (.cons r1 .nil) fun w M2 H2 e2 s2 r2 => h1 w M2 H2 z S2 (e1.trans e2) (s1.mono e2 s2) r2 q2) h2)
theorem rwc_sortT (hi : S[i]? = some (.dT kvs)) (hal : PySem.W.AllAlike (keysU kvs)) (hso : PySem.W.Sortable (keysU kvs)) (hde : ∀ d ∈ keysU kvs, d.depth ≤ 60) : RWC X rSortT [.o i] S (.d (.list (sortD (keysU kvs)))) S := fun M H vs Q s hvs q => by
  obtain ⟨v, rfl, hv⟩ := vr1 hvs
  obtain ⟨ad, ps, rfl, _, h1, h2⟩ := dT_at s hv hi
  have ek := prep_keys h2
  refine ⟨ad, ps, rfl, .inl h1, by rw [ek]; exact hal, by rw [ek]; exact hso, by rw [ek]; exact hde, fun ys p hp hn => ?_⟩
  rw [ek] at hp
  exact q _ M _ (Ext.fresh hn) (s.fresh hn) (Fz.lst ⟨.inl upd_same, s.nin hn⟩ (FzAll.ext (Ext.fresh hn) (fz_rel s hp)))
theorem rwc_sortTN (hi : S[i]? = some (.dT kvs)) (hal : PySem.W.AllAlike (keysU kvs)) (hso : PySem.W.Sortable (keysU kvs)) (hde : ∀ d ∈ keysU kvs, d.depth ≤ 60) : RWC X rSortT [.o i] S (.o S.length) (S ++ [.lst ((sortD (keysU kvs)).map .d)]) := fun M H vs Q s hvs q => by
  obtain ⟨v, rfl, hv⟩ := vr1 hvs
  obtain ⟨ad, ps, rfl, _, h1, h2⟩ := dT_at s hv hi
  have ek := prep_keys h2
  refine ⟨ad, ps, rfl, .inl h1, by rw [ek]; exact hal, by rw [ek]; exact hso, by rw [ek]; exact hde, fun ys p hp hn => ?_⟩
  rw [ek] at hp
  have e2 : Ext M H (M ++ [p]) (upd H p (.lst ys)) := Ext.own hn
  exact q _ _ _ e2 (s.own (w := .lst ((sortD (keysU kvs)).map .d)) hn ⟨ys, upd_same, VReps.ext e2 (fz_reps (fz_rel s hp))⟩) ⟨p, by rw [← s.len, List.getElem?_append_right (Nat.le_refl _), Nat.sub_self]; rfl, rfl⟩
/-! ### what stands for a datum, by owned lists -/
mutual
theorem Den.dp {K : PySem.W.Frag} {M : List Addr} {H : Hp} {S : Sto} {n : Nat} (s : StoreOk K M H S) : ∀ {x : PyData} {r : It} {v : V}, Den n S r x → VRep K M H v r → Dp K H v x
  | .none, _, _, h, q => by cases h with | d => exact Fz.dp q
  | .bool _, _, _, h, q => by cases h with | d => exact Fz.dp q
  | .int _, _, _, h, q => by cases h with | d => exact Fz.dp q
  | .str _, _, _, h, q => by cases h with | d => exact Fz.dp q
  | .tuple ds, _, _, h, q => by
    cases h with
    | d => exact Fz.dp q
    | t h1 h2 h3 =>
      obtain ⟨a, ha, rfl⟩ := q
      obtain ⟨vs, e1, e2, _⟩ := s.rep _ a _ ha h2
      exact .tup (.inl (.inl e1)) (DenAll.dp s h3 e2)
  | .dict _, _, _, h, q => by cases h with | d => exact Fz.dp q
  | .list ds, _, _, h, q => by
    cases h with
    | d => exact Fz.dp q
    | l h1 h2 h3 =>
      obtain ⟨a, ha, rfl⟩ := q
      obtain ⟨vs, e1, e2⟩ := s.rep _ a _ ha h2
      exact .lst (.inl (.inl e1)) (DenAll.dp s h3 e2)
theorem DenAll.dp {K : PySem.W.Frag} {M : List Addr} {H : Hp} {S : Sto} {n : Nat} (s : StoreOk K M H S) : ∀ {xs : List PyData} {rs : List It} {vs : List V}, DenAll n S rs xs → VReps K M H vs rs → DpAll K H vs xs
  | [], _, _, h, q => by
    cases h
    cases q
    exact .nil
  | x :: xs, _, _, h, q => by
    cases h with
    | cons h1 h2 =>
      cases q with
      | cons q1 q2 => exact .cons (Den.dp s h1 q1) (DenAll.dp s h2 q2)
end
variable {r r' : It} {x y : PyData} {n n' : Nat} {ds : List PyData}
theorem evt_neDen (c : Cxo X W k) (ha : Ev X a G S r S1) (hb : Ev X b G S1 r' S2) (hr : Den n S2 r x) (hr' : Den n' S2 r' y) (hx : SeqAt.shaped x = true) (hy : SeqAt.shaped y = true) : EvT X (.Compare a [.NotEq] [b] pos) G S (!PyData.eqv x y) S2 := evt_cmp (op_neD c.hr.units) ha hb (fun M H v u Q s hv hu q => ⟨x, y, Den.dp s hr hv, Den.dp s hr' hu, hx, hy, q _ M H Ext.refl s (Fz.bl _)⟩)
theorem evt_eqDen (c : Cxo X W k) (ha : Ev X a G S r S1) (hb : Ev X b G S1 r' S2) (hr : Den n S2 r x) (hr' : Den n' S2 r' y) (hx : SeqAt.shaped x = true) (hy : SeqAt.shaped y = true) : EvT X (.Compare a [.Eq] [b] pos) G S (PyData.eqv x y) S2 := evt_cmp (op_eqD c.hr.units) ha hb (fun M H v u Q s hv hu q => ⟨x, y, Den.dp s hr hv, Den.dp s hr' hu, hx, hy, q _ M H Ext.refl s (Fz.bl _)⟩)
theorem evt_notinDen (c : Cxo X W k) (ha : Ev X a G S r S1) (hb : Ev X b G S1 r' S2) (hr : Den n S2 r x) (hr' : Den n' S2 r' (.list ds)) (hx : SeqAt.shaped x = true) (hd : SeqAt.shaped (.list ds) = true) (hm : behindInMarks .NotIn b = false := by rfl) : EvT X (.Compare a [.NotIn] [b] pos) G S (!ds.any fun z => PyData.eqv z x) S2 := evt_cmp (op_notInD (by have := c.hr.un; omega)) ha hb (fun M H v u Q s hv hw q => ⟨_, _, Den.dp s hr hv, Den.dp s hr' hw, hx, hd, q _ M H Ext.refl s (Fz.bl _)⟩) hm
/-- xs.append(e), e may raise -/
theorem evx_append {apos cpos : Pos} {xs : List It} (ho : Ev X o G S (.o i) S1) (hi : S1[i]? = some (.lst xs)) (ha : EvX X W e G S1 Qr0 Qx) (hq : ∀ r S2, Qr0 r S2 → S2[i]? = some (.lst xs) ∧ xs.length < 1000000 ∧ Qr (.d .none) (S2.set i (.lst (xs ++ [r])))) (hbase : attributeBase o "append" X.env (eval o X.env) = eval o X.env := by rfl)
    (hfew : ((backTo cpos (starEach [e] X.env)).all (fun x => !x.1) && (backToKw cpos (keywordEach [] X.env)).all (fun x => x.1.isSome) && decide ([e].length + ([] : List Keyword).length + (if ([] : List Keyword).isEmpty then 0 else 1) < 30)) = true := by rfl)
    (hline : (apos.endLine == cpos.line) = true := by rfl) (hs : starEach [e] X.env = (false, eval e X.env) :: starEach [] X.env := by rfl) : EvX X W (.Call (.Attribute o "append" apos) [e] [] cpos) G S Qr Qx := fun M σ H Q s h1 h2 =>
  toE (pe_bm PySem.F.plainAttrs_list PySem.F.slot_list_append PySem.F.type_list_append mt_append pe_s (pa_cons pe_s pa_nil hs) hbase hfew hline hs rfl) (ho M σ H _ s fun v M1 H1 e1 t1 r1 => ⟨ty_own hi M1 H1 v t1.sto r1, ha M1 σ H1 _ t1 (fun u M2 H2 r S2 e2 t2 r2 q2 => by
    obtain ⟨hi2, hz, q3⟩ := hq r S2 q2
    obtain ⟨ad, had, rfl⟩ := VRep.ext e2 r1
    obtain ⟨ws, e3, e4⟩ := t2.sto.rep i ad _ had hi2
    have e5 : Ext M2 H2 M2 (upd H2 ad (.lst (ws ++ [u]))) := Ext.put (List.mem_of_getElem? had)
    have s5 := t2.sto.put (w := .lst (xs ++ [r])) had ⟨_, upd_same, VReps.append (VReps.ext e5 e4) (.cons (r2.ext e5) .nil)⟩
    exact ⟨ad, ws, u, rfl, rfl, e3, by rw [e4.len, sizeLine_eq]; omega, h1 .non M2 _ (.d .none) _ ((e1.trans e2).trans e5) (t2.mono e5 s5) Fz.non q3⟩) fun M' H' C S' e3 t3 q => h2 M' H' C S' (e1.trans e3) t3 q⟩)
end
end Cu
/-! CuV: xs.clear(). -/
namespace Cu
open PySem PySem.Spec PyProof.Rows L2
section
variable {X : Cx} {G : Gam} {S S1 : Sto} {o : Expr} {apos cpos : Pos}
theorem ev_clear {i : Nat} {xs : List It} (ho : Ev X o G S (.o i) S1) (hi : S1[i]? = some (.lst xs)) (hbase : attributeBase o "clear" X.env (eval o X.env) = eval o X.env := by rfl) (hline : (apos.endLine == cpos.line) = true := by rfl) : Ev X (.Call (.Attribute o "clear" apos) [] [] cpos) G S (.d .none) (S1.set i (.lst [])) :=
  ev_bm0 PySem.F.plainAttrs_list PySem.F.slot_list_clear PySem.F.type_list_clear mt_clear ho (ty_own hi) (fun M H v vs Q s hv hvs q => by
    cases hvs
    obtain ⟨ad, had, rfl⟩ := hv
    obtain ⟨ws, e1, e2⟩ := s.rep i ad _ had hi
    have e3 : Ext M H M (upd H ad (.lst [])) := Ext.put (List.mem_of_getElem? had)
    exact ⟨ad, ws, rfl, rfl, e1, q .non M _ e3 (s.put (w := .lst []) had ⟨_, upd_same, .nil⟩) Fz.non⟩) hbase hline
end
end Cu
/-! CuW: list(reversed(xs)). -/
namespace Cu
open PySem PySem.Spec PyProof.Rows L2
section
variable {prog : Program} {w : World} {A : Around} {E : Value → Shared → Prop} {s : Shared} {it l S : Addr} {src : Array Value} {res : Value}
/-- an empty list takes what a reversed one yields -/
theorem revInto {R : Result → Shared → Prop} {e0 : Nat} (free : A.handled = none) (run : s.heap.IsRevIter it l ((src.size : Int) - 1)) (lst : s.heap.IsList l src) (apart : l ≠ it) (few : src.size ≤ sizeLine) (base : s.heap.get? S = some (seqObj "list" #[] e0)) (n1 : S ≠ it) (n2 : S ≠ l)
    (next : ∀ (g : Heap) (c : Nat) (got : Array Value) (e : Nat), (∀ b u, b ≠ S → b ≠ it → s.heap.get? b = some u → g.get? b = some u) → g.get? S = some (seqObj "list" got e) → ItemsOf (fun j v => src[src.size - 1 - j]? = some v) got src.size → R (.ok (.ret res)) { s with heap := g, toks := c }) :
    wpAny (model prog w) A.in1 (Builtin.List.listExtendWith (.ref S) (.ref it) res)
      (fun fin t => match fin with
        | .done f => R (.ok f) t
        | .again c => c.quiet = true ∧ codeAny (model prog w) A c R t) (fun e t => R (.error e) t) s := by
  have walk := (Walks.listRev (prog := prog) (w := w) (A := A.in1) free it l apart src).toS
  have ty := run.typeIs
  have off : S ∉ [it, l] := fun z => by
    rcases List.mem_cons.mp z with z | z
    · exact n1 z
    · exact n2 (List.mem_singleton.mp z)
  have diff : Builtin.List.listSameRef (.ref S) (.ref it) = false := by simp [Builtin.List.listSameRef, n1]
  unfold Builtin.List.listExtendWith
  refine wpAny_bind (wpAny_typeOf ty ?_)
  rw [if_neg (by rw [diff]; decide)]
  refine wpAny_bind (wpAny_pyIter_revIter run ?_)
  refine wpAny_bind (wpAny_holding ?_)
  unfold Builtin.List.listLengthHint
  refine wpAny_bind (wpAny_specialOf ty RT.nolen_lri ?_)
  refine wpAny_bind (m := specialOf (Value.ref it) (Str.ofString "__length_hint__")) (wpAny_specialOf ty RT.hint_lri ?_)
  generalize same : ("list_reverseiterator.__length_hint__" : String) = nm
  wp_delta
  rw [show splitId nm = some ("list_reverseiterator", "__length_hint__") from by rw [← same]; decide +kernel]
  subst same
  refine wpAny_bind (wpAny_isInstance (b := true) ty (by rw [isSubtype_type]; kernel_rfl) (wpAny_pure ?_))
  rw [if_neg (by decide)]
  refine wpAny_pure ⟨plainId_quiet PySem.F.plain_extend_loop _, codeAny_extend_loopS walk few _ off _ src.size 0 _ _ _ rfl (Nat.zero_le _) ⟨Nat.zero_le _, by rw [show ((src.size : Nat) : Int) - 1 - ((0 : Nat) : Int) = (src.size : Int) - 1 by omega]; exact run, lst⟩ base (ItemsOf.nil _) fun t got e mv there all => ?_⟩
  rw [Moved.eq_with mv]
  refine next t.heap t.toks got e (fun b u b1 b2 z => mv.heap b u (fun mem => ?_) z) there all
  rcases List.mem_cons.mp mem with q | q
  · exact b1 q
  · exact b2 (List.mem_singleton.mp q)
/-- list(it), it reversed(l) -/
theorem call_list_rev {Q : Value → Shared → Prop} (free : A.handled = none) (run : s.heap.IsRevIter it l ((src.size : Int) - 1)) (lst : s.heap.IsList l src) (apart : l ≠ it) (few : src.size ≤ sizeLine)
    (next : ∀ (g : Heap) (c : Nat) (got : Array Value) (e : Nat), (∀ b u, b ≠ it → s.heap.get? b = some u → g.get? b = some u) → g.get? s.heap.objs.size = some (seqObj "list" got e) → ItemsOf (fun j v => src[src.size - 1 - j]? = some v) got src.size → Q (.ref s.heap.objs.size) { s with heap := g, toks := c }) :
    wpAny (model prog w) A (call (.type "list") [.ref it]) Q E s := by
  have s1 : (s.heap.push (seqObj "list" #[] 0)).get? s.heap.objs.size = some (seqObj "list" #[] 0) := Heap.get?_push_size _ rfl
  have new1 : s.heap.objs.size ≠ it := by obtain ⟨o, ho, _⟩ := id run; exact Nat.ne_of_gt (Heap.lt_size ho)
  have new2 : s.heap.objs.size ≠ l := by obtain ⟨o, ho, _⟩ := id lst; exact Nat.ne_of_gt (Heap.lt_size ho)
  refine callType_codes (Q₁ := fun ob t => ob = .ref s.heap.objs.size ∧ t = { s with heap := s.heap.push (seqObj "list" #[] 0) }) PySem.F.called_list (PySem.F.typeCall_list_1 _) PySem.F.entry_list_init (code_list_new _ ⟨rfl, rfl⟩) ?_
  rintro _ _ ⟨rfl, rfl⟩
  refine ⟨⟨_, s1, rfl⟩, PySem.F.args_list_init_2 _ _, ?_⟩
  have up1 : ∀ b u, s.heap.get? b = some u → (s.heap.push (seqObj "list" #[] 0)).get? b = some u := fun b u z => Heap.get?_push_of_some _ z
  show wpAny _ _ (Builtin.List.listItems (.ref s.heap.objs.size) >>= fun old => Builtin.List.listUpdate (.ref s.heap.objs.size) (fun _ => #[]) >>= fun _ => letGo old.toList.reverse >>= fun _ => Builtin.List.listExtendWith (.ref s.heap.objs.size) (.ref it) .none) _ _ _
  refine wpAny_bind ?_
  unfold Builtin.List.listItems
  refine wpAny_bind (wpAny_seqItems s1 rfl (wpAny_pure (wpAny_bind (m := updateSeq s.heap.objs.size (fun _ => #[])) (wpAny_updateSeq s1 rfl (wpAny_bind (wpAny_letGo ?_))))))
  have s2 := Heap.get?_update_self (Obj.mapSeq (fun _ => (#[] : Array Value))) s1 rfl
  have up2 : ∀ b u, b ≠ s.heap.objs.size → s.heap.get? b = some u → ((s.heap.push (seqObj "list" #[] 0)).update s.heap.objs.size (Obj.mapSeq (fun _ => (#[] : Array Value)))).get? b = some u := fun b u nb z =>
    (Heap.get?_update_other _ _ (Ne.symm nb)).trans (up1 b u z)
  have run2 : ((s.heap.push (seqObj "list" #[] 0)).update s.heap.objs.size (Obj.mapSeq (fun _ => (#[] : Array Value)))).IsRevIter it l ((src.size : Int) - 1) := run.at fun o z => up2 it o new1.symm z
  have lst2 : ((s.heap.push (seqObj "list" #[] 0)).update s.heap.objs.size (Obj.mapSeq (fun _ => (#[] : Array Value)))).IsList l src := by
    obtain ⟨o, ho, h2⟩ := id lst
    exact ⟨o, up2 l o new2.symm ho, h2⟩
  refine revInto (A := A.in1) (s := { s with heap := (s.heap.push (seqObj "list" #[] 0)).update s.heap.objs.size (Obj.mapSeq (fun _ => (#[] : Array Value))) }) free run2 lst2 apart few s2 new1 new2 fun g c got e kept there all => ?_
  exact ⟨rfl, next g c got e (fun b u b2 z => kept b u (Nat.ne_of_lt (Heap.lt_size z)) b2 (up2 b u (Nat.ne_of_lt (Heap.lt_size z)) z)) there all⟩
end
section
variable {X : Cx}
def tListRev (K : PySem.W.Frag) (te : TE) : TE := fun σ H Q => te σ H fun v H1 => ∃ (a : Addr) (xs : List V), v = .ref a ∧ SqL K H1 a xs ∧ ∀ q, H1 q = none → Q (.ref q) (upd H1 q (.lst xs.reverse))
theorem pe_listRev {e : Expr} {te : TE} {p p2 pos pos2 : Pos} (hc : X.calm = true) (hg : Gl X "list") (hm : X.mg "list" = none) (hg2 : Gl X "reversed") (hm2 : X.mg "reversed" = none) (he : PE X e te) (hs : starEach [e] X.env = (false, eval e X.env) :: starEach [] X.env)
    (hs2 : starEach [.Call (.Name "reversed" p2) [e] [] pos2] X.env = (false, eval (.Call (.Name "reversed" p2) [e] [] pos2) X.env) :: starEach [] X.env) : PE X (.Call (.Name "list" p) [.Call (.Name "reversed" p2) [e] [] pos2] [] pos) (tListRev X.K te) := by
  refine ⟨fun pins s σ H Q I h => Call_ (ld_blt I hg hm (show bootBuiltins "list" = some (.type "list") by decide +kernel) (PyProof.Rows.callWith_type1 (args_cons (Call_ (ld_blt I hg2 hm2 PyProof.Rows.boot_reversed (PyProof.Rows.callWith_type1 (args_cons (thn (he.run pins s σ H _ I h) fun u s1 ⟨v, H1, I1, r1, a, xs, ev, hq, q⟩ => args_nil ?_) hs) hs rfl))) hs2) hs2 rfl))⟩
  subst ev
  obtain rfl : u = Value.ref a := r1
  obtain ⟨its, rv, p', hz⟩ := I1.list hq
  refine call_reversed_list p'.isList (args_nil ?_)
  have I2 : Inv X pins σ H1 { s1 with heap := s1.heap.push (revObj a ((its.toArray.size : Int) - 1)) } := I1.kept (t' := s1.toks) fun b o z => Heap.get?_push_of_some _ z
  obtain ⟨f0, f1, f2, f3, f4, f5⟩ := I1.fpOk (H' := H1) (b := s1.heap.objs.size) (Nat.le_refl _) (I1.hok.fresh (Nat.le_refl _))
  have hne : a ≠ s1.heap.objs.size := by obtain ⟨ol, hol, _⟩ := id p'.isList; exact Nat.ne_of_lt (Heap.lt_size hol)
  have sz : (s1.heap.push (revObj a ((its.toArray.size : Int) - 1))).objs.size = s1.heap.objs.size + 1 := size_push' _ _
  refine call_list_rev (s := { s1 with heap := s1.heap.push (revObj a ((its.toArray.size : Int) - 1)) }) (I1.ok.hd hc) ⟨_, Heap.get?_push_size _ rfl, rfl, rfl⟩ (p'.isList.push _) hne (by rw [List.size_toArray, ← rv.length]; exact hz) fun g c got e kept there all => ?_
  have fr : H1 (s1.heap.objs.size + 1) = none := I1.hok.fresh (Nat.le_succ _)
  refine ⟨.ref (s1.heap.push (revObj a ((its.toArray.size : Int) - 1))).objs.size, upd H1 (s1.heap.push (revObj a ((its.toArray.size : Int) - 1))).objs.size (.lst xs.reverse), ?_, rfl, q _ (by rw [sz]; exact fr)⟩
  have I3 : Inv X pins σ H1 { s1 with heap := s1.heap } := I1
  refine I1.laid (t' := c) (h' := g) (fun b u z => kept b u (Nat.ne_of_lt (Heap.lt_size z)) (Heap.get?_push_of_some _ z)) (by rw [sz]; exact Nat.le_succ _) ?_
  exact ⟨by rw [List.length_reverse]; exact hz, got.toList, e, RT.vals_rev rv all, by rw [Array.toArray_toList]; exact there⟩
end
theorem fz_rev {M : List Addr} {H : Hp} {ds : List PyData} {vs : List V} (h : FzAll M H vs ds) : FzAll M H vs.reverse ds.reverse := by
  induction ds generalizing vs with
  | nil => cases h; exact .nil
  | cons d ds ih =>
    cases h with
    | cons h1 h2 =>
      rw [List.reverse_cons, List.reverse_cons]
      exact fz_app (ih h2) (.cons h1 .nil)
section
variable {X : Cx} {W : WX} {k : Nat} {G : Gam} {S S1 : Sto} {a : Expr} {r : It} {p p2 pos pos2 : Pos} {ds : List PyData}
theorem ev_listRev (c : Cxo X W k) (hm : X.mg "list" = none) (hm2 : X.mg "reversed" = none) (ha : Ev X a G S r S1) (hr : lsOf S1 r = some ds) (hg : Gl X "list" := by rfl) (hg2 : Gl X "reversed" := by rfl) (hs : starEach [a] X.env = (false, eval a X.env) :: starEach [] X.env := by rfl)
    (hs2 : starEach [.Call (.Name "reversed" p2) [a] [] pos2] X.env = (false, eval (.Call (.Name "reversed" p2) [a] [] pos2) X.env) :: starEach [] X.env := by rfl) : Ev X (.Call (.Name "list" p) [.Call (.Name "reversed" p2) [a] [] pos2] [] pos) G S (.d (.list ds.reverse)) S1 := fun M σ H Q s q =>
  toE (pe_listRev c.calm hg hm hg2 hm2 pe_s hs hs2) (ha M σ H _ s fun v M1 H1 e1 t1 r1 => by
    obtain ⟨ad, xs, rfl, h1, h2⟩ := ls_rd t1.sto r1 hr
    exact ⟨ad, xs, rfl, .inl h1, fun p hp => q _ M1 _ (e1.trans (Ext.fresh hp)) (t1.fresh hp) (Fz.lst ⟨.inl upd_same, t1.sto.nin hp⟩ (FzAll.ext (Ext.fresh hp) (fz_rev h2)))⟩)
theorem ev_listRevN (c : Cxo X W k) (hm : X.mg "list" = none) (hm2 : X.mg "reversed" = none) (ha : Ev X a G S r S1) (hr : lsOf S1 r = some ds) (hg : Gl X "list" := by rfl) (hg2 : Gl X "reversed" := by rfl) (hs : starEach [a] X.env = (false, eval a X.env) :: starEach [] X.env := by rfl)
    (hs2 : starEach [.Call (.Name "reversed" p2) [a] [] pos2] X.env = (false, eval (.Call (.Name "reversed" p2) [a] [] pos2) X.env) :: starEach [] X.env := by rfl) : Ev X (.Call (.Name "list" p) [.Call (.Name "reversed" p2) [a] [] pos2] [] pos) G S (.o S1.length) (S1 ++ [.lst (ds.reverse.map .d)]) := fun M σ H Q s q =>
  toE (pe_listRev c.calm hg hm hg2 hm2 pe_s hs hs2) (ha M σ H _ s fun v M1 H1 e1 t1 r1 => by
    obtain ⟨ad, xs, rfl, h1, h2⟩ := ls_rd t1.sto r1 hr
    refine ⟨ad, xs, rfl, .inl h1, fun p hp => ?_⟩
    have e2 : Ext M1 H1 (M1 ++ [p]) (upd H1 p (.lst xs.reverse)) := Ext.own hp
    exact q _ _ _ (e1.trans e2) (t1.mono e2 (t1.sto.own (w := .lst (ds.reverse.map .d)) hp ⟨_, upd_same, VReps.ext e2 (fz_reps (fz_rev h2))⟩)) ⟨p, by rw [← t1.sto.len, List.getElem?_append_right (Nat.le_refl _), Nat.sub_self]; rfl, rfl⟩)
end
end Cu
/-! CuX: texts: split, startswith, endswith, strip of signs, slices, int; all of truths. -/
namespace Cu
open PySem PySem.Spec PyProof.Rows L2
theorem fz_strL {M : List Addr} {H : Hp} : ∀ (xs : List Str), FzAll M H (xs.map V.str) (xs.map .str)
  | [] => .nil
  | x :: xs => .cons (.str x) (fz_strL xs)
section
variable {X : Cx} {W : WX} {k : Nat} {G : Gam} {S S1 S2 : Sto} {a b o e : Expr} {r : It} {p pos apos cpos p2 : Pos} {ds : List PyData} {x y : Str} {n : Int}
theorem ev_split (ho : Ev X o G S (.d (.str x)) S1) (ha : Ev X e G S1 (.d (.str y)) S2) (h0 : (y.length == 0) = false) (hz : x.length ≤ 1000000) (hbase : attributeBase o "split" X.env (eval o X.env) = eval o X.env := by rfl)
    (hfew : ((backTo cpos (starEach [e] X.env)).all (fun x => !x.1) && (backToKw cpos (keywordEach [] X.env)).all (fun x => x.1.isSome) && decide ([e].length + ([] : List Keyword).length + (if ([] : List Keyword).isEmpty then 0 else 1) < 30)) = true := by rfl)
    (hline : (apos.endLine == cpos.line) = true := by rfl) (hs : starEach [e] X.env = (false, eval e X.env) :: starEach [] X.env := by rfl) : Ev X (.Call (.Attribute o "split" apos) [e] [] cpos) G S (.d (.list ((Txt.split x y).map .str))) S2 :=
  ev_bm PySem.F.plainAttrs_str PySem.F.slot_str_split PySem.F.type_str_split mt_split ho ty_str (eva_cons ha eva_nil hs) (fun M H v vs Q s hv hvs q => by
    obtain ⟨u, rfl, hu⟩ := vr1 hvs
    exact ⟨x, y, vr_str hv, by rw [vr_str hu], h0, by rw [sizeLine_eq]; omega, fun p hp => q _ M _ (Ext.fresh hp) (s.fresh hp) (Fz.lst ⟨.inl upd_same, s.nin hp⟩ (fz_strL _))⟩) hbase hfew hline hs rfl
theorem ev_splitN (ho : Ev X o G S (.d (.str x)) S1) (ha : Ev X e G S1 (.d (.str y)) S2) (h0 : (y.length == 0) = false) (hz : x.length ≤ 1000000) (hbase : attributeBase o "split" X.env (eval o X.env) = eval o X.env := by rfl)
    (hfew : ((backTo cpos (starEach [e] X.env)).all (fun x => !x.1) && (backToKw cpos (keywordEach [] X.env)).all (fun x => x.1.isSome) && decide ([e].length + ([] : List Keyword).length + (if ([] : List Keyword).isEmpty then 0 else 1) < 30)) = true := by rfl)
    (hline : (apos.endLine == cpos.line) = true := by rfl) (hs : starEach [e] X.env = (false, eval e X.env) :: starEach [] X.env := by rfl) : Ev X (.Call (.Attribute o "split" apos) [e] [] cpos) G S (.o S2.length) (S2 ++ [.lst (((Txt.split x y).map PyData.str).map .d)]) :=
  ev_bm PySem.F.plainAttrs_str PySem.F.slot_str_split PySem.F.type_str_split mt_split ho ty_str (eva_cons ha eva_nil hs) (fun M H v vs Q s hv hvs q => by
    obtain ⟨u, rfl, hu⟩ := vr1 hvs
    refine ⟨x, y, vr_str hv, by rw [vr_str hu], h0, by rw [sizeLine_eq]; omega, fun p hp => ?_⟩
    have e2 : Ext M H (M ++ [p]) (upd H p (.lst ((Txt.split x y).map V.str))) := Ext.own hp
    exact q _ _ _ e2 (s.own (w := .lst (((Txt.split x y).map PyData.str).map .d)) hp ⟨_, upd_same, fz_reps (fz_strL _)⟩) ⟨p, by rw [← s.len, List.getElem?_append_right (Nat.le_refl _), Nat.sub_self]; rfl, rfl⟩) hbase hfew hline hs rfl
theorem ev_startswith (ho : Ev X o G S (.d (.str x)) S1) (ha : Ev X e G S1 (.d (.str y)) S2) (hbase : attributeBase o "startswith" X.env (eval o X.env) = eval o X.env := by rfl)
    (hfew : ((backTo cpos (starEach [e] X.env)).all (fun x => !x.1) && (backToKw cpos (keywordEach [] X.env)).all (fun x => x.1.isSome) && decide ([e].length + ([] : List Keyword).length + (if ([] : List Keyword).isEmpty then 0 else 1) < 30)) = true := by rfl)
    (hline : (apos.endLine == cpos.line) = true := by rfl) (hs : starEach [e] X.env = (false, eval e X.env) :: starEach [] X.env := by rfl) : Ev X (.Call (.Attribute o "startswith" apos) [e] [] cpos) G S (.d (.bool (Txt.startswith x y))) S2 :=
  ev_bm PySem.F.plainAttrs_str PySem.F.slot_str_startswith PySem.F.type_str_startswith mt_startswith ho ty_str (eva_cons ha eva_nil hs) (fun M H v vs Q s hv hvs q => by
    obtain ⟨u, rfl, hu⟩ := vr1 hvs
    exact ⟨x, y, vr_str hv, by rw [vr_str hu], q _ M H Ext.refl s (Fz.bl _)⟩) hbase hfew hline hs rfl
theorem ev_endswith (ho : Ev X o G S (.d (.str x)) S1) (ha : Ev X e G S1 (.d (.str y)) S2) (hbase : attributeBase o "endswith" X.env (eval o X.env) = eval o X.env := by rfl)
    (hfew : ((backTo cpos (starEach [e] X.env)).all (fun x => !x.1) && (backToKw cpos (keywordEach [] X.env)).all (fun x => x.1.isSome) && decide ([e].length + ([] : List Keyword).length + (if ([] : List Keyword).isEmpty then 0 else 1) < 30)) = true := by rfl)
    (hline : (apos.endLine == cpos.line) = true := by rfl) (hs : starEach [e] X.env = (false, eval e X.env) :: starEach [] X.env := by rfl) : Ev X (.Call (.Attribute o "endswith" apos) [e] [] cpos) G S (.d (.bool (Txt.endswith x y))) S2 :=
  ev_bm PySem.F.plainAttrs_str PySem.F.slot_str_endswith PySem.F.type_str_endswith mt_endswith ho ty_str (eva_cons ha eva_nil hs) (fun M H v vs Q s hv hvs q => by
    obtain ⟨u, rfl, hu⟩ := vr1 hvs
    exact ⟨x, y, vr_str hv, by rw [vr_str hu], q _ M H Ext.refl s (Fz.bl _)⟩) hbase hfew hline hs rfl
theorem ev_stripC (ho : Ev X o G S (.d (.str x)) S1) (ha : Ev X e G S1 (.d (.str y)) S2) (hz : x.length ≤ 1000000) (hbase : attributeBase o "strip" X.env (eval o X.env) = eval o X.env := by rfl)
    (hfew : ((backTo cpos (starEach [e] X.env)).all (fun x => !x.1) && (backToKw cpos (keywordEach [] X.env)).all (fun x => x.1.isSome) && decide ([e].length + ([] : List Keyword).length + (if ([] : List Keyword).isEmpty then 0 else 1) < 30)) = true := by rfl)
    (hline : (apos.endLine == cpos.line) = true := by rfl) (hs : starEach [e] X.env = (false, eval e X.env) :: starEach [] X.env := by rfl) : Ev X (.Call (.Attribute o "strip" apos) [e] [] cpos) G S (.d (.str (Txt.stripChars x y))) S2 :=
  ev_bm PySem.F.plainAttrs_str PySem.F.slot_str_strip PySem.F.type_str_strip mt_stripChars ho ty_str (eva_cons ha eva_nil hs) (fun M H v vs Q s hv hvs q => by
    obtain ⟨u, rfl, hu⟩ := vr1 hvs
    exact ⟨x, y, vr_str hv, by rw [vr_str hu], by rw [sizeLine_eq]; omega, q _ M H Ext.refl s (Fz.str _)⟩) hbase hfew hline hs rfl
/-- x[lo:hi] of a text -/
theorem ev_slS {lo hi : Option Expr} {il ih : Option Int} (ha : Ev X a G S (.d (.str x)) S1) (hl : EvP X lo G S1 il) (hh : EvP X hi G S1 ih) (hz : x.length ≤ 1000000) : Ev X (.Subscript a (.Slice lo hi none p2) pos) G S (.d (.str (cutS x il ih))) S1 := fun M σ H Q s q =>
  toE (pe_slice sl_str pe_s po_tEP po_tEP) (ha M σ H _ s fun v M1 H1 e1 t1 r1 => hl.run t1 fun M2 H2 e2 t2 => hh.run t2 fun M3 H3 e3 t3 => ⟨x, vr_str r1, by rw [sizeLine_eq]; omega, q _ M3 H3 ((e1.trans e2).trans e3) t3 (Fz.str _)⟩)
/-- int(s) -/
theorem ev_intS (hm : X.mg "int" = none) (ha : Ev X a G S (.d (.str x)) S1) (h : PySem.intText? x = some n) (hz : x.length ≤ 640) (hg : Gl X "int" := by rfl) (he : starEach [a] X.env = (false, eval a X.env) :: starEach [] X.env := by rfl) : Ev X (.Call (.Name "int" p) [a] [] pos) G S (.d (.int n)) S1 :=
  ev_ty call_int_str hm (by decide +kernel) (eva_cons ha eva_nil he) (fun M H vs Q s hvs q => by
    obtain ⟨v, rfl, hv⟩ := vr1 hvs
    exact ⟨x, n, by rw [vr_str hv], h, hz, q _ M H Ext.refl s (Fz.int _)⟩) hg (by decide) (by decide) he rfl
/-- all(xs), xs a list of truths -/
theorem ev_all (c : Cxo X W k) {bs : List Bool} (hm : X.mg "all" = none) (ha : Ev X a G S r S1) (hr : lsOf S1 r = some (bs.map .bool)) (hg : Gl X "all" := by rfl) (he : starEach [a] X.env = (false, eval a X.env) :: starEach [] X.env := by rfl) : Ev X (.Call (.Name "all" p) [a] [] pos) G S (.d (.bool (bs.all id))) S1 :=
  ev_blt (cr_all c.calm) hm (by decide +kernel) (eva_cons ha eva_nil he) (fun M H vs Q s hvs q => by
    obtain ⟨v, rfl, hv⟩ := vr1 hvs
    obtain ⟨ad, xs, rfl, h1, h2⟩ := ls_rd s hv hr
    exact ⟨ad, bs, rfl, .inl (by rw [← fz_bools h2]; exact h1), q _ M H Ext.refl s (Fz.bl _)⟩) hg (by decide) (by decide) he rfl
end
end Cu
namespace Pf
open PySem PySem.Spec PyProof.Rows L2 Cu
theorem eqvAll_map {α : Type} [DecidableEq α] (f : α → PyData) (h : ∀ a b, PyData.eqv (f a) (f b) = decide (a = b)) : ∀ (l m : List α), PyData.eqvAll (l.map f) (m.map f) = decide (l = m)
  | [], [] => by simp [PyData.eqvAll]
  | [], _ :: _ => by simp [PyData.eqvAll]
  | _ :: _, [] => by simp [PyData.eqvAll]
  | a :: l, b :: m => by
    rw [List.map_cons, List.map_cons, PyData.eqvAll, h, eqvAll_map f h l m]
    by_cases e1 : a = b <;> by_cases e2 : l = m <;> simp [e1, e2]
theorem eqv_list {α : Type} [DecidableEq α] (f : α → PyData) (h : ∀ a b, PyData.eqv (f a) (f b) = decide (a = b)) (l m : List α) : PyData.eqv (.list (l.map f)) (.list (m.map f)) = decide (l = m) := by
  rw [PyData.eqv]; exact eqvAll_map f h l m
theorem eqv_int (a b : Int) : PyData.eqv (.int a) (.int b) = decide (a = b) := by
  rw [PyData.eqv]
  by_cases h : a = b <;> simp [h]
theorem shaped_all {ds : List PyData} (h : ∀ d ∈ ds, PyData.canLay0 d = true ∧ d.depth ≤ 50) : PyData.canLayAll0 ds = true ∧ PyData.depthAll ds ≤ 50 := by
  induction ds with
  | nil => exact ⟨by simp only [PyData.canLayAll0], by simp only [PyData.depthAll]; exact Nat.zero_le _⟩
  | cons x xs ih =>
    obtain ⟨i1, i2⟩ := ih fun d hd => h d (List.mem_cons_of_mem _ hd)
    obtain ⟨j1, j2⟩ := h x List.mem_cons_self
    exact ⟨by simp only [PyData.canLayAll0, i1, j1]; rfl, by simp only [PyData.depthAll]; exact Nat.max_le.mpr ⟨j2, i2⟩⟩
theorem shaped_list {ds : List PyData} (h : ∀ d ∈ ds, PyData.canLay0 d = true ∧ d.depth ≤ 50) : SeqAt.shaped (.list ds) = true := by
  obtain ⟨h1, h2⟩ := shaped_all h
  unfold SeqAt.shaped
  rw [show PyData.canLay0 (.list ds) = PyData.canLayAll0 ds by simp only [PyData.canLay0], h1, show PyData.depth (.list ds) = PyData.depthAll ds + 1 by simp only [PyData.depth], decide_eq_true (by omega)]; rfl
theorem shaped_tup {ds : List PyData} (h : ∀ d ∈ ds, PyData.canLay0 d = true ∧ d.depth ≤ 50) : SeqAt.shaped (.tuple ds) = true := by
  obtain ⟨h1, h2⟩ := shaped_all h
  unfold SeqAt.shaped
  rw [show PyData.canLay0 (.tuple ds) = PyData.canLayAll0 ds by simp only [PyData.canLay0], h1, show PyData.depth (.tuple ds) = PyData.depthAll ds + 1 by simp only [PyData.depth], decide_eq_true (by omega)]; rfl
theorem lay_int (i : Int) : PyData.canLay0 (.int i) = true ∧ (PyData.int i).depth ≤ 50 := ⟨by simp only [PyData.canLay0], by simp only [PyData.depth]; exact Nat.zero_le _⟩
theorem lay_tup {ds : List PyData} (h : ∀ d ∈ ds, ∃ i, d = .int i) : PyData.canLay0 (.tuple ds) = true ∧ (PyData.tuple ds).depth ≤ 50 := by
  have h1 : PyData.canLayAll0 ds = true ∧ PyData.depthAll ds = 0 := by
    induction ds with
    | nil => exact ⟨by simp only [PyData.canLayAll0], by simp only [PyData.depthAll]⟩
    | cons x xs ih =>
      obtain ⟨i1, i2⟩ := ih fun d hd => h d (List.mem_cons_of_mem _ hd)
      obtain ⟨i, rfl⟩ := h x List.mem_cons_self
      exact ⟨by simp only [PyData.canLayAll0, PyData.canLay0, i1]; rfl, by simp only [PyData.depthAll, PyData.depth, i2]; rfl⟩
  exact ⟨by simp only [PyData.canLay0]; exact h1.1, by simp only [PyData.depth]; rw [h1.2]; decide⟩
theorem shaped_ints (l : List Int) : SeqAt.shaped (.tuple (l.map .int)) = true := shaped_tup fun d hd => by
  obtain ⟨i, _, rfl⟩ := List.mem_map.mp hd
  exact lay_int i
/-! ### filled, same_as, turned, mirrored -/
theorem lay_list {ds : List PyData} (h : ∀ d ∈ ds, PyData.canLay0 d = true ∧ d.depth ≤ 40) : PyData.canLay0 (.list ds) = true ∧ (PyData.list ds).depth ≤ 50 := by
  have h1 : PyData.canLayAll0 ds = true ∧ PyData.depthAll ds ≤ 40 := by
    induction ds with
    | nil => exact ⟨by simp only [PyData.canLayAll0], by simp only [PyData.depthAll]; exact Nat.zero_le _⟩
    | cons x xs ih =>
      obtain ⟨i1, i2⟩ := ih fun d hd => h d (List.mem_cons_of_mem _ hd)
      obtain ⟨j1, j2⟩ := h x List.mem_cons_self
      exact ⟨by simp only [PyData.canLayAll0, i1, j1]; rfl, by simp only [PyData.depthAll]; exact Nat.max_le.mpr ⟨j2, i2⟩⟩
  exact ⟨by simp only [PyData.canLay0]; exact h1.1, by simp only [PyData.depth]; have := h1.2; omega⟩
theorem tup_depth {ds : List PyData} (h : ∀ d ∈ ds, ∃ i, d = .int i) : (PyData.tuple ds).depth ≤ 40 := by
  have h1 : PyData.depthAll ds = 0 := by
    induction ds with
    | nil => simp only [PyData.depthAll]
    | cons x xs ih =>
      have i2 := ih fun d hd => h d (List.mem_cons_of_mem _ hd)
      obtain ⟨i, rfl⟩ := h x List.mem_cons_self
      simp only [PyData.depthAll, PyData.depth, i2]; rfl
  simp only [PyData.depth]; rw [h1]; decide
end Pf
/-! CwA: a dict with tuple keys, walked; it is locked meanwhile. -/
namespace Cu
open PySem PySem.Spec PyProof.Rows L2
/-- the dict, locked -/
def LkT (kvs : List (List Key × It)) (L : Own) : Prop := ∃ od ps, L = .lkT od ps kvs
section
variable {X : Cx} {W : WX} {k j : Nat} {G G1 G2 : Gam} {S S1 S2 S3 : Sto} {P : Post} {e a b o iter tg elt : Expr} {es : List Expr} {r y z r' : It} {rs : List It} {pos pos' p apos cpos : Pos} {ds ds' : List PyData} {m n : Int} {i : Nat} {kd : PyData} {kk : List Key} {kvs : List (List Key × It)} {body : List Stmt} {Qr : It → Sto → Prop} {Qx : Addr → Sto → Prop} {st : Stmt}
/-- a dict, locked or not -/
def HasT (S : Sto) (i : Nat) (kvs : List (List Key × It)) : Prop := S[i]? = some (.dT kvs) ∨ ∃ L, LkT kvs L ∧ S[i]? = some L
theorem hasT_at {K : PySem.W.Frag} {M : List Addr} {H : Hp} {v : V} (s : StoreOk K M H S) (hv : VRep K M H v (.o i)) (hi : HasT S i kvs) : ∃ a ps, v = .ref a ∧ M[i]? = some a ∧ (H a = some (.dT ps) ∨ ∃ od, H a = some (.frz od (.dT ps))) ∧ PRep K M H ps kvs := by
  obtain ⟨a, ha, rfl⟩ := hv
  rcases hi with hi | ⟨L, ⟨od, ps, rfl⟩, hi⟩
  · obtain ⟨ps, h1, h2⟩ := s.rep _ a _ ha hi
    exact ⟨a, ps, rfl, ha, .inl h1, h2⟩
  · obtain ⟨h1, h2⟩ := s.rep _ a _ ha hi
    exact ⟨a, ps, rfl, ha, .inr ⟨od, h1⟩, h2⟩
theorem dget_of {H : Hp} {a b : Addr} {ps : List (List Key × V)} {kk : List Key} (h : H a = some (.dT ps) ∨ ∃ od, H a = some (.frz od (.dT ps))) (hb : H b = some (.tup (kk.map kV))) : DGet H a (.ref b) (valV ps kk) := .inr ⟨ps, kk, b, h, rfl, hb, rfl⟩
theorem evt_dinTL (c : Cxo X W k) (ha : Ev X a G S (.d kd) S1) (hb : Ev X b G S1 (.o i) S2) (hi : HasT S2 i kvs) (hk : keyD kd = some kk) (hm : behindInMarks .In b = false := by rfl) : EvT X (.Compare a [.In] [b] pos) G S (valI kvs kk).isSome S2 := fun M σ H Q s q =>
  toT (pt_cmp (pc_din (u1 c) pe_s pe_s) hm) (ha M σ H _ s fun v M1 H1 e1 s1 r1 => hb M1 σ H1 _ s1 fun u M2 H2 e2 s2 r2 => by
    obtain ⟨a, ps, rfl, _, h1, h2⟩ := hasT_at s2.sto r2 hi
    obtain ⟨b, rfl, hb, _⟩ := key_at hk (r1.ext e2)
    exact ⟨a, valV ps kk, rfl, dget_of h1 hb, _, rfl, by rw [prep_some h2]; exact q M2 H2 (e1.trans e2) s2⟩)
theorem evt_dnotinTL (c : Cxo X W k) (ha : Ev X a G S (.d kd) S1) (hb : Ev X b G S1 (.o i) S2) (hi : HasT S2 i kvs) (hk : keyD kd = some kk) (hm : behindInMarks .NotIn b = false := by rfl) : EvT X (.Compare a [.NotIn] [b] pos) G S (!(valI kvs kk).isSome) S2 := fun M σ H Q s q =>
  toT (pt_cmp (pc_dnotin (u1 c) pe_s pe_s) hm) (ha M σ H _ s fun v M1 H1 e1 s1 r1 => hb M1 σ H1 _ s1 fun u M2 H2 e2 s2 r2 => by
    obtain ⟨a, ps, rfl, _, h1, h2⟩ := hasT_at s2.sto r2 hi
    obtain ⟨b, rfl, hb, _⟩ := key_at hk (r1.ext e2)
    exact ⟨a, valV ps kk, rfl, dget_of h1 hb, _, rfl, by rw [prep_some h2]; exact q M2 H2 (e1.trans e2) s2⟩)
/-- d[k], there; d may be locked -/
theorem ev_dgetTL (c : Cxo X W k) (ho : Ev X o G S (.o i) S1) (ha : Ev X a G S1 (.d kd) S2) (hi : HasT S2 i kvs) (hk : keyD kd = some kk) (hv : valI kvs kk = some r) (hs : NoSl a := by exact fun _ _ => rfl) : Ev X (.Subscript o a pos) G S r S2 := fun M σ H Q s q =>
  toE (pe_dget (u1 c) pe_s pe_s hs) (ho M σ H _ s fun v M1 H1 e1 s1 r1 => ha M1 σ H1 _ s1 fun u M2 H2 e2 s2 r2 => by
    obtain ⟨a, ps, rfl, _, h1, h2⟩ := hasT_at s2.sto (r1.ext e2) hi
    obtain ⟨b, rfl, hb, _⟩ := key_at hk r2
    rcases prep_val (k := kk) h2 with ⟨_, z⟩ | ⟨v, r', h3, h4, h5⟩
    · rw [z] at hv; cases hv
    · rw [h4] at hv
      cases hv
      refine ⟨a, v, rfl, ?_, q _ M2 H2 (e1.trans e2) s2 h5⟩
      rw [← h3]
      exact dget_of h1 hb)
/-- the keys, in order -/
def keysI (kvs : List (List Key × It)) : List It := kvs.map fun p => It.d (keyU p.1)
theorem prep_get {κ : Type} {K : PySem.W.Frag} {M : List Addr} {H : Hp} : ∀ {ps : List (κ × V)} {kvs : List (κ × It)} {i : Nat} {k : κ} {v : V}, PRep K M H ps kvs → ps[i]? = some (k, v) → ∃ r, kvs[i]? = some (k, r)
  | _, _, _, _, _, .nil, e => by simp at e
  | _, _, 0, _, _, .cons h t, e => by
    cases e
    exact ⟨_, congrArg some (Prod.ext h.1.symm rfl)⟩
  | _, _, i + 1, _, _, .cons h t, e => prep_get (i := i) t e
/-- a locked dict is walked by its keys -/
theorem evi_keysT {L : Own} (hi : Ev X iter G S (.o i) S1) (hL : LkT kvs L) (hd : S1[i]? = some L) : EvI X tg iter G S (keysI kvs) (fun S' => S'[i]? = some L) S1 := by
  obtain ⟨od, ps, rfl⟩ := hL
  refine ⟨_, pi_keys pe_s, fun M σ H R s q => hi M σ H _ s fun v M1 H1 e1 t1 r1 => ?_⟩
  obtain ⟨ad, had, rfl⟩ := r1
  obtain ⟨h1, h2⟩ := t1.sto.rep _ ad _ had hd
  have hlen : (keysI kvs).length = ps.length := by unfold keysI; rw [List.length_map]; exact (Paired.length h2).symm
  refine ⟨ad, od, rfl, .inr ⟨ps, h1, q M1 H1 _ e1 t1 ⟨fun n M' H' S' hn e' s' hc => ?_, fun n M' H' S' x H2 r hr e' s' hc yl => ?_, fun n M' H' S' hn e' s' hc => ?_⟩⟩⟩
  · exact ⟨(s'.rep _ ad _ (e'.get had) hc).1, by rw [← hlen]; exact hn⟩
  · obtain ⟨rfl, kx, vx, qx, hk, rfl, hq⟩ := yl
    obtain ⟨rr, hrr⟩ := prep_get h2 hk
    unfold keysI at hr
    rw [List.getElem?_map, hrr] at hr
    cases hr
    refine ⟨Ext.refl, s', fzU hq (no_tup s' hq fun b hb => ?_)⟩
    obtain ⟨k0, _, e0⟩ := List.mem_map.mp hb
    cases k0 <;> cases e0
  · exact ⟨(s'.rep _ ad _ (e'.get had) hc).1, by rw [← hlen]; exact hn⟩
/-- the wish of a turn while the i-th object is locked as L -/
abbrev Post.turnL (P : Post) (i : Nat) (L w : Own) (N : Gam → Sto → Prop) : Post := { nx := N, ct := N, bk := fun G S => S[i]? = some L ∧ P.nx G (S.set i w), rt := fun r S => S[i]? = some L ∧ P.rt r (S.set i w) }
/-- the state, its dict unlocked -/
theorem stt_unlock {K : PySem.W.Frag} {M : List Addr} {H : Hp} {σ : Sig} {ad : Addr} {od : Obj} {ps : List (List Key × V)} (t : Stt K M H S G σ) (had : M[i]? = some ad) (hi : S[i]? = some (.lkT od ps kvs)) : Ext M H M (upd H ad (.dT ps)) ∧ Stt K M (upd H ad (.dT ps)) (S.set i (.dT kvs)) G σ ∧ H ad = some (.frz od (.dT ps)) := by
  obtain ⟨h1, h2⟩ := t.sto.rep _ ad _ had hi
  have e3 : Ext M H M (upd H ad (.dT ps)) := Ext.put (List.mem_of_getElem? had)
  exact ⟨e3, t.mono e3 (t.sto.put (w := .dT kvs) had ⟨ps, upd_same, Paired.mapP h2 fun _ _ q => ⟨q.1, q.2.ext e3⟩⟩), h1⟩
theorem stt_lock {K : PySem.W.Frag} {M : List Addr} {H : Hp} {σ : Sig} {ad : Addr} {ps : List (List Key × V)} (od : Obj) (t : Stt K M H S G σ) (had : M[i]? = some ad) (h1 : H ad = some (.dT ps)) (h2 : PRep K M H ps kvs) : Ext M H M (upd H ad (.frz od (.dT ps))) ∧ Stt K M (upd H ad (.frz od (.dT ps))) (S.set i (.lkT od ps kvs)) G σ := by
  have e3 : Ext M H M (upd H ad (.frz od (.dT ps))) := Ext.put (List.mem_of_getElem? had)
  exact ⟨e3, t.mono e3 (t.sto.put (w := .lkT od ps kvs) had ⟨upd_same, Paired.mapP h2 fun _ _ q => ⟨q.1, q.2.ext e3⟩⟩)⟩
/-- a statement while the i-th object, a dict, is locked; nothing is raised -/
theorem ws_lockT (hd : S[i]? = some (.dT kvs)) (h : ∀ L, LkT kvs L → WS X W st G (S.set i L) { nx := fun G' S' => S'[i]? = some L ∧ P.nx G' (S'.set i (.dT kvs)), rt := fun r S' => S'[i]? = some L ∧ P.rt r (S'.set i (.dT kvs)), bk := fun G' S' => S'[i]? = some L ∧ P.bk G' (S'.set i (.dT kvs)), ct := fun G' S' => S'[i]? = some L ∧ P.ct G' (S'.set i (.dT kvs)) }) : WS X W st G S P := fun M σ H D s m => by
  obtain ⟨ad, had, ps, h1, h2⟩ := s.sto.addr hd
  refine toS (ps_lock ps_s) ⟨ad, _, h1, trivial, fun od => ?_⟩
  obtain ⟨e1, s1⟩ := stt_lock od s had h1 h2
  refine h _ ⟨od, ps, rfl⟩ M σ _ _ s1 ⟨fun M' σ' H' G' S' e t q => ?_, fun v M' H' r S' e t hv q => ?_, fun M' σ' H' G' S' e t q => ?_, fun M' σ' H' G' S' e t q => ?_, fun _ _ _ _ _ _ _ _ q => q.elim⟩
  · obtain ⟨e2, s2, f2⟩ := stt_unlock t (e.get had) q.1
    exact ⟨f2, m.nx M' σ' _ G' _ ((e1.trans e).trans e2) s2 q.2⟩
  · obtain ⟨e2, s2, f2⟩ := stt_unlock (G := []) (σ := []) ⟨t, rfl, fun _ _ q => nomatch q⟩ (e.get had) q.1
    exact ⟨f2, m.rt v M' _ r _ ((e1.trans e).trans e2) s2.sto (hv.ext e2) q.2⟩
  · obtain ⟨e2, s2, f2⟩ := stt_unlock t (e.get had) q.1
    exact ⟨f2, m.bk M' σ' _ G' _ ((e1.trans e).trans e2) s2 q.2⟩
  · obtain ⟨e2, s2, f2⟩ := stt_unlock t (e.get had) q.1
    exact ⟨f2, m.ct M' σ' _ G' _ ((e1.trans e).trans e2) s2 q.2⟩
/-- an expression while the i-th object, a dict, is locked -/
theorem ev_lockT {S' : Sto} (hd : S[i]? = some (.dT kvs)) (h : ∀ L, LkT kvs L → ∃ S1, Ev X e G (S.set i L) r S1 ∧ S1[i]? = some L ∧ S1.set i (.dT kvs) = S') : Ev X e G S r S' := fun M σ H Q s q => by
  obtain ⟨ad, had, ps, h1, h2⟩ := s.sto.addr hd
  refine toE (pe_lock pe_s) ⟨ad, _, h1, trivial, fun od => ?_⟩
  obtain ⟨e1, s1⟩ := stt_lock od s had h1 h2
  obtain ⟨S1, hev, hL, hS⟩ := h _ ⟨od, ps, rfl⟩
  refine hev M σ _ _ s1 fun v M' H' e t hv => ?_
  obtain ⟨e2, s2, f2⟩ := stt_unlock t (e.get had) hL
  rw [hS] at s2
  exact ⟨f2, q v M' _ ((e1.trans e).trans e2) s2 (hv.ext e2)⟩
/-- for x in d: the dict stands still meanwhile -/
theorem ws_forDT (c : Cxo X W k) (hi : ∀ S', Ev X iter G S' (.o i) S') (hd : S[i]? = some (.dT kvs)) (tgt : It → Gam → Gam)
    (h : ∀ L, LkT kvs L → ∃ J : Nat → Gam → Sto → Prop, J 0 G (S.set i L) ∧ (∀ n G' S', J n G' S' → S'[i]? = some L) ∧ (∀ n r G' S', (keysI kvs)[n]? = some r → J n G' S' → EvG X tg r G' S' (tgt r G') S') ∧
      (∀ n r G' S', (keysI kvs)[n]? = some r → J n G' S' → WSs X W body (tgt r G') S' (P.turnL i L (.dT kvs) (J (n + 1)))) ∧ (∀ G' S', J (keysI kvs).length G' S' → P.nx G' (S'.set i (.dT kvs))))
    (hf : ∀ x, foldedSetIterable iter X.env x = pure x := by intro _; rfl) : WS X W (.For tg iter body [] pos) G S P :=
  ws_lockT hd fun L hL => by
    obtain ⟨J, h0, hC, hg, hs, hq⟩ := h L hL
    have hl : i < S.length := (List.getElem?_eq_some_iff.mp hd).1
    have hLi : (S.set i L)[i]? = some L := List.getElem?_set_self hl
    refine ws_for c (evi_keysT (hi _) hL hLi) J tgt h0 hC hg (fun n r G' S' hr hJ => ?_) (fun G' S' hJ => ⟨hC _ _ _ hJ, hq G' S' hJ⟩) hf
    exact hs n r G' S' hr hJ
end
end Cu
/-! CwB: sorted by a lambda's keys. -/
namespace Cu
open PySem PySem.Spec PyProof.Rows L2
abbrev KeepH (h h' : Heap) : Prop := ∀ b o, h.get? b = some o → h'.get? b = some o
/-- e, read where x is a datum d, gives the datum kd; all stays -/
def KEv (e : Expr) (x : Str) (d kd : PyData) : Prop := ∀ (prog : Program) (w : World) (A : Around) (env : Env) (E : Value → Shared → Prop) (s : Shared) (u : Value) (as : List Addr) (m : Str → Option Value) (Q : Value → Shared → Prop),
  env.scope.kind = .function → env.kindOf x = some .local → s.heap.Ns env.locals m → m x = some u → Reads s.heap u d as →
  (∀ v' h' tk' as', KeepH s.heap h' → Reads h' v' kd as' → Q v' { s with heap := h', toks := tk' }) → wpAny (model prog w) A (eval e env) Q E s
def KEvs (es : List Expr) (x : Str) (d : PyData) (kds : List PyData) : Prop := ∀ (prog : Program) (w : World) (A : Around) (env : Env) (E : Value → Shared → Prop) (s : Shared) (u : Value) (as : List Addr) (m : Str → Option Value) (pos : Pos) (Q : List Value → Shared → Prop),
  env.scope.kind = .function → env.kindOf x = some .local → s.heap.Ns env.locals m → m x = some u → Reads s.heap u d as →
  (∀ vs h' tk' as', KeepH s.heap h' → ReadsAll h' vs kds as' → Q vs { s with heap := h', toks := tk' }) → wpAny (model prog w) A (spliced (backTo pos (starEach es env))) Q E s
theorem ns_keep {h h' : Heap} {L : Addr} {m : Str → Option Value} (n : h.Ns L m) (k : KeepH h h') : h'.Ns L m := by
  obtain ⟨o, es, ep, ho, r⟩ := n
  exact ⟨o, es, ep, k _ _ ho, r⟩
theorem key_name {x : Str} {d : PyData} {p : Pos} (hd : (x == ("__debug__" : Str)) = false := by decide) : KEv (.Name x p) x d d := fun prog w A env E s u as m Q hk hl hn hm hr q => by
  refine wpAny_Name (wpAny_loadName_local hk hl hn hm ?_) hd
  exact q u s.heap s.toks as (fun _ _ h => h) hr
theorem readsAll_get {h : Heap} : ∀ {vs : List Value} {ds : List PyData} {as : List Addr} {i : Nat} {d : PyData}, ReadsAll h vs ds as → ds[i]? = some d → ∃ v as', vs[i]? = some v ∧ Reads h v d as'
  | _, _, _, i, d, .nil, e => by simp at e
  | _, _, _, 0, d, .cons h1 h2, e => by
    cases e
    exact ⟨_, _, rfl, h1⟩
  | _, _, _, i + 1, d, .cons h1 h2, e => readsAll_get (i := i) h2 e
theorem readsAll_len {h : Heap} : ∀ {vs : List Value} {ds : List PyData} {as : List Addr}, ReadsAll h vs ds as → vs.length = ds.length
  | _, _, _, .nil => rfl
  | _, _, _, .cons _ t => congrArg Nat.succ (readsAll_len t)
/-- t[i] of a tuple -/
theorem key_ixT {a : Expr} {x : Str} {d kd : PyData} {ds : List PyData} {i : Nat} {j : Nat} {p pos : Pos} (ha : KEv a x d (.tuple ds)) (hi : ds[i]? = some kd) (hz : i < 1000000)
    (hs : ∀ v u, subscripted (.Constant (.int (i : Int)) j p) false v u = operate [v, u] (getItem v u) := by intros; rfl) : KEv (.Subscript a (.Constant (.int (i : Int)) j p) pos) x d kd := fun prog w A env E s u as m Q hk hl hn hm hr q => by
  refine Subscript_ (ha prog w A env E s u as m _ hk hl hn hm hr fun v' h' tk' as' kp hr' => ?_)
  refine wpAny_Constant_int ?_
  cases hr' with
  | tuple e1 e2 e3 e4 =>
    obtain ⟨v, as2, hv, hrv⟩ := readsAll_get e4 hi
    have hlt : i < ds.length := (List.getElem?_eq_some_iff.mp hi).1
    have hlen := readsAll_len e4
    rename_i vs n
    have hsz : vs.size = ds.length := by rw [← hlen, Array.length_toList]
    refine subscriptTail_builtinR (x := v) (T := "tuple") ⟨_, e1, e2⟩ slot_tuple_getitem.lookup
      (PyProof.Rows.getItem_tuple (j := i) (Q := fun r s' => r = v ∧ Q r s') ⟨_, e1, e2, n, e3⟩ (by omega) (by omega) (by unfold seqIndex?; simp; omega) (by rw [← Array.getElem?_toList]; exact hv) ⟨rfl, ?_⟩) (hs _ _)
    exact q v h' (tk' + 1) as2 kp hrv
theorem keys_nil {x : Str} {d : PyData} : KEvs [] x d [] := fun prog w A env E s u as m pos Q hk hl hn hm hr q => Calls.spliced_nil (q [] s.heap s.toks [] (fun _ _ h => h) .nil)
theorem keys_cons {e : Expr} {es : List Expr} {x : Str} {d kd : PyData} {kds : List PyData} (h : KEv e x d kd) (hr : KEvs es x d kds) (he : ∀ env, starEach (e :: es) env = (false, eval e env) :: starEach es env := by intro _; rfl) : KEvs (e :: es) x d (kd :: kds) := fun prog w A env E s u as m pos Q hk hl hn hm hrd q => by
  rw [he]
  show wpAny _ _ (spliced ((false, eval e env) :: backTo pos (starEach es env))) _ _ _
  refine Calls.spliced_cons (h prog w A env E s u as m _ hk hl hn hm hrd fun v' h' tk' as' kp hv => ?_)
  refine hr prog w A env E { s with heap := h', toks := tk' } u as m pos _ hk hl (ns_keep hn kp) hm (Reads.keeps kp hrd) fun vs h2 tk2 as2 kp2 hvs => ?_
  exact q (v' :: vs) h2 tk2 _ (fun b o z => kp2 b o (kp b o z)) (.cons (Reads.keeps kp2 hv) hvs)
/-- (e1, e2, ..) -/
theorem key_tup {es : List Expr} {x : Str} {d : PyData} {kds : List PyData} {j : Nat} {pos : Pos} (h : KEvs es x d kds) (hz : kds.length ≤ 1000) : KEv (.Tuple es j pos) x d (.tuple kds) := fun prog w A env E s u as m Q hk hl hn hm hr q => by
  refine wpAny_Tuple_spliced (h prog w A env E s u as m pos _ hk hl hn hm hr fun vs h' tk' as' kp hvs => ⟨by rw [readsAll_len hvs, sizeLine_eq]; omega, ?_⟩)
  refine q _ _ tk' as' (fun b o z => Heap.get?_push_of_some _ (kp b o z)) ?_
  exact .tuple (Heap.get?_push_size _ rfl) rfl rfl (by rw [List.toList_toArray]; exact ReadsAll.keeps (fun b o z => Heap.get?_push_of_some _ z) hvs)
/-- the lambda's one parameter, its names -/
structure Lam1 (scope : Scope) (params : Arguments) (x : Str) : Prop where
  kind : scope.kind = .function
  co : scope.isCoroutine = false
  gen : scope.isGenerator = false
  nocell : ∀ y ∈ scope.names, y.2 ≠ .cell
  nofree : ∀ y ∈ scope.names, y.2 ≠ .free
  loc : scope.names.lookup x = some .local
  bind : ∀ (q : Str) (body : Expr) (pm cv ct v : Value), bindArgs (PySem.W.kla_fn "<lambda>" q params body scope [] pm cv ct) ⟨[v], []⟩ = pure [(x, v)]
/-- a call of the lambda on what reads as d -/
theorem lam_call {prog : Program} {w : World} {A : Around} {s : Shared} {f c' : Addr} {q x : Str} {params : Arguments} {body : Expr} {scope : Scope} {pm ctv v : Value} {d kd : PyData} {as : List Addr} (L : Lam1 scope params x) (hb : KEv body x d kd) (hkd : ∀ h v as, Reads h v kd as → as = [])
    (hf : s.heap.get? f = some (PySem.W.kla_obj "<lambda>" q params body scope [] pm c' ctv)) (hc : s.heap.CodeRec (.ref c') q) (hr : A.depth < recursionLimit) (hlim : s.heap.NoLimit) (hv : Reads s.heap v d as) :
    wpAny (model prog w) A (call (.ref f) [v]) (PySem.W.KeyPure kd s) (fun _ _ => False) s := by
  refine wpAny_call ?_
  refine PySem.W.kla_callFunE hr hf rfl L.co L.gen rfl hc ?_
  rw [L.bind]
  refine wpAny_pure (wpAny_newFunctionEnv L.nocell (fun y hy => ?_) (fun h₁ hns hsb => ⟨hlim.fresh _ hsb, ?_⟩) L.kind)
  · rw [List.mem_singleton.mp hy]; exact L.loc
  · have kp : KeepH s.heap h₁ := fun b o e => hsb.extBut b o (Nat.ne_of_lt (Heap.lt_size e)) (Heap.get?_push_of_some _ e)
    refine PySem.W.kla_codeExpr (hb prog w _ _ _ _ v as _ _ L.kind ?_ hns ?_ (Reads.keeps kp hv) fun v' h' tk' as' kp2 hv' => ?_)
    · exact L.loc
    · show ([(x, v)] : List (Str × Value)).reverse.lookup x = some v
      simp
    · have e := hkd _ _ _ hv'
      subst e
      exact ⟨h', tk', rfl, fun b o z => kp2 b o (kp b o z), hv'⟩
theorem upd_swap {H : Hp} {a b : Addr} {o u : HO} (h : a ≠ b) : upd (upd H a o) b u = upd (upd H b u) a o := by
  funext c
  by_cases h1 : c = b
  · subst h1; rw [upd_same, upd_ne (Ne.symm h), upd_same]
  · by_cases h2 : c = a
    · subst h2; rw [upd_ne h1, upd_same, upd_same]
    · rw [upd_ne h1, upd_ne h2, upd_ne h2, upd_ne h1]
/-- what the making of a lambda leaves of the heap's picture -/
def LamHp (H : Hp) (P : Addr) (ps : Array Value) (q : Str) (c' : Addr) (H1 : Hp) : Prop :=
  (H1 = H ∧ H c' = some (LamX.CodeO c' q)) ∨ ∃ ps' : Array Value, H c' = none ∧ c' ≠ P ∧ H1 = upd (upd H P (.tbl ps')) c' (LamX.CodeO c' q) ∧ TriplesOk ps'.toList ∧ ∀ (pos : Pos) (cv : Value), codeAmong pos ps'.toList = some cv → codeAmong pos ps.toList = some cv ∨ cv = .ref c'
section
variable {X : Cx} {pins : List (Addr × Obj)} {σ : Sig} {H : Hp} {s : Shared}
theorem lam_make3 {c P : Addr} {ps : Array Value} {params : Arguments} {body : Expr} {scope : Scope} {pos : Pos} {E : Value → Shared → Prop} {Q : Value → Shared → Prop} (I : Inv X pins σ H s) (TB : LamX.TabB X.base X.mg c P) (hcode : X.env.code = .ref c) (hP : H P = some (.tbl ps)) (ht : TriplesOk ps.toList)
    (ha : ∀ (pos : Pos) (cv : Value), codeAmong pos ps.toList = some cv → ∃ c, cv = .ref c ∧ H c = some (LamX.CodeO c (X.env.qual ++ "<lambda>"))) (hdef : defaultsOf params X.env = ([], [])) (hfree : ∀ y ∈ scope.names, y.2 = .free → ∃ c, X.env.cells.lookup y.1 = some c)
    (h : ∀ (f c' : Addr) (pm ctv : Value) (H1 : Hp) (s' : Shared), Inv X pins σ H1 s' → LamHp H P ps (X.env.qual ++ "<lambda>") c' H1 → s'.heap.get? f = some (PySem.W.kla_obj "<lambda>" (X.env.qual ++ "<lambda>") params body scope (cloFrom X.env.cells scope.names []) pm c' ctv) → H1 f = none → f ∉ frs X.stack → s'.heap.CodeRec (.ref c') (X.env.qual ++ "<lambda>") → Q (.ref f) s') :
    wpAny (model X.prog X.w) X.A (eval (.Lambda params body scope pos) X.env) Q E s := by
  refine PySem.W.kla_eval hdef ?_
  have b1 := TB.bm.keeps I.bk
  have g1 := I.mod.glob.keeps I.bk
  have C1 := TB.code.keeps I.bk
  have hPs : s.heap.get? P = some { cls := .none, data := .fields ps } := I.hok P _ hP
  have outF : ∀ f, s.heap.objs.size ≤ f → f ∉ frs X.stack := fun f hf z => (List.mem_cons.mp (I.stkSub _ z)).elim (fun e => absurd I.lt (by rw [← e]; exact Nat.not_lt.mpr hf)) (fun e => I.nofs hf e)
  cases hit : codeAmong pos ps.toList with
  | some cv =>
    obtain ⟨c', rfl, hco⟩ := ha pos cv hit
    refine PySem.W.kla_makeFunctionHit (c := c) (closure_ok hfree) I.ok.glob g1 hcode C1 hPs ht hit b1 fun ctv h' tk up le => ?_
    have kp : KeepH s.heap (h'.push (PySem.W.kla_obj "<lambda>" (X.env.qual ++ "<lambda>") params body scope (cloFrom X.env.cells scope.names []) ((X.mg "__name__").getD .none) c' ctv)) := fun b o e => Heap.get?_push_of_some _ (up b o e)
    obtain ⟨⟨oc, vs, tq, r1, r2, r3⟩, _⟩ := I.hok c' _ hco
    exact h _ c' _ ctv H _ (I.kept (t' := tk) kp) (.inl ⟨rfl, hco⟩) (Heap.get?_push_size _ rfl) (I.hok.fresh le) (outF _ le) ⟨c', oc, vs, tq, rfl, kp _ _ r1, r2, r3⟩
  | none =>
    refine PySem.W.kla_makeFunction (c := c) (closure_ok hfree) I.ok.glob g1 hcode C1 hPs ht hit TB.gP b1 fun c' ctv h' tk up le lt rec tab => ?_
    obtain ⟨c2, oc, vs, tq, e2, r1, r2, r3⟩ := rec
    cases e2
    have le2 : s.heap.objs.size ≤ h'.objs.size := Nat.le_of_lt (Nat.lt_of_le_of_lt le lt)
    have nc : H c' = none := I.hok.fresh le
    have ne1 : c' ≠ P := fun z => by rw [z, hP] at nc; cases nc
    have app : (ps ++ #[rawInt pos.line, rawInt pos.col, .ref c']).toList = ps.toList ++ [rawInt pos.line, rawInt pos.col, .ref c'] := by simp
    have J := LamX.inv_table (t' := tk) (more := #[rawInt pos.line, rawInt pos.col, .ref c']) (q := X.env.qual ++ "<lambda>")
      (h' := h'.push (PySem.W.kla_obj "<lambda>" (X.env.qual ++ "<lambda>") params body scope (cloFrom X.env.cells scope.names []) ((X.mg "__name__").getD .none) c' ctv)) I hP
      (fun b o nb e => Heap.get?_push_of_some _ (up b o nb e)) (Heap.get?_push_of_some _ tab) le ⟨oc, vs, tq, Heap.get?_push_of_some _ r1, r2, r3⟩
    refine h _ c' _ ctv _ _ J (.inr ⟨_, nc, ne1, rfl, by rw [app]; exact PySem.TriplesOk_snoc _ _ _ _ ht, fun p2 cv hcv => ?_⟩) (Heap.get?_push_size _ rfl) ?_ (outF _ le2) ⟨c', oc, vs, tq, rfl, Heap.get?_push_of_some _ r1, r2, r3⟩
    · rw [app] at hcv
      exact LamX.among_app _ ht hcv
    · rw [upd_ne (Nat.ne_of_gt lt), upd_ne fun z => absurd (Heap.lt_size hPs) (Nat.not_lt.mpr (by rw [← z]; exact le2))]
      exact I.hok.fresh le2
end
/-- the store, its table grown -/
theorem stt_lam {K : PySem.W.Frag} {M : List Addr} {H H1 : Hp} {S : Sto} {G : Gam} {σ : Sig} {P : Addr} {q : Str} {t : Nat} {ps : Array Value} {c' : Addr} (st : Stt K M H S G σ) (ht : S[t]? = some (.tbl P q)) (hP : H P = some (.tbl ps)) (hps : ∀ (pos : Pos) (cv : Value), codeAmong pos ps.toList = some cv → ∃ c, cv = .ref c ∧ H c = some (LamX.CodeO c q) ∧ c ∉ M)
    (had : M[t]? = some P) (h : LamHp H P ps q c' H1) : Ext M H M H1 ∧ Stt K M H1 S G σ := by
  rcases h with ⟨rfl, _⟩ | ⟨ps', nc, ne1, rfl, h2, h3⟩
  · exact ⟨Ext.refl, st⟩
  · rw [upd_swap (Ne.symm ne1)]
    have e1 : Ext M H M (upd H c' (LamX.CodeO c' q)) := Ext.fresh nc
    have s1 := st.fresh (o := LamX.CodeO c' q) nc
    have e2 : Ext M (upd H c' (LamX.CodeO c' q)) M (upd (upd H c' (LamX.CodeO c' q)) P (.tbl ps')) := Ext.put (List.mem_of_getElem? had)
    have nM : c' ∉ M := st.sto.nin nc
    have w2 := s1.sto.put (w := .tbl P q) (o := .tbl ps') had ⟨rfl, ps', upd_same, h2, fun pos cv hcv => by
      rcases h3 pos cv hcv with z | z
      · obtain ⟨c, x1, x2, x3⟩ := hps pos cv z
        refine ⟨c, x1, ?_, x3⟩
        have n1 : c ≠ P := fun y => by
          rw [y, hP] at x2
          exact LamX.codeO_ne _ (Option.some.inj x2).symm
        have n2 : c ≠ c' := fun y => by
          rw [y, nc] at x2
          cases x2
        rw [upd_ne n1, upd_ne n2]
        exact x2
      · exact ⟨c', z, by rw [upd_ne ne1, upd_same], nM⟩⟩
    rw [show S.set t (.tbl P q) = S from List.ext_getElem? fun i => by
      by_cases hi : t = i
      · subst hi
        rw [List.getElem?_set_self (List.getElem?_eq_some_iff.mp ht).1, ht]
      · rw [List.getElem?_set_ne hi]] at w2
    exact ⟨e1.trans e2, s1.mono e2 w2⟩
theorem clo_nil {cells : List (Str × Addr)} : ∀ {names : List (Str × NameKind)} {acc : List (Str × Addr)}, (∀ y ∈ names, y.2 ≠ .free) → cloFrom cells names acc = acc
  | [], _, _ => rfl
  | (n, k) :: r, acc, h => by
    have hk : (k == NameKind.free) = false := beq_eq_false_iff_ne.mpr (h (n, k) List.mem_cons_self)
    show (if (k == NameKind.free) = true then _ else _) = _
    rw [hk, if_neg Bool.false_ne_true]
    exact clo_nil fun y hy => h y (List.mem_cons_of_mem _ hy)
theorem each_both {α β : Type} {P Q : α → β → Prop} : ∀ {l : List α} {m : List β}, PySem.W.EachIs P l m → PySem.W.EachIs Q l m → PySem.W.EachIs (fun a b => P a b ∧ Q a b) l m
  | _, _, .nil, .nil => .nil
  | _, _, .cons a t, .cons b s => .cons ⟨a, b⟩ (each_both t s)
section
variable {X : Cx} {W : WX} {k j : Nat} {G G1 G2 : Gam} {S S1 S2 S3 : Sto} {e a : Expr} {r : It} {pos lpos kpos p : Pos} {ds : List PyData} {t : Nat} {cA PA_ : Addr} {params : Arguments} {body : Expr} {scope : Scope} {x : Str}
/-- sorted(a, key=lambda x: body), a list that stays as it is -/
theorem ev_sortedLam (kf : PyData → PyData) (c : Cxo X W k) (hk2 : 2 ≤ k) (hm : X.mg "sorted" = none) (ha : Ev X a G S r S1) (hr : lsOf S1 r = some ds) (L : Lam1 scope params x) (hkey : ∀ d ∈ ds, KEv body x d (kf d)) (hlf : ∀ d ∈ ds, ∀ h v as, Reads h v (kf d) as → as = [])
    (hal : PySem.W.AllAlike (ds.map kf)) (hso : PySem.W.Sortable (ds.map kf)) (hde : ∀ d ∈ ds, (kf d).depth ≤ 60) (ht : S1[t]? = some (.tbl PA_ (X.env.qual ++ "<lambda>"))) (TB : LamX.TabB X.base X.mg cA PA_) (hcode : X.env.code = .ref cA)
    (hdef : defaultsOf params X.env = ([], []) := by rfl) (hg : Gl X "sorted" := by rfl)
    (he : backTo pos (starEach [a] X.env) = (false, eval a X.env) :: backTo pos (starEach [] X.env) := by rfl) (hpl : (backTo pos (starEach [a] X.env)).any (·.1) = false := by rfl) (he2 : starEach [a] X.env = (false, eval a X.env) :: starEach [] X.env := by rfl)
    (hall : (backToKw pos (keywordEach [⟨some "key", .Lambda params body scope lpos, kpos⟩] X.env)).all (·.1.isSome) = true := by rfl) (hnone : (backToKw pos (keywordEach [⟨some "key", .Lambda params body scope lpos, kpos⟩] X.env)).any (·.1.isNone) = false := by rfl) :
    Ev X (.Call (.Name "sorted" p) [a] [⟨some "key", .Lambda params body scope lpos, kpos⟩] pos) G S (.d (.list (ds.mergeSort (PySem.W.dataLe false kf)))) S1 := fun M σ H Q st q pins s0 I => by
  refine wpAny_Call_Name_kw (ld_blt I hg hm (PyProof.Rows.boot_sorted) ?_ (by decide) (by decide))
  refine PyProof.Rows.callWith_kw (thn ((pa_cons (pe_s (e := a)) pa_nil he2).run pos pins s0 σ H (fun vs H1 => ∃ v M1, vs = [v] ∧ Ext M H M1 H1 ∧ Stt X.K M1 H1 S1 G σ ∧ VRep X.K M1 H1 v r) I (ha M σ H _ st fun v M' H' e' s' r' => ⟨v, M', rfl, e', s', r'⟩)) fun us s1 hus => ?_) he hpl hall hnone
  obtain ⟨vs, H1, I1, r1, v, M1, rfl, e1, t1, q1⟩ := hus
  obtain ⟨ad0, xs0, ev0, _, _⟩ := ls_rd t1.sto q1 hr
  subst ev0
  obtain rfl := Vals.ref1 r1
  obtain ⟨aP, hadP, rfl, ps, hP, hps1, hps2⟩ := t1.sto.addr ht
  show wpAny _ _ (evalAll ((do let v ← eval (.Lambda params body scope lpos) X.env; standAt pos; pure v) :: [])) _ _ _
  refine wpAny_evalAll_cons (wpAny_bind (lam_make3 I1 TB hcode hP hps1 (fun p2 cv hcv => let ⟨c2, x1, x2, _⟩ := hps2 p2 cv hcv; ⟨c2, x1, x2⟩) hdef (fun y hy hf => absurd hf (L.nofree y hy)) fun f c' pm ctv H2 s2 I2 hH hf hfn hfr hrec => ?_))
  refine wpAny_bind (wpAny_standAt (wpAny_pure (wpAny_evalAll_nil ?_)))
  obtain ⟨e2, t2⟩ := stt_lam t1 ht hP hps2 hadP hH
  obtain ⟨ad, xs, ev, hx1, hx2⟩ := ls_rd t2.sto (q1.ext e2) hr
  cases ev
  obtain ⟨its, rv, hl, hz⟩ := I2.list (.inl hx1)
  have hlen : ds.length = its.length := by rw [← fz_len hx2]; exact rv.length
  have lim : s2.heap.NoLimit := I2.mod.nolimit.keeps I2.bk
  have hu := c.hr.units
  show wpAny _ _ (call (.builtin "sorted") [.ref ad0] [(Str.ofString "key", .ref f)]) _ _ _
  rw [clo_nil L.nofree] at hf
  refine PySem.W.sorted_key_data (b := false) (bs := ds) (vs := its) (R := fun u d => (∃ v, RelV v u ∧ Fz M1 H2 v d) ∧ ∃ as, Reads s2.heap u d as) kf hl.isList (each_both (each_of rv (fz_pair hx2)) (each_reads I2 rv (FzAll.dp hx2))) hal hso (by rw [hlen, ← rv.length]; exact hz)
    (fun d hd => ?_) (PyProof.Rows.ksk_s1 _ _) (fun _ => PyProof.Rows.ksk_l1 _ _) (fun x => PyProof.Rows.ksk_t1 f x) (fun u d hR hd g tk kp => ?_) fun out c2 h' tk kp fr hat ho hs => ?_
  · have := hde d hd
    omega
  · obtain ⟨_, as, hrd⟩ := hR
    refine lam_call (s := { s2 with heap := g, toks := tk }) L (hkey d hd) (hlf d hd) (kp _ _ hf) ?_ ?_ (lim.keeps kp) (Reads.keeps kp hrd)
    · obtain ⟨c3, oc, ws, tq, x1, x2, x3, x4⟩ := hrec
      exact ⟨c3, oc, ws, tq, x1, kp _ _ x2, x3, x4⟩
    · have := c.hr.dp
      show X.A.depth < recursionLimit
      omega
  · obtain ⟨ys, hy, hyr⟩ := each_back (hs.mono fun u d z => z.1)
    have hle : ys.length ≤ sizeLine := by rw [hy.length, ho, hlen, ← rv.length]; exact hz
    have hn : H2 (s2.heap.objs.size + 1) = none := I2.hok.fresh (Nat.le_succ _)
    refine ⟨.ref _, upd H2 (s2.heap.objs.size + 1) (.lst ys), I2.laid (t' := tk) kp (Nat.le_succ _) ⟨hle, out, c2, hy, hat⟩, rfl, ?_⟩
    exact q _ M1 _ ((e1.trans e2).trans (Ext.fresh hn)) (t2.fresh hn) (Fz.lst ⟨.inl upd_same, t2.sto.nin hn⟩ (FzAll.ext (Ext.fresh hn) (fz_unpair hyr)))
end
end Cu
/-! CuY: a comprehension of data whose list is owned. -/
namespace Cu
open PySem PySem.Spec PyProof.Rows L2
section
variable {X : Cx} {W : WX} {k j : Nat} {G : Gam} {S S1 : Sto} {rs : List It} {elt tg iter : Expr} {ifs : List Expr} {scope : Scope} {own : List (Str × Nat)}
theorem lc_pureO {bind : It → Gam → Option Gam} {C : Sto → Prop} (c : Cxo X W k) (hi : EvI X tg iter G S rs C S1) (ht : TgOk X scope tg (own.map (·.2)) bind) (f : It → Bool) (gg : It → PyData) (hC : ∀ L, C (S1 ++ L))
    (hs : ∀ r ∈ rs, ∃ G', bind r (wipeG G (own.map (·.2))) = some G' ∧ (∀ L s H C cl fp, EvTs (blkX X scope s H C cl fp) ifs G' (S1 ++ L) (f r)) ∧ (f r = true → ∀ L s H C cl fp, Ev (blkX X scope s H C cl fp) elt G' (S1 ++ L) (.d (gg r)) (S1 ++ L))) (hz : rs.length ≤ 900000) :
    LcOwn X scope own elt tg iter ifs G S S1.length (S1 ++ [.lst (((rs.filter f).map gg).map .d)]) := by
  have hat : ∀ u : Own, (S1 ++ [u])[S1.length]? = some u := fun u => by rw [List.getElem?_append_right (Nat.le_refl _), Nat.sub_self]; rfl
  have hset : ∀ u v : Own, (S1 ++ [u]).set S1.length v = S1 ++ [v] := fun u v => by rw [List.set_append_right _ _ (Nat.le_refl _), Nat.sub_self]; rfl
  refine lc_own c hi ht (fun i S' => i ≤ rs.length ∧ S' = S1 ++ [.lst ((((rs.take i).filter f).map gg).map .d)]) ⟨Nat.zero_le _, rfl⟩ (fun i S' h => by rw [h.2]; exact hC _) (fun i r S' hr hJ => ?_) (fun S' h => by rw [h.2, List.take_length])
  obtain ⟨hi', rfl⟩ := hJ
  obtain ⟨G', h1, h2, h3⟩ := hs r (List.mem_of_getElem? hr)
  have hlt := (List.getElem?_eq_some_iff.mp hr).1
  have et : rs.take (i + 1) = rs.take i ++ [r] := by rw [List.take_add_one, hr]; rfl
  refine ⟨G', f r, h1, fun s H C cl fp => h2 _ s H C cl fp, fun hf => ⟨.d (gg r), _, _, fun s H C cl fp => h3 hf _ s H C cl fp, hat _, ?_, hlt, ?_⟩, fun hf => ⟨hlt, ?_⟩⟩
  · rw [List.length_map, List.length_map]
    have := List.length_filter_le f (rs.take i)
    rw [List.length_take] at this
    omega
  · rw [hset, et, List.filter_append, List.map_append, List.map_append]
    simp [hf]
  · rw [et, List.filter_append]
    simp [hf]
end
end Cu
/-! CuZ: f-strings of numbers, int of a truth, a text within a text, try without a name. -/
namespace Cu
open PySem PySem.Spec PyProof.Rows L2
section
variable {X : Cx} {W : WX} {k : Nat} {G : Gam} {S S1 S2 : Sto} {P : Post} {a b o e : Expr} {es : List Expr} {r : It} {p pos pos' np apos cpos p2 : Pos} {ds : List PyData} {x y acc out : Str} {n : Int} {body suite : List Stmt}
/-- int(b), b a truth -/
theorem ev_intB {t : Bool} (hm : X.mg "int" = none) (ha : Ev X a G S (.d (.bool t)) S1) (hg : Gl X "int" := by rfl) (he : starEach [a] X.env = (false, eval a X.env) :: starEach [] X.env := by rfl) : Ev X (.Call (.Name "int" p) [a] [] pos) G S (.d (.int (if t then 1 else 0))) S1 :=
  ev_ty call_int1 hm (by decide +kernel) (eva_cons ha eva_nil he) (fun M H vs Q s hvs q => by
    obtain ⟨v, rfl, hv⟩ := vr1 hvs
    exact .inr ⟨t, by rw [vr_bool hv], q _ M H Ext.refl s (Fz.int _)⟩) hg (by decide) (by decide) he rfl
/-- the one text lies in the other -/
def strIn (x y : Str) : Bool := !(Builtin.Str.occurrences y x 0 y.length 1).isEmpty
theorem evt_inStr (ha : Ev X a G S (.d (.str x)) S1) (hb : Ev X b G S1 (.d (.str y)) S2) (hm : behindInMarks .In b = false := by rfl) : EvT X (.Compare a [.In] [b] pos) G S (strIn x y) S2 := evt_cmp op_in_str ha hb (fun M H v u Q s hv hu q => ⟨x, y, vr_str hv, vr_str hu, q _ M H Ext.refl s (Fz.bl _)⟩) hm
theorem ev_inStr (ha : Ev X a G S (.d (.str x)) S1) (hb : Ev X b G S1 (.d (.str y)) S2) (hm : behindInMarks .In b = false := by rfl) : Ev X (.Compare a [.In] [b] pos) G S (.d (.bool (strIn x y))) S2 := ev_cmp op_in_str ha hb (fun M H v u Q s hv hu q => ⟨x, y, vr_str hv, vr_str hu, q _ M H Ext.refl s (Fz.bl _)⟩) hm
/-- {n} of an f-string -/
theorem ev_fmtI (ha : Ev X a G S (.d (.int n)) S1) (hz : n.natAbs.log2 < 1920) : Ev X (.FormattedValue a (-1) none pos) G S (.d (.str (toString n))) S1 := fun M σ H Q s q =>
  toE (pe_fmt pe_s) (ha M σ H _ s fun v M1 H1 e1 t1 r1 => .inr ⟨n, vr_int r1, hz, q _ M1 H1 e1 t1 (Fz.str _)⟩)
/-- the parts of an f-string, one behind the other -/
def EvJ (X : Cx) (es : List Expr) (G : Gam) (S : Sto) (acc out : Str) (S' : Sto) : Prop := ∀ (M : List Addr) (σ : Sig) (H : Hp) (Q : Str → Hp → Prop), Stt X.K M H S G σ →
  (∀ M' H', Ext M H M' H' → Stt X.K M' H' S' G σ → Q out H') → tJs (es.map (sE X)) acc σ H Q
theorem evj_nil : EvJ X [] G S acc acc S := fun M σ H Q s q => q M H Ext.refl s
theorem evj_cons (he : Ev X e G S (.d (.str y)) S1) (hr : EvJ X es G S1 (acc ++ y) out S2) (hz : (acc ++ y).length ≤ 1000000) : EvJ X (e :: es) G S acc out S2 := fun M σ H Q s q =>
  he M σ H _ s fun v M1 H1 e1 t1 r1 => ⟨y, vr_str r1, by rw [sizeLine_eq]; omega, hr M1 σ H1 Q t1 fun M2 H2 e2 t2 => q M2 H2 (e1.trans e2) t2⟩
theorem pj_s : ∀ es : List Expr, PJ X es (es.map (sE X))
  | [] => .nil
  | _ :: es => .cons pe_s (pj_s es)
theorem ev_fstr {v1 v2 : Expr} {rest : List Expr} (h : EvJ X (v1 :: v2 :: rest) G S Str.empty out S1) : Ev X (.JoinedStr (v1 :: v2 :: rest) pos) G S (.d (.str out)) S1 := fun M σ H Q s q =>
  toE (pe_joined (pj_s _)) (h M σ H _ s fun M1 H1 e1 t1 => q _ M1 H1 e1 t1 (Fz.str _))
/-- try: .. except x: suite; the suite raises nothing -/
theorem ws_try_only {x : Str} {c0 : Value} {b₀ : Stmt} (c : Cxo X W k) (hs : X.stack = X.env :: X.outer) (hf : X.env.frame = some X.env.locals) (hc : Names X x c0) (Qx : Addr → Gam → Sto → Prop)
    (hb : ∀ (W' : WX) (pn : List (Addr × Obj)) (xe : Value → Shared → Prop), Cxo (trX X pn xe) W' k → WSs (trX X pn xe) W' body G S { P with xc := Qx })
    (hsu : ∀ C G' S', Qx C G' S' → PySem.W.exmOne X.K (.ref C) c0 = some true ∧ ∀ (ad : Addr) (oe : Obj) (pn : List (Addr × Obj)), Zc (.ref C) none oe → (∃ vs, oe.data = .fields vs) →
      WSs (suX X ad oe pn) (fun _ _ _ _ => False) (b₀ :: suite) G' S' { nx := P.nx, rt := P.rt, bk := P.bk, ct := P.ct }) : WS X W (.Try body [.ExceptHandler (some (.Name x np)) none (b₀ :: suite) pos'] [] [] pos) G S P := fun M σ H D s m =>
  toS (ps_try_only (tb := fun W' => fun D σ H => ∀ pn xe, Takes (X.tr pn xe) W' → PassesOwn (model X.prog X.w) X.A X.env xe → sSs (X.tr pn xe) body D σ H) (ts := fun ad cls d => fun D σ H => ∀ oe pn, Zc cls d oe → (∃ vs, oe.data = .fields vs) → sSs (suX X ad oe pn) (b₀ :: suite) D σ H) hs hf hc c.tk
    (fun W' pn xe tk po => ⟨fun pins s1 σ1 H1 D1 I1 h1 => h1 pn xe tk po pins s1 I1⟩) (fun ad oe cls d pn hz hd => ⟨fun pins s1 σ1 H1 D1 I1 h1 => h1 oe pn hz hd pins s1 I1⟩)) (by
    intro pn xe tk po
    refine hb _ pn xe ⟨c.calm, c.nd, tk, po, c.hr⟩ M σ H D s ⟨m.nx, m.rt, m.bk, m.ct, fun M' σ' H' G' C S' e1 t1 q1 => ?_⟩
    obtain ⟨h1, h2⟩ := hsu C G' S' q1
    refine ⟨true, h1, fun _ ad had oe pn' hz hd => ?_, fun q => (nomatch q)⟩
    refine h2 ad oe pn' hz hd M' _ H' _ t1 ⟨fun M2 σ2 H2 G2 S2 e2 t2 q2 => m.nx M2 _ H2 _ S2 (e1.trans e2) t2 q2, fun v M2 H2 r S2 e2 => m.rt v M2 H2 r S2 (e1.trans e2), fun M2 σ2 H2 G2 S2 e2 t2 q2 => m.bk M2 _ H2 _ S2 (e1.trans e2) t2 q2, fun M2 σ2 H2 G2 S2 e2 t2 q2 => m.ct M2 _ H2 _ S2 (e1.trans e2) t2 q2, fun _ _ _ _ _ _ _ _ q2 => q2.elim⟩)
end
end Cu
/-! CvA: enumerate of a text. -/
namespace L2
open PySem PySem.Spec PyProof.Rows
/-- the signs of a text, each in a new pair with its number -/
def Itq (x : Str) : It := ⟨fun i _ => i < x.cps.size, fun i H v H' => ∃ T c, v = .ref T ∧ H T = none ∧ H' = upd H T (.tup [.int (i : Nat), .str ⟨#[c]⟩]) ∧ x.cps[i]? = some c, fun i _ => x.cps.size ≤ i⟩
theorem enumQ_end {prog : Program} {w : World} {A : Around} {E : Value → Shared → Prop} {s : Shared} {e it : Addr} {x : Str} {t : Tok} {i : Int} {j : Nat} {old : Value} {Q : Option Value → Shared → Prop} (hh : A.handled = none) (he : IsEnum s.heap e it i old) (hit : s.heap.IsStrIter it (strIterType x) x t j) (hx : x.cps[j]? = none)
    (hQ : ∀ h', Heap.ExtBut it s.heap h' → Q none { s with heap := h' }) : wpAny (model prog w) A (pyNext (.ref e)) Q E s := by
  have hT : s.TypeIs (.ref e) "enumerate" := ⟨_, he, rfl⟩
  have nx : ∀ {A' : Around} {Q : Value → Shared → Prop} {E : Value → Shared → Prop}, A'.handled = none → (∀ h' e, Heap.ExtBut it s.heap h' → (∃ o, h'.get? e = some o ∧ o.cls = .type "StopIteration") → E (.ref e) { s with heap := h' }) → wpAny (model prog w) A' (Builtin.SmallTypes.nextOf (.ref it)) Q E s := by
    intro A' Q E h1 h2
    cases ha : x.cps.all (· < 128)
    · simp only [strIterType, ha, Bool.false_eq_true, if_false] at hit
      exact wpAny_nextOf_wide_end h1 hit hx h2
    · simp only [strIterType, ha, if_true] at hit
      exact wpAny_nextOf_ascii_end h1 hit hx h2
  unfold pyNext
  refine wpAny_bind (wpAny_attempt (wpAny_callSpecial?_slot (name := Str.ofString "__next__") hT F.slot_enumerate_next
    (wpAny_call_entry F.slot_enumerate_next hT F.entry_enumerate_next ?_ (F.args_enumerate_next_1 _))))
  show wpAny _ _ (field (.ref e) 2 >>= _) _ _ _
  refine wpAny_bind (wpAny_field he rfl (x := .ref it) rfl ?_)
  refine wpAny_bind (nx hh fun h' y he' hx' => ?_)
  obtain ⟨o, ho, hc⟩ := hx'
  refine wpAny_bind (wpAny_isInstance (T := "StopIteration") (b := true) ⟨o, ho, hc⟩ isSubtype_stop ?_)
  exact wpAny_pure (hQ _ he')
theorem turn_enumQ {P : Program} {w : World} {K : PySem.W.Frag} {elts : List Expr} {kk : Nat} {tpos : Pos} (x : Str) (t : Tok) (e it : Addr) :
    Turn P w K (.Tuple elts kk tpos) (Itq x) [e, it] e (fun i h => (∃ old, IsEnum h e it ((i : Nat) : Int) old) ∧ h.IsStrIter it (strIterType x) x t i ∧ e ≠ it) where
  mem := by simp
  obj := fun i h st b hb => by
    obtain ⟨⟨old, he⟩, ⟨o, ho, hc, hd⟩, _⟩ := st
    have e' : b = e ∨ b = it := by simpa using hb
    rcases e' with z | z
    · rw [z]; exact ⟨_, he, fun v q => nomatch q⟩
    · rw [z]; exact ⟨o, ho, fun v q => by rw [hd] at q; cases q⟩
  keep := fun i h h' st k => let ⟨⟨old, he⟩, ⟨o, ho, r⟩, hne⟩ := st; ⟨⟨old, k e (by simp) _ he⟩, ⟨o, k it (by simp) o ho, r⟩, hne⟩
  item := by
    intro X hP hw hK hc i pins s σ H E I hf st hg
    subst hP hw hK
    obtain ⟨⟨old, he⟩, hit, hne⟩ := st
    have hh : X.A.in1.handled = none := I.ok.hd hc
    have D : Draws X.prog X.w X.A.in1 it [it] x.cps.size _ _ := Draws.text hh it x t
    have hel : e < s.heap.objs.size := Heap.lt_size he
    refine wpAny_pyNext_enum_itemD D he hit hg hne (by simpa using hne) fun v h' tk hv ho hit' hT hsz hk => ?_
    obtain ⟨c, u, hx, rfl⟩ := hv
    refine ⟨_, rfl, wpAny_letOwnedTupleGo_enum (s := { s with heap := h', toks := tk + 1 }) ho fun h'' he' sb => ?_⟩
    have hT2 : h''.get? s.heap.objs.size = some { cls := .type "tuple", data := .seq #[.int i tk, .str ⟨#[c]⟩ u] } := (sb.2 _ (Nat.ne_of_gt hel)).trans hT
    have new : ObjOk X.prog X.w (upd H s.heap.objs.size (.tup [.int (i : Nat), .str ⟨#[c]⟩])) h'' s.heap.objs.size (.tup [.int (i : Nat), .str ⟨#[c]⟩]) :=
      ⟨by show 2 ≤ sizeLine; decide, [.int i tk, .str ⟨#[c]⟩ u], .cons ⟨_, rfl⟩ (.cons ⟨_, rfl⟩ .nil), ⟨_, hT2, rfl, _, rfl⟩⟩
    have I1 : Inv X pins σ (upd H s.heap.objs.size (.tup [.int (i : Nat), .str ⟨#[c]⟩])) { s with heap := h'', toks := tk + 1 } :=
      I.turnedNew (ch := [e, it]) (fun b ob hb q => (sb.2 b (fun z => hb (by simp [z]))).trans (hk b ob (fun z => hb (by simp [z])) (fun z => hb (by simp [z])) q)) hf (Nat.le_refl _) new
    obtain ⟨oi, hoi, ri⟩ := hit'
    refine ⟨.ref s.heap.objs.size, _, I1, rfl, ⟨_, c, rfl, I.hok.fresh (Nat.le_refl _), rfl, hx⟩, ⟨⟨.str ⟨#[c]⟩ u, ?_⟩, ⟨oi, (sb.2 it (Ne.symm hne)).trans hoi, ri⟩, hne⟩, fun b hb => ?_⟩
    · have e1 : ((i + 1 : Nat) : Int) = (i : Int) + 1 := by omega
      rw [e1]; exact he'
    · have hb' : b < s.heap.objs.size := by
        have e' : b = e ∨ b = it := by simpa using hb
        rcases e' with z | z
        · rw [z]; exact hel
        · rw [z]; obtain ⟨_, q, _⟩ := hit; exact Heap.lt_size q
      rw [upd_ne (Nat.ne_of_lt hb')]
      exact (hf b hb).1
  done := by
    intro X hP hw hK hc i pins s σ H E I hf st hg
    subst hP hw hK
    obtain ⟨⟨old, he⟩, hit, hne⟩ := st
    obtain ⟨f0, f1, f2, f3, f4, f5⟩ := hf it (by simp)
    exact enumQ_end (I.ok.hd hc) he hit (Array.getElem?_eq_none hg) fun h' eb => ⟨rfl, I.turned (t' := s.toks) (fun b o hb q => eb b o hb q) f0 f1 f3 f4 f5⟩
  self := fun A i s Q E st h => let ⟨⟨_, he⟩, _⟩ := st; wpAny_pyIter_enum he h
def iEnumQ (ta : TA) : TI := fun σ H R => ta σ H fun vs H1 => ∃ x, vs = [.str x] ∧ R (Itq x) H1
theorem pi_enumQ {X : Cx} {e : Expr} {ta : TA} {p pos tpos : Pos} {elts : List Expr} {kk : Nat} (hg : Gl X "enumerate") (hm : X.mg "enumerate" = none) (ha : PA X [e] ta) (hs : starEach [e] X.env = [(false, eval e X.env)] := by rfl) :
    PI X (.Tuple elts kk tpos) (.Call (.Name "enumerate" p) [e] [] pos) (iEnumQ ta) := by
  refine ⟨fun pins s σ H R I h => ?_⟩
  refine Call_ (ld_blt I hg hm boot_enumerate (PyProof.Rows.callWith_type1 (thn (ha.run pos pins s σ H _ I h) fun us s1 ⟨vs, H1, I1, r1, q1⟩ => ?_) hs rfl))
  obtain ⟨x, ex, q⟩ := q1
  subst ex
  cases r1 with
  | cons r rr =>
    cases rr
    obtain ⟨t, rfl⟩ := r
    refine call_enumerate_str fun h' he hit hsz hk => wpAny_pyIter_enum he ?_
    have I2 : Inv X pins σ H1 { s1 with heap := h' } := I1.kept (t' := s1.toks) hk
    refine ⟨s1.heap.objs.size + 1, [s1.heap.objs.size + 1, s1.heap.objs.size], _, _, H1, rfl, I2, turn_enumQ x t (s1.heap.objs.size + 1) s1.heap.objs.size, ⟨⟨.none, he⟩, hit, Nat.succ_ne_self _⟩, fun b hb => ?_, q⟩
    have e' : b = s1.heap.objs.size + 1 ∨ b = s1.heap.objs.size := by simpa using hb
    have hle : s1.heap.objs.size ≤ b := by
      rcases e' with z | z
      · rw [z]; exact Nat.le_add_right _ _
      · rw [z]; exact Nat.le_refl _
    exact I1.fpOk hle (I1.hok.fresh hle)
end L2
namespace Cu
open PySem PySem.Spec PyProof.Rows L2
section
variable {X : Cx} {W : WX} {k : Nat} {G : Gam} {S S1 S2 : Sto} {p pos pos' tpos : Pos}
theorem wk_enumQ {K : PySem.W.Frag} {M1 : List Addr} {H1 : Hp} {x : Str} : Wk K (Itq x) anyS M1 H1 ((signs x).zipIdx.map fun y => It.d (.tuple [.int (y.2 : Nat), y.1])) where
  go := fun i M' H' S' hi e s _ => by rw [List.length_map, List.length_zipIdx, signs_len] at hi; exact hi
  yl := fun i M' H' S' v H2 r hr e s _ y => by
    obtain ⟨T, c, rfl, hT, rfl, hc⟩ := y
    unfold signs at hr
    rw [List.getElem?_map, List.getElem?_zipIdx, List.getElem?_map, Array.getElem?_toList, hc] at hr
    cases hr
    have e2 : Ext M' H' M' (upd H' T (.tup [.int ((0 + i : Nat) : Int), .str ⟨#[c]⟩])) := Ext.fresh hT
    rw [Nat.zero_add] at e2
    refine ⟨e2, s.fresh hT, ?_⟩
    show Fz M' _ (.ref T) (.tuple [.int ((0 + i : Nat) : Int), .str ⟨#[c]⟩])
    rw [Nat.zero_add]
    exact Fz.tup ⟨upd_same, s.nin hT⟩ (.cons (Fz.int _) (.cons (Fz.str _) .nil))
  st := fun i M' H' S' hi e s _ => by rw [List.length_map, List.length_zipIdx, signs_len] at hi; exact hi
/-- enumerate(x), x a text -/
theorem evi_enumQ {elts : List Expr} {kk : Nat} {a1 : Expr} {x : Str} (hm : X.mg "enumerate" = none) (hi : Ev X a1 G S (.d (.str x)) S1) (hg : Gl X "enumerate" := by rfl) (hst : starEach [a1] X.env = [(false, eval a1 X.env)] := by rfl) :
    EvI X (.Tuple elts kk tpos) (.Call (.Name "enumerate" p) [a1] [] pos') G S ((signs x).zipIdx.map fun y => It.d (.tuple [.int (y.2 : Nat), y.1])) anyS S1 :=
  ⟨_, pi_enumQ hg hm pa_s hst, fun M σ H R s q => (eva_cons hi eva_nil hst) M σ H _ s fun vs M1 H1 e1 t1 r1 => by
    obtain ⟨v, rfl, hv⟩ := vr1 r1
    exact ⟨x, by rw [vr_str hv], q M1 H1 _ e1 t1 wk_enumQ⟩⟩
theorem ev_ltLe {a b : Expr} {i l h : Int} {e3 : Expr} (ha : Ev X a G S (.d (.int l)) S1) (hb : Ev X b G S1 (.d (.int i)) S2) (hc : l < i → Ev X e3 G S2 (.d (.int h)) S2) (hm : lastMarks [.Lt, .LtE] [b, e3] = false := by rfl) : Ev X (.Compare a [.Lt, .LtE] [b, e3] pos) G S (.d (.bool (decide (l < i) && decide (i ≤ h)))) S2 :=
  ev_chain op_lt op_le ha hb (rw_intB (f := fun i j => decide (i < j))) (fun z => hc (of_decide_eq_true z)) (fun _ => rw_intB (f := fun i j => decide (i ≤ j))) hm
/-- enumerate(xs), xs owned data that stays -/
theorem evi_enumO {elts : List Expr} {kk n : Nat} {a1 : Expr} {ds : List PyData} (hm : X.mg "enumerate" = none) (hi : Ev X a1 G S (.o n) S1) (hn : S1[n]? = some (.lst (ds.map .d))) (hg : Gl X "enumerate" := by rfl) (hst : starEach [a1] X.env = [(false, eval a1 X.env)] := by rfl) :
    EvI X (.Tuple elts kk tpos) (.Call (.Name "enumerate" p) [a1] [] pos') G S (ds.zipIdx.map fun x => It.d (.tuple [.int (x.2 : Nat), x.1])) (fun S' => S'[n]? = some (.lst (ds.map .d))) S1 :=
  ⟨_, pi_enum hg hm pa_s hst, fun M σ H R s q => (eva_cons hi eva_nil hst) M σ H _ s fun vs M1 H1 e1 t1 r1 => by
    obtain ⟨v, rfl, hv⟩ := vr1 r1
    obtain ⟨ad, had, ev⟩ := hv
    obtain ⟨vs0, hv0, hr0⟩ := t1.sto.rep n ad _ had hn
    refine ⟨ad, vs0, by rw [ev], .of hv0, q M1 H1 _ e1 t1 ⟨fun i M' H' S' hi e s hC => ?_, fun i M' H' S' x H2 r hr e s hC y => ?_, fun i M' H' S' hi e s hC => ?_⟩⟩
    · obtain ⟨vs, hv, hr⟩ := s.rep n ad _ (e.get had) hC
      exact ⟨vs, vs[i]'(by rw [hr.len, List.length_map]; simpa using hi), .of hv, List.getElem?_eq_getElem _⟩
    · obtain ⟨vs, hv, hr'⟩ := s.rep n ad _ (e.get had) hC
      obtain ⟨T, u, rfl, hT, rfl, y⟩ := y
      have hx := y vs (.of hv)
      obtain ⟨r', h1, h2⟩ := reps_at hr' hx
      rw [List.getElem?_map] at hr h1
      rw [List.getElem?_zipIdx] at hr
      cases ed : ds[i]? with
      | none => rw [ed] at h1; cases h1
      | some d =>
      rw [ed] at h1 hr
      cases h1
      cases hr
      have e2 : Ext M' H' M' (upd H' T (.tup [.int ((0 + i : Nat) : Int), u])) := Ext.fresh hT
      rw [Nat.zero_add] at e2
      refine ⟨e2, s.fresh hT, ?_⟩
      show Fz M' _ (.ref T) (.tuple [.int ((0 + i : Nat) : Int), d])
      rw [Nat.zero_add]
      exact Fz.tup ⟨upd_same, s.nin hT⟩ (.cons (Fz.int _) (.cons (Fz.ext e2 h2) .nil))
    · obtain ⟨vs, hv, hr⟩ := s.rep n ad _ (e.get had) hC
      refine ⟨vs, .of hv, ?_⟩
      rw [hr.len, List.length_map]
      simpa using hi⟩
theorem evx_andX {a b : Expr} {es : List Expr} {Q1 Qr : It → Sto → Prop} {Qx : Addr → Sto → Prop} (h : EvX X W a G S Q1 Qx) (hx : ∀ r S1, Q1 r S1 → r = .d (.bool true) ∧ EvX X W (.BoolOp .And (b :: es) pos) G S1 Qr Qx) : EvX X W (.BoolOp .And (a :: b :: es) pos) G S Qr Qx := fun M σ H Q s h1 h2 =>
  toE (pe_and pe_s pe_s) (h M σ H _ s (fun v M1 H1 r S1 e1 s1 r1 q1 => by
    obtain ⟨rfl, hx⟩ := hx r S1 q1
    exact ⟨true, vr_bool r1, iteT (hx M1 σ H1 _ s1 (fun v M' H' r S' e2 => h1 v M' H' r S' (e1.trans e2)) (fun M' H' C S' e2 => h2 M' H' C S' (e1.trans e2)))⟩) h2)
end
end Cu
/-! CvB: range(a, b) of whole numbers of any size. -/
namespace L2
open PySem PySem.Spec PyProof.Rows
theorem turn_long {P : Program} {w : World} {K : PySem.W.Frag} {tg : Expr} (it : Addr) (lo : Int) (n : Nat) : Turn P w K tg (Itr lo n) [it] it (fun i h => IsLongIter h it (lo + (i : Nat) * 1) ((n : Int) - (i : Nat)) 1) where
  mem := by simp
  obj := fun i h st b hb => by
    have e : b = it := by simpa using hb
    subst e
    exact ⟨_, st, fun v z => nomatch z⟩
  keep := fun i h h' st k => k it (by simp) _ st
  item := by
    intro X hP hw hK hc i pins s σ H E I hf st hg
    subst hP hw hK
    obtain ⟨f0, f1, f2, f3, f4, f5⟩ := hf it (by simp)
    have W := Walks.longrange (prog := X.prog) (w := X.w) (I.ok.hd hc) it lo 1 n
    refine W.item i s _ _ hg st fun v h' tk hv st' kk => ?_
    obtain ⟨t, rfl⟩ := hv
    have I1 : Inv X pins σ H { s with heap := h', toks := tk } := I.turned (fun b o hb e => kk b o (by simpa using hb) e) f0 f1 f3 f4 f5
    refine ⟨_, rfl, go_of (s := { s with heap := h', toks := tk }) (n := "longrange_iterator") st' rfl rfl (by decide) ⟨.int (lo + i), H, I1, ⟨t, ?_⟩, ⟨rfl, rfl⟩, st', fun b hb => (hf b hb).1⟩⟩
    rw [Int.mul_one]
  done := by
    intro X hP hw hK hc i pins s σ H E I hf st hg
    subst hP hw hK
    obtain ⟨f0, f1, f2, f3, f4, f5⟩ := hf it (by simp)
    exact wpAny_pyNext_long_end (I.ok.hd hc) st (by have : n ≤ i := hg; omega) fun h' eb => ⟨rfl, I.turned (t' := s.toks) (fun b o hb e => eb b o hb e) f0 f1 f3 f4 f5⟩
  self := fun _ _ _ _ _ st h => wpAny_pyIter_longiter st h
theorem range_itB {X : Cx} {tg : Expr} {pins : List (Addr × Obj)} {σ : St} {H : Hp} {s : Shared} {R : It → Hp → Prop} {E : Value → Shared → Prop} {lo hi : Int} {t u v : Tok} {tk : Nat} (I : Inv X pins σ H s)
    (q : R (Itr lo (hi - lo).toNat) H) : wpAny (model X.prog X.w) X.A (pyIter (.ref s.heap.objs.size)) (PIE X pins σ tg R) E { s with heap := s.heap.push { cls := .type "range", data := .fields #[.int lo t, .int hi u, .int 1 v] }, toks := tk } := by
  have e1 : lo + ((0 : Nat) : Int) * 1 = lo := by simp
  have e2 : (((hi - lo).toNat : Nat) : Int) - ((0 : Nat) : Int) = Builtin.Range.rangeSize lo hi 1 := by rw [rangeSize_one]; split <;> omega
  have I1 : Inv X pins σ H { s with heap := s.heap.push { cls := .type "range", data := .fields #[.int lo t, .int hi u, .int 1 v] }, toks := tk } := I.kept fun b o e => Heap.get?_push_of_some _ e
  have fp : ∀ b ∈ [(s.heap.push { cls := .type "range", data := .fields #[.int lo t, .int hi u, .int 1 v] }).objs.size], FpOk X pins H b := fun b hb => by
    have e : b = (s.heap.push { cls := .type "range", data := .fields #[.int lo t, .int hi u, .int 1 v] }).objs.size := by simpa using hb
    subst e
    exact I1.fpOk (Nat.le_refl _) (I1.hok.fresh (Nat.le_refl _))
  cases hs : Builtin.Range.small lo hi 1 with
  | true =>
    refine wpAny_pyIter_range (IsRange.new ..) hs ?_
    refine ⟨(s.heap.push { cls := .type "range", data := .fields #[.int lo t, .int hi u, .int 1 v] }).objs.size, [(s.heap.push { cls := .type "range", data := .fields #[.int lo t, .int hi u, .int 1 v] }).objs.size], _, _, H, rfl,
      I1.kept (t' := tk) fun b o e => Heap.get?_push_of_some _ e, turn_range _ lo (hi - lo).toNat, ?_, fp, q⟩
    show IsRangeIter _ _ (lo + ((0 : Nat) : Int) * 1) ((((hi - lo).toNat : Nat) : Int) - ((0 : Nat) : Int)) 1
    rw [e1, e2]
    exact Heap.get?_push_size _ rfl
  | false =>
    refine wpAny_pyIter_longrange (IsRange.new ..) hs ?_
    refine ⟨(s.heap.push { cls := .type "range", data := .fields #[.int lo t, .int hi u, .int 1 v] }).objs.size, [(s.heap.push { cls := .type "range", data := .fields #[.int lo t, .int hi u, .int 1 v] }).objs.size], _, _, H, rfl,
      I1.kept (t' := tk) fun b o e => Heap.get?_push_of_some _ e, turn_long _ lo (hi - lo).toNat, ?_, fp, q⟩
    show IsLongIter _ _ (lo + ((0 : Nat) : Int) * 1) ((((hi - lo).toNat : Nat) : Int) - ((0 : Nat) : Int)) 1
    rw [e1, e2]
    exact Heap.get?_push_size _ rfl
def iRng2B (ta : TA) : TI := fun σ H R => ta σ H fun vs H1 => ∃ i j : Int, vs = [.int i, .int j] ∧ R (Itr i (j - i).toNat) H1
theorem pi_range2B {X : Cx} {tg a b : Expr} {ta : TA} {p pos : Pos} (hg : Gl X "range") (hm : X.mg "range" = none) (ha : PA X [a, b] ta) (hs : starEach [a, b] X.env = [(false, eval a X.env), (false, eval b X.env)] := by rfl) (hs2 : starEach [b] X.env = [(false, eval b X.env)] := by rfl) :
    PI X tg (.Call (.Name "range" p) [a, b] [] pos) (iRng2B ta) := by
  refine ⟨fun pins s σ H R I h => ?_⟩
  refine Call_ (ld_blt I hg hm boot_range (PyProof.Rows.callWith_type1 (thn (ha.run pos pins s σ H _ I h) fun us s1 ⟨vs, H1, I1, r1, q1⟩ => ?_) (by rw [hs, hs2]) (by rw [hs2]; rfl)))
  obtain ⟨i, j, e, q⟩ := q1
  subst e
  cases r1 with
  | cons r rr =>
    cases rr with
    | cons r' rr =>
      cases rr
      obtain ⟨t, rfl⟩ := r
      obtain ⟨t', rfl⟩ := r'
      exact call_range_2 (range_itB I1 q)
end L2
namespace Cu
open PySem PySem.Spec PyProof.Rows L2
section
variable {X : Cx} {W : WX} {k : Nat} {G : Gam} {S S1 S2 : Sto} {tg : Expr} {p pos pos' tpos : Pos}
theorem evi_range2B {lo hi : Int} {a1 a2 : Expr} (hm : X.mg "range" = none) (h1 : Ev X a1 G S (.d (.int lo)) S1) (h2 : Ev X a2 G S1 (.d (.int hi)) S2)
    (hR : Gl X "range" := by rfl) (hst : starEach [a1, a2] X.env = [(false, eval a1 X.env), (false, eval a2 X.env)] := by rfl) (hst2 : starEach [a2] X.env = [(false, eval a2 X.env)] := by rfl) : EvI X tg (.Call (.Name "range" p) [a1, a2] [] pos') G S (rngI lo (hi - lo).toNat) anyS S2 :=
  ⟨_, pi_range2B hR hm pa_s hst hst2, fun M σ H R s q => toA (pa_cons pe_s (pa_cons pe_s pa_nil hst2) (by rw [hst, hst2])) (h1 M σ H _ s fun v M1 H1 e1 t1 r1 => h2 M1 σ H1 _ t1 fun v2 M2 H2 e2 t2 r2 => ⟨lo, hi, by rw [vr_int r1, vr_int r2], q M2 H2 _ (e1.trans e2) t2 wk_range⟩)⟩
end
end Cu
/-! CvC: tuples that hold owned objects. -/
namespace Cu
open PySem PySem.Spec PyProof.Rows L2
section
variable {X : Cx} {W : WX} {k j : Nat} {G G1 G2 : Gam} {S S1 S2 S3 : Sto} {P : Post} {e a b : Expr} {es : List Expr} {r x y z : It} {rs : List It} {pos pos' : Pos} {n : Int} {ds : List PyData}
theorem has_ref {K : PySem.W.Frag} {M : List Addr} {H : Hp} : ∀ {vs : List V} {rs : List It}, VReps K M H vs rs → (∃ m, It.o m ∈ rs) → ∃ b, V.ref b ∈ vs
  | _, _, .nil, ⟨_, h⟩ => nomatch h
  | _, _, .cons q t, ⟨m, h⟩ => by
    rcases List.mem_cons.mp h with e | h
    · subst e
      obtain ⟨a, _, rfl⟩ := q
      exact ⟨a, List.mem_cons_self⟩
    · obtain ⟨b, hb⟩ := has_ref t ⟨m, h⟩
      exact ⟨b, List.mem_cons_of_mem _ hb⟩
/-- a tuple, some of its items owned -/
theorem ev_tupO {x1} (h : EvA X es G S rs S1) (ho : ∃ m, It.o m ∈ rs) (hl : rs.length ≤ 1000 := by exact Nat.le_of_ble_eq_true rfl) : Ev X (.Tuple es x1 pos) G S (.o S1.length) (S1 ++ [.tup rs]) := fun M σ H Q s q =>
  toE (pe_tup pa_s) (h M σ H _ s fun vs M1 H1 e1 s1 r1 => ⟨Nat.le_of_lt (small1000 (by rw [r1.len]; exact hl)), fun p hp => by
    have e2 : Ext M1 H1 (M1 ++ [p]) (upd H1 p (.tup vs)) := Ext.own hp
    have s2 : StoreOk X.K (M1 ++ [p]) (upd H1 p (.tup vs)) (S1 ++ [.tup rs]) := s1.sto.own hp ⟨vs, upd_same, r1.ext e2, has_ref r1 ho⟩
    exact q _ _ _ (e1.trans e2) (s1.mono e2 s2) ⟨p, by rw [← s1.sto.len, List.getElem?_append_right (Nat.le_refl _), Nat.sub_self]; rfl, rfl⟩⟩)
/-- a target of a tuple that is owned -/
theorem evg_tupO {j t : Nat} (hc : X.calm = true) (hi : S[t]? = some (.tup rs)) (h : EvGs X es rs G S G1 S1) (hn : (assignEach es X.env).length = rs.length := by rfl) (hst : (assignEach es X.env).findIdx? (·.1) = none := by rfl) : EvG X (.Tuple es j pos) (.o t) G S G1 S1 := fun M σ H v Q s hv q => by
  obtain ⟨a, ha, rfl⟩ := hv
  obtain ⟨vs, h1, h2, _⟩ := s.sto.rep t a _ ha hi
  exact toG (pg_tup hc pgs_s hn hst) ⟨_, _, rfl, .of h1, by rw [h2.len], h M σ H _ Q s h2 q⟩
/-- t[i] of a tuple that is owned -/
theorem ev_ixTO {i : Nat} {d : It} (ha : Ev X a G S (.o i) S1) (hb : Ev X b G S1 (.d (.int n)) S2) (hi : S2[i]? = some (.tup rs)) (h : atI rs n = some d) (hs : PlainIx b := by exact fun _ _ => rfl) : Ev X (.Subscript a b pos) G S d S2 := ev_ixR ix_tup ha hb (fun M H v u Q s hv hu q => by
  obtain ⟨ad, had, rfl⟩ := hv
  obtain ⟨vs, h1, h2, _⟩ := s.rep i ad _ had hi
  unfold atI at h
  cases q1 : ixN rs.length n with
  | none => rw [q1] at h; cases h
  | some l =>
    rw [q1] at h
    have hl : l < rs.length := (List.getElem?_eq_some_iff.mp h).1
    obtain ⟨w, hw⟩ : ∃ w, vs[l]? = some w := ⟨_, List.getElem?_eq_getElem (by rw [h2.len]; exact hl)⟩
    obtain ⟨r', h3, h4⟩ := reps_at h2 hw
    rw [show rs[l]? = some d from h] at h3
    cases h3
    exact ⟨ad, vs, n, w, rfl, vr_int hu, .of h1, by unfold atI; rw [h2.len, q1]; exact hw, q _ M H Ext.refl s h4⟩) hs
end
end Cu
/-! CwI: dicts with tuple keys: d.pop(k, v), dict(d), == of pairs of dicts whose values are all True. -/
namespace Cu
open PySem PySem.Spec PyProof.Rows L2
section
variable {κ : Type} [DecidableEq κ]
def dropI (kvs : List (κ × It)) (k : κ) : List (κ × It) := kvs.filter fun kv => decide (kv.1 ≠ k)
theorem prep_drop {K : PySem.W.Frag} {M : List Addr} {H : Hp} {k : κ} : ∀ {ps : List (κ × V)} {kvs : List (κ × It)}, PRep K M H ps kvs → PRep K M H (dropK ps k) (dropI kvs k)
  | _, _, .nil => .nil
  | (p1, p2) :: ps, (q1, q2) :: kvs, .cons h t => by
    obtain ⟨e, h2⟩ := h
    have e : p1 = q1 := e
    subst e
    have ih := prep_drop (k := k) t
    unfold dropK dropI
    rw [List.filter_cons, List.filter_cons]
    by_cases c : p1 ≠ k
    · rw [if_pos (by simpa using c), if_pos (by simpa using c)]
      exact .cons ⟨rfl, h2⟩ ih
    · rw [if_neg (by simpa using c), if_neg (by simpa using c)]
      exact ih
theorem drop_none {kvs : List (κ × It)} {k : κ} (h : valI kvs k = none) : dropI kvs k = kvs := by
  unfold dropI
  refine List.filter_eq_self.mpr fun p hp => ?_
  refine decide_eq_true fun e => ?_
  unfold valI at h
  rw [Option.map_eq_none_iff, List.find?_eq_none] at h
  exact h p hp (by simpa using e)
end
section
variable {X : Cx} {W : WX} {k j : Nat} {G : Gam} {S S1 S2 : Sto} {e a b o : Expr} {pos apos cpos p : Pos} {i : Nat} {kd : PyData} {kk : List Key} {kvs : List (List Key × It)} {z : PyData}
theorem ty_dT (hi : S[i]? = some (.dT kvs)) : ∀ M H v, StoreOk X.K M H S → VRep X.K M H v (.o i) → tyV X.K "dict" v H := fun M H v s h => by
  obtain ⟨ad, ps, rfl, _, h1, _⟩ := dT_at s h hi
  exact .inr (.inr (.inl ⟨rfl, .inr ⟨ps, h1⟩⟩))
/-- d.pop(k, z) -/
theorem ev_dpopT (c : Cxo X W k) (ho : Ev X o G S (.o i) S1) (hi : S1[i]? = some (.dT kvs)) (ha : Ev X a G S1 (.d kd) S2) (hb : Ev X b G S2 (.d z) S2) (hi2 : S2[i]? = some (.dT kvs)) (hk : keyD kd = some kk) (hbase : attributeBase o "pop" X.env (eval o X.env) = eval o X.env := by rfl)
    (hfew : ((backTo cpos (starEach [a, b] X.env)).all (fun x => !x.1) && (backToKw cpos (keywordEach [] X.env)).all (fun x => x.1.isSome) && decide ([a, b].length + ([] : List Keyword).length + (if ([] : List Keyword).isEmpty then 0 else 1) < 30)) = true := by rfl)
    (hline : (apos.endLine == cpos.line) = true := by rfl) (hs : starEach [a, b] X.env = (false, eval a X.env) :: starEach [b] X.env := by rfl) (hs2 : starEach [b] X.env = (false, eval b X.env) :: starEach [] X.env := by rfl) (hpl : (backTo cpos (starEach [b] X.env)).any (·.1) = false := by rfl) :
    Ev X (.Call (.Attribute o "pop" apos) [a, b] [] cpos) G S ((valI kvs kk).getD (.d z)) (S2.set i (.dT (dropI kvs kk))) :=
  ev_bm PySem.F.plainAttrs_dict PySem.F.slot_dict_pop PySem.F.type_dict_pop (DX.mt_popT (u1 c)) ho (ty_dT hi) (eva_cons ha (eva_cons hb eva_nil hs2) hs) (fun M H v vs Q s hv hvs q => by
    obtain ⟨v1, v2, rfl, hv1, hv2⟩ := vr2 hvs
    obtain ⟨ad, ps, rfl, had, h1, h2⟩ := dT_at s hv hi2
    obtain ⟨t, rfl, ht, htM⟩ := key_at hk hv1
    refine ⟨ad, ps, kk, t, v2, rfl, rfl, h1, ht, fun w hw => ?_, fun hn => ?_⟩
    · rcases prep_val (k := kk) h2 with ⟨z, _⟩ | ⟨w', r', h3, h4, h5⟩
      · rw [hw] at z; cases z
      · rw [hw] at h3
        cases h3
        rw [h4] at q
        have e3 : Ext M H M (upd H ad (.dT (dropK ps kk))) := Ext.put (List.mem_of_getElem? had)
        have p2 : PRep X.K M H (dropK ps kk) (dropI kvs kk) := prep_drop h2
        exact q w M _ e3 (s.put (w := .dT (dropI kvs kk)) had ⟨_, upd_same, Paired.mapP p2 fun _ _ q => ⟨q.1, q.2.ext e3⟩⟩) (h5.ext e3)
    · rcases prep_val (k := kk) h2 with ⟨_, z⟩ | ⟨w', r', h3, _, _⟩
      · rw [z] at q
        rw [drop_none z] at q
        have e : S2.set i (.dT kvs) = S2 := by
          have hl := (List.getElem?_eq_some_iff.mp hi2).1
          refine List.ext_getElem? fun j => ?_
          by_cases e : i = j
          · subst e; rw [List.getElem?_set_self hl, hi2]
          · rw [List.getElem?_set_ne e]
        rw [e] at q
        exact q v2 M H Ext.refl s hv2
      · rw [hn] at h3; cases h3) hbase hfew hline hs hpl
end
/-! ### dict(d) -/
def rDictCopyT (P : Program) (w : World) : List V → Hp → VK → Prop := fun xs H Q => ∃ (a : Addr) (kvs : List (List Key × V)), xs = [V.ref a] ∧ H a = some (.dT kvs) ∧ (kvs.map fun p => (tupleKind (mixKind P w)).hash p.1).Nodup ∧ ∀ d, H d = none → Q (.ref d) (upd H d (.dT kvs))
theorem cr_dictCopyT {X : Cx} (hu : X.A.units + 64 < cLine) : CallR X (.type "dict") (rDictCopyT X.prog X.w) := by
  intro pins s σ H xs us Q I r h
  obtain ⟨a, kvs, rfl, ha, hap, q⟩ := h
  rw [Vals.ref1 r]
  obtain ⟨hz, hm, ps, rel, dd⟩ := dt_of I.hok ha
  have hn : H s.heap.objs.size = none := I.hok.fresh (Nat.le_refl _)
  have hl : kvs.length = ps.length := Paired.length rel
  have hkeys : ∀ {l : List (List Key × V)} {m : List (List Key × Addr × Value)}, KT H l m → (m.map fun x => (tupleKind (mixKind X.prog X.w)).hash x.1) = l.map fun p => (tupleKind (mixKind X.prog X.w)).hash p.1 := by
    intro l m h
    induction h with
    | nil => rfl
    | cons h t ih => rw [List.map_cons, List.map_cons, ih, h.1]
  have hty : ∀ x ∈ ps, s.TypeIs (.ref x.2.1) "tuple" := fun x hx => by
    obtain ⟨o, es, ep, ho, h2, h3, h4, h5, h6⟩ := dd
    obtain ⟨ob, items, n, hob, hc, _⟩ := h5 x hx
    exact ⟨ob, hob, hc⟩
  have hne : a ≠ s.heap.objs.size := fun e => by rw [e] at ha; rw [hn] at ha; cases ha
  refine callType_codes (Q₁ := fun obj s₁ => obj = .ref s.heap.objs.size ∧ s₁ = { s with heap := s.heap.push { cls := .type "dict", data := .dict #[] } }) F.kt_called_dict (F.kt_typeCall_dict_1 _) F.entry_dict_init (kt_code_dict_new _ ⟨rfl, rfl⟩) ?_
  rintro obj s₁ ⟨rfl, rfl⟩
  have hT : Shared.TypeIs { s with heap := s.heap.push { cls := .type "dict", data := .dict #[] } } (.ref s.heap.objs.size) "dict" := ⟨_, Heap.get?_push_size _ rfl, rfl⟩
  refine ⟨hT, F.args_dict_init_2 _ _, ?_⟩
  unfold Builtin.«dict.__init__»
  refine wpAny_bind ?_
  unfold Builtin.Dict.selfAndRest
  refine wpAny_bind (wpAny_notOrdered_dict hT ?_)
  show wpAny _ _ (pure (s.heap.objs.size, [Value.ref a])) _ _ _
  refine wpAny_pure ?_
  have gp : ∀ b o, s.heap.get? b = some o → (s.heap.push { cls := .type "dict", data := .dict #[] }).get? b = some o := fun b o e => Heap.get?_push_of_some _ e
  have dd1 : (s.heap.push { cls := .type "dict", data := .dict #[] }).DictOfH (tupleKind (mixKind X.prog X.w)) a ps := dd.at' (fun o e => gp _ _ e) fun y hy => by
    obtain ⟨o, es, ep, ho, h2, h3, h4, h5, h6⟩ := dd
    obtain ⟨ob, items, n, hob, hc, hd, hi⟩ := h5 y hy
    exact ⟨ob, items, n, gp _ _ hob, hc, hd, hi⟩
  refine updateFrom_dictH (A := X.A.in1) (knd := tupleKind (mixKind X.prog X.w)) (kvs := []) .none (show X.A.units + 2 < cLine by omega) (Ne.symm hne) hm (Heap.DictOfH.new s.heap) dd1 (.inr ⟨fun x hx => ?_, by rw [hkeys rel]; exact hap⟩) (by rw [sizeLine_eq]; rw [sizeLine_eq] at hz; simp only [List.length_nil]; omega) fun h' hd' ho' hs' => ?_
  · obtain ⟨o, ho, hc⟩ := hty x hx
    exact ⟨o, gp _ _ ho, hc⟩
  · refine ⟨rfl, ?_⟩
    rw [storedAllH_nil_of_nodup ps dd.nodup] at hd'
    obtain ⟨q0, es, ep, hq, h2', h3, h4, _, h5⟩ := hd'
    have hg : ∀ b o, s.heap.get? b = some o → h'.get? b = some o := fun b o e => by
      rw [hs'.2 b (fun z => by rw [z] at e; exact absurd (Heap.lt_size e) (Nat.lt_irrefl _))]
      exact gp _ _ e
    refine ⟨.ref s.heap.objs.size, upd H s.heap.objs.size (.dT kvs), I.laid hg (Nat.le_refl _) ?_, rfl, q _ hn⟩
    refine ⟨hz, beq_eq_false_iff_ne.mpr (Nat.ne_of_gt I.big), ps, ?_, q0, es, ep, hq, h2', h3, h4, h5⟩
    exact Paired.mapP rel fun x y h => ⟨h.1, by rw [upd_ne (ne_of_none h.2.1 hn)]; exact h.2.1, h.2.2⟩
end Cu
/-! CzA: dicts whose keys are whole numbers or texts: in, not in, get, put, setdefault, pop, list(d.items()). -/
namespace Cu
open PySem PySem.Spec PyProof.Rows L2
theorem keyA_fz {M : List Addr} {H : Hp} {d : PyData} {k : Key} {v : V} (h : keyA d = some k) (q : Fz M H v d) : v = kV k := by
  cases d with
  | int i => cases h; cases q; rfl
  | str x => cases h; cases q; rfl
  | _ => cases h
def keyOf : Key → PyData
  | .inl i => .int i
  | .inr x => .str x
theorem fz_key {M : List Addr} {H : Hp} : ∀ k : Key, Fz M H (kV k) (keyOf k)
  | .inl i => .int i
  | .inr x => .str x
theorem Ext.many {M L : List Addr} {H H' : Hp} (kp : ∀ b o, H b = some o → H' b = some o) (hn : ∀ a ∈ L, H a = none) : Ext M H (M ++ L) H' :=
  ⟨⟨L, rfl⟩, fun b o _ h => kp b o h, fun b hb => (List.mem_append.mp hb).elim .inl fun z => .inr (hn b z)⟩
theorem StoreOk.many {K : PySem.W.Frag} {M L : List Addr} {H H' : Hp} {S W : Sto} (h : StoreOk K M H S) (kp : ∀ b o, H b = some o → H' b = some o) (hn : ∀ a ∈ L, H a = none) (nd : L.Nodup) (hl : L.length = W.length)
    (hw : ∀ (j : Nat) (a : Addr) (w : Own), L[j]? = some a → W[j]? = some w → ORep K (M ++ L) H' a w) : StoreOk K (M ++ L) H' (S ++ W) := by
  refine ⟨?_, by rw [List.length_append, List.length_append, h.len, hl], fun n a u h1 h2 => ?_⟩
  · rw [List.nodup_append]
    exact ⟨h.nd, nd, fun a ha b hb z => h.nin (hn b hb) (z ▸ ha)⟩
  · by_cases hlt : n < M.length
    · rw [List.getElem?_append_left hlt] at h1
      rw [List.getElem?_append_left (by rw [← h.len]; exact hlt)] at h2
      obtain ⟨o, ho⟩ := h.live (List.mem_of_getElem? h1)
      exact (h.rep n a u h1 h2).ext (Ext.many kp hn) (by rw [ho, kp _ _ ho])
    · have hge : M.length ≤ n := Nat.le_of_not_lt hlt
      rw [List.getElem?_append_right hge] at h1
      rw [List.getElem?_append_right (by rw [← h.len]; exact hge), ← h.len] at h2
      exact hw _ _ _ h1 h2
theorem prep_keysL {κ : Type} {K : PySem.W.Frag} {M : List Addr} {H : Hp} : ∀ {ps : List (κ × V)} {kvs : List (κ × It)}, PRep K M H ps kvs → ps.map (·.1) = kvs.map (·.1)
  | _, _, .nil => rfl
  | _, _, .cons x t => by rw [List.map_cons, List.map_cons, prep_keysL t]; exact congrArg (· :: _) x.1
theorem paired_of {α β : Type} {F : α → β → Prop} : ∀ {xs : List α} {ys : List β}, xs.length = ys.length → (∀ (j : Nat) (x : α) (y : β), xs[j]? = some x → ys[j]? = some y → F x y) → Paired F xs ys
  | [], [], _, _ => .nil
  | [], _ :: _, h, _ => nomatch h
  | _ :: _, [], h, _ => nomatch h
  | x :: xs, y :: ys, h, g => .cons (g 0 x y rfl rfl) (paired_of (Nat.succ.inj h) fun j => g (j + 1))
section
variable {X : Cx} {W : WX} {k j : Nat} {G G1 G2 : Gam} {S S1 S2 S3 : Sto} {P : Post} {e f a b o : Expr} {es : List Expr} {r y z r' : It} {rs : List It} {pos pos' p apos cpos : Pos} {ds ds' : List PyData} {m n : Int} {i : Nat} {kd : PyData} {kk : Key} {kvs kvs1 : List (Key × It)}
theorem dK_at {K : PySem.W.Frag} {M : List Addr} {H : Hp} {v : V} (s : StoreOk K M H S) (hv : VRep K M H v (.o i)) (hi : S[i]? = some (.dK kvs)) : ∃ a ps, v = .ref a ∧ M[i]? = some a ∧ H a = some (.dK ps) ∧ PRep K M H ps kvs := by
  obtain ⟨a, ha, rfl⟩ := hv
  obtain ⟨ps, h1, h2⟩ := s.rep _ a _ ha hi
  exact ⟨a, ps, rfl, ha, h1, h2⟩
theorem evt_dinK (c : Cxo X W k) (ha : Ev X a G S (.d kd) S1) (hb : Ev X b G S1 (.o i) S2) (hi : S2[i]? = some (.dK kvs)) (hk : keyA kd = some kk) (hm : behindInMarks .In b = false := by rfl) : EvT X (.Compare a [.In] [b] pos) G S (valI kvs kk).isSome S2 := fun M σ H Q s q =>
  toT (pt_cmp (pc_din (u1 c) pe_s pe_s) hm) (ha M σ H _ s fun v M1 H1 e1 s1 r1 => hb M1 σ H1 _ s1 fun u M2 H2 e2 s2 r2 => by
    obtain ⟨a, ps, rfl, _, h1, h2⟩ := dK_at s2.sto r2 hi
    obtain rfl := keyA_fz hk r1
    exact ⟨a, valV ps kk, rfl, DGet.k h1, _, rfl, by rw [prep_some h2]; exact q M2 H2 (e1.trans e2) s2⟩)
theorem evt_dnotinK (c : Cxo X W k) (ha : Ev X a G S (.d kd) S1) (hb : Ev X b G S1 (.o i) S2) (hi : S2[i]? = some (.dK kvs)) (hk : keyA kd = some kk) (hm : behindInMarks .NotIn b = false := by rfl) : EvT X (.Compare a [.NotIn] [b] pos) G S (!(valI kvs kk).isSome) S2 := fun M σ H Q s q =>
  toT (pt_cmp (pc_dnotin (u1 c) pe_s pe_s) hm) (ha M σ H _ s fun v M1 H1 e1 s1 r1 => hb M1 σ H1 _ s1 fun u M2 H2 e2 s2 r2 => by
    obtain ⟨a, ps, rfl, _, h1, h2⟩ := dK_at s2.sto r2 hi
    obtain rfl := keyA_fz hk r1
    exact ⟨a, valV ps kk, rfl, DGet.k h1, _, rfl, by rw [prep_some h2]; exact q M2 H2 (e1.trans e2) s2⟩)
/-- d[k], there -/
theorem ev_dgetK (c : Cxo X W k) (ho : Ev X o G S (.o i) S1) (ha : Ev X a G S1 (.d kd) S2) (hi : S2[i]? = some (.dK kvs)) (hk : keyA kd = some kk) (hv : valI kvs kk = some r) (hs : NoSl a := by exact fun _ _ => rfl) : Ev X (.Subscript o a pos) G S r S2 := fun M σ H Q s q =>
  toE (pe_dget (u1 c) pe_s pe_s hs) (ho M σ H _ s fun v M1 H1 e1 s1 r1 => ha M1 σ H1 _ s1 fun u M2 H2 e2 s2 r2 => by
    obtain ⟨a, ps, rfl, _, h1, h2⟩ := dK_at s2.sto (r1.ext e2) hi
    obtain rfl := keyA_fz hk r2
    rcases prep_val (k := kk) h2 with ⟨_, z⟩ | ⟨v, r', h3, h4, h5⟩
    · rw [z] at hv; cases hv
    · rw [h4] at hv
      cases hv
      refine ⟨a, v, rfl, ?_, q _ M2 H2 (e1.trans e2) s2 h5⟩
      rw [← h3]
      exact DGet.k h1)
/-- d[k] = e -/
theorem ws_dputK (c : Cxo X W k) (he : Ev X e G S r S1) (ho : Ev X o G S1 (.o i) S2) (ha : Ev X a G S2 (.d kd) S3) (hi : S3[i]? = some (.dK kvs)) (hk : keyA kd = some kk) (hz : kvs.length < 1000000) (q : P.nx G (S3.set i (.dK (putI kvs kk r))))
    (hs : swapsWith e (some (.Subscript o a pos')) pos.line X.env = pure false := by rfl) : WS X W (.Assign [.Subscript o a pos'] e pos) G S P := fun M σ H D s m =>
  toS (ps_dput (u1 c) pe_s pe_s pe_s hs) (he M σ H _ s fun v M1 H1 e1 s1 r1 => ho M1 σ H1 _ s1 fun u M2 H2 e2 s2 r2 => ha M2 σ H2 _ s2 fun w M3 H3 e3 s3 r3 => by
    obtain ⟨a, ps, rfl, ha, h1, h2⟩ := dK_at s3.sto (r2.ext e3) hi
    obtain rfl := keyA_fz hk r3
    have e4 : Ext M3 H3 M3 (upd H3 a (.dK (putK ps kk v))) := Ext.put (List.mem_of_getElem? ha)
    have s4 := s3.sto.put (w := .dK (putI kvs kk r)) ha ⟨putK ps kk v, upd_same, Paired.mapP (prep_put h2 (r1.ext (e2.trans e3))) fun _ _ z => ⟨z.1, z.2.ext e4⟩⟩
    refine ⟨a, _, rfl, DPut.k h1 (by rw [prep_len h2, sizeLine_eq]; omega), m.nx M3 σ _ G _ (((e1.trans e2).trans e3).trans e4) (s3.mono e4 s4) q⟩)
/-- d.setdefault(k, e) -/
theorem ev_setdefault (ho : Ev X o G S (.o i) S1) (hi1 : S1[i]? = some (.dK kvs1)) (he : Ev X e G S1 (.d kd) S2) (hf : Ev X f G S2 r S3) (hi : S3[i]? = some (.dK kvs)) (hk : keyA kd = some kk) (hz : kvs.length < 1000000)
    (m : M2 X o "setdefault" apos e f cpos := by exact ⟨rfl, rfl, rfl, rfl⟩) :
    Ev X (.Call (.Attribute o "setdefault" apos) [e, f] [] cpos) G S ((valI kvs kk).getD r) (if (valI kvs kk).isSome then S3 else S3.set i (.dK (putI kvs kk r))) := fun M σ H Q s q =>
  toE (pe_dsetd pe_s pe_s pe_s m) (ho M σ H _ s fun v M1 H1 e1 s1 r1 => by
    obtain ⟨a, ps1, rfl, ha1, g1, _⟩ := dK_at s1.sto r1 hi1
    refine ⟨a, rfl, .inl ⟨ps1, .inl g1⟩, he M1 σ H1 _ s1 fun u M2 H2 e2 s2 r2 => hf M2 σ H2 _ s2 fun w M3 H3 e3 s3 r3 => ?_⟩
    obtain ⟨a', ps, ea, ha, h1, h2⟩ := dK_at s3.sto (r1.ext (e2.trans e3)) hi
    cases ea
    obtain rfl := keyA_fz hk r2
    refine ⟨ps, kk, h1, rfl, by rw [prep_len h2, sizeLine_eq]; omega, fun v hv => ?_, fun hn => ?_⟩
    · rcases prep_val (k := kk) h2 with ⟨z, _⟩ | ⟨v', r', h3, h4, h5⟩
      · rw [hv] at z; cases z
      · rw [hv] at h3
        cases h3
        rw [h4] at q
        exact q v M3 H3 ((e1.trans e2).trans e3) s3 h5
    · rcases prep_val (k := kk) h2 with ⟨_, z⟩ | ⟨v', r', h3, _, _⟩
      · rw [z] at q
        have e4 : Ext M3 H3 M3 (upd H3 a (.dK (putK ps kk w))) := Ext.put (List.mem_of_getElem? ha)
        have s4 := s3.sto.put (w := .dK (putI kvs kk r)) ha ⟨putK ps kk w, upd_same, Paired.mapP (prep_put h2 r3) fun _ _ z => ⟨z.1, z.2.ext e4⟩⟩
        exact q w M3 _ (((e1.trans e2).trans e3).trans e4) (s3.mono e4 s4) (r3.ext e4)
      · rw [hn] at h3; cases h3)
/-- the items of a dict as tuples, laid behind n objects -/
def itemsO (n : Nat) (kvs : List (Key × It)) : Sto := .lst ((List.range kvs.length).map fun j => .o (n + 1 + j)) :: kvs.map fun kv => .tup [.d (keyOf kv.1), kv.2]
/-- list(e.items()), the values owned objects -/
theorem ev_listItems (hc : X.calm = true) (he : Ev X e G S (.o i) S1) (hi : S1[i]? = some (.dK kvs)) (hnd : (kvs.map (·.1)).Nodup) (hown : ∀ kv ∈ kvs, ∃ n, kv.2 = It.o n) (hm : X.mg "list" = none) (hg : Gl X "list" := by rfl)
    (hbase : attributeBase e "items" X.env (eval e X.env) = eval e X.env := by rfl) (hline : (apos.endLine == cpos.line) = true := by rfl)
    (hs : starEach [.Call (.Attribute e "items" apos) [] [] cpos] X.env = (false, eval (.Call (.Attribute e "items" apos) [] [] cpos) X.env) :: starEach [] X.env := by rfl) :
    Ev X (.Call (.Name "list" p) [.Call (.Attribute e "items" apos) [] [] cpos] [] pos) G S (.o S1.length) (S1 ++ itemsO S1.length kvs) := fun M σ H Q s q =>
  toE (LiI.pe_listItems hc pe_s hg hm PyProof.Rows.boot_list hbase hline hs) (he M σ H _ s fun v M1 H1 e1 s1 r1 => by
    obtain ⟨a, ps, rfl, ha, h1, h2⟩ := dK_at s1.sto r1 hi
    refine ⟨a, ps, rfl, h1, fun H' p ts kp hp hts hpt hl hpr => ?_⟩
    have hlen : ts.length = kvs.length := by rw [Paired.length hpr, prep_len h2]
    have keys : ps.map (·.1) = kvs.map (·.1) := prep_keysL h2
    have hpr' : ∀ (j : Nat) (t : Addr), ts[j]? = some t → ∃ q, ps[j]? = some q ∧ H' t = some (.tup [kV q.1, q.2]) := fun j t h => LiI.paired_get hpr h
    have tnd : ts.Nodup := by
      have pn : (ps.map (·.1)).Nodup := by rw [keys]; exact hnd
      clear hpr' hlen hl hpt hts keys h2 h1
      induction hpr with
      | nil => exact List.nodup_nil
      | @cons t q ts' ps' x xs ih =>
        have pn' := List.nodup_cons.mp pn
        refine List.nodup_cons.mpr ⟨fun hm => ?_, ih pn'.2⟩
        obtain ⟨j, q', e1, e2, e3⟩ := LiI.paired_ix xs hm
        rw [x] at e3
        have e4 : kV q.1 = kV q'.1 := by
          have := Option.some.inj e3
          injection this with z
          injection z
        have e5 : q.1 = q'.1 := kV_inj e4
        exact pn'.1 (by show q.1 ∈ _; rw [e5]; exact List.mem_map_of_mem (List.mem_of_getElem? e2))
    have hn : ∀ b ∈ p :: ts, H1 b = none := fun b hb => (List.mem_cons.mp hb).elim (fun z => by rw [z]; exact hp) (hts b)
    have e2 : Ext M1 H1 (M1 ++ (p :: ts)) H' := Ext.many kp hn
    have s2 : StoreOk X.K (M1 ++ (p :: ts)) H' (S1 ++ itemsO S1.length kvs) := s1.sto.many kp hn (List.nodup_cons.mpr ⟨hpt, tnd⟩) (by show _ = (itemsO _ _).length; unfold itemsO; rw [List.length_cons, List.length_cons, List.length_map, hlen]) fun j a w hj hw => by
      cases j with
      | zero =>
        cases hj; cases hw
        refine ⟨_, hl, ?_⟩
        refine paired_of (by rw [List.length_map, List.length_map, List.length_range, hlen]) fun j v r hv hr => ?_
        rw [List.getElem?_map] at hv hr
        cases ht : ts[j]? with
        | none => rw [ht] at hv; cases hv
        | some t =>
          rw [ht] at hv
          cases hv
          have hj2 : j < kvs.length := by rw [← hlen]; exact (List.getElem?_eq_some_iff.mp ht).1
          rw [List.getElem?_range hj2] at hr
          cases hr
          exact ⟨t, by rw [← s1.sto.len, List.getElem?_append_right (by omega), show M1.length + 1 + j - M1.length = j + 1 by omega]; exact ht, rfl⟩
      | succ j =>
        have hj : ts[j]? = some a := hj
        have hw : (kvs.map fun kv => Own.tup [.d (keyOf kv.1), kv.2])[j]? = some w := hw
        rw [List.getElem?_map] at hw
        cases hk : kvs[j]? with
        | none => rw [hk] at hw; cases hw
        | some kv =>
          rw [hk] at hw
          cases hw
          obtain ⟨q', g1, g2⟩ := hpr' j a hj
          obtain ⟨kv', g3, g4, g5⟩ := LiI.paired_get h2 g1
          rw [hk] at g3
          cases g3
          obtain ⟨n, hn'⟩ := hown kv (List.mem_of_getElem? hk)
          refine ⟨_, g2, .cons ?_ (.cons (VRep.ext e2 g5) .nil), ?_⟩
          · rw [g4]; exact fz_key _
          · rw [hn'] at g5
            obtain ⟨b, _, hb⟩ := g5
            exact ⟨b, by rw [hb]; exact List.mem_cons_of_mem _ List.mem_cons_self⟩
    exact q _ _ H' (e1.trans e2) (s1.mono e2 s2) ⟨p, by rw [← s1.sto.len, List.getElem?_append_right (Nat.le_refl _), Nat.sub_self]; rfl, rfl⟩)
end
end Cu
/-! CzB: sorted by a lambda's keys of an owned list whose items are owned and stand for data. -/
namespace Cu
open PySem PySem.Spec PyProof.Rows L2
theorem each_ofI {Rel : V → It → Prop} : ∀ {xs : List V} {rs : List It} {us : List Value}, Vals xs us → Paired Rel xs rs → PySem.W.EachIs (fun u r => ∃ v, RelV v u ∧ Rel v r) us rs
  | _, _, _, .nil, .nil => .nil
  | _, _, _, .cons a t, .cons b s => .cons ⟨_, a, b⟩ (each_ofI t s)
theorem each_zip {α β γ : Type} {R1 : α → β → Prop} {R2 : α → γ → Prop} : ∀ {us : List α} {rs : List β} {ds : List γ}, PySem.W.EachIs R1 us rs → PySem.W.EachIs R2 us ds → PySem.W.EachIs (fun u b => R1 u b.1 ∧ R2 u b.2) us (rs.zip ds)
  | _, _, _, .nil, .nil => .nil
  | _, _, _, .cons a t, .cons b s => .cons ⟨a, b⟩ (each_zip t s)
theorem each_fst {α : Type} {Rel : V → It → Prop} {us : List Value} {bs : List (It × α)} (h : PySem.W.EachIs (fun u b => ∃ v, RelV v u ∧ Rel v b.1) us bs) : ∃ ys, Vals ys us ∧ Paired Rel ys (bs.map (·.1)) := by
  induction h with
  | nil => exact ⟨[], .nil, .nil⟩
  | cons a _ ih =>
    obtain ⟨v, h1, h2⟩ := a
    obtain ⟨ys, h3, h4⟩ := ih
    exact ⟨v :: ys, .cons h1 h3, .cons h2 h4⟩
theorem den_len {n : Nat} {S : Sto} : ∀ {rs : List It} {ds : List PyData}, DenAll n S rs ds → rs.length = ds.length
  | [], _, h => by cases h; rfl
  | _ :: _, _, h => by
    cases h with
    | cons _ t => exact congrArg Nat.succ (den_len t)
theorem den_zip {n : Nat} {S : Sto} : ∀ {rs : List It} {ds : List PyData}, DenAll n S rs ds → ∀ b ∈ rs.zip ds, Den n S b.1 b.2
  | [], _, _, b, hb => by simp at hb
  | _ :: _, _, h, b, hb => by
    cases h with
    | cons x t =>
      rcases List.mem_cons.mp hb with e | hb
      · rw [e]; exact x
      · exact den_zip t b hb
theorem den_unzip {n : Nat} {S : Sto} : ∀ {bs : List (It × PyData)}, (∀ b ∈ bs, Den n S b.1 b.2) → DenAll n S (bs.map (·.1)) (bs.map (·.2))
  | [], _ => .nil
  | b :: bs, h => .cons (h b List.mem_cons_self) (den_unzip fun c hc => h c (List.mem_cons_of_mem _ hc))
mutual
theorem Den.app {n : Nat} {S L : Sto} : ∀ {x : PyData} {r : It}, Den n S r x → Den n (S ++ L) r x
  | .none, _, h => by cases h with | d => exact .d _
  | .bool _, _, h => by cases h with | d => exact .d _
  | .int _, _, h => by cases h with | d => exact .d _
  | .str _, _, h => by cases h with | d => exact .d _
  | .dict _, _, h => by cases h with | d => exact .d _
  | .list ds, _, h => by
    cases h with
    | d => exact .d _
    | l h1 h2 h3 => exact .l h1 (by rw [List.getElem?_append_left (List.getElem?_eq_some_iff.mp h2).1]; exact h2) (DenAll.app h3)
  | .tuple ds, _, h => by
    cases h with
    | d => exact .d _
    | t h1 h2 h3 => exact .t h1 (by rw [List.getElem?_append_left (List.getElem?_eq_some_iff.mp h2).1]; exact h2) (DenAll.app h3)
theorem DenAll.app {n : Nat} {S L : Sto} : ∀ {xs : List PyData} {rs : List It}, DenAll n S rs xs → DenAll n (S ++ L) rs xs
  | [], _, h => by cases h; exact .nil
  | x :: xs, _, h => by
    cases h with
    | cons h1 h2 => exact .cons (Den.app h1) (DenAll.app h2)
end
section
variable {X : Cx} {W : WX} {k j : Nat} {G G1 G2 : Gam} {S S1 S2 S3 : Sto} {e a : Expr} {r : It} {pos lpos kpos p : Pos} {ds : List PyData} {rs : List It} {t i n : Nat} {cA PA_ : Addr} {params : Arguments} {body : Expr} {scope : Scope} {x : Str} {Qx : Addr → Sto → Prop}
/-- sorted(a, key=lambda x: body), the items standing for data -/
theorem evx_sortedLamO (kf : PyData → PyData) (c : Cxo X W k) (hk2 : 2 ≤ k) (hm : X.mg "sorted" = none) (ha : Ev X a G S (.o i) S1) (hi : S1[i]? = some (.lst rs)) (hden : DenAll n S1 rs ds) (L : Lam1 scope params x) (hkey : ∀ d ∈ ds, KEv body x d (kf d)) (hlf : ∀ d ∈ ds, ∀ h v as, Reads h v (kf d) as → as = [])
    (hal : PySem.W.AllAlike (ds.map kf)) (hso : PySem.W.Sortable (ds.map kf)) (hde : ∀ d ∈ ds, (kf d).depth ≤ 60) (ht : S1[t]? = some (.tbl PA_ (X.env.qual ++ "<lambda>"))) (TB : LamX.TabB X.base X.mg cA PA_) (hcode : X.env.code = .ref cA)
    (hdef : defaultsOf params X.env = ([], []) := by rfl) (hg : Gl X "sorted" := by rfl)
    (he : backTo pos (starEach [a] X.env) = (false, eval a X.env) :: backTo pos (starEach [] X.env) := by rfl) (hpl : (backTo pos (starEach [a] X.env)).any (·.1) = false := by rfl) (he2 : starEach [a] X.env = (false, eval a X.env) :: starEach [] X.env := by rfl)
    (hall : (backToKw pos (keywordEach [⟨some "key", .Lambda params body scope lpos, kpos⟩] X.env)).all (·.1.isSome) = true := by rfl) (hnone : (backToKw pos (keywordEach [⟨some "key", .Lambda params body scope lpos, kpos⟩] X.env)).any (·.1.isNone) = false := by rfl) :
    EvX X W (.Call (.Name "sorted" p) [a] [⟨some "key", .Lambda params body scope lpos, kpos⟩] pos) G S (fun r S' => ∃ rs', r = .o S1.length ∧ S' = S1 ++ [.lst rs'] ∧ DenAll n S1 rs' (ds.mergeSort (PySem.W.dataLe false kf)) ∧ ∀ r ∈ rs', r ∈ rs) Qx := fun M σ H Q st q qx pins s0 I => by
  refine wpAny_Call_Name_kw (ld_blt I hg hm (PyProof.Rows.boot_sorted) ?_ (by decide) (by decide))
  refine PyProof.Rows.callWith_kw (thn ((pa_cons (pe_s (e := a)) pa_nil he2).run pos pins s0 σ H (fun vs H1 => ∃ v M1, vs = [v] ∧ Ext M H M1 H1 ∧ Stt X.K M1 H1 S1 G σ ∧ VRep X.K M1 H1 v (.o i)) I (ha M σ H _ st fun v M' H' e' s' r' => ⟨v, M', rfl, e', s', r'⟩)) fun us s1 hus => ?_) he hpl hall hnone
  obtain ⟨vs, H1, I1, r1, v, M1, rfl, e1, t1, q1⟩ := hus
  obtain ⟨ad0, had0, ev0⟩ := q1
  subst ev0
  obtain rfl := Vals.ref1 r1
  obtain ⟨aP, hadP, rfl, ps, hP, hps1, hps2⟩ := t1.sto.addr ht
  show wpAny _ _ (evalAll ((do let v ← eval (.Lambda params body scope lpos) X.env; standAt pos; pure v) :: [])) _ _ _
  refine wpAny_evalAll_cons (wpAny_bind (lam_make3 I1 TB hcode hP hps1 (fun p2 cv hcv => let ⟨c2, x1, x2, _⟩ := hps2 p2 cv hcv; ⟨c2, x1, x2⟩) hdef (fun y hy hf => absurd hf (L.nofree y hy)) fun f c' pm ctv H2 s2 I2 hH hf hfn hfr hrec => ?_))
  refine wpAny_bind (wpAny_standAt (wpAny_pure (wpAny_evalAll_nil ?_)))
  obtain ⟨e2, t2⟩ := stt_lam t1 ht hP hps2 hadP hH
  obtain ⟨xs, hx1, hx2⟩ := t2.sto.rep _ _ _ had0 hi
  obtain ⟨its, rv, hl, hz⟩ := I2.list (.inl (.inl hx1))
  have hlr : rs.length = ds.length := den_len hden
  have hlx : xs.length = rs.length := VReps.len hx2
  have hlen : (rs.zip ds).length = its.length := by rw [List.length_zip, ← hlr, Nat.min_self, ← hlx]; exact rv.length
  have hsnd : (rs.zip ds).map (·.2) = ds := List.map_snd_zip (by omega)
  have hmk : (rs.zip ds).map (fun b => kf b.2) = ds.map kf := by
    conv => rhs; rw [← hsnd]
    rw [List.map_map]; rfl
  have lim : s2.heap.NoLimit := I2.mod.nolimit.keeps I2.bk
  have hu := c.hr.units
  show wpAny _ _ (call (.builtin "sorted") [.ref ad0] [(Str.ofString "key", .ref f)]) _ _ _
  rw [clo_nil L.nofree] at hf
  have hin : ∀ b ∈ rs.zip ds, b.2 ∈ ds := fun b hb => (List.of_mem_zip hb).2
  refine PySem.W.sorted_key_data (b := false) (bs := rs.zip ds) (vs := its) (R := fun u b => (∃ v, RelV v u ∧ VRep X.K M1 H2 v b.1) ∧ ∃ as, Reads s2.heap u b.2 as) (fun b => kf b.2) hl.isList (each_zip (each_ofI rv hx2) (each_reads I2 rv (DenAll.dp t2.sto hden hx2))) (by rw [hmk]; exact hal) (by rw [hmk]; exact hso) (by rw [hlen, ← rv.length]; exact hz)
    (fun b hb => ?_) (PyProof.Rows.ksk_s1 _ _) (fun _ => PyProof.Rows.ksk_l1 _ _) (fun x => PyProof.Rows.ksk_t1 f x) (fun u b hR hb g tk kp => ?_) fun out c2 h' tk kp fr hat ho hs => ?_
  · have := hde b.2 (hin b hb)
    omega
  · obtain ⟨_, as, hrd⟩ := hR
    refine lam_call (s := { s2 with heap := g, toks := tk }) L (hkey b.2 (hin b hb)) (hlf b.2 (hin b hb)) (kp _ _ hf) ?_ ?_ (lim.keeps kp) (Reads.keeps kp hrd)
    · obtain ⟨c3, oc, ws, tq, x1, x2, x3, x4⟩ := hrec
      exact ⟨c3, oc, ws, tq, x1, kp _ _ x2, x3, x4⟩
    · have := c.hr.dp
      show X.A.depth < recursionLimit
      omega
  · obtain ⟨ys, hy, hyr⟩ := each_fst (hs.mono fun u d z => z.1)
    have hle : ys.length ≤ sizeLine := by rw [hy.length, ho, hlen, ← rv.length]; exact hz
    have hn : H2 (s2.heap.objs.size + 1) = none := I2.hok.fresh (Nat.le_succ _)
    have hmem : ∀ b ∈ (rs.zip ds).mergeSort (PySem.W.dataLe false fun b => kf b.2), b ∈ rs.zip ds := fun b hb => List.mem_mergeSort.mp hb
    have hds : ((rs.zip ds).mergeSort (PySem.W.dataLe false fun b => kf b.2)).map (·.2) = ds.mergeSort (PySem.W.dataLe false kf) := by
      exact (List.map_mergeSort (r := PySem.W.dataLe false fun b : It × PyData => kf b.2) (s := PySem.W.dataLe false kf) (f := fun b => b.2) (l := rs.zip ds) (fun a _ b _ => rfl)).trans (by rw [hsnd])
    have e3 : Ext M1 H2 (M1 ++ [s2.heap.objs.size + 1]) (upd H2 (s2.heap.objs.size + 1) (.lst ys)) := Ext.own hn
    have s3 := t2.sto.own (w := .lst (((rs.zip ds).mergeSort (PySem.W.dataLe false fun b => kf b.2)).map (·.1))) hn ⟨ys, upd_same, Paired.mapP hyr fun _ _ z => VRep.ext e3 z⟩
    refine ⟨.ref _, upd H2 (s2.heap.objs.size + 1) (.lst ys), I2.laid (t' := tk) kp (Nat.le_succ _) ⟨hle, out, c2, hy, hat⟩, rfl, ?_⟩
    refine q _ _ _ (.o S1.length) _ ((e1.trans e2).trans e3) (t2.mono e3 s3) ⟨_, by rw [← t2.sto.len, List.getElem?_append_right (Nat.le_refl _), Nat.sub_self]; rfl, rfl⟩ ⟨_, rfl, rfl, ?_, fun r hr => ?_⟩
    · rw [← hds]
      exact den_unzip fun b hb => den_zip hden b (hmem b hb)
    · obtain ⟨b, hb, rfl⟩ := List.mem_map.mp hr
      exact (List.of_mem_zip (hmem b hb)).1
end
end Cu
/-! CzC: a lambda's key that reads an item of a list. -/
namespace Cu
open PySem PySem.Spec PyProof.Rows L2
/-- l[i] of a list -/
theorem key_ixL {a : Expr} {x : Str} {d kd : PyData} {ds : List PyData} {i : Nat} {j : Nat} {p pos : Pos} (ha : KEv a x d (.list ds)) (hi : ds[i]? = some kd) (hz : i < 1000000)
    (hs : ∀ v u, subscripted (.Constant (.int (i : Int)) j p) false v u = operate [v, u] (getItem v u) := by intros; rfl) : KEv (.Subscript a (.Constant (.int (i : Int)) j p) pos) x d kd := fun prog w A env E s u as m Q hk hl hn hm hr q => by
  refine Subscript_ (ha prog w A env E s u as m _ hk hl hn hm hr fun v' h' tk' as' kp hr' => ?_)
  refine wpAny_Constant_int ?_
  cases hr' with
  | list e1 e2 e3 e4 =>
    obtain ⟨v, as2, hv, hrv⟩ := readsAll_get e4 hi
    rename_i vs n as3
    refine PyProof.Rows.item_listR (k := (i : Int)) (x := v) (items := vs) ⟨_, e1, e2, n, e3⟩ (by omega) (by omega) (by rw [Int.toNat_natCast, ← Array.getElem?_toList]; exact hv) ?_ (hs _ _)
    exact q v h' _ as2 kp hrv
end Cu
/-! CwF: < of data, sorted(set(pairs)), dict of pairs with tuple keys, xs.remove of a datum. -/
namespace Cu
open PySem PySem.Spec PyProof.Rows L2
def rLtD (K : PySem.W.Frag) : R2 := fun x y H Q => ∃ d e, Dp K H x d ∧ Dp K H y e ∧ PySem.W.alike d e = true ∧ d ≠ .none ∧ d.depth ≤ 60 ∧ Q (.bl (PySem.W.dataLt d e)) H
theorem op_ltD {X : Cx} (hu : X.A.units + 64 < cLine) : OpR X (compareOp .Lt) (rLtD X.K) := by
  intro pins s σ H x y v u Q I rx ry h
  obtain ⟨d, e, hd, he, al, nn, dd, q⟩ := h
  obtain ⟨as, r1⟩ := Dp.reads I d x v hd rx
  obtain ⟨bs, r2⟩ := Dp.reads I e y u he ry
  exact PySem.W.lt_data r1 r2 al nn (by have := Nat.min_le_left d.depth e.depth; omega) ⟨.bl _, H, I, rfl, q⟩
section
variable {X : Cx} {W : WX} {k j : Nat} {G G1 G2 : Gam} {S S1 S2 S3 : Sto} {P : Post} {e a b o : Expr} {es : List Expr} {r y z r' : It} {rs : List It} {pos pos' p p2 pos2 apos cpos : Pos} {ds ds' : List PyData} {m n : Int} {i : Nat} {Qr : It → Sto → Prop} {Qx : Addr → Sto → Prop}
/-- a < b, data -/
theorem evt_ltD {x y : PyData} (c : Cxo X W k) (ha : Ev X a G S (.d x) S1) (hb : Ev X b G S1 (.d y) S2) (hal : PySem.W.alike x y = true) (hn : x ≠ .none) (hd : x.depth ≤ 60) : EvT X (.Compare a [.Lt] [b] pos) G S (PySem.W.dataLt x y) S2 :=
  evt_cmp (op_ltD c.hr.units) ha hb fun M H v u Q s hv hu q => ⟨x, y, Fz.dp hv, Fz.dp hu, hal, hn, hd, q _ M H Ext.refl s (Fz.bl _)⟩
end
/-! ### xs.remove(x) -/
def rRemD (K : PySem.W.Frag) : V → List V → Hp → VK → Prop := fun x xs H Q => ∃ (a : Addr) (vs : List V) (y : V) (d : PyData) (ds : List PyData) (j : Nat) (z : PyData), x = V.ref a ∧ xs = [y] ∧ H a = some (.lst vs) ∧ DpAll K H vs ds ∧ Dp K H y d ∧
  SeqAt.shaped (.list ds) = true ∧ SeqAt.shaped d = true ∧ ds[j]? = some z ∧ PyData.eqv z d = true ∧ (∀ (m : Nat) (z' : PyData), m < j → ds[m]? = some z' → PyData.eqv z' d = false) ∧ Q .non (upd H a (.lst (vs.eraseIdx j)))
theorem mt_remD {X : Cx} (hu : X.A.units + 65 < cLine) : MtM X "list.remove" (rRemD X.K) := by
  intro pins s σ H x xs v us Q I rx rxs h
  obtain ⟨a, vs, y, d, ds, j, z, rfl, rfl, hH, ha, hy, sl, sd, hz, hzj, hno, q⟩ := h
  cases rx
  obtain ⟨uy, rfl, ry⟩ := rxs.one
  obtain ⟨bs, r1⟩ := Dp.reads I d y uy hy ry
  have hxs : PyData.canLayAll0 ds = true := SeqAt.canLay_of_shaped sl
  have hroom : X.A.units + 1 + min (PyData.depthAll ds) d.depth < cLine := room_in_shaped sd hu
  obtain ⟨zl, its, n, rv, hl, e0⟩ := I.lstM hH
  obtain ⟨as, h4⟩ := Dp.readsAll I ds _ its ha rv
  have hn : its.length = ds.length := SeqAt.ReadsAll.length ds its as h4
  have hmap : its.map (SeqAt.readOf s.heap) = ds := SeqAt.readsAll_map ds its as hxs h4
  have hvl := rv.length
  have hsl := sizeLine_eq
  obtain ⟨hjd, _⟩ := List.getElem?_eq_some_iff.mp hz
  have hjl : j < its.length := by omega
  have hj : j < its.toArray.size := by simpa using hjl
  have at_ : ∀ (m : Nat) (hm : m < its.toArray.size) (z' : PyData), ds[m]? = some z' → SeqAt.readOf s.heap its.toArray[m] = z' := by
    intro m hm z' hz'
    have hml : m < its.length := by simpa using hm
    rw [← hmap, List.getElem?_map, List.getElem?_eq_getElem hml] at hz'
    have e1 : SeqAt.readOf s.heap its[m] = z' := Option.some.inj (show some (SeqAt.readOf s.heap its[m]) = some z' from hz')
    simpa using e1
  refine call_meets PySem.F.slot_list_remove ⟨_, e0, rfl⟩ PySem.F.entry_list_remove (PySem.F.args_list_remove_2 _ _)
    (SeqAt.list_removeAt a its.toArray n none #[] uy (fun u => PyData.eqv (SeqAt.readOf s.heap u) d) j hj ?_ ?_ (by rw [List.size_toArray]; omega)) ⟨e0, SeqAt.items_eqAt (vs := its.toArray) (show ReadsAll s.heap its.toArray.toList ds as from h4) r1 hxs (SeqAt.canLay_of_shaped sd) hroom, ?_⟩
  · show PyData.eqv (SeqAt.readOf s.heap its.toArray[j]) d = true
    rw [at_ j hj z hz]; exact hzj
  · intro m hm hlt
    show PyData.eqv (SeqAt.readOf s.heap its.toArray[m]) d = false
    have hm2 : m < ds.length := by rw [← hn]; simpa using hm
    rw [at_ m hm _ (List.getElem?_eq_getElem hm2)]
    exact hno m _ hlt (List.getElem?_eq_getElem hm2)
  · refine ⟨.non, _, I.lset (its' := its.eraseIdx j) hH e0 ?_ (rv.eraseIdx j) ?_, rfl, q⟩
    · show its.toArray.eraseIdxIfInBounds j = (its.eraseIdx j).toArray
      rw [List.eraseIdxIfInBounds_toArray]
    · have := List.length_eraseIdx_le vs j
      omega
theorem map_erase_d : ∀ (ds : List PyData) (j : Nat), (ds.map It.d).eraseIdx j = (ds.eraseIdx j).map .d
  | [], _ => rfl
  | _ :: _, 0 => rfl
  | d :: ds, j + 1 => by
    show It.d d :: (ds.map It.d).eraseIdx j = It.d d :: (ds.eraseIdx j).map .d
    rw [map_erase_d ds j]
theorem ls_dp {K : PySem.W.Frag} {M : List Addr} {H : Hp} {S : Sto} (s : StoreOk K M H S) {i : Nat} {ad : Addr} {ds : List PyData} (had : M[i]? = some ad) (hi : S[i]? = some (.lst (ds.map .d))) : ∃ vs, H ad = some (.lst vs) ∧ VReps K M H vs (ds.map .d) ∧ FzAll M H vs ds := by
  obtain ⟨vs, h1, h2⟩ := s.rep i ad _ had hi
  exact ⟨vs, h1, h2, fz_all (ds_map ds) h2⟩
section
variable {X : Cx} {W : WX} {k j : Nat} {G G1 G2 : Gam} {S S1 S2 S3 : Sto} {P : Post} {e a b o : Expr} {es : List Expr} {r y z r' : It} {rs : List It} {pos pos' p p2 pos2 apos cpos : Pos} {ds ds' : List PyData} {m n : Int} {i : Nat} {Qr : It → Sto → Prop} {Qx : Addr → Sto → Prop}
/-- xs.remove(x): the j-th item is the first equal one -/
theorem ev_removeD {x z : PyData} (c : Cxo X W k) (ho : Ev X o G S (.o i) S1) (hi : S1[i]? = some (.lst (ds.map .d))) (ha : Ev X e G S1 (.d x) S2) (hi2 : S2[i]? = some (.lst (ds.map .d))) (hsl : SeqAt.shaped (.list ds) = true) (hsd : SeqAt.shaped x = true)
    (hz : ds[j]? = some z) (hzj : PyData.eqv z x = true) (hno : ∀ (m : Nat) (z' : PyData), m < j → ds[m]? = some z' → PyData.eqv z' x = false) (hbase : attributeBase o "remove" X.env (eval o X.env) = eval o X.env := by rfl)
    (hfew : ((backTo cpos (starEach [e] X.env)).all (fun x => !x.1) && (backToKw cpos (keywordEach [] X.env)).all (fun x => x.1.isSome) && decide ([e].length + ([] : List Keyword).length + (if ([] : List Keyword).isEmpty then 0 else 1) < 30)) = true := by rfl)
    (hline : (apos.endLine == cpos.line) = true := by rfl) (hs : starEach [e] X.env = (false, eval e X.env) :: starEach [] X.env := by rfl) : Ev X (.Call (.Attribute o "remove" apos) [e] [] cpos) G S (.d .none) (S2.set i (.lst ((ds.eraseIdx j).map .d))) :=
  ev_bm PySem.F.plainAttrs_list PySem.F.slot_list_remove PySem.F.type_list_remove (mt_remD (by have := c.hr.units; have := c.hr.un; omega)) ho (ty_own hi) (eva_cons ha eva_nil hs) (fun M H v vs Q s hv hvs q => by
    obtain ⟨u, rfl, hu⟩ := vr1 hvs
    obtain ⟨ad, had, rfl⟩ := hv
    obtain ⟨ws, e1, e2, e4⟩ := ls_dp s had hi2
    have e3 : Ext M H M (upd H ad (.lst (ws.eraseIdx j))) := Ext.put (List.mem_of_getElem? had)
    refine ⟨ad, ws, u, x, ds, j, z, rfl, rfl, e1, FzAll.dp e4, Fz.dp hu, hsl, hsd, hz, hzj, hno, q .non M _ e3 (s.put had ⟨_, upd_same, ?_⟩) Fz.non⟩
    have e5 := reps_eraseIdx e2 j
    rw [map_erase_d] at e5
    exact VReps.ext e3 e5) hbase hfew hline hs rfl
end
end Cu
/-! CwG: dict of pairs with tuple keys, sorted(set(pairs)). -/
namespace Cu
open PySem PySem.Spec PyProof.Rows L2
/-- dict(xs), xs pairs of a tuple and a value; no tuple twice -/
def rDictPairs (K : PySem.W.Frag) : List V → Hp → VK → Prop := fun xs H Q => ∃ (l : Addr) (ps : List (Addr × List Key × Addr × V)), xs = [V.ref l] ∧ SqL K H l (ps.map fun p => V.ref p.1) ∧ (∀ p ∈ ps, H p.1 = some (.tup [V.ref p.2.2.1, p.2.2.2]) ∧ H p.2.2.1 = some (.tup (p.2.1.map kV))) ∧
  (ps.map (·.2.1)).Nodup ∧ ∀ d, H d = none → Q (.ref d) (upd H d (.dT (ps.map fun p => (p.2.1, p.2.2.2))))
theorem tup_two {P : Program} {w : World} {H : Hp} {h : Heap} {t b : Addr} {v : V} (ok : HOk P w H h) (e : H t = some (.tup [V.ref b, v])) : ∃ u, RelV v u ∧ h.IsTuple t #[.ref b, u] := by
  obtain ⟨_, its, r, it⟩ := (show ObjOk P w H h t (.tup [V.ref b, v]) from ok t _ e)
  cases r with
  | @cons _ u1 _ _ h1 h2 =>
    cases h2 with
    | @cons _ u2 _ _ h3 h4 =>
      cases h4
      cases (show u1 = Value.ref b from h1)
      exact ⟨u2, h3, it⟩
theorem cr_dictPairs {X : Cx} (hc : X.calm = true) (hu : X.A.units + 64 < cLine) : CallR X (.type "dict") (rDictPairs X.K) := by
  intro pins s σ H xs us Q I r h
  obtain ⟨l, ps, rfl, hl, hp, nd, q⟩ := h
  rw [Vals.ref1 r]
  obtain ⟨its, rv, pl, hz⟩ := I.list hl
  have hn : H s.heap.objs.size = none := I.hok.fresh (Nat.le_refl _)
  have hits : its = ps.map fun p => Value.ref p.1 := by
    have aux : ∀ (ps : List (Addr × List Key × Addr × V)) (its : List Value), Vals (ps.map fun p => V.ref p.1) its → its = ps.map fun p => Value.ref p.1 := by
      intro ps
      induction ps with
      | nil => intro its h; cases h; rfl
      | cons p ps ih =>
        intro its h
        cases h with
        | @cons _ u _ us h1 h2 =>
          cases (show u = Value.ref p.1 from h1)
          rw [ih _ h2]; rfl
    exact aux ps its rv
  -- the values of the pairs
  have hval : ∃ vs : List Value, vs.length = ps.length ∧ ∀ (j : Nat) (p : Addr × List Key × Addr × V), ps[j]? = some p → ∃ u, vs[j]? = some u ∧ RelV p.2.2.2 u ∧ s.heap.IsTuple p.1 #[.ref p.2.2.1, u] := by
    have aux : ∀ (ps : List (Addr × List Key × Addr × V)), (∀ p ∈ ps, H p.1 = some (.tup [V.ref p.2.2.1, p.2.2.2])) → ∃ vs : List Value, vs.length = ps.length ∧ ∀ (j : Nat) (p : Addr × List Key × Addr × V), ps[j]? = some p → ∃ u, vs[j]? = some u ∧ RelV p.2.2.2 u ∧ s.heap.IsTuple p.1 #[.ref p.2.2.1, u] := by
      intro ps
      induction ps with
      | nil => exact fun _ => ⟨[], rfl, fun j p h => by simp at h⟩
      | cons p ps ih =>
        intro hp
        obtain ⟨vs, h1, h2⟩ := ih fun p hm => hp p (List.mem_cons_of_mem _ hm)
        obtain ⟨u, hu1, hu2⟩ := tup_two I.hok (hp p List.mem_cons_self)
        refine ⟨u :: vs, by simp [h1], fun j p' hj => ?_⟩
        cases j with
        | zero => cases hj; exact ⟨u, rfl, hu1, hu2⟩
        | succ j => exact h2 j p' hj
    exact aux ps fun p hm => (hp p hm).1
  obtain ⟨vs, hvl, hvs⟩ := hval
  let kps : List (List Key × Addr × Value) := (ps.zip vs).map fun z => (z.1.2.1, z.1.2.2.1, z.2)
  let vps : List (Value × Value) := (ps.zip vs).map fun z => (Value.ref z.1.2.2.1, z.2)
  have hkl : kps.length = ps.length := by simp only [kps, List.length_map, List.length_zip]; omega
  have hvpl : vps.length = ps.length := by simp only [vps, List.length_map, List.length_zip]; omega
  have zat : ∀ (j : Nat) (z : (Addr × List Key × Addr × V) × Value), (ps.zip vs)[j]? = some z → ps[j]? = some z.1 ∧ vs[j]? = some z.2 := by
    intro j z hz
    rw [List.getElem?_zip_eq_some] at hz
    exact hz
  have hPA := PairArg.list (prog := X.prog) (w := X.w) l its.toArray (fun j => ((ps[j]?).map (·.1)).getD 0) vps
  have hok : PlainSeq "list" s.heap l its.toArray ∧ PairItems s.heap its.toArray (fun j => ((ps[j]?).map (·.1)).getD 0) vps := by
    refine ⟨pl, by rw [List.size_toArray, hits, List.length_map, hvpl], fun j kk v hj => ?_⟩
    simp only [vps, List.getElem?_map] at hj
    cases hz : (ps.zip vs)[j]? with
    | none => rw [hz] at hj; cases hj
    | some z =>
      rw [hz] at hj
      cases hj
      obtain ⟨h1, h2⟩ := zat j z hz
      obtain ⟨u, hu1, hu2, hu3⟩ := hvs j z.1 h1
      rw [h2] at hu1
      cases hu1
      have eT : ((ps[j]?).map (·.1)).getD 0 = z.1.1 := by rw [h1]; rfl
      refine ⟨?_, ?_⟩
      · show its.toArray[j]? = some (Value.ref (((ps[j]?).map (·.1)).getD 0))
        rw [eT, List.getElem?_toArray, hits, List.getElem?_map, h1]; rfl
      · show PairAt s.heap (((ps[j]?).map (·.1)).getD 0) _ _
        rw [eT]; exact .inl hu3
  refine call_dict_pairsH (knd := tupleKind (mixKind X.prog X.w)) (ps := kps) hPA (I.ok.hd hc) (show X.A.units + 2 < cLine by omega) hok ⟨by rw [hkl, hvpl], fun j key v hj => ?_⟩ (fun h' hk x hx => ?_) ?_ fun h' tk dd hk => ?_
  · have hj' : vps[j]? = some (key, v) := hj
    simp only [vps, List.getElem?_map] at hj'
    cases hz : (ps.zip vs)[j]? with
    | none => rw [hz] at hj'; cases hj'
    | some z =>
      rw [hz] at hj'
      cases hj'
      exact ⟨z.1.2.1, z.1.2.2.1, by simp only [kps, List.getElem?_map, hz]; rfl, rfl⟩
  · obtain ⟨z, hz, rfl⟩ := List.mem_map.mp hx
    obtain ⟨j, hj⟩ := List.getElem?_of_mem hz
    obtain ⟨h1, h2⟩ := zat j z hj
    have hkey := key_of I.hok (hp z.1 (List.mem_of_getElem? h1)).2
    obtain ⟨o, items, n, ho, hc', hd', hi'⟩ := hkey
    exact ⟨o, items, n, hk _ _ (fun z' => by rw [z'] at ho; exact absurd (Heap.lt_size ho) (Nat.lt_irrefl _)) (fun h => nomatch h) ho, hc', hd', hi'⟩
  · rw [hvpl]
    rw [List.length_map] at hz
    exact hz
  · have hkeys : kps.map (·.1) = ps.map (·.2.1) := by
      simp only [kps, List.map_map]
      have : ((fun z : List Key × Addr × Value => z.1) ∘ fun z : (Addr × List Key × Addr × V) × Value => (z.1.2.1, z.1.2.2.1, z.2)) = (fun p : Addr × List Key × Addr × V => p.2.1) ∘ Prod.fst := rfl
      rw [this, ← List.map_map, List.map_fst_zip (by omega)]
    rw [PySem.storedAllH_nil_of_nodup kps (by rw [hkeys]; exact nd)] at dd
    have hg : ∀ b o, s.heap.get? b = some o → h'.get? b = some o := fun b o e => hk b o (fun h => nomatch h) e
    obtain ⟨q0, es, ep, hq, h2', h3, h4, _, h5⟩ := dd
    refine ⟨.ref s.heap.objs.size, upd H s.heap.objs.size (.dT (ps.map fun p => (p.2.1, p.2.2.2))), I.laid (t' := tk) hg (Nat.le_refl _) ?_, rfl, q _ hn⟩
    refine ⟨by rw [List.length_map] at hz ⊢; exact hz, ?_, kps, ?_, q0, es, ep, hq, h2', h3, h4, h5⟩
    · exact beq_eq_false_iff_ne.mpr (Nat.ne_of_gt I.big)
    · have aux : ∀ (ps0 ps : List (Addr × List Key × Addr × V)) (vs : List Value), vs.length = ps.length → (∀ (j : Nat) (p : Addr × List Key × Addr × V), ps[j]? = some p → ∃ u, vs[j]? = some u ∧ RelV p.2.2.2 u ∧ s.heap.IsTuple p.1 #[.ref p.2.2.1, u]) → (∀ p ∈ ps, H p.2.2.1 = some (.tup (p.2.1.map kV))) →
          Paired (fun (p : List Key × V) (q : List Key × Addr × Value) => p.1 = q.1 ∧ (upd H s.heap.objs.size (.dT (ps0.map fun p => (p.2.1, p.2.2.2)))) q.2.1 = some (.tup (p.1.map kV)) ∧ RelV p.2 q.2.2) (ps.map fun p => (p.2.1, p.2.2.2)) ((ps.zip vs).map fun z => (z.1.2.1, z.1.2.2.1, z.2)) := by
        intro ps0 ps
        induction ps with
        | nil => exact fun vs _ _ _ => .nil
        | cons p ps ih =>
          intro vs hl hv hk
          cases vs with
          | nil => cases hl
          | cons v vs =>
            obtain ⟨u, hu1, hu2, _⟩ := hv 0 p rfl
            cases hu1
            have e := hk p List.mem_cons_self
            exact .cons ⟨rfl, by rw [upd_ne (ne_of_none e hn)]; exact e, hu2⟩ (ih vs (Nat.succ.inj hl) (fun j p' hj => hv (j + 1) p' hj) fun p' hm => hk p' (List.mem_cons_of_mem _ hm))
      exact aux ps ps vs hvl hvs fun p hm => (hp p hm).2
/-- a list of pairs (tuple of keys, value) among data -/
def pairK (p : List Key × PyData) : PyData := .tuple [keyU p.1, p.2]
theorem fz_pairK {M : List Addr} {H : Hp} : ∀ {ps : List (List Key × PyData)} {vs : List V}, FzAll M H vs (ps.map pairK) →
    ∃ qs : List (Addr × List Key × Addr × V), vs = qs.map (fun q => V.ref q.1) ∧ qs.map (·.2.1) = ps.map (·.1) ∧ (∀ q ∈ qs, H q.1 = some (.tup [V.ref q.2.2.1, q.2.2.2]) ∧ H q.2.2.1 = some (.tup (q.2.1.map kV))) ∧
      Paired (fun q (p : List Key × PyData) => q.1 = p.1 ∧ Fz M H q.2 p.2) (qs.map fun q => (q.2.1, q.2.2.2)) ps
  | [], _, h => by cases h; exact ⟨[], rfl, rfl, (fun _ h => nomatch h), .nil⟩
  | p :: ps, _, h => by
    cases h with
    | @cons v vs _ _ h1 h2 =>
      obtain ⟨qs, e1, e2, e3, e4⟩ := fz_pairK h2
      unfold pairK at h1
      cases h1 with
      | @tup t xs _ ht hx =>
        cases hx with
        | @cons v1 _ _ _ k1 k2 =>
          cases k2 with
          | @cons v2 _ _ _ k3 k4 =>
            cases k4
            obtain ⟨b, rfl, hb, _⟩ := key_at (keyU_D p.1) k1
            refine ⟨(t, p.1, b, v2) :: qs, by rw [e1]; rfl, by rw [List.map_cons, e2]; rfl, fun q hq => ?_, .cons ⟨rfl, k3⟩ e4⟩
            rcases List.mem_cons.mp hq with rfl | hq
            · exact ⟨ht.1, hb⟩
            · exact e3 q hq
section
variable {X : Cx} {W : WX} {k j : Nat} {G : Gam} {S S1 S2 : Sto} {e a : Expr} {r : It} {pos pos' p p2 pos2 : Pos} {Q1 Qr : It → Sto → Prop} {Qx : Addr → Sto → Prop}
/-- dict(xs) -/
theorem ev_dictP {ps : List (List Key × PyData)} (c : Cxo X W k) (hm : X.mg "dict" = none) (ha : Ev X a G S r S1) (hr : lsOf S1 r = some (ps.map pairK)) (nd : (ps.map (·.1)).Nodup) (hg : Gl X "dict" := by rfl) (he : starEach [a] X.env = (false, eval a X.env) :: starEach [] X.env := by rfl) :
    Ev X (.Call (.Name "dict" p) [a] [] pos) G S (.o S1.length) (S1 ++ [.dT (ps.map fun p => (p.1, .d p.2))]) :=
  ev_ty (cr_dictPairs c.calm c.hr.units) hm (by decide +kernel) (eva_cons ha eva_nil he) (fun M H vs Q s hvs q => by
    obtain ⟨v, rfl, hv⟩ := vr1 hvs
    obtain ⟨ad, xs, rfl, h1, h2⟩ := ls_rd s hv hr
    obtain ⟨qs, rfl, e2, e3, e4⟩ := fz_pairK h2
    refine ⟨ad, qs, rfl, .inl h1, e3, by rw [e2]; exact nd, fun d hd => ?_⟩
    have e5 : Ext M H (M ++ [d]) (upd H d (.dT (qs.map fun p => (p.2.1, p.2.2.2)))) := Ext.own hd
    refine q _ _ _ e5 (s.own hd ⟨_, upd_same, ?_⟩) ⟨d, by rw [← s.len, List.getElem?_append_right (Nat.le_refl _), Nat.sub_self]; rfl, rfl⟩
    have aux : ∀ {l : List (List Key × V)} {ps : List (List Key × PyData)}, Paired (fun q (p : List Key × PyData) => q.1 = p.1 ∧ Fz M H q.2 p.2) l ps → PRep X.K (M ++ [d]) (upd H d (.dT (qs.map fun p => (p.2.1, p.2.2.2)))) l (ps.map fun p => (p.1, .d p.2)) := by
      intro l ps h
      induction h with
      | nil => exact .nil
      | cons h t ih => exact .cons ⟨h.1, Fz.ext e5 h.2⟩ ih
    exact aux e4) hg (by decide) (by decide) he rfl
end
/-- pairs of whole numbers -/
def pairD (c : Int × Int) : PyData := .tuple [.int c.1, .int c.2]
def ltP (a b : Int × Int) : Prop := a.1 < b.1 ∨ (a.1 = b.1 ∧ a.2 < b.2)
theorem fz_pairD {M : List Addr} {H : Hp} : ∀ {cs : List (Int × Int)} {vs : List V}, FzAll M H vs (cs.map pairD) →
    ∃ ks : List (Addr × List Int), vs = ks.map (fun p => V.ref p.1) ∧ ks.map (·.2) = cs.map (fun c => [c.1, c.2]) ∧ ∀ p ∈ ks, NdT M H p.1 (p.2.map V.int)
  | [], _, h => by cases h; exact ⟨[], rfl, rfl, (fun _ h => nomatch h)⟩
  | c :: cs, _, h => by
    cases h with
    | @cons v vs _ _ h1 h2 =>
      obtain ⟨ks, e1, e2, e3⟩ := fz_pairD h2
      unfold pairD at h1
      cases h1 with
      | @tup t xs _ ht hx =>
        have ex := fz_ints (xs := [c.1, c.2]) hx
        subst ex
        refine ⟨(t, [c.1, c.2]) :: ks, by rw [e1]; rfl, by rw [List.map_cons, e2]; rfl, fun p hp => ?_⟩
        rcases List.mem_cons.mp hp with rfl | hp
        · exact ht
        · exact e3 p hp
theorem fz_ofPairs {M : List Addr} {H : Hp} : ∀ {ks : List (Addr × List Int)} {cs : List (Int × Int)}, ks.map (·.2) = cs.map (fun c => [c.1, c.2]) → (∀ p ∈ ks, NdT M H p.1 (p.2.map V.int)) → FzAll M H (ks.map fun p => V.ref p.1) (cs.map pairD)
  | [], [], _, _ => .nil
  | [], _ :: _, h, _ => by cases h
  | _ :: _, [], h, _ => by cases h
  | p :: ks, c :: cs, h, hp => by
    rw [List.map_cons, List.map_cons] at h
    injection h with h1 h2
    have ht := hp p List.mem_cons_self
    rw [show p.2 = [c.1, c.2] from h1] at ht
    exact .cons (.tup ht (.cons (.int c.1) (.cons (.int c.2) .nil))) (fz_ofPairs h2 fun q hq => hp q (List.mem_cons_of_mem _ hq))
theorem pairs_inv : ∀ {cs : List (Int × Int)} {ls : List (List Int)}, (∀ l ∈ ls, l ∈ cs.map fun c => [c.1, c.2]) → ∃ qs : List (Int × Int), ls = qs.map (fun c => [c.1, c.2]) := by
  intro cs ls
  induction ls with
  | nil => exact fun _ => ⟨[], rfl⟩
  | cons l ls ih =>
    intro h
    obtain ⟨qs, e⟩ := ih fun l hl => h l (List.mem_cons_of_mem _ hl)
    obtain ⟨c, _, ec⟩ := List.mem_map.mp (h l List.mem_cons_self)
    exact ⟨c :: qs, by rw [List.map_cons, ← e, ec]⟩
section
variable {X : Cx} {W : WX} {k j : Nat} {G : Gam} {S S1 S2 : Sto} {e a : Expr} {r : It} {pos pos' p p2 pos2 : Pos} {Q1 Qr : It → Sto → Prop} {Qx : Addr → Sto → Prop}
/-- sorted(set(xs)), xs few pairs of small numbers -/
theorem evx_sortedSet {cs : List (Int × Int)} (c : Cxo X W k) (hm : X.mg "sorted" = none) (hm2 : X.mg "set" = none) (ha : Ev X a G S r S1) (hr : lsOf S1 r = some (cs.map pairD)) (hl : cs.length < 64) (hb : ∀ c ∈ cs, (0 ≤ c.1 ∧ c.1 < 64) ∧ 0 ≤ c.2 ∧ c.2 < 64)
    (hq : ∀ qs : List (Int × Int), qs.Pairwise ltP → (∀ q, q ∈ qs ↔ q ∈ cs) → Qr (.o S1.length) (S1 ++ [.lst ((qs.map pairD).map .d)]))
    (hg : Gl X "sorted" := by rfl) (hg2 : Gl X "set" := by rfl) (he : starEach [a] X.env = (false, eval a X.env) :: starEach [] X.env := by rfl)
    (he2 : starEach [.Call (.Name "set" p2) [a] [] pos2] X.env = (false, eval (.Call (.Name "set" p2) [a] [] pos2) X.env) :: starEach [] X.env := by rfl) :
    EvX X W (.Call (.Name "sorted" p) [.Call (.Name "set" p2) [a] [] pos2] [] pos) G S Qr Qx := fun M σ H Q s h1 _ =>
  toE (pe_callB (cr_sortedT c.calm) hg hm (by decide +kernel) (pa_cons (pe_callTy (cr_setOfT c.calm c.hr.units) hg2 hm2 (by decide +kernel) (pa_cons pe_s pa_nil he) (by decide) (by decide) he rfl) pa_nil he2) (by decide) (by decide) he2 rfl)
    (ha M σ H _ s fun v M1 H1 e1 s1 r1 => by
      obtain ⟨ad, xs, rfl, k1, k2⟩ := ls_rd s1.sto r1 hr
      obtain ⟨ks, rfl, e2, e3⟩ := fz_pairD k2
      have hkl : ks.length = cs.length := by have := congrArg List.length e2; simpa using this
      refine ⟨ad, ks, rfl, .inl k1, fun p hp => .inl (.inl (e3 p hp).1), by omega, fun st L hst hL1 hL2 => ?_⟩
      have ef : Ext M1 H1 M1 (upd H1 st (SetTO X.prog X.w st L)) := Ext.fresh hst
      have sf := s1.fresh (o := SetTO X.prog X.w st L) hst
      have hLt : ∀ p ∈ L, NdT M1 (upd H1 st (SetTO X.prog X.w st L)) p.1 (p.2.map V.int) := fun p hp => (e3 p (hL1 p hp)).ext ef
      have hin : ∀ p ∈ L, ∃ c ∈ cs, p.2 = [c.1, c.2] := fun p hp => by
        have : p.2 ∈ ks.map (·.2) := List.mem_map.mpr ⟨p, hL1 p hp, rfl⟩
        rw [e2] at this
        obtain ⟨c, hc, e⟩ := List.mem_map.mp this
        exact ⟨c, hc, e.symm⟩
      refine ⟨st, L, 2, 64, rfl, upd_same, fun p hp => .inl (.inl (hLt p hp).1), by decide, fun p hp => ?_, fun L' q pm nd few pw hq' => ?_⟩
      · obtain ⟨c, hc, e⟩ := hin p hp
        rw [e]
        refine ⟨rfl, fun m hm => ?_⟩
        rcases List.mem_cons.mp hm with rfl | hm
        · exact (hb c hc).1
        · rw [List.mem_singleton.mp hm]; exact (hb c hc).2
      · obtain ⟨qs, eqs⟩ := pairs_inv (cs := cs) (ls := L'.map (·.2)) fun l hl' => by
          obtain ⟨p, hp, rfl⟩ := List.mem_map.mp hl'
          obtain ⟨c, hc, e⟩ := hin p (pm.mem_iff.mp hp)
          exact List.mem_map.mpr ⟨c, hc, e.symm⟩
        have hqm : ∀ q, q ∈ qs ↔ q ∈ cs := fun q => by
          have inj : ∀ (l : List (Int × Int)), q ∈ l ↔ [q.1, q.2] ∈ l.map fun c => [c.1, c.2] := fun l => ⟨fun h => List.mem_map.mpr ⟨q, h, rfl⟩, fun h => by
            obtain ⟨c, hc, e⟩ := List.mem_map.mp h
            injection e with a1 a2
            injection a2 with a2 _
            rw [← Prod.ext a1 a2]
            exact hc⟩
          rw [inj qs, inj cs, ← eqs, ← e2]
          constructor
          · intro h
            obtain ⟨p, hp, e⟩ := List.mem_map.mp h
            rw [← e]
            exact List.mem_map.mpr ⟨p, hL1 p (pm.mem_iff.mp hp), rfl⟩
          · intro h
            obtain ⟨p, hp, e⟩ := List.mem_map.mp h
            have := hL2 p hp
            rw [e] at this
            obtain ⟨p', hp', e'⟩ := List.mem_map.mp this
            rw [← e']
            exact List.mem_map.mpr ⟨p', pm.mem_iff.mpr hp', rfl⟩
        have hqp : qs.Pairwise ltP := by
          have p1 : (L'.map (·.2)).Pairwise fun a b => TS.code 64 a ≤ TS.code 64 b := List.Pairwise.map _ (fun _ _ h => h) pw
          rw [eqs] at p1 nd
          have p2 := List.pairwise_map.mp p1
          have p3 := List.pairwise_map.mp nd
          refine (p2.and p3).imp_of_mem fun {a b} ha hb' h => ?_
          have ba := hb a ((hqm a).mp ha)
          have bb := hb b ((hqm b).mp hb')
          exact pair_lt h.1 h.2 ba.1 ba.2 bb.1 bb.2
        have e4 : Ext M1 (upd H1 st (SetTO X.prog X.w st L)) (M1 ++ [q]) (upd (upd H1 st (SetTO X.prog X.w st L)) q (.lst (L'.map fun q => V.ref q.1))) := Ext.own hq'
        have fz : FzAll (M1 ++ [q]) (upd (upd H1 st (SetTO X.prog X.w st L)) q (.lst (L'.map fun q => V.ref q.1))) (L'.map fun q => V.ref q.1) (qs.map pairD) := fz_ofPairs eqs fun p hp => (hLt p (pm.mem_iff.mp hp)).ext e4
        have s4 := sf.sto.own (w := .lst ((qs.map pairD).map .d)) hq' ⟨_, upd_same, fz_reps fz⟩
        exact h1 _ _ _ (.o S1.length) (S1 ++ [.lst ((qs.map pairD).map .d)]) ((e1.trans ef).trans e4) (sf.mono e4 s4) ⟨q, by rw [← sf.sto.len, List.getElem?_append_right (Nat.le_refl _), Nat.sub_self]; rfl, rfl⟩ (hq qs hqp hqm))
end
end Cu
/-! CxA: len(set(xs)), xs many tuples of whole numbers whose hashes are all unlike. -/
namespace Cu
open PySem PySem.Spec PyProof.Rows L2
/-! ### every slot is met: masks to 2047 -/
def MkC (m : Nat) : Prop := m = 7 ∨ m = 31 ∨ m = 127 ∨ m = 511 ∨ m = 2047
def covB (m : Nat) : Nat → Nat → Nat → Nat
  | 0, _, acc => acc
  | k + 1, x, acc => covB m k ((x * 5 + 1) % (m + 1)) (acc ||| 2 ^ x)
theorem lcg_front (m : Nat) : ∀ (k i : Nat), lcgI m i (k + 1) = lcgI m ((i * 5 + 1) % (m + 1)) k
  | 0, _ => rfl
  | k + 1, i => congrArg (fun z => (z * 5 + 1) % (m + 1)) (lcg_front m k i)
theorem lcg_plus (m i a : Nat) : ∀ k, lcgI m (lcgI m i a) k = lcgI m i (a + k)
  | 0 => rfl
  | k + 1 => congrArg (fun z => (z * 5 + 1) % (m + 1)) (lcg_plus m i a k)
theorem covB_bit {m j : Nat} : ∀ {k x acc : Nat}, (covB m k x acc).testBit j = true → acc.testBit j = true ∨ ∃ i, i < k ∧ lcgI m x i = j
  | 0, _, _, h => .inl h
  | k + 1, x, acc, h => by
    rcases covB_bit (k := k) h with h | ⟨i, hi, e⟩
    · rw [Nat.testBit_or, Bool.or_eq_true] at h
      rcases h with h | h
      · exact .inl h
      · rw [Nat.testBit_two_pow, decide_eq_true_eq] at h
        exact .inr ⟨0, Nat.succ_pos _, h⟩
    · exact .inr ⟨i + 1, Nat.succ_lt_succ hi, (lcg_front m i x).trans e⟩
theorem cov_7 : covB 7 8 0 0 = 2 ^ 8 - 1 ∧ lcgI 7 0 8 = 0 := by decide +kernel
theorem cov_31 : covB 31 32 0 0 = 2 ^ 32 - 1 ∧ lcgI 31 0 32 = 0 := by decide +kernel
theorem cov_127 : covB 127 128 0 0 = 2 ^ 128 - 1 ∧ lcgI 127 0 128 = 0 := by decide +kernel
theorem cov_511 : covB 511 512 0 0 = 2 ^ 512 - 1 ∧ lcgI 511 0 512 = 0 := by decide +kernel
theorem cov_2047 : covB 2047 2048 0 0 = 2 ^ 2048 - 1 ∧ lcgI 2047 0 2048 = 0 := by decide +kernel
theorem cov_all {m : Nat} (hm : MkC m) : covB m (m + 1) 0 0 = 2 ^ (m + 1) - 1 ∧ lcgI m 0 (m + 1) = 0 := by
  rcases hm with e | e | e | e | e <;> subst e
  · exact cov_7
  · exact cov_31
  · exact cov_127
  · exact cov_511
  · exact cov_2047
theorem lcg_from0 {m j : Nat} (hm : MkC m) (hj : j ≤ m) : ∃ a, a ≤ m ∧ lcgI m 0 a = j := by
  have h : (covB m (m + 1) 0 0).testBit j = true := by
    rw [(cov_all hm).1, Nat.testBit_two_pow_sub_one]
    exact decide_eq_true (Nat.lt_succ_of_le hj)
  rcases covB_bit h with z | ⟨i, hi, e⟩
  · rw [Nat.zero_testBit] at z; cases z
  · exact ⟨i, Nat.le_of_lt_succ hi, e⟩
theorem lcg_any {m i j : Nat} (hm : MkC m) (hi : i ≤ m) (hj : j ≤ m) : ∃ k, k ≤ m ∧ lcgI m i k = j := by
  obtain ⟨a, ha, rfl⟩ := lcg_from0 hm hi
  obtain ⟨b, hb, eb⟩ := lcg_from0 hm hj
  by_cases c : a ≤ b
  · exact ⟨b - a, by omega, by rw [lcg_plus, Nat.add_sub_cancel' c]; exact eb⟩
  · refine ⟨(m + 1) + b - a, by omega, ?_⟩
    rw [lcg_plus, show a + ((m + 1) + b - a) = (m + 1) + b by omega, ← lcg_plus, (cov_all hm).2]
    exact eb
/-- the place's step that begins a run there -/
theorem run_any {m j : Nat} (hm : MkC m) (h : Int) (hj : j ≤ m) : ∃ n, n ≤ m + 12 ∧ runI m (SetTable.bits h) n = j := by
  obtain ⟨k, hk, e⟩ := lcg_any hm (runI_le m (SetTable.bits h) 12) hj
  exact ⟨12 + k, by omega, (runI_tail (bits_lt h) k).trans e⟩
theorem way_any {m j : Nat} (hm : MkC m) (h : Int) (hj : j ≤ m) : ∃ k, k < 10 * SetTable.turns m ∧ way m h k = j := by
  obtain ⟨n, hn, e⟩ := run_any hm h hj
  obtain ⟨k, hk, e2⟩ := run_nth m (SetTable.bits h) n
  refine ⟨k, by unfold SetTable.turns; omega, (congrArg SetTable.Probe.j e2).trans e⟩
theorem way_in (m : Nat) (h : Int) (k : Nat) : way m h k ≤ m := by
  have hi : SetTable.bits h % (m + 1) ≤ m := Nat.le_of_lt_succ (Nat.mod_lt _ (Nat.succ_pos _))
  have r := runEnd_bd hi
  have q := nth_in (m := m) k (runAt m (SetTable.bits h % (m + 1)) (SetTable.bits h)) (show SetTable.bits h % (m + 1) + (SetTable.runEnd m (SetTable.bits h % (m + 1)) - SetTable.bits h % (m + 1)) ≤ m by omega)
  exact Nat.le_trans (Nat.le_add_right _ _) q
/-- a free place of the way is found when all is laid anew -/
theorem free_any {m j : Nat} (hm : MkC m) (owner : Array (Option Nat)) (h : Int) (hj : j ≤ m) (hf : oAt owner j = none) :
    ∃ K, SetTable.layClean.free m owner (SetTable.turns m) (SetTable.bits h % (m + 1)) (SetTable.bits h) = some (way m h K) ∧ oAt owner (way m h K) = none ∧ ∀ k, k < K → oAt owner (way m h k) ≠ none := by
  obtain ⟨n, hn, e⟩ := run_any hm h hj
  have hw : way m h (off m (SetTable.bits h % (m + 1)) (SetTable.bits h) n) = j := by
    unfold way
    rw [nth_off, itL_run]; exact e
  obtain ⟨K, k1, k2, k3⟩ := st_least (p := fun k => oAt owner (way m h k) = none) _ (show oAt owner (way m h (off m (SetTable.bits h % (m + 1)) (SetTable.bits h) n)) = none by rw [hw]; exact hf)
  refine ⟨K, free_spec m owner _ n _ _ K (by unfold SetTable.turns; omega) k1 (fun k hk => ?_) ?_, k2, k3⟩
  · have q := k3 k hk
    show (oAt owner (way m h k)).isNone = false
    cases z : oAt owner (way m h k) with
    | none => exact (q z).elim
    | some _ => rfl
  · show (oAt owner (way m h K)).isNone = true
    rw [k2]; rfl
/-! ### the table -/
structure TabC (t : SetTable) (n : Nat) : Prop where
  ris : Ris t.place.toList
  dm : t.dummies = #[]
  sz : t.place.size = n
  mok : MkC t.mask
  bd : ∀ x ∈ t.place.toList, x ≤ t.mask
theorem TabC.fits {t : SetTable} {n : Nat} (T : TabC t n) (h : n ≤ t.mask) : t.fits n = true := by
  unfold SetTable.fits SetTable.fill
  rw [T.dm, T.sz, Bool.and_eq_true]
  exact ⟨beq_self_eq_true _, decide_eq_true (by simpa using h)⟩
theorem TabC.first {t : SetTable} {n : Nat} (T : TabC t n) (hn : n ≤ t.mask) (h : Int) : ∃ K, K < 10 * SetTable.turns t.mask ∧ way t.mask h K ∉ t.place.toList ∧ ∀ k, k < K → way t.mask h k ∈ t.place.toList := by
  obtain ⟨j, hj, nj⟩ := st_missing t.place.toList (t.mask + 1) (by rw [Array.length_toList, T.sz]; omega)
  obtain ⟨k, hk, e⟩ := way_any T.mok h (Nat.le_of_lt_succ hj)
  obtain ⟨K, h1, h2, h3⟩ := st_least (p := fun k => way t.mask h k ∉ t.place.toList) k (show way t.mask h k ∉ t.place.toList by rw [e]; exact nj)
  exact ⟨K, Nat.lt_of_le_of_lt h1 hk, h2, fun k' hk' => Classical.byContradiction fun c => h3 k' hk' c⟩
theorem TabC.put {t : SetTable} {n j : Nat} (T : TabC t n) (hj : j ∉ t.place.toList) (hm : j ≤ t.mask) : TabC (t.put j).1 (n + 1) := by
  have hnp : t.place[SetTable.below t.place j]? ≠ some j := fun e => hj (List.mem_of_getElem? ((Array.getElem?_toList (xs := t.place)).trans e))
  have hb := (below_cut T.ris j).1
  have hpp := put_place t j
  refine ⟨ris_insert T.ris hnp, put_dm T.dm j, ?_, T.mok, fun x hx => ?_⟩
  · rw [← Array.length_toList, hpp, len_ins _ (by rw [Array.length_toList]; exact hb), Array.length_toList, T.sz]
  · rw [hpp] at hx
    rcases mem_ins.1 hx with rfl | z
    · exact hm
    · exact T.bd x z
/-- nothing of this hash: the search ends at the first free place of the way -/
theorem TabC.probe {t : SetTable} {n K : Nat} (T : TabC t n) {h : Int} {f : Nat → Int} (hf : ∀ i, i < n → f i ≠ h) (hK : K < 10 * SetTable.turns t.mask) (h1 : way t.mask h K ∉ t.place.toList) (h2 : ∀ k, k < K → way t.mask h k ∈ t.place.toList) :
    t.probe f h (t.probeStart h) = some (.empty (way t.mask h K) none) := by
  rcases go_spec t T.ris T.dm f h (10 * SetTable.turns t.mask) K (runAt t.mask (SetTable.bits h % (t.mask + 1)) (SetTable.bits h)) rfl hK h2 h1 with ⟨k, i, _, hi, e, _⟩ | ⟨_, e⟩
  · have hl := (List.getElem?_eq_some_iff.mp hi).1
    rw [Array.length_toList, T.sz] at hl
    exact (hf i hl e).elim
  · exact e
/-! ### laid anew -/
theorem own_step {m : Nat} (hm : MkC m) {done : List Int} {owner : Array (Option Nat)} (W : L2.Own m done owner) (hl : done.length ≤ m) (h : Int) :
    ∃ j, SetTable.layClean.free m owner (SetTable.turns m) (SetTable.bits h % (m + 1)) (SetTable.bits h) = some j ∧ L2.Own m (done ++ [h]) (owner.setIfInBounds j (some done.length)) := by
  obtain ⟨ps, hps, hin⟩ := W.ps
  obtain ⟨j0, h0, n0⟩ := st_missing ps (m + 1) (by omega)
  have z0 : oAt owner j0 = none := Classical.byContradiction fun z => n0 (hin j0 (Nat.le_of_lt_succ h0) z)
  obtain ⟨K, e1, e2, e3⟩ := free_any hm owner h (Nat.le_of_lt_succ h0) z0
  generalize hw : way m h K = jw at e1 e2
  have hjm : jw ≤ m := by rw [← hw]; exact way_in m h K
  have hself : oAt (owner.setIfInBounds jw (some done.length)) jw = some done.length := oAt_set_self _ (by rw [W.sz]; omega)
  have mono : ∀ i, oAt owner i ≠ none → oAt (owner.setIfInBounds jw (some done.length)) i ≠ none := fun i hi => by
    by_cases c : i = jw
    · subst c; rw [hself]; exact Option.some_ne_none _
    · rw [oAt_set_ne _ c]; exact hi
  refine ⟨jw, e1, by rw [Array.size_setIfInBounds]; exact W.sz, fun j k hj e => ?_, fun k hk => ?_, jw :: ps, by simp [hps], fun j hj e => ?_⟩
  · by_cases c : j = jw
    · subst c
      rw [hself] at e
      cases e
      exact ⟨h, K, by simp, hw, fun k' hk' => mono _ (e3 k' hk')⟩
    · rw [oAt_set_ne _ c] at e
      obtain ⟨h', K', a1, a2, a3⟩ := W.at_ j k hj e
      exact ⟨h', K', by rw [List.getElem?_append_left (List.getElem?_eq_some_iff.mp a1).1]; exact a1, a2, fun k' hk' => mono _ (a3 k' hk')⟩
  · rw [List.length_append, List.length_singleton] at hk
    by_cases c : k < done.length
    · obtain ⟨j, hj, e⟩ := W.all k c
      exact ⟨j, hj, by rw [oAt_set_ne _ (fun z => by rw [z, e2] at e; cases e)]; exact e⟩
    · rw [show k = done.length by omega]
      exact ⟨jw, hjm, hself⟩
  · by_cases c : j = jw
    · rw [c]; exact List.mem_cons_self
    · rw [oAt_set_ne _ c] at e
      exact List.mem_cons_of_mem _ (hin j hj e)
theorem lay_steps {m : Nat} (hm : MkC m) : ∀ (rest done : List Int) (owner : Array (Option Nat)), L2.Own m done owner → done.length + rest.length ≤ m →
    ∃ o', (rest.foldl (stepF m) (some (owner, done.length))).map (·.1) = some o' ∧ L2.Own m (done ++ rest) o'
  | [], done, owner, W, _ => ⟨owner, rfl, by rw [List.append_nil]; exact W⟩
  | h :: rest, done, owner, W, hl => by
    rw [List.length_cons] at hl
    obtain ⟨j, e, W1⟩ := own_step hm W (by omega) h
    obtain ⟨o', f, W2⟩ := lay_steps hm rest (done ++ [h]) _ W1 (by rw [List.length_append, List.length_singleton]; omega)
    refine ⟨o', ?_, by rw [← List.append_cons] at W2; exact W2⟩
    rw [List.foldl_cons, stepF_some e]
    rw [List.length_append, List.length_singleton] at f
    exact f
theorem relaidC (t : SetTable) {hs : Array Int} {wanted M : Nat} (hw : SetTable.sizeAbove wanted - 1 = M) (hM : MkC M) (hn : hs.size ≤ M) :
    ∃ t' order, t.relaid hs wanted = some (t', order) ∧ order.toList.Perm (List.range hs.size) ∧ TabC t' hs.size ∧ t'.mask = M ∧ t'.plain = t.plain := by
  obtain ⟨owner, f, W⟩ := lay_steps hM hs.toList ([] : List Int) _ (L2.Own.init M) (by show 0 + hs.toList.length ≤ M; rw [Array.length_toList]; omega)
  rw [List.nil_append] at W
  have e : SetTable.layClean M hs = some owner := (layClean_eq M hs).trans f
  have hr : t.relaid hs wanted = some (tabOf t M owner, ((liveOf M owner).map (·.2)).toArray) := by
    rw [relaid_eq, hw, e]; rfl
  have ris := ris_live (fun j => owner.getD j none) (List.range (M + 1)) List.pairwise_lt_range
  have r1 : Ris ((liveOf M owner).map (·.1)) := ris.1
  have r2 : ∀ x ∈ (liveOf M owner).map (·.1), x ∈ List.range (M + 1) := ris.2
  have hlen : (liveOf M owner).length = hs.size := by
    obtain ⟨ps, p1, p2⟩ := W.ps
    have a := nat_nodup_len ((liveOf M owner).map (·.1)) ps (show ((liveOf M owner).map (·.1)).Nodup from List.Pairwise.imp (fun h => Nat.ne_of_lt h) (show ((liveOf M owner).map (·.1)).Pairwise (fun a b : Nat => a < b) from r1)) fun x hx => by
      obtain ⟨⟨y, k⟩, hq, rfl⟩ := List.mem_map.mp hx
      obtain ⟨b1, b2⟩ := (mem_live W.sz).1 hq
      exact p2 y b1 (by rw [b2]; exact Option.some_ne_none _)
    have b := nat_nodup_len (List.range hs.size) ((liveOf M owner).map (·.2)) List.nodup_range fun k hk => by
      obtain ⟨j, b1, b2⟩ := W.all k (by rw [Array.length_toList]; exact List.mem_range.mp hk)
      exact List.mem_map.mpr ⟨(j, k), (mem_live W.sz).2 ⟨b1, b2⟩, rfl⟩
    rw [List.length_map, p1] at a
    rw [List.length_map, List.length_range] at b
    have hz : hs.toList.length = hs.size := rfl
    omega
  refine ⟨_, _, hr, perm_range hs.size _ (by simp [hlen]) fun k hk => ?_, ⟨r1, rfl, by show ((liveOf M owner).map (·.1)).toArray.size = _; rw [List.size_toArray, List.length_map, hlen], hM, fun x hx => Nat.le_of_lt_succ (List.mem_range.mp (r2 x hx))⟩, rfl, rfl⟩
  obtain ⟨j, b1, b2⟩ := W.all k (by rw [Array.length_toList]; exact hk)
  exact List.mem_map.mpr ⟨(j, k), (mem_live W.sz).2 ⟨b1, b2⟩, rfl⟩
theorem pick_all {α : Type} : ∀ l : List α, (List.range l.length).filterMap (fun i => l[i]?) = l
  | [] => rfl
  | x :: l => by
    rw [List.length_cons, List.range_succ_eq_map, List.filterMap_cons, List.filterMap_map]
    exact congrArg (x :: ·) (pick_all l)
theorem order_perm {es : Array (Int × Value)} {order : Array Nat} (hp : order.toList.Perm (List.range es.size)) : (order.filterMap (es[·]?)).toList.Perm es.toList := by
  have h : (order.filterMap (es[·]?)).toList = order.toList.filterMap fun i => es.toList[i]? := by
    rw [Array.toList_filterMap]
    exact congrArg (fun f => List.filterMap f order.toList) (funext fun i => (Array.getElem?_toList (xs := es)).symm)
  rw [h]
  have q := hp.filterMap fun i => es.toList[i]?
  rw [← Array.length_toList, pick_all] at q
  exact q
end Cu
/-! CxB: the set of many tuples as it is filled; len of it. -/
namespace Cu
open PySem PySem.Spec PyProof.Rows L2
/-- n elements with hashes of hs -/
def SetC (h : Heap) (a : Addr) (n : Nat) (hs : List Int) : Prop := ∃ o es ep t, h.get? a = some o ∧ o.ExactSet ∧ o.data = .set es ep t ∧ es.size = n ∧ (∀ e ∈ es.toList, e.1 ∈ hs) ∧ TabC t n ∧ t.plain = true ∧ n * 5 < t.mask * 3
section
variable {P : Program} {w : World} {A : Around} {E : Value → Shared → Prop} {s : Shared} {a : Addr} {n : Nat} {hs : List Int}
theorem SetC.keep {h h' : Heap} (R : SetC h a n hs) (k : ∀ o, h.get? a = some o → h'.get? a = some o) : SetC h' a n hs := by
  obtain ⟨o, es, ep, t, ho, r⟩ := R
  exact ⟨o, es, ep, t, k o ho, r⟩
/-- a new one is put in -/
theorem add_C {x : Addr} {kk : List Int} (R : SetC s.heap a n hs) (hx : IsT P w s.heap kk x) (hnew : thash P w kk ∉ hs) (hu : A.units < cLine) (few : n + 1 < 1000) {Q : Bool → Shared → Prop}
    (hQ : ∀ h', Heap.SameBut a s.heap h' → SetC h' a (n + 1) (hs ++ [thash P w kk]) → Q true { s with heap := h' }) : wpAny (model P w) A (setAddHashed a (.ref x) (thash P w kk)) Q E s := by
  obtain ⟨o, es, ep, t, ho, hex, hd, hsz, hel, T, pl, room⟩ := R
  have hfit : t.fits es.size = true := by rw [hsz]; exact T.fits (by omega)
  obtain ⟨K, k1, k2, k3⟩ := T.first (by omega) (thash P w kk)
  have hpr := T.probe (f := fun i => (es[i]?.map (·.1)).getD 0) (h := thash P w kk) (fun i hi z => by
    have hi' : i < es.size := by omega
    have e : es[i]? = some es[i] := Array.getElem?_eq_getElem hi'
    have z' : es[i].1 = thash P w kk := by
      have := z
      simp only [e, Option.map_some, Option.getD_some] at this
      exact this
    exact hnew (z' ▸ hel es[i] (by simp))) k1 k2 k3
  unfold setAddHashed
  refine wpAny_holding ?_
  rw [show (100000 : Nat) = 99999 + 1 from rfl, setAddHashedIn_succ]
  refine wpAny_bind (wpAny_setState_of ho hd hfit ?_)
  dsimp only
  refine wp_if_neg (by simp [byScan, Value.scannable]) ?_
  try refine wpAny_bind (wpAny_pure ?_)
  have hsearch : ∀ Q' : SetFound → Shared → Prop, Q' (.free (way t.mask (thash P w kk) K) false) s → wpAny (model P w) A (setSearch a (.ref x) (thash P w kk) true) Q' E s := fun Q' q' => by
    unfold setSearch
    rw [show (100000 : Nat) = 99999 + 1 from rfl, setSearchFrom_succ]
    refine wpAny_bind (wpAny_setState_of ho hd hfit ?_)
    dsimp only
    have hgw : ¬ t.gaveWay = true := by
      unfold SetTable.gaveWay
      rcases T.mok with e | e | e | e | e <;> rw [e] <;> decide
    refine wp_if_neg hgw ?_
    try refine wpAny_bind (wpAny_pure ?_)
    rw [show (Option.none : Option SetTable.Probe).getD (t.probeStart (thash P w kk)) = t.probeStart (thash P w kk) from rfl, hpr]
    dsimp only
    exact wpAny_pure q'
  refine wpAny_bind (hsearch _ ?_)
  dsimp only
  refine wpAny_bind (wpAny_setState_of ho hd hfit ?_)
  dsimp only
  have T1 := T.put k2 (way_in _ _ _)
  have hm1 : (t.put (way t.mask (thash P w kk) K)).1.mask = t.mask := rfl
  have hp1 : (t.put (way t.mask (thash P w kk) K)).1.plain = true := pl
  have hi1 : (t.put (way t.mask (thash P w kk) K)).2 = SetTable.below t.place (way t.mask (thash P w kk) K) := rfl
  have hbl := (below_cut T.ris (way t.mask (thash P w kk) K)).1
  generalize t.put (way t.mask (thash P w kk) K) = pt at T1 hm1 hp1 hi1 ⊢
  obtain ⟨t1, p⟩ := pt
  dsimp only at T1 hm1 hp1 hi1 ⊢
  subst hi1
  generalize hpp : SetTable.below t.place (way t.mask (thash P w kk) K) = p at hbl ⊢
  have hin : (SetTable.insertAt es p (thash P w kk, Value.ref x)).toList.Perm ((thash P w kk, Value.ref x) :: es.toList) := by
    rw [SetTable.toList_insertAt]
    exact put_perm es.toList p _
  have hes : (SetTable.insertAt es p (thash P w kk, Value.ref x)).size = n + 1 := by
    rw [← Array.length_toList, hin.length_eq, List.length_cons, Array.length_toList, hsz]
  have hel1 : ∀ e ∈ (SetTable.insertAt es p (thash P w kk, Value.ref x)).toList, e.1 ∈ hs ++ [thash P w kk] := fun e he => by
    rcases List.mem_cons.mp (hin.mem_iff.mp he) with rfl | he
    · exact List.mem_append_right _ (List.mem_singleton.mpr rfl)
    · exact List.mem_append_left _ (hel e he)
  generalize SetTable.insertAt es p (thash P w kk, Value.ref x) = es1 at hin hes hel1 ⊢
  first
    | (refine wpAny_bind ?_; refine wp_if_pos hp1 ?_; refine hashBy_tup hx ?_)
    | refine wp_if_pos hp1 (wpAny_bind (hashBy_tup hx ?_))
  simp only [if_true]
  refine wpAny_bind (wpAny_storeSet_of ho hd ?_ (by rw [hes, sizeLine_eq]; omega))
  have sb : Heap.SameBut a s.heap (s.heap.update a (Obj.putSet es1 t1)) := Heap.SameBut.update ..
  have ho1 := store_at (es' := es1) (t' := t1) ho hd
  generalize s.heap.update a (Obj.putSet es1 t1) = h1 at sb ho1 ⊢
  have hfill : t1.fill = n + 1 := by
    unfold SetTable.fill
    rw [T1.dm, T1.sz]; rfl
  by_cases hf : t1.tooFull = true
  · first
      | (refine wpAny_bind ?_; refine wp_if_pos (by simp [hf]) ?_)
      | (refine wp_if_pos (by simp [hf]) ?_; refine wpAny_bind ?_)
    have hfull : (n + 1) * 5 ≥ t.mask * 3 := by
      unfold SetTable.tooFull at hf
      rw [decide_eq_true_eq, hfill, hm1] at hf
      exact hf
    rw [hsz]
    obtain ⟨M, m1, m2, m3, m4⟩ : ∃ M, SetTable.sizeAbove (SetTable.grown (n + 1)) - 1 = M ∧ MkC M ∧ (n + 1) * 5 < M * 3 ∧ SetTable.sizeAbove (SetTable.grown (n + 1)) ≤ 2048 := by
      rcases T.mok with e | e | e | e | e
      · have en : n = 4 := by rw [e] at room hfull; omega
        subst en
        exact ⟨31, by decide +kernel, .inr (.inl rfl), by decide, by decide +kernel⟩
      · have en : n = 18 := by rw [e] at room hfull; omega
        subst en
        exact ⟨127, by decide +kernel, .inr (.inr (.inl rfl)), by decide, by decide +kernel⟩
      · have en : n = 76 := by rw [e] at room hfull; omega
        subst en
        exact ⟨511, by decide +kernel, .inr (.inr (.inr (.inl rfl))), by decide, by decide +kernel⟩
      · have en : n = 306 := by rw [e] at room hfull; omega
        subst en
        exact ⟨2047, by decide +kernel, .inr (.inr (.inr (.inr rfl))), by decide, by decide +kernel⟩
      · exfalso; rw [e] at hfull; omega
    obtain ⟨t2, order, e2, hp2, T2, em, epl⟩ := relaidC t1 (hs := es1.map (·.1)) (wanted := SetTable.grown (n + 1)) m1 m2 (by rw [Array.size_map, hes]; omega)
    rw [Array.size_map] at hp2 T2
    have hp3 := order_perm (es := es1) hp2
    have hs2 : (order.filterMap (es1[·]?)).size = n + 1 := by rw [← Array.length_toList, hp3.length_eq, Array.length_toList, hes]
    rw [setRelay_eq]
    refine wpAny_bind (wpAny_setState_of (s := { s with heap := h1 }) ho1 rfl (by rw [hes]; exact T1.fits (by omega)) ?_)
    dsimp only
    refine wp_if_neg (by rw [sizeLine_eq]; omega) ?_
    try refine wpAny_bind (wpAny_pure ?_)
    rw [e2]
    dsimp only
    refine wpAny_bind ?_
    refine wp_if_neg (by rw [hs2, hes]; simp) ?_
    try refine wpAny_bind (wpAny_pure ?_)
    refine wpAny_pure ?_
    dsimp only
    refine wpAny_storeSet_of (s := { s with heap := h1 }) ho1 rfl ?_ (by rw [hs2, sizeLine_eq]; omega)
    refine wpAny_pure (hQ _ (sb.trans (Heap.SameBut.update ..)) ⟨_, order.filterMap (es1[·]?), _, t2, store_at ho1 rfl, ⟨hex.1, hex.2.1, hex.2.2⟩, rfl, hs2, fun e he => hel1 e (hp3.mem_iff.mp he), by rw [hes] at T2; exact T2, by rw [epl]; exact hp1, by rw [em]; exact m3⟩)
  · first
      | refine wp_if_neg (by simp [hf]) ?_
      | (refine wpAny_bind ?_; refine wp_if_neg (by simp [hf]) ?_; refine wpAny_pure ?_)
    refine wpAny_pure (hQ h1 sb ⟨_, es1, ep + 1, t1, ho1, ⟨hex.1, hex.2.1, hex.2.2⟩, rfl, hes, hel1, T1, hp1, ?_⟩)
    unfold SetTable.tooFull at hf
    rw [decide_eq_true_eq, hfill] at hf
    omega
end
end Cu
/-! CxC: set(xs), len(set(xs)) of many tuples. -/
namespace Cu
open PySem PySem.Spec PyProof.Rows L2
def setO (w : World) : Obj := { cls := .type "set", dict := none, data := .set #[] 0 (.fresh 0 0 (!w.params.followText "set-order")) }
theorem SetC.new {w : World} {h : Heap} {a : Addr} (ho : h.get? a = some (setO w)) : SetC h a 0 [] :=
  ⟨_, #[], 0, _, ho, ⟨rfl, rfl, rfl⟩, rfl, rfl, (fun e he => by cases he), ⟨List.Pairwise.nil, rfl, rfl, .inl rfl, (fun x hx => by cases hx)⟩, rfl, by show 0 * 5 < 7 * 3; decide⟩
section
variable {P : Program} {w : World} {A : Around} {E : Value → Shared → Prop} {s : Shared}
/-- the loop that fills it -/
theorem fill_C {I : Addr} {fp wr : List Addr} {GG : Array GenState → Array GenState → Prop} {n : Nat} {Pv : Nat → Value → Prop} {St : Nat → Shared → Prop} {R : Result → Shared → Prop} (W : WalksS P w A.in1 I fp wr GG n Pv St) (z : Addr) (hz : z ∉ fp)
    (ks : List (Addr × List Int)) (hn : n = ks.length) (few : ks.length < 999) (nd : (ks.map fun p => thash P w p.2).Nodup) (hval : ∀ i v, Pv i v → ∃ p, ks[i]? = some p ∧ v = .ref p.1)
    (h0 : Heap) (hk : ∀ p ∈ ks, IsT P w h0 p.2 p.1) (hz0 : h0.get? z = none) (hw0 : ∀ b ∈ wr, h0.get? b = none) (hu : A.in1.units < cLine) :
    ∀ (j i : Nat) (s : Shared), n - i = j → i ≤ n → St i s → (∀ b o, h0.get? b = some o → s.heap.get? b = some o) → SetC s.heap z i ((ks.map fun p => thash P w p.2).take i) →
      (∀ s', Moved (z :: wr) GG s s' → SetC s'.heap z n (ks.map fun p => thash P w p.2) → (∀ b o, h0.get? b = some o → s'.heap.get? b = some o) → R (.ok (.ret .none)) s') →
      codeAny (model P w) A (.builtin "set.update.loop" ⟨[.ref z, .ref I], []⟩) R s := by
  have zw : z ∉ wr := fun h => hz (W.sub _ h)
  have up : ∀ b ∈ wr, b ∈ z :: wr := fun b hb => List.mem_cons_of_mem _ hb
  have mk : ∀ {s s' : Shared}, Moved wr GG s s' → (∀ b o, h0.get? b = some o → s.heap.get? b = some o) → ∀ b o, h0.get? b = some o → s'.heap.get? b = some o := fun hm kp b o e =>
    hm.heap b o (fun hb => by rw [hw0 b hb] at e; cases e) (kp b o e)
  intro j
  induction j with
  | zero =>
    intro i s hj hi hst kp hS hR
    obtain rfl : i = n := by omega
    refine codeAny_builtin F.entry_set_update_loop ?_
    rw [Around.under_plainId F.plain_set_update_loop _]
    show wpAny _ A.in1 (pyNext (.ref I) >>= _) _ _ s
    refine wpAny_bind (W.done s _ _ hst fun s' hm => ?_)
    show wpAny _ A.in1 (ret Value.none) _ _ s'
    rw [List.take_of_length_le (by rw [List.length_map]; omega)] at hS
    exact wpAny_pure (hR s' (hm.mono up) (hS.keep fun o e => hm.heap z o zw e) (mk hm kp))
  | succ j ih =>
    intro i s hj hi hst kp hS hR
    have hlt : i < n := by omega
    refine codeAny_builtin F.entry_set_update_loop ?_
    rw [Around.under_plainId F.plain_set_update_loop _]
    show wpAny _ A.in1 (pyNext (.ref I) >>= _) _ _ s
    refine wpAny_bind (W.item i s _ _ hlt hst fun v s' hP hst' hm => ?_)
    obtain ⟨p, hp, rfl⟩ := hval i v hP
    have kp' := mk hm kp
    have hS' := hS.keep (h' := s'.heap) fun o e => hm.heap z o zw e
    have hx : IsT P w s'.heap p.2 p.1 := isT_keep (hk p (List.mem_of_getElem? hp)) kp'
    have hpi : (ks.map fun p => thash P w p.2)[i]? = some (thash P w p.2) := by rw [List.getElem?_map, hp]; rfl
    have hnew : thash P w p.2 ∉ (ks.map fun p => thash P w p.2).take i := fun hm' => by
      obtain ⟨q, hq, e⟩ := List.getElem_of_mem hm'
      rw [List.length_take] at hq
      have hq' : q < i := by omega
      obtain ⟨l1, e1⟩ := List.getElem?_eq_some_iff.mp hpi
      rw [List.getElem_take] at e
      have := (List.getElem_inj nd).mp (e.trans e1.symm)
      omega
    show wpAny _ A.in1 (holding [Value.ref p.1] (setAdd z (.ref p.1)) >>= _) _ _ s'
    refine wpAny_bind (wpAny_holding ?_)
    unfold setAdd
    refine wpAny_holding ?_
    refine wpAny_bind (wpAny_pyHash_tuple hu hx ?_)
    refine add_C (s := { s' with toks := s'.toks + (p.2.length + 1) }) hS' hx hnew hu (by omega) fun h' sb S2 => ?_
    rw [show (ks.map fun p => thash P w p.2).take i ++ [thash P w p.2] = (ks.map fun p => thash P w p.2).take (i + 1) by rw [List.take_add_one, hpi]; rfl] at S2
    have kp2 : ∀ b o, h0.get? b = some o → h'.get? b = some o := fun b o e => (sb.2 b (fun q => by rw [q, hz0] at e; cases e)).trans (kp' b o e)
    refine wpAny_pure ⟨plainId_quiet F.plain_set_update_loop _, ih (i + 1) _ (by omega) hlt (W.frame _ s' _ _ hst' (Nat.le_add_right _ _) fun b hb o e => (sb.2 b (fun q : b = z => hz (q ▸ hb))).trans e) kp2 S2 fun s'' hm'' S'' kp'' => ?_⟩
    exact hR s'' (Moved.trans W.gtrans ((hm.mono up).then_heap (Nat.le_add_right _ _) fun b o hb e => (sb.2 b (fun q : b = z => hb (q ▸ List.mem_cons_self))).trans e) hm'') S'' kp''
/-- set(xs) -/
theorem call_setC {l : Addr} {items : Array Value} (ks : List (Addr × List Int)) {Q : Value → Shared → Prop} (hh : A.handled = none) (hl : s.heap.IsList l items) (hit : items.toList = ks.map fun p => Value.ref p.1)
    (hk : ∀ p ∈ ks, IsT P w s.heap p.2 p.1) (few : ks.length < 999) (nd : (ks.map fun p => thash P w p.2).Nodup) (hu : A.units + 3 < cLine)
    (h : ∀ (h' : Heap) (tk : Nat), SetC h' s.heap.objs.size ks.length (ks.map fun p => thash P w p.2) → (∀ b o, s.heap.get? b = some o → h'.get? b = some o) → Q (.ref s.heap.objs.size) { s with heap := h', toks := tk }) :
    wpAny (model P w) A (call (.type "set") [.ref l]) Q E s := by
  have isz : items.size = ks.length := by
    rw [← Array.length_toList, hit, List.length_map]
  obtain ⟨c, tl, hmro⟩ := (F.called_set.mro)
  have hmade := (F.called_set.made); have hsub := (F.called_set.sub)
  refine wpAny_call (codeAny_of_tree (?_ : wpAny _ _ (callAny (.type "set") _) _ _ _))
  refine wpAny_pure ⟨Code.quiet_builtin _ (by decide +kernel), (codeAny_builtin F.entry_type_call ?_)⟩
  rw [Around.under_plain ((weight_type_call_type "set" [.ref l] [])) rfl]
  have n1 := F.called_set.notType; have n2 := F.called_set.canCreate; have n3 := F.typeCall_set_1 (.ref l)
  repeat (any_goals (first | assumption | wp_step))
  generalize hob : s.heap.push (setO w) = hp0
  refine codeAny_mono (code_set_led1 (.ref l) (E := E) (Q₁ := fun obj s₁ => obj = .ref s.heap.objs.size ∧ s₁ = { s with heap := hp0 }) ⟨rfl, by rw [← hob]; rfl⟩) fun r s₁ hr => ?_
  cases r with
  | error e => exact hr
  | ok fl =>
    cases fl with
    | ret obj =>
      obtain ⟨rfl, rfl⟩ := hr
      have hS : hp0.get? s.heap.objs.size = some (setO w) := by rw [← hob]; exact Heap.get?_push_size _ rfl
      have hold : ∀ b o, s.heap.get? b = some o → hp0.get? b = some o := fun b o e => by rw [← hob]; exact Heap.get?_push_of_some _ e
      have hz0 : hp0.objs.size = s.heap.objs.size + 1 := by rw [← hob]; exact Heap.size_push ..
      have hT : Shared.TypeIs { s with heap := hp0 } (.ref s.heap.objs.size) "set" := ⟨_, hS, rfl⟩
      have i1 := F.called_set.init.lookup; have i2 := F.called_set.init.bind (.ref s.heap.objs.size)
      repeat (any_goals (first | assumption | wp_step))
      refine codeAny_mono (codeAny_call_builtin (R := wants (fun r s₂ => r = .none ∧ ∃ h' tk, s₂ = { s with heap := h', toks := tk } ∧ SetC h' s.heap.objs.size ks.length (ks.map fun p => thash P w p.2) ∧
          (∀ b o, s.heap.get? b = some o → h'.get? b = some o)) E) F.called_set.init.plain F.entry_set_init (check_set_init_1 hT ?_)) fun r₂ s₂ hr₂ => ?_
      · obtain ⟨⟨ocls, odict, odata, oslots⟩, hol, hcl, nl, hdl⟩ := hl
        simp only at hcl hdl
        subst hcl hdl
        have hol' := hold _ _ hol
        have b1 := F.sub_list_set; have b2 := F.sub_list_frozenset
        have b3 : (Value.type "list" == Value.type "dict") = false := by decide
        have hl1 : hp0.IsList l items := ⟨_, hol', rfl, nl, rfl⟩
        unfold Builtin.«set.__init__» noKeywords Builtin.Frozenset.updateFrom
        generalize hPI : pyIter = PI
        wp_walk
        subst hPI
        refine wpAny_pyIter_list hl1 (wpAny_bind (wpAny_runValue ?_))
        have lt := Heap.lt_size hol
        have no : ∀ b, s.heap.objs.size ≤ b → s.heap.get? b = none := fun b hb => by
          cases q : s.heap.get? b with
          | none => rfl
          | some o => exact absurd (Nat.lt_of_lt_of_le (Heap.lt_size q) hb) (Nat.lt_irrefl _)
        have hval : ∀ (i : Nat) (v : Value), items[i]? = some v → ∃ p, ks[i]? = some p ∧ v = .ref p.1 := fun i v hv => by
          have q : items.toList[i]? = some v := (Array.getElem?_toList (xs := items)).trans hv
          rw [hit, List.getElem?_map] at q
          obtain ⟨p, hp, e⟩ := Option.map_eq_some_iff.mp q
          exact ⟨p, hp, e.symm⟩
        refine fill_C ((Walks.list (show A.in1.in1.in1.handled = none by simp [hh]) _ l (show l ≠ hp0.objs.size by rw [hz0]; exact Nat.ne_of_lt (Nat.lt_succ_of_lt lt)) items).toS) s.heap.objs.size (by rw [hz0]; simp only [List.mem_cons, List.not_mem_nil, or_false, not_or]; exact ⟨Nat.ne_of_lt (Nat.lt_succ_self _), Nat.ne_of_gt lt⟩) ks isz few nd hval s.heap hk (no _ (Nat.le_refl _))
          (fun b hb => no b (by rw [List.mem_singleton.mp hb, hz0]; exact Nat.le_succ _)) hu (items.size - 0) 0 _ (by omega) (Nat.zero_le _) ⟨⟨_, Heap.get?_push_size _ rfl, rfl, rfl⟩, hl1.push _⟩ (fun b o e => Heap.get?_push_of_some _ (hold b o e)) (SetC.new (w := w) (Heap.get?_push_of_some _ hS)) fun s' hm S' kp => ?_
        obtain ⟨h', g2, d', tk', os'⟩ := s'
        obtain rfl : g2 = s.gens := hm.gens
        obtain rfl : d' = s.drawn := hm.drawn
        obtain rfl : os' = s.os := hm.os
        show wpAny _ _ _ _ _ _
        refine wpAny_pure ?_
        show wpAny _ _ (ret Value.none) _ _ _
        rw [isz] at S'
        exact wpAny_pure ⟨rfl, h', tk', rfl, S', kp⟩
      · cases r₂ with
        | error e => exact hr₂
        | ok fl₂ =>
          cases fl₂ with
          | ret r =>
            obtain ⟨rfl, h', tk, rfl, S', kp⟩ := hr₂
            repeat (any_goals (first | assumption | wp_step))
            exact h _ _ S' kp
          | _ => exact hr₂.elim
    | _ => exact hr.elim
end
section
variable {X : Cx}
def tLenSetC (K : PySem.W.Frag) (P : Program) (w : World) (ta : TE) : TE := fun σ H Q => ta σ H fun x H1 => ∃ (l : Addr) (ks : List (Addr × List Int)), x = V.ref l ∧ SqL K H1 l (ks.map fun p => V.ref p.1) ∧ (∀ p ∈ ks, SqT K H1 p.1 (p.2.map V.int)) ∧ ks.length < 999 ∧
  (ks.map fun p => thash P w p.2).Nodup ∧ Q (.int ks.length) H1
theorem pe_lenSetC {a : Expr} {ta : TE} {p p2 q pos : Pos} (hc : X.calm = true) (hu : X.A.units + 64 < cLine) (hg : Gl X "len") (hm : X.mg "len" = none) (hg2 : Gl X "set") (hm2 : X.mg "set" = none) (ha : PE X a ta)
    (na : starEach [a] X.env = (false, eval a X.env) :: starEach [] X.env := by rfl) : PE X (.Call (.Name "len" p) [.Call (.Name "set" p2) [a] [] q] [] pos) (tLenSetC X.K X.prog X.w ta) := by
  refine ⟨fun pins s σ H Q I h => Call_ (ld_blt I hg hm PySem.boot_len (PyProof.Rows.callWith_builtin1 (PyProof.Rows.args_cons ?_ rfl) rfl rfl))⟩
  refine Call_ (ld_blt I hg2 hm2 PyProof.Rows.boot_set (PyProof.Rows.callWith_type1 (PyProof.Rows.args_cons (thn (ha.run pins s σ H _ I h) fun v s1 ⟨x, H1, I1, r1, q1⟩ => PyProof.Rows.args_nil ?_) na) na rfl))
  obtain ⟨l, ks, rfl, hl, hk, hf, nd, q1⟩ := q1
  cases r1
  obtain ⟨its, rv, pl, hz⟩ := I1.list hl
  refine call_setC (P := X.prog) (w := X.w) ks (I1.ok.hd hc) pl.isList (by simpa using refs_of_vals rv) (fun p hp => I1.isT (hk p hp)) hf nd (by omega) fun h' tk hS kp => ?_
  refine PyProof.Rows.args_nil ?_
  obtain ⟨o, es, ep, t, ho, hex, hd, hn, _, T, _, room⟩ := hS
  have I2 : Inv X pins σ H1 { s1 with heap := h', toks := tk } := I1.kept kp
  exact call_len_set ho hex hd (by rw [hn]; exact T.fits (by omega)) (by rw [hn]; omega) ⟨.int ks.length, H1, I2.tok _, ⟨_, by rw [hn]⟩, q1⟩
end
section
variable {X : Cx} {W : WX} {k : Nat} {G : Gam} {S S1 : Sto} {a : Expr} {r : It} {p p2 pos q : Pos}
theorem fz_tups {M : List Addr} {H : Hp} : ∀ {ls : List (List Int)} {vs : List V}, FzAll M H vs (ls.map fun l => .tuple (l.map .int)) → ∃ ks : List (Addr × List Int), vs = ks.map (fun p => V.ref p.1) ∧ ks.map (·.2) = ls ∧ ∀ p ∈ ks, NdT M H p.1 (p.2.map V.int)
  | [], _, h => by
    cases h
    exact ⟨[], rfl, rfl, (fun p h => nomatch h)⟩
  | l :: ls, _, h => by
    cases h with
    | cons h1 h2 =>
      obtain ⟨ks, rfl, rfl, h3⟩ := fz_tups h2
      cases h1 with
      | @tup b xs _ h4 h5 =>
        have e : xs = l.map V.int := by
          have : ∀ {l : List Int} {xs : List V}, FzAll M H xs (l.map .int) → xs = l.map V.int := by
            intro l
            induction l with
            | nil => intro xs h; cases h; rfl
            | cons i l ih => intro xs h; cases h with | cons h1 h2 => cases h1; rw [ih h2]; rfl
          exact this h5
        subst e
        exact ⟨(b, l) :: ks, rfl, rfl, fun p hp => by
          rcases List.mem_cons.mp hp with rfl | hp
          · exact h4
          · exact h3 p hp⟩
theorem ev_lenSetC {ls : List (List Int)} (c : Cxo X W k) (hm : X.mg "len" = none) (hm2 : X.mg "set" = none) (ha : Ev X a G S r S1) (hr : lsOf S1 r = some (ls.map fun l => .tuple (l.map .int))) (few : ls.length < 999) (nd : ∀ (P : Program) (w : World), (ls.map (thash P w)).Nodup)
    (hg : Gl X "len" := by rfl) (hg2 : Gl X "set" := by rfl) (he : starEach [a] X.env = (false, eval a X.env) :: starEach [] X.env := by rfl) : Ev X (.Call (.Name "len" p) [.Call (.Name "set" p2) [a] [] q] [] pos) G S (.d (.int ls.length)) S1 := fun M σ H Q s qq =>
  toE (pe_lenSetC c.calm c.hr.units hg hm hg2 hm2 pe_s he) (ha M σ H _ s fun v M1 H1 e1 t1 r1 => by
    obtain ⟨b, vs, rfl, hb, hf⟩ := ls_rd t1.sto r1 hr
    obtain ⟨ks, rfl, rfl, h3⟩ := fz_tups hf
    refine ⟨b, ks, rfl, .inl hb, fun p hp => (h3 p hp).sq, by rw [List.length_map] at few; exact few, ?_, ?_⟩
    · have := nd X.prog X.w
      rw [List.map_map] at this
      exact this
    · rw [List.length_map] at qq
      exact qq _ M1 H1 e1 t1 (Fz.int _))
end
end Cu
/-! CzD: len(set(texts)). -/
namespace Cu
/-- the texts, each once, in the order met -/
def stepU (σ : List PySem.Str) (v : PySem.Str) : List PySem.Str := if σ.any (· == v) then σ else σ ++ [v]
def uniqS (xs : List PySem.Str) : List PySem.Str := xs.foldl stepU []
open PySem PySem.Spec PyProof.Rows L2
theorem stepU_any (σ : List Str) (v k : Str) : (stepU σ v).any (· == k) = (σ.any (· == k) || decide (k = v)) := by
  unfold stepU
  by_cases h : σ.any (· == v) = true
  · rw [if_pos h]
    by_cases e : k = v
    · subst e; rw [h]; simp
    · simp [e]
  · rw [if_neg h, List.any_append]
    by_cases e : k = v
    · subst e; simp
    · have hb : (v == k) = false := by simpa [beq_iff_eq] using (fun h' : v = k => e h'.symm)
      simp [hb, e]
theorem stepU_length (σ : List Str) (v : Str) : (stepU σ v).length = if σ.any (· == v) then σ.length else σ.length + 1 := by
  unfold stepU; split <;> simp
theorem uniq_le (xs : List Str) : (uniqS xs).length ≤ xs.length := by
  have : ∀ (xs σ : List Str), (xs.foldl stepU σ).length ≤ σ.length + xs.length := by
    intro xs
    induction xs with
    | nil => intro σ; simp
    | cons x xs ih =>
      intro σ
      have h1 := ih (stepU σ x)
      have h2 := stepU_length σ x
      rw [List.foldl_cons, List.length_cons]
      split at h2 <;> omega
  have h := this xs []
  rw [List.length_nil, Nat.zero_add] at h
  exact h
theorem uniq_step {xs : List Str} {i : Nat} {v : Str} (h : xs[i]? = some v) : uniqS (xs.take (i + 1)) = stepU (uniqS (xs.take i)) v := by
  unfold uniqS
  rw [List.take_succ, h, List.foldl_append]
  rfl
section
variable {prog : Program} {w : World} {A : Around} {R : Result → Shared → Prop} {I : Addr} {fp wr : List Addr} {G : Array GenState → Array GenState → Prop} {n : Nat} {P : Nat → Value → Prop} {St : Nat → Shared → Prop}
theorem fill_S (W : WalksS prog w A.in1 I fp wr G n P St) (S : Addr) (hSf : S ∉ fp) (xs : List Str) (hsz : xs.length = n) (hb : n + 1 < scanBound)
    (hval : ∀ i v, P i v → ∃ t, v = .str (xs.getD i Str.empty) t) :
    ∀ (k i : Nat) (s : Shared), n - i = k → i ≤ n → St i s →
      s.heap.SetOf (PySem.strKind prog w) S (fun k' => (uniqS (xs.take i)).any (· == k')) (uniqS (xs.take i)).length →
      (∀ s', Moved (S :: wr) G s s' → s'.heap.SetOf (PySem.strKind prog w) S (fun k' => (uniqS xs).any (· == k')) (uniqS xs).length → R (.ok (.ret .none)) s') →
      codeAny (model prog w) A (.builtin "set.update.loop" ⟨[.ref S, .ref I], []⟩) R s := by
  have hSw : S ∉ wr := fun h => hSf (W.sub _ h)
  have hsub : ∀ b ∈ wr, b ∈ S :: wr := fun b hb => List.mem_cons_of_mem _ hb
  intro k
  induction k with
  | zero =>
    intro i s hk hi hst hS hR
    have hin : i = n := by omega
    subst hin
    refine codeAny_builtin PyProof.Rows.F.entry_set_update_loop ?_
    rw [Around.under_plainId PyProof.Rows.F.plain_set_update_loop _]
    show wpAny _ A.in1 (pyNext (.ref I) >>= _) _ _ s
    refine wpAny_bind (W.done s _ _ hst fun s' hm => ?_)
    show wpAny _ A.in1 (ret Value.none) _ _ s'
    rw [← hsz, List.take_length] at hS
    exact wpAny_pure (hR s' (hm.mono hsub) (by
      obtain ⟨o, es, ep, t, ho, rest⟩ := hS
      exact ⟨o, es, ep, t, hm.heap S _ hSw ho, rest⟩))
  | succ k ih =>
    intro i s hk hi hst hS hR
    have hlt : i < n := by omega
    refine codeAny_builtin PyProof.Rows.F.entry_set_update_loop ?_
    rw [Around.under_plainId PyProof.Rows.F.plain_set_update_loop _]
    show wpAny _ A.in1 (pyNext (.ref I) >>= _) _ _ s
    refine wpAny_bind (W.item i s _ _ hlt hst fun v s' hP hst' hm => ?_)
    obtain ⟨t, rfl⟩ := hval i v hP
    have hS' : s'.heap.SetOf (PySem.strKind prog w) S (fun k' => (uniqS (xs.take i)).any (· == k')) (uniqS (xs.take i)).length := by
      obtain ⟨o, es, ep, tb, ho, rest⟩ := hS
      exact ⟨o, es, ep, tb, hm.heap S _ hSw ho, rest⟩
    show wpAny _ A.in1 (holding [Value.str (xs.getD i Str.empty) t] (setAdd S (.str (xs.getD i Str.empty) t)) >>= _) _ _ s'
    refine wpAny_bind (wpAny_holding ?_)
    unfold setAdd
    refine wpAny_holding ?_
    refine wpAny_bind ((PySem.strKind prog w).pyHash (k := xs.getD i Str.empty) (strKind_is _ _ _ _) ?_)
    have hroom : (uniqS (xs.take i)).length + 1 < scanBound := by
      have h1 := uniq_le (xs.take i)
      have h2 : (xs.take i).length ≤ n := by rw [List.length_take]; omega
      omega
    refine wpAny_setAddHashed_of (knd := PySem.strKind prog w) (s := { s' with toks := s'.toks + 1 }) (strKind_is _ _ _ _) rfl hS' hroom fun h' hsb hS2 => ?_
    have hv : xs[i]? = some (xs.getD i Str.empty) := by
      rw [List.getD_eq_getElem?_getD, List.getElem?_eq_getElem (by omega)] <;> rfl
    have hSi : h'.SetOf (PySem.strKind prog w) S (fun k' => (uniqS (xs.take (i + 1))).any (· == k')) (uniqS (xs.take (i + 1))).length :=
      SetOf_congr hS2 (fun k' => by rw [uniq_step hv, stepU_any]) (by rw [uniq_step hv, stepU_length])
    refine wpAny_pure ⟨plainId_quiet PyProof.Rows.F.plain_set_update_loop _, ih (i + 1) _ (by omega) hlt (W.frame _ s' _ _ hst' (Nat.le_succ _) fun b hb o e => ?_) hSi fun s'' hm'' hS'' => ?_⟩
    · rw [hsb.2 b (fun h : b = S => hSf (by rw [← h]; exact hb))]; exact e
    · refine hR s'' (Moved.trans W.gtrans ((hm.mono hsub).then_heap (Nat.le_succ _) fun b o hb e => ?_) hm'') hS''
      rw [hsb.2 b (fun h : b = S => hb (by rw [h]; exact List.mem_cons_self))]; exact e
end
section
variable {prog : Program} {w : World} {A : Around} {E : Value → Shared → Prop} {s : Shared}
theorem call_setS {l : Addr} {items : Array Value} {xs : List Str} {Q : Value → Shared → Prop}
    (hh : A.handled = none) (hl : s.heap.IsList l items) (hi : PyProof.Rows.StrsAre items.toList xs) (few : xs.length + 1 < scanBound)
    (h : ∀ (h' : Heap) (tk : Nat), h'.SetOf (PySem.strKind prog w) s.heap.objs.size (fun k' => (uniqS xs).any (· == k')) (uniqS xs).length →
      (∀ b o, b < s.heap.objs.size → s.heap.get? b = some o → h'.get? b = some o) → Q (.ref s.heap.objs.size) { s with heap := h', toks := tk }) :
    wpAny (model prog w) A (call (.type "set") [.ref l]) Q E s := by
  obtain ⟨c, tl, hmro⟩ := PySem.F.called_set.mro
  have hmade := PySem.F.called_set.made
  have hsub := PySem.F.called_set.sub
  refine wpAny_call (codeAny_of_tree ?_)
  show wpAny _ _ (callAny (.type "set") _) _ _ _
  refine wpAny_pure ⟨Code.quiet_builtin _ (by decide +kernel), codeAny_builtin PySem.F.entry_type_call ?_⟩
  rw [Around.under_plain (weight_type_call_type "set" [.ref l] []) rfl]
  have h1 := PySem.F.called_set.notType
  have h2 := PySem.F.called_set.canCreate
  have hct := PySem.F.typeCall_set_1 (.ref l)
  repeat (any_goals (first | assumption | wp_step))
  refine codeAny_mono (code_set_new_1 (.ref l) (E := E) (Q₁ := fun obj s₁ => ∃ led : Bool, obj = .ref s.heap.objs.size ∧ s₁ = { s with heap := s.heap.push { cls := .type "set", dict := none, data := .set #[] 0 (.fresh 0 0 led) } }) fun led => ⟨led, rfl, rfl⟩) fun r s₁ hr => ?_
  cases r with
  | error e => exact hr
  | ok fl =>
    cases fl with
    | ret obj =>
      obtain ⟨led, rfl, rfl⟩ := hr
      have hS : (s.heap.push { cls := .type "set", dict := none, data := .set #[] 0 (.fresh 0 0 led) }).get? s.heap.objs.size = some { cls := .type "set", dict := none, data := .set #[] 0 (.fresh 0 0 led) } := Heap.get?_push_size _ rfl
      have hT : Shared.TypeIs { s with heap := s.heap.push { cls := .type "set", dict := none, data := .set #[] 0 (.fresh 0 0 led) } } (.ref s.heap.objs.size) "set" := ⟨_, hS, rfl⟩
      have hli := PySem.F.called_set.init.lookup
      have hbi := PySem.F.called_set.init.bind (.ref s.heap.objs.size)
      repeat (any_goals (first | assumption | wp_step))
      refine codeAny_mono (codeAny_call_builtin (R := wants (fun r s₂ => r = .none ∧ ∃ h' tk, s₂ = { s with heap := h', toks := tk } ∧
          h'.SetOf (PySem.strKind prog w) s.heap.objs.size (fun k' => (uniqS xs).any (· == k')) (uniqS xs).length ∧
          (∀ b o, b < s.heap.objs.size → s.heap.get? b = some o → h'.get? b = some o)) E) PySem.F.called_set.init.plain PySem.F.entry_set_init (check_set_init_1 hT ?_)) fun r₂ s₂ hr₂ => ?_
      · obtain ⟨ol, hol, hcl, nl, hdl⟩ := hl
        obtain ⟨ocls, odict, odata, oslots⟩ := ol
        simp only at hcl hdl
        subst hcl; subst hdl
        have hol' : (s.heap.push { cls := .type "set", dict := none, data := .set #[] 0 (.fresh 0 0 led) }).get? l = some { cls := .type "list", dict := odict, data := .seq items nl, slots := oslots } := Heap.get?_push_of_some _ hol
        have hsls := PySem.F.sub_list_set
        have hslf := PySem.F.sub_list_frozenset
        have hne : (Value.type "list" == Value.type "dict") = false := by decide
        have hl1 : (s.heap.push { cls := .type "set", dict := none, data := .set #[] 0 (.fresh 0 0 led) }).IsList l items := ⟨_, hol', rfl, nl, rfl⟩
        unfold Builtin.«set.__init__» noKeywords Builtin.Frozenset.updateFrom
        generalize hPI : pyIter = PI
        wp_walk
        subst hPI
        refine wpAny_pyIter_list hl1 ?_
        refine wpAny_bind (wpAny_runValue ?_)
        have hlS : l < s.heap.objs.size := Heap.lt_size hol
        have hh3 : A.in1.in1.in1.handled = none := by simp [hh]
        have hneI : l ≠ (s.heap.push { cls := .type "set", dict := none, data := .set #[] 0 (.fresh 0 0 led) }).objs.size := by
          rw [Heap.size_push]; exact Nat.ne_of_lt (Nat.lt_succ_of_lt hlS)
        have hSf : s.heap.objs.size ∉ [(s.heap.push { cls := .type "set", dict := none, data := .set #[] 0 (.fresh 0 0 led) }).objs.size, l] := by
          rw [Heap.size_push]; simp only [List.mem_cons, List.mem_singleton, List.not_mem_nil, or_false, not_or]
          exact ⟨Nat.ne_of_lt (Nat.lt_succ_self _), Nat.ne_of_gt hlS⟩
        have hsz : xs.length = items.size := by rw [← StrsAre.len_eq hi, Array.length_toList]
        have hval : ∀ (i : Nat) (v : Value), items[i]? = some v → ∃ t, v = .str (xs.getD i Str.empty) t := fun i v hv => SS.strs_at hi i v (by rw [Array.getElem?_toList]; exact hv)
        refine fill_S ((Walks.list hh3 _ l hneI items).toS) s.heap.objs.size
          hSf xs hsz (by rw [← hsz]; exact few) hval (items.size - 0) 0 _ (by omega) (Nat.zero_le _)
          ⟨⟨_, Heap.get?_push_size _ rfl, rfl, rfl⟩, (hl1.push _)⟩ ?hS0 ?hR
        case hS0 =>
          have hget : ((s.heap.push { cls := .type "set", dict := none, data := .set #[] 0 (.fresh 0 0 led) }).push { cls := .type "list_iterator", data := .fields #[.ref l, .int 0 0] }).get? s.heap.objs.size
              = some { cls := .type "set", dict := none, data := .set #[] 0 (.fresh 0 0 led) } := Heap.get?_push_of_some _ hS
          exact PyProof.Rows.SetOf_congr ((PyProof.Rows.setObjOf_fresh (knd := PySem.strKind prog w) led).setOf hget (by unfold scanBound; omega)) (fun _ => rfl) rfl
        case hR =>
          intro s' hm hS'
          obtain ⟨h', g', d', tk', os'⟩ := s'
          have eg : g' = s.gens := hm.gens
          have ed : d' = s.drawn := hm.drawn
          have eo : os' = s.os := hm.os
          subst eg; subst ed; subst eo
          show wpAny _ _ _ _ _ _
          refine wpAny_pure ?_
          show wpAny _ _ (ret Value.none) _ _ _
          refine wpAny_pure ⟨rfl, h', tk', rfl, hS', fun b o hb e => ?_⟩
          have hb1 : b ≠ s.heap.objs.size := Nat.ne_of_lt hb
          have hb2 : b ≠ (s.heap.push { cls := .type "set", dict := none, data := .set #[] 0 (.fresh 0 0 led) }).objs.size := by
            rw [Heap.size_push]; exact Nat.ne_of_lt (Nat.lt_succ_of_lt hb)
          exact hm.heap b o (by simp only [List.mem_cons, List.mem_singleton, List.not_mem_nil, or_false, not_or]; exact ⟨hb1, hb2⟩) (Heap.get?_push_of_some _ (Heap.get?_push_of_some _ e))
      · cases r₂ with
        | error e => exact hr₂
        | ok fl₂ =>
          cases fl₂ with
          | ret r =>
            obtain ⟨rfl, h', tk, rfl, hS', hk'⟩ := hr₂
            repeat (any_goals (first | assumption | wp_step))
            exact h _ _ hS' hk'
          | _ => exact hr₂.elim
    | _ => exact hr.elim
end
/-- len(set(xs)), xs a list of texts -/
def tLenSetS (K : PySem.W.Frag) (ta : TE) : TE := fun σ H Q => ta σ H fun x H1 => ∃ l, ∃ xs : List Str, x = .ref l ∧ SqL K H1 l (xs.map V.str) ∧ xs.length < 4000 ∧ Q (.int (uniqS xs).length) H1
section
variable {X : Cx}
theorem pe_lenSetS {a : Expr} {ta : TE} {p p2 q pos : Pos} (hc : X.calm = true) (hg : Gl X "len") (hm : X.mg "len" = none) (hg2 : Gl X "set") (hm2 : X.mg "set" = none) (ha : PE X a ta)
    (na : starEach [a] X.env = (false, eval a X.env) :: starEach [] X.env := by rfl) : PE X (.Call (.Name "len" p) [.Call (.Name "set" p2) [a] [] q] [] pos) (tLenSetS X.K ta) := by
  refine ⟨fun pins s σ H Q I h => ?_⟩
  refine Call_ (ld_blt I hg hm boot_len ?_)
  refine PyProof.Rows.callWith_builtin1 (PyProof.Rows.args_cons ?_ rfl) rfl rfl
  refine Call_ (ld_blt I hg2 hm2 boot_set ?_)
  refine PyProof.Rows.callWith_type1 (PyProof.Rows.args_cons (thn (ha.run pins s σ H _ I h) fun v s1 ⟨x, H1, I1, r1, q1⟩ => PyProof.Rows.args_nil ?_) na) na rfl
  obtain ⟨l, xs, rfl, hq, h1, q1⟩ := q1
  cases r1
  obtain ⟨its, r, pl, hz⟩ := I1.list hq
  refine call_setS (I1.ok.hd hc) pl.isList (by simpa using L2.strsAre_of r) (by unfold scanBound; omega) fun h' tk hS hk => ?_
  refine PyProof.Rows.args_nil ?_
  obtain ⟨o, es, ep, t, ho, hex, hd, _, _, _, hf, hn⟩ := hS
  have I2 : Inv X pins σ H1 { s1 with heap := h', toks := tk } := I1.kept fun b o e => hk b o (Heap.lt_size e) e
  have hle := uniq_le xs
  refine call_len_set ho hex hd hf (by rw [hn] <;> omega) ⟨.int (uniqS xs).length, H1, I2.tok _, ⟨_, by rw [hn]⟩, q1⟩
end
section
variable {X : Cx} {W : WX} {k j : Nat} {G : Gam} {S S1 : Sto} {a : Expr} {r : It} {pos p p2 q : Pos}
theorem ev_lenSetS {xs : List Str} (c : Cxo X W k) (hm : X.mg "len" = none) (hm2 : X.mg "set" = none) (ha : Ev X a G S r S1) (hr : lsOf S1 r = some (xs.map .str)) (few : xs.length < 4000)
    (hg : Gl X "len" := by rfl) (hg2 : Gl X "set" := by rfl) (he : starEach [a] X.env = (false, eval a X.env) :: starEach [] X.env := by rfl) : Ev X (.Call (.Name "len" p) [.Call (.Name "set" p2) [a] [] q] [] pos) G S (.d (.int (uniqS xs).length)) S1 := fun M σ H Q s qq =>
  toE (pe_lenSetS c.calm hg hm hg2 hm2 pe_s he) (ha M σ H _ s fun v M1 H1 e1 t1 r1 => by
    obtain ⟨b, vs, rfl, hb, hf⟩ := ls_rd t1.sto r1 hr
    refine ⟨b, xs, rfl, .inl (by rw [← fz_strs hf]; exact hb), few, qq _ M1 H1 e1 t1 (Fz.int _)⟩)
end
/-! ### when all are unlike -/
theorem uniq_all {xs : List Str} : (uniqS xs).length = xs.length ↔ xs.Nodup := by
  have key : ∀ (xs σ : List Str), (xs.foldl stepU σ).length = σ.length + xs.length ↔ (xs.Nodup ∧ ∀ x ∈ xs, x ∉ σ) := by
    intro xs
    induction xs with
    | nil => intro σ; simp
    | cons x xs ih =>
      intro σ
      have hb : ∀ (ys τ : List Str), (ys.foldl stepU τ).length ≤ τ.length + ys.length := by
        intro ys
        induction ys with
        | nil => intro τ; simp
        | cons y ys ih2 =>
          intro τ
          have h1 := ih2 (stepU τ y)
          have h2 := stepU_length τ y
          rw [List.foldl_cons, List.length_cons]
          split at h2 <;> omega
      rw [List.foldl_cons, List.length_cons]
      by_cases h : σ.any (· == x) = true
      · have hx : x ∈ σ := by
          obtain ⟨y, hy, e⟩ := List.any_eq_true.mp h
          rw [← beq_iff_eq.mp e]; exact hy
        have e1 : stepU σ x = σ := if_pos h
        rw [e1]
        have := hb xs σ
        refine ⟨fun z => by omega, fun z => absurd hx (z.2 x List.mem_cons_self)⟩
      · have hx : x ∉ σ := fun z => h (List.any_eq_true.mpr ⟨x, z, beq_self_eq_true x⟩)
        have e1 : stepU σ x = σ ++ [x] := if_neg h
        rw [e1]
        have := ih (σ ++ [x])
        rw [List.length_append, List.length_singleton] at this
        rw [show σ.length + (xs.length + 1) = σ.length + 1 + xs.length by omega, this, List.nodup_cons]
        refine ⟨fun ⟨a, b⟩ => ⟨⟨fun z => b x z (List.mem_append_right _ List.mem_cons_self), a⟩, fun y hy => ?_⟩, fun ⟨⟨a, b⟩, c⟩ => ⟨b, fun y hy z => ?_⟩⟩
        · rcases List.mem_cons.mp hy with e | hy
          · rw [e]; exact hx
          · exact fun z => b y hy (List.mem_append_left _ z)
        · rcases List.mem_append.mp z with z | z
          · exact c y (List.mem_cons_of_mem _ hy) z
          · rw [List.mem_singleton.mp z] at hy
            exact a hy
  have h := key xs []
  rw [List.length_nil, Nat.zero_add] at h
  exact h.trans ⟨fun z => z.1, fun z => ⟨z, fun x _ hx => by cases hx⟩⟩
end Cu
/-! CvG: x = [..], an owned list. -/
namespace Cu
open PySem PySem.Spec PyProof.Rows L2
section
variable {X : Cx} {W : WX} {k : Nat} {G : Gam} {S S2 : Sto} {P : Post} {elt tg iter : Expr} {ifs : List Expr} {scope : Scope} {own : List (Str × Nat)} {pos pos' apos : Pos}
/-- x = [..], an owned list -/
theorem ws_setLcO {l : Nat} (i : Nat) {n : Str} (c : Cxo X W k) (ok : BlkOk X.N X.env.scope scope own) (h : LcOwn X scope own elt tg iter ifs G S l S2) (q : P.nx (G.set i (some (.o l))) S2) (hy : X.N[i]? = some n := by rfl) (hyl : X.env.scope.names.lookup n = some .local := by rfl)
    (hsw : swapsWith (.ListComp elt [⟨tg, iter, ifs, 0⟩] scope pos) (some (.Name n pos')) apos.line X.env = pure true := by exact sw_true rfl rfl rfl (by decide +kernel)) (hf : ∀ x, foldedSetIterable iter X.env x = pure x := by intro _; rfl) : WS X W (.Assign [.Name n pos'] (.ListComp elt [⟨tg, iter, ifs, 0⟩] scope pos) apos) G S P := fun M σ H D s m => by
  obtain ⟨wi, g, hpi, hpg, h⟩ := h.ex
  exact toS (ps_setLc (i := i) c.calm c.nd hy hyl hsw hpi ok hpg pts_tTs pe_tEl hf) (h M σ H _ s fun v M1 H1 e1 t1 r1 => m.nx M1 _ H1 _ S2 e1 (t1.set r1) q)
end
end Cu
/-! CvH: a text times a number; a sign that is not in a text. -/
namespace Cu
open PySem PySem.Spec PyProof.Rows L2
/-- a text, so often -/
def repS (x : Str) (n : Nat) : Str := ⟨(List.replicate n x.cps).foldl (· ++ ·) #[]⟩
theorem rep_size (a : Array Nat) : ∀ (n : Nat) (b : Array Nat), ((List.replicate n a).foldl (· ++ ·) b).size = b.size + a.size * n
  | 0, b => by show b.size = _; omega
  | n + 1, b => by
    rw [List.replicate_succ, List.foldl_cons, rep_size a n, Array.size_append, Nat.mul_succ]
    omega
theorem repS_len (x : Str) (n : Nat) : (repS x n).length = x.length * n := by
  show ((List.replicate n x.cps).foldl (· ++ ·) #[]).size = _
  rw [rep_size]
  show 0 + x.cps.size * n = x.cps.size * n
  omega
section
variable {X : Cx} {W : WX} {k : Nat} {G : Gam} {S S1 S2 : Sto} {a b e : Expr} {p pos : Pos} {x y : Str} {n : Int}
theorem op_mulS : OpR X (binaryOp .Mult) (fun x y H Q => ∃ (i : Str) (n : Int), x = .str i ∧ y = .int n ∧ 2 ≤ n ∧ n ≤ 1000 ∧ 0 < i.length ∧ i.length ≤ 1000 ∧ Q (.str (repS i n.toNat)) H) := by
  intro pins s σ H x y v u Q I rx ry h
  obtain ⟨i, n, rfl, rfl, h1, h2, h3, h4, q⟩ := h
  obtain ⟨t, rfl⟩ := rx
  obtain ⟨t', rfl⟩ := ry
  have e1 : (n == 1 || i.length == 0) = false := by
    rw [Bool.or_eq_false_iff]
    exact ⟨beq_eq_false_iff_ne.mpr (by omega), beq_eq_false_iff_ne.mpr (by omega)⟩
  have hm : i.length * n.toNat ≤ 1000 * 1000 := Nat.mul_le_mul h4 (by omega)
  refine PySem.P.mul_str (by rw [decide_eq_false (by omega), decide_eq_false (by omega)]; rfl) (fun _ _ => ?_) (fun _ _ => ?_) ?_
  · have hm2 : (i.length : Int) * n ≤ 1000 * 1000 := Int.mul_le_mul (by omega) h2 (by omega) (by decide)
    have : (i.length : Int) ≤ (2 ^ 63 - 1) / n := (Int.le_ediv_iff_mul_le (by omega)).mpr (by omega)
    omega
  · unfold Builtin.Str.tooLong
    exact decide_eq_false (by rw [sizeLine_eq]; omega)
  · rw [if_neg (by omega), e1, if_neg Bool.false_ne_true]
    refine ⟨?_, ⟨.str (repS i n.toNat), H, I.tok _, ⟨_, rfl⟩, q⟩⟩
    show (repS i n.toNat).length ≤ _
    rw [repS_len]
    first | (rw [sizeLine_eq]; omega) | omega
theorem ev_mulS (ha : Ev X a G S (.d (.str x)) S1) (hb : Ev X b G S1 (.d (.int n)) S2) (h1 : 2 ≤ n) (h2 : n ≤ 1000) (h3 : 0 < x.length) (h4 : x.length ≤ 1000) : Ev X (.BinOp a .Mult b pos) G S (.d (.str (repS x n.toNat))) S2 := ev_op op_mulS ha hb fun M H v u Q s hv hu q =>
  ⟨x, n, vr_str hv, vr_int hu, h1, h2, h3, h4, q _ M H Ext.refl s (Fz.str _)⟩
theorem evt_inSign {c : Nat} (ha : Ev X a G S (.d (.str ⟨#[c]⟩)) S1) (hb : Ev X b G S1 (.d (.str y)) S2) (hm : behindInMarks .In b = false := by rfl) : EvT X (.Compare a [.In] [b] pos) G S (decide (c ∈ y.cps.toList)) S2 := evt_cmp op_in_sign ha hb (fun M H v u Q s hv hu q => ⟨c, y, vr_str hv, vr_str hu, q _ M H Ext.refl s (Fz.bl _)⟩) hm
theorem evt_notInSign {c : Nat} (ha : Ev X a G S (.d (.str ⟨#[c]⟩)) S1) (hb : Ev X b G S1 (.d (.str y)) S2) (hm : behindInMarks .NotIn b = false := by rfl) : EvT X (.Compare a [.NotIn] [b] pos) G S (!decide (c ∈ y.cps.toList)) S2 := evt_cmp op_notIn_sign ha hb (fun M H v u Q s hv hu q => ⟨c, y, vr_str hv, vr_str hu, q _ M H Ext.refl s (Fz.bl _)⟩) hm
end
end Cu
/-! CyH: zip of three lists of data. -/
namespace Cu
open PySem PySem.Spec PyProof.Rows L2
def Itz3 (K : PySem.W.Frag) (a b c : Addr) (n : Nat) : L2.It :=
  ⟨fun i H => i < n ∧ ∃ xs ys zs : List V, SqL K H a xs ∧ SqL K H b ys ∧ SqL K H c zs ∧ min (min xs.length ys.length) zs.length = n,
    fun i H v H' => ∃ T x y u, v = .ref T ∧ H T = none ∧ H' = upd H T (.tup [x, y, u]) ∧ (∀ xs, SqL K H a xs → xs[i]? = some x) ∧ (∀ ys, SqL K H b ys → ys[i]? = some y) ∧ ∀ zs, SqL K H c zs → zs[i]? = some u,
    fun i H => n ≤ i ∧ ∃ xs ys zs : List V, SqL K H a xs ∧ SqL K H b ys ∧ SqL K H c zs ∧ min (min xs.length ys.length) zs.length = n⟩
theorem turn_zip3 {P : Program} {w : World} {K : PySem.W.Frag} {elts : List Expr} {kk : Nat} {tpos : Pos} {a b c z TI TO i1 i2 i3 : Addr} {n : Nat} (D : ZipSep3 z TI TO i1 i2 i3 [i1, a] [i2, b] [i3, c]) (na : a ≠ i1) (nb : b ≠ i2) (nc : c ≠ i3) :
    Turn P w K (.Tuple elts kk tpos) (Itz3 K a b c n) [z, TI, TO, i1, i2, i3] z (fun i h => i ≤ n ∧ IsZip h z TI TO .none ∧ IsTupOf3 h TI (.ref i1) (.ref i2) (.ref i3) ∧ (∃ x y u, IsTupOf3 h TO x y u) ∧ h.IsListIter i1 a i ∧ h.IsListIter i2 b i ∧ h.IsListIter i3 c i) where
  mem := List.mem_cons_self
  obj := fun i h st e he => by
    obtain ⟨_, hz, hTI, ⟨x, y, u, hTO⟩, ⟨o1, e1, _, d1⟩, ⟨o2, e2, _, d2⟩, ⟨o3, e3, _, d3⟩⟩ := st
    simp only [List.mem_cons, List.not_mem_nil, or_false] at he
    rcases he with q | q | q | q | q | q
    · rw [q]; exact ⟨_, hz, fun v q => nomatch q⟩
    · rw [q]; exact ⟨_, hTI, fun v q => nomatch q⟩
    · rw [q]; exact ⟨_, hTO, fun v q => nomatch q⟩
    · rw [q]; exact ⟨o1, e1, fun v q => by rw [d1] at q; cases q⟩
    · rw [q]; exact ⟨o2, e2, fun v q => by rw [d2] at q; cases q⟩
    · rw [q]; exact ⟨o3, e3, fun v q => by rw [d3] at q; cases q⟩
  keep := fun i h h' st k => by
    obtain ⟨hn, hz, hTI, ⟨x, y, u, hTO⟩, h1, h2, h3⟩ := st
    exact ⟨hn, k z (by simp) _ hz, k TI (by simp) _ hTI, ⟨x, y, u, k TO (by simp) _ hTO⟩, h1.at fun o q => k i1 (by simp) o q, h2.at fun o q => k i2 (by simp) o q, h3.at fun o q => k i3 (by simp) o q⟩
  item := by
    rintro X rfl rfl rfl hc i pins s σ H E I hf ⟨_, hz, hTI, hTO, h1, h2, h3⟩ ⟨hlt, xs, ys, zs, qx, qy, qz, hmin⟩
    obtain ⟨its1, rv1, p1, _⟩ := I.list qx
    obtain ⟨its2, rv2, p2, _⟩ := I.list qy
    obtain ⟨its3, rv3, p3, _⟩ := I.list qz
    have l1 := rv1.length; have l2 := rv2.length; have l3 := rv3.length
    have hh : X.A.in1.handled = none := I.ok.hd hc
    have W := WalksT.zipD3 (prog := X.prog) (w := X.w) (A := X.A) D (Draws.list hh i1 a na its1.toArray) (Draws.list hh i2 b nb its2.toArray) (Draws.list hh i3 c nc its3.toArray)
    refine W.item i s _ _ (by simp only [List.size_toArray]; omega) ⟨hz, hTI, hTO, ⟨h1, p1.isList⟩, ⟨h2, p2.isList⟩, h3, p3.isList⟩ fun T vals h' tk hP hT hTup hMid hk => ?_
    refine ⟨_, rfl, W.go elts kk tpos i T { s with heap := h', toks := tk } _ _ hMid fun h'' st2 hk2 => ?_⟩
    obtain ⟨u1, u2, u3, hu1, hu2, hu3, rfl⟩ := hP
    obtain ⟨z2, TI2, TO2, ⟨b1, _⟩, ⟨b2, _⟩, b3, _⟩ := st2
    have sub : ∀ e, e ∉ [z, TI, TO, i1, i2, i3] → e ∉ [z, TO, i1, i2, i3] := fun e h q => h (by
      simp only [List.mem_cons, List.not_mem_nil, or_false] at q ⊢
      rcases q with q | q | q | q | q <;> simp [q])
    obtain ⟨x1, hx1, r1⟩ : ∃ x, xs[i]? = some x ∧ RelV x u1 := by
      have hi : i < xs.length := by omega
      obtain ⟨u, hu, ru⟩ := rv1.get (List.getElem?_eq_getElem hi)
      have : its1.toArray[i]? = some u := by simpa using hu
      rw [this] at hu1
      cases hu1
      exact ⟨_, List.getElem?_eq_getElem hi, ru⟩
    obtain ⟨x2, hx2, r2⟩ : ∃ x, ys[i]? = some x ∧ RelV x u2 := by
      have hi : i < ys.length := by omega
      obtain ⟨u, hu, ru⟩ := rv2.get (List.getElem?_eq_getElem hi)
      have : its2.toArray[i]? = some u := by simpa using hu
      rw [this] at hu2
      cases hu2
      exact ⟨_, List.getElem?_eq_getElem hi, ru⟩
    obtain ⟨x3, hx3, r3⟩ : ∃ x, zs[i]? = some x ∧ RelV x u3 := by
      have hi : i < zs.length := by omega
      obtain ⟨u, hu, ru⟩ := rv3.get (List.getElem?_eq_getElem hi)
      have : its3.toArray[i]? = some u := by simpa using hu
      rw [this] at hu3
      cases hu3
      exact ⟨_, List.getElem?_eq_getElem hi, ru⟩
    obtain ⟨oT, eT, cT, nT, dT⟩ := hTup
    have eT2 := hk2 T oT (W.apart i T h' hMid) eT
    have new : ObjOk X.prog X.w (upd H T (.tup [x1, x2, x3])) h'' T (.tup [x1, x2, x3]) := ⟨by show 3 ≤ sizeLine; decide, [u1, u2, u3], .cons r1 (.cons r2 (.cons r3 .nil)), ⟨oT, eT2, cT, nT, dT⟩⟩
    have I1 : Inv X pins σ (upd H T (.tup [x1, x2, x3])) { s with heap := h'', toks := tk } :=
      I.turnedNew (ch := [z, TI, TO, i1, i2, i3]) (fun e o he q => hk2 e o (sub e he) (hk e o (sub e he) q)) hf hT new
    have old : ∀ e ∈ [z, TI, TO, i1, i2, i3], e < s.heap.objs.size := fun e he => by
      simp only [List.mem_cons, List.not_mem_nil, or_false] at he
      obtain ⟨_, _, _, hTO⟩ := hTO
      rcases he with q | q | q | q | q | q
      · rw [q]; exact Heap.lt_size hz
      · rw [q]; exact Heap.lt_size hTI
      · rw [q]; exact Heap.lt_size hTO
      · rw [q]; obtain ⟨_, e1, _⟩ := h1; exact Heap.lt_size e1
      · rw [q]; obtain ⟨_, e2, _⟩ := h2; exact Heap.lt_size e2
      · rw [q]; obtain ⟨_, e3, _⟩ := h3; exact Heap.lt_size e3
    refine ⟨.ref T, _, I1, rfl, ⟨T, x1, x2, x3, rfl, I.hok.fresh hT, rfl, fun l hl => by rw [I.list_inj hl qx]; exact hx1, fun l hl => by rw [I.list_inj hl qy]; exact hx2, fun l hl => by rw [I.list_inj hl qz]; exact hx3⟩, ⟨by omega, z2, TI2, TO2, b1, b2, b3⟩, fun e he => ?_⟩
    rw [upd_ne (Nat.ne_of_lt (Nat.lt_of_lt_of_le (old e he) hT))]
    exact (hf e he).1
  done := by
    rintro X rfl rfl rfl hc i pins s σ H E I hf ⟨hin, hz, hTI, hTO, h1, h2, h3⟩ ⟨hge, xs, ys, zs, qx, qy, qz, hmin⟩
    obtain ⟨its1, rv1, p1, _⟩ := I.list qx
    obtain ⟨its2, rv2, p2, _⟩ := I.list qy
    obtain ⟨its3, rv3, p3, _⟩ := I.list qz
    have l1 := rv1.length; have l2 := rv2.length; have l3 := rv3.length
    have hh : X.A.in1.handled = none := I.ok.hd hc
    have W := WalksT.zipD3 (prog := X.prog) (w := X.w) (A := X.A) D (Draws.list hh i1 a na its1.toArray) (Draws.list hh i2 b nb its2.toArray) (Draws.list hh i3 c nc its3.toArray)
    have ei : i = min (min its1.toArray.size its2.toArray.size) its3.toArray.size := by simp only [List.size_toArray]; omega
    rw [ei] at h1 h2 h3
    refine W.done s _ _ ⟨hz, hTI, hTO, ⟨h1, p1.isList⟩, ⟨h2, p2.isList⟩, h3, p3.isList⟩ fun h' tk hk => ⟨rfl, I.turnedL (ch := [z, TI, TO, i1, i2, i3]) (fun e o he q => hk e o (fun z => he (by
      simp only [List.mem_cons, List.not_mem_nil, or_false] at z ⊢
      rcases z with z | z | z | z | z <;> simp [z])) q) hf⟩
  self := fun A i s Q E st h => wpAny_pyIter_zip st.2.1 h
def iZip3 (K : PySem.W.Frag) (ta : TA) : TI := fun σ H R => ta σ H fun vs H1 => ∃ a b c xs ys zs, vs = [.ref a, .ref b, .ref c] ∧ SqL K H1 a xs ∧ SqL K H1 b ys ∧ SqL K H1 c zs ∧ R (Itz3 K a b c (min (min xs.length ys.length) zs.length)) H1
theorem pi_zip3 {X : Cx} {e1 e2 e3 : Expr} {ta : TA} {p pos tpos : Pos} {elts : List Expr} {kk : Nat} (hg : Gl X "zip") (hm : X.mg "zip" = none) (ha : PA X [e1, e2, e3] ta)
    (hs : starEach [e1, e2, e3] X.env = (false, eval e1 X.env) :: starEach [e2, e3] X.env := by rfl) (hpl : (backTo pos (starEach [e2, e3] X.env)).any (·.1) = false := by rfl) : PI X (.Tuple elts kk tpos) (.Call (.Name "zip" p) [e1, e2, e3] [] pos) (iZip3 X.K ta) := by
  refine ⟨fun pins s σ H R I h => Call_ (ld_blt I hg hm PyProof.Rows.boot_zip (PyProof.Rows.callWith_type1 (thn (ha.run pos pins s σ H _ I h) fun us s1 ⟨vs, H1, I1, r1, a, b, c, xs, ys, zs, ex, qx, qy, qz, q⟩ => ?_) hs hpl))⟩
  subst ex
  obtain rfl : us = [.ref a, .ref b, .ref c] := by
    cases r1 with
    | cons r rr =>
      cases rr with
      | cons r' rr =>
        cases rr with
        | cons r'' rr =>
          cases rr
          cases r
          cases r'
          cases r''
          rfl
  obtain ⟨its1, rv1, p1, _⟩ := I1.list qx
  obtain ⟨its2, rv2, p2, _⟩ := I1.list qy
  obtain ⟨its3, rv3, p3, _⟩ := I1.list qz
  have la := p1.lt; have lb := p2.lt; have lc := p3.lt
  refine zip_begins3 (begins_list a its1.toArray) (begins_list b its2.toArray) (begins_list c its3.toArray) p1.isList p2.isList p3.isList fun h' hz hTI hTO g1 g2 g3 hsz hk => wpAny_pyIter_zip hz ?_
  have I2 : Inv X pins σ H1 { s1 with heap := h' } := I1.kept (t' := s1.toks) hk
  have one : ∀ {l m : Addr}, l < m → ∀ e ∈ [l], e < m := fun h e he => by rw [List.mem_singleton.mp he]; exact h
  refine ⟨s1.heap.objs.size + 5, [s1.heap.objs.size + 5, s1.heap.objs.size + 3, s1.heap.objs.size + 4, s1.heap.objs.size, s1.heap.objs.size + 1, s1.heap.objs.size + 2], _, _, H1, rfl, I2, turn_zip3 (zip_sep3 (one la) (one lb) (one lc)) (Nat.ne_of_lt la) (Nat.ne_of_lt (Nat.lt_of_lt_of_le lb (Nat.le_add_right _ _))) (Nat.ne_of_lt (Nat.lt_of_lt_of_le lc (Nat.le_add_right _ _))), ⟨Nat.zero_le _, hz, hTI, ⟨_, _, _, hTO⟩, ⟨_, g1, rfl, rfl⟩, ⟨_, g2, rfl, rfl⟩, ⟨_, g3, rfl, rfl⟩⟩, fun e he => ?_, q⟩
  have hle : s1.heap.objs.size ≤ e := by
    simp only [List.mem_cons, List.not_mem_nil, or_false] at he
    rcases he with z | z | z | z | z | z <;> rw [z] <;> first | exact Nat.le_add_right _ _ | exact Nat.le_refl _
  exact I1.fpOk hle (I1.hok.fresh hle)
section
variable {X : Cx} {G : Gam} {S S1 S2 S3 : Sto} {ds ds' ds'' : List PyData} {p pos' tpos : Pos}
theorem wk_zip3 {K : PySem.W.Frag} {M1 : List Addr} {H1 : Hp} {ad bd cd : Addr} {xs ys zs : List V} (hL : NdL M1 H1 ad xs) (hA : FzAll M1 H1 xs ds) (hL' : NdL M1 H1 bd ys) (hA' : FzAll M1 H1 ys ds') (hL2 : NdL M1 H1 cd zs) (hA2 : FzAll M1 H1 zs ds'') :
    Wk K (Itz3 K ad bd cd (min (min xs.length ys.length) zs.length)) anyS M1 H1 ((ds.zip (ds'.zip ds'')).map fun x => It.d (.tuple [x.1, x.2.1, x.2.2])) where
  go := fun i M' H' S' hi e s _ => by
    have l1 := fz_len hA; have l2 := fz_len hA'; have l3 := fz_len hA2
    have hi' : i < min ds.length (min ds'.length ds''.length) := by simpa using hi
    exact ⟨by omega, xs, ys, zs, (hL.ext e).sq, (hL'.ext e).sq, (hL2.ext e).sq, rfl⟩
  yl := fun i M' H' S' x H2 r hr e s _ y => by
    obtain ⟨T, u, u', u'', rfl, hT, rfl, y, y', y''⟩ := y
    obtain ⟨d, h1, h2⟩ := fz_at hA (y xs (hL.ext e).sq)
    obtain ⟨d', h1', h2'⟩ := fz_at hA' (y' ys (hL'.ext e).sq)
    obtain ⟨d'', h1'', h2''⟩ := fz_at hA2 (y'' zs (hL2.ext e).sq)
    have ez : (ds.zip (ds'.zip ds''))[i]? = some (d, d', d'') := by
      rw [List.getElem?_zip_eq_some]
      exact ⟨h1, by rw [List.getElem?_zip_eq_some]; exact ⟨h1', h1''⟩⟩
    rw [List.getElem?_map, ez] at hr
    cases hr
    have e2 : Ext M' H' M' (upd H' T (.tup [u, u', u''])) := Ext.fresh hT
    exact ⟨e2, s.fresh hT, Fz.tup ⟨upd_same, s.nin hT⟩ (.cons (Fz.ext e2 (Fz.ext e h2)) (.cons (Fz.ext e2 (Fz.ext e h2')) (.cons (Fz.ext e2 (Fz.ext e h2'')) .nil)))⟩
  st := fun i M' H' S' hi e s _ => by
    have l1 := fz_len hA; have l2 := fz_len hA'; have l3 := fz_len hA2
    have hi' : min ds.length (min ds'.length ds''.length) ≤ i := by simpa using hi
    exact ⟨by omega, xs, ys, zs, (hL.ext e).sq, (hL'.ext e).sq, (hL2.ext e).sq, rfl⟩
theorem evi_zip3 {elts : List Expr} {kk : Nat} {a1 a2 a3 : Expr} (hm : X.mg "zip" = none) (h1 : Ev X a1 G S (.d (.list ds)) S1) (h2 : Ev X a2 G S1 (.d (.list ds')) S2) (h3 : Ev X a3 G S2 (.d (.list ds'')) S3) (hg : Gl X "zip" := by rfl) (hst : starEach [a1, a2, a3] X.env = (false, eval a1 X.env) :: starEach [a2, a3] X.env := by rfl)
    (hst2 : starEach [a2, a3] X.env = (false, eval a2 X.env) :: starEach [a3] X.env := by rfl) (hst3 : starEach [a3] X.env = (false, eval a3 X.env) :: starEach [] X.env := by rfl) (hpl : (backTo pos' (starEach [a2, a3] X.env)).any (·.1) = false := by rfl) :
    EvI X (.Tuple elts kk tpos) (.Call (.Name "zip" p) [a1, a2, a3] [] pos') G S ((ds.zip (ds'.zip ds'')).map fun x => It.d (.tuple [x.1, x.2.1, x.2.2])) anyS S3 :=
  ⟨_, pi_zip3 hg hm pa_s hst hpl, fun M σ H R s q => (eva_cons h1 (eva_cons h2 (eva_cons h3 eva_nil hst3) hst2) hst) M σ H _ s fun vs M1 H1 e1 t1 r1 => by
    obtain ⟨v1, _, rfl, w1, r2⟩ : ∃ v l, vs = v :: l ∧ VRep X.K M1 H1 v (.d (.list ds)) ∧ VReps X.K M1 H1 l [.d (.list ds'), .d (.list ds'')] := by
      cases r1 with
      | cons a b => exact ⟨_, _, rfl, a, b⟩
    obtain ⟨v2, v3, rfl, w2, w3⟩ := vr2 r2
    have w1 : Fz M1 H1 v1 (.list ds) := w1
    have w2 : Fz M1 H1 v2 (.list ds') := w2
    have w3 : Fz M1 H1 v3 (.list ds'') := w3
    cases w1 with
    | lst k1 k2 =>
      cases w2 with
      | lst k3 k4 =>
        cases w3 with
        | lst k5 k6 => exact ⟨_, _, _, _, _, _, rfl, k1.sq, k3.sq, k5.sq, q M1 H1 _ e1 t1 (wk_zip3 k1 k2 k3 k4 k5 k6)⟩⟩
end
end Cu
namespace Pf
open PySem PySem.Spec PyProof.Rows L2 He Cu
theorem eqv_nil (ds : List PyData) : PyData.eqv (.list ds) (.list []) = ds.isEmpty := by
  cases ds with
  | nil => simp only [PyData.eqv, PyData.eqvAll] <;> rfl
  | cons x xs => simp only [PyData.eqv, PyData.eqvAll] <;> rfl
/-- all signs are signs -/
def okS (x : Str) : Prop := ∀ c ∈ TL.tl x, c < 1114112
theorem okS_ok {x : Str} (h : okS x) : PyData.strOk x = true := by
  unfold PyData.strOk
  rw [← Array.all_toList, List.all_eq_true]
  exact fun c hc => decide_eq_true (h c hc)
theorem lay_str {x : Str} (h : okS x) : PyData.canLay0 (.str x) = true ∧ (PyData.str x).depth ≤ 50 := ⟨by simp only [PyData.canLay0]; exact okS_ok h, by simp only [PyData.depth]; exact Nat.zero_le _⟩
theorem shaped_strs {l : List Str} (h : ∀ x ∈ l, okS x) : SeqAt.shaped (.list (l.map .str)) = true := shaped_list fun d hd => by
  obtain ⟨x, hx, rfl⟩ := List.mem_map.mp hd
  exact lay_str (h x hx)
def strB (g : Str → Bool) : Cu.It → Bool
  | .d (.str x) => g x
  | _ => false
def idG : Cu.It → PyData
  | .d x => x
  | _ => .none
theorem strs_fil (g : Str → Bool) (ws : List Str) : (((ws.map PyData.str).map Cu.It.d).filter (strB g)).map idG = (ws.filter g).map .str := by
  induction ws with
  | nil => rfl
  | cons w ws ih =>
    rw [List.map_cons, List.map_cons, List.filter_cons, List.filter_cons]
    show (if g w = true then _ else _ : List Cu.It).map idG = _
    by_cases h : g w = true
    · rw [if_pos h, if_pos h, List.map_cons, ih] <;> rfl
    · rw [if_neg h, if_neg h, ih]
def signS (c : Nat) : Str := ⟨#[c]⟩
theorem signs_eq (x : Str) : Cu.signs x = ((TL.tl x).map signS).map PyData.str := by
  unfold Cu.signs
  rw [List.map_map] <;> rfl
/-! names -/
def smallB (c : Nat) : Bool := decide (97 ≤ c ∧ c ≤ 122)
def figB (c : Nat) : Bool := decide (48 ≤ c ∧ c ≤ 57)
/-- whether a text is a name -/
def nameOk (x : Str) : Bool := match TL.tl x with
  | [] => false
  | c :: r => decide ((c :: r).length ≤ 8) && smallB c && (c :: r).all fun c => smallB c || figB c
theorem mem_range {lo n c : Nat} (l : List Nat) (h : l = (List.range n).map (lo + ·)) : decide (c ∈ l) = decide (lo ≤ c ∧ c < lo + n) := by
  refine decide_eq_decide.mpr ?_
  rw [h, List.mem_map]
  refine ⟨fun ⟨a, ha, e⟩ => ?_, fun ⟨h1, h2⟩ => ⟨c - lo, List.mem_range.mpr (by omega), by omega⟩⟩
  have := List.mem_range.mp ha
  omega
theorem in_small (c : Nat) : decide (c ∈ (Str.ofString "abcdefghijklmnopqrstuvwxyz").cps.toList) = smallB c := by
  rw [mem_range (lo := 97) (n := 26) _ (by decide)]
  exact decide_eq_decide.mpr (by omega)
theorem in_both (c : Nat) : decide (c ∈ (Str.ofString "abcdefghijklmnopqrstuvwxyz0123456789").cps.toList) = (smallB c || figB c) := by
  rw [show (Str.ofString "abcdefghijklmnopqrstuvwxyz0123456789").cps.toList = (Str.ofString "abcdefghijklmnopqrstuvwxyz").cps.toList ++ (Str.ofString "0123456789").cps.toList by decide]
  have h1 := in_small c
  have h2 : decide (c ∈ (Str.ofString "0123456789").cps.toList) = figB c := by
    rw [mem_range (lo := 48) (n := 10) _ (by decide)]
    exact decide_eq_decide.mpr (by omega)
  rw [← h1, ← h2, ← Bool.decide_or]
  exact decide_eq_decide.mpr List.mem_append
def notName (v : Str) : Bool := !((TL.tl v).all fun c => smallB c || figB c)
theorem notName_sign (c : Nat) : notName (signS c) = !(smallB c || figB c) := by
  show (!((smallB c || figB c) && true)) = _
  rw [Bool.and_true]
theorem names_all (l : List Nat) : (((l.map signS).filter notName).map PyData.str).isEmpty = l.all fun c => smallB c || figB c := by
  induction l with
  | nil => rfl
  | cons c r ih =>
    rw [List.map_cons, List.filter_cons, notName_sign, List.all_cons]
    by_cases h : (smallB c || figB c) = true
    · rw [h]
      simpa using ih
    · have h : (smallB c || figB c) = false := by simpa using h
      rw [h]
      simp
def F_isName : Fn := fun rs S QR _ => ∃ x : Str, rs = [.d (.str x)] ∧ x.length ≤ 90000 ∧ okS x ∧ QR (.d (.bool (nameOk x))) S
section
variable {P : Program} {w : World} {K : PySem.W.Frag} {mg : Str → Option Value} {base : Heap}
theorem fn__law_is_name (T : TT K mg) {fd : FuncData} (Fd : FunD K "_law_is_name" "_law_is_name" (defArgs s__law_is_name) (defBody s__law_is_name) (defScope s__law_is_name) [] [] (ga K "_law_is_name") fd) : FnOk P w K mg base (L2.CX P w) 1 (ga K "_law_is_name") fd ["_law_text"] (spF K 1 F_isName) := by
  refine fn_w Fd sc__law_is_name fun cdv A outer s H E rs S QR QE c hc hl hF => ?_
  obtain ⟨x, rfl, hx, hok, q⟩ := hF
  unfold nameOk at q
  cases e : TL.tl x with
  | nil =>
    rw [e] at q
    have hz : x.length = 0 := by rw [TL.len_tl, e] <;> rfl
    refine ss_cons (ws_if (k1 := true) (evt_w (evw_orT (EvT.is (evt_not (evt_leLe ev_int (ev_lenS (z_len T) (ev_name 0) (by rw [sizeLine_eq]; omega)) (fun _ => ev_int))) (by rw [hz] <;> rfl)))) (fun _ => ?_) (fun z => nomatch z))
    exact ss_cons (ws_ret ev_bool (back_d q))
  | cons a r =>
    rw [e] at q
    have hlen : x.length = r.length + 1 := by rw [TL.len_tl, e] <;> rfl
    have h0 : atI x.cps.toList 0 = some a := atI_nat (k := 0) rfl (by show (TL.tl x)[0]? = _; rw [e] <;> rfl)
    have hchain : (decide ((1 : Int) ≤ (x.length : Int)) && decide ((x.length : Int) ≤ 8)) = decide (r.length + 1 ≤ 8) := by
      rw [hlen, decide_eq_true (show (1 : Int) ≤ ((r.length + 1 : Nat) : Int) by omega), Bool.true_and]
      exact decide_eq_decide.mpr (by omega)
    by_cases h8 : r.length + 1 ≤ 8
    · by_cases ha : smallB a = true
      · refine ss_cons (ws_if (k1 := false) (evt_w (evw_orF (EvT.is (evt_not (evt_leLe ev_int (ev_lenS (z_len T) (ev_name 0) (by rw [sizeLine_eq]; omega)) (fun _ => ev_int))) (by rw [hchain, decide_eq_true h8] <;> rfl)) (evw_or1 (EvT.is (evt_notInSign (ev_ixStr (c := a) (ev_name 0) ev_int (by rw [sizeLine_eq]; omega) h0) ev_str) (by rw [in_small, ha] <;> rfl))))) (fun z => nomatch z) (fun _ => ss_nil ?_))
        have hsg : ∀ v ∈ (TL.tl x).map signS, okS v := fun v hv => by
          obtain ⟨b, hb, rfl⟩ := List.mem_map.mp hv
          intro c hc
          have hc : c ∈ [b] := hc
          rw [List.mem_singleton.mp hc]
          exact hok b hb
        refine ss_cons (ws_ret (Ev.is (ev_eqD c (x := .list ((((TL.tl x).map signS).filter notName).map PyData.str)) (Ev.is (ev_lc c (blkOk_by (by rfl)) (lc_pure (own := [("_law_glyph", 1)]) c (evi_str (ev_name 0)) (tg_name 1 c.nd) (strB notName) idG (fun _ => trivial) (fun r hr => ?_) ?_)) ?_) (ev_lst eva_nil) (shaped_strs fun v hv => hsg v (List.mem_filter.mp hv).1) (shaped_strs (l := []) (fun _ h => nomatch h))) ?_) (back_d q))
        · rw [signs_eq] at hr
          obtain ⟨d, hd, rfl⟩ := List.mem_map.mp hr
          obtain ⟨v, hv, rfl⟩ := List.mem_map.mp hd
          obtain ⟨cp, _, rfl⟩ := List.mem_map.mp hv
          refine ⟨_, rfl, fun L s H C cl fp => ?_, fun _ L s H C cl fp => (ev_name 1)⟩
          refine EvT.is (evt_notInSign (c := cp) (ev_name 1) ev_str) ?_
          rw [in_both]
          exact (notName_sign cp).symm
        · rw [List.length_map, signs_len]; omega
        · rw [signs_eq, strs_fil]
        · rw [show (List.map PyData.str []) = [] from rfl, eqv_nil, names_all, e]
          show It.d (.bool _) = It.d (.bool (decide ((a :: r).length ≤ 8) && smallB a && _))
          rw [decide_eq_true (show (a :: r).length ≤ 8 from h8), ha] <;> rfl
      · have ha : smallB a = false := by simpa using ha
        refine ss_cons (ws_if (k1 := true) (evt_w (evw_orF (EvT.is (evt_not (evt_leLe ev_int (ev_lenS (z_len T) (ev_name 0) (by rw [sizeLine_eq]; omega)) (fun _ => ev_int))) (by rw [hchain, decide_eq_true h8] <;> rfl)) (evw_or1 (EvT.is (evt_notInSign (ev_ixStr (c := a) (ev_name 0) ev_int (by rw [sizeLine_eq]; omega) h0) ev_str) (by rw [in_small, ha] <;> rfl))))) (fun _ => ?_) (fun z => nomatch z))
        refine ss_cons (ws_ret ev_bool (back_d ?_))
        simpa [ha] using q
    · refine ss_cons (ws_if (k1 := true) (evt_w (evw_orT (EvT.is (evt_not (evt_leLe ev_int (ev_lenS (z_len T) (ev_name 0) (by rw [sizeLine_eq]; omega)) (fun _ => ev_int))) (by rw [hchain, decide_eq_false h8] <;> rfl)))) (fun _ => ?_) (fun z => nomatch z))
      refine ss_cons (ws_ret ev_bool (back_d ?_))
      have h8' : decide ((a :: r).length ≤ 8) = false := decide_eq_false h8
      simp only [h8', Bool.false_and] at q
      exact q
end
end Pf
namespace Pf
open PySem PySem.Spec PyProof.Rows L2 He Cu
def nameB : Cu.It → PyData
  | .d (.str x) => .bool ((TL.tl x).all fun c => smallB c || figB c)
  | _ => .none
theorem nameB_sign (c : Nat) : nameB (.d (.str (signS c))) = .bool (smallB c || figB c) := by
  show PyData.bool ((smallB c || figB c) && true) = _
  rw [Bool.and_true]
section
variable {P : Program} {w : World} {K : PySem.W.Frag} {mg : Str → Option Value} {base : Heap}
theorem ok__law_is_name (T : TT K mg) : OkF P w K mg base 1 "_law_is_name" ["_law_text"] [] F_isName := okF_of (g__law_is_name T) (d__law_is_name T) (fun _ _ _ _ _ _ us hl => match us, hl with | [_], _ => rfl) fun fd Fd => fn__law_is_name T Fd
theorem ev_inSignV {X : Cx} {a b : Expr} {G : Gam} {S S1 S2 : Sto} {c : Nat} {y : Str} {pos : Pos} (ha : Ev X a G S (.d (.str ⟨#[c]⟩)) S1) (hb : Ev X b G S1 (.d (.str y)) S2) (hm : behindInMarks .In b = false := by rfl) : Ev X (.Compare a [.In] [b] pos) G S (.d (.bool (decide (c ∈ y.cps.toList)))) S2 := ev_cmp op_in_sign ha hb (fun M H v u Q s hv hu q => ⟨c, y, vr_str hv, vr_str hu, q _ M H Ext.refl s (Fz.bl _)⟩) hm
theorem fn_is_name (T : TT K mg) {fd : FuncData} (Fd : FunD K "is_name" "is_name" (defArgs s_is_name) (defBody s_is_name) (defScope s_is_name) [] [] (ga K "is_name") fd) : FnOk P w K mg base (L2.CX P w) 1 (ga K "is_name") fd ["text"] (spF K 1 F_isName) := by
  refine fn_w Fd sc_is_name fun cdv A outer s H E rs S QR QE c hc hl hF => ?_
  obtain ⟨x, rfl, hx, hok, q⟩ := hF
  unfold nameOk at q
  cases e : TL.tl x with
  | nil =>
    rw [e] at q
    have hz : x = Str.ofString "" := TL.ext_tl (by rw [e] <;> rfl)
    refine ss_cons (ws_if (k1 := true) (evt_w (evw_orF (EvT.is (evt_not (evt_val (ev_isD (T := "str") (kk := true) (z_isinstance T) (z_str T) (ev_name 0) rfl))) rfl) (evw_orT (EvT.is (evt_eqT (ev_name 0) ev_str) (decide_eq_true hz))))) (fun _ => ?_) (fun z => nomatch z))
    exact ss_cons (ws_ret ev_bool (back_d q))
  | cons a r =>
    rw [e] at q
    have hlen : x.length = r.length + 1 := by rw [TL.len_tl, e] <;> rfl
    have hne : x ≠ Str.ofString "" := fun z => by
      rw [z] at e
      cases e
    have h0 : atI x.cps.toList 0 = some a := atI_nat (k := 0) rfl (by show (TL.tl x)[0]? = _; rw [e] <;> rfl)
    by_cases h8 : r.length + 1 ≤ 8
    · have hgt : decide ((x.length : Int) > 8) = false := decide_eq_false (by omega)
      by_cases ha : smallB a = true
      · refine ss_cons (ws_if (k1 := false) (evt_w (evw_orF (EvT.is (evt_not (evt_val (ev_isD (T := "str") (kk := true) (z_isinstance T) (z_str T) (ev_name 0) rfl))) rfl) (evw_orF (EvT.is (evt_eqT (ev_name 0) ev_str) (decide_eq_false hne)) (evw_orF (EvT.is (evt_gt (ev_lenS (z_len T) (ev_name 0) (by rw [sizeLine_eq]; omega)) (ev_gint (c_MOST_SIGNS T))) hgt) (evw_or1 (EvT.is (evt_notInSign (ev_ixStr (c := a) (ev_name 0) ev_int (by rw [sizeLine_eq]; omega) h0) (ev_gstr (c_SMALL T))) (by rw [in_small, ha] <;> rfl))))))) (fun z => nomatch z) (fun _ => ss_nil ?_))
        refine ss_cons (ws_ret (Ev.is (ev_all c (bs := (TL.tl x).map fun c => smallB c || figB c) (z_all T) (r := .d (.list ((TL.tl x).map fun c => PyData.bool (smallB c || figB c)))) (Ev.is (ev_lc c (blkOk_by (by rfl)) (lc_pure (own := [("sign", 1)]) c (evi_str (ev_name 0)) (tg_name 1 c.nd) (fun _ => true) nameB (fun _ => trivial) (fun r hr => ?_) ?_)) ?_) ?_) ?_) (back_d q))
        · rw [signs_eq] at hr
          obtain ⟨d, hd, rfl⟩ := List.mem_map.mp hr
          obtain ⟨v, hv, rfl⟩ := List.mem_map.mp hd
          obtain ⟨cp, _, rfl⟩ := List.mem_map.mp hv
          refine ⟨_, rfl, fun L s H C cl fp => rfl, fun _ L s H C cl fp => Ev.is (ev_inSignV (c := cp) (ev_name 1) (ev_addS (ev_gstr (c_SMALL T)) (ev_gstr (c_FIGURES T)) (by decide))) ?_⟩
          rw [nameB_sign, ← in_both] <;> rfl
        · rw [List.length_map, signs_len]; omega
        · rw [signs_eq, List.filter_eq_self.mpr (fun _ _ => rfl), List.map_map, List.map_map, List.map_map]
          refine congrArg (fun l => Cu.It.d (.list l)) (List.map_congr_left fun c _ => nameB_sign c)
        · show some _ = some _
          rw [List.map_map] <;> rfl
        · show It.d (.bool _) = It.d (.bool (decide ((a :: r).length ≤ 8) && smallB a && _))
          rw [decide_eq_true (show (a :: r).length ≤ 8 from h8), ha, List.all_map, e] <;> rfl
      · have ha : smallB a = false := by simpa using ha
        refine ss_cons (ws_if (k1 := true) (evt_w (evw_orF (EvT.is (evt_not (evt_val (ev_isD (T := "str") (kk := true) (z_isinstance T) (z_str T) (ev_name 0) rfl))) rfl) (evw_orF (EvT.is (evt_eqT (ev_name 0) ev_str) (decide_eq_false hne)) (evw_orF (EvT.is (evt_gt (ev_lenS (z_len T) (ev_name 0) (by rw [sizeLine_eq]; omega)) (ev_gint (c_MOST_SIGNS T))) hgt) (evw_or1 (EvT.is (evt_notInSign (ev_ixStr (c := a) (ev_name 0) ev_int (by rw [sizeLine_eq]; omega) h0) (ev_gstr (c_SMALL T))) (by rw [in_small, ha] <;> rfl))))))) (fun _ => ?_) (fun z => nomatch z))
        refine ss_cons (ws_ret ev_bool (back_d ?_))
        simpa [ha] using q
    · have hgt : decide ((x.length : Int) > 8) = true := decide_eq_true (by omega)
      refine ss_cons (ws_if (k1 := true) (evt_w (evw_orF (EvT.is (evt_not (evt_val (ev_isD (T := "str") (kk := true) (z_isinstance T) (z_str T) (ev_name 0) rfl))) rfl) (evw_orF (EvT.is (evt_eqT (ev_name 0) ev_str) (decide_eq_false hne)) (evw_orT (EvT.is (evt_gt (ev_lenS (z_len T) (ev_name 0) (by rw [sizeLine_eq]; omega)) (ev_gint (c_MOST_SIGNS T))) hgt))))) (fun _ => ?_) (fun z => nomatch z))
      refine ss_cons (ws_ret ev_bool (back_d ?_))
      have h8' : decide ((a :: r).length ≤ 8) = false := decide_eq_false h8
      simp only [h8', Bool.false_and] at q
      exact q
theorem ok_is_name (T : TT K mg) : OkF P w K mg base 1 "is_name" ["text"] [] F_isName := okF_of (g_is_name T) (d_is_name T) (fun _ _ _ _ _ _ us hl => match us, hl with | [_], _ => rfl) fun fd Fd => fn_is_name T Fd
end
end Pf
namespace Pf
open PySem PySem.Spec PyProof.Rows L2 He Cu
/-! ### shapes -/
def wholeD : PyData → Bool
  | .int _ => true
  | _ => false
def nb : PyData → Bool
  | .int _ => true
  | .bool _ => true
  | _ => false
/-- a number of a shape -/
def chk (l : PyData) : PyData → Bool
  | .int i => match l with
    | .int m => decide (m ≤ i)
    | _ => true
  | _ => false
def limD : PyData → Bool
  | .int _ => true
  | .none => true
  | _ => false
def F_is_whole : Fn := fun rs S QR _ => ∃ x, rs = [.d x] ∧ nb x = true ∧ QR (.d (.bool (wholeD x))) S
def F_check (K : PySem.W.Frag) : Fn := fun rs S QR QE => ∃ ds l, rs = [.d (.list ds), .d l] ∧ limD l = true ∧ ds.all nb = true ∧ (ds.all (chk l) = true → QR (.d .none) S) ∧ (ds.all (chk l) = false → QE (ga K "NoShape") S)
def smI (n : Int) : Prop := -(10 ^ 40) ≤ n ∧ n ≤ 10 ^ 40
theorem smI_log {n : Int} (h : smI n) : n.natAbs.log2 < 1920 := by
  have h1 : n.natAbs < 2 ^ 200 := by unfold smI at h; omega
  by_cases h0 : n.natAbs = 0
  · rw [h0]; decide
  · exact Nat.lt_trans ((Nat.log2_lt h0).mpr h1) (by decide)
section
variable {P : Program} {w : World} {K : PySem.W.Frag} {mg : Str → Option Value} {base : Heap}
theorem fn_is_whole (T : TT K mg) {fd : FuncData} (Fd : FunD K "is_whole" "is_whole" (defArgs s_is_whole) (defBody s_is_whole) (defScope s_is_whole) [] [] (ga K "is_whole") fd) : FnOk P w K mg base (L2.CX P w) 1 (ga K "is_whole") fd ["thing"] (spF K 1 F_is_whole) := by
  refine fn_w Fd sc_is_whole fun cdv A outer s H E rs S QR QE c hc hl hF => ?_
  obtain ⟨x, rfl, hx, q⟩ := hF
  cases x with
  | int i => exact ss_cons (ws_ret (ev_and (c := true) (d := true) (ev_isD (T := "int") (kk := true) (z_isinstance T) (z_int T) (ev_name 0) rfl) fun _ => (ev_and1 (ev_not (ev_isD (T := "bool") (kk := false) (z_isinstance T) (z_bool T) (ev_name 0) rfl)))) (back_d q))
  | bool b => exact ss_cons (ws_ret (ev_and (c := true) (d := false) (ev_isD (T := "int") (kk := true) (z_isinstance T) (z_int T) (ev_name 0) rfl) fun _ => (ev_and1 (ev_not (ev_isD (T := "bool") (kk := true) (z_isinstance T) (z_bool T) (ev_name 0) rfl)))) (back_d q))
  | _ => cases hx
theorem ok_is_whole (T : TT K mg) : OkF P w K mg base 1 "is_whole" ["thing"] [] F_is_whole := okF_of (g_is_whole T) (d_is_whole T) (fun _ _ _ _ _ _ us hl => match us, hl with | [_], _ => rfl) fun fd Fd => fn_is_whole T Fd
end
end Pf
/-! CwC: laws whose defs make lambdas: the tables of their code objects stand at the store's start. -/
namespace Cu
open PySem PySem.Spec PyProof.Rows L2 He
/-- the tables stand apart -/
def apartB (tf : List Defn) (K : PySem.W.Frag) : Bool := decide ((tf.map fun p => (cT K p).2).Nodup)
structure SaysTb (fa : List Fk) (fn : List DefD) (tf : List Defn) (h : Heap) (K : PySem.W.Frag) : Prop where
  c : SaysC fa fn K
  nd : (tf.map fun p => (cT K p).2).Nodup
  hd : ∀ p ∈ tf, PySem.W.codeHdIn K (cT K p).1 (cT K p).2 = true
  out : ∀ p ∈ tf, K.lookup (cT K p).2 = none
  empty : ∀ p ∈ tf, h.get? (cT K p).2 = some { cls := .none, data := .fields #[] }
abbrev AlTb : Type := AlD × Bool
def obsTb (n : Nat) (fa : List Fk) (fn : List DefD) (tf : List Defn) (g : Addr → Option Obj) : AlTb := (obsC fa fn (frT g (asD g n)), apartB tf (frT g (asD g n)) && tabsB g tf (frT g (asD g n)))
def valTb (fn : List DefD) : AlTb := (valC fn, true)
theorem saysTb_of {n : Nat} {fa : List Fk} {fn : List DefD} {tf : List Defn} {h : Heap} (e : obsTb n fa fn tf h.get? = valTb fn) : SaysTb fa fn tf h (frT h.get? (asD h.get? n)) := by
  have e2 := congrArg (fun z : AlTb => z.2) e
  obtain ⟨h1, h2⟩ := Bool.and_eq_true_iff.mp (show (apartB tf (frT h.get? (asD h.get? n)) && tabsB h.get? tf (frT h.get? (asD h.get? n))) = true from e2)
  have each : ∀ p ∈ tf, PySem.W.codeHdIn (frT h.get? (asD h.get? n)) (cT (frT h.get? (asD h.get? n)) p).1 (cT (frT h.get? (asD h.get? n)) p).2 = true ∧ ∃ ob, h.get? (cT (frT h.get? (asD h.get? n)) p).2 = some ob ∧ emptyTab ob = true := fun p hp => by
    have h3 := List.all_eq_true.mp h2 p hp
    cases ob : h.get? (cT (frT h.get? (asD h.get? n)) p).2 with
    | none => rw [ob, Bool.and_false] at h3; cases h3
    | some ob' => rw [ob] at h3; exact ⟨(Bool.and_eq_true_iff.mp h3).1, ob', rfl, (Bool.and_eq_true_iff.mp h3).2⟩
  refine ⟨congrArg (fun z : AlTb => z.1) e, of_decide_eq_true h1, fun p hp => (each p hp).1, fun p hp => ?_, fun p hp => ?_⟩
  · obtain ⟨_, ob, x1, x2⟩ := each p hp
    exact frT_none x1 x2
  · obtain ⟨_, ob, x1, x2⟩ := each p hp
    rw [x1, emptyTab_eq x2]
def hookTb (n : Nat) (fa : List Fk) (fn : List DefD) (tf : List Defn) : PySem.W.Hook where
  α := AlTb
  obs := fun s => obsTb n fa fn tf s.heap.get?
  val := fun _ => valTb fn
  says := fun _ h => ∃ K : PySem.W.Frag, K.In h ∧ SaysTb fa fn tf h K
  of := fun _ _ e => ⟨_, frT_in, saysTb_of e⟩
  keeps := fun _ _ _ ⟨K, hK, c⟩ k => ⟨K, PySem.W.Frag.In.keeps hK k, ⟨c.c, c.nd, c.hd, c.out, fun p hp => k _ _ (c.empty p hp)⟩⟩
theorem obsTb_eq {n : Nat} {fa : List Fk} {fn : List DefD} {tf : List Defn} {g : Addr → Option Obj} {s : Shared} (h : ∀ a, g a = s.heap.get? a) : obsTb n fa fn tf g = (hookTb n fa fn tf).obs s := by
  have e : g = s.heap.get? := funext h
  rw [e] <;> rfl
/-- the store's start: the tables, by the defs and what their lambdas are called -/
def tabS (K : PySem.W.Frag) (tf : List (Defn × Str)) : Sto := tf.map fun p => .tbl (cT K p.1).2 p.2
def lawFT (K : PySem.W.Frag) (tf : List (Defn × Str)) : Fn := fun rs S QR _ => ∃ ns : List Int, rs = [.s ns] ∧ S = tabS K tf ∧ ns.length ≤ 63 ∧ QR (.d (.bool true)) S
theorem law_spT {K : PySem.W.Frag} {tf : List (Defn × Str)} {H : Hp} {a : Addr} {ns : List Int} (hl : ns.length ≤ 63) (nd : (tf.map fun p => (cT K p.1).2).Nodup) (hH : ∀ p ∈ tf, H (cT K p.1).2 = some (.tbl #[])) (hS : SqL K H a (ns.map V.int)) : spF K 1 (lawFT K tf) [.ref a] H (fun v _ => v = .bl true) (fun _ _ _ => False) := by
  have h0 : StoreOk K (tf.map fun p => (cT K p.1).2) H (tabS K tf) := by
    refine ⟨nd, by unfold tabS; rw [List.length_map, List.length_map], fun n b w h1 h2 => ?_⟩
    unfold tabS at h2
    rw [List.getElem?_map] at h1 h2
    cases e : tf[n]? with
    | none => rw [e] at h1; cases h1
    | some p =>
      rw [e] at h1 h2
      cases h1
      cases h2
      refine ⟨rfl, #[], hH p (List.mem_of_getElem? e), trivial, fun pos cv hc => ?_⟩
      simp [codeAmong] at hc
  have hN : NdS K (tf.map fun p => (cT K p.1).2) H a (ns.map V.int) := by
    rcases hS with h | h
    · refine .inl ⟨h, fun z => ?_⟩
      obtain ⟨p, hp, e⟩ := List.mem_map.mp z
      have := hH p hp
      rw [e] at this
      rcases h with h | ⟨o, h⟩ <;> rw [h] at this <;> cases this
    · exact .inr h
  exact ⟨_, _, [.s ns], h0, .cons ⟨a, rfl, hN⟩ .nil, rfl, ns, rfl, rfl, hl, fun v M' H' _ _ hv => vr_bool hv⟩
/-- the text's facts, with the tables' -/
structure TxtT (fa : List Fk) (fn : List DefD) (tf : List (Defn × Str)) (K : PySem.W.Frag) (mg : Str → Option Value) : Prop where
  t : Txt fa fn K mg
  hd : ∀ p ∈ tf, PySem.W.codeHdIn K (cT K p.1).1 (cT K p.1).2 = true
/-- the end: from the law's def to the row -/
theorem walk_wT {l : PySem.W.OpenLaw} {fa : List Fk} {fn : List DefD} {tf : List (Defn × Str)} {nn k : Nat} {q : Program} {loose : List Str} {XP : (Str → Option Value) → Heap → Prop} {d : DefRec} {x : Str} (hn : l.most = some 63) (hdf : d.params.defaults = []) (hr : Room k callerA) (hd : d.name = "law")
    (h : ∀ (w : World) (K : PySem.W.Frag) (mg : Str → Option Value), Txt fa fn K mg → mg "law" = some (.ref (ga K "law")) ∧ ∃ fd : FuncData, (∀ (s : Shared) (u : Value), BindsTo s fd ⟨[u], []⟩ [(x, u)]) ∧ ∀ base : Heap, (∀ p ∈ tf, LamX.TabB base mg (cT K p.1).1 (cT K p.1).2) → FnOk l.prog w K mg base (L2.CX l.prog w) k (ga K "law") fd [x] (spF K 1 (lawFT K tf))) :
    PySem.W.WalkO q loose XP (hookTb nn fa fn (tf.map (·.1))).says l.row.toRowW d [] (fun f vs => PySem.call f vs) := by
  refine Att.attach_call hn hdf fun w s0 s1 mg mb f1 ob pm cd doc ad vs ns Gd Y ho hda hcd hmg hobj hins hlen hgn => ?_
  obtain ⟨K, KX, c⟩ := Y
  obtain ⟨hgl, fd, hb, hF⟩ := h w K mg ⟨c.c, _, KX, Gd.T.g⟩
  rw [hd, hgl] at hmg
  obtain rfl : ga K "law" = f1 := by injection hmg with hmg; injection hmg
  have mem : ∀ p ∈ tf.map fun p => cT K p.1, ∃ z ∈ tf, p = cT K z.1 := fun p hp => by
    obtain ⟨z, hz, e⟩ := List.mem_map.mp hp
    exact ⟨z, hz, e.symm⟩
  have inM : ∀ z ∈ tf, z.1 ∈ tf.map (·.1) := fun z hz => List.mem_map.mpr ⟨z, hz, rfl⟩
  refine LamX.law_callTs (cs := tf.map fun p => cT K p.1) KX Gd.T.g Gd.T.b Gd.T.builtins Gd.T.nolimit hgn (fun p hp => ?_) (fun p hp => ?_) (fun p hp => ?_) Gd.T.bmain hobj hins (Nat.le_trans hlen (by rw [sizeLine_eq]; omega)) hr
    (fun base _ _ hT => hF base fun p hp => hT _ (List.mem_map.mpr ⟨p, hp, rfl⟩)) hb (fun H hT hS => law_spT hlen ?_ (fun p hp => hT _ (List.mem_map.mpr ⟨p, hp, rfl⟩)) hS) fun H e s' hx => ?_
  · obtain ⟨z, hz, rfl⟩ := mem p hp
    exact c.empty _ (inM z hz)
  · obtain ⟨z, hz, rfl⟩ := mem p hp
    exact c.out _ (inM z hz)
  · obtain ⟨z, hz, rfl⟩ := mem p hp
    exact PySem.W.codeHd_of_K KX (c.hd _ (inM z hz))
  · have := c.nd
    rw [List.map_map] at this
    exact this
  · obtain ⟨_, _, _, _, _, _, _, _, _, _, _, _, z⟩ := hx
    exact z
section
variable {P : Program} {w : World} {K : PySem.W.Frag} {mg : Str → Option Value} {base : Heap} {x qual : Str} {params : Arguments} {body : List Stmt} {scope : Scope} {dvs : List V} {kws : List (Str × V)} {f : Addr} {fd : FuncData}
/-- THE RULE for a def that makes lambdas: its code object is known -/
theorem fn_wT {F : Fn} {N ps : List Str} {k : Nat} (Fd : FunD K x qual params body scope dvs kws f fd) (Sc : FnScope N ps scope) (p : Defn) (hf : fAd K p = f)
    (h : ∀ (cdv : Value) (A : Around) (outer : List Env) (s : Shared) (H : Hp) (E : XK) (rs : List It) (S : Sto) (QR : It → Sto → Prop) (QE : Addr → Sto → Prop), cdv = .ref (cT K p).1 → Cxo (cxF P w K mg base N qual scope f cdv A outer s H E) (wF E) k →
      ClS S → rs.length = ps.length → F rs S QR QE → WSs (cxF P w K mg base N qual scope f cdv A outer s H E) (wF E) body (startG N rs) S ⟨fun _ S' => Back S.length S' (.d .none) QR, fun r S' => Back S.length S' r QR, fun _ _ => False, fun _ _ => False, fun C _ S' => BackX S.length S' C QE⟩) :
    FnOk P w K mg base (L2.CX P w) (k + 1) f fd ps (spF K ps.length F) := by
  obtain ⟨oc, od, dV, kV, doc, pm, an, cdv, ct, osl, rfl, lk, hcd, _, _⟩ := Fd.ex
  obtain ⟨c, rfl⟩ := codeIn_ref hcd
  have hc : codeOf K p = c := codeOf_eq (by rw [hf]; exact lk) rfl
  refine fn_of lk hcd Sc (fun vs H Q E hs => ?_) (fun A outer s H vs Q E hr hs => ⟨sSs _ body, pss_s, ?_⟩)
  · obtain ⟨M, S, rs, h1, h2, h3, _⟩ := hs
    rw [h2.len, h3]
  · obtain ⟨M, S, rs, h1, h2, h3, hF⟩ := hs
    have giveR : ∀ {v : V} {M' : List Addr} {H' : Hp} {r : It} {S' : Sto}, Ext M H M' H' → StoreOk K M' H' S' → VRep K M' H' v r → Back S.length S' r (fun r S' => ∀ v M' H', Ext M H M' H' → StoreOk K M' H' S' → VRep K M' H' v r → Q v H') → Q v H' := by
      intro v M' H' r S' e s' hv hb
      obtain ⟨S1, L, r1, rfl, hn, hc, hr1, q⟩ := hb
      refine q v (M'.take S1.length) H' (e.take (by rw [h1.len]; exact hn)) (s'.take (hc s'.closed)) ?_
      rcases hr1 with ⟨rfl, hcl⟩ | ⟨z, rfl, hd⟩
      · exact hv.take hcl
      · exact Den.fz s' hd hv
    refine h (.ref c) A outer s H E rs S _ _ (by show _ = Value.ref (codeOf K p); rw [hc]) (cxo_of Sc hr) h1.closed h3 hF M (L2.start N vs) H _ (stt_start h1 N h2) ⟨fun M' σ' H' G' S' e t q => giveR (v := .non) (r := .d .none) e t.sto Fz.non q, fun v M' H' r S' e t hv q => giveR e t hv q, fun _ _ _ _ _ _ _ q => q.elim, fun _ _ _ _ _ _ _ q => q.elim, fun M' σ' H' G' C S' e t q => ?_⟩
    obtain ⟨S1, L, rfl, hn, hc, q⟩ := q
    exact q (M'.take S1.length) H' (e.take (by rw [h1.len]; exact hn)) (t.sto.take (hc t.sto.closed))
end
end Cu
/-! CvD: min of four whole numbers; zip of two lists of data, owned or not. -/
namespace PySem
open Sem (wp)
section
variable {prog : Program} {w : World} {A : Around} {E : Value → Shared → Prop} {s : Shared}
theorem F.args_min4 (a b c d : Value) : argsOk "min" ⟨[a, b, c, d], []⟩ := by unfold argsOk; kernel_rfl
theorem argBest_le (val : Nat → Int) : ∀ k, argBest (fun i j => decide (val i < val j)) k ≤ k ∧ ∀ i, i ≤ k → val (argBest (fun i j => decide (val i < val j)) k) ≤ val i
  | 0 => ⟨Nat.le_refl _, fun i hi => by rw [Nat.le_zero.mp hi]; exact Int.le_refl _⟩
  | k + 1 => by
    obtain ⟨h1, h2⟩ := argBest_le val k
    show (if decide (val (k + 1) < val (argBest (fun i j => decide (val i < val j)) k)) = true then k + 1 else argBest (fun i j => decide (val i < val j)) k) ≤ k + 1 ∧ ∀ i, i ≤ k + 1 → val (if decide (val (k + 1) < val (argBest (fun i j => decide (val i < val j)) k)) = true then k + 1 else argBest (fun i j => decide (val i < val j)) k) ≤ val i
    by_cases h : val (k + 1) < val (argBest (fun i j => decide (val i < val j)) k)
    · rw [if_pos (decide_eq_true h)]
      refine ⟨Nat.le_refl _, fun i hi => ?_⟩
      rcases Nat.lt_or_eq_of_le hi with q | q
      · have := h2 i (Nat.lt_succ_iff.mp q)
        omega
      · rw [q]; exact Int.le_refl _
    · rw [if_neg (fun z => h (of_decide_eq_true z))]
      refine ⟨Nat.le_succ_of_le h1, fun i hi => ?_⟩
      rcases Nat.lt_or_eq_of_le hi with q | q
      · exact h2 i (Nat.lt_succ_iff.mp q)
      · rw [q]; omega
theorem call_min_four {a b c d : Value} {Q : Value → Shared → Prop}
    (h : wpAny (model prog w) A.in1 (pyIter (.ref s.heap.objs.size)) (fun it s₂ => ∃ I fp wr n P St bt, it = .ref I ∧ Walks prog w A.in1 I fp wr n P St ∧ St 0 s₂.heap ∧ (∀ b ∈ fp, b < s₂.heap.objs.size) ∧ 0 < n ∧ CmpOf prog w A.in1 .Lt P bt ∧
      ∀ v h' tk, P (argBest bt (n - 1)) v → (∀ b o, b ∉ wr → s₂.heap.get? b = some o → h'.get? b = some o) → Q v { s₂ with heap := h', toks := tk }) E
      { s with heap := s.heap.push { cls := .type "tuple", data := .seq #[a, b, c, d] } }) :
    wpAny (model prog w) A (call (.builtin "min") [a, b, c, d]) Q E s := by
  have hname : (toString "min" ++ toString ".loop" : String) = "min.loop" := by decide
  refine call_function_tree F.kind_min F.plain_min F.entry_min (F.args_min4 _ _ _ _) ?_
  show wpAny _ A.in1 (Builtin.Builtins.bindParams "min" ["key", "default"] 0 ⟨[], []⟩ >>= _) _ _ s
  refine wpAny_bind (wpAny_of_eq (show Builtin.Builtins.bindParams "min" ["key", "default"] 0 ⟨[], []⟩ = pure [none, none] from rfl) ?_)
  show wpAny _ A.in1 (newTuple [a, b, c, d] >>= _) _ _ s
  refine wpAny_bind (wpAny_newObj_type ?_)
  refine wpAny_bind (wpAny_mono h (fun it s₂ h₂ => ?_) fun _ _ e => e)
  obtain ⟨I, fp, wr, n, P, St, bt, rfl, W, hst, hfp, hn, hcmp, hQ⟩ := h₂
  refine wpAny_bind (wpAny_newObj_type ?_)
  have hSf : s₂.heap.objs.size ∉ fp := fun hm => Nat.lt_irrefl _ (hfp _ hm)
  rw [hname]
  refine wpAny_pure ⟨plainId_quiet F.plain_min_loop _, codeAny_min_loop_first W bt hcmp s₂.heap.objs.size hSf hn (W.frame _ _ _ hst fun b _ o e => Heap.get?_push_of_some _ e) (Heap.get?_push_size _ rfl) fun v h' tk hP hk => ?_⟩
  exact hQ v h' tk hP fun b o hbw e => hk b o hbw (Nat.ne_of_lt (Heap.lt_size e)) (Heap.get?_push_of_some _ e)
theorem min_four_ints {a b c e : Int} {t u x y : Tok} {Q : Value → Shared → Prop} (hh : A.handled = none)
    (h : ∀ h' tk z, (∀ d o, s.heap.get? d = some o → h'.get? d = some o) → Q (.int (min (min a b) (min c e)) z) { s with heap := h', toks := tk }) :
    wpAny (model prog w) A (call (.builtin "min") [.int a t, .int b u, .int c x, .int e y]) Q E s := by
  have hT : (s.heap.push { cls := .type "tuple", data := .seq #[.int a t, .int b u, .int c x, .int e y] }).IsTuple s.heap.objs.size (intItems #[(a, t), (b, u), (c, x), (e, y)]) := ⟨_, Heap.get?_push_size _ rfl, rfl, 0, by simp [intItems]⟩
  refine call_min_four (wpAny_pyIter_tuple hT ?_)
  have hsz : (s.heap.push { cls := .type "tuple", data := .seq #[.int a t, .int b u, .int c x, .int e y] }).objs.size = s.heap.objs.size + 1 := Heap.size_push ..
  refine ⟨_, [_, s.heap.objs.size], [_], _, _, _, _, rfl, Walks.tuple (A := A.in1) hh _ s.heap.objs.size (by rw [hsz]; exact Nat.ne_of_lt (Nat.lt_succ_self _)) (intItems #[(a, t), (b, u), (c, x), (e, y)]),
    ⟨⟨_, Heap.get?_push_size _ rfl, rfl, rfl⟩, hT.push _⟩, fun d hd => ?_, by simp [intItems], CmpOf.ints_lt (numAt #[(a, t), (b, u), (c, x), (e, y)]) (fun _ _ => intItems_at), fun v h' tk hP hk => ?_⟩
  · show d < ((s.heap.push _).push _).objs.size
    rw [Heap.size_push, hsz]
    rcases List.mem_cons.mp hd with rfl | hd
    · rw [hsz]; exact Nat.lt_succ_self _
    · rcases List.mem_cons.mp hd with rfl | hd
      · exact Nat.lt_succ_of_lt (Nat.lt_succ_self _)
      · cases hd
  · have hold : ∀ d o, s.heap.get? d = some o → h'.get? d = some o := fun d o q => by
      refine hk d o (fun hm => ?_) (Heap.get?_push_of_some _ (Heap.get?_push_of_some _ q))
      rcases List.mem_cons.mp hm with e1 | hm
      · have := Heap.lt_size q; rw [e1, hsz] at this; exact Nat.lt_irrefl _ (Nat.lt_of_succ_lt this)
      · cases hm
    have hsz2 : (intItems #[(a, t), (b, u), (c, x), (e, y)]).size - 1 = 3 := by simp [intItems]
    rw [hsz2] at hP
    obtain ⟨h1, h2⟩ := argBest_le (numAt #[(a, t), (b, u), (c, x), (e, y)]) 3
    obtain ⟨z, rfl⟩ := intItems_at hP
    generalize argBest (fun i j => decide (numAt #[(a, t), (b, u), (c, x), (e, y)] i < numAt #[(a, t), (b, u), (c, x), (e, y)] j)) 3 = k at h1 h2 hP
    have n0 : numAt #[(a, t), (b, u), (c, x), (e, y)] 0 = a := by simp [numAt]
    have n1 : numAt #[(a, t), (b, u), (c, x), (e, y)] 1 = b := by simp [numAt]
    have n2 : numAt #[(a, t), (b, u), (c, x), (e, y)] 2 = c := by simp [numAt]
    have n3 : numAt #[(a, t), (b, u), (c, x), (e, y)] 3 = e := by simp [numAt]
    have m0 := h2 0 (by decide); have m1 := h2 1 (by decide); have m2 := h2 2 (by decide); have m3 := h2 3 (by decide)
    rw [n0] at m0; rw [n1] at m1; rw [n2] at m2; rw [n3] at m3
    have ek : numAt #[(a, t), (b, u), (c, x), (e, y)] k = min (min a b) (min c e) := by
      have : k = 0 ∨ k = 1 ∨ k = 2 ∨ k = 3 := by omega
      rcases this with rfl | rfl | rfl | rfl
      · rw [n0] at *; omega
      · rw [n1] at *; omega
      · rw [n2] at *; omega
      · rw [n3] at *; omega
    rw [ek]
    exact h h' tk z hold
end
end PySem
namespace L2
open PySem PySem.Spec PyProof.Rows
theorem vals4 {x y z w : V} {us : List Value} (r : Vals [x, y, z, w] us) : ∃ a b c d, us = [a, b, c, d] ∧ RelV x a ∧ RelV y b ∧ RelV z c ∧ RelV w d := by
  cases r with
  | cons r1 r => cases r with
    | cons r2 r => cases r with
      | cons r3 r => cases r with
        | cons r4 r => cases r; exact ⟨_, _, _, _, rfl, r1, r2, r3, r4⟩
theorem call_min4 {X : Cx} (hc : X.calm = true) : CallR X (.builtin "min") (fun xs H Q => ∃ i j k l, xs = [.int i, .int j, .int k, .int l] ∧ Q (.int (min (min i j) (min k l))) H) := by
  intro pins s σ H xs us Q I r h
  obtain ⟨i, j, k, l, rfl, q⟩ := h
  obtain ⟨_, _, _, _, rfl, ⟨t, rfl⟩, ⟨t', rfl⟩, ⟨t2, rfl⟩, ⟨t3, rfl⟩⟩ := vals4 r
  exact min_four_ints (I.ok.hd hc) fun h' tk z kp => ⟨.int (min (min i j) (min k l)), H, I.kept kp, ⟨_, rfl⟩, q⟩
end L2
namespace Cu
open PySem PySem.Spec PyProof.Rows L2
section
variable {X : Cx} {W : WX} {k : Nat} {G : Gam} {S S1 S2 S3 S4 : Sto} {a b d e : Expr} {m n i j : Int} {p pos pos' tpos : Pos} {ds ds' : List PyData} {r r' : It}
theorem vr4 {K : PySem.W.Frag} {M : List Addr} {H : Hp} {vs : List V} {r1 r2 r3 r4 : It} (h : VReps K M H vs [r1, r2, r3, r4]) : ∃ v1 v2 v3 v4, vs = [v1, v2, v3, v4] ∧ VRep K M H v1 r1 ∧ VRep K M H v2 r2 ∧ VRep K M H v3 r3 ∧ VRep K M H v4 r4 := by
  cases h with
  | cons q1 h => cases h with
    | cons q2 h => cases h with
      | cons q3 h => cases h with
        | cons q4 h => cases h; exact ⟨_, _, _, _, rfl, q1, q2, q3, q4⟩
/-- min(a, b, d, e) -/
theorem ev_min4 (c : Cxo X W k) (hm : X.mg "min" = none) (ha : Ev X a G S (.d (.int m)) S1) (hb : Ev X b G S1 (.d (.int n)) S2) (hd : Ev X d G S2 (.d (.int i)) S3) (he : Ev X e G S3 (.d (.int j)) S4) (hg : Gl X "min" := by rfl)
    (s1 : starEach [a, b, d, e] X.env = (false, eval a X.env) :: starEach [b, d, e] X.env := by rfl) (s2 : starEach [b, d, e] X.env = (false, eval b X.env) :: starEach [d, e] X.env := by rfl) (s3 : starEach [d, e] X.env = (false, eval d X.env) :: starEach [e] X.env := by rfl) (s4 : starEach [e] X.env = (false, eval e X.env) :: starEach [] X.env := by rfl)
    (hpl : (backTo pos (starEach [b, d, e] X.env)).any (·.1) = false := by rfl) : Ev X (.Call (.Name "min" p) [a, b, d, e] [] pos) G S (.d (.int (min (min m n) (min i j)))) S4 :=
  ev_blt (call_min4 c.calm) hm (by decide +kernel) (eva_cons ha (eva_cons hb (eva_cons hd (eva_cons he eva_nil s4) s3) s2) s1) (fun M H vs Q s hvs q => by
    obtain ⟨v1, v2, v3, v4, rfl, h1, h2, h3, h4⟩ := vr4 hvs
    rw [vr_int h1, vr_int h2, vr_int h3, vr_int h4]
    exact ⟨m, n, i, j, rfl, q _ M H Ext.refl s (Fz.int _)⟩) hg (by decide) (by decide) s1 hpl
/-- zip of an owned list of data that stays and a list of data -/
theorem evi_zipO {elts : List Expr} {kk z : Nat} {a1 a2 : Expr} (hm : X.mg "zip" = none) (h1 : Ev X a1 G S (.o z) S1) (h2 : Ev X a2 G S1 (.d (.list ds')) S2) (hz : S2[z]? = some (.lst (ds.map .d))) (hg : Gl X "zip" := by rfl) (hst : starEach [a1, a2] X.env = (false, eval a1 X.env) :: starEach [a2] X.env := by rfl)
    (hst2 : starEach [a2] X.env = (false, eval a2 X.env) :: starEach [] X.env := by rfl) (hpl : (backTo pos' (starEach [a2] X.env)).any (·.1) = false := by rfl) :
    EvI X (.Tuple elts kk tpos) (.Call (.Name "zip" p) [a1, a2] [] pos') G S ((ds.zip ds').map fun x => It.d (.tuple [x.1, x.2])) (fun S' => S'[z]? = some (.lst (ds.map .d))) S2 :=
  ⟨_, pi_zip hg hm pa_s hst hpl, fun M σ H R s q => (eva_cons h1 (eva_cons h2 eva_nil hst2) hst) M σ H _ s fun vs M1 H1 e1 t1 r1 => by
    obtain ⟨v, u, rfl, hv, hu⟩ := vr2 r1
    obtain ⟨ad, had, rfl⟩ := hv
    obtain ⟨vs0, hv0, hr0⟩ := t1.sto.rep z ad _ had hz
    have hu' : Fz M1 H1 u (.list ds') := hu
    cases hu' with
    | lst hL' hA' =>
      refine ⟨ad, _, vs0, _, rfl, .of hv0, hL'.sq, q M1 H1 _ e1 t1 ⟨fun i M' H' S' hi e s hC => ?_, fun i M' H' S' x H2 r hr e s hC y => ?_, fun i M' H' S' hi e s hC => ?_⟩⟩
      · obtain ⟨vs, hv, hr⟩ := s.rep z ad _ (e.get had) hC
        have l2 := fz_len hA'
        have hi' : i < min ds.length ds'.length := by simpa using hi
        have l1 := hr.len
        rw [List.length_map] at l1
        exact ⟨vs, _, vs[i]'(by omega), _, .of hv, (hL'.ext e).sq, List.getElem?_eq_getElem _, List.getElem?_eq_getElem (by omega)⟩
      · obtain ⟨vs, hv, hr'⟩ := s.rep z ad _ (e.get had) hC
        obtain ⟨T, u1, u2, rfl, hT, rfl, y, y'⟩ := y
        have hx := y vs (.of hv)
        have hx' := y' _ (hL'.ext e).sq
        obtain ⟨r1, g1, g2⟩ := reps_at hr' hx
        rw [List.getElem?_map] at g1
        cases ed : ds[i]? with
        | none => rw [ed] at g1; cases g1
        | some d =>
        rw [ed] at g1
        cases g1
        obtain ⟨d', h1', h2'⟩ := fz_at hA' hx'
        have ez : (ds.zip ds')[i]? = some (d, d') := by rw [List.getElem?_zip_eq_some]; exact ⟨ed, h1'⟩
        rw [List.getElem?_map, ez] at hr
        cases hr
        have e2 : Ext M' H' M' (upd H' T (.tup [u1, u2])) := Ext.fresh hT
        exact ⟨e2, s.fresh hT, Fz.tup ⟨upd_same, s.nin hT⟩ (.cons (Fz.ext e2 g2) (.cons (Fz.ext e2 (Fz.ext e h2')) .nil))⟩
      · obtain ⟨vs, hv, hr⟩ := s.rep z ad _ (e.get had) hC
        refine ⟨vs, _, .of hv, (hL'.ext e).sq, ?_⟩
        have l2 := fz_len hA'
        have hi' : min ds.length ds'.length ≤ i := by simpa using hi
        have l1 := hr.len
        rw [List.length_map] at l1
        omega⟩
end
end Cu
/-! CvI: a def called in an except suite, that raises nothing and loops nowhere; it may get the error. -/
namespace Cu
open PySem PySem.Spec PyProof.Rows L2
/-- such a def's promise; p: the error at hand -/
structure FnQ (P : Program) (w : World) (K : PySem.W.Frag) (mg : Str → Option Value) (base : Heap) (k : Nat) (f : Addr) (fd : FuncData) (ps : List Str) (sp : Addr × Obj → Sp) : Prop where
  many : ∀ p vs H Q E, sp p vs H Q E → vs.length = ps.length
  does : ∀ (A : Around) (outer : List Env) (s : Shared) (H : Hp) (args : Args) (us : List Value) (vs : List V) (Q : VK) (E : XK) (p : Addr × Obj), L2H.RoomH k A → L2H.PinOk outer H s p → Env0 P w K mg base A outer s H →
    BindsTo s fd args (ps.zip us) → L2.Vals vs us → sp p vs H Q E → codeAny (model P w) A (.call (.ref f) args) (CR (L2.CX P w) outer P w H s Q E) s
/-- the context of its body -/
abbrev cxQ (P : Program) (w : World) (K : PySem.W.Frag) (mg : Str → Option Value) (base : Heap) (N : List Str) (qual : Str) (scope : Scope) (f : Addr) (cdv : Value) (A : Around) (outer : List Env) (s : Shared) (H : Hp) (E : XK) (p : Addr × Obj) : Cx :=
  L2H.cxH (L2.CX P w) P w K mg base N qual scope f cdv A outer s H E p
section
variable {P : Program} {w : World} {K : PySem.W.Frag} {mg : Str → Option Value} {base : Heap} {x qual : Str} {params : Arguments} {body : List Stmt} {scope : Scope} {dvs : List V} {kws : List (Str × V)} {f : Addr} {fd : FuncData}
theorem fn_quiet {N ps : List Str} {k : Nat} {sp : Addr × Obj → Sp} (Fd : FunD K x qual params body scope dvs kws f fd) (Sc : FnScope N ps scope) (many : ∀ p vs H Q E, sp p vs H Q E → vs.length = ps.length)
    (hb : ∀ (cdv : Value) (A : Around) (outer : List Env) (s : Shared) (H : Hp) (vs : List V) (Q : VK) (E : XK) (p : Addr × Obj), L2H.RoomH k (A.deeper (envOfC qual scope s.heap.objs.size f cdv)) → sp p vs H Q E →
      sSs (cxQ P w K mg base N qual scope f cdv A outer s H E p) body { nx := fun _ H' => Q .non H', rt := Q } (L2.start N vs) H) : FnQ P w K mg base (k + 1) f fd ps sp := by
  obtain ⟨oc, od, dV, kV, doc, pm, an, cdv, ct, osl, rfl, lk, hcd, _, _⟩ := Fd.ex
  refine ⟨many, fun A outer s H args us vs Q E p hr hp e0 bt rv hs => ?_⟩
  have nm := many _ _ _ _ _ hs
  have inK : K.In s.heap := e0.mod.kin.keeps fun b o z => (e0.bs b o z).1
  refine codeAny_call_function hr.depth (inK _ _ lk) rfl Sc.co Sc.gen rfl (PySem.W.codeRec_of inK hcd) (bt _ _ _ _ (wpAny_newFunctionEnv_cells Sc.kind ?_ ?_))
  · rintro ⟨n, v⟩ hy
    rcases Sc.par n (List.of_mem_zip hy).1 with q | q
    · exact .inl q
    · exact .inr ⟨q, PySem.W.cellsFrom_some _ _ _ (.inl q)⟩
  · intro env he s1 z
    subst he
    refine ⟨(e0.mod.nolimit.keeps fun b o y => (e0.bs b o y).1).keeps z.toInCall.keep, codeAny_func ?_⟩
    refine wpAny_mono (hb cdv A outer s H vs Q E p (hr.deeper _) hs [] s1 (L2H.inv_startH Sc hp e0 nm rv z)) (fun fl t ht => ?_) fun _ _ y => y
    cases fl with
    | brk => obtain ⟨_, _, _, y⟩ := ht; exact y.elim
    | cont => obtain ⟨_, _, _, y⟩ := ht; exact y.elim
    | next =>
      obtain ⟨σ1, H1, J, y⟩ := ht
      exact ⟨.non, H1, J.os, J.bare, J.base, J.hok, rfl, y⟩
    | ret u =>
      obtain ⟨v1, σ1, H1, J, rr, y⟩ := ht
      exact ⟨v1, H1, J.os, J.bare, J.base, J.hok, rr, y⟩
/-- THE RULE for such a def -/
theorem fn_wQ {F : Addr × Obj → Fn} {N ps : List Str} {k : Nat} (Fd : FunD K x qual params body scope dvs kws f fd) (Sc : FnScope N ps scope)
    (h : ∀ (cdv : Value) (A : Around) (outer : List Env) (s : Shared) (H : Hp) (E : XK) (p : Addr × Obj) (rs : List It) (S : Sto) (QR : It → Sto → Prop), L2H.RoomH k (A.deeper (envOfC qual scope s.heap.objs.size f cdv)) →
      rs.length = ps.length → F p rs S QR (fun _ _ => False) → ClS S → WSs (cxQ P w K mg base N qual scope f cdv A outer s H E p) (fun _ _ _ _ => False) body (startG N rs) S ⟨fun _ S' => Back S.length S' (.d .none) QR, fun r S' => Back S.length S' r QR, fun _ _ => False, fun _ _ => False, fun _ _ _ => False⟩)
    (hq : ∀ p rs S QR QE, F p rs S QR QE → F p rs S QR fun _ _ => False) : FnQ P w K mg base (k + 1) f fd ps (fun p => spF K ps.length (F p)) := by
  refine fn_quiet Fd Sc (fun p vs H Q E hs => ?_) (fun cdv A outer s H vs Q E p hr hs => ?_)
  · obtain ⟨M, S, rs, _, h2, h3, _⟩ := hs
    rw [h2.len, h3]
  · obtain ⟨M, S, rs, h1, h2, h3, hF⟩ := hs
    have out : ∀ {v : V} {M' : List Addr} {H' : Hp} {r : It} {S' : Sto}, Ext M H M' H' → StoreOk K M' H' S' → VRep K M' H' v r → Back S.length S' r (fun r S' => ∀ v M' H', Ext M H M' H' → StoreOk K M' H' S' → VRep K M' H' v r → Q v H') → Q v H' := by
      intro v M' H' r S' e s' hv hb
      obtain ⟨S1, L, r1, rfl, hn, hc, hr1, q⟩ := hb
      refine q v (M'.take S1.length) H' (e.take (by rw [h1.len]; exact hn)) (s'.take (hc s'.closed)) ?_
      rcases hr1 with ⟨rfl, hcl⟩ | ⟨z, rfl, hd⟩
      · exact hv.take hcl
      · exact Den.fz s' hd hv
    exact h cdv A outer s H E p rs S _ hr h3 (hq _ _ _ _ _ hF) h1.closed M (L2.start N vs) H _ (stt_start h1 N h2) ⟨fun M' σ' H' G' S' e t q => out (v := .non) (r := .d .none) e t.sto Fz.non q, fun v M' H' r S' e t hv q => out e t hv q, fun _ _ _ _ _ _ _ q => q.elim, fun _ _ _ _ _ _ _ q => q.elim, fun _ _ _ _ _ _ _ _ q => q.elim⟩
/-- by its name -/
structure OkQ (P : Program) (w : World) (K : PySem.W.Frag) (mg : Str → Option Value) (base : Heap) (k : Nat) (x : Str) (ps : List Str) (F : Addr × Obj → Fn) : Prop where
  ex : ∃ (f : Addr) (fd : FuncData), mg x = some (.ref f) ∧ PySem.W.keepIn K (.ref f) = true ∧ Binds K fd ps [] ∧ FnQ P w K mg base k f fd ps (fun p => spF K ps.length (F p))
end
section
variable {X : Cx} {W : WX} {k j : Nat} {G : Gam} {S S1 S2 : Sto} {e a b o : Expr} {es : List Expr} {r : It} {rs : List It} {p pos apos cpos : Pos} {n : Str} {ps : List Str} {F : Addr × Obj → Fn}
/-- its call, in the suite -/
theorem ev_callQ {ad : Addr} {oe : Obj} {pn : List (Addr × Obj)} (c : Cxo X W k) (hf : ∃ vs, oe.data = .fields vs) (O : OkQ X.prog X.w X.K X.mg X.base j n ps F) (ha : EvA (suX X ad oe pn) (e :: es) G S rs S1)
    (hF : ∀ (QR : It → Sto → Prop) (QE : Addr → Sto → Prop), QR r S2 → F (ad, oe) rs S1 QR QE) (hj : j ≤ k := by decide) (hl : rs.length = ps.length := by rfl) (hg : Gl X n := by rfl) (hdb : (n == ("__debug__" : Str)) = false := by decide)
    (he : starEach (e :: es) X.env = (false, eval e X.env) :: starEach es X.env := by rfl) (hpl : (backTo pos (starEach es X.env)).any (·.1) = false := by rfl) : Ev (suX X ad oe pn) (.Call (.Name n p) (e :: es) [] pos) G S r S2 := fun M σ H Q s q pins s0 I => by
  obtain ⟨f, fd, hm, hk, hb, fq⟩ := O.ex
  refine wpAny_Call_Name_kw (ld_glob (X := suX X ad oe pn) I hg hm ?_ hdb)
  refine PySem.W.callWith_K (h₀ := X.base) I.ok.mod.kin hk ?_ he hpl
  refine thn ((pa_s (X := suX X ad oe pn) (es := e :: es)).run pos pins s0 σ H _ I (ha M σ H (fun vs H1 => ∃ M1, Ext M H M1 H1 ∧ Stt X.K M1 H1 S1 G σ ∧ VReps X.K M1 H1 vs rs) s fun vs M' H' e' s' r' => ⟨M', e', s', r'⟩)) fun us s1 ⟨vs, H1, I1, r1, M1, e1, t1, q1⟩ => ⟨I1.kIn, ?_⟩
  have hlen : vs.length = ps.length := by rw [q1.len, hl]
  have bt := hb s1 us I1.kIn (by rw [List.append_nil, ← r1.length]; exact hlen)
  rw [List.append_nil] at bt
  have pk := I1.pin (ad, oe) (List.mem_append_left _ List.mem_cons_self)
  have hp : L2H.PinOk X.stack H1 s1 (ad, oe) := ⟨pk.1, pk.2.1, fun hm => (List.mem_cons.mp (I1.stkSub _ hm)).elim pk.2.2.1 pk.2.2.2.1, pk.2.2.2.2⟩
  have hr : L2H.RoomH j (suX X ad oe pn).A := by
    have := L2H.roomH_of (c.hr.mono hj)
    exact ⟨this.dp, this.un⟩
  refine wpAny_call (codeAny_mono (fq.does _ X.stack s1 H1 ⟨us, []⟩ us vs (fun v H2 => Q v H2) (fun _ _ _ => False) (ad, oe) hr hp I1.env0 bt r1 ?_) fun u s2 hu => ?_)
  · exact ⟨M1, S1, rs, t1.sto, q1, hl, hF _ _ fun v M2 H2 e2 s2 hv => q v M2 H2 (e1.trans e2) (t1.mono e2 s2) hv⟩
  · cases u with
    | error z =>
      obtain ⟨_, _, _, _, _, _, _, _, _, _, _, _, y⟩ := (show L2.CX _ _ _ _ _ _ _ _ from hu)
      exact y.elim
    | ok fl =>
      cases fl with
      | ret u => exact I1.after hu
      | next => exact (show False from hu).elim
      | brk => exact (show False from hu).elim
      | cont => exact (show False from hu).elim
end
/-! ### in its body: isinstance of the error -/
section
variable {P : Program} {w : World} {K : PySem.W.Frag} {mg : Str → Option Value} {base : Heap} {N : List Str} {qual : Str} {scope : Scope} {f : Addr} {cdv : Value} {A : Around} {outer : List Env} {s0 : Shared} {H0 : Hp} {E : XK} {ad : Addr} {oe : Obj} {G : Gam} {S S1 S2 : Sto} {a b : Expr} {r : It} {p pos : Pos}
theorem call_isQ {D : Addr} (C : ExcC K D) (hz : Zc (.ref D) none oe) (hf : ∃ vs, oe.data = .fields vs) : CallR (cxQ P w K mg base N qual scope f cdv A outer s0 H0 E (ad, oe)) (.builtin "isinstance") (fun xs H Q => ∃ (c : V) (cv : Value) (b : Bool), xs = [.ref ad, c] ∧ (∀ u, RelV c u → u = cv) ∧ PySem.W.kitOne K (.ref D) cv = some b ∧ Q (.bl b) H) := by
  intro pins s σ H xs us Q I rx h
  obtain ⟨c, cv, b, rfl, hc, hk, q⟩ := h
  obtain ⟨u1, u2, rfl, r1, r2⟩ := vals2 rx
  cases (show u1 = Value.ref ad from r1)
  obtain rfl := hc u2 r2
  have hget := (I.pin (ad, oe) (List.mem_append.mpr (.inl List.mem_cons_self))).1
  obtain ⟨vs, hv⟩ := hf
  have J : PySem.W.InstAt s.heap ad oe D none := by
    obtain ⟨oc, od, oda, osl⟩ := oe
    obtain ⟨h1, h2⟩ := hz
    dsimp only at h1 h2 hv
    subst h1 h2 hv
    exact ⟨hget, rfl, rfl, trivial⟩
  exact PySem.W.kia_one (PySem.W.handS_kitx_exc C.hg C.hk C.hs C.hd C.ha C.hn C.ht C.hm) I.kIn J hk (fun z => nomatch z) fun tk => ⟨.bl b, H, I.kept (t' := tk) fun _ _ z => z, rfl, q⟩
/-- isinstance(e, c) -/
theorem ev_isQ {D : Addr} {cv : Value} {kk : Bool} (C : ExcC K D) (hz : Zc (.ref D) none oe) (hf : ∃ vs, oe.data = .fields vs) (hm : mg "isinstance" = none) (ha : Ev (cxQ P w K mg base N qual scope f cdv A outer s0 H0 E (ad, oe)) a G S (.r (.ref ad)) S1)
    (hb : Ev (cxQ P w K mg base N qual scope f cdv A outer s0 H0 E (ad, oe)) b G S1 r S2) (hr : clsVal r = some cv) (hk : PySem.W.kitOne K (.ref D) cv = some kk)
    (hg : Gl (cxQ P w K mg base N qual scope f cdv A outer s0 H0 E (ad, oe)) "isinstance" := by rfl) (he : starEach [a, b] (cxQ P w K mg base N qual scope f cdv A outer s0 H0 E (ad, oe)).env = (false, eval a (cxQ P w K mg base N qual scope f cdv A outer s0 H0 E (ad, oe)).env) :: starEach [b] (cxQ P w K mg base N qual scope f cdv A outer s0 H0 E (ad, oe)).env := by rfl)
    (he2 : starEach [b] (cxQ P w K mg base N qual scope f cdv A outer s0 H0 E (ad, oe)).env = (false, eval b (cxQ P w K mg base N qual scope f cdv A outer s0 H0 E (ad, oe)).env) :: starEach [] (cxQ P w K mg base N qual scope f cdv A outer s0 H0 E (ad, oe)).env := by rfl)
    (hpl : (backTo pos (starEach [b] (cxQ P w K mg base N qual scope f cdv A outer s0 H0 E (ad, oe)).env)).any (·.1) = false := by rfl) :
    Ev (cxQ P w K mg base N qual scope f cdv A outer s0 H0 E (ad, oe)) (.Call (.Name "isinstance" p) [a, b] [] pos) G S (.d (.bool kk)) S2 :=
  ev_blt (call_isQ C hz hf) hm (by decide +kernel) (eva_cons ha (eva_cons hb eva_nil he2) he) (fun M H vs Q s hv q => by
    obtain ⟨v, u, rfl, h1, h2⟩ := vr2 hv
    obtain rfl : v = .ref ad := h1
    refine ⟨u, cv, kk, rfl, fun z hz => ?_, hk, q _ M H Ext.refl s (Fz.bl _)⟩
    cases r with
    | r x =>
      obtain rfl : u = x := h2
      cases u <;> first | (cases hr; exact hz) | cases hr
    | _ => cases hr) hg (by decide) (by decide) he hpl
end
/-! ### how often a truth is in a list of truths, and where -/
def eqB (k : Bool) : Value → Bool
  | .bool b => b == k
  | .int i _ => i == (if k then 1 else 0)
  | _ => false
theorem bools_of {bs : List Bool} {its : List Value} (h : L2.Vals (bs.map V.bl) its) : its = bs.map Value.bool := by
  induction bs generalizing its with
  | nil => cases h; rfl
  | cons b bs ih =>
    cases h with
    | cons h1 h2 => rw [List.map_cons, ih h2]; cases h1; rfl
section
variable {X : Cx} {G : Gam} {S S1 S2 : Sto} {o e : Expr} {r : It} {apos cpos : Pos}
theorem mt_countB : MtR X "list.count" (fun x xs H Q => ∃ (p : Addr) (bs : List Bool) (k : Bool), x = .ref p ∧ xs = [.bl k] ∧ SqL X.K H p (bs.map V.bl) ∧ Q (.int (bs.count k : Nat)) H) := by
  intro pins s σ H x xs v us Q I rx rxs h
  obtain ⟨p, bs, k, rfl, rfl, hs, q⟩ := h
  cases rx
  obtain ⟨u, rfl, ru⟩ := rxs.one
  cases ru
  obtain ⟨its, rv, ⟨⟨cls, dd, data, sl⟩, n, ho, hc, hdn, hd⟩, hlen⟩ := I.list hs
  simp only at hc hd
  subst hc hd
  have hb := bools_of rv
  have ec : its.toArray.toList.countP (eqB k) = bs.count k := by
    show its.countP (eqB k) = _
    rw [hb, List.countP_map]
    rfl
  refine call_meets PySem.F.slot_list_count ⟨_, ho, rfl⟩ PySem.F.entry_list_count (PySem.F.args_list_count_2 _ _)
    (SeqAt.list_countAt p its.toArray n dd sl (.bool k) (eqB k)) ⟨ho, fun y hy => ?_, ?_⟩
  · have hy : y ∈ its := by simpa using hy
    rw [hb] at hy
    obtain ⟨b, _, rfl⟩ := List.mem_map.mp hy
    exact eqAt_V (y := .bl b) (x := .bl k) rfl rfl rfl rfl
  · refine ⟨.int (bs.count k : Nat), H, I.tok _, ⟨s.toks, ?_⟩, q⟩
    show Value.int ((its.toArray.toList.countP (eqB k) : Nat) : Int) s.toks = _
    rw [ec]
/-- xs.count(k) -/
theorem ev_countB {i : Nat} {bs : List Bool} {k : Bool} (ho : Ev X o G S (.o i) S1) (hi : S1[i]? = some (.lst ((bs.map .bool).map .d))) (ha : Ev X e G S1 (.d (.bool k)) S1) (hbase : attributeBase o "count" X.env (eval o X.env) = eval o X.env := by rfl)
    (hfew : ((backTo cpos (starEach [e] X.env)).all (fun x => !x.1) && (backToKw cpos (keywordEach [] X.env)).all (fun x => x.1.isSome) && decide ([e].length + ([] : List Keyword).length + (if ([] : List Keyword).isEmpty then 0 else 1) < 30)) = true := by rfl)
    (hline : (apos.endLine == cpos.line) = true := by rfl) (hs : starEach [e] X.env = (false, eval e X.env) :: starEach [] X.env := by rfl) : Ev X (.Call (.Attribute o "count" apos) [e] [] cpos) G S (.d (.int (bs.count k : Nat))) S1 :=
  ev_bm PySem.F.plainAttrs_list PySem.F.slot_list_count PySem.F.type_list_count mt_countB ho (ty_own hi) (eva_cons ha eva_nil hs) (fun M H v vs Q s hv hvs q => by
    obtain ⟨u, rfl, hu⟩ := vr1 hvs
    obtain ⟨ad, xs, rfl, h3, h4⟩ := ls_rd s hv (ls_own hi)
    exact ⟨ad, bs, k, rfl, by rw [vr_bool hu], .inl (by rw [← fz_bools h4]; exact h3), q _ M H Ext.refl s (Fz.int _)⟩) hbase hfew hline hs rfl
/-- xs.index(k) -/
theorem ev_indexB {i j : Nat} {bs : List Bool} {k : Bool} (ho : Ev X o G S (.o i) S1) (hi : S1[i]? = some (.lst ((bs.map .bool).map .d))) (ha : Ev X e G S1 (.d (.bool k)) S1) (hj : bs[j]? = some k) (hno : ∀ m, m < j → bs[m]? ≠ some k) (hbase : attributeBase o "index" X.env (eval o X.env) = eval o X.env := by rfl)
    (hfew : ((backTo cpos (starEach [e] X.env)).all (fun x => !x.1) && (backToKw cpos (keywordEach [] X.env)).all (fun x => x.1.isSome) && decide ([e].length + ([] : List Keyword).length + (if ([] : List Keyword).isEmpty then 0 else 1) < 30)) = true := by rfl)
    (hline : (apos.endLine == cpos.line) = true := by rfl) (hs : starEach [e] X.env = (false, eval e X.env) :: starEach [] X.env := by rfl) : Ev X (.Call (.Attribute o "index" apos) [e] [] cpos) G S (.d (.int (j : Nat))) S1 :=
  ev_bm PySem.F.plainAttrs_list PySem.F.slot_list_index PySem.F.type_list_index mt_index ho (ty_own hi) (eva_cons ha eva_nil hs) (fun M H v vs Q s hv hvs q => by
    obtain ⟨u, rfl, hu⟩ := vr1 hvs
    obtain ⟨ad, xs, rfl, h3, h4⟩ := ls_rd s hv (ls_own hi)
    refine ⟨ad, bs.map V.bl, .bl k, j, .bl k, rfl, by rw [vr_bool hu], .inl (by rw [← fz_bools h4]; exact h3), rfl, ?_, by rw [List.getElem?_map, hj]; rfl, by show (k == k) = true; exact beq_self_eq_true k, fun m z' hm hz => ?_, q _ M H Ext.refl s (Fz.int _)⟩
    · rw [List.all_map]
      exact List.all_eq_true.mpr fun _ _ => rfl
    · rw [List.getElem?_map] at hz
      cases e : bs[m]? with
      | none => rw [e] at hz; cases hz
      | some b =>
        rw [e] at hz
        cases hz
        show (b == k) = false
        have := hno m hm
        rw [e] at this
        exact beq_eq_false_iff_ne.mpr fun z => this (by rw [z])) hbase hfew hline hs rfl
end
end Cu
/-! CwD: how often a text is in a list of texts; len of an owned tuple; x in what stands for a list. -/
namespace Cu
open PySem PySem.Spec PyProof.Rows L2
def eqTx (k : Str) : Value → Bool
  | .str x _ => decide (x = k)
  | _ => false
theorem txs_count {k : Str} : ∀ {ws : List Str} {its : List Value}, L2.Vals (ws.map V.str) its → its.countP (eqTx k) = ws.count k
  | [], _, h => by cases h; rfl
  | w :: ws, _, h => by
    cases h with
    | cons h1 h2 =>
      obtain ⟨t, rfl⟩ := h1
      rw [List.countP_cons, txs_count h2, List.count_cons]
      rfl
theorem txs_mem : ∀ {ws : List Str} {its : List Value}, L2.Vals (ws.map V.str) its → ∀ y ∈ its, ∃ x t, y = Value.str x t
  | [], _, h, y, hy => by cases h; cases hy
  | w :: ws, _, h, y, hy => by
    cases h with
    | cons h1 h2 =>
      obtain ⟨t, rfl⟩ := h1
      rcases List.mem_cons.mp hy with rfl | q
      · exact ⟨_, _, rfl⟩
      · exact txs_mem h2 y q
section
variable {X : Cx} {W : WX} {k j : Nat} {G G1 G2 : Gam} {S S1 S2 S3 : Sto} {P : Post} {e a b o : Expr} {es : List Expr} {r y z r' : It} {rs : List It} {pos p apos cpos : Pos} {ds : List PyData} {m n : Int}
theorem mt_countTx : MtR X "list.count" (fun x xs H Q => ∃ (p : Addr) (ws : List Str) (k : Str), x = .ref p ∧ xs = [.str k] ∧ SqL X.K H p (ws.map V.str) ∧ Q (.int (ws.count k : Nat)) H) := by
  intro pins s σ H x xs v us Q I rx rxs h
  obtain ⟨p, ws, k, rfl, rfl, hs, q⟩ := h
  cases rx
  obtain ⟨u, rfl, tk, rfl⟩ := rxs.one
  obtain ⟨its, rv, ⟨⟨cls, dd, data, sl⟩, n, ho, hc, hdn, hd⟩, hlen⟩ := I.list hs
  simp only at hc hd
  subst hc hd
  have hb := txs_count (k := k) rv
  refine call_meets PySem.F.slot_list_count ⟨_, ho, rfl⟩ PySem.F.entry_list_count (PySem.F.args_list_count_2 _ _)
    (SeqAt.list_countAt p its.toArray n dd sl (.str k tk) (eqTx k)) ⟨ho, fun y hy => ?_, ?_⟩
  · have hy : y ∈ its := by simpa using hy
    obtain ⟨x, t, rfl⟩ := txs_mem rv y hy
    have q := eqAt_V (A := X.A.in1) (s := s) (y := .str x) (x := .str k) (u := .str x t) (v := .str k tk) ⟨_, rfl⟩ ⟨_, rfl⟩ rfl rfl
    exact q
  · refine ⟨.int (ws.count k : Nat), H, I.tok _, ⟨s.toks, ?_⟩, q⟩
    show Value.int ((its.toArray.toList.countP (eqTx k) : Nat) : Int) s.toks = _
    rw [show its.toArray.toList = its by simp, hb]
/-- xs.count(t) of texts -/
theorem ev_countTx {ws : List Str} {k : Str} (ho : Ev X o G S r S1) (hi : lsOf S2 r = some (ws.map .str)) (ha : Ev X e G S1 (.d (.str k)) S2) (hT : ∀ M H v, StoreOk X.K M H S1 → VRep X.K M H v r → tyV X.K "list" v H) (hbase : attributeBase o "count" X.env (eval o X.env) = eval o X.env := by rfl)
    (hfew : ((backTo cpos (starEach [e] X.env)).all (fun x => !x.1) && (backToKw cpos (keywordEach [] X.env)).all (fun x => x.1.isSome) && decide ([e].length + ([] : List Keyword).length + (if ([] : List Keyword).isEmpty then 0 else 1) < 30)) = true := by rfl)
    (hline : (apos.endLine == cpos.line) = true := by rfl) (hs : starEach [e] X.env = (false, eval e X.env) :: starEach [] X.env := by rfl) : Ev X (.Call (.Attribute o "count" apos) [e] [] cpos) G S (.d (.int (ws.count k : Nat))) S2 :=
  ev_bm PySem.F.plainAttrs_list PySem.F.slot_list_count PySem.F.type_list_count mt_countTx ho hT (eva_cons ha eva_nil hs) (fun M H v vs Q s hv hvs q => by
    obtain ⟨u, rfl, hu⟩ := vr1 hvs
    obtain ⟨ad, xs, rfl, h3, h4⟩ := ls_rd s hv hi
    exact ⟨ad, ws, k, rfl, by rw [vr_str hu], .inl (by rw [← fz_strs h4]; exact h3), q _ M H Ext.refl s (Fz.int _)⟩) hbase hfew hline hs rfl
theorem ty_dl {ds : List PyData} : ∀ M H v, StoreOk X.K M H S → VRep X.K M H v (.d (.list ds)) → tyV X.K "list" v H := fun M H v s h => by
  have h' : Fz M H v (.list ds) := h
  cases h' with
  | lst h1 h2 => exact .inl ⟨rfl, _, h1.sq⟩
/-- len of an owned tuple -/
theorem ev_lenTO {i : Nat} (hm : X.mg "len" = none) (ha : Ev X a G S (.o i) S1) (h : S1[i]? = some (.tup rs)) (hg : Gl X "len" := by rfl) (he : starEach [a] X.env = (false, eval a X.env) :: starEach [] X.env := by rfl) : Ev X (.Call (.Name "len" p) [a] [] pos) G S (.d (.int rs.length)) S1 := ev_blt call_len_seq hm PySem.boot_len (eva_cons ha eva_nil he) (fun M H vs Q s hvs q => by
  obtain ⟨v, rfl, hv⟩ := vr1 hvs
  obtain ⟨ad, had, rfl⟩ := hv
  obtain ⟨ws, h1, h2, _⟩ := s.rep i ad _ had h
  exact ⟨ad, ws, rfl, .inr (.inl (.inl h1)), by rw [h2.len]; exact q _ M H Ext.refl s (Fz.int _)⟩) hg (by decide) (by decide) he rfl
theorem evt_inDen {x : PyData} {n n' : Nat} (c : Cxo X W k) (ha : Ev X a G S r S1) (hb : Ev X b G S1 r' S2) (hr : Den n S2 r x) (hr' : Den n' S2 r' (.list ds)) (hx : SeqAt.shaped x = true) (hd : SeqAt.shaped (.list ds) = true) (hm : behindInMarks .In b = false := by rfl) : EvT X (.Compare a [.In] [b] pos) G S (ds.any fun z => PyData.eqv z x) S2 := evt_cmp (op_inD (by have := c.hr.un; omega)) ha hb (fun M H v u Q s hv hw q => ⟨x, ds, Den.dp s hr hv, Den.dp s hr' hw, hx, hd, q _ M H Ext.refl s (Fz.bl _)⟩) hm
end
end Cu
namespace Pf
open PySem PySem.Spec PyProof.Rows L2 He Cu
/-- all are names, none twice -/
def namesOk (xs : List Str) : Bool := xs.all fun x => nameOk x && decide (xs.count x ≤ 1)
def F_names (K : PySem.W.Frag) : Fn := fun rs S QR QE => ∃ xs : List Str, rs = [.d (.list (xs.map .str))] ∧ xs.length ≤ 1000 ∧ (∀ x ∈ xs, x.length ≤ 90000 ∧ okS x) ∧ (namesOk xs = true → QR (.d .none) S) ∧ (namesOk xs = false → QE (ga K "NoDrawing") S)
section
variable {P : Program} {w : World} {K : PySem.W.Frag} {mg : Str → Option Value} {base : Heap}
theorem fn_check_names (T : TT K mg) {fd : FuncData} (Fd : FunD K "check_names" "check_names" (defArgs s_check_names) (defBody s_check_names) (defScope s_check_names) [] [] (ga K "check_names") fd) : FnOk P w K mg base (L2.CX P w) 2 (ga K "check_names") fd ["names"] (spF K 1 (F_names K)) := by
  refine fn_w Fd sc_check_names fun cdv A outer s H E rs S QR QE c hc hl hF => ?_
  obtain ⟨xs, rfl, hlen, hxs, q, qe⟩ := hF
  refine ss_cons (ws_for c (evi_list (ev_name 0)) (J := fun i G' S' => (∃ g, G' = [some (.d (.list (xs.map .str))), g]) ∧ S' = S ∧ ((xs.take i).all fun x => nameOk x && decide (xs.count x ≤ 1)) = true) (fun r G => G.set 1 (some r)) ⟨⟨_, rfl⟩, rfl, rfl⟩ (fun _ _ _ _ => trivial) (fun i r G' S' hr hJ => (evg_name 1 c.nd)) (fun i r G' S' hr hJ => ?_) (fun G' S' hJ => ?_))
  · obtain ⟨⟨g, rfl⟩, rfl, hall⟩ := hJ
    rw [List.getElem?_map, List.getElem?_map] at hr
    cases hx : xs[i]? with
    | none => rw [hx] at hr; cases hr
    | some x =>
      rw [hx] at hr
      cases hr
      have hm := List.mem_of_getElem? hx
      obtain ⟨hx1, hx2⟩ := hxs x hm
      refine ss_cons (ws_if (k1 := !(nameOk x && decide (xs.count x ≤ 1))) (S1 := S') ?_ (fun h => ?_) (fun h => ?_))
      · refine EvT.is (evt_w (evw_or (c := !nameOk x) (d := decide (1 < xs.count x)) (evt_not (evt_val (ev_call c (ok_is_name T) (eva_cons (ev_name 1) eva_nil) (fun QR QE q => ⟨_, rfl, hx1, hx2, q⟩)))) fun _ => evw_or1 (EvT.is (evt_gt (ev_countTx (ws := xs) (ev_name 0) rfl (ev_name 1) ty_dl) ev_int) (decide_eq_decide.mpr (by omega))))) ?_
        rw [Bool.not_and]
        congr 1
        rw [← decide_not]
        exact decide_eq_decide.mpr (by omega)
      · refine ss_cons (ws_raise c (x_NoDrawing T) (backx_same (qe ?_)))
        cases e : namesOk xs with
        | false => rfl
        | true =>
          have := List.all_eq_true.mp e x hm
          rw [this] at h
          cases h
      · refine ss_nil (ss_nil ⟨⟨_, rfl⟩, rfl, ?_⟩)
        rw [List.take_add_one, hx, List.all_append, hall]
        have h : (nameOk x && decide (xs.count x ≤ 1)) = true := by simpa using h
        simp [h]
  · obtain ⟨⟨g, rfl⟩, rfl, hall⟩ := hJ
    rw [List.length_map, List.length_map, List.take_length] at hall
    exact ss_nil (back_d (q hall))
theorem ok_check_names (T : TT K mg) : OkF P w K mg base 2 "check_names" ["names"] [] (F_names K) := okF_of (g_check_names T) (d_check_names T) (fun _ _ _ _ _ _ us hl => match us, hl with | [_], _ => rfl) fun fd Fd => fn_check_names T Fd
/-- the texts are all unlike, and names -/
def unlikeOk (xs : List Str) : Bool := decide xs.Nodup && xs.all nameOk
def F_unlike : Fn := fun rs S QR _ => ∃ xs : List Str, rs = [.d (.list (xs.map .str))] ∧ xs.length ≤ 1000 ∧ (∀ x ∈ xs, x.length ≤ 90000 ∧ okS x) ∧ QR (.d (.bool (unlikeOk xs))) S
theorem fn__law_unlike (T : TT K mg) {fd : FuncData} (Fd : FunD K "_law_unlike" "_law_unlike" (defArgs s__law_unlike) (defBody s__law_unlike) (defScope s__law_unlike) [] [] (ga K "_law_unlike") fd) : FnOk P w K mg base (L2.CX P w) 2 (ga K "_law_unlike") fd ["_law_names"] (spF K 1 F_unlike) := by
  refine fn_w Fd sc__law_unlike fun cdv A outer s H E rs S QR QE c hc hl hF => ?_
  obtain ⟨xs, rfl, hlen, hxs, q⟩ := hF
  have hset : decide (((uniqS xs).length : Int) = ((xs.map PyData.str).length : Int)) = decide xs.Nodup := by
    rw [List.length_map]
    refine decide_eq_decide.mpr ?_
    rw [Int.ofNat_inj]
    exact uniq_all
  have hall : PyData.eqv (.list ((xs.filter fun x => !nameOk x).map .str)) (.list []) = xs.all nameOk := by
    rw [eqv_nil]
    clear q hset hxs hlen hl
    induction xs with
    | nil => rfl
    | cons x xs ih =>
      rw [List.filter_cons, List.all_cons]
      by_cases h : nameOk x = true
      · rw [h]; simpa using ih
      · have h : nameOk x = false := by simpa using h
        rw [h]; simp
  refine ss_cons (ws_ret (ev_and (c := decide xs.Nodup) (d := xs.all nameOk) (Ev.is (ev_eqI (ev_lenSetS (xs := xs) c (z_len T) (z_set T) (ev_name 0) rfl (by omega)) (ev_lenA (z_len T) (ev_name 0) rfl)) (by rw [hset])) (fun _ => ev_and1 (Ev.is (ev_eqD c (x := .list ((xs.filter fun x => !nameOk x).map .str)) (Ev.is (ev_lc c (blkOk_by (by rfl)) (lc_pure (own := [("_law_one", 1)]) c (evi_list (ev_name 0)) (tg_name 1 c.nd) (strB fun x => !nameOk x) idG (fun _ => trivial) (fun r hr => ?_) (by rw [List.length_map, List.length_map]; omega))) (by rw [strs_fil])) (ev_lst eva_nil) (shaped_strs fun v hv => (hxs v (List.mem_filter.mp hv).1).2) (shaped_strs (l := []) (fun _ h => nomatch h))) (by rw [show (List.map PyData.str []) = [] from rfl, hall])))) (back_d q))
  obtain ⟨d, hd, rfl⟩ := List.mem_map.mp hr
  obtain ⟨v, hv, rfl⟩ := List.mem_map.mp hd
  obtain ⟨h1, h2⟩ := hxs v hv
  exact ⟨_, rfl, fun L s H C cl fp => evt_not (evt_val (ev_call (c.blk _ s H C cl fp) (ok__law_is_name T) (eva_cons (ev_name 1) eva_nil) (fun QR QE q => ⟨_, rfl, h1, h2, q⟩))), fun _ L s H C cl fp => (ev_name 1)⟩
theorem ok__law_unlike (T : TT K mg) : OkF P w K mg base 2 "_law_unlike" ["_law_names"] [] F_unlike := okF_of (g__law_unlike T) (d__law_unlike T) (fun _ _ _ _ _ _ us hl => match us, hl with | [_], _ => rfl) fun fd Fd => fn__law_unlike T Fd
end
end Pf
namespace Pf
open PySem PySem.Spec PyProof.Rows L2 He Cu
/-- a part: name, kind, how many pins (a whole number, or True) -/
abbrev Part := Str × Str × PyData
def partD (p : Part) : PyData := .tuple [.str p.1, .str p.2.1, p.2.2]
abbrev Pin := Str × Int
def pinD (p : Pin) : PyData := .tuple [.str p.1, .int p.2]
def manyOk : PyData → Bool
  | .int n => decide (1 ≤ n ∧ n ≤ 8)
  | _ => false
def manyN : PyData → Nat
  | .int n => n.toNat
  | _ => 0
def partFine (p : Part) : Bool := nameOk p.2.1 && manyOk p.2.2
def pinsOf (ps : List Part) : List Pin := ps.flatMap fun p => (List.range (manyN p.2.2)).map fun (j : Nat) => (p.1, (j : Int))
/-- what a part may be at all -/
def partIn (p : Part) : Prop := p.2.1.length ≤ 90000 ∧ okS p.2.1 ∧ okS p.1 ∧ nb p.2.2 = true
theorem pinsOf_len : ∀ {ps : List Part}, (ps.all partFine) = true → (pinsOf ps).length ≤ 8 * ps.length
  | [], _ => by simp [pinsOf]
  | p :: ps, h => by
    rw [List.all_cons, Bool.and_eq_true] at h
    have ih := pinsOf_len h.2
    have h1 : manyN p.2.2 ≤ 8 := by
      have := h.1
      unfold partFine at this
      rw [Bool.and_eq_true] at this
      obtain ⟨_, z⟩ := this
      cases e : p.2.2 with
      | int n =>
        rw [e] at z
        have z : decide (1 ≤ n ∧ n ≤ 8) = true := z
        have z := of_decide_eq_true z
        show n.toNat ≤ 8
        omega
      | _ => exact Nat.zero_le _
    unfold pinsOf at ih ⊢
    rw [List.flatMap_cons, List.length_append, List.length_map, List.length_range, List.length_cons]
    omega
theorem pins_alike (ps : List Pin) : PySem.W.AllAlike (ps.map pinD) := fun d hd d' hd' => by
  obtain ⟨p, _, rfl⟩ := List.mem_map.mp hd
  obtain ⟨p', _, rfl⟩ := List.mem_map.mp hd'
  rfl
theorem pins_sortable (ps : List Pin) : PySem.W.Sortable (ps.map pinD) := .inl fun d hd => by
  obtain ⟨p, _, rfl⟩ := List.mem_map.mp hd
  exact ⟨_, _, rfl⟩
theorem pins_deep (ps : List Pin) : ∀ d ∈ ps.map pinD, d.depth ≤ 60 := fun d hd => by
  obtain ⟨p, _, rfl⟩ := List.mem_map.mp hd
  show (pinD p).depth ≤ 60
  simp [pinD, PyData.depth, PyData.depthAll]
/-- an answer: a list that stays, or a new one that is owned -/
def Ans (QR : Cu.It → Sto → Prop) (S : Sto) (ds : List PyData) : Prop := QR (.d (.list ds)) S ∨ ∀ x, QR (.o (S.length + 1)) (S ++ [x, .lst (ds.map .d)])
def F_pins_of (K : PySem.W.Frag) : Fn := fun rs S QR QE => ∃ (r : Cu.It) (ps : List Part), rs = [r] ∧ lsOf S r = some (ps.map partD) ∧ ps.length ≤ 100 ∧ (∀ p ∈ ps, partIn p) ∧ (ps.all partFine = true → Ans QR S (sortD ((pinsOf ps).map pinD))) ∧ (ps.all partFine = false → QE (ga K "NoDrawing") S)
def rngG (n : Str) : Cu.It → PyData
  | .d (.int j) => .tuple [.str n, .int j]
  | _ => .none
section
variable {P : Program} {w : World} {K : PySem.W.Frag} {mg : Str → Option Value} {base : Heap}
theorem fn_pins_of (T : TT K mg) {fd : FuncData} (Fd : FunD K "pins_of" "pins_of" (defArgs s_pins_of) (defBody s_pins_of) (defScope s_pins_of) [] [] (ga K "pins_of") fd) : FnOk P w K mg base (L2.CX P w) 3 (ga K "pins_of") fd ["parts"] (spF K 1 (F_pins_of K)) := by
  refine fn_w Fd sc_pins_of fun cdv A outer s H E rs S QR QE c hc hl hF => ?_
  obtain ⟨r, ps, rfl, hr, hlen, hin, q, qe⟩ := hF
  have hls : ∀ L, lsOf (S ++ L) r = some (ps.map partD) := ls_app hr
  have hat : ∀ u : Own, (S ++ [u])[S.length]? = some u := fun u => by rw [List.getElem?_append_right (Nat.le_refl _), Nat.sub_self] <;> rfl
  have hset : ∀ u v : Own, (S ++ [u]).set S.length v = S ++ [v] := fun u v => by rw [List.set_append_right _ _ (Nat.le_refl _), Nat.sub_self] <;> rfl
  refine ss_cons (ws_set 1 c.nd (r := .o S.length) (S1 := S ++ [.lst []]) (ev_lstO eva_nil) ?_)
  refine ss_cons (ws_for c (evi_ls (ds := ps.map partD) (ev_name 0) (hls _)) (J := fun i G' S' => (∃ g2 g3 g4 g5, G' = [some r, some (.o S.length), g2, g3, g4, g5]) ∧ S' = S ++ [.lst (((pinsOf (ps.take i)).map pinD).map .d)] ∧ (ps.take i).all partFine = true) (fun r G => match r with | .d (.tuple [d0, d1, d2]) => ((G.set 2 (some (.d d0))).set 3 (some (.d d1))).set 4 (some (.d d2)) | _ => G) ⟨⟨_, _, _, _, rfl⟩, rfl, rfl⟩ (fun i G' S' h => by rw [h.2.1]; exact hls _) ?_ ?_ ?_)
  · rintro i r' G' S' hr' ⟨⟨g2, g3, g4, g5, rfl⟩, rfl, hall⟩
    rw [List.getElem?_map, List.getElem?_map] at hr'
    cases hx : ps[i]? with
    | none => rw [hx] at hr'; cases hr'
    | some p =>
      rw [hx] at hr'
      cases hr'
      exact (evg_tup c.calm (evgs_cons (evg_name 2 c.nd) (evgs_cons (evg_name 3 c.nd) (evgs_cons (evg_name 4 c.nd) evgs_nil))))
  · rintro i r' G' S' hr' ⟨⟨g2, g3, g4, g5, rfl⟩, rfl, hall⟩
    rw [List.getElem?_map, List.getElem?_map] at hr'
    cases hx : ps[i]? with
    | none => rw [hx] at hr'; cases hr'
    | some p =>
      rw [hx] at hr'
      cases hr'
      have hm := List.mem_of_getElem? hx
      obtain ⟨h1, h2, h3, h4⟩ := hin p hm
      have hi : i < ps.length := (List.getElem?_eq_some_iff.mp hx).1
      have hpl := pinsOf_len hall
      have htk : (ps.take i).length ≤ 100 := by rw [List.length_take]; omega
      refine ss_cons (ws_if (k1 := !partFine p) (S1 := S ++ [.lst (((pinsOf (ps.take i)).map pinD).map .d)]) ?_ (fun h => ?_) (fun h => ?_))
      · obtain ⟨nm, kd, mn⟩ := p
        cases mn with
        | int n =>
          refine EvT.is (c := !nameOk kd || (false || (decide (n < 1) || decide (n > 8)))) (evt_w (evw_or (evt_not (evt_val (ev_call c (ok_is_name T) (eva_cons (ev_name 3) eva_nil) (fun QR QE q => ⟨_, rfl, h1, h2, q⟩)))) fun _ => ?_)) ?_
          · refine evw_or (c := false) (evt_not (c := true) (evt_val (ev_call c (ok_is_whole T) (eva_cons (ev_name 4) eva_nil) (fun QR QE q => ⟨.int n, rfl, rfl, q⟩)))) fun _ => ?_
            exact evw_or (evt_lt (ev_name 4) ev_int) fun _ => evw_or1 (evt_gt (ev_name 4) (ev_gint (c_MOST_PINS T)))
          show (!nameOk kd || (false || (decide (n < 1) || decide (n > 8)))) = !(nameOk kd && decide (1 ≤ n ∧ n ≤ 8))
          rw [Bool.not_and, Bool.false_or]
          congr 1
          rw [← decide_not, ← Bool.decide_or]
          exact decide_eq_decide.mpr (by omega)
        | bool b =>
          refine EvT.is (c := !nameOk kd || true) (evt_w (evw_or (evt_not (evt_val (ev_call c (ok_is_name T) (eva_cons (ev_name 3) eva_nil) (fun QR QE q => ⟨_, rfl, h1, h2, q⟩)))) fun _ => ?_)) ?_
          · exact evw_orT (evt_not (c := false) (evt_val (ev_call c (ok_is_whole T) (eva_cons (ev_name 4) eva_nil) (fun QR QE q => ⟨.bool b, rfl, rfl, q⟩))))
          show (!nameOk kd || true) = !(nameOk kd && false)
          rw [Bool.or_true, Bool.and_false] <;> rfl
        | _ => cases h4
      · have h : partFine p = false := by simpa using h
        refine ss_cons (ws_raise c (x_NoDrawing T) (backx_drop _ hc (qe ?_)))
        cases e : ps.all partFine with
        | false => rfl
        | true =>
          have := List.all_eq_true.mp e p hm
          rw [this] at h
          cases h
      · have h : partFine p = true := by simpa using h
        refine ss_nil ?_
        obtain ⟨nm, kd, mn⟩ := p
        cases mn with
        | int n =>
          have hn : 1 ≤ n ∧ n ≤ 8 := by
            have h : (nameOk kd && decide (1 ≤ n ∧ n ≤ 8)) = true := h
            rw [Bool.and_eq_true] at h
            exact of_decide_eq_true h.2
          refine ss_cons (ws_expr (ev_extA (ds := (List.range n.toNat).map fun (j : Nat) => pinD (nm, (j : Int))) (ev_name 1) (hat _) (Ev.is (r' := .d (.list ((List.range n.toNat).map fun (j : Nat) => pinD (nm, (j : Int))))) (ev_lc c (blkOk_by (by rfl)) (lc_pure (own := [("number", 5)]) c (evi_range1 (n := n) (z_range T) (ev_name 4) (by omega)) (tg_name 5 c.nd) (fun _ => true) (rngG nm) (fun _ => trivial) (fun r hr => ?_) ?_)) ?_) (hat _) rfl ?_) ?_)
          · obtain ⟨j, hj, rfl⟩ := List.mem_map.mp hr
            exact ⟨_, rfl, fun L s H C cl fp => rfl, fun _ L s H C cl fp => ev_tup (eva_cons (ev_name 2) (eva_cons (ev_name 5) eva_nil))⟩
          · rw [rngI_len]; omega
          · rw [List.filter_eq_self.mpr (fun _ _ => rfl)]
            unfold rngI
            rw [List.map_map]
            refine congrArg (fun l => Cu.It.d (.list l)) (List.map_congr_left fun j _ => ?_)
            show PyData.tuple [.str nm, .int (0 + (j : Int))] = .tuple [.str nm, .int (j : Int)]
            rw [Int.zero_add]
          · rw [List.length_map, List.length_map, List.length_map, List.length_range]; omega
          · refine ss_nil ⟨⟨_, _, _, _, rfl⟩, ?_, ?_⟩
            · rw [hset, List.take_add_one, hx]
              show _ = S ++ [.lst (((pinsOf (ps.take i ++ [(nm, kd, .int n)])).map pinD).map .d)]
              rw [show pinsOf (ps.take i ++ [(nm, kd, .int n)]) = pinsOf (ps.take i) ++ (List.range n.toNat).map fun (j : Nat) => (nm, (j : Int)) by unfold pinsOf; rw [List.flatMap_append, List.flatMap_singleton] <;> rfl, List.map_append, List.map_append, show List.map pinD ((List.range n.toNat).map fun (j : Nat) => (nm, (j : Int))) = (List.range n.toNat).map fun (j : Nat) => pinD (nm, (j : Int)) by rw [List.map_map] <;> rfl]
            · rw [List.take_add_one, hx, List.all_append, hall]
              show (true && (partFine (nm, kd, .int n) && true)) = true
              rw [h] <;> rfl
        | _ =>
          have h : (nameOk kd && false) = true := h
          rw [Bool.and_false] at h
          cases h
  · rintro G' S' ⟨⟨g2, g3, g4, g5, rfl⟩, rfl, hall⟩
    rw [List.length_map, List.length_map, List.take_length] at hall
    rw [List.length_map, List.length_map, List.take_length]
    rcases q hall with q | q
    · exact ss_cons (ws_ret (ev_sorted c (z_sorted T) (ev_name 1) (ls_own (hat _)) (pins_alike _) (pins_sortable _) (pins_deep _)) (back_drop _ hc q))
    · refine ss_cons (ws_ret (ev_sortedN c (z_sorted T) (ev_name 1) (ls_own (hat _)) (pins_alike _) (pins_sortable _) (pins_deep _)) ?_)
      rw [List.length_append, List.append_assoc]
      refine back_same ?_ (q _)
      show S.length + 1 < _
      rw [List.length_append]
      exact Nat.lt_succ_self _
theorem ok_pins_of (T : TT K mg) : OkF P w K mg base 3 "pins_of" ["parts"] [] (F_pins_of K) := okF_of (g_pins_of T) (d_pins_of T) (fun _ _ _ _ _ _ us hl => match us, hl with | [_], _ => rfl) fun fd Fd => fn_pins_of T Fd
end
end Pf
namespace Pf
open PySem PySem.Spec PyProof.Rows L2 He Cu
def pinK (p : Pin) : List Key := [.inr p.1, .inl p.2]
theorem keyD_pin (p : Pin) : keyD (pinD p) = some (pinK p) := rfl
def F_D_pins (K : PySem.W.Frag) : Fn := fun rs S QR QE => ∃ (d : Nat) (r : Cu.It) (fs : List (Str × Cu.It)) (ps : List Part), rs = [.o d] ∧ S[d]? = some (.ins (ga K "Drawing") fs) ∧ fs.lookup (Str.ofString "parts") = some r ∧ lsOf S r = some (ps.map partD) ∧ ps.length ≤ 100 ∧ (∀ p ∈ ps, partIn p) ∧ ps.all partFine = true ∧ Ans QR S (sortD ((pinsOf ps).map pinD))
def F_D_net (K : PySem.W.Frag) : Fn := fun rs S QR QE => ∃ (d h : Nat) (fs : List (Str × Cu.It)) (kvs : List (List Key × Cu.It)) (p : Pin), rs = [.o d, .d (pinD p)] ∧ S[d]? = some (.ins (ga K "Drawing") fs) ∧ fs.lookup (Str.ofString "homes") = some (It.o h) ∧ S[h]? = some (.dT kvs) ∧ (valI kvs (pinK p) = none → QE (ga K "NoPin") S) ∧ (∀ r, valI kvs (pinK p) = some r → ∃ x, r = .d x ∧ QR (.d x) S)
section
variable {P : Program} {w : World} {K : PySem.W.Frag} {mg : Str → Option Value} {base : Heap}
theorem fn_Drawing_pins (T : TT K mg) {fd : FuncData} (Fd : FunD K "pins" "Drawing.pins" (defArgs s_Drawing_pins) (defBody s_Drawing_pins) (defScope s_Drawing_pins) [] [] (ma K (ga K "Drawing") "pins") fd) : FnOk P w K mg base (L2.CX P w) 4 (ma K (ga K "Drawing") "pins") fd ["self"] (spF K 1 (F_D_pins K)) := by
  refine fn_w Fd sc_Drawing_pins fun cdv A outer s H E rs S QR QE c hc hl hF => ?_
  obtain ⟨d, a, fs, ps, rfl, hd, hf, ha, hlen, hin, hok, q⟩ := hF
  rcases q with q | q
  · exact ss_cons (ws_ret (ev_call c (ok_pins_of T) (eva_cons (ev_fld (cls_Drawing T) (na_Drawing_parts T) (ev_name 0) hd hf) eva_nil) (fun QR QE q => ⟨_, ps, rfl, ha, hlen, hin, fun _ => .inl q, fun z => by rw [hok] at z; cases z⟩)) (back_d q))
  · refine ss_cons (ws_retX (Qr := fun r S' => ∃ x, r = .o (S.length + 1) ∧ S' = S ++ [x, .lst ((sortD ((pinsOf ps).map pinD)).map .d)]) (Qx := fun _ _ => False) (evx_call c (ok_pins_of T) (by decide) (eva_cons (ev_fld (cls_Drawing T) (na_Drawing_parts T) (ev_name 0) hd hf) eva_nil) rfl (fun QR QE k1 _ => ⟨_, ps, rfl, ha, hlen, hin, fun _ => .inr fun x => k1 _ _ ⟨x, rfl, rfl⟩, fun z => by rw [hok] at z; cases z⟩)) ?_ (fun _ _ z => z.elim))
    rintro _ _ ⟨x, rfl, rfl⟩
    refine back_same ?_ (q x)
    show S.length + 1 < _
    rw [List.length_append]
    exact Nat.lt_succ_self _
theorem fn_Drawing_net_of (T : TT K mg) {fd : FuncData} (Fd : FunD K "net_of" "Drawing.net_of" (defArgs s_Drawing_net_of) (defBody s_Drawing_net_of) (defScope s_Drawing_net_of) [] [] (ma K (ga K "Drawing") "net_of") fd) : FnOk P w K mg base (L2.CX P w) 1 (ma K (ga K "Drawing") "net_of") fd ["self", "pin"] (spF K 2 (F_D_net K)) := by
  refine fn_w Fd sc_Drawing_net_of fun cdv A outer s H E rs S QR QE c hc hl hF => ?_
  obtain ⟨d, h, fs, kvs, p, rfl, hd, hf, hh, qe, q⟩ := hF
  cases e : valI kvs (pinK p) with
  | none =>
    refine ss_cons (ws_if (k1 := true) (EvT.is (evt_dnotinT c (ev_name 1) (ev_fld (cls_Drawing T) (na_Drawing_homes T) (ev_name 0) hd hf) hh (keyD_pin p)) (by rw [e] <;> rfl)) (fun _ => ?_) (fun z => nomatch z))
    exact ss_cons (ws_raise c (x_NoPin T) (backx_same (qe e)))
  | some r =>
    obtain ⟨x, rfl, qr⟩ := q r e
    refine ss_cons (ws_if (k1 := false) (EvT.is (evt_dnotinT c (ev_name 1) (ev_fld (cls_Drawing T) (na_Drawing_homes T) (ev_name 0) hd hf) hh (keyD_pin p)) (by rw [e] <;> rfl)) (fun z => nomatch z) (fun _ => ss_nil ?_))
    exact ss_cons (ws_ret (ev_dgetT c (ev_fld (cls_Drawing T) (na_Drawing_homes T) (ev_name 0) hd hf) (ev_name 1) hh (keyD_pin p) e) (back_d qr))
theorem ok_Drawing_pins (T : TT K mg) : OkM P w K mg base 4 (ga K "Drawing") "pins" ["self"] [] (F_D_pins K) := okM_of (cls_Drawing T) (m_Drawing_pins T) (d_Drawing_pins T) (fun _ _ _ _ _ _ us hl => match us, hl with | [_], _ => rfl) fun fd Fd => fn_Drawing_pins T Fd
theorem ok_Drawing_net_of (T : TT K mg) : OkM P w K mg base 1 (ga K "Drawing") "net_of" ["self", "pin"] [] (F_D_net K) := okM_of (cls_Drawing T) (m_Drawing_net_of T) (d_Drawing_net_of T) (fun _ _ _ _ _ _ us hl => match us, hl with | [_, _], _ => rfl) fun fd Fd => fn_Drawing_net_of T Fd
end
end Pf
/-! CvJ: a slice of the script. -/
namespace Cu
open PySem PySem.Spec PyProof.Rows L2
theorem fz_intsL {M : List Addr} {H : Hp} : ∀ (ns : List Int), FzAll M H (ns.map V.int) (ns.map .int)
  | [] => .nil
  | n :: ns => .cons (.int n) (fz_intsL ns)
theorem cut_ints (ns : List Int) (a b : Option Int) : cutD (ns.map PyData.int) a b = (cutD ns a b).map .int := by
  unfold cutD
  rw [List.length_map, List.map_take, List.map_drop]
section
variable {X : Cx} {G : Gam} {S S1 : Sto} {a : Expr} {pos : Pos}
theorem ev_slSc {ns : List Int} {lo hi : Option Expr} {il ih : Option Int} {p2 : Pos} (ha : Ev X a G S (.s ns) S1) (hl : EvP X lo G S1 il) (hh : EvP X hi G S1 ih) : Ev X (.Subscript a (.Slice lo hi none p2) pos) G S (.d (.list ((cutD ns il ih).map .int))) S1 := fun M σ H Q s q =>
  toE (pe_slice sl_list pe_s po_tEP po_tEP) (ha M σ H _ s fun v M1 H1 e1 t1 r1 => hl.run t1 fun M2 H2 e2 t2 => hh.run t2 fun M3 H3 e3 t3 => by
    obtain ⟨ad, rfl, h1⟩ := (r1.ext e2).ext e3
    refine ⟨_, _, rfl, h1.sq, fun p hp => q _ M3 _ (((e1.trans e2).trans e3).trans (Ext.fresh hp)) (t3.fresh hp) (Fz.lst (xs := cutD (ns.map V.int) il ih) ⟨.inl upd_same, t3.sto.nin hp⟩ ?_)⟩
    rw [← cut_ints]
    exact FzAll.ext (Ext.fresh hp) (fz_cut (fz_intsL ns)))
end
end Cu
/-! CvK: name = [..], an element may raise. -/
namespace Cu
open PySem PySem.Spec PyProof.Rows L2
/-! ### what an error does to its state -/
theorem inv_put {X : Cx} {f : Value → Shared → Prop} {pins : List (Addr × Obj)} {σ : Sig} {H : Hp} {s : Shared} (I : Inv X pins σ H s) : Inv { X with xe := f } pins σ H s :=
  ⟨⟨I.ok.mod, I.ok.kind, I.ok.glob, I.ok.blt, I.ok.above, I.ok.inj, I.ok.has, I.ok.cab, I.ok.hd, I.ok.frames, I.ok.stk, I.ok.exf, I.ok.bs, I.ok.bsz, I.ok.noex, I.ok.exfs, I.ok.funs, I.ok.frf⟩, I.os, I.bare, I.base, I.loc, I.cell, I.free, I.freeC, I.pin, I.hok, I.len⟩
theorem inv_off {X : Cx} {f : Value → Shared → Prop} {pins : List (Addr × Obj)} {σ : Sig} {H : Hp} {s : Shared} (I : Inv { X with xe := f } pins σ H s) : Inv X pins σ H s :=
  ⟨⟨I.ok.mod, I.ok.kind, I.ok.glob, I.ok.blt, I.ok.above, I.ok.inj, I.ok.has, I.ok.cab, I.ok.hd, I.ok.frames, I.ok.stk, I.ok.exf, I.ok.bs, I.ok.bsz, I.ok.noex, I.ok.exfs, I.ok.funs, I.ok.frf⟩, I.os, I.bare, I.base, I.loc, I.cell, I.free, I.freeC, I.pin, I.hok, I.len⟩
/-- an error in the air, of whatever hand, is noted at the frame L -/
theorem sky_note {M : Model} {A : Around} {E : Value → Shared → Prop} {env : Env} {outer : List Env} {L C a : Addr} {Z : Obj → Prop} {B : Heap} {s : Shared} {Q : Unit → Shared → Prop} (hZ : HandSPX.Steady Z) (hfr : A.frames = some (env :: outer)) (hf : env.frame = some L) (hne : C ≠ L)
    (x : Sky B (env :: outer) a Z C s.heap) (hQ : ∀ h', HandSPX.HeldZ B (env :: outer) a Z L h' → s.heap.UpToSlots h' → Q () { s with heap := h' }) : wpAny M A (noteFrame (.ref a) env) Q E s := by
  rcases x with ⟨g0, g1, g2, ob, fs, g3, g4, g5, g6⟩ | fl | ⟨g0, g1, g2, ob, fs, tb, ot, us, g3, g4, g5, g6, g7, g8, g9, g10, g11⟩
  · exact HandSPX.look_newZ hZ hfr g2 hf g3 g0 g1 g5 g6 g4 hQ
  · exact HandSPX.looks_onZ hZ hfr hf fl hQ
  · unfold noteFrame
    simp only [hf]
    refine wpAny_bind (wpAny_field g3 g5 g6 ?_)
    rw [if_pos (show (Value.ref tb != Value.none) = true by simp)]
    refine wpAny_bind (wpAny_field g9 g10 g11 ?_)
    have hraw : ¬ ((rawInt (C : Int) == rawInt (L : Int)) = true) := by
      unfold rawInt
      simp
      intro e
      exact hne (by exact_mod_cast e)
    rw [if_neg hraw]
    refine wpAny_bind (wpAny_setField g9 g10 (Array.getElem?_eq_some_iff.mp g11).1 ?_)
    have oth : ∀ b, b ≠ tb → (s.heap.update tb (Obj.mapFields (·.setIfInBounds 3 Value.none))).get? b = s.heap.get? b := fun b hb => Heap.get?_update_other _ _ (Ne.symm hb)
    have nrec : ∀ b o, s.heap.get? b = some o → (∀ vs, o.data ≠ .fields vs) → b ≠ tb := fun b o e hn z => by
      rw [z, g9] at e
      injection e with e
      subst e
      exact hn us g10
    have fr2 := g2.of_keeps fun b o e hn => ⟨o, (oth b (nrec b o e hn)).trans e, rfl⟩
    have st2 : B.StaysIn (s.heap.update tb (Obj.mapFields (·.setIfInBounds 3 Value.none))) := fun b o e => (oth b fun z => by rw [z, g7] at e; cases e).trans (g0 b o e)
    refine HandSPX.wpAny_entryZ hZ hfr fr2 hf ((oth a (Ne.symm g8)).trans g3) st2 g1 g5 (Array.getElem?_eq_some_iff.mp g6).1 g4 fun h' hN => ?_
    exact hQ h' ⟨hN.1, g1, hN.2.1, hN.2.2.1⟩ fun b o e hn => hN.2.2.2 b o ((oth b (nrec b o e hn)).trans e) hn
/-- frames elsewhere do not see that C is another one -/
theorem frames_but {h h' base base' : Heap} {C : Addr} : ∀ {l : List Env}, h.FunFrames base l → (∀ b ∈ frs l, b ≠ C) → (∀ b, b ≠ C → h'.get? b = h.get? b) → (∀ b, base.get? b = none → base'.get? b = none) → h'.FunFrames base' l
  | [], _, _, _, _ => trivial
  | e :: l, ⟨h1, ⟨L, o, h2, h3, h4, h5⟩, h6⟩, hC, hk, hb => by
    have hL : L ∈ frs (e :: l) := List.mem_filterMap.mpr ⟨e, List.mem_cons_self, h2⟩
    refine ⟨h1, ⟨L, o, h2, hb L h3, (hk L (hC L hL)).trans h4, h5⟩, frames_but h6 (fun b hm => ?_) hk hb⟩
    obtain ⟨e', he, q⟩ := List.mem_filterMap.mp hm
    exact hC b (List.mem_filterMap.mpr ⟨e', List.mem_cons_of_mem _ he, q⟩)
/-- the block's context, an error wished for -/
abbrev blkE (X : Cx) (scope : Scope) (s0 : Shared) (H0 : Hp) (C : Addr) (cl : List (Str × Addr)) (fp : List Addr) (f : Value → Shared → Prop) : Cx := { blkX X scope s0 H0 C cl fp with xe := f }
/-- it comes out of the block -/
theorem block_out {X : Cx} {W : WX} {pins : List (Addr × Obj)} {σ : Sig} {H : Hp} {s : Shared} {scope : Scope} {cl : List (Str × Addr)} {fp : List Addr} {f : Value → Shared → Prop} {u : Value} {s' : Shared} {cenv : Env} {Qn : Value → Shared → Prop} {E1 : Value → Shared → Prop}
    (hs : X.stack = X.env :: X.outer) (hf : X.env.frame = some X.env.locals) (tk : Takes X W) (I : Inv X pins σ H s) (hfp : ∀ b ∈ fp, FpOk X pins H b) (hce : cenv.frame = X.env.frame)
    (x : XE (blkE X scope s H s.heap.objs.size cl fp f) (fun cls d _ H' => W cls d σ H') u s') :
    wpAny (model X.prog X.w) X.A (noteFrame u (compEnvC scope cl s.heap.objs.size X.env)) (fun _ s2 => ∃ m, s2.heap.Ns s.heap.objs.size m ∧ ∀ h', Heap.SameBut s.heap.objs.size s2.heap h' → wpAny (model X.prog X.w) X.A (PySem.passOn "comprehension.variables-let-go" u cenv : Sem Value) Qn X.xe { s2 with heap := h' }) E1 s' := by
  obtain ⟨a, B, sI, pins1, σ1, H1, cls, d, rfl, I6, nb, up, sky, na, os, ag, w⟩ := x
  have I6 := inv_off I6
  have hfr : X.A.frames = some (X.env :: X.outer) := by rw [I.ok.frames, hs]
  generalize hC : s.heap.objs.size = C at *
  have hCL : C ≠ X.env.locals := fun z => by
    have := I.lt
    rw [hC, ← z] at this
    exact Nat.lt_irrefl _ this
  have hCf : ∀ b ∈ frs (X.env :: X.outer), b ≠ C := fun b hb z => by
    rw [← hs] at hb
    obtain ⟨_, o, e, _⟩ := I.stack.mem hb
    have := Heap.lt_size e
    rw [hC, z] at this
    exact Nat.lt_irrefl _ this
  show wpAny _ _ (noteFrame (.ref a) X.env) _ _ _
  have sky : Sky B X.stack a (Zc cls d) C s'.heap := sky
  have nb : ∀ b o, sI.heap.get? b = some o → b ∉ frs X.stack → B.get? b = some o := nb
  rw [hs] at sky nb
  refine sky_note Zc.steady hfr hf hCL sky fun h1 hh up1 => ?_
  obtain ⟨m, hn, _⟩ := I6.loc
  have hn : sI.heap.Ns C m := hn
  have nC : H1 C = none := I6.free
  have n1 : h1.Ns C m := (up.trans up1).ns hn
  refine ⟨m, n1, fun h' sb => ?_⟩
  -- the def's own state
  have I7 : Inv X pins σ H1 sI := I.call' (ch := fp) I6.os I6.base I6.hok I6.bare fun b hb => ⟨(hfp b hb).2.2.2.1, (hfp b hb).2.1, (hfp b hb).2.2.2.2.1, (hfp b hb).2.2.2.2.2⟩
  obtain ⟨G, gg1, gg2⟩ := restrict sI.heap fun b => decide (b ≠ C)
  obtain ⟨B', bb1, bb2⟩ := restrict B fun b => decide (b ≠ C)
  obtain ⟨f0, f1, f2, f3, f4, f5⟩ := I.fpOk (Nat.le_of_eq hC) nC
  have I8 : Inv X pins σ H1 { sI with heap := G } := I7.turned (it := C) (t' := sI.toks) (fun b o hb e => (gg1 b (decide_eq_true hb)).trans e) f0 f1 f3 f4 f5
  have inG : ∀ b o, G.get? b = some o → b ≠ C ∧ sI.heap.get? b = some o := fun b o e => by
    by_cases hb : b = C
    · rw [gg2 b (decide_eq_false fun z => z hb)] at e; cases e
    · exact ⟨hb, (gg1 b (decide_eq_true hb)).symm.trans e⟩
  have inB : ∀ b o, B'.get? b = some o → b ≠ C ∧ B.get? b = some o := fun b o e => by
    by_cases hb : b = C
    · rw [bb2 b (decide_eq_false fun z => z hb)] at e; cases e
    · exact ⟨hb, (bb1 b (decide_eq_true hb)).symm.trans e⟩
  have noB : ∀ b, B.get? b = none → B'.get? b = none := fun b e => by
    cases q : B'.get? b with
    | none => rfl
    | some o => rw [(inB b o q).2] at e; cases e
  obtain ⟨k0, k1, k2, ob, vs, tb, ot, us, k3, k4, k5, k6, k7, k8, k9, k10, k11⟩ := hh
  have notC : ∀ {b o vs}, h1.get? b = some o → o.data = .fields vs → b ≠ C := fun {b o vs} e1 e2 z => by
    obtain ⟨o', es, ep, q1, q2, _⟩ := n1
    rw [z, q1] at e1
    injection e1 with e1
    rw [← e1, q2] at e2
    cases e2
  have hld : HandSPX.HeldZ B' (X.env :: X.outer) a (Zc cls d) X.env.locals h' :=
    ⟨fun b o e => (sb.2 b (inB b o e).1).trans (k0 b o (inB b o e).2), noB a k1, frames_but k2 hCf sb.2 noB,
      ob, vs, tb, ot, us, (sb.2 a (notC k3 k5)).trans k3, k4, k5, k6, noB tb k7, k8, (sb.2 tb (notC k9 k10)).trans k9, k10, k11⟩
  unfold PySem.passOn
  refine wpAny_bind (wpAny_field ((sb.2 a (notC k3 k5)).trans k3) k5 k6 ?_)
  rw [if_neg (show ¬ ((Value.ref tb == Value.none) = true) by simp)]
  rw [hce, hf]
  have fin : ∀ h2, HandSPX.HeldZ B' (X.env :: X.outer) a (Zc cls d) X.env.locals h2 → h'.UpToSlots h2 → wpAny (model X.prog X.w) X.A (throw (.ref a)) Qn X.xe ({ s' with heap := h2 } : Shared) := fun h2 hh2 up2 => by
    refine wpAny_throw (tk _ _ ⟨a, B', { sI with heap := G }, pins, σ, H1, cls, d, rfl, I8, fun b o e hb => ?_, ?_, .inr (.inr (by rw [hs]; exact hh2)), na, os, ag, w⟩)
    · obtain ⟨q1, q2⟩ := inG b o e
      rw [hs] at hb
      exact (bb1 b (decide_eq_true q1)).trans (nb b o q2 hb)
    · intro b o e hnf
      obtain ⟨q1, q2⟩ := inG b o e
      obtain ⟨sl, q3⟩ := (up.trans up1) b o q2 hnf
      obtain ⟨sl2, q4⟩ := up2 b _ ((sb.2 b q1).trans q3) hnf
      exact ⟨sl2, q4⟩
  exact wpAny_bind (HandSPX.setFlight_onZ hld fun h2 hh2 up2 => fin h2 hh2 up2)
/-! ### the comprehension -/
theorem clo_none {cells : List (Str × Addr)} : ∀ {names : List (Str × NameKind)} {acc : List (Str × Addr)}, (∀ y ∈ names, y.2 ≠ .free) → cloFrom cells names acc = acc
  | [], _, _ => rfl
  | (n, k) :: r, acc, h => by
    have hk : (k == NameKind.free) = false := beq_eq_false_iff_ne.mpr (h (n, k) List.mem_cons_self)
    show (if (k == NameKind.free) = true then _ else _) = _
    rw [hk, if_neg Bool.false_ne_true]
    exact clo_none fun y hy => h y (List.mem_cons_of_mem _ hy)
theorem rel_none {scope : Scope} {env : Env} (h : ∀ y ∈ scope.names, y.2 ≠ .free) : relabel scope env = scope := by
  have e : ∀ names : List (Str × NameKind), (∀ y ∈ names, y.2 ≠ .free) → (names.map fun (n, k) => if (k == NameKind.free && env.scope.kind == .function && env.kindOf n == some .cell) then (n, NameKind.cell) else (n, k)) = names := fun names => by
    induction names with
    | nil => exact fun _ => rfl
    | cons y r ih =>
      intro h
      obtain ⟨n, k⟩ := y
      have hk : (k == NameKind.free) = false := beq_eq_false_iff_ne.mpr (h (n, k) List.mem_cons_self)
      rw [List.map_cons, ih fun y hy => h y (List.mem_cons_of_mem _ hy)]
      simp [hk]
  unfold relabel
  rw [e _ h]
/-- the element, whatever the block's own error wish -/
def tElE (X : Cx) (W : WX) (σ0 : Sig) (scope : Scope) (elt : Expr) : TE := fun σ H Q => ∀ s0 H0 C cl fp f, Takes (blkE X scope s0 H0 C cl fp f) (fun cls d _ H' => W cls d σ0 H') → PassesOwn (model X.prog X.w) X.A (compEnvC scope cl C X.env) f → sE (blkE X scope s0 H0 C cl fp f) elt σ H Q
def tLcE (X : Cx) (W : WX) (scope : Scope) (elt : Expr) (wi : TI) (g : TG) (vs : List Nat) : TE := fun σ H Q => wi σ H fun J H1 => ∀ D, H1 D = none → ∃ Wt : Nat → Nat → Hp → Prop, (∃ m, Wt 0 m (upd H1 D (.lst []))) ∧ ∀ i m H, Wt i m H →
  (J.stop i H ∧ Q (.ref D) H) ∨ (J.go i H ∧ ∃ Nx : Hp → Prop, (∀ H', Nx H' → ∃ m', m' < m ∧ Wt (i + 1) m' H') ∧ ∀ x H', J.yld i H x H' → g x (wipe σ vs) H' fun σ2 H2 => wipe σ2 vs = wipe σ vs ∧
    tElE X W σ scope elt σ2 H2 fun y H4 => ∃ acc, H4 D = some (.lst acc) ∧ acc.length < sizeLine ∧ Nx (upd H4 D (.lst (acc ++ [y]))))
theorem ps_setLcE {X : Cx} {W : WX} {i : Nat} {y : Str} {py : Pos} {elt tg iter : Expr} {scope : Scope} {own : List (Str × Nat)} {pos spos : Pos} {wi : TI} {g : TG} (hc : X.calm = true) (hN : X.N.Nodup) (hst : X.stack = X.env :: X.outer) (hfr : X.env.frame = some X.env.locals) (tk : Takes X W)
    (hy : X.N[i]? = some y) (hyl : X.env.scope.names.lookup y = some .local) (hsw : swapsWith (.ListComp elt [⟨tg, iter, [], 0⟩] scope pos) (some (.Name y py)) spos.line X.env = pure true) (hi : PI X tg iter wi) (ok : BlkOk X.N X.env.scope scope own) (hfree : ∀ y ∈ scope.names, y.2 ≠ .free)
    (hg : ∀ (s : Shared) (H : Hp) (C : Addr) (cl : List (Str × Addr)) (fp : List Addr), PG (blkX X scope s H C cl fp) tg g) (hs : ∀ x, foldedSetIterable iter X.env x = pure x := by intro _; rfl) :
    PS X (.Assign [.Name y py] (.ListComp elt [⟨tg, iter, [], 0⟩] scope pos) spos) (fun D σ H => tLcE X W scope elt wi g (own.map (·.2)) σ H fun x H1 => gName i x σ H1 D.nx) := by
  refine ⟨fun pins s σ H Dn I h => ?_⟩
  rw [exec_Assign_Name_used _ _ _ _ hsw]
  refine wpAny_bind (wpAny_standAt (wpAny_bind ?_))
  show wpAny _ X.A (do let _ ← comprehension (.ListComp elt [⟨tg, iter, [], 0⟩] scope pos) scope X.env (firstIterPos [⟨tg, iter, [], 0⟩] pos) (newList []) false (eval iter X.env) (some (assign (.Name y py) X.env))) _ _ s
  have h : tLcE X W scope elt wi g (own.map (·.2)) σ H (fun x H1 => gName i x σ H1 Dn.nx) := h
  refine wpAny_bind (thn (Q := fun _ s' => SP X pins Dn .next s') ?_ fun _ s' hq => wpAny_pure (wpAny_pure hq))
  refine wpAny_comprehension_use (u := assign (.Name y py) X.env) rfl hs hfree ok.kind (fun y hy e => by rw [ok.uniq y hy, e]) (thn (hi.run pins s σ H _ I h) fun xv s1 hx => thn hx fun itv s2 h2 => ?_)
  obtain ⟨it, fp, tn, J, H2, e, I2, Tn, st2, f2, q⟩ := h2
  subst e
  refine wpAny_newObj_type (newEnv_comp ?_) (by show 0 ≤ sizeLine; decide)
  generalize hD : s2.heap.objs.size = D
  have hDn : H2 D = none := I2.hok.fresh (Nat.le_of_eq hD)
  obtain ⟨Wt, ⟨m0, w0⟩, turn⟩ := q D hDn
  generalize hs3 : ({ s2 with heap := s2.heap.push { cls := .type "list", data := .seq ([] : List Value).toArray } } : Shared) = s3
  have I3 : Inv X pins σ (upd H2 D (.lst [])) s3 := by
    rw [← hs3]
    exact I2.laid (t' := s2.toks) (fun b o e => Heap.get?_push_of_some _ e) (Nat.le_of_eq hD) ⟨Nat.zero_le _, [], 0, .nil, by rw [← hD]; exact Heap.get?_push_size _ rfl⟩
  have h3 : s3.heap = s2.heap.push { cls := .type "list", data := .seq ([] : List Value).toArray } := by rw [← hs3]
  have f3 : ∀ b ∈ fp, FpOk X pins (upd H2 D (.lst [])) b ∧ b < s3.heap.objs.size := fun b hb => by
    obtain ⟨o, eo, _⟩ := Tn.obj _ _ st2 b hb
    have hlt := Heap.lt_size eo
    exact ⟨⟨by rw [upd_ne (by rw [← hD]; exact Nat.ne_of_lt hlt)]; exact (f2 b hb).1, (f2 b hb).2⟩, by rw [h3, Heap.size_push]; exact Nat.lt_succ_of_lt hlt⟩
  have st3 : tn 0 s3.heap := Tn.keep _ _ _ st2 fun b _ o eo => by rw [h3]; exact Heap.get?_push_of_some _ eo
  have I4 := block_start I3 ok hN f3
  rw [clo_none hfree] at I4
  have hce : ({ newEnv scope s3.heap.objs.size X.env.globals (cellsFrom (s3.heap.objs.size + 1) scope.names []) X.env.qual none .none (some X.env) X.env.builtins with scope := scope } : Env) = compEnvC scope (cellsFrom (s3.heap.objs.size + 1) scope.names []) s3.heap.objs.size X.env := by
    unfold compEnvC
    rw [rel_none hfree]
    rfl
  have hcf : ({ newEnv scope s3.heap.objs.size X.env.globals (cellsFrom (s3.heap.objs.size + 1) scope.names []) X.env.qual none .none (some X.env) X.env.builtins with scope := scope } : Env).frame = X.env.frame := rfl
  show codeAny _ _ (.compStart (.ListComp elt [⟨tg, iter, [], 0⟩] scope pos) 0 (.ref it) (.ref D) { newEnv scope s3.heap.objs.size X.env.globals (cellsFrom (s3.heap.objs.size + 1) scope.names []) X.env.qual none .none (some X.env) X.env.builtins with scope := scope }) _ { s3 with heap := pushCells (s3.heap.push { cls := .type "dict", data := .dict #[] }) scope.names }
  have nfp : ∀ b ∈ fp, (upd H2 D (.lst [])) b = none := fun b hb => (f3 b hb).1.1
  generalize hce0 : ({ newEnv scope s3.heap.objs.size X.env.globals (cellsFrom (s3.heap.objs.size + 1) scope.names []) X.env.qual none .none (some X.env) X.env.builtins with scope := scope } : Env) = ce at hce hcf ⊢
  generalize hcl : cellsFrom (s3.heap.objs.size + 1) scope.names [] = cl at hce I4 ⊢
  subst hce
  generalize hH3 : upd H2 D (.lst []) = H3 at I3 I4 w0 nfp f3
  generalize hC : s3.heap.objs.size = C at I4 hcf ⊢
  generalize hs4 : ({ s3 with heap := pushCells (s3.heap.push { cls := .type "dict", data := .dict #[] }) scope.names } : Shared) = s4 at I4 ⊢
  have st4 : tn 0 s4.heap := Tn.keep _ _ _ st3 fun b _ o eo => by rw [← hs4]; exact pushCells_keeps _ _ _ _ (Heap.get?_push_of_some _ eo)
  have hpost : ∀ {u : Value} {s' : Shared} {f : Value → Shared → Prop}, XE (blkE X scope s3 H3 C cl fp f) (fun cls d _ H' => W cls d σ H') u s' →
      notedBy (model X.prog X.w) X.A (compEnvC scope cl C X.env) (fun x s' => ∃ m, s'.heap.Ns C m ∧ ∀ h', Heap.SameBut C s'.heap h' → wpAny (model X.prog X.w) X.A (PySem.passOn "comprehension.variables-let-go" x (compEnvC scope cl C X.env) : Sem Value) (fun _ s' => SP X pins Dn .next s') X.xe { s' with heap := h' }) u s' := fun {u s' f} x => by
    subst hC
    exact block_out (Qn := fun _ s' => SP X pins Dn .next s') (cenv := compEnvC scope cl s3.heap.objs.size X.env) hst hfr tk I3 (fun b hb => (f3 b hb).1) hcf x
  have pg := hg s3 H3 C cl fp
  have stat : ∀ {σ' : Sig} {H' : Hp} {s' : Shared}, Inv (blkX X scope s3 H3 C cl fp) [] σ' H' s' → (∀ b ∈ fp, H' b = none) → ∀ b ∈ fp, FpOk (blkX X scope s3 H3 C cl fp) [] H' b := fun {σ' H' s'} I' hn b hb =>
    ⟨hn b hb, (I'.ok.exf b hb).1, I'.ok.exfs b hb, .inl hb, fun x c eo => (I'.ok.exf b hb).2 x c eo, fun p hp => absurd (show p ∈ ([] : List (Addr × Obj)) ++ [] from hp) (by simp)⟩
  have nC0 : ∀ {σ' : Sig} {H' : Hp} {s' : Shared}, Inv (blkX X scope s3 H3 C cl fp) [] σ' H' s' → H' C = none := fun I' => I'.free
  suffices loop : codeAny (model X.prog X.w) X.A (.compLoop (.ListComp elt [⟨tg, iter, [], 0⟩] scope pos) 0 (.ref it) (.ref D) (compEnvC scope cl C X.env)) _ s4 from codeAny_compStart_list loop (Tn.self X.A 0 _ _ _ st4 loop)
  refine compLoop_any (fun n s' => ∃ i H', Inv (blkX X scope s3 H3 C cl fp) [] (wipe σ (own.map (·.2))) H' s' ∧ tn i s'.heap ∧ (∀ b ∈ fp, H' b = none) ∧ Wt i n H') ?_ m0 ⟨0, H3, I4, st4, nfp, w0⟩
  rintro n s5 ⟨j, H5, I5, st5, n5, w5⟩
  rcases turn j n H5 w5 with ⟨stop, qq⟩ | ⟨go, Nx, hNx, step⟩
  · refine thnF (Tn.done (blkX X scope s3 H3 C cl fp) rfl rfl rfl hc j [] s5 _ H5 (fun _ _ => False) I5 (stat I5 n5) st5 stop) fun r s6 hr6 => ?_
    obtain ⟨hr, I6⟩ := hr6
    subst hr
    have I7 : Inv X pins σ H5 s6 := I3.call' (ch := fp) I6.os I6.base I6.hok I6.bare fun b hb => ⟨(f3 b hb).1.2.2.2.1, (f3 b hb).1.2.1, (f3 b hb).1.2.2.2.2.1, (f3 b hb).1.2.2.2.2.2⟩
    obtain ⟨f0, f1, f2', f3', f4, f5⟩ := I3.fpOk (Nat.le_of_eq hC) (nC0 I6)
    obtain ⟨m, hn, _⟩ := I6.loc
    have hn : s6.heap.Ns C m := hn
    show wpAny _ _ (assign (.Name y py) X.env (.ref D)) _ _ _
    refine wpAny_assign_Name (store_ok2 (v := V.ref D) I7 hN hy (.inl hyl) rfl (fun s8 I8 hx8 => ?_) (.inr hyl))
    obtain ⟨a, sb, ha⟩ := hx8
    have haC : C ≠ a := by
      rcases ha with z | z
      · rw [z]; exact f1
      · exact fun eq => f4 y a z eq.symm
    refine ⟨m, hn.sameBut sb haC, fun h9 sb9 => ?_⟩
    exact ⟨_, H5, I8.turned (t' := s8.toks) (fun b o hb eo => (sb9.2 b hb).trans eo) f0 f1 f3' f4 f5, qq⟩
  · refine thnF (Tn.item (blkX X scope s3 H3 C cl fp) rfl rfl rfl hc j [] s5 _ H5 (fun _ _ => False) I5 (stat I5 n5) st5 go) fun r s6 hr6 => ?_
    obtain ⟨u, hr, h6⟩ := hr6
    subst hr
    refine thnF h6 fun _ s7 hx7 => ?_
    obtain ⟨x, H7, I7, r7, y7, st7, n7⟩ := hx7
    have I7' := I7.pinned (stat I7 n7) (Tn.obj _ _ st7)
    refine thnF (pg.run _ s7 _ H7 x u _ I7' r7 (step x H7 y7)) fun _ s8 hx8 => ?_
    obtain ⟨σ8, H8, I8, hw8, q8⟩ := hx8
    refine thnF ((pts_nil (X := blkX X scope s3 H3 C cl fp)).run _ s8 σ8 H8 (fun b Hb => b = true ∧ Hb = H8) I8 ⟨rfl, rfl⟩) fun b s9 hx9 => ?_
    obtain ⟨H9, I9, hb9, hH9⟩ := hx9
    subst hb9 hH9
    simp only [if_true]
    have q9 := q8 s3 H3 C cl fp _ (fun u s' x => hpost x) PassesOwn.looking _ s9 (inv_put I9)
    refine wpAny_mono q9 (fun z s10 hx10 => ?_) fun _ _ eo => eo
    obtain ⟨yv, H10, I10, r10, acc, hD10, hz10, nx⟩ := hx10
    refine app_ok (X := blkX X scope s3 H3 C cl fp) (inv_off I10) hD10 hz10 r10 fun s11 I11 => ?_
    obtain ⟨m', hm, w'⟩ := hNx _ nx
    have pin' : ∀ b ∈ fp, ∀ o, s7.heap.get? b = some o → s11.heap.get? b = some o ∧ (upd H10 D (.lst (acc ++ [yv]))) b = none := fun b hb o eo =>
      let z := I11.pin (b, o) (List.mem_append_right _ (List.mem_append_right _ (mem_pinsAt hb eo)))
      ⟨z.1, z.2.1⟩
    have hl : (wipe σ (own.map (·.2))).length = σ8.length := by rw [← hw8, wipe_length]
    refine ⟨m', hm, j + 1, _, (I11.unpinned (pins := [])).weak hl (fun k v eo => ?_), Tn.keep _ _ _ st7 fun b hb o eo => (pin' b hb o eo).1, fun b hb => ?_, w'⟩
    · rw [← hw8] at eo
      exact (wipe_some eo).1
    · obtain ⟨o, eo, _⟩ := Tn.obj _ _ st7 b hb
      exact (pin' b hb o eo).2
end Cu
/-! CvL: name = [..], an element may raise, over states told by data. -/
namespace Cu
open PySem PySem.Spec PyProof.Rows L2
theorem wipe_wipe : ∀ (vs us : List Nat) (σ : Sig), (∀ v ∈ us, v ∈ vs) → wipe (wipe σ us) vs = wipe σ vs := by
  intro vs us
  induction us with
  | nil => intro σ _; rfl
  | cons u r ih =>
    intro σ hm
    show wipe ((wipe σ r).set u none) vs = _
    rw [wipe_set _ (hm u List.mem_cons_self), ih σ fun v hv => hm v (List.mem_cons_of_mem _ hv)]
theorem dsOf_map : ∀ acc : List PyData, ds? (acc.map It.d) = some acc
  | [] => rfl
  | x :: r => by show (ds? (r.map It.d)).map (x :: ·) = _; rw [dsOf_map r]; rfl
section
variable {X : Cx} {W : WX} {k : Nat} {G : Gam} {S S1 : Sto} {P : Post} {elt tg iter : Expr} {scope : Scope} {own : List (Str × Nat)} {pos pos' apos : Pos} {rs : List It}
/-- name = [..]: every item gives by gg a datum, or an error of class C0 -/
theorem ws_setLcE {bind : It → Gam → Option Gam} {C : Sto → Prop} {C0 : Addr} (i : Nat) {n : Str} (c : Cxo X W k) (ok : BlkOk X.N X.env.scope scope own) (hi : EvI X tg iter G S rs C S1) (ht : TgOk X scope tg (own.map (·.2)) bind) (gg : It → Option PyData) (hC : ∀ L, C (S1 ++ L))
    (hs : ∀ r ∈ rs, ∃ G', bind r (wipeG G (own.map (·.2))) = some G' ∧ ∀ L s H Ca cl fp f W', Cxo (blkE X scope s H Ca cl fp f) W' k → EvX (blkE X scope s H Ca cl fp f) W' elt G' (S1 ++ L) (fun r' S' => S' = S1 ++ L ∧ ∃ y, gg r = some y ∧ r' = .d y) (fun Cx S' => S' = S1 ++ L ∧ Cx = C0 ∧ gg r = none))
    (hz : rs.length ≤ 1000000) (q : ∀ ys : List PyData, rs.map gg = ys.map some → P.nx (G.set i (some (.d (.list ys)))) S1) (qx : ∀ r ∈ rs, gg r = none → ∀ L, P.xc C0 G (S1 ++ L))
    (hst : X.stack = X.env :: X.outer := by rfl) (hfr : X.env.frame = some X.env.locals := by rfl) (hfree : ∀ y ∈ scope.names, y.2 ≠ .free := by decide)
    (hy : X.N[i]? = some n := by rfl) (hyl : X.env.scope.names.lookup n = some .local := by rfl)
    (hsw : swapsWith (.ListComp elt [⟨tg, iter, [], 0⟩] scope pos) (some (.Name n pos')) apos.line X.env = pure true := by exact sw_true rfl rfl rfl (by decide +kernel)) (hf : ∀ x, foldedSetIterable iter X.env x = pure x := by intro _; rfl) : WS X W (.Assign [.Name n pos'] (.ListComp elt [⟨tg, iter, [], 0⟩] scope pos) apos) G S P := fun M σ H D s m => by
  obtain ⟨g, hpg, hg⟩ := ht.ex
  obtain ⟨wi, hpi, hw⟩ := hi
  refine toS (ps_setLcE (i := i) c.calm c.nd hst hfr c.tk hy hyl hsw hpi ok hfree hpg hf) ?_
  refine hw M σ H _ s fun M1 H1 Jt e1 t1 wk => ?_
  intro Da hD
  have eD : Ext M1 H1 (M1 ++ [Da]) (upd H1 Da (.lst [])) := Ext.own hD
  have lenM : ∀ {M' : List Addr} {H' : Hp} {acc : List PyData}, StoreOk X.K M' H' (S1 ++ [Own.lst (acc.map .d)]) → Ext (M1 ++ [Da]) (upd H1 Da (.lst [])) M' H' → M' = M1 ++ [Da] := fun {M' H' acc} s' e' => by
    obtain ⟨L, eL⟩ := e'.pre
    have h1 := s'.len
    rw [eL, List.length_append, List.length_append, List.length_append, t1.sto.len] at h1
    have h2 : L.length = 0 := by
      have : [Da].length = 1 := rfl
      have : [Own.lst (acc.map .d)].length = 1 := rfl
      omega
    rw [eL, List.eq_nil_of_length_eq_zero h2, List.append_nil]
  have hDn : (M1 ++ [Da])[S1.length]? = some Da := by rw [← t1.sto.len, List.getElem?_append_right (Nat.le_refl _), Nat.sub_self]; rfl
  refine ⟨fun j m' H' => (m' = rs.length - j ∧ j ≤ rs.length) ∧ ∃ acc : List PyData, Ext (M1 ++ [Da]) (upd H1 Da (.lst [])) (M1 ++ [Da]) H' ∧ Stt X.K (M1 ++ [Da]) H' (S1 ++ [.lst (acc.map .d)]) G σ ∧ (rs.take j).map gg = acc.map some,
    ⟨_, ⟨rfl, Nat.zero_le _⟩, [], Ext.refl, t1.mono eD (t1.sto.own (w := .lst ([] : List It)) hD ⟨[], upd_same, .nil⟩), rfl⟩, fun j m' H' hw' => ?_⟩
  obtain ⟨⟨rfl, hj'⟩, acc, e', t', hJ⟩ := hw'
  have hacc : acc.length ≤ j := by
    have := congrArg List.length hJ
    rw [List.length_map, List.length_map, List.length_take] at this
    omega
  have cS := hC [.lst (acc.map .d)]
  by_cases hlt : j < rs.length
  · refine .inr ⟨wk.go j _ H' _ hlt (eD.trans e') t'.sto cS, fun H2 => ∃ acc : List PyData, Ext (M1 ++ [Da]) (upd H1 Da (.lst [])) (M1 ++ [Da]) H2 ∧ Stt X.K (M1 ++ [Da]) H2 (S1 ++ [.lst (acc.map .d)]) G σ ∧ (rs.take (j + 1)).map gg = acc.map some, fun H2 q => ⟨rs.length - (j + 1), by omega, ⟨rfl, by omega⟩, q⟩, fun x H2 y => ?_⟩
    have hri : rs[j]? = some rs[j] := List.getElem?_eq_getElem hlt
    have hmem : rs[j] ∈ rs := List.getElem_mem hlt
    obtain ⟨ey, sy, vy⟩ := wk.yl j _ H' _ x H2 _ hri (eD.trans e') t'.sto cS y
    have ty : Stt X.K (M1 ++ [Da]) H2 (S1 ++ [.lst (acc.map .d)]) G σ := t'.mono ey sy
    have e2 := e'.trans ey
    obtain ⟨G', hb, hE⟩ := hs _ hmem
    refine hg (M1 ++ [Da]) H2 (S1 ++ [.lst (acc.map .d)]) (wipeG G (own.map (·.2))) G' (wipe σ (own.map (·.2))) x rs[j] _ (ty.wipe _) vy hb ?_
    intro σ2 t2 w2
    refine ⟨w2.trans (wipe_wipe _ _ _ fun _ h => h), fun s0 H0 Ca cl fp f htk hpo => ?_⟩
    refine hE [.lst (acc.map .d)] s0 H0 Ca cl fp f (fun cls d _ H' => W cls d σ H') ⟨c.calm, c.nd, htk, hpo, c.hr⟩ (M1 ++ [Da]) σ2 H2 _ t2 (fun v4 M4 H4 r S' e4 t4 r4 hr => ?_) (fun M4 H4 Cx S' e4 t4 hx => ?_)
    · obtain ⟨rfl, z, hz2, rfl⟩ := hr
      obtain rfl : M4 = M1 ++ [Da] := lenM t4.sto (e2.trans e4)
      have hSn : (S1 ++ [Own.lst (acc.map .d)])[S1.length]? = some (.lst (acc.map .d)) := by rw [List.getElem?_append_right (Nat.le_refl _), Nat.sub_self]; rfl
      obtain ⟨vs4, hv4, hr4⟩ := t4.sto.rep _ _ _ hDn hSn
      have hl4 : vs4.length = acc.length := by rw [hr4.len, List.length_map]
      have e5 : Ext (M1 ++ [Da]) H4 (M1 ++ [Da]) (upd H4 Da (.lst (vs4 ++ [v4]))) := Ext.put (List.mem_of_getElem? hDn)
      have s5 := t4.sto.put (w := .lst ((acc ++ [z]).map .d)) hDn ⟨vs4 ++ [v4], upd_same, by
        rw [List.map_append]
        exact VReps.append (VReps.ext e5 hr4) (.cons (r4.ext e5) .nil)⟩
      have hset : (S1 ++ [Own.lst (acc.map It.d)]).set S1.length (.lst ((acc ++ [z]).map .d)) = S1 ++ [.lst ((acc ++ [z]).map .d)] := by
        rw [List.set_append_right _ _ (Nat.le_refl _), Nat.sub_self]
        rfl
      rw [hset] at s5
      refine ⟨vs4, hv4, ?_, acc ++ [z], (e2.trans e4).trans e5, ty.mono (e4.trans e5) s5, ?_⟩
      · rw [sizeLine_eq]
        omega
      · rw [List.take_add_one, hri, List.map_append, hJ, List.map_append]
        show _ ++ [gg rs[j]] = _
        rw [hz2]; rfl
    · obtain ⟨rfl, rfl, hn⟩ := hx
      exact m.xc M4 σ H4 G Cx _ (((e1.trans eD).trans e2).trans e4) (ty.mono e4 t4.sto) (qx _ hmem hn _)
  · have ej : j = rs.length := by omega
    subst ej
    refine .inl ⟨wk.st _ _ H' _ (Nat.le_refl _) (eD.trans e') t'.sto cS, ?_⟩
    rw [List.take_length] at hJ
    have hSn : (S1 ++ [Own.lst (acc.map .d)])[S1.length]? = some (.lst (acc.map .d)) := by rw [List.getElem?_append_right (Nat.le_refl _), Nat.sub_self]; rfl
    obtain ⟨vs4, hv4, hr4⟩ := t'.sto.rep _ _ _ hDn hSn
    have eT : (M1 ++ [Da]).take S1.length = M1 := by rw [← t1.sto.len]; exact List.take_left ..
    have s6 := t'.sto.take t1.sto.closed
    rw [eT] at s6
    have e6 : Ext M1 H1 M1 H' := by
      have := (eD.trans e').take (n := M1.length) (Nat.le_refl _)
      rwa [List.take_left] at this
    have t6 : Stt X.K M1 H' S1 G σ := t1.mono e6 s6
    have r6 : VRep X.K M1 H' (.ref Da) (.d (.list acc)) := Fz.lst ⟨.inl hv4, t1.sto.nin hD⟩ (FzAll.less (fun _ h => List.mem_append_left _ h) (fz_all (dsOf_map acc) hr4))
    exact m.nx M1 _ H' _ S1 (e1.trans e6) (t6.set r6) (q acc hJ)
end
end Cu
/-! CvM: errors that stand in no other's context; try whose suite raises. -/
namespace Cu
open PySem PySem.Spec PyProof.Rows L2
/-- the context of a def whose errors stand in no other's context -/
abbrev cxN (P : Program) (w : World) (K : PySem.W.Frag) (mg : Str → Option Value) (base : Heap) (N : List Str) (qual : Str) (scope : Scope) (f : Addr) (cdv : Value) (A : Around) (outer : List Env) (s : Shared) (H : Hp) (E : XK) : Cx := cxOf (L2N.CX P w) P w K mg base N qual scope f cdv A outer s H E
abbrev wNo : WX := fun _ _ _ _ => False
section
variable {P : Program} {w : World} {K : PySem.W.Frag} {mg : Str → Option Value} {base : Heap} {x qual : Str} {params : Arguments} {body : List Stmt} {scope : Scope} {dvs : List V} {kws : List (Str × V)} {f C : Addr} {fd : FuncData} {ps : List Str} {drs : List It} {F : Fn}
theorem fn_wN {N : List Str} {k : Nat} (Fd : FunD K x qual params body scope dvs kws f fd) (Sc : FnScope N ps scope)
    (h : ∀ (cdv : Value) (A : Around) (outer : List Env) (s : Shared) (H : Hp) (E : XK) (rs : List It) (S : Sto) (QR : It → Sto → Prop) (QE : Addr → Sto → Prop), Cxo (cxN P w K mg base N qual scope f cdv A outer s H E) wNo k → L2N.Takes (cxN P w K mg base N qual scope f cdv A outer s H E) (wF E) →
      ClS S → rs.length = ps.length → F rs S QR QE → WSs (cxN P w K mg base N qual scope f cdv A outer s H E) (wF E) body (startG N rs) S ⟨fun _ S' => Back S.length S' (.d .none) QR, fun r S' => Back S.length S' r QR, fun _ _ => False, fun _ _ => False, fun C _ S' => BackX S.length S' C QE⟩) :
    FnOk P w K mg base (L2N.CX P w) (k + 1) f fd ps (spF K ps.length F) := by
  refine Fd.ok Sc (fun vs H Q E hs => ?_) (fun cdv A outer s H vs Q E hr hs => ⟨sSs _ body, pss_s, ?_⟩)
  · obtain ⟨M, S, rs, h1, h2, h3, _⟩ := hs
    rw [h2.len, h3]
  · obtain ⟨M, S, rs, h1, h2, h3, hF⟩ := hs
    have out : ∀ {v : V} {M' : List Addr} {H' : Hp} {r : It} {S' : Sto}, Ext M H M' H' → StoreOk K M' H' S' → VRep K M' H' v r → Back S.length S' r (fun r S' => ∀ v M' H', Ext M H M' H' → StoreOk K M' H' S' → VRep K M' H' v r → Q v H') → Q v H' := by
      intro v M' H' r S' e s' hv hb
      obtain ⟨S1, L, r1, rfl, hn, hc, hr1, q⟩ := hb
      refine q v (M'.take S1.length) H' (e.take (by rw [h1.len]; exact hn)) (s'.take (hc s'.closed)) ?_
      rcases hr1 with ⟨rfl, hcl⟩ | ⟨z, rfl, hd⟩
      · exact hv.take hcl
      · exact Den.fz s' hd hv
    have cx : Cxo (cxN P w K mg base N qual scope f cdv A outer s H E) wNo k := ⟨rfl, Sc.nd, takes_none5, passes_of rfl, hr⟩
    refine h cdv A outer s H E rs S _ _ cx (L2N.takes_of rfl rfl rfl rfl) h1.closed h3 hF M (L2.start N vs) H _ (stt_start h1 N h2) ⟨fun M' σ' H' G' S' e t q => out (v := .non) (r := .d .none) e t.sto Fz.non q, fun v M' H' r S' e t hv q => out e t hv q, fun _ _ _ _ _ _ _ q => q.elim, fun _ _ _ _ _ _ _ q => q.elim, fun M' σ' H' G' C S' e t q => ?_⟩
    obtain ⟨S1, L, rfl, hn, hc, q⟩ := q
    exact q (M'.take S1.length) H' (e.take (by rw [h1.len]; exact hn)) (t.sto.take (hc t.sto.closed))
/-- a class whose __init__ raises such errors alone -/
structure OkCN (P : Program) (w : World) (K : PySem.W.Frag) (mg : Str → Option Value) (base : Heap) (k : Nat) (C : Addr) (x : Str) (ps : List Str) (drs : List It) (F : Fn) : Prop where
  ex : ∃ (f : Addr) (fd : FuncData) (dvs : List V) (ds : List Value), mg x = some (.ref C) ∧ Mk K C f ∧ Binds K fd ps ds ∧ L2.Vals dvs ds ∧ (∀ M H, VReps K M H dvs drs) ∧ FnOk P w K mg base (L2N.CX P w) k f fd ps (spF K ps.length F)
theorem okCN_ofD {y : Str} {k : Nat} (g : mg y = some (.ref C)) (m : Mk K C f) (hd : ∃ fd, FunD K x qual params body scope dvs [] f fd) (n j : Nat) (hne : dvs ≠ []) (hn : n + (dvs.length - j) = ps.length)
    (hb : ∀ (T : Addr) (kV doc pm : Value) (an : Option Addr) (cdv ct : Value) (us its : List Value), us.length = n → its.length = dvs.length →
      ∃ k, bindArgs (PySem.W.fnOf x qual params body scope (.ref T) kV doc pm an cdv ct) ⟨us, []⟩ = seqItems? (.ref T) >>= k ∧ k (some its.toArray) = pure (ps.zip (us ++ its.drop j)))
    (hr : ∀ M H, VReps K M H (dvs.drop j) drs)
    (h : ∀ fd, FunD K x qual params body scope dvs [] f fd → FnOk P w K mg base (L2N.CX P w) k f fd ps (spF K ps.length F)) : OkCN P w K mg base k C y ps drs F := by
  obtain ⟨fd, Fd⟩ := hd
  obtain ⟨ds, h1, h2⟩ := Fd.binds1 n j hne hn hb
  exact ⟨f, fd, dvs.drop j, ds, g, m, h2, h1, hr, h fd Fd⟩
end
section
variable {X : Cx} {W W0 : WX} {k j : Nat} {G G1 G2 : Gam} {S S1 S2 S3 : Sto} {P : Post} {e a b o iter tg elt : Expr} {es ifs : List Expr} {r y z : It} {rs drs : List It} {pos pos' pos2 p p2 apos np : Pos} {st : Stmt} {sts body suite : List Stmt} {ds : List PyData} {C : Addr} {n : Str} {ps : List Str} {F : Fn} {Qr : It → Sto → Prop} {Qx : Addr → Sto → Prop}
theorem ws_raiseN {x mtx : Str} {j : Nat} (c : Cxo X W0 k) (tk : L2N.Takes X W) (T : ExcF X.K X.mg x C) (q : P.xc C G S) (hg : Gl X x := by rfl) (hdb : (x == ("__debug__" : Str)) = false := by decide) : WS X W (.Raise (some (.Call (.Name x p) [.Constant (.str mtx) j p2] [] pos)) none pos2) G S P := fun M σ H D s m =>
  toS (L2N.ps_raise c.calm tk (L2N.pmk_own PySem.F.excBase_ValueError T.xC T.gC T.kC (raises_own T.bC T.tC) hg hdb)) (m.xc M σ H G C S Ext.refl s q)
/-- raise in an except suite -/
theorem ws_raiseH {x mtx : Str} {j : Nat} (hot : L2H.HotC X) (tk : L2.Takes X W) (T : ExcF X.K X.mg x C) (q : P.xc C G S) (hg : Gl X x := by rfl) (hdb : (x == ("__debug__" : Str)) = false := by decide) : WS X W (.Raise (some (.Call (.Name x p) [.Constant (.str mtx) j p2] [] pos)) none pos2) G S P := fun M σ H D s m =>
  toS (L2H.ps_raiseH hot tk (L2N.pmk_own PySem.F.excBase_ValueError T.xC T.gC T.kC (raises_own T.bC T.tC) hg hdb)) (m.xc M σ H G C S Ext.refl s q)
theorem evx_makeN (c : Cxo X W0 k) (tk : L2N.Takes X W) (O : OkCN X.prog X.w X.K X.mg X.base j C n ps drs F) (hj : j + 1 ≤ k) (ha : EvA X (e :: es) G S rs S1) (hl : (.o S1.length :: (rs ++ drs) : List It).length = ps.length)
    (hF : ∀ (QR : It → Sto → Prop) (QE : Addr → Sto → Prop), (∀ S', Qr (.o S1.length) S' → QR (.d .none) S') → (∀ C' S' S2 L, S' = S2 ++ L → S1.length ≤ S2.length → (ClS S' → ClS S2) → Qx C' S2 → QE C' S') → F (.o S1.length :: (rs ++ drs)) (S1 ++ [.ins C []]) QR QE)
    (hg : Gl X n := by rfl) (hdb : (n == ("__debug__" : Str)) = false := by decide)
    (he : starEach (e :: es) X.env = (false, eval e X.env) :: starEach es X.env := by rfl) (hpl : (backTo pos (starEach es X.env)).any (·.1) = false := by rfl) : EvX X W (.Call (.Name n p) (e :: es) [] pos) G S Qr Qx := fun M σ H Q s h1 h2 pins s0 I => by
  obtain ⟨f, fd, dvs, dus, hm, hk, hb, hd, rd, ok⟩ := O.ex
  refine wpAny_Call_Name_kw (ld_glob I hg hm ?_ hdb)
  refine PySem.W.callWith_K (h₀ := X.base) I.ok.mod.kin hk.kp ?_ he hpl
  refine thn ((pa_s (es := e :: es)).run pos pins s0 σ H _ I (ha M σ H (fun vs H1 => ∃ M1, Ext M H M1 H1 ∧ Stt X.K M1 H1 S1 G σ ∧ VReps X.K M1 H1 vs rs) s fun vs M' H' e' s' r' => ⟨M', e', s', r'⟩)) fun us s1 ⟨vs, H1, I1, r1, M1, e1, t1, q1⟩ => ⟨I1.kIn, ?_⟩
  refine run_makeAt (E := eAt W σ) hk ok (c.hr.mono hj) hb hd (fun pins' H' s' e s'' I' cx => L2N.passAt tk σ pins' H' s' e s'' I' cx) I1 r1 fun xa dx hxa hdx hne => ?_
  have hx' : (upd H1 dx (.own xa)) xa = none := by rw [upd_ne (Ne.symm hne)]; exact hxa
  have e2 : Ext M1 H1 M1 (upd H1 dx (.own xa)) := Ext.fresh hdx
  have e3 : Ext M1 (upd H1 dx (.own xa)) (M1 ++ [xa]) (upd (upd H1 dx (.own xa)) xa (.ins C dx [])) := Ext.own hx'
  have s3 : StoreOk X.K (M1 ++ [xa]) (upd (upd H1 dx (.own xa)) xa (.ins C dx [])) (S1 ++ [.ins C []]) := (t1.sto.fresh hdx).own hx' ⟨dx, [], upd_same, .nil⟩
  have hn : (M1 ++ [xa])[S1.length]? = some xa := by rw [← t1.sto.len, List.getElem?_append_right (Nat.le_refl _), Nat.sub_self]; rfl
  have q3 : VReps X.K (M1 ++ [xa]) (upd (upd H1 dx (.own xa)) xa (.ins C dx [])) (.ref xa :: vs) (.o S1.length :: rs) := .cons ⟨xa, hn, rfl⟩ (VReps.ext (e2.trans e3) q1)
  refine spF_of (Qr := fun r S' => r = .d .none ∧ Qr (.o S1.length) S') (Qx := fun C' S' => ∃ S2 L, S' = S2 ++ L ∧ S1.length ≤ S2.length ∧ (ClS S' → ClS S2) ∧ Qx C' S2) s3 q3 rd hl (fun QR QE k1 k2 => hF QR QE (fun S' q => k1 _ _ ⟨rfl, q⟩) fun C' S' S2 L h3 h4 h5 h6 => k2 _ _ ⟨S2, L, h3, h4, h5, h6⟩) (fun v M' H' r S' e4 s4 hv q => ?_) fun M' H' C' S' e4 s4 q => ?_
  · obtain ⟨hr0, q⟩ := q
    rw [hr0] at hv
    refine ⟨vr_none hv, h1 (.ref xa) M' H' (.o S1.length) S' (((e1.trans e2).trans e3).trans e4) (t1.mono ((e2.trans e3).trans e4) s4) ⟨xa, e4.get hn, rfl⟩ q⟩
  · obtain ⟨S2, L, rfl, hle, hcl, q⟩ := q
    have e5 : Ext M1 H1 (M'.take S2.length) H' := ((e2.trans e3).trans e4).take (by rw [t1.sto.len]; exact hle)
    exact h2 _ H' C' S2 (e1.trans e5) (t1.mono e5 (s4.take (hcl s4.closed))) q
/-- the context of a suite that may raise -/
abbrev suXX (X : Cx) (ad : Addr) (oe : Obj) (pn : List (Addr × Obj)) : Cx := L2H.suiteX X ad ((ad, oe) :: pn)
/-- try: .. except x: suite; the suite may raise -/
theorem ws_try_onlyX {x : Str} {c0 : Value} {b₀ : Stmt} (c : Cxo X W k) (hs : X.stack = X.env :: X.outer) (hf : X.env.frame = some X.env.locals) (hc : Names X x c0) (hpa : ∀ hd : Option Value, PassesOwnAt (model X.prog X.w) (X.A.mark hd) X.A X.env X.xe) (Qx : Addr → Gam → Sto → Prop)
    (hb : ∀ (W' : WX) (pn : List (Addr × Obj)) (xe : Value → Shared → Prop), Cxo (trX X pn xe) wNo k → L2N.Takes (trX X pn xe) W' → WSs (trX X pn xe) W' body G S { P with xc := Qx })
    (hsu : ∀ C G' S', Qx C G' S' → PySem.W.exmOne X.K (.ref C) c0 = some true ∧ ∀ (ad : Addr) (oe : Obj) (pn : List (Addr × Obj)), L2N.Zn (.ref C) none oe → (∃ vs, oe.data = .fields vs) → L2.Takes (suXX X ad oe pn) W → L2H.HotC (suXX X ad oe pn) →
      WSs (suXX X ad oe pn) W (b₀ :: suite) G' S' P) : WS X W (.Try body [.ExceptHandler (some (.Name x np)) none (b₀ :: suite) pos'] [] [] pos) G S P := fun M σ H D s m =>
  toS (L2H.ps_try_onlyX (tb := fun W' => fun D σ H => ∀ pn xe, L2N.Takes (X.tr pn xe) W' → PassesOwn (model X.prog X.w) X.A X.env xe → sSs (X.tr pn xe) body D σ H) (ts := fun ad cls d => fun D σ H => ∀ oe pn, L2N.Zn cls d oe → (∃ vs, oe.data = .fields vs) → L2.Takes (suXX X ad oe pn) W → L2H.HotC (suXX X ad oe pn) → sSs (suXX X ad oe pn) (b₀ :: suite) D σ H) hs hf hc hpa c.tk
    (fun W' pn xe tk _ po => ⟨fun pins s1 σ1 H1 D1 I1 h1 => h1 pn xe tk po pins s1 I1⟩) (fun ad oe cls d pn hz hd t2 h2 => ⟨fun pins s1 σ1 H1 D1 I1 h1 => h1 oe pn hz hd t2 h2 pins s1 I1⟩)) (by
    intro pn xe tk po
    refine hb _ pn xe ⟨c.calm, c.nd, takes_none5, po, c.hr⟩ tk M σ H D s ⟨m.nx, m.rt, m.bk, m.ct, fun M' σ' H' G' C S' e1 t1 q1 => ?_⟩
    obtain ⟨h1, h2⟩ := hsu C G' S' q1
    refine ⟨true, h1, fun _ ad had oe pn' hz hd tk2 hot => ?_, fun q => (nomatch q)⟩
    exact h2 ad oe pn' hz hd tk2 hot M' _ H' _ t1 (m.ext e1))
end
end Cu
/-! CvN: upper; join of owned texts; a dict written with four texts for keys. -/
namespace Cu
open PySem PySem.Spec PyProof.Rows L2
section
variable {X : Cx} {W : WX} {k j : Nat} {G : Gam} {S S1 S2 : Sto} {P : Post} {e a b o : Expr} {r : It} {pos apos cpos : Pos} {n : Nat}
theorem ev_upper {x : Str} (ho : Ev X o G S (.d (.str x)) S1) (hz : x.length ≤ 1000000) (hbase : attributeBase o "upper" X.env (eval o X.env) = eval o X.env := by rfl) (hline : (apos.endLine == pos.line) = true := by rfl) : Ev X (.Call (.Attribute o "upper" apos) [] [] pos) G S (.d (.str (Txt.upper x))) S1 := fun M σ H Q s q =>
  toE (pe_upper pe_s hbase hline) (ho M σ H _ s fun v M1 H1 e1 t1 r1 => by
    rw [vr_str r1]
    exact ⟨⟨x, rfl⟩, x, rfl, rfl, by omega, q _ M1 H1 e1 t1 (Fz.str _)⟩)
theorem ev_joinO {x : Str} {ys : List Str} (ho : Ev X o G S (.d (.str x)) S1) (ha : Ev X e G S1 (.o n) S2) (hn : S2[n]? = some (.lst ((ys.map PyData.str).map .d))) (hz : (ys.map (·.length)).sum + ys.length * x.length ≤ 16777216) (hbase : attributeBase o "join" X.env (eval o X.env) = eval o X.env := by rfl)
    (hfew : ((backTo cpos (starEach [e] X.env)).all (fun x => !x.1) && (backToKw cpos (keywordEach [] X.env)).all (fun x => x.1.isSome) && decide ([e].length + ([] : List Keyword).length + (if ([] : List Keyword).isEmpty then 0 else 1) < 30)) = true := by rfl)
    (hline : (apos.endLine == cpos.line) = true := by rfl) (hs : starEach [e] X.env = (false, eval e X.env) :: starEach [] X.env := by rfl) : Ev X (.Call (.Attribute o "join" apos) [e] [] cpos) G S (.d (.str (Txt.join x ys))) S2 :=
  ev_bm PySem.F.plainAttrs_str PySem.F.slot_str_join PySem.F.type_str_join mt_join ho ty_str (eva_cons ha eva_nil hs) (fun M H v vs Q s hv hvs q => by
    obtain ⟨u, rfl, hu⟩ := vr1 hvs
    obtain ⟨ad, h1, rfl⟩ := hu
    obtain ⟨us, h2, h3⟩ := s.rep _ ad _ h1 hn
    rw [vr_str hv]
    refine ⟨x, _, ys, rfl, rfl, .inl ?_, hz, q _ M H Ext.refl s (Fz.str _)⟩
    rw [← fz_strs (fz_all (dsOf_map _) h3)]
    exact .inl (.inl h2)) hbase hfew hline hs rfl
def kS (x : Str) : Key := .inr x
theorem ev_dispS4 {k1 k2 k3 k4 v1 v2 v3 v4 : Str} {i1 i2 i3 i4 j1 j2 j3 j4 : Nat} {p1 p2 p3 p4 q1 q2 q3 q4 : Pos} (hm : mergeK [] [(kS k1, V.str v1), (kS k2, V.str v2), (kS k3, V.str v3), (kS k4, V.str v4)] = [(kS k1, V.str v1), (kS k2, V.str v2), (kS k3, V.str v3), (kS k4, V.str v4)]) :
    Ev X (.Dict [some (.Constant (.str k1) i1 p1), some (.Constant (.str k2) i2 p2), some (.Constant (.str k3) i3 p3), some (.Constant (.str k4) i4 p4)] [.Constant (.str v1) j1 q1, .Constant (.str v2) j2 q2, .Constant (.str v3) j3 q3, .Constant (.str v4) j4 q4] pos) G S (.o S.length)
      (S ++ [.dK [(kS k1, .d (.str v1)), (kS k2, .d (.str v2)), (kS k3, .d (.str v3)), (kS k4, .d (.str v4))]]) := fun M σ H Q s q =>
  toE (pe_disp (pps_cons pe_str pe_str (pps_cons pe_str pe_str (pps_cons pe_str pe_str (pps_cons pe_str pe_str pps_nil)))) rfl rfl (by simp) (Nat.le_of_ble_eq_true rfl)) fun p hp => by
    have e2 : Ext M H (M ++ [p]) (upd H p (.dK [])) := Ext.own hp
    have s2 : StoreOk X.K (M ++ [p]) (upd H p (.dK [])) (S ++ [.dK []]) := s.sto.own hp ⟨[], upd_same, .nil⟩
    have hn : (M ++ [p])[S.length]? = some p := by rw [← s.sto.len, List.getElem?_append_right (Nat.le_refl _), Nat.sub_self]; rfl
    refine ⟨upd_same, [(kS k1, V.str v1), (kS k2, V.str v2), (kS k3, V.str v3), (kS k4, V.str v4)], rfl, Nat.le_of_ble_eq_true rfl, ?_⟩
    rw [hm]
    have e3 : Ext (M ++ [p]) (upd H p (.dK [])) (M ++ [p]) (upd (upd H p (.dK [])) p (.dK [(kS k1, V.str v1), (kS k2, V.str v2), (kS k3, V.str v3), (kS k4, V.str v4)])) := Ext.put (List.mem_of_getElem? hn)
    have fs : ∀ (k v : Str) {Mx : List Addr} {Hx : Hp}, (fun (p : Key × V) (q : Key × It) => p.1 = q.1 ∧ VRep X.K Mx Hx p.2 q.2) (kS k, V.str v) (kS k, .d (.str v)) := fun k v Mx Hx => ⟨rfl, Fz.str v⟩
    have s3 := s2.put (w := .dK [(kS k1, .d (.str v1)), (kS k2, .d (.str v2)), (kS k3, .d (.str v3)), (kS k4, .d (.str v4))]) hn ⟨[(kS k1, V.str v1), (kS k2, V.str v2), (kS k3, V.str v3), (kS k4, V.str v4)], upd_same, .cons (fs k1 v1) (.cons (fs k2 v2) (.cons (fs k3 v3) (.cons (fs k4 v4) .nil)))⟩
    rw [List.set_append_right _ _ (Nat.le_refl _), Nat.sub_self] at s3
    exact q _ _ _ (e2.trans e3) (s.mono (e2.trans e3) s3) ⟨p, hn, rfl⟩
theorem ev_dgetS {i : Nat} {x : Str} {kvs : List (Key × It)} (c : Cxo X W k) (ho : Ev X o G S (.o i) S1) (ha : Ev X a G S1 (.d (.str x)) S2) (hi : S2[i]? = some (.dK kvs)) (hv : valI kvs (kS x) = some r) (hs : NoSl a := by exact fun _ _ => rfl) : Ev X (.Subscript o a pos) G S r S2 := fun M σ H Q s q =>
  toE (pe_dget (u1 c) pe_s pe_s hs) (ho M σ H _ s fun v M1 H1 e1 s1 r1 => ha M1 σ H1 _ s1 fun u M2 H2 e2 s2 r2 => by
    obtain ⟨ad, h0, rfl⟩ := r1.ext e2
    obtain ⟨ps, h1, h2⟩ := s2.sto.rep _ ad _ h0 hi
    rw [vr_str r2]
    rcases prep_val (k := kS x) h2 with ⟨_, z⟩ | ⟨v, r', h3, h4, h5⟩
    · rw [z] at hv; cases hv
    · rw [h4] at hv
      cases hv
      refine ⟨ad, v, rfl, ?_, q _ M2 H2 (e1.trans e2) s2 h5⟩
      rw [← h3]
      exact DGet.k (k := kS x) h1)
end
end Cu
/-! CvO: a call whose one argument is told loosely; if a != b, a told loosely. -/
namespace Cu
open PySem PySem.Spec PyProof.Rows L2
section
variable {X : Cx} {W : WX} {k j : Nat} {G : Gam} {S : Sto} {P : Post} {e a b : Expr} {pos pos' p : Pos} {n : Str} {ps : List Str} {drs : List It} {F : Fn} {Q1 Qr : It → Sto → Prop} {Qx : Addr → Sto → Prop}
theorem evx_call1 (c : Cxo X W k) (O : OkF X.prog X.w X.K X.mg X.base j n ps drs F) (hj : j ≤ k) (ha : EvX X W e G S Q1 Qx)
    (hF : ∀ r S1, Q1 r S1 → ([r] ++ drs).length = ps.length ∧ ∀ (QR : It → Sto → Prop) (QE : Addr → Sto → Prop), (∀ r S', Qr r S' → QR r S') → (∀ C S', Qx C S' → QE C S') → F ([r] ++ drs) S1 QR QE) (hg : Gl X n := by rfl) (hdb : (n == ("__debug__" : Str)) = false := by decide)
    (he : starEach [e] X.env = (false, eval e X.env) :: starEach [] X.env := by rfl) (hpl : (backTo pos (starEach [] X.env)).any (·.1) = false := by rfl) : EvX X W (.Call (.Name n p) [e] [] pos) G S Qr Qx := fun M σ H Q s h1 h2 pins s0 I => by
  obtain ⟨f, fd, dvs, dus, hm, hk, hb, hd, rd, ok⟩ := O.ex
  refine wpAny_Call_Name_kw (ld_glob I hg hm ?_ hdb)
  refine PySem.W.callWith_K (h₀ := X.base) I.ok.mod.kin hk ?_ he hpl
  have arg : sA X [e] σ H (fun vs H1 => ∃ M1 r S1, Ext M H M1 H1 ∧ Stt X.K M1 H1 S1 G σ ∧ VReps X.K M1 H1 vs [r] ∧ Q1 r S1) :=
    toA (pa_cons pe_s pa_nil he) (ha M σ H _ s (fun v M' H' r S' e1 t1 r1 q1 => ⟨M', r, S', e1, t1, .cons r1 .nil, q1⟩) h2)
  refine thn ((pa_s (es := [e])).run pos pins s0 σ H _ I arg) fun us s1 ⟨vs, H1, I1, r1, M1, r, S1, e1, t1, q1, qq⟩ => ⟨I1.kIn, ?_⟩
  obtain ⟨hl, hF2⟩ := hF r S1 qq
  exact run_fnAt (E := eAt W σ) ok (c.hr.mono hj) hb hd (fun e s' cx => passAt c.tk σ pins H1 s1 e s' I1 cx) I1 r1 (spF_of t1.sto q1 rd hl hF2 (fun v M' H' r S' e2 s2 hv q => h1 v M' H' r S' (e1.trans e2) (t1.mono e2 s2) hv q) fun M' H' C S' e2 s2 q => h2 M' H' C S' (e1.trans e2) (t1.mono e2 s2) q)
/-- if a != b: texts -/
theorem ws_ifNeX {pp qq : List Stmt} (ha : EvX X W a G S Q1 Qx) (h : ∀ r S1, Q1 r S1 → ∃ (x y : Str) (S2 : Sto), r = .d (.str x) ∧ Ev X b G S1 (.d (.str y)) S2 ∧ (x ≠ y → WSs X W pp G S2 P) ∧ (x = y → WSs X W qq G S2 P)) (qx : ∀ C S', Qx C S' → P.xc C G S')
    (hm : behindInMarks .NotEq b = false := by first | exact nomark _ | rfl) : WS X W (.If (.Compare a [.NotEq] [b] pos') pp qq pos) G S P := fun M σ H D s m =>
  toS (ps_if pt_s pss_s pss_s) (toT (pt_cmpR op_ne pe_s pe_s hm) (ha M σ H _ s (fun v M1 H1 r S1 e1 s1 r1 q1 => by
    obtain ⟨x, y, S2, rfl, hb, k1, k2⟩ := h r S1 q1
    refine hb M1 σ H1 _ s1 fun u M2 H2 e2 s2 r2 => rw_neS (x := .str x) (y := .str y) (S := S2) rfl rfl rfl M2 H2 v u _ s2.sto (r1.ext e2) r2 fun w M3 H3 e3 s3 r3 => ⟨_, vr_bool r3, ?_⟩
    have t3 : Stt X.K M3 H3 S2 G σ := s2.mono e3 s3
    have m3 := m.ext ((e1.trans e2).trans e3)
    rw [eqS_str]
    by_cases e : x = y
    · rw [decide_eq_true e]
      exact iteF (k2 e M3 σ H3 D t3 m3)
    · rw [decide_eq_false e]
      exact iteT (k1 e M3 σ H3 D t3 m3)) fun M1 H1 C S' e1 t1 q1 => m.xc M1 σ H1 G C S' e1 t1 (qx C S' q1)))
end
end Cu
/-! CwE: arguments, tests whose parts are told loosely. -/
namespace Cu
open PySem PySem.Spec PyProof.Rows L2
/-- the arguments, told loosely -/
def EvAX (X : Cx) (W : WX) (es : List Expr) (G : Gam) (S : Sto) (Qa : List It → Sto → Prop) (Qx : Addr → Sto → Prop) : Prop := ∀ (M : List Addr) (σ : Sig) (H : Hp) (Q : List V → Hp → Prop), Stt X.K M H S G σ →
  (∀ vs M' H' rs S', Ext M H M' H' → Stt X.K M' H' S' G σ → VReps X.K M' H' vs rs → Qa rs S' → Q vs H') → (∀ M' H' C S', Ext M H M' H' → Stt X.K M' H' S' G σ → Qx C S' → W (.ref C) none σ H') → sA X es σ H Q
/-- a test, told loosely -/
def EvTX (X : Cx) (W : WX) (e : Expr) (G : Gam) (S : Sto) (Qb : Bool → Sto → Prop) (Qx : Addr → Sto → Prop) : Prop := ∀ (M : List Addr) (σ : Sig) (H : Hp) (Q : Bool → Hp → Prop), Stt X.K M H S G σ →
  (∀ b M' H' S', Ext M H M' H' → Stt X.K M' H' S' G σ → Qb b S' → Q b H') → (∀ M' H' C S', Ext M H M' H' → Stt X.K M' H' S' G σ → Qx C S' → W (.ref C) none σ H') → sT X e σ H Q
def EvWX (X : Cx) (W : WX) (e : Expr) (G : Gam) (S : Sto) (Qb : Bool → Sto → Prop) (Qx : Addr → Sto → Prop) : Prop := ∀ (M : List Addr) (σ : Sig) (H : Hp) (Q : Bool → Hp → Prop), Stt X.K M H S G σ →
  (∀ b M' H' S', Ext M H M' H' → Stt X.K M' H' S' G σ → Qb b S' → Q b H') → (∀ M' H' C S', Ext M H M' H' → Stt X.K M' H' S' G σ → Qx C S' → W (.ref C) none σ H') → sW X e σ H Q
section
variable {X : Cx} {W : WX} {k j : Nat} {G : Gam} {S S1 : Sto} {P : Post} {e a b : Expr} {es : List Expr} {r : It} {pos p : Pos} {n : Str} {ps : List Str} {drs : List It} {F : Fn} {Q1 Qr : It → Sto → Prop} {Qx : Addr → Sto → Prop} {Qa : List It → Sto → Prop} {Qb Qc : Bool → Sto → Prop} {c0 : Bool}
theorem evax_nil (h : Qa [] S) : EvAX X W [] G S Qa Qx := fun M σ H Q s h1 _ => toA pa_nil (h1 [] M H [] S Ext.refl s .nil h)
theorem evax_cons (h : EvX X W e G S Q1 Qx) (hs : ∀ r S1, Q1 r S1 → EvAX X W es G S1 (fun rs S2 => Qa (r :: rs) S2) Qx) (he : starEach (e :: es) X.env = (false, eval e X.env) :: starEach es X.env := by rfl) : EvAX X W (e :: es) G S Qa Qx := fun M σ H Q s h1 h2 =>
  toA (pa_cons pe_s pa_s he) (h M σ H _ s (fun v M1 H1 r S1 e1 t1 r1 q1 => hs r S1 q1 M1 σ H1 _ t1 (fun vs M2 H2 rs S2 e2 t2 r2 q2 => h1 (v :: vs) M2 H2 (r :: rs) S2 (e1.trans e2) t2 (.cons (r1.ext e2) r2) q2) fun M2 H2 C S2 e2 t2 q2 => h2 M2 H2 C S2 (e1.trans e2) t2 q2) h2)
/-- one argument exactly, the rest loosely -/
theorem evax_con (h : Ev X e G S r S1) (hs : EvAX X W es G S1 (fun rs S2 => Qa (r :: rs) S2) Qx) (he : starEach (e :: es) X.env = (false, eval e X.env) :: starEach es X.env := by rfl) : EvAX X W (e :: es) G S Qa Qx :=
  evax_cons (Ev.ex (Qr := fun r' S' => r' = r ∧ S' = S1) h ⟨rfl, rfl⟩) (fun _ _ ⟨h1, h2⟩ => by rw [h1, h2]; exact hs) he
theorem evx_callX (c : Cxo X W k) (O : OkF X.prog X.w X.K X.mg X.base j n ps drs F) (hj : j ≤ k) (ha : EvAX X W (e :: es) G S Qa Qx)
    (hF : ∀ rs S1, Qa rs S1 → (rs ++ drs).length = ps.length ∧ ∀ (QR : It → Sto → Prop) (QE : Addr → Sto → Prop), (∀ r S', Qr r S' → QR r S') → (∀ C S', Qx C S' → QE C S') → F (rs ++ drs) S1 QR QE) (hg : Gl X n := by rfl) (hdb : (n == ("__debug__" : Str)) = false := by decide)
    (he : starEach (e :: es) X.env = (false, eval e X.env) :: starEach es X.env := by rfl) (hpl : (backTo pos (starEach es X.env)).any (·.1) = false := by rfl) : EvX X W (.Call (.Name n p) (e :: es) [] pos) G S Qr Qx := fun M σ H Q s h1 h2 pins s0 I => by
  obtain ⟨f, fd, dvs, dus, hm, hk, hb, hd, rd, ok⟩ := O.ex
  refine wpAny_Call_Name_kw (ld_glob I hg hm ?_ hdb)
  refine PySem.W.callWith_K (h₀ := X.base) I.ok.mod.kin hk ?_ he hpl
  have arg : sA X (e :: es) σ H (fun vs H1 => ∃ M1 rs S1, Ext M H M1 H1 ∧ Stt X.K M1 H1 S1 G σ ∧ VReps X.K M1 H1 vs rs ∧ Qa rs S1) :=
    ha M σ H _ s (fun vs M' H' rs S' e1 t1 r1 q1 => ⟨M', rs, S', e1, t1, r1, q1⟩) h2
  refine thn ((pa_s (es := e :: es)).run pos pins s0 σ H _ I arg) fun us s1 ⟨vs, H1, I1, r1, M1, rs, S1, e1, t1, q1, qq⟩ => ⟨I1.kIn, ?_⟩
  obtain ⟨hl, hF2⟩ := hF rs S1 qq
  exact run_fnAt (E := eAt W σ) ok (c.hr.mono hj) hb hd (fun e s' cx => passAt c.tk σ pins H1 s1 e s' I1 cx) I1 r1 (spF_of t1.sto q1 rd hl hF2 (fun v M' H' r S' e2 s2 hv q => h1 v M' H' r S' (e1.trans e2) (t1.mono e2 s2) hv q) fun M' H' C S' e2 s2 q => h2 M' H' C S' (e1.trans e2) (t1.mono e2 s2) q)
/-! ### tests -/
theorem evtx_of (h : EvT X e G S c0 S1) (q : Qb c0 S1) : EvTX X W e G S Qb Qx := fun M σ H Q s h1 _ => h M σ H Q s fun M' H' e1 t1 => h1 _ M' H' S1 e1 t1 q
theorem evwx_of (h : EvW X e G S c0 S1) (q : Qb c0 S1) : EvWX X W e G S Qb Qx := fun M σ H Q s h1 _ => h M σ H Q s fun M' H' e1 t1 => h1 _ M' H' S1 e1 t1 q
theorem evtx_val (h : EvX X W e G S Q1 Qx) (hb : ∀ r S', Q1 r S' → ∃ b, r = .d (.bool b) ∧ Qb b S') (he : ∀ whole, isTrue e X.env whole = (do let v ← whole; standAt e.pos; holding [v] (truthy v)) := by intro _; rfl) : EvTX X W e G S Qb Qx := fun M σ H Q s h1 h2 =>
  toT (pt_val pe_s he) (h M σ H _ s (fun v M' H' r S' e1 t1 r1 q1 => by
    obtain ⟨b, rfl, q⟩ := hb r S' q1
    exact ⟨b, vr_bool r1, h1 b M' H' S' e1 t1 q⟩) h2)
theorem evtx_not (h : EvTX X W e G S Qc Qx) (hq : ∀ b S', Qc b S' → Qb (!b) S') : EvTX X W (.UnaryOp .Not e pos) G S Qb Qx := fun M σ H Q s h1 h2 =>
  toT (pt_not pt_s) (h M σ H _ s (fun b M' H' S' e1 t1 q => h1 _ M' H' S' e1 t1 (hq b S' q)) h2)
theorem evtx_w (h : EvWX X W e G S Qb Qx) : EvTX X W e G S Qb Qx := fun M σ H Q s h1 h2 => toT pw_s.pt (h M σ H _ s h1 h2)
theorem evwx_one {op : BoolOp} (h : EvTX X W a G S Qb Qx) (ho : op = .And ∨ op = .Or := by first | exact .inl rfl | exact .inr rfl) : EvWX X W (.BoolOp op [a] pos) G S Qb Qx := fun M σ H Q s h1 h2 => by
  rcases ho with rfl | rfl
  · exact toW (pw_and1 pt_s) (h M σ H _ s h1 h2)
  · exact toW (pw_or1 pt_s) (h M σ H _ s h1 h2)
theorem evwx_or (h : EvTX X W a G S Qc Qx) (ht : ∀ S', Qc true S' → Qb true S') (hf : ∀ S', Qc false S' → EvWX X W (.BoolOp .Or (b :: es) pos) G S' Qb Qx) : EvWX X W (.BoolOp .Or (a :: b :: es) pos) G S Qb Qx := fun M σ H Q s h1 h2 =>
  toW (pw_or pt_s pw_s) (h M σ H _ s (fun c M1 H1 S1 e1 t1 q => by
    cases c with
    | true => exact iteT (h1 true M1 H1 S1 e1 t1 (ht S1 q))
    | false => exact iteF (hf S1 q M1 σ H1 _ t1 (fun b M2 H2 S2 e2 t2 q2 => h1 b M2 H2 S2 (e1.trans e2) t2 q2) fun M2 H2 C S2 e2 t2 q2 => h2 M2 H2 C S2 (e1.trans e2) t2 q2)) h2)
theorem evwx_and (h : EvTX X W a G S Qc Qx) (hf : ∀ S', Qc false S' → Qb false S') (ht : ∀ S', Qc true S' → EvWX X W (.BoolOp .And (b :: es) pos) G S' Qb Qx) : EvWX X W (.BoolOp .And (a :: b :: es) pos) G S Qb Qx := fun M σ H Q s h1 h2 =>
  toW (pw_and pt_s pw_s) (h M σ H _ s (fun c M1 H1 S1 e1 t1 q => by
    cases c with
    | false => exact iteF (h1 false M1 H1 S1 e1 t1 (hf S1 q))
    | true => exact iteT (ht S1 q M1 σ H1 _ t1 (fun b M2 H2 S2 e2 t2 q2 => h1 b M2 H2 S2 (e1.trans e2) t2 q2) fun M2 H2 C S2 e2 t2 q2 => h2 M2 H2 C S2 (e1.trans e2) t2 q2)) h2)
theorem ws_ifX {pp qq : List Stmt} (h : EvTX X W e G S Qb Qx) (h1 : ∀ S1, Qb true S1 → WSs X W pp G S1 P) (h2 : ∀ S1, Qb false S1 → WSs X W qq G S1 P) (qx : ∀ C S', Qx C S' → P.xc C G S') : WS X W (.If e pp qq pos) G S P := fun M σ H D s m =>
  toS (ps_if pt_s pss_s pss_s) (h M σ H _ s (fun c M1 H1 S1 e1 t1 q => by
    cases c with
    | true => exact iteT (h1 S1 q M1 σ H1 D t1 (m.ext e1))
    | false => exact iteF (h2 S1 q M1 σ H1 D t1 (m.ext e1))) fun M1 H1 C S' e1 t1 q1 => m.xc M1 σ H1 G C S' e1 t1 (qx C S' q1))
end
end Cu
/-! CxD: comparisons and lengths of what is told loosely; truths compared. -/
namespace Cu
open PySem PySem.Spec PyProof.Rows L2
section
variable {X : Cx} {W : WX} {k : Nat} {G : Gam} {S S1 S2 : Sto} {a b : Expr} {r r' : It} {pos p : Pos} {Q1 Qr : It → Sto → Prop} {Qx : Addr → Sto → Prop} {Qb : Bool → Sto → Prop} {ds ds' : List PyData}
theorem evx_cmp {op : CmpOp} {rr : R2} (ho : OpR X (compareOp op) rr) (ha : EvX X W a G S Q1 Qx) (h : ∀ r S1, Q1 r S1 → ∃ y S2 z S3, Ev X b G S1 y S2 ∧ RW2 X rr r y S2 z S3 ∧ Qr z S3) (hm : behindInMarks op b = false := by first | exact nomark _ | rfl) : EvX X W (.Compare a [op] [b] pos) G S Qr Qx := fun M σ H Q s h1 h2 =>
  toE (pe_cmpR ho pe_s pe_s hm) (ha M σ H _ s (fun v M1 H1 r S1 e1 s1 r1 q1 => by
    obtain ⟨y, S2, z, S3, hb, hr, q⟩ := h r S1 q1
    exact hb M1 σ H1 _ s1 fun u M2 H2 e2 s2 r2 => hr M2 H2 v u _ s2.sto (r1.ext e2) r2 fun w M3 H3 e3 s3 r3 => h1 w M3 H3 z S3 ((e1.trans e2).trans e3) (s2.mono e3 s3) r3 q) h2)
theorem evtx_cmp {op : CmpOp} {rr : R2} (ho : OpR X (compareOp op) rr) (ha : EvX X W a G S Q1 Qx) (h : ∀ r S1, Q1 r S1 → ∃ y S2 c S3, Ev X b G S1 y S2 ∧ RW2 X rr r y S2 (.d (.bool c)) S3 ∧ Qb c S3) (hm : behindInMarks op b = false := by first | exact nomark _ | rfl) : EvTX X W (.Compare a [op] [b] pos) G S Qb Qx := fun M σ H Q s h1 h2 =>
  toT (pt_cmpR ho pe_s pe_s hm) (ha M σ H _ s (fun v M1 H1 r S1 e1 s1 r1 q1 => by
    obtain ⟨y, S2, z, S3, hb, hr, q⟩ := h r S1 q1
    exact hb M1 σ H1 _ s1 fun u M2 H2 e2 s2 r2 => hr M2 H2 v u _ s2.sto (r1.ext e2) r2 fun w M3 H3 e3 s3 r3 => ⟨_, vr_bool r3, h1 z M3 H3 S3 ((e1.trans e2).trans e3) (s2.mono e3 s3) q⟩) h2)
theorem rw_eqLs (hr : lsOf S r = some ds) (hr' : lsOf S r' = some ds') (hx : SeqAt.shaped (.list ds) = true) (hy : SeqAt.shaped (.list ds') = true) : RW2 X (rEqD X.K) r r' S (.d (.bool (PyData.eqv (.list ds) (.list ds')))) S := fun M H v u Q s hv hu q => by
  obtain ⟨ad, xs, rfl, h1, h2⟩ := ls_rd s hv hr
  obtain ⟨bd, ys, rfl, h3, h4⟩ := ls_rd s hu hr'
  exact ⟨_, _, dp_list h1 h2, dp_list h3 h4, hx, hy, q _ M H Ext.refl s (Fz.bl _)⟩
theorem rw_neLs (hr : lsOf S r = some ds) (hr' : lsOf S r' = some ds') (hx : SeqAt.shaped (.list ds) = true) (hy : SeqAt.shaped (.list ds') = true) : RW2 X (rNeD X.K) r r' S (.d (.bool (!PyData.eqv (.list ds) (.list ds')))) S := fun M H v u Q s hv hu q => by
  obtain ⟨ad, xs, rfl, h1, h2⟩ := ls_rd s hv hr
  obtain ⟨bd, ys, rfl, h3, h4⟩ := ls_rd s hu hr'
  exact ⟨_, _, dp_list h1 h2, dp_list h3 h4, hx, hy, q _ M H Ext.refl s (Fz.bl _)⟩
/-- len of what is told loosely -/
theorem evx_len (hm : X.mg "len" = none) (ha : EvX X W a G S Q1 Qx) (h : ∀ r S1, Q1 r S1 → ∃ l, lenOf S1 r = some l ∧ Qr (.d (.int (l : Nat))) S1) (hg : Gl X "len" := by rfl) (he : starEach [a] X.env = (false, eval a X.env) :: starEach [] X.env := by rfl) : EvX X W (.Call (.Name "len" p) [a] [] pos) G S Qr Qx :=
  evx_blt call_len_seq hm PySem.boot_len ha (fun r S' q => by
    obtain ⟨l, hl, q⟩ := h r S' q
    exact ⟨_, _, rw_len hl, q⟩) hg (by decide) (by decide) he
theorem ev_inD {x : PyData} (c : Cxo X W k) (ha : Ev X a G S (.d x) S1) (hb : Ev X b G S1 r S2) (hr : lsOf S2 r = some ds) (hx : SeqAt.shaped x = true) (hd : SeqAt.shaped (.list ds) = true) (hm : behindInMarks .In b = false := by rfl) : Ev X (.Compare a [.In] [b] pos) G S (.d (.bool (ds.any fun z => PyData.eqv z x))) S2 := ev_cmp (op_inD (by have := c.hr.un; omega)) ha hb (fun M H v u Q s hv hw q => by
  obtain ⟨ad, xs, rfl, h1, h2⟩ := ls_rd s hw hr
  exact ⟨x, ds, Fz.dp hv, dp_list h1 h2, hx, hd, q _ M H Ext.refl s (Fz.bl _)⟩) hm
theorem eqS_bool {x y : Bool} : eqS (.bool x) (.bool y) = (x == y) := by
  unfold eqS
  cases x <;> cases y <;> decide
theorem evt_neB {x y : Bool} (ha : Ev X a G S (.d (.bool x)) S1) (hb : Ev X b G S1 (.d (.bool y)) S2) : EvT X (.Compare a [.NotEq] [b] pos) G S (!(x == y)) S2 := by rw [← eqS_bool]; exact evt_cmp op_ne ha hb (rw_neS rfl rfl rfl)
theorem evt_eqB {x y : Bool} (ha : Ev X a G S (.d (.bool x)) S1) (hb : Ev X b G S1 (.d (.bool y)) S2) : EvT X (.Compare a [.Eq] [b] pos) G S (x == y) S2 := by rw [← eqS_bool]; exact evt_cmp op_eq ha hb (rw_eqS rfl rfl rfl)
theorem ev_eqB {x y : Bool} (ha : Ev X a G S (.d (.bool x)) S1) (hb : Ev X b G S1 (.d (.bool y)) S2) : Ev X (.Compare a [.Eq] [b] pos) G S (.d (.bool (x == y))) S2 := by rw [← eqS_bool]; exact ev_cmp op_eq ha hb (rw_eqS rfl rfl rfl)
end
end Cu
/-! CzE: lists and tuples, owned or not, and what is walked and unpacked of them; comparisons whose second part may raise. -/
namespace Cu
open PySem PySem.Spec PyProof.Rows L2
/-- the items of a tuple, owned or not -/
def tupOf (S : Sto) : It → Option (List It)
  | .d (.tuple ds) => some (ds.map .d)
  | .o t => match S[t]? with
    | some (.tup rs) => some rs
    | _ => none
  | _ => none
/-- the items of a list, owned or not -/
def itsOf (S : Sto) : It → Option (List It)
  | .d (.list ds) => some (ds.map .d)
  | .o t => match S[t]? with
    | some (.lst rs) => some rs
    | _ => none
  | _ => none
theorem tup_inv {S : Sto} {r : It} {rs : List It} (h : tupOf S r = some rs) : (∃ ds, r = .d (.tuple ds) ∧ rs = ds.map .d) ∨ ∃ t, r = .o t ∧ S[t]? = some (.tup rs) := by
  cases r with
  | d x =>
    cases x with
    | tuple ds => cases h; exact .inl ⟨ds, rfl, rfl⟩
    | _ => cases h
  | o t =>
    refine .inr ⟨t, rfl, ?_⟩
    have h : (match S[t]? with | some (.tup rs) => some rs | _ => none) = some rs := h
    cases e : S[t]? with
    | none => rw [e] at h; cases h
    | some w =>
      rw [e] at h
      cases w with
      | tup xs => cases h; rfl
      | _ => cases h
  | _ => cases h
theorem its_inv {S : Sto} {r : It} {rs : List It} (h : itsOf S r = some rs) : (∃ ds, r = .d (.list ds) ∧ rs = ds.map .d) ∨ ∃ t, r = .o t ∧ S[t]? = some (.lst rs) := by
  cases r with
  | d x =>
    cases x with
    | list ds => cases h; exact .inl ⟨ds, rfl, rfl⟩
    | _ => cases h
  | o t =>
    refine .inr ⟨t, rfl, ?_⟩
    have h : (match S[t]? with | some (.lst rs) => some rs | _ => none) = some rs := h
    cases e : S[t]? with
    | none => rw [e] at h; cases h
    | some w =>
      rw [e] at h
      cases w with
      | lst xs => cases h; rfl
      | _ => cases h
  | _ => cases h
theorem tup_own {S : Sto} {t : Nat} {rs : List It} (h : S[t]? = some (.tup rs)) : tupOf S (.o t) = some rs := by
  show (match S[t]? with | some (.tup rs) => some rs | _ => none) = _
  rw [h]
theorem its_own {S : Sto} {t : Nat} {rs : List It} (h : S[t]? = some (.lst rs)) : itsOf S (.o t) = some rs := by
  show (match S[t]? with | some (.lst rs) => some rs | _ => none) = _
  rw [h]
theorem tup_app {S : Sto} {r : It} {rs : List It} (h : tupOf S r = some rs) (L : Sto) : tupOf (S ++ L) r = some rs := by
  rcases tup_inv h with ⟨ds, rfl, rfl⟩ | ⟨t, rfl, e⟩
  · rfl
  · exact tup_own (by rw [List.getElem?_append_left (List.getElem?_eq_some_iff.mp e).1]; exact e)
theorem its_app {S : Sto} {r : It} {rs : List It} (h : itsOf S r = some rs) (L : Sto) : itsOf (S ++ L) r = some rs := by
  rcases its_inv h with ⟨ds, rfl, rfl⟩ | ⟨t, rfl, e⟩
  · rfl
  · exact its_own (by rw [List.getElem?_append_left (List.getElem?_eq_some_iff.mp e).1]; exact e)
theorem its_len {S : Sto} {r : It} {rs : List It} (h : itsOf S r = some rs) : lenOf S r = some rs.length := by
  rcases its_inv h with ⟨ds, rfl, rfl⟩ | ⟨t, rfl, e⟩
  · show some ds.length = _
    rw [List.length_map]
  · exact len_own e
theorem its_ls {S : Sto} {r : It} {ds : List PyData} (h : lsOf S r = some ds) : itsOf S r = some (ds.map .d) := by
  rcases ls_inv h with rfl | ⟨n, rfl, e⟩
  · rfl
  · exact its_own e
/-- a target of a comprehension that may look at the store -/
structure TgOkS (X : Cx) (scope : Scope) (tg : Expr) (vs : List Nat) (bind : It → Sto → Gam → Option Gam) : Prop where
  ex : ∃ g : TG, (∀ s H C cl fp, PG (blkX X scope s H C cl fp) tg g) ∧ ∀ (M : List Addr) (H : Hp) (S : Sto) (G G' : Gam) (σ : Sig) (v : V) (r : It) (Q : Sig → Hp → Prop), Stt X.K M H S G σ → VRep X.K M H v r → bind r S G = some G' →
    (∀ σ2, Stt X.K M H S G' σ2 → wipe σ2 vs = wipe σ vs → Q σ2 H) → g v σ H Q
section
variable {X : Cx} {W : WX} {k : Nat} {G G1 : Gam} {S S1 S2 : Sto} {rs : List It} {e a b elt tg iter : Expr} {es ifs : List Expr} {scope : Scope} {own : List (Str × Nat)} {vs : List Nat} {pos pos' p : Pos} {r : It} {Q1 Qr : It → Sto → Prop} {Qx : Addr → Sto → Prop} {Qb : Bool → Sto → Prop}
theorem TgOk.toS {bind : It → Gam → Option Gam} (h : TgOk X scope tg vs bind) : TgOkS X scope tg vs fun r _ => bind r := ⟨h.ex⟩
/-- (a, b, ..), of a tuple owned or not -/
def bindT (is : List Nat) (r : It) (S : Sto) (G : Gam) : Option Gam := (tupOf S r).bind fun rs => setAll is rs G
theorem setAll_len : ∀ {is : List Nat} {rs : List It} {G G' : Gam}, setAll is rs G = some G' → rs.length = is.length
  | [], [], _, _, _ => rfl
  | [], _ :: _, _, _, h => nomatch h
  | _ :: _, [], _, _, h => nomatch h
  | _ :: is, _ :: rs, _, _, h => congrArg Nat.succ (setAll_len (is := is) (rs := rs) h)
theorem tgS_tup {j : Nat} (is : List Nat) (hc : X.calm = true) (hp : ∀ s H C cl fp, PGs (blkX X scope s H C cl fp) es (gNames is)) (hv : ∀ i ∈ is, i ∈ vs := by decide) (hn : ∀ s H C cl fp, (assignEach es (blkX X scope s H C cl fp).env).length = is.length := by intros; rfl)
    (hst : ∀ s H C cl fp, (assignEach es (blkX X scope s H C cl fp).env).findIdx? (·.1) = none := by intros; rfl) : TgOkS X scope (.Tuple es j pos) vs (bindT is) := by
  refine ⟨gTup X.K is.length (gNames is), fun s H C cl fp => pg_tup (X := blkX X scope s H C cl fp) hc (hp s H C cl fp) (hn s H C cl fp) (hst s H C cl fp), fun M H S G G' σ v r Q t hr hb q => ?_⟩
  unfold bindT at hb
  cases e : tupOf S r with
  | none => rw [e] at hb; cases hb
  | some rs =>
    rw [e] at hb
    have hb : setAll is rs G = some G' := hb
    have hl := setAll_len hb
    rcases tup_inv e with ⟨ds, rfl, rfl⟩ | ⟨t', rfl, et⟩
    · have hr' : Fz M H v (.tuple ds) := hr
      cases hr' with
      | tup hT hA =>
        rw [List.length_map] at hl
        exact ⟨_, _, rfl, hT.sq, (fz_len hA).trans hl, gNames_ok hv t (fz_reps hA) hb q⟩
    · obtain ⟨ad, ha, rfl⟩ := hr
      obtain ⟨us, h1, h2, _⟩ := t.sto.rep t' ad _ ha et
      exact ⟨_, _, rfl, .of h1, h2.len.trans hl, gNames_ok hv t h2 hb q⟩
/-- the items of a list, owned or not, are walked -/
theorem evi_its (hi : Ev X iter G S r S1) (h : itsOf S1 r = some rs) : EvI X tg iter G S rs (fun S' => itsOf S' r = some rs) S1 := by
  rcases its_inv h with ⟨ds, rfl, rfl⟩ | ⟨t, rfl, e⟩
  · obtain ⟨wi, h1, h2⟩ := evi_list (tg := tg) hi
    exact ⟨wi, h1, fun M σ H R s q => h2 M σ H R s fun M1 H1 J e1 t1 wk => q M1 H1 J e1 t1 ⟨fun i M' H' S' hi he hs hc => wk.go i M' H' S' hi he hs trivial, fun i M' H' S' x H2 r hr he hs hc y => wk.yl i M' H' S' x H2 r hr he hs trivial y, fun i M' H' S' hi he hs hc => wk.st i M' H' S' hi he hs trivial⟩⟩
  · obtain ⟨wi, h1, h2⟩ := evi_own (tg := tg) hi e
    have cv : ∀ S', itsOf S' (.o t) = some rs → S'[t]? = some (.lst rs) := fun S' h' => by
      rcases its_inv h' with ⟨ds, z, _⟩ | ⟨t', z, e'⟩
      · cases z
      · cases z; exact e'
    exact ⟨wi, h1, fun M σ H R s q => h2 M σ H R s fun M1 H1 J e1 t1 wk => q M1 H1 J e1 t1 ⟨fun i M' H' S' hi he hs hc => wk.go i M' H' S' hi he hs (cv _ hc), fun i M' H' S' x H2 r hr he hs hc y => wk.yl i M' H' S' x H2 r hr he hs (cv _ hc) y, fun i M' H' S' hi he hs hc => wk.st i M' H' S' hi he hs (cv _ hc)⟩⟩
/-- t[i] of a tuple, owned or not -/
theorem ev_ixTA {n : Int} {d : It} (ha : Ev X a G S r S1) (hb : Ev X b G S1 (.d (.int n)) S2) (hr : tupOf S2 r = some rs) (h : atI rs n = some d) (hs : PlainIx b := by exact fun _ _ => rfl) : Ev X (.Subscript a b pos) G S d S2 := by
  rcases tup_inv hr with ⟨ds, rfl, rfl⟩ | ⟨t, rfl, e⟩
  · have h' : ∃ x, atI ds n = some x ∧ d = .d x := by
      unfold atI at h ⊢
      rw [List.length_map] at h
      cases q : ixN ds.length n with
      | none => rw [q] at h; cases h
      | some l =>
        rw [q] at h
        have h : (ds.map It.d)[l]? = some d := h
        rw [List.getElem?_map] at h
        cases q2 : ds[l]? with
        | none => rw [q2] at h; cases h
        | some x => rw [q2] at h; cases h; exact ⟨x, q2, rfl⟩
    obtain ⟨x, hx, rfl⟩ := h'
    exact ev_ixT ha hb hx hs
  · exact ev_ixTO ha hb e h hs
/-- a target of a tuple, owned or not -/
theorem evg_tupA {j : Nat} (hc : X.calm = true) (hi : tupOf S r = some rs) (h : EvGs X es rs G S G1 S1) (hn : (assignEach es X.env).length = rs.length) (hst : (assignEach es X.env).findIdx? (·.1) = none := by rfl) : EvG X (.Tuple es j pos) r G S G1 S1 := by
  rcases tup_inv hi with ⟨ds, rfl, rfl⟩ | ⟨t, rfl, e⟩
  · exact evg_tup hc h (by rw [hn, List.length_map]) hst
  · exact evg_tupO hc e h hn hst
theorem lc_readsS {bind : It → Sto → Gam → Option Gam} {out : List PyData} {C : Sto → Prop} (c : Cxo X W k) (hi : EvI X tg iter G S rs C S1) (ht : TgOkS X scope tg (own.map (·.2)) bind) (J : Nat → List PyData → Sto → Prop) (h0 : J 0 [] S1) (hC : ∀ i acc S', J i acc S' → ∀ L, C (S' ++ L))
    (hs : ∀ i r acc S', rs[i]? = some r → J i acc S' → S'.length = S1.length → ∃ G' b, (∀ L, bind r (S' ++ L) (wipeG G (own.map (·.2))) = some G') ∧ (∀ L s H C cl fp, EvTs (blkX X scope s H C cl fp) ifs G' (S' ++ L) b) ∧
      (b = true → ∃ y S3, S3.length = S1.length ∧ (∀ L s H C cl fp, Ev (blkX X scope s H C cl fp) elt G' (S' ++ L) (.d y) (S3 ++ L)) ∧ J (i + 1) (acc ++ [y]) S3) ∧ (b = false → J (i + 1) acc S'))
    (hd : ∀ acc S', J rs.length acc S' → acc = out ∧ S' = S2) (hz : rs.length ≤ 1000000) (hcl : ClS S1 → ClS S2) :
    ∃ (wi : TI) (g : TG), PI X tg iter wi ∧ (∀ s H C cl fp, PG (blkX X scope s H C cl fp) tg g) ∧ ∀ (M : List Addr) (σ : Sig) (H : Hp) (Q : VK), Stt X.K M H S G σ → (∀ v M' H', Ext M H M' H' → Stt X.K M' H' S2 G σ → VRep X.K M' H' v (.d (.list out)) → Q v H') →
      tLc wi g (tTs X scope ifs) (tEl X scope elt) (own.map (·.2)) σ H Q := by
  obtain ⟨g, hpg, hg⟩ := ht.ex
  obtain ⟨wi, hpi, hw⟩ := hi
  refine ⟨wi, g, hpi, hpg, fun M σ H Q s q => hw M σ H _ s fun M1 H1 Jt e1 t1 wk => ?_⟩
  intro D hD
  have eD : Ext M1 H1 (M1 ++ [D]) (upd H1 D (.lst [])) := Ext.own hD
  have lenM : ∀ {M' : List Addr} {H' : Hp} {S' : Sto} {acc : List PyData}, StoreOk X.K M' H' (S' ++ [Own.lst (acc.map .d)]) → S'.length = S1.length → Ext (M1 ++ [D]) (upd H1 D (.lst [])) M' H' → M' = M1 ++ [D] := fun {M' H' S' acc} s' hl e' => by
    obtain ⟨L, eL⟩ := e'.pre
    have h1 := s'.len
    rw [eL, List.length_append, List.length_append, List.length_append, t1.sto.len] at h1
    have h2 : L.length = 0 := by
      have : [D].length = 1 := rfl
      have : [Own.lst (acc.map .d)].length = 1 := rfl
      omega
    rw [eL, List.eq_nil_of_length_eq_zero h2, List.append_nil]
  have ww : ∀ (vs us : List Nat) (σ : Sig), (∀ v ∈ us, v ∈ vs) → wipe (wipe σ us) vs = wipe σ vs := by
    intro vs us
    induction us with
    | nil => intro σ _; rfl
    | cons u r ih =>
      intro σ hm
      show wipe ((wipe σ r).set u none) vs = _
      rw [wipe_set _ (hm u List.mem_cons_self), ih σ fun v hv => hm v (List.mem_cons_of_mem _ hv)]
  have hDn : (M1 ++ [D])[S1.length]? = some D := by rw [← t1.sto.len, List.getElem?_append_right (Nat.le_refl _), Nat.sub_self]; rfl
  refine ⟨fun i m' H' => (m' = rs.length - i ∧ i ≤ rs.length) ∧ ∃ S' acc, S'.length = S1.length ∧ Ext (M1 ++ [D]) (upd H1 D (.lst [])) (M1 ++ [D]) H' ∧ Stt X.K (M1 ++ [D]) H' (S' ++ [.lst (acc.map .d)]) G σ ∧ acc.length ≤ i ∧ J i acc S',
    ⟨_, ⟨rfl, Nat.zero_le _⟩, S1, [], rfl, Ext.refl, t1.mono eD (t1.sto.own (w := .lst ([] : List It)) hD ⟨[], upd_same, .nil⟩), Nat.le_refl _, h0⟩, fun i m' H' hw' => ?_⟩
  obtain ⟨⟨rfl, hi'⟩, S', acc, hl', e', t', hacc, hJ⟩ := hw'
  have cS := hC i acc S' hJ [.lst (acc.map .d)]
  by_cases hlt : i < rs.length
  · refine .inr ⟨wk.go i _ H' _ hlt (eD.trans e') t'.sto cS, fun H2 => ∃ S' acc, S'.length = S1.length ∧ Ext (M1 ++ [D]) (upd H1 D (.lst [])) (M1 ++ [D]) H2 ∧ Stt X.K (M1 ++ [D]) H2 (S' ++ [.lst (acc.map .d)]) G σ ∧ acc.length ≤ i + 1 ∧ J (i + 1) acc S', fun H2 q => ⟨rs.length - (i + 1), by omega, ⟨rfl, by omega⟩, q⟩, fun x H2 y => ?_⟩
    have hri : rs[i]? = some rs[i] := List.getElem?_eq_getElem hlt
    obtain ⟨ey, sy, vy⟩ := wk.yl i _ H' _ x H2 _ hri (eD.trans e') t'.sto cS y
    have ty : Stt X.K (M1 ++ [D]) H2 (S' ++ [.lst (acc.map .d)]) G σ := t'.mono ey sy
    have e2 := e'.trans ey
    obtain ⟨G', b, hb, hT, hy, hn⟩ := hs i _ acc S' hri hJ hl'
    refine hg (M1 ++ [D]) H2 (S' ++ [.lst (acc.map .d)]) (wipeG G (own.map (·.2))) G' (wipe σ (own.map (·.2))) x rs[i] _ (ty.wipe _) vy (hb _) ?_
    intro σ2 t2 w2
    refine ⟨w2.trans (ww _ _ _ fun _ h => h), ?_⟩
    -- behind the tests
    have fin : ∀ (H3 : Hp), Ext (M1 ++ [D]) H2 (M1 ++ [D]) H3 → Stt X.K (M1 ++ [D]) H3 (S' ++ [.lst (acc.map .d)]) G' σ2 → (if b = true then tEl X scope elt σ2 H3 fun y H4 => ∃ acc, H4 D = some (.lst acc) ∧ acc.length < sizeLine ∧ ∃ S' acc_1, S'.length = S1.length ∧ Ext (M1 ++ [D]) (upd H1 D (.lst [])) (M1 ++ [D]) (upd H4 D (.lst (acc ++ [y]))) ∧ Stt X.K (M1 ++ [D]) (upd H4 D (.lst (acc ++ [y]))) (S' ++ [.lst (acc_1.map .d)]) G σ ∧ acc_1.length ≤ i + 1 ∧ J (i + 1) acc_1 S'
        else ∃ S' acc, S'.length = S1.length ∧ Ext (M1 ++ [D]) (upd H1 D (.lst [])) (M1 ++ [D]) H3 ∧ Stt X.K (M1 ++ [D]) H3 (S' ++ [.lst (acc.map .d)]) G σ ∧ acc.length ≤ i + 1 ∧ J (i + 1) acc S') := by
      intro H3 e3 t3
      cases b with
      | false => exact iteF ⟨S', acc, hl', e2.trans e3, ty.mono e3 t3.sto, Nat.le_succ_of_le hacc, hn rfl⟩
      | true =>
        refine iteT fun s0 H0 C cl fp => ?_
        obtain ⟨y, S3, hl3, hE, hJ3⟩ := hy rfl
        refine hE [.lst (acc.map .d)] s0 H0 C cl fp (M1 ++ [D]) σ2 H3 _ t3 fun v4 M4 H4 e4 t4 r4 => ?_
        obtain rfl : M4 = M1 ++ [D] := lenM t4.sto hl3 ((e2.trans e3).trans e4)
        have hSn : (S3 ++ [Own.lst (acc.map .d)])[S1.length]? = some (.lst (acc.map .d)) := by rw [← hl3, List.getElem?_append_right (Nat.le_refl _), Nat.sub_self]; rfl
        obtain ⟨vs4, hv4, hr4⟩ := t4.sto.rep _ _ _ hDn hSn
        have hl4 : vs4.length = acc.length := by rw [hr4.len, List.length_map]
        have e5 : Ext (M1 ++ [D]) H4 (M1 ++ [D]) (upd H4 D (.lst (vs4 ++ [v4]))) := Ext.put (List.mem_of_getElem? hDn)
        have s5 := t4.sto.put (w := .lst ((acc ++ [y]).map .d)) hDn ⟨vs4 ++ [v4], upd_same, by
          rw [List.map_append]
          exact VReps.append (VReps.ext e5 hr4) (.cons (r4.ext e5) .nil)⟩
        have hset : (S3 ++ [Own.lst (acc.map It.d)]).set S1.length (.lst ((acc ++ [y]).map .d)) = S3 ++ [.lst ((acc ++ [y]).map .d)] := by
          rw [← hl3, List.set_append_right _ _ (Nat.le_refl _), Nat.sub_self]
          rfl
        rw [hset] at s5
        refine ⟨vs4, hv4, ?_, S3, acc ++ [y], hl3, ((e2.trans e3).trans e4).trans e5, ty.mono ((e3.trans e4).trans e5) s5, by rw [List.length_append]; exact Nat.succ_le_succ hacc, hJ3⟩
        rw [sizeLine_eq]
        omega
    intro s0 H0 C cl fp
    have hT' := hT [.lst (acc.map .d)] s0 H0 C cl fp
    cases ifs with
    | nil =>
      have hb1 : b = true := hT'
      have f0 := fin H2 Ext.refl t2
      rw [hb1] at f0
      exact f0
    | cons tt r =>
      cases r with
      | nil =>
        refine hT' (M1 ++ [D]) σ2 H2 _ t2 fun M4 H4 e4 t4 => ?_
        obtain rfl : M4 = M1 ++ [D] := lenM t4.sto hl' (e2.trans e4)
        exact fin H4 e4 t4
      | cons _ _ => exact hT'.elim
  · have ei : i = rs.length := by omega
    subst ei
    refine .inl ⟨wk.st _ _ H' _ (Nat.le_refl _) (eD.trans e') t'.sto cS, ?_⟩
    obtain ⟨rfl, rfl⟩ := hd acc S' hJ
    have hSn : (S' ++ [Own.lst (acc.map .d)])[S1.length]? = some (.lst (acc.map .d)) := by rw [← hl', List.getElem?_append_right (Nat.le_refl _), Nat.sub_self]; rfl
    obtain ⟨vs4, hv4, hr4⟩ := t'.sto.rep _ _ _ hDn hSn
    have eT : (M1 ++ [D]).take S'.length = M1 := by rw [hl', ← t1.sto.len]; exact List.take_left ..
    have s6 := t'.sto.take (hcl t1.sto.closed)
    rw [eT] at s6
    have e6 : Ext M1 H1 M1 H' := by
      have := (eD.trans e').take (n := M1.length) (Nat.le_refl _)
      rwa [List.take_left] at this
    have hds : ∀ acc : List PyData, ds? (acc.map It.d) = some acc := by
      intro acc
      induction acc with
      | nil => rfl
      | cons x r ih => show (ds? (r.map It.d)).map (x :: ·) = _; rw [ih]; rfl
    exact q (.ref D) M1 H' (e1.trans e6) (t1.mono e6 s6) (Fz.lst ⟨.inl hv4, t1.sto.nin hD⟩ (FzAll.less (fun _ h => List.mem_append_left _ h) (fz_all (hds acc) hr4)))
theorem lc_pureS {bind : It → Sto → Gam → Option Gam} {C : Sto → Prop} (c : Cxo X W k) (hi : EvI X tg iter G S rs C S1) (ht : TgOkS X scope tg (own.map (·.2)) bind) (f : It → Bool) (gg : It → PyData) (hC : ∀ L, C (S1 ++ L))
    (hs : ∀ r ∈ rs, ∃ G', (∀ L, bind r (S1 ++ L) (wipeG G (own.map (·.2))) = some G') ∧ (∀ L s H C cl fp, EvTs (blkX X scope s H C cl fp) ifs G' (S1 ++ L) (f r)) ∧ (f r = true → ∀ L s H C cl fp, Ev (blkX X scope s H C cl fp) elt G' (S1 ++ L) (.d (gg r)) (S1 ++ L))) (hz : rs.length ≤ 1000000) :
    LcOk X scope own elt tg iter ifs G S ((rs.filter f).map gg) S1 := by
  refine ⟨lc_readsS c hi ht (fun i acc S' => S' = S1 ∧ acc = ((rs.take i).filter f).map gg) ⟨rfl, rfl⟩ (fun i acc S' h L => by rw [h.1]; exact hC L) (fun i r acc S' hr hJ _ => ?_) (fun acc S' hJ => ?_) hz fun h => h⟩
  · obtain ⟨rfl, rfl⟩ := hJ
    obtain ⟨G', h1, h2, h3⟩ := hs r (List.mem_of_getElem? hr)
    have et : rs.take (i + 1) = rs.take i ++ [r] := by rw [List.take_add_one, hr]; rfl
    refine ⟨G', f r, h1, h2, fun hf => ⟨gg r, S', rfl, h3 hf, rfl, ?_⟩, fun hf => ⟨rfl, ?_⟩⟩
    · rw [et, List.filter_append, List.map_append]
      congr 1
      simp [hf]
    · rw [et, List.filter_append]
      simp [hf]
  · obtain ⟨rfl, rfl⟩ := hJ
    rw [List.take_length]
    exact ⟨rfl, rfl⟩
theorem lc_ownS {bind : It → Sto → Gam → Option Gam} {C : Sto → Prop} (c : Cxo X W k) (hi : EvI X tg iter G S rs C S1) (ht : TgOkS X scope tg (own.map (·.2)) bind) (J : Nat → Sto → Prop) (h0 : J 0 (S1 ++ [.lst []])) (hC : ∀ i S', J i S' → C S')
    (hs : ∀ i r S', rs[i]? = some r → J i S' → ∃ G' b, bind r S' (wipeG G (own.map (·.2))) = some G' ∧ (∀ s H C cl fp, EvTs (blkX X scope s H C cl fp) ifs G' S' b) ∧
      (b = true → ∃ y S3 acc, (∀ s H C cl fp, Ev (blkX X scope s H C cl fp) elt G' S' y S3) ∧ S3[S1.length]? = some (.lst acc) ∧ acc.length < 1000000 ∧ J (i + 1) (S3.set S1.length (.lst (acc ++ [y])))) ∧ (b = false → J (i + 1) S'))
    (hd : ∀ S', J rs.length S' → S' = S2) : LcOwn X scope own elt tg iter ifs G S S1.length S2 := by
  obtain ⟨g, hpg, hg⟩ := ht.ex
  obtain ⟨wi, hpi, hw⟩ := hi
  refine ⟨wi, g, hpi, hpg, fun M σ H Q s q => hw M σ H _ s fun M1 H1 Jt e1 t1 wk => ?_⟩
  intro D hD
  have eD : Ext M1 H1 (M1 ++ [D]) (upd H1 D (.lst [])) := Ext.own hD
  have ww : ∀ (vs us : List Nat) (σ : Sig), (∀ v ∈ us, v ∈ vs) → wipe (wipe σ us) vs = wipe σ vs := by
    intro vs us
    induction us with
    | nil => intro σ _; rfl
    | cons u r ih =>
      intro σ hm
      show wipe ((wipe σ r).set u none) vs = _
      rw [wipe_set _ (hm u List.mem_cons_self), ih σ fun v hv => hm v (List.mem_cons_of_mem _ hv)]
  have hDn : (M1 ++ [D])[S1.length]? = some D := by rw [← t1.sto.len, List.getElem?_append_right (Nat.le_refl _), Nat.sub_self]; rfl
  refine ⟨fun i m' H' => (m' = rs.length - i ∧ i ≤ rs.length) ∧ ∃ M' S', Ext (M1 ++ [D]) (upd H1 D (.lst [])) M' H' ∧ Stt X.K M' H' S' G σ ∧ J i S',
    ⟨_, ⟨rfl, Nat.zero_le _⟩, M1 ++ [D], _, Ext.refl, t1.mono eD (t1.sto.own (w := .lst ([] : List It)) hD ⟨[], upd_same, .nil⟩), h0⟩, fun i m' H' hw' => ?_⟩
  obtain ⟨⟨rfl, hi'⟩, M', S', e', t', hJ⟩ := hw'
  have cS := hC i S' hJ
  by_cases hlt : i < rs.length
  · refine .inr ⟨wk.go i _ H' _ hlt (eD.trans e') t'.sto cS, fun H2 => ∃ M2 S2, Ext (M1 ++ [D]) (upd H1 D (.lst [])) M2 H2 ∧ Stt X.K M2 H2 S2 G σ ∧ J (i + 1) S2, fun H2 q => ⟨rs.length - (i + 1), by omega, ⟨rfl, by omega⟩, q⟩, fun x H2 y => ?_⟩
    have hri : rs[i]? = some rs[i] := List.getElem?_eq_getElem hlt
    obtain ⟨ey, sy, vy⟩ := wk.yl i _ H' _ x H2 _ hri (eD.trans e') t'.sto cS y
    have ty : Stt X.K M' H2 S' G σ := t'.mono ey sy
    have e2 := e'.trans ey
    obtain ⟨G', b, hb, hT, hy, hn⟩ := hs i _ S' hri hJ
    refine hg M' H2 S' (wipeG G (own.map fun (p : Str × Nat) => p.2)) G' (wipe σ (own.map fun (p : Str × Nat) => p.2)) x rs[i] _ (ty.wipe _) vy hb ?_
    intro σ2 t2 w2
    refine ⟨w2.trans (ww _ _ _ fun _ h => h), ?_⟩
    have fin : ∀ (M3 : List Addr) (H3 : Hp), Ext M' H2 M3 H3 → Stt X.K M3 H3 S' G' σ2 → (if b = true then tEl X scope elt σ2 H3 fun y H4 => ∃ acc, H4 D = some (.lst acc) ∧ acc.length < sizeLine ∧ ∃ M2 S2, Ext (M1 ++ [D]) (upd H1 D (.lst [])) M2 (upd H4 D (.lst (acc ++ [y]))) ∧ Stt X.K M2 (upd H4 D (.lst (acc ++ [y]))) S2 G σ ∧ J (i + 1) S2
        else ∃ M2 S2, Ext (M1 ++ [D]) (upd H1 D (.lst [])) M2 H3 ∧ Stt X.K M2 H3 S2 G σ ∧ J (i + 1) S2) := by
      intro M3 H3 e3 t3
      cases b with
      | false => exact iteF ⟨M3, S', e2.trans e3, ty.mono e3 t3.sto, hn rfl⟩
      | true =>
        refine iteT fun s0 H0 C cl fp => ?_
        obtain ⟨y, S3, acc, hE, hSn, hacc, hJ3⟩ := hy rfl
        refine hE s0 H0 C cl fp M3 σ2 H3 _ t3 fun v4 M4 H4 e4 t4 r4 => ?_
        have hD4 : M4[S1.length]? = some D := (e4.get (e3.get (e2.get hDn)))
        obtain ⟨vs4, hv4, hr4⟩ := t4.sto.rep _ _ _ hD4 hSn
        have e5 : Ext M4 H4 M4 (upd H4 D (.lst (vs4 ++ [v4]))) := Ext.put (List.mem_of_getElem? hD4)
        have s5 := t4.sto.put (w := .lst (acc ++ [y])) hD4 ⟨vs4 ++ [v4], upd_same, VReps.append (VReps.ext e5 hr4) (.cons (r4.ext e5) .nil)⟩
        refine ⟨vs4, hv4, by rw [hr4.len, sizeLine_eq]; omega, M4, _, ((e2.trans e3).trans e4).trans e5, ty.mono ((e3.trans e4).trans e5) s5, hJ3⟩
    intro s0 H0 C cl fp
    have hT' := hT s0 H0 C cl fp
    cases ifs with
    | nil =>
      have hb1 : b = true := hT'
      have f0 := fin M' H2 Ext.refl t2
      rw [hb1] at f0
      exact f0
    | cons tt r =>
      cases r with
      | nil => exact hT' M' σ2 H2 _ t2 fun M4 H4 e4 t4 => fin M4 H4 e4 t4
      | cons _ _ => exact hT'.elim
  · have ei : i = rs.length := by omega
    subst ei
    refine .inl ⟨wk.st _ _ H' _ (Nat.le_refl _) (eD.trans e') t'.sto cS, ?_⟩
    obtain rfl := hd S' hJ
    exact q (.ref D) M' H' (e1.trans (eD.trans e')) t' ⟨D, e'.get hDn, rfl⟩
/-- a op b, b told loosely -/
theorem evtx_cmpB {op : CmpOp} {rr : R2} (ho : OpR X (compareOp op) rr) (ha : Ev X a G S r S1) (hb : EvX X W b G S1 Q1 Qx) (h : ∀ y S2, Q1 y S2 → ∃ c S3, RW2 X rr r y S2 (.d (.bool c)) S3 ∧ Qb c S3) (hm : behindInMarks op b = false := by first | exact nomark _ | rfl) : EvTX X W (.Compare a [op] [b] pos) G S Qb Qx := fun M σ H Q s h1 h2 =>
  toT (pt_cmpR ho pe_s pe_s hm) (ha M σ H _ s fun v M1 H1 e1 s1 r1 => hb M1 σ H1 _ s1 (fun u M2 H2 y S2 e2 s2 r2 q1 => by
    obtain ⟨c, S3, hr, q⟩ := h y S2 q1
    exact hr M2 H2 v u _ s2.sto (r1.ext e2) r2 fun w M3 H3 e3 s3 r3 => ⟨_, vr_bool r3, h1 c M3 H3 S3 ((e1.trans e2).trans e3) (s2.mono e3 s3) q⟩) fun M2 H2 C S2 e2 s2 q => h2 M2 H2 C S2 (e1.trans e2) s2 q)
end
end Cu
namespace Pf
open PySem PySem.Spec PyProof.Rows L2 He Cu
abbrev Net := Str × List Pin
def netD (n : Net) : PyData := .tuple [.str n.1, .list (n.2.map pinD)]
def flatN (ns : List Net) : List (Str × Pin) := ns.flatMap fun n => n.2.map fun p => (n.1, p)
def toldOf (ns : List Net) : List Pin := (flatN ns).map (·.2)
def homK (fl : List (Str × Pin)) : List (List Key × Cu.It) := fl.map fun x => (pinK x.2, .d (.str x.1))
def drawOk (ps : List Part) (ns : List Net) : Bool :=
  decide (ps.length ≤ 8) && (decide (ns.length ≤ 24) && (namesOk (ps.map (·.1)) && (namesOk (ns.map (·.1)) && (decide (toldOf ns).Nodup && ((ns.all fun n => !n.2.isEmpty) && (ps.all partFine && PyData.eqv (.list (sortD ((toldOf ns).map pinD))) (.list (sortD ((pinsOf ps).map pinD)))))))))
/-- nets told: each a tuple of a name and a list, owned or not -/
def netsAt (S : Sto) (r : Cu.It) (ns : List Net) : Prop := ∃ rs, itsOf S r = some rs ∧ Paired (fun ri (n : Net) => ∃ rp, tupOf S ri = some [.d (.str n.1), rp] ∧ lsOf S rp = some (n.2.map pinD)) rs ns
def netIn (n : Net) : Prop := okS n.1 ∧ n.1.length ≤ 90000 ∧ n.2.length ≤ 1000 ∧ ∀ p ∈ n.2, okS p.1
def drawF (n : Nat) (ps : List Part) (ns : List Net) : List (Str × Cu.It) := [("parts", .d (.list (ps.map partD))), ("nets", .d (.list (ns.map netD))), ("homes", .o (n + 1))]
def drawS (K : PySem.W.Frag) (n : Nat) (ps : List Part) (ns : List Net) : Sto := [.ins (ga K "Drawing") (drawF n ps ns), .dT (homK (flatN ns))]
def F_D_init (K : PySem.W.Frag) : Fn := fun rs S QR QE => ∃ (S0 : Sto) (r1 r2 : Cu.It) (ps : List Part) (ns : List Net), rs = [.o S0.length, r1, r2] ∧ S = S0 ++ [.ins (ga K "Drawing") []] ∧ lsOf S0 r1 = some (ps.map partD) ∧ netsAt S0 r2 ns ∧ ps.length ≤ 100 ∧ ns.length ≤ 100 ∧ (∀ p ∈ ps, partIn p ∧ p.1.length ≤ 90000) ∧ (∀ n ∈ ns, netIn n) ∧
  (drawOk ps ns = true → QR (.d .none) (S0 ++ drawS K S0.length ps ns)) ∧ (drawOk ps ns = false → ∀ x L, QE (ga K "NoDrawing") (S0 ++ x :: L))
theorem paired_map {α β γ : Type} {F : α → β → Prop} (g : α → γ) (f : β → γ) (h : ∀ a b, F a b → g a = f b) : ∀ {l : List α} {m : List β}, Paired F l m → l.map g = m.map f
  | _, _, .nil => rfl
  | _, _, .cons a t => by rw [List.map_cons, List.map_cons, h _ _ a, paired_map g f h t]
theorem paired_mem {α β : Type} {F : α → β → Prop} : ∀ {l : List α} {m : List β}, Paired F l m → ∀ a ∈ l, ∃ b ∈ m, F a b
  | _, _, .nil, _, h => nomatch h
  | _, _, .cons r t, a, h => by
    rcases List.mem_cons.mp h with e | h
    · subst e; exact ⟨_, List.mem_cons_self, r⟩
    · obtain ⟨b, hb, q⟩ := paired_mem t a h
      exact ⟨b, List.mem_cons_of_mem _ hb, q⟩
theorem pinK_inj {p q : Pin} : pinK p = pinK q ↔ p = q := by
  refine ⟨fun h => ?_, fun h => by rw [h]⟩
  injection h with h1 h2
  injection h2 with h3 h4
  injection h1 with h1
  injection h3 with h3
  exact Prod.ext h1 h3
theorem homK_any (fl : List (Str × Pin)) (p : Pin) : (homK fl).any (fun kv => decide (kv.1 = pinK p)) = decide (p ∈ fl.map (·.2)) := by
  unfold homK
  rw [List.any_map, Bool.eq_iff_iff, List.any_eq_true, decide_eq_true_iff, List.mem_map]
  refine ⟨fun ⟨x, hx, e⟩ => ⟨x, hx, pinK_inj.mp (of_decide_eq_true e)⟩, fun ⟨x, hx, e⟩ => ⟨x, hx, decide_eq_true (by show pinK x.2 = pinK p; rw [e])⟩⟩
theorem homK_val (fl : List (Str × Pin)) (p : Pin) : (valI (homK fl) (pinK p)).isSome = decide (p ∈ fl.map (·.2)) := by
  rw [← homK_any]
  unfold valI
  rw [Option.isSome_map]
  exact Bool.eq_iff_iff.mpr (List.find?_isSome.trans List.any_eq_true.symm)
theorem homK_put {fl : List (Str × Pin)} {p : Pin} (n : Str) (h : p ∉ fl.map (·.2)) : putI (homK fl) (pinK p) (.d (.str n)) = homK (fl ++ [(n, p)]) := by
  unfold putI
  rw [homK_any, decide_eq_false h]
  unfold homK
  rw [List.map_append] <;> rfl
theorem homK_get {n : Str} {p : Pin} : ∀ {fl : List (Str × Pin)}, (fl.map (·.2)).Nodup → (n, p) ∈ fl → valI (homK fl) (pinK p) = some (.d (.str n))
  | [], _, h => nomatch h
  | (m, q) :: fl, nd, h => by
    rw [List.map_cons, List.nodup_cons] at nd
    show ((List.find? _ ((pinK q, Cu.It.d (.str m)) :: homK fl)).map (·.2)) = _
    rw [List.find?_cons]
    rcases List.mem_cons.mp h with e | h
    · cases e
      rw [decide_eq_true rfl] <;> rfl
    · have ne : pinK q ≠ pinK p := fun z => by
        rw [pinK_inj] at z
        subst z
        exact nd.1 (List.mem_map.mpr ⟨_, h, rfl⟩)
      rw [decide_eq_false ne]
      exact homK_get nd.2 h
theorem flat_take {ns : List Net} {i : Nat} {n : Net} (h : ns[i]? = some n) : flatN (ns.take (i + 1)) = flatN (ns.take i) ++ n.2.map fun p => (n.1, p) := by
  rw [List.take_add_one, h]
  unfold flatN
  rw [List.flatMap_append]
  simp
theorem flat_split {ns : List Net} {i j : Nat} {n : Net} {p : Pin} (h : ns[i]? = some n) (hp : n.2[j]? = some p) : ∃ r, flatN ns = (flatN (ns.take i) ++ (n.2.take j).map fun p => (n.1, p)) ++ (n.1, p) :: r := by
  have e1 : ns = ns.take i ++ n :: ns.drop (i + 1) := by
    have hi := List.getElem?_eq_some_iff.mp h
    obtain ⟨hi, e⟩ := hi
    rw [← e, ← List.drop_eq_getElem_cons hi, List.take_append_drop]
  have e2 : n.2 = n.2.take j ++ p :: n.2.drop (j + 1) := by
    obtain ⟨hi, e⟩ := List.getElem?_eq_some_iff.mp hp
    rw [← e, ← List.drop_eq_getElem_cons hi, List.take_append_drop]
  refine ⟨((n.2.drop (j + 1)).map fun p => (n.1, p)) ++ flatN (ns.drop (i + 1)), ?_⟩
  conv => lhs; rw [e1]
  unfold flatN
  rw [List.flatMap_append, List.flatMap_cons]
  conv => lhs; rw [e2]
  simp
theorem keys_homK (ns : List Net) : keysU (homK (flatN ns)) = (toldOf ns).map pinD := by
  unfold keysU homK toldOf
  rw [List.map_map, List.map_map] <;> rfl
theorem lay_pin {p : Pin} (h : okS p.1) : PyData.canLay0 (pinD p) = true ∧ (pinD p).depth ≤ 40 := by
  unfold pinD
  refine ⟨by simp only [PyData.canLay0, PyData.canLayAll0, okS_ok h, Bool.and_true], by simp only [PyData.depth, PyData.depthAll]; decide⟩
theorem shaped_pins {l : List Pin} (h : ∀ p ∈ l, okS p.1) : SeqAt.shaped (.list (l.map pinD)) = true := shaped_list fun d hd => by
  obtain ⟨p, hp, rfl⟩ := List.mem_map.mp hd
  have := lay_pin (h p hp)
  exact ⟨this.1, by omega⟩
theorem shaped_spins {l : List Pin} (h : ∀ p ∈ l, okS p.1) : SeqAt.shaped (.list (sortD (l.map pinD))) = true := shaped_list fun d hd => by
  have hd := (List.mergeSort_perm _ _).mem_iff.mp hd
  obtain ⟨p, hp, rfl⟩ := List.mem_map.mp hd
  have := lay_pin (h p hp)
  exact ⟨this.1, by omega⟩
theorem told_mem {ns : List Net} {p : Pin} (h : p ∈ toldOf ns) : ∃ n ∈ ns, p ∈ n.2 := by
  unfold toldOf flatN at h
  obtain ⟨x, hx, rfl⟩ := List.mem_map.mp h
  obtain ⟨n, hn, hx⟩ := List.mem_flatMap.mp hx
  obtain ⟨p, hp, rfl⟩ := List.mem_map.mp hx
  exact ⟨n, hn, hp⟩
theorem pins_mem {ps : List Part} {p : Pin} (h : p ∈ pinsOf ps) : ∃ q ∈ ps, p.1 = q.1 := by
  unfold pinsOf at h
  obtain ⟨q, hq, hp⟩ := List.mem_flatMap.mp h
  obtain ⟨j, _, rfl⟩ := List.mem_map.mp hp
  exact ⟨q, hq, rfl⟩
theorem told_ok {ns : List Net} (h : ∀ n ∈ ns, netIn n) : ∀ p ∈ toldOf ns, okS p.1 := fun p hp => by
  obtain ⟨n, hn, h2⟩ := told_mem hp
  exact (h n hn).2.2.2 p h2
theorem pinsOf_ok {ps : List Part} (h : ∀ p ∈ ps, partIn p ∧ p.1.length ≤ 90000) : ∀ p ∈ pinsOf ps, okS p.1 := fun p hp => by
  obtain ⟨q, hq, e⟩ := pins_mem hp
  rw [e]
  exact (h q hq).1.2.2.1
theorem flat_len {ns : List Net} (h : ∀ n ∈ ns, netIn n) : (flatN ns).length ≤ 1000 * ns.length := by
  induction ns with
  | nil => exact Nat.zero_le _
  | cons n ns ih =>
    have := ih fun m hm => h m (List.mem_cons_of_mem _ hm)
    have h1 := (h n List.mem_cons_self).2.2.1
    unfold flatN at this ⊢
    rw [List.flatMap_cons, List.length_append, List.length_map, List.length_cons]
    omega
def fstG : Cu.It → PyData
  | .d (.tuple (x :: _)) => x
  | _ => .none
def sndG : Cu.It → PyData
  | .d (.tuple (_ :: x :: _)) => x
  | _ => .none
def fstS (S : Sto) (r : Cu.It) : PyData := match tupOf S r with
  | some (.d x :: _) => x
  | _ => .none
def netG (S : Sto) (r : Cu.It) : PyData := match tupOf S r with
  | some [.d x, rp] => (match lsOf S rp with | some ds => .tuple [x, .list ds] | none => .none)
  | _ => .none
theorem fil_true (l : List Cu.It) : (l.filter fun _ => true) = l := List.filter_eq_self.mpr fun _ _ => rfl
theorem empties (ns : List Net) : ((ns.map fun n => PyData.list (n.2.map pinD)).any fun z => PyData.eqv z (.list [])) = !(ns.all fun n => !n.2.isEmpty) := by
  rw [List.any_map, List.not_all_eq_any_not]
  refine congrArg (fun f => ns.any f) (funext fun n => ?_)
  show PyData.eqv (.list (n.2.map pinD)) (.list []) = _
  rw [eqv_nil, List.isEmpty_map, Bool.not_not]
section
variable {P : Program} {w : World} {K : PySem.W.Frag} {mg : Str → Option Value} {base : Heap}
theorem fn_Drawing___init__ (T : TT K mg) {fd : FuncData} (Fd : FunD K "__init__" "Drawing.__init__" (defArgs s_Drawing___init__) (defBody s_Drawing___init__) (defScope s_Drawing___init__) [] [] (ma K (ga K "Drawing") "__init__") fd) : FnOk P w K mg base (L2.CX P w) 4 (ma K (ga K "Drawing") "__init__") fd ["self", "parts", "nets"] (spF K 3 (F_D_init K)) := by
  refine fn_w Fd sc_Drawing___init__ fun cdv A outer s H E rs S QR QE c hc hl hF => ?_
  obtain ⟨S0, r1, r2, ps, ns, rfl, rfl, h1, ⟨rs2, h2, hp⟩, l1, l2, i1, i2, q, qe⟩ := hF
  have rz : ∀ x L, drawOk ps ns = false → BackX (S0 ++ [Own.ins (ga K "Drawing") []]).length (S0 ++ x :: L) (ga K "NoDrawing") QE := fun x L h => ⟨S0 ++ x :: L, [], (List.append_nil _).symm, by simp, fun h => h, qe h x L⟩
  have hn2 : rs2.length = ns.length := Paired.len2 hp
  have gt0 : ∀ (w : Own) L, (S0 ++ w :: L)[S0.length]? = some w := fun w L => by rw [List.getElem?_append_right (Nat.le_refl _), Nat.sub_self] <;> rfl
  have gt1 : ∀ (w v : Own) L, (S0 ++ w :: v :: L)[S0.length + 1]? = some v := fun w v L => by rw [List.getElem?_append_right (by omega), Nat.add_sub_cancel_left] <;> rfl
  have st0 : ∀ (w v : Own) L, (S0 ++ w :: L).set S0.length v = S0 ++ v :: L := fun w v L => by rw [List.set_append_right _ _ (Nat.le_refl _), Nat.sub_self] <;> rfl
  have st1 : ∀ (w v u : Own) L, (S0 ++ w :: v :: L).set (S0.length + 1) u = S0 ++ w :: u :: L := fun w v u L => by rw [List.set_append_right _ _ (by omega), Nat.add_sub_cancel_left] <;> rfl
  -- too many
  refine ss_cons (ws_if (k1 := decide (8 < ps.length) || decide (24 < ns.length)) (S1 := S0 ++ [Own.ins (ga K "Drawing") []]) (EvT.is (evt_w (evw_or (c := decide ((8 : Int) < ((ps.map partD).length : Nat))) (d := decide ((24 : Int) < (rs2.length : Nat))) (evt_gt (ev_lenA (z_len T) (ev_name 1) (ls_app h1 _)) (ev_gint (c_MOST_PARTS T))) fun _ => evw_or1 (evt_gt (ev_len (z_len T) (ev_name 2) (its_len (its_app h2 _))) (ev_gint (c_MOST_NETS T))))) (by rw [List.length_map, hn2]; congr 1 <;> exact decide_eq_decide.mpr (by omega))) (fun h => ?_) (fun h => ?_))
  · refine ss_cons (ws_raise c (x_NoDrawing T) (rz _ [] ?_))
    unfold drawOk
    rcases Bool.or_eq_true _ _ ▸ h with h | h
    · have h := of_decide_eq_true h
      rw [decide_eq_false (show ¬ ps.length ≤ 8 by omega)] <;> rfl
    · have h := of_decide_eq_true h
      rw [decide_eq_false (show ¬ ns.length ≤ 24 by omega), Bool.false_and, Bool.and_false]
  rw [Bool.or_eq_false_iff] at h
  have b1 : ps.length ≤ 8 := by have := of_decide_eq_false h.1; omega
  have b2 : ns.length ≤ 24 := by have := of_decide_eq_false h.2; omega
  refine ss_nil ?_
  -- the names of the parts
  have o1 : Ev (cxF P w K mg base ["self", "parts", "nets", "part", "net", "name", "pins", "pin"] "Drawing.__init__" (defScope s_Drawing___init__) (ma K (ga K "Drawing") "__init__") cdv A outer s H E) (match (defBody s_Drawing___init__).getD 1 (.Pass ⟨0, 0, 0, 0⟩) with | .Expr (.Call _ (a :: _) _ _) _ => a | _ => .Constant .none 0 ⟨0, 0, 0, 0⟩) [some (.o S0.length), some r1, some r2, none, none, none, none, none] (S0 ++ [Own.ins (ga K "Drawing") []]) (.d (.list ((ps.map (·.1)).map .str))) (S0 ++ [Own.ins (ga K "Drawing") []]) := by
    refine Ev.is (ev_lc c (blkOk_by (by rfl)) (lc_pure (own := [("part", 3)]) c (evi_ls (ds := ps.map partD) (ev_name 1) (ls_app h1 _)) (tg_name 3 c.nd) (fun _ => true) fstG (fun L => ls_app (ls_app h1 _) L) (fun r hr => ?_) ?_)) ?_
    · obtain ⟨d, hd, rfl⟩ := List.mem_map.mp hr
      obtain ⟨p, hp, rfl⟩ := List.mem_map.mp hd
      exact ⟨_, rfl, fun L s H C cl fp => rfl, fun _ L s H C cl fp => ev_ixT (ds := [.str p.1, .str p.2.1, p.2.2]) (ev_name 3) ev_int rfl⟩
    · rw [List.length_map, List.length_map]; omega
    · rw [fil_true, List.map_map, List.map_map, List.map_map] <;> rfl
  refine ss_cons (ws_exprX (Qr := fun _ S' => S' = S0 ++ [Own.ins (ga K "Drawing") []] ∧ namesOk (ps.map (·.1)) = true) (Qx := fun C S' => C = ga K "NoDrawing" ∧ S' = S0 ++ [Own.ins (ga K "Drawing") []] ∧ namesOk (ps.map (·.1)) = false) (evx_call c (ok_check_names T) (by decide) (eva_cons o1 eva_nil) rfl (fun QR QE k1 k2 => ⟨ps.map (·.1), rfl, by rw [List.length_map]; omega, fun x hx => ?_, fun h => k1 _ _ ⟨rfl, h⟩, fun h => k2 _ _ ⟨rfl, rfl, h⟩⟩)) ?_ ?_)
  · obtain ⟨p, hp, rfl⟩ := List.mem_map.mp hx
    exact ⟨(i1 p hp).2, (i1 p hp).1.2.2.1⟩
  case refine_3 =>
    rintro _ _ ⟨rfl, rfl, h⟩
    refine rz _ [] ?_
    unfold drawOk
    rw [h, Bool.false_and, Bool.and_false, Bool.and_false]
  rintro _ _ ⟨rfl, n1⟩
  -- the names of the nets
  have o2 : Ev (cxF P w K mg base ["self", "parts", "nets", "part", "net", "name", "pins", "pin"] "Drawing.__init__" (defScope s_Drawing___init__) (ma K (ga K "Drawing") "__init__") cdv A outer s H E) (match (defBody s_Drawing___init__).getD 2 (.Pass ⟨0, 0, 0, 0⟩) with | .Expr (.Call _ (a :: _) _ _) _ => a | _ => .Constant .none 0 ⟨0, 0, 0, 0⟩) [some (.o S0.length), some r1, some r2, none, none, none, none, none] (S0 ++ [Own.ins (ga K "Drawing") []]) (.d (.list ((ns.map (·.1)).map .str))) (S0 ++ [Own.ins (ga K "Drawing") []]) := by
    refine Ev.is (ev_lc c (blkOk_by (by rfl)) (lc_pure (own := [("net", 4)]) c (evi_its (ev_name 2) (its_app h2 _)) (tg_name 4 c.nd) (fun _ => true) (fstS S0) (fun L => its_app (its_app h2 _) L) (fun r hr => ?_) ?_)) ?_
    · obtain ⟨n, hn, rp, e1, e2⟩ := paired_mem hp r hr
      refine ⟨_, rfl, fun L s H C cl fp => rfl, fun _ L s H C cl fp => Ev.is (ev_ixTA (ev_name 4) ev_int (tup_app (tup_app e1 _) L) rfl) ?_⟩
      unfold fstS
      rw [e1]
    · rw [hn2]; omega
    · rw [fil_true, paired_map (fstS S0) (fun n : Net => PyData.str n.1) (fun r n ⟨rp, e1, e2⟩ => by unfold fstS; rw [e1]) hp, List.map_map] <;> rfl
  refine ss_cons (ws_exprX (Qr := fun _ S' => S' = S0 ++ [Own.ins (ga K "Drawing") []] ∧ namesOk (ns.map (·.1)) = true) (Qx := fun C S' => C = ga K "NoDrawing" ∧ S' = S0 ++ [Own.ins (ga K "Drawing") []] ∧ namesOk (ns.map (·.1)) = false) (evx_call c (ok_check_names T) (by decide) (eva_cons o2 eva_nil) rfl (fun QR QE k1 k2 => ⟨ns.map (·.1), rfl, by rw [List.length_map]; omega, fun x hx => ?_, fun h => k1 _ _ ⟨rfl, h⟩, fun h => k2 _ _ ⟨rfl, rfl, h⟩⟩)) ?_ ?_)
  · obtain ⟨p, hp, rfl⟩ := List.mem_map.mp hx
    exact ⟨(i2 p hp).2.1, (i2 p hp).1⟩
  case refine_3 =>
    rintro _ _ ⟨rfl, rfl, h⟩
    refine rz _ [] ?_
    unfold drawOk
    rw [h, Bool.false_and, Bool.and_false, Bool.and_false, Bool.and_false]
  rintro _ _ ⟨rfl, n2⟩
  -- the fields
  refine ss_cons (ws_fldN (r := .d (.list (ps.map partD))) (fs := []) (S1 := S0 ++ [Own.ins (ga K "Drawing") []]) (cls_Drawing T) (na_Drawing_parts T) (Ev.is (ev_lc c (blkOk_by (by rfl)) (lc_pure (own := [("part", 3)]) c (evi_ls (ds := ps.map partD) (ev_name 1) (ls_app h1 _)) (tg_name 3 c.nd) (fun _ => true) idG (fun L => ls_app (ls_app h1 _) L) (fun r hr => ?_) ?_)) ?_) (ev_name 0) (gt0 _ _) rfl (Nat.zero_le _) ?_)
  · obtain ⟨d, hd, rfl⟩ := List.mem_map.mp hr
    obtain ⟨p, hp, rfl⟩ := List.mem_map.mp hd
    exact ⟨_, rfl, fun L s H C cl fp => rfl, fun _ L s H C cl fp => ev_tupleT (z_tuple T) (ev_name 3)⟩
  · rw [List.length_map, List.length_map]; omega
  · rw [fil_true, List.map_map]
    refine congrArg (fun l => Cu.It.d (.list l)) (List.map_id _)
  rw [st0]
  have hpG : ∀ (w : Own), Paired (fun ri (n : Net) => ∃ rp, tupOf (S0 ++ [w]) ri = some [.d (.str n.1), rp] ∧ lsOf (S0 ++ [w]) rp = some (n.2.map pinD)) rs2 ns := fun w => Paired.mapP hp fun _ _ ⟨rp, e1, e2⟩ => ⟨rp, tup_app e1 _, ls_app e2 _⟩
  refine ss_cons (ws_fldN (r := .d (.list (ns.map netD))) (fs := [("parts", .d (.list (ps.map partD)))]) (S1 := S0 ++ [Own.ins (ga K "Drawing") [("parts", Cu.It.d (.list (ps.map partD)))]]) (cls_Drawing T) (na_Drawing_nets T) (Ev.is (ev_lc c (blkOk_by (by rfl)) (lc_pureS (own := [("name", 5), ("pins", 6)]) c (evi_its (ev_name 2) (its_app h2 _)) (tgS_tup [5, 6] c.calm (fun s H C cl fp => pgs_names_cons (pg_blk 5 c.nd) (pgs_names_cons (pg_blk 6 c.nd) pgs_names_nil))) (fun _ => true) (netG S0) (fun L => its_app (its_app h2 _) L) (fun r hr => ?_) ?_)) ?_) (ev_name 0) (gt0 _ _) rfl (Nat.le_of_ble_eq_true rfl) ?_)
  · obtain ⟨n, hn, rp, e1, e2⟩ := paired_mem hp r hr
    refine ⟨(([some (.o S0.length), some r1, some r2, none, none, none, none, none] : Gam).set 5 (some (.d (.str n.1)))).set 6 (some rp), fun L => ?_, fun L s H C cl fp => rfl, fun _ L s H C cl fp => Ev.is (ev_tup (eva_cons (ev_name 5) (eva_cons (ev_listF (z_list T) (ev_name 6) (ls_app (ls_app e2 _) L)) eva_nil))) ?_⟩
    · unfold bindT
      rw [tup_app (tup_app e1 _) L] <;> rfl
    · unfold netG
      rw [e1]
      show _ = It.d (match lsOf S0 rp with | some ds => .tuple [.str n.1, .list ds] | none => .none)
      rw [e2]
  · rw [hn2]; omega
  · rw [fil_true, paired_map (netG S0) netD (fun r n ⟨rp, e1, e2⟩ => by
      unfold netG
      rw [e1]
      show (match lsOf S0 rp with | some ds => PyData.tuple [.str n.1, .list ds] | none => .none) = _
      rw [e2] <;> rfl) hp]
  rw [st0]
  refine ss_cons (ws_fldN (r := .o (S0.length + 1)) (fs := [("parts", .d (.list (ps.map partD))), ("nets", .d (.list (ns.map netD)))]) (S1 := S0 ++ [Own.ins (ga K "Drawing") [("parts", .d (.list (ps.map partD))), ("nets", .d (.list (ns.map netD)))], .dT []]) (cls_Drawing T) (na_Drawing_homes T) (Ev.is2 ev_dNewT (by rw [List.length_append] <;> rfl) (by rw [List.append_assoc] <;> rfl)) (ev_name 0) (gt0 _ _) rfl (Nat.le_of_ble_eq_true rfl) ?_)
  rw [st0]
  show WSs _ _ _ _ (S0 ++ Own.ins (ga K "Drawing") (drawF S0.length ps ns) :: [.dT []]) _
  have flen := flat_len i2
  -- the homes
  refine ss_cons (ws_for c (evi_list (ds := ns.map netD) (ev_fld (cls_Drawing T) (na_Drawing_nets T) (ev_name 0) (gt0 _ _))) (fun i G' S' => (∃ g5 g6 g7, G' = [some (.o S0.length), some r1, some r2, none, none, g5, g6, g7]) ∧ S' = S0 ++ [Own.ins (ga K "Drawing") (drawF S0.length ps ns), .dT (homK (flatN (ns.take i)))] ∧ (toldOf (ns.take i)).Nodup) (fun r G => match r with | .d (.tuple [d0, d1]) => (G.set 5 (some (.d d0))).set 6 (some (.d d1)) | _ => G) ⟨⟨_, _, _, rfl⟩, rfl, List.nodup_nil⟩ (fun _ _ _ _ => trivial) ?_ ?_ ?_)
  · rintro i r' G' S' hr' ⟨⟨g5, g6, g7, rfl⟩, rfl, hnd⟩
    rw [List.getElem?_map, List.getElem?_map] at hr'
    cases hx : ns[i]? with
    | none => rw [hx] at hr'; cases hr'
    | some n =>
      rw [hx] at hr'
      cases hr'
      exact (evg_tup c.calm (evgs_cons (evg_name 5 c.nd) (evgs_cons (evg_name 6 c.nd) evgs_nil)))
  · rintro i r' G' S' hr' ⟨⟨g5, g6, g7, rfl⟩, rfl, hnd⟩
    rw [List.getElem?_map, List.getElem?_map] at hr'
    cases hx : ns[i]? with
    | none => rw [hx] at hr'; cases hr'
    | some n =>
      rw [hx] at hr'
      cases hr'
      obtain ⟨j1, j2, j3, j4⟩ := i2 n (List.mem_of_getElem? hx)
      refine ss_cons (ws_for c (evi_list (ds := n.2.map pinD) (ev_name 6)) (fun j G' S' => (∃ g7, G' = [some (.o S0.length), some r1, some r2, none, none, some (.d (.str n.1)), some (.d (.list (n.2.map pinD))), g7]) ∧ S' = S0 ++ [Own.ins (ga K "Drawing") (drawF S0.length ps ns), .dT (homK (flatN (ns.take i) ++ (n.2.take j).map fun p => (n.1, p)))] ∧ ((flatN (ns.take i) ++ (n.2.take j).map fun p => (n.1, p)).map (·.2)).Nodup) (fun r G => G.set 7 (some r)) ⟨⟨_, rfl⟩, by rw [List.take_zero, List.map_nil, List.append_nil], by rw [List.take_zero, List.map_nil, List.append_nil]; exact hnd⟩ (fun _ _ _ _ => trivial) (fun i r G' S' hr hJ => evg_name 7 c.nd) ?_ ?_)
      · rintro j r' G' S' hr' ⟨⟨g7, rfl⟩, rfl, hnd'⟩
        rw [List.getElem?_map, List.getElem?_map] at hr'
        cases hy : n.2[j]? with
        | none => rw [hy] at hr'; cases hr'
        | some p =>
          rw [hy] at hr'
          cases hr'
          obtain ⟨rest, hfl⟩ := flat_split hx hy
          refine ss_cons (ws_if (k1 := decide (p ∈ (flatN (ns.take i) ++ (n.2.take j).map fun p => (n.1, p)).map (·.2))) (EvT.is (evt_dinT c (ev_name 7) (ev_fld (cls_Drawing T) (na_Drawing_homes T) (ev_name 0) (gt0 _ _)) (gt1 _ _ _) (keyD_pin p)) (homK_val _ _)) (fun h => ?_) (fun h => ?_))
          · refine ss_cons (ws_raise c (x_NoDrawing T) (rz _ _ ?_))
            have hno : ¬ (toldOf ns).Nodup := fun z => by
              unfold toldOf at z
              rw [hfl, List.map_append, List.nodup_append] at z
              exact z.2.2 p (of_decide_eq_true h) p List.mem_cons_self rfl
            unfold drawOk
            rw [decide_eq_false hno, Bool.false_and, Bool.and_false, Bool.and_false, Bool.and_false, Bool.and_false]
          · have h := of_decide_eq_false h
            refine ss_nil (ss_cons (ws_dputT c (ev_name 5) (ev_fld (cls_Drawing T) (na_Drawing_homes T) (ev_name 0) (gt0 _ _)) (ev_name 7) (gt1 _ _ _) (keyD_pin p) ?_ (ss_nil ⟨⟨_, rfl⟩, ?_, ?_⟩)))
            · unfold homK
              rw [List.length_map]
              have := congrArg List.length hfl
              rw [List.length_append] at this
              omega
            · rw [st1, homK_put _ h, List.take_add_one, hy, List.append_assoc]
              simp
            · rw [List.take_add_one, hy]
              show (List.map _ (flatN (ns.take i) ++ List.map _ (n.2.take j ++ [p]))).Nodup
              rw [List.map_append (l₁ := n.2.take j), ← List.append_assoc, List.map_append, List.nodup_append]
              refine ⟨hnd', List.pairwise_singleton _ _, fun a ha b hb => ?_⟩
              have hb : b ∈ [p] := hb
              rw [List.mem_singleton.mp hb]
              exact fun z => h (z ▸ ha)
      · rintro G' S' ⟨⟨g7, rfl⟩, rfl, hnd'⟩
        rw [List.length_map, List.length_map, List.take_length] at hnd'
        rw [List.length_map, List.length_map, List.take_length, ← flat_take hx]
        refine ss_nil ⟨⟨_, _, _, rfl⟩, rfl, ?_⟩
        unfold toldOf
        rw [flat_take hx]
        exact hnd'
  rintro G' S' ⟨⟨g5, g6, g7, rfl⟩, rfl, hnd⟩
  rw [List.length_map, List.length_map, List.take_length] at hnd
  rw [List.length_map, List.length_map, List.take_length]
  -- pins that lack
  refine ss_cons (ws_ifX (Qb := fun b S' => S' = S0 ++ drawS K S0.length ps ns ∧ b = !drawOk ps ns) (Qx := fun C S' => C = ga K "NoDrawing" ∧ S' = S0 ++ drawS K S0.length ps ns ∧ drawOk ps ns = false) (evtx_w (evwx_or (Qc := fun b S' => S' = S0 ++ drawS K S0.length ps ns ∧ b = !(ns.all fun n => !n.2.isEmpty)) (evtx_of (EvT.is (evt_inD (x := .list []) (r := .d (.list (ns.map fun n => PyData.list (n.2.map pinD)))) (ds := ns.map fun n => PyData.list (n.2.map pinD)) c (ev_lst eva_nil) (Ev.is (ev_lc c (blkOk_by (by rfl)) (lc_pure (own := [("name", 5), ("pins", 6)]) c (evi_list (ds := ns.map netD) (ev_fld (cls_Drawing T) (na_Drawing_nets T) (ev_name 0) (gt0 _ _))) (tg_tup [5, 6] c.calm (fun s H C cl fp => pgs_names_cons (pg_blk 5 c.nd) (pgs_names_cons (pg_blk 6 c.nd) pgs_names_nil))) (fun _ => true) sndG (fun _ => trivial) (fun r hr => ?_) ?_)) ?_) rfl (shaped_list (ds := []) fun _ h => nomatch h) (shaped_list fun d hd => ?_)) (empties ns)) ⟨rfl, rfl⟩) ?_ ?_)) ?_ ?_ ?_)
  · obtain ⟨d, hd, rfl⟩ := List.mem_map.mp hr
    obtain ⟨n, hn, rfl⟩ := List.mem_map.mp hd
    exact ⟨_, rfl, fun L s H C cl fp => rfl, fun _ L s H C cl fp => (ev_name 6)⟩
  · rw [List.length_map, List.length_map]; omega
  · rw [fil_true, List.map_map, List.map_map] <;> rfl
  · obtain ⟨n, hn, rfl⟩ := List.mem_map.mp hd
    exact lay_list fun d hd => by
      obtain ⟨p, hp, rfl⟩ := List.mem_map.mp hd
      exact lay_pin ((i2 n hn).2.2.2 p hp)
  · rintro _ ⟨rfl, h⟩
    refine ⟨rfl, ?_⟩
    have h : (ns.all fun n => !n.2.isEmpty) = false := by simpa using h.symm
    unfold drawOk
    rw [h, Bool.false_and, Bool.and_false, Bool.and_false, Bool.and_false, Bool.and_false, Bool.and_false] <;> rfl
  · rintro _ ⟨rfl, h⟩
    have h : (ns.all fun n => !n.2.isEmpty) = true := by simpa using h.symm
    refine evwx_one (evtx_cmpB (op_neD (by have := c.hr.un; omega)) (ev_sortedT c (z_sorted T) (ev_fld (cls_Drawing T) (na_Drawing_homes T) (ev_name 0) (gt0 _ _)) (gt1 _ _ _) (by rw [keys_homK]; exact pins_alike _) (by rw [keys_homK]; exact pins_sortable _) (by rw [keys_homK]; exact pins_deep _)) (Q1 := fun r S' => r = .d (.list (sortD ((pinsOf ps).map pinD))) ∧ S' = S0 ++ drawS K S0.length ps ns ∧ ps.all partFine = true) (evx_call c (ok_pins_of T) (by decide) (eva_cons (ev_fld (cls_Drawing T) (na_Drawing_parts T) (ev_name 0) (gt0 _ _)) eva_nil) rfl (fun QR QE k1 k2 => ⟨_, ps, rfl, rfl, l1, fun p hp => (i1 p hp).1, fun h => .inl (k1 _ _ ⟨rfl, rfl, h⟩), fun hh => k2 _ _ ⟨rfl, rfl, ?_⟩⟩)) ?_)
    · unfold drawOk
      rw [hh, Bool.false_and, Bool.and_false, Bool.and_false, Bool.and_false, Bool.and_false, Bool.and_false, Bool.and_false]
    · rintro _ _ ⟨rfl, rfl, hf⟩
      refine ⟨_, _, rw_neD ?_ (shaped_spins (pinsOf_ok i1)), rfl, ?_⟩
      · rw [keys_homK]
        exact shaped_spins (told_ok i2)
      · rw [keys_homK]
        unfold drawOk
        rw [decide_eq_true b1, decide_eq_true b2, n1, n2, decide_eq_true hnd, h, hf]
        simp only [Bool.true_and]
  · rintro _ ⟨rfl, h⟩
    exact ss_cons (ws_raise c (x_NoDrawing T) (rz _ _ (by simpa using h.symm)))
  · rintro _ ⟨rfl, h⟩
    refine ss_nil (ss_nil (back_d (q (by simpa using h.symm)) ?_))
    rw [List.length_append, List.length_append]
    exact Nat.add_le_add_left (Nat.le_of_ble_eq_true rfl) _
  · rintro _ _ ⟨rfl, rfl, h⟩
    exact rz _ _ h
theorem ok_Drawing___init__ (T : TT K mg) : OkC P w K mg base 4 (ga K "Drawing") "Drawing" ["self", "parts", "nets"] [] (F_D_init K) := okC_of (g_Drawing T) (mk_Drawing T) (d_Drawing___init__ T) (fun _ _ _ _ _ _ us hl => match us, hl with | [_, _, _], _ => rfl) fun fd Fd => fn_Drawing___init__ T Fd
end
end Pf
/-! CyG: xs.pop(i), xs.insert(i, x) of an owned list. -/
namespace Cu
open PySem PySem.Spec PyProof.Rows L2
theorem reps_eraseI {K : PySem.W.Frag} {M : List Addr} {H : Hp} : ∀ {vs : List V} {rs : List It} (k : Nat), VReps K M H vs rs → VReps K M H (vs.eraseIdx k) (rs.eraseIdx k)
  | _, _, _, .nil => .nil
  | _, _, 0, .cons _ t => t
  | _, _, k + 1, .cons a t => .cons a (reps_eraseI k t)
theorem reps_put {K : PySem.W.Frag} {M : List Addr} {H : Hp} {v : V} {r : It} (hv : VRep K M H v r) : ∀ {vs : List V} {rs : List It} (k : Nat), VReps K M H vs rs → VReps K M H (vs.take k ++ [v] ++ vs.drop k) (rs.take k ++ [r] ++ rs.drop k)
  | _, _, k, .nil => by
    rw [List.take_nil, List.take_nil, List.drop_nil, List.drop_nil]
    exact .cons hv .nil
  | _, _, 0, .cons a t => .cons hv (.cons a t)
  | _, _, k + 1, .cons a t => .cons a (reps_put hv k t)
section
variable {X : Cx} {G : Gam} {S S1 S2 S3 : Sto} {e a b o : Expr} {r : It} {apos cpos : Pos}
theorem ev_popI {i k : Nat} {n : Int} {xs : List It} {y : It} (ho : Ev X o G S (.o i) S1) (hi : S1[i]? = some (.lst xs)) (ha : Ev X e G S1 (.d (.int n)) S2) (hi2 : S2[i]? = some (.lst xs)) (hn : n = k) (hz : k < 1000000) (hy : xs[k]? = some y) (hbase : attributeBase o "pop" X.env (eval o X.env) = eval o X.env := by rfl)
    (hfew : ((backTo cpos (starEach [e] X.env)).all (fun x => !x.1) && (backToKw cpos (keywordEach [] X.env)).all (fun x => x.1.isSome) && decide ([e].length + ([] : List Keyword).length + (if ([] : List Keyword).isEmpty then 0 else 1) < 30)) = true := by rfl)
    (hline : (apos.endLine == cpos.line) = true := by rfl) (hs : starEach [e] X.env = (false, eval e X.env) :: starEach [] X.env := by rfl) : Ev X (.Call (.Attribute o "pop" apos) [e] [] cpos) G S y (S2.set i (.lst (xs.eraseIdx k))) :=
  ev_bm PySem.F.plainAttrs_list PySem.F.slot_list_pop PySem.F.type_list_pop mt_popAt ho (ty_own hi) (eva_cons ha eva_nil hs) (fun M H v vs Q s hv hvs q => by
    obtain ⟨u, rfl, hu⟩ := vr1 hvs
    obtain ⟨ad, had, rfl⟩ := hv
    obtain ⟨ws, e1, e2⟩ := s.rep i ad _ had hi2
    obtain ⟨w, hw, rw'⟩ := reps_get e2 hy
    have hlt : k < ws.length := (List.getElem?_eq_some_iff.mp hw).1
    have e3 : Ext M H M (upd H ad (.lst (ws.eraseIdx k))) := Ext.put (List.mem_of_getElem? had)
    refine ⟨ad, ws, n, k, w, rfl, by rw [vr_int hu], e1, by omega, by omega, ?_, hw, q w M _ e3 (s.put had ⟨_, upd_same, VReps.ext e3 (reps_eraseI k e2)⟩) (rw'.ext e3)⟩
    rw [hn]
    unfold seqIndex?
    simp
    omega) hbase hfew hline hs rfl
theorem ev_insert {i k : Nat} {n : Int} {xs : List It} (ho : Ev X o G S (.o i) S1) (hi : S1[i]? = some (.lst xs)) (ha : Ev X a G S1 (.d (.int n)) S2) (hb : Ev X b G S2 r S3) (hi3 : S3[i]? = some (.lst xs)) (hn : n = k) (hz : k < 1000000) (hl : xs.length < 1000000) (hbase : attributeBase o "insert" X.env (eval o X.env) = eval o X.env := by rfl)
    (hfew : ((backTo cpos (starEach [a, b] X.env)).all (fun x => !x.1) && (backToKw cpos (keywordEach [] X.env)).all (fun x => x.1.isSome) && decide ([a, b].length + ([] : List Keyword).length + (if ([] : List Keyword).isEmpty then 0 else 1) < 30)) = true := by rfl)
    (hline : (apos.endLine == cpos.line) = true := by rfl) (hs : starEach [a, b] X.env = (false, eval a X.env) :: starEach [b] X.env := by rfl) (hs2 : starEach [b] X.env = (false, eval b X.env) :: starEach [] X.env := by rfl) (hpl : (backTo cpos (starEach [b] X.env)).any (·.1) = false := by rfl) :
    Ev X (.Call (.Attribute o "insert" apos) [a, b] [] cpos) G S (.d .none) (S3.set i (.lst (xs.take k ++ [r] ++ xs.drop k))) :=
  ev_bm PySem.F.plainAttrs_list PySem.F.slot_list_insert PySem.F.type_list_insert mt_insert ho (ty_own hi) (eva_cons ha (eva_cons hb eva_nil hs2) hs) (fun M H v vs Q s hv hvs q => by
    obtain ⟨u, w, rfl, hu, hw⟩ := vr2 hvs
    obtain ⟨ad, had, rfl⟩ := hv
    obtain ⟨ws, e1, e2⟩ := s.rep i ad _ had hi3
    have hlen := e2.len
    have e3 : Ext M H M (upd H ad (.lst (ws.take n.toNat ++ [w] ++ ws.drop n.toNat))) := Ext.put (List.mem_of_getElem? had)
    have hk : n.toNat = k := by omega
    refine ⟨ad, ws, n, w, rfl, by rw [vr_int hu], e1, by rw [sizeLine_eq]; omega, by omega, by omega, q .non M _ e3 (s.put had ⟨_, upd_same, ?_⟩) Fz.non⟩
    rw [hk]
    have := reps_put (hw.ext e3) k (VReps.ext e3 e2)
    rw [hk] at this
    exact this) hbase hfew hline hs hpl
end
end Cu
namespace Pf
open PySem PySem.Spec PyProof.Rows L2 He Cu
/-! the well, wherever it stands -/
theorem sw_at {S : Sto} {n : Nat} {w : Well} (h : S[n]? = some (wellO w)) (v : Well) (L : Sto) : (S.set n (wellO v) ++ L)[n]? = some (wellO v) := by
  have hl := (List.getElem?_eq_some_iff.mp h).1
  rw [List.getElem?_append_left (by rw [List.length_set]; exact hl), List.getElem?_set_self hl]
theorem sw_set {S : Sto} {n : Nat} {w : Well} (h : S[n]? = some (wellO w)) (u v : Well) (L : Sto) : (S.set n (wellO u) ++ L).set n (wellO v) = S.set n (wellO v) ++ L := by
  have hl := (List.getElem?_eq_some_iff.mp h).1
  rw [List.set_append_left _ _ (by rw [List.length_set]; exact hl), List.set_set]
theorem sw_self {S : Sto} {n : Nat} {w : Well} (h : S[n]? = some (wellO w)) : S.set n (wellO w) = S := by
  obtain ⟨hl, e⟩ := List.getElem?_eq_some_iff.mp h
  rw [← e, List.set_getElem_self]
theorem sw_app {S : Sto} {n : Nat} {w : Well} (h : S[n]? = some (wellO w)) (v : Well) (a : Own) : (S.set n (wellO v) ++ [a])[S.length]? = some a := by
  rw [List.getElem?_append_right (by rw [List.length_set]; exact Nat.le_refl _), List.length_set, Nat.sub_self] <;> rfl
theorem sw_put {S : Sto} {n : Nat} {w : Well} (h : S[n]? = some (wellO w)) (v : Well) (a b : Own) : (S.set n (wellO v) ++ [a]).set S.length b = S.set n (wellO v) ++ [b] := by
  rw [List.set_append_right _ _ (by rw [List.length_set]; exact Nat.le_refl _), List.length_set, Nat.sub_self] <;> rfl
theorem dwl {S : Sto} {n : Nat} {w0 : Well} (h : S[n]? = some (wellO w0)) {w : Well} {m : Int} {L : Sto} {QR : Cu.It → Sto → Prop} {QE : Addr → Sto → Prop} (h1 : 0 < m) (h2 : m < 1073741824) (q : QR (.d (.int (drawV w m))) (S.set n (wellO (drawW w m)) ++ L)) : F_draw [.o n, .d (.int m)] (S.set n (wellO w) ++ L) QR QE :=
  ⟨n, w, m, rfl, sw_at h w L, h1, h2, by rw [sw_set h]; exact q⟩
theorem cls_well {S : Sto} (hc : ClS S) (n : Nat) (v : Well) : ClS (S.set n (wellO v)) := cls_set hc well_cl
theorem pick {xs : List PyData} {i : Int} (h0 : 0 ≤ i) (h1 : i < xs.length) : ∃ d, atI xs i = some d ∧ d ∈ xs := by
  have hl : i.toNat < xs.length := by omega
  exact ⟨xs[i.toNat], atI_nat (k := i.toNat) (by omega) (List.getElem?_eq_getElem hl), List.getElem_mem hl⟩
/-! the script's parts, plainly -/
structure PtsOk (i : Nat) (ps : List Part) : Prop where
  len : ps.length = i
  nm : ∀ (j : Nat) p, ps[j]? = some p → ∃ t, TL.tl p.1 = (97 + j) :: t
  ok : ∀ p ∈ ps, nameOk p.1 = true ∧ partFine p = true ∧ partIn p ∧ p.1.length ≤ 8 ∧ ∃ m : Int, p.2.2 = .int m ∧ 1 ≤ m ∧ m ≤ 8
theorem PtsOk.nd {i : Nat} {ps : List Part} (h : PtsOk i ps) : (ps.map (·.1)).Nodup := by
  refine List.pairwise_iff_getElem.mpr fun a b ha hb hab e => ?_
  rw [List.length_map] at ha hb
  rw [List.getElem_map, List.getElem_map] at e
  obtain ⟨t, ht⟩ := h.nm a _ (List.getElem?_eq_getElem ha)
  obtain ⟨u, hu⟩ := h.nm b _ (List.getElem?_eq_getElem hb)
  rw [e, hu] at ht
  injection ht with h1 _
  omega
theorem PtsOk.fine {i : Nat} {ps : List Part} (h : PtsOk i ps) : ps.all partFine = true := List.all_eq_true.mpr fun p hp => (h.ok p hp).2.1
theorem PtsOk.add {i : Nat} {ps : List Part} (h : PtsOk i ps) {p : Part} (h1 : ∃ t, TL.tl p.1 = (97 + i) :: t) (h2 : nameOk p.1 = true ∧ partFine p = true ∧ partIn p ∧ p.1.length ≤ 8 ∧ ∃ m : Int, p.2.2 = .int m ∧ 1 ≤ m ∧ m ≤ 8) : PtsOk (i + 1) (ps ++ [p]) := by
  refine ⟨by rw [List.length_append, h.len] <;> rfl, fun j q hq => ?_, fun q hq => ?_⟩
  · by_cases hj : j < ps.length
    · rw [List.getElem?_append_left hj] at hq
      exact h.nm j q hq
    · rw [List.getElem?_append_right (by omega)] at hq
      have : j - ps.length = 0 := by
        cases e : j - ps.length with
        | zero => rfl
        | succ k => rw [e] at hq; simp at hq
      rw [this] at hq
      cases hq
      rw [show j = i by have := h.len; omega]
      exact h1
  · rcases List.mem_append.mp hq with q1 | q1
    · exact h.ok q q1
    · rw [List.mem_singleton.mp q1]; exact h2
theorem okS_dec {x : Str} (h : ((TL.tl x).all fun c => decide (c < 1114112)) = true) : okS x := fun c hc => of_decide_eq_true (List.all_eq_true.mp h c hc)
theorem nm_part (i : Nat) (hi : i < 8) (x : Str) (hx : x ∈ (["", "1", "zz"] : List Str)) : nameOk (signS (97 + i) ++ x) = true ∧ okS (signS (97 + i) ++ x) ∧ (signS (97 + i) ++ x).length ≤ 8 ∧ x.length ≤ 2 ∧ ∃ t, TL.tl (signS (97 + i) ++ x) = (97 + i) :: t := by
  have h : ∀ x ∈ (["", "1", "zz"] : List Str), ∀ j : Fin 8, nameOk (signS (97 + j.1) ++ x) = true ∧ ((TL.tl (signS (97 + j.1) ++ x)).all fun c => decide (c < 1114112)) = true ∧ (signS (97 + j.1) ++ x).length ≤ 8 ∧ x.length ≤ 2 ∧ (TL.tl (signS (97 + j.1) ++ x)).head? = some (97 + j.1) := by decide +kernel
  obtain ⟨h1, h2, h3, h4, h5⟩ := h x hx ⟨i, hi⟩
  refine ⟨h1, fun c hc => of_decide_eq_true (List.all_eq_true.mp h2 c hc), h3, h4, ?_⟩
  revert h5
  cases TL.tl (signS (97 + i) ++ x) with
  | nil => exact fun h => nomatch h
  | cons a t =>
    intro h
    cases h
    exact ⟨t, rfl⟩
def F_parts : Fn := fun rs S QR _ => ∃ (n : Nat) (w : Well), rs = [.o n] ∧ S[n]? = some (wellO w) ∧ ∀ ps v i, PtsOk i ps → i ≤ 8 → QR (.d (.list (ps.map partD))) (S.set n (wellO v))
section
variable {P : Program} {w : World} {K : PySem.W.Frag} {mg : Str → Option Value} {base : Heap}
theorem fn__law_parts (T : TT K mg) {fd : FuncData} (Fd : FunD K "_law_parts" "_law_parts" (defArgs s__law_parts) (defBody s__law_parts) (defScope s__law_parts) [] [] (ga K "_law_parts") fd) : FnOk P w K mg base (L2.CX P w) 4 (ga K "_law_parts") fd ["_law_well_here"] (spF K 1 F_parts) := by
  refine fn_w Fd sc__law_parts fun cdv A outer s H E rs S QR QE c hc hl hF => ?_
  obtain ⟨n, w0, rfl, hw, q⟩ := hF
  have e0 := sw_self hw
  refine ss_cons (ws_set 1 c.nd (r := .o S.length) (S1 := S.set n (wellO w0) ++ [.lst []]) (by rw [e0]; exact ev_lstO eva_nil) ?_)
  refine ss_cons (ws_for c (evi_range1 (z_range T) (ev_call c (ok__law_draw T) (eva_cons (ev_name 0) (eva_cons ev_int eva_nil)) (fun QR QE q => dwl hw (by decide) (by decide) q)) (by have := draw_lo (w := w0) (m := 9) (by decide); have := draw_hi (w := w0) (m := 9) (by decide); omega))
    (fun i G' S' => ∃ ps v g2 g3 g4, G' = [some (.o n), some (.o S.length), g2, g3, g4] ∧ S' = S.set n (wellO v) ++ [.lst ((ps.map partD).map .d)] ∧ PtsOk i ps) (fun r G => G.set 2 (some r)) ⟨[], _, _, _, _, rfl, rfl, rfl, fun j p h => by simp at h, fun _ h => nomatch h⟩ (fun _ _ _ _ => trivial) (fun i r G' S' hr hJ => ?_) ?_ ?_)
  · obtain ⟨ps, v, g2, g3, g4, rfl, rfl, hP⟩ := hJ
    exact evg_name 2 c.nd
  · rintro i r' G' S' hi ⟨ps, v, g2, g3, g4, rfl, rfl, hP⟩
    obtain ⟨hil, rfl⟩ := rngI_at hi
    rw [Int.zero_add]
    have hi8 : i < 8 := by have := draw_hi (w := w0) (m := 9) (by decide); omega
    obtain ⟨d1, hd1, hm1⟩ := pick (xs := [.str "", .str "1", .str "zz"]) (i := drawV v 3) (draw_lo (by decide)) (draw_hi (by decide))
    obtain ⟨x, rfl, hx⟩ : ∃ x : Str, d1 = .str x ∧ x ∈ (["", "1", "zz"] : List Str) := by
      simp only [List.mem_cons, List.not_mem_nil, or_false] at hm1
      rcases hm1 with h | h | h <;> exact ⟨_, h, by simp⟩
    obtain ⟨f1, f2, f3, f4, f5⟩ := nm_part i hi8 x hx
    have hc8 : atI (Str.ofString "abcdefgh").cps.toList (i : Int) = some (97 + i) := by
      have h : ∀ j : Fin 8, (Str.ofString "abcdefgh").cps.toList[j.1]? = some (97 + j.1) := by decide +kernel
      exact atI_nat (k := i) rfl (h ⟨i, hi8⟩)
    refine ss_cons (ws_set 3 c.nd (ev_addS (ev_ixStr ev_str (ev_name 2) (by decide) hc8) (ev_ixL (ev_lst (eva_cons ev_str (eva_cons ev_str (eva_cons ev_str eva_nil)))) (ev_call c (ok__law_draw T) (eva_cons (ev_name 0) (eva_cons ev_int eva_nil)) (fun QR QE q => dwl hw (by decide) (by decide) q)) hd1) (by show 1 + x.length ≤ _; omega)) ?_)
    generalize hv1 : drawW v 3 = v1
    have a1 := draw_lo (w := v1) (m := 3) (by decide)
    have a2 := draw_hi (w := v1) (m := 3) (by decide)
    have b1 := draw_lo (w := drawW v1 3) (m := 8) (by decide)
    have b2 := draw_hi (w := drawW v1 3) (m := 8) (by decide)
    have c1 := draw_lo (w := drawW (drawW v1 3) 8) (m := 4) (by decide)
    have c2 := draw_hi (w := drawW (drawW v1 3) 8) (m := 4) (by decide)
    obtain ⟨d2, hd2, hm2⟩ := pick (xs := [.int (1 + drawV v1 3), .int (1 + drawV (drawW v1 3) 8)]) (i := drawV (drawW (drawW v1 3) 8) 4 / 3) (by omega) (by show _ < (2 : Int); omega)
    obtain ⟨m, rfl, m1, m8⟩ : ∃ m : Int, d2 = .int m ∧ 1 ≤ m ∧ m ≤ 8 := by
      simp only [List.mem_cons, List.not_mem_nil, or_false] at hm2
      rcases hm2 with h | h
      · exact ⟨_, h, by omega, by omega⟩
      · exact ⟨_, h, by omega, by omega⟩
    refine ss_cons (ws_set 4 c.nd (ev_ixL (ev_lst (eva_cons (ev_add ev_int (ev_call c (ok__law_draw T) (eva_cons (ev_name 0) (eva_cons ev_int eva_nil)) (fun QR QE q => dwl hw (by decide) (by decide) q))) (eva_cons (ev_add ev_int (ev_call c (ok__law_draw T) (eva_cons (ev_name 0) (eva_cons ev_int eva_nil)) (fun QR QE q => dwl hw (by decide) (by decide) q))) eva_nil))) (ev_fdiv (ev_call c (ok__law_draw T) (eva_cons (ev_name 0) (eva_cons ev_int eva_nil)) (fun QR QE q => dwl hw (by decide) (by decide) q)) ev_int ⟨by decide, by decide⟩) hd2) ?_)
    generalize hv2 : drawW (drawW (drawW v1 3) 8) 4 = v2
    obtain ⟨d3, hd3, hm3⟩ := pick (xs := [.str "r", .str "r", .str "c2"]) (i := drawV v2 3) (draw_lo (by decide)) (draw_hi (by decide))
    obtain ⟨y, rfl, hy1, hy2⟩ : ∃ y : Str, d3 = .str y ∧ nameOk y = true ∧ (y = "r" ∨ y = "c2") := by
      simp only [List.mem_cons, List.not_mem_nil, or_false] at hm3
      rcases hm3 with h | h | h
      · exact ⟨_, h, by decide +kernel, .inl rfl⟩
      · exact ⟨_, h, by decide +kernel, .inl rfl⟩
      · exact ⟨_, h, by decide +kernel, .inr rfl⟩
    have hy3 : y.length ≤ 90000 ∧ okS y := by
      rcases hy2 with rfl | rfl
      · exact ⟨by decide, okS_dec (by decide +kernel)⟩
      · exact ⟨by decide, okS_dec (by decide +kernel)⟩
    have hpl := hP.len
    refine ss_cons (ws_expr (ev_append (xs := (ps.map partD).map .d) (ev_name 1) (sw_app hw _ _) (ev_tup (eva_cons (ev_name 3) (eva_cons (ev_ixL (ev_lst (eva_cons ev_str (eva_cons ev_str (eva_cons ev_str eva_nil)))) (ev_call c (ok__law_draw T) (eva_cons (ev_name 0) (eva_cons ev_int eva_nil)) (fun QR QE q => dwl hw (by decide) (by decide) q)) hd3) (eva_cons (ev_name 4) eva_nil)))) (sw_app hw _ _) (by rw [List.length_map, List.length_map]; omega)) (ss_nil ?_))
    refine ⟨ps ++ [(signS (97 + i) ++ x, y, .int m)], drawW v2 3, _, _, _, rfl, ?_, hP.add f5 ⟨f1, ?_, ⟨hy3.1, hy3.2, f2, rfl⟩, f3, m, rfl, m1, m8⟩⟩
    · rw [sw_put hw, List.map_append, List.map_append] <;> rfl
    · show (nameOk y && decide (1 ≤ m ∧ m ≤ 8)) = true
      rw [hy1, decide_eq_true ⟨m1, m8⟩] <;> rfl
  · rintro G' S' ⟨ps, v, g2, g3, g4, rfl, rfl, hP⟩
    rw [rngI_len] at hP
    refine ss_cons (ws_ret (ev_name 1) (back_lst (S1 := S.set n (wellO v)) _ (cls_well hc _ _) (by rw [List.length_set]; exact Nat.le_refl _) (sw_app hw _ _) (q ps v _ hP ?_) rfl (by rw [List.length_set]; exact Nat.le_refl _)))
    have := draw_hi (w := w0) (m := 9) (by decide)
    omega
theorem ok__law_parts (T : TT K mg) : OkF P w K mg base 4 "_law_parts" ["_law_well_here"] [] F_parts := okF_of (g__law_parts T) (d__law_parts T) (fun _ _ _ _ _ _ us hl => match us, hl with | [_], _ => rfl) fun fd Fd => fn__law_parts T Fd
end
end Pf
namespace Pf
open PySem PySem.Spec PyProof.Rows L2 He Cu
def lamD : Defn := ("_law_nets", none)
def lamQ : Str := "_law_nets" ++ ".<locals>." ++ "<lambda>"
/-! dicts of lists, plainly -/
def nk : Nat → List Net → List (Key × Cu.It)
  | _, [] => []
  | m, n :: ns => (.inr n.1, .o m) :: nk (m + 1) ns
def netsS (m : Nat) (ns : List Net) : Sto := .dK (nk (m + 1) ns) :: ns.map fun n => .lst ((n.2.map pinD).map .d)
theorem nk_len : ∀ (m : Nat) (ns : List Net), (nk m ns).length = ns.length
  | _, [] => rfl
  | m, _ :: ns => congrArg Nat.succ (nk_len (m + 1) ns)
theorem nk_at : ∀ {m : Nat} {ns : List Net} {j : Nat} {n : Net}, ns[j]? = some n → (nk m ns)[j]? = some (.inr n.1, .o (m + j))
  | _, [], _, _, h => by simp at h
  | m, x :: ns, 0, n, h => by cases h; rfl
  | m, x :: ns, j + 1, n, h => by
    show (nk (m + 1) ns)[j]? = _
    rw [nk_at (m := m + 1) (ns := ns) (j := j) h, show m + 1 + j = m + (j + 1) by omega]
theorem nk_keys : ∀ (m : Nat) (ns : List Net), (nk m ns).map (·.1) = ns.map fun n => (Sum.inr n.1 : Key)
  | _, [] => rfl
  | m, x :: ns => congrArg (List.cons _) (nk_keys (m + 1) ns)
theorem nk_own : ∀ {m : Nat} {ns : List Net}, ∀ kv ∈ nk m ns, ∃ n, kv.2 = Cu.It.o n
  | _, [], _, h => nomatch h
  | m, x :: ns, kv, h => by
    rcases List.mem_cons.mp h with e | h
    · exact ⟨m, by rw [e]⟩
    · exact nk_own kv h
theorem nk_val : ∀ {m : Nat} {ns : List Net} {j : Nat} {n : Net}, (ns.map (·.1)).Nodup → ns[j]? = some n → valI (nk m ns) (.inr n.1) = some (.o (m + j))
  | _, [], _, _, _, h => by simp at h
  | m, x :: ns, 0, n, nd, h => by
    cases h
    unfold valI
    rw [nk, List.find?_cons, decide_eq_true rfl] <;> rfl
  | m, x :: ns, j + 1, n, nd, h => by
    rw [List.map_cons, List.nodup_cons] at nd
    have ih := nk_val (m := m + 1) (ns := ns) (j := j) nd.2 h
    have ne : (Sum.inr x.1 : Key) ≠ .inr n.1 := fun z => by
      injection z with z
      have hm : n ∈ ns := List.mem_of_getElem? (show ns[j]? = some n from h)
      exact nd.1 (z ▸ List.mem_map.mpr ⟨n, hm, rfl⟩)
    unfold valI at ih ⊢
    rw [nk, List.find?_cons, decide_eq_false ne]
    rw [show m + (j + 1) = m + 1 + j by omega]
    exact ih
theorem nk_any (m : Nat) (ns : List Net) (k : Str) (h : k ∉ ns.map (·.1)) : (nk m ns).any (fun kv => decide (kv.1 = (.inr k : Key))) = false := by
  rw [Bool.eq_false_iff]
  intro z
  obtain ⟨kv, hkv, e⟩ := List.any_eq_true.mp z
  have e := of_decide_eq_true e
  have hm : (Sum.inr k : Key) ∈ (nk m ns).map (·.1) := e ▸ List.mem_map.mpr ⟨kv, hkv, rfl⟩
  rw [nk_keys] at hm
  obtain ⟨n, hn, e2⟩ := List.mem_map.mp hm
  injection e2 with e2
  exact h (List.mem_map.mpr ⟨n, hn, e2⟩)
theorem nk_none {m : Nat} {ns : List Net} {k : Str} (h : k ∉ ns.map (·.1)) : valI (nk m ns) (.inr k) = none := by
  have := nk_any m ns k h
  unfold valI
  rw [Option.map_eq_none_iff, List.find?_eq_none]
  intro x hx z
  rw [List.any_eq_false] at this
  exact this x hx z
theorem nk_app : ∀ (m : Nat) (ns : List Net) (n : Net), nk m (ns ++ [n]) = nk m ns ++ [(.inr n.1, .o (m + ns.length))]
  | m, [], n => rfl
  | m, x :: ns, n => by
    show (Sum.inr x.1, Cu.It.o m) :: nk (m + 1) (ns ++ [n]) = _
    rw [nk_app (m + 1) ns n, List.length_cons, show m + 1 + ns.length = m + (ns.length + 1) by omega] <;> rfl
theorem nk_put {m : Nat} {ns : List Net} {k : Str} (h : k ∉ ns.map (·.1)) (q : List Pin) : putI (nk m ns) (.inr k) (.o (m + ns.length)) = nk m (ns ++ [(k, q)]) := by
  unfold putI
  rw [nk_any m ns k h, nk_app] <;> rfl
theorem nk_set : ∀ {m : Nat} {ns : List Net} {j : Nat} {n : Net} (q : List Pin), ns[j]? = some n → nk m (ns.set j (n.1, q)) = nk m ns
  | _, [], _, _, _, h => by simp at h
  | m, x :: ns, 0, n, q, h => by cases h; rfl
  | m, x :: ns, j + 1, n, q, h => by
    show (Sum.inr x.1, Cu.It.o m) :: nk (m + 1) (ns.set j (n.1, q)) = _
    rw [nk_set (m := m + 1) (ns := ns) (j := j) q h] <;> rfl
theorem netsS_len (m : Nat) (ns : List Net) : (netsS m ns).length = ns.length + 1 := by
  unfold netsS
  rw [List.length_cons, List.length_map]
theorem netsS_at {m : Nat} {ns : List Net} {j : Nat} {n : Net} (h : ns[j]? = some n) : (netsS m ns)[1 + j]? = some (.lst ((n.2.map pinD).map .d)) := by
  unfold netsS
  rw [Nat.add_comm 1 j, List.getElem?_cons_succ, List.getElem?_map, h] <;> rfl
theorem netsS_set {m : Nat} {ns : List Net} {j : Nat} {n : Net} (q : List Pin) (h : ns[j]? = some n) : (netsS m ns).set (1 + j) (.lst ((q.map pinD).map .d)) = netsS m (ns.set j (n.1, q)) := by
  unfold netsS
  rw [Nat.add_comm 1 j, List.set_cons_succ, nk_set q h, List.map_set]
theorem told_eq (ns : List Net) : toldOf ns = ns.flatMap (·.2) := by
  unfold toldOf flatN
  rw [List.map_flatMap]
  refine congrArg (fun f => ns.flatMap f) (funext fun n => ?_)
  rw [List.map_map]
  exact List.map_id _
theorem told_set {ns : List Net} {j : Nat} {k : Str} {pins ins : List Pin} {p : Pin} (h : ns[j]? = some (k, pins)) (hp : ins.Perm (p :: pins)) : (toldOf (ns.set j (k, ins))).Perm (p :: toldOf ns) := by
  obtain ⟨hj, e⟩ := List.getElem?_eq_some_iff.mp h
  have e1 : ns = ns.take j ++ (k, pins) :: ns.drop (j + 1) := by rw [← e, ← List.drop_eq_getElem_cons hj, List.take_append_drop]
  rw [told_eq, told_eq, List.set_eq_take_append_cons_drop, if_pos hj, List.flatMap_append, List.flatMap_cons]
  conv => rhs; rw [e1, List.flatMap_append, List.flatMap_cons]
  refine ((hp.append_right _).append_left _).trans ?_
  exact List.perm_middle
theorem ins_perm {α : Type} (p : α) (l : List α) (q : Nat) : (l.take q ++ [p] ++ l.drop q).Perm (p :: l) := by
  rw [List.append_assoc]
  refine (List.perm_middle (l₁ := l.take q) (a := p) (l₂ := l.drop q)).trans ?_
  rw [List.take_append_drop]
theorem perm_inv {α β : Type} {f : α → β} : ∀ {m : List β} {l : List α}, m.Perm (l.map f) → ∃ l' : List α, l'.Perm l ∧ m = l'.map f
  | [], l, h => by
    have := h.length_eq
    rw [List.length_map] at this
    rw [List.eq_nil_of_length_eq_zero this.symm]
    exact ⟨[], .refl _, rfl⟩
  | b :: m, l, h => by
    obtain ⟨a, ha, rfl⟩ := List.mem_map.mp (h.mem_iff.mp List.mem_cons_self)
    obtain ⟨s, t, rfl⟩ := List.append_of_mem ha
    have h2 : m.Perm ((s ++ t).map f) := by
      rw [List.map_append, List.map_cons] at h
      rw [List.map_append]
      exact (h.trans List.perm_middle).cons_inv
    obtain ⟨l', h3, h4⟩ := perm_inv h2
    exact ⟨a :: l', (List.Perm.cons a h3).trans List.perm_middle.symm, by rw [h4] <;> rfl⟩
def nN (j : Nat) : Str := Str.ofString "n" ++ Str.ofString (toString (j : Int))
theorem nN_ok {j : Nat} (h : j < 7) : nameOk (nN j) = true ∧ okS (nN j) ∧ (nN j).length ≤ 8 := by
  have h2 : ∀ j : Fin 7, nameOk (nN j.1) = true ∧ ((TL.tl (nN j.1)).all fun c => decide (c < 1114112)) = true ∧ (nN j.1).length ≤ 8 := by decide +kernel
  obtain ⟨a, b, c⟩ := h2 ⟨j, h⟩
  exact ⟨a, fun x hx => of_decide_eq_true (List.all_eq_true.mp b x hx), c⟩
structure NtOk (ns : List Net) : Prop where
  nd : (ns.map (·.1)).Nodup
  nm : ∀ n ∈ ns, ∃ j, j < 7 ∧ n.1 = nN j
  ne : ∀ n ∈ ns, n.2 ≠ []
theorem NtOk.few {ns : List Net} (h : NtOk ns) : ns.length ≤ 7 := by
  have := h.nd.length_le_of_subset (l₂ := (List.range 7).map nN) fun x hx => by
    obtain ⟨n, hn, rfl⟩ := List.mem_map.mp hx
    obtain ⟨j, hj, e⟩ := h.nm n hn
    rw [e]
    exact List.mem_map.mpr ⟨j, List.mem_range.mpr hj, rfl⟩
  simpa using this
theorem NtOk.perm {ns ns' : List Net} (h : NtOk ns) (p : ns'.Perm ns) : NtOk ns' := ⟨(p.map _).nodup_iff.mpr h.nd, fun n hn => h.nm n (p.mem_iff.mp hn), fun n hn => h.ne n (p.mem_iff.mp hn)⟩
theorem told_perm {ns ns' : List Net} (p : ns'.Perm ns) : (toldOf ns').Perm (toldOf ns) := by
  rw [told_eq, told_eq]
  exact p.flatMap_right _
/-- the drawing's nets that the script tells -/
def NetsOk (ps : List Part) (ns : List Net) : Prop := NtOk ns ∧ (toldOf ns).Perm (pinsOf ps)
def keyF : PyData → PyData
  | .tuple [_, .list (x :: _)] => x
  | _ => .none
theorem keyF_net {n : Net} (h : n.2 ≠ []) : ∃ p, keyF (netD n) = pinD p ∧ ∃ r, n.2 = p :: r := by
  obtain ⟨k, q⟩ := n
  cases q with
  | nil => exact absurd rfl h
  | cons p r => exact ⟨p, rfl, r, rfl⟩
theorem reads_pin {h : Heap} {v : Value} {as : List Addr} {p : Pin} (r : Reads h v (pinD p) as) : as = [] := by
  unfold pinD at r
  cases r with
  | tuple e1 e2 e3 e4 =>
    rename_i o vs n
    revert e4
    generalize vs.toList = l
    intro e4
    cases e4 with
    | cons a1 b1 => cases a1; cases b1 with
      | cons a2 b2 => cases a2; cases b2; rfl
theorem den_idx {n : Nat} {S : Sto} : ∀ {rs : List Cu.It} {ds : List PyData}, rs.length = ds.length → (∀ (j : Nat) (r : Cu.It) (d : PyData), rs[j]? = some r → ds[j]? = some d → Den n S r d) → DenAll n S rs ds
  | [], [], _, _ => .nil
  | [], _ :: _, h, _ => nomatch h
  | _ :: _, [], h, _ => nomatch h
  | r :: rs, d :: ds, h, f => .cons (f 0 r d rfl rfl) (den_idx (Nat.succ.inj h) fun j => f (j + 1))
theorem items_at {L : Nat} {kvs : List (Key × Cu.It)} {j : Nat} {kv : Key × Cu.It} (h : kvs[j]? = some kv) : (itemsO L kvs)[1 + j]? = some (.tup [.d (keyOf kv.1), kv.2]) := by
  unfold itemsO
  rw [Nat.add_comm 1 j, List.getElem?_cons_succ, List.getElem?_map, h] <;> rfl
theorem pins_num (p : Part) (m : Int) (h : p.2.2 = .int m) (A : List Part) : pinsOf (A ++ [p]) = pinsOf A ++ (List.range m.toNat).map fun (x : Nat) => (p.1, (x : Int)) := by
  unfold pinsOf
  rw [List.flatMap_append, List.flatMap_singleton, h] <;> rfl
def F_nets (K : PySem.W.Frag) : Fn := fun rs S QR _ => ∃ (n : Nat) (w : Well) (ps : List Part) (i : Nat), rs = [.o n, .d (.list (ps.map partD))] ∧ S[n]? = some (wellO w) ∧ S[0]? = some (.tbl (cT K lamD).2 lamQ) ∧ PtsOk i ps ∧ i ≤ 8 ∧ ∀ ns v, NetsOk ps ns → QR (.d (.list (ns.map netD))) (S.set n (wellO v))
section
variable {P : Program} {w : World} {K : PySem.W.Frag} {mg : Str → Option Value} {base : Heap}
theorem fn__law_nets (T : TT K mg) (B : LamX.TabB base mg (cT K lamD).1 (cT K lamD).2) {fd : FuncData} (Fd : FunD K "_law_nets" "_law_nets" (defArgs s__law_nets) (defBody s__law_nets) (defScope s__law_nets) [] [] (ga K "_law_nets") fd) : FnOk P w K mg base (L2.CX P w) 4 (ga K "_law_nets") fd ["_law_well_here", "_law_parts_here"] (spF K 2 (F_nets K)) := by
  refine fn_wT Fd sc__law_nets lamD rfl fun cdv A outer s H E rs S QR QE hcd c hc hl hF => ?_
  obtain ⟨n, w0, ps, i0, rfl, hw, ht, hP, hi0, q⟩ := hF
  have e0 := sw_self hw
  have hS0 : 0 < S.length := (List.getElem?_eq_some_iff.mp ht).1
  have hn0 : n ≠ 0 := fun z => by
    rw [z, ht] at hw
    cases hw
  have lset : ∀ v, (S.set n (wellO v)).length = S.length := fun v => List.length_set
  have at0 : ∀ v L, (S.set n (wellO v) ++ L)[0]? = some (.tbl (cT K lamD).2 lamQ) := fun v L => by
    rw [List.getElem?_append_left (by rw [lset]; exact hS0), List.getElem?_set_ne hn0]
    exact ht
  have atm : ∀ v L k, (S.set n (wellO v) ++ L)[S.length + k]? = L[k]? := fun v L k => by
    rw [List.getElem?_append_right (by rw [lset]; omega), lset, Nat.add_sub_cancel_left]
  have stm : ∀ v L k x, (S.set n (wellO v) ++ L).set (S.length + k) x = S.set n (wellO v) ++ L.set k x := fun v L k x => by
    rw [List.set_append_right _ _ (by rw [lset]; omega), lset, Nat.add_sub_cancel_left]
  have atd : ∀ v ns L, (S.set n (wellO v) ++ (netsS S.length ns ++ L))[S.length]? = some (.dK (nk (S.length + 1) ns)) := fun v ns L => atm v _ 0
  have atd0 : ∀ v ns, (S.set n (wellO v) ++ netsS S.length ns)[S.length]? = some (.dK (nk (S.length + 1) ns)) := fun v ns => atm v _ 0
  refine ss_cons (ws_set 2 c.nd (r := .o S.length) (S1 := S.set n (wellO w0) ++ netsS S.length []) (by rw [e0]; exact ev_dNewK) ?_)
  refine ss_cons (ws_for c (evi_list (ds := ps.map partD) (ev_name 1)) (fun i G' S' => ∃ ns v g3 g4 g5 g6 g7, G' = [some (.o n), some (.d (.list (ps.map partD))), some (.o S.length), g3, g4, g5, g6, g7] ∧ S' = S.set n (wellO v) ++ netsS S.length ns ∧ NtOk ns ∧ (toldOf ns).Perm (pinsOf (ps.take i))) (fun r G => match r with | .d (.tuple [d0, d1, d2]) => ((G.set 3 (some (.d d0))).set 4 (some (.d d1))).set 5 (some (.d d2)) | _ => G)
    ⟨[], w0, _, _, _, _, _, rfl, rfl, ⟨List.nodup_nil, (fun _ h => nomatch h), (fun _ h => nomatch h)⟩, .refl _⟩ (fun _ _ _ _ => trivial) ?_ ?_ ?_)
  · rintro i r' G' S' hr' ⟨ns, v, g3, g4, g5, g6, g7, rfl, rfl, hN, hT⟩
    rw [List.getElem?_map, List.getElem?_map] at hr'
    cases hx : ps[i]? with
    | none => rw [hx] at hr'; cases hr'
    | some p =>
      rw [hx] at hr'
      cases hr'
      exact (evg_tup c.calm (evgs_cons (evg_name 3 c.nd) (evgs_cons (evg_name 4 c.nd) (evgs_cons (evg_name 5 c.nd) evgs_nil))))
  · rintro i r' G' S' hr' ⟨ns, v, g3, g4, g5, g6, g7, rfl, rfl, hN, hT⟩
    rw [List.getElem?_map, List.getElem?_map] at hr'
    cases hx : ps[i]? with
    | none => rw [hx] at hr'; cases hr'
    | some p =>
      rw [hx] at hr'
      cases hr'
      obtain ⟨p1, p2, p3, p4, m, hm, m1, m8⟩ := hP.ok p (List.mem_of_getElem? hx)
      show WSs _ _ _ [some (.o n), some (.d (.list (ps.map partD))), some (.o S.length), some (.d (.str p.1)), some (.d (.str p.2.1)), some (.d p.2.2), g6, g7] _ _
      rw [hm]
      refine ss_cons (ws_for c (evi_range1 (n := m) (z_range T) (ev_name 5) (by omega)) (fun j G' S' => ∃ ns v g6 g7, G' = [some (.o n), some (.d (.list (ps.map partD))), some (.o S.length), some (.d (.str p.1)), some (.d (.str p.2.1)), some (.d (.int m)), g6, g7] ∧ S' = S.set n (wellO v) ++ netsS S.length ns ∧ NtOk ns ∧ (toldOf ns).Perm (pinsOf (ps.take i) ++ (List.range j).map fun (x : Nat) => (p.1, (x : Int)))) (fun r G => G.set 6 (some r))
        ⟨ns, v, g6, g7, rfl, rfl, hN, by simpa using hT⟩ (fun _ _ _ _ => trivial) (fun j r G' S' hr hJ => ?_) ?_ ?_)
      · obtain ⟨ns, v, g6, g7, rfl, rfl, hN, hT⟩ := hJ
        exact evg_name 6 c.nd
      · rintro j r' G' S' hj ⟨ns, v, g6, g7, rfl, rfl, hN, hT⟩
        obtain ⟨hjl, rfl⟩ := rngI_at hj
        rw [Int.zero_add]
        have hj8 : j < 8 := by omega
        have hfew := hN.few
        have d1 := draw_lo (w := v) (m := 7) (by decide)
        have d2 := draw_hi (w := v) (m := 7) (by decide)
        obtain ⟨dn, hdn⟩ := Int.eq_ofNat_of_zero_le d1
        have hd7 : dn < 7 := by omega
        obtain ⟨f1, f2, f3⟩ := nN_ok hd7
        have evk : ∀ {X : Cx} {W : WX} {kk : Nat} {G : Gam} {p1 p2 p3 p4 p5 p6 p7 : Pos} {x1 x2 : Nat}, True := trivial
        -- the net's list
        refine ss_mid (J := fun G1 S1 => ∃ ns1 l pins v1 g7, G1 = [some (.o n), some (.d (.list (ps.map partD))), some (.o S.length), some (.d (.str p.1)), some (.d (.str p.2.1)), some (.d (.int m)), some (.d (.int (j : Nat))), some (.o (S.length + (1 + l)))] ∧ S1 = S.set n (wellO v1) ++ netsS S.length ns1 ∧ ns1[l]? = some (nN dn, pins) ∧ (ns1.map (·.1)).Nodup ∧ (∀ x ∈ ns1, ∃ j, j < 7 ∧ x.1 = nN j) ∧ (∀ (i : Nat) x, ns1[i]? = some x → i ≠ l → x.2 ≠ []) ∧ toldOf ns1 = toldOf ns ∧ g7 = (0 : Nat)) ?_ ?_
        · by_cases hkk : nN dn ∈ ns.map (·.1)
          · obtain ⟨x, hxm, hxe⟩ := List.mem_map.mp hkk
            obtain ⟨l, hl'⟩ := List.getElem?_of_mem hxm
            have hval := nk_val (m := S.length + 1) hN.nd hl'
            rw [hxe] at hval
            refine ws_set 7 c.nd (r := .o (S.length + (1 + l))) (S1 := S.set n (wellO (drawW v 7)) ++ netsS S.length ns) (Ev.is2 (ev_setdefault (kd := .str (nN dn)) (kk := .inr (nN dn)) (ev_name 2) (atd0 _ _) (ev_addS (y := Str.ofString (toString (dn : Int))) ev_str (Ev.is (ev_strI (z_str T) (ev_call c (ok__law_draw T) (eva_cons (ev_name 0) (eva_cons ev_int eva_nil)) (fun QR QE q => dwl hw (by decide) (by decide) q)) (by rw [hdn]; have : ((dn : Int)).natAbs.log2 ≤ ((dn : Int)).natAbs := Nat.log2_le_self _; omega)) (by rw [hdn])) ?_) (ev_lst eva_nil) (atd0 _ _) rfl (by rw [nk_len]; omega)) ?_ ?_) ⟨ns, l, x.2, _, 0, rfl, rfl, by rw [← hxe]; exact hl', hN.nd, hN.nm, fun i y hy _ => hN.ne y (List.mem_of_getElem? hy), rfl, rfl⟩
            · have h3 := f3
              unfold nN at h3
              have : (Str.ofString "n" ++ Str.ofString (toString (dn : Int))).length = (Str.ofString "n").length + (Str.ofString (toString (dn : Int))).length := Array.size_append
              omega
            · rw [hval, show S.length + 1 + l = S.length + (1 + l) by omega] <;> rfl
            · rw [hval] <;> rfl
          · have hval := nk_none (m := S.length + 1) hkk
            refine ws_set 7 c.nd (r := .o (S.length + (1 + ns.length))) (S1 := S.set n (wellO (drawW v 7)) ++ netsS S.length (ns ++ [(nN dn, [])])) (Ev.is2 (ev_setdefault (kd := .str (nN dn)) (kk := .inr (nN dn)) (ev_name 2) (atd0 _ _) (ev_addS (y := Str.ofString (toString (dn : Int))) ev_str (Ev.is (ev_strI (z_str T) (ev_call c (ok__law_draw T) (eva_cons (ev_name 0) (eva_cons ev_int eva_nil)) (fun QR QE q => dwl hw (by decide) (by decide) q)) (by rw [hdn]; have : ((dn : Int)).natAbs.log2 ≤ ((dn : Int)).natAbs := Nat.log2_le_self _; omega)) (by rw [hdn])) ?_) (Ev.is2 (ev_lstO eva_nil) (r' := .o (S.length + 1 + ns.length)) (S2 := S.set n (wellO (drawW v 7)) ++ (netsS S.length ns ++ [.lst []])) (by rw [List.length_append, lset, netsS_len]; congr 1; omega) (List.append_assoc _ _ _)) (atd _ _ _) rfl (by rw [nk_len]; omega)) ?_ ?_) ⟨ns ++ [(nN dn, [])], ns.length, [], _, 0, rfl, rfl, by rw [List.getElem?_append_right (Nat.le_refl _), Nat.sub_self] <;> rfl, ?_, ?_, ?_, ?_, rfl⟩
            · have h3 := f3
              unfold nN at h3
              have : (Str.ofString "n" ++ Str.ofString (toString (dn : Int))).length = (Str.ofString "n").length + (Str.ofString (toString (dn : Int))).length := Array.size_append
              omega
            · rw [hval, show S.length + 1 + ns.length = S.length + (1 + ns.length) by omega] <;> rfl
            · rw [hval, nk_put hkk []]
              show (S.set n (wellO (drawW v 7)) ++ (netsS S.length ns ++ [Own.lst []])).set (S.length + 0) _ = _
              rw [stm]
              refine congrArg (S.set n (wellO (drawW v 7)) ++ ·) ?_
              unfold netsS
              rw [List.map_append] <;> rfl
            · rw [List.map_append, List.nodup_append]
              refine ⟨hN.nd, List.pairwise_singleton _ _, fun a ha b hb => ?_⟩
              rw [List.mem_singleton.mp hb]
              intro z
              have z : a = nN dn := z
              rw [z] at ha
              exact hkk ha
            · intro x hx
              rcases List.mem_append.mp hx with h | h
              · exact hN.nm x h
              · rw [List.mem_singleton.mp h]; exact ⟨dn, hd7, rfl⟩
            · intro i x hx hne
              by_cases hi : i < ns.length
              · rw [List.getElem?_append_left hi] at hx
                exact hN.ne x (List.mem_of_getElem? hx)
              · have := (List.getElem?_eq_some_iff.mp hx).1
                rw [List.length_append] at this
                have : [(nN dn, ([] : List Pin))].length = 1 := rfl
                omega
            · rw [told_eq, told_eq, List.flatMap_append] <;> simp
        · rintro _ _ ⟨ns1, l, pins, v1, g7, rfl, rfl, hl1, nd1, nm1, ne1, tl1, -⟩
          have plen : pins.length ≤ 1000 := by
            have h1 : pins.length ≤ (toldOf ns1).length := by
              rw [told_eq, List.flatMap_def]
              exact (List.sublist_flatten_of_mem (List.mem_map.mpr ⟨(nN dn, pins), List.mem_of_getElem? hl1, rfl⟩) : pins.Sublist _).length_le
            have h2 := hT.length_eq
            have h3 := pinsOf_len (ps := ps.take i) (List.all_eq_true.mpr fun x hx => (hP.ok x (List.mem_of_mem_take hx)).2.1)
            rw [tl1] at h1
            rw [List.length_append, List.length_map, List.length_range] at h2
            have h4 : (ps.take i).length ≤ 8 := by rw [List.length_take]; have := hP.len; omega
            omega
          have e1 := draw_lo (w := v1) (m := ((pins.length : Nat) : Int) + 1) (by omega)
          have e2 := draw_hi (w := v1) (m := ((pins.length : Nat) : Int) + 1) (by omega)
          obtain ⟨qn, hqn⟩ := Int.eq_ofNat_of_zero_le e1
          refine ss_cons (ws_expr (ev_insert (k := qn) (xs := (pins.map pinD).map .d) (ev_name 7) (by rw [atm, netsS_at hl1]) (Ev.is (ev_call c (ok__law_draw T) (eva_cons (ev_name 0) (eva_cons (ev_add (ev_lenA (ds := pins.map pinD) (z_len T) (ev_name 7) (ls_own (by rw [atm, netsS_at hl1]))) ev_int) eva_nil)) (fun QR QE q => by rw [List.length_map]; exact dwl hw (by omega) (by omega) q)) rfl) (ev_tup (eva_cons (ev_name 3) (eva_cons (ev_name 6) eva_nil))) (by rw [atm, netsS_at hl1]) hqn (by omega) (by rw [List.length_map, List.length_map]; omega)) (ss_nil ?_))
          refine ⟨ns1.set l (nN dn, pins.take qn ++ [(p.1, (j : Int))] ++ pins.drop qn), drawW v1 (((pins.length : Nat) : Int) + 1), _, _, rfl, ?_, ⟨?_, ?_, ?_⟩, ?_⟩
          · rw [stm]
            refine congrArg (S.set n _ ++ ·) ?_
            rw [← netsS_set (n := (nN dn, pins)) _ hl1]
            congr 2
            rw [List.map_append, List.map_append, List.map_append, List.map_append, ← List.map_take, ← List.map_take, ← List.map_drop, ← List.map_drop] <;> rfl
          · have : (ns1.set l (nN dn, pins.take qn ++ [(p.1, (j : Int))] ++ pins.drop qn)).map (·.1) = ns1.map (·.1) := by
              rw [List.map_set]
              obtain ⟨hl2, e⟩ := List.getElem?_eq_some_iff.mp hl1
              have h3 : (ns1.map (·.1))[l]'(by rw [List.length_map]; exact hl2) = nN dn := by rw [List.getElem_map, e]
              conv => lhs; rw [show (nN dn, pins.take qn ++ [(p.1, (j : Int))] ++ pins.drop qn).1 = (ns1.map (·.1))[l]'(by rw [List.length_map]; exact hl2) from h3.symm]
              exact List.set_getElem_self _
            rw [this]
            exact nd1
          · intro x hx
            rcases List.mem_or_eq_of_mem_set hx with h | h
            · exact nm1 x h
            · rw [h]; exact ⟨dn, hd7, rfl⟩
          · intro x hx
            obtain ⟨t, ht'⟩ := List.getElem?_of_mem hx
            by_cases hlt : t = l
            · subst hlt
              rw [List.getElem?_set_self (List.getElem?_eq_some_iff.mp hl1).1] at ht'
              cases ht'
              simp
            · rw [List.getElem?_set_ne (Ne.symm hlt)] at ht'
              exact ne1 t x ht' hlt
          · refine (told_set hl1 (ins_perm _ _ _)).trans ?_
            rw [tl1, List.range_succ, List.map_append, ← List.append_assoc]
            exact (List.Perm.cons _ hT).trans (List.perm_append_singleton _ _).symm
      · rintro G' S' ⟨ns, v, g6, g7, rfl, rfl, hN, hT⟩
        rw [rngI_len] at hT
        refine ss_nil ⟨ns, v, _, _, _, _, _, rfl, rfl, hN, ?_⟩
        rw [List.take_add_one, hx]
        show (toldOf ns).Perm (pinsOf (ps.take i ++ [p]))
        rw [pins_num p m hm]
        exact hT
  · rintro G' S' ⟨ns, v, g3, g4, g5, g6, g7, rfl, rfl, hN, hT⟩
    rw [List.length_map, List.length_map, List.take_length] at hT
    have hden : DenAll S.length (S.set n (wellO v) ++ netsS S.length ns ++ itemsO (S.set n (wellO v) ++ netsS S.length ns).length (nk (S.length + 1) ns)) ((List.range (nk (S.length + 1) ns).length).map fun j => .o ((S.set n (wellO v) ++ netsS S.length ns).length + 1 + j)) (ns.map netD) := by
      refine den_idx (by rw [List.length_map, List.length_range, nk_len, List.length_map]) fun j r d hr hd => ?_
      rw [List.getElem?_map] at hr hd
      cases hx : ns[j]? with
      | none => rw [hx] at hd; cases hd
      | some x =>
        rw [hx] at hd
        cases hd
        have hj := (List.getElem?_eq_some_iff.mp hx).1
        rw [List.getElem?_range (by rw [nk_len]; exact hj)] at hr
        cases hr
        have g1 : (S.set n (wellO v) ++ netsS S.length ns ++ itemsO (S.set n (wellO v) ++ netsS S.length ns).length (nk (S.length + 1) ns))[(S.set n (wellO v) ++ netsS S.length ns).length + 1 + j]? = some (.tup [.d (.str x.1), .o (S.length + 1 + j)]) := by
          rw [Nat.add_assoc, List.getElem?_append_right (by omega), Nat.add_sub_cancel_left, items_at (nk_at hx)] <;> rfl
        have g2 : (S.set n (wellO v) ++ netsS S.length ns ++ itemsO (S.set n (wellO v) ++ netsS S.length ns).length (nk (S.length + 1) ns))[S.length + 1 + j]? = some (.lst ((x.2.map pinD).map .d)) := by
          rw [List.append_assoc, Nat.add_assoc, atm, List.getElem?_append_left (by rw [netsS_len]; omega), netsS_at hx]
        exact .t (by rw [List.length_append, lset]; omega) g1 (.cons (.d _) (.cons (.l (by omega) g2 (den_all _)) .nil))
    refine ss_cons (ws_retX (Qx := fun _ _ => False) (evx_sortedLamO keyF c (by decide) (z_sorted T) (ev_listItems c.calm (ev_name 2) (atd0 _ _) ?_ (fun kv h => nk_own kv h) (z_list T)) (by rw [List.getElem?_append_right (Nat.le_refl _), Nat.sub_self] <;> rfl) hden (cA := (cT K lamD).1) (PA_ := (cT K lamD).2) (t := 0) ⟨rfl, rfl, rfl, by decide, by decide, rfl, fun _ _ _ _ _ _ => rfl⟩ (fun d hd => ?_) (fun d hd h v as r => ?_) ?_ ?_ ?_ ?_ B hcd) ?_ (fun _ _ z => z.elim))
    · rw [nk_keys]
      have := hN.nd
      rw [show (ns.map fun n => (Sum.inr n.1 : Key)) = (ns.map (·.1)).map Sum.inr by rw [List.map_map] <;> rfl]
      exact List.Pairwise.map _ (fun a b hab z => hab (by injection z)) this
    · obtain ⟨x, hx, rfl⟩ := List.mem_map.mp hd
      obtain ⟨p, e1, r, e2⟩ := keyF_net (hN.ne x hx)
      rw [e1]
      refine key_ixL (ds := x.2.map pinD) (i := 0) (key_ixT (ds := [.str x.1, .list (x.2.map pinD)]) (i := 1) (key_name) rfl (by decide)) ?_ (by decide)
      rw [e2] <;> rfl
    · obtain ⟨x, hx, rfl⟩ := List.mem_map.mp hd
      obtain ⟨p, e1, _⟩ := keyF_net (hN.ne x hx)
      rw [e1] at r
      exact reads_pin r
    · intro a ha b hb
      obtain ⟨d, hd, rfl⟩ := List.mem_map.mp ha
      obtain ⟨e, he, rfl⟩ := List.mem_map.mp hb
      obtain ⟨x, hx, rfl⟩ := List.mem_map.mp hd
      obtain ⟨y, hy, rfl⟩ := List.mem_map.mp he
      obtain ⟨p, e1, _⟩ := keyF_net (hN.ne x hx)
      obtain ⟨p', e1', _⟩ := keyF_net (hN.ne y hy)
      rw [e1, e1'] <;> rfl
    · refine .inl fun a ha => ?_
      obtain ⟨d, hd, rfl⟩ := List.mem_map.mp ha
      obtain ⟨x, hx, rfl⟩ := List.mem_map.mp hd
      obtain ⟨p, e1, _⟩ := keyF_net (hN.ne x hx)
      exact ⟨_, _, e1⟩
    · intro d hd
      obtain ⟨x, hx, rfl⟩ := List.mem_map.mp hd
      obtain ⟨p, e1, _⟩ := keyF_net (hN.ne x hx)
      rw [e1]
      show (pinD p).depth ≤ 60
      simp [pinD, PyData.depth, PyData.depthAll]
    · rw [List.append_assoc]
      exact at0 _ _
    · rintro _ _ ⟨rs', rfl, rfl, hd', -⟩
      obtain ⟨ns', hp', he'⟩ := perm_inv (List.mergeSort_perm (ns.map netD) (PySem.W.dataLe false keyF))
      rw [he'] at hd'
      refine ⟨S.set n (wellO v), _, .d (.list (ns'.map netD)), by rw [List.append_assoc, List.append_assoc], by rw [lset]; exact Nat.le_refl _, fun _ => cls_well hc _ _, .inr ⟨_, rfl, ?_⟩, q ns' v ⟨hN.perm hp', (told_perm hp').trans hT⟩⟩
      rw [lset]
      exact .l (by rw [List.length_append, List.length_append, lset]; omega) (by rw [List.getElem?_append_right (Nat.le_refl _), Nat.sub_self] <;> rfl) (DenAll.app hd')
theorem ok__law_nets (T : TT K mg) (B : LamX.TabB base mg (cT K lamD).1 (cT K lamD).2) : OkF P w K mg base 4 "_law_nets" ["_law_well_here", "_law_parts_here"] [] (F_nets K) := okF_of (g__law_nets T) (d__law_nets T) (fun _ _ _ _ _ _ us hl => match us, hl with | [_, _], _ => rfl) fun fd Fd => fn__law_nets T B Fd
end
end Pf
/-! CzF: truth + number, int of a number; what stands for a datum, its store changed ahead. -/
namespace Cu
open PySem PySem.Spec PyProof.Rows L2
mutual
/-- an object ahead of the n-th is changed -/
theorem Den.set {n i : Nat} {S : Sto} {w : Own} (hi : i < n) : ∀ {x : PyData} {r : It}, Den n S r x → Den n (S.set i w) r x
  | .none, _, h => by cases h with | d => exact .d _
  | .bool _, _, h => by cases h with | d => exact .d _
  | .int _, _, h => by cases h with | d => exact .d _
  | .str _, _, h => by cases h with | d => exact .d _
  | .dict _, _, h => by cases h with | d => exact .d _
  | .list ds, _, h => by
    cases h with
    | d => exact .d _
    | l h1 h2 h3 => exact .l h1 (by rw [List.getElem?_set_ne (by omega)]; exact h2) (DenAll.set hi h3)
  | .tuple ds, _, h => by
    cases h with
    | d => exact .d _
    | t h1 h2 h3 => exact .t h1 (by rw [List.getElem?_set_ne (by omega)]; exact h2) (DenAll.set hi h3)
theorem DenAll.set {n i : Nat} {S : Sto} {w : Own} (hi : i < n) : ∀ {xs : List PyData} {rs : List It}, DenAll n S rs xs → DenAll n (S.set i w) rs xs
  | [], _, h => by cases h; exact .nil
  | x :: xs, _, h => by
    cases h with
    | cons h1 h2 => exact .cons (Den.set hi h1) (DenAll.set hi h2)
end
mutual
theorem Den.mono {n m : Nat} {S : Sto} (hm : m ≤ n) : ∀ {x : PyData} {r : It}, Den n S r x → Den m S r x
  | .none, _, h => by cases h with | d => exact .d _
  | .bool _, _, h => by cases h with | d => exact .d _
  | .int _, _, h => by cases h with | d => exact .d _
  | .str _, _, h => by cases h with | d => exact .d _
  | .dict _, _, h => by cases h with | d => exact .d _
  | .list ds, _, h => by
    cases h with
    | d => exact .d _
    | l h1 h2 h3 => exact .l (Nat.le_trans hm h1) h2 (DenAll.mono hm h3)
  | .tuple ds, _, h => by
    cases h with
    | d => exact .d _
    | t h1 h2 h3 => exact .t (Nat.le_trans hm h1) h2 (DenAll.mono hm h3)
theorem DenAll.mono {n m : Nat} {S : Sto} (hm : m ≤ n) : ∀ {xs : List PyData} {rs : List It}, DenAll n S rs xs → DenAll m S rs xs
  | [], _, h => by cases h; exact .nil
  | x :: xs, _, h => by
    cases h with
    | cons h1 h2 => exact .cons (Den.mono hm h1) (DenAll.mono hm h2)
end
theorem DenAll.snoc {n : Nat} {S : Sto} {r : It} {x : PyData} (hx : Den n S r x) : ∀ {xs : List PyData} {rs : List It}, DenAll n S rs xs → DenAll n S (rs ++ [r]) (xs ++ [x])
  | [], _, h => by cases h; exact .cons hx .nil
  | _ :: _, _, h => by
    cases h with
    | cons h1 h2 => exact .cons h1 (DenAll.snoc hx h2)
section
variable {X : Cx} {G : Gam} {S S1 S2 : Sto} {a b : Expr} {pos p : Pos} {n : Int}
theorem op_add_bi : OpR X (binaryOp .Add) (fun x y H Q => ∃ k i, x = .bl k ∧ y = .int i ∧ Q (.int ((if k = true then (1 : Int) else 0) + i)) H) := by
  intro pins s σ H x y v u Q I rx ry h
  obtain ⟨k, i, rfl, rfl, q⟩ := h
  obtain ⟨t, rfl⟩ := ry
  cases rx
  exact PySem.IntBool.add_bool_int ⟨.int _, H, I.tok _, ⟨_, rfl⟩, q⟩
/-- truth + number -/
theorem ev_addBI {t : Bool} (ha : Ev X a G S (.d (.bool t)) S1) (hb : Ev X b G S1 (.d (.int n)) S2) : Ev X (.BinOp a .Add b pos) G S (.d (.int ((if t = true then 1 else 0) + n))) S2 :=
  ev_op op_add_bi ha hb (fun M H v u Q s hv hu q => ⟨t, n, vr_bool hv, vr_int hu, q _ M H Ext.refl s (Fz.int _)⟩)
/-- int(n) -/
theorem ev_intI (hm : X.mg "int" = none) (ha : Ev X a G S (.d (.int n)) S1) (hg : Gl X "int" := by rfl) (he : starEach [a] X.env = (false, eval a X.env) :: starEach [] X.env := by rfl) : Ev X (.Call (.Name "int" p) [a] [] pos) G S (.d (.int n)) S1 := ev_ty call_int1 hm (by decide +kernel) (eva_cons ha eva_nil he) (fun M H vs Q s hvs q => by
  obtain ⟨v, rfl, hv⟩ := vr1 hvs
  exact .inl ⟨n, by rw [vr_int hv], q _ M H Ext.refl s (Fz.int _)⟩) hg (by decide) (by decide) he rfl
end
end Cu
namespace Pf
open PySem PySem.Spec PyProof.Rows L2 He Cu
/-! the changes, plainly -/
def renP (a b : Str) (p : Pin) : Pin := if p.1 = a then (b, p.2) else p
def renN (a b : Str) (ns : List Net) : List Net := ns.map fun n => (n.1, n.2.map (renP a b))
def keepP (a : Str) (m : Int) (p : Pin) : Bool := !decide (p.1 = a) || decide (p.2 < m)
def someN (a : Str) (m : Int) (ns : List Net) : List Net := (ns.map fun n => (n.1, n.2.filter (keepP a m))).filter fun n => !n.2.isEmpty
def thereN (a : Str) (m : Int) (ns : List Net) : List Pin := ns.flatMap fun n => n.2.filter (keepP a m)
def moreN (a : Str) (m : Int) (ns : List Net) : List Pin := ((List.range m.toNat).map fun (k : Nat) => ((a, (k : Int)) : Pin)).filter fun p => !decide (p ∈ thereN a m ns)
def cntN (a : Str) (m : Int) (ns : List Net) : List Net := someN a m ns ++ (if moreN a m ns = [] then [] else [((Str.ofString "counted", moreN a m ns) : Net)])
def crowdS (x : List Part × List Net) : List Part × List Net :=
  (x.1 ++ [((Str.ofString "filled" ++ Str.ofString (toString (x.1.length : Int)), Str.ofString "r", PyData.int 1) : Part)],
   x.2 ++ [((Str.ofString "f" ++ Str.ofString (toString ((x.1.length + 1 : Nat) : Int)), [(Str.ofString "filled" ++ Str.ofString (toString (x.1.length : Int)), (0 : Int))]) : Net)])
def crowdP : Nat → List Part → List Net → List Part × List Net
  | 0, ps, ns => (ps, ns)
  | k + 1, ps, ns => crowdS (crowdP k ps ns)
theorem crowd_len : ∀ (k : Nat) (ps : List Part) (ns : List Net), (crowdP k ps ns).1.length = ps.length + k ∧ (crowdP k ps ns).2.length = ns.length + k
  | 0, _, _ => ⟨rfl, rfl⟩
  | k + 1, ps, ns => by
    obtain ⟨h1, h2⟩ := crowd_len k ps ns
    unfold crowdP crowdS
    constructor
    · rw [List.length_append, h1] <;> rfl
    · rw [List.length_append, h2] <;> rfl
theorem eqv_str (a b : Str) : PyData.eqv (.str a) (.str b) = decide (a = b) := by
  rw [PyData.eqv]
  by_cases h : a = b <;> simp [h]
theorem eqv_pin (a b : Pin) : PyData.eqv (pinD a) (pinD b) = decide (a = b) := by
  obtain ⟨x, i⟩ := a
  obtain ⟨y, j⟩ := b
  unfold pinD
  rw [PyData.eqv, PyData.eqvAll, PyData.eqvAll, PyData.eqvAll, eqv_str, eqv_int]
  by_cases h1 : x = y <;> by_cases h2 : i = j <;> simp [h1, h2]
theorem any_pin (l : List Pin) (x : Pin) : ((l.map pinD).any fun z => PyData.eqv z (pinD x)) = decide (x ∈ l) := by
  rw [List.any_map, Bool.eq_iff_iff, List.any_eq_true, decide_eq_true_iff]
  refine ⟨fun ⟨y, hy, e⟩ => ?_, fun h => ⟨x, h, by show PyData.eqv (pinD x) (pinD x) = true; rw [eqv_pin]; exact decide_eq_true rfl⟩⟩
  have e : PyData.eqv (pinD y) (pinD x) = true := e
  rw [eqv_pin] at e
  rw [← of_decide_eq_true e]
  exact hy
def pinB (g : Pin → Bool) : Cu.It → Bool
  | .d (.tuple [.str a, .int i]) => g (a, i)
  | _ => false
theorem pins_fil (g : Pin → Bool) (l : List Pin) : (((l.map pinD).map Cu.It.d).filter (pinB g)).map idG = (l.filter g).map pinD := by
  induction l with
  | nil => rfl
  | cons p l ih =>
    rw [List.map_cons, List.map_cons, List.filter_cons, List.filter_cons]
    show (if g p = true then _ else _ : List Cu.It).map idG = _
    by_cases h : g p = true
    · rw [if_pos h, if_pos h, List.map_cons, ih] <;> rfl
    · rw [if_neg h, if_neg h, ih]
def F_renamed : Fn := fun rs S QR _ => ∃ (ns : List Net) (a b : Str), rs = [.d (.list (ns.map netD)), .d (.str a), .d (.str b)] ∧ ns.length ≤ 100 ∧ (∀ n ∈ ns, netIn n) ∧ QR (.d (.list ((renN a b ns).map netD))) S
def F_counted : Fn := fun rs S QR _ => ∃ (ns : List Net) (a : Str) (m : Int), rs = [.d (.list (ns.map netD)), .d (.str a), .d (.int m)] ∧ ns.length ≤ 100 ∧ (∀ n ∈ ns, netIn n) ∧ okS a ∧ m ≤ 100 ∧ -100 ≤ m ∧ QR (.d (.list ((cntN a m ns).map netD))) S
def F_crowd : Fn := fun rs S QR _ => ∃ (n : Nat) (w : Well) (ps : List Part) (ns : List Net), rs = [.o n, .d (.list (ps.map partD)), .d (.list (ns.map netD))] ∧ S[n]? = some (wellO w) ∧ ps.length ≤ 9 ∧ ns.length ≤ 100 ∧ ∀ k v, ps.length + k ≤ 9 → QR (.d (.tuple [.list ((crowdP k ps ns).1.map partD), .list ((crowdP k ps ns).2.map netD)])) (S.set n (wellO v))
def keyG : Cu.It → PyData
  | _ => .none
def morG (a : Str) : Cu.It → PyData
  | .d (.int i) => pinD (a, i)
  | _ => .none
def morB (a : Str) (l : List Pin) : Cu.It → Bool
  | .d (.int i) => !decide ((a, i) ∈ l)
  | _ => false
theorem more_out (a : Str) (l : List Pin) (m : Nat) : ((rngI 0 m).filter (morB a l)).map (morG a) = (((List.range m).map fun (k : Nat) => ((a, (k : Int)) : Pin)).filter fun p => !decide (p ∈ l)).map pinD := by
  unfold rngI
  induction List.range m with
  | nil => rfl
  | cons j r ih =>
    rw [List.map_cons, List.map_cons, List.filter_cons, List.filter_cons]
    have e0 : (0 : Int) + (j : Int) = (j : Int) := Int.zero_add _
    rw [e0]
    show ((if (!decide ((a, (j : Int)) ∈ l)) = true then _ else _ : List Cu.It).map (morG a)) = _
    by_cases h : (!decide ((a, (j : Int)) ∈ l)) = true
    · rw [if_pos h, if_pos h, List.map_cons, ih] <;> rfl
    · rw [if_neg h, if_neg h, ih]
section
variable {P : Program} {w : World} {K : PySem.W.Frag} {mg : Str → Option Value} {base : Heap}
theorem fn__law_renamed (T : TT K mg) {fd : FuncData} (Fd : FunD K "_law_renamed" "_law_renamed" (defArgs s__law_renamed) (defBody s__law_renamed) (defScope s__law_renamed) [] [] (ga K "_law_renamed") fd) : FnOk P w K mg base (L2.CX P w) 1 (ga K "_law_renamed") fd ["_law_nets_here", "_law_name", "_law_other"] (spF K 3 F_renamed) := by
  refine fn_w Fd sc__law_renamed fun cdv A outer s H E rs S QR QE c hc hl hF => ?_
  obtain ⟨ns, a, b, rfl, hlen, hin, q⟩ := hF
  have atm : ∀ L k, (S ++ L)[S.length + k]? = L[k]? := fun L k => by rw [List.getElem?_append_right (by omega), Nat.add_sub_cancel_left]
  have at0 : ∀ (x : Own) L, (S ++ x :: L)[S.length]? = some x := fun x L => atm (x :: L) 0
  refine ss_cons (ws_set 3 c.nd (r := .o S.length) (S1 := S ++ [.lst []]) (ev_lstO eva_nil) ?_)
  refine ss_cons (ws_for c (evi_list (ds := ns.map netD) (ev_name 0)) (fun i G' S' => ∃ rs' L g4 g5 g6 g7, G' = [some (.d (.list (ns.map netD))), some (.d (.str a)), some (.d (.str b)), some (.o S.length), g4, g5, g6, g7] ∧ S' = S ++ .lst rs' :: L ∧ rs'.length = i ∧ DenAll (S.length + 1) S' rs' ((renN a b (ns.take i)).map netD)) (fun r G => match r with | .d (.tuple [d0, d1]) => (G.set 4 (some (.d d0))).set 5 (some (.d d1)) | _ => G)
    ⟨[], [], _, _, _, _, rfl, rfl, rfl, .nil⟩ (fun _ _ _ _ => trivial) ?_ ?_ ?_)
  · rintro i r' G' S' hr' ⟨rs', L, g4, g5, g6, g7, rfl, rfl, hl', hD⟩
    rw [List.getElem?_map, List.getElem?_map] at hr'
    cases hx : ns[i]? with
    | none => rw [hx] at hr'; cases hr'
    | some n =>
      rw [hx] at hr'
      cases hr'
      exact (evg_tup c.calm (evgs_cons (evg_name 4 c.nd) (evgs_cons (evg_name 5 c.nd) evgs_nil)))
  · rintro i r' G' S' hr' ⟨rs', L, g4, g5, g6, g7, rfl, rfl, hl', hD⟩
    rw [List.getElem?_map, List.getElem?_map] at hr'
    cases hx : ns[i]? with
    | none => rw [hx] at hr'; cases hr'
    | some n =>
      rw [hx] at hr'
      cases hr'
      have hi := (List.getElem?_eq_some_iff.mp hx).1
      obtain ⟨j1, j2, j3, j4⟩ := hin n (List.mem_of_getElem? hx)
      have hap : ∀ x : Own, S ++ Own.lst rs' :: L ++ [x] = S ++ Own.lst rs' :: (L ++ [x]) := fun x => by rw [List.append_assoc] <;> rfl
      have hat : ∀ x : Own, (S ++ Own.lst rs' :: (L ++ [x]))[(S ++ Own.lst rs' :: L).length]? = some x := fun x => by rw [← hap, List.getElem?_append_right (Nat.le_refl _), Nat.sub_self] <;> rfl
      have hst : ∀ x y : Own, (S ++ Own.lst rs' :: (L ++ [x])).set (S ++ Own.lst rs' :: L).length y = S ++ Own.lst rs' :: (L ++ [y]) := fun x y => by rw [← hap, List.set_append_right _ _ (Nat.le_refl _), Nat.sub_self, ← hap] <;> rfl
      refine ss_cons (ws_set 6 c.nd (r := .o (S ++ Own.lst rs' :: L).length) (S1 := S ++ Own.lst rs' :: (L ++ [.lst []])) (Ev.is2 (ev_lstO eva_nil) rfl (hap _)) ?_)
      refine ss_cons (ws_for c (evi_list (ds := n.2.map pinD) (ev_name 5)) (fun j G' S' => (∃ g7, G' = [some (.d (.list (ns.map netD))), some (.d (.str a)), some (.d (.str b)), some (.o S.length), some (.d (.str n.1)), some (.d (.list (n.2.map pinD))), some (.o (S ++ Own.lst rs' :: L).length), g7]) ∧ S' = S ++ Own.lst rs' :: (L ++ [.lst ((((n.2.take j).map (renP a b)).map pinD).map .d)])) (fun r G => G.set 7 (some r)) ⟨⟨_, rfl⟩, rfl⟩ (fun _ _ _ _ => trivial) (fun j r G' S' hr hJ => ?_) ?_ ?_)
      · obtain ⟨⟨g7, rfl⟩, rfl⟩ := hJ
        exact evg_name 7 c.nd
      · rintro j r' G' S' hr' ⟨⟨g7, rfl⟩, rfl⟩
        rw [List.getElem?_map, List.getElem?_map] at hr'
        cases hy : n.2[j]? with
        | none => rw [hy] at hr'; cases hr'
        | some p =>
          rw [hy] at hr'
          cases hr'
          have hj := (List.getElem?_eq_some_iff.mp hy).1
          have hz : ((((n.2.take j).map (renP a b)).map pinD).map Cu.It.d).length < 1000000 := by
            rw [List.length_map, List.length_map, List.length_map, List.length_take]; omega
          have fin : ∀ x : Pin, renP a b p = x → S ++ Own.lst rs' :: (L ++ [.lst ((((n.2.take j).map (renP a b)).map pinD).map .d ++ [.d (pinD x)])]) = S ++ Own.lst rs' :: (L ++ [.lst ((((n.2.take (j + 1)).map (renP a b)).map pinD).map .d)]) := fun x e => by
            rw [List.take_add_one, hy]
            show _ = S ++ Own.lst rs' :: (L ++ [.lst (((((n.2.take j) ++ [p]).map (renP a b)).map pinD).map .d)])
            rw [List.map_append, List.map_append, List.map_append, ← e] <;> rfl
          refine ss_cons (ws_if (k1 := decide (p.1 = a)) (EvT.is (evt_eqT (ev_ixT (ds := [.str p.1, .int p.2]) (ev_name 7) ev_int rfl) (ev_name 1)) rfl) (fun h => ?_) (fun h => ?_))
          · have h := of_decide_eq_true h
            refine ss_cons (ws_expr (ev_append (ev_name 6) (hat _) (ev_tup (eva_cons (ev_name 2) (eva_cons (ev_ixT (ds := [.str p.1, .int p.2]) (ev_name 7) ev_int rfl) eva_nil))) (hat _) hz) (ss_nil (ss_nil ⟨⟨_, rfl⟩, ?_⟩)))
            rw [hst]
            exact fin (b, p.2) (by unfold renP; rw [if_pos h])
          · have h := of_decide_eq_false h
            refine ss_cons (ws_expr (ev_append (ev_name 6) (hat _) (ev_name 7) (hat _) hz) (ss_nil (ss_nil ⟨⟨_, rfl⟩, ?_⟩)))
            rw [hst]
            exact fin p (by unfold renP; rw [if_neg h])
      · rintro G' S' ⟨⟨g7, rfl⟩, rfl⟩
        rw [List.length_map, List.length_map, List.take_length]
        have e1 : ∀ x y : Own, S ++ Own.lst rs' :: (L ++ [x]) ++ [y] = S ++ Own.lst rs' :: (L ++ [x, y]) := fun x y => by rw [List.append_assoc, List.cons_append, List.append_assoc] <;> rfl
        refine ss_cons (ws_expr (ev_append (xs := rs') (ev_name 3) (at0 _ _) (Ev.is2 (ev_tupO (eva_cons (ev_name 4) (eva_cons (ev_name 6) eva_nil)) ⟨_, List.mem_cons_of_mem _ List.mem_cons_self⟩) rfl (e1 _ _)) (at0 _ _) (by omega)) (ss_nil ⟨rs' ++ [.o (S ++ Own.lst rs' :: (L ++ [.lst (((n.2.map (renP a b)).map pinD).map .d)])).length], L ++ [.lst (((n.2.map (renP a b)).map pinD).map .d), .tup [.d (.str n.1), .o (S ++ Own.lst rs' :: L).length]], _, _, _, _, rfl, ?_, by rw [List.length_append, hl'] <;> rfl, ?_⟩))
        · rw [List.set_append_right _ _ (Nat.le_refl _), Nat.sub_self] <;> rfl
        · rw [List.take_add_one, hx]
          show DenAll _ _ _ (((((ns.take i) ++ [n]).map fun n => (n.1, n.2.map (renP a b))) : List Net).map netD)
          rw [List.map_append, List.map_append]
          have hset : ∀ (y : List Cu.It), (S ++ Own.lst rs' :: (L ++ [.lst (((n.2.map (renP a b)).map pinD).map .d), .tup [.d (.str n.1), .o (S ++ Own.lst rs' :: L).length]])).set S.length (.lst y) = S ++ Own.lst y :: (L ++ [.lst (((n.2.map (renP a b)).map pinD).map .d), .tup [.d (.str n.1), .o (S ++ Own.lst rs' :: L).length]]) := fun y => by rw [List.set_append_right _ _ (Nat.le_refl _), Nat.sub_self] <;> rfl
          rw [hset]
          rw [← hset]
          refine DenAll.set (Nat.lt_succ_self _) (DenAll.snoc ?_ ?_)
          · have g0 : S ++ Own.lst rs' :: (L ++ [.lst (((n.2.map (renP a b)).map pinD).map .d), .tup [.d (.str n.1), .o (S ++ Own.lst rs' :: L).length]]) = (S ++ Own.lst rs' :: L) ++ [.lst (((n.2.map (renP a b)).map pinD).map .d), .tup [.d (.str n.1), .o (S ++ Own.lst rs' :: L).length]] := by rw [List.append_assoc] <;> rfl
            have g1 : (S ++ Own.lst rs' :: (L ++ [.lst (((n.2.map (renP a b)).map pinD).map .d)])).length = (S ++ Own.lst rs' :: L).length + 1 := by rw [← hap, List.length_append] <;> rfl
            rw [g1, g0]
            refine .t (by rw [List.length_append, List.length_cons]; omega) (show _ = some (Own.tup [.d (.str n.1), .o (S ++ Own.lst rs' :: L).length]) by rw [List.getElem?_append_right (by omega), Nat.add_sub_cancel_left] <;> rfl) (.cons (.d _) (.cons (.l (by rw [List.length_append, List.length_cons]; omega) (by rw [List.getElem?_append_right (Nat.le_refl _), Nat.sub_self] <;> rfl) (den_all _)) .nil))
          · rw [show S ++ Own.lst rs' :: (L ++ [.lst (((n.2.map (renP a b)).map pinD).map .d), .tup [.d (.str n.1), .o (S ++ Own.lst rs' :: L).length]]) = (S ++ Own.lst rs' :: L) ++ [.lst (((n.2.map (renP a b)).map pinD).map .d), .tup [.d (.str n.1), .o (S ++ Own.lst rs' :: L).length]] by rw [List.append_assoc] <;> rfl]
            exact DenAll.app hD
  · rintro G' S' ⟨rs', L, g4, g5, g6, g7, rfl, rfl, hl', hD⟩
    rw [List.length_map, List.length_map, List.take_length] at hD
    exact ss_cons (ws_ret (ev_name 3) ⟨S, _, .d (.list ((renN a b ns).map netD)), rfl, Nat.le_refl _, fun _ => hc, .inr ⟨_, rfl, .l (Nat.le_refl _) (at0 _ _) (DenAll.mono (Nat.le_succ _) hD)⟩, q⟩)
theorem ok__law_renamed (T : TT K mg) : OkF P w K mg base 1 "_law_renamed" ["_law_nets_here", "_law_name", "_law_other"] [] F_renamed := okF_of (g__law_renamed T) (d__law_renamed T) (fun _ _ _ _ _ _ us hl => match us, hl with | [_, _, _], _ => rfl) fun fd Fd => fn__law_renamed T Fd
end
end Pf
namespace Pf
open PySem PySem.Spec PyProof.Rows L2 He Cu
theorem LcOk.is {X : Cx} {scope : Scope} {own : List (Str × Nat)} {elt tg iter : Expr} {ifs : List Expr} {G : Gam} {S S2 : Sto} {o1 o2 : List PyData} (h : LcOk X scope own elt tg iter ifs G S o1 S2) (e : o1 = o2) : LcOk X scope own elt tg iter ifs G S o2 S2 := e ▸ h
theorem cut_take {α : Type} (xs : List α) (n : Nat) (h : n ≤ xs.length) : Cu.cutD xs none (some (n : Int)) = xs.take n := by
  unfold Cu.cutD
  rw [HT.sIx_none, HT.sIx_nat, Nat.min_eq_left h, List.drop_zero, Nat.sub_zero]
theorem cut_drop {α : Type} (xs : List α) (n : Nat) (h : n ≤ xs.length) : Cu.cutD xs (some (n : Int)) none = xs.drop n := by
  unfold Cu.cutD
  rw [HT.sIx_none, HT.sIx_nat, Nat.min_eq_left h]
  exact List.take_of_length_le (by rw [List.length_drop]; exact Nat.le_refl _)
theorem some_take {a : Str} {m : Int} {ns : List Net} {i : Nat} {n : Net} (h : ns[i]? = some n) : someN a m (ns.take (i + 1)) = someN a m (ns.take i) ++ (if n.2.filter (keepP a m) = [] then [] else [(n.1, n.2.filter (keepP a m))]) := by
  rw [List.take_add_one, h]
  unfold someN
  show (((ns.take i ++ [n]).map fun n => ((n.1, n.2.filter (keepP a m)) : Net)).filter fun n => !n.2.isEmpty) = _
  rw [List.map_append, List.filter_append]
  congr 1
  show (List.filter (fun n : Net => !n.2.isEmpty) [(n.1, n.2.filter (keepP a m))]) = _
  rw [List.filter_cons]
  by_cases e : n.2.filter (keepP a m) = []
  · rw [if_pos e, e] <;> rfl
  · rw [if_neg e, if_pos (by show (!List.isEmpty _) = true; rw [List.isEmpty_eq_false_iff.mpr e] <;> rfl)] <;> rfl
theorem there_take {a : Str} {m : Int} {ns : List Net} {i : Nat} {n : Net} (h : ns[i]? = some n) : thereN a m (ns.take (i + 1)) = thereN a m (ns.take i) ++ n.2.filter (keepP a m) := by
  rw [List.take_add_one, h]
  unfold thereN
  rw [List.flatMap_append] <;> simp
theorem there_mem {a : Str} {m : Int} {ns : List Net} {p : Pin} (h : p ∈ thereN a m ns) : ∃ n ∈ ns, p ∈ n.2 := by
  obtain ⟨n, hn, hp⟩ := List.mem_flatMap.mp h
  exact ⟨n, hn, (List.mem_filter.mp hp).1⟩
theorem there_len {a : Str} {m : Int} {ns : List Net} (h : ∀ n ∈ ns, netIn n) : (thereN a m ns).length ≤ 1000 * ns.length := by
  induction ns with
  | nil => exact Nat.zero_le _
  | cons n ns ih =>
    have := ih fun x hx => h x (List.mem_cons_of_mem _ hx)
    have h1 := (h n List.mem_cons_self).2.2.1
    have h2 : (n.2.filter (keepP a m)).length ≤ n.2.length := List.length_filter_le _ _
    unfold thereN at this ⊢
    rw [List.flatMap_cons, List.length_append, List.length_cons]
    omega
theorem shaped_pin {p : Pin} (h : okS p.1) : SeqAt.shaped (pinD p) = true := shaped_tup fun d hd => by
  rcases List.mem_cons.mp hd with rfl | hd
  · exact lay_str h
  · rcases List.mem_cons.mp hd with rfl | hd
    · exact lay_int _
    · cases hd
theorem str_len {i : Nat} (h : i < 12) : (Str.ofString (toString (i : Int))).length ≤ 100 ∧ ((i : Int)).natAbs.log2 < 1920 := by
  have h2 : ∀ j : Fin 12, (Str.ofString (toString ((j.1 : Nat) : Int))).length ≤ 100 := by decide +kernel
  refine ⟨h2 ⟨i, h⟩, ?_⟩
  have : ((i : Int)).natAbs.log2 ≤ ((i : Int)).natAbs := Nat.log2_le_self _
  omega
section
variable {P : Program} {w : World} {K : PySem.W.Frag} {mg : Str → Option Value} {base : Heap}
theorem fn__law_counted (T : TT K mg) {fd : FuncData} (Fd : FunD K "_law_counted" "_law_counted" (defArgs s__law_counted) (defBody s__law_counted) (defScope s__law_counted) [] [] (ga K "_law_counted") fd) : FnOk P w K mg base (L2.CX P w) 1 (ga K "_law_counted") fd ["_law_nets_here", "_law_name", "_law_many"] (spF K 3 F_counted) := by
  refine fn_w Fd sc__law_counted fun cdv A outer s H E rs S QR QE c hc hl hF => ?_
  obtain ⟨ns, a, m, rfl, hlen, hin, hoa, hm1, hm2, q⟩ := hF
  have at0 : ∀ (x : Own), (S ++ [x])[S.length]? = some x := fun x => by rw [List.getElem?_append_right (Nat.le_refl _), Nat.sub_self] <;> rfl
  have st0 : ∀ (x y : Own), (S ++ [x]).set S.length y = S ++ [y] := fun x y => by rw [List.set_append_right _ _ (Nat.le_refl _), Nat.sub_self] <;> rfl
  have slen : ∀ i, (someN a m (ns.take i)).length ≤ 100 := fun i => by
    unfold someN
    refine Nat.le_trans (List.length_filter_le _ _) ?_
    rw [List.length_map, List.length_take]
    omega
  refine ss_cons (ws_set 3 c.nd (r := .o S.length) (S1 := S ++ [.lst []]) (ev_lstO eva_nil) ?_)
  refine ss_cons (ws_set 4 c.nd (ev_lst eva_nil) ?_)
  refine ss_cons (ws_for c (evi_list (ds := ns.map netD) (ev_name 0)) (fun i G' S' => (∃ g5 g6 g7, G' = [some (.d (.list (ns.map netD))), some (.d (.str a)), some (.d (.int m)), some (.o S.length), some (.d (.list ((thereN a m (ns.take i)).map pinD))), g5, g6, g7, none, none, none]) ∧ S' = S ++ [.lst (((someN a m (ns.take i)).map netD).map .d)]) (fun r G => match r with | .d (.tuple [d0, d1]) => (G.set 5 (some (.d d0))).set 6 (some (.d d1)) | _ => G)
    ⟨⟨_, _, _, rfl⟩, rfl⟩ (fun _ _ _ _ => trivial) ?_ ?_ ?_)
  · rintro i r' G' S' hr' ⟨⟨g5, g6, g7, rfl⟩, rfl⟩
    rw [List.getElem?_map, List.getElem?_map] at hr'
    cases hx : ns[i]? with
    | none => rw [hx] at hr'; cases hr'
    | some n =>
      rw [hx] at hr'
      cases hr'
      exact (evg_tup c.calm (evgs_cons (evg_name 5 c.nd) (evgs_cons (evg_name 6 c.nd) evgs_nil)))
  · rintro i r' G' S' hr' ⟨⟨g5, g6, g7, rfl⟩, rfl⟩
    rw [List.getElem?_map, List.getElem?_map] at hr'
    cases hx : ns[i]? with
    | none => rw [hx] at hr'; cases hr'
    | some n =>
      rw [hx] at hr'
      cases hr'
      have hi := (List.getElem?_eq_some_iff.mp hx).1
      obtain ⟨j1, j2, j3, j4⟩ := hin n (List.mem_of_getElem? hx)
      refine ss_cons (ws_setLc 7 (out := (n.2.filter (keepP a m)).map pinD) c (blkOk_by (by rfl)) (LcOk.is (lc_pure (own := [("_law_pin", 8)]) c (evi_list (ds := n.2.map pinD) (ev_name 6)) (tg_name 8 c.nd) (pinB (keepP a m)) idG (fun _ => trivial) (fun r hr => ?_) ?_) (pins_fil _ _)) ?_)
      · obtain ⟨d, hd, rfl⟩ := List.mem_map.mp hr
        obtain ⟨p, hp, rfl⟩ := List.mem_map.mp hd
        exact ⟨_, rfl, fun L s H C cl fp => evt_w (evw_or (evt_neT (ev_ixT (ds := [.str p.1, .int p.2]) (ev_name 8) ev_int rfl) (ev_name 1)) fun _ => evw_or1 (evt_lt (ev_ixT (ds := [.str p.1, .int p.2]) (ev_name 8) ev_int rfl) (ev_name 2))), fun _ L s H C cl fp => (ev_name 8)⟩
      · rw [List.length_map, List.length_map]; omega
      have tl := there_len (a := a) (m := m) (ns := ns.take i) fun x hx => hin x (List.mem_of_mem_take hx)
      have fl : (n.2.filter (keepP a m)).length ≤ n.2.length := List.length_filter_le _ _
      refine ss_cons (ws_set 4 c.nd (Ev.is (r' := .d (.list ((thereN a m (ns.take (i + 1))).map pinD))) (ev_cat (ds := (thereN a m (ns.take i)).map pinD) (es := (n.2.filter (keepP a m)).map pinD) (ev_name 4) (ev_name 7) ?_) (by rw [there_take hx, List.map_append])) ?_)
      · rw [List.length_map, List.length_map]
        have : (ns.take i).length ≤ 100 := by rw [List.length_take]; omega
        omega
      have hok : ∀ p ∈ n.2.filter (keepP a m), okS p.1 := fun p hp => j4 p (List.mem_filter.mp hp).1
      refine ss_cons (ws_if (k1 := !decide (n.2.filter (keepP a m) = [])) (EvT.is (evt_neD c (x := .list ((n.2.filter (keepP a m)).map pinD)) (y := .list []) (ev_name 7) (ev_lst eva_nil) (shaped_pins hok) (shaped_list (ds := []) fun _ h => nomatch h)) (by
        rw [eqv_nil, List.isEmpty_map]
        congr 1
        rw [Bool.eq_iff_iff, List.isEmpty_iff, decide_eq_true_iff])) (fun h => ?_) (fun h => ?_))
      · have h : n.2.filter (keepP a m) ≠ [] := by simpa using h
        refine ss_cons (ws_expr (ev_append (xs := ((someN a m (ns.take i)).map netD).map .d) (ev_name 3) (at0 _) (ev_tup (eva_cons (ev_name 5) (eva_cons (ev_name 7) eva_nil))) (at0 _) (by rw [List.length_map, List.length_map]; have := slen i; omega)) (ss_nil (ss_nil ⟨⟨_, _, _, rfl⟩, ?_⟩)))
        rw [st0, some_take hx, if_neg h, List.map_append, List.map_append] <;> rfl
      · have h : n.2.filter (keepP a m) = [] := by simpa using h
        refine ss_nil (ss_nil ⟨⟨_, _, _, rfl⟩, ?_⟩)
        rw [some_take hx, if_pos h, List.append_nil]
  · rintro G' S' ⟨⟨g5, g6, g7, rfl⟩, rfl⟩
    rw [List.length_map, List.length_map, List.take_length]
    have hto : ∀ p ∈ thereN a m ns, okS p.1 := fun p hp => by
      obtain ⟨n, hn, h2⟩ := there_mem hp
      exact (hin n hn).2.2.2 p h2
    have hmo : ∀ p ∈ moreN a m ns, okS p.1 := fun p hp => by
      obtain ⟨k, hk, rfl⟩ := List.mem_map.mp (List.mem_filter.mp hp).1
      exact hoa
    refine ss_cons (ws_setLc 9 (out := (moreN a m ns).map pinD) c (blkOk_by (by rfl)) (LcOk.is (lc_pure (own := [("_law_k", 10)]) c (evi_range1 (n := m) (z_range T) (ev_name 2) (by omega)) (tg_name 10 c.nd) (morB a (thereN a m ns)) (morG a) (fun _ => trivial) (fun r hr => ?_) ?_) (more_out _ _ _)) ?_)
    · obtain ⟨j, hj, rfl⟩ := List.mem_map.mp hr
      exact ⟨_, rfl, fun L s H C cl fp => EvT.is (evt_notInD (c.blk _ s H C cl fp) (x := pinD (a, 0 + (j : Int))) (ev_tup (eva_cons (ev_name 1) (eva_cons (ev_name 10) eva_nil))) (ev_name 4) (ds := (thereN a m ns).map pinD) rfl (shaped_pin hoa) (shaped_pins hto)) (by rw [any_pin, Int.zero_add] <;> rfl), fun _ L s H C cl fp => ev_tup (eva_cons (ev_name 1) (eva_cons (ev_name 10) eva_nil))⟩
    · rw [rngI_len]; omega
    have hcn : cntN a m ns = someN a m ns ++ (if moreN a m ns = [] then [] else [((Str.ofString "counted", moreN a m ns) : Net)]) := rfl
    refine ss_cons (ws_if (k1 := !decide (moreN a m ns = [])) (EvT.is (evt_neD c (x := .list ((moreN a m ns).map pinD)) (y := .list []) (ev_name 9) (ev_lst eva_nil) (shaped_pins hmo) (shaped_list (ds := []) fun _ h => nomatch h)) (by
      rw [eqv_nil, List.isEmpty_map]
      congr 1
      rw [Bool.eq_iff_iff, List.isEmpty_iff, decide_eq_true_iff])) (fun h => ?_) (fun h => ?_))
    · have h : moreN a m ns ≠ [] := by simpa using h
      refine ss_cons (ws_expr (ev_append (xs := ((someN a m ns).map netD).map .d) (ev_name 3) (at0 _) (ev_tup (eva_cons ev_str (eva_cons (ev_name 9) eva_nil))) (at0 _) (by rw [List.length_map, List.length_map]; have := slen ns.length; rw [List.take_length] at this; omega)) (ss_nil ?_))
      refine ss_cons (ws_ret (ev_name 3) ?_)
      rw [st0]
      refine back_lst (ds := (cntN a m ns).map netD) _ hc (Nat.le_refl _) ?_ q
      rw [at0, hcn, if_neg h, List.map_append, List.map_append] <;> rfl
    · have h : moreN a m ns = [] := by simpa using h
      refine ss_nil (ss_cons (ws_ret (ev_name 3) (back_lst (ds := (cntN a m ns).map netD) _ hc (Nat.le_refl _) ?_ q)))
      rw [at0, hcn, if_pos h, List.append_nil]
theorem ok__law_counted (T : TT K mg) : OkF P w K mg base 1 "_law_counted" ["_law_nets_here", "_law_name", "_law_many"] [] F_counted := okF_of (g__law_counted T) (d__law_counted T) (fun _ _ _ _ _ _ us hl => match us, hl with | [_, _, _], _ => rfl) fun fd Fd => fn__law_counted T Fd
theorem fn__law_crowd (T : TT K mg) {fd : FuncData} (Fd : FunD K "_law_crowd" "_law_crowd" (defArgs s__law_crowd) (defBody s__law_crowd) (defScope s__law_crowd) [] [] (ga K "_law_crowd") fd) : FnOk P w K mg base (L2.CX P w) 4 (ga K "_law_crowd") fd ["_law_well_here", "_law_parts_here", "_law_nets_here"] (spF K 3 F_crowd) := by
  refine fn_w Fd sc__law_crowd fun cdv A outer s H E rs S QR QE c hc hl hF => ?_
  obtain ⟨n, w0, ps, ns, rfl, hw, l1, l2, q⟩ := hF
  have e0 := sw_self hw
  have lset : ∀ v, (S.set n (wellO v)).length = S.length := fun v => List.length_set
  have atm : ∀ v L k, (S.set n (wellO v) ++ L)[S.length + k]? = L[k]? := fun v L k => by
    rw [List.getElem?_append_right (by rw [lset]; omega), lset, Nat.add_sub_cancel_left]
  have stm : ∀ v L k x, (S.set n (wellO v) ++ L).set (S.length + k) x = S.set n (wellO v) ++ L.set k x := fun v L k x => by
    rw [List.set_append_right _ _ (by rw [lset]; omega), lset, Nat.add_sub_cancel_left]
  have at0 : ∀ v a b, (S.set n (wellO v) ++ [a, b])[S.length]? = some a := fun v a b => atm v [a, b] 0
  have at1 : ∀ v a b, (S.set n (wellO v) ++ [a, b])[S.length + 1]? = some b := fun v a b => atm v [a, b] 1
  have st0 : ∀ v a b x, (S.set n (wellO v) ++ [a, b]).set S.length x = S.set n (wellO v) ++ [x, b] := fun v a b x => stm v [a, b] 0 x
  have st1 : ∀ v a b x, (S.set n (wellO v) ++ [a, b]).set (S.length + 1) x = S.set n (wellO v) ++ [a, x] := fun v a b x => stm v [a, b] 1 x
  refine ss_cons (ws_set 1 c.nd (r := .o S.length) (S1 := S.set n (wellO w0) ++ [.lst ((ps.map partD).map .d)]) (by rw [e0]; exact ev_listO (z_list T) (ev_name 1) rfl) ?_)
  refine ss_cons (ws_set 2 c.nd (r := .o (S.length + 1)) (S1 := S.set n (wellO w0) ++ [.lst ((ps.map partD).map .d), .lst ((ns.map netD).map .d)]) (Ev.is2 (ev_listO (ds := ns.map netD) (z_list T) (ev_name 2) rfl) (by rw [List.length_append, lset] <;> rfl) (by rw [List.append_assoc] <;> rfl)) ?_)
  refine ss_cons (ws_set 3 c.nd (ev_add ev_int (ev_call c (ok__law_draw T) (eva_cons (ev_name 0) (eva_cons ev_int eva_nil)) (fun QR QE q => dwl hw (by decide) (by decide) q))) ?_)
  have d1 := draw_lo (w := w0) (m := 2) (by decide)
  have d2 := draw_hi (w := w0) (m := 2) (by decide)
  refine ss_cons (ws_while c (fun x G' S' => ∃ k, ps.length + k + x = 20 ∧ ps.length + k ≤ 9 ∧ G' = [some (.o n), some (.o S.length), some (.o (S.length + 1)), some (.d (.int (8 + drawV w0 2)))] ∧ S' = S.set n (wellO (drawW w0 2)) ++ [.lst (((crowdP k ps ns).1.map partD).map .d), .lst (((crowdP k ps ns).2.map netD).map .d)]) (20 - ps.length) ⟨0, by omega, by omega, rfl, rfl⟩ ?_)
  rintro x G' S' ⟨k, h1, h2, rfl, rfl⟩
  obtain ⟨e1, e2⟩ := crowd_len k ps ns
  refine ⟨_, _, evt_lt (ev_lenA (ds := (crowdP k ps ns).1.map partD) (z_len T) (ev_name 1) (ls_own (at0 _ _ _))) (ev_name 3), fun h => ?_, fun h => ?_⟩
  · have h := of_decide_eq_true h
    rw [List.length_map, e1] at h
    have hk : ps.length + k < 9 := by omega
    obtain ⟨s1, s2⟩ := str_len (i := ps.length + k) (by omega)
    obtain ⟨s3, s4⟩ := str_len (i := ps.length + k + 1) (by omega)
    refine ss_cons (ws_expr (ev_append (xs := ((crowdP k ps ns).1.map partD).map .d) (ev_name 1) (at0 _ _ _) (ev_tup (ds := [.str (Str.ofString "filled" ++ Str.ofString (toString ((ps.length + k : Nat) : Int))), .str "r", .int 1]) (eva_cons (ev_addS ev_str (ev_strI (z_str T) (Ev.is (r' := .d (.int ((ps.length + k : Nat) : Int))) (ev_lenA (ds := (crowdP k ps ns).1.map partD) (z_len T) (ev_name 1) (ls_own (at0 _ _ _))) (by rw [List.length_map, e1])) s2) (by show 6 + _ ≤ _; omega)) (eva_cons ev_str (eva_cons ev_int eva_nil)))) (at0 _ _ _) (by rw [List.length_map, List.length_map]; omega)) ?_)
    rw [st0]
    have hcr : (crowdP (k + 1) ps ns).1 = (crowdP k ps ns).1 ++ [((Str.ofString "filled" ++ Str.ofString (toString ((ps.length + k : Nat) : Int)), Str.ofString "r", PyData.int 1) : Part)] := by
      show (crowdS (crowdP k ps ns)).1 = _
      unfold crowdS
      rw [e1]
    have hcr2 : (crowdP (k + 1) ps ns).2 = (crowdP k ps ns).2 ++ [((Str.ofString "f" ++ Str.ofString (toString ((ps.length + k + 1 : Nat) : Int)), [(Str.ofString "filled" ++ Str.ofString (toString ((ps.length + k : Nat) : Int)), (0 : Int))]) : Net)] := by
      show (crowdS (crowdP k ps ns)).2 = _
      unfold crowdS
      rw [e1]
    have hp : ((crowdP k ps ns).1.map partD).map Cu.It.d ++ [.d (.tuple [.str (Str.ofString "filled" ++ Str.ofString (toString ((ps.length + k : Nat) : Int))), .str "r", .int 1])] = ((crowdP (k + 1) ps ns).1.map partD).map .d := by
      rw [hcr, List.map_append, List.map_append] <;> rfl
    rw [hp]
    obtain ⟨f1, f2⟩ := crowd_len (k + 1) ps ns
    have hlast : atI ((crowdP (k + 1) ps ns).1.map partD) (-1) = some (.tuple [.str (Str.ofString "filled" ++ Str.ofString (toString ((ps.length + k : Nat) : Int))), .str "r", .int 1]) := by
      rw [hcr, List.map_append]
      exact L2.atI_last _ _
    refine ss_cons (ws_expr (ev_append (xs := ((crowdP k ps ns).2.map netD).map .d) (ev_name 2) (at1 _ _ _) (ev_tup (ds := [.str (Str.ofString "f" ++ Str.ofString (toString ((ps.length + k + 1 : Nat) : Int))), .list [.tuple [.str (Str.ofString "filled" ++ Str.ofString (toString ((ps.length + k : Nat) : Int))), .int 0]]]) (eva_cons (ev_addS ev_str (ev_strI (z_str T) (Ev.is (r' := .d (.int ((ps.length + k + 1 : Nat) : Int))) (ev_lenA (ds := (crowdP (k + 1) ps ns).1.map partD) (z_len T) (ev_name 1) (ls_own (at0 _ _ _))) (by rw [List.length_map, f1, Nat.add_assoc])) s4) (by show 1 + _ ≤ _; omega)) (eva_cons (ev_lst (eva_cons (ev_tup (eva_cons (ev_ixT (ev_ixA (ds := (crowdP (k + 1) ps ns).1.map partD) (ev_name 1) (ev_neg ev_int) (ls_own (at0 _ _ _)) hlast) ev_int rfl) (eva_cons ev_int eva_nil))) eva_nil)) eva_nil))) (at1 _ _ _) (by rw [List.length_map, List.length_map]; omega)) (ss_nil ⟨x - 1, by omega, k + 1, by omega, by omega, rfl, ?_⟩))
    rw [st1]
    have hn : ((crowdP k ps ns).2.map netD).map Cu.It.d ++ [.d (.tuple [.str (Str.ofString "f" ++ Str.ofString (toString ((ps.length + k + 1 : Nat) : Int))), .list [.tuple [.str (Str.ofString "filled" ++ Str.ofString (toString ((ps.length + k : Nat) : Int))), .int 0]]])] = ((crowdP (k + 1) ps ns).2.map netD).map .d := by
      rw [hcr2, List.map_append, List.map_append] <;> rfl
    rw [hn]
  · have e3 : ∀ x y : Own, (S.set n (wellO (drawW w0 2)) ++ [x, y]).length = S.length + 2 := fun x y => by rw [List.length_append, lset] <;> rfl
    refine ss_cons (ws_ret (Ev.is2 (ev_tupO (eva_cons (ev_name 1) (eva_cons (ev_name 2) eva_nil)) ⟨_, List.mem_cons_self⟩) (r' := .o (S.length + 2)) (by rw [e3]) (S2 := S.set n (wellO (drawW w0 2)) ++ [.lst (((crowdP k ps ns).1.map partD).map .d), .lst (((crowdP k ps ns).2.map netD).map .d), .tup [.o S.length, .o (S.length + 1)]]) (by rw [List.append_assoc] <;> rfl)) ?_)
    refine ⟨S.set n (wellO (drawW w0 2)), _, _, rfl, by rw [lset]; exact Nat.le_refl _, fun _ => cls_well hc _ _, .inr ⟨_, rfl, ?_⟩, q k _ h2⟩
    rw [lset]
    exact .t (by omega) (by rw [atm] <;> rfl) (.cons (.l (Nat.le_refl _) (atm _ _ 0) (den_all _)) (.cons (.l (by omega) (atm _ _ 1) (den_all _)) .nil))
theorem ok__law_crowd (T : TT K mg) : OkF P w K mg base 4 "_law_crowd" ["_law_well_here", "_law_parts_here", "_law_nets_here"] [] F_crowd := okF_of (g__law_crowd T) (d__law_crowd T) (fun _ _ _ _ _ _ us hl => match us, hl with | [_, _, _], _ => rfl) fun fd Fd => fn__law_crowd T Fd
end
end Pf
namespace Pf
open PySem PySem.Spec PyProof.Rows L2 He Cu
/-! how large all may grow -/
def NmB (x : Str) : Prop := okS x ∧ x.length ≤ 100
def manyB (d : PyData) : Prop := d = .bool true ∨ ∃ m : Int, d = .int m ∧ -1 ≤ m ∧ m ≤ 9
def PartB (p : Part) : Prop := NmB p.1 ∧ NmB p.2.1 ∧ p.1 ≠ Str.ofString "w" ∧ manyB p.2.2
def PartsB (ps : List Part) : Prop := ps.length ≤ 9 ∧ ∀ p ∈ ps, PartB p
def NetB (r : Nat) (n : Net) : Prop := NmB n.1 ∧ n.2.length ≤ 100 + 10 * r ∧ ∀ p ∈ n.2, NmB p.1
def NetsB (r : Nat) (ns : List Net) : Prop := ns.length ≤ 10 + 10 * r ∧ ∀ n ∈ ns, NetB r n
theorem NetB.mono {r s : Nat} {n : Net} (h : NetB r n) (hr : r ≤ s) : NetB s n := ⟨h.1, by have := h.2.1; omega, h.2.2⟩
theorem NetsB.mono {r s : Nat} {ns : List Net} (h : NetsB r ns) (hr : r ≤ s) : NetsB s ns := ⟨by have := h.1; omega, fun n hn => (h.2 n hn).mono hr⟩
theorem NetB.in_ {r : Nat} {n : Net} (h : NetB r n) (hr : r ≤ 20) : netIn n := ⟨h.1.1, by have := h.1.2; omega, by have := h.2.1; omega, fun p hp => (h.2.2 p hp).1⟩
theorem PartB.in_ {p : Part} (h : PartB p) : partIn p ∧ p.1.length ≤ 90000 := by
  refine ⟨⟨by have := h.2.1.2; omega, h.2.1.1, h.1.1, ?_⟩, by have := h.1.2; omega⟩
  rcases h.2.2.2 with e | ⟨m, e, _⟩
  · rw [e] <;> rfl
  · rw [e] <;> rfl
theorem nmB {x : Str} (h : ((TL.tl x).all fun c => decide (c < 1114112)) = true) (h2 : x.length ≤ 100) : NmB x := ⟨okS_dec h, h2⟩
theorem NetsB.ren {r : Nat} {ns : List Net} (h : NetsB r ns) (a : Str) {b : Str} (hb : NmB b) : NetsB r (renN a b ns) := by
  refine ⟨by unfold renN; rw [List.length_map]; exact h.1, fun n hn => ?_⟩
  obtain ⟨x, hx, rfl⟩ := List.mem_map.mp hn
  obtain ⟨h1, h2, h3⟩ := h.2 x hx
  refine ⟨h1, by show (x.2.map _).length ≤ _; rw [List.length_map]; exact h2, fun p hp => ?_⟩
  obtain ⟨q, hq, rfl⟩ := List.mem_map.mp hp
  unfold renP
  by_cases e : q.1 = a
  · rw [if_pos e]; exact hb
  · rw [if_neg e]; exact h3 q hq
theorem NetsB.cnt {r : Nat} {ns : List Net} (h : NetsB r ns) {a : Str} (ha : NmB a) {m : Int} (hm : m ≤ 9) : NetsB (r + 1) (cntN a m ns) := by
  have hs : (someN a m ns).length ≤ ns.length := by
    unfold someN
    exact Nat.le_trans (List.length_filter_le _ _) (by rw [List.length_map]; exact Nat.le_refl _)
  have hmo : (moreN a m ns).length ≤ 9 := by
    unfold moreN
    refine Nat.le_trans (List.length_filter_le _ _) ?_
    rw [List.length_map, List.length_range]
    omega
  refine ⟨?_, fun n hn => ?_⟩
  · have := h.1
    unfold cntN
    rw [List.length_append]
    by_cases e : moreN a m ns = []
    · rw [if_pos e]
      show _ + 0 ≤ _
      omega
    · rw [if_neg e]
      show _ + 1 ≤ _
      omega
  · unfold cntN at hn
    rcases List.mem_append.mp hn with hn | hn
    · obtain ⟨x, hx, rfl⟩ := List.mem_map.mp (List.mem_filter.mp hn).1
      obtain ⟨h1, h2, h3⟩ := h.2 x hx
      refine ⟨h1, ?_, fun p hp => h3 p (List.mem_filter.mp hp).1⟩
      have : (x.2.filter (keepP a m)).length ≤ x.2.length := List.length_filter_le _ _
      show (x.2.filter (keepP a m)).length ≤ _
      omega
    · by_cases e : moreN a m ns = []
      · rw [if_pos e] at hn; cases hn
      · rw [if_neg e] at hn
        rw [List.mem_singleton.mp hn]
        refine ⟨nmB (x := Str.ofString "counted") (by decide +kernel) (by decide), by show (moreN a m ns).length ≤ _; omega, fun p hp => ?_⟩
        obtain ⟨k, hk, rfl⟩ := List.mem_map.mp (List.mem_filter.mp hp).1
        exact ha
theorem crowd_nm {i : Nat} (h : i < 10) : NmB (Str.ofString "filled" ++ Str.ofString (toString (i : Int))) ∧ NmB (Str.ofString "f" ++ Str.ofString (toString (i : Int))) ∧ (Str.ofString "filled" ++ Str.ofString (toString (i : Int))) ≠ Str.ofString "w" := by
  have h2 : ∀ j : Fin 10, ((((TL.tl (Str.ofString "filled" ++ Str.ofString (toString ((j.1 : Nat) : Int)))).all fun c => decide (c < 1114112)) = true ∧ (Str.ofString "filled" ++ Str.ofString (toString ((j.1 : Nat) : Int))).length ≤ 100) ∧ (((TL.tl (Str.ofString "f" ++ Str.ofString (toString ((j.1 : Nat) : Int)))).all fun c => decide (c < 1114112)) = true ∧ (Str.ofString "f" ++ Str.ofString (toString ((j.1 : Nat) : Int))).length ≤ 100)) ∧ (Str.ofString "filled" ++ Str.ofString (toString ((j.1 : Nat) : Int))) ≠ Str.ofString "w" := by decide +kernel
  obtain ⟨⟨⟨a, b⟩, c, d⟩, e⟩ := h2 ⟨i, h⟩
  exact ⟨nmB a b, nmB c d, e⟩
theorem crowd_B {r : Nat} {ps : List Part} {ns : List Net} (hp : PartsB ps) (hn : NetsB r ns) : ∀ {k : Nat}, ps.length + k ≤ 9 → PartsB (crowdP k ps ns).1 ∧ (crowdP k ps ns).2.length = ns.length + k ∧ ∀ n ∈ (crowdP k ps ns).2, NetB r n
  | 0, _ => ⟨hp, rfl, hn.2⟩
  | k + 1, h => by
    obtain ⟨h1, h2, h3⟩ := crowd_B hp hn (k := k) (by omega)
    obtain ⟨e1, e2⟩ := crowd_len k ps ns
    obtain ⟨c1, _, c3⟩ := crowd_nm (i := ps.length + k) (by omega)
    obtain ⟨_, c2, _⟩ := crowd_nm (i := ps.length + k + 1) (by omega)
    show PartsB (crowdS (crowdP k ps ns)).1 ∧ (crowdS (crowdP k ps ns)).2.length = _ ∧ ∀ n ∈ (crowdS (crowdP k ps ns)).2, NetB r n
    unfold crowdS
    rw [e1]
    refine ⟨⟨?_, fun p hp => ?_⟩, ?_, fun n hn => ?_⟩
    · rw [List.length_append, e1]
      show _ + 1 ≤ _
      omega
    · rcases List.mem_append.mp hp with q | q
      · exact h1.2 p q
      · rw [List.mem_singleton.mp q]
        exact ⟨c1, nmB (x := Str.ofString "r") (by decide +kernel) (by decide), c3, .inr ⟨1, rfl, by decide, by decide⟩⟩
    · rw [List.length_append, h2] <;> rfl
    · rcases List.mem_append.mp hn with q | q
      · exact h3 n q
      · rw [List.mem_singleton.mp q]
        refine ⟨c2, by show 1 ≤ _; omega, fun p hp => ?_⟩
        have hp : p ∈ [((Str.ofString "filled" ++ Str.ofString (toString ((ps.length + k : Nat) : Int)), (0 : Int)) : Pin)] := hp
        rw [List.mem_singleton.mp hp]
        exact c1
def F_badP : Fn := fun rs S QR _ => ∃ (n : Nat) (w : Well) (ps : List Part) (ns : List Net) (r : Nat), rs = [.o n, .d (.list (ps.map partD)), .d (.list (ns.map netD))] ∧ S[n]? = some (wellO w) ∧ PartsB ps ∧ NetsB r ns ∧ r ≤ 6 ∧ ps ≠ [] ∧ ∀ ps' ns' v, PartsB ps' → NetsB (r + 2) ns' → QR (.d (.tuple [.list (ps'.map partD), .list (ns'.map netD)])) (S.set n (wellO v))
def F_badN : Fn := fun rs S QR _ => ∃ (n : Nat) (w : Well) (ns : List Net) (r : Nat), rs = [.o n, .d (.list (ns.map netD))] ∧ S[n]? = some (wellO w) ∧ NetsB r ns ∧ r ≤ 6 ∧ ns ≠ [] ∧ ∀ ns' v, NetsB (r + 2) ns' → QR (.d (.list (ns'.map netD))) (S.set n (wellO v))
/-- the words that take a name's place -/
theorem words_ok {x : Str} (hx : x ∈ (["", "ninesigns", "A", "1a", "a-b", "eightsig", "r9"] : List Str)) : NmB x ∧ x ≠ Str.ofString "w" := by
  have h : ∀ x ∈ (["", "ninesigns", "A", "1a", "a-b", "eightsig", "r9"] : List Str), (((TL.tl x).all fun c => decide (c < 1114112)) = true ∧ x.length ≤ 100) ∧ x ≠ Str.ofString "w" := by decide +kernel
  obtain ⟨⟨a, b⟩, c⟩ := h x hx
  exact ⟨nmB a b, c⟩
theorem words_pick {f : Str} (hf : NmB f ∧ f ≠ Str.ofString "w") {i : Int} (h0 : 0 ≤ i) (h1 : i < 8) : ∃ x : Str, atI [PyData.str "", .str "ninesigns", .str "A", .str "1a", .str f, .str "a-b", .str "eightsig", .str "r9"] i = some (.str x) ∧ NmB x ∧ x ≠ Str.ofString "w" := by
  obtain ⟨d, hd, hm⟩ := pick (xs := [PyData.str "", .str "ninesigns", .str "A", .str "1a", .str f, .str "a-b", .str "eightsig", .str "r9"]) h0 (by show i < (8 : Int); omega)
  simp only [List.mem_cons, List.not_mem_nil, or_false] at hm
  rcases hm with h | h | h | h | h | h | h | h
  case inr.inr.inr.inr.inl => exact ⟨f, by rw [hd, h], hf⟩
  all_goals exact ⟨_, by rw [hd, h], words_ok (by simp)⟩
section
variable {P : Program} {w : World} {K : PySem.W.Frag} {mg : Str → Option Value} {base : Heap}
theorem fn__law_bad_part (T : TT K mg) {fd : FuncData} (Fd : FunD K "_law_bad_part" "_law_bad_part" (defArgs s__law_bad_part) (defBody s__law_bad_part) (defScope s__law_bad_part) [] [] (ga K "_law_bad_part") fd) : FnOk P w K mg base (L2.CX P w) 5 (ga K "_law_bad_part") fd ["_law_well_here", "_law_parts_here", "_law_nets_here"] (spF K 3 F_badP) := by
  refine fn_w Fd sc__law_bad_part fun cdv A outer s H E rs S QR QE c hc hl hF => ?_
  obtain ⟨n, w0, ps, ns, r, rfl, hw, hP, hN, hr6, hne, q⟩ := hF
  have e0 := sw_self hw
  have hl0 : 0 < ps.length := List.length_pos_iff.mpr hne
  have hl9 := hP.1
  have a1 := draw_lo (w := w0) (m := ((ps.length : Nat) : Int)) (by omega)
  have a2 := draw_hi (w := w0) (m := ((ps.length : Nat) : Int)) (by omega)
  obtain ⟨at_, hat⟩ := Int.eq_ofNat_of_zero_le a1
  have hlt : at_ < ps.length := by omega
  have dz : ∀ {v : Well} {m : Int} {QR : Cu.It → Sto → Prop} {QE : Addr → Sto → Prop}, 0 < m → m < 1073741824 → QR (.d (.int (drawV v m))) (S.set n (wellO (drawW v m))) → F_draw [.o n, .d (.int m)] (S.set n (wellO v)) QR QE := fun {v m QR QE} h1 h2 q => by
    have := dwl hw (w := v) (L := []) (QR := QR) (QE := QE) h1 h2 (by rw [List.append_nil]; exact q)
    rwa [List.append_nil] at this
  obtain ⟨p0, ps1, hps⟩ : ∃ p0 ps1, ps = p0 :: ps1 := by
    cases ps with
    | nil => exact absurd rfl hne
    | cons a b => exact ⟨a, b, rfl⟩
  have hp0 := hP.2 p0 (by rw [hps]; exact List.mem_cons_self)
  have hpa := hP.2 ps[at_] (List.getElem_mem hlt)
  generalize hp : ps[at_] = p at hpa
  obtain ⟨nm, kd, mn⟩ := p
  obtain ⟨b1, b2, b3, b4⟩ := hpa
  rw [← e0]
  refine ss_cons (ws_set 3 c.nd (r := .d (.int (at_ : Nat))) (S1 := S.set n (wellO (drawW w0 ((ps.length : Nat) : Int)))) (Ev.is2 (ev_call c (ok__law_draw T) (eva_cons (ev_name 0) (eva_cons (ev_lenA (ds := ps.map partD) (z_len T) (ev_name 1) rfl) eva_nil)) (fun QR QE q => by rw [List.length_map]; exact dz (by omega) (by omega) q)) (by rw [hat]) rfl) ?_)
  generalize drawW w0 ((ps.length : Nat) : Int) = w1
  refine ss_cons (ws_asg (ev_ixL (ds := ps.map partD) (d := partD (nm, kd, mn)) (ev_name 1) (ev_name 3) (atI_nat (k := at_) rfl (by rw [List.getElem?_map, List.getElem?_eq_getElem hlt, hp] <;> rfl))) (evg_tup (ds := [.str nm, .str kd, mn]) c.calm (evgs_cons (evg_name 4 c.nd) (evgs_cons (evg_name 5 c.nd) (evgs_cons (evg_name 6 c.nd) evgs_nil)))) ?_)
  refine ss_cons (ws_set 7 c.nd (ev_call c (ok__law_draw T) (eva_cons (ev_name 0) (eva_cons ev_int eva_nil)) (fun QR QE q => dz (by decide) (by decide) q)) ?_)
  have c1 := draw_lo (w := w1) (m := 4) (by decide)
  have c2 := draw_hi (w := w1) (m := 4) (by decide)
  generalize hway : drawV w1 4 = way at c1 c2
  generalize drawW w1 4 = w2
  refine ss_cons (ws_set 8 c.nd (ev_lst (ds := [.str "", .str "ninesigns", .str "A", .str "1a", .str p0.1, .str "a-b", .str "eightsig", .str "r9"]) (eva_cons ev_str (eva_cons ev_str (eva_cons ev_str (eva_cons ev_str (eva_cons (ev_ixT (ds := [.str p0.1, .str p0.2.1, p0.2.2]) (ev_ixL (ds := ps.map partD) (d := partD p0) (ev_name 1) ev_int (atI_nat (k := 0) rfl (by rw [hps] <;> rfl))) ev_int rfl) (eva_cons ev_str (eva_cons ev_str (eva_cons ev_str eva_nil))))))))) ?_)
  refine ss_cons (ws_if (k1 := decide (way = 3)) (evt_eqI (ev_name 7) ev_int) (fun h => ?_) (fun _ => ss_nil ?_))
  · refine ss_cons (ws_retX (Qr := fun r' S' => ∃ k v, ps.length + k ≤ 9 ∧ r' = .d (.tuple [.list ((crowdP k ps ns).1.map partD), .list ((crowdP k ps ns).2.map netD)]) ∧ S' = S.set n (wellO v)) (Qx := fun _ _ => False) (evx_call c (ok__law_crowd T) (by decide) (eva_cons (ev_name 0) (eva_cons (ev_name 1) (eva_cons (ev_name 2) eva_nil))) rfl (fun QR QE k1 _ => ⟨n, w2, ps, ns, rfl, by rw [List.getElem?_set_self (List.getElem?_eq_some_iff.mp hw).1], hl9, by have := hN.1; omega, fun k v hk => k1 _ _ ⟨k, v, hk, rfl, by rw [List.set_set]⟩⟩)) ?_ (fun _ _ z => z.elim))
    rintro _ _ ⟨k, v, hk, rfl, rfl⟩
    obtain ⟨f1, f2, f3⟩ := crowd_B hP hN hk
    refine back_d (q _ _ v f1 ⟨by rw [f2]; have := hN.1; omega, fun x hx => (f3 x hx).mono (by omega)⟩) ?_
    rw [List.length_set, List.length_set]
    exact Nat.le_refl _
  -- another name
  refine ss_mid (J := fun G1 S1 => ∃ nm' ns' v g9, NmB nm' ∧ nm' ≠ Str.ofString "w" ∧ NetsB (r + 1) ns' ∧ G1 = [some (.o n), some (.d (.list (ps.map partD))), some (.d (.list (ns'.map netD))), some (.d (.int (at_ : Nat))), some (.d (.str nm')), some (.d (.str kd)), some (.d mn), some (.d (.int way)), some (.d (.list [.str "", .str "ninesigns", .str "A", .str "1a", .str p0.1, .str "a-b", .str "eightsig", .str "r9"])), g9] ∧ S1 = S.set n (wellO v)) ?_ ?_
  · refine ws_if (k1 := decide (way = 0)) (evt_eqI (ev_name 7) ev_int) (fun h => ?_) (fun _ => ss_nil ⟨nm, ns, w2, _, b1, b3, hN.mono (by omega), rfl, rfl⟩)
    have e1 := draw_lo (w := w2) (m := 8) (by decide)
    have e2 := draw_hi (w := w2) (m := 8) (by decide)
    obtain ⟨x, hx, x1, x2⟩ := words_pick ⟨hp0.1, hp0.2.2.1⟩ e1 e2
    refine ss_cons (ws_set 9 c.nd (ev_ixL (ev_name 8) (ev_call c (ok__law_draw T) (eva_cons (ev_name 0) (eva_cons ev_int eva_nil)) (fun QR QE q => dz (by decide) (by decide) q)) hx) ?_)
    generalize drawW w2 8 = w3
    refine ss_mid (J := fun G1 S1 => ∃ ns' v, NetsB (r + 1) ns' ∧ G1 = [some (.o n), some (.d (.list (ps.map partD))), some (.d (.list (ns'.map netD))), some (.d (.int (at_ : Nat))), some (.d (.str nm)), some (.d (.str kd)), some (.d mn), some (.d (.int way)), some (.d (.list [.str "", .str "ninesigns", .str "A", .str "1a", .str p0.1, .str "a-b", .str "eightsig", .str "r9"])), some (.d (.str x))] ∧ S1 = S.set n (wellO v)) ?_ ?_
    · refine ws_if (k1 := decide (0 < drawV w3 4)) (evt_gt (ev_call c (ok__law_draw T) (eva_cons (ev_name 0) (eva_cons ev_int eva_nil)) (fun QR QE q => dz (by decide) (by decide) q)) ev_int) (fun h => ?_) (fun _ => ss_nil ⟨ns, _, hN.mono (by omega), rfl, rfl⟩)
      refine ss_cons (ws_set 2 c.nd (ev_call c (ok__law_renamed T) (eva_cons (ev_name 2) (eva_cons (ev_name 4) (eva_cons (ev_name 9) eva_nil))) (fun QR QE q => ⟨ns, nm, x, rfl, by have := hN.1; omega, fun y hy => (hN.2 y hy).in_ (by omega), q⟩)) (ss_nil ⟨_, _, (hN.ren nm x1).mono (by omega), rfl, rfl⟩))
    · rintro _ _ ⟨ns', v, hN', rfl, rfl⟩
      exact ss_cons (ws_set 4 c.nd (ev_name 9) (ss_nil ⟨x, ns', v, _, x1, x2, hN', rfl, rfl⟩))
  rintro _ _ ⟨nm', ns', v, g9, m1, m2, hN', rfl, rfl⟩
  -- another kind
  refine ss_mid (J := fun G1 S1 => ∃ kd' v, NmB kd' ∧ G1 = [some (.o n), some (.d (.list (ps.map partD))), some (.d (.list (ns'.map netD))), some (.d (.int (at_ : Nat))), some (.d (.str nm')), some (.d (.str kd')), some (.d mn), some (.d (.int way)), some (.d (.list [.str "", .str "ninesigns", .str "A", .str "1a", .str p0.1, .str "a-b", .str "eightsig", .str "r9"])), g9] ∧ S1 = S.set n (wellO v)) ?_ ?_
  · refine ws_if (k1 := decide (way = 1)) (evt_eqI (ev_name 7) ev_int) (fun h => ?_) (fun _ => ss_nil ⟨kd, v, b2, rfl, rfl⟩)
    have e1 := draw_lo (w := v) (m := 8) (by decide)
    have e2 := draw_hi (w := v) (m := 8) (by decide)
    obtain ⟨x, hx, x1, x2⟩ := words_pick ⟨hp0.1, hp0.2.2.1⟩ e1 e2
    exact ss_cons (ws_set 5 c.nd (ev_ixL (ev_name 8) (ev_call c (ok__law_draw T) (eva_cons (ev_name 0) (eva_cons ev_int eva_nil)) (fun QR QE q => dz (by decide) (by decide) q)) hx) (ss_nil ⟨x, _, x1, rfl, rfl⟩))
  rintro _ _ ⟨kd', v3, k1', rfl, rfl⟩
  -- another number
  refine ss_mid (J := fun G1 S1 => ∃ mn' ns2 v, manyB mn' ∧ NetsB (r + 2) ns2 ∧ G1 = [some (.o n), some (.d (.list (ps.map partD))), some (.d (.list (ns2.map netD))), some (.d (.int (at_ : Nat))), some (.d (.str nm')), some (.d (.str kd')), some (.d mn'), some (.d (.int way)), some (.d (.list [.str "", .str "ninesigns", .str "A", .str "1a", .str p0.1, .str "a-b", .str "eightsig", .str "r9"])), g9] ∧ S1 = S.set n (wellO v)) ?_ ?_
  · refine ws_if (k1 := decide (way = 2)) (evt_eqI (ev_name 7) ev_int) (fun h => ?_) (fun _ => ss_nil ⟨mn, ns', v3, b4, hN'.mono (by omega), rfl, rfl⟩)
    have e1 := draw_lo (w := v3) (m := 6) (by decide)
    have e2 := draw_hi (w := v3) (m := 6) (by decide)
    obtain ⟨mi, hmi, hmi2, hmi3⟩ : ∃ mi : Int, (∀ {X : Cx} {G : Gam} {S : Sto} {a b : Expr} {pos : Pos}, Ev X a G S (.d mn) S → Ev X b G S (.d (.int 1)) S → Ev X (.BinOp a .Add b pos) G S (.d (.int mi)) S) ∧ 0 ≤ mi ∧ mi ≤ 10 := by
      rcases b4 with e | ⟨m, e, m3, m4⟩
      · have e : mn = _ := e
        exact ⟨2, fun {X G S a b pos} ha hb => by rw [e] at ha; exact ev_addBI ha hb, by decide, by decide⟩
      · have e : mn = _ := e
        exact ⟨m + 1, fun {X G S a b pos} ha hb => by rw [e] at ha; exact ev_add ha hb, by omega, by omega⟩
    obtain ⟨d, hd, hm⟩ := pick (xs := [PyData.int 0, .int 9, .bool true, .int (min 9 mi), .int 8, .int (-1)]) e1 (by show _ < (6 : Int); omega)
    have hmB : manyB d := by
      simp only [List.mem_cons, List.not_mem_nil, or_false] at hm
      rcases hm with h | h | h | h | h | h
      · exact .inr ⟨_, h, by decide, by decide⟩
      · exact .inr ⟨_, h, by decide, by decide⟩
      · exact .inl h
      · exact .inr ⟨_, h, by omega, by omega⟩
      · exact .inr ⟨_, h, by decide, by decide⟩
      · exact .inr ⟨_, h, by decide, by decide⟩
    refine ss_cons (ws_set 6 c.nd (ev_ixL (ev_lst (eva_cons ev_int (eva_cons ev_int (eva_cons ev_bool (eva_cons (ev_min2 c (z_min T) ev_int (hmi (ev_name 6) ev_int)) (eva_cons ev_int (eva_cons (ev_neg ev_int) eva_nil))))))) (ev_call c (ok__law_draw T) (eva_cons (ev_name 0) (eva_cons ev_int eva_nil)) (fun QR QE q => dz (by decide) (by decide) q)) hd) ?_)
    generalize drawW v3 6 = v4
    refine ss_cons (ws_if (k1 := decide (0 < drawV v4 4)) (evt_gt (ev_call c (ok__law_draw T) (eva_cons (ev_name 0) (eva_cons ev_int eva_nil)) (fun QR QE q => dz (by decide) (by decide) q)) ev_int) (fun h => ?_) (fun _ => ss_nil (ss_nil ⟨d, ns', _, hmB, hN'.mono (by omega), rfl, rfl⟩)))
    obtain ⟨mj, hmj, hmj2, hmj3⟩ : ∃ mj : Int, (∀ {X : Cx} {G : Gam} {S : Sto} {a : Expr} {p pos : Pos}, X.mg "int" = none → Ev X a G S (.d d) S → Gl X "int" → starEach [a] X.env = (false, eval a X.env) :: starEach [] X.env → Ev X (.Call (.Name "int" p) [a] [] pos) G S (.d (.int mj)) S) ∧ -1 ≤ mj ∧ mj ≤ 9 := by
      rcases hmB with e | ⟨m, e, m3, m4⟩
      · exact ⟨1, fun {X G S a p pos} hm ha hg he => by rw [e] at ha; exact ev_intB hm ha hg he, by decide, by decide⟩
      · exact ⟨m, fun {X G S a p pos} hm ha hg he => by rw [e] at ha; exact ev_intI hm ha hg he, by omega, by omega⟩
    exact ss_cons (ws_set 2 c.nd (ev_call c (ok__law_counted T) (eva_cons (ev_name 2) (eva_cons (ev_name 4) (eva_cons (hmj (z_int T) (ev_name 6) rfl rfl) eva_nil))) (fun QR QE q => ⟨ns', nm', mj, rfl, by have := hN'.1; omega, fun y hy => (hN'.2 y hy).in_ (by omega), m1.1, by omega, by omega, q⟩)) (ss_nil (ss_nil ⟨d, _, _, hmB, hN'.cnt m1 hmj3, rfl, rfl⟩)))
  rintro _ _ ⟨mn', ns2, v5, k2', hN2, rfl, rfl⟩
  have hev : ps.take at_ ++ [((nm', kd', mn') : Part)] ++ ps.drop (at_ + 1) = ps.take at_ ++ [((nm', kd', mn') : Part)] ++ ps.drop (at_ + 1) := rfl
  refine ss_cons (ws_ret (ev_tup (ds := [.list ((ps.take at_ ++ [((nm', kd', mn') : Part)] ++ ps.drop (at_ + 1)).map partD), .list (ns2.map netD)]) (eva_cons (Ev.is (r' := .d (.list ((ps.take at_ ++ [((nm', kd', mn') : Part)] ++ ps.drop (at_ + 1)).map partD))) (ev_cat (ds := (ps.take at_).map partD ++ [partD (nm', kd', mn')]) (es := (ps.drop (at_ + 1)).map partD) (ev_cat (ds := (ps.take at_).map partD) (es := [partD (nm', kd', mn')]) (Ev.is (ev_slL (ds := ps.map partD) (il := none) (ih := some ((at_ : Nat) : Int)) (ev_name 1) trivial (ev_name 3)) (by rw [cut_take _ _ (by rw [List.length_map]; omega), List.map_take])) (ev_lst (eva_cons (ev_tup (eva_cons (ev_name 4) (eva_cons (ev_name 5) (eva_cons (ev_name 6) eva_nil)))) eva_nil)) (by rw [List.length_map, List.length_take]; show _ + 1 ≤ _; omega)) (Ev.is (ev_slL (ds := ps.map partD) (il := some (((at_ : Nat) : Int) + 1)) (ih := none) (ev_name 1) (ev_add (ev_name 3) ev_int) trivial) (by rw [show ((at_ : Nat) : Int) + 1 = ((at_ + 1 : Nat) : Int) from rfl, cut_drop _ _ (by rw [List.length_map]; omega), List.map_drop])) (by rw [List.length_append, List.length_map, List.length_take, List.length_map, List.length_drop]; show _ + 1 + _ ≤ _; omega)) (by rw [List.map_append, List.map_append] <;> rfl)) (eva_cons (ev_name 2) eva_nil))) (back_d (q _ _ v5 ⟨?_, fun x hx => ?_⟩ hN2) (by rw [List.length_set, List.length_set]; exact Nat.le_refl _)))
  · rw [List.length_append, List.length_append, List.length_take, List.length_drop]
    show _ + 1 + _ ≤ _
    omega
  · rcases List.mem_append.mp hx with hx | hx
    · rcases List.mem_append.mp hx with hx | hx
      · exact hP.2 x (List.mem_of_mem_take hx)
      · rw [List.mem_singleton.mp hx]
        exact ⟨m1, k1', m2, k2'⟩
    · exact hP.2 x (List.mem_of_mem_drop hx)
theorem ok__law_bad_part (T : TT K mg) : OkF P w K mg base 5 "_law_bad_part" ["_law_well_here", "_law_parts_here", "_law_nets_here"] [] F_badP := okF_of (g__law_bad_part T) (d__law_bad_part T) (fun _ _ _ _ _ _ us hl => match us, hl with | [_, _, _], _ => rfl) fun fd Fd => fn__law_bad_part T Fd
end
end Pf
namespace Pf
open PySem PySem.Spec PyProof.Rows L2 He Cu
theorem star_bin {a b : Expr} {op : Operator} {pos : Pos} {es : List Expr} {env : Env} : starEach (.BinOp a op b pos :: es) env = (false, eval (.BinOp a op b pos) env) :: starEach es env := rfl
section
variable {P : Program} {w : World} {K : PySem.W.Frag} {mg : Str → Option Value} {base : Heap}
theorem fn__law_bad_net (T : TT K mg) {fd : FuncData} (Fd : FunD K "_law_bad_net" "_law_bad_net" (defArgs s__law_bad_net) (defBody s__law_bad_net) (defScope s__law_bad_net) [] [] (ga K "_law_bad_net") fd) : FnOk P w K mg base (L2.CX P w) 4 (ga K "_law_bad_net") fd ["_law_well_here", "_law_nets_here"] (spF K 2 F_badN) := by
  refine fn_w Fd sc__law_bad_net fun cdv A outer s H E rs S QR QE c hc hl hF => ?_
  obtain ⟨n, w0, ns, r, rfl, hw, hN, hr6, hne, q⟩ := hF
  have e0 := sw_self hw
  have hl0 : 0 < ns.length := List.length_pos_iff.mpr hne
  have hl9 := hN.1
  have a1 := draw_lo (w := w0) (m := ((ns.length : Nat) : Int)) (by omega)
  have a2 := draw_hi (w := w0) (m := ((ns.length : Nat) : Int)) (by omega)
  obtain ⟨at_, hat⟩ := Int.eq_ofNat_of_zero_le a1
  have hlt : at_ < ns.length := by omega
  have dz : ∀ {v : Well} {m : Int} {QR : Cu.It → Sto → Prop} {QE : Addr → Sto → Prop}, 0 < m → m < 1073741824 → QR (.d (.int (drawV v m))) (S.set n (wellO (drawW v m))) → F_draw [.o n, .d (.int m)] (S.set n (wellO v)) QR QE := fun {v m QR QE} h1 h2 q => by
    have := dwl hw (w := v) (L := []) (QR := QR) (QE := QE) h1 h2 (by rw [List.append_nil]; exact q)
    rwa [List.append_nil] at this
  obtain ⟨p0, ps1, hps⟩ : ∃ p0 ps1, ns = p0 :: ps1 := by
    cases ns with
    | nil => exact absurd rfl hne
    | cons a b => exact ⟨a, b, rfl⟩
  have hp0 := hN.2 p0 (by rw [hps]; exact List.mem_cons_self)
  have hpa := hN.2 ns[at_] (List.getElem_mem hlt)
  generalize hp : ns[at_] = p at hpa
  obtain ⟨nm, pn⟩ := p
  obtain ⟨b1, b2, b3⟩ := hpa
  have b2 : pn.length ≤ 100 + 10 * r := b2
  have hcut1 : Cu.cutD (pn.map pinD) (some 1) none = (pn.drop 1).map pinD := by
    cases pn with
    | nil => rfl
    | cons a b => rw [show (some (1 : Int)) = some ((1 : Nat) : Int) from rfl, cut_drop _ _ (by rw [List.length_map, List.length_cons]; omega), List.map_drop]
  have hcut2 : Cu.cutD (pn.map pinD) none (some 1) = (pn.take 1).map pinD := by
    cases pn with
    | nil => rfl
    | cons a b => rw [show (some (1 : Int)) = some ((1 : Nat) : Int) from rfl, cut_take _ _ (by rw [List.length_map, List.length_cons]; omega), List.map_take]
  rw [← e0]
  refine ss_cons (ws_set 2 c.nd (r := .d (.int (at_ : Nat))) (S1 := S.set n (wellO (drawW w0 ((ns.length : Nat) : Int)))) (Ev.is2 (ev_call c (ok__law_draw T) (eva_cons (ev_name 0) (eva_cons (ev_lenA (ds := ns.map netD) (z_len T) (ev_name 1) rfl) eva_nil)) (fun QR QE q => by rw [List.length_map]; exact dz (by omega) (by omega) q)) (by rw [hat]) rfl) ?_)
  generalize drawW w0 ((ns.length : Nat) : Int) = w1
  refine ss_cons (ws_asg (ev_ixL (ds := ns.map netD) (d := netD (nm, pn)) (ev_name 1) (ev_name 2) (atI_nat (k := at_) rfl (by rw [List.getElem?_map, List.getElem?_eq_getElem hlt, hp] <;> rfl))) (evg_tup (ds := [.str nm, .list (pn.map pinD)]) c.calm (evgs_cons (evg_name 3 c.nd) (evgs_cons (evg_name 4 c.nd) evgs_nil))) ?_)
  refine ss_cons (ws_set 5 c.nd (ev_call c (ok__law_draw T) (eva_cons (ev_name 0) (eva_cons ev_int eva_nil)) (fun QR QE q => dz (by decide) (by decide) q)) ?_)
  generalize drawV w1 6 = way
  generalize drawW w1 6 = w2
  refine ss_cons (ws_set 6 c.nd (ev_listF (z_list T) (ev_name 4) rfl) ?_)
  -- some of its pins
  have mid : ∀ (l : List Pin) (x : Nat), l.length ≤ 100 + 10 * r + x → (∀ p ∈ l, NmB p.1) → True := fun _ _ _ _ => trivial
  refine ss_mid (J := fun G1 S1 => ∃ l : List Pin, l.length ≤ 100 + 10 * r ∧ (∀ p ∈ l, NmB p.1) ∧ G1 = [some (.o n), some (.d (.list (ns.map netD))), some (.d (.int (at_ : Nat))), some (.d (.str nm)), some (.d (.list (pn.map pinD))), some (.d (.int way)), some (.d (.list (l.map pinD)))] ∧ S1 = S.set n (wellO w2) ∧ (way = 0 ∨ l = pn)) ?_ ?_
  · refine ws_if (k1 := decide (way = 0)) (evt_eqI (ev_name 5) ev_int) (fun h => ?_) (fun _ => ss_nil ⟨pn, b2, b3, rfl, rfl, .inr rfl⟩)
    exact ss_cons (ws_set 6 c.nd (ev_slL (ds := pn.map pinD) (il := some 1) (ih := none) (ev_name 6) ev_int trivial) (ss_nil ⟨pn.drop 1, by rw [List.length_drop]; omega, fun p hp => b3 p (List.mem_of_mem_drop hp), by rw [hcut1] <;> rfl, rfl, .inl (of_decide_eq_true h)⟩))
  rintro _ _ ⟨l, l1, l2, rfl, rfl, l3⟩
  refine ss_mid (J := fun G1 S1 => ∃ l : List Pin, l.length ≤ 100 + 10 * r + 1 ∧ (∀ p ∈ l, NmB p.1) ∧ G1 = [some (.o n), some (.d (.list (ns.map netD))), some (.d (.int (at_ : Nat))), some (.d (.str nm)), some (.d (.list (pn.map pinD))), some (.d (.int way)), some (.d (.list (l.map pinD)))] ∧ S1 = S.set n (wellO w2)) ?_ ?_
  · refine ws_if (k1 := decide (way = 1)) (evt_eqI (ev_name 5) ev_int) (fun h => ?_) (fun _ => ss_nil ⟨l, by omega, l2, rfl, rfl⟩)
    have h := of_decide_eq_true h
    obtain rfl : l = pn := by
      rcases l3 with z | z
      · omega
      · exact z
    refine ss_cons (ws_set 6 c.nd (Ev.is (r' := .d (.list ((l ++ l.take 1).map pinD))) (ev_cat (ds := l.map pinD) (es := (l.take 1).map pinD) (ev_name 6) (Ev.is (ev_slL (ds := l.map pinD) (il := none) (ih := some 1) (ev_name 6) trivial ev_int) (by rw [hcut2])) (by rw [List.length_map, List.length_map, List.length_take]; omega)) (by rw [List.map_append])) (ss_nil ⟨l ++ l.take 1, by rw [List.length_append, List.length_take]; omega, fun p hp => ?_, rfl, rfl⟩))
    rcases List.mem_append.mp hp with h | h
    · exact l2 p h
    · exact l2 p (List.mem_of_mem_take h)
  rintro _ _ ⟨l', l1', l2', rfl, rfl⟩
  clear l3 l1 l2
  refine ss_mid (J := fun G1 S1 => ∃ l : List Pin, l.length ≤ 100 + 10 * r + 2 ∧ (∀ p ∈ l, NmB p.1) ∧ G1 = [some (.o n), some (.d (.list (ns.map netD))), some (.d (.int (at_ : Nat))), some (.d (.str nm)), some (.d (.list (pn.map pinD))), some (.d (.int way)), some (.d (.list (l.map pinD)))] ∧ S1 = S.set n (wellO w2)) ?_ ?_
  · refine ws_if (k1 := decide (way = 2)) (evt_eqI (ev_name 5) ev_int) (fun h => ?_) (fun _ => ss_nil ⟨l', by omega, l2', rfl, rfl⟩)
    refine ss_cons (ws_set 6 c.nd (Ev.is (r' := .d (.list ((l' ++ [((Str.ofString "q", (0 : Int)) : Pin)]).map pinD))) (ev_cat (ds := l'.map pinD) (es := [pinD (Str.ofString "q", 0)]) (ev_name 6) (ev_lst (eva_cons (ev_tup (eva_cons ev_str (eva_cons ev_int eva_nil))) eva_nil)) (by rw [List.length_map]; show _ + 1 ≤ _; omega)) (by rw [List.map_append] <;> rfl)) (ss_nil ⟨l' ++ [((Str.ofString "q", (0 : Int)) : Pin)], by rw [List.length_append]; show _ + 1 ≤ _; omega, fun p hp => ?_, rfl, rfl⟩))
    rcases List.mem_append.mp hp with h | h
    · exact l2' p h
    · rw [List.mem_singleton.mp h]
      exact nmB (x := Str.ofString "q") (by decide +kernel) (by decide)
  rintro _ _ ⟨l2, z1, z2, rfl, rfl⟩
  -- its name
  refine ss_mid (J := fun G1 S1 => ∃ nm' v, NmB nm' ∧ G1 = [some (.o n), some (.d (.list (ns.map netD))), some (.d (.int (at_ : Nat))), some (.d (.str nm')), some (.d (.list (pn.map pinD))), some (.d (.int way)), some (.d (.list (l2.map pinD)))] ∧ S1 = S.set n (wellO v)) ?_ ?_
  · refine ws_if (k1 := decide (way = 3)) (evt_eqI (ev_name 5) ev_int) (fun h => ?_) (fun _ => ss_nil ⟨nm, w2, b1, rfl, rfl⟩)
    exact ss_cons (ws_set 3 c.nd (ev_ixT (ds := [.str p0.1, .list (p0.2.map pinD)]) (ev_ixL (ds := ns.map netD) (d := netD p0) (ev_name 1) ev_int (atI_nat (k := 0) rfl (by rw [hps] <;> rfl))) ev_int rfl) (ss_nil ⟨p0.1, w2, hp0.1, rfl, rfl⟩))
  rintro _ _ ⟨nm', v, y1, rfl, rfl⟩
  refine ss_mid (J := fun G1 S1 => ∃ nm' v, NmB nm' ∧ G1 = [some (.o n), some (.d (.list (ns.map netD))), some (.d (.int (at_ : Nat))), some (.d (.str nm')), some (.d (.list (pn.map pinD))), some (.d (.int way)), some (.d (.list (l2.map pinD)))] ∧ S1 = S.set n (wellO v)) ?_ ?_
  · refine ws_if (k1 := decide (way = 4)) (evt_eqI (ev_name 5) ev_int) (fun h => ?_) (fun _ => ss_nil ⟨nm', v, y1, rfl, rfl⟩)
    have e1 := draw_lo (w := v) (m := 5) (by decide)
    have e2 := draw_hi (w := v) (m := 5) (by decide)
    have hnn : NmB (repS (Str.ofString "n") (8 : Int).toNat) := nmB (by decide +kernel) (by decide +kernel)
    generalize hnz : repS (Str.ofString "n") (8 : Int).toNat = nn at hnn
    obtain ⟨d, hd, hm⟩ := pick (xs := [PyData.str "", .str "N", .str "9", .str "ninesigns", .str nn]) e1 (by show _ < (5 : Int); omega)
    obtain ⟨x, rfl, hx⟩ : ∃ x : Str, d = .str x ∧ NmB x := by
      simp only [List.mem_cons, List.not_mem_nil, or_false] at hm
      rcases hm with h | h | h | h | h
      case inr.inr.inr.inr => exact ⟨_, h, hnn⟩
      all_goals exact ⟨_, h, nmB (by decide +kernel) (by decide +kernel)⟩
    exact ss_cons (ws_set 3 c.nd (ev_ixL (ev_lst (eva_cons ev_str (eva_cons ev_str (eva_cons ev_str (eva_cons ev_str (eva_cons (hs := star_bin) (Ev.is (ev_mulS ev_str ev_int (by decide) (by decide) (by decide) (by decide)) (congrArg (fun z => Cu.It.d (.str z)) hnz)) eva_nil)))))) (ev_call c (ok__law_draw T) (eva_cons (ev_name 0) (eva_cons ev_int eva_nil)) (fun QR QE q => dz (by decide) (by decide) q)) hd) (ss_nil ⟨x, _, hx, rfl, rfl⟩))
  rintro _ _ ⟨nm2, v2, y2, rfl, rfl⟩
  refine ss_cons (ws_if (k1 := decide (way = 5)) (evt_eqI (ev_name 5) ev_int) (fun h => ?_) (fun _ => ss_nil ?_))
  · refine ss_cons (ws_ret (Ev.is (r' := .d (.list ((ns ++ [((Str.ofString "more", []) : Net)]).map netD))) (ev_cat (ds := ns.map netD) (es := [netD (Str.ofString "more", [])]) (ev_name 1) (ev_lst (eva_cons (ev_tup (eva_cons ev_str (eva_cons (ev_lst eva_nil) eva_nil))) eva_nil)) (by rw [List.length_map]; show _ + 1 ≤ _; omega)) (by rw [List.map_append] <;> rfl)) (back_d (q _ v2 ⟨?_, fun x hx => ?_⟩) (by rw [List.length_set, List.length_set]; exact Nat.le_refl _)))
    · rw [List.length_append]
      show _ + 1 ≤ _
      omega
    · rcases List.mem_append.mp hx with hx | hx
      · exact (hN.2 x hx).mono (by omega)
      · rw [List.mem_singleton.mp hx]
        exact ⟨nmB (x := Str.ofString "more") (by decide +kernel) (by decide), Nat.zero_le _, fun p hp => nomatch hp⟩
  refine ss_cons (ws_ret (Ev.is (r' := .d (.list ((ns.take at_ ++ [((nm2, l2) : Net)] ++ ns.drop (at_ + 1)).map netD))) (ev_cat (ds := (ns.take at_).map netD ++ [netD (nm2, l2)]) (es := (ns.drop (at_ + 1)).map netD) (ev_cat (ds := (ns.take at_).map netD) (es := [netD (nm2, l2)]) (Ev.is (ev_slL (ds := ns.map netD) (il := none) (ih := some ((at_ : Nat) : Int)) (ev_name 1) trivial (ev_name 2)) (by rw [cut_take _ _ (by rw [List.length_map]; omega), List.map_take])) (ev_lst (eva_cons (ev_tup (eva_cons (ev_name 3) (eva_cons (ev_name 6) eva_nil))) eva_nil)) (by rw [List.length_map, List.length_take]; show _ + 1 ≤ _; omega)) (Ev.is (ev_slL (ds := ns.map netD) (il := some (((at_ : Nat) : Int) + 1)) (ih := none) (ev_name 1) (ev_add (ev_name 2) ev_int) trivial) (by rw [show ((at_ : Nat) : Int) + 1 = ((at_ + 1 : Nat) : Int) from rfl, cut_drop _ _ (by rw [List.length_map]; omega), List.map_drop])) (by rw [List.length_append, List.length_map, List.length_take, List.length_map, List.length_drop]; show _ + 1 + _ ≤ _; omega)) (by rw [List.map_append, List.map_append] <;> rfl)) (back_d (q _ v2 ⟨?_, fun x hx => ?_⟩) (by rw [List.length_set, List.length_set]; exact Nat.le_refl _)))
  · rw [List.length_append, List.length_append, List.length_take, List.length_drop]
    show _ + 1 + _ ≤ _
    omega
  · rcases List.mem_append.mp hx with hx | hx
    · rcases List.mem_append.mp hx with hx | hx
      · exact (hN.2 x (List.mem_of_mem_take hx)).mono (by omega)
      · rw [List.mem_singleton.mp hx]
        exact ⟨y2, by show l2.length ≤ _; omega, z2⟩
    · exact (hN.2 x (List.mem_of_mem_drop hx)).mono (by omega)
theorem ok__law_bad_net (T : TT K mg) : OkF P w K mg base 4 "_law_bad_net" ["_law_well_here", "_law_nets_here"] [] F_badN := okF_of (g__law_bad_net T) (d__law_bad_net T) (fun _ _ _ _ _ _ us hl => match us, hl with | [_, _], _ => rfl) fun fd Fd => fn__law_bad_net T Fd
end
end Pf
/-! KSortG: sorted of data that are alike, plainly: rearranged data are sorted alike. -/
namespace Cu
open PySem PySem.Spec PyProof.Rows L2
mutual
theorem alike_eq : ∀ (x y : PyData), PySem.W.alike x y = true → PyData.eqv x y = true → x = y
  | .none, y, h, e => by cases y <;> simp_all [PySem.W.alike]
  | .bool a, y, h, e => by cases y <;> simp_all [PySem.W.alike, PyData.eqv]
  | .int a, y, h, e => by cases y <;> simp_all [PySem.W.alike, PyData.eqv]
  | .str a, y, h, e => by cases y <;> simp_all [PySem.W.alike, PyData.eqv]
  | .list xs, y, h, e => by
    cases y with
    | list ys => rw [alikeAll_eq xs ys (by simpa [PySem.W.alike] using h) (by simpa [PyData.eqv] using e)]
    | _ => simp [PySem.W.alike] at h
  | .tuple xs, y, h, e => by
    cases y with
    | tuple ys => rw [alikeAll_eq xs ys (by simpa [PySem.W.alike] using h) (by simpa [PyData.eqv] using e)]
    | _ => simp [PySem.W.alike] at h
  | .dict _, y, h, e => by cases y <;> simp [PySem.W.alike] at h
theorem alikeAll_eq : ∀ (xs ys : List PyData), PySem.W.alikeAll xs ys = true → PyData.eqvAll xs ys = true → xs = ys
  | [], [], _, _ => rfl
  | [], _ :: _, _, e => by simp [PyData.eqvAll] at e
  | _ :: _, [], _, e => by simp [PyData.eqvAll] at e
  | x :: xs, y :: ys, h, e => by
    obtain ⟨h1, h2⟩ := PySem.W.alike_all_cons h
    rw [PySem.W.eqv_all_cons, Bool.and_eq_true] at e
    rw [alike_eq x y h1 e.1, alikeAll_eq xs ys h2 e.2]
end
theorem toks_inj {x y : PyData} (h : PySem.W.alike x y = true) (e : PySem.W.keyToks x = PySem.W.keyToks y) : x = y := by
  refine alike_eq x y h ?_
  cases q : PyData.eqv x y with
  | true => rfl
  | false =>
    have z := (PySem.W.toks_eqv x y h).2 q [.inl 0] [.inl 1]
    rw [e] at z
    have z1 : PyProof.Rows.lexLt PyProof.Rows.itemOrd (PySem.W.keyToks y) (PySem.W.keyToks y) = false := PyProof.Rows.lex_irrefl _
    have z2 : PyProof.Rows.lexLt PyProof.Rows.itemOrd (PySem.W.keyToks y ++ [.inl 0]) (PySem.W.keyToks y ++ [.inl 1]) = PyProof.Rows.lexLt PyProof.Rows.itemOrd [.inl 0] [.inl 1] := PySem.W.lex_pre _ _ _
    rw [z1, z2] at z
    exact absurd z (by decide)
theorem le_total {β : Type} (kf : β → PyData) : PySem.W.TotalLe (PySem.W.dataLe false kf) := PySem.W.sortLe_total _ _ _
theorem le_pair {β : Type} (kf : β → PyData) (l : List β) : (l.mergeSort (PySem.W.dataLe false kf)).Pairwise fun a b => PySem.W.dataLe false kf a b = true := PySem.W.sort_pairwise (le_total kf) l
/-- alike data, rearranged, are sorted alike -/
theorem sortD_perm {A B : List PyData} (h : A.Perm B) (hal : PySem.W.AllAlike A) : sortD A = sortD B := by
  unfold sortD
  refine List.Perm.eq_of_pairwise (le := fun a b => PySem.W.dataLe false id a b = true) (fun a b ha hb h1 h2 => ?_) (le_pair id A) (le_pair id B) ((List.mergeSort_perm A _).trans (h.trans (List.mergeSort_perm B _).symm))
  have ma : a ∈ A := (List.mergeSort_perm A _).mem_iff.mp ha
  have mb : b ∈ A := h.mem_iff.mpr ((List.mergeSort_perm B _).mem_iff.mp hb)
  refine toks_inj (hal a ma b mb) ?_
  have e1 : PyProof.Rows.lexLt PyProof.Rows.itemOrd (PySem.W.keyToks b) (PySem.W.keyToks a) = false := by simpa [PySem.W.dataLe, PySem.W.sortLe] using h1
  have e2 : PyProof.Rows.lexLt PyProof.Rows.itemOrd (PySem.W.keyToks a) (PySem.W.keyToks b) = false := by simpa [PySem.W.dataLe, PySem.W.sortLe] using h2
  exact (PyProof.Rows.listOrd PyProof.Rows.itemOrd).total _ _ e2 e1
theorem sortD_mem {A : List PyData} {x : PyData} : x ∈ sortD A ↔ x ∈ A := (List.mergeSort_perm A _).mem_iff
end Cu
namespace Pf
open PySem PySem.Spec PyProof.Rows L2 He Cu
theorem ev_notInD {X : Cx} {W : WX} {k : Nat} {G : Gam} {S S1 S2 : Sto} {a b : Expr} {r : Cu.It} {ds : List PyData} {pos : Pos} {x : PyData} (c : Cxo X W k) (ha : Ev X a G S (.d x) S1) (hb : Ev X b G S1 r S2) (hr : lsOf S2 r = some ds) (hx : SeqAt.shaped x = true) (hd : SeqAt.shaped (.list ds) = true) (hm : behindInMarks .NotIn b = false := by rfl) : Ev X (.Compare a [.NotIn] [b] pos) G S (.d (.bool (!ds.any fun z => PyData.eqv z x))) S2 := ev_cmp (op_notInD (by have := c.hr.un; omega)) ha hb (fun M H v u Q s hv hw q => by
  obtain ⟨ad, xs, rfl, h1, h2⟩ := ls_rd s hw hr
  exact ⟨x, ds, Fz.dp hv, dp_list h1 h2, hx, hd, q _ M H Ext.refl s (Fz.bl _)⟩) hm
/-! the law's own look is the drawing's -/
theorem names_same (xs : List Str) : namesOk xs = unlikeOk xs := by
  unfold namesOk unlikeOk
  rw [Bool.eq_iff_iff, Bool.and_eq_true, List.all_eq_true, List.all_eq_true, decide_eq_true_iff]
  constructor
  · intro h
    refine ⟨List.nodup_iff_count.mpr fun a => ?_, fun x hx => ?_⟩
    · by_cases ha : a ∈ xs
      · have := h a ha
        rw [Bool.and_eq_true] at this
        exact of_decide_eq_true this.2
      · rw [List.count_eq_zero_of_not_mem ha]; exact Nat.zero_le _
    · have := h x hx
      rw [Bool.and_eq_true] at this
      exact this.1
  · rintro ⟨h1, h2⟩ x hx
    rw [Bool.and_eq_true]
    exact ⟨h2 x hx, decide_eq_true (List.nodup_iff_count.mp h1 x)⟩
theorem fine_split (ps : List Part) : ps.all partFine = ((ps.all fun p => nameOk p.2.1) && (ps.all fun p => manyOk p.2.2)) := by
  induction ps with
  | nil => rfl
  | cons p ps ih =>
    rw [List.all_cons, List.all_cons, List.all_cons, ih]
    show ((nameOk p.2.1 && manyOk p.2.2) && _) = _
    cases nameOk p.2.1 <;> cases manyOk p.2.2 <;> simp
theorem sort_pins (l : List Pin) : ∃ l' : List Pin, l'.Perm l ∧ sortD (l.map pinD) = l'.map pinD := perm_inv (List.mergeSort_perm (l.map pinD) _)
theorem sort_eq {A B : List Pin} (h : PyData.eqv (.list (sortD (A.map pinD))) (.list (sortD (B.map pinD))) = true) : A.Perm B ∧ sortD (A.map pinD) = sortD (B.map pinD) := by
  obtain ⟨a, pa, ea⟩ := sort_pins A
  obtain ⟨b, pb, eb⟩ := sort_pins B
  rw [ea, eb, eqv_list pinD eqv_pin] at h
  have h := of_decide_eq_true h
  exact ⟨(pa.symm.trans (h ▸ pb)), by rw [ea, eb, h]⟩
theorem pinsOf_nd : ∀ {ps : List Part}, (ps.map (·.1)).Nodup → (pinsOf ps).Nodup
  | [], _ => List.nodup_nil
  | p :: ps, h => by
    rw [List.map_cons, List.nodup_cons] at h
    have ih := pinsOf_nd h.2
    unfold pinsOf at ih ⊢
    rw [List.flatMap_cons, List.nodup_append]
    refine ⟨?_, ih, fun a ha b hb e => ?_⟩
    · exact List.Pairwise.map _ (fun a b hab z => hab (by
        have := congrArg Prod.snd z
        have : (a : Int) = (b : Int) := this
        omega)) List.nodup_range
    · obtain ⟨j, _, rfl⟩ := List.mem_map.mp ha
      obtain ⟨q, hq, hb⟩ := List.mem_flatMap.mp hb
      obtain ⟨k, _, rfl⟩ := List.mem_map.mp hb
      have e : p.1 = q.1 := (Prod.mk.inj e).1
      exact h.1 (e ▸ List.mem_map.mpr ⟨q, hq, rfl⟩)
theorem draw_good (ps : List Part) (ns : List Net) : drawOk ps ns = (decide (ps.length ≤ 8) && (decide (ns.length ≤ 24) && (unlikeOk (ps.map (·.1)) && (unlikeOk (ns.map (·.1)) && ((ps.all fun p => nameOk p.2.1) && ((ps.all fun p => manyOk p.2.2) && (PyData.eqv (.list (sortD ((toldOf ns).map pinD))) (.list (sortD ((pinsOf ps).map pinD))) && (ns.all fun n => !n.2.isEmpty)))))))) := by
  unfold drawOk
  rw [names_same, names_same, fine_split]
  by_cases hu : unlikeOk (ps.map (·.1)) = true
  · by_cases he : PyData.eqv (.list (sortD ((toldOf ns).map pinD))) (.list (sortD ((pinsOf ps).map pinD))) = true
    · have hnd : (toldOf ns).Nodup := by
        refine (sort_eq he).1.nodup_iff.mpr (pinsOf_nd ?_)
        unfold unlikeOk at hu
        rw [Bool.and_eq_true] at hu
        exact of_decide_eq_true hu.1
      rw [decide_eq_true hnd, he]
      generalize (ns.all fun n => !n.2.isEmpty) = x
      generalize (ps.all fun p => nameOk p.2.1) = y
      generalize (ps.all fun p => manyOk p.2.2) = z
      cases x <;> cases y <;> cases z <;> simp
    · have he : PyData.eqv (.list (sortD ((toldOf ns).map pinD))) (.list (sortD ((pinsOf ps).map pinD))) = false := by simpa using he
      rw [he]
      simp
  · have hu : unlikeOk (ps.map (·.1)) = false := by simpa using hu
    rw [hu]
    simp
theorem netsAt_d (S : Sto) (ns : List Net) : netsAt S (.d (.list (ns.map netD))) ns := by
  refine ⟨_, rfl, ?_⟩
  induction ns with
  | nil => exact .nil
  | cons n ns ih => exact .cons ⟨_, rfl, rfl⟩ ih
theorem lay_part {p : Part} (h : PartB p) : PyData.canLay0 (partD p) = true ∧ (partD p).depth ≤ 50 := by
  unfold partD
  have h1 := okS_ok h.1.1
  have h2 := okS_ok h.2.1.1
  rcases h.2.2.2 with e | ⟨m, e, _⟩
  · rw [e]
    refine ⟨by simp only [PyData.canLay0, PyData.canLayAll0, h1, h2, Bool.and_true], by simp only [PyData.depth, PyData.depthAll]; decide⟩
  · rw [e]
    refine ⟨by simp only [PyData.canLay0, PyData.canLayAll0, h1, h2, Bool.and_true], by simp only [PyData.depth, PyData.depthAll]; decide⟩
theorem shaped_parts {ps : List Part} (h : ∀ p ∈ ps, PartB p) : SeqAt.shaped (.list (ps.map partD)) = true := shaped_list fun d hd => by
  obtain ⟨p, hp, rfl⟩ := List.mem_map.mp hd
  exact lay_part (h p hp)
def kindB : Cu.It → Bool
  | .d (.tuple [_, .str k, _]) => !nameOk k
  | _ => false
theorem kinds_out (ps : List Part) : (((ps.map partD).map Cu.It.d).filter kindB).map idG = (ps.filter fun p => !nameOk p.2.1).map partD := by
  induction ps with
  | nil => rfl
  | cons p l ih =>
    rw [List.map_cons, List.map_cons, List.filter_cons, List.filter_cons]
    show (if (!nameOk p.2.1) = true then _ else _ : List Cu.It).map idG = _
    by_cases h : (!nameOk p.2.1) = true
    · rw [if_pos h, if_pos h, List.map_cons, ih] <;> rfl
    · rw [if_neg h, if_neg h, ih]
theorem kinds_none (ps : List Part) : ((ps.filter fun p => !nameOk p.2.1).map partD).isEmpty = ps.all fun p => nameOk p.2.1 := by
  rw [List.isEmpty_map]
  induction ps with
  | nil => rfl
  | cons p l ih =>
    rw [List.filter_cons, List.all_cons]
    by_cases h : nameOk p.2.1 = true
    · rw [h]; simpa using ih
    · have h : nameOk p.2.1 = false := by simpa using h
      rw [h]; simp
def GoodIn (ps : List Part) (ns : List Net) : Prop := PartsB ps ∧ ns.length ≤ 100 ∧ ∀ n ∈ ns, NetB 20 n
def F_good : Fn := fun rs S QR _ => ∃ (ps : List Part) (ns : List Net), rs = [.d (.list (ps.map partD)), .d (.list (ns.map netD))] ∧ GoodIn ps ns ∧ QR (.d (.bool (drawOk ps ns))) S
def F_refusedD : Fn := fun rs S QR _ => ∃ (ps : List Part) (ns : List Net), rs = [.d (.list (ps.map partD)), .d (.list (ns.map netD))] ∧ GoodIn ps ns ∧ drawOk ps ns = false ∧ QR (.d (.bool true)) S
def F_noPin (K : PySem.W.Frag) : Fn := fun rs S QR _ => ∃ (d h : Nat) (fs : List (Str × Cu.It)) (kvs : List (List Key × Cu.It)) (p : Pin), rs = [.o d, .d (pinD p)] ∧ S[d]? = some (.ins (ga K "Drawing") fs) ∧ fs.lookup (Str.ofString "homes") = some (It.o h) ∧ S[h]? = some (.dT kvs) ∧ valI kvs (pinK p) = none ∧ fs.lookup (Str.ofString "net_of") = none ∧ QR (.d (.bool true)) S
section
variable {P : Program} {w : World} {K : PySem.W.Frag} {mg : Str → Option Value} {base : Heap}
theorem fn__law_good (T : TT K mg) {fd : FuncData} (Fd : FunD K "_law_good" "_law_good" (defArgs s__law_good) (defBody s__law_good) (defScope s__law_good) [] [] (ga K "_law_good") fd) : FnOk P w K mg base (L2.CX P w) 3 (ga K "_law_good") fd ["_law_parts_here", "_law_nets_here"] (spF K 2 F_good) := by
  refine fn_w Fd sc__law_good fun cdv A outer s H E rs S QR QE c hc hl hF => ?_
  obtain ⟨ps, ns, rfl, ⟨⟨l9, pB⟩, l100, nB⟩, q⟩ := hF
  have nI : ∀ n ∈ ns, netIn n := fun n hn => (nB n hn).in_ (by omega)
  rw [draw_good] at q
  -- too many, names of parts
  have u1 : ∀ x ∈ ps.map (·.1), x.length ≤ 90000 ∧ okS x := fun x hx => by
    obtain ⟨p, hp, rfl⟩ := List.mem_map.mp hx
    exact ⟨(pB p hp).in_.2, (pB p hp).1.1⟩
  have u2 : ∀ x ∈ ns.map (·.1), x.length ≤ 90000 ∧ okS x := fun x hx => by
    obtain ⟨p, hp, rfl⟩ := List.mem_map.mp hx
    exact ⟨(nI p hp).2.1, (nI p hp).1⟩
  refine ss_cons (ws_if (k1 := decide ((8 : Int) < ((ps.map partD).length : Nat)) || (decide ((24 : Int) < ((ns.map netD).length : Nat)) || !unlikeOk (ps.map (·.1)))) (S1 := S) (evt_w (evw_or (evt_gt (ev_lenA (ds := ps.map partD) (z_len T) (ev_name 0) rfl) ev_int) fun _ => evw_or (evt_gt (ev_lenA (ds := ns.map netD) (z_len T) (ev_name 1) rfl) ev_int) fun _ => evw_or1 (evt_not (evt_val (ev_call c (ok__law_unlike T) (eva_cons (ev_lc c (blkOk_by (by rfl)) (LcOk.is (o2 := (ps.map (·.1)).map .str) (lc_pure (own := [("_law_one", 2)]) c (evi_list (ds := ps.map partD) (ev_name 0)) (tg_name 2 c.nd) (fun _ => true) fstG (fun _ => trivial) (fun r hr => ?_) ?_) ?_)) eva_nil) (fun QR QE q => ⟨ps.map (·.1), rfl, by rw [List.length_map]; omega, u1, q⟩)))))) (fun h => ?_) (fun h => ss_nil ?_))
  · obtain ⟨d, hd, rfl⟩ := List.mem_map.mp hr
    obtain ⟨p, hp, rfl⟩ := List.mem_map.mp hd
    exact ⟨_, rfl, fun L s H C cl fp => rfl, fun _ L s H C cl fp => ev_ixT (ds := [.str p.1, .str p.2.1, p.2.2]) (ev_name 2) ev_int rfl⟩
  · rw [List.length_map, List.length_map]; omega
  · rw [fil_true, List.map_map, List.map_map, List.map_map] <;> rfl
  · refine ss_cons (ws_ret ev_bool (back_d ?_))
    rw [List.length_map, List.length_map, Bool.or_eq_true, Bool.or_eq_true] at h
    have : (decide (ps.length ≤ 8) && (decide (ns.length ≤ 24) && (unlikeOk (ps.map (·.1)) && (unlikeOk (ns.map (·.1)) && ((ps.all fun p => nameOk p.2.1) && ((ps.all fun p => manyOk p.2.2) && (PyData.eqv (.list (sortD ((toldOf ns).map pinD))) (.list (sortD ((pinsOf ps).map pinD))) && (ns.all fun n => !n.2.isEmpty)))))))) = false := by
      rcases h with h | h | h
      · have h := of_decide_eq_true h
        rw [decide_eq_false (show ¬ ps.length ≤ 8 by omega), Bool.false_and]
      · have h := of_decide_eq_true h
        rw [decide_eq_false (show ¬ ns.length ≤ 24 by omega), Bool.false_and, Bool.and_false]
      · have h : unlikeOk (ps.map (·.1)) = false := by simpa using h
        rw [h, Bool.false_and, Bool.and_false, Bool.and_false]
    rw [this] at q
    exact q
  rw [List.length_map, List.length_map, Bool.or_eq_false_iff, Bool.or_eq_false_iff] at h
  have b1 : ps.length ≤ 8 := by have := of_decide_eq_false h.1; omega
  have b2 : ns.length ≤ 24 := by have := of_decide_eq_false h.2.1; omega
  have b3 : unlikeOk (ps.map (·.1)) = true := by simpa using h.2.2
  rw [decide_eq_true b1, decide_eq_true b2, b3, Bool.true_and, Bool.true_and, Bool.true_and] at q
  -- names of nets, kinds
  refine ss_cons (ws_if (k1 := !unlikeOk (ns.map (·.1)) || !(ps.all fun p => nameOk p.2.1)) (S1 := S) (EvT.is (evt_w (evw_or (evt_not (evt_val (ev_call c (ok__law_unlike T) (eva_cons (ev_lc c (blkOk_by (by rfl)) (LcOk.is (o2 := (ns.map (·.1)).map .str) (lc_pure (own := [("_law_one", 2)]) c (evi_list (ds := ns.map netD) (ev_name 1)) (tg_name 2 c.nd) (fun _ => true) fstG (fun _ => trivial) (fun r hr => ?_) ?_) ?_)) eva_nil) (fun QR QE q => ⟨ns.map (·.1), rfl, by rw [List.length_map]; omega, u2, q⟩)))) fun _ => evw_or1 (evt_neD c (x := .list ((ps.filter fun p => !nameOk p.2.1).map partD)) (y := .list []) (ev_lc c (blkOk_by (by rfl)) (LcOk.is (lc_pure (own := [("_law_one", 2)]) c (evi_list (ds := ps.map partD) (ev_name 0)) (tg_name 2 c.nd) kindB idG (fun _ => trivial) (fun r hr => ?_) ?_) (kinds_out ps))) (ev_lst eva_nil) (shaped_parts fun p hp => pB p (List.mem_filter.mp hp).1) (shaped_list (ds := []) fun _ h => nomatch h)))) (by rw [eqv_nil, kinds_none])) (fun h => ?_) (fun h => ss_nil ?_))
  · obtain ⟨d, hd, rfl⟩ := List.mem_map.mp hr
    obtain ⟨p, hp, rfl⟩ := List.mem_map.mp hd
    exact ⟨_, rfl, fun L s H C cl fp => rfl, fun _ L s H C cl fp => ev_ixT (ds := [.str p.1, .list (p.2.map pinD)]) (ev_name 2) ev_int rfl⟩
  · rw [List.length_map, List.length_map]; omega
  · rw [fil_true, List.map_map, List.map_map, List.map_map] <;> rfl
  · obtain ⟨d, hd, rfl⟩ := List.mem_map.mp hr
    obtain ⟨p, hp, rfl⟩ := List.mem_map.mp hd
    exact ⟨_, rfl, fun L s H C cl fp => evt_not (evt_val (ev_call (c.blk _ s H C cl fp) (ok__law_is_name T) (eva_cons (ev_ixT (ds := [.str p.1, .str p.2.1, p.2.2]) (ev_name 2) ev_int rfl) eva_nil) (fun QR QE q => ⟨_, rfl, (pB p hp).in_.1.1, (pB p hp).2.1.1, q⟩))), fun _ L s H C cl fp => (ev_name 2)⟩
  · rw [List.length_map, List.length_map]; omega
  · refine ss_cons (ws_ret ev_bool (back_d ?_))
    have : (unlikeOk (ns.map (·.1)) && ((ps.all fun p => nameOk p.2.1) && ((ps.all fun p => manyOk p.2.2) && (PyData.eqv (.list (sortD ((toldOf ns).map pinD))) (.list (sortD ((pinsOf ps).map pinD))) && (ns.all fun n => !n.2.isEmpty))))) = false := by
      rw [Bool.or_eq_true] at h
      rcases h with h | h
      · have h : unlikeOk (ns.map (·.1)) = false := by simpa using h
        rw [h, Bool.false_and]
      · have h : (ps.all fun p => nameOk p.2.1) = false := by simpa using h
        rw [h, Bool.false_and, Bool.and_false]
    rw [this] at q
    exact q
  rw [Bool.or_eq_false_iff] at h
  have b4 : unlikeOk (ns.map (·.1)) = true := by simpa using h.1
  have b5 : (ps.all fun p => nameOk p.2.1) = true := by simpa using h.2
  rw [b4, b5, Bool.true_and, Bool.true_and] at q
  clear h
  refine ss_cons (ws_set 3 c.nd (ev_lst eva_nil) ?_)
  refine ss_cons (ws_for c (evi_list (ds := ps.map partD) (ev_name 0)) (fun i G' S' => (∃ g4 g5 g6, G' = [some (.d (.list (ps.map partD))), some (.d (.list (ns.map netD))), none, some (.d (.list ((pinsOf (ps.take i)).map pinD))), g4, g5, g6, none, none, none]) ∧ S' = S ∧ ((ps.take i).all fun p => manyOk p.2.2) = true) (fun r G => match r with | .d (.tuple [d0, d1, d2]) => ((G.set 4 (some (.d d0))).set 5 (some (.d d1))).set 6 (some (.d d2)) | _ => G)
    ⟨⟨_, _, _, rfl⟩, rfl, rfl⟩ (fun _ _ _ _ => trivial) ?_ ?_ ?_)
  · rintro i r' G' S' hr' ⟨⟨g4, g5, g6, rfl⟩, rfl, hall⟩
    rw [List.getElem?_map, List.getElem?_map] at hr'
    cases hx : ps[i]? with
    | none => rw [hx] at hr'; cases hr'
    | some p =>
      rw [hx] at hr'
      cases hr'
      exact (evg_tup c.calm (evgs_cons (evg_name 4 c.nd) (evgs_cons (evg_name 5 c.nd) (evgs_cons (evg_name 6 c.nd) evgs_nil))))
  · rintro i r' G' S' hr' ⟨⟨g4, g5, g6, rfl⟩, rfl, hall⟩
    rw [List.getElem?_map, List.getElem?_map] at hr'
    cases hx : ps[i]? with
    | none => rw [hx] at hr'; cases hr'
    | some p =>
      rw [hx] at hr'
      cases hr'
      have hm := List.mem_of_getElem? hx
      have hi : i < ps.length := (List.getElem?_eq_some_iff.mp hx).1
      have hfi : (ps.take i).all partFine = true := by
        rw [fine_split, hall, Bool.and_true, List.all_eq_true]
        exact fun x hx => List.all_eq_true.mp b5 x (List.mem_of_mem_take hx)
      have hpl := pinsOf_len hfi
      have htk : (ps.take i).length ≤ 8 := by rw [List.length_take]; omega
      obtain ⟨nm, kd, mn⟩ := p
      have hB := pB _ hm
      refine ss_cons (ws_if (k1 := !manyOk mn) (S1 := S') ?_ (fun h => ?_) (fun h => ?_))
      · rcases hB.2.2.2 with e | ⟨m, e, _⟩
        · have e : mn = .bool true := e
          rw [e]
          exact EvT.is (c := true) (evt_w (evw_orT (EvT.is (evt_val (ev_isD (T := "bool") (kk := true) (z_isinstance T) (z_bool T) (ev_name 6) rfl)) rfl))) rfl
        · have e : mn = .int m := e
          rw [e]
          refine EvT.is (evt_w (evw_orF (EvT.is (evt_val (ev_isD (T := "bool") (kk := false) (z_isinstance T) (z_bool T) (ev_name 6) rfl)) rfl) (evw_or (evt_lt (ev_name 6) ev_int) fun _ => evw_or1 (evt_gt (ev_name 6) ev_int)))) ?_
          show (decide (m < 1) || decide (8 < m)) = !decide (1 ≤ m ∧ m ≤ 8)
          rw [← decide_not, ← Bool.decide_or]
          exact decide_eq_decide.mpr (by omega)
      · have h : manyOk mn = false := by simpa using h
        refine ss_cons (ws_ret ev_bool (back_d ?_))
        have hno : (ps.all fun p => manyOk p.2.2) = false := by
          cases e : ps.all fun p => manyOk p.2.2 with
          | false => rfl
          | true =>
            have := List.all_eq_true.mp e _ hm
            rw [h] at this
            cases this
        rw [hno, Bool.false_and] at q
        exact q
      · have h : manyOk mn = true := by simpa using h
        refine ss_nil ?_
        cases mn with
        | int m =>
          have hn : 1 ≤ m ∧ m ≤ 8 := of_decide_eq_true h
          refine ss_cons (ws_set 3 c.nd (Ev.is (r' := .d (.list ((pinsOf (ps.take (i + 1))).map pinD))) (ev_cat (ds := (pinsOf (ps.take i)).map pinD) (es := (List.range m.toNat).map fun (j : Nat) => pinD (nm, (j : Int))) (ev_name 3) (ev_lc c (blkOk_by (by rfl)) (LcOk.is (lc_pure (own := [("_law_number", 7)]) c (evi_range1 (n := m) (z_range T) (ev_name 6) (by omega)) (tg_name 7 c.nd) (fun _ => true) (rngG nm) (fun _ => trivial) (fun r hr => ?_) ?_) ?_)) ?_) ?_) (ss_nil ⟨⟨_, _, _, rfl⟩, rfl, ?_⟩))
          · obtain ⟨j, hj, rfl⟩ := List.mem_map.mp hr
            exact ⟨_, rfl, fun L s H C cl fp => rfl, fun _ L s H C cl fp => ev_tup (eva_cons (ev_name 4) (eva_cons (ev_name 7) eva_nil))⟩
          · rw [rngI_len]; omega
          · rw [fil_true]
            unfold rngI
            rw [List.map_map]
            refine List.map_congr_left fun j _ => ?_
            show PyData.tuple [.str nm, .int (0 + (j : Int))] = .tuple [.str nm, .int (j : Int)]
            rw [Int.zero_add]
          · rw [List.length_map, List.length_map, List.length_range]; omega
          · rw [List.take_add_one, hx]
            show _ = Cu.It.d (.list ((pinsOf (ps.take i ++ [(nm, kd, .int m)])).map pinD))
            rw [pins_num (nm, kd, .int m) m rfl, List.map_append, List.map_map] <;> rfl
          · rw [List.take_add_one, hx, List.all_append, hall]
            show (true && (manyOk (.int m) && true)) = true
            rw [h] <;> rfl
        | _ => cases h
  rintro G' S' ⟨⟨g4, g5, g6, rfl⟩, rfl, hall⟩
  rw [List.length_map, List.length_map, List.take_length] at hall
  rw [List.length_map, List.length_map, List.take_length]
  rw [hall, Bool.true_and] at q
  have tl : ∀ i, (toldOf (ns.take i)).length ≤ 100000 := fun i => by
    have := flat_len (ns := ns.take i) fun n hn => nI n (List.mem_of_mem_take hn)
    have h2 : (ns.take i).length ≤ 100 := by rw [List.length_take]; omega
    unfold toldOf
    rw [List.length_map]
    omega
  refine ss_cons (ws_set 8 c.nd (ev_lst eva_nil) ?_)
  refine ss_cons (ws_for c (evi_list (ds := ns.map netD) (ev_name 1)) (fun i G' S'' => (∃ g4 g9, G' = [some (.d (.list (ps.map partD))), some (.d (.list (ns.map netD))), none, some (.d (.list ((pinsOf ps).map pinD))), g4, g5, g6, none, some (.d (.list ((toldOf (ns.take i)).map pinD))), g9]) ∧ S'' = S') (fun r G => match r with | .d (.tuple [d0, d1]) => (G.set 4 (some (.d d0))).set 9 (some (.d d1)) | _ => G)
    ⟨⟨_, _, rfl⟩, rfl⟩ (fun _ _ _ _ => trivial) ?_ ?_ ?_)
  · rintro i r' G' S'' hr' ⟨⟨g4, g9, rfl⟩, rfl⟩
    rw [List.getElem?_map, List.getElem?_map] at hr'
    cases hx : ns[i]? with
    | none => rw [hx] at hr'; cases hr'
    | some n =>
      rw [hx] at hr'
      cases hr'
      exact (evg_tup c.calm (evgs_cons (evg_name 4 c.nd) (evgs_cons (evg_name 9 c.nd) evgs_nil)))
  · rintro i r' G' S'' hr' ⟨⟨g4, g9, rfl⟩, rfl⟩
    rw [List.getElem?_map, List.getElem?_map] at hr'
    cases hx : ns[i]? with
    | none => rw [hx] at hr'; cases hr'
    | some n =>
      rw [hx] at hr'
      cases hr'
      have h1 := (nI n (List.mem_of_getElem? hx)).2.2.1
      refine ss_cons (ws_set 8 c.nd (Ev.is (r' := .d (.list ((toldOf (ns.take (i + 1))).map pinD))) (ev_cat (ds := (toldOf (ns.take i)).map pinD) (es := n.2.map pinD) (ev_name 8) (ev_name 9) (by rw [List.length_map, List.length_map]; have := tl i; omega)) ?_) (ss_nil ⟨⟨_, _, rfl⟩, rfl⟩))
      rw [told_eq, told_eq, List.take_add_one, hx]
      show _ = Cu.It.d (.list ((List.flatMap (·.2) (ns.take i ++ [n])).map pinD))
      rw [List.flatMap_append, List.flatMap_singleton, List.map_append]
  rintro G' S'' ⟨⟨g4', g9, rfl⟩, rfl⟩
  rw [List.length_map, List.length_map, List.take_length]
  have pIn : ∀ p ∈ ps, partIn p ∧ p.1.length ≤ 90000 := fun p hp => (pB p hp).in_
  refine ss_cons (ws_ret (ev_and (c := PyData.eqv (.list (sortD ((toldOf ns).map pinD))) (.list (sortD ((pinsOf ps).map pinD)))) (d := ns.all fun n => !n.2.isEmpty) (ev_eqD c (ev_sorted c (z_sorted T) (ev_name 8) rfl (pins_alike _) (pins_sortable _) (pins_deep _)) (ev_sorted c (z_sorted T) (ev_name 3) rfl (pins_alike _) (pins_sortable _) (pins_deep _)) (shaped_spins (told_ok nI)) (shaped_spins (pinsOf_ok pIn))) (fun _ => ev_and1 (Ev.is (ev_notInD c (x := .list []) (r := .d (.list (ns.map fun n => PyData.list (n.2.map pinD)))) (ds := ns.map fun n => PyData.list (n.2.map pinD)) (ev_lst eva_nil) (ev_lc c (blkOk_by (by rfl)) (LcOk.is (lc_pure (own := [("_law_one", 2)]) c (evi_list (ds := ns.map netD) (ev_name 1)) (tg_name 2 c.nd) (fun _ => true) sndG (fun _ => trivial) (fun r hr => ?_) ?_) ?_)) rfl (shaped_list (ds := []) fun _ h => nomatch h) (shaped_list fun d hd => ?_)) (by rw [empties, Bool.not_not])))) (back_d q))
  · obtain ⟨d, hd, rfl⟩ := List.mem_map.mp hr
    obtain ⟨n, hn, rfl⟩ := List.mem_map.mp hd
    exact ⟨_, rfl, fun L s H C cl fp => rfl, fun _ L s H C cl fp => ev_ixT (ds := [.str n.1, .list (n.2.map pinD)]) (ev_name 2) ev_int rfl⟩
  · rw [List.length_map, List.length_map]; omega
  · rw [fil_true, List.map_map, List.map_map] <;> rfl
  · obtain ⟨n, hn, rfl⟩ := List.mem_map.mp hd
    exact lay_list fun d hd => by
      obtain ⟨p, hp, rfl⟩ := List.mem_map.mp hd
      exact lay_pin ((nI n hn).2.2.2 p hp)
theorem ok__law_good (T : TT K mg) : OkF P w K mg base 3 "_law_good" ["_law_parts_here", "_law_nets_here"] [] F_good := okF_of (g__law_good T) (d__law_good T) (fun _ _ _ _ _ _ us hl => match us, hl with | [_, _], _ => rfl) fun fd Fd => fn__law_good T Fd
theorem fn__law_refused (T : TT K mg) {fd : FuncData} (Fd : FunD K "_law_refused" "_law_refused" (defArgs s__law_refused) (defBody s__law_refused) (defScope s__law_refused) [] [] (ga K "_law_refused") fd) : FnOk P w K mg base (L2.CX P w) 6 (ga K "_law_refused") fd ["_law_parts_here", "_law_nets_here"] (spF K 2 F_refusedD) := by
  refine fn_w Fd sc__law_refused fun cdv A outer s H E rs S QR QE c hc hl hF => ?_
  obtain ⟨ps, ns, rfl, ⟨⟨l9, pB⟩, l100, nB⟩, hno, q⟩ := hF
  refine ss_cons (ws_try_as 2 c rfl rfl ⟨rfl, by decide, .inl (g_CopperError T)⟩ (fun C G' S' => C = ga K "NoDrawing" ∧ G' = startG ["_law_parts_here", "_law_nets_here", "e"] [.d (.list (ps.map partD)), .d (.list (ns.map netD))] ∧ S' = S) (fun W' pn xe c' => ?_) ?_)
  · refine ss_cons (ws_exprX (Qr := fun _ _ => False) (Qx := fun C S' => C = ga K "NoDrawing" ∧ S' = S) (evx_make c' (ok_Drawing___init__ T) (by decide) (eva_cons (ev_name 0) (eva_cons (ev_name 1) eva_nil)) rfl (fun QR QE k1 k2 => ⟨S, _, _, ps, ns, rfl, rfl, rfl, netsAt_d _ _, by omega, l100, fun p hp => (pB p hp).in_, fun n hn => (nB n hn).in_ (by omega), (fun z => nomatch (hno.symm.trans z)), (fun _ x L => k2 _ _ S (x :: L) rfl (Nat.le_refl _) (fun _ => hc) ⟨rfl, rfl⟩)⟩)) (fun _ _ h => h.elim) ?_)
    rintro _ _ ⟨rfl, rfl⟩
    exact ⟨rfl, rfl, rfl⟩
  · rintro _ _ _ ⟨rfl, rfl, rfl⟩
    refine ⟨exm_NoDrawing_CopperError T, fun ad oe pn hz hf => ?_⟩
    refine ss_cons (ws_ret (ev_and (c := true) (d := !false) (ev_isE (kk := true) (ec_NoDrawing T) hz hf (z_isinstance T) (ev_name 2) (ev_gref (g_NoDrawing T)) rfl (kit_NoDrawing_NoDrawing T)) fun _ => ev_and1 (ev_not (ev_isET (kk := false) (cvs := [.ref (ga K "NoBoard"), .ref (ga K "NoPin"), .ref (ga K "NoRules"), .ref (ga K "NoShape")]) (ec_NoDrawing T) hz hf (z_isinstance T) (ev_name 2) (eva_cons (ev_gref (g_NoBoard T)) (eva_cons (ev_gref (g_NoPin T)) (eva_cons (ev_gref (g_NoRules T)) (eva_cons (ev_gref (g_NoShape T)) eva_nil)))) rfl ?_))) (back_d q))
    exact kitAny_no (kit_NoDrawing_NoBoard T) (kitAny_no (kit_NoDrawing_NoPin T) (kitAny_no (kit_NoDrawing_NoRules T) (kitAny_no (kit_NoDrawing_NoShape T) rfl)))
theorem ok__law_refused (T : TT K mg) : OkF P w K mg base 6 "_law_refused" ["_law_parts_here", "_law_nets_here"] [] F_refusedD := okF_of (g__law_refused T) (d__law_refused T) (fun _ _ _ _ _ _ us hl => match us, hl with | [_, _], _ => rfl) fun fd Fd => fn__law_refused T Fd
theorem fn__law_no_pin (T : TT K mg) {fd : FuncData} (Fd : FunD K "_law_no_pin" "_law_no_pin" (defArgs s__law_no_pin) (defBody s__law_no_pin) (defScope s__law_no_pin) [] [] (ga K "_law_no_pin") fd) : FnOk P w K mg base (L2.CX P w) 3 (ga K "_law_no_pin") fd ["_law_drawing", "_law_pin"] (spF K 2 (F_noPin K)) := by
  refine fn_w Fd sc__law_no_pin fun cdv A outer s H E rs S QR QE c hc hl hF => ?_
  obtain ⟨d, h, fs, kvs, p, rfl, hd, hf, hh, hv, hnm, q⟩ := hF
  refine ss_cons (ws_try_only c rfl rfl ⟨rfl, by decide, .inl (g_NoPin T)⟩ (fun C G' S' => C = ga K "NoPin" ∧ S' = S) (fun W' pn xe c' => ?_) ?_)
  · refine ss_cons (ws_exprX (Qr := fun _ _ => False) (Qx := fun C S' => C = ga K "NoPin" ∧ S' = S) (evx_meth c' (ok_Drawing_net_of T) (by decide) (ev_name 0) hd (eva_cons (ev_name 1) eva_nil) rfl (fun QR QE k1 k2 => ⟨d, h, fs, kvs, p, rfl, hd, hf, hh, fun _ => k2 _ _ ⟨rfl, rfl⟩, fun r e => by rw [hv] at e; cases e⟩) hnm) (fun _ _ z => z.elim) (fun _ _ z => z))
  · rintro _ _ _ ⟨rfl, rfl⟩
    exact ⟨exm_NoPin_NoPin T, fun ad oe pn hz hf => ss_cons (ws_ret ev_bool (back_d q))⟩
theorem ok__law_no_pin (T : TT K mg) : OkF P w K mg base 3 "_law_no_pin" ["_law_drawing", "_law_pin"] [] (F_noPin K) := okF_of (g__law_no_pin T) (d__law_no_pin T) (fun _ _ _ _ _ _ us hl => match us, hl with | [_, _], _ => rfl) fun fd Fd => fn__law_no_pin T Fd
end
end Pf
namespace Pf
open PySem PySem.Spec PyProof.Rows L2 He Cu
/-! what is handed to the drawing: lists of the law's own -/
/-- the j-th net's list stands at b + 1 + 2j, its tuple behind it -/
def handR (b : Nat) (k : Nat) : List Cu.It := (List.range k).map fun j => .o (b + 2 + 2 * j)
def handL : Nat → List Net → Sto
  | _, [] => []
  | b, n :: ns => .lst ((n.2.map pinD).map .d) :: .tup [.d (.str n.1), .o b] :: handL (b + 2) ns
def handS (b : Nat) (ns : List Net) : Sto := .lst (handR b ns.length) :: handL (b + 1) ns
theorem handL_len : ∀ (b : Nat) (ns : List Net), (handL b ns).length = 2 * ns.length
  | _, [] => rfl
  | b, n :: ns => by
    show (handL (b + 2) ns).length + 1 + 1 = _
    rw [handL_len (b + 2) ns, List.length_cons]
    omega
theorem handL_at : ∀ {b : Nat} {ns : List Net} {j : Nat} {n : Net}, ns[j]? = some n → (handL b ns)[2 * j]? = some (.lst ((n.2.map pinD).map .d)) ∧ (handL b ns)[2 * j + 1]? = some (.tup [.d (.str n.1), .o (b + 2 * j)])
  | _, [], _, _, h => by simp at h
  | b, x :: ns, 0, n, h => by cases h; exact ⟨rfl, rfl⟩
  | b, x :: ns, j + 1, n, h => by
    obtain ⟨h1, h2⟩ := handL_at (b := b + 2) (ns := ns) (j := j) h
    rw [show 2 * (j + 1) = 2 * j + 1 + 1 by omega]
    refine ⟨h1, ?_⟩
    rw [show b + (2 * j + 1 + 1) = b + 2 + 2 * j by omega]
    exact h2
theorem handL_app : ∀ (b : Nat) (ns : List Net) (n : Net), handL b (ns ++ [n]) = handL b ns ++ [.lst ((n.2.map pinD).map .d), .tup [.d (.str n.1), .o (b + 2 * ns.length)]]
  | b, [], n => rfl
  | b, x :: ns, n => by
    show Own.lst _ :: Own.tup _ :: handL (b + 2) (ns ++ [n]) = _
    rw [handL_app (b + 2) ns n, List.length_cons, show b + 2 + 2 * ns.length = b + 2 * (ns.length + 1) by omega] <;> rfl
theorem handL_set : ∀ {b : Nat} {ns : List Net} {j : Nat} {n : Net} (q : List Pin), ns[j]? = some n → (handL b ns).set (2 * j) (.lst ((q.map pinD).map .d)) = handL b (ns.set j (n.1, q))
  | _, [], _, _, _, h => by simp at h
  | b, x :: ns, 0, n, q, h => by cases h; rfl
  | b, x :: ns, j + 1, n, q, h => by
    rw [show 2 * (j + 1) = 2 * j + 1 + 1 by omega]
    show Own.lst _ :: Own.tup _ :: (handL (b + 2) ns).set (2 * j) _ = _
    rw [handL_set (b := b + 2) (ns := ns) (j := j) q h] <;> rfl
theorem handR_succ (b k : Nat) : handR b (k + 1) = handR b k ++ [.o (b + 2 + 2 * k)] := by
  unfold handR
  rw [List.range_succ, List.map_append] <;> rfl
theorem handS_len (b : Nat) (ns : List Net) : (handS b ns).length = 2 * ns.length + 1 := by
  unfold handS
  rw [List.length_cons, handL_len]
theorem handR_at {b k j : Nat} (h : j < k) : (handR b k)[j]? = some (.o (b + 2 + 2 * j)) := by
  unfold handR
  rw [List.getElem?_map, List.getElem?_range h] <;> rfl
theorem hand_at {S : Sto} {b : Nat} {ns : List Net} (hb : b = S.length) (L : Sto) {j : Nat} {n : Net} (h : ns[j]? = some n) : (S ++ (handS b ns ++ L))[b + 1 + 2 * j]? = some (.lst ((n.2.map pinD).map .d)) ∧ (S ++ (handS b ns ++ L))[b + 2 + 2 * j]? = some (.tup [.d (.str n.1), .o (b + 1 + 2 * j)]) := by
  obtain ⟨h1, h2⟩ := handL_at (b := b + 1) h
  have hj := (List.getElem?_eq_some_iff.mp h).1
  subst hb
  have e : ∀ i, i < 2 * ns.length + 1 → (S ++ (handS S.length ns ++ L))[S.length + i]? = (handS S.length ns)[i]? := fun i hi => by
    rw [List.getElem?_append_right (by omega), Nat.add_sub_cancel_left, List.getElem?_append_left (by rw [handS_len]; exact hi)]
  constructor
  · rw [show S.length + 1 + 2 * j = S.length + (2 * j + 1) by omega, e _ (by omega)]
    exact h1
  · rw [show S.length + 2 + 2 * j = S.length + (2 * j + 1 + 1) by omega, e _ (by omega)]
    exact h2
theorem hand_0 {S : Sto} {b : Nat} {ns : List Net} (hb : b = S.length) (L : Sto) : (S ++ (handS b ns ++ L))[b]? = some (.lst (handR b ns.length)) := by
  subst hb
  rw [List.getElem?_append_right (Nat.le_refl _), Nat.sub_self] <;> rfl
theorem netsAt_h {S : Sto} {b : Nat} {ns : List Net} (hb : b = S.length) (L : Sto) : netsAt (S ++ (handS b ns ++ L)) (.o b) ns := by
  refine ⟨handR b ns.length, its_own (hand_0 hb L), paired_of (by unfold handR; rw [List.length_map, List.length_range]) fun j r n hr hn => ?_⟩
  have hj := (List.getElem?_eq_some_iff.mp hn).1
  rw [handR_at hj] at hr
  cases hr
  obtain ⟨h1, h2⟩ := hand_at hb L hn
  exact ⟨_, tup_own h2, ls_own h1⟩
/-! sorted, one net behind the other -/
theorem pins_allalike (ds : List Pin) : PySem.W.AllAlike (sortD (ds.map pinD)) := fun d hd e he => pins_alike ds d ((List.mergeSort_perm _ _).mem_iff.mp hd) e ((List.mergeSort_perm _ _).mem_iff.mp he)
theorem sort_step (A B : List Pin) : sortD (sortD (A.map pinD) ++ B.map pinD) = sortD ((A ++ B).map pinD) := by
  obtain ⟨a, pa, ea⟩ := sort_pins A
  rw [ea, ← List.map_append]
  exact sortD_perm ((pa.append_right B).map _) (pins_alike _)
theorem told_take {ns : List Net} {i : Nat} {n : Net} (h : ns[i]? = some n) : toldOf (ns.take (i + 1)) = toldOf (ns.take i) ++ n.2 := by
  rw [told_eq, told_eq, List.take_add_one, h]
  show List.flatMap (·.2) (ns.take i ++ [n]) = _
  rw [List.flatMap_append, List.flatMap_singleton]
theorem lay_net {n : Net} (h : netIn n) : PyData.canLay0 (netD n) = true ∧ (netD n).depth ≤ 50 := by
  have hp : ∀ d ∈ n.2.map pinD, PyData.canLay0 d = true ∧ d.depth ≤ 10 := fun d hd => by
    obtain ⟨p, hp, rfl⟩ := List.mem_map.mp hd
    unfold pinD
    refine ⟨by simp only [PyData.canLay0, PyData.canLayAll0, okS_ok (h.2.2.2 p hp), Bool.and_true], by simp only [PyData.depth, PyData.depthAll]; decide⟩
  have h1 : PyData.canLayAll0 (n.2.map pinD) = true ∧ PyData.depthAll (n.2.map pinD) ≤ 10 := by
    generalize n.2.map pinD = l at hp
    induction l with
    | nil => exact ⟨by simp only [PyData.canLayAll0], by simp only [PyData.depthAll]; exact Nat.zero_le _⟩
    | cons x xs ih =>
      obtain ⟨i1, i2⟩ := ih fun d hd => hp d (List.mem_cons_of_mem _ hd)
      obtain ⟨j1, j2⟩ := hp x List.mem_cons_self
      exact ⟨by simp only [PyData.canLayAll0, i1, j1]; rfl, by simp only [PyData.depthAll]; exact Nat.max_le.mpr ⟨j2, i2⟩⟩
  unfold netD
  refine ⟨by simp only [PyData.canLay0, PyData.canLayAll0, okS_ok h.1, h1.1, Bool.and_true], ?_⟩
  simp only [PyData.depth, PyData.depthAll]
  have := h1.2
  omega
theorem eqv_self {ds : List PyData} (h : ∀ d ∈ ds, PyData.canLay0 d = true ∧ d.depth ≤ 50) : PyData.eqv (.list ds) (.list ds) = true := PySem.SeqAt.eqv_refl _ (by
  have := (shaped_all h).1
  simp only [PyData.canLay0]
  exact this)
theorem lay_spins {l : List Pin} (h : ∀ p ∈ l, okS p.1) : ∀ d ∈ sortD (l.map pinD), PyData.canLay0 d = true ∧ d.depth ≤ 50 := fun d hd => by
  obtain ⟨p, hp, rfl⟩ := List.mem_map.mp ((List.mergeSort_perm _ _).mem_iff.mp hd)
  have := lay_pin (h p hp)
  exact ⟨this.1, by omega⟩
/-- all that makes a drawing -/
structure DrFacts (ps : List Part) (ns : List Net) : Prop where
  l8 : ps.length ≤ 8
  l24 : ns.length ≤ 24
  nd : (toldOf ns).Nodup
  fine : ps.all partFine = true
  perm : (toldOf ns).Perm (pinsOf ps)
  sort : sortD ((toldOf ns).map pinD) = sortD ((pinsOf ps).map pinD)
theorem drFacts {ps : List Part} {ns : List Net} (h : drawOk ps ns = true) : DrFacts ps ns := by
  unfold drawOk at h
  simp only [Bool.and_eq_true, decide_eq_true_iff] at h
  obtain ⟨h1, h2, h3, h4, h5, h6, h7, h8⟩ := h
  obtain ⟨p, e⟩ := sort_eq h8
  exact ⟨h1, h2, h5, h7, p, e⟩
theorem DrFacts.noW {ps : List Part} {ns : List Net} (h : DrFacts ps ns) (hw : ∀ p ∈ ps, p.1 ≠ Str.ofString "w") : ((Str.ofString "w", (0 : Int)) : Pin) ∉ toldOf ns := fun z => by
  obtain ⟨q, hq, e⟩ := pins_mem (h.perm.mem_iff.mp z)
  exact hw q hq e.symm
theorem DrFacts.no9 {ps : List Part} {ns : List Net} (h : DrFacts ps ns) : ((Str.ofString "a", (9 : Int)) : Pin) ∉ toldOf ns := fun z => by
  have z := h.perm.mem_iff.mp z
  unfold pinsOf at z
  obtain ⟨q, hq, hz⟩ := List.mem_flatMap.mp z
  obtain ⟨j, hj, e⟩ := List.mem_map.mp hz
  have e : (j : Int) = 9 := (Prod.mk.inj e).2
  have hj := List.mem_range.mp hj
  have hf := List.all_eq_true.mp h.fine q hq
  unfold partFine at hf
  rw [Bool.and_eq_true] at hf
  obtain ⟨_, hm⟩ := hf
  have h8 : manyN q.2.2 ≤ 8 := by
    revert hm
    cases q.2.2 with
    | int n =>
      intro hm
      have hm := of_decide_eq_true (show decide (1 ≤ n ∧ n ≤ 8) = true from hm)
      show n.toNat ≤ 8
      omega
    | _ => intro _; exact Nat.zero_le _
  omega
theorem hk_none {fl : List (Str × Pin)} {p : Pin} (h : p ∉ fl.map (·.2)) : valI (homK fl) (pinK p) = none := by
  have := homK_val fl p
  rw [decide_eq_false h] at this
  exact Option.isNone_iff_eq_none.mp (by rw [← Option.not_isSome, this] <;> rfl)
theorem flat_mem {ns : List Net} {n : Net} {p : Pin} (hn : n ∈ ns) (hp : p ∈ n.2) : (n.1, p) ∈ flatN ns := List.mem_flatMap.mpr ⟨n, hn, List.mem_map.mpr ⟨p, hp, rfl⟩⟩
def F_right : Fn := fun rs S QR _ => ∃ (ps : List Part) (ns : List Net), rs = [.d (.list (ps.map partD)), .d (.list (ns.map netD))] ∧ GoodIn ps ns ∧ drawOk ps ns = true ∧ QR (.d (.bool true)) S
end Pf
namespace Pf
open PySem PySem.Spec PyProof.Rows L2 He Cu
theorem sort_nil : sortD [] = [] := List.mergeSort_nil
abbrev NR : List Str := ["_law_parts_here", "_law_nets_here", "_law_handed", "_law_name", "_law_pins", "_law_fresh", "_law_some", "_law_pin", "_law_drawing", "_law_found"]
theorem hand_set {A : Sto} {b : Nat} {X : List Net} (hb : b = A.length) (L : Sto) {j : Nat} {n : Net} (h : X[j]? = some n) (q : List Pin) : (A ++ (handS b X ++ L)).set (b + 1 + 2 * j) (.lst ((q.map pinD).map .d)) = A ++ (handS b (X.set j (n.1, q)) ++ L) := by
  subst hb
  have hj := (List.getElem?_eq_some_iff.mp h).1
  rw [List.set_append_right _ _ (by omega), show A.length + 1 + 2 * j - A.length = 2 * j + 1 by omega, List.set_append_left _ _ (by rw [handS_len]; omega)]
  unfold handS
  rw [List.set_cons_succ, handL_set q h, List.length_set]
section
variable {P : Program} {w : World} {K : PySem.W.Frag} {mg : Str → Option Value} {base : Heap}
/-- behind the loop that changes what was handed in -/
theorem right_tail (T : TT K mg) {cdv : Value} {A : Around} {outer : List Env} {s : Shared} {H0 : Hp} {E : XK} {ps : List Part} {ns : List Net} {S Z : Sto} {d2 : Nat} {g2 g3 g4 g5 g6 : Option Cu.It} {P0 : Post}
    (c : Cxo (cxF P w K mg base NR "_law_right" (defScope s__law_right) (ga K "_law_right") cdv A outer s H0 E) (wF E) 6)
    (hin : GoodIn ps ns) (f : DrFacts ps ns) (hc : ClS S) (hd : ∀ L, (S ++ Z ++ L)[d2]? = some (.ins (ga K "Drawing") (drawF d2 ps ns))) (hh : ∀ L, (S ++ Z ++ L)[d2 + 1]? = some (.dT (homK (flatN ns)))) (hP : ∀ L, P0.rt (.d (.bool true)) (S ++ L)) :
    WSs (cxF P w K mg base NR "_law_right" (defScope s__law_right) (ga K "_law_right") cdv A outer s H0 E) (wF E) ((defBody s__law_right).drop 6)
      [some (.d (.list (ps.map partD))), some (.d (.list (ns.map netD))), g2, g3, g4, g5, g6, none, some (.o d2), none] (S ++ Z) P0 := by
  obtain ⟨⟨l9, pB⟩, l100, nB⟩ := hin
  have nI : ∀ n ∈ ns, netIn n := fun n hn => (nB n hn).in_ (by omega)
  have pIn : ∀ p ∈ ps, partIn p ∧ p.1.length ≤ 90000 := fun p hp => (pB p hp).in_
  have hd0 : (S ++ Z)[d2]? = some (.ins (ga K "Drawing") (drawF d2 ps ns)) := by have := hd []; rwa [List.append_nil] at this
  have shP := shaped_parts pB
  have lyN : ∀ d ∈ ns.map netD, PyData.canLay0 d = true ∧ d.depth ≤ 50 := fun d hd => by
    obtain ⟨n, hn, rfl⟩ := List.mem_map.mp hd
    exact lay_net (nI n hn)
  have lyP : ∀ d ∈ ps.map partD, PyData.canLay0 d = true ∧ d.depth ≤ 50 := fun d hd => by
    obtain ⟨n, hn, rfl⟩ := List.mem_map.mp hd
    exact lay_part (pB n hn)
  have same : ∀ {g4 g9 : Option Cu.It} {g3 g6 : Option Cu.It} {L : Sto} {p1 p2 p3 p4 : Pos}, True := trivial
  -- its fields
  refine ss_cons (ws_if (k1 := false) (EvT.is (evt_w (evw_or (evt_neD c (ev_fld (cls_Drawing T) (na_Drawing_parts T) (ev_name 8) hd0) (ev_name 0) shP shP) fun _ => evw_or1 (evt_neD c (ev_fld (cls_Drawing T) (na_Drawing_nets T) (ev_name 8) hd0) (ev_name 1) (shaped_list lyN) (shaped_list lyN)))) (by rw [eqv_self lyN, eqv_self lyP] <;> rfl)) (fun z => nomatch z) (fun _ => ss_nil ?_))
  -- the pins, sorted
  refine ss_cons (ws_set 4 c.nd (ev_lst eva_nil) ?_)
  have tl : ∀ i, (toldOf (ns.take i)).length ≤ 100000 := fun i => by
    have := flat_len (ns := ns.take i) fun n hn => nI n (List.mem_of_mem_take hn)
    have h2 : (ns.take i).length ≤ 100 := by rw [List.length_take]; omega
    unfold toldOf
    rw [List.length_map]
    omega
  refine ss_cons (ws_for c (evi_list (ds := ns.map netD) (ev_name 1)) (fun i G' S' => (∃ g3 g6, G' = [some (.d (.list (ps.map partD))), some (.d (.list (ns.map netD))), g2, g3, some (.d (.list (sortD ((toldOf (ns.take i)).map pinD)))), g5, g6, none, some (.o d2), none]) ∧ S' = S ++ Z) (fun r G => match r with | .d (.tuple [d0, d1]) => (G.set 3 (some (.d d0))).set 6 (some (.d d1)) | _ => G)
    ⟨⟨g3, g6, by rw [List.take_zero]; show _ = [some (.d (.list (ps.map partD))), some (.d (.list (ns.map netD))), g2, g3, some (.d (.list (sortD []))), g5, g6, none, some (.o d2), none]; rw [sort_nil] <;> rfl⟩, rfl⟩ (fun _ _ _ _ => trivial) ?_ ?_ ?_)
  · rintro i r' G' S' hr' ⟨⟨g3, g6, rfl⟩, rfl⟩
    rw [List.getElem?_map, List.getElem?_map] at hr'
    cases hx : ns[i]? with
    | none => rw [hx] at hr'; cases hr'
    | some n =>
      rw [hx] at hr'
      cases hr'
      exact (evg_tup c.calm (evgs_cons (evg_name 3 c.nd) (evgs_cons (evg_name 6 c.nd) evgs_nil)))
  · rintro i r' G' S' hr' ⟨⟨g3, g6, rfl⟩, rfl⟩
    rw [List.getElem?_map, List.getElem?_map] at hr'
    cases hx : ns[i]? with
    | none => rw [hx] at hr'; cases hr'
    | some n =>
      rw [hx] at hr'
      cases hr'
      have h1 := (nI n (List.mem_of_getElem? hx)).2.2.1
      have hperm : (sortD ((toldOf (ns.take i)).map pinD)).Perm ((toldOf (ns.take i)).map pinD) := List.mergeSort_perm _ _
      have hall : ∀ d ∈ sortD ((toldOf (ns.take i)).map pinD) ++ n.2.map pinD, ∃ p, d = pinD p := fun d hd => by
        rcases List.mem_append.mp hd with h | h
        · obtain ⟨p, _, rfl⟩ := List.mem_map.mp (hperm.mem_iff.mp h)
          exact ⟨p, rfl⟩
        · obtain ⟨p, _, rfl⟩ := List.mem_map.mp h
          exact ⟨p, rfl⟩
      refine ss_cons (ws_set 4 c.nd (Ev.is (r' := .d (.list (sortD ((toldOf (ns.take (i + 1))).map pinD)))) (ev_sorted c (z_sorted T) (ev_cat (ds := sortD ((toldOf (ns.take i)).map pinD)) (es := n.2.map pinD) (ev_name 4) (ev_name 6) (by rw [hperm.length_eq, List.length_map, List.length_map]; have := tl i; omega)) rfl (fun d hd e he => ?_) (.inl fun d hd => ?_) (fun d hd => ?_)) (by rw [sort_step, told_take hx])) (ss_nil ⟨⟨_, _, rfl⟩, rfl⟩))
      · obtain ⟨p, rfl⟩ := hall d hd
        obtain ⟨q, rfl⟩ := hall e he
        rfl
      · obtain ⟨p, rfl⟩ := hall d hd
        exact ⟨_, _, rfl⟩
      · obtain ⟨p, rfl⟩ := hall d hd
        show (pinD p).depth ≤ 60
        simp [pinD, PyData.depth, PyData.depthAll]
  rintro G' S' ⟨⟨g3', g6', rfl⟩, rfl⟩
  rw [List.length_map, List.length_map, List.take_length]
  have lySP := lay_spins (pinsOf_ok pIn)
  have lyST := lay_spins (told_ok nI)
  -- its pins, a new list
  refine ss_cons (ws_setX 9 c.nd (Qr := fun r S' => ∃ x, r = .o ((S ++ Z).length + 1) ∧ S' = S ++ Z ++ [x, .lst ((sortD ((pinsOf ps).map pinD)).map .d)]) (Qx := fun _ _ => False) (evx_meth0 c (ok_Drawing_pins T) (by decide) (ev_name 8) hd0 rfl (fun QR QE k1 _ => ⟨d2, _, _, ps, rfl, hd0, rfl, rfl, by omega, fun p hp => (pIn p hp).1, f.fine, .inr fun x => k1 _ _ ⟨x, rfl, rfl⟩⟩)) ?_ (fun _ _ z => z.elim))
  rintro _ _ ⟨x, rfl, rfl⟩
  have g9 : ∀ (u v : Own) L, (S ++ Z ++ u :: v :: L)[(S ++ Z).length + 1]? = some v := fun u v L => by rw [List.getElem?_append_right (by omega), Nat.add_sub_cancel_left] <;> rfl
  have s9 : ∀ (u v y : Own), (S ++ Z ++ [u, v]).set ((S ++ Z).length + 1) y = S ++ Z ++ [u, y] := fun u v y => by rw [List.set_append_right _ _ (by omega), Nat.add_sub_cancel_left] <;> rfl
  refine ss_cons (ws_if (k1 := false) (EvT.is (evt_w (evw_orF (EvT.is (evt_not (evt_val (ev_isi (kk := true) (z_isinstance T) (ev_name 9) (ev_type (T := "list") (z_list T)) rfl (.l (g9 _ _ _)) (kit_ty (by rfl))))) rfl) (evw_or1 (evt_neA c (ev_name 9) (ev_name 4) (ls_own (g9 _ _ _)) rfl (shaped_list lySP) (shaped_list lyST))))) (by rw [f.sort, eqv_self lySP] <;> rfl)) (fun z => nomatch z) (fun _ => ss_nil ?_))
  refine ss_cons (ws_expr (ev_append (xs := (sortD ((pinsOf ps).map pinD)).map .d) (ev_name 9) (g9 _ _ _) (ev_tup (eva_cons ev_str (eva_cons ev_int eva_nil))) (g9 _ _ _) ?_) ?_)
  · rw [List.length_map]
    have e : (sortD ((pinsOf ps).map pinD)).length = (pinsOf ps).length := by
      unfold sortD
      rw [List.length_mergeSort, List.length_map]
    have := pinsOf_len f.fine
    omega
  rw [s9]
  generalize Own.lst ((sortD ((pinsOf ps).map pinD)).map .d ++ [Cu.It.d (.tuple [.str "w", .int 0])]) = y
  have hdL : ∀ L, (S ++ Z ++ [x, y] ++ L)[d2]? = some (.ins (ga K "Drawing") (drawF d2 ps ns)) := fun L => by rw [List.append_assoc (S ++ Z)]; exact hd _
  have hhL : ∀ L, (S ++ Z ++ [x, y] ++ L)[d2 + 1]? = some (.dT (homK (flatN ns))) := fun L => by rw [List.append_assoc (S ++ Z)]; exact hh _
  refine ss_cons (ws_for c (evi_list (ds := ns.map netD) (ev_name 1)) (fun i G' S' => (∃ g3 g6, G' = [some (.d (.list (ps.map partD))), some (.d (.list (ns.map netD))), g2, g3, some (.d (.list (sortD ((toldOf ns).map pinD)))), g5, g6, none, some (.o d2), some (.o ((S ++ Z).length + 1))]) ∧ S' = S ++ Z ++ [x, y]) (fun r G => match r with | .d (.tuple [d0, d1]) => (G.set 3 (some (.d d0))).set 6 (some (.d d1)) | _ => G)
    ⟨⟨_, _, rfl⟩, rfl⟩ (fun _ _ _ _ => trivial) ?_ ?_ ?_)
  · rintro i r' G' S' hr' ⟨⟨g3, g6, rfl⟩, rfl⟩
    rw [List.getElem?_map, List.getElem?_map] at hr'
    cases hx : ns[i]? with
    | none => rw [hx] at hr'; cases hr'
    | some n =>
      rw [hx] at hr'
      cases hr'
      exact (evg_tup c.calm (evgs_cons (evg_name 3 c.nd) (evgs_cons (evg_name 6 c.nd) evgs_nil)))
  · rintro i r' G' S' hr' ⟨⟨g3, g6, rfl⟩, rfl⟩
    rw [List.getElem?_map, List.getElem?_map] at hr'
    cases hx : ns[i]? with
    | none => rw [hx] at hr'; cases hr'
    | some n =>
      rw [hx] at hr'
      cases hr'
      have hn := List.mem_of_getElem? hx
      refine ss_cons (ws_if (k1 := false) (EvT.is (evt_neD c (x := .list []) (y := .list []) (ev_lc c (blkOk_by (by rfl)) (LcOk.is (lc_pure (own := [("_law_pin", 7)]) c (evi_list (ds := n.2.map pinD) (ev_name 6)) (tg_name 7 c.nd) (fun _ => false) idG (fun _ => trivial) (fun r hr => ?_) ?_) (by simp))) (ev_lst eva_nil) (shaped_list (ds := []) fun _ h => nomatch h) (shaped_list (ds := []) fun _ h => nomatch h)) (by rw [eqv_nil] <;> rfl)) (fun z => nomatch z) (fun _ => ss_nil (ss_nil ⟨⟨_, _, rfl⟩, rfl⟩)))
      · obtain ⟨d, hd, rfl⟩ := List.mem_map.mp hr
        obtain ⟨p, hp, rfl⟩ := List.mem_map.mp hd
        have hv := homK_get f.nd (flat_mem hn hp)
        exact ⟨_, rfl, fun L s H C cl fp => EvT.is (evt_neT (x := n.1) (y := n.1) (ev_meth (c.blk _ s H C cl fp) (ok_Drawing_net_of T) (ev_name 8) (hdL L) (eva_cons (ev_name 7) eva_nil) (fun QR QE q => ⟨_, _, _, _, p, rfl, hdL L, rfl, hhL L, (fun z => by rw [hv] at z; cases z), fun r z => by rw [hv] at z; cases z; exact ⟨_, rfl, q⟩⟩)) (ev_name 3)) (by rw [decide_eq_true rfl] <;> rfl), fun z => nomatch z⟩
      · rw [List.length_map, List.length_map]
        have := (nI n hn).2.2.1
        omega
  rintro G' S' ⟨⟨g3', g6', rfl⟩, rfl⟩
  have hd1 := hd [x, y]
  refine ss_cons (ws_if (k1 := false) (EvT.is (evt_w (evw_or (evt_neD c (ev_fld (cls_Drawing T) (na_Drawing_parts T) (ev_name 8) hd1) (ev_name 0) shP shP) fun _ => evw_or1 (evt_neD c (ev_fld (cls_Drawing T) (na_Drawing_nets T) (ev_name 8) hd1) (ev_name 1) (shaped_list lyN) (shaped_list lyN)))) (by rw [eqv_self lyN, eqv_self lyP] <;> rfl)) (fun z => nomatch z) (fun _ => ss_nil ?_))
  have pw : ∀ p ∈ ps, p.1 ≠ Str.ofString "w" := fun p hp => (pB p hp).2.2.1
  refine ss_cons (ws_ret (r := .d (.bool true)) (S1 := S ++ Z ++ [x, y]) (Ev.is (ev_and (c := true) (d := true) (Ev.is (ev_eqA c (ev_meth0 c (ok_Drawing_pins T) (ev_name 8) hd1 (fun QR QE q => ⟨d2, _, _, ps, rfl, hd1, rfl, rfl, by omega, fun p hp => (pIn p hp).1, f.fine, .inl q⟩)) (ev_name 4) rfl rfl (shaped_list lySP) (shaped_list lyST)) (by rw [f.sort, eqv_self lySP])) fun _ => ev_and (c := true) (d := true) (ev_call c (ok__law_no_pin T) (eva_cons (ev_name 8) (eva_cons (ev_tup (eva_cons ev_str (eva_cons ev_int eva_nil))) eva_nil)) (fun QR QE q => ⟨d2, _, _, _, (Str.ofString "w", 0), rfl, hd1, rfl, hh [x, y], hk_none (f.noW pw), rfl, q⟩)) fun _ => ev_and1 (ev_call c (ok__law_no_pin T) (eva_cons (ev_name 8) (eva_cons (ev_tup (eva_cons ev_str (eva_cons ev_int eva_nil))) eva_nil)) (fun QR QE q => ⟨d2, _, _, _, (Str.ofString "a", 9), rfl, hd1, rfl, hh [x, y], hk_none f.no9, rfl, q⟩))) rfl) ?_)
  rw [List.append_assoc]
  exact hP _
theorem fn__law_right (T : TT K mg) {fd : FuncData} (Fd : FunD K "_law_right" "_law_right" (defArgs s__law_right) (defBody s__law_right) (defScope s__law_right) [] [] (ga K "_law_right") fd) : FnOk P w K mg base (L2.CX P w) 7 (ga K "_law_right") fd ["_law_parts_here", "_law_nets_here"] (spF K 2 F_right) := by
  refine fn_w Fd sc__law_right fun cdv A outer s H E rs S QR QE c hc hl hF => ?_
  obtain ⟨ps, ns, rfl, hin, hok, q⟩ := hF
  have f := drFacts hok
  obtain ⟨⟨l9, pB⟩, l100, nB⟩ := id hin
  have nI : ∀ n ∈ ns, netIn n := fun n hn => (nB n hn).in_ (by omega)
  have pIn : ∀ p ∈ ps, partIn p ∧ p.1.length ≤ 90000 := fun p hp => (pB p hp).in_
  have b0 : S.length + 1 = (S ++ [Own.lst ((ps.map partD).map .d)]).length := by rw [List.length_append] <;> rfl
  -- what is handed in
  have hlc : ∀ (e : Sto), e = S ++ [Own.lst ((ps.map partD).map .d)] → True := fun _ _ => trivial
  refine ss_cons (ws_set 2 c.nd (r := .o (S.length + 1 + (2 * ns.length + 1))) (S1 := S ++ [Own.lst ((ps.map partD).map .d)] ++ (handS (S.length + 1) ns ++ [Own.lst [.o S.length, .o (S.length + 1)]])) (Ev.is2 (ev_lstO (S1 := S ++ [Own.lst ((ps.map partD).map .d)] ++ handS (S.length + 1) ns) (eva_cons (ev_listO (z_list T) (ev_name 0) rfl) (eva_cons (Ev.is (r' := .o (S.length + 1)) (ev_lcO c (blkOk_by (by rfl)) (lc_own (own := [("_law_name", 3), ("_law_pins", 4)]) c (evi_list (ds := ns.map netD) (ev_name 1)) (tg_tup [3, 4] c.calm (fun s H C cl fp => pgs_names_cons (pg_blk 3 c.nd) (pgs_names_cons (pg_blk 4 c.nd) pgs_names_nil))) (fun i S' => i ≤ ns.length ∧ S' = S ++ [Own.lst ((ps.map partD).map .d)] ++ handS (S.length + 1) (ns.take i)) ⟨Nat.zero_le _, rfl⟩ (fun _ _ _ => trivial) (fun i r S' hr hJ => ?_) (S2 := S ++ [Own.lst ((ps.map partD).map .d)] ++ handS (S.length + 1) ns) (fun S' hJ => ?_))) (congrArg It.o b0.symm)) eva_nil))) (by rw [List.length_append, handS_len, ← b0]) (List.append_assoc _ _ _)) ?_)
  · obtain ⟨hi, rfl⟩ := hJ
    rw [List.getElem?_map, List.getElem?_map] at hr
    cases hx : ns[i]? with
    | none => rw [hx] at hr; cases hr
    | some n =>
      rw [hx] at hr
      cases hr
      have hi' := (List.getElem?_eq_some_iff.mp hx).1
      have htl : (ns.take i).length = i := by rw [List.length_take]; omega
      have hL : (S ++ [Own.lst ((ps.map partD).map .d)] ++ handS (S.length + 1) (ns.take i)).length = S.length + 1 + 1 + 2 * i := by
        rw [List.length_append, handS_len, htl, ← b0]; omega
      refine ⟨_, true, rfl, fun s H C cl fp => rfl, fun _ => ⟨.o (S.length + 1 + 2 + 2 * i), S ++ [Own.lst ((ps.map partD).map .d)] ++ handS (S.length + 1) (ns.take i) ++ [.lst ((n.2.map pinD).map .d), .tup [.d (.str n.1), .o (S.length + 1 + 1 + 2 * i)]], handR (S.length + 1) i, fun s H C cl fp => Ev.is2 (ev_tupO (eva_cons (ev_name 3) (eva_cons (ev_listO (ds := n.2.map pinD) (z_list T) (ev_name 4) rfl) eva_nil)) ⟨_, List.mem_cons_of_mem _ List.mem_cons_self⟩) (by rw [List.length_append, hL]; show It.o (S.length + 1 + 1 + 2 * i + 1) = _; congr 1; omega) (by rw [hL, List.append_assoc] <;> rfl), ?_, ?_, ?_⟩, fun z => nomatch z⟩
      · rw [← b0, List.append_assoc, List.getElem?_append_right (by rw [← b0]; exact Nat.le_refl _), ← b0, Nat.sub_self]
        unfold handS
        rw [htl] <;> rfl
      · unfold handR
        rw [List.length_map, List.length_range]
        omega
      · refine ⟨hi', ?_⟩
        rw [← b0, ← handR_succ, List.append_assoc, List.set_append_right _ _ (by rw [← b0]; exact Nat.le_refl _), ← b0, Nat.sub_self]
        refine congrArg (S ++ [Own.lst ((ps.map partD).map .d)] ++ ·) ?_
        rw [List.take_add_one, hx]
        show _ = Own.lst (handR (S.length + 1) (ns.take i ++ [n]).length) :: handL (S.length + 1 + 1) (ns.take i ++ [n])
        rw [handL_app, List.length_append, htl] <;> rfl
  · obtain ⟨_, rfl⟩ := hJ
    rw [List.length_map, List.length_map, List.take_length]
  have hdAt : ∀ (A : Sto) (X : List Net) L, A.length = S.length + 1 → X.length = ns.length → (A ++ (handS (S.length + 1) X ++ Own.lst [.o S.length, .o (S.length + 1)] :: L))[S.length + 1 + (2 * ns.length + 1)]? = some (.lst [.o S.length, .o (S.length + 1)]) := fun A X L hA hX => by
    rw [List.getElem?_append_right (by omega), hA, Nat.add_sub_cancel_left, List.getElem?_append_right (by rw [handS_len, hX]; exact Nat.le_refl _), handS_len, hX, Nat.sub_self] <;> rfl
  have atP : ∀ (u : Own) (L : Sto), (S ++ [u] ++ L)[S.length]? = some u := fun u L => by rw [List.append_assoc, List.getElem?_append_right (Nat.le_refl _), Nat.sub_self] <;> rfl
  have mk : ∀ {g3 g4 g5 g6 g7 g8 g9 : Option Cu.It} {L : Sto} {x1 x2 : Nat} {p1 p2 p3 p4 p5 p6 p7 : Pos} {aP : Pos}, True := trivial
  -- a drawing
  have initF : ∀ (L : Sto) (QR : Cu.It → Sto → Prop) (QE : Addr → Sto → Prop), QR (.d .none) (S ++ [Own.lst ((ps.map partD).map .d)] ++ (handS (S.length + 1) ns ++ L) ++ drawS K (S ++ [Own.lst ((ps.map partD).map .d)] ++ (handS (S.length + 1) ns ++ L)).length ps ns) → F_D_init K (.o (S ++ [Own.lst ((ps.map partD).map .d)] ++ (handS (S.length + 1) ns ++ L)).length :: ([.o S.length, .o (S.length + 1)] ++ [])) (S ++ [Own.lst ((ps.map partD).map .d)] ++ (handS (S.length + 1) ns ++ L) ++ [.ins (ga K "Drawing") []]) QR QE := fun L QR QE h => ⟨_, _, _, ps, ns, rfl, rfl, ls_own (atP _ _), netsAt_h b0 L, by omega, l100, pIn, nI, fun _ => h, fun z => nomatch (hok.symm.trans z)⟩
  refine ss_cons (ws_set 5 c.nd (r := .o (S ++ [Own.lst ((ps.map partD).map .d)] ++ (handS (S.length + 1) ns ++ [Own.lst [.o S.length, .o (S.length + 1)]])).length) (S1 := S ++ [Own.lst ((ps.map partD).map .d)] ++ (handS (S.length + 1) ns ++ (Own.lst [.o S.length, .o (S.length + 1)] :: drawS K (S ++ [Own.lst ((ps.map partD).map .d)] ++ (handS (S.length + 1) ns ++ [Own.lst [.o S.length, .o (S.length + 1)]])).length ps ns))) (Ev.is2 (ev_make c (ok_Drawing___init__ T) (eva_cons (ev_ixO (rs := [.o S.length, .o (S.length + 1)]) (ev_name 2) ev_int (hdAt _ ns [] b0.symm rfl) rfl) (eva_cons (ev_ixO (rs := [.o S.length, .o (S.length + 1)]) (ev_name 2) ev_int (hdAt _ ns [] b0.symm rfl) rfl) eva_nil)) (fun QR QE q => initF _ QR QE q)) rfl (by simp only [List.append_assoc, List.cons_append, List.nil_append])) ?_)
  generalize hD1 : (S ++ [Own.lst ((ps.map partD).map .d)] ++ (handS (S.length + 1) ns ++ [Own.lst [.o S.length, .o (S.length + 1)]])).length = d1
  have getIn : ∀ (L D : Sto) (k : Nat), (S ++ [Own.lst ((ps.map partD).map .d)] ++ (handS (S.length + 1) ns ++ (Own.lst [.o S.length, .o (S.length + 1)] :: (D ++ L))))[d1 + k]? = (D ++ L)[k]? := fun L D k => by
    rw [← hD1, show (S ++ [Own.lst ((ps.map partD).map .d)] ++ (handS (S.length + 1) ns ++ (Own.lst [.o S.length, .o (S.length + 1)] :: (D ++ L)))) = (S ++ [Own.lst ((ps.map partD).map .d)] ++ (handS (S.length + 1) ns ++ [Own.lst [.o S.length, .o (S.length + 1)]])) ++ (D ++ L) by rw [List.append_assoc _ _ (D ++ L), List.append_assoc (handS _ _)] <;> rfl, List.getElem?_append_right (Nat.le_add_right _ _), Nat.add_sub_cancel_left]
  have e1 : ∀ L : Sto, S ++ [Own.lst ((ps.map partD).map .d)] ++ (handS (S.length + 1) ns ++ (Own.lst [.o S.length, .o (S.length + 1)] :: drawS K d1 ps ns)) ++ L = S ++ [Own.lst ((ps.map partD).map .d)] ++ (handS (S.length + 1) ns ++ (Own.lst [.o S.length, .o (S.length + 1)] :: (drawS K d1 ps ns ++ L))) := fun L => by rw [List.append_assoc, List.append_assoc (handS _ _)] <;> rfl
  have hdL : ∀ L, (S ++ [Own.lst ((ps.map partD).map .d)] ++ (handS (S.length + 1) ns ++ (Own.lst [.o S.length, .o (S.length + 1)] :: drawS K d1 ps ns)) ++ L)[d1]? = some (.ins (ga K "Drawing") (drawF d1 ps ns)) := fun L => by
    rw [e1]
    exact getIn L _ 0
  have hhL : ∀ L, (S ++ [Own.lst ((ps.map partD).map .d)] ++ (handS (S.length + 1) ns ++ (Own.lst [.o S.length, .o (S.length + 1)] :: drawS K d1 ps ns)) ++ L)[d1 + 1]? = some (.dT (homK (flatN ns))) := fun L => by
    rw [e1]
    exact getIn L _ 1
  refine ss_cons (ws_for c (evi_list (ds := ns.map netD) (ev_name 1)) (fun i G' S' => (∃ g3 g6, G' = [some (.d (.list (ps.map partD))), some (.d (.list (ns.map netD))), some (.o (S.length + 1 + (2 * ns.length + 1))), g3, none, some (.o d1), g6, none, none, none]) ∧ S' = S ++ [Own.lst ((ps.map partD).map .d)] ++ (handS (S.length + 1) ns ++ (Own.lst [.o S.length, .o (S.length + 1)] :: drawS K d1 ps ns))) (fun r G => match r with | .d (.tuple [d0, d1]) => (G.set 3 (some (.d d0))).set 6 (some (.d d1)) | _ => G)
    ⟨⟨_, _, rfl⟩, rfl⟩ (fun _ _ _ _ => trivial) ?_ ?_ ?_)
  · rintro i r' G' S' hr' ⟨⟨g3, g6, rfl⟩, rfl⟩
    rw [List.getElem?_map, List.getElem?_map] at hr'
    cases hx : ns[i]? with
    | none => rw [hx] at hr'; cases hr'
    | some n =>
      rw [hx] at hr'
      cases hr'
      exact (evg_tup c.calm (evgs_cons (evg_name 3 c.nd) (evgs_cons (evg_name 6 c.nd) evgs_nil)))
  · rintro i r' G' S' hr' ⟨⟨g3, g6, rfl⟩, rfl⟩
    rw [List.getElem?_map, List.getElem?_map] at hr'
    cases hx : ns[i]? with
    | none => rw [hx] at hr'; cases hr'
    | some n =>
      rw [hx] at hr'
      cases hr'
      have hn := List.mem_of_getElem? hx
      refine ss_cons (ws_if (k1 := false) (EvT.is (evt_neD c (x := .list []) (y := .list []) (ev_lc c (blkOk_by (by rfl)) (LcOk.is (lc_pure (own := [("_law_pin", 7)]) c (evi_list (ds := n.2.map pinD) (ev_name 6)) (tg_name 7 c.nd) (fun _ => false) idG (fun _ => trivial) (fun r hr => ?_) ?_) (by simp))) (ev_lst eva_nil) (shaped_list (ds := []) fun _ h => nomatch h) (shaped_list (ds := []) fun _ h => nomatch h)) (by rw [eqv_nil] <;> rfl)) (fun z => nomatch z) (fun _ => ss_nil (ss_nil ⟨⟨_, _, rfl⟩, rfl⟩)))
      · obtain ⟨d, hd, rfl⟩ := List.mem_map.mp hr
        obtain ⟨p, hp, rfl⟩ := List.mem_map.mp hd
        have hv := homK_get f.nd (flat_mem hn hp)
        exact ⟨_, rfl, fun L s H C cl fp => EvT.is (evt_neT (x := n.1) (y := n.1) (ev_meth (c.blk _ s H C cl fp) (ok_Drawing_net_of T) (ev_name 5) (hdL L) (eva_cons (ev_name 7) eva_nil) (fun QR QE q => ⟨_, _, _, _, p, rfl, hdL L, rfl, hhL L, (fun z => by rw [hv] at z; cases z), fun r z => by rw [hv] at z; cases z; exact ⟨_, rfl, q⟩⟩)) (ev_name 3)) (by rw [decide_eq_true rfl] <;> rfl), fun z => nomatch z⟩
      · rw [List.length_map, List.length_map]
        have := (nI n hn).2.2.1
        omega
  rintro G' S' ⟨⟨g3, g6, rfl⟩, rfl⟩
  clear hdL hhL e1 getIn
  -- another drawing
  generalize hDr : drawS K d1 ps ns = D1
  refine ss_cons (ws_set 8 c.nd (r := .o (S ++ [Own.lst ((ps.map partD).map .d)] ++ (handS (S.length + 1) ns ++ (Own.lst [.o S.length, .o (S.length + 1)] :: D1))).length) (S1 := S ++ [Own.lst ((ps.map partD).map .d)] ++ (handS (S.length + 1) ns ++ (Own.lst [.o S.length, .o (S.length + 1)] :: (D1 ++ drawS K (S ++ [Own.lst ((ps.map partD).map .d)] ++ (handS (S.length + 1) ns ++ (Own.lst [.o S.length, .o (S.length + 1)] :: D1))).length ps ns)))) (Ev.is2 (ev_make c (ok_Drawing___init__ T) (eva_cons (ev_ixO (rs := [.o S.length, .o (S.length + 1)]) (ev_name 2) ev_int (hdAt _ ns _ b0.symm rfl) rfl) (eva_cons (ev_ixO (rs := [.o S.length, .o (S.length + 1)]) (ev_name 2) ev_int (hdAt _ ns _ b0.symm rfl) rfl) eva_nil)) (fun QR QE q => initF _ QR QE q)) rfl (by simp only [List.append_assoc, List.cons_append, List.nil_append])) ?_)
  have hlen2 : (S ++ [Own.lst ((ps.map partD).map .d)] ++ (handS (S.length + 1) ns ++ (Own.lst [.o S.length, .o (S.length + 1)] :: D1))).length = S.length + 1 + (2 * ns.length + 1) + 1 + D1.length := by
    simp only [List.length_append, List.length_cons, List.length_nil, handS_len]
    omega
  rw [hlen2]
  generalize hd2e : S.length + 1 + (2 * ns.length + 1) + 1 + D1.length = d2
  -- what was handed in is changed
  refine ss_cons (ws_expr (ev_append (i := S.length) (xs := (ps.map partD).map .d) (ev_ixO (rs := [.o S.length, .o (S.length + 1)]) (ev_name 2) ev_int (hdAt _ ns _ b0.symm rfl) rfl) (atP _ _) (ev_tup (eva_cons ev_str (eva_cons ev_str (eva_cons ev_int eva_nil)))) (atP _ _) (by rw [List.length_map, List.length_map]; omega)) ?_)
  rw [show ∀ (u v : Own) (L : Sto), (S ++ [u] ++ L).set S.length v = S ++ [v] ++ L from fun (u v : Own) (L : Sto) => by rw [List.append_assoc, List.set_append_right _ _ (Nat.le_refl _), Nat.sub_self, List.append_assoc] <;> rfl]
  generalize hPw : Own.lst ((ps.map partD).map .d ++ [Cu.It.d (.tuple [.str "w", .str "w", .int 1])]) = Pw
  have bw : S.length + 1 = (S ++ [Pw]).length := by rw [List.length_append] <;> rfl
  generalize hDr2 : drawS K d2 ps ns = D2
  refine ss_cons (ws_for c (evi_own (ev_ixO (rs := [.o S.length, .o (S.length + 1)]) (ev_name 2) ev_int (hdAt _ ns _ bw.symm rfl) rfl) (hand_0 bw _)) (fun i G' S' => ∃ X : List Net, X.map (·.1) = ns.map (·.1) ∧ (∀ n ∈ X, n.2.length ≤ 2000 + i) ∧ (∃ g3 g4, G' = [some (.d (.list (ps.map partD))), some (.d (.list (ns.map netD))), some (.o (S.length + 1 + (2 * ns.length + 1))), g3, g4, some (.o d1), g6, none, some (.o d2), none]) ∧ S' = S ++ [Pw] ++ (handS (S.length + 1) X ++ (Own.lst [.o S.length, .o (S.length + 1)] :: (D1 ++ D2)))) (fun r G => match r with | .o t => (match (handL (S.length + 1 + 1) ns)[t - (S.length + 1 + 1)]? with | some (.tup [a, b]) => (G.set 3 (some a)).set 4 (some b) | _ => G) | _ => G)
    ⟨ns, rfl, fun n hn => by have := (nI n hn).2.2.1; omega, ⟨_, _, rfl⟩, rfl⟩ (fun i G' S' hJ => ?_) ?_ ?_ ?_)
  · obtain ⟨X, hX, _, _, rfl⟩ := hJ
    have hX := congrArg List.length hX
    rw [List.length_map, List.length_map] at hX
    rw [hand_0 bw, hX]
  · rintro i r' G' S' hr' ⟨X, hX, hXl, ⟨g3, g4, rfl⟩, rfl⟩
    have hi : i < ns.length := by
      have := (List.getElem?_eq_some_iff.mp hr').1
      unfold handR at this
      rwa [List.length_map, List.length_range] at this
    rw [handR_at hi] at hr'
    cases hr'
    have hXn := hX
    have hX := congrArg List.length hX
    rw [List.length_map, List.length_map] at hX
    have hn : ns[i]? = some ns[i] := List.getElem?_eq_getElem hi
    generalize ns[i] = n at hn
    have hx : X[i]? = some (X[i]'(by omega)) := List.getElem?_eq_getElem _
    generalize X[i]'(by omega) = x at hx
    have hxn : x.1 = n.1 := by
      have h1 : (X.map (·.1))[i]? = some x.1 := by rw [List.getElem?_map, hx] <;> rfl
      rw [hXn, List.getElem?_map, hn] at h1
      exact (Option.some.inj h1).symm
    obtain ⟨hA1, hA2⟩ := hand_at bw (Own.lst [.o S.length, .o (S.length + 1)] :: (D1 ++ D2)) hx
    have ht : (match (handL (S.length + 1 + 1) ns)[S.length + 1 + 2 + 2 * i - (S.length + 1 + 1)]? with | some (.tup [a, b]) => (([some (.d (.list (ps.map partD))), some (.d (.list (ns.map netD))), some (.o (S.length + 1 + (2 * ns.length + 1))), g3, g4, some (.o d1), g6, none, some (.o d2), none] : Gam).set 3 (some a)).set 4 (some b) | _ => [some (.d (.list (ps.map partD))), some (.d (.list (ns.map netD))), some (.o (S.length + 1 + (2 * ns.length + 1))), g3, g4, some (.o d1), g6, none, some (.o d2), none]) = ([some (.d (.list (ps.map partD))), some (.d (.list (ns.map netD))), some (.o (S.length + 1 + (2 * ns.length + 1))), some (.d (.str n.1)), some (.o (S.length + 1 + 1 + 2 * i)), some (.o d1), g6, none, some (.o d2), none] : Gam) := by
      rw [show S.length + 1 + 2 + 2 * i - (S.length + 1 + 1) = 2 * i + 1 by omega, (handL_at hn).2] <;> rfl
    show EvG _ _ _ _ _ (match (handL (S.length + 1 + 1) ns)[S.length + 1 + 2 + 2 * i - (S.length + 1 + 1)]? with | some (.tup [a, b]) => _ | _ => _) _
    rw [ht]
    rw [hxn] at hA2
    exact evg_tupO c.calm hA2 (evgs_cons (evg_name 3 c.nd) (evgs_cons (evg_name 4 c.nd) evgs_nil))
  · rintro i r' G' S' hr' ⟨X, hX, hXl, ⟨g3, g4, rfl⟩, rfl⟩
    have hi : i < ns.length := by
      have := (List.getElem?_eq_some_iff.mp hr').1
      unfold handR at this
      rwa [List.length_map, List.length_range] at this
    rw [handR_at hi] at hr'
    cases hr'
    have hXn := hX
    have hX := congrArg List.length hX
    rw [List.length_map, List.length_map] at hX
    have hn : ns[i]? = some ns[i] := List.getElem?_eq_getElem hi
    generalize ns[i] = n at hn
    have hx : X[i]? = some (X[i]'(by omega)) := List.getElem?_eq_getElem _
    generalize X[i]'(by omega) = x at hx
    have hxn : x.1 = n.1 := by
      have h1 : (X.map (·.1))[i]? = some x.1 := by rw [List.getElem?_map, hx] <;> rfl
      rw [hXn, List.getElem?_map, hn] at h1
      exact (Option.some.inj h1).symm
    obtain ⟨hA1, hA2⟩ := hand_at bw (Own.lst [.o S.length, .o (S.length + 1)] :: (D1 ++ D2)) hx
    have ht : (match (handL (S.length + 1 + 1) ns)[S.length + 1 + 2 + 2 * i - (S.length + 1 + 1)]? with | some (.tup [a, b]) => (([some (.d (.list (ps.map partD))), some (.d (.list (ns.map netD))), some (.o (S.length + 1 + (2 * ns.length + 1))), g3, g4, some (.o d1), g6, none, some (.o d2), none] : Gam).set 3 (some a)).set 4 (some b) | _ => [some (.d (.list (ps.map partD))), some (.d (.list (ns.map netD))), some (.o (S.length + 1 + (2 * ns.length + 1))), g3, g4, some (.o d1), g6, none, some (.o d2), none]) = ([some (.d (.list (ps.map partD))), some (.d (.list (ns.map netD))), some (.o (S.length + 1 + (2 * ns.length + 1))), some (.d (.str n.1)), some (.o (S.length + 1 + 1 + 2 * i)), some (.o d1), g6, none, some (.o d2), none] : Gam) := by
      rw [show S.length + 1 + 2 + 2 * i - (S.length + 1 + 1) = 2 * i + 1 by omega, (handL_at hn).2] <;> rfl
    show WSs _ _ _ (match (handL (S.length + 1 + 1) ns)[S.length + 1 + 2 + 2 * i - (S.length + 1 + 1)]? with | some (.tup [a, b]) => _ | _ => _) _ _
    rw [ht]
    have hxl := hXl x (List.mem_of_getElem? hx)
    refine ss_cons (ws_expr (ev_append (xs := (x.2.map pinD).map .d) (ev_name 4) hA1 (ev_tup (eva_cons ev_str (eva_cons ev_int eva_nil))) hA1 (by rw [List.length_map, List.length_map]; omega)) (ss_nil ⟨X.set i (x.1, x.2 ++ [((Str.ofString "w", (0 : Int)) : Pin)]), ?_, fun y hy => ?_, ⟨_, _, rfl⟩, ?_⟩))
    · rw [← hXn, List.map_set]
      have h1 : (X.map (·.1))[i]'(by rw [List.length_map]; omega) = x.1 := by
        rw [List.getElem_map]
        have := (List.getElem?_eq_some_iff.mp hx).2
        rw [this]
      show (X.map (·.1)).set i x.1 = _
      rw [← h1]
      exact List.set_getElem_self _
    · rcases List.mem_or_eq_of_mem_set hy with h | h
      · have := hXl y h
        omega
      · rw [h]
        show (x.2 ++ [((Str.ofString "w", (0 : Int)) : Pin)]).length ≤ _
        rw [List.length_append]
        show _ + 1 ≤ _
        omega
    · rw [← hand_set bw _ hx]
      congr 2
      rw [List.map_append, List.map_append] <;> rfl
  · rintro G' S' ⟨X, hX, _, ⟨g3', g4', rfl⟩, rfl⟩
    have hX := congrArg List.length hX
    rw [List.length_map, List.length_map] at hX
    have hcat : S ++ [Pw] ++ (handS (S.length + 1) X ++ (Own.lst [.o S.length, .o (S.length + 1)] :: (D1 ++ D2))) = S ++ ([Pw] ++ (handS (S.length + 1) X ++ (Own.lst [.o S.length, .o (S.length + 1)] :: (D1 ++ D2)))) := List.append_assoc _ _ _
    have getD : ∀ L k, k < D2.length → (S ++ ([Pw] ++ (handS (S.length + 1) X ++ (Own.lst [.o S.length, .o (S.length + 1)] :: (D1 ++ D2)))) ++ L)[d2 + k]? = D2[k]? := fun L k hk => by
      have e : S ++ ([Pw] ++ (handS (S.length + 1) X ++ (Own.lst [.o S.length, .o (S.length + 1)] :: (D1 ++ D2)))) ++ L = (S ++ ([Pw] ++ (handS (S.length + 1) X ++ (Own.lst [.o S.length, .o (S.length + 1)] :: D1)))) ++ (D2 ++ L) := by simp
      have el : (S ++ ([Pw] ++ (handS (S.length + 1) X ++ (Own.lst [.o S.length, .o (S.length + 1)] :: D1)))).length = d2 := by
        rw [← hd2e]
        simp only [List.length_append, List.length_cons, List.length_nil, handS_len, hX]
        omega
      rw [e, List.getElem?_append_right (by omega), el, Nat.add_sub_cancel_left, List.getElem?_append_left hk]
    have d2l : D2.length = 2 := by rw [← hDr2] <;> rfl
    rw [hcat]
    refine right_tail T c hin f hc (fun L => ?_) (fun L => ?_) (fun L => ?_)
    · refine (show _ = D2[0]? from getD L 0 (by omega)).trans ?_
      rw [← hDr2] <;> rfl
    · rw [getD L 1 (by omega), ← hDr2] <;> rfl
    · exact back_drop L hc q
theorem ok__law_right (T : TT K mg) : OkF P w K mg base 7 "_law_right" ["_law_parts_here", "_law_nets_here"] [] F_right := okF_of (g__law_right T) (d__law_right T) (fun _ _ _ _ _ _ us hl => match us, hl with | [_, _], _ => rfl) fun fd Fd => fn__law_right T Fd
end
end Pf
namespace Pf
open PySem PySem.Spec PyProof.Rows L2 He Cu
def tfL : List (Defn × Str) := [(lamD, lamQ)]
theorem name_len {x : Str} (h : nameOk x = true) : x.length ≤ 8 := by
  unfold nameOk at h
  rw [TL.len_tl]
  cases e : TL.tl x with
  | nil => exact Nat.zero_le _
  | cons c r =>
    rw [e] at h
    rw [Bool.and_eq_true, Bool.and_eq_true] at h
    exact of_decide_eq_true h.1.1
theorem PtsOk.B {i : Nat} {ps : List Part} (h : PtsOk i ps) (hi : i ≤ 8) : PartsB ps := by
  refine ⟨by rw [h.len]; omega, fun p hp => ?_⟩
  obtain ⟨h1, h2, h3, h4, m, h5, h6, h7⟩ := h.ok p hp
  refine ⟨⟨h3.2.2.1, by omega⟩, ⟨h3.2.1, ?_⟩, fun z => ?_, .inr ⟨m, h5, by omega, by omega⟩⟩
  · unfold partFine at h2
    rw [Bool.and_eq_true] at h2
    have := name_len h2.1
    omega
  · obtain ⟨j, hj⟩ := List.getElem?_of_mem hp
    obtain ⟨t, ht⟩ := h.nm j p hj
    have hjl := (List.getElem?_eq_some_iff.mp hj).1
    rw [z] at ht
    have e : TL.tl (Str.ofString "w") = [119] := by decide
    rw [e] at ht
    injection ht with h8 _
    have := h.len
    omega
theorem told_sub {ns : List Net} {n : Net} (hn : n ∈ ns) : n.2.length ≤ (toldOf ns).length := by
  rw [told_eq, List.flatMap_def]
  exact (List.sublist_flatten_of_mem (List.mem_map.mpr ⟨n, hn, rfl⟩) : n.2.Sublist _).length_le
theorem told_in {ns : List Net} {n : Net} {p : Pin} (hn : n ∈ ns) (hp : p ∈ n.2) : p ∈ toldOf ns := by
  rw [told_eq]
  exact List.mem_flatMap.mpr ⟨n, hn, hp⟩
theorem NetsOk.B {i : Nat} {ps : List Part} {ns : List Net} (h : NetsOk ps ns) (hp : PtsOk i ps) (hi : i ≤ 8) : NetsB 0 ns := by
  refine ⟨by have := h.1.few; omega, fun n hn => ?_⟩
  obtain ⟨j, hj, e⟩ := h.1.nm n hn
  obtain ⟨f1, f2, f3⟩ := nN_ok hj
  refine ⟨⟨by rw [e]; exact f2, by rw [e]; omega⟩, ?_, fun p hpn => ?_⟩
  · have h1 := told_sub hn
    have h2 := h.2.length_eq
    have h3 := pinsOf_len hp.fine
    have := hp.len
    omega
  · obtain ⟨q, hq, e⟩ := pins_mem (h.2.mem_iff.mp (told_in hn hpn))
    rw [e]
    exact ((hp.B hi).2 q hq).1
theorem first_ok {i : Nat} {ps : List Part} {ns : List Net} (h : NetsOk ps ns) (hp : PtsOk i ps) (hi : i ≤ 8) : drawOk ps ns = true := by
  have h1 : ps.length ≤ 8 := by rw [hp.len]; exact hi
  have h2 : ns.length ≤ 24 := by have := h.1.few; omega
  have h3 : namesOk (ps.map (·.1)) = true := by
    rw [names_same]
    unfold unlikeOk
    rw [decide_eq_true hp.nd, Bool.true_and, List.all_eq_true]
    intro x hx
    obtain ⟨p, hpm, rfl⟩ := List.mem_map.mp hx
    exact (hp.ok p hpm).1
  have h4 : namesOk (ns.map (·.1)) = true := by
    rw [names_same]
    unfold unlikeOk
    rw [decide_eq_true h.1.nd, Bool.true_and, List.all_eq_true]
    intro x hx
    obtain ⟨n, hn, rfl⟩ := List.mem_map.mp hx
    obtain ⟨j, hj, e⟩ := h.1.nm n hn
    rw [e]
    exact (nN_ok hj).1
  have h5 : (toldOf ns).Nodup := h.2.nodup_iff.mpr (pinsOf_nd hp.nd)
  have h6 : (ns.all fun n => !n.2.isEmpty) = true := List.all_eq_true.mpr fun n hn => by
    rw [List.isEmpty_eq_false_iff.mpr (h.1.ne n hn)] <;> rfl
  have h8 : sortD ((toldOf ns).map pinD) = sortD ((pinsOf ps).map pinD) := sortD_perm (h.2.map _) (pins_alike _)
  unfold drawOk
  rw [decide_eq_true h1, decide_eq_true h2, h3, h4, decide_eq_true h5, h6, hp.fine, h8, eqv_self (lay_spins (pinsOf_ok fun p hpm => ((hp.B hi).2 p hpm).in_))] <;> rfl
/-! four parts of eight pins -/
def loneP : List Part := (List.range 4).map fun (k : Nat) => (signS (97 + k), Str.ofString "r", PyData.int 8)
def pins32 : List Pin := (List.range 32).map fun (k : Nat) => (signS (97 + k / 8), ((k % 8 : Nat) : Int))
def loneN (m : Nat) : List Net := ((List.range (m - 1)).map fun (k : Nat) => ((Str.ofString "n" ++ Str.ofString (toString (k : Int)), [(signS (97 + k / 8), ((k % 8 : Nat) : Int))]) : Net)) ++ [(Str.ofString "last", pins32.drop (m - 1))]
theorem lone_B : PartsB loneP := by
  refine ⟨by decide, fun p hp => ?_⟩
  obtain ⟨k, hk, rfl⟩ := List.mem_map.mp hp
  have hk := List.mem_range.mp hk
  have h : ∀ j : Fin 4, (((TL.tl (signS (97 + j.1))).all fun c => decide (c < 1114112)) = true ∧ (signS (97 + j.1)).length ≤ 100) ∧ signS (97 + j.1) ≠ Str.ofString "w" := by decide +kernel
  obtain ⟨⟨a, b⟩, c⟩ := h ⟨k, hk⟩
  exact ⟨nmB a b, nmB (x := Str.ofString "r") (by decide +kernel) (by decide), c, .inr ⟨8, rfl, by decide, by decide⟩⟩
theorem pins32_ok : ∀ p ∈ pins32, NmB p.1 := fun p hp => by
  obtain ⟨k, hk, rfl⟩ := List.mem_map.mp hp
  have hk := List.mem_range.mp hk
  have h : ∀ j : Fin 4, ((TL.tl (signS (97 + j.1))).all fun c => decide (c < 1114112)) = true ∧ (signS (97 + j.1)).length ≤ 100 := by decide +kernel
  obtain ⟨a, b⟩ := h ⟨k / 8, by omega⟩
  exact nmB a b
theorem loneN_B {m : Nat} (h1 : 23 ≤ m) (h2 : m ≤ 26) : GoodIn loneP (loneN m) := by
  refine ⟨lone_B, ?_, fun n hn => ?_⟩
  · unfold loneN
    rw [List.length_append, List.length_map, List.length_range]
    show _ + 1 ≤ _
    omega
  · unfold loneN at hn
    rcases List.mem_append.mp hn with hn | hn
    · obtain ⟨k, hk, rfl⟩ := List.mem_map.mp hn
      have hk := List.mem_range.mp hk
      have h : ∀ j : Fin 26, ((TL.tl (Str.ofString "n" ++ Str.ofString (toString ((j.1 : Nat) : Int)))).all fun c => decide (c < 1114112)) = true ∧ (Str.ofString "n" ++ Str.ofString (toString ((j.1 : Nat) : Int))).length ≤ 100 := by decide +kernel
      obtain ⟨a, b⟩ := h ⟨k, by omega⟩
      refine ⟨nmB a b, by show 1 ≤ _; omega, fun p hp => ?_⟩
      have hp : p ∈ [((signS (97 + k / 8), ((k % 8 : Nat) : Int)) : Pin)] := hp
      rw [List.mem_singleton.mp hp]
      exact pins32_ok _ (List.mem_map.mpr ⟨k, List.mem_range.mpr (by omega), rfl⟩)
    · rw [List.mem_singleton.mp hn]
      refine ⟨nmB (x := Str.ofString "last") (by decide +kernel) (by decide), ?_, fun p hp => pins32_ok p (List.mem_of_mem_drop hp)⟩
      show (pins32.drop (m - 1)).length ≤ _
      rw [List.length_drop]
      show 32 - _ ≤ _
      omega
theorem lone_true {m : Nat} (h : m = 23 ∨ m = 24) : drawOk loneP (loneN m) = true := by
  have ht : toldOf (loneN m) = pinsOf loneP := by
    rcases h with rfl | rfl
    · decide +kernel
    · decide +kernel
  have hn : namesOk ((loneN m).map (·.1)) = true := by
    rcases h with rfl | rfl
    · decide +kernel
    · decide +kernel
  have hne : ((loneN m).all fun n => !n.2.isEmpty) = true := by
    rcases h with rfl | rfl
    · decide +kernel
    · decide +kernel
  have hl : (loneN m).length ≤ 24 := by
    unfold loneN
    rw [List.length_append, List.length_map, List.length_range]
    show _ + 1 ≤ _
    omega
  have hnd : (toldOf (loneN m)).Nodup := by
    rw [ht]
    exact pinsOf_nd (by decide +kernel)
  unfold drawOk
  rw [decide_eq_true (show loneP.length ≤ 8 by decide), decide_eq_true hl, show namesOk (loneP.map (·.1)) = true by decide +kernel, hn, decide_eq_true hnd, hne, show loneP.all partFine = true by decide +kernel, ht, eqv_self (lay_spins (pinsOf_ok fun p hpm => (lone_B.2 p hpm).in_))] <;> rfl
theorem lone_false {m : Nat} (h : 24 < m) : drawOk loneP (loneN m) = false := by
  have hl : ¬ (loneN m).length ≤ 24 := by
    unfold loneN
    rw [List.length_append, List.length_map, List.length_range]
    show ¬ _ + 1 ≤ _
    omega
  unfold drawOk
  rw [decide_eq_false hl, Bool.false_and, Bool.and_false]
def someG : Cu.It → PyData
  | .d (.int i) => .tuple [.str (signS (97 + i.toNat)), .str "r", .int 8]
  | _ => .none
def pinsG : Cu.It → PyData
  | .d (.int i) => pinD (signS (97 + i.toNat / 8), ((i.toNat % 8 : Nat) : Int))
  | _ => .none
def loneG : Cu.It → PyData
  | .d (.int i) => netD (Str.ofString "n" ++ Str.ofString (toString ((i.toNat : Nat) : Int)), [(signS (97 + i.toNat / 8), ((i.toNat % 8 : Nat) : Int))])
  | _ => .none
theorem rng_map (f : Cu.It → PyData) (n : Nat) : ((rngI 0 n).filter fun _ => true).map f = (List.range n).map fun (k : Nat) => f (.d (.int (k : Int))) := by
  rw [fil_true]
  unfold rngI
  rw [List.map_map]
  refine List.map_congr_left fun j _ => ?_
  show f (.d (.int (0 + (j : Int)))) = _
  rw [Int.zero_add]
section
variable {P : Program} {w : World} {K : PySem.W.Frag} {mg : Str → Option Value} {base : Heap}
theorem fn_law (T : TT K mg) (B : LamX.TabB base mg (cT K lamD).1 (cT K lamD).2) {fd : FuncData} (Fd : FunD K "law" "law" (defArgs s_law) (defBody s_law) (defScope s_law) [] [] (ga K "law") fd) : FnOk P w K mg base (L2.CX P w) 8 (ga K "law") fd ["_law_script"] (spF K 1 (lawFT K tfL)) := by
  refine fn_w Fd sc_law fun cdv A outer s H E rs S QR QE c hc hl hF => ?_
  obtain ⟨nums, rfl, hS, hns, q⟩ := hF
  have ht : S[0]? = some (.tbl (cT K lamD).2 lamQ) := by rw [hS] <;> rfl
  have h0 : 0 < S.length := (List.getElem?_eq_some_iff.mp ht).1
  clear hS
  have at0 : ∀ (u : Own) L, (S ++ u :: L)[S.length]? = some u := fun u L => by rw [List.getElem?_append_right (Nat.le_refl _), Nat.sub_self] <;> rfl
  have st0 : ∀ (u v : Own) L, (S ++ u :: L).set S.length v = S ++ v :: L := fun u v L => by rw [List.set_append_right _ _ (Nat.le_refl _), Nat.sub_self] <;> rfl
  have at1 : ∀ (u v : Own) L, (S ++ u :: v :: L)[S.length + 1]? = some v := fun u v L => by rw [List.getElem?_append_right (by omega), Nat.add_sub_cancel_left] <;> rfl
  have st1 : ∀ (u v y : Own) L, (S ++ u :: v :: L).set (S.length + 1) y = S ++ u :: y :: L := fun u v y L => by rw [List.set_append_right _ _ (by omega), Nat.add_sub_cancel_left] <;> rfl
  have at2 : ∀ (u v x : Own) L, (S ++ u :: v :: x :: L)[S.length + 2]? = some x := fun u v x L => by rw [List.getElem?_append_right (by omega), Nat.add_sub_cancel_left] <;> rfl
  have st2 : ∀ (u v x y : Own) L, (S ++ u :: v :: x :: L).set (S.length + 2) y = S ++ u :: v :: y :: L := fun u v x y L => by rw [List.set_append_right _ _ (by omega), Nat.add_sub_cancel_left] <;> rfl
  refine ss_cons (ws_setX 1 c.nd (Qr := fun r S' => ∃ v, r = .o S.length ∧ S' = S ++ [wellO v]) (Qx := fun _ _ => False) (evx_call c (ok__law_well T) (by decide) (eva_cons (ev_name 0) (eva_cons ev_int eva_nil)) rfl (fun QR QE k1 _ => ⟨nums, 1, rfl, by decide, fun v => k1 _ _ ⟨v, rfl, rfl⟩⟩)) ?_ (fun _ _ z => z.elim))
  rintro _ _ ⟨v1, rfl, rfl⟩
  refine ss_cons (ws_setX 2 c.nd (Qr := fun r S' => ∃ ps v i, PtsOk i ps ∧ i ≤ 8 ∧ r = .d (.list (ps.map partD)) ∧ S' = S ++ [wellO v]) (Qx := fun _ _ => False) (evx_call c (ok__law_parts T) (by decide) (eva_cons (ev_name 1) eva_nil) rfl (fun QR QE k1 _ => ⟨_, v1, rfl, at0 _ _, fun ps v i h1 h2 => k1 _ _ ⟨ps, v, i, h1, h2, rfl, st0 _ _ _⟩⟩)) ?_ (fun _ _ z => z.elim))
  rintro _ _ ⟨ps, v2, i, hP, hi, rfl, rfl⟩
  refine ss_cons (ws_setX 3 c.nd (Qr := fun r S' => ∃ ns v, NetsOk ps ns ∧ r = .d (.list (ns.map netD)) ∧ S' = S ++ [wellO v2, wellO v]) (Qx := fun _ _ => False) (evx_callX c (ok__law_nets T B) (by decide) (Qa := fun rs S' => ∃ v, rs = [.o (S.length + 1), .d (.list (ps.map partD))] ∧ S' = S ++ [wellO v2, wellO v]) (evax_cons (Q1 := fun r S' => ∃ v, r = .o (S.length + 1) ∧ S' = S ++ [wellO v2, wellO v]) (evx_call c (ok__law_well T) (by decide) (eva_cons (ev_name 0) (eva_cons ev_int eva_nil)) rfl (fun QR QE k1 _ => ⟨nums, 2, rfl, by decide, fun v => k1 _ _ ⟨v, by rw [List.length_append] <;> rfl, by rw [List.append_assoc] <;> rfl⟩⟩)) (fun r S1 ⟨v, e1, e2⟩ => evax_con (ev_name 2) (evax_nil ⟨v, by rw [e1], e2⟩))) (fun rs S1 hq => by
    obtain ⟨v, rfl, rfl⟩ := hq
    exact ⟨rfl, fun QR QE k1 _ => ⟨_, v, ps, i, rfl, at1 _ _ _, by rw [List.getElem?_append_left h0]; exact ht, hP, hi, fun ns v' hn => k1 _ _ ⟨ns, v', hn, rfl, st1 _ _ _ _⟩⟩⟩)) ?_ (fun _ _ z => z.elim))
  rintro _ _ ⟨ns, v3, hN, rfl, rfl⟩
  have pB := hP.B hi
  have nB := hN.B hP hi
  have gI : GoodIn ps ns := ⟨pB, by have := nB.1; omega, fun n hn => (nB.2 n hn).mono (by omega)⟩
  refine ss_cons (ws_if (k1 := false) (EvT.is (evt_not (evt_val (ev_call c (ok__law_right T) (eva_cons (ev_name 2) (eva_cons (ev_name 3) eva_nil)) (fun QR QE q => ⟨ps, ns, rfl, gI, first_ok hN hP hi, q⟩)))) rfl) (fun z => nomatch z) (fun _ => ss_nil ?_))
  have m1 := draw_lo (w := v2) (m := 4) (by decide)
  have m2 := draw_hi (w := v2) (m := 4) (by decide)
  obtain ⟨mm, hmm⟩ : ∃ mm : Nat, 23 + drawV v2 4 = ((mm : Nat) : Int) ∧ 23 ≤ mm ∧ mm ≤ 26 := ⟨(23 + drawV v2 4).toNat, by omega, by omega, by omega⟩
  refine ss_cons (ws_set 4 c.nd (r := .d (.int (mm : Nat))) (S1 := S ++ [wellO (drawW v2 4), wellO v3]) (Ev.is2 (ev_add ev_int (ev_call c (ok__law_draw T) (eva_cons (ev_name 1) (eva_cons ev_int eva_nil)) (fun QR QE q => ⟨_, v2, 4, rfl, at0 _ _, by decide, by decide, q⟩))) (by rw [hmm.1]) (st0 _ _ _)) ?_)
  generalize drawW v2 4 = v4
  obtain ⟨-, hm3, hm4⟩ := hmm
  clear m1 m2
  refine ss_cons (ws_setLc 5 (out := loneP.map partD) c (blkOk_by (by rfl)) (LcOk.is (lc_pure (own := [("_law_k", 6)]) c (evi_range1 (n := 4) (z_range T) ev_int (by decide)) (tg_name 6 c.nd) (fun _ => true) someG (fun _ => trivial) (fun r hr => ?_) (by rw [rngI_len]; decide)) ?_) ?_)
  · obtain ⟨j, hj, rfl⟩ := List.mem_map.mp hr
    have hj := List.mem_range.mp hj
    have hc4 : atI (Str.ofString "abcd").cps.toList (0 + (j : Int)) = some (97 + j) := by
      have h : ∀ j : Fin 4, (Str.ofString "abcd").cps.toList[j.1]? = some (97 + j.1) := by decide +kernel
      exact atI_nat (k := j) (by omega) (h ⟨j, hj⟩)
    refine ⟨_, rfl, fun L s H C cl fp => rfl, fun _ L s H C cl fp => Ev.is (ev_tup (ds := [.str (signS (97 + j)), .str "r", .int 8]) (eva_cons (ev_ixStr ev_str (ev_name 6) (by decide) hc4) (eva_cons ev_str (eva_cons ev_int eva_nil)))) ?_⟩
    show _ = Cu.It.d (.tuple [.str (signS (97 + (0 + (j : Int)).toNat)), .str "r", .int 8])
    rw [Int.zero_add, Int.toNat_natCast]
  · rw [show (4 : Int).toNat = 4 from rfl, rng_map]
    unfold loneP
    rw [List.map_map]
    refine List.map_congr_left fun j _ => ?_
    show PyData.tuple [.str (signS (97 + (j : Int).toNat)), .str "r", .int 8] = _
    rw [Int.toNat_natCast] <;> rfl
  refine ss_cons (ws_set 7 c.nd (ev_lc (out := pins32.map pinD) c (blkOk_by (by rfl)) (LcOk.is (lc_pure (own := [("_law_k", 6)]) c (evi_range1 (n := 32) (z_range T) ev_int (by decide)) (tg_name 6 c.nd) (fun _ => true) pinsG (fun _ => trivial) (fun r hr => ?_) (by rw [rngI_len]; decide)) ?_)) ?_)
  · obtain ⟨j, hj, rfl⟩ := List.mem_map.mp hr
    have hj := List.mem_range.mp hj
    have hj : j < 32 := hj
    have hc4 : atI (Str.ofString "abcd").cps.toList ((0 + (j : Int)) / 8) = some (97 + j / 8) := by
      have h : ∀ j : Fin 4, (Str.ofString "abcd").cps.toList[j.1]? = some (97 + j.1) := by decide +kernel
      exact atI_nat (k := j / 8) (by omega) (h ⟨j / 8, by omega⟩)
    refine ⟨_, rfl, fun L s H C cl fp => rfl, fun _ L s H C cl fp => Ev.is (ev_tup (ds := [.str (signS (97 + j / 8)), .int ((0 + (j : Int)) % 8)]) (eva_cons (ev_ixStr ev_str (ev_fdiv (ev_name 6) ev_int ⟨by decide, by decide⟩) (by decide) hc4) (eva_cons (ev_mod (ev_name 6) ev_int (by decide)) eva_nil))) ?_⟩
    show _ = Cu.It.d (.tuple [.str (signS (97 + (0 + (j : Int)).toNat / 8)), .int (((0 + (j : Int)).toNat % 8 : Nat) : Int)])
    rw [Int.zero_add, Int.toNat_natCast] <;> rfl
  · rw [show (32 : Int).toNat = 32 from rfl, rng_map]
    unfold pins32
    rw [List.map_map]
    refine List.map_congr_left fun j _ => ?_
    show pinD (signS (97 + (j : Int).toNat / 8), (((j : Int).toNat % 8 : Nat) : Int)) = _
    rw [Int.toNat_natCast] <;> rfl
  have p32l : (pins32.map pinD).length = 32 := by rw [List.length_map] <;> rfl
  refine ss_cons (ws_set 8 c.nd (Ev.is (r' := .d (.list ((loneN mm).map netD))) (ev_cat (ds := (List.range (mm - 1)).map fun (k : Nat) => loneG (.d (.int (k : Int)))) (es := [netD (Str.ofString "last", pins32.drop (mm - 1))]) (ev_lc c (blkOk_by (by rfl)) (LcOk.is (lc_pure (own := [("_law_k", 6)]) c (evi_range1 (n := ((mm : Nat) : Int) - 1) (z_range T) (ev_sub (ev_name 4) ev_int) (by omega)) (tg_name 6 c.nd) (fun _ => true) loneG (fun _ => trivial) (fun r hr => ?_) (by rw [rngI_len]; omega)) ?_)) (ev_lst (eva_cons (ev_tup (ds := [.str "last", .list ((pins32.drop (mm - 1)).map pinD)]) (eva_cons ev_str (eva_cons (Ev.is (r' := .d (.list ((pins32.drop (mm - 1)).map pinD))) (ev_slL (ds := pins32.map pinD) (il := some (((mm : Nat) : Int) - 1)) (ih := none) (ev_name 7) (ev_sub (ev_name 4) ev_int) trivial) ?_) eva_nil))) eva_nil)) ?_) ?_) ?_)
  · obtain ⟨j, hj, rfl⟩ := List.mem_map.mp hr
    have hj := List.mem_range.mp hj
    have hj : j < 26 := by omega
    have hlen : (Str.ofString (toString (j : Int))).length ≤ 100 := by
      have h2 : ∀ j : Fin 26, (Str.ofString (toString ((j.1 : Nat) : Int))).length ≤ 100 := by decide +kernel
      exact h2 ⟨j, hj⟩
    have hlog : ((j : Int)).natAbs.log2 < 1920 := by
      have : ((j : Int)).natAbs.log2 ≤ ((j : Int)).natAbs := Nat.log2_le_self _
      omega
    have hpj : atI (pins32.map pinD) ((j : Nat) : Int) = some (pinD (signS (97 + j / 8), ((j % 8 : Nat) : Int))) := by
      refine atI_nat (k := j) rfl ?_
      unfold pins32
      rw [List.getElem?_map, List.getElem?_map, List.getElem?_range (by omega)] <;> rfl
    rw [Int.zero_add]
    refine ⟨_, rfl, fun L s H C cl fp => rfl, fun _ L s H C cl fp => Ev.is (ev_tup (ds := [.str (Str.ofString "n" ++ Str.ofString (toString (j : Int))), .list [pinD (signS (97 + j / 8), ((j % 8 : Nat) : Int))]]) (eva_cons (ev_addS ev_str (ev_strI (z_str T) (ev_name 6) hlog) (by show 1 + _ ≤ _; omega)) (eva_cons (ev_lst (eva_cons (ev_ixL (ds := pins32.map pinD) (ev_name 7) (ev_name 6) hpj) eva_nil)) eva_nil))) rfl⟩
  · rw [show (((mm : Nat) : Int) - 1).toNat = mm - 1 by omega, rng_map]
  · rw [show ((mm : Nat) : Int) - 1 = ((mm - 1 : Nat) : Int) by omega, cut_drop _ _ (by rw [p32l]; omega), List.map_drop]
  · rw [List.length_map, List.length_range]
    show _ + 1 ≤ _
    omega
  · unfold loneN
    rw [List.map_append, List.map_map] <;> rfl
  have gL := loneN_B hm3 hm4
  refine ss_cons (ws_if (k1 := false) (S1 := S ++ [wellO v4, wellO v3]) ?_ (fun z => nomatch z) (fun _ => ss_nil ?_))
  · by_cases h24 : mm ≤ 24
    · have e1 : decide (((mm : Nat) : Int) ≤ 24) = true := decide_eq_true (by omega)
      have e2 : decide ((24 : Int) < ((mm : Nat) : Int)) = false := decide_eq_false (by omega)
      exact EvT.is (evt_w (evw_or (c := true && !true) (evt_w (evw_and (c := true) (d := !true) (EvT.is (evt_le (ev_name 4) ev_int) e1) fun _ => evw_and1 (evt_not (evt_val (ev_call c (ok__law_right T) (eva_cons (ev_name 5) (eva_cons (ev_name 8) eva_nil)) (fun QR QE q => ⟨loneP, loneN mm, rfl, gL, lone_true (by omega), q⟩)))))) fun _ => evw_or1 (evt_w (evw_and (c := false) (d := false) (EvT.is (evt_gt (ev_name 4) ev_int) e2) fun z => nomatch z)))) rfl
    · have e1 : decide (((mm : Nat) : Int) ≤ 24) = false := decide_eq_false (by omega)
      have e2 : decide ((24 : Int) < ((mm : Nat) : Int)) = true := decide_eq_true (by omega)
      exact EvT.is (evt_w (evw_or (c := false && false) (evt_w (evw_and (c := false) (d := false) (EvT.is (evt_le (ev_name 4) ev_int) e1) fun z => nomatch z)) fun _ => evw_or1 (evt_w (evw_and (c := true) (d := !true) (EvT.is (evt_gt (ev_name 4) ev_int) e2) fun _ => evw_and1 (evt_not (evt_val (ev_call c (ok__law_refused T) (eva_cons (ev_name 5) (eva_cons (ev_name 8) eva_nil)) (fun QR QE q => ⟨loneP, loneN mm, rfl, gL, lone_false (by omega), q⟩)))))))) rfl
  -- one or two changes
  refine ss_cons (ws_setX 1 c.nd (Qr := fun r S' => ∃ v, r = .o (S.length + 2) ∧ S' = S ++ [wellO v4, wellO v3, wellO v]) (Qx := fun _ _ => False) (evx_call c (ok__law_well T) (by decide) (eva_cons (ev_name 0) (eva_cons ev_int eva_nil)) rfl (fun QR QE k1 _ => ⟨nums, 3, rfl, by decide, fun v => k1 _ _ ⟨v, by rw [List.length_append] <;> rfl, by rw [List.append_assoc] <;> rfl⟩⟩)) ?_ (fun _ _ z => z.elim))
  rintro _ _ ⟨v5, rfl, rfl⟩
  have dz : ∀ {v : Well} {m : Int} {QR : Cu.It → Sto → Prop} {QE : Addr → Sto → Prop}, 0 < m → m < 1073741824 → QR (.d (.int (drawV v m))) (S ++ [wellO v4, wellO v3, wellO (drawW v m)]) → F_draw [.o (S.length + 2), .d (.int m)] (S ++ [wellO v4, wellO v3, wellO v]) QR QE := fun {v m QR QE} h1 h2 q => ⟨_, v, m, rfl, at2 _ _ _ _, h1, h2, by rw [st2]; exact q⟩
  have k1' := draw_lo (w := v5) (m := 2) (by decide)
  have k2' := draw_hi (w := v5) (m := 2) (by decide)
  refine ss_cons (ws_for c (evi_range1 (z_range T) (ev_add ev_int (ev_call c (ok__law_draw T) (eva_cons (ev_name 1) (eva_cons ev_int eva_nil)) (fun QR QE q => dz (by decide) (by decide) q))) (by omega)) (fun i G' S' => ∃ ps ns v, PartsB ps ∧ NetsB (2 * i) ns ∧ (∃ g6, G' = [some (.s nums), some (.o (S.length + 2)), some (.d (.list (ps.map partD))), some (.d (.list (ns.map netD))), some (.d (.int (mm : Nat))), some (.d (.list (loneP.map partD))), g6, some (.d (.list (pins32.map pinD))), some (.d (.list ((loneN mm).map netD)))]) ∧ S' = S ++ [wellO v4, wellO v3, wellO v]) (fun r G => G.set 6 (some r))
    ⟨ps, ns, _, pB, nB, ⟨_, rfl⟩, rfl⟩ (fun _ _ _ _ => trivial) (fun i r G' S' hr hJ => ?_) ?_ ?_)
  · obtain ⟨ps, ns, v, _, _, ⟨g6, rfl⟩, rfl⟩ := hJ
    exact evg_name 6 c.nd
  · rintro i' r' G' S' hi' ⟨ps, ns, v, pB, nB, ⟨g6, rfl⟩, rfl⟩
    obtain ⟨hil, rfl⟩ := rngI_at hi'
    have hi2 : i' < 2 := by omega
    have shP := shaped_parts pB.2
    have nI : ∀ n ∈ ns, netIn n := fun n hn => (nB.2 n hn).in_ (by omega)
    have shN : SeqAt.shaped (.list (ns.map netD)) = true := shaped_list fun d hd => by
      obtain ⟨n, hn, rfl⟩ := List.mem_map.mp hd
      exact lay_net (nI n hn)
    -- a net is changed
    have bad : ∀ (v : Well) {P0 : Post} {st : List Stmt}, True := fun _ _ _ => trivial
    by_cases hne : ps = []
    · refine ss_cons (ws_if (k1 := false) (S1 := S ++ [wellO v4, wellO v3, wellO v]) (evt_w (evw_andF (EvT.is (evt_neD c (x := .list (ps.map partD)) (y := .list []) (ev_name 2) (ev_lst eva_nil) shP (shaped_list (ds := []) fun _ h => nomatch h)) (by rw [eqv_nil, hne] <;> rfl)))) (fun z => nomatch z) (fun _ => ?_))
      refine ss_cons (ws_if (k1 := !decide (ns = [])) (EvT.is (evt_neD c (x := .list (ns.map netD)) (y := .list []) (ev_name 3) (ev_lst eva_nil) shN (shaped_list (ds := []) fun _ h => nomatch h)) (by rw [eqv_nil, List.isEmpty_map]; congr 1; rw [Bool.eq_iff_iff, List.isEmpty_iff, decide_eq_true_iff])) (fun h => ?_) (fun _ => ss_nil (ss_nil (ss_nil ⟨ps, ns, v, pB, nB.mono (by omega), ⟨_, rfl⟩, rfl⟩))))
      have h : ns ≠ [] := by simpa using h
      refine ss_cons (ws_setX 3 c.nd (Qr := fun r S' => ∃ ns' v', NetsB (2 * i' + 2) ns' ∧ r = .d (.list (ns'.map netD)) ∧ S' = S ++ [wellO v4, wellO v3, wellO v']) (Qx := fun _ _ => False) (evx_call c (ok__law_bad_net T) (by decide) (eva_cons (ev_name 1) (eva_cons (ev_name 3) eva_nil)) rfl (fun QR QE k1 _ => ⟨_, v, ns, 2 * i', rfl, at2 _ _ _ _, nB, by omega, h, fun ns' v' hb => k1 _ _ ⟨ns', v', hb, rfl, st2 _ _ _ _ _⟩⟩)) ?_ (fun _ _ z => z.elim))
      rintro _ _ ⟨ns', v', nB', rfl, rfl⟩
      exact ss_nil (ss_nil (ss_nil ⟨ps, ns', v', pB, nB', ⟨_, rfl⟩, rfl⟩))
    · refine ss_cons (ws_if (k1 := decide (drawV v 2 = 0)) (S1 := S ++ [wellO v4, wellO v3, wellO (drawW v 2)]) (evt_w (evw_andT (EvT.is (evt_neD c (x := .list (ps.map partD)) (y := .list []) (ev_name 2) (ev_lst eva_nil) shP (shaped_list (ds := []) fun _ h => nomatch h)) (by rw [eqv_nil, List.isEmpty_map, List.isEmpty_eq_false_iff.mpr hne] <;> rfl)) (evw_and1 (evt_eqI (ev_call c (ok__law_draw T) (eva_cons (ev_name 1) (eva_cons ev_int eva_nil)) (fun QR QE q => dz (by decide) (by decide) q)) ev_int)))) (fun _ => ?_) (fun _ => ?_))
      · refine ss_cons (ws_asgX (Qr := fun r S' => ∃ ps' ns' v', PartsB ps' ∧ NetsB (2 * i' + 2) ns' ∧ r = .d (.tuple [.list (ps'.map partD), .list (ns'.map netD)]) ∧ S' = S ++ [wellO v4, wellO v3, wellO v']) (Qx := fun _ _ => False) (evx_call c (ok__law_bad_part T) (by decide) (eva_cons (ev_name 1) (eva_cons (ev_name 2) (eva_cons (ev_name 3) eva_nil))) rfl (fun QR QE k1 _ => ⟨_, drawW v 2, ps, ns, 2 * i', rfl, at2 _ _ _ _, pB, nB, by omega, hne, fun ps' ns' v' h1 h2 => k1 _ _ ⟨ps', ns', v', h1, h2, rfl, st2 _ _ _ _ _⟩⟩)) ?_ (fun _ _ z => z.elim))
        rintro _ _ ⟨ps', ns', v', pB', nB', rfl, rfl⟩
        exact ⟨_, _, evg_tup c.calm (evgs_cons (evg_name 2 c.nd) (evgs_cons (evg_name 3 c.nd) evgs_nil)), ss_nil (ss_nil ⟨ps', ns', v', pB', nB', ⟨_, rfl⟩, rfl⟩)⟩
      · refine ss_cons (ws_if (k1 := !decide (ns = [])) (EvT.is (evt_neD c (x := .list (ns.map netD)) (y := .list []) (ev_name 3) (ev_lst eva_nil) shN (shaped_list (ds := []) fun _ h => nomatch h)) (by rw [eqv_nil, List.isEmpty_map]; congr 1; rw [Bool.eq_iff_iff, List.isEmpty_iff, decide_eq_true_iff])) (fun h => ?_) (fun _ => ss_nil (ss_nil (ss_nil ⟨ps, ns, _, pB, nB.mono (by omega), ⟨_, rfl⟩, rfl⟩))))
        have h : ns ≠ [] := by simpa using h
        refine ss_cons (ws_setX 3 c.nd (Qr := fun r S' => ∃ ns' v', NetsB (2 * i' + 2) ns' ∧ r = .d (.list (ns'.map netD)) ∧ S' = S ++ [wellO v4, wellO v3, wellO v']) (Qx := fun _ _ => False) (evx_call c (ok__law_bad_net T) (by decide) (eva_cons (ev_name 1) (eva_cons (ev_name 3) eva_nil)) rfl (fun QR QE k1 _ => ⟨_, drawW v 2, ns, 2 * i', rfl, at2 _ _ _ _, nB, by omega, h, fun ns' v' hb => k1 _ _ ⟨ns', v', hb, rfl, st2 _ _ _ _ _⟩⟩)) ?_ (fun _ _ z => z.elim))
        rintro _ _ ⟨ns', v', nB', rfl, rfl⟩
        exact ss_nil (ss_nil (ss_nil ⟨ps, ns', v', pB, nB', ⟨_, rfl⟩, rfl⟩))
  · rintro G' S' ⟨ps, ns, v, pB, nB, ⟨g6, rfl⟩, rfl⟩
    rw [rngI_len] at nB
    have nB2 : NetsB 20 ns := nB.mono (by omega)
    have nB4 : NetsB 4 ns := nB.mono (by omega)
    have gI : GoodIn ps ns := ⟨pB, by have := nB4.1; omega, nB2.2⟩
    refine ss_cons (ws_if (k1 := drawOk ps ns) (evt_val (ev_call c (ok__law_good T) (eva_cons (ev_name 2) (eva_cons (ev_name 3) eva_nil)) (fun QR QE q => ⟨ps, ns, rfl, gI, q⟩))) (fun h => ?_) (fun h => ss_nil ?_))
    · exact ss_cons (ws_ret (ev_call c (ok__law_right T) (eva_cons (ev_name 2) (eva_cons (ev_name 3) eva_nil)) (fun QR QE q => ⟨ps, ns, rfl, gI, h, q⟩)) (back_drop _ hc q))
    · exact ss_cons (ws_ret (ev_call c (ok__law_refused T) (eva_cons (ev_name 2) (eva_cons (ev_name 3) eva_nil)) (fun QR QE q => ⟨ps, ns, rfl, gI, h, q⟩)) (back_drop _ hc q))
end
end Pf
namespace Pf
open PySem PySem.Spec PyProof.Rows L2 He Cu
/-! ### the top's run -/
def loose0 : List PySem.Str := ["CopperError", "NoShape", "NoBoard", "NoRules", "NoDrawing", "NoPin", "is_whole", "SMALL", "FIGURES", "MOST_PARTS", "MOST_PINS", "MOST_NETS", "MOST_SIGNS", "is_name", "check_names", "pins_of", "Drawing", "_law_cell", "_law_mixed", "_law_twice", "_law_well", "_law_draw", "_law_parts", "_law_nets", "_law_renamed", "_law_counted", "_law_crowd", "_law_bad_part", "_law_bad_net", "_law_is_name"]
def loose1 : List PySem.Str := ["_law_unlike", "_law_good", "_law_refused", "_law_no_pin", "_law_right"]
def loose : List PySem.Str := loose0 ++ loose1
abbrev R : PySem.W.OpenRow := PySem.W.OpenLaw.row PySem.Challenge.rw_copperbook_k41_what_is_a_drawing
abbrev hk : PySem.W.Hook := hookTb 5 fa fn (tfL.map (·.1))
def ob (s : PySem.W.SharedT) : AlTb := obsTb 5 fa fn (tfL.map (·.1)) (HandSHeadRun.getT s)
theorem ob_eq (s : PySem.W.SharedT) : ob s = hk.obs s.abs := obsTb_eq (HandSHeadRun.getT_eq s)
theorem run (w : World) : HandSHeadRun.RunEq R (PySem.W.view R.prog [39]) hk ob 8000 loose w := by
  intro os
  kernel_rfl
end Pf
open PySem PySem.W PySem.Calls PyProof.Rows
set_option maxHeartbeats 0 in
theorem PySem.Challenge.cw_copperbook_k41_what_is_a_drawing_holds : PySem.Challenge.rw_copperbook_k41_what_is_a_drawing.Holds := by
  w_on; o_law
  refine HandSHeadRun.head_any (r := Pf.R) (q := view Pf.R.prog [39]) (H := Pf.hk) (ob := Pf.ob) (M := 8000) (loose := Pf.loose) (d := HandSHeadRun.topDef Pf.R.prog 39) (kwd := []) Pf.ob_eq
    (by kernel_rfl) (fun s => by kernel_rfl) Pf.run (by kernel_rfl) (by kernel_rfl) (by kernel_rfl) (by rfl) (by first | assumption | decide +kernel) (by decide +kernel) ⟨rfl, rfl, rfl, rfl, rfl, by decide +kernel⟩ ?hw ?hc
  case hw => w_witness2
  case hc =>
    exact Cu.walk_wT (tf := Pf.tfL) (l := PySem.Challenge.rw_copperbook_k41_what_is_a_drawing) (fa := Pf.fa) (fn := Pf.fn) (k := 8) (x := "_law_script") rfl (by kernel_rfl) ⟨rfl, by decide, by decide⟩ (by kernel_rfl) fun w K mg T => ⟨Pf.g_law T, by
      obtain ⟨fd, Fd⟩ := Pf.d_law T
      exact ⟨fd, fun s u => L2.FunD.bindsA (ps := ["_law_script"]) Fd (fun _ _ _ _ _ _ us hl => match us, hl with | [_], _ => rfl) s [u] rfl, fun base B => Pf.fn_law T (B _ List.mem_cons_self) Fd⟩⟩
