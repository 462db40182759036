import PyProof.Rows.All
import Wide.All
import OpenK.AllK
import Wide.FinOn
import HandS.ForMost
import HandS.ForExc
import HandS.Lambda
import HandS.Nested
import HandS.Defaults
import HandS.Iter
import HandS.IsInst
import HandS.Deep
import HandS.StrMore
import HandS.ExcIs
import HandS.More
import HandS.Head0
import HandS.Head1
import HandS.Head2
import HandS.HeadEnd
import HandS.HeadHook1
import HandS.HeadHook2
import KE.SortData
import HandS.ForDict
import HandS.Conv
import KE.KDictDisplayH
import KE.KDictSum
import PyProof.Rows.SortShell
import HandS.Rev
import PySem.Challenge.RW_copperbook_k32_no_rules
import PyProof.StrOps2
import HandS.HotCalls
import HandS.SetFor
import PyProof.CompUse
import HandS.SuiteRaise
import HandS.FStr
import HandS.TryOnly
import PyProof.Draws
import PyProof.EnumMake
import KE.GoesMore
import PyProof.LongRange
import PyProof.MaxThree
import KE.SortKeyHeap
import HandS.SortKw
import HandS.HeadHook4
import HandS.EndTab
import KE.GoesEnum
set_option Elab.async false
set_option linter.all false
set_option maxRecDepth 100000
set_option maxHeartbeats 16000000
/-! CuA: states told by data. It: a frozen datum or an owned object (by its number); Own: what an owned object holds; StoreOk: the heap bears the store. -/
namespace Cu
open PySem PySem.Spec PyProof.Rows L2
abbrev Sig := List (Option V)
/-- what a name holds: a datum that never changes, or the n-th owned object, or a plain value -/
inductive It where
  | d (x : PyData)
  | o (n : Nat)
  | r (v : V)
  | s (ns : List Int)
/-- an owned object -/
inductive Own where
  | lst (xs : List It)
  | dT (kvs : List (List Key × It))
  | dK (kvs : List (Key × It))
  | ins (C : Addr) (fs : List (Str × It))
  | tup (xs : List It)
  | lkT (od : Obj) (ps : List (List Key × V)) (kvs : List (List Key × It))
  | lkK (od : Obj) (ps : List (Key × V)) (kvs : List (Key × It))
  | tbl (P : Addr) (q : Str)
  | tblN (P : Addr) (nm : Nat → Nat → Str)
  | fn (F : NdefX.NF) (cap : List (V × It))
  | gone
abbrev Sto := List Own
abbrev Gam := List (Option It)
section
variable (K : PySem.W.Frag) (M : List Addr) (H : Hp)
/-- a tracked node, none of M -/
def NdL (a : Addr) (xs : List V) : Prop := Rd H a (.lst xs) ∧ a ∉ M
def NdT (a : Addr) (xs : List V) : Prop := H a = some (.tup xs) ∧ a ∉ M
/-- the script -/
def NdS (a : Addr) (xs : List V) : Prop := (Rd H a (.lst xs) ∧ a ∉ M) ∨
    ∃ (o : Obj) (its : Array Value) (n : Nat), K.lookup a = some o ∧ o.cls = .type "list" ∧ o.dict = none ∧ o.data = .seq its n ∧ its.size ≤ sizeLine ∧ Vals xs its.toList
mutual
/-- a value is a datum whose objects are none of those at M -/
inductive Fz : V → PyData → Prop
  | non : Fz .non .none
  | bl (b : Bool) : Fz (.bl b) (.bool b)
  | int (i : Int) : Fz (.int i) (.int i)
  | str (x : Str) : Fz (.str x) (.str x)
  | lst {a : Addr} {xs : List V} {ds : List PyData} : NdL M H a xs → FzAll xs ds → Fz (.ref a) (.list ds)
  | tup {a : Addr} {xs : List V} {ds : List PyData} : NdT M H a xs → FzAll xs ds → Fz (.ref a) (.tuple ds)
inductive FzAll : List V → List PyData → Prop
  | nil : FzAll [] []
  | cons {v : V} {vs : List V} {d : PyData} {ds : List PyData} : Fz v d → FzAll vs ds → FzAll (v :: vs) (d :: ds)
end
def VRep (v : V) : It → Prop
  | .d x => Fz M H v x
  | .o n => ∃ a, M[n]? = some a ∧ v = .ref a
  | .r u => v = u
  | .s ns => ∃ a, v = .ref a ∧ NdS K M H a (ns.map V.int)
abbrev VReps : List V → List It → Prop := Paired fun v r => VRep K M H v r
def ORep (a : Addr) : Own → Prop
  | .lst xs => ∃ vs, H a = some (.lst vs) ∧ VReps K M H vs xs
  | .dT kvs => ∃ ps, H a = some (.dT ps) ∧ Paired (fun (p : List Key × V) (q : List Key × It) => p.1 = q.1 ∧ VRep K M H p.2 q.2) ps kvs
  | .dK kvs => ∃ ps, H a = some (.dK ps) ∧ Paired (fun (p : Key × V) (q : Key × It) => p.1 = q.1 ∧ VRep K M H p.2 q.2) ps kvs
  | .ins C fs => ∃ dx ps, H a = some (.ins C dx ps) ∧ Paired (fun (p : Str × V) (q : Str × It) => p.1 = q.1 ∧ VRep K M H p.2 q.2) ps fs
  | .tup xs => ∃ vs, H a = some (.tup vs) ∧ VReps K M H vs xs ∧ ∃ b, V.ref b ∈ vs
  | .lkT od ps kvs => H a = some (.frz od (.dT ps)) ∧ Paired (fun (p : List Key × V) (q : List Key × It) => p.1 = q.1 ∧ VRep K M H p.2 q.2) ps kvs
  | .lkK od ps kvs => H a = some (.frz od (.dK ps)) ∧ Paired (fun (p : Key × V) (q : Key × It) => p.1 = q.1 ∧ VRep K M H p.2 q.2) ps kvs
  | .tbl P q => a = P ∧ ∃ ps : Array Value, H a = some (.tbl ps) ∧ TriplesOk ps.toList ∧ ∀ (pos : Pos) (cv : Value), codeAmong pos ps.toList = some cv → ∃ c, cv = .ref c ∧ H c = some (LamX.CodeO c q) ∧ c ∉ M
  | .tblN P nm => a = P ∧ ∃ ps : Array Value, H a = some (.tbl ps) ∧ TriplesOk ps.toList ∧ ∀ (pos : Pos) (cv : Value), codeAmong pos ps.toList = some cv → ∃ c, cv = .ref c ∧ H c = some (LamX.CodeO c (nm pos.line pos.col)) ∧ c ∉ M
  | .fn F cap => H a = some (NdefX.FnO a F) ∧ H F.c = some (LamX.CodeO F.c F.qual) ∧ F.c ∉ M ∧ VReps K M H (cap.map (·.1)) (cap.map (·.2))
  | .gone => ∃ o, H a = some o ∧ ∀ xs, o ≠ .tup xs
structure StoreOk (S : Sto) : Prop where
  nd : M.Nodup
  len : M.length = S.length
  rep : ∀ (n : Nat) (a : Addr) (w : Own), M[n]? = some a → S[n]? = some w → ORep K M H a w
structure Stt (S : Sto) (G : Gam) (σ : Sig) : Prop where
  sto : StoreOk K M H S
  len : σ.length = G.length
  at_ : ∀ (i : Nat) (r : It), G[i]? = some (some r) → ∃ v, σ[i]? = some (some v) ∧ VRep K M H v r
end
/-- later: more owned objects, what isn't owned stands -/
structure Ext (M : List Addr) (H : Hp) (M' : List Addr) (H' : Hp) : Prop where
  pre : ∃ L, M' = M ++ L
  keep : ∀ b o, b ∉ M → H b = some o → H' b = some o
  new : ∀ b ∈ M', b ∈ M ∨ H b = none
theorem Ext.refl {M : List Addr} {H : Hp} : Ext M H M H := ⟨⟨[], (List.append_nil M).symm⟩, fun _ _ _ h => h, fun _ h => .inl h⟩
theorem Ext.nin {M M' : List Addr} {H H' : Hp} (e : Ext M H M' H') {b : Addr} {o : HO} (h : b ∉ M) (hb : H b = some o) : b ∉ M' := fun hm => by
  rcases e.new b hm with q | q
  · exact h q
  · rw [hb] at q; cases q
theorem Ext.trans {M M1 M2 : List Addr} {H H1 H2 : Hp} (a : Ext M H M1 H1) (b : Ext M1 H1 M2 H2) : Ext M H M2 H2 := by
  refine ⟨?_, fun c o hc h => b.keep c o (a.nin hc h) (a.keep c o hc h), fun c hc => ?_⟩
  · obtain ⟨L1, e1⟩ := a.pre
    obtain ⟨L2, e2⟩ := b.pre
    exact ⟨L1 ++ L2, by rw [e2, e1, List.append_assoc]⟩
  · rcases b.new c hc with q | q
    · exact a.new c q
    · by_cases hm : c ∈ M
      · exact .inl hm
      · cases e : H c with
        | none => exact .inr rfl
        | some o =>
          rw [a.keep c o hm e] at q
          cases q
theorem Ext.get {M M' : List Addr} {H H' : Hp} (e : Ext M H M' H') {n : Nat} {a : Addr} (h : M[n]? = some a) : M'[n]? = some a := by
  obtain ⟨L, rfl⟩ := e.pre
  obtain ⟨hl, h2⟩ := List.getElem?_eq_some_iff.mp h
  rw [List.getElem?_append_left hl]
  exact h
theorem Ext.rd {M M' : List Addr} {H H' : Hp} (e : Ext M H M' H') {a : Addr} {u : HO} (h : Rd H a u ∧ a ∉ M) : Rd H' a u ∧ a ∉ M' := by
  obtain ⟨h, n⟩ := h
  rcases h with h | ⟨o, h⟩
  · exact ⟨.inl (e.keep a _ n h), e.nin n h⟩
  · exact ⟨.inr ⟨o, e.keep a _ n h⟩, e.nin n h⟩
/-- a new object, not owned -/
theorem Ext.fresh {M : List Addr} {H : Hp} {p : Addr} {o : HO} (h : H p = none) : Ext M H M (upd H p o) :=
  ⟨⟨[], (List.append_nil M).symm⟩, fun b u _ hb => by rw [upd_ne (ne_of_none hb h)]; exact hb, fun _ hm => .inl hm⟩
/-- a new object, owned -/
theorem Ext.own {M : List Addr} {H : Hp} {p : Addr} {o : HO} (h : H p = none) : Ext M H (M ++ [p]) (upd H p o) :=
  ⟨⟨[p], rfl⟩, fun b u _ hb => by rw [upd_ne (ne_of_none hb h)]; exact hb, fun b hm => by
    rcases List.mem_append.mp hm with q | q
    · exact .inl q
    · rw [List.mem_singleton.mp q]; exact .inr h⟩
/-- an owned object is changed -/
theorem Ext.put {M : List Addr} {H : Hp} {a : Addr} {o : HO} (h : a ∈ M) : Ext M H M (upd H a o) :=
  ⟨⟨[], (List.append_nil M).symm⟩, fun b u hb e => by
    rw [upd_ne (show b ≠ a from fun z => hb (by rw [z]; exact h))]
    exact e, fun _ hm => .inl hm⟩
section
variable {K : PySem.W.Frag} {M M' M1 M2 : List Addr} {H H' H1 H2 : Hp}
theorem NdL.sq {a : Addr} {xs : List V} (h : NdL M H a xs) : SqL K H a xs := .inl h.1
theorem NdT.sq {a : Addr} {xs : List V} (h : NdT M H a xs) : SqT K H a xs := .inl (.inl h.1)
theorem NdL.ext {a : Addr} {xs : List V} (e : Ext M H M' H') (h : NdL M H a xs) : NdL M' H' a xs := e.rd h
theorem NdT.ext {a : Addr} {xs : List V} (e : Ext M H M' H') (h : NdT M H a xs) : NdT M' H' a xs := ⟨e.keep a _ h.2 h.1, e.nin h.2 h.1⟩
theorem NdS.sq {a : Addr} {xs : List V} (h : NdS K M H a xs) : SqL K H a xs := h.elim (fun h => .inl h.1) .inr
theorem NdS.ext {a : Addr} {xs : List V} (e : Ext M H M' H') (h : NdS K M H a xs) : NdS K M' H' a xs := h.elim (fun h => .inl (e.rd h)) .inr
theorem NdS.less (e : ∀ a ∈ M', a ∈ M) {a : Addr} {xs : List V} (h : NdS K M H a xs) : NdS K M' H a xs := h.elim (fun h => .inl ⟨h.1, fun z => h.2 (e _ z)⟩) .inr
mutual
theorem Fz.ext (e : Ext M H M' H') : ∀ {x : PyData} {v : V}, Fz M H v x → Fz M' H' v x
  | .none, _, h => by cases h; exact .non
  | .bool _, _, h => by cases h; exact .bl _
  | .int _, _, h => by cases h; exact .int _
  | .str _, _, h => by cases h; exact .str _
  | .list ds, _, h => by
    cases h with
    | lst h1 h2 => exact .lst (h1.ext e) (FzAll.ext e h2)
  | .tuple ds, _, h => by
    cases h with
    | tup h1 h2 => exact .tup (h1.ext e) (FzAll.ext e h2)
  | .dict _, _, h => by cases h
theorem FzAll.ext (e : Ext M H M' H') : ∀ {xs : List PyData} {vs : List V}, FzAll M H vs xs → FzAll M' H' vs xs
  | [], _, h => by cases h; exact .nil
  | _ :: _, _, h => by
    cases h with
    | cons h1 h2 => exact .cons (Fz.ext e h1) (FzAll.ext e h2)
end
mutual
/-- fewer objects are owned -/
theorem Fz.less (e : ∀ a ∈ M', a ∈ M) : ∀ {x : PyData} {v : V}, Fz M H v x → Fz M' H v x
  | .none, _, h => by cases h; exact .non
  | .bool _, _, h => by cases h; exact .bl _
  | .int _, _, h => by cases h; exact .int _
  | .str _, _, h => by cases h; exact .str _
  | .list ds, _, h => by
    cases h with
    | lst h1 h2 => exact .lst ⟨h1.1, fun z => h1.2 (e _ z)⟩ (FzAll.less e h2)
  | .tuple ds, _, h => by
    cases h with
    | tup h1 h2 => exact .tup ⟨h1.1, fun z => h1.2 (e _ z)⟩ (FzAll.less e h2)
  | .dict _, _, h => by cases h
theorem FzAll.less (e : ∀ a ∈ M', a ∈ M) : ∀ {xs : List PyData} {vs : List V}, FzAll M H vs xs → FzAll M' H vs xs
  | [], _, h => by cases h; exact .nil
  | _ :: _, _, h => by
    cases h with
    | cons h1 h2 => exact .cons (Fz.less e h1) (FzAll.less e h2)
end
mutual
theorem Fz.dp : ∀ {x : PyData} {v : V}, Fz M H v x → Dp K H v x
  | .none, _, h => by cases h; exact .non
  | .bool _, _, h => by cases h; exact .bl _
  | .int _, _, h => by cases h; exact .int _
  | .str _, _, h => by cases h; exact .str _
  | .list ds, _, h => by
    cases h with
    | lst h1 h2 => exact .lst h1.sq (FzAll.dp h2)
  | .tuple ds, _, h => by
    cases h with
    | tup h1 h2 => exact .tup h1.sq (FzAll.dp h2)
  | .dict _, _, h => by cases h
theorem FzAll.dp : ∀ {xs : List PyData} {vs : List V}, FzAll M H vs xs → DpAll K H vs xs
  | [], _, h => by cases h; exact .nil
  | _ :: _, _, h => by
    cases h with
    | cons h1 h2 => exact .cons (Fz.dp h1) (FzAll.dp h2)
end
theorem VRep.ext (e : Ext M H M' H') {v : V} : ∀ {r : It}, VRep K M H v r → VRep K M' H' v r
  | .d _, h => Fz.ext e h
  | .o _, ⟨a, h1, h2⟩ => ⟨a, e.get h1, h2⟩
  | .r _, h => h
  | .s _, ⟨a, h1, h2⟩ => ⟨a, h1, h2.ext e⟩
theorem VReps.ext (e : Ext M H M' H') {vs : List V} {rs : List It} (h : VReps K M H vs rs) : VReps K M' H' vs rs := Paired.mapP h fun _ _ q => VRep.ext e q
theorem StoreOk.live {S : Sto} (h : StoreOk K M H S) {a : Addr} (hm : a ∈ M) : ∃ o, H a = some o := by
  obtain ⟨n, hn⟩ := List.getElem?_of_mem hm
  obtain ⟨hl, _⟩ := List.getElem?_eq_some_iff.mp hn
  have hl' : n < S.length := by rw [← h.len]; exact hl
  have q := h.rep n a S[n] hn (List.getElem?_eq_getElem hl')
  revert q
  cases S[n] with
  | lst xs => exact fun ⟨vs, e, _⟩ => ⟨_, e⟩
  | dT xs => exact fun ⟨vs, e, _⟩ => ⟨_, e⟩
  | dK xs => exact fun ⟨vs, e, _⟩ => ⟨_, e⟩
  | ins C fs => exact fun ⟨dx, ps, e, _⟩ => ⟨_, e⟩
  | tup xs => exact fun ⟨vs, e, _⟩ => ⟨_, e⟩
  | lkT od ps kvs => exact fun ⟨e, _⟩ => ⟨_, e⟩
  | lkK od ps kvs => exact fun ⟨e, _⟩ => ⟨_, e⟩
  | tbl P q => exact fun ⟨_, ps, e, _⟩ => ⟨_, e⟩
  | tblN P nm => exact fun ⟨_, ps, e, _⟩ => ⟨_, e⟩
  | fn F cap => exact fun ⟨e, _⟩ => ⟨_, e⟩
  | gone => exact fun ⟨o, e, _⟩ => ⟨o, e⟩
theorem StoreOk.nin {S : Sto} (h : StoreOk K M H S) {p : Addr} (hp : H p = none) : p ∉ M := fun hm => by
  obtain ⟨o, e⟩ := h.live hm
  rw [hp] at e; cases e
theorem StoreOk.addr {S : Sto} (h : StoreOk K M H S) {n : Nat} {w : Own} (hs : S[n]? = some w) : ∃ a, M[n]? = some a ∧ ORep K M H a w := by
  obtain ⟨hl, _⟩ := List.getElem?_eq_some_iff.mp hs
  have hm : M[n]? = some (M[n]'(by rw [h.len]; exact hl)) := List.getElem?_eq_getElem _
  exact ⟨_, hm, h.rep n _ w hm hs⟩
/-- an object that stands where it stood keeps what it bears -/
theorem ORep.ext (e : Ext M H M' H') {a : Addr} (k : H' a = H a) : ∀ {w : Own}, ORep K M H a w → ORep K M' H' a w
  | .lst _, ⟨vs, h1, h2⟩ => ⟨vs, k.trans h1, h2.ext e⟩
  | .dT _, ⟨ps, h1, h2⟩ => ⟨ps, k.trans h1, Paired.mapP h2 fun _ _ q => ⟨q.1, q.2.ext e⟩⟩
  | .dK _, ⟨ps, h1, h2⟩ => ⟨ps, k.trans h1, Paired.mapP h2 fun _ _ q => ⟨q.1, q.2.ext e⟩⟩
  | .ins _ _, ⟨dx, ps, h1, h2⟩ => ⟨dx, ps, k.trans h1, Paired.mapP h2 fun _ _ q => ⟨q.1, q.2.ext e⟩⟩
  | .tup _, ⟨vs, h1, h2, h3⟩ => ⟨vs, k.trans h1, h2.ext e, h3⟩
  | .lkT _ _ _, ⟨h1, h2⟩ => ⟨k.trans h1, Paired.mapP h2 fun _ _ q => ⟨q.1, q.2.ext e⟩⟩
  | .lkK _ _ _, ⟨h1, h2⟩ => ⟨k.trans h1, Paired.mapP h2 fun _ _ q => ⟨q.1, q.2.ext e⟩⟩
  | .tbl _ _, ⟨h0, ps, h1, h2, h3⟩ => ⟨h0, ps, k.trans h1, h2, fun pos cv hc => let ⟨c, x1, x2, x3⟩ := h3 pos cv hc; ⟨c, x1, e.keep c _ x3 x2, e.nin x3 x2⟩⟩
  | .tblN _ _, ⟨h0, ps, h1, h2, h3⟩ => ⟨h0, ps, k.trans h1, h2, fun pos cv hc => let ⟨c, x1, x2, x3⟩ := h3 pos cv hc; ⟨c, x1, e.keep c _ x3 x2, e.nin x3 x2⟩⟩
  | .fn _ _, ⟨h1, h2, h3, h4⟩ => ⟨k.trans h1, e.keep _ _ h3 h2, e.nin h3 h2, h4.ext e⟩
  | .gone, ⟨o, h1, h2⟩ => ⟨o, k.trans h1, h2⟩
/-- all owned objects stand as they stood -/
theorem StoreOk.same {S : Sto} (h : StoreOk K M H S) (e : Ext M H M H') (k : ∀ a ∈ M, H' a = H a) : StoreOk K M H' S :=
  ⟨h.nd, h.len, fun n a w h1 h2 => (h.rep n a w h1 h2).ext e (k a (List.mem_of_getElem? h1))⟩
theorem StoreOk.fresh {S : Sto} (h : StoreOk K M H S) {p : Addr} {o : HO} (hp : H p = none) : StoreOk K M (upd H p o) S :=
  h.same (Ext.fresh hp) fun a ha => upd_ne fun z => h.nin hp (z ▸ ha)
theorem Stt.fresh {S : Sto} {G : Gam} {σ : Sig} (h : Stt K M H S G σ) {p : Addr} {o : HO} (hp : H p = none) : Stt K M (upd H p o) S G σ :=
  ⟨h.sto.fresh hp, h.len, fun i r e => let ⟨v, h1, h2⟩ := h.at_ i r e; ⟨v, h1, h2.ext (Ext.fresh hp)⟩⟩
/-- one more owned object -/
theorem StoreOk.own {S : Sto} (h : StoreOk K M H S) {p : Addr} {o : HO} {w : Own} (hp : H p = none) (hw : ORep K (M ++ [p]) (upd H p o) p w) : StoreOk K (M ++ [p]) (upd H p o) (S ++ [w]) := by
  refine ⟨?_, by simp [h.len], fun n a u h1 h2 => ?_⟩
  · rw [List.nodup_append]
    refine ⟨h.nd, List.nodup_cons.mpr ⟨by simp, List.nodup_nil⟩, fun a ha b hb => ?_⟩
    rw [List.mem_singleton.mp hb]
    exact fun z => h.nin hp (z ▸ ha)
  · by_cases hn : n < M.length
    · rw [List.getElem?_append_left hn] at h1
      rw [List.getElem?_append_left (by rw [← h.len]; exact hn)] at h2
      exact (h.rep n a u h1 h2).ext (Ext.own hp) (upd_ne fun z => h.nin hp (z ▸ List.mem_of_getElem? h1))
    · have hn' : M.length ≤ n := Nat.le_of_not_lt hn
      rw [List.getElem?_append_right hn'] at h1
      rw [List.getElem?_append_right (by rw [← h.len]; exact hn')] at h2
      have e0 : n - M.length = 0 := by
        cases q : n - M.length with
        | zero => rfl
        | succ j => rw [q] at h1; simp at h1
      rw [e0] at h1
      rw [show n - S.length = 0 by rw [← h.len]; exact e0] at h2
      cases h1; cases h2
      exact hw
/-- an owned object is changed -/
theorem StoreOk.put {S : Sto} (h : StoreOk K M H S) {n : Nat} {a : Addr} {o : HO} {w : Own} (hn : M[n]? = some a) (hw : ORep K M (upd H a o) a w) : StoreOk K M (upd H a o) (S.set n w) := by
  refine ⟨h.nd, by rw [List.length_set]; exact h.len, fun m b u h1 h2 => ?_⟩
  by_cases e : m = n
  · subst e
    rw [hn] at h1; cases h1
    obtain ⟨hl, _⟩ := List.getElem?_eq_some_iff.mp hn
    rw [List.getElem?_set_self (by rw [← h.len]; exact hl)] at h2
    cases h2
    exact hw
  · rw [List.getElem?_set_ne (Ne.symm e)] at h2
    have hb : b ≠ a := fun z => e (by
      subst z
      obtain ⟨l1, q1⟩ := List.getElem?_eq_some_iff.mp h1
      obtain ⟨l2, q2⟩ := List.getElem?_eq_some_iff.mp hn
      exact (List.getElem_inj h.nd).mp (q1.trans q2.symm))
    exact (h.rep m b u h1 h2).ext (Ext.put (List.mem_of_getElem? hn)) (upd_ne hb)
theorem Stt.mono {S : Sto} {G : Gam} {σ : Sig} (h : Stt K M H S G σ) {S' : Sto} (e : Ext M H M' H') (s : StoreOk K M' H' S') : Stt K M' H' S' G σ :=
  ⟨s, h.len, fun i r q => let ⟨v, h1, h2⟩ := h.at_ i r q; ⟨v, h1, h2.ext e⟩⟩
/-- a slot is stored -/
theorem Stt.set {S : Sto} {G : Gam} {σ : Sig} (h : Stt K M H S G σ) {i : Nat} {v : V} {r : It} (hv : VRep K M H v r) : Stt K M H S (G.set i (some r)) (σ.set i (some v)) := by
  refine ⟨h.sto, by rw [List.length_set, List.length_set]; exact h.len, fun j u e => ?_⟩
  by_cases q : i = j
  · subst q
    by_cases hl : i < G.length
    · rw [List.getElem?_set_self hl] at e
      cases e
      exact ⟨v, List.getElem?_set_self (by rw [h.len]; exact hl), hv⟩
    · rw [List.getElem?_eq_none (by rw [List.length_set]; omega)] at e
      cases e
  · rw [List.getElem?_set_ne q] at e
    obtain ⟨w, h1, h2⟩ := h.at_ j u e
    exact ⟨w, by rw [List.getElem?_set_ne q]; exact h1, h2⟩
/-- a slot is forgotten -/
theorem Stt.forget {S : Sto} {G : Gam} {σ : Sig} (h : Stt K M H S G σ) (i : Nat) : Stt K M H S (G.set i none) σ := by
  refine ⟨h.sto, by rw [List.length_set]; exact h.len, fun j u e => ?_⟩
  by_cases q : i = j
  · subst q
    by_cases hl : i < G.length
    · rw [List.getElem?_set_self hl] at e
      cases e
    · rw [List.getElem?_eq_none (by rw [List.length_set]; omega)] at e
      cases e
  · rw [List.getElem?_set_ne q] at e
    exact h.at_ j u e
theorem Stt.wipe {S : Sto} : ∀ {G : Gam} {σ : Sig} (is : List Nat), Stt K M H S G σ → Stt K M H S (is.foldr (fun i g => g.set i none) G) (L2.wipe σ is)
  | G, σ, [], h => h
  | G, σ, i :: is, h => by
    have ih := Stt.wipe is h
    refine ⟨ih.sto, ?_, fun j u e => ?_⟩
    · show ((L2.wipe σ is).set i none).length = ((is.foldr (fun i g => g.set i none) G).set i none).length
      rw [List.length_set, List.length_set]; exact ih.len
    · have e' : ((is.foldr (fun i g => g.set i none) G).set i none)[j]? = some (some u) := e
      by_cases q : i = j
      · subst q
        by_cases hl : i < (is.foldr (fun i g => g.set i none) G).length
        · rw [List.getElem?_set_self hl] at e'
          cases e'
        · rw [List.getElem?_eq_none (by rw [List.length_set]; omega)] at e'
          cases e'
      · rw [List.getElem?_set_ne q] at e'
        obtain ⟨v, h1, h2⟩ := ih.at_ j u e'
        refine ⟨v, ?_, h2⟩
        show ((L2.wipe σ is).set i none)[j]? = _
        rw [List.getElem?_set_ne q]
        exact h1
end
end Cu
/-! CuB: the judgements over states told by data, and the rules of the base. -/
namespace Cu
open PySem PySem.Spec PyProof.Rows L2
/-! ### what a piece of code does, by its own meaning -/
def sE (X : Cx) (e : Expr) : TE := fun σ H Q => ∀ (pins : List (Addr × Obj)) (s : Shared), Inv X pins σ H s → wpAny (model X.prog X.w) X.A (eval e X.env) (EP X pins σ Q) X.xe s
def sT (X : Cx) (e : Expr) : TT := fun σ H Q => ∀ (pins : List (Addr × Obj)) (s : Shared), Inv X pins σ H s → wpAny (model X.prog X.w) X.A (isTrue e X.env (eval e X.env)) (TP X pins σ Q) X.xe s
def sW (X : Cx) (e : Expr) : TT := fun σ H Q => ∀ (whole : Sem Value) (pins : List (Addr × Obj)) (s : Shared), Inv X pins σ H s → wpAny (model X.prog X.w) X.A (isTrue e X.env whole) (TP X pins σ Q) X.xe s
def sA (X : Cx) (es : List Expr) : TA := fun σ H Q => ∀ (pos : Pos) (pins : List (Addr × Obj)) (s : Shared), Inv X pins σ H s → wpAny (model X.prog X.w) X.A (spliced (backTo pos (starEach es X.env))) (AP X pins σ Q) X.xe s
def sS (X : Cx) (st : Stmt) : TS := fun D σ H => ∀ (pins : List (Addr × Obj)) (s : Shared), Inv X pins σ H s → wpAny (model X.prog X.w) X.A (exec st X.env) (SP X pins D) X.xe s
def sSs (X : Cx) (st : List Stmt) : TS := fun D σ H => ∀ (pins : List (Addr × Obj)) (s : Shared), Inv X pins σ H s → wpAny (model X.prog X.w) X.A (execs st X.env) (SP X pins D) X.xe s
def sG (X : Cx) (tg : Expr) : TG := fun v σ H Q => ∀ (pins : List (Addr × Obj)) (s : Shared) (u : Value), Inv X pins σ H s → RelV v u → wpAny (model X.prog X.w) X.A (assign tg X.env u) (fun _ s' => ∃ σ' H', Inv X pins σ' H' s' ∧ Q σ' H') X.xe s
def sGs (X : Cx) (ts : List Expr) : TGs := fun vs σ H Q => ∀ (pins : List (Addr × Obj)) (s : Shared) (us : List Value), Inv X pins σ H s → Vals vs us → wpAny (model X.prog X.w) X.A (assignInOrder ((assignEach ts X.env).map (·.2)) us) (fun _ s' => ∃ σ' H', Inv X pins σ' H' s' ∧ Q σ' H') X.xe s
section
variable {X : Cx}
theorem pe_s {e : Expr} : PE X e (sE X e) := ⟨fun pins s _ _ _ I h => h pins s I⟩
theorem pt_s {e : Expr} : PT X e (sT X e) := ⟨fun pins s _ _ _ I h => h pins s I⟩
theorem pw_s {e : Expr} : PW X e (sW X e) := ⟨fun w pins s _ _ _ I h => h w pins s I⟩
theorem pa_s {es : List Expr} : PA X es (sA X es) := ⟨fun pos pins s _ _ _ I h => h pos pins s I⟩
theorem ps_s {st : Stmt} : PS X st (sS X st) := ⟨fun pins s _ _ _ I h => h pins s I⟩
theorem pss_s {st : List Stmt} : PSs X st (sSs X st) := ⟨fun pins s _ _ _ I h => h pins s I⟩
theorem pg_s {e : Expr} : PG X e (sG X e) := ⟨fun pins s _ _ _ u _ I r h => h pins s u I r⟩
theorem pgs_s {es : List Expr} : PGs X es (sGs X es) := ⟨fun pins s _ _ _ us _ I r h => h pins s us I r⟩
theorem toE {e : Expr} {t : TE} (h : PE X e t) {σ : Sig} {H : Hp} {Q : VK} (q : t σ H Q) : sE X e σ H Q := fun pins s I => h.run pins s σ H Q I q
theorem toT {e : Expr} {t : TT} (h : PT X e t) {σ : Sig} {H : Hp} {Q : Bool → Hp → Prop} (q : t σ H Q) : sT X e σ H Q := fun pins s I => h.run pins s σ H Q I q
theorem toW {e : Expr} {t : TT} (h : PW X e t) {σ : Sig} {H : Hp} {Q : Bool → Hp → Prop} (q : t σ H Q) : sW X e σ H Q := fun w pins s I => h.run w pins s σ H Q I q
theorem toA {es : List Expr} {t : TA} (h : PA X es t) {σ : Sig} {H : Hp} {Q : List V → Hp → Prop} (q : t σ H Q) : sA X es σ H Q := fun pos pins s I => h.run pos pins s σ H Q I q
theorem toS {st : Stmt} {t : TS} (h : PS X st t) {D : Ends} {σ : Sig} {H : Hp} (q : t D σ H) : sS X st D σ H := fun pins s I => h.run pins s σ H D I q
theorem toSs {st : List Stmt} {t : TS} (h : PSs X st t) {D : Ends} {σ : Sig} {H : Hp} (q : t D σ H) : sSs X st D σ H := fun pins s I => h.run pins s σ H D I q
theorem toG {e : Expr} {t : TG} (h : PG X e t) {v : V} {σ : Sig} {H : Hp} {Q : Sig → Hp → Prop} (q : t v σ H Q) : sG X e v σ H Q := fun pins s u I r => h.run pins s σ H v u Q I r q
theorem toGs {es : List Expr} {t : TGs} (h : PGs X es t) {vs : List V} {σ : Sig} {H : Hp} {Q : Sig → Hp → Prop} (q : t vs σ H Q) : sGs X es vs σ H Q := fun pins s us I r => h.run pins s σ H vs us Q I r q
end
/-- what stands around a piece of code: nothing is being handled, W is what is wanted of an error, k levels of room -/
structure Cxo (X : Cx) (W : WX) (k : Nat) : Prop where
  calm : X.calm = true
  nd : X.N.Nodup
  tk : Takes X W
  po : PassesOwn (model X.prog X.w) X.A X.env X.xe
  hr : Room k X.A
theorem Cxo.less {X : Cx} {W : WX} {k j : Nat} (c : Cxo X W k) (h : j ≤ k) : Cxo X W j := ⟨c.calm, c.nd, c.tk, c.po, c.hr.mono h⟩
/-- e gives r and leaves the store S' -/
def Ev (X : Cx) (e : Expr) (G : Gam) (S : Sto) (r : It) (S' : Sto) : Prop := ∀ (M : List Addr) (σ : Sig) (H : Hp) (Q : VK), Stt X.K M H S G σ →
  (∀ v M' H', Ext M H M' H' → Stt X.K M' H' S' G σ → VRep X.K M' H' v r → Q v H') → sE X e σ H Q
def EvT (X : Cx) (e : Expr) (G : Gam) (S : Sto) (b : Bool) (S' : Sto) : Prop := ∀ (M : List Addr) (σ : Sig) (H : Hp) (Q : Bool → Hp → Prop), Stt X.K M H S G σ →
  (∀ M' H', Ext M H M' H' → Stt X.K M' H' S' G σ → Q b H') → sT X e σ H Q
def EvW (X : Cx) (e : Expr) (G : Gam) (S : Sto) (b : Bool) (S' : Sto) : Prop := ∀ (M : List Addr) (σ : Sig) (H : Hp) (Q : Bool → Hp → Prop), Stt X.K M H S G σ →
  (∀ M' H', Ext M H M' H' → Stt X.K M' H' S' G σ → Q b H') → sW X e σ H Q
def EvA (X : Cx) (es : List Expr) (G : Gam) (S : Sto) (rs : List It) (S' : Sto) : Prop := ∀ (M : List Addr) (σ : Sig) (H : Hp) (Q : List V → Hp → Prop), Stt X.K M H S G σ →
  (∀ vs M' H', Ext M H M' H' → Stt X.K M' H' S' G σ → VReps X.K M' H' vs rs → Q vs H') → sA X es σ H Q
/-- the target takes r -/
def EvG (X : Cx) (tg : Expr) (r : It) (G : Gam) (S : Sto) (G' : Gam) (S' : Sto) : Prop := ∀ (M : List Addr) (σ : Sig) (H : Hp) (v : V) (Q : Sig → Hp → Prop), Stt X.K M H S G σ → VRep X.K M H v r →
  (∀ σ' M' H', Ext M H M' H' → Stt X.K M' H' S' G' σ' → Q σ' H') → sG X tg v σ H Q
def EvGs (X : Cx) (ts : List Expr) (rs : List It) (G : Gam) (S : Sto) (G' : Gam) (S' : Sto) : Prop := ∀ (M : List Addr) (σ : Sig) (H : Hp) (vs : List V) (Q : Sig → Hp → Prop), Stt X.K M H S G σ → VReps X.K M H vs rs →
  (∀ σ' M' H', Ext M H M' H' → Stt X.K M' H' S' G' σ' → Q σ' H') → sGs X ts vs σ H Q
/-- what is wanted behind a statement -/
structure Post where
  nx : Gam → Sto → Prop
  rt : It → Sto → Prop := fun _ _ => False
  bk : Gam → Sto → Prop := fun _ _ => False
  ct : Gam → Sto → Prop := fun _ _ => False
  xc : Addr → Gam → Sto → Prop := fun _ _ _ => False
structure Meets (K : PySem.W.Frag) (W : WX) (M : List Addr) (H : Hp) (P : Post) (D : Ends) : Prop where
  nx : ∀ (M' : List Addr) (σ' : Sig) (H' : Hp) (G' : Gam) (S' : Sto), Ext M H M' H' → Stt K M' H' S' G' σ' → P.nx G' S' → D.nx σ' H'
  rt : ∀ (v : V) (M' : List Addr) (H' : Hp) (r : It) (S' : Sto), Ext M H M' H' → StoreOk K M' H' S' → VRep K M' H' v r → P.rt r S' → D.rt v H'
  bk : ∀ (M' : List Addr) (σ' : Sig) (H' : Hp) (G' : Gam) (S' : Sto), Ext M H M' H' → Stt K M' H' S' G' σ' → P.bk G' S' → D.bk σ' H'
  ct : ∀ (M' : List Addr) (σ' : Sig) (H' : Hp) (G' : Gam) (S' : Sto), Ext M H M' H' → Stt K M' H' S' G' σ' → P.ct G' S' → D.ct σ' H'
  xc : ∀ (M' : List Addr) (σ' : Sig) (H' : Hp) (G' : Gam) (C : Addr) (S' : Sto), Ext M H M' H' → Stt K M' H' S' G' σ' → P.xc C G' S' → W (.ref C) none σ' H'
theorem Meets.ext {K : PySem.W.Frag} {W : WX} {M M1 : List Addr} {H H1 : Hp} {P : Post} {D : Ends} (m : Meets K W M H P D) (e : Ext M H M1 H1) : Meets K W M1 H1 P D :=
  ⟨fun M' σ' H' G' S' x => m.nx M' σ' H' G' S' (e.trans x), fun v M' H' r S' x => m.rt v M' H' r S' (e.trans x), fun M' σ' H' G' S' x => m.bk M' σ' H' G' S' (e.trans x), fun M' σ' H' G' S' x => m.ct M' σ' H' G' S' (e.trans x), fun M' σ' H' G' C S' x => m.xc M' σ' H' G' C S' (e.trans x)⟩
def WS (X : Cx) (W : WX) (st : Stmt) (G : Gam) (S : Sto) (P : Post) : Prop := ∀ (M : List Addr) (σ : Sig) (H : Hp) (D : Ends), Stt X.K M H S G σ → Meets X.K W M H P D → sS X st D σ H
def WSs (X : Cx) (W : WX) (st : List Stmt) (G : Gam) (S : Sto) (P : Post) : Prop := ∀ (M : List Addr) (σ : Sig) (H : Hp) (D : Ends), Stt X.K M H S G σ → Meets X.K W M H P D → sSs X st D σ H
section
variable {X : Cx} {W : WX} {k : Nat} {G G1 G2 : Gam} {S S1 S2 S3 : Sto} {P : Post} {e a b : Expr} {es : List Expr} {r x y z : It} {rs : List It} {pos pos' : Pos} {st : Stmt} {sts : List Stmt}
/-! ### weakening -/
theorem WSs.imp {P' : Post} (h : WSs X W sts G S P) (h1 : ∀ G S, P.nx G S → P'.nx G S) (h2 : ∀ r S, P.rt r S → P'.rt r S := by intro _ _ h; exact h) (h3 : ∀ G S, P.bk G S → P'.bk G S := by intro _ _ h; exact h) (h4 : ∀ G S, P.ct G S → P'.ct G S := by intro _ _ h; exact h) (h5 : ∀ C G S, P.xc C G S → P'.xc C G S := by intro _ _ _ h; exact h) : WSs X W sts G S P' :=
  fun M σ H D s m => h M σ H D s ⟨fun M' σ' H' G' S' e t q => m.nx M' σ' H' G' S' e t (h1 _ _ q), fun v M' H' r S' e t u q => m.rt v M' H' r S' e t u (h2 _ _ q), fun M' σ' H' G' S' e t q => m.bk M' σ' H' G' S' e t (h3 _ _ q), fun M' σ' H' G' S' e t q => m.ct M' σ' H' G' S' e t (h4 _ _ q), fun M' σ' H' G' C S' e t q => m.xc M' σ' H' G' C S' e t (h5 _ _ _ q)⟩
/-! ### names and constants -/
theorem vr_int {K : PySem.W.Frag} {M : List Addr} {H : Hp} {v : V} {i : Int} (h : VRep K M H v (.d (.int i))) : v = .int i := by
  have h' : Fz M H v (.int i) := h
  cases h'; rfl
theorem vr_bool {K : PySem.W.Frag} {M : List Addr} {H : Hp} {v : V} {i : Bool} (h : VRep K M H v (.d (.bool i))) : v = .bl i := by
  have h' : Fz M H v (.bool i) := h
  cases h'; rfl
theorem vr_str {K : PySem.W.Frag} {M : List Addr} {H : Hp} {v : V} {i : Str} (h : VRep K M H v (.d (.str i))) : v = .str i := by
  have h' : Fz M H v (.str i) := h
  cases h'; rfl
theorem vr_none {K : PySem.W.Frag} {M : List Addr} {H : Hp} {v : V} (h : VRep K M H v (.d .none)) : v = .non := by
  have h' : Fz M H v .none := h
  cases h'; rfl
theorem ev_name (i : Nat) {n : Str} (hg : G[i]? = some (some r) := by rfl) (hN : X.N[i]? = some n := by rfl) (hv : Vis X.env.scope n := by first | exact Or.inl rfl | exact Or.inr (Or.inl rfl) | exact Or.inr (Or.inr rfl)) (hd : (n == ("__debug__" : Str)) = false := by decide)
    (hcd : (n == ("__classdict__" : Str)) = false := by decide) : Ev X (.Name n pos) G S r S := fun M σ H Q s q => by
  obtain ⟨v, h1, h2⟩ := s.at_ i r hg
  exact toE (pe_var hN hv hd hcd) ⟨v, h1, q v M H Ext.refl s h2⟩
theorem ev_int {i : Int} {j : Nat} : Ev X (.Constant (.int i) j pos) G S (.d (.int i)) S := fun M σ H Q s q => toE pe_int (q _ M H Ext.refl s (Fz.int i))
theorem ev_bool {i : Bool} {j : Nat} : Ev X (.Constant (.bool i) j pos) G S (.d (.bool i)) S := fun M σ H Q s q => toE pe_bl (q _ M H Ext.refl s (Fz.bl i))
theorem ev_none {j : Nat} : Ev X (.Constant .none j pos) G S (.d .none) S := fun M σ H Q s q => toE pe_non (q _ M H Ext.refl s Fz.non)
theorem ev_str {i : Str} {j : Nat} : Ev X (.Constant (.str i) j pos) G S (.d (.str i)) S := fun M σ H Q s q => toE pe_str (q _ M H Ext.refl s (Fz.str i))
theorem ev_glob {n : Str} {v : V} {u : Value} (hm : X.mg n = some u) (hr : RelV v u) (hg : Gl X n := by rfl) (hd : (n == ("__debug__" : Str)) = false := by decide) : Ev X (.Name n pos) G S (.r v) S := fun M σ H Q s q => toE (pe_glob hg hm hr hd) (q _ M H Ext.refl s rfl)
theorem ev_gint {n : Str} {i : Int} (hm : ∃ t, X.mg n = some (.int i t)) (hg : Gl X n := by rfl) (hd : (n == ("__debug__" : Str)) = false := by decide) : Ev X (.Name n pos) G S (.d (.int i)) S := fun M σ H Q s q => by
  obtain ⟨t, hm⟩ := hm
  exact toE (pe_glob (v := .int i) hg hm ⟨t, rfl⟩ hd) (q _ M H Ext.refl s (Fz.int i))
theorem ev_gstr {n : Str} {i : Str} (hm : ∃ t, X.mg n = some (.str i t)) (hg : Gl X n := by rfl) (hd : (n == ("__debug__" : Str)) = false := by decide) : Ev X (.Name n pos) G S (.d (.str i)) S := fun M σ H Q s q => by
  obtain ⟨t, hm⟩ := hm
  exact toE (pe_glob (v := .str i) hg hm ⟨t, rfl⟩ hd) (q _ M H Ext.refl s (Fz.str i))
theorem ev_type {n : Str} {T : String} (hm : X.mg n = none) (hv : bootBuiltins n = some (.type T) := by decide +kernel) (hg : Gl X n := by rfl) (hn : n ≠ "__name__" := by decide) (hd : (n == ("__debug__" : Str)) = false := by decide) : Ev X (.Name n pos) G S (.r (.ty T)) S := fun M σ H Q s q =>
  toE (pe_bltn (v := .ty T) hg hm hv rfl hn hd) (q _ M H Ext.refl s rfl)
/-! ### operators, by values -/
/-- an operation on two values -/
def RW2 (X : Cx) (rr : R2) (x y : It) (S : Sto) (z : It) (S' : Sto) : Prop := ∀ (M : List Addr) (H : Hp) (v u : V) (Q : VK), StoreOk X.K M H S → VRep X.K M H v x → VRep X.K M H u y →
  (∀ w M' H', Ext M H M' H' → StoreOk X.K M' H' S' → VRep X.K M' H' w z → Q w H') → rr v u H Q
def RW1 (X : Cx) (rr : V → Hp → VK → Prop) (x : It) (S : Sto) (z : It) (S' : Sto) : Prop := ∀ (M : List Addr) (H : Hp) (v : V) (Q : VK), StoreOk X.K M H S → VRep X.K M H v x →
  (∀ w M' H', Ext M H M' H' → StoreOk X.K M' H' S' → VRep X.K M' H' w z → Q w H') → rr v H Q
/-- a call of a built-in by values -/
def RWC (X : Cx) (rr : List V → Hp → VK → Prop) (xs : List It) (S : Sto) (z : It) (S' : Sto) : Prop := ∀ (M : List Addr) (H : Hp) (vs : List V) (Q : VK), StoreOk X.K M H S → VReps X.K M H vs xs →
  (∀ w M' H', Ext M H M' H' → StoreOk X.K M' H' S' → VRep X.K M' H' w z → Q w H') → rr vs H Q
/-- a method of a built-in type by values -/
def RWM (X : Cx) (rr : V → List V → Hp → VK → Prop) (x : It) (xs : List It) (S : Sto) (z : It) (S' : Sto) : Prop := ∀ (M : List Addr) (H : Hp) (v : V) (vs : List V) (Q : VK), StoreOk X.K M H S → VRep X.K M H v x → VReps X.K M H vs xs →
  (∀ w M' H', Ext M H M' H' → StoreOk X.K M' H' S' → VRep X.K M' H' w z → Q w H') → rr v vs H Q
theorem ev_op {op : Operator} {rr : R2} (ho : OpR X (binaryOp op) rr) (ha : Ev X a G S x S1) (hb : Ev X b G S1 y S2) (hr : RW2 X rr x y S2 z S3) : Ev X (.BinOp a op b pos) G S z S3 := fun M σ H Q s q =>
  toE (pe_op ho pe_s pe_s) (ha M σ H _ s fun v M1 H1 e1 s1 r1 => hb M1 σ H1 _ s1 fun u M2 H2 e2 s2 r2 => hr M2 H2 v u _ s2.sto (r1.ext e2) r2 fun w M3 H3 e3 s3 r3 => q w M3 H3 ((e1.trans e2).trans e3) (s2.mono e3 s3) r3)
theorem ev_cmp {op : CmpOp} {rr : R2} (ho : OpR X (compareOp op) rr) (ha : Ev X a G S x S1) (hb : Ev X b G S1 y S2) (hr : RW2 X rr x y S2 z S3) (hm : behindInMarks op b = false := by first | exact nomark _ | rfl) : Ev X (.Compare a [op] [b] pos) G S z S3 := fun M σ H Q s q =>
  toE (pe_cmpR ho pe_s pe_s hm) (ha M σ H _ s fun v M1 H1 e1 s1 r1 => hb M1 σ H1 _ s1 fun u M2 H2 e2 s2 r2 => hr M2 H2 v u _ s2.sto (r1.ext e2) r2 fun w M3 H3 e3 s3 r3 => q w M3 H3 ((e1.trans e2).trans e3) (s2.mono e3 s3) r3)
theorem evt_cmp {op : CmpOp} {rr : R2} {c : Bool} (ho : OpR X (compareOp op) rr) (ha : Ev X a G S x S1) (hb : Ev X b G S1 y S2) (hr : RW2 X rr x y S2 (.d (.bool c)) S3) (hm : behindInMarks op b = false := by first | exact nomark _ | rfl) : EvT X (.Compare a [op] [b] pos) G S c S3 := fun M σ H Q s q =>
  toT (pt_cmpR ho pe_s pe_s hm) (ha M σ H _ s fun v M1 H1 e1 s1 r1 => hb M1 σ H1 _ s1 fun u M2 H2 e2 s2 r2 => hr M2 H2 v u _ s2.sto (r1.ext e2) r2 fun w M3 H3 e3 s3 r3 => ⟨c, vr_bool r3, q M3 H3 ((e1.trans e2).trans e3) (s2.mono e3 s3)⟩)
theorem ev_un {op : UnaryOp} {rr : V → Hp → VK → Prop} (ho : UnR X (unaryOp op) rr) (ha : Ev X a G S x S1) (hr : RW1 X rr x S1 z S2) : Ev X (.UnaryOp op a pos) G S z S2 := fun M σ H Q s q =>
  toE (pe_un ho pe_s) (ha M σ H _ s fun v M1 H1 e1 s1 r1 => hr M1 H1 v _ s1.sto r1 fun w M3 H3 e3 s3 r3 => q w M3 H3 (e1.trans e3) (s1.mono e3 s3) r3)
/-- a op b op' c -/
theorem ev_chain {op op' : CmpOp} {rr rr' : R2} {c : Expr} {w : It} {k1 k2 : Bool} (ho : OpR X (compareOp op) rr) (ho' : OpR X (compareOp op') rr') (ha : Ev X a G S x S1) (hb : Ev X b G S1 y S2) (hr : RW2 X rr x y S2 (.d (.bool k1)) S2)
    (hc : k1 = true → Ev X c G S2 w S2) (hr' : k1 = true → RW2 X rr' y w S2 (.d (.bool k2)) S2) (hm : lastMarks [op, op'] [b, c] = false := by rfl) : Ev X (.Compare a [op, op'] [b, c] pos) G S (.d (.bool (k1 && k2))) S2 := fun M σ H Q s q =>
  toE (pe_chain ho ho' pe_s pe_s pe_s hm) (ha M σ H _ s fun v M1 H1 e1 s1 r1 => hb M1 σ H1 _ s1 fun u M2 H2 e2 s2 r2 => hr M2 H2 v u _ s2.sto (r1.ext e2) r2 fun w' M3 H3 e3 s3 r3 => ⟨k1, vr_bool r3, by
    cases k1 with
    | true =>
      exact iteT (hc rfl M3 σ H3 _ (s2.mono e3 s3) fun u4 M4 H4 e4 s4 r4 => hr' rfl M4 H4 u u4 _ s4.sto (r2.ext (e3.trans e4)) r4 fun u5 M5 H5 e5 s5 r5 => q u5 M5 H5 ((((e1.trans e2).trans e3).trans e4).trans e5) (s4.mono e5 s5) r5)
    | false => exact iteF (q _ M3 H3 ((e1.trans e2).trans e3) (s2.mono e3 s3) (Fz.bl false))⟩)
theorem evt_chain {op op' : CmpOp} {rr rr' : R2} {c : Expr} {w : It} {k1 k2 : Bool} (ho : OpR X (compareOp op) rr) (ho' : OpR X (compareOp op') rr') (ha : Ev X a G S x S1) (hb : Ev X b G S1 y S2) (hr : RW2 X rr x y S2 (.d (.bool k1)) S2)
    (hc : k1 = true → Ev X c G S2 w S2) (hr' : k1 = true → RW2 X rr' y w S2 (.d (.bool k2)) S2) (hm : lastMarks [op, op'] [b, c] = false := by rfl) : EvT X (.Compare a [op, op'] [b, c] pos) G S (k1 && k2) S2 := fun M σ H Q s q =>
  toT (pt_chain ho ho' pe_s pe_s pe_s hm) (ha M σ H _ s fun v M1 H1 e1 s1 r1 => hb M1 σ H1 _ s1 fun u M2 H2 e2 s2 r2 => hr M2 H2 v u _ s2.sto (r1.ext e2) r2 fun w' M3 H3 e3 s3 r3 => ⟨k1, vr_bool r3, by
    cases k1 with
    | true =>
      exact iteT (hc rfl M3 σ H3 _ (s2.mono e3 s3) fun u4 M4 H4 e4 s4 r4 => hr' rfl M4 H4 u u4 _ s4.sto (r2.ext (e3.trans e4)) r4 fun u5 M5 H5 e5 s5 r5 => ⟨k2, vr_bool r5, q M5 H5 ((((e1.trans e2).trans e3).trans e4).trans e5) (s4.mono e5 s5)⟩)
    | false => exact iteF ⟨false, rfl, q M3 H3 ((e1.trans e2).trans e3) (s2.mono e3 s3)⟩⟩)
/-! ### tests -/
theorem evt_val {c : Bool} (h : Ev X e G S (.d (.bool c)) S1) (he : ∀ whole, isTrue e X.env whole = (do let v ← whole; standAt e.pos; holding [v] (truthy v)) := by intro _; rfl) : EvT X e G S c S1 := fun M σ H Q s q =>
  toT (pt_val pe_s he) (h M σ H _ s fun v M1 H1 e1 s1 r1 => ⟨c, vr_bool r1, q M1 H1 e1 s1⟩)
theorem evt_w {c : Bool} (h : EvW X e G S c S1) : EvT X e G S c S1 := fun M σ H Q s q => toT pw_s.pt (h M σ H _ s q)
theorem evt_not {c : Bool} (h : EvT X a G S c S1) : EvT X (.UnaryOp .Not a pos) G S (!c) S1 := fun M σ H Q s q => toT (pt_not pt_s) (h M σ H _ s q)
theorem evw_and1 {c : Bool} (h : EvT X a G S c S1) : EvW X (.BoolOp .And [a] pos) G S c S1 := fun M σ H Q s q => toW (pw_and1 pt_s) (h M σ H _ s q)
theorem evw_or1 {c : Bool} (h : EvT X a G S c S1) : EvW X (.BoolOp .Or [a] pos) G S c S1 := fun M σ H Q s q => toW (pw_or1 pt_s) (h M σ H _ s q)
theorem evw_and {c d : Bool} (h : EvT X a G S c S) (h2 : c = true → EvW X (.BoolOp .And (b :: es) pos) G S d S) : EvW X (.BoolOp .And (a :: b :: es) pos) G S (c && d) S := fun M σ H Q s q =>
  toW (pw_and pt_s pw_s) (h M σ H _ s fun M1 H1 e1 s1 => by
    cases c with
    | true => exact iteT (h2 rfl M1 σ H1 _ s1 fun M2 H2 e2 s2 => q M2 H2 (e1.trans e2) s2)
    | false => exact iteF (q M1 H1 e1 s1))
theorem evw_or {c d : Bool} (h : EvT X a G S c S) (h2 : c = false → EvW X (.BoolOp .Or (b :: es) pos) G S d S) : EvW X (.BoolOp .Or (a :: b :: es) pos) G S (c || d) S := fun M σ H Q s q =>
  toW (pw_or pt_s pw_s) (h M σ H _ s fun M1 H1 e1 s1 => by
    cases c with
    | true => exact iteT (q M1 H1 e1 s1)
    | false => exact iteF (h2 rfl M1 σ H1 _ s1 fun M2 H2 e2 s2 => q M2 H2 (e1.trans e2) s2))
theorem ev_and1 {op : BoolOp} (h : Ev X a G S x S1) : Ev X (.BoolOp op [a] pos) G S x S1 := fun M σ H Q s q => toE (pe_one pe_s) (h M σ H _ s q)
theorem ev_and {c d : Bool} (h : Ev X a G S (.d (.bool c)) S) (h2 : c = true → Ev X (.BoolOp .And (b :: es) pos) G S (.d (.bool d)) S) : Ev X (.BoolOp .And (a :: b :: es) pos) G S (.d (.bool (c && d))) S := fun M σ H Q s q =>
  toE (pe_and pe_s pe_s) (h M σ H _ s fun v M1 H1 e1 s1 r1 => ⟨c, vr_bool r1, by
    cases c with
    | true => exact iteT (h2 rfl M1 σ H1 _ s1 fun w M2 H2 e2 s2 r2 => q w M2 H2 (e1.trans e2) s2 r2)
    | false => exact iteF (q _ M1 H1 e1 s1 (Fz.bl false))⟩)
theorem ev_or {c d : Bool} (h : Ev X a G S (.d (.bool c)) S) (h2 : c = false → Ev X (.BoolOp .Or (b :: es) pos) G S (.d (.bool d)) S) : Ev X (.BoolOp .Or (a :: b :: es) pos) G S (.d (.bool (c || d))) S := fun M σ H Q s q =>
  toE (pe_or pe_s pe_s) (h M σ H _ s fun v M1 H1 e1 s1 r1 => ⟨c, vr_bool r1, by
    cases c with
    | true => exact iteT (q _ M1 H1 e1 s1 (Fz.bl true))
    | false => exact iteF (h2 rfl M1 σ H1 _ s1 fun w M2 H2 e2 s2 r2 => q w M2 H2 (e1.trans e2) s2 r2)⟩)
theorem ev_not {c : Bool} (h : Ev X a G S (.d (.bool c)) S1) : Ev X (.UnaryOp .Not a pos) G S (.d (.bool (!c))) S1 := fun M σ H Q s q =>
  toE (pe_not pe_s) (h M σ H _ s fun v M1 H1 e1 s1 r1 => ⟨c, vr_bool r1, q _ M1 H1 e1 s1 (Fz.bl _)⟩)
theorem ev_ife {t : Expr} {c : Bool} (h : EvT X t G S c S1) (h1 : c = true → Ev X a G S1 x S2) (h2 : c = false → Ev X b G S1 x S2) : Ev X (.IfExp t a b pos) G S x S2 := fun M σ H Q s q =>
  toE (pe_ifExp pt_s pe_s pe_s) (h M σ H _ s fun M1 H1 e1 s1 => by
    cases c with
    | true => exact iteT (h1 rfl M1 σ H1 _ s1 fun w M2 H2 e2 s2 r2 => q w M2 H2 (e1.trans e2) s2 r2)
    | false => exact iteF (h2 rfl M1 σ H1 _ s1 fun w M2 H2 e2 s2 r2 => q w M2 H2 (e1.trans e2) s2 r2))
/-- another name for the same answer -/
theorem Ev.is {r' : It} (h : Ev X e G S r S1) (q : r = r') : Ev X e G S r' S1 := q ▸ h
theorem EvT.is {c c' : Bool} (h : EvT X e G S c S1) (q : c = c') : EvT X e G S c' S1 := q ▸ h
/-! ### arguments, displays -/
theorem eva_nil : EvA X [] G S [] S := fun M σ H Q s q => toA pa_nil (q [] M H Ext.refl s .nil)
theorem eva_cons (h : Ev X e G S r S1) (h2 : EvA X es G S1 rs S2) (hs : starEach (e :: es) X.env = (false, eval e X.env) :: starEach es X.env := by rfl) : EvA X (e :: es) G S (r :: rs) S2 := fun M σ H Q s q =>
  toA (pa_cons pe_s pa_s hs) (h M σ H _ s fun v M1 H1 e1 s1 r1 => h2 M1 σ H1 _ s1 fun vs M2 H2 e2 s2 r2 => q (v :: vs) M2 H2 (e1.trans e2) s2 (.cons (r1.ext e2) r2))
end
/-- data among items -/
def ds? : List It → Option (List PyData)
  | [] => some []
  | .d x :: r => (ds? r).map (x :: ·)
  | _ :: _ => none
theorem fz_all {K : PySem.W.Frag} {M : List Addr} {H : Hp} : ∀ {rs : List It} {ds : List PyData} {vs : List V}, ds? rs = some ds → VReps K M H vs rs → FzAll M H vs ds
  | [], ds, vs, h, r => by
    cases h
    cases r
    exact .nil
  | .d x :: rs, ds, vs, h, r => by
    cases r with
    | cons r1 r2 =>
      cases q : ds? rs with
      | none => rw [show ds? (.d x :: rs) = (ds? rs).map (x :: ·) from rfl, q] at h; cases h
      | some ds' =>
        rw [show ds? (.d x :: rs) = (ds? rs).map (x :: ·) from rfl, q] at h
        cases h
        exact .cons r1 (fz_all q r2)
  | .o _ :: _, _, _, h, _ => by cases h
  | .r _ :: _, _, _, h, _ => by cases h
  | .s _ :: _, _, _, h, _ => by cases h
theorem VReps.len {K : PySem.W.Frag} {M : List Addr} {H : Hp} {rs : List It} {vs : List V} (r : VReps K M H vs rs) : vs.length = rs.length := Paired.length r
theorem ds_len : ∀ {rs : List It} {ds : List PyData}, ds? rs = some ds → ds.length = rs.length
  | [], ds, h => by cases h; rfl
  | .d x :: rs, ds, h => by
    cases q : ds? rs with
    | none => rw [show ds? (.d x :: rs) = (ds? rs).map (x :: ·) from rfl, q] at h; cases h
    | some ds' =>
      rw [show ds? (.d x :: rs) = (ds? rs).map (x :: ·) from rfl, q] at h
      cases h
      show ds'.length + 1 = rs.length + 1
      rw [ds_len q]
  | .o _ :: _, _, h => by cases h
  | .r _ :: _, _, h => by cases h
  | .s _ :: _, _, h => by cases h
section
variable {X : Cx} {W : WX} {k : Nat} {G G1 G2 : Gam} {S S1 S2 S3 : Sto} {P : Post} {e a b : Expr} {es : List Expr} {r x y z : It} {rs : List It} {pos pos' : Pos} {st : Stmt} {sts : List Stmt} {ds : List PyData}
/-- a tuple of data -/
theorem ev_tup {x1} (h : EvA X es G S rs S1) (hd : ds? rs = some ds := by rfl) (hl : rs.length ≤ 1000 := by exact Nat.le_of_ble_eq_true rfl) : Ev X (.Tuple es x1 pos) G S (.d (.tuple ds)) S1 := fun M σ H Q s q =>
  toE (pe_tup pa_s) (h M σ H _ s fun vs M1 H1 e1 s1 r1 => ⟨Nat.le_of_lt (small1000 (by rw [r1.len]; exact hl)), fun p hp =>
    q _ M1 _ (e1.trans (Ext.fresh hp)) (s1.fresh hp) (Fz.tup ⟨upd_same, s1.sto.nin hp⟩ (FzAll.ext (Ext.fresh hp) (fz_all hd r1)))⟩)
/-- a list of data that stays as it is -/
theorem ev_lst (h : EvA X es G S rs S1) (hd : ds? rs = some ds := by rfl) (hl : rs.length ≤ 1000 := by exact Nat.le_of_ble_eq_true rfl) : Ev X (.List es pos) G S (.d (.list ds)) S1 := fun M σ H Q s q =>
  toE (pe_lst pa_s) (h M σ H _ s fun vs M1 H1 e1 s1 r1 => ⟨Nat.le_of_lt (small1000 (by rw [r1.len]; exact hl)), fun p hp =>
    q _ M1 _ (e1.trans (Ext.fresh hp)) (s1.fresh hp) (Fz.lst ⟨.inl upd_same, s1.sto.nin hp⟩ (FzAll.ext (Ext.fresh hp) (fz_all hd r1)))⟩)
/-- a list that is owned -/
theorem ev_lstO (h : EvA X es G S rs S1) (hl : rs.length ≤ 1000 := by exact Nat.le_of_ble_eq_true rfl) : Ev X (.List es pos) G S (.o S1.length) (S1 ++ [.lst rs]) := fun M σ H Q s q =>
  toE (pe_lst pa_s) (h M σ H _ s fun vs M1 H1 e1 s1 r1 => ⟨Nat.le_of_lt (small1000 (by rw [r1.len]; exact hl)), fun p hp => by
    have e2 : Ext M1 H1 (M1 ++ [p]) (upd H1 p (.lst vs)) := Ext.own hp
    have s2 : StoreOk X.K (M1 ++ [p]) (upd H1 p (.lst vs)) (S1 ++ [.lst rs]) := s1.sto.own hp ⟨vs, upd_same, r1.ext e2⟩
    exact q _ _ _ (e1.trans e2) (s1.mono e2 s2) ⟨p, by rw [← s1.sto.len, List.getElem?_append_right (Nat.le_refl _), Nat.sub_self]; rfl, rfl⟩⟩)
/-! ### statements -/
theorem ss_nil (h : P.nx G S) : WSs X W [] G S P := fun M σ H D s m => toSs pss_nil (m.nx M σ H G S Ext.refl s h)
theorem ss_cons (h : WS X W st G S { P with nx := fun G' S' => WSs X W sts G' S' P }) : WSs X W (st :: sts) G S P := fun M σ H D s m =>
  toSs (pss_cons ps_s pss_s) (h M σ H _ s ⟨fun M' σ' H' G' S' e t q => q M' σ' H' D t (m.ext e), m.rt, m.bk, m.ct, m.xc⟩)
theorem ws_pass (h : P.nx G S) : WS X W (.Pass pos) G S P := fun M σ H D s m => toS ps_pass (m.nx M σ H G S Ext.refl s h)
theorem ws_break (h : P.bk G S) : WS X W (.Break pos) G S P := fun M σ H D s m => toS ps_break (m.bk M σ H G S Ext.refl s h)
theorem ws_continue (h : P.ct G S) : WS X W (.Continue pos) G S P := fun M σ H D s m => toS ps_continue (m.ct M σ H G S Ext.refl s h)
theorem ws_expr (h : Ev X e G S r S1) (q : P.nx G S1) (hs : swapsWith e none pos.line X.env = pure false := by rfl) : WS X W (.Expr e pos) G S P := fun M σ H D s m =>
  toS (ps_expr pe_s hs) (h M σ H _ s fun v M1 H1 e1 s1 r1 => m.nx M1 σ H1 G S1 e1 s1 q)
theorem ws_ret (h : Ev X e G S r S1) (q : P.rt r S1) : WS X W (.Return (some e) pos) G S P := fun M σ H D s m =>
  toS (ps_ret pe_s) (h M σ H _ s fun v M1 H1 e1 s1 r1 => m.rt v M1 H1 r S1 e1 s1.sto r1 q)
theorem ws_retN (q : P.rt (.d .none) S) : WS X W (.Return none pos) G S P := fun M σ H D s m => toS ps_retN (m.rt .non M H (.d .none) S Ext.refl s.sto Fz.non q)
theorem ws_if {c : Expr} {p q : List Stmt} {k1 : Bool} (h : EvT X c G S k1 S1) (h1 : k1 = true → WSs X W p G S1 P) (h2 : k1 = false → WSs X W q G S1 P) : WS X W (.If c p q pos) G S P := fun M σ H D s m =>
  toS (ps_if pt_s pss_s pss_s) (h M σ H _ s fun M1 H1 e1 s1 => by
    cases k1 with
    | true => exact iteT (h1 rfl M1 σ H1 D s1 (m.ext e1))
    | false => exact iteF (h2 rfl M1 σ H1 D s1 (m.ext e1)))
theorem ws_asg {tg : Expr} (h : Ev X e G S r S1) (hg : EvG X tg r G S1 G2 S2) (q : P.nx G2 S2) (hs : swapsWithSole [tg] e pos.line X.env = pure false := by rfl) (hw : swappedStores [tg] e X.env = pure none := by rfl)
    (h1 : (assignEach [tg] X.env).map (·.2) = [assign tg X.env] := by rfl) : WS X W (.Assign [tg] e pos) G S P := fun M σ H D s m =>
  toS (ps_asg pe_s pg_s hs hw h1) (h M σ H _ s fun v M1 H1 e1 s1 r1 => hg M1 σ H1 v _ s1 r1 fun σ' M2 H2 e2 s2 => m.nx M2 σ' H2 G2 S2 (e1.trans e2) s2 q)
theorem evg_name (i : Nat) {n : Str} (nd : X.N.Nodup) (hi : X.N[i]? = some n := by rfl) (hx : Loc X.env.scope n := by first | exact Or.inl rfl | exact Or.inr rfl) (hf : X.fn n = true ∨ X.env.scope.names.lookup n = some .local := by first | exact .inl rfl | exact .inr rfl | assumption) :
    EvG X (.Name n pos) r G S (G.set i (some r)) S := fun M σ H v Q s hv q => toG (pg_name (i := i) nd hi hx hf) (q _ M H Ext.refl (s.set hv))
theorem ws_set (i : Nat) {n : Str} (nd : X.N.Nodup) (h : Ev X e G S r S1) (q : P.nx (G.set i (some r)) S1) (hi : X.N[i]? = some n := by rfl) (hx : Loc X.env.scope n := by first | exact Or.inl rfl | exact Or.inr rfl)
    (hs : swapsWith e (some (.Name n pos')) pos.line X.env = pure false := by rfl) (hf : X.fn n = true ∨ X.env.scope.names.lookup n = some .local := by first | exact .inl rfl | exact .inr rfl | assumption) : WS X W (.Assign [.Name n pos'] e pos) G S P := fun M σ H D s m =>
  toS (ps_set (i := i) nd hi hx pe_s hs hf) (h M σ H _ s fun v M1 H1 e1 s1 r1 => m.nx M1 _ H1 _ S1 e1 (s1.set r1) q)
theorem evgs_nil : EvGs X [] [] G S G S := fun M σ H vs Q s hv q => by
  cases hv
  exact toGs pgs_nil ⟨rfl, q σ M H Ext.refl s⟩
theorem evgs_cons (h : EvG X e r G S G1 S1) (h2 : EvGs X es rs G1 S1 G2 S2) (hs : (assignEach (e :: es) X.env).map (·.2) = assign e X.env :: (assignEach es X.env).map (·.2) := by rfl) : EvGs X (e :: es) (r :: rs) G S G2 S2 := fun M σ H vs Q s hv q => by
  cases hv with
  | cons v1 v2 =>
    exact toGs (pgs_cons pg_s pgs_s hs) ⟨_, _, rfl, h M σ H _ _ s v1 fun σ1 M1 H1 e1 s1 => h2 M1 σ1 H1 _ _ s1 (VReps.ext e1 v2) fun σ2 M2 H2 e2 s2 => q σ2 M2 H2 (e1.trans e2) s2⟩
theorem fz_reps {K : PySem.W.Frag} {M : List Addr} {H : Hp} : ∀ {ds : List PyData} {vs : List V}, FzAll M H vs ds → VReps K M H vs (ds.map .d)
  | [], _, h => by cases h; exact .nil
  | _ :: _, _, h => by
    cases h with
    | cons h1 h2 => exact .cons h1 (fz_reps h2)
theorem fz_len {M : List Addr} {H : Hp} : ∀ {ds : List PyData} {vs : List V}, FzAll M H vs ds → vs.length = ds.length
  | [], _, h => by cases h; rfl
  | _ :: _, _, h => by
    cases h with
    | cons h1 h2 => exact congrArg Nat.succ (fz_len h2)
/-- a, b, .. = a tuple of data -/
theorem evg_tup {j : Nat} (hc : X.calm = true) (h : EvGs X es (ds.map .d) G S G1 S1) (hn : (assignEach es X.env).length = ds.length := by rfl) (hst : (assignEach es X.env).findIdx? (·.1) = none := by rfl) : EvG X (.Tuple es j pos) (.d (.tuple ds)) G S G1 S1 := fun M σ H v Q s hv q => by
  have hv' : Fz M H v (.tuple ds) := hv
  cases hv' with
  | tup h1 h2 => exact toG (pg_tup hc pgs_s hn hst) ⟨_, _, rfl, h1.sq, fz_len h2, h M σ H _ Q s (fz_reps h2) q⟩
end
end Cu
/-! CuC: defs and their calls, loops, comprehensions, over states told by data. -/
namespace Cu
open PySem PySem.Spec PyProof.Rows L2
/-! ### closed stores, objects given back -/
def ClI (n : Nat) : It → Prop
  | .o m => m < n
  | _ => True
def ClO (n : Nat) : Own → Prop
  | .lst xs => ∀ r ∈ xs, ClI n r
  | .dT kvs => ∀ p ∈ kvs, ClI n p.2
  | .dK kvs => ∀ p ∈ kvs, ClI n p.2
  | .ins _ fs => ∀ p ∈ fs, ClI n p.2
  | .tup xs => ∀ r ∈ xs, ClI n r
  | .lkT _ _ kvs => ∀ p ∈ kvs, ClI n p.2
  | .lkK _ _ kvs => ∀ p ∈ kvs, ClI n p.2
  | .tbl _ _ => True
  | .tblN _ _ => True
  | .fn _ cap => ∀ p ∈ cap, ClI n p.2
  | .gone => True
def ClS (S : Sto) : Prop := ∀ w ∈ S, ClO S.length w
section
variable {K : PySem.W.Frag} {M : List Addr} {H : Hp}
theorem Paired.mem2 {α β : Type} {F : α → β → Prop} : ∀ {l1 : List α} {l2 : List β}, Paired F l1 l2 → ∀ b ∈ l2, ∃ a ∈ l1, F a b
  | _, _, .nil, b, h => by cases h
  | _, _, .cons r t, b, h => by
    rcases List.mem_cons.mp h with e | h
    · subst e; exact ⟨_, List.mem_cons_self, r⟩
    · obtain ⟨a, ha, q⟩ := Paired.mem2 t b h
      exact ⟨a, List.mem_cons_of_mem _ ha, q⟩
theorem VRep.closed {v : V} : ∀ {r : It}, VRep K M H v r → ClI M.length r
  | .d _, _ => trivial
  | .o m, ⟨a, h, _⟩ => (List.getElem?_eq_some_iff.mp h).1
  | .r _, _ => trivial
  | .s _, _ => trivial
theorem StoreOk.closed {S : Sto} (h : StoreOk K M H S) : ClS S := fun w hw => by
  obtain ⟨n, hn⟩ := List.getElem?_of_mem hw
  obtain ⟨a, ha, q⟩ := h.addr hn
  rw [← h.len]
  revert q
  cases w with
  | lst xs => exact fun ⟨vs, _, r⟩ b hb => let ⟨v, _, q⟩ := Paired.mem2 r b hb; VRep.closed q
  | dT xs => exact fun ⟨vs, _, r⟩ b hb => let ⟨v, _, q⟩ := Paired.mem2 r b hb; VRep.closed q.2
  | dK xs => exact fun ⟨vs, _, r⟩ b hb => let ⟨v, _, q⟩ := Paired.mem2 r b hb; VRep.closed q.2
  | ins C fs => exact fun ⟨dx, vs, _, r⟩ b hb => let ⟨v, _, q⟩ := Paired.mem2 r b hb; VRep.closed q.2
  | tup xs => exact fun ⟨vs, _, r, _⟩ b hb => let ⟨v, _, q⟩ := Paired.mem2 r b hb; VRep.closed q
  | lkT od ps xs => exact fun ⟨_, r⟩ b hb => let ⟨v, _, q⟩ := Paired.mem2 r b hb; VRep.closed q.2
  | lkK od ps xs => exact fun ⟨_, r⟩ b hb => let ⟨v, _, q⟩ := Paired.mem2 r b hb; VRep.closed q.2
  | tbl P q => exact fun _ => trivial
  | tblN P nm => exact fun _ => trivial
  | fn F cap => exact fun ⟨_, _, _, r⟩ b hb => let ⟨v, _, q⟩ := Paired.mem2 r b.2 (List.mem_map_of_mem hb); VRep.closed q
  | gone => exact fun _ => trivial
theorem VRep.take {n : Nat} {v : V} : ∀ {r : It}, ClI n r → VRep K M H v r → VRep K (M.take n) H v r
  | .d _, _, h => Fz.less (fun _ q => List.mem_of_mem_take q) h
  | .o m, c, ⟨a, h1, h2⟩ => ⟨a, by rw [List.getElem?_take_of_lt c]; exact h1, h2⟩
  | .r _, _, h => h
  | .s _, _, ⟨a, h1, h2⟩ => ⟨a, h1, h2.less fun _ q => List.mem_of_mem_take q⟩
theorem Paired.mapM {α β : Type} {F G : α → β → Prop} : ∀ {l1 : List α} {l2 : List β}, Paired F l1 l2 → (∀ a b, b ∈ l2 → F a b → G a b) → Paired G l1 l2
  | _, _, .nil, _ => .nil
  | _, _, .cons r t, f => .cons (f _ _ List.mem_cons_self r) (Paired.mapM t fun a b hb => f a b (List.mem_cons_of_mem _ hb))
theorem ORep.take {n : Nat} {a : Addr} : ∀ {w : Own}, ClO n w → ORep K M H a w → ORep K (M.take n) H a w
  | .lst _, c, ⟨vs, h1, h2⟩ => ⟨vs, h1, Paired.mapM h2 fun _ b hb q => q.take (c b hb)⟩
  | .dT _, c, ⟨ps, h1, h2⟩ => ⟨ps, h1, Paired.mapM h2 fun _ b hb q => ⟨q.1, q.2.take (c b hb)⟩⟩
  | .dK _, c, ⟨ps, h1, h2⟩ => ⟨ps, h1, Paired.mapM h2 fun _ b hb q => ⟨q.1, q.2.take (c b hb)⟩⟩
  | .ins _ _, c, ⟨dx, ps, h1, h2⟩ => ⟨dx, ps, h1, Paired.mapM h2 fun _ b hb q => ⟨q.1, q.2.take (c b hb)⟩⟩
  | .tup _, c, ⟨vs, h1, h2, h3⟩ => ⟨vs, h1, Paired.mapM h2 fun _ b hb q => q.take (c b hb), h3⟩
  | .lkT _ _ _, c, ⟨h1, h2⟩ => ⟨h1, Paired.mapM h2 fun _ b hb q => ⟨q.1, q.2.take (c b hb)⟩⟩
  | .lkK _ _ _, c, ⟨h1, h2⟩ => ⟨h1, Paired.mapM h2 fun _ b hb q => ⟨q.1, q.2.take (c b hb)⟩⟩
  | .tbl _ _, _, ⟨h0, ps, h1, h2, h3⟩ => ⟨h0, ps, h1, h2, fun pos cv hc => let ⟨c, x1, x2, x3⟩ := h3 pos cv hc; ⟨c, x1, x2, fun z => x3 (List.mem_of_mem_take z)⟩⟩
  | .tblN _ _, _, ⟨h0, ps, h1, h2, h3⟩ => ⟨h0, ps, h1, h2, fun pos cv hc => let ⟨c, x1, x2, x3⟩ := h3 pos cv hc; ⟨c, x1, x2, fun z => x3 (List.mem_of_mem_take z)⟩⟩
  | .fn _ _, c, ⟨h1, h2, h3, h4⟩ => ⟨h1, h2, fun z => h3 (List.mem_of_mem_take z), Paired.mapM h4 fun _ b hb q => by obtain ⟨p, hp, rfl⟩ := List.mem_map.mp hb; exact q.take (c p hp)⟩
  | .gone, _, h => h
/-- later objects are let go -/
theorem StoreOk.take {S L : Sto} (h : StoreOk K M H (S ++ L)) (c : ClS S) : StoreOk K (M.take S.length) H S := by
  have hl : M.length = S.length + L.length := by rw [h.len, List.length_append]
  refine ⟨h.nd.sublist (List.take_sublist _ _), by rw [List.length_take, hl]; omega, fun n a w h1 h2 => ?_⟩
  obtain ⟨hn, _⟩ := List.getElem?_eq_some_iff.mp h2
  rw [List.getElem?_take_of_lt hn] at h1
  exact (h.rep n a w h1 (by rw [List.getElem?_append_left hn]; exact h2)).take (c w (List.mem_of_getElem? h2))
theorem Ext.take {M' : List Addr} {H' : Hp} (e : Ext M H M' H') {n : Nat} (hn : M.length ≤ n) : Ext M H (M'.take n) H' := by
  obtain ⟨L, rfl⟩ := e.pre
  refine ⟨⟨L.take (n - M.length), ?_⟩, e.keep, fun b hb => e.new b (List.mem_of_mem_take hb)⟩
  rw [List.take_append, List.take_of_length_le hn]
mutual
/-- an item, its objects of the n-th and later ones let go, is a datum -/
inductive Den (n : Nat) (S : Sto) : It → PyData → Prop
  | d (x : PyData) : Den n S (.d x) x
  | l {m : Nat} {xs : List It} {ds : List PyData} : n ≤ m → S[m]? = some (.lst xs) → DenAll n S xs ds → Den n S (.o m) (.list ds)
inductive DenAll (n : Nat) (S : Sto) : List It → List PyData → Prop
  | nil : DenAll n S [] []
  | cons {r : It} {rs : List It} {x : PyData} {xs : List PyData} : Den n S r x → DenAll n S rs xs → DenAll n S (r :: rs) (x :: xs)
end
theorem nin_take {n m : Nat} (nd : M.Nodup) (h : n ≤ m) {a : Addr} (ha : M[m]? = some a) : a ∉ M.take n := fun hm => by
  obtain ⟨j, hj⟩ := List.getElem?_of_mem hm
  have hjn : j < n := by
    rcases Nat.lt_or_ge j n with q | q
    · exact q
    · rw [List.getElem?_eq_none (by rw [List.length_take]; omega)] at hj
      cases hj
  rw [List.getElem?_take_of_lt hjn] at hj
  obtain ⟨l1, q1⟩ := List.getElem?_eq_some_iff.mp hj
  obtain ⟨l2, q2⟩ := List.getElem?_eq_some_iff.mp ha
  have := (List.getElem_inj nd).mp (q1.trans q2.symm)
  omega
mutual
theorem Den.fz {S : Sto} {n : Nat} (s : StoreOk K M H S) : ∀ {x : PyData} {r : It} {v : V}, Den n S r x → VRep K M H v r → Fz (M.take n) H v x
  | .none, _, _, h, q => by cases h with | d => exact Fz.less (fun _ q => List.mem_of_mem_take q) q
  | .bool _, _, _, h, q => by cases h with | d => exact Fz.less (fun _ q => List.mem_of_mem_take q) q
  | .int _, _, _, h, q => by cases h with | d => exact Fz.less (fun _ q => List.mem_of_mem_take q) q
  | .str _, _, _, h, q => by cases h with | d => exact Fz.less (fun _ q => List.mem_of_mem_take q) q
  | .tuple _, _, _, h, q => by cases h with | d => exact Fz.less (fun _ q => List.mem_of_mem_take q) q
  | .dict _, _, _, h, q => by cases h with | d => exact Fz.less (fun _ q => List.mem_of_mem_take q) q
  | .list ds, _, _, h, q => by
    cases h with
    | d => exact Fz.less (fun _ q => List.mem_of_mem_take q) q
    | l h1 h2 h3 =>
      obtain ⟨a, ha, e⟩ := q
      obtain ⟨vs, hv, hr⟩ := s.rep _ a _ ha h2
      rw [e]
      exact .lst ⟨.inl hv, nin_take s.nd h1 ha⟩ (DenAll.fz s h3 hr)
theorem DenAll.fz {S : Sto} {n : Nat} (s : StoreOk K M H S) : ∀ {xs : List PyData} {rs : List It} {vs : List V}, DenAll n S rs xs → VReps K M H vs rs → FzAll (M.take n) H vs xs
  | [], _, _, h, q => by
    cases h
    cases q
    exact .nil
  | x :: xs, _, _, h, q => by
    cases h with
    | cons h1 h2 =>
      cases q with
      | cons q1 q2 => exact .cons (Den.fz s h1 q1) (DenAll.fz s h2 q2)
end
end
/-- what a def hands back: of its store it keeps S1 (the caller's objects, and perhaps new ones), the answer is r1 -/
def Back (n0 : Nat) (S : Sto) (r : It) (Q : It → Sto → Prop) : Prop := ∃ S1 L r1, S = S1 ++ L ∧ n0 ≤ S1.length ∧ (ClS S → ClS S1) ∧ ((r = r1 ∧ ClI S1.length r) ∨ ∃ x, r1 = .d x ∧ Den S1.length S r x) ∧ Q r1 S1
def BackX (n0 : Nat) (S : Sto) (C : Addr) (Q : Addr → Sto → Prop) : Prop := ∃ S1 L, S = S1 ++ L ∧ n0 ≤ S1.length ∧ (ClS S → ClS S1) ∧ Q C S1
theorem back_d {n : Nat} {S : Sto} {x : PyData} {Q : It → Sto → Prop} (h : Q (.d x) S) (hn : n ≤ S.length := by first | exact Nat.le_refl _ | simp) : Back n S (.d x) Q := ⟨S, [], _, (List.append_nil S).symm, hn, id, .inl ⟨rfl, trivial⟩, h⟩
theorem back_same {n : Nat} {S : Sto} {r : It} {Q : It → Sto → Prop} (hr : ClI S.length r) (h : Q r S) (hn : n ≤ S.length := by first | exact Nat.le_refl _ | simp) : Back n S r Q := ⟨S, [], _, (List.append_nil S).symm, hn, id, .inl ⟨rfl, hr⟩, h⟩
theorem backx_same {n : Nat} {S : Sto} {C : Addr} {Q : Addr → Sto → Prop} (h : Q C S) (hn : n ≤ S.length := by first | exact Nat.le_refl _ | simp) : BackX n S C Q := ⟨S, [], (List.append_nil S).symm, hn, id, h⟩
/-- later objects are let go, the answer a datum -/
theorem back_drop {n : Nat} {S1 : Sto} (L : Sto) {S : Sto} {x : PyData} {Q : It → Sto → Prop} (c : ClS S1) (h : Q (.d x) S1) (hS : S = S1 ++ L := by rfl) (hn : n ≤ S1.length := by first | exact Nat.le_refl _ | simp) : Back n S (.d x) Q := ⟨S1, L, _, hS, hn, fun _ => c, .inl ⟨rfl, trivial⟩, h⟩
theorem backx_drop {n : Nat} {S1 : Sto} (L : Sto) {S : Sto} {C : Addr} {Q : Addr → Sto → Prop} (c : ClS S1) (h : Q C S1) (hS : S = S1 ++ L := by rfl) (hn : n ≤ S1.length := by first | exact Nat.le_refl _ | simp) : BackX n S C Q := ⟨S1, L, hS, hn, fun _ => c, h⟩
theorem den_all {n : Nat} {S : Sto} : ∀ (ds : List PyData), DenAll n S (ds.map .d) ds
  | [] => .nil
  | d :: ds => .cons (.d d) (den_all ds)
/-- an owned list of data is handed back as a datum, later objects are let go -/
theorem back_lst {n i : Nat} {S1 : Sto} (L : Sto) {S : Sto} {ds : List PyData} {Q : It → Sto → Prop} (c : ClS S1) (hi : S1.length ≤ i) (h : S[i]? = some (.lst (ds.map .d))) (q : Q (.d (.list ds)) S1) (hS : S = S1 ++ L := by rfl) (hn : n ≤ S1.length := by first | exact Nat.le_refl _ | simp) : Back n S (.o i) Q :=
  ⟨S1, L, _, hS, hn, fun _ => c, .inr ⟨_, rfl, .l hi h (den_all ds)⟩, q⟩
theorem ClI.mono {n m : Nat} (h : n ≤ m) : ∀ {r : It}, ClI n r → ClI m r
  | .o _, q => Nat.lt_of_lt_of_le q h
  | .d _, _ => trivial
  | .r _, _ => trivial
  | .s _, _ => trivial
theorem ClO.mono {n m : Nat} (h : n ≤ m) : ∀ {w : Own}, ClO n w → ClO m w
  | .lst _, q => fun r hr => (q r hr).mono h
  | .dT _, q => fun r hr => (q r hr).mono h
  | .dK _, q => fun r hr => (q r hr).mono h
  | .ins _ _, q => fun r hr => (q r hr).mono h
  | .tup _, q => fun r hr => (q r hr).mono h
  | .lkT _ _ _, q => fun r hr => (q r hr).mono h
  | .lkK _ _ _, q => fun r hr => (q r hr).mono h
  | .tbl _ _, _ => trivial
  | .tblN _ _, _ => trivial
  | .fn _ _, q => fun p hp => (q p hp).mono h
  | .gone, _ => trivial
theorem cls_set {S : Sto} {i : Nat} {w : Own} (c : ClS S) (hw : ClO S.length w) : ClS (S.set i w) := fun u hu => by
  rw [List.length_set]
  rcases List.mem_or_eq_of_mem_set hu with q | q
  · exact c u q
  · rw [q]; exact hw
theorem cls_app {S : Sto} {w : Own} (c : ClS S) (hw : ClO (S.length + 1) w) : ClS (S ++ [w]) := fun u hu => by
  rw [List.length_append]
  rcases List.mem_append.mp hu with q | q
  · exact (c u q).mono (Nat.le_add_right _ _)
  · rw [List.mem_singleton.mp q]; exact hw
theorem cls_nil : ClS [] := fun _ h => nomatch h
theorem clo_data {n : Nat} {ds : List PyData} : ClO n (.lst (ds.map .d)) := fun r hr => by
  obtain ⟨d, _, rfl⟩ := List.mem_map.mp hr
  trivial
/-! ### defs -/
/-- what a def does, by data: the arguments' items, the store; what is wanted of the answer, of an error -/
abbrev Fn := List It → Sto → (It → Sto → Prop) → (Addr → Sto → Prop) → Prop
def spF (K : PySem.W.Frag) (n : Nat) (F : Fn) : Sp := fun vs H Q E => ∃ (M : List Addr) (S : Sto) (rs : List It), StoreOk K M H S ∧ VReps K M H vs rs ∧ rs.length = n ∧
  F rs S (fun r S' => ∀ v M' H', Ext M H M' H' → StoreOk K M' H' S' → VRep K M' H' v r → Q v H') (fun C S' => ∀ M' H', Ext M H M' H' → StoreOk K M' H' S' → E (.ref C) none H')
def startG (N : List Str) (rs : List It) : Gam := rs.map some ++ List.replicate (N.length - rs.length) none
section
variable {K : PySem.W.Frag} {M : List Addr} {H : Hp}
theorem stt_start {S : Sto} (s : StoreOk K M H S) (N : List Str) {vs : List V} {rs : List It} (r : VReps K M H vs rs) : Stt K M H S (startG N rs) (L2.start N vs) := by
  have hl := r.len
  refine ⟨s, by unfold L2.start startG; rw [List.length_append, List.length_append, List.length_map, List.length_map, List.length_replicate, List.length_replicate, hl], fun i u e => ?_⟩
  unfold startG at e
  by_cases hi : i < rs.length
  · rw [List.getElem?_append_left (by rw [List.length_map]; exact hi), List.getElem?_map, List.getElem?_eq_getElem hi] at e
    cases e
    have get : ∀ {vs : List V} {rs : List It} {i : Nat} (r : VReps K M H vs rs) (hi : i < rs.length), ∃ v, vs[i]? = some v ∧ VRep K M H v rs[i] := by
      intro vs rs i r hi
      induction r generalizing i with
      | nil => exact absurd hi (Nat.not_lt_zero _)
      | cons a t ih =>
        cases i with
        | zero => exact ⟨_, rfl, a⟩
        | succ j => exact ih (Nat.lt_of_succ_lt_succ hi)
    obtain ⟨v, h1, h2⟩ := get r hi
    refine ⟨v, ?_, h2⟩
    unfold L2.start
    rw [List.getElem?_append_left (by rw [List.length_map, hl]; exact hi), List.getElem?_map, h1]
    rfl
  · rw [List.getElem?_append_right (by rw [List.length_map]; omega)] at e
    rw [List.getElem?_replicate] at e
    split at e <;> cases e
end
section
variable {P : Program} {w : World} {K : PySem.W.Frag} {mg : Str → Option Value} {base : Heap} {x qual : Str} {params : Arguments} {body : List Stmt} {scope : Scope} {dvs : List V} {kws : List (Str × V)} {f : Addr} {fd : FuncData}
/-- the context of a def's body -/
abbrev cxF (P : Program) (w : World) (K : PySem.W.Frag) (mg : Str → Option Value) (base : Heap) (N : List Str) (qual : Str) (scope : Scope) (f : Addr) (cdv : Value) (A : Around) (outer : List Env) (s : Shared) (H : Hp) (E : XK) : Cx := cxOf (L2.CX P w) P w K mg base N qual scope f cdv A outer s H E
/-- what is wanted of an error that leaves a def -/
abbrev wF (E : XK) : WX := fun cls d _ H => E cls d H
theorem cxo_of {N ps : List Str} {k : Nat} (Sc : FnScope N ps scope) {cdv : Value} {A : Around} {outer : List Env} {s : Shared} {H : Hp} {E : XK} (hr : Room k (A.deeper (envOfC qual scope s.heap.objs.size f cdv))) :
    Cxo (cxF P w K mg base N qual scope f cdv A outer s H E) (wF E) k := ⟨rfl, Sc.nd, takes_of rfl rfl rfl rfl, passes_of rfl, hr⟩
/-- THE RULE for a def -/
theorem fn_w {F : Fn} {N ps : List Str} {k : Nat} (Fd : FunD K x qual params body scope dvs kws f fd) (Sc : FnScope N ps scope)
    (h : ∀ (cdv : Value) (A : Around) (outer : List Env) (s : Shared) (H : Hp) (E : XK) (rs : List It) (S : Sto) (QR : It → Sto → Prop) (QE : Addr → Sto → Prop), Cxo (cxF P w K mg base N qual scope f cdv A outer s H E) (wF E) k →
      ClS S → rs.length = ps.length → F rs S QR QE → WSs (cxF P w K mg base N qual scope f cdv A outer s H E) (wF E) body (startG N rs) S ⟨fun _ S' => Back S.length S' (.d .none) QR, fun r S' => Back S.length S' r QR, fun _ _ => False, fun _ _ => False, fun C _ S' => BackX S.length S' C QE⟩) :
    FnOk P w K mg base (L2.CX P w) (k + 1) f fd ps (spF K ps.length F) := by
  refine Fd.ok Sc (fun vs H Q E hs => ?_) (fun cdv A outer s H vs Q E hr hs => ⟨sSs _ body, pss_s, ?_⟩)
  · obtain ⟨M, S, rs, h1, h2, h3, _⟩ := hs
    rw [h2.len, h3]
  · obtain ⟨M, S, rs, h1, h2, h3, hF⟩ := hs
    have giveR : ∀ {v : V} {M' : List Addr} {H' : Hp} {r : It} {S' : Sto}, Ext M H M' H' → StoreOk K M' H' S' → VRep K M' H' v r → Back S.length S' r (fun r S' => ∀ v M' H', Ext M H M' H' → StoreOk K M' H' S' → VRep K M' H' v r → Q v H') → Q v H' := by
      intro v M' H' r S' e s' hv hb
      obtain ⟨S1, L, r1, rfl, hn, hc, hr1, q⟩ := hb
      refine q v (M'.take S1.length) H' (e.take (by rw [h1.len]; exact hn)) (s'.take (hc s'.closed)) ?_
      rcases hr1 with ⟨rfl, hcl⟩ | ⟨z, rfl, hd⟩
      · exact hv.take hcl
      · exact Den.fz s' hd hv
    refine h cdv A outer s H E rs S _ _ (cxo_of Sc hr) h1.closed h3 hF M (L2.start N vs) H _ (stt_start h1 N h2) ⟨fun M' σ' H' G' S' e t q => giveR (v := .non) (r := .d .none) e t.sto Fz.non q, fun v M' H' r S' e t hv q => giveR e t hv q, fun _ _ _ _ _ _ _ q => q.elim, fun _ _ _ _ _ _ _ q => q.elim, fun M' σ' H' G' C S' e t q => ?_⟩
    obtain ⟨S1, L, rfl, hn, hc, q⟩ := q
    exact q (M'.take S1.length) H' (e.take (by rw [h1.len]; exact hn)) (t.sto.take (hc t.sto.closed))
end
/-- a def by its name; drs: the defaults that fill up -/
structure OkF (P : Program) (w : World) (K : PySem.W.Frag) (mg : Str → Option Value) (base : Heap) (k : Nat) (x : Str) (ps : List Str) (drs : List It) (F : Fn) : Prop where
  ex : ∃ (f : Addr) (fd : FuncData) (dvs : List V) (ds : List Value), mg x = some (.ref f) ∧ PySem.W.keepIn K (.ref f) = true ∧ Binds K fd ps ds ∧ L2.Vals dvs ds ∧ (∀ M H, VReps K M H dvs drs) ∧ FnOk P w K mg base (L2.CX P w) k f fd ps (spF K ps.length F)
/-- a method of the class at C -/
structure OkM (P : Program) (w : World) (K : PySem.W.Frag) (mg : Str → Option Value) (base : Heap) (k : Nat) (C : Addr) (x : Str) (ps : List Str) (drs : List It) (F : Fn) : Prop where
  ex : ∃ (f : Addr) (fd : FuncData) (dvs : List V) (ds : List Value), Cls K C ∧ Meth K C x f ∧ Binds K fd ps ds ∧ L2.Vals dvs ds ∧ (∀ M H, VReps K M H dvs drs) ∧ FnOk P w K mg base (L2.CX P w) k f fd ps (spF K ps.length F)
/-- the class at C, made by its __init__ -/
structure OkC (P : Program) (w : World) (K : PySem.W.Frag) (mg : Str → Option Value) (base : Heap) (k : Nat) (C : Addr) (x : Str) (ps : List Str) (drs : List It) (F : Fn) : Prop where
  ex : ∃ (f : Addr) (fd : FuncData) (dvs : List V) (ds : List Value), mg x = some (.ref C) ∧ Mk K C f ∧ Binds K fd ps ds ∧ L2.Vals dvs ds ∧ (∀ M H, VReps K M H dvs drs) ∧ FnOk P w K mg base (L2.CX P w) k f fd ps (spF K ps.length F)
/-- e may raise: Qr of the answer, Qx of an error -/
def EvX (X : Cx) (W : WX) (e : Expr) (G : Gam) (S : Sto) (Qr : It → Sto → Prop) (Qx : Addr → Sto → Prop) : Prop := ∀ (M : List Addr) (σ : Sig) (H : Hp) (Q : VK), Stt X.K M H S G σ →
  (∀ v M' H' r S', Ext M H M' H' → Stt X.K M' H' S' G σ → VRep X.K M' H' v r → Qr r S' → Q v H') → (∀ M' H' C S', Ext M H M' H' → Stt X.K M' H' S' G σ → Qx C S' → W (.ref C) none σ H') → sE X e σ H Q
section
variable {X : Cx} {W : WX} {k j : Nat} {G G1 G2 : Gam} {S S1 S2 S3 : Sto} {P : Post} {e a b o : Expr} {es : List Expr} {r y z : It} {rs : List It} {pos pos' p apos : Pos} {st : Stmt} {sts body : List Stmt} {n m : Str} {ps : List Str} {drs : List It} {F : Fn} {C : Addr} {Qr : It → Sto → Prop} {Qx : Addr → Sto → Prop} {ds : List PyData}
theorem Ev.ex (h : Ev X e G S r S1) (q : Qr r S1) : EvX X W e G S Qr Qx := fun M σ H Q s h1 _ => h M σ H Q s fun v M' H' e' s' r' => h1 v M' H' r S1 e' s' r' q
theorem VReps.append {K : PySem.W.Frag} {M : List Addr} {H : Hp} : ∀ {vs us : List V} {rs ts : List It}, VReps K M H vs rs → VReps K M H us ts → VReps K M H (vs ++ us) (rs ++ ts)
  | _, _, _, _, .nil, h => h
  | _, _, _, _, .cons a t, h => .cons a (VReps.append t h)
/-- the callee runs, at the slots σ -/
theorem run_fnAt {CX : CXT} {f : Addr} {fd : FuncData} {sp : Sp} {dvs : List V} {dvu : List Value} {E : XK} {pins : List (Addr × Obj)} {σ : Sig} {H : Hp} {s : Shared} {Q : VK} {us : List Value} {vs : List V} (F : FnOk X.prog X.w X.K X.mg X.base CX k f fd ps sp) (hr : Room k X.A) (hb : Binds X.K fd ps dvu) (hd : L2.Vals dvs dvu)
    (hx : ∀ (e : Value) (s' : Shared), CX X.stack H s E e s' → X.xe e s') (I : Inv X pins σ H s) (r : L2.Vals vs us) (h : sp (vs ++ dvs) H Q E) : wpAny (model X.prog X.w) X.A (call (.ref f) us) (EP X pins σ Q) X.xe s := by
  have r2 : L2.Vals (vs ++ dvs) (us ++ dvu) := r.append hd
  have hl : (us ++ dvu).length = ps.length := by rw [← r2.length]; exact F.len _ _ _ _ h
  refine wpAny_call (codeAny_mono (F.run X.A X.stack s H ⟨us, []⟩ (us ++ dvu) (vs ++ dvs) Q E hr I.env0 (hb s us I.kIn hl) r2 h) fun r s' hq => ?_)
  cases r with
  | error e => exact hx e s' hq
  | ok fl =>
    cases fl with
    | ret u => exact I.after hq
    | next => exact False.elim hq
    | brk => exact False.elim hq
    | cont => exact False.elim hq
/-- the promise, as a caller uses it -/
theorem spF_of {K : PySem.W.Frag} {M : List Addr} {H : Hp} {vs dvs : List V} {E : XK} {Q : VK} {N : Nat} (s : StoreOk K M H S) (r : VReps K M H vs rs) (rd : ∀ M H, VReps K M H dvs drs) (hl : (rs ++ drs).length = N)
    (hF : ∀ (QR : It → Sto → Prop) (QE : Addr → Sto → Prop), (∀ r S', Qr r S' → QR r S') → (∀ C S', Qx C S' → QE C S') → F (rs ++ drs) S QR QE)
    (h1 : ∀ v M' H' r S', Ext M H M' H' → StoreOk K M' H' S' → VRep K M' H' v r → Qr r S' → Q v H') (h2 : ∀ M' H' C S', Ext M H M' H' → StoreOk K M' H' S' → Qx C S' → E (.ref C) none H') : spF K N F (vs ++ dvs) H Q E :=
  ⟨M, S, rs ++ drs, s, VReps.append r (rd M H), hl, hF _ _ (fun r S' q v M' H' e s' hv => h1 v M' H' r S' e s' hv q) fun C S' q M' H' e s' => h2 M' H' C S' e s' q⟩
/-- the wish about errors, at these slots -/
abbrev eAt (W : WX) (σ : Sig) : XK := fun cls d H => W cls d σ H
theorem evx_call (c : Cxo X W k) (O : OkF X.prog X.w X.K X.mg X.base j n ps drs F) (hj : j ≤ k) (ha : EvA X (e :: es) G S rs S1) (hl : (rs ++ drs).length = ps.length)
    (hF : ∀ (QR : It → Sto → Prop) (QE : Addr → Sto → Prop), (∀ r S', Qr r S' → QR r S') → (∀ C S', Qx C S' → QE C S') → F (rs ++ drs) S1 QR QE) (hg : Gl X n := by rfl) (hdb : (n == ("__debug__" : Str)) = false := by decide)
    (he : starEach (e :: es) X.env = (false, eval e X.env) :: starEach es X.env := by rfl) (hpl : (backTo pos (starEach es X.env)).any (·.1) = false := by rfl) : EvX X W (.Call (.Name n p) (e :: es) [] pos) G S Qr Qx := fun M σ H Q s h1 h2 pins s0 I => by
  obtain ⟨f, fd, dvs, dus, hm, hk, hb, hd, rd, ok⟩ := O.ex
  refine wpAny_Call_Name_kw (ld_glob I hg hm ?_ hdb)
  refine PySem.W.callWith_K (h₀ := X.base) I.ok.mod.kin hk ?_ he hpl
  refine thn ((pa_s (es := e :: es)).run pos pins s0 σ H _ I (ha M σ H (fun vs H1 => ∃ M1, Ext M H M1 H1 ∧ Stt X.K M1 H1 S1 G σ ∧ VReps X.K M1 H1 vs rs) s fun vs M' H' e' s' r' => ⟨M', e', s', r'⟩)) fun us s1 ⟨vs, H1, I1, r1, M1, e1, t1, q1⟩ => ⟨I1.kIn, ?_⟩
  exact run_fnAt (E := eAt W σ) ok (c.hr.mono hj) hb hd (fun e s' cx => passAt c.tk σ pins H1 s1 e s' I1 cx) I1 r1 (spF_of t1.sto q1 rd hl hF (fun v M' H' r S' e2 s2 hv q => h1 v M' H' r S' (e1.trans e2) (t1.mono e2 s2) hv q) fun M' H' C S' e2 s2 q => h2 M' H' C S' (e1.trans e2) (t1.mono e2 s2) q)
theorem evx_call0 (c : Cxo X W k) (O : OkF X.prog X.w X.K X.mg X.base j n ps drs F) (hj : j ≤ k) (hl : drs.length = ps.length)
    (hF : ∀ (QR : It → Sto → Prop) (QE : Addr → Sto → Prop), (∀ r S', Qr r S' → QR r S') → (∀ C S', Qx C S' → QE C S') → F drs S QR QE) (hg : Gl X n := by rfl) (hdb : (n == ("__debug__" : Str)) = false := by decide) : EvX X W (.Call (.Name n p) [] [] pos) G S Qr Qx := fun M σ H Q s h1 h2 pins s0 I => by
  obtain ⟨f, fd, dvs, dus, hm, hk, hb, hd, rd, ok⟩ := O.ex
  refine wpAny_Call_Name_kw (ld_glob I hg hm ?_ hdb)
  refine PySem.W.callWith_K0 I.kIn hk ?_
  exact run_fnAt (us := []) (E := eAt W σ) (vs := []) ok (c.hr.mono hj) hb hd (fun e s' cx => passAt c.tk σ pins H s0 e s' I cx) I .nil (spF_of (rs := []) s.sto .nil rd hl hF (fun v M' H' r S' e2 s2 hv q => h1 v M' H' r S' e2 (s.mono e2 s2) hv q) fun M' H' C S' e2 s2 q => h2 M' H' C S' e2 (s.mono e2 s2) q)
/-! ### instances -/
theorem fs_look {K : PySem.W.Frag} {M : List Addr} {H : Hp} {f : Str} : ∀ {ps : List (Str × V)} {fs : List (Str × It)}, Paired (fun (p : Str × V) (q : Str × It) => p.1 = q.1 ∧ VRep K M H p.2 q.2) ps fs →
    (∀ r, fs.lookup f = some r → ∃ v, ps.lookup f = some v ∧ VRep K M H v r) ∧ (fs.lookup f = none → ps.lookup f = none)
  | _, _, .nil => ⟨fun _ h => (nomatch (show (none : Option It) = some _ from h)), fun _ => rfl⟩
  | (pn, pv') :: ps, (qn, qv) :: fs, .cons h t => by
    obtain ⟨h1, h2⟩ := h
    have e : pn = qn := h1
    subst e
    obtain ⟨ih1, ih2⟩ := fs_look t
    rw [List.lookup_cons, List.lookup_cons]
    cases q : f == pn with
    | true => exact ⟨fun r e => ⟨pv', rfl, by cases e; exact h2⟩, fun e => (nomatch e)⟩
    | false => exact ⟨ih1, ih2⟩
/-- o.m(e, ..) -/
theorem evx_meth {fs : List (Str × It)} {i : Nat} {pl : Sem Bool} (c : Cxo X W k) (O : OkM X.prog X.w X.K X.mg X.base j C m ps drs F) (hj : j ≤ k) (ho : Ev X o G S (.o i) S1) (hi : S1[i]? = some (.ins C fs)) (ha : EvA X (e :: es) G S1 rs S2) (hl : (.o i :: (rs ++ drs) : List It).length = ps.length)
    (hF : ∀ (QR : It → Sto → Prop) (QE : Addr → Sto → Prop), (∀ r S', Qr r S' → QR r S') → (∀ C S', Qx C S' → QE C S') → F (.o i :: (rs ++ drs)) S2 QR QE) (hnm : fs.lookup m = none := by rfl)
    (hst : starEach (e :: es) X.env = (false, eval e X.env) :: starEach es X.env := by rfl) (hpl : (backTo pos (starEach es X.env)).any (·.1) = false := by rfl)
    (ht : eval (.Call (.Attribute o m apos) (e :: es) [] pos) X.env = (do
      let ov ← eval o X.env
      standAt apos.atName
      let (f, first) ← holding [ov] (getMethod ov m pl)
      callWith pos f first (backTo pos (starEach (e :: es) X.env)) (backToKw pos (keywordEach [] X.env))) := by rfl) : EvX X W (.Call (.Attribute o m apos) (e :: es) [] pos) G S Qr Qx := fun M σ H Q s h1 h2 pins s0 I => by
  obtain ⟨f, fd, dvs, dus, hc, hm, hb, hd, rd, ok⟩ := O.ex
  refine PySem.W.methodCall_KW (pl := pl) (thn ((pe_s (e := o)).run pins s0 σ H _ I (ho M σ H (fun v H1 => ∃ M1, Ext M H M1 H1 ∧ Stt X.K M1 H1 S1 G σ ∧ VRep X.K M1 H1 v (.o i)) s fun v M' H' e' s' r' => ⟨M', e', s', r'⟩)) fun u s1 ⟨v, H1, I1, rx, M1, e1, t1, q1⟩ => ?_) ht
  obtain ⟨ad, hmi, ev⟩ := id q1
  obtain ⟨dx, pf, hins, hpf⟩ := t1.sto.rep i ad _ hmi hi
  rw [ev] at rx
  obtain rfl : u = Value.ref ad := rx
  refine getmeth_ok I1 hins hc hm ((fs_look hpf).2 hnm) ?_
  refine PySem.W.callWith_K (first := [.ref ad]) (h₀ := X.base) I.ok.mod.kin hm.kp (thn ((pa_s (es := e :: es)).run pos pins s1 σ H1 _ I1 (ha M1 σ H1 (fun vs H2 => ∃ M2, Ext M1 H1 M2 H2 ∧ Stt X.K M2 H2 S2 G σ ∧ VReps X.K M2 H2 vs rs) t1 fun vs M' H' e' s' r' => ⟨M', e', s', r'⟩)) fun us s2 ⟨vs, H2, I2, r, M2, e2, t2, q2⟩ => ⟨I2.kIn, ?_⟩) hst hpl
  have q1' : VRep X.K M2 H2 (.ref ad) (.o i) := by rw [← ev]; exact q1.ext e2
  exact run_fnAt (E := eAt W σ) (us := .ref ad :: us) (vs := .ref ad :: vs) ok (c.hr.mono hj) hb hd (fun e s' cx => passAt c.tk σ pins H2 s2 e s' I2 cx) I2 (.cons rfl r)
    (spF_of (rs := .o i :: rs) t2.sto (.cons q1' q2) rd hl hF (fun v M' H' r S' e3 s3 hv q => h1 v M' H' r S' ((e1.trans e2).trans e3) (t2.mono e3 s3) hv q) fun M' H' C S' e3 s3 q => h2 M' H' C S' ((e1.trans e2).trans e3) (t2.mono e3 s3) q)
/-- o.m() -/
theorem evx_meth0 {fs : List (Str × It)} {i : Nat} {pl : Sem Bool} (c : Cxo X W k) (O : OkM X.prog X.w X.K X.mg X.base j C m ps drs F) (hj : j ≤ k) (ho : Ev X o G S (.o i) S1) (hi : S1[i]? = some (.ins C fs)) (hl : (.o i :: drs : List It).length = ps.length)
    (hF : ∀ (QR : It → Sto → Prop) (QE : Addr → Sto → Prop), (∀ r S', Qr r S' → QR r S') → (∀ C S', Qx C S' → QE C S') → F (.o i :: drs) S1 QR QE) (hnm : fs.lookup m = none := by rfl)
    (ht : eval (.Call (.Attribute o m apos) [] [] pos) X.env = (do
      let ov ← eval o X.env
      standAt apos.atName
      let (f, first) ← holding [ov] (getMethod ov m pl)
      callWith pos f first (backTo pos (starEach [] X.env)) (backToKw pos (keywordEach [] X.env))) := by rfl) : EvX X W (.Call (.Attribute o m apos) [] [] pos) G S Qr Qx := fun M σ H Q s h1 h2 pins s0 I => by
  obtain ⟨f, fd, dvs, dus, hc, hm, hb, hd, rd, ok⟩ := O.ex
  refine PySem.W.methodCall_KW (pl := pl) (thn ((pe_s (e := o)).run pins s0 σ H _ I (ho M σ H (fun v H1 => ∃ M1, Ext M H M1 H1 ∧ Stt X.K M1 H1 S1 G σ ∧ VRep X.K M1 H1 v (.o i)) s fun v M' H' e' s' r' => ⟨M', e', s', r'⟩)) fun u s1 ⟨v, H1, I1, rx, M1, e1, t1, q1⟩ => ?_) ht
  obtain ⟨ad, hmi, ev⟩ := id q1
  obtain ⟨dx, pf, hins, hpf⟩ := t1.sto.rep i ad _ hmi hi
  rw [ev] at rx q1
  obtain rfl : u = Value.ref ad := rx
  refine getmeth_ok I1 hins hc hm ((fs_look hpf).2 hnm) ?_
  exact PySem.W.callWith_K0 (first := [.ref ad]) I1.kIn hm.kp (run_fnAt (E := eAt W σ) (us := [.ref ad]) (vs := [.ref ad]) ok (c.hr.mono hj) hb hd (fun e s' cx => passAt c.tk σ pins H1 s1 e s' I1 cx) I1 (.cons rfl .nil)
    (spF_of (rs := [.o i]) t1.sto (.cons q1 .nil) rd hl hF (fun v M' H' r S' e3 s3 hv q => h1 v M' H' r S' (e1.trans e3) (t1.mono e3 s3) hv q) fun M' H' C S' e3 s3 q => h2 M' H' C S' (e1.trans e3) (t1.mono e3 s3) q))
/-- a new instance runs its __init__ -/
theorem run_makeAt {CX : CXT} {f : Addr} {fd : FuncData} {sp : Sp} {dvs : List V} {dvu : List Value} {E : XK} {pins : List (Addr × Obj)} {σ : Sig} {H : Hp} {s : Shared} {Q : VK} {us : List Value} {vs : List V} (M : Mk X.K C f) (F : FnOk X.prog X.w X.K X.mg X.base CX j f fd ps sp) (hr : Room (j + 1) X.A) (hb : Binds X.K fd ps dvu) (hd : L2.Vals dvs dvu)
    (hx : PassesAt CX X σ E) (I : Inv X pins σ H s) (r : L2.Vals vs us)
    (h : ∀ x dx, H x = none → H dx = none → dx ≠ x → sp (.ref x :: (vs ++ dvs)) (upd (upd H dx (.own x)) x (.ins C dx [])) (fun v H2 => v = .non ∧ Q (.ref x) H2) E) :
    wpAny (model X.prog X.w) X.A (call (.ref C) us) (EP X pins σ Q) X.xe s := by
  have hq := h (s.heap.objs.size + 1) s.heap.objs.size (I.hok.fresh (Nat.le_succ _)) (I.hok.fresh (Nat.le_refl _)) (Nat.ne_of_lt (Nat.lt_succ_self _))
  have I2 := Inv.made (C := C) I
  have r2 : L2.Vals (V.ref (s.heap.objs.size + 1) :: (vs ++ dvs)) (Value.ref (s.heap.objs.size + 1) :: (us ++ dvu)) := .cons rfl (r.append hd)
  have hl : (Value.ref (s.heap.objs.size + 1) :: us ++ dvu).length = ps.length := by
    have e := r2.length
    rw [F.len _ _ _ _ hq] at e
    exact e.symm
  refine wpAny_call (make_map (f := f) I.kIn M.makes M.init (beq_iff_eq.mp M.fn) (codeAny_mono (F.run _ X.stack _ _ ⟨Value.ref (s.heap.objs.size + 1) :: us, []⟩ (Value.ref (s.heap.objs.size + 1) :: (us ++ dvu)) _ _ E (hr.make C us [])
    (I2.env0.make C us []) (hb _ (Value.ref (s.heap.objs.size + 1) :: us) I2.kIn hl) r2 hq) fun r s' hq' => ?_))
  cases r with
  | error e => exact hx pins _ _ e s' I2 hq'
  | ok fl =>
    cases fl with
    | ret u =>
      obtain ⟨v, H', I3, rv, ev, q3⟩ := I2.after hq'
      subst ev
      exact ⟨rv, ⟨V.ref (s.heap.objs.size + 1), H', I3, rfl, q3⟩⟩
    | next => exact False.elim hq'
    | brk => exact False.elim hq'
    | cont => exact False.elim hq'
/-- C(e, ..) -/
theorem evx_make (c : Cxo X W k) (O : OkC X.prog X.w X.K X.mg X.base j C n ps drs F) (hj : j + 1 ≤ k) (ha : EvA X (e :: es) G S rs S1) (hl : (.o S1.length :: (rs ++ drs) : List It).length = ps.length)
    (hF : ∀ (QR : It → Sto → Prop) (QE : Addr → Sto → Prop), (∀ S', Qr (.o S1.length) S' → QR (.d .none) S') → (∀ C' S' S2 L, S' = S2 ++ L → S1.length ≤ S2.length → (ClS S' → ClS S2) → Qx C' S2 → QE C' S') → F (.o S1.length :: (rs ++ drs)) (S1 ++ [.ins C []]) QR QE)
    (hg : Gl X n := by rfl) (hdb : (n == ("__debug__" : Str)) = false := by decide)
    (he : starEach (e :: es) X.env = (false, eval e X.env) :: starEach es X.env := by rfl) (hpl : (backTo pos (starEach es X.env)).any (·.1) = false := by rfl) : EvX X W (.Call (.Name n p) (e :: es) [] pos) G S Qr Qx := fun M σ H Q s h1 h2 pins s0 I => by
  obtain ⟨f, fd, dvs, dus, hm, hk, hb, hd, rd, ok⟩ := O.ex
  refine wpAny_Call_Name_kw (ld_glob I hg hm ?_ hdb)
  refine PySem.W.callWith_K (h₀ := X.base) I.ok.mod.kin hk.kp ?_ he hpl
  refine thn ((pa_s (es := e :: es)).run pos pins s0 σ H _ I (ha M σ H (fun vs H1 => ∃ M1, Ext M H M1 H1 ∧ Stt X.K M1 H1 S1 G σ ∧ VReps X.K M1 H1 vs rs) s fun vs M' H' e' s' r' => ⟨M', e', s', r'⟩)) fun us s1 ⟨vs, H1, I1, r1, M1, e1, t1, q1⟩ => ⟨I1.kIn, ?_⟩
  refine run_makeAt (E := eAt W σ) hk ok (c.hr.mono hj) hb hd (fun pins' H' s' e s'' I' cx => passAt c.tk σ pins' H' s' e s'' I' cx) I1 r1 fun xa dx hxa hdx hne => ?_
  have hx' : (upd H1 dx (.own xa)) xa = none := by rw [upd_ne (Ne.symm hne)]; exact hxa
  have e2 : Ext M1 H1 M1 (upd H1 dx (.own xa)) := Ext.fresh hdx
  have e3 : Ext M1 (upd H1 dx (.own xa)) (M1 ++ [xa]) (upd (upd H1 dx (.own xa)) xa (.ins C dx [])) := Ext.own hx'
  have s3 : StoreOk X.K (M1 ++ [xa]) (upd (upd H1 dx (.own xa)) xa (.ins C dx [])) (S1 ++ [.ins C []]) := (t1.sto.fresh hdx).own hx' ⟨dx, [], upd_same, .nil⟩
  have hn : (M1 ++ [xa])[S1.length]? = some xa := by rw [← t1.sto.len, List.getElem?_append_right (Nat.le_refl _), Nat.sub_self]; rfl
  have q3 : VReps X.K (M1 ++ [xa]) (upd (upd H1 dx (.own xa)) xa (.ins C dx [])) (.ref xa :: vs) (.o S1.length :: rs) := .cons ⟨xa, hn, rfl⟩ (VReps.ext (e2.trans e3) q1)
  refine spF_of (Qr := fun r S' => r = .d .none ∧ Qr (.o S1.length) S') (Qx := fun C' S' => ∃ S2 L, S' = S2 ++ L ∧ S1.length ≤ S2.length ∧ (ClS S' → ClS S2) ∧ Qx C' S2) s3 q3 rd hl (fun QR QE k1 k2 => hF QR QE (fun S' q => k1 _ _ ⟨rfl, q⟩) fun C' S' S2 L h3 h4 h5 h6 => k2 _ _ ⟨S2, L, h3, h4, h5, h6⟩) (fun v M' H' r S' e4 s4 hv q => ?_) fun M' H' C' S' e4 s4 q => ?_
  · obtain ⟨hr0, q⟩ := q
    rw [hr0] at hv
    refine ⟨vr_none hv, h1 (.ref xa) M' H' (.o S1.length) S' (((e1.trans e2).trans e3).trans e4) (t1.mono ((e2.trans e3).trans e4) s4) ⟨xa, e4.get hn, rfl⟩ q⟩
  · obtain ⟨S2, L, rfl, hle, hcl, q⟩ := q
    have e5 : Ext M1 H1 (M'.take S2.length) H' := ((e2.trans e3).trans e4).take (by rw [t1.sto.len]; exact hle)
    exact h2 _ H' C' S2 (e1.trans e5) (t1.mono e5 (s4.take (hcl s4.closed))) q
/-- o.f -/
theorem ev_fld {fs : List (Str × It)} {f : Str} {i : Nat} (hc : Cls X.K C) (hn : NoAttr X.K C f) (ho : Ev X o G S (.o i) S1) (hi : S1[i]? = some (.ins C fs)) (hf : fs.lookup f = some r := by rfl) (hb : attributeBase o f X.env (eval o X.env) = eval o X.env := by rfl) : Ev X (.Attribute o f pos) G S r S1 := fun M σ H Q s q =>
  toE (pe_fld pe_s hb) (ho M σ H _ s fun v M1 H1 e1 t1 q1 => by
    obtain ⟨ad, hmi, ev⟩ := q1
    obtain ⟨dx, pf, hins, hpf⟩ := t1.sto.rep i ad _ hmi hi
    obtain ⟨u, hu, ru⟩ := (fs_look hpf).1 r hf
    exact ⟨ad, C, dx, pf, u, ev, hins, hc, hn, hu, q u M1 H1 e1 t1 ru⟩)
theorem put_paired {K : PySem.W.Frag} {M : List Addr} {H : Hp} {f : Str} {v : V} {r : It} (hv : VRep K M H v r) : ∀ {ps : List (Str × V)} {fs : List (Str × It)}, Paired (fun (p : Str × V) (q : Str × It) => p.1 = q.1 ∧ VRep K M H p.2 q.2) ps fs →
    fs.lookup f = none → Paired (fun (p : Str × V) (q : Str × It) => p.1 = q.1 ∧ VRep K M H p.2 q.2) (putF f v ps) (fs ++ [(f, r)])
  | _, _, .nil, _ => .cons ⟨rfl, hv⟩ .nil
  | (pn, pv') :: ps, (qn, qv) :: fs, .cons h t, hl => by
    obtain ⟨h1, h2⟩ := h
    have e : pn = qn := h1
    subst e
    rw [List.lookup_cons] at hl
    cases q : f == pn with
    | true => rw [q] at hl; cases hl
    | false =>
      rw [q] at hl
      have ne : pn ≠ f := fun z => by rw [z] at q; simp at q
      have e2 : putF f v ((pn, pv') :: ps) = (pn, pv') :: putF f v ps := by
        show (if pn = f then (pn, v) :: ps else (pn, pv') :: putF f v ps) = _
        rw [if_neg ne]
      rw [e2]
      exact .cons ⟨rfl, h2⟩ (put_paired hv t hl)
/-- o.f = e, f a new field -/
theorem ws_fldN {fs : List (Str × It)} {f : Str} {i : Nat} (hc : Cls X.K C) (hn : NoAttr X.K C f) (he : Ev X e G S r S1) (ho : Ev X o G S1 (.o i) S2) (hi : S2[i]? = some (.ins C fs)) (hf : fs.lookup f = none) (hlen : fs.length ≤ 100) (q : P.nx G (S2.set i (.ins C (fs ++ [(f, r)]))))
    (hs : swapsWith e (some (.Attribute o f pos')) pos.line X.env = pure false := by rfl) : WS X W (.Assign [.Attribute o f pos'] e pos) G S P := fun M σ H D s m =>
  toS (ps_fld pe_s pe_s hs) (he M σ H _ s fun v M1 H1 e1 t1 r1 => ho M1 σ H1 _ t1 fun u M2 H2 e2 t2 r2 => by
    obtain ⟨ad, hmi, ev⟩ := r2
    obtain ⟨dx, pf, hins, hpf⟩ := t2.sto.rep i ad _ hmi hi
    have e3 : Ext M2 H2 M2 (upd H2 ad (.ins C dx (putF f v pf))) := Ext.put (List.mem_of_getElem? hmi)
    have hpf' := Paired.mapP hpf fun _ _ (q : _ ∧ VRep X.K M2 H2 _ _) => (⟨q.1, q.2.ext e3⟩ : _ ∧ VRep X.K M2 (upd H2 ad (.ins C dx (putF f v pf))) _ _)
    have s3 := t2.sto.put (w := .ins C (fs ++ [(f, r)])) hmi ⟨dx, putF f v pf, upd_same, put_paired ((r1.ext e2).ext e3) hpf' hf⟩
    refine ⟨ad, C, dx, pf, ev, hins, hc, hn, by rw [Paired.length hpf]; omega, ?_⟩
    exact m.nx M2 σ _ G _ ((e1.trans e2).trans e3) (t2.mono e3 s3) q)
end
end Cu
/-! CuD: what is walked, loops, comprehensions. -/
namespace Cu
open PySem PySem.Spec PyProof.Rows L2
theorem fz_at {M : List Addr} {H : Hp} : ∀ {ds : List PyData} {vs : List V} {i : Nat} {v : V}, FzAll M H vs ds → vs[i]? = some v → ∃ d, ds[i]? = some d ∧ Fz M H v d
  | [], _, i, v, h, e => by cases h; simp at e
  | d :: ds, _, 0, v, h, e => by
    cases h with
    | cons h1 h2 =>
      cases e
      exact ⟨d, rfl, h1⟩
  | d :: ds, _, i + 1, v, h, e => by
    cases h with
    | cons h1 h2 => exact fz_at (i := i) h2 e
theorem reps_at {K : PySem.W.Frag} {M : List Addr} {H : Hp} : ∀ {rs : List It} {vs : List V} {i : Nat} {v : V}, VReps K M H vs rs → vs[i]? = some v → ∃ r, rs[i]? = some r ∧ VRep K M H v r
  | _, _, i, v, .nil, e => by simp at e
  | _, _, 0, v, .cons h1 h2, e => by
    cases e
    exact ⟨_, rfl, h1⟩
  | _, _, i + 1, v, .cons h1 h2, e => reps_at (i := i) h2 e
theorem reps_get {K : PySem.W.Frag} {M : List Addr} {H : Hp} : ∀ {rs : List It} {vs : List V} {i : Nat} {r : It}, VReps K M H vs rs → rs[i]? = some r → ∃ v, vs[i]? = some v ∧ VRep K M H v r
  | _, _, i, v, .nil, e => by simp at e
  | _, _, 0, v, .cons h1 h2, e => by
    cases e
    exact ⟨_, rfl, h1⟩
  | _, _, i + 1, v, .cons h1 h2, e => reps_get (i := i) h2 e
/-- the iterator J yields the items rs, one a turn, as long as the store is as C says -/
structure Wk (K : PySem.W.Frag) (J : L2.It) (C : Sto → Prop) (M1 : List Addr) (H1 : Hp) (rs : List It) : Prop where
  go : ∀ (i : Nat) (M' : List Addr) (H' : Hp) (S' : Sto), i < rs.length → Ext M1 H1 M' H' → StoreOk K M' H' S' → C S' → J.go i H'
  yl : ∀ (i : Nat) (M' : List Addr) (H' : Hp) (S' : Sto) (x : V) (H2 : Hp) (r : It), rs[i]? = some r → Ext M1 H1 M' H' → StoreOk K M' H' S' → C S' → J.yld i H' x H2 → Ext M' H' M' H2 ∧ StoreOk K M' H2 S' ∧ VRep K M' H2 x r
  st : ∀ (i : Nat) (M' : List Addr) (H' : Hp) (S' : Sto), rs.length ≤ i → Ext M1 H1 M' H' → StoreOk K M' H' S' → C S' → J.stop i H'
/-- iter walks rs -/
def EvI (X : Cx) (tg iter : Expr) (G : Gam) (S : Sto) (rs : List It) (C : Sto → Prop) (S1 : Sto) : Prop := ∃ wi : TI, PI X tg iter wi ∧ ∀ (M : List Addr) (σ : Sig) (H : Hp) (R : L2.It → Hp → Prop), Stt X.K M H S G σ →
  (∀ M1 H1 J, Ext M H M1 H1 → Stt X.K M1 H1 S1 G σ → Wk X.K J C M1 H1 rs → R J H1) → wi σ H R
abbrev anyS : Sto → Prop := fun _ => True
section
variable {X : Cx} {W : WX} {k j : Nat} {G G1 G2 : Gam} {S S1 S2 S3 : Sto} {P : Post} {e a b o iter tg elt : Expr} {es ifs : List Expr} {r y z : It} {rs : List It} {pos pos' p apos : Pos} {st : Stmt} {sts body : List Stmt} {ds : List PyData} {C : Sto → Prop}
theorem wk_list {K : PySem.W.Frag} {M1 : List Addr} {H1 : Hp} {ad : Addr} {xs : List V} (hL : NdL M1 H1 ad xs) (hA : FzAll M1 H1 xs ds) : Wk K (Itl K ad) anyS M1 H1 (ds.map .d) where
  go := fun i M' H' S' hi e s _ => ⟨xs, xs[i]'(by rw [fz_len hA]; simpa using hi), (hL.ext e).sq, List.getElem?_eq_getElem _⟩
  yl := fun i M' H' S' x H2 r hr e s _ y => by
    obtain ⟨rfl, y⟩ := y
    have hx := y xs (hL.ext e).sq
    obtain ⟨d, h1, h2⟩ := fz_at hA hx
    rw [List.getElem?_map, h1] at hr
    cases hr
    exact ⟨Ext.refl, s, Fz.ext e h2⟩
  st := fun i M' H' S' hi e s _ => ⟨xs, (hL.ext e).sq, by rw [fz_len hA]; simpa using hi⟩
theorem wk_tup {K : PySem.W.Frag} {M1 : List Addr} {H1 : Hp} {ad : Addr} {xs : List V} (hL : NdT M1 H1 ad xs) (hA : FzAll M1 H1 xs ds) : Wk K (Itt K ad) anyS M1 H1 (ds.map .d) where
  go := fun i M' H' S' hi e s _ => ⟨xs, xs[i]'(by rw [fz_len hA]; simpa using hi), (hL.ext e).sq, List.getElem?_eq_getElem _⟩
  yl := fun i M' H' S' x H2 r hr e s _ y => by
    obtain ⟨rfl, y⟩ := y
    have hx := y xs (hL.ext e).sq
    obtain ⟨d, h1, h2⟩ := fz_at hA hx
    rw [List.getElem?_map, h1] at hr
    cases hr
    exact ⟨Ext.refl, s, Fz.ext e h2⟩
  st := fun i M' H' S' hi e s _ => ⟨xs, (hL.ext e).sq, by rw [fz_len hA]; simpa using hi⟩
/-- a list of data -/
theorem evi_list (hi : Ev X iter G S (.d (.list ds)) S1) : EvI X tg iter G S (ds.map .d) anyS S1 := ⟨_, pi_list pe_s, fun M σ H R s q => hi M σ H _ s fun v M1 H1 e1 t1 r1 => by
  have r1' : Fz M1 H1 v (.list ds) := r1
  cases r1' with
  | lst hL hA => exact ⟨_, rfl, ⟨_, hL.sq⟩, q M1 H1 _ e1 t1 (wk_list hL hA)⟩⟩
/-- a tuple of data -/
theorem evi_tup (hi : Ev X iter G S (.d (.tuple ds)) S1) : EvI X tg iter G S (ds.map .d) anyS S1 := ⟨_, pi_tup pe_s, fun M σ H R s q => hi M σ H _ s fun v M1 H1 e1 t1 r1 => by
  have r1' : Fz M1 H1 v (.tuple ds) := r1
  cases r1' with
  | tup hL hA => exact ⟨_, rfl, ⟨_, hL.sq⟩, q M1 H1 _ e1 t1 (wk_tup hL hA)⟩⟩
/-- an owned list that stays as it is -/
theorem evi_own {n : Nat} (hi : Ev X iter G S (.o n) S1) (hn : S1[n]? = some (.lst rs)) : EvI X tg iter G S rs (fun S' => S'[n]? = some (.lst rs)) S1 := ⟨_, pi_list pe_s, fun M σ H R s q => hi M σ H _ s fun v M1 H1 e1 t1 r1 => by
  obtain ⟨ad, had, ev⟩ := r1
  obtain ⟨vs0, hv0, hr0⟩ := t1.sto.rep n ad _ had hn
  refine ⟨ad, ev, ⟨vs0, .of hv0⟩, q M1 H1 _ e1 t1 ⟨fun i M' H' S' hi e s hC => ?_, fun i M' H' S' x H2 r hr e s hC y => ?_, fun i M' H' S' hi e s hC => ?_⟩⟩
  · obtain ⟨vs, hv, hr⟩ := s.rep n ad _ (e.get had) hC
    exact ⟨vs, vs[i]'(by rw [hr.len]; exact hi), .of hv, List.getElem?_eq_getElem _⟩
  · obtain ⟨vs, hv, hr'⟩ := s.rep n ad _ (e.get had) hC
    obtain ⟨rfl, y⟩ := y
    have hx := y vs (.of hv)
    obtain ⟨r', h1, h2⟩ := reps_at hr' hx
    rw [hr] at h1
    cases h1
    exact ⟨Ext.refl, s, h2⟩
  · obtain ⟨vs, hv, hr⟩ := s.rep n ad _ (e.get had) hC
    exact ⟨vs, .of hv, by rw [hr.len]; exact hi⟩⟩
def rngI (lo : Int) (n : Nat) : List It := (List.range n).map fun (i : Nat) => It.d (.int (lo + (i : Int)))
theorem rngI_len (lo : Int) (n : Nat) : (rngI lo n).length = n := by unfold rngI; rw [List.length_map, List.length_range]
theorem rngI_at {lo : Int} {n i : Nat} {r : It} (h : (rngI lo n)[i]? = some r) : i < n ∧ r = .d (.int (lo + (i : Int))) := by
  unfold rngI at h
  rw [List.getElem?_map] at h
  cases e : (List.range n)[i]? with
  | none => rw [e] at h; cases h
  | some m =>
    rw [e] at h
    obtain ⟨hl, hm⟩ := List.getElem?_eq_some_iff.mp e
    rw [List.getElem_range] at hm
    subst hm
    cases h
    exact ⟨by simpa using hl, rfl⟩
theorem wk_range {K : PySem.W.Frag} {M1 : List Addr} {H1 : Hp} {lo : Int} {n : Nat} : Wk K (Itr lo n) anyS M1 H1 (rngI lo n) where
  go := fun i M' H' S' hi e s _ => by rw [rngI_len] at hi; exact hi
  yl := fun i M' H' S' x H2 r hr e s _ y => by
    obtain ⟨rfl, rfl⟩ := y
    obtain ⟨_, rfl⟩ := rngI_at hr
    exact ⟨Ext.refl, s, Fz.int _⟩
  st := fun i M' H' S' hi e s _ => by rw [rngI_len] at hi; exact hi
/-- range(n) -/
theorem evi_range1 {n : Int} {a1 : Expr} (hm : X.mg "range" = none) (hi : Ev X a1 G S (.d (.int n)) S1) (hb : -(2 ^ 62) ≤ n ∧ n < 2 ^ 62) (hR : Gl X "range" := by rfl) (hst : starEach [a1] X.env = [(false, eval a1 X.env)] := by rfl) : EvI X tg (.Call (.Name "range" p) [a1] [] pos') G S (rngI 0 n.toNat) anyS S1 :=
  ⟨_, pi_range1 hR hm pa_s hst, fun M σ H R s q => toA (pa_cons pe_s pa_nil hst) (hi M σ H _ s fun v M1 H1 e1 t1 r1 => ⟨n, by rw [vr_int r1], hb.1, hb.2, q M1 H1 _ e1 t1 wk_range⟩)⟩
/-- range(a, b) -/
theorem evi_range2 {lo hi : Int} {a1 a2 : Expr} (hm : X.mg "range" = none) (h1 : Ev X a1 G S (.d (.int lo)) S1) (h2 : Ev X a2 G S1 (.d (.int hi)) S2) (hb : -(2 ^ 62) ≤ lo ∧ lo < 2 ^ 62 ∧ -(2 ^ 62) ≤ hi ∧ hi < 2 ^ 62)
    (hR : Gl X "range" := by rfl) (hst : starEach [a1, a2] X.env = [(false, eval a1 X.env), (false, eval a2 X.env)] := by rfl) (hst2 : starEach [a2] X.env = [(false, eval a2 X.env)] := by rfl) : EvI X tg (.Call (.Name "range" p) [a1, a2] [] pos') G S (rngI lo (hi - lo).toNat) anyS S2 :=
  ⟨_, pi_range2 hR hm pa_s hst hst2, fun M σ H R s q => toA (pa_cons pe_s (pa_cons pe_s pa_nil hst2) (by rw [hst, hst2])) (h1 M σ H _ s fun v M1 H1 e1 t1 r1 => h2 M1 σ H1 _ t1 fun v2 M2 H2 e2 t2 r2 => ⟨lo, hi, by rw [vr_int r1, vr_int r2], hb, q M2 H2 _ (e1.trans e2) t2 wk_range⟩)⟩
/-- the wish of a loop's turn -/
abbrev Post.turn (P : Post) (N : Gam → Sto → Prop) : Post := { nx := N, ct := N, bk := P.nx, rt := P.rt, xc := P.xc }
/-- for x in what walks rs: J by the turn, the names, the store -/
theorem ws_for (c : Cxo X W k) (hi : EvI X tg iter G S rs C S1) (J : Nat → Gam → Sto → Prop) (tgt : It → Gam → Gam) (h0 : J 0 G S1) (hC : ∀ i G' S', J i G' S' → C S')
    (hg : ∀ i r G' S', rs[i]? = some r → J i G' S' → EvG X tg r G' S' (tgt r G') S')
    (hs : ∀ i r G' S', rs[i]? = some r → J i G' S' → WSs X W body (tgt r G') S' (P.turn (J (i + 1)))) (hd : ∀ G' S', J rs.length G' S' → P.nx G' S')
    (hf : ∀ x, foldedSetIterable iter X.env x = pure x := by intro _; rfl) : WS X W (.For tg iter body [] pos) G S P := fun M σ H D s m => by
  obtain ⟨wi, hpi, hw⟩ := hi
  refine toS (ps_for c.po c.calm hpi pg_s pss_s hf) (hw M σ H _ s fun M1 H1 Jt e1 t1 wk => ?_)
  refine ⟨fun i m' σ' H' => (m' = rs.length - i ∧ i ≤ rs.length) ∧ ∃ M' G' S', Ext M1 H1 M' H' ∧ Stt X.K M' H' S' G' σ' ∧ J i G' S', ⟨_, ⟨rfl, Nat.zero_le _⟩, M1, G, S1, Ext.refl, t1, h0⟩, fun i m' σ' H' hw => ?_⟩
  obtain ⟨⟨rfl, hi'⟩, M', G', S', e', t', hJ⟩ := hw
  have c' := hC i G' S' hJ
  by_cases hlt : i < rs.length
  · refine .inr ⟨wk.go i M' H' S' hlt e' t'.sto c', fun σ2 H2 => ∃ M2 G2 S2, Ext M1 H1 M2 H2 ∧ Stt X.K M2 H2 S2 G2 σ2 ∧ J (i + 1) G2 S2, fun σ2 H2 q => ⟨rs.length - (i + 1), by omega, ⟨rfl, by omega⟩, q⟩, fun x H2 y => ?_⟩
    have hri : rs[i]? = some rs[i] := List.getElem?_eq_getElem hlt
    obtain ⟨e2, s2, v2⟩ := wk.yl i M' H' S' x H2 _ hri e' t'.sto c' y
    have t2 : Stt X.K M' H2 S' G' σ' := t'.mono e2 s2
    have e12 := e'.trans e2
    refine hg i _ G' S' hri hJ M' σ' H2 x _ t2 v2 fun σ3 M3 H3 e3 t3 => ?_
    have e13 := e12.trans e3
    exact hs i _ G' S' hri hJ M3 σ3 H3 _ t3 ⟨fun M4 σ4 H4 G4 S4 x t q => ⟨M4, G4, S4, e13.trans x, t, q⟩, fun v M4 H4 r S4 x => m.rt v M4 H4 r S4 ((e1.trans e13).trans x), fun M4 σ4 H4 G4 S4 x => m.nx M4 σ4 H4 G4 S4 ((e1.trans e13).trans x), fun M4 σ4 H4 G4 S4 x t q => ⟨M4, G4, S4, e13.trans x, t, q⟩, fun M4 σ4 H4 G4 C4 S4 x => m.xc M4 σ4 H4 G4 C4 S4 ((e1.trans e13).trans x)⟩
  · have ei : i = rs.length := by omega
    subst ei
    exact .inl ⟨wk.st _ M' H' S' (Nat.le_refl _) e' t'.sto c', m.nx M' σ' H' G' S' (e1.trans e') t' (hd G' S' hJ)⟩
/-- while t: by a word of the names and the store, and a measure -/
theorem ws_while {t : Expr} (c : Cxo X W k) (J : Nat → Gam → Sto → Prop) (n0 : Nat) (h0 : J n0 G S)
    (hs : ∀ n G' S', J n G' S' → ∃ b S2, EvT X t G' S' b S2 ∧ (b = true → WSs X W body G' S2 (P.turn fun G3 S3 => ∃ n', n' < n ∧ J n' G3 S3)) ∧ (b = false → P.nx G' S2)) : WS X W (.While t body [] pos) G S P := fun M σ H D s m =>
  toS (ps_while c.po pt_s pss_s) (by
    refine ⟨fun n σ' H' => ∃ M' G' S', Ext M H M' H' ∧ Stt X.K M' H' S' G' σ' ∧ J n G' S', ⟨n0, M, G, S, Ext.refl, s, h0⟩, ?_⟩
    rintro n σ' H' ⟨M', G', S', e', t', hJ⟩
    obtain ⟨b, S2, hb, h1, h2⟩ := hs n G' S' hJ
    refine hb M' σ' H' _ t' fun M2 H2 e2 t2 => ?_
    cases b with
    | true =>
      refine iteT ⟨fun σ3 H3 => ∃ M3 G3 S3, Ext M H M3 H3 ∧ Stt X.K M3 H3 S3 G3 σ3 ∧ ∃ n', n' < n ∧ J n' G3 S3, fun σ3 H3 ⟨M3, G3, S3, e3, t3, n', hn', q⟩ => ⟨n', hn', M3, G3, S3, e3, t3, q⟩, ?_⟩
      exact h1 rfl M2 σ' H2 _ t2 ⟨fun M3 σ3 H3 G3 S3 x t q => ⟨M3, G3, S3, (e'.trans e2).trans x, t, q⟩, fun v M' H' r S' x => m.rt v M' H' r S' ((e'.trans e2).trans x), fun M' σ' H' G' S' x => m.nx M' σ' H' G' S' ((e'.trans e2).trans x), fun M3 σ3 H3 G3 S3 x t q => ⟨M3, G3, S3, (e'.trans e2).trans x, t, q⟩, fun M' σ' H' G' C S' x => m.xc M' σ' H' G' C S' ((e'.trans e2).trans x)⟩
    | false => exact iteF (m.nx M2 σ' H2 G' S2 (e'.trans e2) t2 (h2 rfl)))
end
/-! ### comprehensions -/
/-- the contexts of a comprehension's block -/
abbrev blkX (X : Cx) (scope : Scope) (s : Shared) (H : Hp) (C : Addr) (cl : List (Str × Addr)) (fp : List Addr) : Cx := X.blk s H scope (compEnvC scope cl C X.env) fp
theorem Cxo.blk {X : Cx} {W : WX} {k : Nat} (c : Cxo X W k) (scope : Scope) (s : Shared) (H : Hp) (C : Addr) (cl : List (Str × Addr)) (fp : List Addr) : Cxo (blkX X scope s H C cl fp) (fun _ _ _ _ => False) k :=
  ⟨c.calm, c.nd, fun _ _ x => by
    obtain ⟨_, _, _, _, _, _, _, _, _, _, _, _, _, _, _, _, z⟩ := x
    exact z.elim, PassesOwn.never, c.hr⟩
def wipeG (G : Gam) (vs : List Nat) : Gam := vs.foldr (fun i g => g.set i none) G
/-- a target of a comprehension: it stores into slots of vs alone -/
structure TgOk (X : Cx) (scope : Scope) (tg : Expr) (vs : List Nat) (bind : It → Gam → Option Gam) : Prop where
  ex : ∃ g : TG, (∀ s H C cl fp, PG (blkX X scope s H C cl fp) tg g) ∧ ∀ (M : List Addr) (H : Hp) (S : Sto) (G G' : Gam) (σ : Sig) (v : V) (r : It) (Q : Sig → Hp → Prop), Stt X.K M H S G σ → VRep X.K M H v r → bind r G = some G' →
    (∀ σ2, Stt X.K M H S G' σ2 → wipe σ2 vs = wipe σ vs → Q σ2 H) → g v σ H Q
theorem wipe_set {i : Nat} {v : Option V} : ∀ {vs : List Nat} (σ : Sig), i ∈ vs → wipe (σ.set i v) vs = wipe σ vs
  | j :: vs, σ, h => by
    show (wipe (σ.set i v) vs).set j none = (wipe σ vs).set j none
    by_cases hi : i ∈ vs
    · rw [wipe_set σ hi]
    · have e : i = j := by
        rcases List.mem_cons.mp h with q | q
        · exact q
        · exact absurd q hi
      subst e
      have out : ∀ {vs : List Nat}, i ∉ vs → wipe (σ.set i v) vs = (wipe σ vs).set i v := by
        intro vs
        induction vs with
        | nil => intro _; rfl
        | cons l r ih =>
          intro hn
          have h1 : i ≠ l := fun z => hn (by rw [z]; exact List.mem_cons_self)
          show (wipe (σ.set i v) r).set l none = ((wipe σ r).set l none).set i v
          rw [ih fun z => hn (List.mem_cons_of_mem _ z), List.set_comm _ _ h1]
      rw [out hi, List.set_set]
section
variable {X : Cx} {W : WX} {k j : Nat} {G G1 G2 : Gam} {S S1 S2 S3 : Sto} {P : Post} {e a b o iter tg elt : Expr} {es ifs : List Expr} {r y z : It} {rs : List It} {pos pos' p apos : Pos} {st : Stmt} {sts body : List Stmt} {ds : List PyData} {scope : Scope} {own : List (Str × Nat)} {vs : List Nat}
theorem tg_name (i : Nat) {n : Str} (nd : X.N.Nodup) (hv : i ∈ vs := by decide) (hi : X.N[i]? = some n := by rfl) (hx : scope.names.lookup n = some .local := by rfl) : TgOk X scope (.Name n pos) vs (fun r G => some (G.set i (some r))) := by
  refine ⟨gName i, fun s H C cl fp => ?_, fun M H S G G' σ v r Q t hr hb q => ?_⟩
  · have hx' : (relS scope X.env.scope).names.lookup n = some .local := lookup_relS_keep (by decide) hx
    exact pg_name (i := i) nd hi (.inl hx') (.inr hx')
  · cases hb
    exact q _ (t.set hr) (wipe_set σ hv)
def setAll : List Nat → List It → Gam → Option Gam
  | [], [], G => some G
  | i :: is, r :: rs, G => setAll is rs (G.set i (some r))
  | _, _, _ => none
theorem gs_names {s0 : Shared} {H0 : Hp} {C : Addr} {cl : List (Str × Addr)} {fp : List Addr} : ∀ {is : List Nat} {es : List Expr}, (∃ t : TGs, PGs (blkX X scope s0 H0 C cl fp) es t) → True := fun _ => trivial
/-- names in a tuple -/
def gNames : List Nat → TGs
  | [] => gNil
  | i :: is => gCons (gName i) (gNames is)
theorem gNames_ok : ∀ {is : List Nat} {rs : List It} {us : List V} {M : List Addr} {H : Hp} {S : Sto} {G G' : Gam} {σ : Sig} {Q : Sig → Hp → Prop}, (∀ i ∈ is, i ∈ vs) → Stt X.K M H S G σ → VReps X.K M H us rs → setAll is rs G = some G' →
    (∀ σ2, Stt X.K M H S G' σ2 → wipe σ2 vs = wipe σ vs → Q σ2 H) → gNames is us σ H Q
  | [], [], _, M, H, S, G, G', σ, Q, hm, t, r, hb, q => by
    cases r
    cases hb
    exact ⟨rfl, q σ t rfl⟩
  | i :: is, r :: rs, _, M, H, S, G, G', σ, Q, hm, t, hr, hb, q => by
    cases hr with
    | cons h1 h2 =>
      refine ⟨_, _, rfl, ?_⟩
      exact gNames_ok (fun j hj => hm j (List.mem_cons_of_mem _ hj)) (t.set h1) h2 hb fun σ2 t2 w2 => q σ2 t2 (w2.trans (wipe_set σ (hm i List.mem_cons_self)))
  | [], _ :: _, _, _, _, _, _, _, _, _, _, _, _, hb, _ => by cases hb
  | _ :: _, [], _, _, _, _, _, _, _, _, _, _, _, hb, _ => by cases hb
/-- (a, b, ..), the pairs' own PGs -/
theorem tg_tup {j : Nat} (is : List Nat) (hc : X.calm = true) (hp : ∀ s H C cl fp, PGs (blkX X scope s H C cl fp) es (gNames is)) (hv : ∀ i ∈ is, i ∈ vs := by decide) (hn : ∀ s H C cl fp, (assignEach es (blkX X scope s H C cl fp).env).length = is.length := by intros; rfl)
    (hst : ∀ s H C cl fp, (assignEach es (blkX X scope s H C cl fp).env).findIdx? (·.1) = none := by intros; rfl) : TgOk X scope (.Tuple es j pos) vs (fun r G => match r with | .d (.tuple ds) => setAll is (ds.map .d) G | _ => none) := by
  refine ⟨gTup X.K is.length (gNames is), fun s H C cl fp => pg_tup (X := blkX X scope s H C cl fp) hc (hp s H C cl fp) (hn s H C cl fp) (hst s H C cl fp), fun M H S G G' σ v r Q t hr hb q => ?_⟩
  cases r with
  | d x =>
    cases x with
    | tuple ds =>
      have hr' : Fz M H v (.tuple ds) := hr
      cases hr' with
      | tup hT hA =>
        have hlen : ∀ {is : List Nat} {rs : List It} {G G' : Gam}, setAll is rs G = some G' → rs.length = is.length := by
          intro is
          induction is with
          | nil => intro rs G G' h; cases rs with | nil => rfl | cons _ _ => cases h
          | cons i r ih => intro rs G G' h; cases rs with | nil => cases h | cons x xs => exact congrArg Nat.succ (ih h)
        have hl := hlen (show setAll is (ds.map It.d) G = some G' from hb)
        rw [List.length_map] at hl
        exact ⟨_, _, rfl, hT.sq, (fz_len hA).trans hl, gNames_ok hv t (fz_reps hA) hb q⟩
    | _ => cases hb
  | _ => cases hb
theorem pgs_names_nil {X : Cx} : PGs X [] (gNames []) := pgs_nil
theorem pgs_names_cons {X : Cx} {i : Nat} {is : List Nat} {e : Expr} {es : List Expr} (h1 : PG X e (gName i)) (h2 : PGs X es (gNames is)) (hs : (assignEach (e :: es) X.env).map (·.2) = assign e X.env :: (assignEach es X.env).map (·.2) := by rfl) : PGs X (e :: es) (gNames (i :: is)) := pgs_cons h1 h2 hs
theorem pg_blk (i : Nat) {n : Str} {s : Shared} {H : Hp} {C : Addr} {cl : List (Str × Addr)} {fp : List Addr} (nd : X.N.Nodup) (hi : X.N[i]? = some n := by rfl) (hx : scope.names.lookup n = some .local := by rfl) : PG (blkX X scope s H C cl fp) (.Name n pos) (gName i) :=
  have hx' : (relS scope X.env.scope).names.lookup n = some .local := lookup_relS_keep (by decide) hx
  pg_name (i := i) nd hi (.inl hx') (.inr hx')
/-- the tests, the element of a block, in any context of it -/
def tTs (X : Cx) (scope : Scope) (ifs : List Expr) : TT := fun σ H Q => ∀ s0 H0 C cl fp, match ifs with
  | [] => Q true H
  | [t] => sT (blkX X scope s0 H0 C cl fp) t σ H Q
  | _ => False
def tEl (X : Cx) (scope : Scope) (elt : Expr) : TE := fun σ H Q => ∀ s0 H0 C cl fp, sE (blkX X scope s0 H0 C cl fp) elt σ H Q
/-- tests of a comprehension -/
def EvTs (X : Cx) (ifs : List Expr) (G : Gam) (S : Sto) (b : Bool) : Prop := match ifs with
  | [] => b = true
  | [t] => EvT X t G S b S
  | _ => False
/-- the new list of a comprehension, as it is filled -/
theorem lc_reads {bind : It → Gam → Option Gam} {out : List PyData} {C : Sto → Prop} (c : Cxo X W k) (hi : EvI X tg iter G S rs C S1) (ht : TgOk X scope tg (own.map (·.2)) bind) (J : Nat → List PyData → Sto → Prop) (h0 : J 0 [] S1) (hC : ∀ i acc S', J i acc S' → ∀ L, C (S' ++ L))
    (hs : ∀ i r acc S', rs[i]? = some r → J i acc S' → S'.length = S1.length → ∃ G' b, bind r (wipeG G (own.map (·.2))) = some G' ∧ (∀ L s H C cl fp, EvTs (blkX X scope s H C cl fp) ifs G' (S' ++ L) b) ∧
      (b = true → ∃ y S3, S3.length = S1.length ∧ (∀ L s H C cl fp, Ev (blkX X scope s H C cl fp) elt G' (S' ++ L) (.d y) (S3 ++ L)) ∧ J (i + 1) (acc ++ [y]) S3) ∧ (b = false → J (i + 1) acc S'))
    (hd : ∀ acc S', J rs.length acc S' → acc = out ∧ S' = S2) (hz : rs.length ≤ 1000000) (hcl : ClS S1 → ClS S2) :
    ∃ (wi : TI) (g : TG), PI X tg iter wi ∧ (∀ s H C cl fp, PG (blkX X scope s H C cl fp) tg g) ∧ ∀ (M : List Addr) (σ : Sig) (H : Hp) (Q : VK), Stt X.K M H S G σ → (∀ v M' H', Ext M H M' H' → Stt X.K M' H' S2 G σ → VRep X.K M' H' v (.d (.list out)) → Q v H') →
      tLc wi g (tTs X scope ifs) (tEl X scope elt) (own.map (·.2)) σ H Q := by
  obtain ⟨g, hpg, hg⟩ := ht.ex
  obtain ⟨wi, hpi, hw⟩ := hi
  refine ⟨wi, g, hpi, hpg, fun M σ H Q s q => hw M σ H _ s fun M1 H1 Jt e1 t1 wk => ?_⟩
  intro D hD
  have eD : Ext M1 H1 (M1 ++ [D]) (upd H1 D (.lst [])) := Ext.own hD
  have lenM : ∀ {M' : List Addr} {H' : Hp} {S' : Sto} {acc : List PyData}, StoreOk X.K M' H' (S' ++ [Own.lst (acc.map .d)]) → S'.length = S1.length → Ext (M1 ++ [D]) (upd H1 D (.lst [])) M' H' → M' = M1 ++ [D] := fun {M' H' S' acc} s' hl e' => by
    obtain ⟨L, eL⟩ := e'.pre
    have h1 := s'.len
    rw [eL, List.length_append, List.length_append, List.length_append, t1.sto.len] at h1
    have h2 : L.length = 0 := by
      have : [D].length = 1 := rfl
      have : [Own.lst (acc.map .d)].length = 1 := rfl
      omega
    rw [eL, List.eq_nil_of_length_eq_zero h2, List.append_nil]
  have ww : ∀ (vs us : List Nat) (σ : Sig), (∀ v ∈ us, v ∈ vs) → wipe (wipe σ us) vs = wipe σ vs := by
    intro vs us
    induction us with
    | nil => intro σ _; rfl
    | cons u r ih =>
      intro σ hm
      show wipe ((wipe σ r).set u none) vs = _
      rw [wipe_set _ (hm u List.mem_cons_self), ih σ fun v hv => hm v (List.mem_cons_of_mem _ hv)]
  have hDn : (M1 ++ [D])[S1.length]? = some D := by rw [← t1.sto.len, List.getElem?_append_right (Nat.le_refl _), Nat.sub_self]; rfl
  refine ⟨fun i m' H' => (m' = rs.length - i ∧ i ≤ rs.length) ∧ ∃ S' acc, S'.length = S1.length ∧ Ext (M1 ++ [D]) (upd H1 D (.lst [])) (M1 ++ [D]) H' ∧ Stt X.K (M1 ++ [D]) H' (S' ++ [.lst (acc.map .d)]) G σ ∧ acc.length ≤ i ∧ J i acc S',
    ⟨_, ⟨rfl, Nat.zero_le _⟩, S1, [], rfl, Ext.refl, t1.mono eD (t1.sto.own (w := .lst ([] : List It)) hD ⟨[], upd_same, .nil⟩), Nat.le_refl _, h0⟩, fun i m' H' hw' => ?_⟩
  obtain ⟨⟨rfl, hi'⟩, S', acc, hl', e', t', hacc, hJ⟩ := hw'
  have cS := hC i acc S' hJ [.lst (acc.map .d)]
  by_cases hlt : i < rs.length
  · refine .inr ⟨wk.go i _ H' _ hlt (eD.trans e') t'.sto cS, fun H2 => ∃ S' acc, S'.length = S1.length ∧ Ext (M1 ++ [D]) (upd H1 D (.lst [])) (M1 ++ [D]) H2 ∧ Stt X.K (M1 ++ [D]) H2 (S' ++ [.lst (acc.map .d)]) G σ ∧ acc.length ≤ i + 1 ∧ J (i + 1) acc S', fun H2 q => ⟨rs.length - (i + 1), by omega, ⟨rfl, by omega⟩, q⟩, fun x H2 y => ?_⟩
    have hri : rs[i]? = some rs[i] := List.getElem?_eq_getElem hlt
    obtain ⟨ey, sy, vy⟩ := wk.yl i _ H' _ x H2 _ hri (eD.trans e') t'.sto cS y
    have ty : Stt X.K (M1 ++ [D]) H2 (S' ++ [.lst (acc.map .d)]) G σ := t'.mono ey sy
    have e2 := e'.trans ey
    obtain ⟨G', b, hb, hT, hy, hn⟩ := hs i _ acc S' hri hJ hl'
    refine hg (M1 ++ [D]) H2 (S' ++ [.lst (acc.map .d)]) (wipeG G (own.map (·.2))) G' (wipe σ (own.map (·.2))) x rs[i] _ (ty.wipe _) vy hb ?_
    intro σ2 t2 w2
    refine ⟨w2.trans (ww _ _ _ fun _ h => h), ?_⟩
    -- behind the tests
    have fin : ∀ (H3 : Hp), Ext (M1 ++ [D]) H2 (M1 ++ [D]) H3 → Stt X.K (M1 ++ [D]) H3 (S' ++ [.lst (acc.map .d)]) G' σ2 → (if b = true then tEl X scope elt σ2 H3 fun y H4 => ∃ acc, H4 D = some (.lst acc) ∧ acc.length < sizeLine ∧ ∃ S' acc_1, S'.length = S1.length ∧ Ext (M1 ++ [D]) (upd H1 D (.lst [])) (M1 ++ [D]) (upd H4 D (.lst (acc ++ [y]))) ∧ Stt X.K (M1 ++ [D]) (upd H4 D (.lst (acc ++ [y]))) (S' ++ [.lst (acc_1.map .d)]) G σ ∧ acc_1.length ≤ i + 1 ∧ J (i + 1) acc_1 S'
        else ∃ S' acc, S'.length = S1.length ∧ Ext (M1 ++ [D]) (upd H1 D (.lst [])) (M1 ++ [D]) H3 ∧ Stt X.K (M1 ++ [D]) H3 (S' ++ [.lst (acc.map .d)]) G σ ∧ acc.length ≤ i + 1 ∧ J (i + 1) acc S') := by
      intro H3 e3 t3
      cases b with
      | false => exact iteF ⟨S', acc, hl', e2.trans e3, ty.mono e3 t3.sto, Nat.le_succ_of_le hacc, hn rfl⟩
      | true =>
        refine iteT fun s0 H0 C cl fp => ?_
        obtain ⟨y, S3, hl3, hE, hJ3⟩ := hy rfl
        refine hE [.lst (acc.map .d)] s0 H0 C cl fp (M1 ++ [D]) σ2 H3 _ t3 fun v4 M4 H4 e4 t4 r4 => ?_
        obtain rfl : M4 = M1 ++ [D] := lenM t4.sto hl3 ((e2.trans e3).trans e4)
        have hSn : (S3 ++ [Own.lst (acc.map .d)])[S1.length]? = some (.lst (acc.map .d)) := by rw [← hl3, List.getElem?_append_right (Nat.le_refl _), Nat.sub_self]; rfl
        obtain ⟨vs4, hv4, hr4⟩ := t4.sto.rep _ _ _ hDn hSn
        have hl4 : vs4.length = acc.length := by rw [hr4.len, List.length_map]
        have e5 : Ext (M1 ++ [D]) H4 (M1 ++ [D]) (upd H4 D (.lst (vs4 ++ [v4]))) := Ext.put (List.mem_of_getElem? hDn)
        have s5 := t4.sto.put (w := .lst ((acc ++ [y]).map .d)) hDn ⟨vs4 ++ [v4], upd_same, by
          rw [List.map_append]
          exact VReps.append (VReps.ext e5 hr4) (.cons (r4.ext e5) .nil)⟩
        have hset : (S3 ++ [Own.lst (acc.map It.d)]).set S1.length (.lst ((acc ++ [y]).map .d)) = S3 ++ [.lst ((acc ++ [y]).map .d)] := by
          rw [← hl3, List.set_append_right _ _ (Nat.le_refl _), Nat.sub_self]
          rfl
        rw [hset] at s5
        refine ⟨vs4, hv4, ?_, S3, acc ++ [y], hl3, ((e2.trans e3).trans e4).trans e5, ty.mono ((e3.trans e4).trans e5) s5, by rw [List.length_append]; exact Nat.succ_le_succ hacc, hJ3⟩
        rw [sizeLine_eq]
        omega
    intro s0 H0 C cl fp
    have hT' := hT [.lst (acc.map .d)] s0 H0 C cl fp
    cases ifs with
    | nil =>
      have hb1 : b = true := hT'
      have f0 := fin H2 Ext.refl t2
      rw [hb1] at f0
      exact f0
    | cons tt r =>
      cases r with
      | nil =>
        refine hT' (M1 ++ [D]) σ2 H2 _ t2 fun M4 H4 e4 t4 => ?_
        obtain rfl : M4 = M1 ++ [D] := lenM t4.sto hl' (e2.trans e4)
        exact fin H4 e4 t4
      | cons _ _ => exact hT'.elim
  · have ei : i = rs.length := by omega
    subst ei
    refine .inl ⟨wk.st _ _ H' _ (Nat.le_refl _) (eD.trans e') t'.sto cS, ?_⟩
    obtain ⟨rfl, rfl⟩ := hd acc S' hJ
    have hSn : (S' ++ [Own.lst (acc.map .d)])[S1.length]? = some (.lst (acc.map .d)) := by rw [← hl', List.getElem?_append_right (Nat.le_refl _), Nat.sub_self]; rfl
    obtain ⟨vs4, hv4, hr4⟩ := t'.sto.rep _ _ _ hDn hSn
    have eT : (M1 ++ [D]).take S'.length = M1 := by rw [hl', ← t1.sto.len]; exact List.take_left ..
    have s6 := t'.sto.take (hcl t1.sto.closed)
    rw [eT] at s6
    have e6 : Ext M1 H1 M1 H' := by
      have := (eD.trans e').take (n := M1.length) (Nat.le_refl _)
      rwa [List.take_left] at this
    have hds : ∀ acc : List PyData, ds? (acc.map It.d) = some acc := by
      intro acc
      induction acc with
      | nil => rfl
      | cons x r ih => show (ds? (r.map It.d)).map (x :: ·) = _; rw [ih]; rfl
    exact q (.ref D) M1 H' (e1.trans e6) (t1.mono e6 s6) (Fz.lst ⟨.inl hv4, t1.sto.nin hD⟩ (FzAll.less (fun _ h => List.mem_append_left _ h) (fz_all (hds acc) hr4)))
theorem pts_tTs (s0 : Shared) (H0 : Hp) (C : Addr) (cl : List (Str × Addr)) (fp : List Addr) : PTs (blkX X scope s0 H0 C cl fp) ifs (tTs X scope ifs) := by
  cases ifs with
  | nil => exact ⟨fun pins s1 σ1 H1 Q1 I1 h1 => (pts_nil (X := blkX X scope s0 H0 C cl fp)).run pins s1 σ1 H1 Q1 I1 (h1 s0 H0 C cl fp)⟩
  | cons t r =>
    cases r with
    | nil => exact ⟨fun pins s1 σ1 H1 Q1 I1 h1 => (pts_one (pt_s (X := blkX X scope s0 H0 C cl fp) (e := t))).run pins s1 σ1 H1 Q1 I1 (h1 s0 H0 C cl fp)⟩
    | cons _ _ => exact ⟨fun pins s1 σ1 H1 Q1 I1 h1 => (h1 s0 H0 C cl fp).elim⟩
theorem pe_tEl (s0 : Shared) (H0 : Hp) (C : Addr) (cl : List (Str × Addr)) (fp : List Addr) : PE (blkX X scope s0 H0 C cl fp) elt (tEl X scope elt) := ⟨fun pins s1 σ1 H1 Q1 I1 h1 => h1 s0 H0 C cl fp pins s1 I1⟩
/-- what a comprehension asks: source, target, turns; data come of it -/
structure LcOk (X : Cx) (scope : Scope) (own : List (Str × Nat)) (elt tg iter : Expr) (ifs : List Expr) (G : Gam) (S : Sto) (out : List PyData) (S2 : Sto) : Prop where
  ex : ∃ (wi : TI) (g : TG), PI X tg iter wi ∧ (∀ s H C cl fp, PG (blkX X scope s H C cl fp) tg g) ∧ ∀ (M : List Addr) (σ : Sig) (H : Hp) (Q : VK), Stt X.K M H S G σ → (∀ v M' H', Ext M H M' H' → Stt X.K M' H' S2 G σ → VRep X.K M' H' v (.d (.list out)) → Q v H') →
      tLc wi g (tTs X scope ifs) (tEl X scope elt) (own.map (·.2)) σ H Q
/-- nothing that is owned changes: each item gives by f whether, by gg what -/
theorem lc_pure {bind : It → Gam → Option Gam} {C : Sto → Prop} (c : Cxo X W k) (hi : EvI X tg iter G S rs C S1) (ht : TgOk X scope tg (own.map (·.2)) bind) (f : It → Bool) (gg : It → PyData) (hC : ∀ L, C (S1 ++ L))
    (hs : ∀ r ∈ rs, ∃ G', bind r (wipeG G (own.map (·.2))) = some G' ∧ (∀ L s H C cl fp, EvTs (blkX X scope s H C cl fp) ifs G' (S1 ++ L) (f r)) ∧ (f r = true → ∀ L s H C cl fp, Ev (blkX X scope s H C cl fp) elt G' (S1 ++ L) (.d (gg r)) (S1 ++ L))) (hz : rs.length ≤ 1000000) :
    LcOk X scope own elt tg iter ifs G S ((rs.filter f).map gg) S1 := by
  refine ⟨lc_reads c hi ht (fun i acc S' => S' = S1 ∧ acc = ((rs.take i).filter f).map gg) ⟨rfl, rfl⟩ (fun i acc S' h L => by rw [h.1]; exact hC L) (fun i r acc S' hr hJ _ => ?_) (fun acc S' hJ => ?_) hz fun h => h⟩
  · obtain ⟨rfl, rfl⟩ := hJ
    obtain ⟨G', h1, h2, h3⟩ := hs r (List.mem_of_getElem? hr)
    have et : rs.take (i + 1) = rs.take i ++ [r] := by rw [List.take_add_one, hr]; rfl
    refine ⟨G', f r, h1, h2, fun hf => ⟨gg r, S', rfl, h3 hf, rfl, ?_⟩, fun hf => ⟨rfl, ?_⟩⟩
    · rw [et, List.filter_append, List.map_append]
      congr 1
      simp [hf]
    · rw [et, List.filter_append]
      simp [hf]
  · obtain ⟨rfl, rfl⟩ := hJ
    rw [List.take_length]
    exact ⟨rfl, rfl⟩
theorem ev_lc {out : List PyData} (c : Cxo X W k) (ok : BlkOk X.N X.env.scope scope own) (h : LcOk X scope own elt tg iter ifs G S out S2) (hf : ∀ x, foldedSetIterable iter X.env x = pure x := by intro _; rfl) : Ev X (.ListComp elt [⟨tg, iter, ifs, 0⟩] scope pos) G S (.d (.list out)) S2 := fun M σ H Q s q => by
  obtain ⟨wi, g, hpi, hpg, h⟩ := h.ex
  exact toE (pe_lc c.calm c.nd hpi ok hpg pts_tTs pe_tEl hf) (h M σ H Q s q)
/-- y = [..], y a local -/
theorem ws_setLc {out : List PyData} (i : Nat) {n : Str} (c : Cxo X W k) (ok : BlkOk X.N X.env.scope scope own) (h : LcOk X scope own elt tg iter ifs G S out S2) (q : P.nx (G.set i (some (.d (.list out)))) S2) (hy : X.N[i]? = some n := by rfl) (hyl : X.env.scope.names.lookup n = some .local := by rfl)
    (hsw : swapsWith (.ListComp elt [⟨tg, iter, ifs, 0⟩] scope pos) (some (.Name n pos')) apos.line X.env = pure true := by exact sw_true rfl rfl rfl (by decide +kernel)) (hf : ∀ x, foldedSetIterable iter X.env x = pure x := by intro _; rfl) : WS X W (.Assign [.Name n pos'] (.ListComp elt [⟨tg, iter, ifs, 0⟩] scope pos) apos) G S P := fun M σ H D s m => by
  obtain ⟨wi, g, hpi, hpg, h⟩ := h.ex
  exact toS (ps_setLc (i := i) c.calm c.nd hy hyl hsw hpi ok hpg pts_tTs pe_tEl hf) (h M σ H _ s fun v M1 H1 e1 t1 r1 => m.nx M1 _ H1 _ S2 e1 (t1.set r1) q)
end
end Cu
/-! CuE: operators, built-ins, methods of built-in types, over data. -/
namespace Cu
open PySem PySem.Spec PyProof.Rows L2
section
variable {X : Cx} {W : WX} {k j : Nat} {G G1 G2 : Gam} {S S1 S2 S3 : Sto} {P : Post} {e a b o iter tg elt : Expr} {es ifs : List Expr} {r y z : It} {rs : List It} {pos pos' p apos : Pos} {st : Stmt} {sts body : List Stmt} {ds : List PyData} {C : Sto → Prop} {m n : Int}
/-! ### whole numbers -/
theorem rw_int {f : Int → Int → Int} : RW2 X (rI0 fun i j => .int (f i j)) (.d (.int m)) (.d (.int n)) S (.d (.int (f m n))) S := fun M H v u Q s hv hu q =>
  ⟨m, n, vr_int hv, vr_int hu, q _ M H Ext.refl s (Fz.int _)⟩
theorem rw_intB {f : Int → Int → Bool} : RW2 X (rI0 fun i j => .bl (f i j)) (.d (.int m)) (.d (.int n)) S (.d (.bool (f m n))) S := fun M H v u Q s hv hu q =>
  ⟨m, n, vr_int hv, vr_int hu, q _ M H Ext.refl s (Fz.bl _)⟩
theorem rw_intC {D : Int → Int → Prop} {f : Int → Int → Int} (h : D m n) : RW2 X (rI D fun i j => .int (f i j)) (.d (.int m)) (.d (.int n)) S (.d (.int (f m n))) S := fun M H v u Q s hv hu q =>
  ⟨m, n, vr_int hv, vr_int hu, h, q _ M H Ext.refl s (Fz.int _)⟩
theorem ev_add (ha : Ev X a G S (.d (.int m)) S1) (hb : Ev X b G S1 (.d (.int n)) S2) : Ev X (.BinOp a .Add b pos) G S (.d (.int (m + n))) S2 := ev_op op_add ha hb rw_int
theorem ev_sub (ha : Ev X a G S (.d (.int m)) S1) (hb : Ev X b G S1 (.d (.int n)) S2) : Ev X (.BinOp a .Sub b pos) G S (.d (.int (m - n))) S2 := ev_op op_sub ha hb rw_int
theorem ev_mul (ha : Ev X a G S (.d (.int m)) S1) (hb : Ev X b G S1 (.d (.int n)) S2) (h : CMul m n) : Ev X (.BinOp a .Mult b pos) G S (.d (.int (m * n))) S2 := ev_op op_mul ha hb (rw_intC h)
theorem ev_fdiv (ha : Ev X a G S (.d (.int m)) S1) (hb : Ev X b G S1 (.d (.int n)) S2) (h : CDiv m n) : Ev X (.BinOp a .FloorDiv b pos) G S (.d (.int (m / n))) S2 := ev_op op_fdiv ha hb (rw_intC h)
theorem ev_mod (ha : Ev X a G S (.d (.int m)) S1) (hb : Ev X b G S1 (.d (.int n)) S2) (h : 0 < n) : Ev X (.BinOp a .Mod b pos) G S (.d (.int (m % n))) S2 := ev_op op_mod ha hb (rw_intC (D := fun _ j => 0 < j) h)
theorem ev_pow (ha : Ev X a G S (.d (.int m)) S1) (hb : Ev X b G S1 (.d (.int n)) S2) (h : CPow m n) : Ev X (.BinOp a .Pow b pos) G S (.d (.int (m ^ n.toNat))) S2 := ev_op op_pow ha hb (rw_intC h)
theorem ev_neg (ha : Ev X a G S (.d (.int m)) S1) : Ev X (.UnaryOp .USub a pos) G S (.d (.int (-m))) S1 := ev_un un_neg ha fun M H v Q s hv q => ⟨m, vr_int hv, q _ M H Ext.refl s (Fz.int _)⟩
theorem ev_lt (ha : Ev X a G S (.d (.int m)) S1) (hb : Ev X b G S1 (.d (.int n)) S2) : Ev X (.Compare a [.Lt] [b] pos) G S (.d (.bool (decide (m < n)))) S2 := ev_cmp op_lt ha hb rw_intB
theorem ev_le (ha : Ev X a G S (.d (.int m)) S1) (hb : Ev X b G S1 (.d (.int n)) S2) : Ev X (.Compare a [.LtE] [b] pos) G S (.d (.bool (decide (m ≤ n)))) S2 := ev_cmp op_le ha hb rw_intB
theorem ev_gt (ha : Ev X a G S (.d (.int m)) S1) (hb : Ev X b G S1 (.d (.int n)) S2) : Ev X (.Compare a [.Gt] [b] pos) G S (.d (.bool (decide (n < m)))) S2 := ev_cmp (rr := rI0 fun i j => .bl (decide (j < i))) op_gt ha hb (rw_intB (f := fun i j => decide (j < i)))
theorem ev_ge (ha : Ev X a G S (.d (.int m)) S1) (hb : Ev X b G S1 (.d (.int n)) S2) : Ev X (.Compare a [.GtE] [b] pos) G S (.d (.bool (decide (n ≤ m)))) S2 := ev_cmp (rr := rI0 fun i j => .bl (decide (j ≤ i))) op_ge ha hb (rw_intB (f := fun i j => decide (j ≤ i)))
theorem evt_lt (ha : Ev X a G S (.d (.int m)) S1) (hb : Ev X b G S1 (.d (.int n)) S2) : EvT X (.Compare a [.Lt] [b] pos) G S (decide (m < n)) S2 := evt_cmp op_lt ha hb rw_intB
theorem evt_le (ha : Ev X a G S (.d (.int m)) S1) (hb : Ev X b G S1 (.d (.int n)) S2) : EvT X (.Compare a [.LtE] [b] pos) G S (decide (m ≤ n)) S2 := evt_cmp op_le ha hb rw_intB
theorem evt_gt (ha : Ev X a G S (.d (.int m)) S1) (hb : Ev X b G S1 (.d (.int n)) S2) : EvT X (.Compare a [.Gt] [b] pos) G S (decide (n < m)) S2 := evt_cmp (rr := rI0 fun i j => .bl (decide (j < i))) op_gt ha hb (rw_intB (f := fun i j => decide (j < i)))
theorem evt_ge (ha : Ev X a G S (.d (.int m)) S1) (hb : Ev X b G S1 (.d (.int n)) S2) : EvT X (.Compare a [.GtE] [b] pos) G S (decide (n ≤ m)) S2 := evt_cmp (rr := rI0 fun i j => .bl (decide (j ≤ i))) op_ge ha hb (rw_intB (f := fun i j => decide (j ≤ i)))
/-! ### flat data: None, truths, whole numbers, texts -/
def flatD : PyData → Bool
  | .none => true
  | .bool _ => true
  | .int _ => true
  | .str _ => true
  | _ => false
def toV : PyData → V
  | .none => .non
  | .bool b => .bl b
  | .int i => .int i
  | .str x => .str x
  | _ => .non
theorem vr_flat {K : PySem.W.Frag} {M : List Addr} {H : Hp} {v : V} {x : PyData} (hx : flatD x = true) (h : VRep K M H v (.d x)) : v = toV x := by
  cases x with
  | none => exact vr_none h
  | bool b => exact vr_bool h
  | int i => exact vr_int h
  | str i => exact vr_str h
  | list _ => cases hx
  | tuple _ => cases hx
  | dict _ => cases hx
theorem flatV_toV {x : PyData} (hx : flatD x = true) : flatV (toV x) = true := by cases x <;> first | rfl | cases hx
/-- == of scalars as the layer tells it -/
def eqS (x y : PyData) : Bool := decide (toV x = toV y)
theorem rw_eqS {x y : PyData} (hx : flatD x = true) (hy : flatD y = true) (h : scal (toV x) (toV y) = true) : RW2 X rEq (.d x) (.d y) S (.d (.bool (eqS x y))) S := fun M H v u Q s hv hu q => by
  rw [vr_flat hx hv, vr_flat hy hu]
  exact ⟨h, q _ M H Ext.refl s (Fz.bl _)⟩
theorem rw_neS {x y : PyData} (hx : flatD x = true) (hy : flatD y = true) (h : scal (toV x) (toV y) = true) : RW2 X rNe (.d x) (.d y) S (.d (.bool (!eqS x y))) S := fun M H v u Q s hv hu q => by
  rw [vr_flat hx hv, vr_flat hy hu]
  exact ⟨h, q _ M H Ext.refl s (Fz.bl _)⟩
theorem eqS_int : eqS (.int m) (.int n) = decide (m = n) := by
  unfold eqS
  by_cases h : m = n
  · rw [h]; simp
  · rw [decide_eq_false h, decide_eq_false fun z => h (by injection z)]
theorem eqS_str {x y : Str} : eqS (.str x) (.str y) = decide (x = y) := by
  unfold eqS
  by_cases h : x = y
  · rw [h]; simp
  · rw [decide_eq_false h, decide_eq_false fun z => h (by injection z)]
theorem ev_eqI (ha : Ev X a G S (.d (.int m)) S1) (hb : Ev X b G S1 (.d (.int n)) S2) : Ev X (.Compare a [.Eq] [b] pos) G S (.d (.bool (decide (m = n)))) S2 := by rw [← eqS_int]; exact ev_cmp op_eq ha hb (rw_eqS rfl rfl rfl)
theorem ev_neI (ha : Ev X a G S (.d (.int m)) S1) (hb : Ev X b G S1 (.d (.int n)) S2) : Ev X (.Compare a [.NotEq] [b] pos) G S (.d (.bool (!decide (m = n)))) S2 := by rw [← eqS_int]; exact ev_cmp op_ne ha hb (rw_neS rfl rfl rfl)
theorem evt_eqI (ha : Ev X a G S (.d (.int m)) S1) (hb : Ev X b G S1 (.d (.int n)) S2) : EvT X (.Compare a [.Eq] [b] pos) G S (decide (m = n)) S2 := by rw [← eqS_int]; exact evt_cmp op_eq ha hb (rw_eqS rfl rfl rfl)
theorem evt_neI (ha : Ev X a G S (.d (.int m)) S1) (hb : Ev X b G S1 (.d (.int n)) S2) : EvT X (.Compare a [.NotEq] [b] pos) G S (!decide (m = n)) S2 := by rw [← eqS_int]; exact evt_cmp op_ne ha hb (rw_neS rfl rfl rfl)
theorem ev_eqT {x y : Str} (ha : Ev X a G S (.d (.str x)) S1) (hb : Ev X b G S1 (.d (.str y)) S2) : Ev X (.Compare a [.Eq] [b] pos) G S (.d (.bool (decide (x = y)))) S2 := by rw [← eqS_str]; exact ev_cmp op_eq ha hb (rw_eqS rfl rfl rfl)
theorem ev_neT {x y : Str} (ha : Ev X a G S (.d (.str x)) S1) (hb : Ev X b G S1 (.d (.str y)) S2) : Ev X (.Compare a [.NotEq] [b] pos) G S (.d (.bool (!decide (x = y)))) S2 := by rw [← eqS_str]; exact ev_cmp op_ne ha hb (rw_neS rfl rfl rfl)
theorem evt_eqT {x y : Str} (ha : Ev X a G S (.d (.str x)) S1) (hb : Ev X b G S1 (.d (.str y)) S2) : EvT X (.Compare a [.Eq] [b] pos) G S (decide (x = y)) S2 := by rw [← eqS_str]; exact evt_cmp op_eq ha hb (rw_eqS rfl rfl rfl)
theorem evt_neT {x y : Str} (ha : Ev X a G S (.d (.str x)) S1) (hb : Ev X b G S1 (.d (.str y)) S2) : EvT X (.Compare a [.NotEq] [b] pos) G S (!decide (x = y)) S2 := by rw [← eqS_str]; exact evt_cmp op_ne ha hb (rw_neS rfl rfl rfl)
/-- is None -/
def isNone : It → Bool
  | .d .none => true
  | .r .non => true
  | _ => false
theorem none_of {K : PySem.W.Frag} {M : List Addr} {H : Hp} {v : V} : ∀ {r : It}, VRep K M H v r → decide (v = .non) = isNone r
  | .d x, h => by
    have h' : Fz M H v x := h
    cases h' <;> rfl
  | .o n, ⟨a, _, e⟩ => by rw [e]; rfl
  | .r u, h => by
    have h' : v = u := h
    subst h'
    cases v <;> rfl
  | .s ns, ⟨a, e, _⟩ => by rw [e]; rfl
theorem ev_isN {j : Nat} (ha : Ev X a G S r S1) : Ev X (.Compare a [.Is] [.Constant .none j pos'] pos) G S (.d (.bool (isNone r))) S1 := fun M σ H Q s q => toE (pe_cmp (pc_isN pe_s)) (ha M σ H _ s fun v M1 H1 e1 t1 r1 => by rw [none_of r1]; exact q _ M1 H1 e1 t1 (Fz.bl _))
theorem ev_notN {j : Nat} (ha : Ev X a G S r S1) : Ev X (.Compare a [.IsNot] [.Constant .none j pos'] pos) G S (.d (.bool (!isNone r))) S1 := fun M σ H Q s q => toE (pe_cmp (pc_notN pe_s)) (ha M σ H _ s fun v M1 H1 e1 t1 r1 => by rw [none_of r1]; exact q _ M1 H1 e1 t1 (Fz.bl _))
theorem evt_isN {j : Nat} (ha : Ev X a G S r S1) : EvT X (.Compare a [.Is] [.Constant .none j pos'] pos) G S (isNone r) S1 := fun M σ H Q s q => toT (pt_cmp (pc_isN pe_s)) (ha M σ H _ s fun v M1 H1 e1 t1 r1 => ⟨_, rfl, by rw [none_of r1]; exact q M1 H1 e1 t1⟩)
theorem evt_notN {j : Nat} (ha : Ev X a G S r S1) : EvT X (.Compare a [.IsNot] [.Constant .none j pos'] pos) G S (!isNone r) S1 := fun M σ H Q s q => toT (pt_cmp (pc_notN pe_s)) (ha M σ H _ s fun v M1 H1 e1 t1 r1 => ⟨_, rfl, by rw [none_of r1]; exact q M1 H1 e1 t1⟩)
/-! ### data of any depth -/
theorem rw_eqD {x y : PyData} (hx : SeqAt.shaped x = true) (hy : SeqAt.shaped y = true) : RW2 X (rEqD X.K) (.d x) (.d y) S (.d (.bool (PyData.eqv x y))) S := fun M H v u Q s hv hu q =>
  ⟨x, y, Fz.dp hv, Fz.dp hu, hx, hy, q _ M H Ext.refl s (Fz.bl _)⟩
theorem rw_neD {x y : PyData} (hx : SeqAt.shaped x = true) (hy : SeqAt.shaped y = true) : RW2 X (rNeD X.K) (.d x) (.d y) S (.d (.bool (!PyData.eqv x y))) S := fun M H v u Q s hv hu q =>
  ⟨x, y, Fz.dp hv, Fz.dp hu, hx, hy, q _ M H Ext.refl s (Fz.bl _)⟩
theorem ev_eqD {x y : PyData} (c : Cxo X W k) (ha : Ev X a G S (.d x) S1) (hb : Ev X b G S1 (.d y) S2) (hx : SeqAt.shaped x = true) (hy : SeqAt.shaped y = true) : Ev X (.Compare a [.Eq] [b] pos) G S (.d (.bool (PyData.eqv x y))) S2 := ev_cmp (op_eqD c.hr.units) ha hb (rw_eqD hx hy)
theorem ev_neD {x y : PyData} (c : Cxo X W k) (ha : Ev X a G S (.d x) S1) (hb : Ev X b G S1 (.d y) S2) (hx : SeqAt.shaped x = true) (hy : SeqAt.shaped y = true) : Ev X (.Compare a [.NotEq] [b] pos) G S (.d (.bool (!PyData.eqv x y))) S2 := ev_cmp (op_neD c.hr.units) ha hb (rw_neD hx hy)
theorem evt_eqD {x y : PyData} (c : Cxo X W k) (ha : Ev X a G S (.d x) S1) (hb : Ev X b G S1 (.d y) S2) (hx : SeqAt.shaped x = true) (hy : SeqAt.shaped y = true) : EvT X (.Compare a [.Eq] [b] pos) G S (PyData.eqv x y) S2 := evt_cmp (op_eqD c.hr.units) ha hb (rw_eqD hx hy)
theorem evt_neD {x y : PyData} (c : Cxo X W k) (ha : Ev X a G S (.d x) S1) (hb : Ev X b G S1 (.d y) S2) (hx : SeqAt.shaped x = true) (hy : SeqAt.shaped y = true) : EvT X (.Compare a [.NotEq] [b] pos) G S (!PyData.eqv x y) S2 := evt_cmp (op_neD c.hr.units) ha hb (rw_neD hx hy)
/-! ### x in a flat list or tuple -/
theorem flat_all {M : List Addr} {H : Hp} : ∀ {ds : List PyData} {vs : List V}, ds.all flatD = true → FzAll M H vs ds → vs = ds.map toV
  | [], _, _, h => by cases h; rfl
  | d :: ds, _, ha, h => by
    cases h with
    | cons h1 h2 =>
      rw [List.all_cons, Bool.and_eq_true] at ha
      rw [List.map_cons, flat_all ha.2 h2, vr_flat (K := []) ha.1 h1]
theorem flat_toV {ds : List PyData} (h : ds.all flatD = true) : (ds.map toV).all flatV = true := by
  rw [List.all_map]
  exact List.all_eq_true.mpr fun d hd => flatV_toV (List.all_eq_true.mp h d hd)
theorem rw_inF {x : PyData} {neg : Bool} (hx : flatD x = true) (hd : ds.all flatD = true) : RW2 X (rIn X.K neg) (.d x) (.d (.list ds)) S (.d (.bool (if neg then !inV (toV x) (ds.map toV) else inV (toV x) (ds.map toV)))) S := fun M H v u Q s hv hu q => by
  have hu' : Fz M H u (.list ds) := hu
  cases hu' with
  | lst h1 h2 =>
    rw [vr_flat hx hv]
    refine ⟨_, _, rfl, .inl h1.sq, flatV_toV hx, ?_, ?_⟩
    · rw [flat_all hd h2]; exact flat_toV hd
    · rw [flat_all hd h2]; exact q _ M H Ext.refl s (Fz.bl _)
theorem rw_inFT {x : PyData} {neg : Bool} (hx : flatD x = true) (hd : ds.all flatD = true) : RW2 X (rIn X.K neg) (.d x) (.d (.tuple ds)) S (.d (.bool (if neg then !inV (toV x) (ds.map toV) else inV (toV x) (ds.map toV)))) S := fun M H v u Q s hv hu q => by
  have hu' : Fz M H u (.tuple ds) := hu
  cases hu' with
  | tup h1 h2 =>
    rw [vr_flat hx hv]
    refine ⟨_, _, rfl, .inr h1.sq, flatV_toV hx, ?_, ?_⟩
    · rw [flat_all hd h2]; exact flat_toV hd
    · rw [flat_all hd h2]; exact q _ M H Ext.refl s (Fz.bl _)
/-! ### subscripts -/
theorem ev_ixR {rr : R2} {x : It} (ho : IxR X rr) (ha : Ev X a G S x S1) (hb : Ev X b G S1 y S2) (hr : RW2 X rr x y S2 z S3) (hs : PlainIx b := by exact fun _ _ => rfl) : Ev X (.Subscript a b pos) G S z S3 := fun M σ H Q s q =>
  toE (pe_ix ho pe_s pe_s hs) (ha M σ H _ s fun v M1 H1 e1 s1 r1 => hb M1 σ H1 _ s1 fun u M2 H2 e2 s2 r2 => hr M2 H2 v u _ s2.sto (r1.ext e2) r2 fun w M3 H3 e3 s3 r3 => q w M3 H3 ((e1.trans e2).trans e3) (s2.mono e3 s3) r3)
theorem fz_get {M : List Addr} {H : Hp} : ∀ {ds : List PyData} {vs : List V} {i : Nat} {d : PyData}, FzAll M H vs ds → ds[i]? = some d → ∃ v, vs[i]? = some v ∧ Fz M H v d
  | [], _, i, d, h, e => by simp at e
  | d :: ds, _, 0, d', h, e => by
    cases h with
    | cons h1 h2 =>
      cases e
      exact ⟨_, rfl, h1⟩
  | d :: ds, _, i + 1, d', h, e => by
    cases h with
    | cons h1 h2 => exact fz_get (i := i) h2 e
theorem atI_fz {M : List Addr} {H : Hp} {vs : List V} {i : Int} {d : PyData} (h : FzAll M H vs ds) (hd : atI ds i = some d) : ∃ v, atI vs i = some v ∧ Fz M H v d := by
  unfold atI at hd ⊢
  rw [fz_len h]
  cases e : ixN ds.length i with
  | none => rw [e] at hd; cases hd
  | some l =>
    rw [e] at hd
    exact fz_get h hd
theorem atI_reps {K : PySem.W.Frag} {M : List Addr} {H : Hp} {vs : List V} {i : Int} {d : It} (h : VReps K M H vs rs) (hd : atI rs i = some d) : ∃ v, atI vs i = some v ∧ VRep K M H v d := by
  unfold atI at hd ⊢
  rw [h.len]
  cases e : ixN rs.length i with
  | none => rw [e] at hd; cases hd
  | some l =>
    rw [e] at hd
    exact reps_get h hd
/-- xs[i] of a list of data -/
theorem ev_ixL {d : PyData} (ha : Ev X a G S (.d (.list ds)) S1) (hb : Ev X b G S1 (.d (.int n)) S2) (h : atI ds n = some d) (hs : PlainIx b := by exact fun _ _ => rfl) : Ev X (.Subscript a b pos) G S (.d d) S2 := ev_ixR ix_list ha hb (fun M H v u Q s hv hu q => by
  have hv' : Fz M H v (.list ds) := hv
  cases hv' with
  | lst h1 h2 =>
    obtain ⟨w, hw, fw⟩ := atI_fz h2 h
    exact ⟨_, _, n, w, rfl, vr_int hu, h1.sq, hw, q w M H Ext.refl s fw⟩) hs
/-- t[i] of a tuple of data -/
theorem ev_ixT {d : PyData} (ha : Ev X a G S (.d (.tuple ds)) S1) (hb : Ev X b G S1 (.d (.int n)) S2) (h : atI ds n = some d) (hs : PlainIx b := by exact fun _ _ => rfl) : Ev X (.Subscript a b pos) G S (.d d) S2 := ev_ixR ix_tup ha hb (fun M H v u Q s hv hu q => by
  have hv' : Fz M H v (.tuple ds) := hv
  cases hv' with
  | tup h1 h2 =>
    obtain ⟨w, hw, fw⟩ := atI_fz h2 h
    exact ⟨_, _, n, w, rfl, vr_int hu, h1.sq, hw, q w M H Ext.refl s fw⟩) hs
/-- xs[i] of an owned list -/
theorem ev_ixO {i : Nat} {d : It} (ha : Ev X a G S (.o i) S1) (hb : Ev X b G S1 (.d (.int n)) S2) (hi : S2[i]? = some (.lst rs)) (h : atI rs n = some d) (hs : PlainIx b := by exact fun _ _ => rfl) : Ev X (.Subscript a b pos) G S d S2 := ev_ixR ix_list ha hb (fun M H v u Q s hv hu q => by
  obtain ⟨ad, had, rfl⟩ := hv
  obtain ⟨vs, h1, h2⟩ := s.rep i ad _ had hi
  obtain ⟨w, hw, fw⟩ := atI_reps h2 h
  exact ⟨_, _, n, w, rfl, vr_int hu, .of h1, hw, q w M H Ext.refl s fw⟩) hs
/-- the script's i-th number -/
theorem ev_ixS {ns : List Int} {i : Int} (ha : Ev X a G S (.s ns) S1) (hb : Ev X b G S1 (.d (.int n)) S2) (h : atI ns n = some i) (hs : PlainIx b := by exact fun _ _ => rfl) : Ev X (.Subscript a b pos) G S (.d (.int i)) S2 := ev_ixR ix_list ha hb (fun M H v u Q s hv hu q => by
  obtain ⟨ad, rfl, h1⟩ := hv
  have h2 : atI (ns.map V.int) n = some (.int i) := by
    unfold atI at h ⊢
    rw [List.length_map]
    cases e : ixN ns.length n with
    | none => rw [e] at h; cases h
    | some l =>
      rw [e] at h
      show (ns.map V.int)[l]? = some (.int i)
      rw [List.getElem?_map, show ns[l]? = some i from h]
      rfl
  exact ⟨_, _, n, .int i, rfl, vr_int hu, h1.sq, h2, q _ M H Ext.refl s (Fz.int _)⟩) hs
/-- s[i] of a text -/
theorem ev_ixStr {x : Str} {c : Nat} (ha : Ev X a G S (.d (.str x)) S1) (hb : Ev X b G S1 (.d (.int n)) S2) (hz : x.length ≤ sizeLine) (h : atI x.cps.toList n = some c) (hs : PlainIx b := by exact fun _ _ => rfl) : Ev X (.Subscript a b pos) G S (.d (.str ⟨#[c]⟩)) S2 := ev_ixR ix_str ha hb (fun M H v u Q s hv hu q =>
  ⟨x, n, c, vr_str hv, vr_int hu, hz, h, q _ M H Ext.refl s (Fz.str _)⟩) hs
/-- xs[i] = e, xs owned -/
theorem ws_setIx {i l : Nat} (he : Ev X e G S r S1) (ho : Ev X o G S1 (.o i) S2) (hb : Ev X b G S2 (.d (.int n)) S3) (hi : S3[i]? = some (.lst rs)) (hl : ixN rs.length n = some l) (q : P.nx G (S3.set i (.lst (rs.set l r))))
    (hs : swapsWithSole [.Subscript o b pos'] e pos.line X.env = pure false := by rfl) (hw : swappedStores [.Subscript o b pos'] e X.env = pure none := by rfl) (h1 : (assignEach [.Subscript o b pos'] X.env).map (·.2) = [assign (.Subscript o b pos') X.env] := by rfl)
    (ha : ∀ v, assign (.Subscript o b pos') X.env v = (do
      let ov ← holding [v] (eval o X.env)
      let iv ← holding [v, ov] (eval b X.env)
      standAt pos'
      holding [v, ov, iv] (setItem ov iv v)
      release [v, ov, iv] []) := by intro _; rfl) : WS X W (.Assign [.Subscript o b pos'] e pos) G S P := fun M σ H D s m =>
  toS (ps_asg pe_s (pg_sub pe_s pe_s set_list ha) hs hw h1) (he M σ H _ s fun v M1 H1 e1 t1 r1 => ho M1 σ H1 _ t1 fun v2 M2 H2 e2 t2 r2 => hb M2 σ H2 _ t2 fun v3 M3 H3 e3 t3 r3 => by
    obtain ⟨ad, had, rfl⟩ := r2.ext e3
    obtain ⟨vs, hv, hr⟩ := t3.sto.rep i ad _ had hi
    have e4 : Ext M3 H3 M3 (upd H3 ad (.lst (vs.set l v))) := Ext.put (List.mem_of_getElem? had)
    have setR : ∀ {vs : List V} {rs : List It} {l : Nat}, VReps X.K M3 (upd H3 ad (.lst (vs.set l v))) vs rs → True := fun _ => trivial
    have hr' := VReps.ext e4 hr
    have rv := ((r1.ext e2).ext e3).ext e4
    have s4 := t3.sto.put (w := .lst (rs.set l r)) had ⟨vs.set l v, upd_same, by
      have go : ∀ {M' : List Addr} {H' : Hp} {vs : List V} {rs : List It} {l : Nat}, VReps X.K M' H' vs rs → VRep X.K M' H' v r → VReps X.K M' H' (vs.set l v) (rs.set l r) := by
        intro M' H' vs rs l h hv
        induction h generalizing l with
        | nil => exact .nil
        | cons a t ih =>
          cases l with
          | zero => exact .cons hv t
          | succ l => exact .cons a ih
      exact go hr' rv⟩
    exact ⟨ad, vs, n, l, rfl, vr_int r3, hv, by rw [hr.len]; exact hl, m.nx M3 σ _ G _ (((e1.trans e2).trans e3).trans e4) (t3.mono e4 s4) q⟩)
/-! ### built-ins -/
theorem ev_blt {id : String} {nm : Str} {rr : List V → Hp → VK → Prop} (ho : CallR X (.builtin id) rr) (hm : X.mg nm = none) (hv : bootBuiltins nm = some (.builtin id)) (ha : EvA X (e :: es) G S rs S1) (hr : RWC X rr rs S1 z S2) (hg : Gl X nm := by rfl) (hn : nm ≠ "__name__" := by decide) (hdb : (nm == ("__debug__" : Str)) = false := by decide)
    (he : starEach (e :: es) X.env = (false, eval e X.env) :: starEach es X.env := by rfl) (hpl : (backTo pos (starEach es X.env)).any (·.1) = false := by rfl) : Ev X (.Call (.Name nm p) (e :: es) [] pos) G S z S2 := fun M σ H Q s q =>
  toE (pe_callB ho hg hm hv pa_s hn hdb he hpl) (ha M σ H _ s fun vs M1 H1 e1 t1 r1 => hr M1 H1 vs _ t1.sto r1 fun w M2 H2 e2 s2 r2 => q w M2 H2 (e1.trans e2) (t1.mono e2 s2) r2)
theorem ev_ty {T : String} {nm : Str} {rr : List V → Hp → VK → Prop} (ho : CallR X (.type T) rr) (hm : X.mg nm = none) (hv : bootBuiltins nm = some (.type T)) (ha : EvA X (e :: es) G S rs S1) (hr : RWC X rr rs S1 z S2) (hg : Gl X nm := by rfl) (hn : nm ≠ "__name__" := by decide) (hdb : (nm == ("__debug__" : Str)) = false := by decide)
    (he : starEach (e :: es) X.env = (false, eval e X.env) :: starEach es X.env := by rfl) (hpl : (backTo pos (starEach es X.env)).any (·.1) = false := by rfl) : Ev X (.Call (.Name nm p) (e :: es) [] pos) G S z S2 := fun M σ H Q s q =>
  toE (pe_callTy ho hg hm hv pa_s hn hdb he hpl) (ha M σ H _ s fun vs M1 H1 e1 t1 r1 => hr M1 H1 vs _ t1.sto r1 fun w M2 H2 e2 s2 r2 => q w M2 H2 (e1.trans e2) (t1.mono e2 s2) r2)
theorem vr1 {K : PySem.W.Frag} {M : List Addr} {H : Hp} {vs : List V} {r : It} (h : VReps K M H vs [r]) : ∃ v, vs = [v] ∧ VRep K M H v r := by
  cases h with
  | cons h1 h2 => cases h2; exact ⟨_, rfl, h1⟩
theorem vr2 {K : PySem.W.Frag} {M : List Addr} {H : Hp} {vs : List V} {r r' : It} (h : VReps K M H vs [r, r']) : ∃ v u, vs = [v, u] ∧ VRep K M H v r ∧ VRep K M H u r' := by
  cases h with
  | cons h1 h2 =>
    obtain ⟨u, rfl, h3⟩ := vr1 h2
    exact ⟨_, u, rfl, h1, h3⟩
/-- what has a length -/
def lenOf (S : Sto) : It → Option Nat
  | .d (.list ds) => some ds.length
  | .d (.tuple ds) => some ds.length
  | .o n => match S[n]? with
    | some (.lst xs) => some xs.length
    | _ => none
  | .s ns => some ns.length
  | _ => none
theorem rw_len {l : Nat} (h : lenOf S r = some l) : RWC X (fun xs H Q => ∃ p ys, xs = [.ref p] ∧ (SqL X.K H p ys ∨ SqT X.K H p ys) ∧ Q (.int ys.length) H) [r] S (.d (.int l)) S := fun M H vs Q s hvs q => by
  obtain ⟨v, rfl, hv⟩ := vr1 hvs
  cases r with
  | d x =>
    cases x with
    | list ds =>
      cases h
      have hv' : Fz M H v (.list ds) := hv
      cases hv' with
      | lst h1 h2 => exact ⟨_, _, rfl, .inl h1.sq, by rw [fz_len h2]; exact q _ M H Ext.refl s (Fz.int _)⟩
    | tuple ds =>
      cases h
      have hv' : Fz M H v (.tuple ds) := hv
      cases hv' with
      | tup h1 h2 => exact ⟨_, _, rfl, .inr h1.sq, by rw [fz_len h2]; exact q _ M H Ext.refl s (Fz.int _)⟩
    | _ => cases h
  | o n =>
    have h' : (match S[n]? with | some (.lst xs) => some xs.length | _ => none) = some l := h
    cases e : S[n]? with
    | none => rw [e] at h'; cases h'
    | some w =>
      rw [e] at h'
      cases w with
      | lst xs =>
        cases h'
        obtain ⟨ad, had, rfl⟩ := hv
        obtain ⟨us, h1, h2⟩ := s.rep n ad _ had e
        exact ⟨_, _, rfl, .inl (.of h1), by rw [h2.len]; exact q _ M H Ext.refl s (Fz.int _)⟩
      | _ => cases h'
  | s ns =>
    cases h
    obtain ⟨ad, rfl, h1⟩ := hv
    exact ⟨_, _, rfl, .inl h1.sq, by rw [List.length_map]; exact q _ M H Ext.refl s (Fz.int _)⟩
  | r _ => cases h
theorem ev_len {l : Nat} (hm : X.mg "len" = none) (ha : Ev X a G S r S1) (h : lenOf S1 r = some l) (hg : Gl X "len" := by rfl) (he : starEach [a] X.env = (false, eval a X.env) :: starEach [] X.env := by rfl) : Ev X (.Call (.Name "len" p) [a] [] pos) G S (.d (.int l)) S1 := ev_blt call_len_seq hm PySem.boot_len (eva_cons ha eva_nil he) (rw_len h) hg (by decide) (by decide) he rfl
theorem ev_lenS {x : Str} (hm : X.mg "len" = none) (ha : Ev X a G S (.d (.str x)) S1) (h : x.length ≤ sizeLine) (hg : Gl X "len" := by rfl) (he : starEach [a] X.env = (false, eval a X.env) :: starEach [] X.env := by rfl) : Ev X (.Call (.Name "len" p) [a] [] pos) G S (.d (.int x.length)) S1 := ev_blt call_len_str hm PySem.boot_len (eva_cons ha eva_nil he) (fun M H vs Q s hvs q => by
  obtain ⟨v, rfl, hv⟩ := vr1 hvs
  exact ⟨x, by rw [vr_str hv], h, q _ M H Ext.refl s (Fz.int _)⟩) hg (by decide) (by decide) he rfl
/-- list(xs): a new list that is owned -/
theorem ev_listD (hm : X.mg "list" = none) (ha : Ev X a G S (.d (.list ds)) S1) (hg : Gl X "list" := by rfl) (he : starEach [a] X.env = (false, eval a X.env) :: starEach [] X.env := by rfl) : Ev X (.Call (.Name "list" p) [a] [] pos) G S (.o S1.length) (S1 ++ [.lst (ds.map .d)]) := ev_ty call_list_of hm (by decide +kernel) (eva_cons ha eva_nil he) (fun M H vs Q s hvs q => by
  obtain ⟨v, rfl, hv⟩ := vr1 hvs
  have hv' : Fz M H v (.list ds) := hv
  cases hv' with
  | lst h1 h2 =>
    rename_i ad xs
    refine ⟨_, _, rfl, .inl h1.sq, fun l hl => ?_⟩
    have e2 : Ext M H (M ++ [l]) (upd H l (.lst xs)) := Ext.own hl
    exact q _ _ _ e2 (s.own hl ⟨_, upd_same, VReps.ext e2 (fz_reps h2)⟩) ⟨l, by rw [← s.len, List.getElem?_append_right (Nat.le_refl _), Nat.sub_self]; rfl, rfl⟩) hg (by decide) (by decide) he rfl
/-! ### slices, + and * of lists -/
def cutD {α : Type} (xs : List α) (lo hi : Option Int) : List α := (xs.drop (HT.sIx xs.length 0 lo)).take (HT.sIx xs.length xs.length hi - HT.sIx xs.length 0 lo)
theorem fz_drop {M : List Addr} {H : Hp} : ∀ {ds : List PyData} {vs : List V} (n : Nat), FzAll M H vs ds → FzAll M H (vs.drop n) (ds.drop n)
  | _, _, 0, h => h
  | [], _, n + 1, h => by cases h; exact .nil
  | d :: ds, _, n + 1, h => by
    cases h with
    | cons h1 h2 => exact fz_drop n h2
theorem fz_take {M : List Addr} {H : Hp} : ∀ {ds : List PyData} {vs : List V} (n : Nat), FzAll M H vs ds → FzAll M H (vs.take n) (ds.take n)
  | _, _, 0, h => .nil
  | [], _, n + 1, h => by cases h; exact .nil
  | d :: ds, _, n + 1, h => by
    cases h with
    | cons h1 h2 => exact .cons h1 (fz_take n h2)
theorem fz_cut {M : List Addr} {H : Hp} {vs : List V} {lo hi : Option Int} (h : FzAll M H vs ds) : FzAll M H (cutV vs lo hi) (cutD ds lo hi) := by
  unfold cutV cutD
  rw [fz_len h]
  exact fz_take _ (fz_drop _ h)
theorem fz_app {M : List Addr} {H : Hp} : ∀ {ds es : List PyData} {vs us : List V}, FzAll M H vs ds → FzAll M H us es → FzAll M H (vs ++ us) (ds ++ es)
  | [], _, _, _, h, h' => by cases h; exact h'
  | d :: ds, _, _, _, h, h' => by
    cases h with
    | cons h1 h2 => exact .cons h1 (fz_app h2 h')
/-- a part of a slice -/
def EvP (X : Cx) (e : Option Expr) (G : Gam) (S : Sto) (i : Option Int) : Prop := match e, i with
  | none, none => True
  | some e, some i => Ev X e G S (.d (.int i)) S
  | _, _ => False
def tEP (X : Cx) (e : Option Expr) : TO := match e with
  | none => tNoPart
  | some e => tPart (sE X e)
theorem po_tEP {e : Option Expr} : PO X e (tEP X e) := match e with
  | none => po_none
  | some _ => po_some pe_s
theorem EvP.run {e : Option Expr} {i : Option Int} (h : EvP X e G S i) {M : List Addr} {σ : Sig} {H : Hp} {Q : Option Int → Hp → Prop} (s : Stt X.K M H S G σ) (q : ∀ M' H', Ext M H M' H' → Stt X.K M' H' S G σ → Q i H') : tEP X e σ H Q := by
  cases e with
  | none =>
    cases i with
    | none => exact q M H Ext.refl s
    | some i => exact h.elim
  | some e =>
    cases i with
    | none => exact h.elim
    | some i => exact h M σ H _ s fun v M1 H1 e1 t1 r1 => ⟨i, vr_int r1, q M1 H1 e1 t1⟩
/-- xs[lo:hi] of a list of data -/
theorem ev_slL {lo hi : Option Expr} {il ih : Option Int} {p2 : Pos} (ha : Ev X a G S (.d (.list ds)) S1) (hl : EvP X lo G S1 il) (hh : EvP X hi G S1 ih) : Ev X (.Subscript a (.Slice lo hi none p2) pos) G S (.d (.list (cutD ds il ih))) S1 := fun M σ H Q s q =>
  toE (pe_slice sl_list pe_s po_tEP po_tEP) (ha M σ H _ s fun v M1 H1 e1 t1 r1 => hl.run t1 fun M2 H2 e2 t2 => hh.run t2 fun M3 H3 e3 t3 => by
    have r3 : Fz M3 H3 v (.list ds) := (r1.ext e2).ext e3
    cases r3 with
    | lst h1 h2 => exact ⟨_, _, rfl, h1.sq, fun p hp => q _ M3 _ (((e1.trans e2).trans e3).trans (Ext.fresh hp)) (t3.fresh hp) (Fz.lst ⟨.inl upd_same, t3.sto.nin hp⟩ (FzAll.ext (Ext.fresh hp) (fz_cut h2)))⟩)
/-- lists that are read, added up -/
def rCatR : R2 := fun x y H Q => ∃ l b xs zs, x = .ref l ∧ y = .ref b ∧ Rd H l (.lst xs) ∧ Rd H b (.lst zs) ∧ xs.length + zs.length ≤ sizeLine ∧ ∀ p, H p = none → Q (.ref p) (upd H p (.lst (xs ++ zs)))
theorem op_catR : OpR X (binaryOp .Add) rCatR := by
  intro pins s σ H x y v u Q I rx ry h
  obtain ⟨l, b, xs, zs, rfl, rfl, hH, hB, hz, q⟩ := h
  cases rx
  cases ry
  obtain ⟨z, its, n, r, e⟩ := hH.ok I.hok
  obtain ⟨z2, its2, n2, r2, e2⟩ := hB.ok I.hok
  have hl := r.length
  have hl2 := r2.length
  refine PySem.P.add_list e e2 ?_ (by rw [List.size_toArray, List.size_toArray]; omega)
  have ea : its.toArray ++ its2.toArray = (its ++ its2).toArray := by simp
  rw [ea]
  exact ⟨.ref _, _, I.lnew (t' := s.toks) (r.append r2) (by rw [List.length_append]; omega), rfl, q _ I.fresh⟩
theorem rw_cat {es : List PyData} (hz : ds.length + es.length ≤ 1000000) : RW2 X rCatR (.d (.list ds)) (.d (.list es)) S (.d (.list (ds ++ es))) S := fun M H v u Q s hv hu q => by
  have hv' : Fz M H v (.list ds) := hv
  have hu' : Fz M H u (.list es) := hu
  cases hv' with
  | lst h1 h2 =>
    cases hu' with
    | lst h3 h4 =>
      exact ⟨_, _, _, _, rfl, rfl, h1.1, h3.1, by rw [fz_len h2, fz_len h4, sizeLine_eq]; omega, fun p hp => q _ M _ (Ext.fresh hp) (s.fresh hp) (Fz.lst ⟨.inl upd_same, s.nin hp⟩ (FzAll.ext (Ext.fresh hp) (fz_app h2 h4)))⟩
theorem ev_cat {es : List PyData} (ha : Ev X a G S (.d (.list ds)) S1) (hb : Ev X b G S1 (.d (.list es)) S2) (hz : ds.length + es.length ≤ 1000000) : Ev X (.BinOp a .Add b pos) G S (.d (.list (ds ++ es))) S2 := ev_op op_catR ha hb (rw_cat hz)
end
end Cu
/-! CuF: statements that may raise, errors, try. -/
namespace Cu
open PySem PySem.Spec PyProof.Rows L2
/-- an error's class of the text, made with a text -/
structure ExcF (K : PySem.W.Frag) (mg : Str → Option Value) (x : Str) (C : Addr) : Prop where
  gC : mg x = some (.ref C)
  xC : PySem.W.excIn K C [.type "ValueError", .type "Exception", .type "BaseException", .type "object"] "ValueError.__new__" = true
  kC : PySem.W.keepIn K (.ref C) = true
  bC : PySem.W.subIn K (.ref C) (.type "BaseException") = some true
  tC : PySem.W.typeIn K (.ref C) = some (.type "type")
section
variable {X : Cx} {W : WX} {k j : Nat} {G G1 G2 : Gam} {S S1 S2 S3 : Sto} {P : Post} {e a b o iter tg elt : Expr} {es ifs : List Expr} {r y z : It} {rs : List It} {pos pos' pos2 p p2 apos np : Pos} {st : Stmt} {sts body suite : List Stmt} {ds : List PyData} {C : Addr} {m n : Int} {Qr : It → Sto → Prop} {Qx : Addr → Sto → Prop}
/-! ### statements whose expression may raise -/
theorem ws_exprX (h : EvX X W e G S Qr Qx) (q : ∀ r S', Qr r S' → P.nx G S') (qx : ∀ C S', Qx C S' → P.xc C G S') (hs : swapsWith e none pos.line X.env = pure false := by rfl) : WS X W (.Expr e pos) G S P := fun M σ H D s m =>
  toS (ps_expr pe_s hs) (h M σ H _ s (fun v M1 H1 r S' e1 s1 r1 q1 => m.nx M1 σ H1 G S' e1 s1 (q r S' q1)) fun M1 H1 C S' e1 s1 q1 => m.xc M1 σ H1 G C S' e1 s1 (qx C S' q1))
theorem ws_retX (h : EvX X W e G S Qr Qx) (q : ∀ r S', Qr r S' → P.rt r S') (qx : ∀ C S', Qx C S' → P.xc C G S') : WS X W (.Return (some e) pos) G S P := fun M σ H D s m =>
  toS (ps_ret pe_s) (h M σ H _ s (fun v M1 H1 r S' e1 s1 r1 q1 => m.rt v M1 H1 r S' e1 s1.sto r1 (q r S' q1)) fun M1 H1 C S' e1 s1 q1 => m.xc M1 σ H1 G C S' e1 s1 (qx C S' q1))
theorem ws_setX (i : Nat) {n : Str} (nd : X.N.Nodup) (h : EvX X W e G S Qr Qx) (q : ∀ r S', Qr r S' → P.nx (G.set i (some r)) S') (qx : ∀ C S', Qx C S' → P.xc C G S') (hi : X.N[i]? = some n := by rfl) (hx : Loc X.env.scope n := by first | exact Or.inl rfl | exact Or.inr rfl)
    (hs : swapsWith e (some (.Name n pos')) pos.line X.env = pure false := by rfl) (hf : X.fn n = true ∨ X.env.scope.names.lookup n = some .local := by first | exact .inl rfl | exact .inr rfl | assumption) : WS X W (.Assign [.Name n pos'] e pos) G S P := fun M σ H D s m =>
  toS (ps_set (i := i) nd hi hx pe_s hs hf) (h M σ H _ s (fun v M1 H1 r S' e1 s1 r1 q1 => m.nx M1 _ H1 _ S' e1 (s1.set r1) (q r S' q1)) fun M1 H1 C S' e1 s1 q1 => m.xc M1 σ H1 G C S' e1 s1 (qx C S' q1))
theorem ws_asgX {tg : Expr} (h : EvX X W e G S Qr Qx) (q : ∀ r S', Qr r S' → ∃ G2 S2, EvG X tg r G S' G2 S2 ∧ P.nx G2 S2) (qx : ∀ C S', Qx C S' → P.xc C G S') (hs : swapsWithSole [tg] e pos.line X.env = pure false := by rfl) (hw : swappedStores [tg] e X.env = pure none := by rfl)
    (h1 : (assignEach [tg] X.env).map (·.2) = [assign tg X.env] := by rfl) : WS X W (.Assign [tg] e pos) G S P := fun M σ H D s m =>
  toS (ps_asg pe_s pg_s hs hw h1) (h M σ H _ s (fun v M1 H1 r S' e1 s1 r1 q1 => by
    obtain ⟨G2, S2, hg, qn⟩ := q r S' q1
    exact hg M1 σ H1 v _ s1 r1 fun σ' M2 H2 e2 s2 => m.nx M2 σ' H2 G2 S2 (e1.trans e2) s2 qn) fun M1 H1 C S' e1 s1 q1 => m.xc M1 σ H1 G C S' e1 s1 (qx C S' q1))
/-- a call that raises nothing -/
theorem EvX.ev (h : EvX X (fun _ _ _ _ => False) e G S (fun r' S' => r' = r ∧ S' = S1) (fun _ _ => False)) : Ev X e G S r S1 := fun M σ H Q s q => h M σ H Q s (fun v M' H' r' S' e1 s1 r1 q1 => by
  obtain ⟨rfl, rfl⟩ := q1
  exact q v M' H' e1 s1 r1) fun _ _ _ _ _ _ q1 => q1.elim
/-! ### calls that raise nothing -/
theorem Cxo.none (c : Cxo X W k) : Cxo X (fun _ _ _ _ => False) k := ⟨c.calm, c.nd, c.tk.imp fun _ _ _ _ z => z.elim, c.po, c.hr⟩
theorem ev_call {nm : Str} {ps : List Str} {drs : List It} {F : Fn} (c : Cxo X W k) (O : OkF X.prog X.w X.K X.mg X.base j nm ps drs F) (ha : EvA X (e :: es) G S rs S1)
    (hF : ∀ (QR : It → Sto → Prop) (QE : Addr → Sto → Prop), QR r S2 → F (rs ++ drs) S1 QR QE) (hj : j ≤ k := by decide) (hl : (rs ++ drs).length = ps.length := by rfl) (hg : Gl X nm := by rfl) (hdb : (nm == ("__debug__" : Str)) = false := by decide)
    (he : starEach (e :: es) X.env = (false, eval e X.env) :: starEach es X.env := by rfl) (hpl : (backTo pos (starEach es X.env)).any (·.1) = false := by rfl) : Ev X (.Call (.Name nm p) (e :: es) [] pos) G S r S2 :=
  EvX.ev (evx_call c.none O hj ha hl (fun QR QE h1 _ => hF QR QE (h1 _ _ ⟨rfl, rfl⟩)) hg hdb he hpl)
theorem ev_call0 {nm : Str} {ps : List Str} {drs : List It} {F : Fn} (c : Cxo X W k) (O : OkF X.prog X.w X.K X.mg X.base j nm ps drs F)
    (hF : ∀ (QR : It → Sto → Prop) (QE : Addr → Sto → Prop), QR r S2 → F drs S QR QE) (hj : j ≤ k := by decide) (hl : drs.length = ps.length := by rfl) (hg : Gl X nm := by rfl) (hdb : (nm == ("__debug__" : Str)) = false := by decide) : Ev X (.Call (.Name nm p) [] [] pos) G S r S2 :=
  EvX.ev (evx_call0 c.none O hj hl (fun QR QE h1 _ => hF QR QE (h1 _ _ ⟨rfl, rfl⟩)) hg hdb)
theorem ev_meth {mt : Str} {ps : List Str} {drs : List It} {F : Fn} {fs : List (Str × It)} {i : Nat} {pl : Sem Bool} (c : Cxo X W k) (O : OkM X.prog X.w X.K X.mg X.base j C mt ps drs F) (ho : Ev X o G S (.o i) S1) (hi : S1[i]? = some (.ins C fs)) (ha : EvA X (e :: es) G S1 rs S2)
    (hF : ∀ (QR : It → Sto → Prop) (QE : Addr → Sto → Prop), QR r S3 → F (.o i :: (rs ++ drs)) S2 QR QE) (hj : j ≤ k := by decide) (hl : (.o i :: (rs ++ drs) : List It).length = ps.length := by rfl) (hnm : fs.lookup mt = none := by rfl)
    (hst : starEach (e :: es) X.env = (false, eval e X.env) :: starEach es X.env := by rfl) (hpl : (backTo pos (starEach es X.env)).any (·.1) = false := by rfl)
    (ht : eval (.Call (.Attribute o mt apos) (e :: es) [] pos) X.env = (do
      let ov ← eval o X.env
      standAt apos.atName
      let (f, first) ← holding [ov] (getMethod ov mt pl)
      callWith pos f first (backTo pos (starEach (e :: es) X.env)) (backToKw pos (keywordEach [] X.env))) := by rfl) : Ev X (.Call (.Attribute o mt apos) (e :: es) [] pos) G S r S3 :=
  EvX.ev (evx_meth c.none O hj ho hi ha hl (fun QR QE h1 _ => hF QR QE (h1 _ _ ⟨rfl, rfl⟩)) hnm hst hpl ht)
theorem ev_meth0 {mt : Str} {ps : List Str} {drs : List It} {F : Fn} {fs : List (Str × It)} {i : Nat} {pl : Sem Bool} (c : Cxo X W k) (O : OkM X.prog X.w X.K X.mg X.base j C mt ps drs F) (ho : Ev X o G S (.o i) S1) (hi : S1[i]? = some (.ins C fs))
    (hF : ∀ (QR : It → Sto → Prop) (QE : Addr → Sto → Prop), QR r S3 → F (.o i :: drs) S1 QR QE) (hj : j ≤ k := by decide) (hl : (.o i :: drs : List It).length = ps.length := by rfl) (hnm : fs.lookup mt = none := by rfl)
    (ht : eval (.Call (.Attribute o mt apos) [] [] pos) X.env = (do
      let ov ← eval o X.env
      standAt apos.atName
      let (f, first) ← holding [ov] (getMethod ov mt pl)
      callWith pos f first (backTo pos (starEach [] X.env)) (backToKw pos (keywordEach [] X.env))) := by rfl) : Ev X (.Call (.Attribute o mt apos) [] [] pos) G S r S3 :=
  EvX.ev (evx_meth0 c.none O hj ho hi hl (fun QR QE h1 _ => hF QR QE (h1 _ _ ⟨rfl, rfl⟩)) hnm ht)
theorem ev_make {nm : Str} {ps : List Str} {drs : List It} {F : Fn} (c : Cxo X W k) (O : OkC X.prog X.w X.K X.mg X.base j C nm ps drs F) (ha : EvA X (e :: es) G S rs S1)
    (hF : ∀ (QR : It → Sto → Prop) (QE : Addr → Sto → Prop), QR (.d .none) S2 → F (.o S1.length :: (rs ++ drs)) (S1 ++ [.ins C []]) QR QE) (hj : j + 1 ≤ k := by decide) (hl : (.o S1.length :: (rs ++ drs) : List It).length = ps.length := by rfl) (hg : Gl X nm := by rfl) (hdb : (nm == ("__debug__" : Str)) = false := by decide)
    (he : starEach (e :: es) X.env = (false, eval e X.env) :: starEach es X.env := by rfl) (hpl : (backTo pos (starEach es X.env)).any (·.1) = false := by rfl) : Ev X (.Call (.Name nm p) (e :: es) [] pos) G S (.o S1.length) S2 :=
  EvX.ev (evx_make c.none O hj ha hl (fun QR QE h1 _ => hF QR QE (h1 _ ⟨rfl, rfl⟩)) hg hdb he hpl)
/-! ### raise, try -/
theorem ws_raise {x mtx : Str} {j : Nat} (c : Cxo X W k) (T : ExcF X.K X.mg x C) (q : P.xc C G S) (hg : Gl X x := by rfl) (hdb : (x == ("__debug__" : Str)) = false := by decide) : WS X W (.Raise (some (.Call (.Name x p) [.Constant (.str mtx) j p2] [] pos)) none pos2) G S P := fun M σ H D s m =>
  toS (ps_raise c.calm c.tk (pmk_own PySem.F.excBase_ValueError T.xC T.gC T.kC (raises_own T.bC T.tC) hg hdb)) (m.xc M σ H G C S Ext.refl s q)
/-- the context of a try's body -/
abbrev trX (X : Cx) (pn : List (Addr × Obj)) (xe : Value → Shared → Prop) : Cx := X.tr pn xe
/-- the context of a suite that holds the error at a -/
abbrev suX (X : Cx) (ad : Addr) (oe : Obj) (pn : List (Addr × Obj)) : Cx := X.suite ad ((ad, oe) :: pn)
/-- try: .. except x as n: suite -/
theorem ws_try_as {x n : Str} {c0 : Value} {b₀ : Stmt} (i : Nat) (c : Cxo X W k) (hs : X.stack = X.env :: X.outer) (hf : X.env.frame = some X.env.locals) (hc : Names X x c0) (Qx : Addr → Gam → Sto → Prop)
    (hb : ∀ (W' : WX) (pn : List (Addr × Obj)) (xe : Value → Shared → Prop), Cxo (trX X pn xe) W' k → WSs (trX X pn xe) W' body G S { P with xc := Qx })
    (hsu : ∀ C G' S', Qx C G' S' → PySem.W.exmOne X.K (.ref C) c0 = some true ∧ ∀ (ad : Addr) (oe : Obj) (pn : List (Addr × Obj)), Zc (.ref C) none oe → (∃ vs, oe.data = .fields vs) →
      WSs (suX X ad oe pn) (fun _ _ _ _ => False) (b₀ :: suite) (G'.set i (some (.r (.ref ad)))) S' { nx := fun G S => P.nx (G.set i none) S, rt := P.rt, bk := fun G S => P.bk (G.set i none) S, ct := fun G S => P.ct (G.set i none) S })
    (hi : X.N[i]? = some n := by rfl) (hln : X.env.kindOf n = some .local := by rfl) : WS X W (.Try body [.ExceptHandler (some (.Name x np)) (some n) (b₀ :: suite) pos'] [] [] pos) G S P := fun M σ H D s m =>
  toS (ps_try_as (i := i) (tb := fun W' => fun D σ H => ∀ pn xe, Takes (X.tr pn xe) W' → PassesOwn (model X.prog X.w) X.A X.env xe → sSs (X.tr pn xe) body D σ H) (ts := fun ad cls d => fun D σ H => ∀ oe pn, Zc cls d oe → (∃ vs, oe.data = .fields vs) → sSs (suX X ad oe pn) (b₀ :: suite) D σ H) hs hf c.nd hi hln hc c.tk
    (fun W' pn xe tk po => ⟨fun pins s1 σ1 H1 D1 I1 h1 => h1 pn xe tk po pins s1 I1⟩) (fun ad oe cls d pn hz hd => ⟨fun pins s1 σ1 H1 D1 I1 h1 => h1 oe pn hz hd pins s1 I1⟩)) (by
    intro pn xe tk po
    refine hb _ pn xe ⟨c.calm, c.nd, tk, po, c.hr⟩ M σ H D s ⟨m.nx, m.rt, m.bk, m.ct, fun M' σ' H' G' C S' e1 t1 q1 => ?_⟩
    obtain ⟨h1, h2⟩ := hsu C G' S' q1
    refine ⟨true, h1, fun _ ad had oe pn' hz hd => ?_, fun q => (nomatch q)⟩
    have t2 : Stt X.K M' H' S' (G'.set i (some (.r (.ref ad)))) (σ'.set i (some (.ref ad))) := t1.set rfl
    refine h2 ad oe pn' hz hd M' _ H' _ t2 ⟨fun M2 σ2 H2 G2 S2 e2 t2 q2 => ?_, fun v M2 H2 r S2 e2 => m.rt v M2 H2 r S2 (e1.trans e2), fun M2 σ2 H2 G2 S2 e2 t2 q2 => ?_, fun M2 σ2 H2 G2 S2 e2 t2 q2 => ?_, fun _ _ _ _ _ _ _ _ q2 => q2.elim⟩
    all_goals
      have t3 : Stt X.K M2 H2 S2 (G2.set i none) (σ2.set i none) := by
        refine ⟨t2.sto, by rw [List.length_set, List.length_set]; exact t2.len, fun l u e => ?_⟩
        by_cases hl : i = l
        · subst hl
          by_cases hlt : i < G2.length
          · rw [List.getElem?_set_self hlt] at e; cases e
          · rw [List.getElem?_eq_none (by rw [List.length_set]; omega)] at e; cases e
        · rw [List.getElem?_set_ne hl] at e
          obtain ⟨v, h1, h2⟩ := t2.at_ l u e
          exact ⟨v, by rw [List.getElem?_set_ne hl]; exact h1, h2⟩
    · exact m.nx M2 _ H2 _ S2 (e1.trans e2) t3 q2
    · exact m.bk M2 _ H2 _ S2 (e1.trans e2) t3 q2
    · exact m.ct M2 _ H2 _ S2 (e1.trans e2) t3 q2)
/-! ### isinstance of the error that a suite holds -/
/-- isinstance(e, (c1, c2, ..)) -/
theorem call_isET {a D : Addr} {oe : Obj} {pn : List (Addr × Obj)} (C : ExcC X.K D) (hz : Zc (.ref D) none oe) (hf : ∃ vs, oe.data = .fields vs) : CallR (X.suite a ((a, oe) :: pn)) (.builtin "isinstance") (fun xs H Q => ∃ (tp : Addr) (cs : List V) (us : List Value) (b : Bool), xs = [.ref a, .ref tp] ∧ H tp = some (.tup cs) ∧ Paired ClsV cs us ∧ PySem.W.kitAny X.K (.ref D) us = some b ∧ Q (.bl b) H) := by
  intro pins s σ H xs us Q I r h
  obtain ⟨tp, cs, ws, b, rfl, hT, k, e, q⟩ := h
  obtain ⟨u1, u2, rfl, r1, r2⟩ := vals2 r
  cases (show u2 = Value.ref tp from r2)
  cases (show u1 = Value.ref a from r1)
  obtain ⟨hget, _⟩ := I.pin (a, oe) (List.mem_append.mpr (.inl List.mem_cons_self))
  obtain ⟨vs, hv⟩ := hf
  have J : PySem.W.InstAt s.heap a oe D none := by
    obtain ⟨oc, od, oda, osl⟩ := oe
    obtain ⟨h1, h2⟩ := hz
    dsimp only at h1 h2 hv
    subst h1 h2 hv
    exact ⟨hget, rfl, rfl, trivial⟩
  obtain ⟨_, its, rv, o, h1, h2, n, h3⟩ := (show ObjOk X.prog X.w H s.heap tp (.tup cs) from I.hok tp _ hT)
  have e3 := ClsV.all k rv
  subst e3
  obtain ⟨oc, od, dt, sl⟩ := o
  simp only at h2 h3
  subst h2 h3
  exact PySem.W.kia_tup (PySem.W.handS_kitx_exc C.hg C.hk C.hs C.hd C.ha C.hn C.ht C.hm) I.kIn J h1 e (fun z => nomatch z) fun tk => ⟨.bl b, H, I.kept (t' := tk) fun _ _ z => z, rfl, q⟩
/-- the answer's class value -/
def clsVal : It → Option Value
  | .r (.ty n) => some (.type n)
  | .r (.ref C) => some (.ref C)
  | _ => none
/-- isinstance(e, c) -/
theorem ev_isE {ad D : Addr} {oe : Obj} {pn : List (Addr × Obj)} {cv : Value} {kk : Bool} (T : ExcC X.K D) (hz : Zc (.ref D) none oe) (hf : ∃ vs, oe.data = .fields vs) (hm : X.mg "isinstance" = none) (ha : Ev (suX X ad oe pn) a G S (.r (.ref ad)) S1) (hb : Ev (suX X ad oe pn) b G S1 r S2) (hr : clsVal r = some cv) (hk : PySem.W.kitOne X.K (.ref D) cv = some kk)
    (hg : Gl X "isinstance" := by rfl) (he : starEach [a, b] X.env = (false, eval a X.env) :: starEach [b] X.env := by rfl) (he2 : starEach [b] X.env = (false, eval b X.env) :: starEach [] X.env := by rfl) (hpl : (backTo pos (starEach [b] X.env)).any (·.1) = false := by rfl) : Ev (suX X ad oe pn) (.Call (.Name "isinstance" p) [a, b] [] pos) G S (.d (.bool kk)) S2 :=
  ev_blt (X := suX X ad oe pn) (call_isE T hz hf) hm (by decide +kernel) (eva_cons ha (eva_cons hb eva_nil he2) he) (fun M H vs Q s hv q => by
    obtain ⟨v, u, rfl, h1, h2⟩ := vr2 hv
    have e1 : v = .ref ad := h1
    subst e1
    have hu : ∀ w, RelV u w → w = cv := by
      intro w hw
      cases r with
      | r x =>
        have e2 : u = x := h2
        subst e2
        cases u <;> first | (cases hr; exact hw) | cases hr
      | _ => cases hr
    exact ⟨u, cv, kk, rfl, hu, hk, q _ M H Ext.refl s (Fz.bl _)⟩) hg (by decide) (by decide) he hpl
end
end Cu
/-! CuG: isinstance, methods of texts and lists, str, join, min, over data. -/
namespace Cu
open PySem PySem.Spec PyProof.Rows L2
/-- what the classes of the text must say, so that isinstance asks their instances rightly -/
structure InsC (K : PySem.W.Frag) (C : Addr) : Prop where
  cl : Cls K C
  ha : PySem.W.findIn K (.ref C) "__class__" = some (some (.builtin "object.__class__"))
  hn : PySem.W.specialIn K (.builtin "object.__class__") "__get__" = some (some (.builtin "getset_descriptor.__get__"))
  ht : PySem.W.takesIn K (.builtin "object.__class__") = some true
  hm : PySem.W.mroIn K C (.type "object") = some true
def tyName : PyData → String
  | .none => "NoneType"
  | .bool _ => "bool"
  | .int _ => "int"
  | .str _ => "str"
  | .list _ => "list"
  | .tuple _ => "tuple"
  | .dict _ => "dict"
theorem fz_ty {K : PySem.W.Frag} {M : List Addr} {H : Hp} {v : V} {x : PyData} (h : Fz M H v x) : TyX K H v (.type (tyName x)) := by
  cases h with
  | non => exact .base .non
  | bl b => exact .base (.bl b)
  | int i => exact .base (.int i)
  | str x => exact .base (.str x)
  | lst h1 h2 =>
    rcases h1.1 with e | ⟨o, e⟩
    · exact .base (.lst e)
    · exact .base (.frz e)
  | tup h1 h2 => exact .base (.tup h1.1)
/-- the class value of what isinstance is asked of -/
inductive TyIt (K : PySem.W.Frag) (S : Sto) : It → Value → Prop
  | d (x : PyData) : TyIt K S (.d x) (.type (tyName x))
  | l {n : Nat} {xs : List It} (h : S[n]? = some (.lst xs)) : TyIt K S (.o n) (.type "list")
  | dT {n : Nat} {xs : List (List Key × It)} (h : S[n]? = some (.dT xs)) : TyIt K S (.o n) (.type "dict")
  | dK {n : Nat} {xs : List (Key × It)} (h : S[n]? = some (.dK xs)) : TyIt K S (.o n) (.type "dict")
  | ins {n : Nat} {C : Addr} {fs : List (Str × It)} (T : InsC K C) (h : S[n]? = some (.ins C fs)) : TyIt K S (.o n) (.ref C)
  | tup {n : Nat} {xs : List It} (h : S[n]? = some (.tup xs)) : TyIt K S (.o n) (.type "tuple")
theorem TyIt.tyx {K : PySem.W.Frag} {S : Sto} {M : List Addr} {H : Hp} {v : V} {r : It} {t : Value} (s : StoreOk K M H S) (h : TyIt K S r t) (hv : VRep K M H v r) : TyX K H v t := by
  cases h with
  | d x => exact fz_ty hv
  | l h =>
    obtain ⟨ad, had, rfl⟩ := hv
    obtain ⟨vs, e, _⟩ := s.rep _ ad _ had h
    exact .base (.lst e)
  | dT h =>
    obtain ⟨ad, had, rfl⟩ := hv
    obtain ⟨vs, e, _⟩ := s.rep _ ad _ had h
    exact .base (.dT e)
  | dK h =>
    obtain ⟨ad, had, rfl⟩ := hv
    obtain ⟨vs, e, _⟩ := s.rep _ ad _ had h
    exact .base (.dK e)
  | ins T h =>
    obtain ⟨ad, had, rfl⟩ := hv
    obtain ⟨dx, vs, e, _⟩ := s.rep _ ad _ had h
    exact .base (.ins e T.cl T.ha T.hn T.ht T.hm)
  | tup h =>
    obtain ⟨ad, had, rfl⟩ := hv
    obtain ⟨vs, e, _⟩ := s.rep _ ad _ had h
    exact .base (.tup e)
section
variable {X : Cx} {W : WX} {k j : Nat} {G G1 G2 : Gam} {S S1 S2 S3 : Sto} {P : Post} {e a b o iter tg elt : Expr} {es ifs : List Expr} {r y z : It} {rs : List It} {pos pos' pos2 p p2 apos np cpos : Pos} {st : Stmt} {sts body suite : List Stmt} {ds : List PyData} {C : Addr} {m n : Int} {Qr : It → Sto → Prop} {Qx : Addr → Sto → Prop}
theorem clsV_of {u : V} {cv : Value} (hr : clsVal r = some cv) {K : PySem.W.Frag} {M : List Addr} {H : Hp} (h : VRep K M H u r) : ClsV u cv := by
  cases r with
  | r x =>
    have e2 : u = x := h
    subst e2
    cases u <;> first | (cases hr; exact .ty _) | (cases hr; exact .own _) | cases hr
  | _ => cases hr
/-- isinstance(x, c) -/
theorem ev_isi {t cv : Value} {kk : Bool} (hm : X.mg "isinstance" = none) (ha : Ev X a G S z S1) (hb : Ev X b G S1 r S2) (hr : clsVal r = some cv) (hT : TyIt X.K S2 z t) (hk : PySem.W.kitOne X.K t cv = some kk)
    (hg : Gl X "isinstance" := by rfl) (he : starEach [a, b] X.env = (false, eval a X.env) :: starEach [b] X.env := by rfl) (he2 : starEach [b] X.env = (false, eval b X.env) :: starEach [] X.env := by rfl) (hpl : (backTo pos (starEach [b] X.env)).any (·.1) = false := by rfl) : Ev X (.Call (.Name "isinstance" p) [a, b] [] pos) G S (.d (.bool kk)) S2 :=
  ev_blt call_isi hm (by decide +kernel) (eva_cons ha (eva_cons hb eva_nil he2) he) (fun M H vs Q s hv q => by
    obtain ⟨v, u, rfl, h1, h2⟩ := vr2 hv
    exact ⟨v, u, t, cv, kk, rfl, clsV_of hr h2, hT.tyx s h1, hk, q _ M H Ext.refl s (Fz.bl _)⟩) hg (by decide) (by decide) he hpl
/-- isinstance of a datum with a built-in class -/
theorem ev_isD {x : PyData} {T : String} {nm : Str} {kk : Bool} {pn : Pos} (hm : X.mg "isinstance" = none) (hT : X.mg nm = none) (ha : Ev X a G S (.d x) S1) (hB : kitB (tyName x) T = some kk) (hv : bootBuiltins nm = some (.type T) := by decide +kernel) (hg : Gl X "isinstance" := by rfl) (hg2 : Gl X nm := by rfl) (hn : nm ≠ "__name__" := by decide) (hd : (nm == ("__debug__" : Str)) = false := by decide)
    (he : starEach [a, .Name nm pn] X.env = (false, eval a X.env) :: starEach [.Name nm pn] X.env := by rfl) (he2 : starEach [.Name nm pn] X.env = (false, eval (.Name nm pn) X.env) :: starEach [] X.env := by rfl) (hpl : (backTo pos (starEach [.Name nm pn] X.env)).any (·.1) = false := by rfl) : Ev X (.Call (.Name "isinstance" p) [a, .Name nm pn] [] pos) G S (.d (.bool kk)) S1 :=
  ev_isi hm ha (ev_type hT hv hg2 hn hd) rfl (.d x) (kit_ty hB) hg he he2 hpl
/-- the class values of items -/
def clsVals : List It → Option (List Value)
  | [] => some []
  | r :: rs => match clsVal r, clsVals rs with
    | some v, some vs => some (v :: vs)
    | _, _ => none
theorem clsVs_of {K : PySem.W.Frag} {M : List Addr} {H : Hp} : ∀ {rs : List It} {cvs : List Value} {us : List V}, clsVals rs = some cvs → VReps K M H us rs → Paired ClsV us cvs
  | [], cvs, us, h, hr => by
    cases h
    cases hr
    exact .nil
  | r :: rs, cvs, us, h, hr => by
    cases hr with
    | cons h1 h2 =>
      have h' : (match clsVal r, clsVals rs with | some v, some vs => some (v :: vs) | _, _ => none) = some cvs := h
      cases e1 : clsVal r with
      | none => rw [e1] at h'; cases h'
      | some v =>
        cases e2 : clsVals rs with
        | none => rw [e1, e2] at h'; cases h'
        | some vs =>
          rw [e1, e2] at h'
          cases h'
          exact .cons (clsV_of e1 h1) (clsVs_of e2 h2)
/-- isinstance(e, (c1, c2, ..)), e the error that the suite holds -/
theorem ev_isET {ad D : Addr} {oe : Obj} {pn : List (Addr × Obj)} {cvs : List Value} {kk : Bool} {x1 : Nat} {tpos : Pos} (T : ExcC X.K D) (hz : Zc (.ref D) none oe) (hf : ∃ vs, oe.data = .fields vs) (hm : X.mg "isinstance" = none) (ha : Ev (suX X ad oe pn) a G S (.r (.ref ad)) S1) (hb : EvA (suX X ad oe pn) es G S1 rs S2) (hr : clsVals rs = some cvs) (hk : PySem.W.kitAny X.K (.ref D) cvs = some kk)
    (hl : rs.length ≤ 1000 := by exact Nat.le_of_ble_eq_true rfl) (hg : Gl X "isinstance" := by rfl) (he : starEach [a, .Tuple es x1 tpos] X.env = (false, eval a X.env) :: starEach [.Tuple es x1 tpos] X.env := by rfl) (he2 : starEach [.Tuple es x1 tpos] X.env = (false, eval (.Tuple es x1 tpos) X.env) :: starEach [] X.env := by rfl)
    (hpl : (backTo pos (starEach [.Tuple es x1 tpos] X.env)).any (·.1) = false := by rfl) : Ev (suX X ad oe pn) (.Call (.Name "isinstance" p) [a, .Tuple es x1 tpos] [] pos) G S (.d (.bool kk)) S2 := fun M σ H Q s q =>
  toE (X := suX X ad oe pn) (pe_callB (call_isET T hz hf) hg hm (by decide +kernel) (pa_cons pe_s (pa_cons (pe_tup pa_s) pa_nil he2) he) (by decide) (by decide) he hpl) (ha M σ H _ s fun v M1 H1 e1 t1 r1 => hb M1 σ H1 _ t1 fun us M2 H2 e2 t2 r2 => ⟨Nat.le_of_lt (small1000 (by rw [r2.len]; exact hl)), fun tp htp => by
    have e3 : v = .ref ad := r1
    subst e3
    exact ⟨tp, us, cvs, kk, rfl, upd_same, clsVs_of hr r2, hk, q _ M2 _ ((e1.trans e2).trans (Ext.fresh htp)) (t2.fresh htp) (Fz.bl _)⟩⟩)
/-! ### methods of built-in types -/
theorem ev_bm {T id : String} {name : Str} {rr : V → List V → Hp → VK → Prop} (pa : PlainAttrs T) (slot : Slot T name id) (hty : typeOf (.builtin id) = pure (.type "method_descriptor")) (hmt : MtR X id rr) (ho : Ev X o G S z S1) (hT : ∀ M H v, StoreOk X.K M H S1 → VRep X.K M H v z → tyV X.K T v H) (ha : EvA X (e :: es) G S1 rs S2) (hr : RWM X rr z rs S2 y S3)
    (hbase : attributeBase o name X.env (eval o X.env) = eval o X.env := by rfl)
    (hfew : ((backTo cpos (starEach (e :: es) X.env)).all (fun x => !x.1) && (backToKw cpos (keywordEach [] X.env)).all (fun x => x.1.isSome)
      && decide ((e :: es).length + ([] : List Keyword).length + (if ([] : List Keyword).isEmpty then 0 else 1) < 30)) = true := by rfl)
    (hline : (apos.endLine == cpos.line) = true := by rfl) (hs : starEach (e :: es) X.env = (false, eval e X.env) :: starEach es X.env := by rfl) (hplain : (backTo cpos (starEach es X.env)).any (·.1) = false := by rfl) : Ev X (.Call (.Attribute o name apos) (e :: es) [] cpos) G S y S3 := fun M σ H Q s q =>
  toE (pe_bm pa slot hty hmt pe_s pa_s hbase hfew hline hs hplain) (ho M σ H _ s fun v M1 H1 e1 t1 r1 => ⟨hT M1 H1 v t1.sto r1, ha M1 σ H1 _ t1 fun us M2 H2 e2 t2 r2 => hr M2 H2 v us _ t2.sto (r1.ext e2) r2 fun w M3 H3 e3 s3 r3 => q w M3 H3 ((e1.trans e2).trans e3) (t2.mono e3 s3) r3⟩)
theorem ev_bm0 {T id : String} {name : Str} {rr : V → List V → Hp → VK → Prop} (pa : PlainAttrs T) (slot : Slot T name id) (hty : typeOf (.builtin id) = pure (.type "method_descriptor")) (hmt : MtR X id rr) (ho : Ev X o G S z S1) (hT : ∀ M H v, StoreOk X.K M H S1 → VRep X.K M H v z → tyV X.K T v H) (hr : RWM X rr z [] S1 y S2)
    (hbase : attributeBase o name X.env (eval o X.env) = eval o X.env := by rfl) (hline : (apos.endLine == cpos.line) = true := by rfl) : Ev X (.Call (.Attribute o name apos) [] [] cpos) G S y S2 := fun M σ H Q s q =>
  toE (pe_bm0 pa slot hty hmt pe_s hbase hline) (ho M σ H _ s fun v M1 H1 e1 t1 r1 => ⟨hT M1 H1 v t1.sto r1, hr M1 H1 v [] _ t1.sto r1 .nil fun w M3 H3 e3 s3 r3 => q w M3 H3 (e1.trans e3) (t1.mono e3 s3) r3⟩)
theorem ty_str {x : Str} : ∀ M H v, StoreOk X.K M H S → VRep X.K M H v (.d (.str x)) → tyV X.K "str" v H := fun M H v _ h => by rw [vr_str h]; rfl
theorem ty_own {i : Nat} {xs : List It} (hi : S[i]? = some (.lst xs)) : ∀ M H v, StoreOk X.K M H S → VRep X.K M H v (.o i) → tyV X.K "list" v H := fun M H v s h => by
  obtain ⟨ad, had, rfl⟩ := h
  obtain ⟨vs, e, _⟩ := s.rep i ad _ had hi
  exact .inl ⟨rfl, vs, .of e⟩
/-- xs.append(e) -/
theorem ev_append {i : Nat} {xs : List It} (ho : Ev X o G S (.o i) S1) (hi : S1[i]? = some (.lst xs)) (ha : Ev X e G S1 r S2) (hi2 : S2[i]? = some (.lst xs)) (hz : xs.length < 1000000) (hbase : attributeBase o "append" X.env (eval o X.env) = eval o X.env := by rfl)
    (hfew : ((backTo cpos (starEach [e] X.env)).all (fun x => !x.1) && (backToKw cpos (keywordEach [] X.env)).all (fun x => x.1.isSome) && decide ([e].length + ([] : List Keyword).length + (if ([] : List Keyword).isEmpty then 0 else 1) < 30)) = true := by rfl)
    (hline : (apos.endLine == cpos.line) = true := by rfl) (hs : starEach [e] X.env = (false, eval e X.env) :: starEach [] X.env := by rfl) : Ev X (.Call (.Attribute o "append" apos) [e] [] cpos) G S (.d .none) (S2.set i (.lst (xs ++ [r]))) :=
  ev_bm PySem.F.plainAttrs_list PySem.F.slot_list_append PySem.F.type_list_append mt_append ho (ty_own hi) (eva_cons ha eva_nil hs) (fun M H v vs Q s hv hvs q => by
    obtain ⟨u, rfl, hu⟩ := vr1 hvs
    obtain ⟨ad, had, rfl⟩ := hv
    obtain ⟨ws, e1, e2⟩ := s.rep i ad _ had hi2
    have e3 : Ext M H M (upd H ad (.lst (ws ++ [u]))) := Ext.put (List.mem_of_getElem? had)
    exact ⟨ad, ws, u, rfl, rfl, e1, by rw [e2.len, sizeLine_eq]; omega, q .non M _ e3 (s.put had ⟨_, upd_same, VReps.append (VReps.ext e3 e2) (.cons (hu.ext e3) .nil)⟩) Fz.non⟩) hbase hfew hline hs rfl
/-- texts among data -/
theorem fz_strs {M : List Addr} {H : Hp} : ∀ {xs : List Str} {vs : List V}, FzAll M H vs (xs.map .str) → vs = xs.map V.str
  | [], _, h => by cases h; rfl
  | x :: xs, _, h => by
    cases h with
    | cons h1 h2 =>
      rw [List.map_cons, fz_strs h2, vr_str (K := []) h1]
theorem fz_ints {M : List Addr} {H : Hp} : ∀ {xs : List Int} {vs : List V}, FzAll M H vs (xs.map .int) → vs = xs.map V.int
  | [], _, h => by cases h; rfl
  | x :: xs, _, h => by
    cases h with
    | cons h1 h2 =>
      rw [List.map_cons, fz_ints h2, vr_int (K := []) h1]
theorem fz_bools {M : List Addr} {H : Hp} : ∀ {xs : List Bool} {vs : List V}, FzAll M H vs (xs.map .bool) → vs = xs.map V.bl
  | [], _, h => by cases h; rfl
  | x :: xs, _, h => by
    cases h with
    | cons h1 h2 =>
      rw [List.map_cons, fz_bools h2, vr_bool (K := []) h1]
/-- sep.join(xs) -/
theorem ev_join {x : Str} {ys : List Str} (ho : Ev X o G S (.d (.str x)) S1) (ha : Ev X e G S1 (.d (.list (ys.map .str))) S2) (hz : (ys.map (·.length)).sum + ys.length * x.length ≤ 16777216) (hbase : attributeBase o "join" X.env (eval o X.env) = eval o X.env := by rfl)
    (hfew : ((backTo cpos (starEach [e] X.env)).all (fun x => !x.1) && (backToKw cpos (keywordEach [] X.env)).all (fun x => x.1.isSome) && decide ([e].length + ([] : List Keyword).length + (if ([] : List Keyword).isEmpty then 0 else 1) < 30)) = true := by rfl)
    (hline : (apos.endLine == cpos.line) = true := by rfl) (hs : starEach [e] X.env = (false, eval e X.env) :: starEach [] X.env := by rfl) : Ev X (.Call (.Attribute o "join" apos) [e] [] cpos) G S (.d (.str (Txt.join x ys))) S2 :=
  ev_bm PySem.F.plainAttrs_str PySem.F.slot_str_join PySem.F.type_str_join mt_join ho ty_str (eva_cons ha eva_nil hs) (fun M H v vs Q s hv hvs q => by
    obtain ⟨u, rfl, hu⟩ := vr1 hvs
    have hu' : Fz M H u (.list (ys.map .str)) := hu
    cases hu' with
    | lst h1 h2 =>
      rw [vr_str hv]
      exact ⟨x, _, ys, rfl, rfl, .inl (by rw [← fz_strs h2]; exact h1.sq), hz, q _ M H Ext.refl s (Fz.str _)⟩) hbase hfew hline hs rfl
/-- str(n) -/
theorem ev_strI (hm : X.mg "str" = none) (ha : Ev X a G S (.d (.int n)) S1) (h : n.natAbs.log2 < 1920) (hg : Gl X "str" := by rfl) (he : starEach [a] X.env = (false, eval a X.env) :: starEach [] X.env := by rfl) : Ev X (.Call (.Name "str" p) [a] [] pos) G S (.d (.str (toString n))) S1 :=
  ev_ty call_str_int hm (by decide +kernel) (eva_cons ha eva_nil he) (fun M H vs Q s hvs q => by
    obtain ⟨v, rfl, hv⟩ := vr1 hvs
    exact ⟨n, by rw [vr_int hv], h, q _ M H Ext.refl s (Fz.str _)⟩) hg (by decide) (by decide) he rfl
/-- min(xs) -/
theorem ev_minL {ns : List Int} {l : Int} (c : Cxo X W k) (hm : X.mg "min" = none) (ha : Ev X a G S (.d (.list (ns.map .int))) S1) (h : l ∈ ns) (hl : ∀ y ∈ ns, l ≤ y) (hg : Gl X "min" := by rfl) (he : starEach [a] X.env = (false, eval a X.env) :: starEach [] X.env := by rfl) : Ev X (.Call (.Name "min" p) [a] [] pos) G S (.d (.int l)) S1 :=
  ev_blt (cr_min c.calm) hm (by decide +kernel) (eva_cons ha eva_nil he) (fun M H vs Q s hvs q => by
    obtain ⟨v, rfl, hv⟩ := vr1 hvs
    have hv' : Fz M H v (.list (ns.map .int)) := hv
    cases hv' with
    | lst h1 h2 =>
      refine ⟨_, ns, rfl, by rw [← fz_ints h2]; exact h1.sq, List.length_pos_of_mem h, fun m' hm1 hm2 => ?_⟩
      have e1 : m' = l := Int.le_antisymm (hm2 l h) (hl m' hm1)
      rw [e1]
      exact q _ M H Ext.refl s (Fz.int _)) hg (by decide) (by decide) he rfl
end
end Cu
/-! CuH: the facts of a text by a Hook of our own, the defs by names, the end. -/
namespace Cu
open PySem PySem.Spec PyProof.Rows L2 He
abbrev Fk := PySem.W.Frag → Bool
def obsC (fa : List Fk) (fn : List DefD) (K : PySem.W.Frag) : AlD := ((fa.all fun f => f K) && fn.all fun d => d.ok K, fn.map fun d => fnW K d.at_)
def valC (fn : List DefD) : AlD := (true, fn.map DefD.val)
def SaysC (fa : List Fk) (fn : List DefD) (K : PySem.W.Frag) : Prop := obsC fa fn K = valC fn
def obsCG (n : Nat) (fa : List Fk) (fn : List DefD) (g : Addr → Option Obj) : AlD := obsC fa fn (frG g (asD g n))
def hookC (n : Nat) (fa : List Fk) (fn : List DefD) : PySem.W.Hook where
  α := AlD
  obs := fun s => obsCG n fa fn s.heap.get?
  val := fun _ => valC fn
  says := fun _ h => ∃ K : PySem.W.Frag, K.In h ∧ SaysC fa fn K
  of := fun _ _ e => ⟨_, frG_in, e⟩
  keeps := fun _ _ _ ⟨K, hK, c⟩ k => ⟨K, PySem.W.Frag.In.keeps hK k, c⟩
theorem obsCG_eq {n : Nat} {fa : List Fk} {fn : List DefD} {g : Addr → Option Obj} {s : Shared} (h : ∀ a, g a = s.heap.get? a) : obsCG n fa fn g = (hookC n fa fn).obs s := by
  have e : g = s.heap.get? := funext h
  rw [e] <;> rfl
section
variable {fa : List Fk} {fn : List DefD} {K : PySem.W.Frag} {mg : Str → Option Value}
theorem SaysC.fact (c : SaysC fa fn K) (i : Nat) {f : Fk} (h : fa[i]? = some f := by rfl) : f K = true := by
  have c1 := (ba (show ((fa.all fun f => f K) && fn.all fun d => d.ok K) = true from congrArg (fun z : AlD => z.1) c)).1
  exact List.all_eq_true.mp c1 f (List.mem_of_getElem? h)
theorem SaysC.def_ (c : SaysC fa fn K) (i : Nat) {d : DefD} (h : fn[i]? = some d := by rfl) : ∃ fd, FunD K d.name d.qual d.params d.body d.scope (d.dvs K) (d.kws K) (fAd K d.at_) fd := by
  have c2 := (ba (show ((fa.all fun f => f K) && fn.all fun d => d.ok K) = true from congrArg (fun z : AlD => z.1) c)).2
  have e : fn.map (fun d => fnW K d.at_) = fn.map DefD.val := congrArg (fun z : AlD => z.2) c
  have e2 : (fn.map fun d => fnW K d.at_)[i]? = (fn.map DefD.val)[i]? := by rw [e]
  rw [List.getElem?_map, List.getElem?_map, h] at e2
  exact DefD.funD (Option.some.inj e2) (List.all_eq_true.mp c2 d (List.mem_of_getElem? h))
/-- the text's facts, and where the module's names stand -/
structure Txt (fa : List Fk) (fn : List DefD) (K : PySem.W.Frag) (mg : Str → Option Value) : Prop where
  c : SaysC fa fn K
  g : ∃ h : Heap, K.In h ∧ h.Ns mainGlobals mg
theorem Txt.glo (T : Txt fa fn K mg) (i : Nat) {x : Str} (h : fa[i]? = some (Fa.ok · (.glo x)) := by rfl) : mg x = some (.ref (ga K x)) := by
  obtain ⟨_, X, G⟩ := T.g
  exact glo_ok X G (T.c.fact i h)
theorem Txt.free (T : Txt fa fn K mg) (i : Nat) {x : Str} (h : fa[i]? = some (Fa.ok · (.free x)) := by rfl) : mg x = none := by
  obtain ⟨_, X, G⟩ := T.g
  exact free_ok X G (T.c.fact i h)
theorem Txt.int (T : Txt fa fn K mg) (i : Nat) {x : Str} {n : Int} (h : fa[i]? = some (Fa.ok · (.int x n)) := by rfl) : ∃ t, mg x = some (.int n t) := by
  obtain ⟨_, X, G⟩ := T.g
  exact int_ok X G (T.c.fact i h)
theorem Txt.str (T : Txt fa fn K mg) (i : Nat) {x z : Str} (h : fa[i]? = some (Fa.ok · (.str x z)) := by rfl) : ∃ t, mg x = some (.str z t) := by
  obtain ⟨_, X, G⟩ := T.g
  exact str_ok X G (T.c.fact i h)
/-! ### further facts -/
def bExcC (x : Str) : Fk := fun K => eqO (PySem.W.findIn K (.ref (ga K x)) "__getattribute__") (some (some (.builtin "BaseException.__getattribute__"))) && (eqO (PySem.W.findIn K (.ref (ga K x)) "__getattr__") (some none) && (decide (PySem.W.subIn K (.ref (ga K x)) (.type "BaseException") = some true) && (PySem.W.hasDictIn K (ga K x) &&
  (eqO (PySem.W.findIn K (.ref (ga K x)) "__class__") (some (some (.builtin "object.__class__"))) && (eqO (PySem.W.specialIn K (.builtin "object.__class__") "__get__") (some (some (.builtin "getset_descriptor.__get__"))) && (decide (PySem.W.takesIn K (.builtin "object.__class__") = some true) && decide (PySem.W.mroIn K (ga K x) (.type "object") = some true)))))))
theorem excC_ok {x : Str} (h : bExcC x K = true) : ExcC K (ga K x) := by
  obtain ⟨h1, h⟩ := ba h
  obtain ⟨h2, h⟩ := ba h
  obtain ⟨h3, h⟩ := ba h
  obtain ⟨h4, h⟩ := ba h
  obtain ⟨h5, h⟩ := ba h
  obtain ⟨h6, h⟩ := ba h
  obtain ⟨h7, h8⟩ := ba h
  exact ⟨eqO_ok h1, eqO_ok h2, of_decide_eq_true h3, h4, eqO_ok h5, eqO_ok h6, of_decide_eq_true h7, of_decide_eq_true h8⟩
def bInsC (x : Str) : Fk := fun K => Fa.ok K (.cls x) && (eqO (PySem.W.findIn K (.ref (ga K x)) "__class__") (some (some (.builtin "object.__class__"))) && (eqO (PySem.W.specialIn K (.builtin "object.__class__") "__get__") (some (some (.builtin "getset_descriptor.__get__"))) && (decide (PySem.W.takesIn K (.builtin "object.__class__") = some true) && decide (PySem.W.mroIn K (ga K x) (.type "object") = some true))))
theorem insC_ok {x : Str} (h : bInsC x K = true) : InsC K (ga K x) := by
  obtain ⟨h1, h⟩ := ba h
  obtain ⟨h2, h⟩ := ba h
  obtain ⟨h3, h⟩ := ba h
  obtain ⟨h4, h5⟩ := ba h
  exact ⟨cls_ok h1, eqO_ok h2, eqO_ok h3, of_decide_eq_true h4, of_decide_eq_true h5⟩
/-- an instance (an error) of the class x is one of the class y -/
def bKit (x y : Str) (b : Bool) : Fk := fun K => decide (PySem.W.kitOne K (.ref (ga K x)) (.ref (ga K y)) = some b)
theorem kitR_ok {x y : Str} {b : Bool} (h : bKit x y b K = true) : PySem.W.kitOne K (.ref (ga K x)) (.ref (ga K y)) = some b := of_decide_eq_true h
def bKitT (x : Str) (T : String) (b : Bool) : Fk := fun K => decide (PySem.W.kitOne K (.ref (ga K x)) (.type T) = some b)
theorem kitT_ok {x : Str} {T : String} {b : Bool} (h : bKitT x T b K = true) : PySem.W.kitOne K (.ref (ga K x)) (.type T) = some b := of_decide_eq_true h
def bTyK (T : String) (y : Str) (b : Bool) : Fk := fun K => decide (PySem.W.kitOne K (.type T) (.ref (ga K y)) = some b)
theorem tyK_ok {y : Str} {T : String} {b : Bool} (h : bTyK T y b K = true) : PySem.W.kitOne K (.type T) (.ref (ga K y)) = some b := of_decide_eq_true h
theorem Txt.excF (T : Txt fa fn K mg) (i j : Nat) {x : Str} (h : fa[i]? = some (Fa.ok · (.glo x)) := by rfl) (h2 : fa[j]? = some (Fa.ok · (.exc x)) := by rfl) : ExcF K mg x (ga K x) := by
  obtain ⟨e1, e2, e3, e4⟩ := exc_ok (T.c.fact j h2)
  exact ⟨T.glo i h, e1, e2, e3, e4⟩
/-! ### defs by names -/
variable {P : Program} {w : World} {base : Heap} {x qual : Str} {params : Arguments} {body : List Stmt} {scope : Scope} {f C : Addr} {ps : List Str} {k : Nat} {F : Fn}
theorem okF_of (g : mg x = some (.ref f)) (hd : ∃ fd, FunD K x qual params body scope [] [] f fd)
    (hb : ∀ (kV doc pm : Value) (an : Option Addr) (cdv ct : Value) (us : List Value), us.length = ps.length → bindArgs (PySem.W.fnOf x qual params body scope .none kV doc pm an cdv ct) ⟨us, []⟩ = pure (ps.zip us))
    (h : ∀ fd, FunD K x qual params body scope [] [] f fd → FnOk P w K mg base (L2.CX P w) k f fd ps (spF K ps.length F)) : OkF P w K mg base k x ps [] F := by
  obtain ⟨fd, Fd⟩ := hd
  exact ⟨f, fd, [], [], g, Fd.kp, Fd.bindsN hb, .nil, fun _ _ => .nil, h fd Fd⟩
theorem okM_of (c : Cls K C) (m : Meth K C x f) (hd : ∃ fd, FunD K x qual params body scope [] [] f fd)
    (hb : ∀ (kV doc pm : Value) (an : Option Addr) (cdv ct : Value) (us : List Value), us.length = ps.length → bindArgs (PySem.W.fnOf x qual params body scope .none kV doc pm an cdv ct) ⟨us, []⟩ = pure (ps.zip us))
    (h : ∀ fd, FunD K x qual params body scope [] [] f fd → FnOk P w K mg base (L2.CX P w) k f fd ps (spF K ps.length F)) : OkM P w K mg base k C x ps [] F := by
  obtain ⟨fd, Fd⟩ := hd
  exact ⟨f, fd, [], [], c, m, Fd.bindsN hb, .nil, fun _ _ => .nil, h fd Fd⟩
theorem okC_of {y : Str} (g : mg y = some (.ref C)) (m : Mk K C f) (hd : ∃ fd, FunD K x qual params body scope [] [] f fd)
    (hb : ∀ (kV doc pm : Value) (an : Option Addr) (cdv ct : Value) (us : List Value), us.length = ps.length → bindArgs (PySem.W.fnOf x qual params body scope .none kV doc pm an cdv ct) ⟨us, []⟩ = pure (ps.zip us))
    (h : ∀ fd, FunD K x qual params body scope [] [] f fd → FnOk P w K mg base (L2.CX P w) k f fd ps (spF K ps.length F)) : OkC P w K mg base k C y ps [] F := by
  obtain ⟨fd, Fd⟩ := hd
  exact ⟨f, fd, [], [], g, m, Fd.bindsN hb, .nil, fun _ _ => .nil, h fd Fd⟩
end
/-- the law's own promise -/
def lawF : Fn := fun rs S QR _ => ∃ ns : List Int, rs = [.s ns] ∧ S = [] ∧ ns.length ≤ 63 ∧ QR (.d (.bool true)) []
theorem law_sp {K : PySem.W.Frag} {H : Hp} {a : Addr} {ns : List Int} (hl : ns.length ≤ 63) (hO : Only H) (hS : SqL K H a (ns.map V.int)) : spF K 1 lawF [.ref a] H (fun v _ => v = .bl true) (fun _ _ _ => False) := by
  have h0 : StoreOk K [] H [] := ⟨List.nodup_nil, rfl, fun n a w h => by simp at h⟩
  have hN : NdS K [] H a (ns.map V.int) := hS.elim (fun h => .inl ⟨h, by simp⟩) .inr
  exact ⟨[], [], [.s ns], h0, .cons ⟨a, rfl, hN⟩ .nil, rfl, ns, rfl, rfl, hl, fun v M' H' _ _ hv => vr_bool hv⟩
/-- the end: from the law's def to the row -/
theorem walk_w {l : PySem.W.OpenLaw} {fa : List Fk} {fn : List DefD} {nn k : Nat} {q : Program} {loose : List Str} {XP : (Str → Option Value) → Heap → Prop} {d : DefRec} {x : Str} (hn : l.most = some 63) (hdf : d.params.defaults = []) (hr : Room k callerA) (hd : d.name = "law")
    (h : ∀ (w : World) (K : PySem.W.Frag) (mg : Str → Option Value), Txt fa fn K mg → mg "law" = some (.ref (ga K "law")) ∧ ∃ fd : FuncData, (∀ (s : Shared) (u : Value), BindsTo s fd ⟨[u], []⟩ [(x, u)]) ∧ ∀ base : Heap, FnOk l.prog w K mg base (L2.CX l.prog w) k (ga K "law") fd [x] (spF K 1 lawF)) :
    PySem.W.WalkO q loose XP (hookC nn fa fn).says l.row.toRowW d [] (fun f vs => PySem.call f vs) := by
  refine Att.attach_call hn hdf fun w s0 s1 mg mb f1 ob pm cd doc ad vs ns Gd Y ho hda hcd hmg hobj hins hlen hgn => ?_
  obtain ⟨K, KX, c⟩ := Y
  obtain ⟨hgl, fd, hb, hF⟩ := h w K mg ⟨c, _, KX, Gd.T.g⟩
  rw [hd, hgl] at hmg
  obtain rfl : ga K "law" = f1 := by injection hmg with hmg; injection hmg
  refine law_call KX Gd.T.g Gd.T.b Gd.T.builtins Gd.T.nolimit hgn hobj hins (Nat.le_trans hlen (by rw [sizeLine_eq]; omega)) hr (fun base _ _ => hF base) hb (fun H hO hS => law_sp hlen hO hS) fun H e s' hx => ?_
  obtain ⟨_, _, _, _, _, _, _, _, _, _, _, _, z⟩ := hx
  exact z
end Cu
/-! CuI: further sources of loops, further operators. -/
namespace Cu
open PySem PySem.Spec PyProof.Rows L2
theorem kitAny_no {K : PySem.W.Frag} {t c : Value} {cs : List Value} {b : Bool} (h : PySem.W.kitOne K t c = some false) (h2 : PySem.W.kitAny K t cs = some b) : PySem.W.kitAny K t (c :: cs) = some b := by
  simp only [PySem.W.kitAny, h]; exact h2
theorem kitAny_yes {K : PySem.W.Frag} {t c : Value} {cs : List Value} (h : PySem.W.kitOne K t c = some true) : PySem.W.kitAny K t (c :: cs) = some true := by
  simp only [PySem.W.kitAny, h]
theorem ev_gref {X : Cx} {G : Gam} {S : Sto} {pos : Pos} {n : Str} {C : Addr} (hm : X.mg n = some (.ref C)) (hg : Gl X n := by rfl) (hd : (n == ("__debug__" : Str)) = false := by decide) : Ev X (.Name n pos) G S (.r (.ref C)) S := ev_glob (v := .ref C) hm rfl hg hd
/-- the data of a list, be it a datum or owned -/
def lsOf (S : Sto) : It → Option (List PyData)
  | .d (.list ds) => some ds
  | .o n => match S[n]? with
    | some (.lst xs) => ds? xs
    | _ => none
  | _ => none
theorem ds_map : ∀ (ds : List PyData), ds? (ds.map .d) = some ds
  | [] => rfl
  | d :: ds => by
    show (ds? (ds.map .d)).map (d :: ·) = _
    rw [ds_map ds]; rfl
theorem ls_own {S : Sto} {n : Nat} {ds : List PyData} (h : S[n]? = some (.lst (ds.map .d))) : lsOf S (.o n) = some ds := by
  show (match S[n]? with | some (.lst xs) => ds? xs | _ => none) = _
  rw [h]; exact ds_map ds
theorem len_own {S : Sto} {n : Nat} {xs : List It} (h : S[n]? = some (.lst xs)) : lenOf S (.o n) = some xs.length := by
  show (match S[n]? with | some (.lst xs) => some xs.length | _ => none) = _
  rw [h]
theorem ls_rd {K : PySem.W.Frag} {M : List Addr} {H : Hp} {S : Sto} {v : V} {ds : List PyData} (s : StoreOk K M H S) {r : It} (hv : VRep K M H v r) (h : lsOf S r = some ds) : ∃ a xs, v = .ref a ∧ Rd H a (.lst xs) ∧ FzAll M H xs ds := by
  cases r with
  | d x =>
    cases x with
    | list ds' =>
      cases h
      have hv' : Fz M H v (.list ds) := hv
      cases hv' with
      | lst h1 h2 => exact ⟨_, _, rfl, h1.1, h2⟩
    | _ => cases h
  | o n =>
    obtain ⟨a, ha, rfl⟩ := hv
    have h' : (match S[n]? with | some (.lst xs) => ds? xs | _ => none) = some ds := h
    cases e : S[n]? with
    | none => rw [e] at h'; cases h'
    | some w =>
      rw [e] at h'
      cases w with
      | lst xs =>
        obtain ⟨vs, h1, h2⟩ := s.rep n a _ ha e
        exact ⟨a, vs, rfl, .inl h1, fz_all h' h2⟩
      | dT _ => cases h'
      | dK _ => cases h'
      | ins _ _ => cases h'
      | tup _ => cases h'
      | lkT _ _ _ => cases h'
      | lkK _ _ _ => cases h'
      | tbl _ _ => cases h'
      | tblN _ _ => cases h'
      | fn _ _ => cases h'
      | gone => cases h'
  | r _ => cases h
  | s _ => cases h
theorem ds_inv : ∀ {xs : List It} {ds : List PyData}, ds? xs = some ds → xs = ds.map .d
  | [], ds, h => by cases h; rfl
  | .d x :: rs, ds, h => by
    cases q : ds? rs with
    | none => rw [show ds? (.d x :: rs) = (ds? rs).map (x :: ·) from rfl, q] at h; cases h
    | some ds' =>
      rw [show ds? (.d x :: rs) = (ds? rs).map (x :: ·) from rfl, q] at h
      cases h
      rw [ds_inv q]; rfl
  | .o _ :: _, _, h => by cases h
  | .r _ :: _, _, h => by cases h
  | .s _ :: _, _, h => by cases h
theorem ls_inv {S : Sto} {r : It} {ds : List PyData} (h : lsOf S r = some ds) : r = .d (.list ds) ∨ ∃ n, r = .o n ∧ S[n]? = some (.lst (ds.map .d)) := by
  cases r with
  | d x =>
    cases x with
    | list ds' => cases h; exact .inl rfl
    | _ => cases h
  | o n =>
    have h' : (match S[n]? with | some (.lst xs) => ds? xs | _ => none) = some ds := h
    cases e : S[n]? with
    | none => rw [e] at h'; cases h'
    | some w =>
      rw [e] at h'
      cases w with
      | lst xs => exact .inr ⟨n, rfl, (ds_inv h' ▸ e : S[n]? = _)⟩
      | dT _ => cases h'
      | dK _ => cases h'
      | ins _ _ => cases h'
      | tup _ => cases h'
      | lkT _ _ _ => cases h'
      | lkK _ _ _ => cases h'
      | tbl _ _ => cases h'
      | tblN _ _ => cases h'
      | fn _ _ => cases h'
      | gone => cases h'
  | r _ => cases h
  | s _ => cases h
theorem ls_app {S : Sto} {r : It} {ds : List PyData} (h : lsOf S r = some ds) (L : Sto) : lsOf (S ++ L) r = some ds := by
  rcases ls_inv h with rfl | ⟨n, rfl, e⟩
  · exact h
  · exact ls_own (by rw [List.getElem?_append_left (List.getElem?_eq_some_iff.mp e).1]; exact e)
theorem ls_len {S : Sto} {r : It} {ds : List PyData} (h : lsOf S r = some ds) : lenOf S r = some ds.length := by
  rcases ls_inv h with rfl | ⟨n, rfl, e⟩
  · rfl
  · rw [len_own e, List.length_map]
section
variable {X : Cx} {W : WX} {k j : Nat} {G G1 G2 : Gam} {S S1 S2 S3 : Sto} {P : Post} {e a b o iter tg elt : Expr} {es ifs : List Expr} {r y z r' : It} {rs : List It} {pos pos' p apos cpos tpos : Pos} {st : Stmt} {sts body : List Stmt} {ds ds' : List PyData} {C : Sto → Prop} {m n : Int}
theorem Ev.is2 (h : Ev X e G S r S1) (hr : r = r') (hs : S1 = S2) : Ev X e G S r' S2 := by subst hr hs; exact h
/-! ### sources -/
def rngC (lo c : Int) (n : Nat) : List It := (List.range n).map fun (i : Nat) => It.d (.int (lo + (i : Int) * c))
theorem rngC_len (lo c : Int) (n : Nat) : (rngC lo c n).length = n := by unfold rngC; rw [List.length_map, List.length_range]
theorem rngC_at {lo c : Int} {n i : Nat} {r : It} (h : (rngC lo c n)[i]? = some r) : i < n ∧ r = .d (.int (lo + (i : Int) * c)) := by
  unfold rngC at h
  obtain ⟨hl, he⟩ := List.getElem?_eq_some_iff.mp h
  rw [List.length_map, List.length_range] at hl
  refine ⟨hl, ?_⟩
  rw [← he, List.getElem_map, List.getElem_range]
theorem wk_rangeC {K : PySem.W.Frag} {M1 : List Addr} {H1 : Hp} {lo c : Int} {n : Nat} : Wk K (Itc lo c n) anyS M1 H1 (rngC lo c n) where
  go := fun i M' H' S' hi e s _ => by rw [rngC_len] at hi; exact hi
  yl := fun i M' H' S' x H2 r hr e s _ y => by
    obtain ⟨rfl, rfl⟩ := y
    obtain ⟨_, rfl⟩ := rngC_at hr
    exact ⟨Ext.refl, s, Fz.int _⟩
  st := fun i M' H' S' hi e s _ => by rw [rngC_len] at hi; exact hi
/-- range(a, b, c) -/
theorem evi_range3 {lo hi c : Int} {n : Nat} {a1 a2 a3 : Expr} (hm : X.mg "range" = none) (h1 : Ev X a1 G S (.d (.int lo)) S1) (h2 : Ev X a2 G S1 (.d (.int hi)) S2) (h3 : Ev X a3 G S2 (.d (.int c)) S3) (hb : RgC lo hi c n)
    (hR : Gl X "range" := by rfl) (hst : starEach [a1, a2, a3] X.env = (false, eval a1 X.env) :: starEach [a2, a3] X.env := by rfl) (hst2 : starEach [a2, a3] X.env = (false, eval a2 X.env) :: starEach [a3] X.env := by rfl) (hst3 : starEach [a3] X.env = (false, eval a3 X.env) :: starEach [] X.env := by rfl)
    (hpl : (backTo pos' (starEach [a2, a3] X.env)).any (·.1) = false := by rfl) : EvI X tg (.Call (.Name "range" p) [a1, a2, a3] [] pos') G S (rngC lo c n) anyS S3 :=
  ⟨_, pi_range3 hR hm pa_s hst hpl, fun M σ H R s q => (eva_cons h1 (eva_cons h2 (eva_cons h3 eva_nil hst3) hst2) hst) M σ H _ s fun vs M1 H1 e1 t1 r1 => by
    cases r1 with
    | cons q1 r1 =>
      cases r1 with
      | cons q2 r1 =>
        cases r1 with
        | cons q3 r1 =>
          cases r1
          exact ⟨lo, hi, c, n, by rw [vr_int q1, vr_int q2, vr_int q3], hb, q M1 H1 _ e1 t1 wk_rangeC⟩⟩
theorem wk_enum {K : PySem.W.Frag} {M1 : List Addr} {H1 : Hp} {ad : Addr} {xs : List V} (hL : NdL M1 H1 ad xs) (hA : FzAll M1 H1 xs ds) : Wk K (Ite K ad) anyS M1 H1 (ds.zipIdx.map fun x => It.d (.tuple [.int (x.2 : Nat), x.1])) where
  go := fun i M' H' S' hi e s _ => ⟨xs, xs[i]'(by rw [fz_len hA]; simpa using hi), (hL.ext e).sq, List.getElem?_eq_getElem _⟩
  yl := fun i M' H' S' x H2 r hr e s _ y => by
    obtain ⟨T, u, rfl, hT, rfl, y⟩ := y
    have hx := y xs (hL.ext e).sq
    obtain ⟨d, h1, h2⟩ := fz_at hA hx
    rw [List.getElem?_map, List.getElem?_zipIdx, h1] at hr
    cases hr
    have e2 : Ext M' H' M' (upd H' T (.tup [.int ((0 + i : Nat) : Int), u])) := Ext.fresh hT
    rw [Nat.zero_add] at e2
    refine ⟨e2, s.fresh hT, ?_⟩
    show Fz M' _ (.ref T) (.tuple [.int ((0 + i : Nat) : Int), d])
    rw [Nat.zero_add]
    exact Fz.tup ⟨upd_same, s.nin hT⟩ (.cons (Fz.int _) (.cons (Fz.ext e2 (Fz.ext e h2)) .nil))
  st := fun i M' H' S' hi e s _ => ⟨xs, (hL.ext e).sq, by rw [fz_len hA]; simpa using hi⟩
/-- enumerate(xs), a list of data -/
theorem evi_enum {elts : List Expr} {kk : Nat} {a1 : Expr} (hm : X.mg "enumerate" = none) (hi : Ev X a1 G S (.d (.list ds)) S1) (hg : Gl X "enumerate" := by rfl) (hst : starEach [a1] X.env = [(false, eval a1 X.env)] := by rfl) :
    EvI X (.Tuple elts kk tpos) (.Call (.Name "enumerate" p) [a1] [] pos') G S (ds.zipIdx.map fun x => It.d (.tuple [.int (x.2 : Nat), x.1])) anyS S1 :=
  ⟨_, pi_enum hg hm pa_s hst, fun M σ H R s q => (eva_cons hi eva_nil hst) M σ H _ s fun vs M1 H1 e1 t1 r1 => by
    cases r1 with
    | cons q1 r1 =>
      cases r1
      have hv' : Fz M1 H1 _ (.list ds) := q1
      cases hv' with
      | lst h1 h2 => exact ⟨_, _, rfl, h1.sq, q M1 H1 _ e1 t1 (wk_enum h1 h2)⟩⟩
theorem wk_zip {K : PySem.W.Frag} {M1 : List Addr} {H1 : Hp} {ad bd : Addr} {xs ys : List V} (hL : NdL M1 H1 ad xs) (hA : FzAll M1 H1 xs ds) (hL' : NdL M1 H1 bd ys) (hA' : FzAll M1 H1 ys ds') : Wk K (Itz K ad bd) anyS M1 H1 ((ds.zip ds').map fun x => It.d (.tuple [x.1, x.2])) where
  go := fun i M' H' S' hi e s _ => by
    have l1 := fz_len hA
    have l2 := fz_len hA'
    have hi' : i < min ds.length ds'.length := by simpa using hi
    exact ⟨xs, ys, xs[i]'(by omega), ys[i]'(by omega), (hL.ext e).sq, (hL'.ext e).sq, List.getElem?_eq_getElem _, List.getElem?_eq_getElem _⟩
  yl := fun i M' H' S' x H2 r hr e s _ y => by
    obtain ⟨T, u, u', rfl, hT, rfl, y, y'⟩ := y
    have hx := y xs (hL.ext e).sq
    have hx' := y' ys (hL'.ext e).sq
    obtain ⟨d, h1, h2⟩ := fz_at hA hx
    obtain ⟨d', h1', h2'⟩ := fz_at hA' hx'
    have ez : (ds.zip ds')[i]? = some (d, d') := by rw [List.getElem?_zip_eq_some]; exact ⟨h1, h1'⟩
    rw [List.getElem?_map, ez] at hr
    cases hr
    have e2 : Ext M' H' M' (upd H' T (.tup [u, u'])) := Ext.fresh hT
    exact ⟨e2, s.fresh hT, Fz.tup ⟨upd_same, s.nin hT⟩ (.cons (Fz.ext e2 (Fz.ext e h2)) (.cons (Fz.ext e2 (Fz.ext e h2')) .nil))⟩
  st := fun i M' H' S' hi e s _ => ⟨xs, ys, (hL.ext e).sq, (hL'.ext e).sq, by
    have l1 := fz_len hA
    have l2 := fz_len hA'
    have hi' : min ds.length ds'.length ≤ i := by simpa using hi
    omega⟩
/-- zip(xs, ys), lists of data -/
theorem evi_zip {elts : List Expr} {kk : Nat} {a1 a2 : Expr} (hm : X.mg "zip" = none) (h1 : Ev X a1 G S (.d (.list ds)) S1) (h2 : Ev X a2 G S1 (.d (.list ds')) S2) (hg : Gl X "zip" := by rfl) (hst : starEach [a1, a2] X.env = (false, eval a1 X.env) :: starEach [a2] X.env := by rfl)
    (hst2 : starEach [a2] X.env = (false, eval a2 X.env) :: starEach [] X.env := by rfl) (hpl : (backTo pos' (starEach [a2] X.env)).any (·.1) = false := by rfl) :
    EvI X (.Tuple elts kk tpos) (.Call (.Name "zip" p) [a1, a2] [] pos') G S ((ds.zip ds').map fun x => It.d (.tuple [x.1, x.2])) anyS S2 :=
  ⟨_, pi_zip hg hm pa_s hst hpl, fun M σ H R s q => (eva_cons h1 (eva_cons h2 eva_nil hst2) hst) M σ H _ s fun vs M1 H1 e1 t1 r1 => by
    cases r1 with
    | cons q1 r1 =>
      cases r1 with
      | cons q2 r1 =>
        cases r1
        have hv : Fz M1 H1 _ (.list ds) := q1
        have hv' : Fz M1 H1 _ (.list ds') := q2
        cases hv with
        | lst h1 h2 =>
          cases hv' with
          | lst h3 h4 => exact ⟨_, _, _, _, rfl, h1.sq, h3.sq, q M1 H1 _ e1 t1 (wk_zip h1 h2 h3 h4)⟩⟩
/-- the signs of a text -/
def signs (x : Str) : List PyData := x.cps.toList.map fun c => .str ⟨#[c]⟩
theorem signs_len {x : Str} : (signs x).length = x.length := by unfold signs; rw [List.length_map, Array.length_toList]; rfl
theorem wk_str {K : PySem.W.Frag} {M1 : List Addr} {H1 : Hp} {x : Str} : Wk K (Its x) anyS M1 H1 ((signs x).map .d) where
  go := fun i M' H' S' hi e s _ => by rw [List.length_map, signs_len] at hi; exact hi
  yl := fun i M' H' S' v H2 r hr e s _ y => by
    obtain ⟨rfl, c, hc, rfl⟩ := y
    unfold signs at hr
    rw [List.getElem?_map, List.getElem?_map, Array.getElem?_toList, hc] at hr
    cases hr
    exact ⟨Ext.refl, s, Fz.str _⟩
  st := fun i M' H' S' hi e s _ => by rw [List.length_map, signs_len] at hi; exact hi
theorem evi_str {x : Str} (hi : Ev X iter G S (.d (.str x)) S1) : EvI X tg iter G S ((signs x).map .d) anyS S1 := ⟨_, pi_str pe_s, fun M σ H R s q => hi M σ H _ s fun v M1 H1 e1 t1 r1 => ⟨x, vr_str r1, q M1 H1 _ e1 t1 wk_str⟩⟩
theorem wk_rev {K : PySem.W.Frag} {M1 : List Addr} {H1 : Hp} {ad : Addr} {xs : List V} (hL : NdL M1 H1 ad xs) (hA : FzAll M1 H1 xs ds) : Wk K (Itv K ad xs.length) anyS M1 H1 (ds.reverse.map .d) where
  go := fun i M' H' S' hi e s _ => by
    have l1 := fz_len hA
    have hi' : i < ds.length := by simpa using hi
    exact ⟨by omega, xs, xs[xs.length - 1 - i]'(by omega), (hL.ext e).sq, List.getElem?_eq_getElem _⟩
  yl := fun i M' H' S' x H2 r hr e s _ y => by
    obtain ⟨rfl, y⟩ := y
    have hx := y xs (hL.ext e).sq
    obtain ⟨d, h1, h2⟩ := fz_at hA hx
    have l1 := fz_len hA
    obtain ⟨hl, _⟩ := List.getElem?_eq_some_iff.mp hr
    have hl' : i < ds.length := by simpa using hl
    rw [List.getElem?_map, List.getElem?_reverse hl', ← l1, h1] at hr
    cases hr
    exact ⟨Ext.refl, s, Fz.ext e h2⟩
  st := fun i M' H' S' hi e s _ => by
    have l1 := fz_len hA
    have hi' : ds.length ≤ i := by simpa using hi
    show xs.length ≤ i
    omega
/-- reversed(xs) -/
theorem evi_rev {a1 : Expr} (hm : X.mg "reversed" = none) (hi : Ev X a1 G S (.d (.list ds)) S1) (hg : Gl X "reversed" := by rfl) (hst : starEach [a1] X.env = [(false, eval a1 X.env)] := by rfl) :
    EvI X tg (.Call (.Name "reversed" p) [a1] [] pos') G S (ds.reverse.map .d) anyS S1 :=
  ⟨_, pi_reversed hg hm pa_s hst, fun M σ H R s q => (eva_cons hi eva_nil hst) M σ H _ s fun vs M1 H1 e1 t1 r1 => by
    cases r1 with
    | cons q1 r1 =>
      cases r1
      have hv' : Fz M1 H1 _ (.list ds) := q1
      cases hv' with
      | lst h1 h2 => exact ⟨_, _, rfl, h1.sq, q M1 H1 _ e1 t1 (wk_rev h1 h2)⟩⟩
/-- a list of data, owned or not -/
theorem evi_ls (hi : Ev X iter G S r S1) (h : lsOf S1 r = some ds) : EvI X tg iter G S (ds.map .d) (fun S' => lsOf S' r = some ds) S1 := by
  rcases ls_inv h with rfl | ⟨n, rfl, e⟩
  · obtain ⟨wi, h1, h2⟩ := evi_list (tg := tg) hi
    exact ⟨wi, h1, fun M σ H R s q => h2 M σ H R s fun M1 H1 J e1 t1 w1 => q M1 H1 J e1 t1 ⟨fun i M' H' S' a b c _ => w1.go i M' H' S' a b c trivial, fun i M' H' S' x H2 r a b c _ => w1.yl i M' H' S' x H2 r a b c trivial, fun i M' H' S' a b c _ => w1.st i M' H' S' a b c trivial⟩⟩
  · obtain ⟨wi, h1, h2⟩ := evi_own (tg := tg) hi e
    have conv : ∀ S' : Sto, lsOf S' (.o n) = some ds → S'[n]? = some (.lst (ds.map .d)) := fun S' h' => by
      rcases ls_inv h' with z | ⟨m, z, e'⟩
      · cases z
      · cases z; exact e'
    exact ⟨wi, h1, fun M σ H R s q => h2 M σ H R s fun M1 H1 J e1 t1 w1 => q M1 H1 J e1 t1 ⟨fun i M' H' S' a b c d => w1.go i M' H' S' a b c (conv _ d), fun i M' H' S' x H2 r a b c d => w1.yl i M' H' S' x H2 r a b c (conv _ d), fun i M' H' S' a b c d => w1.st i M' H' S' a b c (conv _ d)⟩⟩
/-- xs[i], owned or not -/
theorem ev_ixA {d : PyData} (ha : Ev X a G S r S1) (hb : Ev X b G S1 (.d (.int n)) S2) (hr : lsOf S2 r = some ds) (h : atI ds n = some d) (hs : PlainIx b := by exact fun _ _ => rfl) : Ev X (.Subscript a b pos) G S (.d d) S2 := by
  rcases ls_inv hr with rfl | ⟨i, rfl, e⟩
  · exact ev_ixL ha hb h hs
  · refine ev_ixO ha hb e ?_ hs
    unfold atI at h ⊢
    rw [List.length_map]
    cases q : ixN ds.length n with
    | none => rw [q] at h; cases h
    | some l =>
      rw [q] at h
      show (ds.map It.d)[l]? = _
      rw [List.getElem?_map, show ds[l]? = some d from h]
      rfl
theorem ev_lenA (hm : X.mg "len" = none) (ha : Ev X a G S r S1) (h : lsOf S1 r = some ds) (hg : Gl X "len" := by rfl) (he : starEach [a] X.env = (false, eval a X.env) :: starEach [] X.env := by rfl) : Ev X (.Call (.Name "len" p) [a] [] pos) G S (.d (.int ds.length)) S1 := ev_len hm ha (ls_len h) hg he
/-! ### slices and sums of lists, owned or not -/
theorem ev_slA {lo hi : Option Expr} {il ih : Option Int} {p2 : Pos} (ha : Ev X a G S r S1) (hr : lsOf S1 r = some ds) (hl : EvP X lo G S1 il) (hh : EvP X hi G S1 ih) : Ev X (.Subscript a (.Slice lo hi none p2) pos) G S (.d (.list (cutD ds il ih))) S1 := fun M σ H Q s q =>
  toE (pe_slice sl_list pe_s po_tEP po_tEP) (ha M σ H _ s fun v M1 H1 e1 t1 r1 => hl.run t1 fun M2 H2 e2 t2 => hh.run t2 fun M3 H3 e3 t3 => by
    obtain ⟨ad, xs, rfl, h1, h2⟩ := ls_rd t3.sto ((r1.ext e2).ext e3) hr
    exact ⟨_, _, rfl, .inl h1, fun p hp => q _ M3 _ (((e1.trans e2).trans e3).trans (Ext.fresh hp)) (t3.fresh hp) (Fz.lst ⟨.inl upd_same, t3.sto.nin hp⟩ (FzAll.ext (Ext.fresh hp) (fz_cut h2)))⟩)
/-- a slice that is owned -/
theorem ev_slO {lo hi : Option Expr} {il ih : Option Int} {p2 : Pos} (ha : Ev X a G S r S1) (hr : lsOf S1 r = some ds) (hl : EvP X lo G S1 il) (hh : EvP X hi G S1 ih) : Ev X (.Subscript a (.Slice lo hi none p2) pos) G S (.o S1.length) (S1 ++ [.lst ((cutD ds il ih).map .d)]) := fun M σ H Q s q =>
  toE (pe_slice sl_list pe_s po_tEP po_tEP) (ha M σ H _ s fun v M1 H1 e1 t1 r1 => hl.run t1 fun M2 H2 e2 t2 => hh.run t2 fun M3 H3 e3 t3 => by
    obtain ⟨ad, xs, rfl, h1, h2⟩ := ls_rd t3.sto ((r1.ext e2).ext e3) hr
    refine ⟨_, _, rfl, .inl h1, fun p hp => ?_⟩
    have e4 : Ext M3 H3 (M3 ++ [p]) (upd H3 p (.lst (cutV xs il ih))) := Ext.own hp
    have s4 := t3.sto.own (w := .lst ((cutD ds il ih).map .d)) hp ⟨_, upd_same, VReps.ext e4 (fz_reps (fz_cut h2))⟩
    exact q _ _ _ (((e1.trans e2).trans e3).trans e4) (t3.mono e4 s4) ⟨p, by rw [← t3.sto.len, List.getElem?_append_right (Nat.le_refl _), Nat.sub_self]; rfl, rfl⟩)
theorem ev_catA (ha : Ev X a G S r S1) (hb : Ev X b G S1 r' S2) (hr : lsOf S2 r = some ds) (hr' : lsOf S2 r' = some ds') (hz : ds.length + ds'.length ≤ 1000000) : Ev X (.BinOp a .Add b pos) G S (.d (.list (ds ++ ds'))) S2 := ev_op op_catR ha hb (fun M H v u Q s hv hu q => by
  obtain ⟨ad, xs, rfl, h1, h2⟩ := ls_rd s hv hr
  obtain ⟨bd, ys, rfl, h3, h4⟩ := ls_rd s hu hr'
  exact ⟨_, _, _, _, rfl, rfl, h1, h3, by rw [fz_len h2, fz_len h4, sizeLine_eq]; omega, fun p hp => q _ M _ (Ext.fresh hp) (s.fresh hp) (Fz.lst ⟨.inl upd_same, s.nin hp⟩ (FzAll.ext (Ext.fresh hp) (fz_app h2 h4)))⟩)
theorem fz_rep {M : List Addr} {H : Hp} {vs : List V} (h : FzAll M H vs ds) : ∀ (i : Nat), FzAll M H (List.replicate i vs).flatten (List.replicate i ds).flatten
  | 0 => .nil
  | i + 1 => by
    rw [List.replicate_succ, List.replicate_succ, List.flatten_cons, List.flatten_cons]
    exact fz_app h (fz_rep h i)
/-- xs * n, xs owned -/
theorem ev_repO {i : Nat} (ha : Ev X a G S (.o i) S1) (hb : Ev X b G S1 (.d (.int n)) S2) (hi : S2[i]? = some (.lst (ds.map .d))) (h1 : -(2 ^ 63) ≤ n) (h2 : n < 2 ^ 63) (hz : ds.length * n.toNat ≤ 1000000) : Ev X (.BinOp a .Mult b pos) G S (.d (.list (List.replicate n.toNat ds).flatten)) S2 := ev_op op_rep ha hb (fun M H v u Q s hv hu q => by
  obtain ⟨ad, had, rfl⟩ := hv
  obtain ⟨ws, e1, e2⟩ := s.rep i ad _ had hi
  have e3 := fz_all (ds_map ds) e2
  rw [vr_int hu]
  exact ⟨ad, n, ws, rfl, rfl, e1, h1, h2, by rw [fz_len e3, sizeLine_eq]; omega, fun p hp => q _ M _ (Ext.fresh hp) (s.fresh hp) (Fz.lst ⟨.inl upd_same, s.nin hp⟩ (FzAll.ext (Ext.fresh hp) (fz_rep e3 _)))⟩)
/-- xs.extend(ys), ys owned -/
theorem ev_extend {i l : Nat} {xs ys : List It} (ho : Ev X o G S (.o i) S1) (hi : S1[i]? = some (.lst xs)) (ha : Ev X e G S1 (.o l) S2) (hi2 : S2[i]? = some (.lst xs)) (hl2 : S2[l]? = some (.lst ys)) (hz : xs.length + ys.length < 1000000) (hbase : attributeBase o "extend" X.env (eval o X.env) = eval o X.env := by rfl)
    (hfew : ((backTo cpos (starEach [e] X.env)).all (fun x => !x.1) && (backToKw cpos (keywordEach [] X.env)).all (fun x => x.1.isSome) && decide ([e].length + ([] : List Keyword).length + (if ([] : List Keyword).isEmpty then 0 else 1) < 30)) = true := by rfl)
    (hline : (apos.endLine == cpos.line) = true := by rfl) (hs : starEach [e] X.env = (false, eval e X.env) :: starEach [] X.env := by rfl) : Ev X (.Call (.Attribute o "extend" apos) [e] [] cpos) G S (.d .none) (S2.set i (.lst (xs ++ ys))) :=
  ev_bm PySem.F.plainAttrs_list PySem.F.slot_list_extend PySem.F.type_list_extend mt_extend ho (ty_own hi) (eva_cons ha eva_nil hs) (fun M H v vs Q s hv hvs q => by
    obtain ⟨u, rfl, hu⟩ := vr1 hvs
    obtain ⟨ad, had, rfl⟩ := hv
    obtain ⟨bd, hbd, rfl⟩ := hu
    obtain ⟨ws, e1, e2⟩ := s.rep i ad _ had hi2
    obtain ⟨us, f1, f2⟩ := s.rep l bd _ hbd hl2
    have e3 : Ext M H M (upd H ad (.lst (ws ++ us))) := Ext.put (List.mem_of_getElem? had)
    exact ⟨ad, bd, ws, us, rfl, rfl, e1, f1, by rw [e2.len, f2.len, sizeLine_eq]; omega, q .non M _ e3 (s.put had ⟨_, upd_same, VReps.append (VReps.ext e3 e2) (VReps.ext e3 f2)⟩) Fz.non⟩) hbase hfew hline hs rfl
/-! ### in, not in, of flat data -/
theorem evt_inT {x : PyData} (ha : Ev X a G S (.d x) S1) (hb : Ev X b G S1 (.d (.tuple ds)) S2) (hx : flatD x = true := by rfl) (hd : ds.all flatD = true := by rfl) (hm : behindInMarks .In b = false := by rfl) : EvT X (.Compare a [.In] [b] pos) G S (inV (toV x) (ds.map toV)) S2 := evt_cmp op_in_seq ha hb (rw_inFT (neg := false) hx hd) hm
theorem evt_notInT {x : PyData} (ha : Ev X a G S (.d x) S1) (hb : Ev X b G S1 (.d (.tuple ds)) S2) (hx : flatD x = true := by rfl) (hd : ds.all flatD = true := by rfl) (hm : behindInMarks .NotIn b = false := by rfl) : EvT X (.Compare a [.NotIn] [b] pos) G S (!inV (toV x) (ds.map toV)) S2 := evt_cmp op_notIn_seq ha hb (rw_inFT (neg := true) hx hd) hm
theorem evt_inL {x : PyData} (ha : Ev X a G S (.d x) S1) (hb : Ev X b G S1 (.d (.list ds)) S2) (hx : flatD x = true := by rfl) (hd : ds.all flatD = true := by rfl) (hm : behindInMarks .In b = false := by rfl) : EvT X (.Compare a [.In] [b] pos) G S (inV (toV x) (ds.map toV)) S2 := evt_cmp op_in_seq ha hb (rw_inF (neg := false) hx hd) hm
theorem evt_notInL {x : PyData} (ha : Ev X a G S (.d x) S1) (hb : Ev X b G S1 (.d (.list ds)) S2) (hx : flatD x = true := by rfl) (hd : ds.all flatD = true := by rfl) (hm : behindInMarks .NotIn b = false := by rfl) : EvT X (.Compare a [.NotIn] [b] pos) G S (!inV (toV x) (ds.map toV)) S2 := evt_cmp op_notIn_seq ha hb (rw_inF (neg := true) hx hd) hm
theorem ev_inT {x : PyData} (ha : Ev X a G S (.d x) S1) (hb : Ev X b G S1 (.d (.tuple ds)) S2) (hx : flatD x = true := by rfl) (hd : ds.all flatD = true := by rfl) (hm : behindInMarks .In b = false := by rfl) : Ev X (.Compare a [.In] [b] pos) G S (.d (.bool (inV (toV x) (ds.map toV)))) S2 := ev_cmp op_in_seq ha hb (rw_inFT (neg := false) hx hd) hm
theorem ev_notInT {x : PyData} (ha : Ev X a G S (.d x) S1) (hb : Ev X b G S1 (.d (.tuple ds)) S2) (hx : flatD x = true := by rfl) (hd : ds.all flatD = true := by rfl) (hm : behindInMarks .NotIn b = false := by rfl) : Ev X (.Compare a [.NotIn] [b] pos) G S (.d (.bool (!inV (toV x) (ds.map toV)))) S2 := ev_cmp op_notIn_seq ha hb (rw_inFT (neg := true) hx hd) hm
theorem inV_int {m : Int} {ns : List Int} : inV (.int m) (ns.map V.int) = decide (m ∈ ns) := by
  unfold inV
  induction ns with
  | nil => rfl
  | cons n ns ih =>
    rw [List.map_cons, List.any_cons, ih]
    show ((n == m) || _) = _
    by_cases h : n = m
    · subst h; simp
    · have h' : m ≠ n := fun e => h e.symm
      simp [h, h']
/-! ### texts -/
theorem ev_addS {x y : Str} (ha : Ev X a G S (.d (.str x)) S1) (hb : Ev X b G S1 (.d (.str y)) S2) (hz : x.length + y.length ≤ 1000000) : Ev X (.BinOp a .Add b pos) G S (.d (.str (x ++ y))) S2 := ev_op op_add_str ha hb fun M H v u Q s hv hu q =>
  ⟨x, y, vr_str hv, vr_str hu, by rw [sizeLine_eq]; omega, q _ M H Ext.refl s (Fz.str _)⟩
end
end Cu
/-! CuJ: sorted of data, comprehensions that own, bits, defaults. -/
namespace Cu
open PySem PySem.Spec PyProof.Rows L2
/-! ### sorted -/
def rSortD (K : PySem.W.Frag) : List V → Hp → VK → Prop := fun vs H Q => ∃ (a : Addr) (xs : List V) (ds : List PyData) (Rel : V → PyData → Prop), vs = [V.ref a] ∧ SqL K H a xs ∧ DpAll K H xs ds ∧ Paired Rel xs ds ∧ PySem.W.AllAlike ds ∧ PySem.W.Sortable ds ∧ (∀ d ∈ ds, d.depth ≤ 60) ∧
  ∀ (ys : List V) (p : Addr), Paired Rel ys (ds.mergeSort (PySem.W.dataLe false id)) → H p = none → Q (.ref p) (upd H p (.lst ys))
theorem each_of {Rel : V → PyData → Prop} : ∀ {xs : List V} {ds : List PyData} {us : List Value}, Vals xs us → Paired Rel xs ds → PySem.W.EachIs (fun u d => ∃ v, RelV v u ∧ Rel v d) us ds
  | _, _, _, .nil, .nil => .nil
  | _, _, _, .cons a t, .cons b s => .cons ⟨_, a, b⟩ (each_of t s)
theorem each_back {Rel : V → PyData → Prop} {us : List Value} {ds : List PyData} (h : PySem.W.EachIs (fun u d => ∃ v, RelV v u ∧ Rel v d) us ds) : ∃ ys, Vals ys us ∧ Paired Rel ys ds := by
  induction h with
  | nil => exact ⟨[], .nil, .nil⟩
  | cons a _ ih =>
    obtain ⟨v, h1, h2⟩ := a
    obtain ⟨ys, i1, i2⟩ := ih
    exact ⟨v :: ys, .cons h1 i1, .cons h2 i2⟩
theorem each_reads {s : Shared} {X : Cx} {pins : List (Addr × Obj)} {σ : Sig} {H : Hp} (I : Inv X pins σ H s) : ∀ {xs : List V} {ds : List PyData} {us : List Value}, Vals xs us → DpAll X.K H xs ds → PySem.W.EachIs (fun u d => ∃ as, Reads s.heap u (id d) as) us ds
  | [], _, _, r, h => by cases r; cases h; exact .nil
  | x :: xs, _, _, r, h => by
    cases r with
    | cons r1 r2 =>
      cases h with
      | cons h1 h2 => exact .cons (Dp.reads I _ _ _ h1 r1) (each_reads I r2 h2)
theorem Paired.len2 {α β : Type} {F : α → β → Prop} : ∀ {l1 : List α} {l2 : List β}, Paired F l1 l2 → l1.length = l2.length
  | _, _, .nil => rfl
  | _, _, .cons _ t => congrArg Nat.succ (Paired.len2 t)
theorem cr_sortD {X : Cx} (hu : X.A.units + 64 < cLine) : CallR X (.builtin "sorted") (rSortD X.K) := by
  intro pins s σ H vs us Q I r h
  obtain ⟨a, xs, ds, Rel, rfl, hs, hdp, hrel, hal, hso, hde, q⟩ := h
  obtain ⟨its, rv, hl, hz⟩ := I.list hs
  rw [Vals.ref1 r]
  have hlen : ds.length = its.length := by rw [← Paired.len2 hrel]; exact rv.length
  refine PySem.W.sorted_data (bs := ds) (enc := id) (vs := its) hl.isList (each_of rv hrel) (each_reads I rv hdp) (by rw [List.map_id]; exact hal) (by rw [List.map_id]; exact hso) (by rw [hlen, ← rv.length]; exact hz) (fun d hd => ?_) fun out h1 h2 => ?_
  · have := hde d hd
    show X.A.units + 2 + d.depth < cLine
    omega
  · obtain ⟨ys, hy, hyr⟩ := each_back h2
    obtain ⟨ep, he'⟩ := PyProof.Rows.sortedAll_at s.heap its out.toArray
    have hle : ys.length ≤ sizeLine := by rw [hy.length, h1, hlen, ← rv.length]; exact hz
    exact ⟨.ref _, upd H (s.heap.objs.size + 1) (.lst ys), I.laid (t' := s.toks) (fun _ _ => PyProof.Rows.sortedAll_old) (Nat.le_succ _) ⟨hle, out, ep, hy, he'⟩, rfl, q ys _ hyr (I.hok.fresh (Nat.le_succ _))⟩
theorem fz_pair {M : List Addr} {H : Hp} : ∀ {vs : List V} {ds : List PyData}, FzAll M H vs ds → Paired (fun v d => Fz M H v d) vs ds
  | [], _, h => by cases h; exact .nil
  | _ :: _, _, h => by
    cases h with
    | cons h1 h2 => exact .cons h1 (fz_pair h2)
theorem fz_unpair {M : List Addr} {H : Hp} : ∀ {vs : List V} {ds : List PyData}, Paired (fun v d => Fz M H v d) vs ds → FzAll M H vs ds
  | _, _, .nil => .nil
  | _, _, .cons h1 h2 => .cons h1 (fz_unpair h2)
section
variable {X : Cx} {W : WX} {k j : Nat} {G G1 G2 : Gam} {S S1 S2 S3 : Sto} {P : Post} {e a b o iter tg elt : Expr} {es ifs : List Expr} {r y z r' : It} {rs : List It} {pos pos' p apos cpos tpos : Pos} {st : Stmt} {sts body : List Stmt} {ds ds' : List PyData} {C : Sto → Prop} {m n : Int} {scope : Scope} {own : List (Str × Nat)}
def sortD (ds : List PyData) : List PyData := ds.mergeSort (PySem.W.dataLe false id)
/-- sorted(xs), a list of data -/
theorem ev_sorted (c : Cxo X W k) (hm : X.mg "sorted" = none) (ha : Ev X a G S r S1) (hr : lsOf S1 r = some ds) (hal : PySem.W.AllAlike ds) (hso : PySem.W.Sortable ds) (hde : ∀ d ∈ ds, d.depth ≤ 60) (hg : Gl X "sorted" := by rfl) (he : starEach [a] X.env = (false, eval a X.env) :: starEach [] X.env := by rfl) : Ev X (.Call (.Name "sorted" p) [a] [] pos) G S (.d (.list (sortD ds))) S1 :=
  ev_blt (cr_sortD c.hr.units) hm (by decide +kernel) (eva_cons ha eva_nil he) (fun M H vs Q s hvs q => by
    obtain ⟨v, rfl, hv⟩ := vr1 hvs
    obtain ⟨ad, xs, rfl, h1, h2⟩ := ls_rd s hv hr
    exact ⟨ad, xs, ds, _, rfl, .inl h1, FzAll.dp h2, fz_pair h2, hal, hso, hde, fun ys p hp hn => q _ M _ (Ext.fresh hn) (s.fresh hn) (Fz.lst ⟨.inl upd_same, s.nin hn⟩ (FzAll.ext (Ext.fresh hn) (fz_unpair hp)))⟩) hg (by decide) (by decide) he rfl
/-! ### whole numbers, further -/
theorem ev_bor (ha : Ev X a G S (.d (.int m)) S1) (hb : Ev X b G S1 (.d (.int n)) S2) : Ev X (.BinOp a .BitOr b pos) G S (.d (.int (Builtin.bitOr m n))) S2 := ev_op op_or ha hb rw_int
theorem ev_band (ha : Ev X a G S (.d (.int m)) S1) (hb : Ev X b G S1 (.d (.int n)) S2) : Ev X (.BinOp a .BitAnd b pos) G S (.d (.int (Builtin.bitAnd m n))) S2 := ev_op op_and ha hb rw_int
theorem ev_shl (ha : Ev X a G S (.d (.int m)) S1) (hb : Ev X b G S1 (.d (.int n)) S2) (h : CPow m n) : Ev X (.BinOp a .LShift b pos) G S (.d (.int (m * 2 ^ n.toNat))) S2 := ev_op op_shl ha hb (rw_intC h)
theorem ev_shr (ha : Ev X a G S (.d (.int m)) S1) (hb : Ev X b G S1 (.d (.int n)) S2) (h : 0 ≤ n) : Ev X (.BinOp a .RShift b pos) G S (.d (.int (m / 2 ^ n.toNat))) S2 := ev_op op_shr ha hb (rw_intC (D := fun _ j => 0 ≤ j) h)
theorem ev_inv (ha : Ev X a G S (.d (.int m)) S1) : Ev X (.UnaryOp .Invert a pos) G S (.d (.int (Builtin.bitNot m))) S1 := ev_un un_inv ha fun M H v Q s hv q => ⟨m, vr_int hv, q _ M H Ext.refl s (Fz.int _)⟩
theorem ev_divmod (hm : X.mg "divmod" = none) (ha : Ev X a G S (.d (.int m)) S1) (hb : Ev X b G S1 (.d (.int n)) S2) (h : CDiv m n) (hg : Gl X "divmod" := by rfl) (he : starEach [a, b] X.env = (false, eval a X.env) :: starEach [b] X.env := by rfl) (he2 : starEach [b] X.env = (false, eval b X.env) :: starEach [] X.env := by rfl)
    (hpl : (backTo pos (starEach [b] X.env)).any (·.1) = false := by rfl) : Ev X (.Call (.Name "divmod" p) [a, b] [] pos) G S (.d (.tuple [.int (m / n), .int (m % n)])) S2 :=
  ev_blt call_divmod hm (by decide +kernel) (eva_cons ha (eva_cons hb eva_nil he2) he) (fun M H vs Q s hvs q => by
    obtain ⟨v, u, rfl, hv, hu⟩ := vr2 hvs
    rw [vr_int hv, vr_int hu]
    exact ⟨m, n, rfl, h, fun p hp => q _ M _ (Ext.fresh hp) (s.fresh hp) (Fz.tup ⟨upd_same, s.nin hp⟩ (.cons (Fz.int _) (.cons (Fz.int _) .nil)))⟩) hg (by decide) (by decide) he hpl
theorem ev_abs (hm : X.mg "abs" = none) (ha : Ev X a G S (.d (.int m)) S1) (hg : Gl X "abs" := by rfl) (he : starEach [a] X.env = (false, eval a X.env) :: starEach [] X.env := by rfl) : Ev X (.Call (.Name "abs" p) [a] [] pos) G S (.d (.int (if m < 0 then -m else m))) S1 :=
  ev_blt call_abs hm (by decide +kernel) (eva_cons ha eva_nil he) (fun M H vs Q s hvs q => by
    obtain ⟨v, rfl, hv⟩ := vr1 hvs
    exact ⟨m, by rw [vr_int hv], q _ M H Ext.refl s (Fz.int _)⟩) hg (by decide) (by decide) he rfl
theorem ev_max2 (c : Cxo X W k) (hm : X.mg "max" = none) (ha : Ev X a G S (.d (.int m)) S1) (hb : Ev X b G S1 (.d (.int n)) S2) (hg : Gl X "max" := by rfl) (he : starEach [a, b] X.env = (false, eval a X.env) :: starEach [b] X.env := by rfl) (he2 : starEach [b] X.env = (false, eval b X.env) :: starEach [] X.env := by rfl)
    (hpl : (backTo pos (starEach [b] X.env)).any (·.1) = false := by rfl) : Ev X (.Call (.Name "max" p) [a, b] [] pos) G S (.d (.int (max m n))) S2 :=
  ev_blt (call_max2 c.calm) hm (by decide +kernel) (eva_cons ha (eva_cons hb eva_nil he2) he) (fun M H vs Q s hvs q => by
    obtain ⟨v, u, rfl, hv, hu⟩ := vr2 hvs
    rw [vr_int hv, vr_int hu]
    refine ⟨m, n, rfl, ?_⟩
    rw [show (if n > m then n else m) = max m n by split <;> omega]
    exact q _ M H Ext.refl s (Fz.int _)) hg (by decide) (by decide) he hpl
theorem ev_min2 (c : Cxo X W k) (hm : X.mg "min" = none) (ha : Ev X a G S (.d (.int m)) S1) (hb : Ev X b G S1 (.d (.int n)) S2) (hg : Gl X "min" := by rfl) (he : starEach [a, b] X.env = (false, eval a X.env) :: starEach [b] X.env := by rfl) (he2 : starEach [b] X.env = (false, eval b X.env) :: starEach [] X.env := by rfl)
    (hpl : (backTo pos (starEach [b] X.env)).any (·.1) = false := by rfl) : Ev X (.Call (.Name "min" p) [a, b] [] pos) G S (.d (.int (min m n))) S2 :=
  ev_blt (call_min2 c.calm) hm (by decide +kernel) (eva_cons ha (eva_cons hb eva_nil he2) he) (fun M H vs Q s hvs q => by
    obtain ⟨v, u, rfl, hv, hu⟩ := vr2 hvs
    rw [vr_int hv, vr_int hu]
    refine ⟨m, n, rfl, ?_⟩
    rw [show (if n < m then n else m) = min m n by split <;> omega]
    exact q _ M H Ext.refl s (Fz.int _)) hg (by decide) (by decide) he hpl
/-- tuple(xs) of a list of data -/
theorem ev_tupleL (hm : X.mg "tuple" = none) (ha : Ev X a G S r S1) (hr : lsOf S1 r = some ds) (hg : Gl X "tuple" := by rfl) (he : starEach [a] X.env = (false, eval a X.env) :: starEach [] X.env := by rfl) : Ev X (.Call (.Name "tuple" p) [a] [] pos) G S (.d (.tuple ds)) S1 := ev_ty call_tuple_of hm (by decide +kernel) (eva_cons ha eva_nil he) (fun M H vs Q s hvs q => by
  obtain ⟨v, rfl, hv⟩ := vr1 hvs
  obtain ⟨ad, xs, rfl, h1, h2⟩ := ls_rd s hv hr
  exact ⟨_, _, rfl, .inl ⟨.inl h1, fun l hl => q _ M _ (Ext.fresh hl) (s.fresh hl) (Fz.tup ⟨upd_same, s.nin hl⟩ (FzAll.ext (Ext.fresh hl) h2))⟩⟩) hg (by decide) (by decide) he rfl
theorem ev_tupleT (hm : X.mg "tuple" = none) (ha : Ev X a G S (.d (.tuple ds)) S1) (hg : Gl X "tuple" := by rfl) (he : starEach [a] X.env = (false, eval a X.env) :: starEach [] X.env := by rfl) : Ev X (.Call (.Name "tuple" p) [a] [] pos) G S (.d (.tuple ds)) S1 := ev_ty call_tuple_of hm (by decide +kernel) (eva_cons ha eva_nil he) (fun M H vs Q s hvs q => by
  obtain ⟨v, rfl, hv⟩ := vr1 hvs
  have hv' : Fz M H v (.tuple ds) := hv
  cases hv' with
  | tup h1 h2 => exact ⟨_, _, rfl, .inr ⟨h1.sq, q _ M H Ext.refl s (Fz.tup h1 h2)⟩⟩) hg (by decide) (by decide) he rfl
/-! ### a comprehension whose list is owned -/
structure LcOwn (X : Cx) (scope : Scope) (own : List (Str × Nat)) (elt tg iter : Expr) (ifs : List Expr) (G : Gam) (S : Sto) (l : Nat) (S2 : Sto) : Prop where
  ex : ∃ (wi : TI) (g : TG), PI X tg iter wi ∧ (∀ s H C cl fp, PG (blkX X scope s H C cl fp) tg g) ∧ ∀ (M : List Addr) (σ : Sig) (H : Hp) (Q : VK), Stt X.K M H S G σ → (∀ v M' H', Ext M H M' H' → Stt X.K M' H' S2 G σ → VRep X.K M' H' v (.o l) → Q v H') →
      tLc wi g (tTs X scope ifs) (tEl X scope elt) (own.map (·.2)) σ H Q
/-- J by the turn and the whole store, the new list among it -/
theorem lc_own {bind : It → Gam → Option Gam} {C : Sto → Prop} (c : Cxo X W k) (hi : EvI X tg iter G S rs C S1) (ht : TgOk X scope tg (own.map (·.2)) bind) (J : Nat → Sto → Prop) (h0 : J 0 (S1 ++ [.lst []])) (hC : ∀ i S', J i S' → C S')
    (hs : ∀ i r S', rs[i]? = some r → J i S' → ∃ G' b, bind r (wipeG G (own.map (·.2))) = some G' ∧ (∀ s H C cl fp, EvTs (blkX X scope s H C cl fp) ifs G' S' b) ∧
      (b = true → ∃ y S3 acc, (∀ s H C cl fp, Ev (blkX X scope s H C cl fp) elt G' S' y S3) ∧ S3[S1.length]? = some (.lst acc) ∧ acc.length < 1000000 ∧ J (i + 1) (S3.set S1.length (.lst (acc ++ [y])))) ∧ (b = false → J (i + 1) S'))
    (hd : ∀ S', J rs.length S' → S' = S2) : LcOwn X scope own elt tg iter ifs G S S1.length S2 := by
  obtain ⟨g, hpg, hg⟩ := ht.ex
  obtain ⟨wi, hpi, hw⟩ := hi
  refine ⟨wi, g, hpi, hpg, fun M σ H Q s q => hw M σ H _ s fun M1 H1 Jt e1 t1 wk => ?_⟩
  intro D hD
  have eD : Ext M1 H1 (M1 ++ [D]) (upd H1 D (.lst [])) := Ext.own hD
  have ww : ∀ (vs us : List Nat) (σ : Sig), (∀ v ∈ us, v ∈ vs) → wipe (wipe σ us) vs = wipe σ vs := by
    intro vs us
    induction us with
    | nil => intro σ _; rfl
    | cons u r ih =>
      intro σ hm
      show wipe ((wipe σ r).set u none) vs = _
      rw [wipe_set _ (hm u List.mem_cons_self), ih σ fun v hv => hm v (List.mem_cons_of_mem _ hv)]
  have hDn : (M1 ++ [D])[S1.length]? = some D := by rw [← t1.sto.len, List.getElem?_append_right (Nat.le_refl _), Nat.sub_self]; rfl
  refine ⟨fun i m' H' => (m' = rs.length - i ∧ i ≤ rs.length) ∧ ∃ M' S', Ext (M1 ++ [D]) (upd H1 D (.lst [])) M' H' ∧ Stt X.K M' H' S' G σ ∧ J i S',
    ⟨_, ⟨rfl, Nat.zero_le _⟩, M1 ++ [D], _, Ext.refl, t1.mono eD (t1.sto.own (w := .lst ([] : List It)) hD ⟨[], upd_same, .nil⟩), h0⟩, fun i m' H' hw' => ?_⟩
  obtain ⟨⟨rfl, hi'⟩, M', S', e', t', hJ⟩ := hw'
  have cS := hC i S' hJ
  by_cases hlt : i < rs.length
  · refine .inr ⟨wk.go i _ H' _ hlt (eD.trans e') t'.sto cS, fun H2 => ∃ M2 S2, Ext (M1 ++ [D]) (upd H1 D (.lst [])) M2 H2 ∧ Stt X.K M2 H2 S2 G σ ∧ J (i + 1) S2, fun H2 q => ⟨rs.length - (i + 1), by omega, ⟨rfl, by omega⟩, q⟩, fun x H2 y => ?_⟩
    have hri : rs[i]? = some rs[i] := List.getElem?_eq_getElem hlt
    obtain ⟨ey, sy, vy⟩ := wk.yl i _ H' _ x H2 _ hri (eD.trans e') t'.sto cS y
    have ty : Stt X.K M' H2 S' G σ := t'.mono ey sy
    have e2 := e'.trans ey
    obtain ⟨G', b, hb, hT, hy, hn⟩ := hs i _ S' hri hJ
    refine hg M' H2 S' (wipeG G (own.map fun (p : Str × Nat) => p.2)) G' (wipe σ (own.map fun (p : Str × Nat) => p.2)) x rs[i] _ (ty.wipe _) vy hb ?_
    intro σ2 t2 w2
    refine ⟨w2.trans (ww _ _ _ fun _ h => h), ?_⟩
    have fin : ∀ (M3 : List Addr) (H3 : Hp), Ext M' H2 M3 H3 → Stt X.K M3 H3 S' G' σ2 → (if b = true then tEl X scope elt σ2 H3 fun y H4 => ∃ acc, H4 D = some (.lst acc) ∧ acc.length < sizeLine ∧ ∃ M2 S2, Ext (M1 ++ [D]) (upd H1 D (.lst [])) M2 (upd H4 D (.lst (acc ++ [y]))) ∧ Stt X.K M2 (upd H4 D (.lst (acc ++ [y]))) S2 G σ ∧ J (i + 1) S2
        else ∃ M2 S2, Ext (M1 ++ [D]) (upd H1 D (.lst [])) M2 H3 ∧ Stt X.K M2 H3 S2 G σ ∧ J (i + 1) S2) := by
      intro M3 H3 e3 t3
      cases b with
      | false => exact iteF ⟨M3, S', e2.trans e3, ty.mono e3 t3.sto, hn rfl⟩
      | true =>
        refine iteT fun s0 H0 C cl fp => ?_
        obtain ⟨y, S3, acc, hE, hSn, hacc, hJ3⟩ := hy rfl
        refine hE s0 H0 C cl fp M3 σ2 H3 _ t3 fun v4 M4 H4 e4 t4 r4 => ?_
        have hD4 : M4[S1.length]? = some D := (e4.get (e3.get (e2.get hDn)))
        obtain ⟨vs4, hv4, hr4⟩ := t4.sto.rep _ _ _ hD4 hSn
        have e5 : Ext M4 H4 M4 (upd H4 D (.lst (vs4 ++ [v4]))) := Ext.put (List.mem_of_getElem? hD4)
        have s5 := t4.sto.put (w := .lst (acc ++ [y])) hD4 ⟨vs4 ++ [v4], upd_same, VReps.append (VReps.ext e5 hr4) (.cons (r4.ext e5) .nil)⟩
        refine ⟨vs4, hv4, by rw [hr4.len, sizeLine_eq]; omega, M4, _, ((e2.trans e3).trans e4).trans e5, ty.mono ((e3.trans e4).trans e5) s5, hJ3⟩
    intro s0 H0 C cl fp
    have hT' := hT s0 H0 C cl fp
    cases ifs with
    | nil =>
      have hb1 : b = true := hT'
      have f0 := fin M' H2 Ext.refl t2
      rw [hb1] at f0
      exact f0
    | cons tt r =>
      cases r with
      | nil => exact hT' M' σ2 H2 _ t2 fun M4 H4 e4 t4 => fin M4 H4 e4 t4
      | cons _ _ => exact hT'.elim
  · have ei : i = rs.length := by omega
    subst ei
    refine .inl ⟨wk.st _ _ H' _ (Nat.le_refl _) (eD.trans e') t'.sto cS, ?_⟩
    obtain rfl := hd S' hJ
    exact q (.ref D) M' H' (e1.trans (eD.trans e')) t' ⟨D, e'.get hDn, rfl⟩
theorem ev_lcO {l : Nat} (c : Cxo X W k) (ok : BlkOk X.N X.env.scope scope own) (h : LcOwn X scope own elt tg iter ifs G S l S2) (hf : ∀ x, foldedSetIterable iter X.env x = pure x := by intro _; rfl) : Ev X (.ListComp elt [⟨tg, iter, ifs, 0⟩] scope pos) G S (.o l) S2 := fun M σ H Q s q => by
  obtain ⟨wi, g, hpi, hpg, h⟩ := h.ex
  exact toE (pe_lc c.calm c.nd hpi ok hpg pts_tTs pe_tEl hf) (h M σ H Q s q)
end
/-! ### defs with defaults -/
section
variable {P : Program} {w : World} {K : PySem.W.Frag} {mg : Str → Option Value} {base : Heap} {x qual : Str} {params : Arguments} {body : List Stmt} {scope : Scope} {f C : Addr} {ps : List Str} {k : Nat} {F : Fn} {dvs : List V} {drs : List It}
/-- n arguments are told, of the defaults the last ones behind the j-th fill up -/
theorem okM_ofD (c : Cls K C) (m : Meth K C x f) (hd : ∃ fd, FunD K x qual params body scope dvs [] f fd) (n j : Nat) (hne : dvs ≠ []) (hn : n + (dvs.length - j) = ps.length)
    (hb : ∀ (T : Addr) (kV doc pm : Value) (an : Option Addr) (cdv ct : Value) (us its : List Value), us.length = n → its.length = dvs.length →
      ∃ k, bindArgs (PySem.W.fnOf x qual params body scope (.ref T) kV doc pm an cdv ct) ⟨us, []⟩ = seqItems? (.ref T) >>= k ∧ k (some its.toArray) = pure (ps.zip (us ++ its.drop j)))
    (hr : ∀ M H, VReps K M H (dvs.drop j) drs)
    (h : ∀ fd, FunD K x qual params body scope dvs [] f fd → FnOk P w K mg base (L2.CX P w) k f fd ps (spF K ps.length F)) : OkM P w K mg base k C x ps drs F := by
  obtain ⟨fd, Fd⟩ := hd
  obtain ⟨ds, h1, h2⟩ := Fd.binds1 n j hne hn hb
  exact ⟨f, fd, dvs.drop j, ds, c, m, h2, h1, hr, h fd Fd⟩
theorem okF_ofD (g : mg x = some (.ref f)) (hd : ∃ fd, FunD K x qual params body scope dvs [] f fd) (n j : Nat) (hne : dvs ≠ []) (hn : n + (dvs.length - j) = ps.length)
    (hb : ∀ (T : Addr) (kV doc pm : Value) (an : Option Addr) (cdv ct : Value) (us its : List Value), us.length = n → its.length = dvs.length →
      ∃ k, bindArgs (PySem.W.fnOf x qual params body scope (.ref T) kV doc pm an cdv ct) ⟨us, []⟩ = seqItems? (.ref T) >>= k ∧ k (some its.toArray) = pure (ps.zip (us ++ its.drop j)))
    (hr : ∀ M H, VReps K M H (dvs.drop j) drs) (hk : PySem.W.keepIn K (.ref f) = true)
    (h : ∀ fd, FunD K x qual params body scope dvs [] f fd → FnOk P w K mg base (L2.CX P w) k f fd ps (spF K ps.length F)) : OkF P w K mg base k x ps drs F := by
  obtain ⟨fd, Fd⟩ := hd
  obtain ⟨ds, h1, h2⟩ := Fd.binds1 n j hne hn hb
  exact ⟨f, fd, dvs.drop j, ds, g, hk, h2, h1, hr, h fd Fd⟩
theorem okC_ofD {y : Str} (g : mg y = some (.ref C)) (m : Mk K C f) (hd : ∃ fd, FunD K x qual params body scope dvs [] f fd) (n j : Nat) (hne : dvs ≠ []) (hn : n + (dvs.length - j) = ps.length)
    (hb : ∀ (T : Addr) (kV doc pm : Value) (an : Option Addr) (cdv ct : Value) (us its : List Value), us.length = n → its.length = dvs.length →
      ∃ k, bindArgs (PySem.W.fnOf x qual params body scope (.ref T) kV doc pm an cdv ct) ⟨us, []⟩ = seqItems? (.ref T) >>= k ∧ k (some its.toArray) = pure (ps.zip (us ++ its.drop j)))
    (hr : ∀ M H, VReps K M H (dvs.drop j) drs)
    (h : ∀ fd, FunD K x qual params body scope dvs [] f fd → FnOk P w K mg base (L2.CX P w) k f fd ps (spF K ps.length F)) : OkC P w K mg base k C y ps drs F := by
  obtain ⟨fd, Fd⟩ := hd
  obtain ⟨ds, h1, h2⟩ := Fd.binds1 n j hne hn hb
  exact ⟨f, fd, dvs.drop j, ds, g, m, h2, h1, hr, h fd Fd⟩
end
end Cu
/-! CuK: a list many times, parts of a store. -/
namespace Cu
open PySem PySem.Spec PyProof.Rows L2
def rRepR : R2 := fun x y H Q => ∃ l k xs, x = .ref l ∧ y = .int k ∧ Rd H l (.lst xs) ∧ -(2 ^ 63) ≤ k ∧ k < 2 ^ 63 ∧ xs.length * k.toNat ≤ sizeLine ∧
  ∀ p, H p = none → Q (.ref p) (upd H p (.lst (List.replicate k.toNat xs).flatten))
section
variable {X : Cx} {W : WX} {k j : Nat} {G G1 G2 : Gam} {S S1 S2 S3 : Sto} {P : Post} {e a b o iter tg elt : Expr} {es ifs : List Expr} {r y z r' : It} {rs : List It} {pos pos' p apos cpos tpos : Pos} {ds ds' : List PyData} {m n : Int}
theorem op_repR : OpR X (binaryOp .Mult) rRepR := by
  intro pins s σ H x y v u Q I rx ry h
  obtain ⟨l, k, xs, rfl, rfl, hH, h1, h2, hz, q⟩ := h
  cases rx
  obtain ⟨t, rfl⟩ := ry
  obtain ⟨z, its, n, r, e⟩ := hH.ok I.hok
  have hl : xs.length = its.length := r.length
  have hsz : its.toArray.size * k.toNat ≤ sizeLine := by rw [List.size_toArray, ← hl]; exact hz
  have hc1 : ¬ its.toArray.size * k.toNat > (2 ^ 63 - 1) / 8 := by
    have hq : (sizeLine : Nat) ≤ (2 ^ 63 - 1) / 8 := by decide
    omega
  have hc2 : ¬ (!Builtin.List.listFitsIndex k) = true := by rw [fitsIndex_both h1 h2]; decide
  have hc3 : ¬ Builtin.List.listTooLong (its.toArray.size * k.toNat) = true := by rw [notLongL hsz]; decide
  have fold : ∀ i : Nat, List.foldl (fun x1 x2 => x1 ++ x2) #[] (List.replicate i its.toArray) = (List.replicate i its).flatten.toArray := fun i => by
    have q := foldl_rep its i []
    rwa [List.nil_append] at q
  have hnew : List.foldl (fun x1 x2 => x1 ++ x2) #[] (List.replicate (if its.toArray.isEmpty = true then 0 else k.toNat) its.toArray) = (List.replicate k.toNat its).flatten.toArray := by
    rw [fold]
    cases its with
    | nil => simp
    | cons a r' => rw [if_neg (by simp)]
  have ty : s.TypeIs (.ref l) "list" := ⟨_, e, rfl⟩
  refine wpAny_binaryOp_repeat_ref (T := "list") (U := "int") (by decide) ty (fun s' => typeIs_int s' k t) noFill_list_mul F.fills_int_mul F.slot_int_rmul repeat_list F.slot_int_index.lookup ?_
  refine call_meets F.slot_int_rmul (typeIs_int s k t) F.entry_int_rmul (F.args_int_rmul_2 _ _) (int___rmul___int_list k t l its.toArray n) ⟨e, rfl, ty, ?_⟩
  refine call_meets F.slot_list_mul ty F.entry_list_mul (F.args_list_mul_2 _ _) (AutoListH.list___mul___list_int_3 l its.toArray n k t hc2 hc1 hc3) ⟨e, ?_⟩
  rw [hnew]
  refine ⟨.ref _, _, I.lnew (t' := s.toks) (r.rep k.toNat) ?_, rfl, q _ I.fresh⟩
  rw [PyProof.Rows.lm_len_rep_flat, Nat.mul_comm]
  exact hz
/-- xs * n, a datum -/
theorem ev_rep (ha : Ev X a G S r S1) (hb : Ev X b G S1 (.d (.int n)) S2) (hr : lsOf S2 r = some ds) (h1 : -(2 ^ 63) ≤ n) (h2 : n < 2 ^ 63) (hz : ds.length * n.toNat ≤ 1000000) : Ev X (.BinOp a .Mult b pos) G S (.d (.list (List.replicate n.toNat ds).flatten)) S2 := ev_op op_repR ha hb (fun M H v u Q s hv hu q => by
  obtain ⟨ad, xs, rfl, h3, h4⟩ := ls_rd s hv hr
  rw [vr_int hu]
  exact ⟨ad, n, xs, rfl, rfl, h3, h1, h2, by rw [fz_len h4, sizeLine_eq]; omega, fun p hp => q _ M _ (Ext.fresh hp) (s.fresh hp) (Fz.lst ⟨.inl upd_same, s.nin hp⟩ (FzAll.ext (Ext.fresh hp) (fz_rep h4 _)))⟩)
/-- xs * n, owned -/
theorem ev_repN (ha : Ev X a G S r S1) (hb : Ev X b G S1 (.d (.int n)) S2) (hr : lsOf S2 r = some ds) (h1 : -(2 ^ 63) ≤ n) (h2 : n < 2 ^ 63) (hz : ds.length * n.toNat ≤ 1000000) : Ev X (.BinOp a .Mult b pos) G S (.o S2.length) (S2 ++ [.lst (((List.replicate n.toNat ds).flatten).map .d)]) := ev_op op_repR ha hb (fun M H v u Q s hv hu q => by
  obtain ⟨ad, xs, rfl, h3, h4⟩ := ls_rd s hv hr
  rw [vr_int hu]
  refine ⟨ad, n, xs, rfl, rfl, h3, h1, h2, by rw [fz_len h4, sizeLine_eq]; omega, fun p hp => ?_⟩
  have e4 : Ext M H (M ++ [p]) (upd H p (.lst (List.replicate n.toNat xs).flatten)) := Ext.own hp
  have s4 := s.own (w := .lst (((List.replicate n.toNat ds).flatten).map .d)) hp ⟨_, upd_same, VReps.ext e4 (fz_reps (fz_rep h4 _))⟩
  exact q _ _ _ e4 s4 ⟨p, by rw [← s.len, List.getElem?_append_right (Nat.le_refl _), Nat.sub_self]; rfl, rfl⟩)
/-- xs + ys, owned -/
theorem ev_catN (ha : Ev X a G S r S1) (hb : Ev X b G S1 r' S2) (hr : lsOf S2 r = some ds) (hr' : lsOf S2 r' = some ds') (hz : ds.length + ds'.length ≤ 1000000) : Ev X (.BinOp a .Add b pos) G S (.o S2.length) (S2 ++ [.lst ((ds ++ ds').map .d)]) := ev_op op_catR ha hb (fun M H v u Q s hv hu q => by
  obtain ⟨ad, xs, rfl, h1, h2⟩ := ls_rd s hv hr
  obtain ⟨bd, ys, rfl, h3, h4⟩ := ls_rd s hu hr'
  refine ⟨_, _, _, _, rfl, rfl, h1, h3, by rw [fz_len h2, fz_len h4, sizeLine_eq]; omega, fun p hp => ?_⟩
  have e4 : Ext M H (M ++ [p]) (upd H p (.lst (xs ++ ys))) := Ext.own hp
  have s4 := s.own (w := .lst ((ds ++ ds').map .d)) hp ⟨_, upd_same, VReps.ext e4 (fz_reps (fz_app h2 h4))⟩
  exact q _ _ _ e4 s4 ⟨p, by rw [← s.len, List.getElem?_append_right (Nat.le_refl _), Nat.sub_self]; rfl, rfl⟩)
/-- a <= b <= c, a <= b < c of whole numbers -/
theorem ev_leLe {i l h : Int} {e3 : Expr} (ha : Ev X a G S (.d (.int l)) S1) (hb : Ev X b G S1 (.d (.int i)) S2) (hc : l ≤ i → Ev X e3 G S2 (.d (.int h)) S2) (hm : lastMarks [.LtE, .LtE] [b, e3] = false := by rfl) : Ev X (.Compare a [.LtE, .LtE] [b, e3] pos) G S (.d (.bool (decide (l ≤ i) && decide (i ≤ h)))) S2 :=
  ev_chain op_le op_le ha hb (rw_intB (f := fun i j => decide (i ≤ j))) (fun z => hc (of_decide_eq_true z)) (fun _ => rw_intB (f := fun i j => decide (i ≤ j))) hm
theorem ev_leLt {i l h : Int} {e3 : Expr} (ha : Ev X a G S (.d (.int l)) S1) (hb : Ev X b G S1 (.d (.int i)) S2) (hc : l ≤ i → Ev X e3 G S2 (.d (.int h)) S2) (hm : lastMarks [.LtE, .Lt] [b, e3] = false := by rfl) : Ev X (.Compare a [.LtE, .Lt] [b, e3] pos) G S (.d (.bool (decide (l ≤ i) && decide (i < h)))) S2 :=
  ev_chain op_le op_lt ha hb (rw_intB (f := fun i j => decide (i ≤ j))) (fun z => hc (of_decide_eq_true z)) (fun _ => rw_intB (f := fun i j => decide (i < j))) hm
theorem evt_leLe {i l h : Int} {e3 : Expr} (ha : Ev X a G S (.d (.int l)) S1) (hb : Ev X b G S1 (.d (.int i)) S2) (hc : l ≤ i → Ev X e3 G S2 (.d (.int h)) S2) (hm : lastMarks [.LtE, .LtE] [b, e3] = false := by rfl) : EvT X (.Compare a [.LtE, .LtE] [b, e3] pos) G S (decide (l ≤ i) && decide (i ≤ h)) S2 :=
  evt_chain op_le op_le ha hb (rw_intB (f := fun i j => decide (i ≤ j))) (fun z => hc (of_decide_eq_true z)) (fun _ => rw_intB (f := fun i j => decide (i ≤ j))) hm
theorem evt_leLt {i l h : Int} {e3 : Expr} (ha : Ev X a G S (.d (.int l)) S1) (hb : Ev X b G S1 (.d (.int i)) S2) (hc : l ≤ i → Ev X e3 G S2 (.d (.int h)) S2) (hm : lastMarks [.LtE, .Lt] [b, e3] = false := by rfl) : EvT X (.Compare a [.LtE, .Lt] [b, e3] pos) G S (decide (l ≤ i) && decide (i < h)) S2 :=
  evt_chain op_le op_lt ha hb (rw_intB (f := fun i j => decide (i ≤ j))) (fun z => hc (of_decide_eq_true z)) (fun _ => rw_intB (f := fun i j => decide (i < j))) hm
end
theorem atI_nat {α : Type} {xs : List α} {k : Nat} {i : Int} {d : α} (hi : i = k) (h : xs[k]? = some d) : atI xs i = some d := by
  subst hi
  have hk := (List.getElem?_eq_some_iff.mp h).1
  unfold atI ixN
  rw [if_pos (by omega), if_pos (by omega)]
  show xs[(k : Int).toNat]? = _
  rw [Int.toNat_natCast]; exact h
/-! ### parts of a store -/
/-- L stands in S from n on -/
def At (S : Sto) (n : Nat) (L : Sto) : Prop := n + L.length ≤ S.length ∧ ∀ j, j < L.length → S[n + j]? = L[j]?
/-- S with L from n on -/
def over (S : Sto) (n : Nat) (L : Sto) : Sto := S.take n ++ (L ++ S.drop (n + L.length))
theorem At.get {S : Sto} {n : Nat} {L : Sto} (h : At S n L) {j : Nat} {w : Own} (hj : L[j]? = some w) : S[n + j]? = some w := by
  rw [h.2 j (List.getElem?_eq_some_iff.mp hj).1]; exact hj
theorem At.get0 {S : Sto} {n : Nat} {w : Own} {L : Sto} (h : At S n (w :: L)) : S[n]? = some w := h.get (j := 0) rfl
theorem over_len {S : Sto} {n : Nat} {L : Sto} (h : n + L.length ≤ S.length) : (over S n L).length = S.length := by
  unfold over
  rw [List.length_append, List.length_append, List.length_take, List.length_drop]
  omega
theorem over_in {S : Sto} {n : Nat} {L : Sto} (h : n + L.length ≤ S.length) {j : Nat} (hj : j < L.length) : (over S n L)[n + j]? = L[j]? := by
  unfold over
  have hl : (S.take n).length = n := by rw [List.length_take]; omega
  rw [List.getElem?_append_right (by omega), hl, show n + j - n = j by omega, List.getElem?_append_left hj]
theorem over_out {S : Sto} {n : Nat} {L : Sto} (h : n + L.length ≤ S.length) {j : Nat} (hj : j < n ∨ n + L.length ≤ j) : (over S n L)[j]? = S[j]? := by
  unfold over
  have hl : (S.take n).length = n := by rw [List.length_take]; omega
  rcases hj with hj | hj
  · rw [List.getElem?_append_left (by omega), List.getElem?_take_of_lt hj]
  · rw [List.getElem?_append_right (by omega), hl, List.getElem?_append_right (by omega), List.getElem?_drop]
    congr 1
    omega
theorem At.over {S : Sto} {n : Nat} {L L' : Sto} (h : At S n L) (hl : L'.length = L.length) : At (over S n L') n L' := by
  have h1 : n + L'.length ≤ S.length := by rw [hl]; exact h.1
  exact ⟨by rw [over_len h1]; exact h1, fun j hj => over_in h1 hj⟩
theorem At.other {S : Sto} {n m : Nat} {L M : Sto} (h : n + L.length ≤ S.length) (hm : At S m M) (d : m + M.length ≤ n ∨ n + L.length ≤ m) : At (Cu.over S n L) m M := by
  refine ⟨by rw [over_len h]; exact hm.1, fun j hj => ?_⟩
  rw [over_out h (by omega)]
  exact hm.2 j hj
theorem sto_ext {A B : Sto} (h : ∀ j : Nat, A[j]? = B[j]?) : A = B := List.ext_getElem? h
theorem over_self {S : Sto} {n : Nat} {L : Sto} (h : At S n L) : over S n L = S := sto_ext fun j => by
  by_cases hj : n ≤ j ∧ j < n + L.length
  · obtain ⟨i, rfl⟩ := Nat.exists_eq_add_of_le hj.1
    rw [over_in h.1 (by omega), h.2 i (by omega)]
  · exact over_out h.1 (by omega)
theorem over_over {S : Sto} {n : Nat} {L L' : Sto} (h : n + L.length ≤ S.length) (hl : L'.length = L.length) : over (over S n L) n L' = over S n L' := sto_ext fun j => by
  have h1 : n + L'.length ≤ (over S n L).length := by rw [over_len h, hl]; exact h
  have h2 : n + L'.length ≤ S.length := by rw [hl]; exact h
  by_cases hj : n ≤ j ∧ j < n + L.length
  · obtain ⟨i, rfl⟩ := Nat.exists_eq_add_of_le hj.1
    rw [over_in h1 (by omega), over_in h2 (by omega)]
  · rw [over_out h1 (by omega), over_out h (by omega), over_out h2 (by omega)]
theorem set_over {S : Sto} {n : Nat} {L : Sto} (h : At S n L) {j : Nat} {w : Own} (hj : j < L.length) : S.set (n + j) w = over S n (L.set j w) := sto_ext fun i => by
  have hl : (L.set j w).length = L.length := List.length_set
  have h2 : n + (L.set j w).length ≤ S.length := by rw [hl]; exact h.1
  by_cases hi : n ≤ i ∧ i < n + L.length
  · obtain ⟨i, rfl⟩ := Nat.exists_eq_add_of_le hi.1
    rw [over_in h2 (by omega)]
    by_cases e : j = i
    · subst e
      have := h.1
      rw [List.getElem?_set_self hj, List.getElem?_set_self (by omega)]
    · rw [List.getElem?_set_ne e, List.getElem?_set_ne (by omega), h.2 i (by omega)]
  · rw [over_out h2 (by omega), List.getElem?_set_ne (by omega)]
theorem at_mid (A L T : Sto) : At (A ++ (L ++ T)) A.length L := by
  refine ⟨by rw [List.length_append, List.length_append]; omega, fun j hj => ?_⟩
  rw [List.getElem?_append_right (Nat.le_add_right _ _), Nat.add_sub_cancel_left, List.getElem?_append_left hj]
theorem at_end (A L : Sto) : At (A ++ L) A.length L := by
  have := at_mid A L []
  rwa [List.append_nil] at this
theorem At.app {S : Sto} {n : Nat} {L : Sto} (h : At S n L) (T : Sto) : At (S ++ T) n L := by
  have := h.1
  refine ⟨by rw [List.length_append]; omega, fun j hj => ?_⟩
  rw [List.getElem?_append_left (by omega)]
  exact h.2 j hj
theorem over_app {S : Sto} {n : Nat} {L : Sto} (h : n + L.length ≤ S.length) (T : Sto) : over (S ++ T) n L = over S n L ++ T := by
  unfold over
  rw [List.take_append_of_le_length (by omega), List.drop_append_of_le_length (by omega)]
  simp
theorem over_mid (A L L' T : Sto) (h : L'.length = L.length) : over (A ++ (L ++ T)) A.length L' = A ++ (L' ++ T) := by
  unfold over
  rw [List.take_left, h, ← List.append_assoc A L T, show A.length + L.length = (A ++ L).length by rw [List.length_append], List.drop_left]
theorem over_end (A L L' : Sto) (h : L'.length = L.length) : over (A ++ L) A.length L' = A ++ L' := by
  have := over_mid A L L' [] h
  rwa [List.append_nil, List.append_nil] at this
end Cu
/-! CuL: membership among data, slices of tuples. -/
namespace Cu
open PySem PySem.Spec PyProof.Rows L2
section
variable {X : Cx} {W : WX} {k j : Nat} {G G1 G2 : Gam} {S S1 S2 S3 : Sto} {P : Post} {e a b o iter tg elt : Expr} {es ifs : List Expr} {r y z r' : It} {rs : List It} {pos pos' p apos cpos tpos : Pos} {ds ds' : List PyData} {m n : Int}
theorem dp_list {K : PySem.W.Frag} {H : Hp} {M : List Addr} {a : Addr} {xs : List V} (h1 : Rd H a (.lst xs)) (h2 : FzAll M H xs ds) : Dp K H (.ref a) (.list ds) := .lst (.inl h1) (FzAll.dp h2)
theorem evt_inD {x : PyData} (c : Cxo X W k) (ha : Ev X a G S (.d x) S1) (hb : Ev X b G S1 r S2) (hr : lsOf S2 r = some ds) (hx : SeqAt.shaped x = true) (hd : SeqAt.shaped (.list ds) = true) (hm : behindInMarks .In b = false := by rfl) : EvT X (.Compare a [.In] [b] pos) G S (ds.any fun z => PyData.eqv z x) S2 := evt_cmp (op_inD (by have := c.hr.un; omega)) ha hb (fun M H v u Q s hv hw q => by
  obtain ⟨ad, xs, rfl, h1, h2⟩ := ls_rd s hw hr
  exact ⟨x, ds, Fz.dp hv, dp_list h1 h2, hx, hd, q _ M H Ext.refl s (Fz.bl _)⟩) hm
theorem evt_notInD {x : PyData} (c : Cxo X W k) (ha : Ev X a G S (.d x) S1) (hb : Ev X b G S1 r S2) (hr : lsOf S2 r = some ds) (hx : SeqAt.shaped x = true) (hd : SeqAt.shaped (.list ds) = true) (hm : behindInMarks .NotIn b = false := by rfl) : EvT X (.Compare a [.NotIn] [b] pos) G S (!ds.any fun z => PyData.eqv z x) S2 := evt_cmp (op_notInD (by have := c.hr.un; omega)) ha hb (fun M H v u Q s hv hw q => by
  obtain ⟨ad, xs, rfl, h1, h2⟩ := ls_rd s hw hr
  exact ⟨x, ds, Fz.dp hv, dp_list h1 h2, hx, hd, q _ M H Ext.refl s (Fz.bl _)⟩) hm
/-- t[lo:hi] of a tuple of data -/
theorem ev_slT {lo hi : Option Expr} {il ih : Option Int} {p2 : Pos} (ha : Ev X a G S (.d (.tuple ds)) S1) (hl : EvP X lo G S1 il) (hh : EvP X hi G S1 ih) (hw : ¬ (HT.sIx ds.length 0 il = 0 ∧ HT.sIx ds.length ds.length ih = ds.length)) : Ev X (.Subscript a (.Slice lo hi none p2) pos) G S (.d (.tuple (cutD ds il ih))) S1 := fun M σ H Q s q =>
  toE (pe_slice sl_tup pe_s po_tEP po_tEP) (ha M σ H _ s fun v M1 H1 e1 t1 r1 => hl.run t1 fun M2 H2 e2 t2 => hh.run t2 fun M3 H3 e3 t3 => by
    have r3 : Fz M3 H3 v (.tuple ds) := (r1.ext e2).ext e3
    cases r3 with
    | tup h1 h2 => exact ⟨_, _, rfl, h1.sq, by rw [fz_len h2]; exact hw, fun p hp => q _ M3 _ (((e1.trans e2).trans e3).trans (Ext.fresh hp)) (t3.fresh hp) (Fz.tup ⟨upd_same, t3.sto.nin hp⟩ (FzAll.ext (Ext.fresh hp) (fz_cut h2)))⟩)
end
end Cu
/-! CuM: and, or, whose parts change the store. -/
namespace Cu
open PySem PySem.Spec PyProof.Rows L2
section
variable {X : Cx} {W : WX} {k j : Nat} {G G1 G2 : Gam} {S S1 S2 S3 : Sto} {e a b : Expr} {es : List Expr} {r y z r' : It} {pos : Pos} {Qr : It → Sto → Prop} {Qx : Addr → Sto → Prop}
theorem ev_andT {d : It} (h : Ev X a G S (.d (.bool true)) S1) (h2 : Ev X (.BoolOp .And (b :: es) pos) G S1 d S2) : Ev X (.BoolOp .And (a :: b :: es) pos) G S d S2 := fun M σ H Q s q =>
  toE (pe_and pe_s pe_s) (h M σ H _ s fun v M1 H1 e1 s1 r1 => ⟨true, vr_bool r1, iteT (h2 M1 σ H1 _ s1 fun w M2 H2 e2 s2 r2 => q w M2 H2 (e1.trans e2) s2 r2)⟩)
theorem ev_andF (h : Ev X a G S (.d (.bool false)) S1) : Ev X (.BoolOp .And (a :: b :: es) pos) G S (.d (.bool false)) S1 := fun M σ H Q s q =>
  toE (pe_and pe_s pe_s) (h M σ H _ s fun v M1 H1 e1 s1 r1 => ⟨false, vr_bool r1, iteF (q _ M1 H1 e1 s1 (Fz.bl false))⟩)
theorem ev_orF {d : It} (h : Ev X a G S (.d (.bool false)) S1) (h2 : Ev X (.BoolOp .Or (b :: es) pos) G S1 d S2) : Ev X (.BoolOp .Or (a :: b :: es) pos) G S d S2 := fun M σ H Q s q =>
  toE (pe_or pe_s pe_s) (h M σ H _ s fun v M1 H1 e1 s1 r1 => ⟨false, vr_bool r1, iteF (h2 M1 σ H1 _ s1 fun w M2 H2 e2 s2 r2 => q w M2 H2 (e1.trans e2) s2 r2)⟩)
theorem evw_andT {d : Bool} (h : EvT X a G S true S1) (h2 : EvW X (.BoolOp .And (b :: es) pos) G S1 d S2) : EvW X (.BoolOp .And (a :: b :: es) pos) G S d S2 := fun M σ H Q s q =>
  toW (pw_and pt_s pw_s) (h M σ H _ s fun M1 H1 e1 s1 => iteT (h2 M1 σ H1 _ s1 fun M2 H2 e2 s2 => q M2 H2 (e1.trans e2) s2))
theorem evw_andF (h : EvT X a G S false S1) : EvW X (.BoolOp .And (a :: b :: es) pos) G S false S1 := fun M σ H Q s q =>
  toW (pw_and pt_s pw_s) (h M σ H _ s fun M1 H1 e1 s1 => iteF (q M1 H1 e1 s1))
theorem evw_orF {d : Bool} (h : EvT X a G S false S1) (h2 : EvW X (.BoolOp .Or (b :: es) pos) G S1 d S2) : EvW X (.BoolOp .Or (a :: b :: es) pos) G S d S2 := fun M σ H Q s q =>
  toW (pw_or pt_s pw_s) (h M σ H _ s fun M1 H1 e1 s1 => iteF (h2 M1 σ H1 _ s1 fun M2 H2 e2 s2 => q M2 H2 (e1.trans e2) s2))
theorem evw_orT (h : EvT X a G S true S1) : EvW X (.BoolOp .Or (a :: b :: es) pos) G S true S1 := fun M σ H Q s q =>
  toW (pw_or pt_s pw_s) (h M σ H _ s fun M1 H1 e1 s1 => iteT (q M1 H1 e1 s1))
theorem evx_one {op : BoolOp} (h : EvX X W a G S Qr Qx) : EvX X W (.BoolOp op [a] pos) G S Qr Qx := fun M σ H Q s h1 h2 => toE (pe_one pe_s) (h M σ H _ s h1 h2)
theorem evx_andT (h : Ev X a G S (.d (.bool true)) S1) (hx : EvX X W (.BoolOp .And (b :: es) pos) G S1 Qr Qx) : EvX X W (.BoolOp .And (a :: b :: es) pos) G S Qr Qx := fun M σ H Q s h1 h2 =>
  toE (pe_and pe_s pe_s) (h M σ H _ s fun v M1 H1 e1 s1 r1 => ⟨true, vr_bool r1, iteT (hx M1 σ H1 _ s1 (fun v M' H' r S' e2 => h1 v M' H' r S' (e1.trans e2)) (fun M' H' C S' e2 => h2 M' H' C S' (e1.trans e2)))⟩)
end
end Cu
/-! CuN: sorted that owns, list() that doesn't, == of lists owned or not, reversed, pop. -/
namespace Cu
open PySem PySem.Spec PyProof.Rows L2
section
variable {X : Cx} {W : WX} {k j : Nat} {G G1 G2 : Gam} {S S1 S2 S3 : Sto} {P : Post} {e a b o : Expr} {es : List Expr} {r y z r' : It} {rs : List It} {pos pos' p apos cpos : Pos} {ds ds' : List PyData} {m n : Int}
theorem ev_sortedN (c : Cxo X W k) (hm : X.mg "sorted" = none) (ha : Ev X a G S r S1) (hr : lsOf S1 r = some ds) (hal : PySem.W.AllAlike ds) (hso : PySem.W.Sortable ds) (hde : ∀ d ∈ ds, d.depth ≤ 60) (hg : Gl X "sorted" := by rfl) (he : starEach [a] X.env = (false, eval a X.env) :: starEach [] X.env := by rfl) : Ev X (.Call (.Name "sorted" p) [a] [] pos) G S (.o S1.length) (S1 ++ [.lst ((sortD ds).map .d)]) :=
  ev_blt (cr_sortD c.hr.units) hm (by decide +kernel) (eva_cons ha eva_nil he) (fun M H vs Q s hvs q => by
    obtain ⟨v, rfl, hv⟩ := vr1 hvs
    obtain ⟨ad, xs, rfl, h1, h2⟩ := ls_rd s hv hr
    refine ⟨ad, xs, ds, _, rfl, .inl h1, FzAll.dp h2, fz_pair h2, hal, hso, hde, fun ys p hp hn => ?_⟩
    have e4 : Ext M H (M ++ [p]) (upd H p (.lst ys)) := Ext.own hn
    have s4 := s.own (w := .lst ((sortD ds).map .d)) hn ⟨_, upd_same, VReps.ext e4 (fz_reps (fz_unpair hp))⟩
    exact q _ _ _ e4 s4 ⟨p, by rw [← s.len, List.getElem?_append_right (Nat.le_refl _), Nat.sub_self]; rfl, rfl⟩) hg (by decide) (by decide) he rfl
/-- list(xs): a new list that stays as it is -/
theorem ev_listF (hm : X.mg "list" = none) (ha : Ev X a G S r S1) (hr : lsOf S1 r = some ds) (hg : Gl X "list" := by rfl) (he : starEach [a] X.env = (false, eval a X.env) :: starEach [] X.env := by rfl) : Ev X (.Call (.Name "list" p) [a] [] pos) G S (.d (.list ds)) S1 := ev_ty call_list_of hm (by decide +kernel) (eva_cons ha eva_nil he) (fun M H vs Q s hvs q => by
  obtain ⟨v, rfl, hv⟩ := vr1 hvs
  obtain ⟨ad, xs, rfl, h1, h2⟩ := ls_rd s hv hr
  exact ⟨_, _, rfl, .inl (.inl h1), fun l hl => q _ M _ (Ext.fresh hl) (s.fresh hl) (Fz.lst ⟨.inl upd_same, s.nin hl⟩ (FzAll.ext (Ext.fresh hl) h2))⟩) hg (by decide) (by decide) he rfl
/-- list(xs): a new list that is owned -/
theorem ev_listO (hm : X.mg "list" = none) (ha : Ev X a G S r S1) (hr : lsOf S1 r = some ds) (hg : Gl X "list" := by rfl) (he : starEach [a] X.env = (false, eval a X.env) :: starEach [] X.env := by rfl) : Ev X (.Call (.Name "list" p) [a] [] pos) G S (.o S1.length) (S1 ++ [.lst (ds.map .d)]) := ev_ty call_list_of hm (by decide +kernel) (eva_cons ha eva_nil he) (fun M H vs Q s hvs q => by
  obtain ⟨v, rfl, hv⟩ := vr1 hvs
  obtain ⟨ad, xs, rfl, h1, h2⟩ := ls_rd s hv hr
  refine ⟨_, _, rfl, .inl (.inl h1), fun l hl => ?_⟩
  have e2 : Ext M H (M ++ [l]) (upd H l (.lst xs)) := Ext.own hl
  exact q _ _ _ e2 (s.own hl ⟨_, upd_same, VReps.ext e2 (fz_reps h2)⟩) ⟨l, by rw [← s.len, List.getElem?_append_right (Nat.le_refl _), Nat.sub_self]; rfl, rfl⟩) hg (by decide) (by decide) he rfl
theorem evt_neA (c : Cxo X W k) (ha : Ev X a G S r S1) (hb : Ev X b G S1 r' S2) (hr : lsOf S2 r = some ds) (hr' : lsOf S2 r' = some ds') (hx : SeqAt.shaped (.list ds) = true) (hy : SeqAt.shaped (.list ds') = true) : EvT X (.Compare a [.NotEq] [b] pos) G S (!PyData.eqv (.list ds) (.list ds')) S2 := evt_cmp (op_neD c.hr.units) ha hb (fun M H v u Q s hv hu q => by
  obtain ⟨ad, xs, rfl, h1, h2⟩ := ls_rd s hv hr
  obtain ⟨bd, ys, rfl, h3, h4⟩ := ls_rd s hu hr'
  exact ⟨_, _, dp_list h1 h2, dp_list h3 h4, hx, hy, q _ M H Ext.refl s (Fz.bl _)⟩)
theorem ev_eqA (c : Cxo X W k) (ha : Ev X a G S r S1) (hb : Ev X b G S1 r' S2) (hr : lsOf S2 r = some ds) (hr' : lsOf S2 r' = some ds') (hx : SeqAt.shaped (.list ds) = true) (hy : SeqAt.shaped (.list ds') = true) : Ev X (.Compare a [.Eq] [b] pos) G S (.d (.bool (PyData.eqv (.list ds) (.list ds')))) S2 := ev_cmp (op_eqD c.hr.units) ha hb (fun M H v u Q s hv hu q => by
  obtain ⟨ad, xs, rfl, h1, h2⟩ := ls_rd s hv hr
  obtain ⟨bd, ys, rfl, h3, h4⟩ := ls_rd s hu hr'
  exact ⟨_, _, dp_list h1 h2, dp_list h3 h4, hx, hy, q _ M H Ext.refl s (Fz.bl _)⟩)
theorem evt_eqA (c : Cxo X W k) (ha : Ev X a G S r S1) (hb : Ev X b G S1 r' S2) (hr : lsOf S2 r = some ds) (hr' : lsOf S2 r' = some ds') (hx : SeqAt.shaped (.list ds) = true) (hy : SeqAt.shaped (.list ds') = true) : EvT X (.Compare a [.Eq] [b] pos) G S (PyData.eqv (.list ds) (.list ds')) S2 := evt_cmp (op_eqD c.hr.units) ha hb (fun M H v u Q s hv hu q => by
  obtain ⟨ad, xs, rfl, h1, h2⟩ := ls_rd s hv hr
  obtain ⟨bd, ys, rfl, h3, h4⟩ := ls_rd s hu hr'
  exact ⟨_, _, dp_list h1 h2, dp_list h3 h4, hx, hy, q _ M H Ext.refl s (Fz.bl _)⟩)
end
end Cu
/-! CuO: extend by any list, pop. -/
namespace Cu
open PySem PySem.Spec PyProof.Rows L2
def rExtR : V → List V → Hp → VK → Prop := fun x vs H Q => ∃ l b xs zs, x = .ref l ∧ vs = [.ref b] ∧ H l = some (.lst xs) ∧ Rd H b (.lst zs) ∧ xs.length + zs.length ≤ sizeLine ∧ Q .non (upd H l (.lst (xs ++ zs)))
section
variable {X : Cx} {W : WX} {k j : Nat} {G G1 G2 : Gam} {S S1 S2 S3 : Sto} {P : Post} {e a b o : Expr} {es : List Expr} {r y z r' : It} {rs : List It} {pos pos' p apos cpos : Pos} {ds ds' : List PyData} {m n : Int}
theorem mt_extR : MtM X "list.extend" rExtR := by
  intro pins s σ H x vs v us Q I rx rv h
  obtain ⟨l, b, xs, zs, rfl, rfl, hH, hB, hz, q⟩ := h
  cases rx
  obtain ⟨u, rfl, ru⟩ := rv.one
  cases ru
  obtain ⟨z, its, n, r, hl, e⟩ := I.lstM hH
  obtain ⟨z2, its2, n2, r2, e2⟩ := hB.ok I.hok
  have hl2 : zs.length = its2.length := r2.length
  have hs1 : its2.toArray.size ≤ sizeLine := by rw [List.size_toArray]; omega
  have hs2 : its.toArray.size + its2.toArray.size ≤ sizeLine := by rw [List.size_toArray, List.size_toArray]; omega
  have hq : ¬ (!its.toArray.isEmpty && Builtin.List.listTooLong (its.toArray.size + its2.toArray.size)) = true := by rw [notLongL hs2, Bool.and_false]; decide
  have M := AutoSeq1.list_extend_list_list_0 l its.toArray n b its2.toArray n2 hq (by rw [List.size_toArray]; omega) (by omega)
  refine call_meets F.slot_list_extend ⟨_, e, rfl⟩ F.entry_list_extend (F.args_list_extend_2 _ _) M ⟨e, e2, ?_⟩
  have hlen : (xs ++ zs).length ≤ sizeLine := by rw [List.length_append]; omega
  exact ⟨.non, _, I.lset (its' := its ++ its2) hH e (by simp) (r.append r2) hlen, rfl, q⟩
/-- xs.extend(ys), ys any list of data -/
theorem ev_extA {i : Nat} {xs : List It} (ho : Ev X o G S (.o i) S1) (hi : S1[i]? = some (.lst xs)) (ha : Ev X e G S1 r S2) (hi2 : S2[i]? = some (.lst xs)) (hr : lsOf S2 r = some ds) (hz : xs.length + ds.length < 1000000) (hbase : attributeBase o "extend" X.env (eval o X.env) = eval o X.env := by rfl)
    (hfew : ((backTo cpos (starEach [e] X.env)).all (fun x => !x.1) && (backToKw cpos (keywordEach [] X.env)).all (fun x => x.1.isSome) && decide ([e].length + ([] : List Keyword).length + (if ([] : List Keyword).isEmpty then 0 else 1) < 30)) = true := by rfl)
    (hline : (apos.endLine == cpos.line) = true := by rfl) (hs : starEach [e] X.env = (false, eval e X.env) :: starEach [] X.env := by rfl) : Ev X (.Call (.Attribute o "extend" apos) [e] [] cpos) G S (.d .none) (S2.set i (.lst (xs ++ ds.map .d))) :=
  ev_bm PySem.F.plainAttrs_list PySem.F.slot_list_extend PySem.F.type_list_extend mt_extR ho (ty_own hi) (eva_cons ha eva_nil hs) (fun M H v vs Q s hv hvs q => by
    obtain ⟨u, rfl, hu⟩ := vr1 hvs
    obtain ⟨ad, had, rfl⟩ := hv
    obtain ⟨ws, e1, e2⟩ := s.rep i ad _ had hi2
    obtain ⟨bd, ys, rfl, h3, h4⟩ := ls_rd s hu hr
    have e3 : Ext M H M (upd H ad (.lst (ws ++ ys))) := Ext.put (List.mem_of_getElem? had)
    exact ⟨ad, bd, ws, ys, rfl, rfl, e1, h3, by rw [e2.len, fz_len h4, sizeLine_eq]; omega, q .non M _ e3 (s.put had ⟨_, upd_same, VReps.append (VReps.ext e3 e2) (VReps.ext e3 (fz_reps h4))⟩) Fz.non⟩) hbase hfew hline hs rfl
theorem reps_dropLast {K : PySem.W.Frag} {M : List Addr} {H : Hp} {vs : List V} {rs : List It} (h : VReps K M H vs rs) : VReps K M H vs.dropLast rs.dropLast := by
  induction h with
  | nil => exact .nil
  | cons a t ih =>
    cases t with
    | nil => exact .nil
    | cons b t => exact .cons a ih
/-- xs.pop() -/
theorem ev_pop {i : Nat} {xs : List It} {y : It} (ho : Ev X o G S (.o i) S1) (hi : S1[i]? = some (.lst xs)) (hy : xs[xs.length - 1]? = some y) (hbase : attributeBase o "pop" X.env (eval o X.env) = eval o X.env := by rfl) (hline : (apos.endLine == cpos.line) = true := by rfl) : Ev X (.Call (.Attribute o "pop" apos) [] [] cpos) G S y (S1.set i (.lst xs.dropLast)) :=
  ev_bm0 PySem.F.plainAttrs_list PySem.F.slot_list_pop PySem.F.type_list_pop mt_pop ho (ty_own hi) (fun M H v vs Q s hv hvs q => by
    cases hvs
    obtain ⟨ad, had, rfl⟩ := hv
    obtain ⟨ws, e1, e2⟩ := s.rep i ad _ had hi
    have hl := e2.len
    obtain ⟨u, hu1, hu2⟩ := reps_get e2 hy
    have e3 : Ext M H M (upd H ad (.lst ws.dropLast)) := Ext.put (List.mem_of_getElem? had)
    have hd := reps_dropLast e2
    exact ⟨ad, ws, u, rfl, rfl, e1, by rw [hl]; exact hu1, q u M _ e3 (s.put (w := .lst xs.dropLast) had ⟨_, upd_same, VReps.ext e3 hd⟩) (hu2.ext e3)⟩) hbase hline
end
end Cu
/-! CuP: pop(i). -/
namespace Cu
open PySem PySem.Spec PyProof.Rows L2
theorem reps_eraseIdx {K : PySem.W.Frag} {M : List Addr} {H : Hp} {vs : List V} {rs : List It} (h : VReps K M H vs rs) : ∀ i : Nat, VReps K M H (vs.eraseIdx i) (rs.eraseIdx i) := by
  induction h with
  | nil => intro i; exact .nil
  | cons a t ih =>
    intro i
    cases i with
    | zero => exact t
    | succ i => exact .cons a (ih i)
section
variable {X : Cx} {W : WX} {k j : Nat} {G G1 G2 : Gam} {S S1 S2 S3 : Sto} {P : Post} {e a b o : Expr} {es : List Expr} {r y z r' : It} {rs : List It} {pos pos' p apos cpos : Pos} {ds ds' : List PyData} {m n : Int}
/-- xs.pop(n), n from 0 on -/
theorem ev_popAt {i l : Nat} {xs : List It} {y : It} (ho : Ev X o G S (.o i) S1) (hi : S1[i]? = some (.lst xs)) (ha : Ev X e G S1 (.d (.int n)) S2) (hi2 : S2[i]? = some (.lst xs)) (hn : n = (l : Int)) (hz : l < 1000000) (hy : xs[l]? = some y) (hbase : attributeBase o "pop" X.env (eval o X.env) = eval o X.env := by rfl)
    (hfew : ((backTo cpos (starEach [e] X.env)).all (fun x => !x.1) && (backToKw cpos (keywordEach [] X.env)).all (fun x => x.1.isSome) && decide ([e].length + ([] : List Keyword).length + (if ([] : List Keyword).isEmpty then 0 else 1) < 30)) = true := by rfl)
    (hline : (apos.endLine == cpos.line) = true := by rfl) (hs : starEach [e] X.env = (false, eval e X.env) :: starEach [] X.env := by rfl) : Ev X (.Call (.Attribute o "pop" apos) [e] [] cpos) G S y (S2.set i (.lst (xs.eraseIdx l))) :=
  ev_bm PySem.F.plainAttrs_list PySem.F.slot_list_pop PySem.F.type_list_pop mt_popAt ho (ty_own hi) (eva_cons ha eva_nil hs) (fun M H v vs Q s hv hvs q => by
    obtain ⟨u, rfl, hu⟩ := vr1 hvs
    obtain ⟨ad, had, rfl⟩ := hv
    obtain ⟨ws, e1, e2⟩ := s.rep i ad _ had hi2
    obtain ⟨w, hw1, hw2⟩ := reps_get e2 hy
    have hl := e2.len
    have hlt := (List.getElem?_eq_some_iff.mp hy).1
    have e3 : Ext M H M (upd H ad (.lst (ws.eraseIdx l))) := Ext.put (List.mem_of_getElem? had)
    rw [vr_int hu]
    refine ⟨ad, ws, n, l, w, rfl, rfl, e1, by omega, by omega, ?_, hw1, q w M _ e3 (s.put (w := .lst (xs.eraseIdx l)) had ⟨_, upd_same, VReps.ext e3 (reps_eraseIdx e2 l)⟩) (hw2.ext e3)⟩
    subst hn
    refine (ixN_seq (j := l) ?_).1
    unfold ixN
    rw [if_pos (by omega), if_pos (by omega), Int.toNat_natCast]) hbase hfew hline hs rfl
end
end Cu
/-! CuQ: a statement whose ends join. -/
namespace Cu
open PySem PySem.Spec PyProof.Rows L2
section
variable {X : Cx} {W : WX} {k j : Nat} {G G1 G2 : Gam} {S S1 S2 S3 : Sto} {P : Post} {st : Stmt} {sts : List Stmt}
theorem ss_mid (J : Gam → Sto → Prop) (h : WS X W st G S { P with nx := J }) (h2 : ∀ G' S', J G' S' → WSs X W sts G' S' P) : WSs X W (st :: sts) G S P :=
  ss_cons fun M σ H D s m => h M σ H D s ⟨fun M' σ' H' G' S' e t q => m.nx M' σ' H' G' S' e t (h2 _ _ q), m.rt, m.bk, m.ct, m.xc⟩
end
end Cu
/-! CuR: dicts whose keys are tuples. -/
namespace Cu
open PySem PySem.Spec PyProof.Rows L2
/-! ### keys -/
def keyA : PyData → Option Key
  | .int i => some (.inl i)
  | .str x => some (.inr x)
  | _ => none
def keyL : List PyData → Option (List Key)
  | [] => some []
  | d :: ds => match keyA d, keyL ds with
    | some k, some ks => some (k :: ks)
    | _, _ => none
def keyD : PyData → Option (List Key)
  | .tuple ds => keyL ds
  | _ => none
theorem key_fz {M : List Addr} {H : Hp} : ∀ {ds : List PyData} {vs : List V} {ks : List Key}, keyL ds = some ks → FzAll M H vs ds → vs = ks.map kV
  | [], _, _, h, q => by cases h; cases q; rfl
  | d :: ds, _, ks, h, q => by
    cases q with
    | cons q1 q2 =>
      unfold keyL at h
      cases e1 : keyA d with
      | none => rw [e1] at h; cases h
      | some k =>
        cases e2 : keyL ds with
        | none => rw [e1, e2] at h; cases h
        | some ks' =>
          rw [e1, e2] at h
          cases h
          rw [List.map_cons, key_fz e2 q2]
          congr 1
          cases d with
          | int i => cases e1; cases q1; rfl
          | str x => cases e1; cases q1; rfl
          | _ => cases e1
theorem key_at {M : List Addr} {H : Hp} {v : V} {d : PyData} {ks : List Key} (h : keyD d = some ks) (q : Fz M H v d) : ∃ b, v = .ref b ∧ H b = some (.tup (ks.map kV)) ∧ b ∉ M := by
  cases d with
  | tuple ds =>
    cases q with
    | tup h1 h2 => exact ⟨_, rfl, by rw [← key_fz h h2]; exact h1.1, h1.2⟩
  | _ => cases h
/-! ### pairs -/
section
variable {κ : Type} [DecidableEq κ]
def valI (kvs : List (κ × It)) (k : κ) : Option It := (kvs.find? fun kv => decide (kv.1 = k)).map (·.2)
def putI (kvs : List (κ × It)) (k : κ) (v : It) : List (κ × It) := if kvs.any (fun kv => decide (kv.1 = k)) then kvs.map fun kv => if kv.1 = k then (kv.1, v) else kv else kvs ++ [(k, v)]
abbrev PRep (K : PySem.W.Frag) (M : List Addr) (H : Hp) : List (κ × V) → List (κ × It) → Prop := Paired fun p q => p.1 = q.1 ∧ VRep K M H p.2 q.2
variable {K : PySem.W.Frag} {M : List Addr} {H : Hp}
theorem prep_val {k : κ} : ∀ {ps : List (κ × V)} {kvs : List (κ × It)}, PRep K M H ps kvs → (valV ps k = none ∧ valI kvs k = none) ∨ ∃ v r, valV ps k = some v ∧ valI kvs k = some r ∧ VRep K M H v r
  | _, _, .nil => .inl ⟨rfl, rfl⟩
  | (p1, p2) :: ps, (q1, q2) :: kvs, .cons h t => by
    obtain ⟨e, h2⟩ := h
    have e : p1 = q1 := e
    subst e
    by_cases q : p1 = k
    · exact .inr ⟨p2, q2, valV_pos q, by simp [valI, List.find?_cons, q], h2⟩
    · rw [valV_neg q, show valI ((p1, q2) :: kvs) k = valI kvs k by simp [valI, List.find?_cons, q]]
      exact prep_val t
theorem prep_len {ps : List (κ × V)} {kvs : List (κ × It)} (h : PRep K M H ps kvs) : ps.length = kvs.length := Paired.length h
theorem prep_some {k : κ} {ps : List (κ × V)} {kvs : List (κ × It)} (h : PRep K M H ps kvs) : (valV ps k).isSome = (valI kvs k).isSome := by
  rcases prep_val (k := k) h with ⟨a, b⟩ | ⟨v, r, a, b, _⟩ <;> rw [a, b] <;> rfl
theorem prep_map {k : κ} {v : V} {r : It} (hv : VRep K M H v r) : ∀ {ps : List (κ × V)} {kvs : List (κ × It)}, PRep K M H ps kvs → PRep K M H (ps.map fun kv => if kv.1 = k then (kv.1, v) else kv) (kvs.map fun kv => if kv.1 = k then (kv.1, r) else kv)
  | _, _, .nil => .nil
  | (p1, p2) :: ps, (q1, q2) :: kvs, .cons h t => by
    obtain ⟨e, h2⟩ := h
    have e : p1 = q1 := e
    subst e
    rw [List.map_cons, List.map_cons]
    refine .cons ?_ (prep_map hv t)
    by_cases q : p1 = k
    · show (if p1 = k then (p1, v) else (p1, p2)).1 = (if p1 = k then (p1, r) else (p1, q2)).1 ∧ VRep K M H (if p1 = k then (p1, v) else (p1, p2)).2 (if p1 = k then (p1, r) else (p1, q2)).2
      rw [if_pos q, if_pos q]; exact ⟨rfl, hv⟩
    · show (if p1 = k then (p1, v) else (p1, p2)).1 = (if p1 = k then (p1, r) else (p1, q2)).1 ∧ VRep K M H (if p1 = k then (p1, v) else (p1, p2)).2 (if p1 = k then (p1, r) else (p1, q2)).2
      rw [if_neg q, if_neg q]; exact ⟨rfl, h2⟩
theorem prep_put {k : κ} {v : V} {r : It} {ps : List (κ × V)} {kvs : List (κ × It)} (h : PRep K M H ps kvs) (hv : VRep K M H v r) : PRep K M H (putK ps k v) (putI kvs k r) := by
  have e : ∀ kvs : List (κ × It), (kvs.any fun kv => decide (kv.1 = k)) = (valI kvs k).isSome := by
    intro kvs
    induction kvs with
    | nil => rfl
    | cons a t ih =>
      rw [List.any_cons, ih]
      unfold valI
      rw [List.find?_cons]
      by_cases q : a.1 = k
      · simp [q]
      · simp [q]
  unfold putK putI
  rw [valV_any, prep_some h, e]
  split
  · exact prep_map hv h
  · exact Paired.snoc h ⟨rfl, hv⟩
end
section
variable {X : Cx} {W : WX} {k j : Nat} {G G1 G2 : Gam} {S S1 S2 S3 : Sto} {P : Post} {e a b o : Expr} {es : List Expr} {r y z r' : It} {rs : List It} {pos pos' p apos cpos : Pos} {ds ds' : List PyData} {m n : Int} {i : Nat} {kd : PyData} {kk : List Key} {kvs : List (List Key × It)}
theorem u1 (c : Cxo X W k) : X.A.units + 1 < cLine := by have := c.hr.units; omega
/-- {} with tuples for keys -/
theorem ev_dNewT : Ev X (.Dict [] [] pos) G S (.o S.length) (S ++ [.dT []]) := fun M σ H Q s q =>
  toE pe_dnewT fun p hp => by
    have e2 : Ext M H (M ++ [p]) (upd H p (.dT [])) := Ext.own hp
    have s2 : StoreOk X.K (M ++ [p]) (upd H p (.dT [])) (S ++ [.dT []]) := s.sto.own hp ⟨[], upd_same, .nil⟩
    exact q _ _ _ e2 (s.mono e2 s2) ⟨p, by rw [← s.sto.len, List.getElem?_append_right (Nat.le_refl _), Nat.sub_self]; rfl, rfl⟩
/-- {} with whole numbers or texts for keys -/
theorem ev_dNewK : Ev X (.Dict [] [] pos) G S (.o S.length) (S ++ [.dK []]) := fun M σ H Q s q =>
  toE pe_dnewK fun p hp => by
    have e2 : Ext M H (M ++ [p]) (upd H p (.dK [])) := Ext.own hp
    have s2 : StoreOk X.K (M ++ [p]) (upd H p (.dK [])) (S ++ [.dK []]) := s.sto.own hp ⟨[], upd_same, .nil⟩
    exact q _ _ _ e2 (s.mono e2 s2) ⟨p, by rw [← s.sto.len, List.getElem?_append_right (Nat.le_refl _), Nat.sub_self]; rfl, rfl⟩
/-- the dict of a store -/
theorem dT_at {K : PySem.W.Frag} {M : List Addr} {H : Hp} {v : V} (s : StoreOk K M H S) (hv : VRep K M H v (.o i)) (hi : S[i]? = some (.dT kvs)) : ∃ a ps, v = .ref a ∧ M[i]? = some a ∧ H a = some (.dT ps) ∧ PRep K M H ps kvs := by
  obtain ⟨a, ha, rfl⟩ := hv
  obtain ⟨ps, h1, h2⟩ := s.rep _ a _ ha hi
  exact ⟨a, ps, rfl, ha, h1, h2⟩
theorem evt_dinT (c : Cxo X W k) (ha : Ev X a G S (.d kd) S1) (hb : Ev X b G S1 (.o i) S2) (hi : S2[i]? = some (.dT kvs)) (hk : keyD kd = some kk) (hm : behindInMarks .In b = false := by rfl) : EvT X (.Compare a [.In] [b] pos) G S (valI kvs kk).isSome S2 := fun M σ H Q s q =>
  toT (pt_cmp (pc_din (u1 c) pe_s pe_s) hm) (ha M σ H _ s fun v M1 H1 e1 s1 r1 => hb M1 σ H1 _ s1 fun u M2 H2 e2 s2 r2 => by
    obtain ⟨a, ps, rfl, _, h1, h2⟩ := dT_at s2.sto r2 hi
    obtain ⟨b, rfl, hb, _⟩ := key_at hk (r1.ext e2)
    exact ⟨a, valV ps kk, rfl, DGet.t h1 hb, _, rfl, by rw [prep_some h2]; exact q M2 H2 (e1.trans e2) s2⟩)
theorem evt_dnotinT (c : Cxo X W k) (ha : Ev X a G S (.d kd) S1) (hb : Ev X b G S1 (.o i) S2) (hi : S2[i]? = some (.dT kvs)) (hk : keyD kd = some kk) (hm : behindInMarks .NotIn b = false := by rfl) : EvT X (.Compare a [.NotIn] [b] pos) G S (!(valI kvs kk).isSome) S2 := fun M σ H Q s q =>
  toT (pt_cmp (pc_dnotin (u1 c) pe_s pe_s) hm) (ha M σ H _ s fun v M1 H1 e1 s1 r1 => hb M1 σ H1 _ s1 fun u M2 H2 e2 s2 r2 => by
    obtain ⟨a, ps, rfl, _, h1, h2⟩ := dT_at s2.sto r2 hi
    obtain ⟨b, rfl, hb, _⟩ := key_at hk (r1.ext e2)
    exact ⟨a, valV ps kk, rfl, DGet.t h1 hb, _, rfl, by rw [prep_some h2]; exact q M2 H2 (e1.trans e2) s2⟩)
theorem ev_dinT (c : Cxo X W k) (ha : Ev X a G S (.d kd) S1) (hb : Ev X b G S1 (.o i) S2) (hi : S2[i]? = some (.dT kvs)) (hk : keyD kd = some kk) (hm : behindInMarks .In b = false := by rfl) : Ev X (.Compare a [.In] [b] pos) G S (.d (.bool (valI kvs kk).isSome)) S2 := fun M σ H Q s q =>
  toE (pe_cmp (pc_din (u1 c) pe_s pe_s) hm) (ha M σ H _ s fun v M1 H1 e1 s1 r1 => hb M1 σ H1 _ s1 fun u M2 H2 e2 s2 r2 => by
    obtain ⟨a, ps, rfl, _, h1, h2⟩ := dT_at s2.sto r2 hi
    obtain ⟨b, rfl, hb, _⟩ := key_at hk (r1.ext e2)
    exact ⟨a, valV ps kk, rfl, DGet.t h1 hb, by rw [prep_some h2]; exact q _ M2 H2 (e1.trans e2) s2 (Fz.bl _)⟩)
theorem ev_dnotinT (c : Cxo X W k) (ha : Ev X a G S (.d kd) S1) (hb : Ev X b G S1 (.o i) S2) (hi : S2[i]? = some (.dT kvs)) (hk : keyD kd = some kk) (hm : behindInMarks .NotIn b = false := by rfl) : Ev X (.Compare a [.NotIn] [b] pos) G S (.d (.bool (!(valI kvs kk).isSome))) S2 := fun M σ H Q s q =>
  toE (pe_cmp (pc_dnotin (u1 c) pe_s pe_s) hm) (ha M σ H _ s fun v M1 H1 e1 s1 r1 => hb M1 σ H1 _ s1 fun u M2 H2 e2 s2 r2 => by
    obtain ⟨a, ps, rfl, _, h1, h2⟩ := dT_at s2.sto r2 hi
    obtain ⟨b, rfl, hb, _⟩ := key_at hk (r1.ext e2)
    exact ⟨a, valV ps kk, rfl, DGet.t h1 hb, by rw [prep_some h2]; exact q _ M2 H2 (e1.trans e2) s2 (Fz.bl _)⟩)
/-- d[k], there -/
theorem ev_dgetT (c : Cxo X W k) (ho : Ev X o G S (.o i) S1) (ha : Ev X a G S1 (.d kd) S2) (hi : S2[i]? = some (.dT kvs)) (hk : keyD kd = some kk) (hv : valI kvs kk = some r) (hs : NoSl a := by exact fun _ _ => rfl) : Ev X (.Subscript o a pos) G S r S2 := fun M σ H Q s q =>
  toE (pe_dget (u1 c) pe_s pe_s hs) (ho M σ H _ s fun v M1 H1 e1 s1 r1 => ha M1 σ H1 _ s1 fun u M2 H2 e2 s2 r2 => by
    obtain ⟨a, ps, rfl, _, h1, h2⟩ := dT_at s2.sto (r1.ext e2) hi
    obtain ⟨b, rfl, hb, _⟩ := key_at hk r2
    rcases prep_val (k := kk) h2 with ⟨_, z⟩ | ⟨v, r', h3, h4, h5⟩
    · rw [z] at hv; cases hv
    · rw [h4] at hv
      cases hv
      refine ⟨a, v, rfl, ?_, q _ M2 H2 (e1.trans e2) s2 h5⟩
      rw [← h3]
      exact DGet.t h1 hb)
/-- d[k] = e -/
theorem ws_dputT (c : Cxo X W k) (he : Ev X e G S r S1) (ho : Ev X o G S1 (.o i) S2) (ha : Ev X a G S2 (.d kd) S3) (hi : S3[i]? = some (.dT kvs)) (hk : keyD kd = some kk) (hz : kvs.length < 1000000) (q : P.nx G (S3.set i (.dT (putI kvs kk r))))
    (hs : swapsWith e (some (.Subscript o a pos')) pos.line X.env = pure false := by rfl) : WS X W (.Assign [.Subscript o a pos'] e pos) G S P := fun M σ H D s m =>
  toS (ps_dput (u1 c) pe_s pe_s pe_s hs) (he M σ H _ s fun v M1 H1 e1 s1 r1 => ho M1 σ H1 _ s1 fun u M2 H2 e2 s2 r2 => ha M2 σ H2 _ s2 fun w M3 H3 e3 s3 r3 => by
    obtain ⟨a, ps, rfl, ha, h1, h2⟩ := dT_at s3.sto (r2.ext e3) hi
    obtain ⟨b, rfl, hb, _⟩ := key_at hk r3
    have e4 : Ext M3 H3 M3 (upd H3 a (.dT (putK ps kk v))) := Ext.put (List.mem_of_getElem? ha)
    have s4 := s3.sto.put (w := .dT (putI kvs kk r)) ha ⟨putK ps kk v, upd_same, Paired.mapP (prep_put h2 (r1.ext (e2.trans e3))) fun _ _ z => ⟨z.1, z.2.ext e4⟩⟩
    refine ⟨a, _, rfl, DPut.t h1 hb (by rw [prep_len h2, sizeLine_eq]; omega), m.nx M3 σ _ G _ (((e1.trans e2).trans e3).trans e4) (s3.mono e4 s4) q⟩)
end
end Cu
/-! CuS: a dict written with one tuple key; sorted of a dict with tuple keys. -/
namespace Cu
open PySem PySem.Spec PyProof.Rows L2
section
variable {X : Cx}
/-- {k: v}, k a tuple -/
def tDisp1 (tk tv : TE) : TE := fun σ H Q => ∀ p, H p = none → tPairs [(tk, tv)] σ (upd H p (.dT [])) fun ps H2 => ∃ (k : List Key) (b : Addr) (v : V), ps = [(.ref b, v)] ∧ H2 p = some (.dT []) ∧ H2 b = some (.tup (k.map kV)) ∧ Q (.ref p) (upd H2 p (.dT [(k, v)]))
theorem pe_disp1 {ek ev : Expr} {pos : Pos} {tk tv : TE} (hu : X.A.units + 1 < cLine) (hk : PE X ek tk) (hv : PE X ev tv) : PE X (.Dict [some ek] [ev] pos) (tDisp1 tk tv) := by
  refine ⟨fun pins s σ H Q I q => ?_⟩
  have hn := I.hok.fresh (Nat.le_refl s.heap.objs.size)
  have I1 := I.laid (a := s.heap.objs.size) (o := .dT []) (h' := s.heap.push { cls := .type "dict", data := .dict #[] }) (t' := s.toks) (fun _ _ q => Heap.get?_push_of_some _ q) (Nat.le_refl _) (dt_empty s.heap I.big)
  have hsh := zip_pairTrees [some ek] [ev] X.env pos rfl rfl
  have hl := pairTrees_length [some ek] [ev] X.env pos rfl rfl
  rw [arm_eval_Dict, hsh, dictDisplay_pairs (pairTrees [some ek] [ev] X.env pos) (fun z => by rw [z] at hl; cases hl) (by rw [hl]; show 1 < 17; decide)]
  refine wpAny_bind (wpAny_standAt (wpAny_bind (wpAny_subDictH (knd := tupleKind (mixKind X.prog X.w)) (show X.A.units < cLine by omega) (by rw [hl]; show 1 ≤ 15; decide) ?_)))
  refine thn ((pps_cons hk hv pps_nil).run pins _ σ _ _ I1 (q _ hn)) fun ws s2 ⟨ps, H2, I2, rel, k, b, v, e, e0, eb, q2⟩ => ?_
  subst e
  cases rel with
  | @cons _ w2 _ _ h t =>
  cases t
  obtain ⟨u1, u2⟩ := w2
  obtain ⟨h1, h2⟩ := h
  cases (show u1 = Value.ref b from h1)
  obtain ⟨z, hd, xs, rel, dd⟩ := dt_of I2.hok e0
  cases rel
  refine ⟨[(k, b, u2)], ⟨rfl, rfl, key_of I2.hok eb, trivial⟩, dd, fun h' tk' dd' hs => ?_⟩
  refine wpAny_pure ⟨.ref s.heap.objs.size, upd H2 s.heap.objs.size (.dT [(k, v)]), ?_, rfl, q2⟩
  obtain ⟨q, es, ep, hq, h2', h3, h4, _, h5⟩ := dd'
  refine d_write I2 (by rw [e0]; exact True.intro) hs ⟨q, hq⟩ ⟨by rw [sizeLine_eq]; show 1 ≤ 16777216; decide, hd, [(k, b, u2)], .cons ⟨rfl, ?_, h2⟩ .nil, q, es, ep, hq, h2', h3, h4, h5⟩
  rw [upd_ne (ne_of eb e0 (fun z => nomatch z))]
  exact eb
end
section
variable {X : Cx} {W : WX} {k j : Nat} {G G1 G2 : Gam} {S S1 S2 S3 : Sto} {P : Post} {e a b o : Expr} {es : List Expr} {r y z r' : It} {rs : List It} {pos pos' p apos cpos : Pos} {ds ds' : List PyData} {m n : Int} {i : Nat} {kd : PyData} {kk : List Key} {kvs : List (List Key × It)}
/-- {k: v} -/
theorem ev_disp1 (c : Cxo X W k) (ha : Ev X a G (S ++ [.dT []]) (.d kd) (S ++ [.dT []])) (hb : Ev X b G (S ++ [.dT []]) r (S ++ [.dT []])) (hk : keyD kd = some kk) : Ev X (.Dict [some a] [b] pos) G S (.o S.length) (S ++ [.dT [(kk, r)]]) := fun M σ H Q s q =>
  toE (pe_disp1 (u1 c) pe_s pe_s) fun p hp => by
    have e2 : Ext M H (M ++ [p]) (upd H p (.dT [])) := Ext.own hp
    have s2 : StoreOk X.K (M ++ [p]) (upd H p (.dT [])) (S ++ [.dT []]) := s.sto.own hp ⟨[], upd_same, .nil⟩
    refine ha (M ++ [p]) σ _ _ (s.mono e2 s2) fun v M1 H1 e1 s1 r1 => hb M1 σ H1 _ s1 fun u M2 H2 e3 s3 r3 => ?_
    have e4 : Ext (M ++ [p]) (upd H p (.dT [])) M2 H2 := e1.trans e3
    have eM : M2 = M ++ [p] := by
      obtain ⟨L, eL⟩ := e4.pre
      have h1 := s3.sto.len
      rw [eL, List.length_append, List.length_append, List.length_append, s.sto.len] at h1
      have h2 : L.length = 0 := by
        have : [p].length = 1 := rfl
        have : [Own.dT []].length = 1 := rfl
        omega
      rw [eL, List.eq_nil_of_length_eq_zero h2, List.append_nil]
    subst eM
    have hn : (M ++ [p])[S.length]? = some p := by rw [← s.sto.len, List.getElem?_append_right (Nat.le_refl _), Nat.sub_self]; rfl
    have hS : (S ++ [Own.dT []])[S.length]? = some (.dT []) := by rw [List.getElem?_append_right (Nat.le_refl _), Nat.sub_self]; rfl
    obtain ⟨ps, h1, h2⟩ := s3.sto.rep _ p _ hn hS
    cases h2
    obtain ⟨b', rfl, hb', _⟩ := key_at hk (VRep.ext e3 r1)
    have e5 : Ext (M ++ [p]) H2 (M ++ [p]) (upd H2 p (.dT [(kk, u)])) := Ext.put (List.mem_of_getElem? hn)
    have s5 := s3.sto.put (w := .dT [(kk, r)]) hn ⟨[(kk, u)], upd_same, .cons ⟨rfl, r3.ext e5⟩ .nil⟩
    rw [List.set_append_right _ _ (Nat.le_refl _), Nat.sub_self] at s5
    exact ⟨kk, b', u, rfl, h1, hb', q _ _ _ ((e2.trans e4).trans e5) (s.mono ((e2.trans e4).trans e5) s5) ⟨p, hn, rfl⟩⟩
end
end Cu
/-! CuT: sorted of a dict with tuple keys. -/
namespace Cu
open PySem PySem.Spec PyProof.Rows L2
def keyB : Key → PyData
  | .inl i => .int i
  | .inr x => .str x
def keyU (ks : List Key) : PyData := .tuple (ks.map keyB)
theorem keyB_A {d : PyData} {k : Key} (h : keyA d = some k) : d = keyB k := by
  cases d with
  | int i => cases h; rfl
  | str x => cases h; rfl
  | _ => cases h
theorem keyL_B : ∀ {ds : List PyData} {ks : List Key}, keyL ds = some ks → ds = ks.map keyB
  | [], ks, h => by cases h; rfl
  | d :: ds, ks, h => by
    unfold keyL at h
    cases e1 : keyA d with
    | none => rw [e1] at h; cases h
    | some k =>
      cases e2 : keyL ds with
      | none => rw [e1, e2] at h; cases h
      | some ks' =>
        rw [e1, e2] at h
        cases h
        rw [List.map_cons, ← keyB_A e1, ← keyL_B e2]
theorem keyD_U {d : PyData} {ks : List Key} (h : keyD d = some ks) : d = keyU ks := by
  cases d with
  | tuple ds => unfold keyU; rw [← keyL_B h]
  | _ => cases h
theorem keyU_D (ks : List Key) : keyD (keyU ks) = some ks := by
  show keyL (ks.map keyB) = some ks
  induction ks with
  | nil => rfl
  | cons k ks ih =>
    rw [List.map_cons]
    unfold keyL
    rw [ih]
    cases k <;> rfl
theorem dpU {K : PySem.W.Frag} {H : Hp} {b : Addr} {ks : List Key} (h : H b = some (.tup (ks.map kV))) : Dp K H (.ref b) (keyU ks) := by
  refine .tup (.inl (.inl h)) ?_
  clear h
  induction ks with
  | nil => exact .nil
  | cons k ks ih =>
    rw [List.map_cons, List.map_cons]
    refine .cons ?_ ih
    cases k with
    | inl i => exact .int i
    | inr x => exact .str x
theorem readsB {h : Heap} {u : Value} {k : Key} {as : List Addr} (r : Reads h u (keyB k) as) : as = [] := by
  cases k with
  | inl i => cases r; rfl
  | inr x => cases r; rfl
theorem readsBs {h : Heap} : ∀ {ks : List Key} {us : List Value} {as : List Addr}, ReadsAll h us (ks.map keyB) as → as = []
  | [], _, _, r => by rw [List.map_nil] at r; cases r; rfl
  | k :: ks, _, _, r => by
    rw [List.map_cons] at r
    cases r with
    | cons h1 h2 => rw [readsB h1, readsBs h2]; rfl
theorem readsU {h : Heap} {u : Value} {ks : List Key} {as : List Addr} (r : Reads h u (keyU ks) as) : as = [] := by
  cases r with
  | tuple _ _ _ h4 => exact readsBs h4
def keysU {α : Type} (kvs : List (List Key × α)) : List PyData := kvs.map fun p => keyU p.1
/-! ### the keys of a dict are gathered; the heap has grown -/
section
variable {prog : Program} {w : World} {A : Around} {E : Value → Shared → Prop} {s : Shared} {T : String} {r d : Addr} {n : Nat} {Pv : Nat → Value → Prop} {Oh : Heap → Prop}
theorem gatherT {R : List Value → Shared → Prop} (src : PySem.W.KdlSrc prog w T r d n Pv Oh) (free : A.handled = none) (now : Oh s.heap) (few : n ≤ sizeLine)
    (next : ∀ (g : Heap) (c : Nat) (got : Array Value), (∀ b u, s.heap.get? b = some u → g.get? b = some u) → s.heap.objs.size < g.objs.size → ItemsOf Pv got n → R got.toList { s with heap := g, toks := c }) :
    wpAny (model prog w) A (collect (.ref r)) R E s := by
  have below := src.there _ now
  have base : (s.heap.push (seqObj "list" #[] 0)).get? s.heap.objs.size = some (seqObj "list" #[] 0) := Heap.get?_push_size _ rfl
  have fill := PySem.W.kdl_extend (A := A) (s := { s with heap := s.heap.push (seqObj "list" #[] 0) })
    (R := fun (q : Result) (t : Shared) => ∃ (g : Heap) (c : Nat) (got : Array Value) (e : Nat), (q = .ok (.ret (.ref s.heap.objs.size)) ∧ t = { s with heap := g, toks := c }) ∧
      (∀ b u, s.heap.get? b = some u → g.get? b = some u) ∧ (g.get? s.heap.objs.size = some (seqObj "list" got e) ∧ ItemsOf Pv got n))
    src free (src.keep _ _ now fun b _ u z => Heap.get?_push_of_some _ z) s.heap.objs.size (Nat.ne_of_gt below.1) (Nat.ne_of_gt below.2) (.ref s.heap.objs.size) 0 base
    (fun g c got e kept there all => ⟨g, c, got, e, ⟨rfl, rfl⟩, fun b u z => kept b u (Nat.ne_of_lt (Heap.lt_size z)) (Heap.get?_push_of_some _ z), there, all⟩) few
  unfold collect
  refine wpAny_bind (wpAny_runValue (codeAny_builtin entry_proto_collect' ?_))
  rw [PySem.Around.under_plainId PySem.F.plain_proto_collect _]
  refine wpAny_bind (m := newList []) (wpAny_newObj_type (wpAny_pure ⟨plainId_quiet PySem.F.plain_list_iadd _, codeAny_builtin entry_list_iadd' ?_⟩))
  rw [PySem.Around.under_plainId PySem.F.plain_list_iadd _]
  refine wpAny_mono (show wpAny _ A.in1 (Builtin.«list.__iadd__» { pos := [Value.ref s.heap.objs.size, Value.ref r] }) _ _ _ from fill) (fun fin t x => ?_) fun _ _ x => ?_
  · cases fin with
    | done f =>
      obtain ⟨g, c, got, e, ⟨q1, rfl⟩, kept, there, all⟩ := x
      cases q1
      exact wpAny_bind (m := load s.heap.objs.size) (wpAny_load there (wpAny_pure (next g c got kept (Heap.lt_size there) all)))
    | again c1 =>
      refine ⟨x.1, codeAny_mono x.2 fun q t y => ?_⟩
      obtain ⟨g, c, got, e, ⟨rfl, rfl⟩, kept, there, all⟩ := y
      exact wpAny_bind (m := load s.heap.objs.size) (wpAny_load there (wpAny_pure (next g c got kept (Heap.lt_size there) all)))
  · obtain ⟨_, _, _, _, ⟨z, _⟩, _⟩ := x
    cases z
end
/-- sorted of a dict with tuple keys -/
def rSortT : List V → Hp → VK → Prop := fun vs H Q => ∃ (d : Addr) (kvs : List (List Key × V)), vs = [V.ref d] ∧ Rd H d (.dT kvs) ∧ PySem.W.AllAlike (keysU kvs) ∧ PySem.W.Sortable (keysU kvs) ∧ (∀ d ∈ keysU kvs, d.depth ≤ 60) ∧
  ∀ (ys : List V) (p : Addr), Paired (fun v d => ∃ (b : Addr) (ks : List Key), v = .ref b ∧ d = keyU ks ∧ H b = some (.tup (ks.map kV))) ys ((keysU kvs).mergeSort (PySem.W.dataLe false id)) → H p = none → Q (.ref p) (upd H p (.lst ys))
theorem cr_sortT {X : Cx} (hc : X.calm = true) (hu : X.A.units + 64 < cLine) : CallR X (.builtin "sorted") rSortT := by
  intro pins s σ H vs us Q I r h
  obtain ⟨d, kvs, rfl, hd, hal, hso, hde, q⟩ := h
  rw [Vals.ref1 r]
  obtain ⟨z, hs, ks, pr, o, es, ep, ho, hx, hdt, he, hn⟩ := (show ObjOk X.prog X.w H s.heap d (.dT kvs) from hd.ok I.hok)
  have l1 : es.size = ks.length := size_of_entries he
  have l2 : kvs.length = ks.length := Paired.length pr
  have hz : es.size ≤ sizeLine := by omega
  refine Calls.call_function_entry kind_sorted plain_sorted entry_sorted (args_sorted1 _) ?_
  unfold Builtin.«sorted»
  refine wpAny_bind (m := checkCount "sorted" 1 1 _) (wpAny_pure ?_)
  refine wpAny_bind (gatherT (A := X.A.in1) (kdl_raw hs hx hdt) (I.ok.hd hc) ho hz fun h' tk acc hk hgt hacc => ?_)
  have ea : acc.toList = ks.map fun x => Value.ref x.2.1 := by
    refine List.ext_getElem? fun j => ?_
    rw [List.getElem?_map, Array.getElem?_toList]
    rcases Nat.lt_or_ge j es.size with hj | hj
    · have hj' : j < acc.size := by rw [hacc.1]; exact hj
      obtain ⟨en, hen, hv⟩ := hacc.2 j acc[j] (Array.getElem?_eq_getElem hj')
      have at_ := entry_at he j
      rw [hen, List.getElem?_eq_getElem (by omega : j < ks.length)] at at_
      rw [Array.getElem?_eq_getElem hj', List.getElem?_eq_getElem (by omega : j < ks.length), hv, Option.some.inj at_]
      rfl
    · rw [Array.getElem?_eq_none (by rw [hacc.1]; exact hj), List.getElem?_eq_none (by omega)]
      rfl
  have hlen : acc.toList.length = kvs.length := by rw [ea, List.length_map, l2]
  -- the keys' values and what they are
  have rel : ∀ {kvs : List (List Key × V)} {ks : List (List Key × Addr × Value)}, KT H kvs ks → Paired (fun v d => ∃ (b : Addr) (ks : List Key), v = .ref b ∧ d = keyU ks ∧ H b = some (.tup (ks.map kV))) (ks.map fun x => V.ref x.2.1) (keysU kvs) ∧ DpAll X.K H (ks.map fun x => V.ref x.2.1) (keysU kvs) ∧ Vals (ks.map fun x => V.ref x.2.1) (ks.map fun x => Value.ref x.2.1) := by
    intro kvs ks r
    induction r with
    | nil => exact ⟨.nil, .nil, .nil⟩
    | @cons p q ps qs h t ih =>
      obtain ⟨i1, i2, i3⟩ := ih
      exact ⟨.cons ⟨q.2.1, p.1, rfl, rfl, h.2.1⟩ i1, .cons (dpU h.2.1) i2, .cons rfl i3⟩
  obtain ⟨r1, r2, r3⟩ := rel pr
  rw [← ea] at r3
  have er0 := each_reads I r3 r2
  have hD : (h'.push { cls := .type "list", data := .seq acc.toList.toArray }).get? h'.objs.size = some (seqObj "list" acc.toList.toArray 0) := Heap.get?_push_size _ rfl
  have kp : ∀ b o, s.heap.get? b = some o → (h'.push { cls := .type "list", data := .seq acc.toList.toArray }).get? b = some o := fun b o e => Heap.get?_push_of_some _ (hk b o e)
  refine wpAny_bind (wpAny_newList ?_ (by rw [hlen]; exact z))
  have er : PySem.W.EachIs (fun v d => ∃ as, Reads (h'.push { cls := .type "list", data := .seq acc.toList.toArray }) v (id d) as ∧ h'.objs.size ∉ as) acc.toList (keysU kvs) := by
    have gen : ∀ {us : List Value} {ds : List PyData}, (∀ d ∈ ds, ∃ ks, d = keyU ks) → PySem.W.EachIs (fun u d => ∃ as, Reads s.heap u (id d) as) us ds → PySem.W.EachIs (fun v d => ∃ as, Reads (h'.push { cls := .type "list", data := .seq acc.toList.toArray }) v (id d) as ∧ h'.objs.size ∉ as) us ds := by
      intro us ds hds e
      induction e with
      | nil => exact .nil
      | @cons u d us ds a t ih =>
        obtain ⟨as, ra⟩ := a
        obtain ⟨ks, rfl⟩ := hds d List.mem_cons_self
        refine .cons ⟨as, PyProof.Rows.Reads.keeps (fun b o => kp b o) ra, ?_⟩ (ih fun d hd => hds d (List.mem_cons_of_mem _ hd))
        rw [readsU ra]; exact List.not_mem_nil
    refine gen (fun d hd => ?_) er0
    unfold keysU at hd
    obtain ⟨p, _, rfl⟩ := List.mem_map.mp hd
    exact ⟨_, rfl⟩
  refine wpAny_bind (wpAny_holding (PySem.W.list_sort_data (bs := keysU kvs) (enc := id) (s := { s with heap := h'.push { cls := .type "list", data := .seq acc.toList.toArray }, toks := tk }) hD (each_of r3 r1) er (by rw [List.map_id]; exact hal) (by rw [List.map_id]; exact hso) (by unfold keysU; rw [List.length_map]; exact z) (fun d hd => ?_) fun out h1 h2 => ?_))
  · have := hde d hd
    show X.A.units + 1 + 1 + d.depth < cLine
    omega
  · refine wpAny_pure ⟨_, rfl, ?_⟩
    obtain ⟨ys, hy, hyr⟩ := each_back h2
    obtain ⟨ep', he'⟩ := sortedHeap_at (out := out.toArray) hD
    have hlt : s.heap.objs.size ≤ h'.objs.size := Nat.le_of_lt hgt
    have hle : ys.length ≤ sizeLine := by rw [hy.length, h1]; unfold keysU; rw [List.length_map]; exact z
    refine ⟨.ref h'.objs.size, upd H h'.objs.size (.lst ys), I.laid (t' := tk) (fun b ob e => ?_) hlt ⟨hle, out, ep', hy, he'⟩, rfl, q ys _ hyr (I.hok.fresh hlt)⟩
    have hb := Heap.lt_size (hk b ob e)
    rw [sortedHeap_old (Nat.ne_of_lt hb) (by rw [size_push']; exact Nat.lt_succ_of_lt hb)]
    exact kp b ob e
/-- no owned object is a tuple of plain values -/
theorem no_tup {K : PySem.W.Frag} {M : List Addr} {H : Hp} {S : Sto} (s : StoreOk K M H S) {a : Addr} {xs : List V} (h : H a = some (.tup xs)) (hx : ∀ b, V.ref b ∉ xs) : a ∉ M := fun hm => by
  obtain ⟨n, hn⟩ := List.getElem?_of_mem hm
  obtain ⟨hl, _⟩ := List.getElem?_eq_some_iff.mp hn
  have hl' : n < S.length := by rw [← s.len]; exact hl
  have q := s.rep n a S[n] hn (List.getElem?_eq_getElem hl')
  revert q
  cases S[n] with
  | lst xs => rintro ⟨vs, e, _⟩; rw [h] at e; cases e
  | dT xs => rintro ⟨vs, e, _⟩; rw [h] at e; cases e
  | dK xs => rintro ⟨vs, e, _⟩; rw [h] at e; cases e
  | ins C fs => rintro ⟨dx, vs, e, _⟩; rw [h] at e; cases e
  | tup ys => rintro ⟨vs, e, _, b, hb⟩; rw [h] at e; cases e; exact hx b hb
  | lkT od ps kvs => rintro ⟨e, _⟩; rw [h] at e; cases e
  | lkK od ps kvs => rintro ⟨e, _⟩; rw [h] at e; cases e
  | tbl P q => rintro ⟨_, ps, e, _⟩; rw [h] at e; cases e
  | tblN P nm => rintro ⟨_, ps, e, _⟩; rw [h] at e; cases e
  | fn F cap => rintro ⟨e, _⟩; rw [h] at e; cases e
  | gone => rintro ⟨o, e, z⟩; rw [h] at e; cases e; exact z _ rfl
theorem fzU {M : List Addr} {H : Hp} {b : Addr} {ks : List Key} (h : H b = some (.tup (ks.map kV))) (hb : b ∉ M) : Fz M H (.ref b) (keyU ks) := by
  refine .tup ⟨h, hb⟩ ?_
  clear h
  induction ks with
  | nil => exact .nil
  | cons k ks ih =>
    rw [List.map_cons, List.map_cons]
    refine .cons ?_ ih
    cases k with
    | inl i => exact .int i
    | inr x => exact .str x
theorem prep_keys {K : PySem.W.Frag} {M : List Addr} {H : Hp} : ∀ {ps : List (List Key × V)} {kvs : List (List Key × It)}, PRep K M H ps kvs → keysU ps = keysU kvs
  | _, _, .nil => rfl
  | _, _, .cons h t => by
    unfold keysU
    rw [List.map_cons, List.map_cons, h.1]
    exact congrArg (_ :: ·) (prep_keys t)
section
variable {X : Cx} {W : WX} {k j : Nat} {G G1 G2 : Gam} {S S1 S2 S3 : Sto} {e a b o : Expr} {pos pos' p : Pos} {i : Nat} {kvs : List (List Key × It)}
theorem fz_rel {K : PySem.W.Frag} {M : List Addr} {H : Hp} {S : Sto} (s : StoreOk K M H S) : ∀ {ys : List V} {ds : List PyData}, Paired (fun v d => ∃ (b : Addr) (ks : List Key), v = .ref b ∧ d = keyU ks ∧ H b = some (.tup (ks.map kV))) ys ds → FzAll M H ys ds
  | _, _, .nil => .nil
  | _, _, .cons h t => by
    obtain ⟨b, ks, rfl, rfl, hb⟩ := h
    exact .cons (fzU hb (no_tup s hb fun b' hm => by obtain ⟨k, _, e⟩ := List.mem_map.mp hm; cases k <;> cases e)) (fz_rel s t)
/-- sorted(d), a list that stays as it is -/
theorem ev_sortedT (c : Cxo X W k) (hm : X.mg "sorted" = none) (ha : Ev X a G S (.o i) S1) (hi : S1[i]? = some (.dT kvs)) (hal : PySem.W.AllAlike (keysU kvs)) (hso : PySem.W.Sortable (keysU kvs)) (hde : ∀ d ∈ keysU kvs, d.depth ≤ 60) (hg : Gl X "sorted" := by rfl) (he : starEach [a] X.env = (false, eval a X.env) :: starEach [] X.env := by rfl) : Ev X (.Call (.Name "sorted" p) [a] [] pos) G S (.d (.list (sortD (keysU kvs)))) S1 :=
  ev_blt (cr_sortT c.calm c.hr.units) hm (by decide +kernel) (eva_cons ha eva_nil he) (fun M H vs Q s hvs q => by
    obtain ⟨v, rfl, hv⟩ := vr1 hvs
    obtain ⟨ad, ps, rfl, _, h1, h2⟩ := dT_at s hv hi
    have ek := prep_keys h2
    refine ⟨ad, ps, rfl, .inl h1, by rw [ek]; exact hal, by rw [ek]; exact hso, by rw [ek]; exact hde, fun ys p hp hn => ?_⟩
    rw [ek] at hp
    exact q _ M _ (Ext.fresh hn) (s.fresh hn) (Fz.lst ⟨.inl upd_same, s.nin hn⟩ (FzAll.ext (Ext.fresh hn) (fz_rel s hp)))) hg (by decide) (by decide) he rfl
/-- sorted(d), owned -/
theorem ev_sortedTN (c : Cxo X W k) (hm : X.mg "sorted" = none) (ha : Ev X a G S (.o i) S1) (hi : S1[i]? = some (.dT kvs)) (hal : PySem.W.AllAlike (keysU kvs)) (hso : PySem.W.Sortable (keysU kvs)) (hde : ∀ d ∈ keysU kvs, d.depth ≤ 60) (hg : Gl X "sorted" := by rfl) (he : starEach [a] X.env = (false, eval a X.env) :: starEach [] X.env := by rfl) : Ev X (.Call (.Name "sorted" p) [a] [] pos) G S (.o S1.length) (S1 ++ [.lst ((sortD (keysU kvs)).map .d)]) :=
  ev_blt (cr_sortT c.calm c.hr.units) hm (by decide +kernel) (eva_cons ha eva_nil he) (fun M H vs Q s hvs q => by
    obtain ⟨v, rfl, hv⟩ := vr1 hvs
    obtain ⟨ad, ps, rfl, _, h1, h2⟩ := dT_at s hv hi
    have ek := prep_keys h2
    refine ⟨ad, ps, rfl, .inl h1, by rw [ek]; exact hal, by rw [ek]; exact hso, by rw [ek]; exact hde, fun ys p hp hn => ?_⟩
    rw [ek] at hp
    have e2 : Ext M H (M ++ [p]) (upd H p (.lst ys)) := Ext.own hn
    exact q _ _ _ e2 (s.own (w := .lst ((sortD (keysU kvs)).map .d)) hn ⟨ys, upd_same, VReps.ext e2 (fz_reps (fz_rel s hp))⟩) ⟨p, by rw [← s.len, List.getElem?_append_right (Nat.le_refl _), Nat.sub_self]; rfl, rfl⟩) hg (by decide) (by decide) he rfl
end
end Cu
/-! CuU: a built-in of one argument that may raise, or whose answer is not told exactly. -/
namespace Cu
open PySem PySem.Spec PyProof.Rows L2
section
variable {X : Cx} {W : WX} {k j : Nat} {G G1 G2 : Gam} {S S1 S2 S3 : Sto} {e a b o : Expr} {pos pos' p : Pos} {i : Nat} {kvs : List (List Key × It)} {Qr Qr0 : It → Sto → Prop} {Qx : Addr → Sto → Prop}
theorem evx_blt {id : String} {nm : Str} {rr : List V → Hp → VK → Prop} (ho : CallR X (.builtin id) rr) (hm : X.mg nm = none) (hv : bootBuiltins nm = some (.builtin id)) (h : EvX X W a G S Qr0 Qx) (hr : ∀ r S', Qr0 r S' → ∃ z S2, RWC X rr [r] S' z S2 ∧ Qr z S2) (hg : Gl X nm := by rfl) (hn : nm ≠ "__name__" := by decide) (hdb : (nm == ("__debug__" : Str)) = false := by decide)
    (he : starEach [a] X.env = (false, eval a X.env) :: starEach [] X.env := by rfl) : EvX X W (.Call (.Name nm p) [a] [] pos) G S Qr Qx := fun M σ H Q s h1 h2 =>
  toE (pe_callB ho hg hm hv (pa_cons pe_s pa_nil he) hn hdb he rfl) (h M σ H _ s (fun v M1 H1 r S' e1 s1 r1 q1 => by
    obtain ⟨z, S2, hR, q2⟩ := hr r S' q1
    exact hR M1 H1 [v] _ s1.sto (.cons r1 .nil) fun w M2 H2 e2 s2 r2 => h1 w M2 H2 z S2 (e1.trans e2) (s1.mono e2 s2) r2 q2) h2)
theorem rwc_sortT (hi : S[i]? = some (.dT kvs)) (hal : PySem.W.AllAlike (keysU kvs)) (hso : PySem.W.Sortable (keysU kvs)) (hde : ∀ d ∈ keysU kvs, d.depth ≤ 60) : RWC X rSortT [.o i] S (.d (.list (sortD (keysU kvs)))) S := fun M H vs Q s hvs q => by
  obtain ⟨v, rfl, hv⟩ := vr1 hvs
  obtain ⟨ad, ps, rfl, _, h1, h2⟩ := dT_at s hv hi
  have ek := prep_keys h2
  refine ⟨ad, ps, rfl, .inl h1, by rw [ek]; exact hal, by rw [ek]; exact hso, by rw [ek]; exact hde, fun ys p hp hn => ?_⟩
  rw [ek] at hp
  exact q _ M _ (Ext.fresh hn) (s.fresh hn) (Fz.lst ⟨.inl upd_same, s.nin hn⟩ (FzAll.ext (Ext.fresh hn) (fz_rel s hp)))
theorem rwc_sortTN (hi : S[i]? = some (.dT kvs)) (hal : PySem.W.AllAlike (keysU kvs)) (hso : PySem.W.Sortable (keysU kvs)) (hde : ∀ d ∈ keysU kvs, d.depth ≤ 60) : RWC X rSortT [.o i] S (.o S.length) (S ++ [.lst ((sortD (keysU kvs)).map .d)]) := fun M H vs Q s hvs q => by
  obtain ⟨v, rfl, hv⟩ := vr1 hvs
  obtain ⟨ad, ps, rfl, _, h1, h2⟩ := dT_at s hv hi
  have ek := prep_keys h2
  refine ⟨ad, ps, rfl, .inl h1, by rw [ek]; exact hal, by rw [ek]; exact hso, by rw [ek]; exact hde, fun ys p hp hn => ?_⟩
  rw [ek] at hp
  have e2 : Ext M H (M ++ [p]) (upd H p (.lst ys)) := Ext.own hn
  exact q _ _ _ e2 (s.own (w := .lst ((sortD (keysU kvs)).map .d)) hn ⟨ys, upd_same, VReps.ext e2 (fz_reps (fz_rel s hp))⟩) ⟨p, by rw [← s.len, List.getElem?_append_right (Nat.le_refl _), Nat.sub_self]; rfl, rfl⟩
/-! ### what stands for a datum, by owned lists -/
mutual
theorem Den.dp {K : PySem.W.Frag} {M : List Addr} {H : Hp} {S : Sto} {n : Nat} (s : StoreOk K M H S) : ∀ {x : PyData} {r : It} {v : V}, Den n S r x → VRep K M H v r → Dp K H v x
  | .none, _, _, h, q => by cases h with | d => exact Fz.dp q
  | .bool _, _, _, h, q => by cases h with | d => exact Fz.dp q
  | .int _, _, _, h, q => by cases h with | d => exact Fz.dp q
  | .str _, _, _, h, q => by cases h with | d => exact Fz.dp q
  | .tuple _, _, _, h, q => by cases h with | d => exact Fz.dp q
  | .dict _, _, _, h, q => by cases h with | d => exact Fz.dp q
  | .list ds, _, _, h, q => by
    cases h with
    | d => exact Fz.dp q
    | l h1 h2 h3 =>
      obtain ⟨a, ha, rfl⟩ := q
      obtain ⟨vs, e1, e2⟩ := s.rep _ a _ ha h2
      exact .lst (.inl (.inl e1)) (DenAll.dp s h3 e2)
theorem DenAll.dp {K : PySem.W.Frag} {M : List Addr} {H : Hp} {S : Sto} {n : Nat} (s : StoreOk K M H S) : ∀ {xs : List PyData} {rs : List It} {vs : List V}, DenAll n S rs xs → VReps K M H vs rs → DpAll K H vs xs
  | [], _, _, h, q => by
    cases h
    cases q
    exact .nil
  | x :: xs, _, _, h, q => by
    cases h with
    | cons h1 h2 =>
      cases q with
      | cons q1 q2 => exact .cons (Den.dp s h1 q1) (DenAll.dp s h2 q2)
end
variable {r r' : It} {x y : PyData} {n n' : Nat} {ds : List PyData}
theorem evt_neDen (c : Cxo X W k) (ha : Ev X a G S r S1) (hb : Ev X b G S1 r' S2) (hr : Den n S2 r x) (hr' : Den n' S2 r' y) (hx : SeqAt.shaped x = true) (hy : SeqAt.shaped y = true) : EvT X (.Compare a [.NotEq] [b] pos) G S (!PyData.eqv x y) S2 := evt_cmp (op_neD c.hr.units) ha hb (fun M H v u Q s hv hu q => ⟨x, y, Den.dp s hr hv, Den.dp s hr' hu, hx, hy, q _ M H Ext.refl s (Fz.bl _)⟩)
theorem evt_eqDen (c : Cxo X W k) (ha : Ev X a G S r S1) (hb : Ev X b G S1 r' S2) (hr : Den n S2 r x) (hr' : Den n' S2 r' y) (hx : SeqAt.shaped x = true) (hy : SeqAt.shaped y = true) : EvT X (.Compare a [.Eq] [b] pos) G S (PyData.eqv x y) S2 := evt_cmp (op_eqD c.hr.units) ha hb (fun M H v u Q s hv hu q => ⟨x, y, Den.dp s hr hv, Den.dp s hr' hu, hx, hy, q _ M H Ext.refl s (Fz.bl _)⟩)
theorem evt_notinDen (c : Cxo X W k) (ha : Ev X a G S r S1) (hb : Ev X b G S1 r' S2) (hr : Den n S2 r x) (hr' : Den n' S2 r' (.list ds)) (hx : SeqAt.shaped x = true) (hd : SeqAt.shaped (.list ds) = true) (hm : behindInMarks .NotIn b = false := by rfl) : EvT X (.Compare a [.NotIn] [b] pos) G S (!ds.any fun z => PyData.eqv z x) S2 := evt_cmp (op_notInD (by have := c.hr.un; omega)) ha hb (fun M H v u Q s hv hw q => ⟨_, _, Den.dp s hr hv, Den.dp s hr' hw, hx, hd, q _ M H Ext.refl s (Fz.bl _)⟩) hm
/-- xs.append(e), e may raise -/
theorem evx_append {apos cpos : Pos} {xs : List It} (ho : Ev X o G S (.o i) S1) (hi : S1[i]? = some (.lst xs)) (ha : EvX X W e G S1 Qr0 Qx) (hq : ∀ r S2, Qr0 r S2 → S2[i]? = some (.lst xs) ∧ xs.length < 1000000 ∧ Qr (.d .none) (S2.set i (.lst (xs ++ [r])))) (hbase : attributeBase o "append" X.env (eval o X.env) = eval o X.env := by rfl)
    (hfew : ((backTo cpos (starEach [e] X.env)).all (fun x => !x.1) && (backToKw cpos (keywordEach [] X.env)).all (fun x => x.1.isSome) && decide ([e].length + ([] : List Keyword).length + (if ([] : List Keyword).isEmpty then 0 else 1) < 30)) = true := by rfl)
    (hline : (apos.endLine == cpos.line) = true := by rfl) (hs : starEach [e] X.env = (false, eval e X.env) :: starEach [] X.env := by rfl) : EvX X W (.Call (.Attribute o "append" apos) [e] [] cpos) G S Qr Qx := fun M σ H Q s h1 h2 =>
  toE (pe_bm PySem.F.plainAttrs_list PySem.F.slot_list_append PySem.F.type_list_append mt_append pe_s (pa_cons pe_s pa_nil hs) hbase hfew hline hs rfl) (ho M σ H _ s fun v M1 H1 e1 t1 r1 => ⟨ty_own hi M1 H1 v t1.sto r1, ha M1 σ H1 _ t1 (fun u M2 H2 r S2 e2 t2 r2 q2 => by
    obtain ⟨hi2, hz, q3⟩ := hq r S2 q2
    obtain ⟨ad, had, rfl⟩ := VRep.ext e2 r1
    obtain ⟨ws, e3, e4⟩ := t2.sto.rep i ad _ had hi2
    have e5 : Ext M2 H2 M2 (upd H2 ad (.lst (ws ++ [u]))) := Ext.put (List.mem_of_getElem? had)
    have s5 := t2.sto.put (w := .lst (xs ++ [r])) had ⟨_, upd_same, VReps.append (VReps.ext e5 e4) (.cons (r2.ext e5) .nil)⟩
    exact ⟨ad, ws, u, rfl, rfl, e3, by rw [e4.len, sizeLine_eq]; omega, h1 .non M2 _ (.d .none) _ ((e1.trans e2).trans e5) (t2.mono e5 s5) Fz.non q3⟩) fun M' H' C S' e3 t3 q => h2 M' H' C S' (e1.trans e3) t3 q⟩)
end
end Cu
/-! CuV: xs.clear(). -/
namespace Cu
open PySem PySem.Spec PyProof.Rows L2
section
variable {X : Cx} {G : Gam} {S S1 : Sto} {o : Expr} {apos cpos : Pos}
theorem ev_clear {i : Nat} {xs : List It} (ho : Ev X o G S (.o i) S1) (hi : S1[i]? = some (.lst xs)) (hbase : attributeBase o "clear" X.env (eval o X.env) = eval o X.env := by rfl) (hline : (apos.endLine == cpos.line) = true := by rfl) : Ev X (.Call (.Attribute o "clear" apos) [] [] cpos) G S (.d .none) (S1.set i (.lst [])) :=
  ev_bm0 PySem.F.plainAttrs_list PySem.F.slot_list_clear PySem.F.type_list_clear mt_clear ho (ty_own hi) (fun M H v vs Q s hv hvs q => by
    cases hvs
    obtain ⟨ad, had, rfl⟩ := hv
    obtain ⟨ws, e1, e2⟩ := s.rep i ad _ had hi
    have e3 : Ext M H M (upd H ad (.lst [])) := Ext.put (List.mem_of_getElem? had)
    exact ⟨ad, ws, rfl, rfl, e1, q .non M _ e3 (s.put (w := .lst []) had ⟨_, upd_same, .nil⟩) Fz.non⟩) hbase hline
end
end Cu
/-! CuW: list(reversed(xs)). -/
namespace Cu
open PySem PySem.Spec PyProof.Rows L2
section
variable {prog : Program} {w : World} {A : Around} {E : Value → Shared → Prop} {s : Shared} {it l S : Addr} {src : Array Value} {res : Value}
/-- an empty list takes what a reversed one yields -/
theorem revInto {R : Result → Shared → Prop} {e0 : Nat} (free : A.handled = none) (run : s.heap.IsRevIter it l ((src.size : Int) - 1)) (lst : s.heap.IsList l src) (apart : l ≠ it) (few : src.size ≤ sizeLine) (base : s.heap.get? S = some (seqObj "list" #[] e0)) (n1 : S ≠ it) (n2 : S ≠ l)
    (next : ∀ (g : Heap) (c : Nat) (got : Array Value) (e : Nat), (∀ b u, b ≠ S → b ≠ it → s.heap.get? b = some u → g.get? b = some u) → g.get? S = some (seqObj "list" got e) → ItemsOf (fun j v => src[src.size - 1 - j]? = some v) got src.size → R (.ok (.ret res)) { s with heap := g, toks := c }) :
    wpAny (model prog w) A.in1 (Builtin.List.listExtendWith (.ref S) (.ref it) res)
      (fun fin t => match fin with
        | .done f => R (.ok f) t
        | .again c => c.quiet = true ∧ codeAny (model prog w) A c R t) (fun e t => R (.error e) t) s := by
  have walk := (Walks.listRev (prog := prog) (w := w) (A := A.in1) free it l apart src).toS
  have ty := run.typeIs
  have off : S ∉ [it, l] := fun z => by
    rcases List.mem_cons.mp z with z | z
    · exact n1 z
    · exact n2 (List.mem_singleton.mp z)
  have diff : Builtin.List.listSameRef (.ref S) (.ref it) = false := by simp [Builtin.List.listSameRef, n1]
  unfold Builtin.List.listExtendWith
  refine wpAny_bind (wpAny_typeOf ty ?_)
  rw [if_neg (by rw [diff]; decide)]
  refine wpAny_bind (wpAny_pyIter_revIter run ?_)
  refine wpAny_bind (wpAny_holding ?_)
  unfold Builtin.List.listLengthHint
  refine wpAny_bind (wpAny_specialOf ty RT.nolen_lri ?_)
  refine wpAny_bind (m := specialOf (Value.ref it) (Str.ofString "__length_hint__")) (wpAny_specialOf ty RT.hint_lri ?_)
  generalize same : ("list_reverseiterator.__length_hint__" : String) = nm
  wp_delta
  rw [show splitId nm = some ("list_reverseiterator", "__length_hint__") from by rw [← same]; decide +kernel]
  subst same
  refine wpAny_bind (wpAny_isInstance (b := true) ty (by rw [isSubtype_type]; kernel_rfl) (wpAny_pure ?_))
  rw [if_neg (by decide)]
  refine wpAny_pure ⟨plainId_quiet PySem.F.plain_extend_loop _, codeAny_extend_loopS walk few _ off _ src.size 0 _ _ _ rfl (Nat.zero_le _) ⟨Nat.zero_le _, by rw [show ((src.size : Nat) : Int) - 1 - ((0 : Nat) : Int) = (src.size : Int) - 1 by omega]; exact run, lst⟩ base (ItemsOf.nil _) fun t got e mv there all => ?_⟩
  rw [Moved.eq_with mv]
  refine next t.heap t.toks got e (fun b u b1 b2 z => mv.heap b u (fun mem => ?_) z) there all
  rcases List.mem_cons.mp mem with q | q
  · exact b1 q
  · exact b2 (List.mem_singleton.mp q)
/-- list(it), it reversed(l) -/
theorem call_list_rev {Q : Value → Shared → Prop} (free : A.handled = none) (run : s.heap.IsRevIter it l ((src.size : Int) - 1)) (lst : s.heap.IsList l src) (apart : l ≠ it) (few : src.size ≤ sizeLine)
    (next : ∀ (g : Heap) (c : Nat) (got : Array Value) (e : Nat), (∀ b u, b ≠ it → s.heap.get? b = some u → g.get? b = some u) → g.get? s.heap.objs.size = some (seqObj "list" got e) → ItemsOf (fun j v => src[src.size - 1 - j]? = some v) got src.size → Q (.ref s.heap.objs.size) { s with heap := g, toks := c }) :
    wpAny (model prog w) A (call (.type "list") [.ref it]) Q E s := by
  have s1 : (s.heap.push (seqObj "list" #[] 0)).get? s.heap.objs.size = some (seqObj "list" #[] 0) := Heap.get?_push_size _ rfl
  have new1 : s.heap.objs.size ≠ it := by obtain ⟨o, ho, _⟩ := id run; exact Nat.ne_of_gt (Heap.lt_size ho)
  have new2 : s.heap.objs.size ≠ l := by obtain ⟨o, ho, _⟩ := id lst; exact Nat.ne_of_gt (Heap.lt_size ho)
  refine callType_codes (Q₁ := fun ob t => ob = .ref s.heap.objs.size ∧ t = { s with heap := s.heap.push (seqObj "list" #[] 0) }) PySem.F.called_list (PySem.F.typeCall_list_1 _) PySem.F.entry_list_init (code_list_new _ ⟨rfl, rfl⟩) ?_
  rintro _ _ ⟨rfl, rfl⟩
  refine ⟨⟨_, s1, rfl⟩, PySem.F.args_list_init_2 _ _, ?_⟩
  have up1 : ∀ b u, s.heap.get? b = some u → (s.heap.push (seqObj "list" #[] 0)).get? b = some u := fun b u z => Heap.get?_push_of_some _ z
  show wpAny _ _ (Builtin.List.listItems (.ref s.heap.objs.size) >>= fun old => Builtin.List.listUpdate (.ref s.heap.objs.size) (fun _ => #[]) >>= fun _ => letGo old.toList.reverse >>= fun _ => Builtin.List.listExtendWith (.ref s.heap.objs.size) (.ref it) .none) _ _ _
  refine wpAny_bind ?_
  unfold Builtin.List.listItems
  refine wpAny_bind (wpAny_seqItems s1 rfl (wpAny_pure (wpAny_bind (m := updateSeq s.heap.objs.size (fun _ => #[])) (wpAny_updateSeq s1 rfl (wpAny_bind (wpAny_letGo ?_))))))
  have s2 := Heap.get?_update_self (Obj.mapSeq (fun _ => (#[] : Array Value))) s1 rfl
  have up2 : ∀ b u, b ≠ s.heap.objs.size → s.heap.get? b = some u → ((s.heap.push (seqObj "list" #[] 0)).update s.heap.objs.size (Obj.mapSeq (fun _ => (#[] : Array Value)))).get? b = some u := fun b u nb z =>
    (Heap.get?_update_other _ _ (Ne.symm nb)).trans (up1 b u z)
  have run2 : ((s.heap.push (seqObj "list" #[] 0)).update s.heap.objs.size (Obj.mapSeq (fun _ => (#[] : Array Value)))).IsRevIter it l ((src.size : Int) - 1) := run.at fun o z => up2 it o new1.symm z
  have lst2 : ((s.heap.push (seqObj "list" #[] 0)).update s.heap.objs.size (Obj.mapSeq (fun _ => (#[] : Array Value)))).IsList l src := by
    obtain ⟨o, ho, h2⟩ := id lst
    exact ⟨o, up2 l o new2.symm ho, h2⟩
  refine revInto (A := A.in1) (s := { s with heap := (s.heap.push (seqObj "list" #[] 0)).update s.heap.objs.size (Obj.mapSeq (fun _ => (#[] : Array Value))) }) free run2 lst2 apart few s2 new1 new2 fun g c got e kept there all => ?_
  exact ⟨rfl, next g c got e (fun b u b2 z => kept b u (Nat.ne_of_lt (Heap.lt_size z)) b2 (up2 b u (Nat.ne_of_lt (Heap.lt_size z)) z)) there all⟩
end
section
variable {X : Cx}
def tListRev (K : PySem.W.Frag) (te : TE) : TE := fun σ H Q => te σ H fun v H1 => ∃ (a : Addr) (xs : List V), v = .ref a ∧ SqL K H1 a xs ∧ ∀ q, H1 q = none → Q (.ref q) (upd H1 q (.lst xs.reverse))
theorem pe_listRev {e : Expr} {te : TE} {p p2 pos pos2 : Pos} (hc : X.calm = true) (hg : Gl X "list") (hm : X.mg "list" = none) (hg2 : Gl X "reversed") (hm2 : X.mg "reversed" = none) (he : PE X e te) (hs : starEach [e] X.env = (false, eval e X.env) :: starEach [] X.env)
    (hs2 : starEach [.Call (.Name "reversed" p2) [e] [] pos2] X.env = (false, eval (.Call (.Name "reversed" p2) [e] [] pos2) X.env) :: starEach [] X.env) : PE X (.Call (.Name "list" p) [.Call (.Name "reversed" p2) [e] [] pos2] [] pos) (tListRev X.K te) := by
  refine ⟨fun pins s σ H Q I h => Call_ (ld_blt I hg hm (show bootBuiltins "list" = some (.type "list") by decide +kernel) (PyProof.Rows.callWith_type1 (args_cons (Call_ (ld_blt I hg2 hm2 PyProof.Rows.boot_reversed (PyProof.Rows.callWith_type1 (args_cons (thn (he.run pins s σ H _ I h) fun u s1 ⟨v, H1, I1, r1, a, xs, ev, hq, q⟩ => args_nil ?_) hs) hs rfl))) hs2) hs2 rfl))⟩
  subst ev
  obtain rfl : u = Value.ref a := r1
  obtain ⟨its, rv, p', hz⟩ := I1.list hq
  refine call_reversed_list p'.isList (args_nil ?_)
  have I2 : Inv X pins σ H1 { s1 with heap := s1.heap.push (revObj a ((its.toArray.size : Int) - 1)) } := I1.kept (t' := s1.toks) fun b o z => Heap.get?_push_of_some _ z
  obtain ⟨f0, f1, f2, f3, f4, f5⟩ := I1.fpOk (H' := H1) (b := s1.heap.objs.size) (Nat.le_refl _) (I1.hok.fresh (Nat.le_refl _))
  have hne : a ≠ s1.heap.objs.size := by obtain ⟨ol, hol, _⟩ := id p'.isList; exact Nat.ne_of_lt (Heap.lt_size hol)
  have sz : (s1.heap.push (revObj a ((its.toArray.size : Int) - 1))).objs.size = s1.heap.objs.size + 1 := size_push' _ _
  refine call_list_rev (s := { s1 with heap := s1.heap.push (revObj a ((its.toArray.size : Int) - 1)) }) (I1.ok.hd hc) ⟨_, Heap.get?_push_size _ rfl, rfl, rfl⟩ (p'.isList.push _) hne (by rw [List.size_toArray, ← rv.length]; exact hz) fun g c got e kept there all => ?_
  have fr : H1 (s1.heap.objs.size + 1) = none := I1.hok.fresh (Nat.le_succ _)
  refine ⟨.ref (s1.heap.push (revObj a ((its.toArray.size : Int) - 1))).objs.size, upd H1 (s1.heap.push (revObj a ((its.toArray.size : Int) - 1))).objs.size (.lst xs.reverse), ?_, rfl, q _ (by rw [sz]; exact fr)⟩
  have I3 : Inv X pins σ H1 { s1 with heap := s1.heap } := I1
  refine I1.laid (t' := c) (h' := g) (fun b u z => kept b u (Nat.ne_of_lt (Heap.lt_size z)) (Heap.get?_push_of_some _ z)) (by rw [sz]; exact Nat.le_succ _) ?_
  exact ⟨by rw [List.length_reverse]; exact hz, got.toList, e, RT.vals_rev rv all, by rw [Array.toArray_toList]; exact there⟩
end
theorem fz_rev {M : List Addr} {H : Hp} {ds : List PyData} {vs : List V} (h : FzAll M H vs ds) : FzAll M H vs.reverse ds.reverse := by
  induction ds generalizing vs with
  | nil => cases h; exact .nil
  | cons d ds ih =>
    cases h with
    | cons h1 h2 =>
      rw [List.reverse_cons, List.reverse_cons]
      exact fz_app (ih h2) (.cons h1 .nil)
section
variable {X : Cx} {W : WX} {k : Nat} {G : Gam} {S S1 : Sto} {a : Expr} {r : It} {p p2 pos pos2 : Pos} {ds : List PyData}
theorem ev_listRev (c : Cxo X W k) (hm : X.mg "list" = none) (hm2 : X.mg "reversed" = none) (ha : Ev X a G S r S1) (hr : lsOf S1 r = some ds) (hg : Gl X "list" := by rfl) (hg2 : Gl X "reversed" := by rfl) (hs : starEach [a] X.env = (false, eval a X.env) :: starEach [] X.env := by rfl)
    (hs2 : starEach [.Call (.Name "reversed" p2) [a] [] pos2] X.env = (false, eval (.Call (.Name "reversed" p2) [a] [] pos2) X.env) :: starEach [] X.env := by rfl) : Ev X (.Call (.Name "list" p) [.Call (.Name "reversed" p2) [a] [] pos2] [] pos) G S (.d (.list ds.reverse)) S1 := fun M σ H Q s q =>
  toE (pe_listRev c.calm hg hm hg2 hm2 pe_s hs hs2) (ha M σ H _ s fun v M1 H1 e1 t1 r1 => by
    obtain ⟨ad, xs, rfl, h1, h2⟩ := ls_rd t1.sto r1 hr
    exact ⟨ad, xs, rfl, .inl h1, fun p hp => q _ M1 _ (e1.trans (Ext.fresh hp)) (t1.fresh hp) (Fz.lst ⟨.inl upd_same, t1.sto.nin hp⟩ (FzAll.ext (Ext.fresh hp) (fz_rev h2)))⟩)
theorem ev_listRevN (c : Cxo X W k) (hm : X.mg "list" = none) (hm2 : X.mg "reversed" = none) (ha : Ev X a G S r S1) (hr : lsOf S1 r = some ds) (hg : Gl X "list" := by rfl) (hg2 : Gl X "reversed" := by rfl) (hs : starEach [a] X.env = (false, eval a X.env) :: starEach [] X.env := by rfl)
    (hs2 : starEach [.Call (.Name "reversed" p2) [a] [] pos2] X.env = (false, eval (.Call (.Name "reversed" p2) [a] [] pos2) X.env) :: starEach [] X.env := by rfl) : Ev X (.Call (.Name "list" p) [.Call (.Name "reversed" p2) [a] [] pos2] [] pos) G S (.o S1.length) (S1 ++ [.lst (ds.reverse.map .d)]) := fun M σ H Q s q =>
  toE (pe_listRev c.calm hg hm hg2 hm2 pe_s hs hs2) (ha M σ H _ s fun v M1 H1 e1 t1 r1 => by
    obtain ⟨ad, xs, rfl, h1, h2⟩ := ls_rd t1.sto r1 hr
    refine ⟨ad, xs, rfl, .inl h1, fun p hp => ?_⟩
    have e2 : Ext M1 H1 (M1 ++ [p]) (upd H1 p (.lst xs.reverse)) := Ext.own hp
    exact q _ _ _ (e1.trans e2) (t1.mono e2 (t1.sto.own (w := .lst (ds.reverse.map .d)) hp ⟨_, upd_same, VReps.ext e2 (fz_reps (fz_rev h2))⟩)) ⟨p, by rw [← t1.sto.len, List.getElem?_append_right (Nat.le_refl _), Nat.sub_self]; rfl, rfl⟩)
end
end Cu
/-! CuX: texts: split, startswith, endswith, strip of signs, slices, int; all of truths. -/
namespace Cu
open PySem PySem.Spec PyProof.Rows L2
theorem fz_strL {M : List Addr} {H : Hp} : ∀ (xs : List Str), FzAll M H (xs.map V.str) (xs.map .str)
  | [] => .nil
  | x :: xs => .cons (.str x) (fz_strL xs)
section
variable {X : Cx} {W : WX} {k : Nat} {G : Gam} {S S1 S2 : Sto} {a b o e : Expr} {r : It} {p pos apos cpos p2 : Pos} {ds : List PyData} {x y : Str} {n : Int}
theorem ev_split (ho : Ev X o G S (.d (.str x)) S1) (ha : Ev X e G S1 (.d (.str y)) S2) (h0 : (y.length == 0) = false) (hz : x.length ≤ 1000000) (hbase : attributeBase o "split" X.env (eval o X.env) = eval o X.env := by rfl)
    (hfew : ((backTo cpos (starEach [e] X.env)).all (fun x => !x.1) && (backToKw cpos (keywordEach [] X.env)).all (fun x => x.1.isSome) && decide ([e].length + ([] : List Keyword).length + (if ([] : List Keyword).isEmpty then 0 else 1) < 30)) = true := by rfl)
    (hline : (apos.endLine == cpos.line) = true := by rfl) (hs : starEach [e] X.env = (false, eval e X.env) :: starEach [] X.env := by rfl) : Ev X (.Call (.Attribute o "split" apos) [e] [] cpos) G S (.d (.list ((Txt.split x y).map .str))) S2 :=
  ev_bm PySem.F.plainAttrs_str PySem.F.slot_str_split PySem.F.type_str_split mt_split ho ty_str (eva_cons ha eva_nil hs) (fun M H v vs Q s hv hvs q => by
    obtain ⟨u, rfl, hu⟩ := vr1 hvs
    exact ⟨x, y, vr_str hv, by rw [vr_str hu], h0, by rw [sizeLine_eq]; omega, fun p hp => q _ M _ (Ext.fresh hp) (s.fresh hp) (Fz.lst ⟨.inl upd_same, s.nin hp⟩ (fz_strL _))⟩) hbase hfew hline hs rfl
theorem ev_splitN (ho : Ev X o G S (.d (.str x)) S1) (ha : Ev X e G S1 (.d (.str y)) S2) (h0 : (y.length == 0) = false) (hz : x.length ≤ 1000000) (hbase : attributeBase o "split" X.env (eval o X.env) = eval o X.env := by rfl)
    (hfew : ((backTo cpos (starEach [e] X.env)).all (fun x => !x.1) && (backToKw cpos (keywordEach [] X.env)).all (fun x => x.1.isSome) && decide ([e].length + ([] : List Keyword).length + (if ([] : List Keyword).isEmpty then 0 else 1) < 30)) = true := by rfl)
    (hline : (apos.endLine == cpos.line) = true := by rfl) (hs : starEach [e] X.env = (false, eval e X.env) :: starEach [] X.env := by rfl) : Ev X (.Call (.Attribute o "split" apos) [e] [] cpos) G S (.o S2.length) (S2 ++ [.lst (((Txt.split x y).map PyData.str).map .d)]) :=
  ev_bm PySem.F.plainAttrs_str PySem.F.slot_str_split PySem.F.type_str_split mt_split ho ty_str (eva_cons ha eva_nil hs) (fun M H v vs Q s hv hvs q => by
    obtain ⟨u, rfl, hu⟩ := vr1 hvs
    refine ⟨x, y, vr_str hv, by rw [vr_str hu], h0, by rw [sizeLine_eq]; omega, fun p hp => ?_⟩
    have e2 : Ext M H (M ++ [p]) (upd H p (.lst ((Txt.split x y).map V.str))) := Ext.own hp
    exact q _ _ _ e2 (s.own (w := .lst (((Txt.split x y).map PyData.str).map .d)) hp ⟨_, upd_same, fz_reps (fz_strL _)⟩) ⟨p, by rw [← s.len, List.getElem?_append_right (Nat.le_refl _), Nat.sub_self]; rfl, rfl⟩) hbase hfew hline hs rfl
theorem ev_startswith (ho : Ev X o G S (.d (.str x)) S1) (ha : Ev X e G S1 (.d (.str y)) S2) (hbase : attributeBase o "startswith" X.env (eval o X.env) = eval o X.env := by rfl)
    (hfew : ((backTo cpos (starEach [e] X.env)).all (fun x => !x.1) && (backToKw cpos (keywordEach [] X.env)).all (fun x => x.1.isSome) && decide ([e].length + ([] : List Keyword).length + (if ([] : List Keyword).isEmpty then 0 else 1) < 30)) = true := by rfl)
    (hline : (apos.endLine == cpos.line) = true := by rfl) (hs : starEach [e] X.env = (false, eval e X.env) :: starEach [] X.env := by rfl) : Ev X (.Call (.Attribute o "startswith" apos) [e] [] cpos) G S (.d (.bool (Txt.startswith x y))) S2 :=
  ev_bm PySem.F.plainAttrs_str PySem.F.slot_str_startswith PySem.F.type_str_startswith mt_startswith ho ty_str (eva_cons ha eva_nil hs) (fun M H v vs Q s hv hvs q => by
    obtain ⟨u, rfl, hu⟩ := vr1 hvs
    exact ⟨x, y, vr_str hv, by rw [vr_str hu], q _ M H Ext.refl s (Fz.bl _)⟩) hbase hfew hline hs rfl
theorem ev_endswith (ho : Ev X o G S (.d (.str x)) S1) (ha : Ev X e G S1 (.d (.str y)) S2) (hbase : attributeBase o "endswith" X.env (eval o X.env) = eval o X.env := by rfl)
    (hfew : ((backTo cpos (starEach [e] X.env)).all (fun x => !x.1) && (backToKw cpos (keywordEach [] X.env)).all (fun x => x.1.isSome) && decide ([e].length + ([] : List Keyword).length + (if ([] : List Keyword).isEmpty then 0 else 1) < 30)) = true := by rfl)
    (hline : (apos.endLine == cpos.line) = true := by rfl) (hs : starEach [e] X.env = (false, eval e X.env) :: starEach [] X.env := by rfl) : Ev X (.Call (.Attribute o "endswith" apos) [e] [] cpos) G S (.d (.bool (Txt.endswith x y))) S2 :=
  ev_bm PySem.F.plainAttrs_str PySem.F.slot_str_endswith PySem.F.type_str_endswith mt_endswith ho ty_str (eva_cons ha eva_nil hs) (fun M H v vs Q s hv hvs q => by
    obtain ⟨u, rfl, hu⟩ := vr1 hvs
    exact ⟨x, y, vr_str hv, by rw [vr_str hu], q _ M H Ext.refl s (Fz.bl _)⟩) hbase hfew hline hs rfl
theorem ev_stripC (ho : Ev X o G S (.d (.str x)) S1) (ha : Ev X e G S1 (.d (.str y)) S2) (hz : x.length ≤ 1000000) (hbase : attributeBase o "strip" X.env (eval o X.env) = eval o X.env := by rfl)
    (hfew : ((backTo cpos (starEach [e] X.env)).all (fun x => !x.1) && (backToKw cpos (keywordEach [] X.env)).all (fun x => x.1.isSome) && decide ([e].length + ([] : List Keyword).length + (if ([] : List Keyword).isEmpty then 0 else 1) < 30)) = true := by rfl)
    (hline : (apos.endLine == cpos.line) = true := by rfl) (hs : starEach [e] X.env = (false, eval e X.env) :: starEach [] X.env := by rfl) : Ev X (.Call (.Attribute o "strip" apos) [e] [] cpos) G S (.d (.str (Txt.stripChars x y))) S2 :=
  ev_bm PySem.F.plainAttrs_str PySem.F.slot_str_strip PySem.F.type_str_strip mt_stripChars ho ty_str (eva_cons ha eva_nil hs) (fun M H v vs Q s hv hvs q => by
    obtain ⟨u, rfl, hu⟩ := vr1 hvs
    exact ⟨x, y, vr_str hv, by rw [vr_str hu], by rw [sizeLine_eq]; omega, q _ M H Ext.refl s (Fz.str _)⟩) hbase hfew hline hs rfl
/-- x[lo:hi] of a text -/
theorem ev_slS {lo hi : Option Expr} {il ih : Option Int} (ha : Ev X a G S (.d (.str x)) S1) (hl : EvP X lo G S1 il) (hh : EvP X hi G S1 ih) (hz : x.length ≤ 1000000) : Ev X (.Subscript a (.Slice lo hi none p2) pos) G S (.d (.str (cutS x il ih))) S1 := fun M σ H Q s q =>
  toE (pe_slice sl_str pe_s po_tEP po_tEP) (ha M σ H _ s fun v M1 H1 e1 t1 r1 => hl.run t1 fun M2 H2 e2 t2 => hh.run t2 fun M3 H3 e3 t3 => ⟨x, vr_str r1, by rw [sizeLine_eq]; omega, q _ M3 H3 ((e1.trans e2).trans e3) t3 (Fz.str _)⟩)
/-- int(s) -/
theorem ev_intS (hm : X.mg "int" = none) (ha : Ev X a G S (.d (.str x)) S1) (h : PySem.intText? x = some n) (hz : x.length ≤ 640) (hg : Gl X "int" := by rfl) (he : starEach [a] X.env = (false, eval a X.env) :: starEach [] X.env := by rfl) : Ev X (.Call (.Name "int" p) [a] [] pos) G S (.d (.int n)) S1 :=
  ev_ty call_int_str hm (by decide +kernel) (eva_cons ha eva_nil he) (fun M H vs Q s hvs q => by
    obtain ⟨v, rfl, hv⟩ := vr1 hvs
    exact ⟨x, n, by rw [vr_str hv], h, hz, q _ M H Ext.refl s (Fz.int _)⟩) hg (by decide) (by decide) he rfl
/-- all(xs), xs a list of truths -/
theorem ev_all (c : Cxo X W k) {bs : List Bool} (hm : X.mg "all" = none) (ha : Ev X a G S r S1) (hr : lsOf S1 r = some (bs.map .bool)) (hg : Gl X "all" := by rfl) (he : starEach [a] X.env = (false, eval a X.env) :: starEach [] X.env := by rfl) : Ev X (.Call (.Name "all" p) [a] [] pos) G S (.d (.bool (bs.all id))) S1 :=
  ev_blt (cr_all c.calm) hm (by decide +kernel) (eva_cons ha eva_nil he) (fun M H vs Q s hvs q => by
    obtain ⟨v, rfl, hv⟩ := vr1 hvs
    obtain ⟨ad, xs, rfl, h1, h2⟩ := ls_rd s hv hr
    exact ⟨ad, bs, rfl, .inl (by rw [← fz_bools h2]; exact h1), q _ M H Ext.refl s (Fz.bl _)⟩) hg (by decide) (by decide) he rfl
end
end Cu
namespace Pf
open PySem PySem.Spec PyProof.Rows L2 TL Cu
/-! ### words that write numbers, plainly -/
def numS (n : Int) : Str := Str.ofString (toString n)
def figC : Str := Str.ofString "0123456789"
theorem tl_fig : tl figC = [48, 49, 50, 51, 52, 53, 54, 55, 56, 57] := by decide
def isDig (x : Str) : Bool := (tl x).all fun c => decide (48 ≤ c ∧ c ≤ 57)
theorem fig_has (c : Nat) : figC.cps.contains c = decide (48 ≤ c ∧ c ≤ 57) := by
  rw [← Array.contains_toList, show figC.cps.toList = [48, 49, 50, 51, 52, 53, 54, 55, 56, 57] from tl_fig]
  rw [List.contains_eq_any_beq]
  simp only [List.any_cons, List.any_nil, Bool.or_false]
  by_cases h : 48 ≤ c ∧ c ≤ 57
  · rw [decide_eq_true h]
    have : c = 48 ∨ c = 49 ∨ c = 50 ∨ c = 51 ∨ c = 52 ∨ c = 53 ∨ c = 54 ∨ c = 55 ∨ c = 56 ∨ c = 57 := by omega
    rcases this with rfl | rfl | rfl | rfl | rfl | rfl | rfl | rfl | rfl | rfl <;> rfl
  · rw [decide_eq_false h]
    simp only [Bool.or_eq_false_iff, beq_eq_false_iff_ne]
    omega
theorem all_getD (x : Str) (p : Nat → Bool) : (∀ k, k < x.length → p (x.cps.getD k 0) = true) ↔ (tl x).all p = true := by
  rw [List.all_eq_true]
  constructor
  · intro h c hc
    obtain ⟨i, hi⟩ := List.getElem?_of_mem hc
    have hl := (List.getElem?_eq_some_iff.mp hi).1
    have := h i (by rw [len_tl]; exact hl)
    rw [← getD_list, List.getD_eq_getElem?_getD, hi] at this
    exact this
  · intro h k hk
    rw [← getD_list, List.getD_eq_getElem?_getD]
    have hk' : k < (tl x).length := by rw [← len_tl]; exact hk
    rw [List.getElem?_eq_getElem hk']
    exact h _ (List.getElem_mem hk')
theorem strip_fig (x : Str) : decide (Txt.stripChars x figC = Str.ofString "") = isDig x := by
  have e0 : ∀ y : Str, y = Str.ofString "" ↔ y.length = 0 := fun y => ⟨fun h => by rw [h]; rfl, fun h => ext_tl (by rw [show tl (Str.ofString "") = [] from rfl]; exact List.length_eq_zero_iff.mp (by rw [← len_tl]; exact h))⟩
  have h1 := lo_facts figC.cps.contains x
  have h2 := hi_facts figC.cps.contains x _ h1.1
  have el : (Txt.stripChars x figC).length = stripHi figC.cps.contains true x (stripLo figC.cps.contains true x) - stripLo figC.cps.contains true x := by
    unfold Txt.stripChars
    rw [stripBy_eq]
    show (x.cps.extract _ _).size = _
    rw [Array.size_extract]
    have := h2.2.1
    have e : x.cps.size = x.length := rfl
    rw [e]
    omega
  have hd : ∀ k, figC.cps.contains (x.cps.getD k 0) = decide (48 ≤ x.cps.getD k 0 ∧ x.cps.getD k 0 ≤ 57) := fun k => fig_has _
  generalize stripHi figC.cps.contains true x (stripLo figC.cps.contains true x) = hi at h2 el
  generalize stripLo figC.cps.contains true x = lo at h1 h2 el
  have ha := all_getD x fun c => decide (48 ≤ c ∧ c ≤ 57)
  unfold isDig
  rcases h1.2.2 with h | h
  · rw [ha.mp fun k hk => by rw [← hd]; exact h1.2.1 k (by omega)]
    exact decide_eq_true ((e0 _).mpr (by rw [el]; have := h2.1; have := h2.2.1; omega))
  · by_cases hlo : lo = x.length
    · rw [ha.mp fun k hk => by rw [← hd]; exact h1.2.1 k (by omega)]
      exact decide_eq_true ((e0 _).mpr (by rw [el]; have := h2.1; have := h2.2.1; omega))
    · have hlt : lo < x.length := by have := h1.1; omega
      have e1 : ((tl x).all fun c => decide (48 ≤ c ∧ c ≤ 57)) = false := by
        rw [Bool.eq_false_iff]
        intro z
        have := ha.mpr z lo hlt
        rw [← hd, h] at this
        cases this
      rw [e1]
      refine decide_eq_false fun z => ?_
      have z := (e0 _).mp z
      rw [el] at z
      have hh : hi = lo := by have := h2.1; omega
      have := h2.2.2.1 lo (by omega) hlt
      rw [h] at this
      cases this
/-! ### startswith "-", the rest -/
theorem str_of_tl (x : Str) : x = ⟨(tl x).toArray⟩ := (mk_tl x).symm
theorem starts_dash (x : Str) : Txt.startswith x (Str.ofString "-") = match tl x with | c :: _ => decide (c = 45) | [] => false := by
  have ed : Str.ofString "-" = ⟨#[45]⟩ := by decide
  rw [ed]
  cases e : tl x with
  | nil =>
    rw [str_of_tl x, e]; rfl
  | cons c r =>
    rw [str_of_tl x, e]
    show (decide (0 + 1 ≤ ((c :: r).toArray.size)) && ((c :: r).toArray.extract 0 (0 + 1) == #[45])) = decide (c = 45)
    have : (c :: r).toArray.extract 0 (0 + 1) = #[c] := by simp
    rw [this]
    have h2 : decide (0 + 1 ≤ (c :: r).toArray.size) = true := by simp
    rw [h2, Bool.true_and]
    by_cases h : c = 45
    · subst h; rfl
    · rw [decide_eq_false h]
      rw [beq_eq_false_iff_ne]
      intro z
      have := congrArg Array.toList z
      simp at this
      exact h this
theorem cut_one (x : Str) : tl (cutS x (some 1) none) = (tl x).drop 1 := by
  unfold cutS
  show ((((tl x).drop (HT.sIx x.length 0 (some 1))).take (HT.sIx x.length x.length none - HT.sIx x.length 0 (some 1))).toArray).toList = _
  rw [List.toList_toArray]
  have e1 : HT.sIx x.length x.length none = x.length := rfl
  have e2 : HT.sIx x.length 0 (some 1) = min 1 x.length := by
    unfold HT.sIx
    simp
    try omega
  rw [e1, e2, len_tl]
  cases tl x with
  | nil => rfl
  | cons c r =>
    rw [show min 1 (c :: r).length = 1 by rw [List.length_cons]; omega]
    simp
/-- the figures of a word -/
def figS (w : Str) : Str := if Txt.startswith w (Str.ofString "-") then cutS w (some 1) none else w
def numN (w : Str) : Option Int := if tl (figS w) = [] ∨ 40 < (figS w).length ∨ isDig (figS w) = false then none else if (tl (figS w))[0]? = some 48 ∧ w ≠ Str.ofString "0" then none else intText? w
theorem figS_tl (w : Str) : tl (figS w) = match tl w with | c :: r => if c = 45 then r else c :: r | [] => [] := by
  unfold figS
  rw [starts_dash]
  cases e : tl w with
  | nil => exact e
  | cons c r =>
    by_cases h : c = 45
    · subst h
      show tl (if decide (45 = 45) = true then _ else _) = _
      rw [decide_eq_true rfl, if_pos rfl, cut_one, e]; rfl
    · show tl (if decide (c = 45) = true then _ else _) = _
      rw [decide_eq_false h, if_neg Bool.false_ne_true, e]
      show c :: r = if c = 45 then r else c :: r
      rw [if_neg h]
theorem isDig_all {x : Str} (h : isDig x = true) : NumText.AllDigits (tl x) := fun c hc => of_decide_eq_true (List.all_eq_true.mp h c hc)
/-- a word of figures is read -/
theorem num_reads {w : Str} (h1 : tl (figS w) ≠ []) (h2 : (figS w).length ≤ 40) (h3 : isDig (figS w) = true) : ∃ n, intText? w = some n ∧ w.length ≤ 41 := by
  have hd := isDig_all h3
  have ef := figS_tl w
  rw [len_tl] at h2
  cases e : tl w with
  | nil => rw [e] at ef; exact (h1 ef).elim
  | cons c r =>
    rw [e] at ef
    by_cases hc : c = 45
    · subst hc
      have ef : tl (figS w) = r := by rw [ef]; exact if_pos rfl
      rw [ef] at h1 h2 hd
      have hl : w.length ≤ 41 := by rw [len_tl, e, List.length_cons]; omega
      exact ⟨_, intText_neg e hd h1 (by omega), hl⟩
    · have ef : tl (figS w) = c :: r := by rw [ef]; exact if_neg hc
      rw [ef, ← e] at h1 h2 hd
      have hl : w.length ≤ 41 := by rw [len_tl]; omega
      exact ⟨_, intText_digits hd h1 (by omega), hl⟩
theorem tl_numS (n : Nat) : tl (numS (n : Int)) = numL n := tl_num n
theorem numL_first (n : Nat) : (numL n)[0]? = some 48 ↔ n = 0 := by
  induction n using Nat.strongRecOn with
  | _ n ih =>
    by_cases h : n < 10
    · rw [numL_lt h]
      simp
    · rw [numL_step (by omega)]
      have hne := numL_ne (n / 10)
      rw [List.getElem?_append_left (by cases e : numL (n / 10) with | nil => exact (hne e).elim | cons a b => rw [List.length_cons]; omega), ih (n / 10) (by omega)]
      omega
theorem figS_num (n : Nat) : figS (numS (n : Int)) = numS (n : Int) := by
  refine ext_tl ?_
  rw [figS_tl, tl_numS]
  cases e : numL n with
  | nil => rfl
  | cons c r =>
    have := numL_digits n c (by rw [e]; exact List.mem_cons_self)
    exact if_neg (by omega)
theorem numN_num {n : Nat} (h : n < 10 ^ 40) : numN (numS (n : Int)) = some (n : Int) := by
  have hl := numL_len (by decide) h
  unfold numN
  rw [figS_num, tl_numS, len_tl, tl_numS, if_neg]
  · rw [if_neg, show intText? (numS (n : Int)) = some (n : Int) from int_num (by omega)]
    rintro ⟨h1, h2⟩
    rw [numL_first] at h1
    subst h1
    exact h2 (by decide)
  · rintro (h1 | h1 | h1)
    · exact numL_ne n h1
    · omega
    · have : isDig (numS (n : Int)) = true := List.all_eq_true.mpr fun c hc => decide_eq_true (numL_digits n c (by rw [← tl_numS]; exact hc))
      rw [this] at h1; cases h1
end Pf
namespace Pf
open PySem PySem.Spec PyProof.Rows L2 He Cu
/-! ### rows of words, plainly -/
def sp1 : Str := Str.ofString " "
def nl1 : Str := Str.ofString "\n"
def wordsN (ns : List Nat) : List Str := ns.map fun (n : Nat) => numS (n : Int)
def rowW (word : Str) (ns : List Nat) : Str := Txt.join sp1 (word :: wordsN ns)
def textOf (rows : List Str) : Str := Txt.join (Str.ofString "") (rows.map fun r => r ++ nl1)
theorem tl_sp : TL.tl sp1 = [32] := by decide
theorem tl_nl : TL.tl nl1 = [10] := by decide
theorem tl_rowW (word : Str) (ns : List Nat) : TL.tl (rowW word ns) = TL.joinL [32] (TL.tl word :: ns.map TL.numL) := by
  unfold rowW wordsN
  rw [TL.join_eq, TL.tl_join, tl_sp, List.map_cons, List.map_map]
  congr 2
  exact List.map_congr_left fun n _ => tl_numS n
theorem joinL_free {s t : Nat} (h : t ≠ s) : ∀ {ps : List (List Nat)}, (∀ p ∈ ps, t ∉ p) → t ∉ TL.joinL [s] ps
  | [], _ => List.not_mem_nil
  | [p], hp => hp p List.mem_cons_self
  | p :: q :: r, hp => by
    show t ∉ p ++ ([s] ++ TL.joinL [s] (q :: r))
    rw [List.mem_append, List.mem_append, List.mem_singleton]
    rintro (z | z | z)
    · exact hp p List.mem_cons_self z
    · exact h z
    · exact joinL_free h (fun x hx => hp x (List.mem_cons_of_mem _ hx)) z
theorem split_row {word : Str} (hw : 32 ∉ TL.tl word) (ns : List Nat) : Txt.split (rowW word ns) sp1 = word :: wordsN ns := by
  refine TL.split_join (s := 32) (S := []) tl_sp (by decide +kernel) (fun z => nomatch z) fun p hp => ?_
  rcases List.mem_cons.mp hp with rfl | hp
  · exact hw
  · obtain ⟨n, _, rfl⟩ := List.mem_map.mp hp
    rw [tl_numS]
    exact TL.numL_free (by omega)
theorem row_free {word : Str} (hw : 10 ∉ TL.tl word) (ns : List Nat) : 10 ∉ TL.tl (rowW word ns) := by
  rw [tl_rowW]
  refine joinL_free (by decide) fun p hp => ?_
  rcases List.mem_cons.mp hp with rfl | hp
  · exact hw
  · obtain ⟨n, _, rfl⟩ := List.mem_map.mp hp
    exact TL.numL_free (by omega)
theorem joinE (ps : List (List Nat)) : TL.joinL [] ps = ps.flatten := by
  induction ps with
  | nil => rfl
  | cons p ps ih =>
    cases ps with
    | nil => simp [TL.joinL]
    | cons q r =>
      show p ++ ([] ++ TL.joinL [] (q :: r)) = _
      rw [List.nil_append, ih]; rfl
theorem joinE2 (ps : List (List Nat)) : TL.joinL [10] (ps ++ [[]]) = (ps.map (· ++ [10])).flatten := by
  induction ps with
  | nil => rfl
  | cons p ps ih =>
    have e : (p :: ps) ++ [[]] = p :: (ps ++ [[]]) := rfl
    cases e2 : ps ++ [[]] with
    | nil => simp at e2
    | cons q r =>
      rw [e, e2]
      show p ++ ([10] ++ TL.joinL [10] (q :: r)) = _
      rw [← e2, ih]
      simp
theorem tl_text (rows : List Str) : TL.tl (textOf rows) = (rows.map fun r => TL.tl r ++ [10]).flatten := by
  unfold textOf
  rw [TL.join_eq, TL.tl_join, show TL.tl (Str.ofString "") = [] from rfl, joinE, List.map_map]
  congr 1
  refine List.map_congr_left fun r _ => ?_
  show TL.tl (r ++ nl1) = _
  rw [TL.tl_append, tl_nl]
theorem split_text {rows : List Str} (h : ∀ r ∈ rows, 10 ∉ TL.tl r) : Txt.split (textOf rows) nl1 = rows ++ [Str.ofString ""] := by
  have e : textOf rows = Txt.join nl1 (rows ++ [Str.ofString ""]) := by
    refine TL.ext_tl ?_
    rw [tl_text, TL.join_eq, TL.tl_join, tl_nl, List.map_append]
    show _ = TL.joinL [10] (rows.map TL.tl ++ [[]])
    rw [joinE2, List.map_map]; rfl
  rw [e]
  refine TL.split_join (s := 10) (S := []) tl_nl (by decide +kernel) (by simp) fun p hp => ?_
  rcases List.mem_append.mp hp with hp | hp
  · exact h p hp
  · rw [List.mem_singleton.mp hp]; exact List.not_mem_nil
theorem numS_len {n : Nat} (h : n < 10 ^ 40) : (numS (n : Int)).length ≤ 40 := by
  rw [TL.len_tl, tl_numS]; exact TL.numL_len (by decide) h
theorem joinL_len (s : Nat) {B : Nat} : ∀ {ps : List (List Nat)}, (∀ p ∈ ps, p.length ≤ B) → (TL.joinL [s] ps).length ≤ ps.length * (B + 1)
  | [], _ => Nat.zero_le _
  | [p], hp => by
    have := hp p List.mem_cons_self
    show p.length ≤ 1 * (B + 1)
    omega
  | p :: q :: r, hp => by
    have h1 := hp p List.mem_cons_self
    have h2 := joinL_len s (ps := q :: r) fun x hx => hp x (List.mem_cons_of_mem _ hx)
    show (p ++ ([s] ++ TL.joinL [s] (q :: r))).length ≤ ((q :: r).length + 1) * (B + 1)
    rw [List.length_append, List.length_append, Nat.add_mul]
    show p.length + (1 + _) ≤ _
    omega
theorem row_len {word : Str} (hw : word.length ≤ 40) {ns : List Nat} (h : ∀ n ∈ ns, n < 10 ^ 40) : (rowW word ns).length ≤ (ns.length + 1) * 41 := by
  rw [TL.len_tl, tl_rowW]
  have := joinL_len 32 (B := 40) (ps := TL.tl word :: ns.map TL.numL) fun p hp => by
    rcases List.mem_cons.mp hp with rfl | hp
    · rw [← TL.len_tl]; exact hw
    · obtain ⟨n, hn, rfl⟩ := List.mem_map.mp hp
      exact TL.numL_len (by decide) (h n hn)
  rw [List.length_cons, List.length_map] at this
  exact this
theorem text_len {B : Nat} {rows : List Str} (h : ∀ r ∈ rows, r.length ≤ B) : (textOf rows).length ≤ rows.length * (B + 1) := by
  rw [TL.len_tl, tl_text]
  induction rows with
  | nil => exact Nat.zero_le _
  | cons r rows ih =>
    have h1 := h r List.mem_cons_self
    have h2 := ih fun x hx => h x (List.mem_cons_of_mem _ hx)
    rw [List.map_cons, List.flatten_cons, List.length_append, List.length_append]
    rw [TL.len_tl] at h1
    show (TL.tl r).length + 1 + _ ≤ (rows.length + 1) * (B + 1)
    rw [Nat.add_mul]
    omega
/-- a keep's five numbers -/
theorem row_one (word : Str) (n : Nat) : rowW word [n] = word ++ sp1 ++ numS (n : Int) := by
  refine TL.ext_tl ?_
  rw [tl_rowW, TL.tl_append, TL.tl_append, tl_sp, tl_numS, List.append_assoc]; rfl
end Pf
namespace Pf
open PySem PySem.Spec PyProof.Rows L2 He Cu
/-! ### the text: where its defs stand -/
def top (i : Nat) : Stmt := PySem.Challenge.pw_copperbook_k32_no_rules.main.body.getD i (.Pass ⟨0, 0, 0, 0⟩)
abbrev s_is_whole : Stmt := top 10
theorem sc_is_whole : FnScope ["thing"] ["thing"] (defScope s_is_whole) := ⟨rfl, rfl, rfl, by decide +kernel, rfl, by decide +kernel, by decide +kernel⟩
abbrev s_number_or_none : Stmt := top 11
theorem sc_number_or_none : FnScope ["word", "figures"] ["word"] (defScope s_number_or_none) := ⟨rfl, rfl, rfl, by decide +kernel, rfl, by decide +kernel, by decide +kernel⟩
abbrev s_numbers_or_none : Stmt := top 12
theorem sc_numbers_or_none : FnScope ["words", "found", "word"] ["words"] (defScope s_numbers_or_none) := ⟨rfl, rfl, rfl, by decide +kernel, rfl, by decide +kernel, by decide +kernel⟩
abbrev s_within : Stmt := top 16
theorem sc_within : FnScope ["number", "least", "most"] ["number", "least", "most"] (defScope s_within) := ⟨rfl, rfl, rfl, by decide +kernel, rfl, by decide +kernel, by decide +kernel⟩
abbrev s_is_keep : Stmt := top 17
theorem sc_is_keep : FnScope ["keep", "x", "y", "wide", "high", "z", "ahead", "number"] ["keep"] (defScope s_is_keep) := ⟨rfl, rfl, rfl, by decide +kernel, rfl, by decide +kernel, by decide +kernel⟩
abbrev s_Rules___init__ : Stmt := inClass (top 18) 0
theorem sc_Rules___init__ : FnScope ["self", "gap", "width", "rim", "keeps", "keep"] ["self", "gap", "width", "rim", "keeps"] (defScope s_Rules___init__) := ⟨rfl, rfl, rfl, by decide +kernel, rfl, by decide +kernel, by decide +kernel⟩
abbrev s_Rules_told : Stmt := inClass (top 18) 1
theorem sc_Rules_told : FnScope ["self", "rows", "keep", "number", "row"] ["self"] (defScope s_Rules_told) := ⟨rfl, rfl, rfl, by decide +kernel, rfl, by decide +kernel, by decide +kernel⟩
abbrev s_read_row : Stmt := top 19
theorem sc_read_row : FnScope ["row", "word", "many", "words", "numbers"] ["row", "word", "many"] (defScope s_read_row) := ⟨rfl, rfl, rfl, by decide +kernel, rfl, by decide +kernel, by decide +kernel⟩
abbrev s_read_rules : Stmt := top 20
theorem sc_read_rules : FnScope ["text", "rows", "gap", "width", "rim", "keeps", "row"] ["text"] (defScope s_read_rules) := ⟨rfl, rfl, rfl, by decide +kernel, rfl, by decide +kernel, by decide +kernel⟩
abbrev s__law_cell : Stmt := top 22
theorem sc__law_cell : FnScope ["_law_script", "_law_k"] ["_law_script", "_law_k"] (defScope s__law_cell) := ⟨rfl, rfl, rfl, by decide +kernel, rfl, by decide +kernel, by decide +kernel⟩
abbrev s__law_mixed : Stmt := top 23
theorem sc__law_mixed : FnScope ["_law_cell_here", "_law_k", "_law_number"] ["_law_cell_here", "_law_k"] (defScope s__law_mixed) := ⟨rfl, rfl, rfl, by decide +kernel, rfl, by decide +kernel, by decide +kernel⟩
abbrev s__law_twice : Stmt := top 24
theorem sc__law_twice : FnScope ["_law_cell_here", "_law_k", "_law_number"] ["_law_cell_here", "_law_k"] (defScope s__law_twice) := ⟨rfl, rfl, rfl, by decide +kernel, rfl, by decide +kernel, by decide +kernel⟩
abbrev s__law_well : Stmt := top 25
theorem sc__law_well : FnScope ["_law_script", "_law_k"] ["_law_script", "_law_k"] (defScope s__law_well) := ⟨rfl, rfl, rfl, by decide +kernel, rfl, by decide +kernel, by decide +kernel⟩
abbrev s__law_draw : Stmt := top 26
theorem sc__law_draw : FnScope ["_law_well_here", "_law_most", "_law_number"] ["_law_well_here", "_law_most"] (defScope s__law_draw) := ⟨rfl, rfl, rfl, by decide +kernel, rfl, by decide +kernel, by decide +kernel⟩
abbrev s__law_is_number : Stmt := top 27
theorem sc__law_is_number : FnScope ["_law_word", "_law_figures", "_law_glyph"] ["_law_word"] (defScope s__law_is_number) := ⟨rfl, rfl, rfl, by decide +kernel, rfl, by decide +kernel, by decide +kernel⟩
abbrev s__law_spoilt_text : Stmt := top 28
theorem sc__law_spoilt_text : FnScope ["_law_text_here", "_law_well_here", "_law_k", "_law_at", "_law_glyph", "_law_way"] ["_law_text_here", "_law_well_here"] (defScope s__law_spoilt_text) := ⟨rfl, rfl, rfl, by decide +kernel, rfl, by decide +kernel, by decide +kernel⟩
abbrev s__law_text : Stmt := top 29
theorem sc__law_text : FnScope ["_law_well_here", "_law_rows", "_law_k", "_law_numbers", "_law_j", "_law_number", "_law_at", "_law_way", "_law_row_here"] ["_law_well_here"] (defScope s__law_text) := ⟨rfl, rfl, rfl, by decide +kernel, rfl, by decide +kernel, by decide +kernel⟩
abbrev s__law_row : Stmt := top 30
theorem sc__law_row : FnScope ["_law_row_here", "_law_word", "_law_many", "_law_words", "_law_one"] ["_law_row_here", "_law_word", "_law_many"] (defScope s__law_row) := ⟨rfl, rfl, rfl, by decide +kernel, rfl, by decide +kernel, by decide +kernel⟩
abbrev s__law_is_text : Stmt := top 31
theorem sc__law_is_text : FnScope ["_law_text_here", "_law_rows", "_law_words", "_law_k", "_law_numbers", "_law_row_here"] ["_law_text_here"] (defScope s__law_is_text) := ⟨rfl, rfl, rfl, by decide +kernel, rfl, by decide +kernel, by decide +kernel⟩
abbrev s__law_right : Stmt := top 32
theorem sc__law_right : FnScope ["_law_text_here", "_law_found", "e", "_law_others"] ["_law_text_here"] (defScope s__law_right) := ⟨rfl, rfl, rfl, by decide +kernel, rfl, by decide +kernel, by decide +kernel⟩
abbrev s__law_is_refused : Stmt := top 33
theorem sc__law_is_refused : FnScope ["_law_numbers", "_law_keeps"] ["_law_numbers", "_law_keeps"] (defScope s__law_is_refused) := ⟨rfl, rfl, rfl, by decide +kernel, rfl, by decide +kernel, by decide +kernel⟩
abbrev s__law_good : Stmt := top 34
theorem sc__law_good : FnScope ["_law_numbers", "_law_keeps", "_law_number", "_law_least", "_law_most", "_law_keep", "_law_one"] ["_law_numbers", "_law_keeps"] (defScope s__law_good) := ⟨rfl, rfl, rfl, by decide +kernel, rfl, by decide +kernel, by decide +kernel⟩
abbrev s_law : Stmt := top 35
theorem sc_law : FnScope ["_law_script", "_law_text_here", "_law_well_here", "_law_numbers", "_law_k", "_law_keeps", "_law_j", "_law_far"] ["_law_script"] (defScope s_law) := ⟨rfl, rfl, rfl, by decide +kernel, rfl, by decide +kernel, by decide +kernel⟩
/-! ### the defs, the facts -/
def fn : List DefD := [
  ⟨("is_whole", none), "is_whole", "is_whole", defArgs s_is_whole, defBody s_is_whole, defScope s_is_whole, [], []⟩,
  ⟨("number_or_none", none), "number_or_none", "number_or_none", defArgs s_number_or_none, defBody s_number_or_none, defScope s_number_or_none, [], []⟩,
  ⟨("numbers_or_none", none), "numbers_or_none", "numbers_or_none", defArgs s_numbers_or_none, defBody s_numbers_or_none, defScope s_numbers_or_none, [], []⟩,
  ⟨("within", none), "within", "within", defArgs s_within, defBody s_within, defScope s_within, [], []⟩,
  ⟨("is_keep", none), "is_keep", "is_keep", defArgs s_is_keep, defBody s_is_keep, defScope s_is_keep, [], []⟩,
  ⟨("Rules", some "__init__"), "__init__", "Rules.__init__", defArgs s_Rules___init__, defBody s_Rules___init__, defScope s_Rules___init__, [], []⟩,
  ⟨("Rules", some "told"), "told", "Rules.told", defArgs s_Rules_told, defBody s_Rules_told, defScope s_Rules_told, [], []⟩,
  ⟨("read_row", none), "read_row", "read_row", defArgs s_read_row, defBody s_read_row, defScope s_read_row, [], []⟩,
  ⟨("read_rules", none), "read_rules", "read_rules", defArgs s_read_rules, defBody s_read_rules, defScope s_read_rules, [], []⟩,
  ⟨("_law_cell", none), "_law_cell", "_law_cell", defArgs s__law_cell, defBody s__law_cell, defScope s__law_cell, [], []⟩,
  ⟨("_law_mixed", none), "_law_mixed", "_law_mixed", defArgs s__law_mixed, defBody s__law_mixed, defScope s__law_mixed, [], []⟩,
  ⟨("_law_twice", none), "_law_twice", "_law_twice", defArgs s__law_twice, defBody s__law_twice, defScope s__law_twice, [], []⟩,
  ⟨("_law_well", none), "_law_well", "_law_well", defArgs s__law_well, defBody s__law_well, defScope s__law_well, [], []⟩,
  ⟨("_law_draw", none), "_law_draw", "_law_draw", defArgs s__law_draw, defBody s__law_draw, defScope s__law_draw, [], []⟩,
  ⟨("_law_is_number", none), "_law_is_number", "_law_is_number", defArgs s__law_is_number, defBody s__law_is_number, defScope s__law_is_number, [], []⟩,
  ⟨("_law_spoilt_text", none), "_law_spoilt_text", "_law_spoilt_text", defArgs s__law_spoilt_text, defBody s__law_spoilt_text, defScope s__law_spoilt_text, [], []⟩,
  ⟨("_law_text", none), "_law_text", "_law_text", defArgs s__law_text, defBody s__law_text, defScope s__law_text, [], []⟩,
  ⟨("_law_row", none), "_law_row", "_law_row", defArgs s__law_row, defBody s__law_row, defScope s__law_row, [], []⟩,
  ⟨("_law_is_text", none), "_law_is_text", "_law_is_text", defArgs s__law_is_text, defBody s__law_is_text, defScope s__law_is_text, [], []⟩,
  ⟨("_law_right", none), "_law_right", "_law_right", defArgs s__law_right, defBody s__law_right, defScope s__law_right, [], []⟩,
  ⟨("_law_is_refused", none), "_law_is_refused", "_law_is_refused", defArgs s__law_is_refused, defBody s__law_is_refused, defScope s__law_is_refused, [], []⟩,
  ⟨("_law_good", none), "_law_good", "_law_good", defArgs s__law_good, defBody s__law_good, defScope s__law_good, [], []⟩,
  ⟨("law", none), "law", "law", defArgs s_law, defBody s_law, defScope s_law, [], []⟩]
def fa : List Fk := [
  (Fa.ok · (.glo "is_whole")),
  (Fa.ok · (.glo "number_or_none")),
  (Fa.ok · (.glo "numbers_or_none")),
  (Fa.ok · (.glo "within")),
  (Fa.ok · (.glo "is_keep")),
  (Fa.ok · (.glo "read_row")),
  (Fa.ok · (.glo "read_rules")),
  (Fa.ok · (.glo "_law_cell")),
  (Fa.ok · (.glo "_law_mixed")),
  (Fa.ok · (.glo "_law_twice")),
  (Fa.ok · (.glo "_law_well")),
  (Fa.ok · (.glo "_law_draw")),
  (Fa.ok · (.glo "_law_is_number")),
  (Fa.ok · (.glo "_law_spoilt_text")),
  (Fa.ok · (.glo "_law_text")),
  (Fa.ok · (.glo "_law_row")),
  (Fa.ok · (.glo "_law_is_text")),
  (Fa.ok · (.glo "_law_right")),
  (Fa.ok · (.glo "_law_is_refused")),
  (Fa.ok · (.glo "_law_good")),
  (Fa.ok · (.glo "law")),
  (Fa.ok · (.glo "CopperError")),
  (Fa.ok · (.glo "NoShape")),
  (Fa.ok · (.glo "NoBoard")),
  (Fa.ok · (.glo "NoRules")),
  (Fa.ok · (.glo "NoDrawing")),
  (Fa.ok · (.glo "NoSpan")),
  (Fa.ok · (.glo "Rules")),
  (Fa.ok · (.exc "CopperError")),
  (Fa.ok · (.exc "NoShape")),
  (Fa.ok · (.exc "NoBoard")),
  (Fa.ok · (.exc "NoRules")),
  (Fa.ok · (.exc "NoDrawing")),
  (Fa.ok · (.exc "NoSpan")),
  (Fa.ok · (.str "FIGURES" "0123456789")),
  (Fa.ok · (.int "MOST" 40)),
  (Fa.ok · (.int "MOST_KEEPS" 12)),
  (Fa.ok · (.int "MOST_NUMBER" 9999999999999999999999999999999999999999)),
  (Fa.ok · (.free "ValueError")),
  (Fa.ok · (.free "all")),
  (Fa.ok · (.free "bool")),
  (Fa.ok · (.free "int")),
  (Fa.ok · (.free "isinstance")),
  (Fa.ok · (.free "len")),
  (Fa.ok · (.free "max")),
  (Fa.ok · (.free "min")),
  (Fa.ok · (.free "range")),
  (Fa.ok · (.free "str")),
  (Fa.ok · (.free "tuple")),
  (Fa.ok · (.free "zip")),
  (Fa.ok · (.cls "Rules")),
  (Fa.ok · (.mkr "Rules")),
  (Fa.ok · (.noat "Rules" "gap")),
  (Fa.ok · (.noat "Rules" "keeps")),
  (Fa.ok · (.noat "Rules" "rim")),
  (Fa.ok · (.noat "Rules" "width")),
  (Fa.ok · (.meth "Rules" "told")),
  (bInsC "Rules"),
  (bExcC "CopperError"),
  (Fa.ok · (.exm "CopperError" "CopperError" true)),
  (Fa.ok · (.exm "CopperError" "NoRules" false)),
  (bKit "CopperError" "NoBoard" false),
  (bKit "CopperError" "NoDrawing" false),
  (bKit "CopperError" "NoRules" false),
  (bKit "CopperError" "NoShape" false),
  (bKit "CopperError" "NoSpan" false),
  (bKitT "CopperError" "bool" false),
  (bKitT "CopperError" "int" false),
  (bExcC "NoShape"),
  (Fa.ok · (.exm "NoShape" "CopperError" true)),
  (Fa.ok · (.exm "NoShape" "NoRules" false)),
  (bKit "NoShape" "NoBoard" false),
  (bKit "NoShape" "NoDrawing" false),
  (bKit "NoShape" "NoRules" false),
  (bKit "NoShape" "NoShape" true),
  (bKit "NoShape" "NoSpan" false),
  (bKitT "NoShape" "bool" false),
  (bKitT "NoShape" "int" false),
  (bExcC "NoBoard"),
  (Fa.ok · (.exm "NoBoard" "CopperError" true)),
  (Fa.ok · (.exm "NoBoard" "NoRules" false)),
  (bKit "NoBoard" "NoBoard" true),
  (bKit "NoBoard" "NoDrawing" false),
  (bKit "NoBoard" "NoRules" false),
  (bKit "NoBoard" "NoShape" false),
  (bKit "NoBoard" "NoSpan" false),
  (bKitT "NoBoard" "bool" false),
  (bKitT "NoBoard" "int" false),
  (bExcC "NoRules"),
  (Fa.ok · (.exm "NoRules" "CopperError" true)),
  (Fa.ok · (.exm "NoRules" "NoRules" true)),
  (bKit "NoRules" "NoBoard" false),
  (bKit "NoRules" "NoDrawing" false),
  (bKit "NoRules" "NoRules" true),
  (bKit "NoRules" "NoShape" false),
  (bKit "NoRules" "NoSpan" false),
  (bKitT "NoRules" "bool" false),
  (bKitT "NoRules" "int" false),
  (bExcC "NoDrawing"),
  (Fa.ok · (.exm "NoDrawing" "CopperError" true)),
  (Fa.ok · (.exm "NoDrawing" "NoRules" false)),
  (bKit "NoDrawing" "NoBoard" false),
  (bKit "NoDrawing" "NoDrawing" true),
  (bKit "NoDrawing" "NoRules" false),
  (bKit "NoDrawing" "NoShape" false),
  (bKit "NoDrawing" "NoSpan" false),
  (bKitT "NoDrawing" "bool" false),
  (bKitT "NoDrawing" "int" false),
  (bExcC "NoSpan"),
  (Fa.ok · (.exm "NoSpan" "CopperError" true)),
  (Fa.ok · (.exm "NoSpan" "NoRules" false)),
  (bKit "NoSpan" "NoBoard" false),
  (bKit "NoSpan" "NoDrawing" false),
  (bKit "NoSpan" "NoRules" false),
  (bKit "NoSpan" "NoShape" false),
  (bKit "NoSpan" "NoSpan" true),
  (bKitT "NoSpan" "bool" false),
  (bKitT "NoSpan" "int" false),
  (bKitT "Rules" "bool" false),
  (bKitT "Rules" "int" false)]
abbrev TT (K : PySem.W.Frag) (mg : Str → Option Value) : Prop := Txt fa fn K mg
section
variable {K : PySem.W.Frag} {mg : Str → Option Value}
theorem g_is_whole (T : TT K mg) : mg "is_whole" = some (.ref (ga K "is_whole")) := T.glo 0
theorem g_number_or_none (T : TT K mg) : mg "number_or_none" = some (.ref (ga K "number_or_none")) := T.glo 1
theorem g_numbers_or_none (T : TT K mg) : mg "numbers_or_none" = some (.ref (ga K "numbers_or_none")) := T.glo 2
theorem g_within (T : TT K mg) : mg "within" = some (.ref (ga K "within")) := T.glo 3
theorem g_is_keep (T : TT K mg) : mg "is_keep" = some (.ref (ga K "is_keep")) := T.glo 4
theorem g_read_row (T : TT K mg) : mg "read_row" = some (.ref (ga K "read_row")) := T.glo 5
theorem g_read_rules (T : TT K mg) : mg "read_rules" = some (.ref (ga K "read_rules")) := T.glo 6
theorem g__law_cell (T : TT K mg) : mg "_law_cell" = some (.ref (ga K "_law_cell")) := T.glo 7
theorem g__law_mixed (T : TT K mg) : mg "_law_mixed" = some (.ref (ga K "_law_mixed")) := T.glo 8
theorem g__law_twice (T : TT K mg) : mg "_law_twice" = some (.ref (ga K "_law_twice")) := T.glo 9
theorem g__law_well (T : TT K mg) : mg "_law_well" = some (.ref (ga K "_law_well")) := T.glo 10
theorem g__law_draw (T : TT K mg) : mg "_law_draw" = some (.ref (ga K "_law_draw")) := T.glo 11
theorem g__law_is_number (T : TT K mg) : mg "_law_is_number" = some (.ref (ga K "_law_is_number")) := T.glo 12
theorem g__law_spoilt_text (T : TT K mg) : mg "_law_spoilt_text" = some (.ref (ga K "_law_spoilt_text")) := T.glo 13
theorem g__law_text (T : TT K mg) : mg "_law_text" = some (.ref (ga K "_law_text")) := T.glo 14
theorem g__law_row (T : TT K mg) : mg "_law_row" = some (.ref (ga K "_law_row")) := T.glo 15
theorem g__law_is_text (T : TT K mg) : mg "_law_is_text" = some (.ref (ga K "_law_is_text")) := T.glo 16
theorem g__law_right (T : TT K mg) : mg "_law_right" = some (.ref (ga K "_law_right")) := T.glo 17
theorem g__law_is_refused (T : TT K mg) : mg "_law_is_refused" = some (.ref (ga K "_law_is_refused")) := T.glo 18
theorem g__law_good (T : TT K mg) : mg "_law_good" = some (.ref (ga K "_law_good")) := T.glo 19
theorem g_law (T : TT K mg) : mg "law" = some (.ref (ga K "law")) := T.glo 20
theorem g_CopperError (T : TT K mg) : mg "CopperError" = some (.ref (ga K "CopperError")) := T.glo 21
theorem g_NoShape (T : TT K mg) : mg "NoShape" = some (.ref (ga K "NoShape")) := T.glo 22
theorem g_NoBoard (T : TT K mg) : mg "NoBoard" = some (.ref (ga K "NoBoard")) := T.glo 23
theorem g_NoRules (T : TT K mg) : mg "NoRules" = some (.ref (ga K "NoRules")) := T.glo 24
theorem g_NoDrawing (T : TT K mg) : mg "NoDrawing" = some (.ref (ga K "NoDrawing")) := T.glo 25
theorem g_NoSpan (T : TT K mg) : mg "NoSpan" = some (.ref (ga K "NoSpan")) := T.glo 26
theorem g_Rules (T : TT K mg) : mg "Rules" = some (.ref (ga K "Rules")) := T.glo 27
theorem x_CopperError (T : TT K mg) : ExcF K mg "CopperError" (ga K "CopperError") := T.excF 21 28
theorem x_NoShape (T : TT K mg) : ExcF K mg "NoShape" (ga K "NoShape") := T.excF 22 29
theorem x_NoBoard (T : TT K mg) : ExcF K mg "NoBoard" (ga K "NoBoard") := T.excF 23 30
theorem x_NoRules (T : TT K mg) : ExcF K mg "NoRules" (ga K "NoRules") := T.excF 24 31
theorem x_NoDrawing (T : TT K mg) : ExcF K mg "NoDrawing" (ga K "NoDrawing") := T.excF 25 32
theorem x_NoSpan (T : TT K mg) : ExcF K mg "NoSpan" (ga K "NoSpan") := T.excF 26 33
theorem c_FIGURES (T : TT K mg) : ∃ t, mg "FIGURES" = some (.str "0123456789" t) := T.str 34
theorem c_MOST (T : TT K mg) : ∃ t, mg "MOST" = some (.int 40 t) := T.int 35
theorem c_MOST_KEEPS (T : TT K mg) : ∃ t, mg "MOST_KEEPS" = some (.int 12 t) := T.int 36
theorem c_MOST_NUMBER (T : TT K mg) : ∃ t, mg "MOST_NUMBER" = some (.int 9999999999999999999999999999999999999999 t) := T.int 37
theorem z_ValueError (T : TT K mg) : mg "ValueError" = none := T.free 38
theorem z_all (T : TT K mg) : mg "all" = none := T.free 39
theorem z_bool (T : TT K mg) : mg "bool" = none := T.free 40
theorem z_int (T : TT K mg) : mg "int" = none := T.free 41
theorem z_isinstance (T : TT K mg) : mg "isinstance" = none := T.free 42
theorem z_len (T : TT K mg) : mg "len" = none := T.free 43
theorem z_max (T : TT K mg) : mg "max" = none := T.free 44
theorem z_min (T : TT K mg) : mg "min" = none := T.free 45
theorem z_range (T : TT K mg) : mg "range" = none := T.free 46
theorem z_str (T : TT K mg) : mg "str" = none := T.free 47
theorem z_tuple (T : TT K mg) : mg "tuple" = none := T.free 48
theorem z_zip (T : TT K mg) : mg "zip" = none := T.free 49
theorem cls_Rules (T : TT K mg) : Cls K (ga K "Rules") := cls_ok (T.c.fact 50)
theorem mk_Rules (T : TT K mg) : Mk K (ga K "Rules") (ma K (ga K "Rules") "__init__") := mkr_ok (T.c.fact 51)
theorem na_Rules_gap (T : TT K mg) : NoAttr K (ga K "Rules") "gap" := noat_ok (T.c.fact 52)
theorem na_Rules_keeps (T : TT K mg) : NoAttr K (ga K "Rules") "keeps" := noat_ok (T.c.fact 53)
theorem na_Rules_rim (T : TT K mg) : NoAttr K (ga K "Rules") "rim" := noat_ok (T.c.fact 54)
theorem na_Rules_width (T : TT K mg) : NoAttr K (ga K "Rules") "width" := noat_ok (T.c.fact 55)
theorem m_Rules_told (T : TT K mg) : Meth K (ga K "Rules") "told" (ma K (ga K "Rules") "told") := meth_ok (T.c.fact 56)
theorem ins_Rules (T : TT K mg) : InsC K (ga K "Rules") := insC_ok (T.c.fact 57)
theorem ec_CopperError (T : TT K mg) : ExcC K (ga K "CopperError") := excC_ok (T.c.fact 58)
theorem exm_CopperError_CopperError (T : TT K mg) : PySem.W.exmOne K (.ref (ga K "CopperError")) (.ref (ga K "CopperError")) = some true := exm_ok (T.c.fact 59)
theorem exm_CopperError_NoRules (T : TT K mg) : PySem.W.exmOne K (.ref (ga K "CopperError")) (.ref (ga K "NoRules")) = some false := exm_ok (T.c.fact 60)
theorem kit_CopperError_NoBoard (T : TT K mg) : PySem.W.kitOne K (.ref (ga K "CopperError")) (.ref (ga K "NoBoard")) = some false := kitR_ok (T.c.fact 61)
theorem kit_CopperError_NoDrawing (T : TT K mg) : PySem.W.kitOne K (.ref (ga K "CopperError")) (.ref (ga K "NoDrawing")) = some false := kitR_ok (T.c.fact 62)
theorem kit_CopperError_NoRules (T : TT K mg) : PySem.W.kitOne K (.ref (ga K "CopperError")) (.ref (ga K "NoRules")) = some false := kitR_ok (T.c.fact 63)
theorem kit_CopperError_NoShape (T : TT K mg) : PySem.W.kitOne K (.ref (ga K "CopperError")) (.ref (ga K "NoShape")) = some false := kitR_ok (T.c.fact 64)
theorem kit_CopperError_NoSpan (T : TT K mg) : PySem.W.kitOne K (.ref (ga K "CopperError")) (.ref (ga K "NoSpan")) = some false := kitR_ok (T.c.fact 65)
theorem kitT_CopperError_bool (T : TT K mg) : PySem.W.kitOne K (.ref (ga K "CopperError")) (.type "bool") = some false := kitT_ok (T.c.fact 66)
theorem kitT_CopperError_int (T : TT K mg) : PySem.W.kitOne K (.ref (ga K "CopperError")) (.type "int") = some false := kitT_ok (T.c.fact 67)
theorem ec_NoShape (T : TT K mg) : ExcC K (ga K "NoShape") := excC_ok (T.c.fact 68)
theorem exm_NoShape_CopperError (T : TT K mg) : PySem.W.exmOne K (.ref (ga K "NoShape")) (.ref (ga K "CopperError")) = some true := exm_ok (T.c.fact 69)
theorem exm_NoShape_NoRules (T : TT K mg) : PySem.W.exmOne K (.ref (ga K "NoShape")) (.ref (ga K "NoRules")) = some false := exm_ok (T.c.fact 70)
theorem kit_NoShape_NoBoard (T : TT K mg) : PySem.W.kitOne K (.ref (ga K "NoShape")) (.ref (ga K "NoBoard")) = some false := kitR_ok (T.c.fact 71)
theorem kit_NoShape_NoDrawing (T : TT K mg) : PySem.W.kitOne K (.ref (ga K "NoShape")) (.ref (ga K "NoDrawing")) = some false := kitR_ok (T.c.fact 72)
theorem kit_NoShape_NoRules (T : TT K mg) : PySem.W.kitOne K (.ref (ga K "NoShape")) (.ref (ga K "NoRules")) = some false := kitR_ok (T.c.fact 73)
theorem kit_NoShape_NoShape (T : TT K mg) : PySem.W.kitOne K (.ref (ga K "NoShape")) (.ref (ga K "NoShape")) = some true := kitR_ok (T.c.fact 74)
theorem kit_NoShape_NoSpan (T : TT K mg) : PySem.W.kitOne K (.ref (ga K "NoShape")) (.ref (ga K "NoSpan")) = some false := kitR_ok (T.c.fact 75)
theorem kitT_NoShape_bool (T : TT K mg) : PySem.W.kitOne K (.ref (ga K "NoShape")) (.type "bool") = some false := kitT_ok (T.c.fact 76)
theorem kitT_NoShape_int (T : TT K mg) : PySem.W.kitOne K (.ref (ga K "NoShape")) (.type "int") = some false := kitT_ok (T.c.fact 77)
theorem ec_NoBoard (T : TT K mg) : ExcC K (ga K "NoBoard") := excC_ok (T.c.fact 78)
theorem exm_NoBoard_CopperError (T : TT K mg) : PySem.W.exmOne K (.ref (ga K "NoBoard")) (.ref (ga K "CopperError")) = some true := exm_ok (T.c.fact 79)
theorem exm_NoBoard_NoRules (T : TT K mg) : PySem.W.exmOne K (.ref (ga K "NoBoard")) (.ref (ga K "NoRules")) = some false := exm_ok (T.c.fact 80)
theorem kit_NoBoard_NoBoard (T : TT K mg) : PySem.W.kitOne K (.ref (ga K "NoBoard")) (.ref (ga K "NoBoard")) = some true := kitR_ok (T.c.fact 81)
theorem kit_NoBoard_NoDrawing (T : TT K mg) : PySem.W.kitOne K (.ref (ga K "NoBoard")) (.ref (ga K "NoDrawing")) = some false := kitR_ok (T.c.fact 82)
theorem kit_NoBoard_NoRules (T : TT K mg) : PySem.W.kitOne K (.ref (ga K "NoBoard")) (.ref (ga K "NoRules")) = some false := kitR_ok (T.c.fact 83)
theorem kit_NoBoard_NoShape (T : TT K mg) : PySem.W.kitOne K (.ref (ga K "NoBoard")) (.ref (ga K "NoShape")) = some false := kitR_ok (T.c.fact 84)
theorem kit_NoBoard_NoSpan (T : TT K mg) : PySem.W.kitOne K (.ref (ga K "NoBoard")) (.ref (ga K "NoSpan")) = some false := kitR_ok (T.c.fact 85)
theorem kitT_NoBoard_bool (T : TT K mg) : PySem.W.kitOne K (.ref (ga K "NoBoard")) (.type "bool") = some false := kitT_ok (T.c.fact 86)
theorem kitT_NoBoard_int (T : TT K mg) : PySem.W.kitOne K (.ref (ga K "NoBoard")) (.type "int") = some false := kitT_ok (T.c.fact 87)
theorem ec_NoRules (T : TT K mg) : ExcC K (ga K "NoRules") := excC_ok (T.c.fact 88)
theorem exm_NoRules_CopperError (T : TT K mg) : PySem.W.exmOne K (.ref (ga K "NoRules")) (.ref (ga K "CopperError")) = some true := exm_ok (T.c.fact 89)
theorem exm_NoRules_NoRules (T : TT K mg) : PySem.W.exmOne K (.ref (ga K "NoRules")) (.ref (ga K "NoRules")) = some true := exm_ok (T.c.fact 90)
theorem kit_NoRules_NoBoard (T : TT K mg) : PySem.W.kitOne K (.ref (ga K "NoRules")) (.ref (ga K "NoBoard")) = some false := kitR_ok (T.c.fact 91)
theorem kit_NoRules_NoDrawing (T : TT K mg) : PySem.W.kitOne K (.ref (ga K "NoRules")) (.ref (ga K "NoDrawing")) = some false := kitR_ok (T.c.fact 92)
theorem kit_NoRules_NoRules (T : TT K mg) : PySem.W.kitOne K (.ref (ga K "NoRules")) (.ref (ga K "NoRules")) = some true := kitR_ok (T.c.fact 93)
theorem kit_NoRules_NoShape (T : TT K mg) : PySem.W.kitOne K (.ref (ga K "NoRules")) (.ref (ga K "NoShape")) = some false := kitR_ok (T.c.fact 94)
theorem kit_NoRules_NoSpan (T : TT K mg) : PySem.W.kitOne K (.ref (ga K "NoRules")) (.ref (ga K "NoSpan")) = some false := kitR_ok (T.c.fact 95)
theorem kitT_NoRules_bool (T : TT K mg) : PySem.W.kitOne K (.ref (ga K "NoRules")) (.type "bool") = some false := kitT_ok (T.c.fact 96)
theorem kitT_NoRules_int (T : TT K mg) : PySem.W.kitOne K (.ref (ga K "NoRules")) (.type "int") = some false := kitT_ok (T.c.fact 97)
theorem ec_NoDrawing (T : TT K mg) : ExcC K (ga K "NoDrawing") := excC_ok (T.c.fact 98)
theorem exm_NoDrawing_CopperError (T : TT K mg) : PySem.W.exmOne K (.ref (ga K "NoDrawing")) (.ref (ga K "CopperError")) = some true := exm_ok (T.c.fact 99)
theorem exm_NoDrawing_NoRules (T : TT K mg) : PySem.W.exmOne K (.ref (ga K "NoDrawing")) (.ref (ga K "NoRules")) = some false := exm_ok (T.c.fact 100)
theorem kit_NoDrawing_NoBoard (T : TT K mg) : PySem.W.kitOne K (.ref (ga K "NoDrawing")) (.ref (ga K "NoBoard")) = some false := kitR_ok (T.c.fact 101)
theorem kit_NoDrawing_NoDrawing (T : TT K mg) : PySem.W.kitOne K (.ref (ga K "NoDrawing")) (.ref (ga K "NoDrawing")) = some true := kitR_ok (T.c.fact 102)
theorem kit_NoDrawing_NoRules (T : TT K mg) : PySem.W.kitOne K (.ref (ga K "NoDrawing")) (.ref (ga K "NoRules")) = some false := kitR_ok (T.c.fact 103)
theorem kit_NoDrawing_NoShape (T : TT K mg) : PySem.W.kitOne K (.ref (ga K "NoDrawing")) (.ref (ga K "NoShape")) = some false := kitR_ok (T.c.fact 104)
theorem kit_NoDrawing_NoSpan (T : TT K mg) : PySem.W.kitOne K (.ref (ga K "NoDrawing")) (.ref (ga K "NoSpan")) = some false := kitR_ok (T.c.fact 105)
theorem kitT_NoDrawing_bool (T : TT K mg) : PySem.W.kitOne K (.ref (ga K "NoDrawing")) (.type "bool") = some false := kitT_ok (T.c.fact 106)
theorem kitT_NoDrawing_int (T : TT K mg) : PySem.W.kitOne K (.ref (ga K "NoDrawing")) (.type "int") = some false := kitT_ok (T.c.fact 107)
theorem ec_NoSpan (T : TT K mg) : ExcC K (ga K "NoSpan") := excC_ok (T.c.fact 108)
theorem exm_NoSpan_CopperError (T : TT K mg) : PySem.W.exmOne K (.ref (ga K "NoSpan")) (.ref (ga K "CopperError")) = some true := exm_ok (T.c.fact 109)
theorem exm_NoSpan_NoRules (T : TT K mg) : PySem.W.exmOne K (.ref (ga K "NoSpan")) (.ref (ga K "NoRules")) = some false := exm_ok (T.c.fact 110)
theorem kit_NoSpan_NoBoard (T : TT K mg) : PySem.W.kitOne K (.ref (ga K "NoSpan")) (.ref (ga K "NoBoard")) = some false := kitR_ok (T.c.fact 111)
theorem kit_NoSpan_NoDrawing (T : TT K mg) : PySem.W.kitOne K (.ref (ga K "NoSpan")) (.ref (ga K "NoDrawing")) = some false := kitR_ok (T.c.fact 112)
theorem kit_NoSpan_NoRules (T : TT K mg) : PySem.W.kitOne K (.ref (ga K "NoSpan")) (.ref (ga K "NoRules")) = some false := kitR_ok (T.c.fact 113)
theorem kit_NoSpan_NoShape (T : TT K mg) : PySem.W.kitOne K (.ref (ga K "NoSpan")) (.ref (ga K "NoShape")) = some false := kitR_ok (T.c.fact 114)
theorem kit_NoSpan_NoSpan (T : TT K mg) : PySem.W.kitOne K (.ref (ga K "NoSpan")) (.ref (ga K "NoSpan")) = some true := kitR_ok (T.c.fact 115)
theorem kitT_NoSpan_bool (T : TT K mg) : PySem.W.kitOne K (.ref (ga K "NoSpan")) (.type "bool") = some false := kitT_ok (T.c.fact 116)
theorem kitT_NoSpan_int (T : TT K mg) : PySem.W.kitOne K (.ref (ga K "NoSpan")) (.type "int") = some false := kitT_ok (T.c.fact 117)
theorem kitT_Rules_bool (T : TT K mg) : PySem.W.kitOne K (.ref (ga K "Rules")) (.type "bool") = some false := kitT_ok (T.c.fact 118)
theorem kitT_Rules_int (T : TT K mg) : PySem.W.kitOne K (.ref (ga K "Rules")) (.type "int") = some false := kitT_ok (T.c.fact 119)
theorem d_is_whole (T : TT K mg) : ∃ fd, FunD K "is_whole" "is_whole" (defArgs s_is_whole) (defBody s_is_whole) (defScope s_is_whole) [] [] (ga K "is_whole") fd := T.c.def_ 0
theorem d_number_or_none (T : TT K mg) : ∃ fd, FunD K "number_or_none" "number_or_none" (defArgs s_number_or_none) (defBody s_number_or_none) (defScope s_number_or_none) [] [] (ga K "number_or_none") fd := T.c.def_ 1
theorem d_numbers_or_none (T : TT K mg) : ∃ fd, FunD K "numbers_or_none" "numbers_or_none" (defArgs s_numbers_or_none) (defBody s_numbers_or_none) (defScope s_numbers_or_none) [] [] (ga K "numbers_or_none") fd := T.c.def_ 2
theorem d_within (T : TT K mg) : ∃ fd, FunD K "within" "within" (defArgs s_within) (defBody s_within) (defScope s_within) [] [] (ga K "within") fd := T.c.def_ 3
theorem d_is_keep (T : TT K mg) : ∃ fd, FunD K "is_keep" "is_keep" (defArgs s_is_keep) (defBody s_is_keep) (defScope s_is_keep) [] [] (ga K "is_keep") fd := T.c.def_ 4
theorem d_Rules___init__ (T : TT K mg) : ∃ fd, FunD K "__init__" "Rules.__init__" (defArgs s_Rules___init__) (defBody s_Rules___init__) (defScope s_Rules___init__) [] [] (ma K (ga K "Rules") "__init__") fd := T.c.def_ 5
theorem d_Rules_told (T : TT K mg) : ∃ fd, FunD K "told" "Rules.told" (defArgs s_Rules_told) (defBody s_Rules_told) (defScope s_Rules_told) [] [] (ma K (ga K "Rules") "told") fd := T.c.def_ 6
theorem d_read_row (T : TT K mg) : ∃ fd, FunD K "read_row" "read_row" (defArgs s_read_row) (defBody s_read_row) (defScope s_read_row) [] [] (ga K "read_row") fd := T.c.def_ 7
theorem d_read_rules (T : TT K mg) : ∃ fd, FunD K "read_rules" "read_rules" (defArgs s_read_rules) (defBody s_read_rules) (defScope s_read_rules) [] [] (ga K "read_rules") fd := T.c.def_ 8
theorem d__law_cell (T : TT K mg) : ∃ fd, FunD K "_law_cell" "_law_cell" (defArgs s__law_cell) (defBody s__law_cell) (defScope s__law_cell) [] [] (ga K "_law_cell") fd := T.c.def_ 9
theorem d__law_mixed (T : TT K mg) : ∃ fd, FunD K "_law_mixed" "_law_mixed" (defArgs s__law_mixed) (defBody s__law_mixed) (defScope s__law_mixed) [] [] (ga K "_law_mixed") fd := T.c.def_ 10
theorem d__law_twice (T : TT K mg) : ∃ fd, FunD K "_law_twice" "_law_twice" (defArgs s__law_twice) (defBody s__law_twice) (defScope s__law_twice) [] [] (ga K "_law_twice") fd := T.c.def_ 11
theorem d__law_well (T : TT K mg) : ∃ fd, FunD K "_law_well" "_law_well" (defArgs s__law_well) (defBody s__law_well) (defScope s__law_well) [] [] (ga K "_law_well") fd := T.c.def_ 12
theorem d__law_draw (T : TT K mg) : ∃ fd, FunD K "_law_draw" "_law_draw" (defArgs s__law_draw) (defBody s__law_draw) (defScope s__law_draw) [] [] (ga K "_law_draw") fd := T.c.def_ 13
theorem d__law_is_number (T : TT K mg) : ∃ fd, FunD K "_law_is_number" "_law_is_number" (defArgs s__law_is_number) (defBody s__law_is_number) (defScope s__law_is_number) [] [] (ga K "_law_is_number") fd := T.c.def_ 14
theorem d__law_spoilt_text (T : TT K mg) : ∃ fd, FunD K "_law_spoilt_text" "_law_spoilt_text" (defArgs s__law_spoilt_text) (defBody s__law_spoilt_text) (defScope s__law_spoilt_text) [] [] (ga K "_law_spoilt_text") fd := T.c.def_ 15
theorem d__law_text (T : TT K mg) : ∃ fd, FunD K "_law_text" "_law_text" (defArgs s__law_text) (defBody s__law_text) (defScope s__law_text) [] [] (ga K "_law_text") fd := T.c.def_ 16
theorem d__law_row (T : TT K mg) : ∃ fd, FunD K "_law_row" "_law_row" (defArgs s__law_row) (defBody s__law_row) (defScope s__law_row) [] [] (ga K "_law_row") fd := T.c.def_ 17
theorem d__law_is_text (T : TT K mg) : ∃ fd, FunD K "_law_is_text" "_law_is_text" (defArgs s__law_is_text) (defBody s__law_is_text) (defScope s__law_is_text) [] [] (ga K "_law_is_text") fd := T.c.def_ 18
theorem d__law_right (T : TT K mg) : ∃ fd, FunD K "_law_right" "_law_right" (defArgs s__law_right) (defBody s__law_right) (defScope s__law_right) [] [] (ga K "_law_right") fd := T.c.def_ 19
theorem d__law_is_refused (T : TT K mg) : ∃ fd, FunD K "_law_is_refused" "_law_is_refused" (defArgs s__law_is_refused) (defBody s__law_is_refused) (defScope s__law_is_refused) [] [] (ga K "_law_is_refused") fd := T.c.def_ 20
theorem d__law_good (T : TT K mg) : ∃ fd, FunD K "_law_good" "_law_good" (defArgs s__law_good) (defBody s__law_good) (defScope s__law_good) [] [] (ga K "_law_good") fd := T.c.def_ 21
theorem d_law (T : TT K mg) : ∃ fd, FunD K "law" "law" (defArgs s_law) (defBody s_law) (defScope s_law) [] [] (ga K "law") fd := T.c.def_ 22
end
end Pf
namespace Pf
open PySem PySem.Spec PyProof.Rows L2 He Cu
/-! ### the script's wells -/
def cellN (ns : List Int) (k : Int) : Int := if k < ns.length then ns.getD k.toNat 0 else 0
def mixA (c k : Int) : Int := (c + 7919 * k + 1) * 48271 % 2147483647
def mixedN (c k : Int) : Int := mixA c k * (mixA c k / 1009 + 69621) % 2147483647
def twiA (c k : Int) : Int := (mixedN c k + 104729 * k + 11) * 69621 % 2147483647
def twiceN (c k : Int) : Int := twiA c k * (twiA c k / 1013 + 48271) % 2147483647
abbrev Well := Int × Int × Int
def wellO (w : Well) : Own := .lst [.d (.int w.1), .d (.int w.2.1), .d (.int w.2.2)]
def drawV (w : Well) (m : Int) : Int := if w.1 = 0 then w.2.1 % m else twiceN w.2.1 (w.2.2 + 1) % m
def drawW (w : Well) (m : Int) : Well := if w.1 = 0 then (w.1, w.2.1 / m, w.2.2) else (w.1, w.2.1, w.2.2 + 1)
theorem draw_lo {w : Well} {m : Int} (h : 0 < m) : 0 ≤ drawV w m := by
  unfold drawV
  split <;> exact Int.emod_nonneg _ (by omega)
theorem draw_hi {w : Well} {m : Int} (h : 0 < m) : drawV w m < m := by
  unfold drawV
  split <;> exact Int.emod_lt_of_pos _ h
theorem well_cl {n : Nat} {w : Well} : ClO n (wellO w) := fun r hr => by
  rcases List.mem_cons.mp hr with h | hr
  · rw [h]; trivial
  rcases List.mem_cons.mp hr with h | hr
  · rw [h]; trivial
  rcases List.mem_cons.mp hr with h | hr
  · rw [h]; trivial
  · exact absurd hr (List.not_mem_nil)
def F_cell : Fn := fun rs S QR _ => ∃ (ns : List Int) (k : Int), rs = [.s ns, .d (.int k)] ∧ 0 ≤ k ∧ QR (.d (.int (cellN ns k))) S
def F_mixed : Fn := fun rs S QR _ => ∃ (c k : Int), rs = [.d (.int c), .d (.int k)] ∧ QR (.d (.int (mixedN c k))) S
def F_twice : Fn := fun rs S QR _ => ∃ (c k : Int), rs = [.d (.int c), .d (.int k)] ∧ QR (.d (.int (twiceN c k))) S
def F_well : Fn := fun rs S QR _ => ∃ (ns : List Int) (k : Int), rs = [.s ns, .d (.int k)] ∧ 0 ≤ k ∧ ∀ w, QR (.o S.length) (S ++ [wellO w])
def F_draw : Fn := fun rs S QR _ => ∃ (n : Nat) (w : Well) (m : Int), rs = [.o n, .d (.int m)] ∧ S[n]? = some (wellO w) ∧ 0 < m ∧ m < 1073741824 ∧ QR (.d (.int (drawV w m))) (S.set n (wellO (drawW w m)))
section
variable {P : Program} {w : World} {K : PySem.W.Frag} {mg : Str → Option Value} {base : Heap}
theorem fn__law_cell (T : TT K mg) {fd : FuncData} (Fd : FunD K "_law_cell" "_law_cell" (defArgs s__law_cell) (defBody s__law_cell) (defScope s__law_cell) [] [] (ga K "_law_cell") fd) : FnOk P w K mg base (L2.CX P w) 1 (ga K "_law_cell") fd ["_law_script", "_law_k"] (spF K 2 F_cell) := by
  refine fn_w Fd sc__law_cell fun cdv A outer s H E rs S QR QE c hc hl hF => ?_
  obtain ⟨ns, k, rfl, hk, q⟩ := hF
  refine ss_cons (ws_if (evt_lt (ev_name 1) (ev_len (z_len T) (ev_name 0) (by rfl))) (fun h => ?_) (fun h => ?_))
  · have h := of_decide_eq_true h
    refine ss_cons (ws_ret (ev_ixS (ev_name 0) (ev_name 1) (i := cellN ns k) ?_) (back_d q))
    unfold atI ixN cellN
    rw [if_pos hk, if_pos h, if_pos h]
    show ns[k.toNat]? = _
    rw [List.getElem?_eq_getElem (by omega), List.getD_eq_getElem?_getD, List.getElem?_eq_getElem (by omega)]
    rfl
  · have h := of_decide_eq_false h
    refine ss_nil (ss_cons (ws_ret ev_int (back_d ?_)))
    unfold cellN at q
    rw [if_neg h] at q
    exact q
theorem ok__law_cell (T : TT K mg) : OkF P w K mg base 1 "_law_cell" ["_law_script", "_law_k"] [] F_cell := okF_of (g__law_cell T) (d__law_cell T) (fun _ _ _ _ _ _ us hl => match us, hl with | [_, _], _ => rfl) fun fd Fd => fn__law_cell T Fd
theorem fn__law_mixed (T : TT K mg) {fd : FuncData} (Fd : FunD K "_law_mixed" "_law_mixed" (defArgs s__law_mixed) (defBody s__law_mixed) (defScope s__law_mixed) [] [] (ga K "_law_mixed") fd) : FnOk P w K mg base (L2.CX P w) 1 (ga K "_law_mixed") fd ["_law_cell_here", "_law_k"] (spF K 2 F_mixed) := by
  refine fn_w Fd sc__law_mixed fun cdv A outer s H E rs S QR QE c hc hl hF => ?_
  obtain ⟨n, k, rfl, q⟩ := hF
  have h0 : 0 ≤ mixA n k := Int.emod_nonneg _ (by decide)
  have h1 : mixA n k < 2147483647 := Int.emod_lt_of_pos _ (by decide)
  refine ss_cons (ws_set 2 c.nd (ev_mod (ev_mul (ev_add (ev_add (ev_name 0) (ev_mul ev_int (ev_name 1) (.inl (by decide)))) ev_int) ev_int (.inr (by decide))) ev_int (by decide)) ?_)
  exact ss_cons (ws_ret (ev_mod (ev_mul (ev_name 2 (r := .d (.int (mixA n k)))) (ev_add (ev_fdiv (ev_name 2) ev_int ⟨by decide, by decide⟩) ev_int) (.inl (by omega))) ev_int (by decide)) (back_d q))
theorem ok__law_mixed (T : TT K mg) : OkF P w K mg base 1 "_law_mixed" ["_law_cell_here", "_law_k"] [] F_mixed := okF_of (g__law_mixed T) (d__law_mixed T) (fun _ _ _ _ _ _ us hl => match us, hl with | [_, _], _ => rfl) fun fd Fd => fn__law_mixed T Fd
theorem fn__law_twice (T : TT K mg) {fd : FuncData} (Fd : FunD K "_law_twice" "_law_twice" (defArgs s__law_twice) (defBody s__law_twice) (defScope s__law_twice) [] [] (ga K "_law_twice") fd) : FnOk P w K mg base (L2.CX P w) 2 (ga K "_law_twice") fd ["_law_cell_here", "_law_k"] (spF K 2 F_twice) := by
  refine fn_w Fd sc__law_twice fun cdv A outer s H E rs S QR QE c hc hl hF => ?_
  obtain ⟨n, k, rfl, q⟩ := hF
  have h0 : 0 ≤ twiA n k := Int.emod_nonneg _ (by decide)
  have h1 : twiA n k < 2147483647 := Int.emod_lt_of_pos _ (by decide)
  refine ss_cons (ws_set 2 c.nd (ev_mod (ev_mul (ev_add (ev_add (ev_call c (ok__law_mixed T) (eva_cons (ev_name 0) (eva_cons (ev_name 1) eva_nil)) (fun QR QE q => ⟨_, _, rfl, q⟩)) (ev_mul ev_int (ev_name 1) (.inl (by decide)))) ev_int) ev_int (.inr (by decide))) ev_int (by decide)) ?_)
  exact ss_cons (ws_ret (ev_mod (ev_mul (ev_name 2 (r := .d (.int (twiA n k)))) (ev_add (ev_fdiv (ev_name 2) ev_int ⟨by decide, by decide⟩) ev_int) (.inl (by omega))) ev_int (by decide)) (back_d q))
theorem ok__law_twice (T : TT K mg) : OkF P w K mg base 2 "_law_twice" ["_law_cell_here", "_law_k"] [] F_twice := okF_of (g__law_twice T) (d__law_twice T) (fun _ _ _ _ _ _ us hl => match us, hl with | [_, _], _ => rfl) fun fd Fd => fn__law_twice T Fd
theorem fn__law_well (T : TT K mg) {fd : FuncData} (Fd : FunD K "_law_well" "_law_well" (defArgs s__law_well) (defBody s__law_well) (defScope s__law_well) [] [] (ga K "_law_well") fd) : FnOk P w K mg base (L2.CX P w) 2 (ga K "_law_well") fd ["_law_script", "_law_k"] (spF K 2 F_well) := by
  refine fn_w Fd sc__law_well fun cdv A outer s H E rs S QR QE c hc hl hF => ?_
  obtain ⟨ns, k, rfl, hk, q⟩ := hF
  exact ss_cons (ws_ret (ev_lstO (eva_cons (ev_mod (ev_call c (ok__law_cell T) (eva_cons (ev_name 0) (eva_cons ev_int eva_nil)) (fun QR QE q => ⟨_, _, rfl, by decide, q⟩)) ev_int (by decide)) (eva_cons (ev_call c (ok__law_cell T) (eva_cons (ev_name 0) (eva_cons (ev_name 1) eva_nil)) (fun QR QE q => ⟨_, _, rfl, hk, q⟩)) (eva_cons ev_int eva_nil))))
    (back_same (by show S.length < _; simp) (q (_, _, _))))
theorem ok__law_well (T : TT K mg) : OkF P w K mg base 2 "_law_well" ["_law_script", "_law_k"] [] F_well := okF_of (g__law_well T) (d__law_well T) (fun _ _ _ _ _ _ us hl => match us, hl with | [_, _], _ => rfl) fun fd Fd => fn__law_well T Fd
theorem fn__law_draw (T : TT K mg) {fd : FuncData} (Fd : FunD K "_law_draw" "_law_draw" (defArgs s__law_draw) (defBody s__law_draw) (defScope s__law_draw) [] [] (ga K "_law_draw") fd) : FnOk P w K mg base (L2.CX P w) 3 (ga K "_law_draw") fd ["_law_well_here", "_law_most"] (spF K 2 F_draw) := by
  refine fn_w Fd sc__law_draw fun cdv A outer s H E rs S QR QE c hc hl hF => ?_
  obtain ⟨n, ⟨a, b, d⟩, m, rfl, hw, hm0, hm1, q⟩ := hF
  refine ss_cons (ws_if (evt_eqI (ev_ixO (ev_name 0) ev_int hw (d := .d (.int a)) (by rfl)) ev_int) (fun h => ?_) (fun h => ?_))
  · have h : a = 0 := of_decide_eq_true h
    subst h
    refine ss_cons (ws_set 2 c.nd (ev_mod (ev_ixO (ev_name 0) ev_int hw (d := .d (.int b)) (by rfl)) (ev_name 1) hm0) ?_)
    refine ss_cons (ws_setIx (ev_fdiv (ev_ixO (ev_name 0) ev_int hw (d := .d (.int b)) (by rfl)) (ev_name 1) ⟨by omega, by omega⟩) (ev_name 0) ev_int hw (by rfl) ?_)
    exact ss_cons (ws_ret (ev_name 2) (back_d q))
  · have h : ¬ a = 0 := of_decide_eq_false h
    have e1 : drawV (a, b, d) m = twiceN b (d + 1) % m := if_neg h
    have e2 : drawW (a, b, d) m = (a, b, d + 1) := if_neg h
    rw [e1, e2] at q
    have hn : n < S.length := (List.getElem?_eq_some_iff.mp hw).1
    have hw2 : (S.set n (wellO (a, b, d + 1)))[n]? = some (wellO (a, b, d + 1)) := by rw [List.getElem?_set_self hn]
    refine ss_nil (ss_cons (ws_setIx (ev_add (ev_ixO (ev_name 0) ev_int hw (d := .d (.int d)) (by rfl)) ev_int) (ev_name 0) ev_int hw (by rfl) ?_))
    exact ss_cons (ws_ret (ev_mod (ev_call c (ok__law_twice T) (eva_cons (ev_ixO (ev_name 0) ev_int hw2 (d := .d (.int b)) (by rfl)) (eva_cons (ev_ixO (ev_name 0) ev_int hw2 (d := .d (.int (d + 1))) (by rfl)) eva_nil)) (fun QR QE q => ⟨_, _, rfl, q⟩)) (ev_name 1) hm0) (back_d q))
theorem ok__law_draw (T : TT K mg) : OkF P w K mg base 3 "_law_draw" ["_law_well_here", "_law_most"] [] F_draw := okF_of (g__law_draw T) (d__law_draw T) (fun _ _ _ _ _ _ us hl => match us, hl with | [_, _], _ => rfl) fun fd Fd => fn__law_draw T Fd
end
end Pf
namespace Pf
open PySem PySem.Spec PyProof.Rows L2 He Cu
def optN : Option Int → PyData
  | none => .none
  | some n => .int n
def strF (g : Str → PyData) : Cu.It → PyData
  | .d (.str x) => g x
  | _ => .none
def F_num : Fn := fun rs S QR _ => ∃ w : Str, rs = [.d (.str w)] ∧ w.length ≤ 100000 ∧ QR (.d (optN (numN w))) S
def numsN (ws : List Str) : Option (List Int) := if ws.all (fun w => (numN w).isSome) then some (ws.map fun w => (numN w).getD 0) else none
def optL : Option (List Int) → PyData
  | none => .none
  | some ns => .list (ns.map .int)
def F_nums : Fn := fun rs S QR _ => ∃ ws : List Str, rs = [.d (.list (ws.map .str))] ∧ ws.length ≤ 100000 ∧ (∀ w ∈ ws, w.length ≤ 100000) ∧ QR (.d (optL (numsN ws))) S
theorem strs_out (g : Str → PyData) (ws : List Str) : (((ws.map PyData.str).map Cu.It.d).filter fun _ => true).map (strF g) = ws.map g := by
  rw [List.filter_eq_self.mpr (fun _ _ => rfl), List.map_map, List.map_map] <;> rfl
theorem none_in (os : List (Option Int)) : inV V.non ((os.map optN).map toV) = !(os.all (·.isSome)) := by
  unfold inV
  induction os with
  | nil => rfl
  | cons o os ih =>
    rw [List.map_cons, List.map_cons, List.any_cons, ih, List.all_cons]
    cases o with
    | none => rfl
    | some n => rfl
theorem empty_tl {x : Str} : x = Str.ofString "" ↔ TL.tl x = [] := ⟨fun h => by rw [h] <;> rfl, fun h => TL.ext_tl h⟩
section
variable {P : Program} {w : World} {K : PySem.W.Frag} {mg : Str → Option Value} {base : Heap}
theorem fn_number_or_none (T : TT K mg) {fd : FuncData} (Fd : FunD K "number_or_none" "number_or_none" (defArgs s_number_or_none) (defBody s_number_or_none) (defScope s_number_or_none) [] [] (ga K "number_or_none") fd) : FnOk P w K mg base (L2.CX P w) 1 (ga K "number_or_none") fd ["word"] (spF K 1 F_num) := by
  refine fn_w Fd sc_number_or_none fun cdv A outer s H E rs S QR QE c hc hl hF => ?_
  obtain ⟨x, rfl, hx, q⟩ := hF
  refine ss_cons (ws_set 1 c.nd (ev_name 0) ?_)
  refine ss_mid (J := fun G1 S1 => G1 = [some (.d (.str x)), some (.d (.str (figS x)))] ∧ S1 = S) ?_ ?_
  · refine ws_if (evt_val (ev_startswith (ev_name 0) ev_str)) (fun h => ?_) (fun h => ss_nil ⟨?_, rfl⟩)
    · refine ss_cons (ws_set 1 c.nd (ev_slS (il := some 1) (ih := none) (ev_name 0) ev_int trivial (by omega)) (ss_nil ⟨?_, rfl⟩))
      unfold figS
      rw [if_pos h] <;> rfl
    · unfold figS
      rw [if_neg (by rw [h]; exact Bool.false_ne_true)] <;> rfl
  rintro _ _ ⟨rfl, rfl⟩
  have hf : (figS x).length ≤ 100000 := by
    unfold figS
    split
    · exact Nat.le_trans (cutS_length _ _ _) hx
    · exact hx
  have e2 : ∀ b, decide (Txt.stripChars (figS x) (Str.ofString "0123456789") = Str.ofString "") = b ↔ isDig (figS x) = b := fun b => by rw [show Str.ofString "0123456789" = figC from rfl, strip_fig]
  refine ss_cons (ws_if (k1 := decide (figS x = Str.ofString "") || (decide (40 < (figS x).length) || !isDig (figS x))) (EvT.is (evt_w (evw_or (evt_eqT (ev_name 1) ev_str) fun _ => evw_or (EvT.is (evt_gt (ev_lenS (z_len T) (ev_name 1) (by rw [sizeLine_eq]; omega)) (ev_gint (c_MOST T))) (c' := decide (40 < (figS x).length)) (decide_eq_decide.mpr (by omega))) fun _ => evw_or1 (evt_neT (ev_stripC (ev_name 1) (ev_gstr (c_FIGURES T)) (by omega)) ev_str))) (by rw [show Str.ofString "0123456789" = figC from rfl, strip_fig])) (fun h => ?_) (fun h => ss_nil ?_))
  · have : numN x = none := by
      unfold numN
      rw [if_pos]
      simp only [Bool.or_eq_true, decide_eq_true_eq, Bool.not_eq_true'] at h
      rw [empty_tl] at h
      exact h
    rw [this] at q
    exact ss_cons (ws_ret ev_none (back_d q))
  have h' : ¬ (TL.tl (figS x) = [] ∨ 40 < (figS x).length ∨ isDig (figS x) = false) := by
    rw [← empty_tl]
    intro z
    rw [Bool.or_eq_false_iff, Bool.or_eq_false_iff] at h
    rcases z with z | z | z
    · rw [decide_eq_true z] at h; cases h.1
    · rw [decide_eq_true z] at h; cases h.2.1
    · rw [z] at h; cases h.2.2
  obtain ⟨a, r, ea⟩ : ∃ a r, TL.tl (figS x) = a :: r := by
    cases e : TL.tl (figS x) with
    | nil => exact (h' (.inl e)).elim
    | cons a r => exact ⟨a, r, rfl⟩
  have hb : decide ((⟨#[a]⟩ : Str) = Str.ofString "0") = decide (a = 48) := decide_eq_decide.mpr ⟨fun z => by
    have := congrArg TL.tl z
    have e : TL.tl (Str.ofString "0") = [48] := by decide
    rw [e] at this
    exact (List.cons.inj this).1, fun z => by rw [z]; decide⟩
  refine ss_cons (ws_if (k1 := decide (a = 48) && !decide (x = Str.ofString "0")) (evt_w (evw_and (EvT.is (evt_eqT (ev_ixStr (c := a) (ev_name 1) ev_int (by rw [sizeLine_eq]; omega) (atI_nat (k := 0) rfl (by show (TL.tl (figS x))[0]? = _; rw [ea] <;> rfl))) ev_str) hb) fun _ => evw_and1 (evt_neT (ev_name 0) ev_str))) (fun h2 => ?_) (fun h2 => ss_nil ?_))
  · have : numN x = none := by
      unfold numN
      rw [if_neg h', if_pos]
      simp only [Bool.and_eq_true, decide_eq_true_eq, Bool.not_eq_true', decide_eq_false_iff_not] at h2
      exact ⟨by rw [ea, h2.1] <;> rfl, h2.2⟩
    rw [this] at q
    exact ss_cons (ws_ret ev_none (back_d q))
  · obtain ⟨n, hn, hl⟩ := num_reads (w := x) (fun z => h' (.inl z)) (Nat.le_of_not_lt fun z => h' (.inr (.inl z))) (by
      cases e : isDig (figS x) with
      | true => rfl
      | false => exact (h' (.inr (.inr e))).elim)
    have : numN x = some n := by
      unfold numN
      rw [if_neg h', if_neg, hn]
      rintro ⟨z1, z2⟩
      rw [ea] at z1
      have z1 : a = 48 := by simpa using z1
      rw [decide_eq_true z1, decide_eq_false z2] at h2
      cases h2
    rw [this] at q
    exact ss_cons (ws_ret (ev_intS (z_int T) (ev_name 0) hn (by omega)) (back_d q))
theorem ok_number_or_none (T : TT K mg) : OkF P w K mg base 1 "number_or_none" ["word"] [] F_num := okF_of (g_number_or_none T) (d_number_or_none T) (fun _ _ _ _ _ _ us hl => match us, hl with | [_], _ => rfl) fun fd Fd => fn_number_or_none T Fd
theorem fn_numbers_or_none (T : TT K mg) {fd : FuncData} (Fd : FunD K "numbers_or_none" "numbers_or_none" (defArgs s_numbers_or_none) (defBody s_numbers_or_none) (defScope s_numbers_or_none) [] [] (ga K "numbers_or_none") fd) : FnOk P w K mg base (L2.CX P w) 2 (ga K "numbers_or_none") fd ["words"] (spF K 1 F_nums) := by
  refine fn_w Fd sc_numbers_or_none fun cdv A outer s H E rs S QR QE c hc hl hF => ?_
  obtain ⟨ws, rfl, hn, hw, q⟩ := hF
  refine ss_cons (ws_setLc 1 c (blkOk_by (by rfl)) (lc_pure (own := [("word", 2)]) c (evi_list (ev_name 0)) (tg_name 2 c.nd) (fun _ => true) (strF fun w => optN (numN w)) (fun _ => trivial) (fun r hr => ?_) (by rw [List.length_map, List.length_map]; omega)) ?_)
  · obtain ⟨d, hd, rfl⟩ := List.mem_map.mp hr
    obtain ⟨v, hv, rfl⟩ := List.mem_map.mp hd
    exact ⟨_, rfl, fun L s H C cl fp => rfl, fun _ L s H C cl fp => (ev_call (c.blk _ s H C cl fp) (ok_number_or_none T) (eva_cons (ev_name 2) eva_nil) (fun QR QE q => ⟨v, rfl, hw v hv, q⟩))⟩
  rw [strs_out]
  have ei : inV V.non ((ws.map fun w => optN (numN w)).map toV) = !(ws.all fun w => (numN w).isSome) := by
    rw [show (ws.map fun w => optN (numN w)) = (ws.map numN).map optN from by rw [List.map_map] <;> rfl, none_in, List.all_map] <;> rfl
  refine ss_cons (ws_if (k1 := !(ws.all fun w => (numN w).isSome)) (EvT.is (evt_inL (x := .none) ev_none (ev_name 1) rfl (List.all_eq_true.mpr fun d hd => by
    obtain ⟨v, _, rfl⟩ := List.mem_map.mp hd
    cases numN v <;> rfl)) ei) (fun h => ?_) (fun h => ss_nil ?_))
  · have : numsN ws = none := by
      unfold numsN
      rw [if_neg (by simpa using h)]
    rw [this] at q
    exact ss_cons (ws_ret ev_none (back_d q))
  · have h : (ws.all fun w => (numN w).isSome) = true := by simpa using h
    have : numsN ws = some (ws.map fun w => (numN w).getD 0) := by
      unfold numsN
      rw [if_pos h]
    rw [this] at q
    have e : (ws.map fun w => (numN w).getD 0).map PyData.int = ws.map fun w => optN (numN w) := by
      rw [List.map_map]
      refine List.map_congr_left fun v hv => ?_
      have := List.all_eq_true.mp h v hv
      cases e : numN v with
      | none => rw [e] at this; cases this
      | some n => show PyData.int ((numN v).getD 0) = _; rw [e] <;> rfl
    have q' : QR (.d (.list (ws.map fun w => optN (numN w)))) S := by rw [← e]; exact q
    exact ss_cons (ws_ret (ev_name 1) (back_d q'))
theorem ok_numbers_or_none (T : TT K mg) : OkF P w K mg base 2 "numbers_or_none" ["words"] [] F_nums := okF_of (g_numbers_or_none T) (d_numbers_or_none T) (fun _ _ _ _ _ _ us hl => match us, hl with | [_], _ => rfl) fun fd Fd => fn_numbers_or_none T Fd
end
end Pf
/-! CuY: a comprehension of data whose list is owned. -/
namespace Cu
open PySem PySem.Spec PyProof.Rows L2
section
variable {X : Cx} {W : WX} {k j : Nat} {G : Gam} {S S1 : Sto} {rs : List It} {elt tg iter : Expr} {ifs : List Expr} {scope : Scope} {own : List (Str × Nat)}
theorem lc_pureO {bind : It → Gam → Option Gam} {C : Sto → Prop} (c : Cxo X W k) (hi : EvI X tg iter G S rs C S1) (ht : TgOk X scope tg (own.map (·.2)) bind) (f : It → Bool) (gg : It → PyData) (hC : ∀ L, C (S1 ++ L))
    (hs : ∀ r ∈ rs, ∃ G', bind r (wipeG G (own.map (·.2))) = some G' ∧ (∀ L s H C cl fp, EvTs (blkX X scope s H C cl fp) ifs G' (S1 ++ L) (f r)) ∧ (f r = true → ∀ L s H C cl fp, Ev (blkX X scope s H C cl fp) elt G' (S1 ++ L) (.d (gg r)) (S1 ++ L))) (hz : rs.length ≤ 900000) :
    LcOwn X scope own elt tg iter ifs G S S1.length (S1 ++ [.lst (((rs.filter f).map gg).map .d)]) := by
  have hat : ∀ u : Own, (S1 ++ [u])[S1.length]? = some u := fun u => by rw [List.getElem?_append_right (Nat.le_refl _), Nat.sub_self]; rfl
  have hset : ∀ u v : Own, (S1 ++ [u]).set S1.length v = S1 ++ [v] := fun u v => by rw [List.set_append_right _ _ (Nat.le_refl _), Nat.sub_self]; rfl
  refine lc_own c hi ht (fun i S' => i ≤ rs.length ∧ S' = S1 ++ [.lst ((((rs.take i).filter f).map gg).map .d)]) ⟨Nat.zero_le _, rfl⟩ (fun i S' h => by rw [h.2]; exact hC _) (fun i r S' hr hJ => ?_) (fun S' h => by rw [h.2, List.take_length])
  obtain ⟨hi', rfl⟩ := hJ
  obtain ⟨G', h1, h2, h3⟩ := hs r (List.mem_of_getElem? hr)
  have hlt := (List.getElem?_eq_some_iff.mp hr).1
  have et : rs.take (i + 1) = rs.take i ++ [r] := by rw [List.take_add_one, hr]; rfl
  refine ⟨G', f r, h1, fun s H C cl fp => h2 _ s H C cl fp, fun hf => ⟨.d (gg r), _, _, fun s H C cl fp => h3 hf _ s H C cl fp, hat _, ?_, hlt, ?_⟩, fun hf => ⟨hlt, ?_⟩⟩
  · rw [List.length_map, List.length_map]
    have := List.length_filter_le f (rs.take i)
    rw [List.length_take] at this
    omega
  · rw [hset, et, List.filter_append, List.map_append, List.map_append]
    simp [hf]
  · rw [et, List.filter_append]
    simp [hf]
end
end Cu
namespace Pf
open PySem PySem.Spec PyProof.Rows L2 He Cu
/-! ### rules, plainly -/
def tupN (ns : List Nat) : PyData := .tuple (ns.map fun (n : Nat) => .int (n : Int))
def rowsR (g w r : Nat) (ks : List (List Nat)) : List Str := rowW (Str.ofString "gap") [g] :: rowW (Str.ofString "width") [w] :: rowW (Str.ofString "rim") [r] :: ks.map (rowW (Str.ofString "keep"))
theorem nums_words {ns : List Nat} (h : ∀ n ∈ ns, n < 10 ^ 40) : numsN (wordsN ns) = some (ns.map fun (n : Nat) => (n : Int)) := by
  unfold numsN wordsN
  rw [if_pos]
  · rw [List.map_map]
    congr 1
    exact List.map_congr_left fun n hn => by
      show (numN (numS (n : Int))).getD 0 = _
      rw [numN_num (h n hn)] <;> rfl
  · rw [List.all_map]
    exact List.all_eq_true.mpr fun n hn => by
      show (numN (numS (n : Int))).isSome = true
      rw [numN_num (h n hn)] <;> rfl
structure KeepOk (k : List Nat) : Prop where
  five : ∃ x y w h z, k = [x, y, w, h, z] ∧ 1 ≤ w ∧ 1 ≤ h
  few : ∀ n ∈ k, n < 10 ^ 40
structure RulOk (g w r : Nat) (ks : List (List Nat)) : Prop where
  g2 : g ≤ 2
  w1 : 1 ≤ w
  w3 : w ≤ 3
  r1 : r ≤ 1
  few : ks.length ≤ 12
  ok : ∀ k ∈ ks, KeepOk k
theorem RulOk.rows {g w r : Nat} {ks : List (List Nat)} (o : RulOk g w r ks) : (∀ x ∈ rowsR g w r ks, x.length ≤ 300) ∧ ∀ x ∈ rowsR g w r ks, 10 ∉ TL.tl x := by
  have a := o.g2; have b := o.w3; have c := o.r1
  have one : ∀ {word : Str} {n : Nat}, word.length ≤ 40 → n ≤ 3 → (rowW word [n]).length ≤ 300 := fun {word n} h1 h2 => by
    have := row_len h1 (ns := [n]) fun m hm => by rw [List.mem_singleton.mp hm]; exact Nat.lt_of_le_of_lt h2 (by decide)
    have e : ([n] : List Nat).length = 1 := rfl
    omega
  have key : ∀ x ∈ rowsR g w r ks, x = rowW (Str.ofString "gap") [g] ∨ x = rowW (Str.ofString "width") [w] ∨ x = rowW (Str.ofString "rim") [r] ∨ ∃ k ∈ ks, x = rowW (Str.ofString "keep") k := fun x hx => by
    unfold rowsR at hx
    rcases List.mem_cons.mp hx with h | hx
    · exact .inl h
    rcases List.mem_cons.mp hx with h | hx
    · exact .inr (.inl h)
    rcases List.mem_cons.mp hx with h | hx
    · exact .inr (.inr (.inl h))
    · obtain ⟨k, hk, rfl⟩ := List.mem_map.mp hx
      exact .inr (.inr (.inr ⟨k, hk, rfl⟩))
  refine ⟨fun x hx => ?_, fun x hx => ?_⟩
  · rcases key x hx with rfl | rfl | rfl | ⟨k, hk, rfl⟩
    · exact one (by decide) (by omega)
    · exact one (by decide) (by omega)
    · exact one (by decide) (by omega)
    · obtain ⟨x, y, w', h, z, e, _⟩ := (o.ok k hk).five
      have := row_len (word := Str.ofString "keep") (by decide) (o.ok k hk).few
      rw [e] at this ⊢
      have e2 : ([x, y, w', h, z] : List Nat).length = 5 := rfl
      omega
  · rcases key x hx with rfl | rfl | rfl | ⟨k, hk, rfl⟩ <;> exact row_free (by decide) _
theorem rowsR_len (g w r : Nat) (ks : List (List Nat)) : (rowsR g w r ks).length = ks.length + 3 := by
  unfold rowsR; simp
end Pf
namespace Pf
open PySem PySem.Spec PyProof.Rows L2 Cu
theorem eqvAll_map {α : Type} [DecidableEq α] (f : α → PyData) (h : ∀ a b, PyData.eqv (f a) (f b) = decide (a = b)) : ∀ (l m : List α), PyData.eqvAll (l.map f) (m.map f) = decide (l = m)
  | [], [] => by simp [PyData.eqvAll]
  | [], _ :: _ => by simp [PyData.eqvAll]
  | _ :: _, [] => by simp [PyData.eqvAll]
  | a :: l, b :: m => by
    rw [List.map_cons, List.map_cons, PyData.eqvAll, h, eqvAll_map f h l m]
    by_cases e1 : a = b <;> by_cases e2 : l = m <;> simp [e1, e2]
theorem eqv_list {α : Type} [DecidableEq α] (f : α → PyData) (h : ∀ a b, PyData.eqv (f a) (f b) = decide (a = b)) (l m : List α) : PyData.eqv (.list (l.map f)) (.list (m.map f)) = decide (l = m) := by
  rw [PyData.eqv]; exact eqvAll_map f h l m
theorem eqv_int (a b : Int) : PyData.eqv (.int a) (.int b) = decide (a = b) := by
  rw [PyData.eqv]
  by_cases h : a = b <;> simp [h]
theorem shaped_all {ds : List PyData} (h : ∀ d ∈ ds, PyData.canLay0 d = true ∧ d.depth ≤ 50) : PyData.canLayAll0 ds = true ∧ PyData.depthAll ds ≤ 50 := by
  induction ds with
  | nil => exact ⟨by simp only [PyData.canLayAll0], by simp only [PyData.depthAll]; exact Nat.zero_le _⟩
  | cons x xs ih =>
    obtain ⟨i1, i2⟩ := ih fun d hd => h d (List.mem_cons_of_mem _ hd)
    obtain ⟨j1, j2⟩ := h x List.mem_cons_self
    exact ⟨by simp only [PyData.canLayAll0, i1, j1]; rfl, by simp only [PyData.depthAll]; exact Nat.max_le.mpr ⟨j2, i2⟩⟩
theorem shaped_list {ds : List PyData} (h : ∀ d ∈ ds, PyData.canLay0 d = true ∧ d.depth ≤ 50) : SeqAt.shaped (.list ds) = true := by
  obtain ⟨h1, h2⟩ := shaped_all h
  unfold SeqAt.shaped
  rw [show PyData.canLay0 (.list ds) = PyData.canLayAll0 ds by simp only [PyData.canLay0], h1, show PyData.depth (.list ds) = PyData.depthAll ds + 1 by simp only [PyData.depth], decide_eq_true (by omega)]; rfl
theorem shaped_tup {ds : List PyData} (h : ∀ d ∈ ds, PyData.canLay0 d = true ∧ d.depth ≤ 50) : SeqAt.shaped (.tuple ds) = true := by
  obtain ⟨h1, h2⟩ := shaped_all h
  unfold SeqAt.shaped
  rw [show PyData.canLay0 (.tuple ds) = PyData.canLayAll0 ds by simp only [PyData.canLay0], h1, show PyData.depth (.tuple ds) = PyData.depthAll ds + 1 by simp only [PyData.depth], decide_eq_true (by omega)]; rfl
theorem lay_int (i : Int) : PyData.canLay0 (.int i) = true ∧ (PyData.int i).depth ≤ 50 := ⟨by simp only [PyData.canLay0], by simp only [PyData.depth]; exact Nat.zero_le _⟩
theorem lay_tup {ds : List PyData} (h : ∀ d ∈ ds, ∃ i, d = .int i) : PyData.canLay0 (.tuple ds) = true ∧ (PyData.tuple ds).depth ≤ 50 := by
  have h1 : PyData.canLayAll0 ds = true ∧ PyData.depthAll ds = 0 := by
    induction ds with
    | nil => exact ⟨by simp only [PyData.canLayAll0], by simp only [PyData.depthAll]⟩
    | cons x xs ih =>
      obtain ⟨i1, i2⟩ := ih fun d hd => h d (List.mem_cons_of_mem _ hd)
      obtain ⟨i, rfl⟩ := h x List.mem_cons_self
      exact ⟨by simp only [PyData.canLayAll0, PyData.canLay0, i1]; rfl, by simp only [PyData.depthAll, PyData.depth, i2]; rfl⟩
  exact ⟨by simp only [PyData.canLay0]; exact h1.1, by simp only [PyData.depth]; rw [h1.2]; decide⟩
theorem shaped_ints (l : List Int) : SeqAt.shaped (.tuple (l.map .int)) = true := shaped_tup fun d hd => by
  obtain ⟨i, _, rfl⟩ := List.mem_map.mp hd
  exact lay_int i
/-! ### filled, same_as, turned, mirrored -/
theorem lay_list {ds : List PyData} (h : ∀ d ∈ ds, PyData.canLay0 d = true ∧ d.depth ≤ 40) : PyData.canLay0 (.list ds) = true ∧ (PyData.list ds).depth ≤ 50 := by
  have h1 : PyData.canLayAll0 ds = true ∧ PyData.depthAll ds ≤ 40 := by
    induction ds with
    | nil => exact ⟨by simp only [PyData.canLayAll0], by simp only [PyData.depthAll]; exact Nat.zero_le _⟩
    | cons x xs ih =>
      obtain ⟨i1, i2⟩ := ih fun d hd => h d (List.mem_cons_of_mem _ hd)
      obtain ⟨j1, j2⟩ := h x List.mem_cons_self
      exact ⟨by simp only [PyData.canLayAll0, i1, j1]; rfl, by simp only [PyData.depthAll]; exact Nat.max_le.mpr ⟨j2, i2⟩⟩
  exact ⟨by simp only [PyData.canLay0]; exact h1.1, by simp only [PyData.depth]; have := h1.2; omega⟩
theorem tup_depth {ds : List PyData} (h : ∀ d ∈ ds, ∃ i, d = .int i) : (PyData.tuple ds).depth ≤ 40 := by
  have h1 : PyData.depthAll ds = 0 := by
    induction ds with
    | nil => simp only [PyData.depthAll]
    | cons x xs ih =>
      have i2 := ih fun d hd => h d (List.mem_cons_of_mem _ hd)
      obtain ⟨i, rfl⟩ := h x List.mem_cons_self
      simp only [PyData.depthAll, PyData.depth, i2]; rfl
  simp only [PyData.depth]; rw [h1]; decide
end Pf
/-! CvG: x = [..], an owned list. -/
namespace Cu
open PySem PySem.Spec PyProof.Rows L2
section
variable {X : Cx} {W : WX} {k : Nat} {G : Gam} {S S2 : Sto} {P : Post} {elt tg iter : Expr} {ifs : List Expr} {scope : Scope} {own : List (Str × Nat)} {pos pos' apos : Pos}
/-- x = [..], an owned list -/
theorem ws_setLcO {l : Nat} (i : Nat) {n : Str} (c : Cxo X W k) (ok : BlkOk X.N X.env.scope scope own) (h : LcOwn X scope own elt tg iter ifs G S l S2) (q : P.nx (G.set i (some (.o l))) S2) (hy : X.N[i]? = some n := by rfl) (hyl : X.env.scope.names.lookup n = some .local := by rfl)
    (hsw : swapsWith (.ListComp elt [⟨tg, iter, ifs, 0⟩] scope pos) (some (.Name n pos')) apos.line X.env = pure true := by exact sw_true rfl rfl rfl (by decide +kernel)) (hf : ∀ x, foldedSetIterable iter X.env x = pure x := by intro _; rfl) : WS X W (.Assign [.Name n pos'] (.ListComp elt [⟨tg, iter, ifs, 0⟩] scope pos) apos) G S P := fun M σ H D s m => by
  obtain ⟨wi, g, hpi, hpg, h⟩ := h.ex
  exact toS (ps_setLc (i := i) c.calm c.nd hy hyl hsw hpi ok hpg pts_tTs pe_tEl hf) (h M σ H _ s fun v M1 H1 e1 t1 r1 => m.nx M1 _ H1 _ S2 e1 (t1.set r1) q)
end
end Cu
/-! CvH: a text times a number; a sign that is not in a text. -/
namespace Cu
open PySem PySem.Spec PyProof.Rows L2
/-- a text, so often -/
def repS (x : Str) (n : Nat) : Str := ⟨(List.replicate n x.cps).foldl (· ++ ·) #[]⟩
theorem rep_size (a : Array Nat) : ∀ (n : Nat) (b : Array Nat), ((List.replicate n a).foldl (· ++ ·) b).size = b.size + a.size * n
  | 0, b => by show b.size = _; omega
  | n + 1, b => by
    rw [List.replicate_succ, List.foldl_cons, rep_size a n, Array.size_append, Nat.mul_succ]
    omega
theorem repS_len (x : Str) (n : Nat) : (repS x n).length = x.length * n := by
  show ((List.replicate n x.cps).foldl (· ++ ·) #[]).size = _
  rw [rep_size]
  show 0 + x.cps.size * n = x.cps.size * n
  omega
section
variable {X : Cx} {W : WX} {k : Nat} {G : Gam} {S S1 S2 : Sto} {a b e : Expr} {p pos : Pos} {x y : Str} {n : Int}
theorem op_mulS : OpR X (binaryOp .Mult) (fun x y H Q => ∃ (i : Str) (n : Int), x = .str i ∧ y = .int n ∧ 2 ≤ n ∧ n ≤ 1000 ∧ 0 < i.length ∧ i.length ≤ 1000 ∧ Q (.str (repS i n.toNat)) H) := by
  intro pins s σ H x y v u Q I rx ry h
  obtain ⟨i, n, rfl, rfl, h1, h2, h3, h4, q⟩ := h
  obtain ⟨t, rfl⟩ := rx
  obtain ⟨t', rfl⟩ := ry
  have e1 : (n == 1 || i.length == 0) = false := by
    rw [Bool.or_eq_false_iff]
    exact ⟨beq_eq_false_iff_ne.mpr (by omega), beq_eq_false_iff_ne.mpr (by omega)⟩
  have hm : i.length * n.toNat ≤ 1000 * 1000 := Nat.mul_le_mul h4 (by omega)
  refine PySem.P.mul_str (by rw [decide_eq_false (by omega), decide_eq_false (by omega)]; rfl) (fun _ _ => ?_) (fun _ _ => ?_) ?_
  · have hm2 : (i.length : Int) * n ≤ 1000 * 1000 := Int.mul_le_mul (by omega) h2 (by omega) (by decide)
    have : (i.length : Int) ≤ (2 ^ 63 - 1) / n := (Int.le_ediv_iff_mul_le (by omega)).mpr (by omega)
    omega
  · unfold Builtin.Str.tooLong
    exact decide_eq_false (by rw [sizeLine_eq]; omega)
  · rw [if_neg (by omega), e1, if_neg Bool.false_ne_true]
    refine ⟨?_, ⟨.str (repS i n.toNat), H, I.tok _, ⟨_, rfl⟩, q⟩⟩
    show (repS i n.toNat).length ≤ _
    rw [repS_len]
    first | (rw [sizeLine_eq]; omega) | omega
theorem ev_mulS (ha : Ev X a G S (.d (.str x)) S1) (hb : Ev X b G S1 (.d (.int n)) S2) (h1 : 2 ≤ n) (h2 : n ≤ 1000) (h3 : 0 < x.length) (h4 : x.length ≤ 1000) : Ev X (.BinOp a .Mult b pos) G S (.d (.str (repS x n.toNat))) S2 := ev_op op_mulS ha hb fun M H v u Q s hv hu q =>
  ⟨x, n, vr_str hv, vr_int hu, h1, h2, h3, h4, q _ M H Ext.refl s (Fz.str _)⟩
theorem evt_inSign {c : Nat} (ha : Ev X a G S (.d (.str ⟨#[c]⟩)) S1) (hb : Ev X b G S1 (.d (.str y)) S2) (hm : behindInMarks .In b = false := by rfl) : EvT X (.Compare a [.In] [b] pos) G S (decide (c ∈ y.cps.toList)) S2 := evt_cmp op_in_sign ha hb (fun M H v u Q s hv hu q => ⟨c, y, vr_str hv, vr_str hu, q _ M H Ext.refl s (Fz.bl _)⟩) hm
theorem evt_notInSign {c : Nat} (ha : Ev X a G S (.d (.str ⟨#[c]⟩)) S1) (hb : Ev X b G S1 (.d (.str y)) S2) (hm : behindInMarks .NotIn b = false := by rfl) : EvT X (.Compare a [.NotIn] [b] pos) G S (!decide (c ∈ y.cps.toList)) S2 := evt_cmp op_notIn_sign ha hb (fun M H v u Q s hv hu q => ⟨c, y, vr_str hv, vr_str hu, q _ M H Ext.refl s (Fz.bl _)⟩) hm
end
end Cu
/-! CvI: a def called in an except suite, that raises nothing and loops nowhere; it may get the error. -/
namespace Cu
open PySem PySem.Spec PyProof.Rows L2
/-- such a def's promise; p: the error at hand -/
structure FnQ (P : Program) (w : World) (K : PySem.W.Frag) (mg : Str → Option Value) (base : Heap) (k : Nat) (f : Addr) (fd : FuncData) (ps : List Str) (sp : Addr × Obj → Sp) : Prop where
  many : ∀ p vs H Q E, sp p vs H Q E → vs.length = ps.length
  does : ∀ (A : Around) (outer : List Env) (s : Shared) (H : Hp) (args : Args) (us : List Value) (vs : List V) (Q : VK) (E : XK) (p : Addr × Obj), L2H.RoomH k A → L2H.PinOk outer H s p → Env0 P w K mg base A outer s H →
    BindsTo s fd args (ps.zip us) → L2.Vals vs us → sp p vs H Q E → codeAny (model P w) A (.call (.ref f) args) (CR (L2.CX P w) outer P w H s Q E) s
/-- the context of its body -/
abbrev cxQ (P : Program) (w : World) (K : PySem.W.Frag) (mg : Str → Option Value) (base : Heap) (N : List Str) (qual : Str) (scope : Scope) (f : Addr) (cdv : Value) (A : Around) (outer : List Env) (s : Shared) (H : Hp) (E : XK) (p : Addr × Obj) : Cx :=
  L2H.cxH (L2.CX P w) P w K mg base N qual scope f cdv A outer s H E p
section
variable {P : Program} {w : World} {K : PySem.W.Frag} {mg : Str → Option Value} {base : Heap} {x qual : Str} {params : Arguments} {body : List Stmt} {scope : Scope} {dvs : List V} {kws : List (Str × V)} {f : Addr} {fd : FuncData}
theorem fn_quiet {N ps : List Str} {k : Nat} {sp : Addr × Obj → Sp} (Fd : FunD K x qual params body scope dvs kws f fd) (Sc : FnScope N ps scope) (many : ∀ p vs H Q E, sp p vs H Q E → vs.length = ps.length)
    (hb : ∀ (cdv : Value) (A : Around) (outer : List Env) (s : Shared) (H : Hp) (vs : List V) (Q : VK) (E : XK) (p : Addr × Obj), L2H.RoomH k (A.deeper (envOfC qual scope s.heap.objs.size f cdv)) → sp p vs H Q E →
      sSs (cxQ P w K mg base N qual scope f cdv A outer s H E p) body { nx := fun _ H' => Q .non H', rt := Q } (L2.start N vs) H) : FnQ P w K mg base (k + 1) f fd ps sp := by
  obtain ⟨oc, od, dV, kV, doc, pm, an, cdv, ct, osl, rfl, lk, hcd, _, _⟩ := Fd.ex
  refine ⟨many, fun A outer s H args us vs Q E p hr hp e0 bt rv hs => ?_⟩
  have nm := many _ _ _ _ _ hs
  have inK : K.In s.heap := e0.mod.kin.keeps fun b o z => (e0.bs b o z).1
  refine codeAny_call_function hr.depth (inK _ _ lk) rfl Sc.co Sc.gen rfl (PySem.W.codeRec_of inK hcd) (bt _ _ _ _ (wpAny_newFunctionEnv_cells Sc.kind ?_ ?_))
  · rintro ⟨n, v⟩ hy
    rcases Sc.par n (List.of_mem_zip hy).1 with q | q
    · exact .inl q
    · exact .inr ⟨q, PySem.W.cellsFrom_some _ _ _ (.inl q)⟩
  · intro env he s1 z
    subst he
    refine ⟨(e0.mod.nolimit.keeps fun b o y => (e0.bs b o y).1).keeps z.toInCall.keep, codeAny_func ?_⟩
    refine wpAny_mono (hb cdv A outer s H vs Q E p (hr.deeper _) hs [] s1 (L2H.inv_startH Sc hp e0 nm rv z)) (fun fl t ht => ?_) fun _ _ y => y
    cases fl with
    | brk => obtain ⟨_, _, _, y⟩ := ht; exact y.elim
    | cont => obtain ⟨_, _, _, y⟩ := ht; exact y.elim
    | next =>
      obtain ⟨σ1, H1, J, y⟩ := ht
      exact ⟨.non, H1, J.os, J.bare, J.base, J.hok, rfl, y⟩
    | ret u =>
      obtain ⟨v1, σ1, H1, J, rr, y⟩ := ht
      exact ⟨v1, H1, J.os, J.bare, J.base, J.hok, rr, y⟩
/-- THE RULE for such a def -/
theorem fn_wQ {F : Addr × Obj → Fn} {N ps : List Str} {k : Nat} (Fd : FunD K x qual params body scope dvs kws f fd) (Sc : FnScope N ps scope)
    (h : ∀ (cdv : Value) (A : Around) (outer : List Env) (s : Shared) (H : Hp) (E : XK) (p : Addr × Obj) (rs : List It) (S : Sto) (QR : It → Sto → Prop), L2H.RoomH k (A.deeper (envOfC qual scope s.heap.objs.size f cdv)) →
      rs.length = ps.length → F p rs S QR (fun _ _ => False) → ClS S → WSs (cxQ P w K mg base N qual scope f cdv A outer s H E p) (fun _ _ _ _ => False) body (startG N rs) S ⟨fun _ S' => Back S.length S' (.d .none) QR, fun r S' => Back S.length S' r QR, fun _ _ => False, fun _ _ => False, fun _ _ _ => False⟩)
    (hq : ∀ p rs S QR QE, F p rs S QR QE → F p rs S QR fun _ _ => False) : FnQ P w K mg base (k + 1) f fd ps (fun p => spF K ps.length (F p)) := by
  refine fn_quiet Fd Sc (fun p vs H Q E hs => ?_) (fun cdv A outer s H vs Q E p hr hs => ?_)
  · obtain ⟨M, S, rs, _, h2, h3, _⟩ := hs
    rw [h2.len, h3]
  · obtain ⟨M, S, rs, h1, h2, h3, hF⟩ := hs
    have out : ∀ {v : V} {M' : List Addr} {H' : Hp} {r : It} {S' : Sto}, Ext M H M' H' → StoreOk K M' H' S' → VRep K M' H' v r → Back S.length S' r (fun r S' => ∀ v M' H', Ext M H M' H' → StoreOk K M' H' S' → VRep K M' H' v r → Q v H') → Q v H' := by
      intro v M' H' r S' e s' hv hb
      obtain ⟨S1, L, r1, rfl, hn, hc, hr1, q⟩ := hb
      refine q v (M'.take S1.length) H' (e.take (by rw [h1.len]; exact hn)) (s'.take (hc s'.closed)) ?_
      rcases hr1 with ⟨rfl, hcl⟩ | ⟨z, rfl, hd⟩
      · exact hv.take hcl
      · exact Den.fz s' hd hv
    exact h cdv A outer s H E p rs S _ hr h3 (hq _ _ _ _ _ hF) h1.closed M (L2.start N vs) H _ (stt_start h1 N h2) ⟨fun M' σ' H' G' S' e t q => out (v := .non) (r := .d .none) e t.sto Fz.non q, fun v M' H' r S' e t hv q => out e t hv q, fun _ _ _ _ _ _ _ q => q.elim, fun _ _ _ _ _ _ _ q => q.elim, fun _ _ _ _ _ _ _ _ q => q.elim⟩
/-- by its name -/
structure OkQ (P : Program) (w : World) (K : PySem.W.Frag) (mg : Str → Option Value) (base : Heap) (k : Nat) (x : Str) (ps : List Str) (F : Addr × Obj → Fn) : Prop where
  ex : ∃ (f : Addr) (fd : FuncData), mg x = some (.ref f) ∧ PySem.W.keepIn K (.ref f) = true ∧ Binds K fd ps [] ∧ FnQ P w K mg base k f fd ps (fun p => spF K ps.length (F p))
end
section
variable {X : Cx} {W : WX} {k j : Nat} {G : Gam} {S S1 S2 : Sto} {e a b o : Expr} {es : List Expr} {r : It} {rs : List It} {p pos apos cpos : Pos} {n : Str} {ps : List Str} {F : Addr × Obj → Fn}
/-- its call, in the suite -/
theorem ev_callQ {ad : Addr} {oe : Obj} {pn : List (Addr × Obj)} (c : Cxo X W k) (hf : ∃ vs, oe.data = .fields vs) (O : OkQ X.prog X.w X.K X.mg X.base j n ps F) (ha : EvA (suX X ad oe pn) (e :: es) G S rs S1)
    (hF : ∀ (QR : It → Sto → Prop) (QE : Addr → Sto → Prop), QR r S2 → F (ad, oe) rs S1 QR QE) (hj : j ≤ k := by decide) (hl : rs.length = ps.length := by rfl) (hg : Gl X n := by rfl) (hdb : (n == ("__debug__" : Str)) = false := by decide)
    (he : starEach (e :: es) X.env = (false, eval e X.env) :: starEach es X.env := by rfl) (hpl : (backTo pos (starEach es X.env)).any (·.1) = false := by rfl) : Ev (suX X ad oe pn) (.Call (.Name n p) (e :: es) [] pos) G S r S2 := fun M σ H Q s q pins s0 I => by
  obtain ⟨f, fd, hm, hk, hb, fq⟩ := O.ex
  refine wpAny_Call_Name_kw (ld_glob (X := suX X ad oe pn) I hg hm ?_ hdb)
  refine PySem.W.callWith_K (h₀ := X.base) I.ok.mod.kin hk ?_ he hpl
  refine thn ((pa_s (X := suX X ad oe pn) (es := e :: es)).run pos pins s0 σ H _ I (ha M σ H (fun vs H1 => ∃ M1, Ext M H M1 H1 ∧ Stt X.K M1 H1 S1 G σ ∧ VReps X.K M1 H1 vs rs) s fun vs M' H' e' s' r' => ⟨M', e', s', r'⟩)) fun us s1 ⟨vs, H1, I1, r1, M1, e1, t1, q1⟩ => ⟨I1.kIn, ?_⟩
  have hlen : vs.length = ps.length := by rw [q1.len, hl]
  have bt := hb s1 us I1.kIn (by rw [List.append_nil, ← r1.length]; exact hlen)
  rw [List.append_nil] at bt
  have pk := I1.pin (ad, oe) (List.mem_append_left _ List.mem_cons_self)
  have hp : L2H.PinOk X.stack H1 s1 (ad, oe) := ⟨pk.1, pk.2.1, fun hm => (List.mem_cons.mp (I1.stkSub _ hm)).elim pk.2.2.1 pk.2.2.2.1, pk.2.2.2.2⟩
  have hr : L2H.RoomH j (suX X ad oe pn).A := by
    have := L2H.roomH_of (c.hr.mono hj)
    exact ⟨this.dp, this.un⟩
  refine wpAny_call (codeAny_mono (fq.does _ X.stack s1 H1 ⟨us, []⟩ us vs (fun v H2 => Q v H2) (fun _ _ _ => False) (ad, oe) hr hp I1.env0 bt r1 ?_) fun u s2 hu => ?_)
  · exact ⟨M1, S1, rs, t1.sto, q1, hl, hF _ _ fun v M2 H2 e2 s2 hv => q v M2 H2 (e1.trans e2) (t1.mono e2 s2) hv⟩
  · cases u with
    | error z =>
      obtain ⟨_, _, _, _, _, _, _, _, _, _, _, _, y⟩ := (show L2.CX _ _ _ _ _ _ _ _ from hu)
      exact y.elim
    | ok fl =>
      cases fl with
      | ret u => exact I1.after hu
      | next => exact (show False from hu).elim
      | brk => exact (show False from hu).elim
      | cont => exact (show False from hu).elim
end
/-! ### in its body: isinstance of the error -/
section
variable {P : Program} {w : World} {K : PySem.W.Frag} {mg : Str → Option Value} {base : Heap} {N : List Str} {qual : Str} {scope : Scope} {f : Addr} {cdv : Value} {A : Around} {outer : List Env} {s0 : Shared} {H0 : Hp} {E : XK} {ad : Addr} {oe : Obj} {G : Gam} {S S1 S2 : Sto} {a b : Expr} {r : It} {p pos : Pos}
theorem call_isQ {D : Addr} (C : ExcC K D) (hz : Zc (.ref D) none oe) (hf : ∃ vs, oe.data = .fields vs) : CallR (cxQ P w K mg base N qual scope f cdv A outer s0 H0 E (ad, oe)) (.builtin "isinstance") (fun xs H Q => ∃ (c : V) (cv : Value) (b : Bool), xs = [.ref ad, c] ∧ (∀ u, RelV c u → u = cv) ∧ PySem.W.kitOne K (.ref D) cv = some b ∧ Q (.bl b) H) := by
  intro pins s σ H xs us Q I rx h
  obtain ⟨c, cv, b, rfl, hc, hk, q⟩ := h
  obtain ⟨u1, u2, rfl, r1, r2⟩ := vals2 rx
  cases (show u1 = Value.ref ad from r1)
  obtain rfl := hc u2 r2
  have hget := (I.pin (ad, oe) (List.mem_append.mpr (.inl List.mem_cons_self))).1
  obtain ⟨vs, hv⟩ := hf
  have J : PySem.W.InstAt s.heap ad oe D none := by
    obtain ⟨oc, od, oda, osl⟩ := oe
    obtain ⟨h1, h2⟩ := hz
    dsimp only at h1 h2 hv
    subst h1 h2 hv
    exact ⟨hget, rfl, rfl, trivial⟩
  exact PySem.W.kia_one (PySem.W.handS_kitx_exc C.hg C.hk C.hs C.hd C.ha C.hn C.ht C.hm) I.kIn J hk (fun z => nomatch z) fun tk => ⟨.bl b, H, I.kept (t' := tk) fun _ _ z => z, rfl, q⟩
/-- isinstance(e, c) -/
theorem ev_isQ {D : Addr} {cv : Value} {kk : Bool} (C : ExcC K D) (hz : Zc (.ref D) none oe) (hf : ∃ vs, oe.data = .fields vs) (hm : mg "isinstance" = none) (ha : Ev (cxQ P w K mg base N qual scope f cdv A outer s0 H0 E (ad, oe)) a G S (.r (.ref ad)) S1)
    (hb : Ev (cxQ P w K mg base N qual scope f cdv A outer s0 H0 E (ad, oe)) b G S1 r S2) (hr : clsVal r = some cv) (hk : PySem.W.kitOne K (.ref D) cv = some kk)
    (hg : Gl (cxQ P w K mg base N qual scope f cdv A outer s0 H0 E (ad, oe)) "isinstance" := by rfl) (he : starEach [a, b] (cxQ P w K mg base N qual scope f cdv A outer s0 H0 E (ad, oe)).env = (false, eval a (cxQ P w K mg base N qual scope f cdv A outer s0 H0 E (ad, oe)).env) :: starEach [b] (cxQ P w K mg base N qual scope f cdv A outer s0 H0 E (ad, oe)).env := by rfl)
    (he2 : starEach [b] (cxQ P w K mg base N qual scope f cdv A outer s0 H0 E (ad, oe)).env = (false, eval b (cxQ P w K mg base N qual scope f cdv A outer s0 H0 E (ad, oe)).env) :: starEach [] (cxQ P w K mg base N qual scope f cdv A outer s0 H0 E (ad, oe)).env := by rfl)
    (hpl : (backTo pos (starEach [b] (cxQ P w K mg base N qual scope f cdv A outer s0 H0 E (ad, oe)).env)).any (·.1) = false := by rfl) :
    Ev (cxQ P w K mg base N qual scope f cdv A outer s0 H0 E (ad, oe)) (.Call (.Name "isinstance" p) [a, b] [] pos) G S (.d (.bool kk)) S2 :=
  ev_blt (call_isQ C hz hf) hm (by decide +kernel) (eva_cons ha (eva_cons hb eva_nil he2) he) (fun M H vs Q s hv q => by
    obtain ⟨v, u, rfl, h1, h2⟩ := vr2 hv
    obtain rfl : v = .ref ad := h1
    refine ⟨u, cv, kk, rfl, fun z hz => ?_, hk, q _ M H Ext.refl s (Fz.bl _)⟩
    cases r with
    | r x =>
      obtain rfl : u = x := h2
      cases u <;> first | (cases hr; exact hz) | cases hr
    | _ => cases hr) hg (by decide) (by decide) he hpl
end
/-! ### how often a truth is in a list of truths, and where -/
def eqB (k : Bool) : Value → Bool
  | .bool b => b == k
  | .int i _ => i == (if k then 1 else 0)
  | _ => false
theorem bools_of {bs : List Bool} {its : List Value} (h : L2.Vals (bs.map V.bl) its) : its = bs.map Value.bool := by
  induction bs generalizing its with
  | nil => cases h; rfl
  | cons b bs ih =>
    cases h with
    | cons h1 h2 => rw [List.map_cons, ih h2]; cases h1; rfl
section
variable {X : Cx} {G : Gam} {S S1 S2 : Sto} {o e : Expr} {r : It} {apos cpos : Pos}
theorem mt_countB : MtR X "list.count" (fun x xs H Q => ∃ (p : Addr) (bs : List Bool) (k : Bool), x = .ref p ∧ xs = [.bl k] ∧ SqL X.K H p (bs.map V.bl) ∧ Q (.int (bs.count k : Nat)) H) := by
  intro pins s σ H x xs v us Q I rx rxs h
  obtain ⟨p, bs, k, rfl, rfl, hs, q⟩ := h
  cases rx
  obtain ⟨u, rfl, ru⟩ := rxs.one
  cases ru
  obtain ⟨its, rv, ⟨⟨cls, dd, data, sl⟩, n, ho, hc, hdn, hd⟩, hlen⟩ := I.list hs
  simp only at hc hd
  subst hc hd
  have hb := bools_of rv
  have ec : its.toArray.toList.countP (eqB k) = bs.count k := by
    show its.countP (eqB k) = _
    rw [hb, List.countP_map]
    rfl
  refine call_meets PySem.F.slot_list_count ⟨_, ho, rfl⟩ PySem.F.entry_list_count (PySem.F.args_list_count_2 _ _)
    (SeqAt.list_countAt p its.toArray n dd sl (.bool k) (eqB k)) ⟨ho, fun y hy => ?_, ?_⟩
  · have hy : y ∈ its := by simpa using hy
    rw [hb] at hy
    obtain ⟨b, _, rfl⟩ := List.mem_map.mp hy
    exact eqAt_V (y := .bl b) (x := .bl k) rfl rfl rfl rfl
  · refine ⟨.int (bs.count k : Nat), H, I.tok _, ⟨s.toks, ?_⟩, q⟩
    show Value.int ((its.toArray.toList.countP (eqB k) : Nat) : Int) s.toks = _
    rw [ec]
/-- xs.count(k) -/
theorem ev_countB {i : Nat} {bs : List Bool} {k : Bool} (ho : Ev X o G S (.o i) S1) (hi : S1[i]? = some (.lst ((bs.map .bool).map .d))) (ha : Ev X e G S1 (.d (.bool k)) S1) (hbase : attributeBase o "count" X.env (eval o X.env) = eval o X.env := by rfl)
    (hfew : ((backTo cpos (starEach [e] X.env)).all (fun x => !x.1) && (backToKw cpos (keywordEach [] X.env)).all (fun x => x.1.isSome) && decide ([e].length + ([] : List Keyword).length + (if ([] : List Keyword).isEmpty then 0 else 1) < 30)) = true := by rfl)
    (hline : (apos.endLine == cpos.line) = true := by rfl) (hs : starEach [e] X.env = (false, eval e X.env) :: starEach [] X.env := by rfl) : Ev X (.Call (.Attribute o "count" apos) [e] [] cpos) G S (.d (.int (bs.count k : Nat))) S1 :=
  ev_bm PySem.F.plainAttrs_list PySem.F.slot_list_count PySem.F.type_list_count mt_countB ho (ty_own hi) (eva_cons ha eva_nil hs) (fun M H v vs Q s hv hvs q => by
    obtain ⟨u, rfl, hu⟩ := vr1 hvs
    obtain ⟨ad, xs, rfl, h3, h4⟩ := ls_rd s hv (ls_own hi)
    exact ⟨ad, bs, k, rfl, by rw [vr_bool hu], .inl (by rw [← fz_bools h4]; exact h3), q _ M H Ext.refl s (Fz.int _)⟩) hbase hfew hline hs rfl
/-- xs.index(k) -/
theorem ev_indexB {i j : Nat} {bs : List Bool} {k : Bool} (ho : Ev X o G S (.o i) S1) (hi : S1[i]? = some (.lst ((bs.map .bool).map .d))) (ha : Ev X e G S1 (.d (.bool k)) S1) (hj : bs[j]? = some k) (hno : ∀ m, m < j → bs[m]? ≠ some k) (hbase : attributeBase o "index" X.env (eval o X.env) = eval o X.env := by rfl)
    (hfew : ((backTo cpos (starEach [e] X.env)).all (fun x => !x.1) && (backToKw cpos (keywordEach [] X.env)).all (fun x => x.1.isSome) && decide ([e].length + ([] : List Keyword).length + (if ([] : List Keyword).isEmpty then 0 else 1) < 30)) = true := by rfl)
    (hline : (apos.endLine == cpos.line) = true := by rfl) (hs : starEach [e] X.env = (false, eval e X.env) :: starEach [] X.env := by rfl) : Ev X (.Call (.Attribute o "index" apos) [e] [] cpos) G S (.d (.int (j : Nat))) S1 :=
  ev_bm PySem.F.plainAttrs_list PySem.F.slot_list_index PySem.F.type_list_index mt_index ho (ty_own hi) (eva_cons ha eva_nil hs) (fun M H v vs Q s hv hvs q => by
    obtain ⟨u, rfl, hu⟩ := vr1 hvs
    obtain ⟨ad, xs, rfl, h3, h4⟩ := ls_rd s hv (ls_own hi)
    refine ⟨ad, bs.map V.bl, .bl k, j, .bl k, rfl, by rw [vr_bool hu], .inl (by rw [← fz_bools h4]; exact h3), rfl, ?_, by rw [List.getElem?_map, hj]; rfl, by show (k == k) = true; exact beq_self_eq_true k, fun m z' hm hz => ?_, q _ M H Ext.refl s (Fz.int _)⟩
    · rw [List.all_map]
      exact List.all_eq_true.mpr fun _ _ => rfl
    · rw [List.getElem?_map] at hz
      cases e : bs[m]? with
      | none => rw [e] at hz; cases hz
      | some b =>
        rw [e] at hz
        cases hz
        show (b == k) = false
        have := hno m hm
        rw [e] at this
        exact beq_eq_false_iff_ne.mpr fun z => this (by rw [z])) hbase hfew hline hs rfl
end
end Cu
/-! CyA: what is walked while an exception is handled: lists, texts, ranges with a step. -/
namespace Cu
open PySem PySem.Spec PyProof.Rows L2 HotX L2H
section
variable {prog : Program} {w : World} {A : Around} {E : Value → Shared → Prop} {s : Shared}
/-- a StopIteration raised there -/
theorem stop_hot {α : Type} {x1 : Addr} {Q : α → Shared → Prop} (hot : HotAt A x1 s.heap)
    (q : ∀ (a : Addr) (h' : Heap), (∀ b o, s.heap.get? b = some o → h'.get? b = some o) → ({ s with heap := h' } : Shared).TypeIs (.ref a) "StopIteration" → E (.ref a) { s with heap := h' }) :
    wpAny (model prog w) A (newExc (.type "StopIteration") [] >>= fun e => (raiseNew e : Sem α)) Q E s := by
  obtain ⟨hh, o1, vs1, h1, d1, c1⟩ := hot
  refine wpAny_bind ?_
  simp only [newExc, newTuple]
  refine wpAny_bind (wpAny_newObj_type ?_ (by size_fits))
  refine wpAny_bind (m := firstArgMember _ _) (wpAny_of_eq (a := Value.none) (by first | rfl | (simp only [firstArgMember]; rfl)) ?_)
  refine wpAny_newObj_type ?_ (by size_fits)
  refine raiseNew_hot ⟨hh, o1, vs1, Heap.get?_push_of_some _ (Heap.get?_push_of_some _ h1), d1, c1⟩ (Nat.ne_of_lt (Heap.lt_size (Heap.get?_push_of_some _ h1))) (Heap.get?_push_size _ rfl) rfl (by first | (simp; done) | (simp; omega)) (q _ _ (fun b o e => ?_) ⟨_, Heap.get?_update_self _ (Heap.get?_push_size _ rfl) rfl, rfl⟩)
  have up := Heap.get?_push_of_some { cls := .type "tuple", data := .seq (List.toArray ([] : List Value)) } e
  rw [Heap.get?_update_other _ _ (Nat.ne_of_gt (Heap.lt_size up))]
  exact Heap.get?_push_of_some _ up
/-- the exception at hand is no iterator of two fields -/
theorem hot_ne {x1 it : Addr} {h : Heap} {o : Obj} {vs : Array Value} (hot : HotAt A x1 h) (ho : h.get? it = some o) (hd : o.data = .fields vs) (hs : vs.size ≤ 2) : x1 ≠ it := fun z => by
  obtain ⟨_, o1, vs1, h1, d1, c1⟩ := hot
  rw [z, ho] at h1
  cases h1
  rw [hd] at d1
  cases d1
  rw [Array.getElem?_eq_none hs] at c1
  cases c1
theorem HotAt.upd {x1 it : Addr} {h : Heap} {f : Obj → Obj} (hot : HotAt A x1 h) (hne : x1 ≠ it) : HotAt A x1 (h.update it f) := by
  obtain ⟨hh, o1, vs1, h1, d1, c1⟩ := hot
  exact ⟨hh, o1, vs1, by rw [Heap.get?_update_other _ _ (Ne.symm hne)]; exact h1, d1, c1⟩
/-- a list's iterator at its end -/
theorem list_end_hot {it l x1 : Addr} {i : Nat} {items : Array Value} {Q : Option Value → Shared → Prop} (hot : HotAt A x1 s.heap) (hit : s.heap.IsListIter it l i) (hl : s.heap.IsList l items) (hx : items[i]? = none)
    (hQ : ∀ h', (∀ b, b ≠ it → ∀ o, s.heap.get? b = some o → h'.get? b = some o) → Q none { s with heap := h' }) : wpAny (model prog w) A (pyNext (.ref it)) Q E s := by
  obtain ⟨o, ho, hc, hd⟩ := id hit
  obtain ⟨ol, hol, _, nl, hdl⟩ := hl
  have ne := hot_ne hot ho hd (by simp)
  unfold pyNext
  refine wpAny_bind (wpAny_attempt (wpAny_callSpecial?_slot (name := Str.ofString "__next__") hit.typeIs slot_listiter_next (wpAny_call_entry slot_listiter_next hit.typeIs entry_listiter_next ?_ (args_listiter_next _))))
  show wpAny _ _ (field (.ref it) 0 >>= _) _ _ s
  refine wpAny_bind (wpAny_field ho hd (x := .ref l) rfl ?_)
  rw [if_neg (show ¬ ((Value.ref l == Value.none) = true) from Bool.false_ne_true)]
  show wpAny _ _ (field (.ref it) 1 >>= _) _ _ s
  refine wpAny_bind (wpAny_field ho hd (x := .int i 0) rfl (wpAny_bind (wpAny_seqItems hol hdl ?_)))
  simp only [Int.toNat_natCast, hx]
  refine wpAny_bind (wpAny_rule (wpAny_bind (wpAny_setField ho hd (by simp) (stop_hot (x1 := x1) (HotAt.upd hot ne) fun a h' k z => ?_))))
  refine wpAny_bind (wpAny_isInstance (T := "StopIteration") (b := true) z isSubtype_stop (wpAny_pure (hQ _ fun b hb o e => k b o ?_)))
  rw [Heap.get?_update_other _ _ (Ne.symm hb)]
  exact e
/-- a text's iterator at its end -/
theorem ascii_end_hot {it x1 : Addr} {x : Str} {t : Tok} {i : Nat} {Q : Option Value → Shared → Prop} (hot : HotAt A x1 s.heap) (hit : s.heap.IsStrIter it "str_ascii_iterator" x t i) (hx : x.cps[i]? = none)
    (hQ : ∀ h', (∀ b, b ≠ it → ∀ o, s.heap.get? b = some o → h'.get? b = some o) → Q none { s with heap := h' }) : wpAny (model prog w) A (pyNext (.ref it)) Q E s := by
  obtain ⟨o, ho, hc, hd⟩ := id hit
  have ne := hot_ne hot ho hd (by simp)
  unfold pyNext
  refine wpAny_bind (wpAny_attempt (wpAny_callSpecial?_slot (name := Str.ofString "__next__") hit.typeIs F.slot_str_ascii_iterator_next (wpAny_call_entry F.slot_str_ascii_iterator_next hit.typeIs F.entry_str_ascii_iterator_next ?_ (F.args_str_ascii_iterator_next_1 _))))
  show wpAny _ _ (field (.ref it) 0 >>= _) _ _ s
  refine wpAny_bind (wpAny_field ho hd (x := .str x t) rfl ?_)
  show wpAny _ _ (field (.ref it) 1 >>= _) _ _ s
  refine wpAny_bind (wpAny_field ho hd (x := .int i 0) rfl ?_)
  simp only [Int.toNat_natCast, hx]
  refine wpAny_bind (wpAny_rule (wpAny_bind (wpAny_setField ho hd (by simp) (wpAny_bind (wpAny_letGo (stop_hot (x1 := x1) (HotAt.upd hot ne) fun a h' k z => ?_))))))
  refine wpAny_bind (wpAny_isInstance (T := "StopIteration") (b := true) z isSubtype_stop (wpAny_pure (hQ _ fun b hb o e => k b o ?_)))
  rw [Heap.get?_update_other _ _ (Ne.symm hb)]
  exact e
/-- a text's iterator at its end -/
theorem wide_end_hot {it x1 : Addr} {x : Str} {t : Tok} {i : Nat} {Q : Option Value → Shared → Prop} (hot : HotAt A x1 s.heap) (hit : s.heap.IsStrIter it "str_iterator" x t i) (hx : x.cps[i]? = none)
    (hQ : ∀ h', (∀ b, b ≠ it → ∀ o, s.heap.get? b = some o → h'.get? b = some o) → Q none { s with heap := h' }) : wpAny (model prog w) A (pyNext (.ref it)) Q E s := by
  obtain ⟨o, ho, hc, hd⟩ := id hit
  have ne := hot_ne hot ho hd (by simp)
  unfold pyNext
  refine wpAny_bind (wpAny_attempt (wpAny_callSpecial?_slot (name := Str.ofString "__next__") hit.typeIs F.slot_str_iterator_next (wpAny_call_entry F.slot_str_iterator_next hit.typeIs F.entry_str_iterator_next ?_ (F.args_str_iterator_next_1 _))))
  show wpAny _ _ (field (.ref it) 0 >>= _) _ _ s
  refine wpAny_bind (wpAny_field ho hd (x := .str x t) rfl ?_)
  show wpAny _ _ (field (.ref it) 1 >>= _) _ _ s
  refine wpAny_bind (wpAny_field ho hd (x := .int i 0) rfl ?_)
  simp only [Int.toNat_natCast, hx]
  refine wpAny_bind (wpAny_rule (wpAny_bind (wpAny_setField ho hd (by simp) (wpAny_bind (wpAny_letGo (stop_hot (x1 := x1) (HotAt.upd hot ne) fun a h' k z => ?_))))))
  refine wpAny_bind (wpAny_isInstance (T := "StopIteration") (b := true) z isSubtype_stop (wpAny_pure (hQ _ fun b hb o e => k b o ?_)))
  rw [Heap.get?_update_other _ _ (Ne.symm hb)]
  exact e
end
/-! ### their turns -/
section
variable {P : Program} {w : World} {K : PySem.W.Frag} {tg : Expr}
theorem turnH_list (a it : Addr) : TurnH P w K tg (Itl K a) [it] it (fun i h => h.IsListIter it a i) where
  mem := List.mem_singleton.mpr rfl
  obj := (turn_list (P := P) (w := w) (K := K) (tg := tg) a it).obj
  keep := (turn_list (P := P) (w := w) (K := K) (tg := tg) a it).keep
  item := by
    rintro X rfl rfl rfl hc i pins s σ H E I hf st ⟨xs, x, hq, hx⟩
    obtain ⟨its, rv, p, hz⟩ := I.list hq
    obtain ⟨u, hu, ru⟩ := rv.get hx
    obtain ⟨f0, f1, f2, f3, f4, f5⟩ := hf it (List.mem_singleton.mpr rfl)
    refine wpAny_pyNext_list_item st p.isList (x := u) (by simpa using hu) fun h' st' sb => ?_
    have I1 : Inv X pins σ H { s with heap := h' } := I.turned (t' := s.toks) (fun b o hb e => (sb.2 b hb).trans e) f0 f1 f3 f4 f5
    obtain ⟨o, e, c, d⟩ := id st'
    refine ⟨u, rfl, go_of (s := { s with heap := h' }) e c d (by decide) ⟨x, H, I1, ru, ⟨rfl, fun ys hy => ?_⟩, st', fun b hb => (hf b hb).1⟩⟩
    rw [I.list_inj hy hq]
    exact hx
  done := by
    rintro X rfl rfl rfl hc i pins s σ H E I hf st ⟨xs, hq, hx⟩
    obtain ⟨its, rv, p, hz⟩ := I.list hq
    obtain ⟨f0, f1, f2, f3, f4, f5⟩ := hf it (List.mem_singleton.mpr rfl)
    obtain ⟨x1, hot⟩ := hc.at I
    have hl := rv.length
    exact list_end_hot hot st p.isList (by simp; omega) fun h' eb => ⟨rfl, I.turned (t' := s.toks) (fun b o hb e => eb b hb o e) f0 f1 f3 f4 f5⟩
  self := (turn_list (P := P) (w := w) (K := K) (tg := tg) a it).self
theorem turnH_rangeC (it : Addr) (lo c : Int) (n : Nat) : TurnH P w K tg (Itc lo c n) [it] it (fun i h => IsRangeIter h it (lo + (i : Nat) * c) ((n : Int) - (i : Nat)) c) where
  mem := List.mem_singleton.mpr rfl
  obj := (turn_rangeC (P := P) (w := w) (K := K) (tg := tg) it lo c n).obj
  keep := (turn_rangeC (P := P) (w := w) (K := K) (tg := tg) it lo c n).keep
  item := by
    rintro X rfl rfl rfl hc i pins s σ H E I hf st hlt
    have hlt : i < n := hlt
    obtain ⟨f0, f1, f2, f3, f4, f5⟩ := hf it (List.mem_singleton.mpr rfl)
    refine wpAny_pyNext_range_item st (by omega) fun h' st' sb => ?_
    have I1 : Inv X pins σ H { s with heap := h', toks := s.toks + 1 } := I.turned (fun b o hb e => (sb.2 b hb).trans e) f0 f1 f3 f4 f5
    have st2 : IsRangeIter h' it (lo + ((i + 1 : Nat) : Int) * c) ((n : Int) - ((i + 1 : Nat) : Int)) c := by
      rw [show lo + ((i + 1 : Nat) : Int) * c = lo + ((i : Nat) : Int) * c + c by rw [Int.natCast_add, Int.add_mul]; omega, show (n : Int) - ((i + 1 : Nat) : Int) = (n : Int) - ((i : Nat) : Int) - 1 by omega]
      exact st'
    exact ⟨_, rfl, go_of (s := { s with heap := h', toks := s.toks + 1 }) (n := "range_iterator") st2 rfl rfl (by decide) ⟨.int (lo + (i : Nat) * c), H, I1, ⟨s.toks, rfl⟩, ⟨rfl, rfl⟩, st2, fun b hb => (hf b hb).1⟩⟩
  done := by
    rintro X rfl rfl rfl hc i pins s σ H E I hf st hge
    obtain ⟨f0, f1, f2, f3, f4, f5⟩ := hf it (List.mem_singleton.mpr rfl)
    obtain ⟨x1, hot⟩ := hc.at I
    exact pyNext_range_end_hot hot st (by have : n ≤ i := hge; omega) fun h' eb => ⟨rfl, I.turned (t' := s.toks) (fun b o _ e => eb b o e) f0 f1 f3 f4 f5⟩
  self := (turn_rangeC (P := P) (w := w) (K := K) (tg := tg) it lo c n).self
theorem turnH_str (it : Addr) (x : Str) (t : Tok) (ty : String) (hty : ty = "str_ascii_iterator" ∨ ty = "str_iterator") : TurnH P w K tg (Its x) [it] it (fun i h => h.IsStrIter it ty x t i) where
  mem := List.mem_singleton.mpr rfl
  obj := (turn_str (P := P) (w := w) (K := K) (tg := tg) it x t ty hty).obj
  keep := (turn_str (P := P) (w := w) (K := K) (tg := tg) it x t ty hty).keep
  item := by
    rintro X rfl rfl rfl hc i pins s σ H E I hf st hlt
    have hlt : i < x.cps.size := hlt
    obtain ⟨f0, f1, f2, f3, f4, f5⟩ := hf it (List.mem_singleton.mpr rfl)
    have hx : x.cps[i]? = some x.cps[i] := Array.getElem?_eq_getElem hlt
    have hno : ["enumerate", "zip", "dict_itemiterator", "dict_reverseitemiterator", "odict_iterator", "itertools.zip_longest", "itertools.pairwise"].contains ty = false := by
      rcases hty with e | e <;> rw [e] <;> decide
    have go : ∀ (h' : Heap), h'.IsStrIter it ty x t (i + 1) → Heap.SameBut it s.heap h' → ∃ u, (some (Value.str ⟨#[x.cps[i]]⟩ s.toks)) = some u ∧ wpAny (model X.prog X.w) X.A (letOwnedTupleGo tg (.ref it) u) (fun _ s2 => ∃ y H', Inv X pins σ H' s2 ∧ RelV y u ∧ (Its x).yld i H y H' ∧ s2.heap.IsStrIter it ty x t (i + 1) ∧ ∀ b ∈ [it], H' b = none) E { s with heap := h', toks := s.toks + 1 } := fun h' st' sb => by
      have I1 : Inv X pins σ H { s with heap := h', toks := s.toks + 1 } := I.turned (fun b o hb e => (sb.2 b hb).trans e) f0 f1 f3 f4 f5
      obtain ⟨o, e, cc, dd⟩ := id st'
      exact ⟨_, rfl, go_of (s := { s with heap := h', toks := s.toks + 1 }) e cc dd hno ⟨.str ⟨#[x.cps[i]]⟩, H, I1, ⟨_, rfl⟩, ⟨rfl, _, hx, rfl⟩, st', fun b hb => (hf b hb).1⟩⟩
    rcases hty with e | e
    · subst e; exact wpAny_pyNext_ascii_item st hx go
    · subst e; exact wpAny_pyNext_wide_item st hx go
  done := by
    rintro X rfl rfl rfl hc i pins s σ H E I hf st hge
    obtain ⟨f0, f1, f2, f3, f4, f5⟩ := hf it (List.mem_singleton.mpr rfl)
    obtain ⟨x1, hot⟩ := hc.at I
    have hx : x.cps[i]? = none := Array.getElem?_eq_none hge
    have q : ∀ (h' : Heap), (∀ b, b ≠ it → ∀ o, s.heap.get? b = some o → h'.get? b = some o) → (none : Option Value) = none ∧ Inv X pins σ H { s with heap := h' } := fun h' eb => ⟨rfl, I.turned (t' := s.toks) (fun b o hb e => eb b hb o e) f0 f1 f3 f4 f5⟩
    rcases hty with e | e
    · subst e; exact ascii_end_hot hot st hx q
    · subst e; exact wide_end_hot hot st hx q
  self := (turn_str (P := P) (w := w) (K := K) (tg := tg) it x t ty hty).self
end
section
variable {X : Cx} {tg : Expr}
theorem piH_one {pins : List (Addr × Obj)} {σ : L2.St} {H : Hp} {s : Shared} {R : L2.It → Hp → Prop} {J : L2.It} {tn : Nat → Heap → Prop} {tk : Nat} (I : Inv X pins σ H s) (o : Obj)
    (T : TurnH X.prog X.w X.K tg J [s.heap.objs.size] s.heap.objs.size tn) (st : tn 0 (s.heap.push o)) (q : R J H) : PIEH X pins σ tg R (.ref s.heap.objs.size) { s with heap := s.heap.push o, toks := tk } :=
  ⟨_, _, tn, J, H, rfl, I.kept fun _ _ e => Heap.get?_push_of_some _ e, T, st, fun b hb => by
    obtain rfl := List.mem_singleton.mp hb
    exact I.fpOk (Nat.le_refl _) (I.hok.fresh (Nat.le_refl _)), q⟩
theorem piH_list {l : Expr} {tl : TE} (hl : PE X l tl) : PIH X tg l (iList X.K tl) := by
  refine ⟨fun pins s σ H R I h => thn (hl.run pins s σ H _ I h) fun v s1 ⟨x, H1, I1, r1, a, e, ⟨xs, hq⟩, q⟩ => ?_⟩
  subst e
  cases r1
  obtain ⟨its, rv, p, hz⟩ := I1.list hq
  exact wpAny_pyIter_list p.isList (piH_one (tk := s1.toks) I1 _ (turnH_list a _) ⟨_, Heap.get?_push_size _ rfl, rfl, rfl⟩ q)
theorem piH_str {e : Expr} {te : TE} (he : PE X e te) : PIH X tg e (iStr te) := by
  refine ⟨fun pins s σ H R I h => thn (he.run pins s σ H _ I h) fun v s1 ⟨y, H1, I1, r1, x, ex, q⟩ => ?_⟩
  subst ex
  obtain ⟨t, rfl⟩ := r1
  cases ha : x.cps.all (· < 128)
  · exact wpAny_pyIter_wide ha (piH_one (tk := s1.toks) I1 _ (turnH_str _ x t _ (.inr rfl)) ⟨_, Heap.get?_push_size _ rfl, rfl, rfl⟩ q)
  · exact wpAny_pyIter_ascii ha (piH_one (tk := s1.toks) I1 _ (turnH_str _ x t _ (.inl rfl)) ⟨_, Heap.get?_push_size _ rfl, rfl, rfl⟩ q)
theorem piH_range3 {a b c : Expr} {ta : TA} {p pos : Pos} (hg : Gl X "range") (hm : X.mg "range" = none) (ha : PA X [a, b, c] ta) (hs : starEach [a, b, c] X.env = (false, eval a X.env) :: starEach [b, c] X.env := by rfl)
    (hpl : (backTo pos (starEach [b, c] X.env)).any (·.1) = false := by rfl) : PIH X tg (.Call (.Name "range" p) [a, b, c] [] pos) (iRng3 ta) := by
  refine ⟨fun pins s σ H R I h => Call_ (ld_blt I hg hm boot_range (PyProof.Rows.callWith_type1 (thn (ha.run pos pins s σ H _ I h) fun us s1 ⟨vs, H1, I1, r1, i, j, k, n, e, ⟨c0, c1, c2, c3⟩, q⟩ => ?_) hs hpl))⟩
  subst e
  obtain ⟨u1, u2, u3, rfl, ⟨t1, rfl⟩, ⟨t2, rfl⟩, ⟨t3, rfl⟩⟩ : ∃ u1 u2 u3, us = [u1, u2, u3] ∧ RelV (.int i) u1 ∧ RelV (.int j) u2 ∧ RelV (.int k) u3 := by
    cases r1 with
    | cons r rr =>
      cases rr with
      | cons r' rr =>
        cases rr with
        | cons r'' rr =>
          cases rr
          exact ⟨_, _, _, rfl, r, r', r''⟩
  refine call_range_3 c0 (wpAny_pyIter_range (IsRange.new ..) c2 ?_) (.inl (PyProof.noPylong_small c1))
  have I2 : Inv X pins σ H1 { s1 with heap := s1.heap.push { cls := .type "range", data := .fields #[.int i t1, .int j t2, .int k t3] } } := I1.kept (t' := s1.toks) fun _ _ e => Heap.get?_push_of_some _ e
  refine piH_one (tk := s1.toks) I2 _ (turnH_rangeC _ i k n) ?_ q
  show IsRangeIter _ _ (i + ((0 : Nat) : Int) * k) ((n : Int) - ((0 : Nat) : Int)) k
  rw [show i + ((0 : Nat) : Int) * k = i by simp, show (n : Int) - ((0 : Nat) : Int) = Builtin.Range.rangeSize i j k by rw [c3]; simp]
  exact Heap.get?_push_size _ rfl
end
end Cu
/-! CyB: list comprehensions while an exception is handled. -/
namespace Cu
open PySem PySem.Spec PyProof.Rows L2 HotX L2H
/-- a block's context, the handled exception kept in sight -/
abbrev blkP (X : Cx) (scope : Scope) (p : Addr × Obj) (s : Shared) (H : Hp) (C : Addr) (cl : List (Str × Addr)) (fp : List Addr) : Cx := { blkX X scope s H C cl fp with pn := [p] }
theorem inv_pin {Y : Cx} {σ : L2.St} {H : Hp} {s : Shared} {p : Addr × Obj} (I : Inv Y [] σ H s) (hy : Y.pn = []) (h1 : s.heap.get? p.1 = some p.2) (h2 : H p.1 = none) (h3 : p.1 ≠ Y.env.locals) (h4 : p.1 ∉ Y.fs) (h5 : ∀ v, p.2.data ≠ .cell v) : Inv { Y with pn := [p] } [] σ H s :=
  have k := I.ok
  ⟨⟨k.mod, k.kind, k.glob, k.blt, k.above, k.inj, k.has, k.cab, k.hd, k.frames, k.stk, k.exf, k.bs, k.bsz, k.noex, k.exfs, k.funs, k.frf⟩, I.os, I.bare, I.base, I.loc, I.cell, I.free, I.freeC, fun q hq => by
    obtain rfl : q = p := by simpa using (show q ∈ [p] ++ ([] : List (Addr × Obj)) from hq)
    exact ⟨h1, h2, h3, h4, h5⟩, I.hok, I.len⟩
section
variable {X : Cx} {pins : List (Addr × Obj)} {s : Shared} {σ : L2.St} {H : Hp} {elt tg iter : Expr} {ifs : List Expr} {scope : Scope} {own : List (Str × Nat)} {pos pos' : Pos} {wi : TI} {g : TG} {tt : TT} {te : TE} {p : Addr × Obj}
/-- the block's loop, begun: what the def's context has at its end -/
theorem lcH_loop {it D : Addr} {fp : List Addr} {tn : Nat → Heap → Prop} {J : L2.It} {Wd : Nat → Nat → Hp → Prop} {Qd : Hp → Prop} {s₀ s₁ : Shared} {H₀ : Hp} {ce : Env} {m₀ : Nat} {Rz : Result → Shared → Prop}
    (hot : Hot1 X.A p) (TH : TurnH X.prog X.w X.K tg J fp it tn) (b0 : Inv { X.blk s₀ H₀ scope ce fp with pn := [p] } [] (wipe σ (own.map (·.2))) H₀ s₁) (t0 : tn 0 s₁.heap) (n0 : ∀ b ∈ fp, H₀ b = none) (hnp : p.1 ∉ fp) (w0 : Wd 0 m₀ H₀)
    (kg : PG { X.blk s₀ H₀ scope ce fp with pn := [p] } tg g) (kt : PTs { X.blk s₀ H₀ scope ce fp with pn := [p] } ifs tt) (ke : PE { X.blk s₀ H₀ scope ce fp with pn := [p] } elt te)
    (tw : ∀ i m H, Wd i m H → (J.stop i H ∧ Qd H) ∨ (J.go i H ∧ ∃ Nx : Hp → Prop, (∀ H', Nx H' → ∃ m', m' < m ∧ Wd (i + 1) m' H') ∧ ∀ x H', J.yld i H x H' → g x (wipe σ (own.map (·.2))) H' fun σ2 H2 => wipe σ2 (own.map (·.2)) = wipe σ (own.map (·.2)) ∧ tt σ2 H2 fun b H3 =>
      if b = true then te σ2 H3 fun y H4 => ∃ acc, H4 D = some (.lst acc) ∧ acc.length < sizeLine ∧ Nx (upd H4 D (.lst (acc ++ [y]))) else Nx H3))
    (fin : ∀ H' s', Inv { X.blk s₀ H₀ scope ce fp with pn := [p] } [] (wipe σ (own.map (·.2))) H' s' → Qd H' → Rz (.ok .next) s') :
    codeAny (model X.prog X.w) X.A (.compLoop (.ListComp elt [⟨tg, iter, ifs, 0⟩] scope pos) 0 (.ref it) (.ref D) ce) Rz s₁ := by
  have hotB : HotC { X.blk s₀ H₀ scope ce fp with pn := [p] } := ⟨p, hot, List.mem_singleton.mpr rfl⟩
  have fpk : ∀ {σ' : L2.St} {H' : Hp} {s' : Shared}, Inv { X.blk s₀ H₀ scope ce fp with pn := [p] } [] σ' H' s' → (∀ b ∈ fp, H' b = none) → ∀ b ∈ fp, FpOk { X.blk s₀ H₀ scope ce fp with pn := [p] } [] H' b := fun Ib hz b hb =>
    ⟨hz b hb, (Ib.ok.exf b hb).1, Ib.ok.exfs b hb, .inl hb, fun y c e => (Ib.ok.exf b hb).2 y c e, fun q hq z => by
      obtain rfl : q = p := by simpa using (show q ∈ [p] ++ ([] : List (Addr × Obj)) from hq)
      exact hnp (z ▸ hb)⟩
  refine compLoop_any (fun n t => ∃ i Hn, Inv { X.blk s₀ H₀ scope ce fp with pn := [p] } [] (wipe σ (own.map (·.2))) Hn t ∧ tn i t.heap ∧ (∀ b ∈ fp, Hn b = none) ∧ Wd i n Hn) ?_ m₀ ⟨0, H₀, b0, t0, n0, w0⟩
  rintro n t ⟨i, Hn, It, tt', nn, wn⟩
  rcases tw i n Hn wn with ⟨hstop, hq⟩ | ⟨hgo, Nx, back, turn⟩
  · refine thnF (TH.done { X.blk s₀ H₀ scope ce fp with pn := [p] } rfl rfl rfl hotB i [] t _ Hn (fun _ _ => False) It (fpk It nn) tt' hstop) fun r t1 hr => ?_
    obtain ⟨rfl, I1⟩ := hr
    exact fin Hn t1 I1 hq
  · refine thnF (TH.item { X.blk s₀ H₀ scope ce fp with pn := [p] } rfl rfl rfl hotB i [] t _ Hn (fun _ _ => False) It (fpk It nn) tt' hgo) fun r t1 hr => ?_
    obtain ⟨u, rfl, hu⟩ := hr
    refine thnF hu fun _ t2 h2 => ?_
    obtain ⟨x, H2, I2, rx, yx, st2, n2⟩ := h2
    have I2p := I2.pinned (fpk I2 n2) (TH.obj _ _ st2)
    refine thnF (kg.run _ t2 _ H2 x u _ I2p rx (turn x H2 yx)) fun _ t3 h3 => ?_
    obtain ⟨σ3, H3, I3, w3, q3⟩ := h3
    refine thnF (kt.run _ t3 σ3 H3 _ I3 q3) fun b t4 h4 => ?_
    obtain ⟨H4, I4, q4⟩ := h4
    have close : ∀ {t' : Shared} {H' : Hp}, Inv { X.blk s₀ H₀ scope ce fp with pn := [p] } ([] ++ pinsAt fp t2.heap) σ3 H' t' → Nx H' → ∃ m, m < n ∧ ∃ i Hn, Inv { X.blk s₀ H₀ scope ce fp with pn := [p] } [] (wipe σ (own.map (·.2))) Hn t' ∧ tn i t'.heap ∧ (∀ b ∈ fp, Hn b = none) ∧ Wd i m Hn := fun {t' H'} Iz nx => by
      obtain ⟨m', less, wz⟩ := back H' nx
      have same : ∀ b ∈ fp, ∀ o, t2.heap.get? b = some o → t'.heap.get? b = some o ∧ H' b = none := fun b hb o e => by
        have z := Iz.pin (b, o) (List.mem_append_right _ (List.mem_append_right _ (mem_pinsAt hb e)))
        exact ⟨z.1, z.2.1⟩
      refine ⟨m', less, i + 1, H', (Iz.unpinned (pins := [])).weak (by rw [← w3, wipe_length]) (fun j v e => ?_), TH.keep _ _ _ st2 fun b hb o e => (same b hb o e).1, fun b hb => ?_, wz⟩
      · rw [← w3] at e
        exact (wipe_some e).1
      · obtain ⟨o, e, _⟩ := TH.obj _ _ st2 b hb
        exact (same b hb o e).2
    cases b with
    | false => exact close I4 (by simpa using q4)
    | true =>
      rw [if_pos rfl] at q4 ⊢
      refine thnF (ke.run _ t4 σ3 H4 _ I4 q4) fun z t5 h5 => ?_
      obtain ⟨y, H5, I5, ry, acc, hD, hsz, nx⟩ := h5
      exact app_ok (X := { X.blk s₀ H₀ scope ce fp with pn := [p] }) I5 hD hsz ry fun t6 I6 => close I6 nx
/-- [elt for tg in iter if ..] there; Qf: what is to hold behind it -/
theorem lcH_run {Q : VK} {use : Option (Value → Sem Unit)} {Qf : Value → Shared → Prop} (hot : Hot1 X.A p) (hp : p ∈ X.pn) (nd : X.N.Nodup) (I : Inv X pins σ H s) (hi : PIH X tg iter wi) (ok : BlkOk X.N X.env.scope scope own)
    (kg : ∀ s H C cl fp, PG (blkP X scope p s H C cl fp) tg g) (kt : ∀ s H C cl fp, PTs (blkP X scope p s H C cl fp) ifs tt) (ke : ∀ s H C cl fp, PE (blkP X scope p s H C cl fp) elt te) (hs : ∀ x, foldedSetIterable iter X.env x = pure x) (h : tLc wi g tt te (own.map (·.2)) σ H Q)
    (out : ∀ D C s' m H', Inv X pins σ H' s' → Q (.ref D) H' → s'.heap.Ns C m → FpOk X pins H' C → compPost (model X.prog X.w) X.A X.xe use Qf (.ref D) C (.ok .next) s') :
    wpAny (model X.prog X.w) X.A (comprehension (.ListComp elt [⟨tg, iter, ifs, 0⟩] scope pos) scope X.env pos' (newList []) false (eval iter X.env) use) Qf X.xe s := by
  have clo : ∀ y ∈ scope.names, y.2 = .free → ∃ c, X.env.cells.lookup y.1 = some c := fun y hy e => I.ok.has _ (ok.free y hy e)
  refine wpAny_comprehension_free (use := use) rfl hs (closure_ok clo) ok.kind (fun y hy e => by rw [ok.uniq y hy, e]) (thn (hi.run pins s σ H _ I h) fun _ _ hx => thn hx fun _ t hz => ?_)
  obtain ⟨it, fp, tn, J, G, rfl, It, TH, z0, okf, q⟩ := hz
  refine wpAny_newObj_type (newEnv_comp ?_) (by show 0 ≤ sizeLine; decide)
  obtain ⟨D, hD⟩ : ∃ D, D = t.heap.objs.size := ⟨_, rfl⟩
  rw [← hD]
  obtain ⟨Wd, ⟨m0, w0⟩, tw⟩ := q D (It.hok.fresh (Nat.le_of_eq hD.symm))
  obtain ⟨t1, ht1⟩ : ∃ t1 : Shared, t1 = { t with heap := t.heap.push { cls := .type "list", data := .seq ([] : List Value).toArray } } := ⟨_, rfl⟩
  rw [← ht1]
  have hheap : t1.heap = t.heap.push { cls := .type "list", data := .seq ([] : List Value).toArray } := by rw [ht1]
  have I1 : Inv X pins σ (upd G D (.lst [])) t1 := by
    rw [ht1]
    refine It.laid (t' := t.toks) (fun b o e => Heap.get?_push_of_some _ e) (Nat.le_of_eq hD.symm) ⟨Nat.zero_le _, [], 0, .nil, ?_⟩
    rw [hD]
    exact Heap.get?_push_size _ rfl
  have below : ∀ b ∈ fp, b < D := fun b hb => by
    obtain ⟨o, e, _⟩ := TH.obj _ _ z0 b hb
    rw [hD]
    exact Heap.lt_size e
  have none1 : ∀ b ∈ fp, upd G D (.lst []) b = none := fun b hb => by
    rw [upd_ne (Nat.ne_of_lt (below b hb))]
    exact (okf b hb).1
  have okf1 : ∀ b ∈ fp, FpOk X pins (upd G D (.lst [])) b ∧ b < t1.heap.objs.size := fun b hb => ⟨⟨none1 b hb, (okf b hb).2⟩, by rw [hheap, Heap.size_push, ← hD]; exact Nat.lt_succ_of_lt (below b hb)⟩
  have z1 : tn 0 t1.heap := TH.keep _ _ _ z0 fun b _ o e => by rw [hheap]; exact Heap.get?_push_of_some _ e
  have Ib := block_start I1 ok nd okf1
  obtain ⟨G1, hG1⟩ : ∃ G1, G1 = upd G D (.lst []) := ⟨_, rfl⟩
  rw [← hG1] at I1 none1 okf1 Ib w0
  obtain ⟨ce, hce⟩ : ∃ ce, ce = compEnvC scope (cellsFrom (t1.heap.objs.size + 1) scope.names (cloFrom X.env.cells scope.names [])) t1.heap.objs.size X.env := ⟨_, rfl⟩
  have cel : ce.locals = t1.heap.objs.size := by rw [hce]; rfl
  have bg := kg t1 G1 t1.heap.objs.size (cellsFrom (t1.heap.objs.size + 1) scope.names (cloFrom X.env.cells scope.names [])) fp
  have bt := kt t1 G1 t1.heap.objs.size (cellsFrom (t1.heap.objs.size + 1) scope.names (cloFrom X.env.cells scope.names [])) fp
  have be := ke t1 G1 t1.heap.objs.size (cellsFrom (t1.heap.objs.size + 1) scope.names (cloFrom X.env.cells scope.names [])) fp
  unfold blkP blkX at bg bt be
  rw [← hce] at Ib bg bt be
  show codeAny _ _ (.compStart (.ListComp elt [⟨tg, iter, ifs, 0⟩] scope pos) 0 (.ref it) (.ref D) (compEnvC scope (cellsFrom (t1.heap.objs.size + 1) scope.names (cloFrom X.env.cells scope.names [])) t1.heap.objs.size X.env)) (compPost (model X.prog X.w) X.A X.xe use Qf (.ref D) t1.heap.objs.size) { t1 with heap := pushCells (t1.heap.push { cls := .type "dict", data := .dict #[] }) scope.names }
  rw [← hce]
  obtain ⟨t2, ht2⟩ : ∃ t2 : Shared, t2 = { t1 with heap := pushCells (t1.heap.push { cls := .type "dict", data := .dict #[] }) scope.names } := ⟨_, rfl⟩
  have k12 : ∀ b o, t1.heap.get? b = some o → t2.heap.get? b = some o := fun b o e => by rw [ht2]; exact pushCells_keeps _ _ _ _ (Heap.get?_push_of_some _ e)
  rw [← ht2] at Ib ⊢
  have z2 : tn 0 t2.heap := TH.keep _ _ _ z1 fun b _ o e => k12 b o e
  have P1 := I1.pin p (List.mem_append_left _ hp)
  have nfs : p.1 ∉ (X.blk t1 G1 scope ce fp).fs := fun hm => (List.mem_cons.mp (I1.stkSub p.1 hm)).elim P1.2.2.1 P1.2.2.2.1
  have Ip := inv_pin Ib rfl (k12 _ _ P1.1) P1.2.1 (by show p.1 ≠ ce.locals; rw [cel]; exact Nat.ne_of_lt (Heap.lt_size P1.1)) nfs P1.2.2.2.2
  have loop := lcH_loop (Rz := compPost (model X.prog X.w) X.A X.xe use Qf (.ref D) t1.heap.objs.size) (elt := elt) (iter := iter) (pos := pos) (D := D) (Qd := Q (.ref D)) hot TH Ip z2 none1 (fun hm => (okf1 p.1 hm).1.2.2.2.2.2 p (List.mem_append_left _ hp) rfl) w0 bg bt be tw fun H' s' Ie qe => by
    have Ix : Inv X pins σ H' s' := I1.call' (ch := fp) Ie.os Ie.base Ie.hok Ie.bare fun b hb => ⟨(okf1 b hb).1.2.2.2.1, (okf1 b hb).1.2.1, (okf1 b hb).1.2.2.2.2.1, (okf1 b hb).1.2.2.2.2.2⟩
    have hC : H' t1.heap.objs.size = none := by
      rw [← cel]
      exact Ie.free
    obtain ⟨m, hm, _⟩ := Ie.loc
    have hm : s'.heap.Ns ce.locals m := hm
    rw [cel] at hm
    exact out D _ s' m H' Ix qe hm (I1.fpOk (Nat.le_refl _) hC)
  exact codeAny_compStart_list loop (TH.self X.A 0 _ _ _ z2 loop)
theorem pe_lcH (hot : Hot1 X.A p) (hp : p ∈ X.pn) (nd : X.N.Nodup) (hi : PIH X tg iter wi) (ok : BlkOk X.N X.env.scope scope own) (kg : ∀ s H C cl fp, PG (blkP X scope p s H C cl fp) tg g) (kt : ∀ s H C cl fp, PTs (blkP X scope p s H C cl fp) ifs tt)
    (ke : ∀ s H C cl fp, PE (blkP X scope p s H C cl fp) elt te) (hs : ∀ x, foldedSetIterable iter X.env x = pure x := by intro _; rfl) : PE X (.ListComp elt [⟨tg, iter, ifs, 0⟩] scope pos) (tLc wi g tt te (own.map (·.2))) := by
  refine ⟨fun pins s σ H Q I h => ?_⟩
  rw [eval_ListComp]
  exact lcH_run hot hp nd I hi ok kg kt ke hs h fun D C s' m H' I' q hn ⟨f0, f1, f2, f3, f4, f5⟩ => ⟨m, hn, fun h2 sb => ⟨.ref D, H', I'.turned (t' := s'.toks) (fun b o hb e => (sb.2 b hb).trans e) f0 f1 f3 f4 f5, rfl, q⟩⟩
/-- y = [..] there, y a local -/
theorem ps_setLcH {i : Nat} {y : Str} {py spos : Pos} (hot : Hot1 X.A p) (hp : p ∈ X.pn) (nd : X.N.Nodup) (hy : X.N[i]? = some y) (hyl : X.env.scope.names.lookup y = some .local) (hsw : swapsWith (.ListComp elt [⟨tg, iter, ifs, 0⟩] scope pos) (some (.Name y py)) spos.line X.env = pure true) (hi : PIH X tg iter wi)
    (ok : BlkOk X.N X.env.scope scope own) (kg : ∀ s H C cl fp, PG (blkP X scope p s H C cl fp) tg g) (kt : ∀ s H C cl fp, PTs (blkP X scope p s H C cl fp) ifs tt) (ke : ∀ s H C cl fp, PE (blkP X scope p s H C cl fp) elt te) (hs : ∀ x, foldedSetIterable iter X.env x = pure x := by intro _; rfl) :
    PS X (.Assign [.Name y py] (.ListComp elt [⟨tg, iter, ifs, 0⟩] scope pos) spos) (tAsg (tLc wi g tt te (own.map (·.2))) (gName i)) := by
  refine ⟨fun pins s σ H D I h => ?_⟩
  rw [exec_Assign_Name_used _ _ _ _ hsw]
  refine wpAny_bind (wpAny_standAt (wpAny_bind (show wpAny _ X.A (comprehension (.ListComp elt [⟨tg, iter, ifs, 0⟩] scope pos) scope X.env (firstIterPos [⟨tg, iter, ifs, 0⟩] pos) (newList []) false (eval iter X.env) (some (assign (.Name y py) X.env)) >>= fun _ => pure ()) _ _ s from ?_)))
  have h : tLc wi g tt te (own.map (·.2)) σ H (fun x H1 => gName i x σ H1 D.nx) := h
  refine wpAny_bind (thn (lcH_run (Qf := fun _ t => SP X pins D .next t) hot hp nd I hi ok kg kt ke hs h fun L C t m H' I' q hn f => ?_) fun _ t hq => wpAny_pure (wpAny_pure hq))
  obtain ⟨f0, f1, f2, f3, f4, f5⟩ := f
  refine wpAny_assign_Name (store_ok2 (v := V.ref L) I' nd hy (.inl hyl) rfl (fun t2 I2 ⟨a, sb, ha⟩ => ?_) (.inr hyl))
  have ne : C ≠ a := ha.elim (fun z => z ▸ f1) fun z e => f4 y a z e.symm
  exact ⟨m, hn.sameBut sb ne, fun h3 sb3 => ⟨_, H', I2.turned (t' := t2.toks) (fun b o hb e => (sb3.2 b hb).trans e) f0 f1 f3 f4 f5, q⟩⟩
end
end Cu
/-! CyC: loops and comprehensions while an exception is handled: the wishes. -/
namespace Cu
open PySem PySem.Spec PyProof.Rows L2 HotX L2H
/-- the context of hot code -/
structure Cxh (X : Cx) (W : WX) (k : Nat) (pz : Addr × Obj) : Prop where
  hot : Hot1 X.A pz
  pn : pz ∈ X.pn
  nd : X.N.Nodup
  po : PassesOwn (model X.prog X.w) X.A X.env X.xe
  hr : RoomH k X.A
theorem Cxh.less {X : Cx} {W : WX} {k j : Nat} {pz : Addr × Obj} (c : Cxh X W k pz) (h : j ≤ k) : Cxh X W j pz := ⟨c.hot, c.pn, c.nd, c.po, c.hr.mono h⟩
theorem Cxh.hc {X : Cx} {W : WX} {k : Nat} {pz : Addr × Obj} (c : Cxh X W k pz) : HotC X := ⟨pz, c.hot, c.pn⟩
theorem Cxh.blk {X : Cx} {W : WX} {k : Nat} {pz : Addr × Obj} (c : Cxh X W k pz) (scope : Scope) (s : Shared) (H : Hp) (C : Addr) (cl : List (Str × Addr)) (fp : List Addr) : Cxh (blkP X scope pz s H C cl fp) (fun _ _ _ _ => False) k pz := ⟨c.hot, List.mem_singleton.mpr rfl, c.nd, PassesOwn.never, c.hr⟩
/-- iter walks rs -/
def EvIH (X : Cx) (tg iter : Expr) (G : Gam) (S : Sto) (rs : List It) (C : Sto → Prop) (S1 : Sto) : Prop := ∃ wi : TI, PIH X tg iter wi ∧ ∀ (M : List Addr) (σ : Sig) (H : Hp) (R : L2.It → Hp → Prop), Stt X.K M H S G σ →
  (∀ M1 H1 J, Ext M H M1 H1 → Stt X.K M1 H1 S1 G σ → Wk X.K J C M1 H1 rs → R J H1) → wi σ H R
/-- a target of a comprehension: it stores into slots of vs alone -/
structure TgOkH (X : Cx) (scope : Scope) (pz : Addr × Obj) (tg : Expr) (vs : List Nat) (bind : It → Gam → Option Gam) : Prop where
  ex : ∃ g : TG, (∀ s H C cl fp, PG (blkP X scope pz s H C cl fp) tg g) ∧ ∀ (M : List Addr) (H : Hp) (S : Sto) (G G' : Gam) (σ : Sig) (v : V) (r : It) (Q : Sig → Hp → Prop), Stt X.K M H S G σ → VRep X.K M H v r → bind r G = some G' →
    (∀ σ2, Stt X.K M H S G' σ2 → wipe σ2 vs = wipe σ vs → Q σ2 H) → g v σ H Q
/-- the tests, the element of a block, in any context of it -/
def tTsH (X : Cx) (scope : Scope) (pz : Addr × Obj) (ifs : List Expr) : TT := fun σ H Q => ∀ s0 H0 C cl fp, match ifs with
  | [] => Q true H
  | [t] => sT (blkP X scope pz s0 H0 C cl fp) t σ H Q
  | _ => False
def tElH (X : Cx) (scope : Scope) (pz : Addr × Obj) (elt : Expr) : TE := fun σ H Q => ∀ s0 H0 C cl fp, sE (blkP X scope pz s0 H0 C cl fp) elt σ H Q
section
variable {X : Cx} {W : WX} {k j : Nat} {G G1 G2 : Gam} {S S1 S2 S3 : Sto} {P : Post} {e a b o iter tg elt : Expr} {es ifs : List Expr} {r y z : It} {rs : List It} {pos pos' p apos : Pos} {st : Stmt} {sts body : List Stmt} {ds : List PyData} {C : Sto → Prop} {scope : Scope} {own : List (Str × Nat)} {vs : List Nat} {pz : Addr × Obj}
theorem eviH_list (hi : Ev X iter G S (.d (.list ds)) S1) : EvIH X tg iter G S (ds.map .d) anyS S1 := ⟨_, piH_list pe_s, fun M σ H R s q => hi M σ H _ s fun v M1 H1 e1 t1 r1 => by
  have r1' : Fz M1 H1 v (.list ds) := r1
  cases r1' with
  | lst hL hA => exact ⟨_, rfl, ⟨_, hL.sq⟩, q M1 H1 _ e1 t1 (wk_list hL hA)⟩⟩
/-- for x in what walks rs: J by the turn, the names, the store -/
theorem ws_forH (c : Cxh X W k pz) (hi : EvIH X tg iter G S rs C S1) (J : Nat → Gam → Sto → Prop) (tgt : It → Gam → Gam) (h0 : J 0 G S1) (hC : ∀ i G' S', J i G' S' → C S')
    (hg : ∀ i r G' S', rs[i]? = some r → J i G' S' → EvG X tg r G' S' (tgt r G') S')
    (hs : ∀ i r G' S', rs[i]? = some r → J i G' S' → WSs X W body (tgt r G') S' (P.turn (J (i + 1)))) (hd : ∀ G' S', J rs.length G' S' → P.nx G' S')
    (hf : ∀ x, foldedSetIterable iter X.env x = pure x := by intro _; rfl) : WS X W (.For tg iter body [] pos) G S P := fun M σ H D s m => by
  obtain ⟨wi, hpi, hw⟩ := hi
  refine toS (ps_forH c.po c.hc hpi pg_s pss_s hf) (hw M σ H _ s fun M1 H1 Jt e1 t1 wk => ?_)
  refine ⟨fun i m' σ' H' => (m' = rs.length - i ∧ i ≤ rs.length) ∧ ∃ M' G' S', Ext M1 H1 M' H' ∧ Stt X.K M' H' S' G' σ' ∧ J i G' S', ⟨_, ⟨rfl, Nat.zero_le _⟩, M1, G, S1, Ext.refl, t1, h0⟩, fun i m' σ' H' hw => ?_⟩
  obtain ⟨⟨rfl, hi'⟩, M', G', S', e', t', hJ⟩ := hw
  have c' := hC i G' S' hJ
  by_cases hlt : i < rs.length
  · refine .inr ⟨wk.go i M' H' S' hlt e' t'.sto c', fun σ2 H2 => ∃ M2 G2 S2, Ext M1 H1 M2 H2 ∧ Stt X.K M2 H2 S2 G2 σ2 ∧ J (i + 1) G2 S2, fun σ2 H2 q => ⟨rs.length - (i + 1), by omega, ⟨rfl, by omega⟩, q⟩, fun x H2 y => ?_⟩
    have hri : rs[i]? = some rs[i] := List.getElem?_eq_getElem hlt
    obtain ⟨e2, s2, v2⟩ := wk.yl i M' H' S' x H2 _ hri e' t'.sto c' y
    have t2 : Stt X.K M' H2 S' G' σ' := t'.mono e2 s2
    have e12 := e'.trans e2
    refine hg i _ G' S' hri hJ M' σ' H2 x _ t2 v2 fun σ3 M3 H3 e3 t3 => ?_
    have e13 := e12.trans e3
    exact hs i _ G' S' hri hJ M3 σ3 H3 _ t3 ⟨fun M4 σ4 H4 G4 S4 x t q => ⟨M4, G4, S4, e13.trans x, t, q⟩, fun v M4 H4 r S4 x => m.rt v M4 H4 r S4 ((e1.trans e13).trans x), fun M4 σ4 H4 G4 S4 x => m.nx M4 σ4 H4 G4 S4 ((e1.trans e13).trans x), fun M4 σ4 H4 G4 S4 x t q => ⟨M4, G4, S4, e13.trans x, t, q⟩, fun M4 σ4 H4 G4 C4 S4 x => m.xc M4 σ4 H4 G4 C4 S4 ((e1.trans e13).trans x)⟩
  · have ei : i = rs.length := by omega
    subst ei
    exact .inl ⟨wk.st _ M' H' S' (Nat.le_refl _) e' t'.sto c', m.nx M' σ' H' G' S' (e1.trans e') t' (hd G' S' hJ)⟩
theorem tgH_name (i : Nat) {n : Str} (nd : X.N.Nodup) (hv : i ∈ vs := by decide) (hi : X.N[i]? = some n := by rfl) (hx : scope.names.lookup n = some .local := by rfl) : TgOkH X scope pz (.Name n pos) vs (fun r G => some (G.set i (some r))) := by
  refine ⟨gName i, fun s H C cl fp => ?_, fun M H S G G' σ v r Q t hr hb q => ?_⟩
  · have hx' : (relS scope X.env.scope).names.lookup n = some .local := lookup_relS_keep (by decide) hx
    exact pg_name (i := i) nd hi (.inl hx') (.inr hx')
  · cases hb
    exact q _ (t.set hr) (wipe_set σ hv)
/-- the new list of a comprehension, as it is filled -/
theorem lcH_reads {bind : It → Gam → Option Gam} {out : List PyData} {C : Sto → Prop} (c : Cxh X W k pz) (hi : EvIH X tg iter G S rs C S1) (ht : TgOkH X scope pz tg (own.map (·.2)) bind) (J : Nat → List PyData → Sto → Prop) (h0 : J 0 [] S1) (hC : ∀ i acc S', J i acc S' → ∀ L, C (S' ++ L))
    (hs : ∀ i r acc S', rs[i]? = some r → J i acc S' → S'.length = S1.length → ∃ G' b, bind r (wipeG G (own.map (·.2))) = some G' ∧ (∀ L s H C cl fp, EvTs (blkP X scope pz s H C cl fp) ifs G' (S' ++ L) b) ∧
      (b = true → ∃ y S3, S3.length = S1.length ∧ (∀ L s H C cl fp, Ev (blkP X scope pz s H C cl fp) elt G' (S' ++ L) (.d y) (S3 ++ L)) ∧ J (i + 1) (acc ++ [y]) S3) ∧ (b = false → J (i + 1) acc S'))
    (hd : ∀ acc S', J rs.length acc S' → acc = out ∧ S' = S2) (hz : rs.length ≤ 1000000) (hcl : ClS S1 → ClS S2) :
    ∃ (wi : TI) (g : TG), PIH X tg iter wi ∧ (∀ s H C cl fp, PG (blkP X scope pz s H C cl fp) tg g) ∧ ∀ (M : List Addr) (σ : Sig) (H : Hp) (Q : VK), Stt X.K M H S G σ → (∀ v M' H', Ext M H M' H' → Stt X.K M' H' S2 G σ → VRep X.K M' H' v (.d (.list out)) → Q v H') →
      tLc wi g (tTsH X scope pz ifs) (tElH X scope pz elt) (own.map (·.2)) σ H Q := by
  obtain ⟨g, hpg, hg⟩ := ht.ex
  obtain ⟨wi, hpi, hw⟩ := hi
  refine ⟨wi, g, hpi, hpg, fun M σ H Q s q => hw M σ H _ s fun M1 H1 Jt e1 t1 wk => ?_⟩
  intro D hD
  have eD : Ext M1 H1 (M1 ++ [D]) (upd H1 D (.lst [])) := Ext.own hD
  have lenM : ∀ {M' : List Addr} {H' : Hp} {S' : Sto} {acc : List PyData}, StoreOk X.K M' H' (S' ++ [Own.lst (acc.map .d)]) → S'.length = S1.length → Ext (M1 ++ [D]) (upd H1 D (.lst [])) M' H' → M' = M1 ++ [D] := fun {M' H' S' acc} s' hl e' => by
    obtain ⟨L, eL⟩ := e'.pre
    have h1 := s'.len
    rw [eL, List.length_append, List.length_append, List.length_append, t1.sto.len] at h1
    have h2 : L.length = 0 := by
      have : [D].length = 1 := rfl
      have : [Own.lst (acc.map .d)].length = 1 := rfl
      omega
    rw [eL, List.eq_nil_of_length_eq_zero h2, List.append_nil]
  have ww : ∀ (vs us : List Nat) (σ : Sig), (∀ v ∈ us, v ∈ vs) → wipe (wipe σ us) vs = wipe σ vs := by
    intro vs us
    induction us with
    | nil => intro σ _; rfl
    | cons u r ih =>
      intro σ hm
      show wipe ((wipe σ r).set u none) vs = _
      rw [wipe_set _ (hm u List.mem_cons_self), ih σ fun v hv => hm v (List.mem_cons_of_mem _ hv)]
  have hDn : (M1 ++ [D])[S1.length]? = some D := by rw [← t1.sto.len, List.getElem?_append_right (Nat.le_refl _), Nat.sub_self]; rfl
  refine ⟨fun i m' H' => (m' = rs.length - i ∧ i ≤ rs.length) ∧ ∃ S' acc, S'.length = S1.length ∧ Ext (M1 ++ [D]) (upd H1 D (.lst [])) (M1 ++ [D]) H' ∧ Stt X.K (M1 ++ [D]) H' (S' ++ [.lst (acc.map .d)]) G σ ∧ acc.length ≤ i ∧ J i acc S',
    ⟨_, ⟨rfl, Nat.zero_le _⟩, S1, [], rfl, Ext.refl, t1.mono eD (t1.sto.own (w := .lst ([] : List It)) hD ⟨[], upd_same, .nil⟩), Nat.le_refl _, h0⟩, fun i m' H' hw' => ?_⟩
  obtain ⟨⟨rfl, hi'⟩, S', acc, hl', e', t', hacc, hJ⟩ := hw'
  have cS := hC i acc S' hJ [.lst (acc.map .d)]
  by_cases hlt : i < rs.length
  · refine .inr ⟨wk.go i _ H' _ hlt (eD.trans e') t'.sto cS, fun H2 => ∃ S' acc, S'.length = S1.length ∧ Ext (M1 ++ [D]) (upd H1 D (.lst [])) (M1 ++ [D]) H2 ∧ Stt X.K (M1 ++ [D]) H2 (S' ++ [.lst (acc.map .d)]) G σ ∧ acc.length ≤ i + 1 ∧ J (i + 1) acc S', fun H2 q => ⟨rs.length - (i + 1), by omega, ⟨rfl, by omega⟩, q⟩, fun x H2 y => ?_⟩
    have hri : rs[i]? = some rs[i] := List.getElem?_eq_getElem hlt
    obtain ⟨ey, sy, vy⟩ := wk.yl i _ H' _ x H2 _ hri (eD.trans e') t'.sto cS y
    have ty : Stt X.K (M1 ++ [D]) H2 (S' ++ [.lst (acc.map .d)]) G σ := t'.mono ey sy
    have e2 := e'.trans ey
    obtain ⟨G', b, hb, hT, hy, hn⟩ := hs i _ acc S' hri hJ hl'
    refine hg (M1 ++ [D]) H2 (S' ++ [.lst (acc.map .d)]) (wipeG G (own.map (·.2))) G' (wipe σ (own.map (·.2))) x rs[i] _ (ty.wipe _) vy hb ?_
    intro σ2 t2 w2
    refine ⟨w2.trans (ww _ _ _ fun _ h => h), ?_⟩
    -- behind the tests
    have fin : ∀ (H3 : Hp), Ext (M1 ++ [D]) H2 (M1 ++ [D]) H3 → Stt X.K (M1 ++ [D]) H3 (S' ++ [.lst (acc.map .d)]) G' σ2 → (if b = true then tElH X scope pz elt σ2 H3 fun y H4 => ∃ acc, H4 D = some (.lst acc) ∧ acc.length < sizeLine ∧ ∃ S' acc_1, S'.length = S1.length ∧ Ext (M1 ++ [D]) (upd H1 D (.lst [])) (M1 ++ [D]) (upd H4 D (.lst (acc ++ [y]))) ∧ Stt X.K (M1 ++ [D]) (upd H4 D (.lst (acc ++ [y]))) (S' ++ [.lst (acc_1.map .d)]) G σ ∧ acc_1.length ≤ i + 1 ∧ J (i + 1) acc_1 S'
        else ∃ S' acc, S'.length = S1.length ∧ Ext (M1 ++ [D]) (upd H1 D (.lst [])) (M1 ++ [D]) H3 ∧ Stt X.K (M1 ++ [D]) H3 (S' ++ [.lst (acc.map .d)]) G σ ∧ acc.length ≤ i + 1 ∧ J (i + 1) acc S') := by
      intro H3 e3 t3
      cases b with
      | false => exact iteF ⟨S', acc, hl', e2.trans e3, ty.mono e3 t3.sto, Nat.le_succ_of_le hacc, hn rfl⟩
      | true =>
        refine iteT fun s0 H0 C cl fp => ?_
        obtain ⟨y, S3, hl3, hE, hJ3⟩ := hy rfl
        refine hE [.lst (acc.map .d)] s0 H0 C cl fp (M1 ++ [D]) σ2 H3 _ t3 fun v4 M4 H4 e4 t4 r4 => ?_
        obtain rfl : M4 = M1 ++ [D] := lenM t4.sto hl3 ((e2.trans e3).trans e4)
        have hSn : (S3 ++ [Own.lst (acc.map .d)])[S1.length]? = some (.lst (acc.map .d)) := by rw [← hl3, List.getElem?_append_right (Nat.le_refl _), Nat.sub_self]; rfl
        obtain ⟨vs4, hv4, hr4⟩ := t4.sto.rep _ _ _ hDn hSn
        have hl4 : vs4.length = acc.length := by rw [hr4.len, List.length_map]
        have e5 : Ext (M1 ++ [D]) H4 (M1 ++ [D]) (upd H4 D (.lst (vs4 ++ [v4]))) := Ext.put (List.mem_of_getElem? hDn)
        have s5 := t4.sto.put (w := .lst ((acc ++ [y]).map .d)) hDn ⟨vs4 ++ [v4], upd_same, by
          rw [List.map_append]
          exact VReps.append (VReps.ext e5 hr4) (.cons (r4.ext e5) .nil)⟩
        have hset : (S3 ++ [Own.lst (acc.map It.d)]).set S1.length (.lst ((acc ++ [y]).map .d)) = S3 ++ [.lst ((acc ++ [y]).map .d)] := by
          rw [← hl3, List.set_append_right _ _ (Nat.le_refl _), Nat.sub_self]
          rfl
        rw [hset] at s5
        refine ⟨vs4, hv4, ?_, S3, acc ++ [y], hl3, ((e2.trans e3).trans e4).trans e5, ty.mono ((e3.trans e4).trans e5) s5, by rw [List.length_append]; exact Nat.succ_le_succ hacc, hJ3⟩
        rw [sizeLine_eq]
        omega
    intro s0 H0 C cl fp
    have hT' := hT [.lst (acc.map .d)] s0 H0 C cl fp
    cases ifs with
    | nil =>
      have hb1 : b = true := hT'
      have f0 := fin H2 Ext.refl t2
      rw [hb1] at f0
      exact f0
    | cons tt r =>
      cases r with
      | nil =>
        refine hT' (M1 ++ [D]) σ2 H2 _ t2 fun M4 H4 e4 t4 => ?_
        obtain rfl : M4 = M1 ++ [D] := lenM t4.sto hl' (e2.trans e4)
        exact fin H4 e4 t4
      | cons _ _ => exact hT'.elim
  · have ei : i = rs.length := by omega
    subst ei
    refine .inl ⟨wk.st _ _ H' _ (Nat.le_refl _) (eD.trans e') t'.sto cS, ?_⟩
    obtain ⟨rfl, rfl⟩ := hd acc S' hJ
    have hSn : (S' ++ [Own.lst (acc.map .d)])[S1.length]? = some (.lst (acc.map .d)) := by rw [← hl', List.getElem?_append_right (Nat.le_refl _), Nat.sub_self]; rfl
    obtain ⟨vs4, hv4, hr4⟩ := t'.sto.rep _ _ _ hDn hSn
    have eT : (M1 ++ [D]).take S'.length = M1 := by rw [hl', ← t1.sto.len]; exact List.take_left ..
    have s6 := t'.sto.take (hcl t1.sto.closed)
    rw [eT] at s6
    have e6 : Ext M1 H1 M1 H' := by
      have := (eD.trans e').take (n := M1.length) (Nat.le_refl _)
      rwa [List.take_left] at this
    have hds : ∀ acc : List PyData, ds? (acc.map It.d) = some acc := by
      intro acc
      induction acc with
      | nil => rfl
      | cons x r ih => show (ds? (r.map It.d)).map (x :: ·) = _; rw [ih]; rfl
    exact q (.ref D) M1 H' (e1.trans e6) (t1.mono e6 s6) (Fz.lst ⟨.inl hv4, t1.sto.nin hD⟩ (FzAll.less (fun _ h => List.mem_append_left _ h) (fz_all (hds acc) hr4)))
theorem ptsH_tTs (s0 : Shared) (H0 : Hp) (C : Addr) (cl : List (Str × Addr)) (fp : List Addr) : PTs (blkP X scope pz s0 H0 C cl fp) ifs (tTsH X scope pz ifs) := by
  cases ifs with
  | nil => exact ⟨fun pins s1 σ1 H1 Q1 I1 h1 => (pts_nil (X := blkP X scope pz s0 H0 C cl fp)).run pins s1 σ1 H1 Q1 I1 (h1 s0 H0 C cl fp)⟩
  | cons t r =>
    cases r with
    | nil => exact ⟨fun pins s1 σ1 H1 Q1 I1 h1 => (pts_one (pt_s (X := blkP X scope pz s0 H0 C cl fp) (e := t))).run pins s1 σ1 H1 Q1 I1 (h1 s0 H0 C cl fp)⟩
    | cons _ _ => exact ⟨fun pins s1 σ1 H1 Q1 I1 h1 => (h1 s0 H0 C cl fp).elim⟩
theorem peH_tEl (s0 : Shared) (H0 : Hp) (C : Addr) (cl : List (Str × Addr)) (fp : List Addr) : PE (blkP X scope pz s0 H0 C cl fp) elt (tElH X scope pz elt) := ⟨fun pins s1 σ1 H1 Q1 I1 h1 => h1 s0 H0 C cl fp pins s1 I1⟩
/-- what a comprehension asks: source, target, turns; data come of it -/
structure LcOkH (X : Cx) (scope : Scope) (pz : Addr × Obj) (own : List (Str × Nat)) (elt tg iter : Expr) (ifs : List Expr) (G : Gam) (S : Sto) (out : List PyData) (S2 : Sto) : Prop where
  ex : ∃ (wi : TI) (g : TG), PIH X tg iter wi ∧ (∀ s H C cl fp, PG (blkP X scope pz s H C cl fp) tg g) ∧ ∀ (M : List Addr) (σ : Sig) (H : Hp) (Q : VK), Stt X.K M H S G σ → (∀ v M' H', Ext M H M' H' → Stt X.K M' H' S2 G σ → VRep X.K M' H' v (.d (.list out)) → Q v H') →
      tLc wi g (tTsH X scope pz ifs) (tElH X scope pz elt) (own.map (·.2)) σ H Q
/-- nothing that is owned changes: each item gives by f whether, by gg what -/
theorem lcH_pure {bind : It → Gam → Option Gam} {C : Sto → Prop} (c : Cxh X W k pz) (hi : EvIH X tg iter G S rs C S1) (ht : TgOkH X scope pz tg (own.map (·.2)) bind) (f : It → Bool) (gg : It → PyData) (hC : ∀ L, C (S1 ++ L))
    (hs : ∀ r ∈ rs, ∃ G', bind r (wipeG G (own.map (·.2))) = some G' ∧ (∀ L s H C cl fp, EvTs (blkP X scope pz s H C cl fp) ifs G' (S1 ++ L) (f r)) ∧ (f r = true → ∀ L s H C cl fp, Ev (blkP X scope pz s H C cl fp) elt G' (S1 ++ L) (.d (gg r)) (S1 ++ L))) (hz : rs.length ≤ 1000000) :
    LcOkH X scope pz own elt tg iter ifs G S ((rs.filter f).map gg) S1 := by
  refine ⟨lcH_reads c hi ht (fun i acc S' => S' = S1 ∧ acc = ((rs.take i).filter f).map gg) ⟨rfl, rfl⟩ (fun i acc S' h L => by rw [h.1]; exact hC L) (fun i r acc S' hr hJ _ => ?_) (fun acc S' hJ => ?_) hz fun h => h⟩
  · obtain ⟨rfl, rfl⟩ := hJ
    obtain ⟨G', h1, h2, h3⟩ := hs r (List.mem_of_getElem? hr)
    have et : rs.take (i + 1) = rs.take i ++ [r] := by rw [List.take_add_one, hr]; rfl
    refine ⟨G', f r, h1, h2, fun hf => ⟨gg r, S', rfl, h3 hf, rfl, ?_⟩, fun hf => ⟨rfl, ?_⟩⟩
    · rw [et, List.filter_append, List.map_append]
      congr 1
      simp [hf]
    · rw [et, List.filter_append]
      simp [hf]
  · obtain ⟨rfl, rfl⟩ := hJ
    rw [List.take_length]
    exact ⟨rfl, rfl⟩
theorem ev_lcH {out : List PyData} (c : Cxh X W k pz) (ok : BlkOk X.N X.env.scope scope own) (h : LcOkH X scope pz own elt tg iter ifs G S out S2) (hf : ∀ x, foldedSetIterable iter X.env x = pure x := by intro _; rfl) : Ev X (.ListComp elt [⟨tg, iter, ifs, 0⟩] scope pos) G S (.d (.list out)) S2 := fun M σ H Q s q => by
  obtain ⟨wi, g, hpi, hpg, h⟩ := h.ex
  exact toE (pe_lcH c.hot c.pn c.nd hpi ok hpg ptsH_tTs peH_tEl hf) (h M σ H Q s q)
/-- y = [..], y a local -/
theorem ws_setLcH {out : List PyData} (i : Nat) {n : Str} (c : Cxh X W k pz) (ok : BlkOk X.N X.env.scope scope own) (h : LcOkH X scope pz own elt tg iter ifs G S out S2) (q : P.nx (G.set i (some (.d (.list out)))) S2) (hy : X.N[i]? = some n := by rfl) (hyl : X.env.scope.names.lookup n = some .local := by rfl)
    (hsw : swapsWith (.ListComp elt [⟨tg, iter, ifs, 0⟩] scope pos) (some (.Name n pos')) apos.line X.env = pure true := by exact sw_true rfl rfl rfl (by decide +kernel)) (hf : ∀ x, foldedSetIterable iter X.env x = pure x := by intro _; rfl) : WS X W (.Assign [.Name n pos'] (.ListComp elt [⟨tg, iter, ifs, 0⟩] scope pos) apos) G S P := fun M σ H D s m => by
  obtain ⟨wi, g, hpi, hpg, h⟩ := h.ex
  exact toS (ps_setLcH (i := i) c.hot c.pn c.nd hy hyl hsw hpi ok hpg ptsH_tTs peH_tEl hf) (h M σ H _ s fun v M1 H1 e1 t1 r1 => m.nx M1 _ H1 _ S2 e1 (t1.set r1) q)
end
end Cu
/-! CvJ: a slice of the script. -/
namespace Cu
open PySem PySem.Spec PyProof.Rows L2
theorem fz_intsL {M : List Addr} {H : Hp} : ∀ (ns : List Int), FzAll M H (ns.map V.int) (ns.map .int)
  | [] => .nil
  | n :: ns => .cons (.int n) (fz_intsL ns)
theorem cut_ints (ns : List Int) (a b : Option Int) : cutD (ns.map PyData.int) a b = (cutD ns a b).map .int := by
  unfold cutD
  rw [List.length_map, List.map_take, List.map_drop]
section
variable {X : Cx} {G : Gam} {S S1 : Sto} {a : Expr} {pos : Pos}
theorem ev_slSc {ns : List Int} {lo hi : Option Expr} {il ih : Option Int} {p2 : Pos} (ha : Ev X a G S (.s ns) S1) (hl : EvP X lo G S1 il) (hh : EvP X hi G S1 ih) : Ev X (.Subscript a (.Slice lo hi none p2) pos) G S (.d (.list ((cutD ns il ih).map .int))) S1 := fun M σ H Q s q =>
  toE (pe_slice sl_list pe_s po_tEP po_tEP) (ha M σ H _ s fun v M1 H1 e1 t1 r1 => hl.run t1 fun M2 H2 e2 t2 => hh.run t2 fun M3 H3 e3 t3 => by
    obtain ⟨ad, rfl, h1⟩ := (r1.ext e2).ext e3
    refine ⟨_, _, rfl, h1.sq, fun p hp => q _ M3 _ (((e1.trans e2).trans e3).trans (Ext.fresh hp)) (t3.fresh hp) (Fz.lst (xs := cutD (ns.map V.int) il ih) ⟨.inl upd_same, t3.sto.nin hp⟩ ?_)⟩
    rw [← cut_ints]
    exact FzAll.ext (Ext.fresh hp) (fz_cut (fz_intsL ns)))
end
end Cu
/-! CvK: name = [..], an element may raise. -/
namespace Cu
open PySem PySem.Spec PyProof.Rows L2
/-! ### what an error does to its state -/
theorem inv_put {X : Cx} {f : Value → Shared → Prop} {pins : List (Addr × Obj)} {σ : Sig} {H : Hp} {s : Shared} (I : Inv X pins σ H s) : Inv { X with xe := f } pins σ H s :=
  ⟨⟨I.ok.mod, I.ok.kind, I.ok.glob, I.ok.blt, I.ok.above, I.ok.inj, I.ok.has, I.ok.cab, I.ok.hd, I.ok.frames, I.ok.stk, I.ok.exf, I.ok.bs, I.ok.bsz, I.ok.noex, I.ok.exfs, I.ok.funs, I.ok.frf⟩, I.os, I.bare, I.base, I.loc, I.cell, I.free, I.freeC, I.pin, I.hok, I.len⟩
theorem inv_off {X : Cx} {f : Value → Shared → Prop} {pins : List (Addr × Obj)} {σ : Sig} {H : Hp} {s : Shared} (I : Inv { X with xe := f } pins σ H s) : Inv X pins σ H s :=
  ⟨⟨I.ok.mod, I.ok.kind, I.ok.glob, I.ok.blt, I.ok.above, I.ok.inj, I.ok.has, I.ok.cab, I.ok.hd, I.ok.frames, I.ok.stk, I.ok.exf, I.ok.bs, I.ok.bsz, I.ok.noex, I.ok.exfs, I.ok.funs, I.ok.frf⟩, I.os, I.bare, I.base, I.loc, I.cell, I.free, I.freeC, I.pin, I.hok, I.len⟩
/-- an error in the air, of whatever hand, is noted at the frame L -/
theorem sky_note {M : Model} {A : Around} {E : Value → Shared → Prop} {env : Env} {outer : List Env} {L C a : Addr} {Z : Obj → Prop} {B : Heap} {s : Shared} {Q : Unit → Shared → Prop} (hZ : HandSPX.Steady Z) (hfr : A.frames = some (env :: outer)) (hf : env.frame = some L) (hne : C ≠ L)
    (x : Sky B (env :: outer) a Z C s.heap) (hQ : ∀ h', HandSPX.HeldZ B (env :: outer) a Z L h' → s.heap.UpToSlots h' → Q () { s with heap := h' }) : wpAny M A (noteFrame (.ref a) env) Q E s := by
  rcases x with ⟨g0, g1, g2, ob, fs, g3, g4, g5, g6⟩ | fl | ⟨g0, g1, g2, ob, fs, tb, ot, us, g3, g4, g5, g6, g7, g8, g9, g10, g11⟩
  · exact HandSPX.look_newZ hZ hfr g2 hf g3 g0 g1 g5 g6 g4 hQ
  · exact HandSPX.looks_onZ hZ hfr hf fl hQ
  · unfold noteFrame
    simp only [hf]
    refine wpAny_bind (wpAny_field g3 g5 g6 ?_)
    rw [if_pos (show (Value.ref tb != Value.none) = true by simp)]
    refine wpAny_bind (wpAny_field g9 g10 g11 ?_)
    have hraw : ¬ ((rawInt (C : Int) == rawInt (L : Int)) = true) := by
      unfold rawInt
      simp
      intro e
      exact hne (by exact_mod_cast e)
    rw [if_neg hraw]
    refine wpAny_bind (wpAny_setField g9 g10 (Array.getElem?_eq_some_iff.mp g11).1 ?_)
    have oth : ∀ b, b ≠ tb → (s.heap.update tb (Obj.mapFields (·.setIfInBounds 3 Value.none))).get? b = s.heap.get? b := fun b hb => Heap.get?_update_other _ _ (Ne.symm hb)
    have nrec : ∀ b o, s.heap.get? b = some o → (∀ vs, o.data ≠ .fields vs) → b ≠ tb := fun b o e hn z => by
      rw [z, g9] at e
      injection e with e
      subst e
      exact hn us g10
    have fr2 := g2.of_keeps fun b o e hn => ⟨o, (oth b (nrec b o e hn)).trans e, rfl⟩
    have st2 : B.StaysIn (s.heap.update tb (Obj.mapFields (·.setIfInBounds 3 Value.none))) := fun b o e => (oth b fun z => by rw [z, g7] at e; cases e).trans (g0 b o e)
    refine HandSPX.wpAny_entryZ hZ hfr fr2 hf ((oth a (Ne.symm g8)).trans g3) st2 g1 g5 (Array.getElem?_eq_some_iff.mp g6).1 g4 fun h' hN => ?_
    exact hQ h' ⟨hN.1, g1, hN.2.1, hN.2.2.1⟩ fun b o e hn => hN.2.2.2 b o ((oth b (nrec b o e hn)).trans e) hn
/-- frames elsewhere do not see that C is another one -/
theorem frames_but {h h' base base' : Heap} {C : Addr} : ∀ {l : List Env}, h.FunFrames base l → (∀ b ∈ frs l, b ≠ C) → (∀ b, b ≠ C → h'.get? b = h.get? b) → (∀ b, base.get? b = none → base'.get? b = none) → h'.FunFrames base' l
  | [], _, _, _, _ => trivial
  | e :: l, ⟨h1, ⟨L, o, h2, h3, h4, h5⟩, h6⟩, hC, hk, hb => by
    have hL : L ∈ frs (e :: l) := List.mem_filterMap.mpr ⟨e, List.mem_cons_self, h2⟩
    refine ⟨h1, ⟨L, o, h2, hb L h3, (hk L (hC L hL)).trans h4, h5⟩, frames_but h6 (fun b hm => ?_) hk hb⟩
    obtain ⟨e', he, q⟩ := List.mem_filterMap.mp hm
    exact hC b (List.mem_filterMap.mpr ⟨e', List.mem_cons_of_mem _ he, q⟩)
/-- the block's context, an error wished for -/
abbrev blkE (X : Cx) (scope : Scope) (s0 : Shared) (H0 : Hp) (C : Addr) (cl : List (Str × Addr)) (fp : List Addr) (f : Value → Shared → Prop) : Cx := { blkX X scope s0 H0 C cl fp with xe := f }
/-- it comes out of the block -/
theorem block_out {X : Cx} {W : WX} {pins : List (Addr × Obj)} {σ : Sig} {H : Hp} {s : Shared} {scope : Scope} {cl : List (Str × Addr)} {fp : List Addr} {f : Value → Shared → Prop} {u : Value} {s' : Shared} {cenv : Env} {Qn : Value → Shared → Prop} {E1 : Value → Shared → Prop}
    (hs : X.stack = X.env :: X.outer) (hf : X.env.frame = some X.env.locals) (tk : Takes X W) (I : Inv X pins σ H s) (hfp : ∀ b ∈ fp, FpOk X pins H b) (hce : cenv.frame = X.env.frame)
    (x : XE (blkE X scope s H s.heap.objs.size cl fp f) (fun cls d _ H' => W cls d σ H') u s') :
    wpAny (model X.prog X.w) X.A (noteFrame u (compEnvC scope cl s.heap.objs.size X.env)) (fun _ s2 => ∃ m, s2.heap.Ns s.heap.objs.size m ∧ ∀ h', Heap.SameBut s.heap.objs.size s2.heap h' → wpAny (model X.prog X.w) X.A (PySem.passOn "comprehension.variables-let-go" u cenv : Sem Value) Qn X.xe { s2 with heap := h' }) E1 s' := by
  obtain ⟨a, B, sI, pins1, σ1, H1, cls, d, rfl, I6, nb, up, sky, na, os, ag, w⟩ := x
  have I6 := inv_off I6
  have hfr : X.A.frames = some (X.env :: X.outer) := by rw [I.ok.frames, hs]
  generalize hC : s.heap.objs.size = C at *
  have hCL : C ≠ X.env.locals := fun z => by
    have := I.lt
    rw [hC, ← z] at this
    exact Nat.lt_irrefl _ this
  have hCf : ∀ b ∈ frs (X.env :: X.outer), b ≠ C := fun b hb z => by
    rw [← hs] at hb
    obtain ⟨_, o, e, _⟩ := I.stack.mem hb
    have := Heap.lt_size e
    rw [hC, z] at this
    exact Nat.lt_irrefl _ this
  show wpAny _ _ (noteFrame (.ref a) X.env) _ _ _
  have sky : Sky B X.stack a (Zc cls d) C s'.heap := sky
  have nb : ∀ b o, sI.heap.get? b = some o → b ∉ frs X.stack → B.get? b = some o := nb
  rw [hs] at sky nb
  refine sky_note Zc.steady hfr hf hCL sky fun h1 hh up1 => ?_
  obtain ⟨m, hn, _⟩ := I6.loc
  have hn : sI.heap.Ns C m := hn
  have nC : H1 C = none := I6.free
  have n1 : h1.Ns C m := (up.trans up1).ns hn
  refine ⟨m, n1, fun h' sb => ?_⟩
  -- the def's own state
  have I7 : Inv X pins σ H1 sI := I.call' (ch := fp) I6.os I6.base I6.hok I6.bare fun b hb => ⟨(hfp b hb).2.2.2.1, (hfp b hb).2.1, (hfp b hb).2.2.2.2.1, (hfp b hb).2.2.2.2.2⟩
  obtain ⟨G, gg1, gg2⟩ := restrict sI.heap fun b => decide (b ≠ C)
  obtain ⟨B', bb1, bb2⟩ := restrict B fun b => decide (b ≠ C)
  obtain ⟨f0, f1, f2, f3, f4, f5⟩ := I.fpOk (Nat.le_of_eq hC) nC
  have I8 : Inv X pins σ H1 { sI with heap := G } := I7.turned (it := C) (t' := sI.toks) (fun b o hb e => (gg1 b (decide_eq_true hb)).trans e) f0 f1 f3 f4 f5
  have inG : ∀ b o, G.get? b = some o → b ≠ C ∧ sI.heap.get? b = some o := fun b o e => by
    by_cases hb : b = C
    · rw [gg2 b (decide_eq_false fun z => z hb)] at e; cases e
    · exact ⟨hb, (gg1 b (decide_eq_true hb)).symm.trans e⟩
  have inB : ∀ b o, B'.get? b = some o → b ≠ C ∧ B.get? b = some o := fun b o e => by
    by_cases hb : b = C
    · rw [bb2 b (decide_eq_false fun z => z hb)] at e; cases e
    · exact ⟨hb, (bb1 b (decide_eq_true hb)).symm.trans e⟩
  have noB : ∀ b, B.get? b = none → B'.get? b = none := fun b e => by
    cases q : B'.get? b with
    | none => rfl
    | some o => rw [(inB b o q).2] at e; cases e
  obtain ⟨k0, k1, k2, ob, vs, tb, ot, us, k3, k4, k5, k6, k7, k8, k9, k10, k11⟩ := hh
  have notC : ∀ {b o vs}, h1.get? b = some o → o.data = .fields vs → b ≠ C := fun {b o vs} e1 e2 z => by
    obtain ⟨o', es, ep, q1, q2, _⟩ := n1
    rw [z, q1] at e1
    injection e1 with e1
    rw [← e1, q2] at e2
    cases e2
  have hld : HandSPX.HeldZ B' (X.env :: X.outer) a (Zc cls d) X.env.locals h' :=
    ⟨fun b o e => (sb.2 b (inB b o e).1).trans (k0 b o (inB b o e).2), noB a k1, frames_but k2 hCf sb.2 noB,
      ob, vs, tb, ot, us, (sb.2 a (notC k3 k5)).trans k3, k4, k5, k6, noB tb k7, k8, (sb.2 tb (notC k9 k10)).trans k9, k10, k11⟩
  unfold PySem.passOn
  refine wpAny_bind (wpAny_field ((sb.2 a (notC k3 k5)).trans k3) k5 k6 ?_)
  rw [if_neg (show ¬ ((Value.ref tb == Value.none) = true) by simp)]
  rw [hce, hf]
  have fin : ∀ h2, HandSPX.HeldZ B' (X.env :: X.outer) a (Zc cls d) X.env.locals h2 → h'.UpToSlots h2 → wpAny (model X.prog X.w) X.A (throw (.ref a)) Qn X.xe ({ s' with heap := h2 } : Shared) := fun h2 hh2 up2 => by
    refine wpAny_throw (tk _ _ ⟨a, B', { sI with heap := G }, pins, σ, H1, cls, d, rfl, I8, fun b o e hb => ?_, ?_, .inr (.inr (by rw [hs]; exact hh2)), na, os, ag, w⟩)
    · obtain ⟨q1, q2⟩ := inG b o e
      rw [hs] at hb
      exact (bb1 b (decide_eq_true q1)).trans (nb b o q2 hb)
    · intro b o e hnf
      obtain ⟨q1, q2⟩ := inG b o e
      obtain ⟨sl, q3⟩ := (up.trans up1) b o q2 hnf
      obtain ⟨sl2, q4⟩ := up2 b _ ((sb.2 b q1).trans q3) hnf
      exact ⟨sl2, q4⟩
  exact wpAny_bind (HandSPX.setFlight_onZ hld fun h2 hh2 up2 => fin h2 hh2 up2)
/-! ### the comprehension -/
theorem clo_none {cells : List (Str × Addr)} : ∀ {names : List (Str × NameKind)} {acc : List (Str × Addr)}, (∀ y ∈ names, y.2 ≠ .free) → cloFrom cells names acc = acc
  | [], _, _ => rfl
  | (n, k) :: r, acc, h => by
    have hk : (k == NameKind.free) = false := beq_eq_false_iff_ne.mpr (h (n, k) List.mem_cons_self)
    show (if (k == NameKind.free) = true then _ else _) = _
    rw [hk, if_neg Bool.false_ne_true]
    exact clo_none fun y hy => h y (List.mem_cons_of_mem _ hy)
theorem rel_none {scope : Scope} {env : Env} (h : ∀ y ∈ scope.names, y.2 ≠ .free) : relabel scope env = scope := by
  have e : ∀ names : List (Str × NameKind), (∀ y ∈ names, y.2 ≠ .free) → (names.map fun (n, k) => if (k == NameKind.free && env.scope.kind == .function && env.kindOf n == some .cell) then (n, NameKind.cell) else (n, k)) = names := fun names => by
    induction names with
    | nil => exact fun _ => rfl
    | cons y r ih =>
      intro h
      obtain ⟨n, k⟩ := y
      have hk : (k == NameKind.free) = false := beq_eq_false_iff_ne.mpr (h (n, k) List.mem_cons_self)
      rw [List.map_cons, ih fun y hy => h y (List.mem_cons_of_mem _ hy)]
      simp [hk]
  unfold relabel
  rw [e _ h]
/-- the element, whatever the block's own error wish -/
def tElE (X : Cx) (W : WX) (σ0 : Sig) (scope : Scope) (elt : Expr) : TE := fun σ H Q => ∀ s0 H0 C cl fp f, Takes (blkE X scope s0 H0 C cl fp f) (fun cls d _ H' => W cls d σ0 H') → PassesOwn (model X.prog X.w) X.A (compEnvC scope cl C X.env) f → sE (blkE X scope s0 H0 C cl fp f) elt σ H Q
def tLcE (X : Cx) (W : WX) (scope : Scope) (elt : Expr) (wi : TI) (g : TG) (vs : List Nat) : TE := fun σ H Q => wi σ H fun J H1 => ∀ D, H1 D = none → ∃ Wt : Nat → Nat → Hp → Prop, (∃ m, Wt 0 m (upd H1 D (.lst []))) ∧ ∀ i m H, Wt i m H →
  (J.stop i H ∧ Q (.ref D) H) ∨ (J.go i H ∧ ∃ Nx : Hp → Prop, (∀ H', Nx H' → ∃ m', m' < m ∧ Wt (i + 1) m' H') ∧ ∀ x H', J.yld i H x H' → g x (wipe σ vs) H' fun σ2 H2 => wipe σ2 vs = wipe σ vs ∧
    tElE X W σ scope elt σ2 H2 fun y H4 => ∃ acc, H4 D = some (.lst acc) ∧ acc.length < sizeLine ∧ Nx (upd H4 D (.lst (acc ++ [y]))))
theorem ps_setLcE {X : Cx} {W : WX} {i : Nat} {y : Str} {py : Pos} {elt tg iter : Expr} {scope : Scope} {own : List (Str × Nat)} {pos spos : Pos} {wi : TI} {g : TG} (hc : X.calm = true) (hN : X.N.Nodup) (hst : X.stack = X.env :: X.outer) (hfr : X.env.frame = some X.env.locals) (tk : Takes X W)
    (hy : X.N[i]? = some y) (hyl : X.env.scope.names.lookup y = some .local) (hsw : swapsWith (.ListComp elt [⟨tg, iter, [], 0⟩] scope pos) (some (.Name y py)) spos.line X.env = pure true) (hi : PI X tg iter wi) (ok : BlkOk X.N X.env.scope scope own) (hfree : ∀ y ∈ scope.names, y.2 ≠ .free)
    (hg : ∀ (s : Shared) (H : Hp) (C : Addr) (cl : List (Str × Addr)) (fp : List Addr), PG (blkX X scope s H C cl fp) tg g) (hs : ∀ x, foldedSetIterable iter X.env x = pure x := by intro _; rfl) :
    PS X (.Assign [.Name y py] (.ListComp elt [⟨tg, iter, [], 0⟩] scope pos) spos) (fun D σ H => tLcE X W scope elt wi g (own.map (·.2)) σ H fun x H1 => gName i x σ H1 D.nx) := by
  refine ⟨fun pins s σ H Dn I h => ?_⟩
  rw [exec_Assign_Name_used _ _ _ _ hsw]
  refine wpAny_bind (wpAny_standAt (wpAny_bind ?_))
  show wpAny _ X.A (do let _ ← comprehension (.ListComp elt [⟨tg, iter, [], 0⟩] scope pos) scope X.env (firstIterPos [⟨tg, iter, [], 0⟩] pos) (newList []) false (eval iter X.env) (some (assign (.Name y py) X.env))) _ _ s
  have h : tLcE X W scope elt wi g (own.map (·.2)) σ H (fun x H1 => gName i x σ H1 Dn.nx) := h
  refine wpAny_bind (thn (Q := fun _ s' => SP X pins Dn .next s') ?_ fun _ s' hq => wpAny_pure (wpAny_pure hq))
  refine wpAny_comprehension_use (u := assign (.Name y py) X.env) rfl hs hfree ok.kind (fun y hy e => by rw [ok.uniq y hy, e]) (thn (hi.run pins s σ H _ I h) fun xv s1 hx => thn hx fun itv s2 h2 => ?_)
  obtain ⟨it, fp, tn, J, H2, e, I2, Tn, st2, f2, q⟩ := h2
  subst e
  refine wpAny_newObj_type (newEnv_comp ?_) (by show 0 ≤ sizeLine; decide)
  generalize hD : s2.heap.objs.size = D
  have hDn : H2 D = none := I2.hok.fresh (Nat.le_of_eq hD)
  obtain ⟨Wt, ⟨m0, w0⟩, turn⟩ := q D hDn
  generalize hs3 : ({ s2 with heap := s2.heap.push { cls := .type "list", data := .seq ([] : List Value).toArray } } : Shared) = s3
  have I3 : Inv X pins σ (upd H2 D (.lst [])) s3 := by
    rw [← hs3]
    exact I2.laid (t' := s2.toks) (fun b o e => Heap.get?_push_of_some _ e) (Nat.le_of_eq hD) ⟨Nat.zero_le _, [], 0, .nil, by rw [← hD]; exact Heap.get?_push_size _ rfl⟩
  have h3 : s3.heap = s2.heap.push { cls := .type "list", data := .seq ([] : List Value).toArray } := by rw [← hs3]
  have f3 : ∀ b ∈ fp, FpOk X pins (upd H2 D (.lst [])) b ∧ b < s3.heap.objs.size := fun b hb => by
    obtain ⟨o, eo, _⟩ := Tn.obj _ _ st2 b hb
    have hlt := Heap.lt_size eo
    exact ⟨⟨by rw [upd_ne (by rw [← hD]; exact Nat.ne_of_lt hlt)]; exact (f2 b hb).1, (f2 b hb).2⟩, by rw [h3, Heap.size_push]; exact Nat.lt_succ_of_lt hlt⟩
  have st3 : tn 0 s3.heap := Tn.keep _ _ _ st2 fun b _ o eo => by rw [h3]; exact Heap.get?_push_of_some _ eo
  have I4 := block_start I3 ok hN f3
  rw [clo_none hfree] at I4
  have hce : ({ newEnv scope s3.heap.objs.size X.env.globals (cellsFrom (s3.heap.objs.size + 1) scope.names []) X.env.qual none .none (some X.env) X.env.builtins with scope := scope } : Env) = compEnvC scope (cellsFrom (s3.heap.objs.size + 1) scope.names []) s3.heap.objs.size X.env := by
    unfold compEnvC
    rw [rel_none hfree]
    rfl
  have hcf : ({ newEnv scope s3.heap.objs.size X.env.globals (cellsFrom (s3.heap.objs.size + 1) scope.names []) X.env.qual none .none (some X.env) X.env.builtins with scope := scope } : Env).frame = X.env.frame := rfl
  show codeAny _ _ (.compStart (.ListComp elt [⟨tg, iter, [], 0⟩] scope pos) 0 (.ref it) (.ref D) { newEnv scope s3.heap.objs.size X.env.globals (cellsFrom (s3.heap.objs.size + 1) scope.names []) X.env.qual none .none (some X.env) X.env.builtins with scope := scope }) _ { s3 with heap := pushCells (s3.heap.push { cls := .type "dict", data := .dict #[] }) scope.names }
  have nfp : ∀ b ∈ fp, (upd H2 D (.lst [])) b = none := fun b hb => (f3 b hb).1.1
  generalize hce0 : ({ newEnv scope s3.heap.objs.size X.env.globals (cellsFrom (s3.heap.objs.size + 1) scope.names []) X.env.qual none .none (some X.env) X.env.builtins with scope := scope } : Env) = ce at hce hcf ⊢
  generalize hcl : cellsFrom (s3.heap.objs.size + 1) scope.names [] = cl at hce I4 ⊢
  subst hce
  generalize hH3 : upd H2 D (.lst []) = H3 at I3 I4 w0 nfp f3
  generalize hC : s3.heap.objs.size = C at I4 hcf ⊢
  generalize hs4 : ({ s3 with heap := pushCells (s3.heap.push { cls := .type "dict", data := .dict #[] }) scope.names } : Shared) = s4 at I4 ⊢
  have st4 : tn 0 s4.heap := Tn.keep _ _ _ st3 fun b _ o eo => by rw [← hs4]; exact pushCells_keeps _ _ _ _ (Heap.get?_push_of_some _ eo)
  have hpost : ∀ {u : Value} {s' : Shared} {f : Value → Shared → Prop}, XE (blkE X scope s3 H3 C cl fp f) (fun cls d _ H' => W cls d σ H') u s' →
      notedBy (model X.prog X.w) X.A (compEnvC scope cl C X.env) (fun x s' => ∃ m, s'.heap.Ns C m ∧ ∀ h', Heap.SameBut C s'.heap h' → wpAny (model X.prog X.w) X.A (PySem.passOn "comprehension.variables-let-go" x (compEnvC scope cl C X.env) : Sem Value) (fun _ s' => SP X pins Dn .next s') X.xe { s' with heap := h' }) u s' := fun {u s' f} x => by
    subst hC
    exact block_out (Qn := fun _ s' => SP X pins Dn .next s') (cenv := compEnvC scope cl s3.heap.objs.size X.env) hst hfr tk I3 (fun b hb => (f3 b hb).1) hcf x
  have pg := hg s3 H3 C cl fp
  have stat : ∀ {σ' : Sig} {H' : Hp} {s' : Shared}, Inv (blkX X scope s3 H3 C cl fp) [] σ' H' s' → (∀ b ∈ fp, H' b = none) → ∀ b ∈ fp, FpOk (blkX X scope s3 H3 C cl fp) [] H' b := fun {σ' H' s'} I' hn b hb =>
    ⟨hn b hb, (I'.ok.exf b hb).1, I'.ok.exfs b hb, .inl hb, fun x c eo => (I'.ok.exf b hb).2 x c eo, fun p hp => absurd (show p ∈ ([] : List (Addr × Obj)) ++ [] from hp) (by simp)⟩
  have nC0 : ∀ {σ' : Sig} {H' : Hp} {s' : Shared}, Inv (blkX X scope s3 H3 C cl fp) [] σ' H' s' → H' C = none := fun I' => I'.free
  suffices loop : codeAny (model X.prog X.w) X.A (.compLoop (.ListComp elt [⟨tg, iter, [], 0⟩] scope pos) 0 (.ref it) (.ref D) (compEnvC scope cl C X.env)) _ s4 from codeAny_compStart_list loop (Tn.self X.A 0 _ _ _ st4 loop)
  refine compLoop_any (fun n s' => ∃ i H', Inv (blkX X scope s3 H3 C cl fp) [] (wipe σ (own.map (·.2))) H' s' ∧ tn i s'.heap ∧ (∀ b ∈ fp, H' b = none) ∧ Wt i n H') ?_ m0 ⟨0, H3, I4, st4, nfp, w0⟩
  rintro n s5 ⟨j, H5, I5, st5, n5, w5⟩
  rcases turn j n H5 w5 with ⟨stop, qq⟩ | ⟨go, Nx, hNx, step⟩
  · refine thnF (Tn.done (blkX X scope s3 H3 C cl fp) rfl rfl rfl hc j [] s5 _ H5 (fun _ _ => False) I5 (stat I5 n5) st5 stop) fun r s6 hr6 => ?_
    obtain ⟨hr, I6⟩ := hr6
    subst hr
    have I7 : Inv X pins σ H5 s6 := I3.call' (ch := fp) I6.os I6.base I6.hok I6.bare fun b hb => ⟨(f3 b hb).1.2.2.2.1, (f3 b hb).1.2.1, (f3 b hb).1.2.2.2.2.1, (f3 b hb).1.2.2.2.2.2⟩
    obtain ⟨f0, f1, f2', f3', f4, f5⟩ := I3.fpOk (Nat.le_of_eq hC) (nC0 I6)
    obtain ⟨m, hn, _⟩ := I6.loc
    have hn : s6.heap.Ns C m := hn
    show wpAny _ _ (assign (.Name y py) X.env (.ref D)) _ _ _
    refine wpAny_assign_Name (store_ok2 (v := V.ref D) I7 hN hy (.inl hyl) rfl (fun s8 I8 hx8 => ?_) (.inr hyl))
    obtain ⟨a, sb, ha⟩ := hx8
    have haC : C ≠ a := by
      rcases ha with z | z
      · rw [z]; exact f1
      · exact fun eq => f4 y a z eq.symm
    refine ⟨m, hn.sameBut sb haC, fun h9 sb9 => ?_⟩
    exact ⟨_, H5, I8.turned (t' := s8.toks) (fun b o hb eo => (sb9.2 b hb).trans eo) f0 f1 f3' f4 f5, qq⟩
  · refine thnF (Tn.item (blkX X scope s3 H3 C cl fp) rfl rfl rfl hc j [] s5 _ H5 (fun _ _ => False) I5 (stat I5 n5) st5 go) fun r s6 hr6 => ?_
    obtain ⟨u, hr, h6⟩ := hr6
    subst hr
    refine thnF h6 fun _ s7 hx7 => ?_
    obtain ⟨x, H7, I7, r7, y7, st7, n7⟩ := hx7
    have I7' := I7.pinned (stat I7 n7) (Tn.obj _ _ st7)
    refine thnF (pg.run _ s7 _ H7 x u _ I7' r7 (step x H7 y7)) fun _ s8 hx8 => ?_
    obtain ⟨σ8, H8, I8, hw8, q8⟩ := hx8
    refine thnF ((pts_nil (X := blkX X scope s3 H3 C cl fp)).run _ s8 σ8 H8 (fun b Hb => b = true ∧ Hb = H8) I8 ⟨rfl, rfl⟩) fun b s9 hx9 => ?_
    obtain ⟨H9, I9, hb9, hH9⟩ := hx9
    subst hb9 hH9
    simp only [if_true]
    have q9 := q8 s3 H3 C cl fp _ (fun u s' x => hpost x) PassesOwn.looking _ s9 (inv_put I9)
    refine wpAny_mono q9 (fun z s10 hx10 => ?_) fun _ _ eo => eo
    obtain ⟨yv, H10, I10, r10, acc, hD10, hz10, nx⟩ := hx10
    refine app_ok (X := blkX X scope s3 H3 C cl fp) (inv_off I10) hD10 hz10 r10 fun s11 I11 => ?_
    obtain ⟨m', hm, w'⟩ := hNx _ nx
    have pin' : ∀ b ∈ fp, ∀ o, s7.heap.get? b = some o → s11.heap.get? b = some o ∧ (upd H10 D (.lst (acc ++ [yv]))) b = none := fun b hb o eo =>
      let z := I11.pin (b, o) (List.mem_append_right _ (List.mem_append_right _ (mem_pinsAt hb eo)))
      ⟨z.1, z.2.1⟩
    have hl : (wipe σ (own.map (·.2))).length = σ8.length := by rw [← hw8, wipe_length]
    refine ⟨m', hm, j + 1, _, (I11.unpinned (pins := [])).weak hl (fun k v eo => ?_), Tn.keep _ _ _ st7 fun b hb o eo => (pin' b hb o eo).1, fun b hb => ?_, w'⟩
    · rw [← hw8] at eo
      exact (wipe_some eo).1
    · obtain ⟨o, eo, _⟩ := Tn.obj _ _ st7 b hb
      exact (pin' b hb o eo).2
end Cu
/-! CvL: name = [..], an element may raise, over states told by data. -/
namespace Cu
open PySem PySem.Spec PyProof.Rows L2
theorem wipe_wipe : ∀ (vs us : List Nat) (σ : Sig), (∀ v ∈ us, v ∈ vs) → wipe (wipe σ us) vs = wipe σ vs := by
  intro vs us
  induction us with
  | nil => intro σ _; rfl
  | cons u r ih =>
    intro σ hm
    show wipe ((wipe σ r).set u none) vs = _
    rw [wipe_set _ (hm u List.mem_cons_self), ih σ fun v hv => hm v (List.mem_cons_of_mem _ hv)]
theorem dsOf_map : ∀ acc : List PyData, ds? (acc.map It.d) = some acc
  | [] => rfl
  | x :: r => by show (ds? (r.map It.d)).map (x :: ·) = _; rw [dsOf_map r]; rfl
section
variable {X : Cx} {W : WX} {k : Nat} {G : Gam} {S S1 : Sto} {P : Post} {elt tg iter : Expr} {scope : Scope} {own : List (Str × Nat)} {pos pos' apos : Pos} {rs : List It}
/-- name = [..]: every item gives by gg a datum, or an error of class C0 -/
theorem ws_setLcE {bind : It → Gam → Option Gam} {C : Sto → Prop} {C0 : Addr} (i : Nat) {n : Str} (c : Cxo X W k) (ok : BlkOk X.N X.env.scope scope own) (hi : EvI X tg iter G S rs C S1) (ht : TgOk X scope tg (own.map (·.2)) bind) (gg : It → Option PyData) (hC : ∀ L, C (S1 ++ L))
    (hs : ∀ r ∈ rs, ∃ G', bind r (wipeG G (own.map (·.2))) = some G' ∧ ∀ L s H Ca cl fp f W', Cxo (blkE X scope s H Ca cl fp f) W' k → EvX (blkE X scope s H Ca cl fp f) W' elt G' (S1 ++ L) (fun r' S' => S' = S1 ++ L ∧ ∃ y, gg r = some y ∧ r' = .d y) (fun Cx S' => S' = S1 ++ L ∧ Cx = C0 ∧ gg r = none))
    (hz : rs.length ≤ 1000000) (q : ∀ ys : List PyData, rs.map gg = ys.map some → P.nx (G.set i (some (.d (.list ys)))) S1) (qx : ∀ r ∈ rs, gg r = none → ∀ L, P.xc C0 G (S1 ++ L))
    (hst : X.stack = X.env :: X.outer := by rfl) (hfr : X.env.frame = some X.env.locals := by rfl) (hfree : ∀ y ∈ scope.names, y.2 ≠ .free := by decide)
    (hy : X.N[i]? = some n := by rfl) (hyl : X.env.scope.names.lookup n = some .local := by rfl)
    (hsw : swapsWith (.ListComp elt [⟨tg, iter, [], 0⟩] scope pos) (some (.Name n pos')) apos.line X.env = pure true := by exact sw_true rfl rfl rfl (by decide +kernel)) (hf : ∀ x, foldedSetIterable iter X.env x = pure x := by intro _; rfl) : WS X W (.Assign [.Name n pos'] (.ListComp elt [⟨tg, iter, [], 0⟩] scope pos) apos) G S P := fun M σ H D s m => by
  obtain ⟨g, hpg, hg⟩ := ht.ex
  obtain ⟨wi, hpi, hw⟩ := hi
  refine toS (ps_setLcE (i := i) c.calm c.nd hst hfr c.tk hy hyl hsw hpi ok hfree hpg hf) ?_
  refine hw M σ H _ s fun M1 H1 Jt e1 t1 wk => ?_
  intro Da hD
  have eD : Ext M1 H1 (M1 ++ [Da]) (upd H1 Da (.lst [])) := Ext.own hD
  have lenM : ∀ {M' : List Addr} {H' : Hp} {acc : List PyData}, StoreOk X.K M' H' (S1 ++ [Own.lst (acc.map .d)]) → Ext (M1 ++ [Da]) (upd H1 Da (.lst [])) M' H' → M' = M1 ++ [Da] := fun {M' H' acc} s' e' => by
    obtain ⟨L, eL⟩ := e'.pre
    have h1 := s'.len
    rw [eL, List.length_append, List.length_append, List.length_append, t1.sto.len] at h1
    have h2 : L.length = 0 := by
      have : [Da].length = 1 := rfl
      have : [Own.lst (acc.map .d)].length = 1 := rfl
      omega
    rw [eL, List.eq_nil_of_length_eq_zero h2, List.append_nil]
  have hDn : (M1 ++ [Da])[S1.length]? = some Da := by rw [← t1.sto.len, List.getElem?_append_right (Nat.le_refl _), Nat.sub_self]; rfl
  refine ⟨fun j m' H' => (m' = rs.length - j ∧ j ≤ rs.length) ∧ ∃ acc : List PyData, Ext (M1 ++ [Da]) (upd H1 Da (.lst [])) (M1 ++ [Da]) H' ∧ Stt X.K (M1 ++ [Da]) H' (S1 ++ [.lst (acc.map .d)]) G σ ∧ (rs.take j).map gg = acc.map some,
    ⟨_, ⟨rfl, Nat.zero_le _⟩, [], Ext.refl, t1.mono eD (t1.sto.own (w := .lst ([] : List It)) hD ⟨[], upd_same, .nil⟩), rfl⟩, fun j m' H' hw' => ?_⟩
  obtain ⟨⟨rfl, hj'⟩, acc, e', t', hJ⟩ := hw'
  have hacc : acc.length ≤ j := by
    have := congrArg List.length hJ
    rw [List.length_map, List.length_map, List.length_take] at this
    omega
  have cS := hC [.lst (acc.map .d)]
  by_cases hlt : j < rs.length
  · refine .inr ⟨wk.go j _ H' _ hlt (eD.trans e') t'.sto cS, fun H2 => ∃ acc : List PyData, Ext (M1 ++ [Da]) (upd H1 Da (.lst [])) (M1 ++ [Da]) H2 ∧ Stt X.K (M1 ++ [Da]) H2 (S1 ++ [.lst (acc.map .d)]) G σ ∧ (rs.take (j + 1)).map gg = acc.map some, fun H2 q => ⟨rs.length - (j + 1), by omega, ⟨rfl, by omega⟩, q⟩, fun x H2 y => ?_⟩
    have hri : rs[j]? = some rs[j] := List.getElem?_eq_getElem hlt
    have hmem : rs[j] ∈ rs := List.getElem_mem hlt
    obtain ⟨ey, sy, vy⟩ := wk.yl j _ H' _ x H2 _ hri (eD.trans e') t'.sto cS y
    have ty : Stt X.K (M1 ++ [Da]) H2 (S1 ++ [.lst (acc.map .d)]) G σ := t'.mono ey sy
    have e2 := e'.trans ey
    obtain ⟨G', hb, hE⟩ := hs _ hmem
    refine hg (M1 ++ [Da]) H2 (S1 ++ [.lst (acc.map .d)]) (wipeG G (own.map (·.2))) G' (wipe σ (own.map (·.2))) x rs[j] _ (ty.wipe _) vy hb ?_
    intro σ2 t2 w2
    refine ⟨w2.trans (wipe_wipe _ _ _ fun _ h => h), fun s0 H0 Ca cl fp f htk hpo => ?_⟩
    refine hE [.lst (acc.map .d)] s0 H0 Ca cl fp f (fun cls d _ H' => W cls d σ H') ⟨c.calm, c.nd, htk, hpo, c.hr⟩ (M1 ++ [Da]) σ2 H2 _ t2 (fun v4 M4 H4 r S' e4 t4 r4 hr => ?_) (fun M4 H4 Cx S' e4 t4 hx => ?_)
    · obtain ⟨rfl, z, hz2, rfl⟩ := hr
      obtain rfl : M4 = M1 ++ [Da] := lenM t4.sto (e2.trans e4)
      have hSn : (S1 ++ [Own.lst (acc.map .d)])[S1.length]? = some (.lst (acc.map .d)) := by rw [List.getElem?_append_right (Nat.le_refl _), Nat.sub_self]; rfl
      obtain ⟨vs4, hv4, hr4⟩ := t4.sto.rep _ _ _ hDn hSn
      have hl4 : vs4.length = acc.length := by rw [hr4.len, List.length_map]
      have e5 : Ext (M1 ++ [Da]) H4 (M1 ++ [Da]) (upd H4 Da (.lst (vs4 ++ [v4]))) := Ext.put (List.mem_of_getElem? hDn)
      have s5 := t4.sto.put (w := .lst ((acc ++ [z]).map .d)) hDn ⟨vs4 ++ [v4], upd_same, by
        rw [List.map_append]
        exact VReps.append (VReps.ext e5 hr4) (.cons (r4.ext e5) .nil)⟩
      have hset : (S1 ++ [Own.lst (acc.map It.d)]).set S1.length (.lst ((acc ++ [z]).map .d)) = S1 ++ [.lst ((acc ++ [z]).map .d)] := by
        rw [List.set_append_right _ _ (Nat.le_refl _), Nat.sub_self]
        rfl
      rw [hset] at s5
      refine ⟨vs4, hv4, ?_, acc ++ [z], (e2.trans e4).trans e5, ty.mono (e4.trans e5) s5, ?_⟩
      · rw [sizeLine_eq]
        omega
      · rw [List.take_add_one, hri, List.map_append, hJ, List.map_append]
        show _ ++ [gg rs[j]] = _
        rw [hz2]; rfl
    · obtain ⟨rfl, rfl, hn⟩ := hx
      exact m.xc M4 σ H4 G Cx _ (((e1.trans eD).trans e2).trans e4) (ty.mono e4 t4.sto) (qx _ hmem hn _)
  · have ej : j = rs.length := by omega
    subst ej
    refine .inl ⟨wk.st _ _ H' _ (Nat.le_refl _) (eD.trans e') t'.sto cS, ?_⟩
    rw [List.take_length] at hJ
    have hSn : (S1 ++ [Own.lst (acc.map .d)])[S1.length]? = some (.lst (acc.map .d)) := by rw [List.getElem?_append_right (Nat.le_refl _), Nat.sub_self]; rfl
    obtain ⟨vs4, hv4, hr4⟩ := t'.sto.rep _ _ _ hDn hSn
    have eT : (M1 ++ [Da]).take S1.length = M1 := by rw [← t1.sto.len]; exact List.take_left ..
    have s6 := t'.sto.take t1.sto.closed
    rw [eT] at s6
    have e6 : Ext M1 H1 M1 H' := by
      have := (eD.trans e').take (n := M1.length) (Nat.le_refl _)
      rwa [List.take_left] at this
    have t6 : Stt X.K M1 H' S1 G σ := t1.mono e6 s6
    have r6 : VRep X.K M1 H' (.ref Da) (.d (.list acc)) := Fz.lst ⟨.inl hv4, t1.sto.nin hD⟩ (FzAll.less (fun _ h => List.mem_append_left _ h) (fz_all (dsOf_map acc) hr4))
    exact m.nx M1 _ H' _ S1 (e1.trans e6) (t6.set r6) (q acc hJ)
end
end Cu
/-! CvM: errors that stand in no other's context; try whose suite raises. -/
namespace Cu
open PySem PySem.Spec PyProof.Rows L2
/-- the context of a def whose errors stand in no other's context -/
abbrev cxN (P : Program) (w : World) (K : PySem.W.Frag) (mg : Str → Option Value) (base : Heap) (N : List Str) (qual : Str) (scope : Scope) (f : Addr) (cdv : Value) (A : Around) (outer : List Env) (s : Shared) (H : Hp) (E : XK) : Cx := cxOf (L2N.CX P w) P w K mg base N qual scope f cdv A outer s H E
abbrev wNo : WX := fun _ _ _ _ => False
section
variable {P : Program} {w : World} {K : PySem.W.Frag} {mg : Str → Option Value} {base : Heap} {x qual : Str} {params : Arguments} {body : List Stmt} {scope : Scope} {dvs : List V} {kws : List (Str × V)} {f C : Addr} {fd : FuncData} {ps : List Str} {drs : List It} {F : Fn}
theorem fn_wN {N : List Str} {k : Nat} (Fd : FunD K x qual params body scope dvs kws f fd) (Sc : FnScope N ps scope)
    (h : ∀ (cdv : Value) (A : Around) (outer : List Env) (s : Shared) (H : Hp) (E : XK) (rs : List It) (S : Sto) (QR : It → Sto → Prop) (QE : Addr → Sto → Prop), Cxo (cxN P w K mg base N qual scope f cdv A outer s H E) wNo k → L2N.Takes (cxN P w K mg base N qual scope f cdv A outer s H E) (wF E) →
      ClS S → rs.length = ps.length → F rs S QR QE → WSs (cxN P w K mg base N qual scope f cdv A outer s H E) (wF E) body (startG N rs) S ⟨fun _ S' => Back S.length S' (.d .none) QR, fun r S' => Back S.length S' r QR, fun _ _ => False, fun _ _ => False, fun C _ S' => BackX S.length S' C QE⟩) :
    FnOk P w K mg base (L2N.CX P w) (k + 1) f fd ps (spF K ps.length F) := by
  refine Fd.ok Sc (fun vs H Q E hs => ?_) (fun cdv A outer s H vs Q E hr hs => ⟨sSs _ body, pss_s, ?_⟩)
  · obtain ⟨M, S, rs, h1, h2, h3, _⟩ := hs
    rw [h2.len, h3]
  · obtain ⟨M, S, rs, h1, h2, h3, hF⟩ := hs
    have out : ∀ {v : V} {M' : List Addr} {H' : Hp} {r : It} {S' : Sto}, Ext M H M' H' → StoreOk K M' H' S' → VRep K M' H' v r → Back S.length S' r (fun r S' => ∀ v M' H', Ext M H M' H' → StoreOk K M' H' S' → VRep K M' H' v r → Q v H') → Q v H' := by
      intro v M' H' r S' e s' hv hb
      obtain ⟨S1, L, r1, rfl, hn, hc, hr1, q⟩ := hb
      refine q v (M'.take S1.length) H' (e.take (by rw [h1.len]; exact hn)) (s'.take (hc s'.closed)) ?_
      rcases hr1 with ⟨rfl, hcl⟩ | ⟨z, rfl, hd⟩
      · exact hv.take hcl
      · exact Den.fz s' hd hv
    have cx : Cxo (cxN P w K mg base N qual scope f cdv A outer s H E) wNo k := ⟨rfl, Sc.nd, takes_none5, passes_of rfl, hr⟩
    refine h cdv A outer s H E rs S _ _ cx (L2N.takes_of rfl rfl rfl rfl) h1.closed h3 hF M (L2.start N vs) H _ (stt_start h1 N h2) ⟨fun M' σ' H' G' S' e t q => out (v := .non) (r := .d .none) e t.sto Fz.non q, fun v M' H' r S' e t hv q => out e t hv q, fun _ _ _ _ _ _ _ q => q.elim, fun _ _ _ _ _ _ _ q => q.elim, fun M' σ' H' G' C S' e t q => ?_⟩
    obtain ⟨S1, L, rfl, hn, hc, q⟩ := q
    exact q (M'.take S1.length) H' (e.take (by rw [h1.len]; exact hn)) (t.sto.take (hc t.sto.closed))
/-- a class whose __init__ raises such errors alone -/
structure OkCN (P : Program) (w : World) (K : PySem.W.Frag) (mg : Str → Option Value) (base : Heap) (k : Nat) (C : Addr) (x : Str) (ps : List Str) (drs : List It) (F : Fn) : Prop where
  ex : ∃ (f : Addr) (fd : FuncData) (dvs : List V) (ds : List Value), mg x = some (.ref C) ∧ Mk K C f ∧ Binds K fd ps ds ∧ L2.Vals dvs ds ∧ (∀ M H, VReps K M H dvs drs) ∧ FnOk P w K mg base (L2N.CX P w) k f fd ps (spF K ps.length F)
theorem okCN_ofD {y : Str} {k : Nat} (g : mg y = some (.ref C)) (m : Mk K C f) (hd : ∃ fd, FunD K x qual params body scope dvs [] f fd) (n j : Nat) (hne : dvs ≠ []) (hn : n + (dvs.length - j) = ps.length)
    (hb : ∀ (T : Addr) (kV doc pm : Value) (an : Option Addr) (cdv ct : Value) (us its : List Value), us.length = n → its.length = dvs.length →
      ∃ k, bindArgs (PySem.W.fnOf x qual params body scope (.ref T) kV doc pm an cdv ct) ⟨us, []⟩ = seqItems? (.ref T) >>= k ∧ k (some its.toArray) = pure (ps.zip (us ++ its.drop j)))
    (hr : ∀ M H, VReps K M H (dvs.drop j) drs)
    (h : ∀ fd, FunD K x qual params body scope dvs [] f fd → FnOk P w K mg base (L2N.CX P w) k f fd ps (spF K ps.length F)) : OkCN P w K mg base k C y ps drs F := by
  obtain ⟨fd, Fd⟩ := hd
  obtain ⟨ds, h1, h2⟩ := Fd.binds1 n j hne hn hb
  exact ⟨f, fd, dvs.drop j, ds, g, m, h2, h1, hr, h fd Fd⟩
end
section
variable {X : Cx} {W W0 : WX} {k j : Nat} {G G1 G2 : Gam} {S S1 S2 S3 : Sto} {P : Post} {e a b o iter tg elt : Expr} {es ifs : List Expr} {r y z : It} {rs drs : List It} {pos pos' pos2 p p2 apos np : Pos} {st : Stmt} {sts body suite : List Stmt} {ds : List PyData} {C : Addr} {n : Str} {ps : List Str} {F : Fn} {Qr : It → Sto → Prop} {Qx : Addr → Sto → Prop}
theorem ws_raiseN {x mtx : Str} {j : Nat} (c : Cxo X W0 k) (tk : L2N.Takes X W) (T : ExcF X.K X.mg x C) (q : P.xc C G S) (hg : Gl X x := by rfl) (hdb : (x == ("__debug__" : Str)) = false := by decide) : WS X W (.Raise (some (.Call (.Name x p) [.Constant (.str mtx) j p2] [] pos)) none pos2) G S P := fun M σ H D s m =>
  toS (L2N.ps_raise c.calm tk (L2N.pmk_own PySem.F.excBase_ValueError T.xC T.gC T.kC (raises_own T.bC T.tC) hg hdb)) (m.xc M σ H G C S Ext.refl s q)
/-- raise in an except suite -/
theorem ws_raiseH {x mtx : Str} {j : Nat} (hot : L2H.HotC X) (tk : L2.Takes X W) (T : ExcF X.K X.mg x C) (q : P.xc C G S) (hg : Gl X x := by rfl) (hdb : (x == ("__debug__" : Str)) = false := by decide) : WS X W (.Raise (some (.Call (.Name x p) [.Constant (.str mtx) j p2] [] pos)) none pos2) G S P := fun M σ H D s m =>
  toS (L2H.ps_raiseH hot tk (L2N.pmk_own PySem.F.excBase_ValueError T.xC T.gC T.kC (raises_own T.bC T.tC) hg hdb)) (m.xc M σ H G C S Ext.refl s q)
theorem evx_makeN (c : Cxo X W0 k) (tk : L2N.Takes X W) (O : OkCN X.prog X.w X.K X.mg X.base j C n ps drs F) (hj : j + 1 ≤ k) (ha : EvA X (e :: es) G S rs S1) (hl : (.o S1.length :: (rs ++ drs) : List It).length = ps.length)
    (hF : ∀ (QR : It → Sto → Prop) (QE : Addr → Sto → Prop), (∀ S', Qr (.o S1.length) S' → QR (.d .none) S') → (∀ C' S' S2 L, S' = S2 ++ L → S1.length ≤ S2.length → (ClS S' → ClS S2) → Qx C' S2 → QE C' S') → F (.o S1.length :: (rs ++ drs)) (S1 ++ [.ins C []]) QR QE)
    (hg : Gl X n := by rfl) (hdb : (n == ("__debug__" : Str)) = false := by decide)
    (he : starEach (e :: es) X.env = (false, eval e X.env) :: starEach es X.env := by rfl) (hpl : (backTo pos (starEach es X.env)).any (·.1) = false := by rfl) : EvX X W (.Call (.Name n p) (e :: es) [] pos) G S Qr Qx := fun M σ H Q s h1 h2 pins s0 I => by
  obtain ⟨f, fd, dvs, dus, hm, hk, hb, hd, rd, ok⟩ := O.ex
  refine wpAny_Call_Name_kw (ld_glob I hg hm ?_ hdb)
  refine PySem.W.callWith_K (h₀ := X.base) I.ok.mod.kin hk.kp ?_ he hpl
  refine thn ((pa_s (es := e :: es)).run pos pins s0 σ H _ I (ha M σ H (fun vs H1 => ∃ M1, Ext M H M1 H1 ∧ Stt X.K M1 H1 S1 G σ ∧ VReps X.K M1 H1 vs rs) s fun vs M' H' e' s' r' => ⟨M', e', s', r'⟩)) fun us s1 ⟨vs, H1, I1, r1, M1, e1, t1, q1⟩ => ⟨I1.kIn, ?_⟩
  refine run_makeAt (E := eAt W σ) hk ok (c.hr.mono hj) hb hd (fun pins' H' s' e s'' I' cx => L2N.passAt tk σ pins' H' s' e s'' I' cx) I1 r1 fun xa dx hxa hdx hne => ?_
  have hx' : (upd H1 dx (.own xa)) xa = none := by rw [upd_ne (Ne.symm hne)]; exact hxa
  have e2 : Ext M1 H1 M1 (upd H1 dx (.own xa)) := Ext.fresh hdx
  have e3 : Ext M1 (upd H1 dx (.own xa)) (M1 ++ [xa]) (upd (upd H1 dx (.own xa)) xa (.ins C dx [])) := Ext.own hx'
  have s3 : StoreOk X.K (M1 ++ [xa]) (upd (upd H1 dx (.own xa)) xa (.ins C dx [])) (S1 ++ [.ins C []]) := (t1.sto.fresh hdx).own hx' ⟨dx, [], upd_same, .nil⟩
  have hn : (M1 ++ [xa])[S1.length]? = some xa := by rw [← t1.sto.len, List.getElem?_append_right (Nat.le_refl _), Nat.sub_self]; rfl
  have q3 : VReps X.K (M1 ++ [xa]) (upd (upd H1 dx (.own xa)) xa (.ins C dx [])) (.ref xa :: vs) (.o S1.length :: rs) := .cons ⟨xa, hn, rfl⟩ (VReps.ext (e2.trans e3) q1)
  refine spF_of (Qr := fun r S' => r = .d .none ∧ Qr (.o S1.length) S') (Qx := fun C' S' => ∃ S2 L, S' = S2 ++ L ∧ S1.length ≤ S2.length ∧ (ClS S' → ClS S2) ∧ Qx C' S2) s3 q3 rd hl (fun QR QE k1 k2 => hF QR QE (fun S' q => k1 _ _ ⟨rfl, q⟩) fun C' S' S2 L h3 h4 h5 h6 => k2 _ _ ⟨S2, L, h3, h4, h5, h6⟩) (fun v M' H' r S' e4 s4 hv q => ?_) fun M' H' C' S' e4 s4 q => ?_
  · obtain ⟨hr0, q⟩ := q
    rw [hr0] at hv
    refine ⟨vr_none hv, h1 (.ref xa) M' H' (.o S1.length) S' (((e1.trans e2).trans e3).trans e4) (t1.mono ((e2.trans e3).trans e4) s4) ⟨xa, e4.get hn, rfl⟩ q⟩
  · obtain ⟨S2, L, rfl, hle, hcl, q⟩ := q
    have e5 : Ext M1 H1 (M'.take S2.length) H' := ((e2.trans e3).trans e4).take (by rw [t1.sto.len]; exact hle)
    exact h2 _ H' C' S2 (e1.trans e5) (t1.mono e5 (s4.take (hcl s4.closed))) q
/-- the context of a suite that may raise -/
abbrev suXX (X : Cx) (ad : Addr) (oe : Obj) (pn : List (Addr × Obj)) : Cx := L2H.suiteX X ad ((ad, oe) :: pn)
/-- try: .. except x: suite; the suite may raise -/
theorem ws_try_onlyX {x : Str} {c0 : Value} {b₀ : Stmt} (c : Cxo X W k) (hs : X.stack = X.env :: X.outer) (hf : X.env.frame = some X.env.locals) (hc : Names X x c0) (hpa : ∀ hd : Option Value, PassesOwnAt (model X.prog X.w) (X.A.mark hd) X.A X.env X.xe) (Qx : Addr → Gam → Sto → Prop)
    (hb : ∀ (W' : WX) (pn : List (Addr × Obj)) (xe : Value → Shared → Prop), Cxo (trX X pn xe) wNo k → L2N.Takes (trX X pn xe) W' → WSs (trX X pn xe) W' body G S { P with xc := Qx })
    (hsu : ∀ C G' S', Qx C G' S' → PySem.W.exmOne X.K (.ref C) c0 = some true ∧ ∀ (ad : Addr) (oe : Obj) (pn : List (Addr × Obj)), L2N.Zn (.ref C) none oe → (∃ vs, oe.data = .fields vs) → L2.Takes (suXX X ad oe pn) W → L2H.HotC (suXX X ad oe pn) →
      WSs (suXX X ad oe pn) W (b₀ :: suite) G' S' P) : WS X W (.Try body [.ExceptHandler (some (.Name x np)) none (b₀ :: suite) pos'] [] [] pos) G S P := fun M σ H D s m =>
  toS (L2H.ps_try_onlyX (tb := fun W' => fun D σ H => ∀ pn xe, L2N.Takes (X.tr pn xe) W' → PassesOwn (model X.prog X.w) X.A X.env xe → sSs (X.tr pn xe) body D σ H) (ts := fun ad cls d => fun D σ H => ∀ oe pn, L2N.Zn cls d oe → (∃ vs, oe.data = .fields vs) → L2.Takes (suXX X ad oe pn) W → L2H.HotC (suXX X ad oe pn) → sSs (suXX X ad oe pn) (b₀ :: suite) D σ H) hs hf hc hpa c.tk
    (fun W' pn xe tk _ po => ⟨fun pins s1 σ1 H1 D1 I1 h1 => h1 pn xe tk po pins s1 I1⟩) (fun ad oe cls d pn hz hd t2 h2 => ⟨fun pins s1 σ1 H1 D1 I1 h1 => h1 oe pn hz hd t2 h2 pins s1 I1⟩)) (by
    intro pn xe tk po
    refine hb _ pn xe ⟨c.calm, c.nd, takes_none5, po, c.hr⟩ tk M σ H D s ⟨m.nx, m.rt, m.bk, m.ct, fun M' σ' H' G' C S' e1 t1 q1 => ?_⟩
    obtain ⟨h1, h2⟩ := hsu C G' S' q1
    refine ⟨true, h1, fun _ ad had oe pn' hz hd tk2 hot => ?_, fun q => (nomatch q)⟩
    exact h2 ad oe pn' hz hd tk2 hot M' _ H' _ t1 (m.ext e1))
end
end Cu
/-! CyD: defs whose errors stand in no other's context; defs that loop in an except suite; min, max there. -/
namespace Cu
open PySem PySem.Spec PyProof.Rows L2 HotX L2H
/-- a def whose errors stand in no other's context -/
structure OkFN (P : Program) (w : World) (K : PySem.W.Frag) (mg : Str → Option Value) (base : Heap) (k : Nat) (x : Str) (ps : List Str) (drs : List It) (F : Fn) : Prop where
  ex : ∃ (f : Addr) (fd : FuncData) (dvs : List V) (ds : List Value), mg x = some (.ref f) ∧ PySem.W.keepIn K (.ref f) = true ∧ Binds K fd ps ds ∧ L2.Vals dvs ds ∧ (∀ M H, VReps K M H dvs drs) ∧ FnOk P w K mg base (L2N.CX P w) k f fd ps (spF K ps.length F)
section
variable {P : Program} {w : World} {K : PySem.W.Frag} {mg : Str → Option Value} {base : Heap} {x y qual : Str} {params : Arguments} {body : List Stmt} {scope : Scope} {f C : Addr} {k : Nat} {ps : List Str} {F : Fn}
theorem okFN_of (g : mg x = some (.ref f)) (hd : ∃ fd, FunD K x qual params body scope [] [] f fd) (hb : ∀ (kV doc pm : Value) (an : Option Addr) (cdv ct : Value) (us : List Value), us.length = ps.length → bindArgs (PySem.W.fnOf x qual params body scope .none kV doc pm an cdv ct) ⟨us, []⟩ = pure (ps.zip us))
    (h : ∀ fd, FunD K x qual params body scope [] [] f fd → FnOk P w K mg base (L2N.CX P w) k f fd ps (spF K ps.length F)) : OkFN P w K mg base k x ps [] F := by
  obtain ⟨fd, Fd⟩ := hd
  exact ⟨f, fd, [], [], g, Fd.kp, Fd.bindsN hb, .nil, fun _ _ => .nil, h fd Fd⟩
theorem okCN_of (g : mg y = some (.ref C)) (m : Mk K C f) (hd : ∃ fd, FunD K x qual params body scope [] [] f fd) (hb : ∀ (kV doc pm : Value) (an : Option Addr) (cdv ct : Value) (us : List Value), us.length = ps.length → bindArgs (PySem.W.fnOf x qual params body scope .none kV doc pm an cdv ct) ⟨us, []⟩ = pure (ps.zip us))
    (h : ∀ fd, FunD K x qual params body scope [] [] f fd → FnOk P w K mg base (L2N.CX P w) k f fd ps (spF K ps.length F)) : OkCN P w K mg base k C y ps [] F := by
  obtain ⟨fd, Fd⟩ := hd
  exact ⟨f, fd, [], [], g, m, Fd.bindsN hb, .nil, fun _ _ => .nil, h fd Fd⟩
end
section
variable {X : Cx} {W W0 : WX} {k j : Nat} {G G1 G2 : Gam} {S S1 S2 S3 : Sto} {P : Post} {e a b o iter tg elt : Expr} {es ifs : List Expr} {r y z : It} {rs drs : List It} {pos pos' pos2 p p2 apos np : Pos} {st : Stmt} {sts body suite : List Stmt} {ds : List PyData} {C : Addr} {n : Str} {ps : List Str} {F : Fn} {Qr : It → Sto → Prop} {Qx : Addr → Sto → Prop}
theorem evx_callN (c : Cxo X W0 k) (tk : L2N.Takes X W) (O : OkFN X.prog X.w X.K X.mg X.base j n ps drs F) (hj : j ≤ k) (ha : EvA X (e :: es) G S rs S1) (hl : (rs ++ drs).length = ps.length)
    (hF : ∀ (QR : It → Sto → Prop) (QE : Addr → Sto → Prop), (∀ r S', Qr r S' → QR r S') → (∀ C S', Qx C S' → QE C S') → F (rs ++ drs) S1 QR QE) (hg : Gl X n := by rfl) (hdb : (n == ("__debug__" : Str)) = false := by decide)
    (he : starEach (e :: es) X.env = (false, eval e X.env) :: starEach es X.env := by rfl) (hpl : (backTo pos (starEach es X.env)).any (·.1) = false := by rfl) : EvX X W (.Call (.Name n p) (e :: es) [] pos) G S Qr Qx := fun M σ H Q s h1 h2 pins s0 I => by
  obtain ⟨f, fd, dvs, dus, hm, hk, hb, hd, rd, ok⟩ := O.ex
  refine wpAny_Call_Name_kw (ld_glob I hg hm ?_ hdb)
  refine PySem.W.callWith_K (h₀ := X.base) I.ok.mod.kin hk ?_ he hpl
  refine thn ((pa_s (es := e :: es)).run pos pins s0 σ H _ I (ha M σ H (fun vs H1 => ∃ M1, Ext M H M1 H1 ∧ Stt X.K M1 H1 S1 G σ ∧ VReps X.K M1 H1 vs rs) s fun vs M' H' e' s' r' => ⟨M', e', s', r'⟩)) fun us s1 ⟨vs, H1, I1, r1, M1, e1, t1, q1⟩ => ⟨I1.kIn, ?_⟩
  exact run_fnAt (E := eAt W σ) ok (c.hr.mono hj) hb hd (fun e s' cx => L2N.passAt tk σ pins H1 s1 e s' I1 cx) I1 r1 (spF_of t1.sto q1 rd hl hF (fun v M' H' r S' e2 s2 hv q => h1 v M' H' r S' (e1.trans e2) (t1.mono e2 s2) hv q) fun M' H' C S' e2 s2 q => h2 M' H' C S' (e1.trans e2) (t1.mono e2 s2) q)
/-- try: .. except x as n: suite -/
theorem ws_try_asN {x n : Str} {c0 : Value} {b₀ : Stmt} (i : Nat) (c : Cxo X W0 k) (tk : L2N.Takes X W) (hs : X.stack = X.env :: X.outer) (hf : X.env.frame = some X.env.locals) (hc : Names X x c0) (Qx : Addr → Gam → Sto → Prop)
    (hb : ∀ (W' : WX) (pn : List (Addr × Obj)) (xe : Value → Shared → Prop), Cxo (trX X pn xe) wNo k → L2N.Takes (trX X pn xe) W' → WSs (trX X pn xe) W' body G S { P with xc := Qx })
    (hsu : ∀ C G' S', Qx C G' S' → PySem.W.exmOne X.K (.ref C) c0 = some true ∧ ∀ (ad : Addr) (oe : Obj) (pn : List (Addr × Obj)), L2N.Zn (.ref C) none oe → (∃ vs, oe.data = .fields vs) →
      WSs (suX X ad oe pn) (fun _ _ _ _ => False) (b₀ :: suite) (G'.set i (some (.r (.ref ad)))) S' { nx := fun G S => P.nx (G.set i none) S, rt := P.rt, bk := fun G S => P.bk (G.set i none) S, ct := fun G S => P.ct (G.set i none) S })
    (hi : X.N[i]? = some n := by rfl) (hln : X.env.kindOf n = some .local := by rfl) : WS X W (.Try body [.ExceptHandler (some (.Name x np)) (some n) (b₀ :: suite) pos'] [] [] pos) G S P := fun M σ H D s m =>
  toS (L2N.ps_try_as (i := i) (tb := fun W' => fun D σ H => ∀ pn xe, L2N.Takes (X.tr pn xe) W' → PassesOwn (model X.prog X.w) X.A X.env xe → sSs (X.tr pn xe) body D σ H) (ts := fun ad cls d => fun D σ H => ∀ oe pn, L2N.Zn cls d oe → (∃ vs, oe.data = .fields vs) → sSs (suX X ad oe pn) (b₀ :: suite) D σ H) hs hf c.nd hi hln hc tk
    (fun W' pn xe tk po => ⟨fun pins s1 σ1 H1 D1 I1 h1 => h1 pn xe tk po pins s1 I1⟩) (fun ad oe cls d pn hz hd => ⟨fun pins s1 σ1 H1 D1 I1 h1 => h1 oe pn hz hd pins s1 I1⟩)) (by
    intro pn xe tk2 po
    refine hb _ pn xe ⟨c.calm, c.nd, takes_none5, po, c.hr⟩ tk2 M σ H D s ⟨m.nx, m.rt, m.bk, m.ct, fun M' σ' H' G' C S' e1 t1 q1 => ?_⟩
    obtain ⟨h1, h2⟩ := hsu C G' S' q1
    refine ⟨true, h1, fun _ ad had oe pn' hz hd => ?_, fun q => (nomatch q)⟩
    have t2 : Stt X.K M' H' S' (G'.set i (some (.r (.ref ad)))) (σ'.set i (some (.ref ad))) := t1.set rfl
    refine h2 ad oe pn' hz hd M' _ H' _ t2 ⟨fun M2 σ2 H2 G2 S2 e2 t2 q2 => ?_, fun v M2 H2 r S2 e2 => m.rt v M2 H2 r S2 (e1.trans e2), fun M2 σ2 H2 G2 S2 e2 t2 q2 => ?_, fun M2 σ2 H2 G2 S2 e2 t2 q2 => ?_, fun _ _ _ _ _ _ _ _ q2 => q2.elim⟩
    all_goals
      have t3 : Stt X.K M2 H2 S2 (G2.set i none) (σ2.set i none) := by
        refine ⟨t2.sto, by rw [List.length_set, List.length_set]; exact t2.len, fun l u e => ?_⟩
        by_cases hl : i = l
        · subst hl
          by_cases hlt : i < G2.length
          · rw [List.getElem?_set_self hlt] at e; cases e
          · rw [List.getElem?_eq_none (by rw [List.length_set]; omega)] at e; cases e
        · rw [List.getElem?_set_ne hl] at e
          obtain ⟨v, h1, h2⟩ := t2.at_ l u e
          exact ⟨v, by rw [List.getElem?_set_ne hl]; exact h1, h2⟩
    · exact m.nx M2 _ H2 _ S2 (e1.trans e2) t3 q2
    · exact m.bk M2 _ H2 _ S2 (e1.trans e2) t3 q2
    · exact m.ct M2 _ H2 _ S2 (e1.trans e2) t3 q2)
end
/-! ### min, max there -/
theorem walksH_list {prog : Program} {w : World} {A : Around} {x1 I ax : Addr} (hne : ax ≠ I) (hx : x1 ≠ I) (items : Array Value) : Walks prog w A I [I, ax, x1] [I] items.size (fun i v => items[i]? = some v) (fun i h => h.IsListIter I ax i ∧ h.IsList ax items ∧ HotAt A x1 h) where
  sub := fun b hb => List.mem_cons.mpr (.inl (List.mem_singleton.mp hb))
  frame := fun _ _ _ ⟨s1, s2, hh, o, vs, g, d, c⟩ hk => ⟨s1.at fun o e => hk I List.mem_cons_self o e, s2.at fun o e => hk ax (List.mem_cons_of_mem _ List.mem_cons_self) o e, hh, o, vs, hk x1 (List.mem_cons_of_mem _ (List.mem_cons_of_mem _ List.mem_cons_self)) o g, d, c⟩
  item := fun i s Q E hi ⟨s1, s2, hh, o, vs, g, d, c⟩ hQ => by
    refine wpAny_pyNext_list_item s1 s2 (x := items[i]) (Array.getElem?_eq_getElem hi) fun h' hit' hs' => ?_
    exact hQ _ h' s.toks (Array.getElem?_eq_getElem hi) ⟨hit', s2.extBut hs'.extBut hne, hh, o, vs, hs'.extBut x1 o hx g, d, c⟩ fun b o hb e => hs'.extBut b o (fun h => hb (List.mem_singleton.mpr h)) e
  done := fun s Q E ⟨s1, s2, hot⟩ hQ => list_end_hot hot s1 s2 (Array.getElem?_eq_none (Nat.le_refl _)) fun h' he' => hQ h' s.toks fun b o hb e => he' b (fun h => hb (List.mem_singleton.mpr h)) o e
  self := fun _ _ _ _ ⟨s1, _⟩ hQ => wpAny_pyIter_listiter s1 hQ
section
variable {prog : Program} {w : World} {A : Around} {E : Value → Shared → Prop} {s : Shared} {l x1 : Addr} {its : List Value} {ns : List Int} {Q : Value → Shared → Prop}
theorem best_hot {big : Bool} (hot : HotAt A x1 s.heap) (hl : s.heap.IsList l its.toArray) (hi : IntsAre its ns) (hne : 0 < ns.length)
    (h : ∀ h' tk m t', (∀ b o, s.heap.get? b = some o → h'.get? b = some o) → m ∈ ns → (∀ a, a ∈ ns → if big = true then a ≤ m else m ≤ a) → Q (.int m t') { s with heap := h', toks := tk }) : wpAny (model prog w) A (call (.builtin (if big = true then "max" else "min")) [.ref l]) Q E s := by
  obtain ⟨xs, e⟩ := hi.allInts.items
  have hn : numsOf (intItems xs).toList = ns := by rw [← e]; exact hi.numsOf
  rw [nums_intItems] at hn
  subst hn
  rw [e] at hl
  have hsz : 0 < xs.size := by simpa using hne
  have hlt : l < s.heap.objs.size := by
    obtain ⟨_, e, _⟩ := hl
    exact Heap.lt_size e
  obtain ⟨hh, o1, vs1, g1, d1, c1⟩ := hot
  have hlt1 := Heap.lt_size g1
  have it0 : ∀ {R : Value → Shared → Prop}, R (.ref s.heap.objs.size) { s with heap := s.heap.push { cls := .type "list_iterator", data := .fields #[.ref l, .int 0 0] } } → wpAny (model prog w) A.in1 (pyIter (.ref l)) R E s := fun q => wpAny_pyIter_list hl q
  have sz : ∀ b ∈ [s.heap.objs.size, l, x1], b < (s.heap.push { cls := .type "list_iterator", data := .fields #[.ref l, .int 0 0] }).objs.size := fun b hb => by
    rw [Heap.size_push]
    simp only [List.mem_cons, List.not_mem_nil, or_false] at hb
    rcases hb with e | e | e
    · rw [e]; exact Nat.lt_succ_self _
    · rw [e]; exact Nat.lt_succ_of_lt hlt
    · rw [e]; exact Nat.lt_succ_of_lt hlt1
  have st0 : (s.heap.push { cls := .type "list_iterator", data := .fields #[.ref l, .int 0 0] }).IsListIter s.heap.objs.size l 0 ∧ (s.heap.push { cls := .type "list_iterator", data := .fields #[.ref l, .int 0 0] }).IsList l (intItems xs) ∧ HotAt A.in1 x1 (s.heap.push { cls := .type "list_iterator", data := .fields #[.ref l, .int 0 0] }) :=
    ⟨⟨_, Heap.get?_push_size _ rfl, rfl, rfl⟩, hl.push _, hh, o1, vs1, Heap.get?_push_of_some _ g1, d1, c1⟩
  have W := walksH_list (prog := prog) (w := w) (A := A.in1) (x1 := x1) (I := s.heap.objs.size) (ax := l) (Nat.ne_of_lt hlt) (Nat.ne_of_lt hlt1) (intItems xs)
  have hsI : 0 < (intItems xs).size := by simpa [intItems] using hsz
  cases big with
  | true =>
    refine call_max_walk (it0 ⟨_, _, _, _, _, _, _, rfl, W, st0, sz, hsI, CmpOf.ints_gt (numAt xs) (fun _ _ => intItems_at), fun v h' tk hP hk => ?_⟩)
    obtain ⟨t, rfl⟩ := intItems_at (show (intItems xs)[argBest (fun i j => decide (numAt xs i > numAt xs j)) (xs.size - 1)]? = some v by simpa [intItems] using hP)
    obtain ⟨h1, h2⟩ := argBest_gt (numAt xs) (xs.size - 1)
    refine h h' tk _ t (old_kept hk) ?_ fun a ha => ?_
    · rw [numAt_eq]
      exact PySem.getD_mem (by rw [List.length_map, Array.length_toList]; omega)
    · obtain ⟨j, hj, rfl⟩ := mem_getD ha
      rw [List.length_map, Array.length_toList] at hj
      rw [if_pos rfl, ← numAt_eq]
      exact h2 j (by omega)
  | false =>
    refine call_min_walk (it0 ⟨_, _, _, _, _, _, _, rfl, W, st0, sz, hsI, CmpOf.ints_lt (numAt xs) (fun _ _ => intItems_at), fun v h' tk hP hk => ?_⟩)
    obtain ⟨t, rfl⟩ := intItems_at (show (intItems xs)[argBest (fun i j => decide (numAt xs i < numAt xs j)) (xs.size - 1)]? = some v by simpa [intItems] using hP)
    obtain ⟨h1, h2⟩ := argBest_lt (numAt xs) (xs.size - 1)
    refine h h' tk _ t (old_kept hk) ?_ fun a ha => ?_
    · rw [numAt_eq]
      exact PySem.getD_mem (by rw [List.length_map, Array.length_toList]; omega)
    · obtain ⟨j, hj, rfl⟩ := mem_getD ha
      rw [List.length_map, Array.length_toList] at hj
      rw [if_neg (by decide), ← numAt_eq]
      exact h2 j (by omega)
end
/-- what a def promises that may loop where an error is handled -/
structure FnHt (P : Program) (w : World) (K : PySem.W.Frag) (mg : Str → Option Value) (base : Heap) (k : Nat) (f : Addr) (fd : FuncData) (ps : List Str) (sp : Sp) : Prop where
  many : ∀ vs H Q E, sp vs H Q E → vs.length = ps.length
  does : ∀ (A : Around) (outer : List Env) (s : Shared) (H : Hp) (args : Args) (us : List Value) (vs : List V) (Q : VK) (E : XK) (p : Addr × Obj), L2H.RoomH k A → L2H.Hot1 A p → L2H.PinOk outer H s p → Env0 P w K mg base A outer s H →
    BindsTo s fd args (ps.zip us) → L2.Vals vs us → sp vs H Q E → codeAny (model P w) A (.call (.ref f) args) (CR (L2.CX P w) outer P w H s Q E) s
section
variable {P : Program} {w : World} {K : PySem.W.Frag} {mg : Str → Option Value} {base : Heap} {x qual : Str} {params : Arguments} {body : List Stmt} {scope : Scope} {dvs : List V} {kws : List (Str × V)} {f : Addr} {fd : FuncData}
theorem fn_hot {N ps : List Str} {k : Nat} {sp : Sp} (Fd : FunD K x qual params body scope dvs kws f fd) (Sc : FnScope N ps scope) (many : ∀ vs H Q E, sp vs H Q E → vs.length = ps.length)
    (hb : ∀ (cdv : Value) (A : Around) (outer : List Env) (s : Shared) (H : Hp) (vs : List V) (Q : VK) (E : XK) (p : Addr × Obj), L2H.Hot1 A p → L2H.RoomH k (A.deeper (envOfC qual scope s.heap.objs.size f cdv)) → sp vs H Q E →
      sSs (cxQ P w K mg base N qual scope f cdv A outer s H E p) body { nx := fun _ H' => Q .non H', rt := Q } (L2.start N vs) H) : FnHt P w K mg base (k + 1) f fd ps sp := by
  obtain ⟨oc, od, dV, kV, doc, pm, an, cdv, ct, osl, rfl, lk, hcd, _, _⟩ := Fd.ex
  refine ⟨many, fun A outer s H args us vs Q E p hr hot hp e0 bt rv hs => ?_⟩
  have nm := many _ _ _ _ hs
  have inK : K.In s.heap := e0.mod.kin.keeps fun b o z => (e0.bs b o z).1
  refine codeAny_call_function hr.depth (inK _ _ lk) rfl Sc.co Sc.gen rfl (PySem.W.codeRec_of inK hcd) (bt _ _ _ _ (wpAny_newFunctionEnv_cells Sc.kind ?_ ?_))
  · rintro ⟨n, v⟩ hy
    rcases Sc.par n (List.of_mem_zip hy).1 with q | q
    · exact .inl q
    · exact .inr ⟨q, PySem.W.cellsFrom_some _ _ _ (.inl q)⟩
  · intro env he s1 z
    subst he
    refine ⟨(e0.mod.nolimit.keeps fun b o y => (e0.bs b o y).1).keeps z.toInCall.keep, codeAny_func ?_⟩
    refine wpAny_mono (hb cdv A outer s H vs Q E p hot (hr.deeper _) hs [] s1 (L2H.inv_startH Sc hp e0 nm rv z)) (fun fl t ht => ?_) fun _ _ y => y
    cases fl with
    | brk => obtain ⟨_, _, _, y⟩ := ht; exact y.elim
    | cont => obtain ⟨_, _, _, y⟩ := ht; exact y.elim
    | next =>
      obtain ⟨σ1, H1, J, y⟩ := ht
      exact ⟨.non, H1, J.os, J.bare, J.base, J.hok, rfl, y⟩
    | ret u =>
      obtain ⟨v1, σ1, H1, J, rr, y⟩ := ht
      exact ⟨v1, H1, J.os, J.bare, J.base, J.hok, rr, y⟩
/-- THE RULE for such a def -/
theorem fn_wHt {F : Fn} {N ps : List Str} {k : Nat} (Fd : FunD K x qual params body scope dvs kws f fd) (Sc : FnScope N ps scope)
    (h : ∀ (cdv : Value) (A : Around) (outer : List Env) (s : Shared) (H : Hp) (E : XK) (p : Addr × Obj) (rs : List It) (S : Sto) (QR : It → Sto → Prop), Cxh (cxQ P w K mg base N qual scope f cdv A outer s H E p) (fun _ _ _ _ => False) k p →
      ClS S → rs.length = ps.length → F rs S QR (fun _ _ => False) → WSs (cxQ P w K mg base N qual scope f cdv A outer s H E p) (fun _ _ _ _ => False) body (startG N rs) S ⟨fun _ S' => Back S.length S' (.d .none) QR, fun r S' => Back S.length S' r QR, fun _ _ => False, fun _ _ => False, fun _ _ _ => False⟩)
    (hq : ∀ rs S QR QE, F rs S QR QE → F rs S QR fun _ _ => False) : FnHt P w K mg base (k + 1) f fd ps (spF K ps.length F) := by
  refine fn_hot Fd Sc (fun vs H Q E hs => ?_) (fun cdv A outer s H vs Q E p hot hr hs => ?_)
  · obtain ⟨M, S, rs, _, h2, h3, _⟩ := hs
    rw [h2.len, h3]
  · obtain ⟨M, S, rs, h1, h2, h3, hF⟩ := hs
    have out : ∀ {v : V} {M' : List Addr} {H' : Hp} {r : It} {S' : Sto}, Ext M H M' H' → StoreOk K M' H' S' → VRep K M' H' v r → Back S.length S' r (fun r S' => ∀ v M' H', Ext M H M' H' → StoreOk K M' H' S' → VRep K M' H' v r → Q v H') → Q v H' := by
      intro v M' H' r S' e s' hv hb
      obtain ⟨S1, L, r1, rfl, hn, hc, hr1, q⟩ := hb
      refine q v (M'.take S1.length) H' (e.take (by rw [h1.len]; exact hn)) (s'.take (hc s'.closed)) ?_
      rcases hr1 with ⟨rfl, hcl⟩ | ⟨z, rfl, hd⟩
      · exact hv.take hcl
      · exact Den.fz s' hd hv
    exact h cdv A outer s H E p rs S _ ⟨hot, List.mem_singleton.mpr rfl, Sc.nd, passes_of rfl, hr⟩ h1.closed h3 (hq _ _ _ _ hF) M (L2.start N vs) H _ (stt_start h1 N h2) ⟨fun M' σ' H' G' S' e t q => out (v := .non) (r := .d .none) e t.sto Fz.non q, fun v M' H' r S' e t hv q => out e t hv q, fun _ _ _ _ _ _ _ q => q.elim, fun _ _ _ _ _ _ _ q => q.elim, fun _ _ _ _ _ _ _ _ q => q.elim⟩
/-- by its name -/
structure OkHt (P : Program) (w : World) (K : PySem.W.Frag) (mg : Str → Option Value) (base : Heap) (k : Nat) (x : Str) (ps : List Str) (F : Fn) : Prop where
  ex : ∃ (f : Addr) (fd : FuncData), mg x = some (.ref f) ∧ PySem.W.keepIn K (.ref f) = true ∧ Binds K fd ps [] ∧ FnHt P w K mg base k f fd ps (spF K ps.length F)
theorem okHt_of {k : Nat} {ps : List Str} {F : Fn} (g : mg x = some (.ref f)) (hd : ∃ fd, FunD K x qual params body scope [] [] f fd) (hb : ∀ (kV doc pm : Value) (an : Option Addr) (cdv ct : Value) (us : List Value), us.length = ps.length → bindArgs (PySem.W.fnOf x qual params body scope .none kV doc pm an cdv ct) ⟨us, []⟩ = pure (ps.zip us))
    (h : ∀ fd, FunD K x qual params body scope [] [] f fd → FnHt P w K mg base k f fd ps (spF K ps.length F)) : OkHt P w K mg base k x ps F := by
  obtain ⟨fd, Fd⟩ := hd
  exact ⟨f, fd, g, Fd.kp, Fd.bindsN hb, h fd Fd⟩
end
section
variable {X : Cx} {W : WX} {k j : Nat} {G : Gam} {S S1 S2 S3 : Sto} {e a b o iter tg a1 a2 a3 : Expr} {es : List Expr} {r : It} {rs : List It} {p pos pos' apos cpos : Pos} {n : Str} {ps : List Str} {F : Fn} {pz : Addr × Obj}
/-- its call, there -/
theorem ev_callHt (c : Cxh X W k pz) (O : OkHt X.prog X.w X.K X.mg X.base j n ps F) (ha : EvA X (e :: es) G S rs S1) (hF : ∀ (QR : It → Sto → Prop) (QE : Addr → Sto → Prop), QR r S2 → F rs S1 QR QE) (hj : j ≤ k := by decide) (hl : rs.length = ps.length := by rfl) (hg : Gl X n := by rfl) (hdb : (n == ("__debug__" : Str)) = false := by decide)
    (he : starEach (e :: es) X.env = (false, eval e X.env) :: starEach es X.env := by rfl) (hpl : (backTo pos (starEach es X.env)).any (·.1) = false := by rfl) : Ev X (.Call (.Name n p) (e :: es) [] pos) G S r S2 := fun M σ H Q s q pins s0 I => by
  obtain ⟨f, fd, hm, hk, hb, fq⟩ := O.ex
  refine wpAny_Call_Name_kw (ld_glob I hg hm (PySem.W.callWith_K (h₀ := X.base) I.ok.mod.kin hk ?_ he hpl) hdb)
  refine thn ((pa_s (es := e :: es)).run pos pins s0 σ H _ I (ha M σ H (fun vs H1 => ∃ M1, Ext M H M1 H1 ∧ Stt X.K M1 H1 S1 G σ ∧ VReps X.K M1 H1 vs rs) s fun vs M' H' e' s' r' => ⟨M', e', s', r'⟩)) fun us s1 ⟨vs, H1, I1, r1, M1, e1, t1, q1⟩ => ⟨I1.kIn, ?_⟩
  have hlen : vs.length = ps.length := by rw [q1.len, hl]
  have bt := hb s1 us I1.kIn (by rw [List.append_nil, ← r1.length]; exact hlen)
  rw [List.append_nil] at bt
  have pk := I1.pin pz (List.mem_append_left _ c.pn)
  have hp : L2H.PinOk X.stack H1 s1 pz := ⟨pk.1, pk.2.1, fun hm => (List.mem_cons.mp (I1.stkSub _ hm)).elim pk.2.2.1 pk.2.2.2.1, pk.2.2.2.2⟩
  refine wpAny_call (codeAny_mono (fq.does X.A X.stack s1 H1 ⟨us, []⟩ us vs (fun v H2 => Q v H2) (fun _ _ _ => False) pz (c.hr.mono hj) c.hot hp I1.env0 bt r1 ?_) fun u s2 hu => ?_)
  · exact ⟨M1, S1, rs, t1.sto, q1, hl, hF _ _ fun v M2 H2 e2 s2 hv => q v M2 H2 (e1.trans e2) (t1.mono e2 s2) hv⟩
  · cases u with
    | error z =>
      obtain ⟨_, _, _, _, _, _, _, _, _, _, _, _, y⟩ := (show L2.CX _ _ _ _ _ _ _ _ from hu)
      exact y.elim
    | ok fl =>
      cases fl with
      | ret u => exact I1.after hu
      | next => exact (show False from hu).elim
      | brk => exact (show False from hu).elim
      | cont => exact (show False from hu).elim
/-- an except suite's context is such a one -/
theorem cxh_su {ad : Addr} {oe : Obj} {cls : Value} {pn : List (Addr × Obj)} (c : Cxo X W k) (hz : L2N.Zn cls Option.none oe) (hf : ∃ vs, oe.data = .fields vs) : Cxh (suX X ad oe pn) (fun _ _ _ _ => False) k (ad, oe) := by
  obtain ⟨vs, hv⟩ := hf
  have := L2H.roomH_of c.hr
  exact ⟨⟨rfl, vs, hv, hz.2.2 vs hv⟩, List.mem_cons_self, c.nd, PassesOwn.never, ⟨this.dp, this.un⟩⟩
theorem eviH_str {x : Str} (hi : Ev X iter G S (.d (.str x)) S1) : EvIH X tg iter G S ((signs x).map .d) anyS S1 := ⟨_, piH_str pe_s, fun M σ H R s q => hi M σ H _ s fun v M1 H1 e1 t1 r1 => ⟨x, vr_str r1, q M1 H1 _ e1 t1 wk_str⟩⟩
theorem eviH_range3 {lo hi c : Int} {n : Nat} (hm : X.mg "range" = none) (h1 : Ev X a1 G S (.d (.int lo)) S1) (h2 : Ev X a2 G S1 (.d (.int hi)) S2) (h3 : Ev X a3 G S2 (.d (.int c)) S3) (hb : RgC lo hi c n) (hR : Gl X "range" := by rfl)
    (hst : starEach [a1, a2, a3] X.env = (false, eval a1 X.env) :: starEach [a2, a3] X.env := by rfl) (hst2 : starEach [a2, a3] X.env = (false, eval a2 X.env) :: starEach [a3] X.env := by rfl) (hst3 : starEach [a3] X.env = (false, eval a3 X.env) :: starEach [] X.env := by rfl)
    (hpl : (backTo pos' (starEach [a2, a3] X.env)).any (·.1) = false := by rfl) : EvIH X tg (.Call (.Name "range" p) [a1, a2, a3] [] pos') G S (rngC lo c n) anyS S3 :=
  ⟨_, piH_range3 hR hm pa_s hst hpl, fun M σ H R s q => (eva_cons h1 (eva_cons h2 (eva_cons h3 eva_nil hst3) hst2) hst) M σ H _ s fun vs M1 H1 e1 t1 r1 => by
    obtain ⟨q1, _, rfl, w1, r2⟩ : ∃ v l, vs = v :: l ∧ VRep X.K M1 H1 v (.d (.int lo)) ∧ VReps X.K M1 H1 l [.d (.int hi), .d (.int c)] := by
      cases r1 with
      | cons a b => exact ⟨_, _, rfl, a, b⟩
    obtain ⟨q2, q3, rfl, w2, w3⟩ := vr2 r2
    exact ⟨lo, hi, c, n, by rw [vr_int w1, vr_int w2, vr_int w3], hb, q M1 H1 _ e1 t1 wk_rangeC⟩⟩
theorem evt_neDH {x y : PyData} (c : Cxh X W k pz) (ha : Ev X a G S (.d x) S1) (hb : Ev X b G S1 (.d y) S2) (hx : SeqAt.shaped x = true) (hy : SeqAt.shaped y = true) : EvT X (.Compare a [.NotEq] [b] pos) G S (!PyData.eqv x y) S2 := evt_cmp (op_neD (by have := c.hr.un; omega)) ha hb (rw_neD hx hy)
theorem cr_minH (hc : HotC X) : CallR X (.builtin "min") (rMin X.K) := by
  rintro pins s σ H vs us Q I r ⟨a, ns, rfl, hs, hne, q⟩
  obtain ⟨its, rv, hl, _⟩ := I.list hs
  obtain ⟨x1, hot⟩ := hc.at I
  rw [Vals.ref1 r]
  exact best_hot (big := false) hot hl.isList rv.ints hne fun h' tk m t' hk h1 h2 => ⟨.int _, H, I.kept hk, ⟨_, rfl⟩, q m h1 fun y hy => by simpa using h2 y hy⟩
theorem cr_maxH (hc : HotC X) : CallR X (.builtin "max") (rMax X.K) := by
  rintro pins s σ H vs us Q I r ⟨a, ns, rfl, hs, hne, q⟩
  obtain ⟨its, rv, hl, _⟩ := I.list hs
  obtain ⟨x1, hot⟩ := hc.at I
  rw [Vals.ref1 r]
  exact best_hot (big := true) hot hl.isList rv.ints hne fun h' tk m t' hk h1 h2 => ⟨.int _, H, I.kept hk, ⟨_, rfl⟩, q m h1 fun y hy => by simpa using h2 y hy⟩
/-- min(xs) -/
theorem ev_minLH {ns : List Int} {l : Int} (c : Cxh X W k pz) (hm : X.mg "min" = none) (ha : Ev X a G S (.d (.list (ns.map .int))) S1) (h : l ∈ ns) (hl : ∀ y ∈ ns, l ≤ y) (hg : Gl X "min" := by rfl) (he : starEach [a] X.env = (false, eval a X.env) :: starEach [] X.env := by rfl) : Ev X (.Call (.Name "min" p) [a] [] pos) G S (.d (.int l)) S1 :=
  ev_blt (cr_minH c.hc) hm (by decide +kernel) (eva_cons ha eva_nil he) (fun M H vs Q s hvs q => by
    obtain ⟨v, rfl, hv⟩ := vr1 hvs
    have hv' : Fz M H v (.list (ns.map .int)) := hv
    cases hv' with
    | lst h1 h2 =>
      refine ⟨_, ns, rfl, by rw [← fz_ints h2]; exact h1.sq, List.length_pos_of_mem h, fun m' hm1 hm2 => ?_⟩
      have e1 : m' = l := Int.le_antisymm (hm2 l h) (hl m' hm1)
      rw [e1]
      exact q _ M H Ext.refl s (Fz.int _)) hg (by decide) (by decide) he rfl
end
/-! ### loops where errors stand in no other's context -/
section
variable {X : Cx} {W W0 : WX} {k j : Nat} {G G1 G2 : Gam} {S S1 S2 S3 : Sto} {P : Post} {e a b o iter tg elt : Expr} {es ifs : List Expr} {r y z : It} {rs : List It} {pos pos' p apos : Pos} {st : Stmt} {sts body : List Stmt} {ds : List PyData} {C : Sto → Prop} {scope : Scope} {own : List (Str × Nat)} {vs : List Nat}
/-- for x in what walks rs: J by the turn, the names, the store -/
theorem ws_forN (c : Cxo X W0 k) (hi : EvI X tg iter G S rs C S1) (J : Nat → Gam → Sto → Prop) (tgt : It → Gam → Gam) (h0 : J 0 G S1) (hC : ∀ i G' S', J i G' S' → C S')
    (hg : ∀ i r G' S', rs[i]? = some r → J i G' S' → EvG X tg r G' S' (tgt r G') S')
    (hs : ∀ i r G' S', rs[i]? = some r → J i G' S' → WSs X W body (tgt r G') S' (P.turn (J (i + 1)))) (hd : ∀ G' S', J rs.length G' S' → P.nx G' S')
    (hf : ∀ x, foldedSetIterable iter X.env x = pure x := by intro _; rfl) : WS X W (.For tg iter body [] pos) G S P := fun M σ H D s m => by
  obtain ⟨wi, hpi, hw⟩ := hi
  refine toS (ps_for c.po c.calm hpi pg_s pss_s hf) (hw M σ H _ s fun M1 H1 Jt e1 t1 wk => ?_)
  refine ⟨fun i m' σ' H' => (m' = rs.length - i ∧ i ≤ rs.length) ∧ ∃ M' G' S', Ext M1 H1 M' H' ∧ Stt X.K M' H' S' G' σ' ∧ J i G' S', ⟨_, ⟨rfl, Nat.zero_le _⟩, M1, G, S1, Ext.refl, t1, h0⟩, fun i m' σ' H' hw => ?_⟩
  obtain ⟨⟨rfl, hi'⟩, M', G', S', e', t', hJ⟩ := hw
  have c' := hC i G' S' hJ
  by_cases hlt : i < rs.length
  · refine .inr ⟨wk.go i M' H' S' hlt e' t'.sto c', fun σ2 H2 => ∃ M2 G2 S2, Ext M1 H1 M2 H2 ∧ Stt X.K M2 H2 S2 G2 σ2 ∧ J (i + 1) G2 S2, fun σ2 H2 q => ⟨rs.length - (i + 1), by omega, ⟨rfl, by omega⟩, q⟩, fun x H2 y => ?_⟩
    have hri : rs[i]? = some rs[i] := List.getElem?_eq_getElem hlt
    obtain ⟨e2, s2, v2⟩ := wk.yl i M' H' S' x H2 _ hri e' t'.sto c' y
    have t2 : Stt X.K M' H2 S' G' σ' := t'.mono e2 s2
    have e12 := e'.trans e2
    refine hg i _ G' S' hri hJ M' σ' H2 x _ t2 v2 fun σ3 M3 H3 e3 t3 => ?_
    have e13 := e12.trans e3
    exact hs i _ G' S' hri hJ M3 σ3 H3 _ t3 ⟨fun M4 σ4 H4 G4 S4 x t q => ⟨M4, G4, S4, e13.trans x, t, q⟩, fun v M4 H4 r S4 x => m.rt v M4 H4 r S4 ((e1.trans e13).trans x), fun M4 σ4 H4 G4 S4 x => m.nx M4 σ4 H4 G4 S4 ((e1.trans e13).trans x), fun M4 σ4 H4 G4 S4 x t q => ⟨M4, G4, S4, e13.trans x, t, q⟩, fun M4 σ4 H4 G4 C4 S4 x => m.xc M4 σ4 H4 G4 C4 S4 ((e1.trans e13).trans x)⟩
  · have ei : i = rs.length := by omega
    subst ei
    exact .inl ⟨wk.st _ M' H' S' (Nat.le_refl _) e' t'.sto c', m.nx M' σ' H' G' S' (e1.trans e') t' (hd G' S' hJ)⟩
/-- y = [..], y a local -/
theorem ws_setLcN {out : List PyData} (i : Nat) {n : Str} (c : Cxo X W0 k) (ok : BlkOk X.N X.env.scope scope own) (h : LcOk X scope own elt tg iter ifs G S out S2) (q : P.nx (G.set i (some (.d (.list out)))) S2) (hy : X.N[i]? = some n := by rfl) (hyl : X.env.scope.names.lookup n = some .local := by rfl)
    (hsw : swapsWith (.ListComp elt [⟨tg, iter, ifs, 0⟩] scope pos) (some (.Name n pos')) apos.line X.env = pure true := by exact sw_true rfl rfl rfl (by decide +kernel)) (hf : ∀ x, foldedSetIterable iter X.env x = pure x := by intro _; rfl) : WS X W (.Assign [.Name n pos'] (.ListComp elt [⟨tg, iter, ifs, 0⟩] scope pos) apos) G S P := fun M σ H D s m => by
  obtain ⟨wi, g, hpi, hpg, h⟩ := h.ex
  exact toS (ps_setLc (i := i) c.calm c.nd hy hyl hsw hpi ok hpg pts_tTs pe_tEl hf) (h M σ H _ s fun v M1 H1 e1 t1 r1 => m.nx M1 _ H1 _ S2 e1 (t1.set r1) q)
end
/-- what takes errors takes those that stand in no other's context -/
theorem takesN {X : Cx} {W : WX} (tk : L2.Takes X W) : L2N.Takes X W := fun u s' ⟨a, B, sI, pins, σ, H, cls, d, e, I, nb, up, sky, na, os, ag, w⟩ => by
  refine tk u s' ⟨a, B, sI, pins, σ, H, cls, d, e, I, nb, up, ?_, na, os, ag, w⟩
  rcases sky with ⟨h1, h2, h3, oe, vs, h4, h5, h6⟩ | h | ⟨h1, h2, h3, h4⟩
  · exact .inl ⟨h1, h2, h3, oe, vs, h4, h5.zc, h6⟩
  · exact .inr (.inl (L2H.flyingZ_imp (fun _ z => z.zc) h))
  · exact .inr (.inr ⟨h1, h2, h3, L2H.tracedZ_imp (fun _ z => z.zc) h4⟩)
end Cu
/-! CyE: name = [..], an element may raise, the errors in no other's context. -/
namespace Cu
open PySem PySem.Spec PyProof.Rows L2
/-- an error in the air, of whatever hand, is noted at the frame L -/
theorem sky_noteN {M : Model} {A : Around} {E : Value → Shared → Prop} {env : Env} {outer : List Env} {L C a : Addr} {Z : Obj → Prop} {B : Heap} {s : Shared} {Q : Unit → Shared → Prop} (hZ : PXN.Steady1 Z) (hfr : A.frames = some (env :: outer)) (hf : env.frame = some L) (hne : C ≠ L)
    (x : Sky B (env :: outer) a Z C s.heap) (hQ : ∀ h', HandSPX.HeldZ B (env :: outer) a Z L h' → s.heap.UpToSlots h' → Q () { s with heap := h' }) : wpAny M A (noteFrame (.ref a) env) Q E s := by
  rcases x with ⟨g0, g1, g2, ob, fs, g3, g4, g5, g6⟩ | fl | ⟨g0, g1, g2, ob, fs, tb, ot, us, g3, g4, g5, g6, g7, g8, g9, g10, g11⟩
  · exact PXN.look_newZ hZ hfr g2 hf g3 g0 g1 g5 g6 g4 hQ
  · exact PXN.looks_onZ hZ hfr hf fl hQ
  · unfold noteFrame
    simp only [hf]
    refine wpAny_bind (wpAny_field g3 g5 g6 ?_)
    rw [if_pos (show (Value.ref tb != Value.none) = true by simp)]
    refine wpAny_bind (wpAny_field g9 g10 g11 ?_)
    have hraw : ¬ ((rawInt (C : Int) == rawInt (L : Int)) = true) := by
      unfold rawInt
      simp
      intro e
      exact hne (by exact_mod_cast e)
    rw [if_neg hraw]
    refine wpAny_bind (wpAny_setField g9 g10 (Array.getElem?_eq_some_iff.mp g11).1 ?_)
    have oth : ∀ b, b ≠ tb → (s.heap.update tb (Obj.mapFields (·.setIfInBounds 3 Value.none))).get? b = s.heap.get? b := fun b hb => Heap.get?_update_other _ _ (Ne.symm hb)
    have nrec : ∀ b o, s.heap.get? b = some o → (∀ vs, o.data ≠ .fields vs) → b ≠ tb := fun b o e hn z => by
      rw [z, g9] at e
      injection e with e
      subst e
      exact hn us g10
    have fr2 := g2.of_keeps fun b o e hn => ⟨o, (oth b (nrec b o e hn)).trans e, rfl⟩
    have st2 : B.StaysIn (s.heap.update tb (Obj.mapFields (·.setIfInBounds 3 Value.none))) := fun b o e => (oth b fun z => by rw [z, g7] at e; cases e).trans (g0 b o e)
    refine PXN.wpAny_entryZ hZ hfr fr2 hf ((oth a (Ne.symm g8)).trans g3) st2 g1 g5 (Array.getElem?_eq_some_iff.mp g6).1 g4 fun h' hN => ?_
    exact hQ h' ⟨hN.1, g1, hN.2.1, hN.2.2.1⟩ fun b o e hn => hN.2.2.2 b o ((oth b (nrec b o e hn)).trans e) hn
/-- it comes out of the block -/
theorem block_outN {X : Cx} {W : WX} {pins : List (Addr × Obj)} {σ : Sig} {H : Hp} {s : Shared} {scope : Scope} {cl : List (Str × Addr)} {fp : List Addr} {f : Value → Shared → Prop} {u : Value} {s' : Shared} {cenv : Env} {Qn : Value → Shared → Prop} {E1 : Value → Shared → Prop}
    (hs : X.stack = X.env :: X.outer) (hf : X.env.frame = some X.env.locals) (tk : L2N.Takes X W) (I : Inv X pins σ H s) (hfp : ∀ b ∈ fp, FpOk X pins H b) (hce : cenv.frame = X.env.frame)
    (x : L2N.XE (blkE X scope s H s.heap.objs.size cl fp f) (fun cls d _ H' => W cls d σ H') u s') :
    wpAny (model X.prog X.w) X.A (noteFrame u (compEnvC scope cl s.heap.objs.size X.env)) (fun _ s2 => ∃ m, s2.heap.Ns s.heap.objs.size m ∧ ∀ h', Heap.SameBut s.heap.objs.size s2.heap h' → wpAny (model X.prog X.w) X.A (PySem.passOn "comprehension.variables-let-go" u cenv : Sem Value) Qn X.xe { s2 with heap := h' }) E1 s' := by
  obtain ⟨a, B, sI, pins1, σ1, H1, cls, d, rfl, I6, nb, up, sky, na, os, ag, w⟩ := x
  have I6 := inv_off I6
  have hfr : X.A.frames = some (X.env :: X.outer) := by rw [I.ok.frames, hs]
  generalize hC : s.heap.objs.size = C at *
  have hCL : C ≠ X.env.locals := fun z => by
    have := I.lt
    rw [hC, ← z] at this
    exact Nat.lt_irrefl _ this
  have hCf : ∀ b ∈ frs (X.env :: X.outer), b ≠ C := fun b hb z => by
    rw [← hs] at hb
    obtain ⟨_, o, e, _⟩ := I.stack.mem hb
    have := Heap.lt_size e
    rw [hC, z] at this
    exact Nat.lt_irrefl _ this
  show wpAny _ _ (noteFrame (.ref a) X.env) _ _ _
  have sky : Sky B X.stack a (L2N.Zn cls d) C s'.heap := sky
  have nb : ∀ b o, sI.heap.get? b = some o → b ∉ frs X.stack → B.get? b = some o := nb
  rw [hs] at sky nb
  refine sky_noteN L2N.Zn.steady hfr hf hCL sky fun h1 hh up1 => ?_
  obtain ⟨m, hn, _⟩ := I6.loc
  have hn : sI.heap.Ns C m := hn
  have nC : H1 C = none := I6.free
  have n1 : h1.Ns C m := (up.trans up1).ns hn
  refine ⟨m, n1, fun h' sb => ?_⟩
  -- the def's own state
  have I7 : Inv X pins σ H1 sI := I.call' (ch := fp) I6.os I6.base I6.hok I6.bare fun b hb => ⟨(hfp b hb).2.2.2.1, (hfp b hb).2.1, (hfp b hb).2.2.2.2.1, (hfp b hb).2.2.2.2.2⟩
  obtain ⟨G, gg1, gg2⟩ := restrict sI.heap fun b => decide (b ≠ C)
  obtain ⟨B', bb1, bb2⟩ := restrict B fun b => decide (b ≠ C)
  obtain ⟨f0, f1, f2, f3, f4, f5⟩ := I.fpOk (Nat.le_of_eq hC) nC
  have I8 : Inv X pins σ H1 { sI with heap := G } := I7.turned (it := C) (t' := sI.toks) (fun b o hb e => (gg1 b (decide_eq_true hb)).trans e) f0 f1 f3 f4 f5
  have inG : ∀ b o, G.get? b = some o → b ≠ C ∧ sI.heap.get? b = some o := fun b o e => by
    by_cases hb : b = C
    · rw [gg2 b (decide_eq_false fun z => z hb)] at e; cases e
    · exact ⟨hb, (gg1 b (decide_eq_true hb)).symm.trans e⟩
  have inB : ∀ b o, B'.get? b = some o → b ≠ C ∧ B.get? b = some o := fun b o e => by
    by_cases hb : b = C
    · rw [bb2 b (decide_eq_false fun z => z hb)] at e; cases e
    · exact ⟨hb, (bb1 b (decide_eq_true hb)).symm.trans e⟩
  have noB : ∀ b, B.get? b = none → B'.get? b = none := fun b e => by
    cases q : B'.get? b with
    | none => rfl
    | some o => rw [(inB b o q).2] at e; cases e
  obtain ⟨k0, k1, k2, ob, vs, tb, ot, us, k3, k4, k5, k6, k7, k8, k9, k10, k11⟩ := hh
  have notC : ∀ {b o vs}, h1.get? b = some o → o.data = .fields vs → b ≠ C := fun {b o vs} e1 e2 z => by
    obtain ⟨o', es, ep, q1, q2, _⟩ := n1
    rw [z, q1] at e1
    injection e1 with e1
    rw [← e1, q2] at e2
    cases e2
  have hld : HandSPX.HeldZ B' (X.env :: X.outer) a (L2N.Zn cls d) X.env.locals h' :=
    ⟨fun b o e => (sb.2 b (inB b o e).1).trans (k0 b o (inB b o e).2), noB a k1, frames_but k2 hCf sb.2 noB,
      ob, vs, tb, ot, us, (sb.2 a (notC k3 k5)).trans k3, k4, k5, k6, noB tb k7, k8, (sb.2 tb (notC k9 k10)).trans k9, k10, k11⟩
  unfold PySem.passOn
  refine wpAny_bind (wpAny_field ((sb.2 a (notC k3 k5)).trans k3) k5 k6 ?_)
  rw [if_neg (show ¬ ((Value.ref tb == Value.none) = true) by simp)]
  rw [hce, hf]
  have fin : ∀ h2, HandSPX.HeldZ B' (X.env :: X.outer) a (L2N.Zn cls d) X.env.locals h2 → h'.UpToSlots h2 → wpAny (model X.prog X.w) X.A (throw (.ref a)) Qn X.xe ({ s' with heap := h2 } : Shared) := fun h2 hh2 up2 => by
    refine wpAny_throw (tk _ _ ⟨a, B', { sI with heap := G }, pins, σ, H1, cls, d, rfl, I8, fun b o e hb => ?_, ?_, .inr (.inr (by rw [hs]; exact hh2)), na, os, ag, w⟩)
    · obtain ⟨q1, q2⟩ := inG b o e
      rw [hs] at hb
      exact (bb1 b (decide_eq_true q1)).trans (nb b o q2 hb)
    · intro b o e hnf
      obtain ⟨q1, q2⟩ := inG b o e
      obtain ⟨sl, q3⟩ := (up.trans up1) b o q2 hnf
      obtain ⟨sl2, q4⟩ := up2 b _ ((sb.2 b q1).trans q3) hnf
      exact ⟨sl2, q4⟩
  exact wpAny_bind (HandSPX.setFlight_onZ hld fun h2 hh2 up2 => fin h2 hh2 up2)
/-- the element, whatever the block's own error wish -/
def tElEN (X : Cx) (W : WX) (σ0 : Sig) (scope : Scope) (elt : Expr) : TE := fun σ H Q => ∀ s0 H0 C cl fp f, L2N.Takes (blkE X scope s0 H0 C cl fp f) (fun cls d _ H' => W cls d σ0 H') → PassesOwn (model X.prog X.w) X.A (compEnvC scope cl C X.env) f → sE (blkE X scope s0 H0 C cl fp f) elt σ H Q
def tLcEN (X : Cx) (W : WX) (scope : Scope) (elt : Expr) (wi : TI) (g : TG) (vs : List Nat) : TE := fun σ H Q => wi σ H fun J H1 => ∀ D, H1 D = none → ∃ Wt : Nat → Nat → Hp → Prop, (∃ m, Wt 0 m (upd H1 D (.lst []))) ∧ ∀ i m H, Wt i m H →
  (J.stop i H ∧ Q (.ref D) H) ∨ (J.go i H ∧ ∃ Nx : Hp → Prop, (∀ H', Nx H' → ∃ m', m' < m ∧ Wt (i + 1) m' H') ∧ ∀ x H', J.yld i H x H' → g x (wipe σ vs) H' fun σ2 H2 => wipe σ2 vs = wipe σ vs ∧
    tElEN X W σ scope elt σ2 H2 fun y H4 => ∃ acc, H4 D = some (.lst acc) ∧ acc.length < sizeLine ∧ Nx (upd H4 D (.lst (acc ++ [y]))))
theorem ps_setLcEN {X : Cx} {W : WX} {i : Nat} {y : Str} {py : Pos} {elt tg iter : Expr} {scope : Scope} {own : List (Str × Nat)} {pos spos : Pos} {wi : TI} {g : TG} (hc : X.calm = true) (hN : X.N.Nodup) (hst : X.stack = X.env :: X.outer) (hfr : X.env.frame = some X.env.locals) (tk : L2N.Takes X W)
    (hy : X.N[i]? = some y) (hyl : X.env.scope.names.lookup y = some .local) (hsw : swapsWith (.ListComp elt [⟨tg, iter, [], 0⟩] scope pos) (some (.Name y py)) spos.line X.env = pure true) (hi : PI X tg iter wi) (ok : BlkOk X.N X.env.scope scope own) (hfree : ∀ y ∈ scope.names, y.2 ≠ .free)
    (hg : ∀ (s : Shared) (H : Hp) (C : Addr) (cl : List (Str × Addr)) (fp : List Addr), PG (blkX X scope s H C cl fp) tg g) (hs : ∀ x, foldedSetIterable iter X.env x = pure x := by intro _; rfl) :
    PS X (.Assign [.Name y py] (.ListComp elt [⟨tg, iter, [], 0⟩] scope pos) spos) (fun D σ H => tLcEN X W scope elt wi g (own.map (·.2)) σ H fun x H1 => gName i x σ H1 D.nx) := by
  refine ⟨fun pins s σ H Dn I h => ?_⟩
  rw [exec_Assign_Name_used _ _ _ _ hsw]
  refine wpAny_bind (wpAny_standAt (wpAny_bind ?_))
  show wpAny _ X.A (do let _ ← comprehension (.ListComp elt [⟨tg, iter, [], 0⟩] scope pos) scope X.env (firstIterPos [⟨tg, iter, [], 0⟩] pos) (newList []) false (eval iter X.env) (some (assign (.Name y py) X.env))) _ _ s
  have h : tLcEN X W scope elt wi g (own.map (·.2)) σ H (fun x H1 => gName i x σ H1 Dn.nx) := h
  refine wpAny_bind (thn (Q := fun _ s' => SP X pins Dn .next s') ?_ fun _ s' hq => wpAny_pure (wpAny_pure hq))
  refine wpAny_comprehension_use (u := assign (.Name y py) X.env) rfl hs hfree ok.kind (fun y hy e => by rw [ok.uniq y hy, e]) (thn (hi.run pins s σ H _ I h) fun xv s1 hx => thn hx fun itv s2 h2 => ?_)
  obtain ⟨it, fp, tn, J, H2, e, I2, Tn, st2, f2, q⟩ := h2
  subst e
  refine wpAny_newObj_type (newEnv_comp ?_) (by show 0 ≤ sizeLine; decide)
  generalize hD : s2.heap.objs.size = D
  have hDn : H2 D = none := I2.hok.fresh (Nat.le_of_eq hD)
  obtain ⟨Wt, ⟨m0, w0⟩, turn⟩ := q D hDn
  generalize hs3 : ({ s2 with heap := s2.heap.push { cls := .type "list", data := .seq ([] : List Value).toArray } } : Shared) = s3
  have I3 : Inv X pins σ (upd H2 D (.lst [])) s3 := by
    rw [← hs3]
    exact I2.laid (t' := s2.toks) (fun b o e => Heap.get?_push_of_some _ e) (Nat.le_of_eq hD) ⟨Nat.zero_le _, [], 0, .nil, by rw [← hD]; exact Heap.get?_push_size _ rfl⟩
  have h3 : s3.heap = s2.heap.push { cls := .type "list", data := .seq ([] : List Value).toArray } := by rw [← hs3]
  have f3 : ∀ b ∈ fp, FpOk X pins (upd H2 D (.lst [])) b ∧ b < s3.heap.objs.size := fun b hb => by
    obtain ⟨o, eo, _⟩ := Tn.obj _ _ st2 b hb
    have hlt := Heap.lt_size eo
    exact ⟨⟨by rw [upd_ne (by rw [← hD]; exact Nat.ne_of_lt hlt)]; exact (f2 b hb).1, (f2 b hb).2⟩, by rw [h3, Heap.size_push]; exact Nat.lt_succ_of_lt hlt⟩
  have st3 : tn 0 s3.heap := Tn.keep _ _ _ st2 fun b _ o eo => by rw [h3]; exact Heap.get?_push_of_some _ eo
  have I4 := block_start I3 ok hN f3
  rw [clo_none hfree] at I4
  have hce : ({ newEnv scope s3.heap.objs.size X.env.globals (cellsFrom (s3.heap.objs.size + 1) scope.names []) X.env.qual none .none (some X.env) X.env.builtins with scope := scope } : Env) = compEnvC scope (cellsFrom (s3.heap.objs.size + 1) scope.names []) s3.heap.objs.size X.env := by
    unfold compEnvC
    rw [rel_none hfree]
    rfl
  have hcf : ({ newEnv scope s3.heap.objs.size X.env.globals (cellsFrom (s3.heap.objs.size + 1) scope.names []) X.env.qual none .none (some X.env) X.env.builtins with scope := scope } : Env).frame = X.env.frame := rfl
  show codeAny _ _ (.compStart (.ListComp elt [⟨tg, iter, [], 0⟩] scope pos) 0 (.ref it) (.ref D) { newEnv scope s3.heap.objs.size X.env.globals (cellsFrom (s3.heap.objs.size + 1) scope.names []) X.env.qual none .none (some X.env) X.env.builtins with scope := scope }) _ { s3 with heap := pushCells (s3.heap.push { cls := .type "dict", data := .dict #[] }) scope.names }
  have nfp : ∀ b ∈ fp, (upd H2 D (.lst [])) b = none := fun b hb => (f3 b hb).1.1
  generalize hce0 : ({ newEnv scope s3.heap.objs.size X.env.globals (cellsFrom (s3.heap.objs.size + 1) scope.names []) X.env.qual none .none (some X.env) X.env.builtins with scope := scope } : Env) = ce at hce hcf ⊢
  generalize hcl : cellsFrom (s3.heap.objs.size + 1) scope.names [] = cl at hce I4 ⊢
  subst hce
  generalize hH3 : upd H2 D (.lst []) = H3 at I3 I4 w0 nfp f3
  generalize hC : s3.heap.objs.size = C at I4 hcf ⊢
  generalize hs4 : ({ s3 with heap := pushCells (s3.heap.push { cls := .type "dict", data := .dict #[] }) scope.names } : Shared) = s4 at I4 ⊢
  have st4 : tn 0 s4.heap := Tn.keep _ _ _ st3 fun b _ o eo => by rw [← hs4]; exact pushCells_keeps _ _ _ _ (Heap.get?_push_of_some _ eo)
  have hpost : ∀ {u : Value} {s' : Shared} {f : Value → Shared → Prop}, L2N.XE (blkE X scope s3 H3 C cl fp f) (fun cls d _ H' => W cls d σ H') u s' →
      notedBy (model X.prog X.w) X.A (compEnvC scope cl C X.env) (fun x s' => ∃ m, s'.heap.Ns C m ∧ ∀ h', Heap.SameBut C s'.heap h' → wpAny (model X.prog X.w) X.A (PySem.passOn "comprehension.variables-let-go" x (compEnvC scope cl C X.env) : Sem Value) (fun _ s' => SP X pins Dn .next s') X.xe { s' with heap := h' }) u s' := fun {u s' f} x => by
    subst hC
    exact block_outN (Qn := fun _ s' => SP X pins Dn .next s') (cenv := compEnvC scope cl s3.heap.objs.size X.env) hst hfr tk I3 (fun b hb => (f3 b hb).1) hcf x
  have pg := hg s3 H3 C cl fp
  have stat : ∀ {σ' : Sig} {H' : Hp} {s' : Shared}, Inv (blkX X scope s3 H3 C cl fp) [] σ' H' s' → (∀ b ∈ fp, H' b = none) → ∀ b ∈ fp, FpOk (blkX X scope s3 H3 C cl fp) [] H' b := fun {σ' H' s'} I' hn b hb =>
    ⟨hn b hb, (I'.ok.exf b hb).1, I'.ok.exfs b hb, .inl hb, fun x c eo => (I'.ok.exf b hb).2 x c eo, fun p hp => absurd (show p ∈ ([] : List (Addr × Obj)) ++ [] from hp) (by simp)⟩
  have nC0 : ∀ {σ' : Sig} {H' : Hp} {s' : Shared}, Inv (blkX X scope s3 H3 C cl fp) [] σ' H' s' → H' C = none := fun I' => I'.free
  suffices loop : codeAny (model X.prog X.w) X.A (.compLoop (.ListComp elt [⟨tg, iter, [], 0⟩] scope pos) 0 (.ref it) (.ref D) (compEnvC scope cl C X.env)) _ s4 from codeAny_compStart_list loop (Tn.self X.A 0 _ _ _ st4 loop)
  refine compLoop_any (fun n s' => ∃ i H', Inv (blkX X scope s3 H3 C cl fp) [] (wipe σ (own.map (·.2))) H' s' ∧ tn i s'.heap ∧ (∀ b ∈ fp, H' b = none) ∧ Wt i n H') ?_ m0 ⟨0, H3, I4, st4, nfp, w0⟩
  rintro n s5 ⟨j, H5, I5, st5, n5, w5⟩
  rcases turn j n H5 w5 with ⟨stop, qq⟩ | ⟨go, Nx, hNx, step⟩
  · refine thnF (Tn.done (blkX X scope s3 H3 C cl fp) rfl rfl rfl hc j [] s5 _ H5 (fun _ _ => False) I5 (stat I5 n5) st5 stop) fun r s6 hr6 => ?_
    obtain ⟨hr, I6⟩ := hr6
    subst hr
    have I7 : Inv X pins σ H5 s6 := I3.call' (ch := fp) I6.os I6.base I6.hok I6.bare fun b hb => ⟨(f3 b hb).1.2.2.2.1, (f3 b hb).1.2.1, (f3 b hb).1.2.2.2.2.1, (f3 b hb).1.2.2.2.2.2⟩
    obtain ⟨f0, f1, f2', f3', f4, f5⟩ := I3.fpOk (Nat.le_of_eq hC) (nC0 I6)
    obtain ⟨m, hn, _⟩ := I6.loc
    have hn : s6.heap.Ns C m := hn
    show wpAny _ _ (assign (.Name y py) X.env (.ref D)) _ _ _
    refine wpAny_assign_Name (store_ok2 (v := V.ref D) I7 hN hy (.inl hyl) rfl (fun s8 I8 hx8 => ?_) (.inr hyl))
    obtain ⟨a, sb, ha⟩ := hx8
    have haC : C ≠ a := by
      rcases ha with z | z
      · rw [z]; exact f1
      · exact fun eq => f4 y a z eq.symm
    refine ⟨m, hn.sameBut sb haC, fun h9 sb9 => ?_⟩
    exact ⟨_, H5, I8.turned (t' := s8.toks) (fun b o hb eo => (sb9.2 b hb).trans eo) f0 f1 f3' f4 f5, qq⟩
  · refine thnF (Tn.item (blkX X scope s3 H3 C cl fp) rfl rfl rfl hc j [] s5 _ H5 (fun _ _ => False) I5 (stat I5 n5) st5 go) fun r s6 hr6 => ?_
    obtain ⟨u, hr, h6⟩ := hr6
    subst hr
    refine thnF h6 fun _ s7 hx7 => ?_
    obtain ⟨x, H7, I7, r7, y7, st7, n7⟩ := hx7
    have I7' := I7.pinned (stat I7 n7) (Tn.obj _ _ st7)
    refine thnF (pg.run _ s7 _ H7 x u _ I7' r7 (step x H7 y7)) fun _ s8 hx8 => ?_
    obtain ⟨σ8, H8, I8, hw8, q8⟩ := hx8
    refine thnF ((pts_nil (X := blkX X scope s3 H3 C cl fp)).run _ s8 σ8 H8 (fun b Hb => b = true ∧ Hb = H8) I8 ⟨rfl, rfl⟩) fun b s9 hx9 => ?_
    obtain ⟨H9, I9, hb9, hH9⟩ := hx9
    subst hb9 hH9
    simp only [if_true]
    have q9 := q8 s3 H3 C cl fp _ (fun u s' x => hpost x) PassesOwn.looking _ s9 (inv_put I9)
    refine wpAny_mono q9 (fun z s10 hx10 => ?_) fun _ _ eo => eo
    obtain ⟨yv, H10, I10, r10, acc, hD10, hz10, nx⟩ := hx10
    refine app_ok (X := blkX X scope s3 H3 C cl fp) (inv_off I10) hD10 hz10 r10 fun s11 I11 => ?_
    obtain ⟨m', hm, w'⟩ := hNx _ nx
    have pin' : ∀ b ∈ fp, ∀ o, s7.heap.get? b = some o → s11.heap.get? b = some o ∧ (upd H10 D (.lst (acc ++ [yv]))) b = none := fun b hb o eo =>
      let z := I11.pin (b, o) (List.mem_append_right _ (List.mem_append_right _ (mem_pinsAt hb eo)))
      ⟨z.1, z.2.1⟩
    have hl : (wipe σ (own.map (·.2))).length = σ8.length := by rw [← hw8, wipe_length]
    refine ⟨m', hm, j + 1, _, (I11.unpinned (pins := [])).weak hl (fun k v eo => ?_), Tn.keep _ _ _ st7 fun b hb o eo => (pin' b hb o eo).1, fun b hb => ?_, w'⟩
    · rw [← hw8] at eo
      exact (wipe_some eo).1
    · obtain ⟨o, eo, _⟩ := Tn.obj _ _ st7 b hb
      exact (pin' b hb o eo).2
section
variable {X : Cx} {W W0 : WX} {k : Nat} {G : Gam} {S S1 : Sto} {P : Post} {elt tg iter : Expr} {scope : Scope} {own : List (Str × Nat)} {pos pos' apos : Pos} {rs : List It}
/-- name = [..]: every item gives by gg a datum, or an error of class C0 -/
theorem ws_setLcEN {bind : It → Gam → Option Gam} {C : Sto → Prop} {C0 : Addr} (i : Nat) {n : Str} (c : Cxo X W0 k) (tk : L2N.Takes X W) (ok : BlkOk X.N X.env.scope scope own) (hi : EvI X tg iter G S rs C S1) (ht : TgOk X scope tg (own.map (·.2)) bind) (gg : It → Option PyData) (hC : ∀ L, C (S1 ++ L))
    (hs : ∀ r ∈ rs, ∃ G', bind r (wipeG G (own.map (·.2))) = some G' ∧ ∀ L s H Ca cl fp f W', Cxo (blkE X scope s H Ca cl fp f) wNo k → L2N.Takes (blkE X scope s H Ca cl fp f) W' → EvX (blkE X scope s H Ca cl fp f) W' elt G' (S1 ++ L) (fun r' S' => S' = S1 ++ L ∧ ∃ y, gg r = some y ∧ r' = .d y) (fun Cx S' => S' = S1 ++ L ∧ Cx = C0 ∧ gg r = none))
    (hz : rs.length ≤ 1000000) (q : ∀ ys : List PyData, rs.map gg = ys.map some → P.nx (G.set i (some (.d (.list ys)))) S1) (qx : ∀ r ∈ rs, gg r = none → ∀ L, P.xc C0 G (S1 ++ L))
    (hst : X.stack = X.env :: X.outer := by rfl) (hfr : X.env.frame = some X.env.locals := by rfl) (hfree : ∀ y ∈ scope.names, y.2 ≠ .free := by decide)
    (hy : X.N[i]? = some n := by rfl) (hyl : X.env.scope.names.lookup n = some .local := by rfl)
    (hsw : swapsWith (.ListComp elt [⟨tg, iter, [], 0⟩] scope pos) (some (.Name n pos')) apos.line X.env = pure true := by exact sw_true rfl rfl rfl (by decide +kernel)) (hf : ∀ x, foldedSetIterable iter X.env x = pure x := by intro _; rfl) : WS X W (.Assign [.Name n pos'] (.ListComp elt [⟨tg, iter, [], 0⟩] scope pos) apos) G S P := fun M σ H D s m => by
  obtain ⟨g, hpg, hg⟩ := ht.ex
  obtain ⟨wi, hpi, hw⟩ := hi
  refine toS (ps_setLcEN (i := i) c.calm c.nd hst hfr tk hy hyl hsw hpi ok hfree hpg hf) ?_
  refine hw M σ H _ s fun M1 H1 Jt e1 t1 wk => ?_
  intro Da hD
  have eD : Ext M1 H1 (M1 ++ [Da]) (upd H1 Da (.lst [])) := Ext.own hD
  have lenM : ∀ {M' : List Addr} {H' : Hp} {acc : List PyData}, StoreOk X.K M' H' (S1 ++ [Own.lst (acc.map .d)]) → Ext (M1 ++ [Da]) (upd H1 Da (.lst [])) M' H' → M' = M1 ++ [Da] := fun {M' H' acc} s' e' => by
    obtain ⟨L, eL⟩ := e'.pre
    have h1 := s'.len
    rw [eL, List.length_append, List.length_append, List.length_append, t1.sto.len] at h1
    have h2 : L.length = 0 := by
      have : [Da].length = 1 := rfl
      have : [Own.lst (acc.map .d)].length = 1 := rfl
      omega
    rw [eL, List.eq_nil_of_length_eq_zero h2, List.append_nil]
  have hDn : (M1 ++ [Da])[S1.length]? = some Da := by rw [← t1.sto.len, List.getElem?_append_right (Nat.le_refl _), Nat.sub_self]; rfl
  refine ⟨fun j m' H' => (m' = rs.length - j ∧ j ≤ rs.length) ∧ ∃ acc : List PyData, Ext (M1 ++ [Da]) (upd H1 Da (.lst [])) (M1 ++ [Da]) H' ∧ Stt X.K (M1 ++ [Da]) H' (S1 ++ [.lst (acc.map .d)]) G σ ∧ (rs.take j).map gg = acc.map some,
    ⟨_, ⟨rfl, Nat.zero_le _⟩, [], Ext.refl, t1.mono eD (t1.sto.own (w := .lst ([] : List It)) hD ⟨[], upd_same, .nil⟩), rfl⟩, fun j m' H' hw' => ?_⟩
  obtain ⟨⟨rfl, hj'⟩, acc, e', t', hJ⟩ := hw'
  have hacc : acc.length ≤ j := by
    have := congrArg List.length hJ
    rw [List.length_map, List.length_map, List.length_take] at this
    omega
  have cS := hC [.lst (acc.map .d)]
  by_cases hlt : j < rs.length
  · refine .inr ⟨wk.go j _ H' _ hlt (eD.trans e') t'.sto cS, fun H2 => ∃ acc : List PyData, Ext (M1 ++ [Da]) (upd H1 Da (.lst [])) (M1 ++ [Da]) H2 ∧ Stt X.K (M1 ++ [Da]) H2 (S1 ++ [.lst (acc.map .d)]) G σ ∧ (rs.take (j + 1)).map gg = acc.map some, fun H2 q => ⟨rs.length - (j + 1), by omega, ⟨rfl, by omega⟩, q⟩, fun x H2 y => ?_⟩
    have hri : rs[j]? = some rs[j] := List.getElem?_eq_getElem hlt
    have hmem : rs[j] ∈ rs := List.getElem_mem hlt
    obtain ⟨ey, sy, vy⟩ := wk.yl j _ H' _ x H2 _ hri (eD.trans e') t'.sto cS y
    have ty : Stt X.K (M1 ++ [Da]) H2 (S1 ++ [.lst (acc.map .d)]) G σ := t'.mono ey sy
    have e2 := e'.trans ey
    obtain ⟨G', hb, hE⟩ := hs _ hmem
    refine hg (M1 ++ [Da]) H2 (S1 ++ [.lst (acc.map .d)]) (wipeG G (own.map (·.2))) G' (wipe σ (own.map (·.2))) x rs[j] _ (ty.wipe _) vy hb ?_
    intro σ2 t2 w2
    refine ⟨w2.trans (wipe_wipe _ _ _ fun _ h => h), fun s0 H0 Ca cl fp f htk hpo => ?_⟩
    refine hE [.lst (acc.map .d)] s0 H0 Ca cl fp f (fun cls d _ H' => W cls d σ H') ⟨c.calm, c.nd, takes_none5, hpo, c.hr⟩ htk (M1 ++ [Da]) σ2 H2 _ t2 (fun v4 M4 H4 r S' e4 t4 r4 hr => ?_) (fun M4 H4 Cx S' e4 t4 hx => ?_)
    · obtain ⟨rfl, z, hz2, rfl⟩ := hr
      obtain rfl : M4 = M1 ++ [Da] := lenM t4.sto (e2.trans e4)
      have hSn : (S1 ++ [Own.lst (acc.map .d)])[S1.length]? = some (.lst (acc.map .d)) := by rw [List.getElem?_append_right (Nat.le_refl _), Nat.sub_self]; rfl
      obtain ⟨vs4, hv4, hr4⟩ := t4.sto.rep _ _ _ hDn hSn
      have hl4 : vs4.length = acc.length := by rw [hr4.len, List.length_map]
      have e5 : Ext (M1 ++ [Da]) H4 (M1 ++ [Da]) (upd H4 Da (.lst (vs4 ++ [v4]))) := Ext.put (List.mem_of_getElem? hDn)
      have s5 := t4.sto.put (w := .lst ((acc ++ [z]).map .d)) hDn ⟨vs4 ++ [v4], upd_same, by
        rw [List.map_append]
        exact VReps.append (VReps.ext e5 hr4) (.cons (r4.ext e5) .nil)⟩
      have hset : (S1 ++ [Own.lst (acc.map It.d)]).set S1.length (.lst ((acc ++ [z]).map .d)) = S1 ++ [.lst ((acc ++ [z]).map .d)] := by
        rw [List.set_append_right _ _ (Nat.le_refl _), Nat.sub_self]
        rfl
      rw [hset] at s5
      refine ⟨vs4, hv4, ?_, acc ++ [z], (e2.trans e4).trans e5, ty.mono (e4.trans e5) s5, ?_⟩
      · rw [sizeLine_eq]
        omega
      · rw [List.take_add_one, hri, List.map_append, hJ, List.map_append]
        show _ ++ [gg rs[j]] = _
        rw [hz2]; rfl
    · obtain ⟨rfl, rfl, hn⟩ := hx
      exact m.xc M4 σ H4 G Cx _ (((e1.trans eD).trans e2).trans e4) (ty.mono e4 t4.sto) (qx _ hmem hn _)
  · have ej : j = rs.length := by omega
    subst ej
    refine .inl ⟨wk.st _ _ H' _ (Nat.le_refl _) (eD.trans e') t'.sto cS, ?_⟩
    rw [List.take_length] at hJ
    have hSn : (S1 ++ [Own.lst (acc.map .d)])[S1.length]? = some (.lst (acc.map .d)) := by rw [List.getElem?_append_right (Nat.le_refl _), Nat.sub_self]; rfl
    obtain ⟨vs4, hv4, hr4⟩ := t'.sto.rep _ _ _ hDn hSn
    have eT : (M1 ++ [Da]).take S1.length = M1 := by rw [← t1.sto.len]; exact List.take_left ..
    have s6 := t'.sto.take t1.sto.closed
    rw [eT] at s6
    have e6 : Ext M1 H1 M1 H' := by
      have := (eD.trans e').take (n := M1.length) (Nat.le_refl _)
      rwa [List.take_left] at this
    have t6 : Stt X.K M1 H' S1 G σ := t1.mono e6 s6
    have r6 : VRep X.K M1 H' (.ref Da) (.d (.list acc)) := Fz.lst ⟨.inl hv4, t1.sto.nin hD⟩ (FzAll.less (fun _ h => List.mem_append_left _ h) (fz_all (dsOf_map acc) hr4))
    exact m.nx M1 _ H' _ S1 (e1.trans e6) (t6.set r6) (q acc hJ)
end
end Cu
namespace Pf
open PySem PySem.Spec PyProof.Rows L2 He Cu
/-! ### whole numbers as words -/
theorem tl_negS (m : Nat) : TL.tl (numS (Int.negSucc m)) = 45 :: TL.numL (m + 1) := by
  have e : (toString (Int.negSucc m) : String) = "-" ++ Nat.repr (m + 1) := rfl
  unfold numS
  rw [e]
  show (Str.ofString ("-" ++ Nat.repr (m + 1))).cps.toList = _
  rw [signs_ofString, String.toList_append, List.map_append]
  show 45 :: (Nat.repr (m + 1)).toList.map Char.toNat = 45 :: (Nat.toDigits 10 (m + 1)).map Char.toNat
  rw [Nat.toList_repr]
def smN (n : Int) : Prop := -(10 ^ 40) < n ∧ n < 10 ^ 40
theorem numN_int {n : Int} (h : smN n) : numN (numS n) = some n := by
  cases n with
  | ofNat m => exact numN_num (n := m) (by
    have h2 : (m : Int) < 10 ^ 40 := h.2
    exact_mod_cast h2)
  | negSucc m =>
    have hm : m + 1 < 10 ^ 40 := by
      unfold smN at h
      have := h.1
      rw [Int.negSucc_eq] at this
      have h2 : ((m : Int) + 1) < 10 ^ 40 := by omega
      exact_mod_cast h2
    have hl := TL.numL_len (by decide) hm
    have ef : TL.tl (figS (numS (Int.negSucc m))) = TL.numL (m + 1) := by
      rw [figS_tl, tl_negS]; exact if_pos rfl
    have hd : isDig (figS (numS (Int.negSucc m))) = true := List.all_eq_true.mpr fun c hc => decide_eq_true (TL.numL_digits (m + 1) c (by rw [← ef]; exact hc))
    unfold numN
    rw [if_neg, if_neg]
    · rw [intText_neg (x := numS (Int.negSucc m)) (cs := TL.numL (m + 1)) (tl_negS m) (TL.numL_digits _) (TL.numL_ne _) (by rw [TL.len_tl, tl_negS, List.length_cons]; omega), TL.numL_val]
      congr 1
    · rintro ⟨h1, _⟩
      rw [ef, numL_first] at h1
      omega
    · rintro (h1 | h1 | h1)
      · rw [ef] at h1; exact TL.numL_ne _ h1
      · rw [TL.len_tl, ef] at h1; omega
      · rw [hd] at h1; cases h1
theorem numS_free (n : Int) {s : Nat} (h : s < 45) : s ∉ TL.tl (numS n) := by
  cases n with
  | ofNat m =>
    show s ∉ TL.tl (numS (m : Int))
    rw [tl_numS]; exact TL.numL_free (.inl (by omega))
  | negSucc m =>
    rw [tl_negS]
    intro hm
    rcases List.mem_cons.mp hm with e | hm
    · omega
    · exact TL.numL_free (.inl (by omega)) hm
theorem numS_lenI {n : Int} (h : smN n) : (numS n).length ≤ 41 := by
  cases n with
  | ofNat m =>
    have : m < 10 ^ 40 := by
      have h2 : (m : Int) < 10 ^ 40 := h.2
      exact_mod_cast h2
    show (numS (m : Int)).length ≤ 41
    rw [TL.len_tl, tl_numS]
    have := TL.numL_len (by decide) this
    omega
  | negSucc m =>
    have hm : m + 1 < 10 ^ 40 := by
      unfold smN at h
      have := h.1
      rw [Int.negSucc_eq] at this
      have h2 : ((m : Int) + 1) < 10 ^ 40 := by omega
      exact_mod_cast h2
    have hl := TL.numL_len (by decide) hm
    rw [TL.len_tl, tl_negS, List.length_cons]
    omega
theorem val_snoc (ds : List Nat) (c : Nat) : NumText.digitsVal (ds ++ [c]) = NumText.digitsVal ds * 10 + (c - 48) := by
  unfold NumText.digitsVal
  rw [List.foldl_append] <;> rfl
theorem snoc_of {ds : List Nat} (h : ds ≠ []) : ∃ i c, ds = i ++ [c] := ⟨ds.dropLast, ds.getLast h, (List.dropLast_concat_getLast h).symm⟩
theorem val_lt : ∀ (k : Nat) {ds : List Nat}, ds.length = k → NumText.AllDigits ds → NumText.digitsVal ds < 10 ^ k
  | 0, ds, h, _ => by
    rw [List.eq_nil_of_length_eq_zero h]; decide
  | k + 1, ds, h, hd => by
    obtain ⟨i, c, rfl⟩ := snoc_of (ds := ds) (fun z => by rw [z] at h; cases h)
    rw [List.length_append] at h
    have h1 := val_lt k (ds := i) (Nat.succ.inj h) fun x hx => hd x (List.mem_append_left _ hx)
    have h2 := hd c (List.mem_append_right _ List.mem_cons_self)
    rw [val_snoc, Nat.pow_succ]
    omega
theorem numL_inv : ∀ (k : Nat) {ds : List Nat}, ds.length = k → NumText.AllDigits ds → ds ≠ [] → (ds.head? ≠ some 48 ∨ ds = [48]) → TL.numL (NumText.digitsVal ds) = ds
  | 0, ds, h, _, hn, _ => (hn (List.eq_nil_of_length_eq_zero h)).elim
  | k + 1, ds, h, hd, hn, hh => by
    obtain ⟨i, c, rfl⟩ := snoc_of hn
    rw [List.length_append] at h
    have h2 := hd c (List.mem_append_right _ List.mem_cons_self)
    by_cases hi : i = []
    · subst hi
      rw [val_snoc, show NumText.digitsVal [] = 0 from rfl, TL.numL_lt (by omega)]
      show [48 + (0 * 10 + (c - 48))] = [c]
      rw [show 48 + (0 * 10 + (c - 48)) = c by omega]
    · have hh' : i.head? ≠ some 48 := by
        rcases hh with hh | hh
        · cases i with
          | nil => exact (hi rfl).elim
          | cons a r => exact hh
        · exfalso
          have := congrArg List.length hh
          rw [List.length_append] at this
          have : i.length = 0 := Nat.succ.inj this
          exact hi (List.eq_nil_of_length_eq_zero this)
      have ih := numL_inv k (ds := i) (Nat.succ.inj h) (fun x hx => hd x (List.mem_append_left _ hx)) hi (.inl hh')
      have h0 : NumText.digitsVal i ≠ 0 := fun z => by
        rw [z, TL.numL_lt (by decide)] at ih
        rw [← ih] at hh'
        exact hh' rfl
      rw [val_snoc, TL.numL_step (by omega), show (NumText.digitsVal i * 10 + (c - 48)) / 10 = NumText.digitsVal i by omega, show (NumText.digitsVal i * 10 + (c - 48)) % 10 = c - 48 by omega, ih, show 48 + (c - 48) = c by omega]
/-- a word that writes a number is how the number is written -/
theorem numN_inv {w : Str} {n : Int} (h : numN w = some n) : numS n = w ∧ smN n := by
  unfold numN at h
  by_cases h1 : TL.tl (figS w) = [] ∨ 40 < (figS w).length ∨ isDig (figS w) = false
  · rw [if_pos h1] at h; cases h
  rw [if_neg h1] at h
  by_cases h2 : (TL.tl (figS w))[0]? = some 48 ∧ w ≠ Str.ofString "0"
  · rw [if_pos h2] at h; cases h
  rw [if_neg h2] at h
  have hne : TL.tl (figS w) ≠ [] := fun z => h1 (.inl z)
  have hl : (figS w).length ≤ 40 := Nat.le_of_not_lt fun z => h1 (.inr (.inl z))
  have hdg : isDig (figS w) = true := by
    cases e : isDig (figS w) with
    | true => rfl
    | false => exact (h1 (.inr (.inr e))).elim
  have hd := isDig_all hdg
  have ef := figS_tl w
  rw [TL.len_tl] at hl
  have pw : (10 : Nat) ^ 40 = 10000000000000000000000000000000000000000 := by decide
  have bnd : NumText.digitsVal (TL.tl (figS w)) < 10 ^ 40 := Nat.lt_of_lt_of_le (val_lt _ rfl hd) (Nat.pow_le_pow_right (by decide) hl)
  cases e : TL.tl w with
  | nil => rw [e] at ef; exact (hne ef).elim
  | cons c r =>
    rw [e] at ef
    by_cases hc : c = 45
    · subst hc
      have ef : TL.tl (figS w) = r := by rw [ef]; exact if_pos rfl
      have hw0 : w ≠ Str.ofString "0" := fun z => by
        rw [z, show TL.tl (Str.ofString "0") = [48] by decide] at e
        cases e
      rw [ef] at hne hd bnd hl h2
      have hh : r.head? ≠ some 48 := fun z => h2 ⟨by rw [← List.head?_eq_getElem?]; exact z, hw0⟩
      have hv := numL_inv r.length rfl hd hne (.inl hh)
      have h0 : NumText.digitsVal r ≠ 0 := fun z => by
        rw [z, TL.numL_lt (by decide)] at hv
        rw [← hv] at hh
        exact hh rfl
      have hlw : w.length ≤ 41 := by rw [TL.len_tl, e, List.length_cons]; omega
      rw [intText_neg (x := w) (cs := r) e hd hne (by omega)] at h
      have hn := Option.some.inj h
      obtain ⟨m, hm⟩ : ∃ m, NumText.digitsVal r = m + 1 := ⟨NumText.digitsVal r - 1, by omega⟩
      have hn2 : n = Int.negSucc m := by rw [← hn, hm] <;> rfl
      refine ⟨TL.ext_tl ?_, ?_⟩
      · rw [hn2, tl_negS, ← hm, hv, e]
      · unfold smN
        rw [← hn]
        omega
    · have ef : TL.tl (figS w) = TL.tl w := by rw [ef, e]; exact if_neg hc
      rw [ef] at hne hd bnd hl h2
      have hlw : w.length ≤ 41 := by rw [TL.len_tl]; omega
      have hh : (TL.tl w).head? ≠ some 48 ∨ TL.tl w = [48] := by
        by_cases z : w = Str.ofString "0"
        · exact .inr (by rw [z]; decide)
        · exact .inl fun y => h2 ⟨by rw [← List.head?_eq_getElem?]; exact y, z⟩
      have hv := numL_inv (TL.tl w).length rfl hd hne hh
      rw [show intText? w = some ((NumText.digitsVal (TL.tl w) : Nat) : Int) from intText_digits hd hne (by omega)] at h
      have hn := Option.some.inj h
      refine ⟨TL.ext_tl ?_, ?_⟩
      · rw [← hn, tl_numS, hv]
      · unfold smN
        rw [← hn]
        omega
theorem numsN_inv {ws : List Str} {ns : List Int} (h : numsN ws = some ns) : ns.map numS = ws ∧ ∀ n ∈ ns, smN n := by
  unfold numsN at h
  by_cases h1 : (ws.all fun w => (numN w).isSome) = true
  · rw [if_pos h1] at h
    have h := Option.some.inj h
    have key : ∀ w ∈ ws, numS ((numN w).getD 0) = w ∧ smN ((numN w).getD 0) := fun w hw => by
      have := List.all_eq_true.mp h1 w hw
      cases e : numN w with
      | none => rw [e] at this; cases this
      | some n => exact numN_inv e
    subst h
    refine ⟨?_, fun n hn => ?_⟩
    · rw [List.map_map]
      conv => rhs; rw [← List.map_id ws]
      exact List.map_congr_left fun w hw => (key w hw).1
    · obtain ⟨w, hw, rfl⟩ := List.mem_map.mp hn
      exact (key w hw).2
  · rw [if_neg h1] at h; cases h
/-! ### a text cut at blanks, put together again -/
theorem spl_ne : ∀ (L acc : List Nat), TL.spl [32] 0 acc L ≠ []
  | [], acc => by rw [TL.spl_nil]; simp
  | c :: r, acc => by
    by_cases h : TL.pre [32] (c :: r) = true
    · rw [TL.spl_hit h]; simp
    · rw [TL.spl_miss (by simpa using h)]; exact spl_ne r _
theorem join_spl : ∀ (L acc : List Nat), TL.joinL [32] (TL.spl [32] 0 acc L) = acc ++ L
  | [], acc => by rw [TL.spl_nil]; simp [TL.joinL]
  | c :: r, acc => by
    by_cases h : TL.pre [32] (c :: r) = true
    · have e : (c :: r).take 1 = [32] := eq_of_beq h
      have hc : c = 32 := (List.cons.inj e).1
      subst hc
      rw [TL.spl_hit h]
      have ih := join_spl r []
      cases e2 : TL.spl [32] 0 [] r with
      | nil => exact (spl_ne r [] e2).elim
      | cons p q =>
        rw [e2] at ih
        first
          | (show acc ++ ([32] ++ TL.joinL [32] (p :: q)) = _
             rw [ih] <;> rfl)
          | (rw [show TL.spl [32] (([32] : List Nat).length - 1) [] r = p :: q from e2]
             show acc ++ ([32] ++ TL.joinL [32] (p :: q)) = _
             rw [ih] <;> rfl)
    · rw [TL.spl_miss (by simpa using h), join_spl r]
      simp
theorem split_tl (x : Str) : (Txt.split x (Str.ofString " ")).map TL.tl = TL.spl [32] 0 [] (TL.tl x) := by
  have e : TL.tl (Str.ofString " ") = [32] := by decide
  rw [TL.split_spl x _ (by rw [e]; simp) (TL.kind_ok (by decide +kernel)), e]
theorem join_split (x : Str) : Txt.join (Str.ofString " ") (Txt.split x (Str.ofString " ")) = x := by
  refine TL.ext_tl ?_
  rw [TL.join_eq, TL.tl_join, split_tl, show TL.tl (Str.ofString " ") = [32] by decide, join_spl] <;> rfl
theorem split_ne (x : Str) : ∃ w ws, Txt.split x (Str.ofString " ") = w :: ws := by
  cases e : Txt.split x (Str.ofString " ") with
  | nil =>
    have := split_tl x
    rw [e] at this
    exact (spl_ne _ _ this.symm).elim
  | cons w ws => exact ⟨w, ws, rfl⟩
theorem spl_bounds : ∀ (L acc : List Nat), (TL.spl [32] 0 acc L).length ≤ L.length + 1 ∧ ∀ p ∈ TL.spl [32] 0 acc L, p.length ≤ acc.length + L.length
  | [], acc => by
    rw [TL.spl_nil]
    exact ⟨Nat.le_refl _, fun p hp => by rw [List.mem_singleton.mp hp]; exact Nat.le_refl _⟩
  | c :: r, acc => by
    by_cases h : TL.pre [32] (c :: r) = true
    · rw [TL.spl_hit h]
      obtain ⟨i1, i2⟩ := spl_bounds r []
      refine ⟨by show (TL.spl [32] 0 [] r).length + 1 ≤ r.length + 1 + 1; omega, fun p hp => ?_⟩
      rcases List.mem_cons.mp hp with rfl | hp
      · exact Nat.le_add_right _ _
      · have := i2 p hp
        rw [List.length_cons]
        have e0 : ([] : List Nat).length = 0 := rfl
        omega
    · rw [TL.spl_miss (by simpa using h)]
      obtain ⟨i1, i2⟩ := spl_bounds r (acc ++ [c])
      refine ⟨Nat.le_succ_of_le i1, fun p hp => ?_⟩
      have := i2 p hp
      rw [List.length_append] at this
      rw [List.length_cons]
      have e0 : [c].length = 1 := rfl
      omega
theorem split_few (x : Str) : (Txt.split x (Str.ofString " ")).length ≤ x.length + 1 := by
  have := (spl_bounds (TL.tl x) []).1
  rw [← split_tl, List.length_map, ← TL.len_tl] at this
  exact this
theorem split_short (x : Str) : ∀ w ∈ Txt.split x (Str.ofString " "), w.length ≤ x.length := fun w hw => by
  have := (spl_bounds (TL.tl x) []).2 (TL.tl w) (by rw [← split_tl]; exact List.mem_map_of_mem hw)
  rw [← TL.len_tl, ← TL.len_tl] at this
  have e0 : ([] : List Nat).length = 0 := rfl
  omega
/-! ### a text cut at line ends, put together again -/
theorem spl_neN : ∀ (L acc : List Nat), TL.spl [10] 0 acc L ≠ []
  | [], acc => by rw [TL.spl_nil]; simp
  | c :: r, acc => by
    by_cases h : TL.pre [10] (c :: r) = true
    · rw [TL.spl_hit h]; simp
    · rw [TL.spl_miss (by simpa using h)]; exact spl_neN r _
theorem join_splN : ∀ (L acc : List Nat), TL.joinL [10] (TL.spl [10] 0 acc L) = acc ++ L
  | [], acc => by rw [TL.spl_nil]; simp [TL.joinL]
  | c :: r, acc => by
    by_cases h : TL.pre [10] (c :: r) = true
    · have e : (c :: r).take 1 = [10] := eq_of_beq h
      have hc : c = 10 := (List.cons.inj e).1
      subst hc
      rw [TL.spl_hit h]
      have ih := join_splN r []
      cases e2 : TL.spl [10] 0 [] r with
      | nil => exact (spl_neN r [] e2).elim
      | cons p q =>
        rw [e2] at ih
        first
          | (show acc ++ ([10] ++ TL.joinL [10] (p :: q)) = _
             rw [ih] <;> rfl)
          | (rw [show TL.spl [10] (([10] : List Nat).length - 1) [] r = p :: q from e2]
             show acc ++ ([10] ++ TL.joinL [10] (p :: q)) = _
             rw [ih] <;> rfl)
    · rw [TL.spl_miss (by simpa using h), join_splN r]
      simp
theorem split_tlN (x : Str) : (Txt.split x (Str.ofString "\n")).map TL.tl = TL.spl [10] 0 [] (TL.tl x) := by
  have e : TL.tl (Str.ofString "\n") = [10] := by decide
  rw [TL.split_spl x _ (by rw [e]; simp) (TL.kind_ok (by decide +kernel)), e]
theorem join_splitN (x : Str) : Txt.join (Str.ofString "\n") (Txt.split x (Str.ofString "\n")) = x := by
  refine TL.ext_tl ?_
  rw [TL.join_eq, TL.tl_join, split_tlN, show TL.tl (Str.ofString "\n") = [10] by decide, join_splN] <;> rfl
theorem split_neN (x : Str) : ∃ w ws, Txt.split x (Str.ofString "\n") = w :: ws := by
  cases e : Txt.split x (Str.ofString "\n") with
  | nil =>
    have := split_tlN x
    rw [e] at this
    exact (spl_neN _ _ this.symm).elim
  | cons w ws => exact ⟨w, ws, rfl⟩
theorem spl_boundsN : ∀ (L acc : List Nat), (TL.spl [10] 0 acc L).length ≤ L.length + 1 ∧ ∀ p ∈ TL.spl [10] 0 acc L, p.length ≤ acc.length + L.length
  | [], acc => by
    rw [TL.spl_nil]
    exact ⟨Nat.le_refl _, fun p hp => by rw [List.mem_singleton.mp hp]; exact Nat.le_refl _⟩
  | c :: r, acc => by
    by_cases h : TL.pre [10] (c :: r) = true
    · rw [TL.spl_hit h]
      obtain ⟨i1, i2⟩ := spl_boundsN r []
      refine ⟨by show (TL.spl [10] 0 [] r).length + 1 ≤ r.length + 1 + 1; omega, fun p hp => ?_⟩
      rcases List.mem_cons.mp hp with rfl | hp
      · exact Nat.le_add_right _ _
      · have := i2 p hp
        rw [List.length_cons]
        have e0 : ([] : List Nat).length = 0 := rfl
        omega
    · rw [TL.spl_miss (by simpa using h)]
      obtain ⟨i1, i2⟩ := spl_boundsN r (acc ++ [c])
      refine ⟨Nat.le_succ_of_le i1, fun p hp => ?_⟩
      have := i2 p hp
      rw [List.length_append] at this
      rw [List.length_cons]
      have e0 : [c].length = 1 := rfl
      omega
theorem split_fewN (x : Str) : (Txt.split x (Str.ofString "\n")).length ≤ x.length + 1 := by
  have := (spl_boundsN (TL.tl x) []).1
  rw [← split_tlN, List.length_map, ← TL.len_tl] at this
  exact this
theorem split_shortN (x : Str) : ∀ w ∈ Txt.split x (Str.ofString "\n"), w.length ≤ x.length := fun w hw => by
  have := (spl_boundsN (TL.tl x) []).2 (TL.tl w) (by rw [← split_tlN]; exact List.mem_map_of_mem hw)
  rw [← TL.len_tl, ← TL.len_tl] at this
  have e0 : ([] : List Nat).length = 0 := rfl
  omega
theorem eqv_nil (ds : List PyData) : PyData.eqv (.list ds) (.list []) = ds.isEmpty := by
  cases ds with
  | nil => simp only [PyData.eqv, PyData.eqvAll] <;> rfl
  | cons x xs => simp only [PyData.eqv, PyData.eqvAll] <;> rfl
/-- all signs are signs -/
def okS (x : Str) : Prop := ∀ c ∈ TL.tl x, c < 1114112
theorem okS_ok {x : Str} (h : okS x) : PyData.strOk x = true := by
  unfold PyData.strOk
  rw [← Array.all_toList, List.all_eq_true]
  exact fun c hc => decide_eq_true (h c hc)
theorem lay_str {x : Str} (h : okS x) : PyData.canLay0 (.str x) = true ∧ (PyData.str x).depth ≤ 50 := ⟨by simp only [PyData.canLay0]; exact okS_ok h, by simp only [PyData.depth]; exact Nat.zero_le _⟩
theorem shaped_strs {l : List Str} (h : ∀ x ∈ l, okS x) : SeqAt.shaped (.list (l.map .str)) = true := shaped_list fun d hd => by
  obtain ⟨x, hx, rfl⟩ := List.mem_map.mp hd
  exact lay_str (h x hx)
theorem spl_mem : ∀ (L acc : List Nat), ∀ p ∈ TL.spl [32] 0 acc L, ∀ c ∈ p, c ∈ acc ∨ c ∈ L
  | [], acc => by
    rw [TL.spl_nil]
    exact fun p hp c hc => by rw [List.mem_singleton.mp hp] at hc; exact .inl hc
  | a :: r, acc => by
    intro p hp c hc
    by_cases h : TL.pre [32] (a :: r) = true
    · rw [TL.spl_hit h] at hp
      rcases List.mem_cons.mp hp with rfl | hp
      · exact .inl hc
      · rcases spl_mem r [] p hp c hc with z | z
        · cases z
        · exact .inr (List.mem_cons_of_mem _ z)
    · rw [TL.spl_miss (by simpa using h)] at hp
      rcases spl_mem r _ p hp c hc with z | z
      · rcases List.mem_append.mp z with z | z
        · exact .inl z
        · rw [List.mem_singleton.mp z]; exact .inr List.mem_cons_self
      · exact .inr (List.mem_cons_of_mem _ z)
theorem split_okS {x : Str} (h : okS x) : ∀ w ∈ Txt.split x (Str.ofString " "), okS w := fun w hw c hc => by
  rcases spl_mem (TL.tl x) [] (TL.tl w) (by rw [← split_tl]; exact List.mem_map_of_mem hw) c hc with z | z
  · cases z
  · exact h c z
theorem spl_memN : ∀ (L acc : List Nat), ∀ p ∈ TL.spl [10] 0 acc L, ∀ c ∈ p, c ∈ acc ∨ c ∈ L
  | [], acc => by
    rw [TL.spl_nil]
    exact fun p hp c hc => by rw [List.mem_singleton.mp hp] at hc; exact .inl hc
  | a :: r, acc => by
    intro p hp c hc
    by_cases h : TL.pre [10] (a :: r) = true
    · rw [TL.spl_hit h] at hp
      rcases List.mem_cons.mp hp with rfl | hp
      · exact .inl hc
      · rcases spl_memN r [] p hp c hc with z | z
        · cases z
        · exact .inr (List.mem_cons_of_mem _ z)
    · rw [TL.spl_miss (by simpa using h)] at hp
      rcases spl_memN r _ p hp c hc with z | z
      · rcases List.mem_append.mp z with z | z
        · exact .inl z
        · rw [List.mem_singleton.mp z]; exact .inr List.mem_cons_self
      · exact .inr (List.mem_cons_of_mem _ z)
theorem split_okSN {x : Str} (h : okS x) : ∀ w ∈ Txt.split x (Str.ofString "\n"), okS w := fun w hw c hc => by
  rcases spl_memN (TL.tl x) [] (TL.tl w) (by rw [← split_tlN]; exact List.mem_map_of_mem hw) c hc with z | z
  · cases z
  · exact h c z
theorem figS_okS {x : Str} (h : okS x) : okS (figS x) := fun c hc => by
  rw [figS_tl] at hc
  cases e : TL.tl x with
  | nil => rw [e] at hc; cases hc
  | cons a r =>
    rw [e] at hc
    have hc : c ∈ if a = 45 then r else a :: r := hc
    refine h c ?_
    rw [e]
    split at hc
    · exact List.mem_cons_of_mem _ hc
    · exact hc
def strB (g : Str → Bool) : Cu.It → Bool
  | .d (.str x) => g x
  | _ => false
def idG : Cu.It → PyData
  | .d x => x
  | _ => .none
theorem strs_fil (g : Str → Bool) (ws : List Str) : (((ws.map PyData.str).map Cu.It.d).filter (strB g)).map idG = (ws.filter g).map .str := by
  induction ws with
  | nil => rfl
  | cons w ws ih =>
    rw [List.map_cons, List.map_cons, List.filter_cons, List.filter_cons]
    show (if g w = true then _ else _ : List Cu.It).map idG = _
    by_cases h : g w = true
    · rw [if_pos h, if_pos h, List.map_cons, ih] <;> rfl
    · rw [if_neg h, if_neg h, ih]
def signS (c : Nat) : Str := ⟨#[c]⟩
theorem signs_eq (x : Str) : Cu.signs x = ((TL.tl x).map signS).map PyData.str := by
  unfold Cu.signs
  rw [List.map_map] <;> rfl
theorem notDig (c : Nat) : (!decide (c ∈ (Str.ofString "0123456789").cps.toList)) = !decide (48 ≤ c ∧ c ≤ 57) := by
  have := fig_has c
  rw [← Array.contains_toList] at this
  rw [← this]
  congr 1
  rw [show (Str.ofString "0123456789").cps.toList = figC.cps.toList from rfl]
  rw [Bool.eq_iff_iff, decide_eq_true_eq, List.contains_iff_mem]
theorem numN_text {w : Str} {n : Int} (h : numN w = some n) : intText? w = some n := by
  unfold numN at h
  split at h
  · cases h
  · split at h
    · cases h
    · exact h
theorem head_dash (x : Str) : decide (cutS x none (some 1) = Str.ofString "-") = Txt.startswith x (Str.ofString "-") := by
  have e : TL.tl (cutS x none (some 1)) = (TL.tl x).take 1 := by
    unfold cutS
    show ((((TL.tl x).drop (HT.sIx x.length 0 none)).take (HT.sIx x.length x.length (some 1) - HT.sIx x.length 0 none)).toArray).toList = _
    rw [List.toList_toArray]
    have e1 : HT.sIx x.length 0 none = 0 := rfl
    have e2 : HT.sIx x.length x.length (some 1) = min 1 x.length := by
      unfold HT.sIx
      simp
      try omega
    rw [e1, e2, List.drop_zero, TL.len_tl]
    cases TL.tl x with
    | nil => rfl
    | cons c r =>
      rw [show min 1 (c :: r).length = 1 by rw [List.length_cons]; omega]
  rw [starts_dash]
  have ed : TL.tl (Str.ofString "-") = [45] := by decide
  cases h : TL.tl x with
  | nil =>
    rw [h] at e
    refine decide_eq_false fun z => ?_
    rw [z, ed] at e
    cases e
  | cons c r =>
    rw [h] at e
    show _ = decide (c = 45)
    refine decide_eq_decide.mpr ⟨fun z => ?_, fun z => TL.ext_tl ?_⟩
    · rw [z, ed] at e
      exact (List.cons.inj e).1.symm
    · rw [e, ed, z] <;> rfl
def F_isNum : Fn := fun rs S QR _ => ∃ x : Str, rs = [.d (.str x)] ∧ x.length ≤ 100000 ∧ okS x ∧ QR (.d (.bool (numN x).isSome)) S
theorem numsN_none {ws : List Str} : (ws.filter fun w => !(numN w).isSome).isEmpty = (numsN ws).isSome := by
  unfold numsN
  by_cases h : (ws.all fun w => (numN w).isSome) = true
  · rw [if_pos h]
    show _ = true
    rw [List.isEmpty_iff, List.filter_eq_nil_iff]
    intro w hw
    rw [List.all_eq_true.mp h w hw]; decide
  · rw [if_neg h]
    show _ = false
    rw [Bool.eq_false_iff]
    intro z
    rw [List.isEmpty_iff, List.filter_eq_nil_iff] at z
    refine h (List.all_eq_true.mpr fun w hw => ?_)
    have := z w hw
    cases e : (numN w).isSome with
    | true => rfl
    | false => rw [e] at this; exact absurd rfl this
theorem numsN_each {ws : List Str} {ns : List Int} (h : numsN ws = some ns) : (∀ w ∈ ws, ∃ n, numN w = some n ∧ w.length ≤ 41) ∧ ns = ws.map fun w => (numN w).getD 0 := by
  have inv := numsN_inv h
  unfold numsN at h
  by_cases h1 : (ws.all fun w => (numN w).isSome) = true
  · rw [if_pos h1] at h
    refine ⟨fun w hw => ?_, (Option.some.inj h).symm⟩
    have := List.all_eq_true.mp h1 w hw
    cases e : numN w with
    | none => rw [e] at this; cases this
    | some n =>
      refine ⟨n, rfl, ?_⟩
      rw [← (numN_inv e).1]
      exact numS_lenI (numN_inv e).2
  · rw [if_neg h1] at h; cases h
theorem okS_cut {x : Str} (h : okS x) (a b : Option Int) : okS (cutS x a b) := fun c hc => h c (List.mem_of_mem_drop (List.mem_of_mem_take (show c ∈ ((TL.tl x).drop _).take _ from hc)))
theorem okS_app {x y : Str} (h : okS x) (k : okS y) : okS (x ++ y) := fun c hc => by
  rw [TL.tl_append] at hc
  rcases List.mem_append.mp hc with z | z
  · exact h c z
  · exact k c z
theorem okS_sign {a : Nat} (h : a < 1114112) : okS ⟨#[a]⟩ := fun c hc => by
  have hc : c ∈ [a] := hc
  rw [List.mem_singleton.mp hc]
  exact h
theorem len_app (x y : Str) : (x ++ y).length = x.length + y.length := by rw [TL.len_tl, TL.len_tl, TL.len_tl, TL.tl_append, List.length_append]
theorem okS_numS (n : Int) : okS (numS n) := fun c hc => by
  have dig : ∀ m : Nat, c ∈ TL.numL m → c < 1114112 := fun m hm => by
    have := TL.numL_digits m c hm
    omega
  cases n with
  | ofNat m =>
    have hc : c ∈ TL.tl (numS (m : Int)) := hc
    rw [tl_numS] at hc
    exact dig m hc
  | negSucc m =>
    rw [tl_negS] at hc
    rcases List.mem_cons.mp hc with e | hm
    · omega
    · exact dig _ hm
theorem okS_joinL : ∀ {ps : List (List Nat)}, (∀ p ∈ ps, ∀ c ∈ p, c < 1114112) → ∀ c ∈ TL.joinL [32] ps, c < 1114112
  | [], _, c, hc => by cases hc
  | [p], h, c, hc => h p List.mem_cons_self c hc
  | p :: q :: r, h, c, hc => by
    have hc : c ∈ p ++ ([32] ++ TL.joinL [32] (q :: r)) := hc
    rcases List.mem_append.mp hc with z | z
    · exact h p List.mem_cons_self c z
    · rcases List.mem_append.mp z with z | z
      · rw [List.mem_singleton.mp z]; decide
      · exact okS_joinL (fun p' hp => h p' (List.mem_cons_of_mem _ hp)) c z
theorem okS_join {ws : List Str} (h : ∀ w ∈ ws, okS w) : okS (Txt.join (Str.ofString " ") ws) := fun c hc => by
  rw [TL.join_eq, TL.tl_join, show TL.tl (Str.ofString " ") = [32] by decide] at hc
  exact okS_joinL (fun p hp c hc => by
    obtain ⟨w, hw, rfl⟩ := List.mem_map.mp hp
    exact h w hw c hc) c hc
theorem join_short {ws : List Str} (h : ∀ w ∈ ws, w.length ≤ 41) : (Txt.join (Str.ofString " ") ws).length ≤ ws.length * 42 := by
  have := joinL_len 32 (B := 41) (ps := ws.map TL.tl) (fun y hy => by
    obtain ⟨z, hz, rfl⟩ := List.mem_map.mp hy
    rw [← TL.len_tl]
    exact h z hz)
  rw [List.length_map] at this
  rw [TL.len_tl, TL.join_eq, TL.tl_join]
  exact this
end Pf
namespace Pf
open PySem PySem.Spec PyProof.Rows L2 He Cu
def wholeD : PyData → Bool
  | .int _ => true
  | _ => false
def nb : PyData → Bool
  | .int _ => true
  | .bool _ => true
  | _ => false
def F_is_whole : Fn := fun rs S QR _ => ∃ x, rs = [.d x] ∧ nb x = true ∧ QR (.d (.bool (wholeD x))) S
section
variable {P : Program} {w : World} {K : PySem.W.Frag} {mg : Str → Option Value} {base : Heap}
theorem fn_is_whole (T : TT K mg) {fd : FuncData} (Fd : FunD K "is_whole" "is_whole" (defArgs s_is_whole) (defBody s_is_whole) (defScope s_is_whole) [] [] (ga K "is_whole") fd) : FnOk P w K mg base (L2.CX P w) 1 (ga K "is_whole") fd ["thing"] (spF K 1 F_is_whole) := by
  refine fn_w Fd sc_is_whole fun cdv A outer s H E rs S QR QE c hc hl hF => ?_
  obtain ⟨x, rfl, hx, q⟩ := hF
  cases x with
  | int i => exact ss_cons (ws_ret (ev_and (c := true) (d := true) (ev_isD (T := "int") (kk := true) (z_isinstance T) (z_int T) (ev_name 0) rfl) fun _ => (ev_and1 (ev_not (ev_isD (T := "bool") (kk := false) (z_isinstance T) (z_bool T) (ev_name 0) rfl)))) (back_d q))
  | bool b => exact ss_cons (ws_ret (ev_and (c := true) (d := false) (ev_isD (T := "int") (kk := true) (z_isinstance T) (z_int T) (ev_name 0) rfl) fun _ => (ev_and1 (ev_not (ev_isD (T := "bool") (kk := true) (z_isinstance T) (z_bool T) (ev_name 0) rfl)))) (back_d q))
  | _ => cases hx
theorem ok_is_whole (T : TT K mg) : OkF P w K mg base 1 "is_whole" ["thing"] [] F_is_whole := okF_of (g_is_whole T) (d_is_whole T) (fun _ _ _ _ _ _ us hl => match us, hl with | [_], _ => rfl) fun fd Fd => fn_is_whole T Fd
end
end Pf
namespace Pf
open PySem PySem.Spec PyProof.Rows L2 He Cu
theorem bnot {b : Bool} (h : (!b) = true) : b = false := by cases b; rfl; cases h
theorem bnot2 {b : Bool} (h : (!b) = false) : b = true := by cases b; cases h; rfl
def inB (l m : Int) : PyData → Bool
  | .int i => decide (l ≤ i) && decide (i ≤ m)
  | _ => false
def M40 : Int := 9999999999999999999999999999999999999999
def keepOk (ds : List PyData) : Bool := match ds with
  | [x, y, w, h, z] => (inB 0 M40 x && (inB 0 M40 y && (inB 0 M40 z && true))) && (inB 1 M40 w && inB 1 M40 h)
  | _ => false
def F_within : Fn := fun rs S QR _ => ∃ x, ∃ l m : Int, rs = [.d x, .d (.int l), .d (.int m)] ∧ nb x = true ∧ QR (.d (.bool (inB l m x))) S
def F_isKeep : Fn := fun rs S QR _ => ∃ ds : List PyData, rs = [.d (.tuple ds)] ∧ ds.all nb = true ∧ ds.length ≤ 1000 ∧ QR (.d (.bool (keepOk ds))) S
def rulF (n : Nat) (g w r : PyData) : List (Str × Cu.It) := [("gap", .d g), ("width", .d w), ("rim", .d r), ("keeps", .o n)]
def rulesOk (g w r : PyData) (kds : List (List PyData)) : Bool := (inB 0 2 g && (inB 1 3 w && inB 0 1 r)) && (decide (kds.length ≤ 12) && kds.all keepOk)
def F_rules (K : PySem.W.Frag) : Fn := fun rs S QR QE => ∃ S0 g w r kr, ∃ kds : List (List PyData), rs = [.o S0.length, .d g, .d w, .d r, kr] ∧ S = S0 ++ [.ins (ga K "Rules") []] ∧ nb g = true ∧ nb w = true ∧ nb r = true ∧ (∀ o, lsOf (S0 ++ [o]) kr = some (kds.map .tuple)) ∧ kds.length ≤ 1000 ∧ (∀ ds ∈ kds, ds.all nb = true ∧ ds.length ≤ 1000) ∧
  (rulesOk g w r kds = true → QR (.d .none) (S0 ++ [.ins (ga K "Rules") (rulF (S0.length + 1) g w r)] ++ [.lst ((kds.map .tuple).map .d)])) ∧ (rulesOk g w r kds = false → QE (ga K "NoRules") S)
def tupF (g : List PyData → PyData) : Cu.It → PyData
  | .d (.tuple ds) => g ds
  | _ => .none
theorem tups_out (g : List PyData → PyData) (l : List (List PyData)) : (((l.map PyData.tuple).map Cu.It.d).filter fun _ => true).map (tupF g) = l.map g := by
  rw [List.filter_eq_self.mpr (fun _ _ => rfl), List.map_map, List.map_map] <;> rfl
section
variable {P : Program} {w : World} {K : PySem.W.Frag} {mg : Str → Option Value} {base : Heap}
theorem fn_within (T : TT K mg) {fd : FuncData} (Fd : FunD K "within" "within" (defArgs s_within) (defBody s_within) (defScope s_within) [] [] (ga K "within") fd) : FnOk P w K mg base (L2.CX P w) 2 (ga K "within") fd ["number", "least", "most"] (spF K 3 F_within) := by
  refine fn_w Fd sc_within fun cdv A outer s H E rs S QR QE c hc hl hF => ?_
  obtain ⟨x, l, m, rfl, hx, q⟩ := hF
  cases x with
  | int i => exact ss_cons (ws_ret (ev_and (c := true) (d := decide (l ≤ i) && decide (i ≤ m)) (ev_call c (ok_is_whole T) (eva_cons (ev_name 0) eva_nil) (fun QR QE q => ⟨.int i, rfl, rfl, q⟩)) fun _ => ev_and1 (ev_leLe (ev_name 1) (ev_name 0) fun _ => ev_name 2)) (back_d q))
  | bool b => exact ss_cons (ws_ret (ev_and (c := false) (d := false) (ev_call c (ok_is_whole T) (eva_cons (ev_name 0) eva_nil) (fun QR QE q => ⟨.bool b, rfl, rfl, q⟩)) fun z => nomatch z) (back_d q))
  | _ => cases hx
theorem ok_within (T : TT K mg) : OkF P w K mg base 2 "within" ["number", "least", "most"] [] F_within := okF_of (g_within T) (d_within T) (fun _ _ _ _ _ _ us hl => match us, hl with | [_, _, _], _ => rfl) fun fd Fd => fn_within T Fd
def boolG (g : PyData → Bool) : Cu.It → PyData
  | .d x => .bool (g x)
  | _ => .none
theorem fn_is_keep (T : TT K mg) {fd : FuncData} (Fd : FunD K "is_keep" "is_keep" (defArgs s_is_keep) (defBody s_is_keep) (defScope s_is_keep) [] [] (ga K "is_keep") fd) : FnOk P w K mg base (L2.CX P w) 3 (ga K "is_keep") fd ["keep"] (spF K 1 F_isKeep) := by
  refine fn_w Fd sc_is_keep fun cdv A outer s H E rs S QR QE c hc hl hF => ?_
  obtain ⟨ds, rfl, hn, hz, q⟩ := hF
  refine ss_cons (ws_if (evt_neI (ev_len (l := ds.length) (z_len T) (ev_name 0) rfl) ev_int) (fun h => ?_) (fun h => ss_nil ?_))
  · have h : ds.length ≠ 5 := by intro z; rw [z] at h; cases h
    have e : keepOk ds = false := by
      unfold keepOk
      match ds, h with
      | [], _ => rfl
      | [_], _ => rfl
      | [_, _], _ => rfl
      | [_, _, _], _ => rfl
      | [_, _, _, _], _ => rfl
      | [_, _, _, _, _], h => exact (h rfl).elim
      | _ :: _ :: _ :: _ :: _ :: _ :: _, _ => rfl
    rw [e] at q
    exact ss_cons (ws_ret ev_bool (back_d q))
  have h : ds.length = 5 := by
    have := of_decide_eq_true (p := (ds.length : Int) = 5) (by simpa using h)
    omega
  obtain ⟨x, y, wd, ht, z, rfl⟩ : ∃ x y wd ht z, ds = [x, y, wd, ht, z] := by
    match ds, h with
    | [x, y, wd, ht, z], _ => exact ⟨x, y, wd, ht, z, rfl⟩
  simp only [List.all_cons, List.all_nil, Bool.and_true, Bool.and_eq_true] at hn
  obtain ⟨nx, ny, nw, nh, nz⟩ := hn
  refine ss_cons (ws_asg (ev_name 0) (evg_tup c.calm (evgs_cons (evg_name 1 c.nd) (evgs_cons (evg_name 2 c.nd) (evgs_cons (evg_name 3 c.nd) (evgs_cons (evg_name 4 c.nd) (evgs_cons (evg_name 5 c.nd) evgs_nil)))))) ?_)
  refine ss_cons (ws_setLc 6 c (blkOk_by (by rfl)) (lc_pure (own := [("number", 7)]) c (evi_tup (ds := [x, y, z]) (ev_tup (eva_cons (ev_name 1) (eva_cons (ev_name 2) (eva_cons (ev_name 5) eva_nil))))) (tg_name 7 c.nd) (fun _ => true) (boolG (inB 0 M40)) (fun _ => trivial) (fun r hr => ?_) (Nat.le_of_ble_eq_true rfl)) ?_)
  · obtain ⟨d, hd, rfl⟩ := List.mem_map.mp hr
    have hd' : nb d = true := by
      simp only [List.mem_cons, List.not_mem_nil, or_false] at hd
      rcases hd with rfl | rfl | rfl
      · exact nx
      · exact ny
      · exact nz
    exact ⟨_, rfl, fun L s H C cl fp => rfl, fun _ L s H C cl fp => (ev_call (c.blk _ s H C cl fp) (ok_within T) (eva_cons (ev_name 7) (eva_cons ev_int (eva_cons (ev_gint (c_MOST_NUMBER T)) eva_nil))) (fun QR QE q => ⟨_, _, _, rfl, hd', q⟩))⟩
  exact ss_cons (ws_ret (ev_and (c := inB 0 M40 x && (inB 0 M40 y && (inB 0 M40 z && true))) (d := inB 1 M40 wd && inB 1 M40 ht) (ev_all c (bs := [inB 0 M40 x, inB 0 M40 y, inB 0 M40 z]) (z_all T) (ev_name 6) rfl) fun _ => ev_and (ev_call c (ok_within T) (eva_cons (ev_name 3) (eva_cons ev_int (eva_cons (ev_gint (c_MOST_NUMBER T)) eva_nil))) (fun QR QE q => ⟨_, _, _, rfl, nw, q⟩)) fun _ => ev_and1 (ev_call c (ok_within T) (eva_cons (ev_name 4) (eva_cons ev_int (eva_cons (ev_gint (c_MOST_NUMBER T)) eva_nil))) (fun QR QE q => ⟨_, _, _, rfl, nh, q⟩))) (back_d q))
theorem ok_is_keep (T : TT K mg) : OkF P w K mg base 3 "is_keep" ["keep"] [] F_isKeep := okF_of (g_is_keep T) (d_is_keep T) (fun _ _ _ _ _ _ us hl => match us, hl with | [_], _ => rfl) fun fd Fd => fn_is_keep T Fd
theorem fn_Rules___init__ (T : TT K mg) {fd : FuncData} (Fd : FunD K "__init__" "Rules.__init__" (defArgs s_Rules___init__) (defBody s_Rules___init__) (defScope s_Rules___init__) [] [] (ma K (ga K "Rules") "__init__") fd) : FnOk P w K mg base (L2.CX P w) 4 (ma K (ga K "Rules") "__init__") fd ["self", "gap", "width", "rim", "keeps"] (spF K 5 (F_rules K)) := by
  refine fn_w Fd sc_Rules___init__ fun cdv A outer s H E rs S QR QE c hc hl hF => ?_
  obtain ⟨S0, g, wd, r, kr, kds, rfl, rfl, ng, nw, nr, hk, hkl, hkd, q, qe⟩ := hF
  have hat : ∀ (u : Own) (L : Sto), (S0 ++ u :: L)[S0.length]? = some u := fun u L => by rw [List.getElem?_append_right (Nat.le_refl _), Nat.sub_self] <;> rfl
  have hset : ∀ (u v : Own) (L : Sto), (S0 ++ u :: L).set S0.length v = S0 ++ v :: L := fun u v L => by rw [List.set_append_right _ _ (Nat.le_refl _), Nat.sub_self] <;> rfl
  refine ss_cons (ws_if (k1 := !(inB 0 2 g && (inB 1 3 wd && inB 0 1 r))) (EvT.is (evt_w (evw_or (evt_not (evt_val (ev_call c (ok_within T) (eva_cons (ev_name 1) (eva_cons ev_int (eva_cons ev_int eva_nil))) (fun QR QE q => ⟨_, _, _, rfl, ng, q⟩)))) fun _ => evw_or (evt_not (evt_val (ev_call c (ok_within T) (eva_cons (ev_name 2) (eva_cons ev_int (eva_cons ev_int eva_nil))) (fun QR QE q => ⟨_, _, _, rfl, nw, q⟩)))) fun _ => evw_or1 (evt_not (evt_val (ev_call c (ok_within T) (eva_cons (ev_name 3) (eva_cons ev_int (eva_cons ev_int eva_nil))) (fun QR QE q => ⟨_, _, _, rfl, nr, q⟩)))))) (by rw [Bool.not_and, Bool.not_and])) (fun h => ?_) (fun h => ss_nil ?_))
  · refine ss_cons (ws_raise c (x_NoRules T) (backx_same (qe ?_)))
    unfold rulesOk
    rw [show (inB 0 2 g && (inB 1 3 wd && inB 0 1 r)) = false from bnot h] <;> rfl
  have h1 : (inB 0 2 g && (inB 1 3 wd && inB 0 1 r)) = true := bnot2 h
  refine ss_cons (ws_if (k1 := !(decide (kds.length ≤ 12) && kds.all keepOk)) (EvT.is (evt_w (evw_or (EvT.is (evt_gt (ev_lenA (z_len T) (ev_name 4) (hk _)) (ev_gint (c_MOST_KEEPS T))) (c' := !decide (kds.length ≤ 12)) (by
    rw [List.length_map, ← decide_not]; exact decide_eq_decide.mpr (by omega))) fun _ => evw_or1 (evt_not (evt_val (ev_all c (bs := kds.map keepOk) (z_all T) (Ev.is (r' := .d (.list ((kds.map keepOk).map .bool))) (ev_lc c (blkOk_by (by rfl)) (lc_pure (own := [("keep", 5)]) c (evi_ls (ev_name 4) (hk _)) (tg_name 5 c.nd) (fun _ => true) (tupF fun ds => .bool (keepOk ds)) (fun L => ls_app (hk _) L) (fun r hr => ?_) (by rw [List.length_map, List.length_map]; omega))) (by rw [tups_out, List.map_map] <;> rfl)) rfl))))) (by rw [List.all_map, Bool.not_and] <;> rfl)) (fun h => ?_) (fun h => ss_nil ?_))
  · obtain ⟨d, hd, rfl⟩ := List.mem_map.mp hr
    obtain ⟨v, hv, rfl⟩ := List.mem_map.mp hd
    exact ⟨_, rfl, fun L s H C cl fp => rfl, fun _ L s H C cl fp => (ev_call (c.blk _ s H C cl fp) (ok_is_keep T) (eva_cons (ev_name 5) eva_nil) (fun QR QE q => ⟨_, rfl, (hkd v hv).1, (hkd v hv).2, q⟩))⟩
  · refine ss_cons (ws_raise c (x_NoRules T) (backx_same (qe ?_)))
    unfold rulesOk
    rw [show (decide (kds.length ≤ 12) && kds.all keepOk) = false from bnot h, Bool.and_false]
  have h2 : (decide (kds.length ≤ 12) && kds.all keepOk) = true := bnot2 h
  have q := q (by unfold rulesOk; rw [h1, h2] <;> rfl)
  refine ss_cons (ws_fldN (cls_Rules T) (na_Rules_gap T) (ev_name 1) (ev_name 0) (hat _ _) rfl (Nat.le_of_ble_eq_true rfl) ?_)
  rw [hset]
  refine ss_cons (ws_fldN (cls_Rules T) (na_Rules_width T) (ev_name 2) (ev_name 0) (hat _ _) rfl (Nat.le_of_ble_eq_true rfl) ?_)
  rw [hset]
  refine ss_cons (ws_fldN (cls_Rules T) (na_Rules_rim T) (ev_name 3) (ev_name 0) (hat _ _) rfl (Nat.le_of_ble_eq_true rfl) ?_)
  rw [hset]
  refine ss_cons (ws_fldN (cls_Rules T) (na_Rules_keeps T) (ev_lcO c (blkOk_by (by rfl)) (lc_pureO (own := [("keep", 5)]) c (evi_ls (ev_name 4) (hk _)) (tg_name 5 c.nd) (fun _ => true) (tupF .tuple) (fun L => ls_app (hk _) L) (fun r hr => ?_) (by rw [List.length_map, List.length_map]; omega))) (ev_name 0) (by rw [List.append_assoc]; exact hat _ _) rfl (Nat.le_of_ble_eq_true rfl) (ss_nil (back_d ?_ ?_)))
  · obtain ⟨d, hd, rfl⟩ := List.mem_map.mp hr
    obtain ⟨v, hv, rfl⟩ := List.mem_map.mp hd
    exact ⟨_, rfl, fun L s H C cl fp => rfl, fun _ L s H C cl fp => (ev_tupleT (z_tuple T) (ev_name 5))⟩
  · rw [List.append_assoc]
    show QR _ ((S0 ++ Own.ins _ _ :: _).set S0.length _)
    rw [hset, tups_out, List.length_append]
    rw [List.append_assoc] at q
    exact q
  · simp
theorem ok_Rules___init__ (T : TT K mg) : OkC P w K mg base 4 (ga K "Rules") "Rules" ["self", "gap", "width", "rim", "keeps"] [] (F_rules K) := okC_of (g_Rules T) (mk_Rules T) (d_Rules___init__ T) (fun _ _ _ _ _ _ us hl => match us, hl with | [_, _, _, _, _], _ => rfl) fun fd Fd => fn_Rules___init__ T Fd
end
end Pf
namespace Pf
open PySem PySem.Spec PyProof.Rows L2 He Cu
def F_rulesN (K : PySem.W.Frag) : Fn := fun rs S QR QE => ∃ S0 g w r kr, ∃ kds : List (List PyData), rs = [.o S0.length, .d g, .d w, .d r, kr] ∧ S = S0 ++ [.ins (ga K "Rules") []] ∧ nb g = true ∧ nb w = true ∧ nb r = true ∧ (∀ o, lsOf (S0 ++ [o]) kr = some (kds.map .tuple)) ∧ kds.length ≤ 900000 ∧ (∀ ds ∈ kds, ds.all nb = true ∧ ds.length ≤ 1000) ∧
  (rulesOk g w r kds = true → QR (.d .none) (S0 ++ [.ins (ga K "Rules") (rulF (S0.length + 1) g w r)] ++ [.lst ((kds.map .tuple).map .d)])) ∧ (rulesOk g w r kds = false → QE (ga K "NoRules") S)
section
variable {P : Program} {w : World} {K : PySem.W.Frag} {mg : Str → Option Value} {base : Heap}
theorem fnN_Rules___init__ (T : TT K mg) {fd : FuncData} (Fd : FunD K "__init__" "Rules.__init__" (defArgs s_Rules___init__) (defBody s_Rules___init__) (defScope s_Rules___init__) [] [] (ma K (ga K "Rules") "__init__") fd) : FnOk P w K mg base (L2N.CX P w) 4 (ma K (ga K "Rules") "__init__") fd ["self", "gap", "width", "rim", "keeps"] (spF K 5 (F_rulesN K)) := by
  refine fn_wN Fd sc_Rules___init__ fun cdv A outer s H E rs S QR QE c tk hc hl hF => ?_
  obtain ⟨S0, g, wd, r, kr, kds, rfl, rfl, ng, nw, nr, hk, hkl, hkd, q, qe⟩ := hF
  have hat : ∀ (u : Own) (L : Sto), (S0 ++ u :: L)[S0.length]? = some u := fun u L => by rw [List.getElem?_append_right (Nat.le_refl _), Nat.sub_self] <;> rfl
  have hset : ∀ (u v : Own) (L : Sto), (S0 ++ u :: L).set S0.length v = S0 ++ v :: L := fun u v L => by rw [List.set_append_right _ _ (Nat.le_refl _), Nat.sub_self] <;> rfl
  refine ss_cons (ws_if (k1 := !(inB 0 2 g && (inB 1 3 wd && inB 0 1 r))) (EvT.is (evt_w (evw_or (evt_not (evt_val (ev_call c (ok_within T) (eva_cons (ev_name 1) (eva_cons ev_int (eva_cons ev_int eva_nil))) (fun QR QE q => ⟨_, _, _, rfl, ng, q⟩)))) fun _ => evw_or (evt_not (evt_val (ev_call c (ok_within T) (eva_cons (ev_name 2) (eva_cons ev_int (eva_cons ev_int eva_nil))) (fun QR QE q => ⟨_, _, _, rfl, nw, q⟩)))) fun _ => evw_or1 (evt_not (evt_val (ev_call c (ok_within T) (eva_cons (ev_name 3) (eva_cons ev_int (eva_cons ev_int eva_nil))) (fun QR QE q => ⟨_, _, _, rfl, nr, q⟩)))))) (by rw [Bool.not_and, Bool.not_and])) (fun h => ?_) (fun h => ss_nil ?_))
  · refine ss_cons (ws_raiseN c tk (x_NoRules T) (backx_same (qe ?_)))
    unfold rulesOk
    rw [show (inB 0 2 g && (inB 1 3 wd && inB 0 1 r)) = false from bnot h] <;> rfl
  have h1 : (inB 0 2 g && (inB 1 3 wd && inB 0 1 r)) = true := bnot2 h
  refine ss_cons (ws_if (k1 := !(decide (kds.length ≤ 12) && kds.all keepOk)) (EvT.is (evt_w (evw_or (EvT.is (evt_gt (ev_lenA (z_len T) (ev_name 4) (hk _)) (ev_gint (c_MOST_KEEPS T))) (c' := !decide (kds.length ≤ 12)) (by
    rw [List.length_map, ← decide_not]; exact decide_eq_decide.mpr (by omega))) fun _ => evw_or1 (evt_not (evt_val (ev_all c (bs := kds.map keepOk) (z_all T) (Ev.is (r' := .d (.list ((kds.map keepOk).map .bool))) (ev_lc c (blkOk_by (by rfl)) (lc_pure (own := [("keep", 5)]) c (evi_ls (ev_name 4) (hk _)) (tg_name 5 c.nd) (fun _ => true) (tupF fun ds => .bool (keepOk ds)) (fun L => ls_app (hk _) L) (fun r hr => ?_) (by rw [List.length_map, List.length_map]; omega))) (by rw [tups_out, List.map_map] <;> rfl)) rfl))))) (by rw [List.all_map, Bool.not_and] <;> rfl)) (fun h => ?_) (fun h => ss_nil ?_))
  · obtain ⟨d, hd, rfl⟩ := List.mem_map.mp hr
    obtain ⟨v, hv, rfl⟩ := List.mem_map.mp hd
    exact ⟨_, rfl, fun L s H C cl fp => rfl, fun _ L s H C cl fp => (ev_call (c.blk _ s H C cl fp) (ok_is_keep T) (eva_cons (ev_name 5) eva_nil) (fun QR QE q => ⟨_, rfl, (hkd v hv).1, (hkd v hv).2, q⟩))⟩
  · refine ss_cons (ws_raiseN c tk (x_NoRules T) (backx_same (qe ?_)))
    unfold rulesOk
    rw [show (decide (kds.length ≤ 12) && kds.all keepOk) = false from bnot h, Bool.and_false]
  have h2 : (decide (kds.length ≤ 12) && kds.all keepOk) = true := bnot2 h
  have q := q (by unfold rulesOk; rw [h1, h2] <;> rfl)
  refine ss_cons (ws_fldN (cls_Rules T) (na_Rules_gap T) (ev_name 1) (ev_name 0) (hat _ _) rfl (Nat.le_of_ble_eq_true rfl) ?_)
  rw [hset]
  refine ss_cons (ws_fldN (cls_Rules T) (na_Rules_width T) (ev_name 2) (ev_name 0) (hat _ _) rfl (Nat.le_of_ble_eq_true rfl) ?_)
  rw [hset]
  refine ss_cons (ws_fldN (cls_Rules T) (na_Rules_rim T) (ev_name 3) (ev_name 0) (hat _ _) rfl (Nat.le_of_ble_eq_true rfl) ?_)
  rw [hset]
  refine ss_cons (ws_fldN (cls_Rules T) (na_Rules_keeps T) (ev_lcO c (blkOk_by (by rfl)) (lc_pureO (own := [("keep", 5)]) c (evi_ls (ev_name 4) (hk _)) (tg_name 5 c.nd) (fun _ => true) (tupF .tuple) (fun L => ls_app (hk _) L) (fun r hr => ?_) (by rw [List.length_map, List.length_map]; omega))) (ev_name 0) (by rw [List.append_assoc]; exact hat _ _) rfl (Nat.le_of_ble_eq_true rfl) (ss_nil (back_d ?_ ?_)))
  · obtain ⟨d, hd, rfl⟩ := List.mem_map.mp hr
    obtain ⟨v, hv, rfl⟩ := List.mem_map.mp hd
    exact ⟨_, rfl, fun L s H C cl fp => rfl, fun _ L s H C cl fp => (ev_tupleT (z_tuple T) (ev_name 5))⟩
  · rw [List.append_assoc]
    show QR _ ((S0 ++ Own.ins _ _ :: _).set S0.length _)
    rw [hset, tups_out, List.length_append]
    rw [List.append_assoc] at q
    exact q
  · simp
theorem okN_Rules___init__ (T : TT K mg) : OkCN P w K mg base 4 (ga K "Rules") "Rules" ["self", "gap", "width", "rim", "keeps"] [] (F_rulesN K) := okCN_of (g_Rules T) (mk_Rules T) (d_Rules___init__ T) (fun _ _ _ _ _ _ us hl => match us, hl with | [_, _, _, _, _], _ => rfl) fun fd Fd => fnN_Rules___init__ T Fd
end
end Pf
namespace Pf
open PySem PySem.Spec PyProof.Rows L2 He Cu
def ksD (ks : List (List Nat)) : List PyData := ks.map tupN
def intsN (k : List Nat) : List PyData := k.map fun (n : Nat) => .int (n : Int)
theorem eqv_tupN (a b : List Nat) : PyData.eqv (tupN a) (tupN b) = decide (a = b) := by
  have : PyData.eqv (tupN a) (tupN b) = PyData.eqvAll (a.map fun (n : Nat) => PyData.int (n : Int)) (b.map fun (n : Nat) => PyData.int (n : Int)) := by
    unfold tupN; rw [PyData.eqv]
  rw [this]
  exact eqvAll_map (fun (n : Nat) => PyData.int (n : Int)) (fun a b => by rw [eqv_int]; exact decide_eq_decide.mpr (by omega)) a b
theorem lay_tupN (k : List Nat) : PyData.canLay0 (tupN k) = true ∧ (tupN k).depth ≤ 50 := lay_tup fun d hd => by
  obtain ⟨n, _, rfl⟩ := List.mem_map.mp hd
  exact ⟨_, rfl⟩
theorem shaped_ks (ks : List (List Nat)) : SeqAt.shaped (.list (ksD ks)) = true := shaped_list fun d hd => by
  obtain ⟨k, _, rfl⟩ := List.mem_map.mp hd
  exact lay_tupN k
theorem eqv_ks (ks : List (List Nat)) : PyData.eqv (.list (ksD ks)) (.list (ksD ks)) = true := by
  unfold ksD
  rw [eqv_list tupN eqv_tupN]; simp
theorem shaped3 (a b c : Int) : SeqAt.shaped (.tuple [.int a, .int b, .int c]) = true := shaped_ints [a, b, c]
theorem eqv3 (a b c : Int) : PyData.eqv (.tuple [.int a, .int b, .int c]) (.tuple [.int a, .int b, .int c]) = true := by
  rw [PyData.eqv]
  have := eqvAll_map (fun i : Int => PyData.int i) eqv_int [a, b, c] [a, b, c]
  rw [show ([PyData.int a, .int b, .int c] : List PyData) = [a, b, c].map (fun i : Int => PyData.int i) from rfl, this]; simp
theorem cutD_from {α : Type} (xs : List α) (n : Nat) : Cu.cutD xs (some (n : Int)) none = xs.drop n := by
  unfold Cu.cutD
  have e1 : HT.sIx xs.length xs.length none = xs.length := rfl
  have e2 : HT.sIx xs.length 0 (some (n : Int)) = min n xs.length := by
    unfold HT.sIx
    simp
    try omega
  rw [e1, e2]
  rcases Nat.le_total n xs.length with h | h
  · rw [Nat.min_eq_left h]
    exact List.take_of_length_le (by rw [List.length_drop]; exact Nat.le_refl _)
  · rw [Nat.min_eq_right h, Nat.sub_self, List.take_zero, List.drop_of_length_le h]
theorem sum_le {B : Nat} : ∀ {ys : List Str}, (∀ y ∈ ys, y.length ≤ B) → (ys.map (·.length)).sum ≤ ys.length * B
  | [], _ => Nat.zero_le _
  | y :: ys, h => by
    have h1 := h y List.mem_cons_self
    have h2 := sum_le fun x hx => h x (List.mem_cons_of_mem _ hx)
    rw [List.map_cons, List.sum_cons, List.length_cons, Nat.add_mul]
    omega
theorem small_log {n : Nat} (h : n < 10 ^ 40) : ((n : Nat) : Int).natAbs.log2 < 1920 := by
  rw [Int.natAbs_natCast]
  by_cases h0 : n = 0
  · rw [h0]; decide
  · exact Nat.lt_trans ((Nat.log2_lt h0).mpr (Nat.lt_trans h (by decide : 10 ^ 40 < 2 ^ 200))) (by decide)
theorem gap_row (n : Nat) : Str.ofString "gap " ++ numS (n : Int) = rowW (Str.ofString "gap") [n] := by
  rw [row_one, show Str.ofString "gap " = Str.ofString "gap" ++ sp1 from TL.ext_tl (by decide)]
theorem width_row (n : Nat) : Str.ofString "width " ++ numS (n : Int) = rowW (Str.ofString "width") [n] := by
  rw [row_one, show Str.ofString "width " = Str.ofString "width" ++ sp1 from TL.ext_tl (by decide)]
theorem rim_row (n : Nat) : Str.ofString "rim " ++ numS (n : Int) = rowW (Str.ofString "rim") [n] := by
  rw [row_one, show Str.ofString "rim " = Str.ofString "rim" ++ sp1 from TL.ext_tl (by decide)]
def strG : Cu.It → PyData
  | .d (.int n) => .str (numS n)
  | _ => .none
theorem words_out (k : List Nat) : (((intsN k).map Cu.It.d).filter fun _ => true).map strG = (wordsN k).map .str := by
  unfold intsN wordsN
  rw [List.filter_eq_self.mpr (fun _ _ => rfl), List.map_map, List.map_map, List.map_map] <;> rfl
def F_told (K : PySem.W.Frag) : Fn := fun rs S QR _ => ∃ n m, ∃ g w r : Nat, ∃ ks, rs = [.o n] ∧ S[n]? = some (.ins (ga K "Rules") (rulF m (.int g) (.int w) (.int r))) ∧ S[m]? = some (.lst ((ksD ks).map .d)) ∧ RulOk g w r ks ∧ QR (.d (.str (textOf (rowsR g w r ks)))) S
def F_row : Fn := fun rs S QR _ => ∃ word : Str, ∃ ns : List Nat, rs = [.d (.str (rowW word ns)), .d (.str word), .d (.int ns.length)] ∧ 32 ∉ TL.tl word ∧ word.length ≤ 40 ∧ (∀ n ∈ ns, n < 10 ^ 40) ∧ ns.length ≤ 1000 ∧ QR (.d (.list (intsN ns))) S
def F_readR (K : PySem.W.Frag) : Fn := fun rs S QR _ => ∃ g w r : Nat, ∃ ks, rs = [.d (.str (textOf (rowsR g w r ks)))] ∧ RulOk g w r ks ∧ QR (.o (S.length + 1)) (S ++ [.lst (((rowsR g w r ks).map PyData.str).map .d)] ++ [.ins (ga K "Rules") (rulF (S.length + 2) (.int g) (.int w) (.int r))] ++ [.lst ((ksD ks).map .d)])
theorem inB_nat {l m : Int} {n : Nat} (h1 : l ≤ n) (h2 : (n : Int) ≤ m) : inB l m (.int (n : Int)) = true := by
  show (decide (l ≤ (n : Int)) && decide ((n : Int) ≤ m)) = true
  rw [decide_eq_true h1, decide_eq_true h2] <;> rfl
theorem keepOk_of {k : List Nat} (h : KeepOk k) : keepOk (intsN k) = true := by
  obtain ⟨x, y, w, ht, z, rfl, h1, h2⟩ := h.five
  have f := h.few
  have b : ∀ n : Nat, n < 10 ^ 40 → (n : Int) ≤ M40 := fun n hn => by
    have : (n : Int) < ((10 ^ 40 : Nat) : Int) := by exact_mod_cast hn
    unfold M40
    have e : ((10 ^ 40 : Nat) : Int) = 10000000000000000000000000000000000000000 := by decide +kernel
    omega
  have fx := b x (f x (by simp)); have fy := b y (f y (by simp)); have fw := b w (f w (by simp)); have fh := b ht (f ht (by simp)); have fz := b z (f z (by simp))
  show ((inB 0 M40 (.int x) && (inB 0 M40 (.int y) && (inB 0 M40 (.int z) && true))) && (inB 1 M40 (.int w) && inB 1 M40 (.int ht))) = true
  rw [inB_nat (by omega) fx, inB_nat (by omega) fy, inB_nat (by omega) fz, inB_nat (by omega) fw, inB_nat (by omega) fh] <;> rfl
theorem rulesOk_of {g w r : Nat} {ks : List (List Nat)} (o : RulOk g w r ks) : rulesOk (.int g) (.int w) (.int r) (ks.map intsN) = true := by
  have a := o.g2; have b1 := o.w1; have b := o.w3; have c := o.r1; have d := o.few
  unfold rulesOk
  rw [inB_nat (by omega) (by omega), inB_nat (by omega) (by omega), inB_nat (by omega) (by omega), List.length_map, decide_eq_true d, List.all_map]
  exact List.all_eq_true.mpr fun k hk => keepOk_of (o.ok k hk)
theorem ksD_tup (ks : List (List Nat)) : (ks.map intsN).map PyData.tuple = ksD ks := by rw [List.map_map] <;> rfl
theorem nb_ints (k : List Nat) : (intsN k).all nb = true := List.all_eq_true.mpr fun d hd => by
  obtain ⟨n, _, rfl⟩ := List.mem_map.mp hd
  rfl
theorem kds_nb {g w r : Nat} {ks : List (List Nat)} (o : RulOk g w r ks) : ∀ ds ∈ ks.map intsN, ds.all nb = true ∧ ds.length ≤ 1000 := fun ds hd => by
  obtain ⟨k, hk, rfl⟩ := List.mem_map.mp hd
  refine ⟨nb_ints k, ?_⟩
  obtain ⟨x, y, w', h, z, rfl, _⟩ := (o.ok k hk).five
  exact Nat.le_of_ble_eq_true rfl
section
variable {P : Program} {w : World} {K : PySem.W.Frag} {mg : Str → Option Value} {base : Heap}
theorem fn_Rules_told (T : TT K mg) {fd : FuncData} (Fd : FunD K "told" "Rules.told" (defArgs s_Rules_told) (defBody s_Rules_told) (defScope s_Rules_told) [] [] (ma K (ga K "Rules") "told") fd) : FnOk P w K mg base (L2.CX P w) 1 (ma K (ga K "Rules") "told") fd ["self"] (spF K 1 (F_told K)) := by
  refine fn_w Fd sc_Rules_told fun cdv A outer s H E rs S QR QE c hc hl hF => ?_
  obtain ⟨n, m, g, wd, r, ks, rfl, hi, hm, o, q⟩ := hF
  have hat : ∀ (u : Own), (S ++ [u])[S.length]? = some u := fun u => by rw [List.getElem?_append_right (Nat.le_refl _), Nat.sub_self] <;> rfl
  have hset : ∀ (u v : Own), (S ++ [u]).set S.length v = S ++ [v] := fun u v => by rw [List.set_append_right _ _ (Nat.le_refl _), Nat.sub_self] <;> rfl
  have app : ∀ {i : Nat} {v : Own} (L : Sto), S[i]? = some v → (S ++ L)[i]? = some v := fun {i v} L e => by rw [List.getElem?_append_left (List.getElem?_eq_some_iff.mp e).1]; exact e
  have o1 := o.g2; have o2 := o.w3; have o3 := o.r1; have o4 := o.few
  have nl3 : ∀ i : Nat, i ≤ 3 → (numS (i : Int)).length ≤ 40 := fun i hi => numS_len (by exact Nat.lt_of_le_of_lt hi (by decide))
  have l1 := nl3 g (by omega); have l2 := nl3 wd o2; have l3 := nl3 r (by omega)
  have w1 : (Str.ofString "gap ").length = 4 := by decide
  have w2 : (Str.ofString "width ").length = 6 := by decide
  have w3 : (Str.ofString "rim ").length = 4 := by decide
  have sm : ∀ i : Nat, i ≤ 3 → ((i : Nat) : Int).natAbs.log2 < 1920 := fun i hi => small_log (Nat.lt_of_le_of_lt hi (by decide))
  refine ss_cons (ws_set 1 c.nd (Ev.is2 (ev_lstO (eva_cons (ev_addS ev_str (ev_strI (z_str T) (ev_fld (cls_Rules T) (na_Rules_gap T) (ev_name 0) hi) (sm g (by omega))) (by rw [w1]; unfold numS at l1; omega)) (eva_cons (ev_addS ev_str (ev_strI (z_str T) (ev_fld (cls_Rules T) (na_Rules_width T) (ev_name 0) hi) (sm wd o2)) (by rw [w2]; unfold numS at l2; omega)) (eva_cons (ev_addS ev_str (ev_strI (z_str T) (ev_fld (cls_Rules T) (na_Rules_rim T) (ev_name 0) hi) (sm r (by omega))) (by rw [w3]; unfold numS at l3; omega)) eva_nil)))) (r' := .o S.length) (S2 := S ++ [.lst (((rowsR g wd r (ks.take 0)).map PyData.str).map .d)]) rfl (by
    unfold rowsR
    rw [← gap_row, ← width_row, ← rim_row] <;> rfl)) ?_)
  have rl := o.rows.1
  have hm' : m ≠ S.length := by have := (List.getElem?_eq_some_iff.mp hm).1; omega
  refine ss_cons (ws_for c (evi_own (rs := (ksD ks).map .d) (ev_fld (cls_Rules T) (na_Rules_keeps T) (ev_name 0) (app _ hi)) (app _ hm)) (J := fun i G' S' => (∃ g2 g3 g4, G' = [some (.o n), some (.o S.length), g2, g3, g4]) ∧ S' = S ++ [.lst (((rowsR g wd r (ks.take i)).map PyData.str).map .d)]) (fun r G => G.set 2 (some r)) ⟨⟨_, _, _, rfl⟩, rfl⟩ (fun i G' S' h => by rw [h.2]; exact app _ hm) ?_ ?_ ?_)
  · rintro i r' G' S' hr ⟨⟨g2, g3, g4, rfl⟩, _⟩
    exact evg_name 2 c.nd
  · rintro i r' G' S' hr ⟨⟨g2, g3, g4, rfl⟩, rfl⟩
    unfold ksD at hr
    rw [List.getElem?_map, List.getElem?_map] at hr
    cases e1 : ks[i]? with
    | none => rw [e1] at hr; cases hr
    | some k =>
    rw [e1] at hr
    cases hr
    have hk := o.ok k (List.mem_of_getElem? e1)
    have hk5 : k.length = 5 := by obtain ⟨_, _, _, _, _, rfl, _⟩ := hk.five; rfl
    have wl : ∀ y ∈ wordsN k, y.length ≤ 40 := fun y hy => by
      obtain ⟨v, hv, rfl⟩ := List.mem_map.mp hy
      exact numS_len (hk.few v hv)
    have wlen : (wordsN k).length = 5 := by unfold wordsN; rw [List.length_map, hk5]
    have et : ks.take (i + 1) = ks.take i ++ [k] := by rw [List.take_add_one, e1] <;> rfl
    have hi4 : i < ks.length := (List.getElem?_eq_some_iff.mp e1).1
    refine ss_cons (ws_expr (ev_append (xs := ((rowsR g wd r (ks.take i)).map PyData.str).map .d) (r := .d (.str (rowW (Str.ofString "keep") k))) (ev_name 1) (hat _) (ev_join (ys := Str.ofString "keep" :: wordsN k) ev_str (Ev.is (ev_cat (ds := [.str (Str.ofString "keep")]) (es := (wordsN k).map .str) (ev_lst (eva_cons ev_str eva_nil)) (Ev.is (ev_lc c (blkOk_by (by rfl)) (lc_pure (own := [("number", 3)]) c (evi_tup (ds := intsN k) (ev_name 2)) (tg_name 3 c.nd) (fun _ => true) strG (fun _ => trivial) (fun r hr => ?_) (by unfold intsN; rw [List.length_map, List.length_map]; omega))) (by rw [words_out])) (by rw [List.length_map, wlen]; exact Nat.le_of_ble_eq_true rfl)) rfl) (by
      have h1 := sum_le wl
      rw [wlen] at h1
      rw [List.map_cons, List.sum_cons, List.length_cons, wlen, show (Str.ofString "keep").length = 4 by decide, show sp1.length = 1 by decide]
      omega)) (hat _) (by rw [List.length_map, List.length_map, rowsR_len, List.length_take]; omega)) (ss_nil ⟨⟨_, _, _, rfl⟩, ?_⟩))
    · obtain ⟨d, hd, rfl⟩ := List.mem_map.mp hr
      obtain ⟨v, hv, rfl⟩ := List.mem_map.mp hd
      exact ⟨_, rfl, fun L s H C cl fp => rfl, fun _ L s H C cl fp => (ev_strI (z_str T) (ev_name 3) (small_log (hk.few v hv)))⟩
    · rw [hset, et]
      unfold rowsR
      simp
  · rintro G' S' ⟨⟨g2, g3, g4, rfl⟩, rfl⟩
    rw [show ((ksD ks).map Cu.It.d).length = ks.length by unfold ksD; rw [List.length_map, List.length_map], List.take_length]
    refine ss_cons (ws_ret (ev_join (ys := (rowsR g wd r ks).map fun x => x ++ nl1) ev_str (Ev.is (ev_lc c (blkOk_by (by rfl)) (lc_pure (own := [("row", 4)]) c (evi_ls (ev_name 1) (ls_own (hat _))) (tg_name 4 c.nd) (fun _ => true) (strF fun x => .str (x ++ nl1)) (fun L => ls_app (ls_own (hat _)) L) (fun r hr => ?_) (by rw [List.length_map, List.length_map, rowsR_len]; omega))) (by rw [strs_out, List.map_map] <;> rfl)) (by
      have h1 := sum_le (B := 301) (ys := (rowsR g wd r ks).map fun x => x ++ nl1) fun y hy => by
        obtain ⟨v, hv, rfl⟩ := List.mem_map.mp hy
        have := rl v hv
        rw [TL.len_tl] at this ⊢
        rw [TL.tl_append, List.length_append, tl_nl]
        show _ + 1 ≤ 301
        omega
      rw [List.length_map, rowsR_len] at h1
      rw [List.length_map, rowsR_len, show (Str.ofString "").length = 0 by decide]
      omega)) (back_drop _ hc q))
    obtain ⟨d, hd, rfl⟩ := List.mem_map.mp hr
    obtain ⟨v, hv, rfl⟩ := List.mem_map.mp hd
    have := rl v hv
    exact ⟨_, rfl, fun L s H C cl fp => rfl, fun _ L s H C cl fp => (ev_addS (ev_name 4) ev_str (by rw [show nl1.length = 1 by decide]; omega))⟩
theorem ok_Rules_told (T : TT K mg) : OkM P w K mg base 1 (ga K "Rules") "told" ["self"] [] (F_told K) := okM_of (cls_Rules T) (m_Rules_told T) (d_Rules_told T) (fun _ _ _ _ _ _ us hl => match us, hl with | [_], _ => rfl) fun fd Fd => fn_Rules_told T Fd
theorem fn_read_row (T : TT K mg) {fd : FuncData} (Fd : FunD K "read_row" "read_row" (defArgs s_read_row) (defBody s_read_row) (defScope s_read_row) [] [] (ga K "read_row") fd) : FnOk P w K mg base (L2.CX P w) 3 (ga K "read_row") fd ["row", "word", "many"] (spF K 3 F_row) := by
  refine fn_w Fd sc_read_row fun cdv A outer s H E rs S QR QE c hc hl hF => ?_
  obtain ⟨word, ns, rfl, hw, hwl, hn, hz, q⟩ := hF
  have hrl := row_len hwl hn
  have e2 : numsN (wordsN ns) = some (ns.map fun (n : Nat) => (n : Int)) := nums_words hn
  have wl : ∀ y ∈ wordsN ns, y.length ≤ 100000 := fun y hy => by
    obtain ⟨v, hv, rfl⟩ := List.mem_map.mp hy
    have := numS_len (hn v hv)
    omega
  refine ss_cons (ws_set 3 c.nd (Ev.is (r' := .d (.list ((word :: wordsN ns).map .str))) (ev_split (ev_name 0) ev_str rfl (by have := Nat.mul_le_mul_right 41 (Nat.succ_le_succ hz); omega)) (by rw [show (Str.ofString " ") = sp1 from rfl, split_row hw])) ?_)
  refine ss_cons (ws_set 4 c.nd (r := .d (.list (intsN ns))) (Ev.is (ev_call c (ok_numbers_or_none T) (eva_cons (Ev.is (r' := .d (.list ((wordsN ns).map .str))) (ev_slA (il := some 1) (ih := none) (ev_name 3) rfl ev_int trivial) (by rw [show (1 : Int) = ((1 : Nat) : Int) from rfl, cutD_from] <;> rfl)) eva_nil) (fun QR QE q => ⟨wordsN ns, rfl, by unfold wordsN; rw [List.length_map]; omega, wl, q⟩)) (by rw [e2]; show Cu.It.d (.list _) = _; rw [List.map_map] <;> rfl)) ?_)
  refine ss_cons (ws_if (k1 := false) (EvT.is (evt_w (evw_orF (EvT.is (evt_neT (ev_ixL (ds := (word :: wordsN ns).map .str) (d := .str word) (ev_name 3) ev_int (atI_nat (k := 0) rfl rfl)) (ev_name 1)) (by rw [decide_eq_true rfl] <;> rfl)) (evw_orF (EvT.is (evt_isN (r := .d (.list (intsN ns))) (ev_name 4)) rfl) (evw_or1 (evt_neI (ev_lenA (z_len T) (ev_name 4) rfl) (ev_name 2)))))) (by unfold intsN; rw [List.length_map]; simp)) (fun z => nomatch z) (fun _ => ss_nil ?_))
  exact ss_cons (ws_ret (ev_name 4) (back_d q))
theorem ok_read_row (T : TT K mg) : OkF P w K mg base 3 "read_row" ["row", "word", "many"] [] F_row := okF_of (g_read_row T) (d_read_row T) (fun _ _ _ _ _ _ us hl => match us, hl with | [_, _, _], _ => rfl) fun fd Fd => fn_read_row T Fd
theorem fn_read_rules (T : TT K mg) {fd : FuncData} (Fd : FunD K "read_rules" "read_rules" (defArgs s_read_rules) (defBody s_read_rules) (defScope s_read_rules) [] [] (ga K "read_rules") fd) : FnOk P w K mg base (L2.CX P w) 6 (ga K "read_rules") fd ["text"] (spF K 1 (F_readR K)) := by
  refine fn_w Fd sc_read_rules fun cdv A outer s H E rs S QR QE c hc hl hF => ?_
  obtain ⟨g, wd, r, ks, rfl, o, q⟩ := hF
  have o1 := o.g2; have o2 := o.w3; have o3 := o.r1; have o4 := o.few
  have hat : ∀ (u : Own), (S ++ [u])[S.length]? = some u := fun u => by rw [List.getElem?_append_right (Nat.le_refl _), Nat.sub_self] <;> rfl
  have hset : ∀ (u v : Own), (S ++ [u]).set S.length v = S ++ [v] := fun u v => by rw [List.set_append_right _ _ (Nat.le_refl _), Nat.sub_self] <;> rfl
  have tlen := text_len o.rows.1
  rw [rowsR_len] at tlen
  have e1 : Txt.split (textOf (rowsR g wd r ks)) (Str.ofString "\n") = rowsR g wd r ks ++ [Str.ofString ""] := split_text o.rows.2
  refine ss_cons (ws_set 1 c.nd (Ev.is2 (ev_splitN (ev_name 0) ev_str rfl (by have := Nat.mul_le_mul_right 301 (Nat.add_le_add_right o4 3); omega)) (r' := .o S.length) (S2 := S ++ [.lst (((rowsR g wd r ks).map PyData.str).map .d ++ [.d (.str (Str.ofString ""))])]) rfl (by rw [e1, List.map_append, List.map_append] <;> rfl)) ?_)
  refine ss_cons (ws_if (k1 := false) (S1 := S ++ [.lst (((rowsR g wd r ks).map PyData.str).map .d)]) (EvT.is (evt_w (evw_orF (S1 := S ++ [.lst (((rowsR g wd r ks).map PyData.str).map .d)]) (EvT.is (evt_neT (Ev.is2 (ev_pop (y := .d (.str (Str.ofString ""))) (ev_name 1) (hat _) (by rw [List.length_append]; simp)) rfl (by rw [hset, List.dropLast_concat])) ev_str) (by rw [decide_eq_true rfl] <;> rfl)) (evw_or1 (evt_lt (ev_lenA (z_len T) (ev_name 1) (ls_own (hat _))) ev_int)))) (by rw [List.length_map, rowsR_len]; exact decide_eq_false (by omega))) (fun z => nomatch z) (fun _ => ss_nil ?_))
  have small : ∀ i : Nat, i ≤ 3 → ∀ n ∈ [i], n < 10 ^ 40 := fun i hi n hn => by rw [List.mem_singleton.mp hn]; exact Nat.lt_of_le_of_lt hi (by decide)
  have row : ∀ {i : Nat} {word : Str} {n : Nat}, True := fun {_ _ _} => trivial
  refine ss_cons (ws_set 2 c.nd (ev_call c (ok_read_row T) (eva_cons (ev_ixA (ds := (rowsR g wd r ks).map .str) (d := .str (rowW (Str.ofString "gap") [g])) (ev_name 1) ev_int (ls_own (hat _)) (atI_nat (k := 0) rfl rfl)) (eva_cons ev_str (eva_cons ev_int eva_nil))) (fun QR QE q => ⟨Str.ofString "gap", [g], rfl, by decide, by decide, small g (by omega), Nat.le_of_ble_eq_true rfl, q⟩)) ?_)
  refine ss_cons (ws_set 3 c.nd (ev_call c (ok_read_row T) (eva_cons (ev_ixA (ds := (rowsR g wd r ks).map .str) (d := .str (rowW (Str.ofString "width") [wd])) (ev_name 1) ev_int (ls_own (hat _)) (atI_nat (k := 1) rfl rfl)) (eva_cons ev_str (eva_cons ev_int eva_nil))) (fun QR QE q => ⟨Str.ofString "width", [wd], rfl, by decide, by decide, small wd o2, Nat.le_of_ble_eq_true rfl, q⟩)) ?_)
  refine ss_cons (ws_set 4 c.nd (ev_call c (ok_read_row T) (eva_cons (ev_ixA (ds := (rowsR g wd r ks).map .str) (d := .str (rowW (Str.ofString "rim") [r])) (ev_name 1) ev_int (ls_own (hat _)) (atI_nat (k := 2) rfl rfl)) (eva_cons ev_str (eva_cons ev_int eva_nil))) (fun QR QE q => ⟨Str.ofString "rim", [r], rfl, by decide, by decide, small r (by omega), Nat.le_of_ble_eq_true rfl, q⟩)) ?_)
  have kout : ((((ks.map (rowW (Str.ofString "keep"))).map PyData.str).map Cu.It.d).filter fun _ => true).map (strF fun x => .tuple (((numsN ((Txt.split x sp1).drop 1)).getD []).map .int)) = ksD ks := by
    rw [strs_out, List.map_map]
    refine List.map_congr_left fun k hk => ?_
    show PyData.tuple (((numsN ((Txt.split (rowW (Str.ofString "keep") k) sp1).drop 1)).getD []).map .int) = tupN k
    rw [split_row (by decide)]
    show PyData.tuple (((numsN (wordsN k)).getD []).map .int) = tupN k
    rw [nums_words (o.ok k hk).few]
    show PyData.tuple ((k.map _).map _) = _
    rw [List.map_map] <;> rfl
  refine ss_cons (ws_setLc 5 c (blkOk_by (by rfl)) (lc_pure (own := [("row", 6)]) c (evi_list (ds := (ks.map (rowW (Str.ofString "keep"))).map .str) (Ev.is (ev_slA (lo := some _) (hi := none) (ds := (rowsR g wd r ks).map .str) (il := some 3) (ih := none) (ev_name 1) (ls_own (hat _)) ev_int trivial) (by rw [show (3 : Int) = ((3 : Nat) : Int) from rfl, cutD_from] <;> rfl))) (tg_name 6 c.nd) (fun _ => true) (strF fun x => .tuple (((numsN ((Txt.split x sp1).drop 1)).getD []).map .int)) (fun _ => trivial) (fun r hr => ?_) (by rw [List.length_map, List.length_map, List.length_map]; omega)) ?_)
  · obtain ⟨d, hd, rfl⟩ := List.mem_map.mp hr
    obtain ⟨v, hv, rfl⟩ := List.mem_map.mp hd
    obtain ⟨k, hk, rfl⟩ := List.mem_map.mp hv
    have hk5 : k.length = 5 := by obtain ⟨_, _, _, _, _, rfl, _⟩ := (o.ok k hk).five; rfl
    refine ⟨_, rfl, fun L s H C cl fp => rfl, fun _ L s H C cl fp => Ev.is (ev_tupleL (ds := intsN k) (z_tuple T) (ev_call (c.blk _ s H C cl fp) (ok_read_row T) (eva_cons (ev_name 6) (eva_cons ev_str (eva_cons ev_int eva_nil))) (fun QR QE q => ⟨Str.ofString "keep", k, by rw [hk5] <;> rfl, by decide, by decide, (o.ok k hk).few, by omega, q⟩)) rfl) ?_⟩
    show _ = Cu.It.d (PyData.tuple (((numsN ((Txt.split (rowW (Str.ofString "keep") k) sp1).drop 1)).getD []).map .int))
    rw [split_row (by decide)]
    show _ = Cu.It.d (PyData.tuple (((numsN (wordsN k)).getD []).map .int))
    rw [nums_words (o.ok k hk).few]
    show _ = Cu.It.d (PyData.tuple ((k.map _).map _))
    rw [List.map_map] <;> rfl
  rw [kout]
  refine ss_cons (ws_ret (ev_make c (ok_Rules___init__ T) (eva_cons (ev_ixL (ds := intsN [g]) (d := .int g) (ev_name 2) ev_int (atI_nat (k := 0) rfl rfl)) (eva_cons (ev_ixL (ds := intsN [wd]) (d := .int wd) (ev_name 3) ev_int (atI_nat (k := 0) rfl rfl)) (eva_cons (ev_ixL (ds := intsN [r]) (d := .int r) (ev_name 4) ev_int (atI_nat (k := 0) rfl rfl)) (eva_cons (ev_name 5) eva_nil)))) (fun QR QE q => ⟨S ++ [.lst (((rowsR g wd r ks).map PyData.str).map .d)], _, _, _, _, ks.map intsN, rfl, rfl, rfl, rfl, rfl, fun _ => by rw [ksD_tup] <;> rfl, by rw [List.length_map]; omega, kds_nb o, fun _ => q, fun z => by rw [rulesOk_of o] at z; cases z⟩)) ?_)
  rw [ksD_tup, show (S ++ [Own.lst (((rowsR g wd r ks).map PyData.str).map Cu.It.d)]).length = S.length + 1 by simp]
  exact back_same (by show S.length + 1 < _; simp) q (by simp)
theorem ok_read_rules (T : TT K mg) : OkF P w K mg base 6 "read_rules" ["text"] [] (F_readR K) := okF_of (g_read_rules T) (d_read_rules T) (fun _ _ _ _ _ _ us hl => match us, hl with | [_], _ => rfl) fun fd Fd => fn_read_rules T Fd
end
end Pf
namespace Cu
open PySem PySem.Spec PyProof.Rows L2
section
variable {X : Cx} {W : WX} {G : Gam} {S : Sto} {a : Expr} {p pos : Pos} {Q1 Qr : It → Sto → Prop} {Qx : Addr → Sto → Prop}
/-- tuple(e), e told loosely, a list of data -/
theorem evx_tupleD (hm : X.mg "tuple" = none) (h : EvX X W a G S Q1 Qx) (hq : ∀ r S', Q1 r S' → ∃ ds, r = .d (.list ds) ∧ Qr (.d (.tuple ds)) S') (hg : Gl X "tuple" := by rfl) (he : starEach [a] X.env = (false, eval a X.env) :: starEach [] X.env := by rfl) : EvX X W (.Call (.Name "tuple" p) [a] [] pos) G S Qr Qx := fun M σ H Q s h1 h2 =>
  toE (pe_callTy call_tuple_of hg hm (by decide +kernel) (pa_cons pe_s pa_nil he) (by decide) (by decide) he rfl) (h M σ H _ s (fun v M1 H1 r S' e1 s1 r1 q1 => by
    obtain ⟨ds, rfl, q⟩ := hq r S' q1
    have hv : Fz M1 H1 v (.list ds) := r1
    cases hv with
    | lst k1 k2 => exact ⟨_, _, rfl, .inl ⟨k1.sq, fun l hl => h1 _ M1 _ (.d (.tuple ds)) S' (e1.trans (Ext.fresh hl)) (s1.fresh hl) (Fz.tup ⟨upd_same, s1.sto.nin hl⟩ (FzAll.ext (Ext.fresh hl) k2)) q⟩⟩) h2)
end
end Cu
namespace Pf
open PySem PySem.Spec PyProof.Rows L2 He Cu
/-! ### what a text of rules is -/
def rowR (word : Str) (many : Nat) (x : Str) : Option (List Int) :=
  if (Txt.split x (Str.ofString " ")).getD 0 (Str.ofString "") = word then (match numsN ((Txt.split x (Str.ofString " ")).drop 1) with | none => none | some ns => if ns.length = many then some ns else none) else none
def keepR (x : Str) : Option (List Int) := rowR (Str.ofString "keep") 5 x
def keepsR (l : List Str) : Option (List (List Int)) := if l.all (fun x => (keepR x).isSome) then some (l.map fun x => (keepR x).getD []) else none
/-- gap, width, rim, keeps -/
def rowsIn (l : List Str) : Option (List Int × List Int × List Int × List (List Int)) :=
  if l.length < 3 then none else
    match rowR (Str.ofString "gap") 1 (l.getD 0 (Str.ofString "")), rowR (Str.ofString "width") 1 (l.getD 1 (Str.ofString "")), rowR (Str.ofString "rim") 1 (l.getD 2 (Str.ofString "")), keepsR (l.drop 3) with
    | some g, some w, some r, some ks => some (g, w, r, ks)
    | _, _, _, _ => none
def readR (x : Str) : Option (List Int × List Int × List Int × List (List Int)) :=
  if (Txt.split x (Str.ofString "\n")).getLast? = some (Str.ofString "") then rowsIn (Txt.split x (Str.ofString "\n")).dropLast else none
def intsD (k : List Int) : List PyData := k.map .int
def okR (x : Str) : Bool := match readR x with
  | none => false
  | some (g, w, r, ks) => rulesOk (.int (g.getD 0 0)) (.int (w.getD 0 0)) (.int (r.getD 0 0)) (ks.map intsD)
theorem rowR_len {word x : Str} {many : Nat} {ns : List Int} (h : rowR word many x = some ns) : ns.length = many := by
  unfold rowR at h
  split at h
  · split at h
    · cases h
    · split at h
      · rename_i h3
        cases h
        exact h3
      · cases h
  · cases h
theorem one_of {ns : List Int} (h : ns.length = 1) : ns = [ns.getD 0 0] := by
  match ns, h with
  | [a], _ => rfl
def F_row4 (K : PySem.W.Frag) : Fn := fun rs S QR QE => ∃ (x word : Str) (many : Nat), rs = [.d (.str x), .d (.str word), .d (.int (many : Int))] ∧ x.length ≤ 90000 ∧ (∀ ns, rowR word many x = some ns → QR (.d (.list (intsD ns))) S) ∧ (rowR word many x = none → QE (ga K "NoRules") S)
def F_readR4 (K : PySem.W.Frag) : Fn := fun rs S QR QE => ∃ x : Str, rs = [.d (.str x)] ∧ x.length ≤ 90000 ∧
  (∀ g w r ks, readR x = some (g, w, r, ks) → okR x = true → ∀ L, QR (.o (S.length + 1)) (S ++ [L] ++ [.ins (ga K "Rules") (rulF (S.length + 2) (.int (g.getD 0 0)) (.int (w.getD 0 0)) (.int (r.getD 0 0)))] ++ [.lst (((ks.map intsD).map .tuple).map .d)])) ∧ (okR x = false → QE (ga K "NoRules") S)
section
variable {P : Program} {w : World} {K : PySem.W.Frag} {mg : Str → Option Value} {base : Heap}
theorem fnN_read_row (T : TT K mg) {fd : FuncData} (Fd : FunD K "read_row" "read_row" (defArgs s_read_row) (defBody s_read_row) (defScope s_read_row) [] [] (ga K "read_row") fd) : FnOk P w K mg base (L2N.CX P w) 3 (ga K "read_row") fd ["row", "word", "many"] (spF K 3 (F_row4 K)) := by
  refine fn_wN Fd sc_read_row fun cdv A outer s H E rs S QR QE c tk hc hl hF => ?_
  obtain ⟨x, word, many, rfl, hx, q, qe⟩ := hF
  obtain ⟨w0, ws, hsp⟩ := split_ne x
  have hfew := split_few x
  have hsh := split_short x
  have hR : rowR word many x = if w0 = word then (match numsN ws with | none => none | some ns => if ns.length = many then some ns else none) else none := by
    unfold rowR
    rw [hsp] <;> rfl
  rw [hsp] at hfew hsh
  rw [List.length_cons] at hfew
  rw [hR] at q qe
  refine ss_cons (ws_set 3 c.nd (r := .d (.list ((w0 :: ws).map .str))) (Ev.is (ev_split (ev_name 0) ev_str rfl (by omega)) (by rw [hsp])) ?_)
  refine ss_cons (ws_set 4 c.nd (r := .d (optL (numsN ws))) (ev_call c (ok_numbers_or_none T) (eva_cons (Ev.is (r' := .d (.list (ws.map .str))) (ev_slA (lo := some _) (hi := none) (il := some 1) (ih := none) (ev_name 3) rfl ev_int trivial) (by rw [show (1 : Int) = ((1 : Nat) : Int) from rfl, cutD_from] <;> rfl)) eva_nil) (fun QR QE q => ⟨ws, rfl, by omega, fun y hy => Nat.le_trans (hsh y (List.mem_cons_of_mem _ hy)) (by omega), q⟩)) ?_)
  have e0 : ∀ {b : Bool} {G : Gam} {S : Sto} {X : Cx}, True := fun {_ _ _ _} => trivial
  by_cases hw : w0 = word
  · rw [if_pos hw] at q qe
    cases hn : numsN ws with
    | none =>
      rw [hn] at qe
      refine ss_cons (ws_if (k1 := true) (evt_w (evw_orF (EvT.is (evt_neT (ev_ixL (ds := (w0 :: ws).map .str) (d := .str w0) (ev_name 3) ev_int (atI_nat (k := 0) rfl rfl)) (ev_name 1)) (by rw [decide_eq_true hw] <;> rfl)) (evw_orT (EvT.is (evt_isN (ev_name 4)) rfl)))) (fun _ => ?_) (fun z => nomatch z))
      exact ss_cons (ws_raiseN c tk (x_NoRules T) (backx_same (qe rfl)))
    | some ns =>
      rw [hn] at q qe
      have q : ∀ ns', (if ns.length = many then some ns else none) = some ns' → QR (.d (.list (intsD ns'))) S := q
      have qe : (if ns.length = many then some ns else none) = none → QE (ga K "NoRules") S := qe
      refine ss_cons (ws_if (k1 := !decide (ns.length = many)) (EvT.is (evt_w (evw_orF (EvT.is (evt_neT (ev_ixL (ds := (w0 :: ws).map .str) (d := .str w0) (ev_name 3) ev_int (atI_nat (k := 0) rfl rfl)) (ev_name 1)) (by rw [decide_eq_true hw] <;> rfl)) (evw_orF (EvT.is (evt_isN (r := .d (.list (ns.map .int))) (ev_name 4)) rfl) (evw_or1 (evt_neI (ev_lenA (ds := ns.map .int) (z_len T) (ev_name 4) rfl) (ev_name 2)))))) (by rw [List.length_map]; congr 1; exact decide_eq_decide.mpr (by omega))) (fun h => ?_) (fun h => ss_nil ?_))
      · have h : ¬ ns.length = many := by simpa using h
        exact ss_cons (ws_raiseN c tk (x_NoRules T) (backx_same (qe (if_neg h))))
      · have h : ns.length = many := by simpa using h
        exact ss_cons (ws_ret (ev_name 4) (back_d (q ns (if_pos h))))
  · rw [if_neg hw] at qe
    refine ss_cons (ws_if (k1 := true) (evt_w (evw_orT (EvT.is (evt_neT (ev_ixL (ds := (w0 :: ws).map .str) (d := .str w0) (ev_name 3) ev_int (atI_nat (k := 0) rfl rfl)) (ev_name 1)) (by rw [decide_eq_false hw] <;> rfl)))) (fun _ => ?_) (fun z => nomatch z))
    exact ss_cons (ws_raiseN c tk (x_NoRules T) (backx_same (qe rfl)))
theorem okN_read_row (T : TT K mg) : OkFN P w K mg base 3 "read_row" ["row", "word", "many"] [] (F_row4 K) := okFN_of (g_read_row T) (d_read_row T) (fun _ _ _ _ _ _ us hl => match us, hl with | [_, _, _], _ => rfl) fun fd Fd => fnN_read_row T Fd
end
end Pf
namespace Pf
open PySem PySem.Spec PyProof.Rows L2 He Cu
theorem get_endR (S : Sto) (u : Own) : (S ++ [u])[S.length]? = some u := by rw [List.getElem?_append_right (Nat.le_refl _), Nat.sub_self] <;> rfl
theorem set_endR (S : Sto) (u v : Own) : (S ++ [u]).set S.length v = S ++ [v] := by rw [List.set_append_right _ _ (Nat.le_refl _), Nat.sub_self] <;> rfl
theorem strs_at {l : List Str} {i : Nat} (h : i < l.length) : (l.map PyData.str)[i]? = some (.str (l.getD i (Str.ofString ""))) := by
  rw [List.getElem?_map, List.getElem?_eq_getElem h, List.getD_eq_getElem?_getD, List.getElem?_eq_getElem h] <;> rfl
theorem last_cases {α : Type} {l : List α} (h : l ≠ []) : ∃ i c, l = i ++ [c] := ⟨l.dropLast, l.getLast h, (List.dropLast_concat_getLast h).symm⟩
theorem nb_intsD (k : List Int) : (intsD k).all nb = true := List.all_eq_true.mpr fun d hd => by
  obtain ⟨i, _, rfl⟩ := List.mem_map.mp hd
  rfl
theorem keepsR_some {l : List Str} {ys : List PyData} (h : (l.map fun x => (keepR x).map fun ns => PyData.tuple (intsD ns)) = ys.map some) : ∃ ks, keepsR l = some ks ∧ ys = (ks.map intsD).map .tuple ∧ ∀ k ∈ ks, k.length = 5 := by
  induction l generalizing ys with
  | nil =>
    cases ys with
    | nil => exact ⟨[], rfl, rfl, fun _ h => nomatch h⟩
    | cons _ _ => cases h
  | cons x r ih =>
    cases ys with
    | nil => cases h
    | cons y ys =>
      rw [List.map_cons, List.map_cons] at h
      obtain ⟨h1, h2⟩ := List.cons.inj h
      obtain ⟨ks, e1, e2, e3⟩ := ih h2
      cases hk : keepR x with
      | none => rw [hk] at h1; cases h1
      | some k =>
        rw [hk] at h1
        cases h1
        refine ⟨k :: ks, ?_, by rw [e2] <;> rfl, fun k' hk' => ?_⟩
        · unfold keepsR at e1 ⊢
          by_cases hall : (r.all fun x => (keepR x).isSome) = true
          · rw [if_pos hall] at e1
            rw [List.all_cons, hk, hall]
            show some ((keepR x).getD [] :: r.map fun x => (keepR x).getD []) = _
            rw [hk]
            cases e1; rfl
          · rw [if_neg hall] at e1; cases e1
        · rcases List.mem_cons.mp hk' with rfl | hk'
          · exact rowR_len hk
          · exact e3 k' hk'
theorem keepsR_none {l : List Str} {x : Str} (hx : x ∈ l) (h : keepR x = none) : keepsR l = none := by
  unfold keepsR
  rw [if_neg]
  intro z
  have := List.all_eq_true.mp z x hx
  rw [h] at this
  cases this
section
variable {P : Program} {w : World} {K : PySem.W.Frag} {mg : Str → Option Value} {base : Heap}
theorem fnN_read_rules (T : TT K mg) {fd : FuncData} (Fd : FunD K "read_rules" "read_rules" (defArgs s_read_rules) (defBody s_read_rules) (defScope s_read_rules) [] [] (ga K "read_rules") fd) : FnOk P w K mg base (L2N.CX P w) 6 (ga K "read_rules") fd ["text"] (spF K 1 (F_readR4 K)) := by
  refine fn_wN Fd sc_read_rules fun cdv A outer s H E rs S QR QE c tk hc hl hF => ?_
  obtain ⟨x, rfl, hx, q, qe⟩ := hF
  have hne : Txt.split x (Str.ofString "\n") ≠ [] := by
    obtain ⟨a, b, e⟩ := split_neN x
    rw [e]
    exact List.cons_ne_nil _ _
  obtain ⟨l, last, hsp⟩ := last_cases hne
  have hfew := split_fewN x
  have hsh := split_shortN x
  rw [hsp] at hfew hsh
  rw [List.length_append] at hfew
  have hfew : l.length + 1 ≤ x.length + 1 := hfew
  have hR : readR x = if last = Str.ofString "" then rowsIn l else none := by
    unfold readR
    rw [hsp, List.getLast?_concat, List.dropLast_concat]
    by_cases h : last = Str.ofString ""
    · rw [if_pos h, if_pos (by rw [h])]
    · rw [if_neg h, if_neg (fun z => h (Option.some.inj z))]
  have qn : readR x = none → ∀ L, BackX S.length (S ++ L) (ga K "NoRules") QE := fun z L => backx_drop L hc (qe (by unfold okR; rw [z])) rfl
  refine ss_cons (ws_set 1 c.nd (r := .o S.length) (S1 := S ++ [.lst ((l.map PyData.str).map .d ++ [.d (.str last)])]) (Ev.is2 (ev_splitN (ev_name 0) ev_str rfl (by omega)) rfl (by rw [hsp, List.map_append, List.map_append] <;> rfl)) ?_)
  have pop : ∀ {X : Cx} {G : Gam} {e : Expr} {p1 p2 p3 : Pos}, True := fun {_ _ _ _ _ _} => trivial
  by_cases hlast : last = Str.ofString ""
  · rw [if_pos hlast] at hR
    refine ss_cons (ws_if (k1 := decide (l.length < 3)) (S1 := S ++ [.lst ((l.map PyData.str).map .d)]) (EvT.is (evt_w (evw_orF (S1 := S ++ [.lst ((l.map PyData.str).map .d)]) (EvT.is (evt_neT (Ev.is2 (ev_pop (y := .d (.str last)) (ev_name 1) (get_endR _ _) (by rw [List.length_append]; simp)) rfl (by rw [set_endR, List.dropLast_concat])) ev_str) (by rw [decide_eq_true hlast] <;> rfl)) (evw_or1 (evt_lt (ev_lenA (z_len T) (ev_name 1) (ls_own (get_endR _ _))) ev_int)))) (by rw [List.length_map]; exact decide_eq_decide.mpr (by omega))) (fun h => ?_) (fun h => ss_nil ?_))
    · have h : l.length < 3 := of_decide_eq_true h
      refine ss_cons (ws_raiseN c tk (x_NoRules T) (qn ?_ _))
      rw [hR]
      unfold rowsIn
      rw [if_pos h]
    have h3 : ¬ l.length < 3 := of_decide_eq_false h
    have hR2 : rowsIn l = match rowR (Str.ofString "gap") 1 (l.getD 0 (Str.ofString "")), rowR (Str.ofString "width") 1 (l.getD 1 (Str.ofString "")), rowR (Str.ofString "rim") 1 (l.getD 2 (Str.ofString "")), keepsR (l.drop 3) with
      | some g, some w, some r, some ks => some (g, w, r, ks)
      | _, _, _, _ => none := by
      unfold rowsIn
      rw [if_neg h3] <;> rfl
    have xl : ∀ i, i < l.length → (l.getD i (Str.ofString "")).length ≤ 90000 := fun i hi => by
      rw [List.getD_eq_getElem?_getD, List.getElem?_eq_getElem hi]
      exact Nat.le_trans (hsh _ (List.mem_append_left _ (List.getElem_mem hi))) hx
    refine ss_cons (ws_setX 2 c.nd (Qr := fun r S' => S' = S ++ [.lst ((l.map PyData.str).map .d)] ∧ ∃ ns, rowR (Str.ofString "gap") 1 (l.getD 0 (Str.ofString "")) = some ns ∧ r = .d (.list (intsD ns))) (Qx := fun C S' => C = ga K "NoRules" ∧ S' = S ++ [.lst ((l.map PyData.str).map .d)] ∧ rowR (Str.ofString "gap") 1 (l.getD 0 (Str.ofString "")) = none) (evx_callN c tk (okN_read_row T) (by decide) (eva_cons (ev_ixA (ds := l.map .str) (d := .str (l.getD 0 (Str.ofString ""))) (ev_name 1) ev_int (ls_own (get_endR _ _)) (atI_nat (k := 0) rfl (strs_at (by omega)))) (eva_cons ev_str (eva_cons ev_int eva_nil))) rfl (fun QR QE k1 k2 => ⟨_, _, 1, rfl, xl 0 (by omega), fun ns h => k1 _ _ ⟨rfl, ns, h, rfl⟩, fun h => k2 _ _ ⟨rfl, rfl, h⟩⟩)) ?_ ?_)
    rotate_left
    · rintro _ _ ⟨rfl, rfl, z⟩
      exact qn (by rw [hR, hR2, z]) _
    rintro _ _ ⟨rfl, g, hg, rfl⟩
    refine ss_cons (ws_setX 3 c.nd (Qr := fun r S' => S' = S ++ [.lst ((l.map PyData.str).map .d)] ∧ ∃ ns, rowR (Str.ofString "width") 1 (l.getD 1 (Str.ofString "")) = some ns ∧ r = .d (.list (intsD ns))) (Qx := fun C S' => C = ga K "NoRules" ∧ S' = S ++ [.lst ((l.map PyData.str).map .d)] ∧ rowR (Str.ofString "width") 1 (l.getD 1 (Str.ofString "")) = none) (evx_callN c tk (okN_read_row T) (by decide) (eva_cons (ev_ixA (ds := l.map .str) (d := .str (l.getD 1 (Str.ofString ""))) (ev_name 1) ev_int (ls_own (get_endR _ _)) (atI_nat (k := 1) rfl (strs_at (by omega)))) (eva_cons ev_str (eva_cons ev_int eva_nil))) rfl (fun QR QE k1 k2 => ⟨_, _, 1, rfl, xl 1 (by omega), fun ns h => k1 _ _ ⟨rfl, ns, h, rfl⟩, fun h => k2 _ _ ⟨rfl, rfl, h⟩⟩)) ?_ ?_)
    rotate_left
    · rintro _ _ ⟨rfl, rfl, z⟩
      exact qn (by rw [hR, hR2, hg, z]) _
    rintro _ _ ⟨rfl, wd, hwd, rfl⟩
    refine ss_cons (ws_setX 4 c.nd (Qr := fun r S' => S' = S ++ [.lst ((l.map PyData.str).map .d)] ∧ ∃ ns, rowR (Str.ofString "rim") 1 (l.getD 2 (Str.ofString "")) = some ns ∧ r = .d (.list (intsD ns))) (Qx := fun C S' => C = ga K "NoRules" ∧ S' = S ++ [.lst ((l.map PyData.str).map .d)] ∧ rowR (Str.ofString "rim") 1 (l.getD 2 (Str.ofString "")) = none) (evx_callN c tk (okN_read_row T) (by decide) (eva_cons (ev_ixA (ds := l.map .str) (d := .str (l.getD 2 (Str.ofString ""))) (ev_name 1) ev_int (ls_own (get_endR _ _)) (atI_nat (k := 2) rfl (strs_at (by omega)))) (eva_cons ev_str (eva_cons ev_int eva_nil))) rfl (fun QR QE k1 k2 => ⟨_, _, 1, rfl, xl 2 (by omega), fun ns h => k1 _ _ ⟨rfl, ns, h, rfl⟩, fun h => k2 _ _ ⟨rfl, rfl, h⟩⟩)) ?_ ?_)
    rotate_left
    · rintro _ _ ⟨rfl, rfl, z⟩
      exact qn (by rw [hR, hR2, hg, hwd, z]) _
    rintro _ _ ⟨rfl, r, hr, rfl⟩
    refine ss_cons (ws_setLcEN (own := [("row", 6)]) (rs := ((l.drop 3).map PyData.str).map .d) (C0 := ga K "NoRules") 5 c tk (blkOk_by (by rfl)) (evi_list (ds := (l.drop 3).map .str) (Ev.is (ev_slA (lo := some _) (hi := none) (ds := l.map .str) (il := some 3) (ih := none) (ev_name 1) (ls_own (get_endR _ _)) ev_int trivial) (by rw [show (3 : Int) = ((3 : Nat) : Int) from rfl, cutD_from, List.map_drop]))) (tg_name 6 c.nd) (fun r => match r with | .d (.str x) => (keepR x).map fun ns => PyData.tuple (intsD ns) | _ => none) (fun _ => trivial) (fun rr hrr => ?_) (by rw [List.length_map, List.length_map, List.length_drop]; omega) (fun ys hys => ?_) (fun rr hrr hz L => ?_))
    · obtain ⟨d, hd, rfl⟩ := List.mem_map.mp hrr
      obtain ⟨v, hv, rfl⟩ := List.mem_map.mp hd
      refine ⟨_, rfl, fun L s H Ca cl fp f W' c' tk' => ?_⟩
      refine evx_tupleD (z_tuple T) (Q1 := fun r' S' => S' = S ++ [.lst ((l.map PyData.str).map .d)] ++ L ∧ ∃ ns, keepR v = some ns ∧ r' = .d (.list (intsD ns))) (evx_callN c' tk' (okN_read_row T) (by decide) (eva_cons (ev_name 6) (eva_cons ev_str (eva_cons ev_int eva_nil))) rfl (fun QR QE k1 k2 => ⟨v, _, 5, rfl, Nat.le_trans (hsh v (List.mem_append_left _ (List.mem_of_mem_drop hv))) hx, fun ns h => k1 _ _ ⟨rfl, ns, h, rfl⟩, fun h => k2 _ _ ⟨rfl, rfl, by show (keepR v).map _ = none; unfold keepR; rw [h] <;> rfl⟩⟩)) (fun r' S' hr' => ?_)
      obtain ⟨rfl, ns, hns, rfl⟩ := hr'
      exact ⟨_, rfl, rfl, _, by show (keepR v).map _ = _; rw [hns] <;> rfl, rfl⟩
    · rw [List.map_map, List.map_map] at hys
      obtain ⟨ks, e1, e2, e3⟩ := keepsR_some (l := l.drop 3) (ys := ys) hys
      subst e2
      have hR3 : readR x = some (g, wd, r, ks) := by rw [hR, hR2, hg, hwd, hr, e1]
      have hO : okR x = rulesOk (.int (g.getD 0 0)) (.int (wd.getD 0 0)) (.int (r.getD 0 0)) (ks.map intsD) := by
        unfold okR
        rw [hR3]
      have l1 := one_of (rowR_len hg); have l2 := one_of (rowR_len hwd); have l3 := one_of (rowR_len hr)
      have at0 : ∀ {k : List Int}, k = [k.getD 0 0] → atI (intsD k) 0 = some (.int (k.getD 0 0)) := fun {k} h => by
        rw [h]; exact atI_nat (k := 0) rfl rfl
      have hkl : ks.length ≤ 90000 := by
        have := congrArg List.length hys
        rw [List.length_map, List.length_map, List.length_map, List.length_map, List.length_drop] at this
        omega
      refine ss_cons (ws_retX (Qr := fun r' S' => r' = .o (S.length + 1) ∧ S' = S ++ [.lst ((l.map PyData.str).map .d)] ++ [.ins (ga K "Rules") (rulF (S.length + 2) (.int (g.getD 0 0)) (.int (wd.getD 0 0)) (.int (r.getD 0 0)))] ++ [.lst (((ks.map intsD).map .tuple).map .d)] ∧ okR x = true) (Qx := fun C S' => C = ga K "NoRules" ∧ S' = S ++ [.lst ((l.map PyData.str).map .d)] ∧ okR x = false) ?_ ?_ ?_)
      · have hlen1 : (S ++ [Own.lst ((l.map PyData.str).map Cu.It.d)]).length = S.length + 1 := by simp
        refine evx_makeN c tk (okN_Rules___init__ T) (by decide) (eva_cons (ev_ixL (ds := intsD g) (d := .int (g.getD 0 0)) (ev_name 2) ev_int (at0 l1)) (eva_cons (ev_ixL (ds := intsD wd) (d := .int (wd.getD 0 0)) (ev_name 3) ev_int (at0 l2)) (eva_cons (ev_ixL (ds := intsD r) (d := .int (r.getD 0 0)) (ev_name 4) ev_int (at0 l3)) (eva_cons (ev_name 5) eva_nil)))) rfl (fun QR QE k1 k2 => ?_)
        refine ⟨S ++ [.lst ((l.map PyData.str).map .d)], _, _, _, _, ks.map intsD, rfl, rfl, rfl, rfl, rfl, fun _ => rfl, by rw [List.length_map]; omega, fun ds hds => ?_, fun hok => k1 _ ⟨by rw [hlen1], by rw [hlen1] <;> rfl, by rw [hO]; exact hok⟩, fun hno => k2 _ _ (S ++ [.lst ((l.map PyData.str).map .d)]) _ rfl (Nat.le_refl _) (fun _ => cls_app hc clo_data) ⟨rfl, rfl, by rw [hO]; exact hno⟩⟩
        obtain ⟨k, hk, rfl⟩ := List.mem_map.mp hds
        exact ⟨nb_intsD k, by unfold intsD; rw [List.length_map, e3 k hk]; decide⟩
      · rintro _ _ ⟨rfl, rfl, z⟩
        exact back_same (by show S.length + 1 < _; simp) (q _ _ _ _ hR3 z _) (by simp)
      · rintro _ _ ⟨rfl, rfl, z⟩
        exact backx_drop _ hc (qe z) rfl
    · obtain ⟨d, hd, rfl⟩ := List.mem_map.mp hrr
      obtain ⟨v, hv, rfl⟩ := List.mem_map.mp hd
      have hk : keepR v = none := by
        cases e : keepR v with
        | none => rfl
        | some k =>
          have hz : (keepR v).map (fun ns => PyData.tuple (intsD ns)) = none := hz
          rw [e] at hz; cases hz
      rw [List.append_assoc]
      exact qn (by rw [hR, hR2, hg, hwd, hr, keepsR_none hv hk]) _
  · rw [if_neg hlast] at hR
    refine ss_cons (ws_if (k1 := true) (S1 := S ++ [.lst ((l.map PyData.str).map .d)]) (evt_w (evw_orT (EvT.is (evt_neT (Ev.is2 (ev_pop (y := .d (.str last)) (ev_name 1) (get_endR _ _) (by rw [List.length_append]; simp)) rfl (by rw [set_endR, List.dropLast_concat])) ev_str) (by rw [decide_eq_false hlast] <;> rfl)))) (fun _ => ?_) (fun z => nomatch z))
    exact ss_cons (ws_raiseN c tk (x_NoRules T) (qn hR _))
theorem okN_read_rules (T : TT K mg) : OkFN P w K mg base 6 "read_rules" ["text"] [] (F_readR4 K) := okFN_of (g_read_rules T) (d_read_rules T) (fun _ _ _ _ _ _ us hl => match us, hl with | [_], _ => rfl) fun fd Fd => fnN_read_rules T Fd
end
end Pf
/-! CuZ: f-strings of numbers, int of a truth, a text within a text, try without a name. -/
namespace Cu
open PySem PySem.Spec PyProof.Rows L2
section
variable {X : Cx} {W : WX} {k : Nat} {G : Gam} {S S1 S2 : Sto} {P : Post} {a b o e : Expr} {es : List Expr} {r : It} {p pos pos' np apos cpos p2 : Pos} {ds : List PyData} {x y acc out : Str} {n : Int} {body suite : List Stmt}
/-- int(b), b a truth -/
theorem ev_intB {t : Bool} (hm : X.mg "int" = none) (ha : Ev X a G S (.d (.bool t)) S1) (hg : Gl X "int" := by rfl) (he : starEach [a] X.env = (false, eval a X.env) :: starEach [] X.env := by rfl) : Ev X (.Call (.Name "int" p) [a] [] pos) G S (.d (.int (if t then 1 else 0))) S1 :=
  ev_ty call_int1 hm (by decide +kernel) (eva_cons ha eva_nil he) (fun M H vs Q s hvs q => by
    obtain ⟨v, rfl, hv⟩ := vr1 hvs
    exact .inr ⟨t, by rw [vr_bool hv], q _ M H Ext.refl s (Fz.int _)⟩) hg (by decide) (by decide) he rfl
/-- the one text lies in the other -/
def strIn (x y : Str) : Bool := !(Builtin.Str.occurrences y x 0 y.length 1).isEmpty
theorem evt_inStr (ha : Ev X a G S (.d (.str x)) S1) (hb : Ev X b G S1 (.d (.str y)) S2) (hm : behindInMarks .In b = false := by rfl) : EvT X (.Compare a [.In] [b] pos) G S (strIn x y) S2 := evt_cmp op_in_str ha hb (fun M H v u Q s hv hu q => ⟨x, y, vr_str hv, vr_str hu, q _ M H Ext.refl s (Fz.bl _)⟩) hm
theorem ev_inStr (ha : Ev X a G S (.d (.str x)) S1) (hb : Ev X b G S1 (.d (.str y)) S2) (hm : behindInMarks .In b = false := by rfl) : Ev X (.Compare a [.In] [b] pos) G S (.d (.bool (strIn x y))) S2 := ev_cmp op_in_str ha hb (fun M H v u Q s hv hu q => ⟨x, y, vr_str hv, vr_str hu, q _ M H Ext.refl s (Fz.bl _)⟩) hm
/-- {n} of an f-string -/
theorem ev_fmtI (ha : Ev X a G S (.d (.int n)) S1) (hz : n.natAbs.log2 < 1920) : Ev X (.FormattedValue a (-1) none pos) G S (.d (.str (toString n))) S1 := fun M σ H Q s q =>
  toE (pe_fmt pe_s) (ha M σ H _ s fun v M1 H1 e1 t1 r1 => .inr ⟨n, vr_int r1, hz, q _ M1 H1 e1 t1 (Fz.str _)⟩)
/-- the parts of an f-string, one behind the other -/
def EvJ (X : Cx) (es : List Expr) (G : Gam) (S : Sto) (acc out : Str) (S' : Sto) : Prop := ∀ (M : List Addr) (σ : Sig) (H : Hp) (Q : Str → Hp → Prop), Stt X.K M H S G σ →
  (∀ M' H', Ext M H M' H' → Stt X.K M' H' S' G σ → Q out H') → tJs (es.map (sE X)) acc σ H Q
theorem evj_nil : EvJ X [] G S acc acc S := fun M σ H Q s q => q M H Ext.refl s
theorem evj_cons (he : Ev X e G S (.d (.str y)) S1) (hr : EvJ X es G S1 (acc ++ y) out S2) (hz : (acc ++ y).length ≤ 1000000) : EvJ X (e :: es) G S acc out S2 := fun M σ H Q s q =>
  he M σ H _ s fun v M1 H1 e1 t1 r1 => ⟨y, vr_str r1, by rw [sizeLine_eq]; omega, hr M1 σ H1 Q t1 fun M2 H2 e2 t2 => q M2 H2 (e1.trans e2) t2⟩
theorem pj_s : ∀ es : List Expr, PJ X es (es.map (sE X))
  | [] => .nil
  | _ :: es => .cons pe_s (pj_s es)
theorem ev_fstr {v1 v2 : Expr} {rest : List Expr} (h : EvJ X (v1 :: v2 :: rest) G S Str.empty out S1) : Ev X (.JoinedStr (v1 :: v2 :: rest) pos) G S (.d (.str out)) S1 := fun M σ H Q s q =>
  toE (pe_joined (pj_s _)) (h M σ H _ s fun M1 H1 e1 t1 => q _ M1 H1 e1 t1 (Fz.str _))
/-- try: .. except x: suite; the suite raises nothing -/
theorem ws_try_only {x : Str} {c0 : Value} {b₀ : Stmt} (c : Cxo X W k) (hs : X.stack = X.env :: X.outer) (hf : X.env.frame = some X.env.locals) (hc : Names X x c0) (Qx : Addr → Gam → Sto → Prop)
    (hb : ∀ (W' : WX) (pn : List (Addr × Obj)) (xe : Value → Shared → Prop), Cxo (trX X pn xe) W' k → WSs (trX X pn xe) W' body G S { P with xc := Qx })
    (hsu : ∀ C G' S', Qx C G' S' → PySem.W.exmOne X.K (.ref C) c0 = some true ∧ ∀ (ad : Addr) (oe : Obj) (pn : List (Addr × Obj)), Zc (.ref C) none oe → (∃ vs, oe.data = .fields vs) →
      WSs (suX X ad oe pn) (fun _ _ _ _ => False) (b₀ :: suite) G' S' { nx := P.nx, rt := P.rt, bk := P.bk, ct := P.ct }) : WS X W (.Try body [.ExceptHandler (some (.Name x np)) none (b₀ :: suite) pos'] [] [] pos) G S P := fun M σ H D s m =>
  toS (ps_try_only (tb := fun W' => fun D σ H => ∀ pn xe, Takes (X.tr pn xe) W' → PassesOwn (model X.prog X.w) X.A X.env xe → sSs (X.tr pn xe) body D σ H) (ts := fun ad cls d => fun D σ H => ∀ oe pn, Zc cls d oe → (∃ vs, oe.data = .fields vs) → sSs (suX X ad oe pn) (b₀ :: suite) D σ H) hs hf hc c.tk
    (fun W' pn xe tk po => ⟨fun pins s1 σ1 H1 D1 I1 h1 => h1 pn xe tk po pins s1 I1⟩) (fun ad oe cls d pn hz hd => ⟨fun pins s1 σ1 H1 D1 I1 h1 => h1 oe pn hz hd pins s1 I1⟩)) (by
    intro pn xe tk po
    refine hb _ pn xe ⟨c.calm, c.nd, tk, po, c.hr⟩ M σ H D s ⟨m.nx, m.rt, m.bk, m.ct, fun M' σ' H' G' C S' e1 t1 q1 => ?_⟩
    obtain ⟨h1, h2⟩ := hsu C G' S' q1
    refine ⟨true, h1, fun _ ad had oe pn' hz hd => ?_, fun q => (nomatch q)⟩
    refine h2 ad oe pn' hz hd M' _ H' _ t1 ⟨fun M2 σ2 H2 G2 S2 e2 t2 q2 => m.nx M2 _ H2 _ S2 (e1.trans e2) t2 q2, fun v M2 H2 r S2 e2 => m.rt v M2 H2 r S2 (e1.trans e2), fun M2 σ2 H2 G2 S2 e2 t2 q2 => m.bk M2 _ H2 _ S2 (e1.trans e2) t2 q2, fun M2 σ2 H2 G2 S2 e2 t2 q2 => m.ct M2 _ H2 _ S2 (e1.trans e2) t2 q2, fun _ _ _ _ _ _ _ _ q2 => q2.elim⟩)
end
end Cu
/-! CvA: enumerate of a text. -/
namespace L2
open PySem PySem.Spec PyProof.Rows
/-- the signs of a text, each in a new pair with its number -/
def Itq (x : Str) : It := ⟨fun i _ => i < x.cps.size, fun i H v H' => ∃ T c, v = .ref T ∧ H T = none ∧ H' = upd H T (.tup [.int (i : Nat), .str ⟨#[c]⟩]) ∧ x.cps[i]? = some c, fun i _ => x.cps.size ≤ i⟩
theorem enumQ_end {prog : Program} {w : World} {A : Around} {E : Value → Shared → Prop} {s : Shared} {e it : Addr} {x : Str} {t : Tok} {i : Int} {j : Nat} {old : Value} {Q : Option Value → Shared → Prop} (hh : A.handled = none) (he : IsEnum s.heap e it i old) (hit : s.heap.IsStrIter it (strIterType x) x t j) (hx : x.cps[j]? = none)
    (hQ : ∀ h', Heap.ExtBut it s.heap h' → Q none { s with heap := h' }) : wpAny (model prog w) A (pyNext (.ref e)) Q E s := by
  have hT : s.TypeIs (.ref e) "enumerate" := ⟨_, he, rfl⟩
  have nx : ∀ {A' : Around} {Q : Value → Shared → Prop} {E : Value → Shared → Prop}, A'.handled = none → (∀ h' e, Heap.ExtBut it s.heap h' → (∃ o, h'.get? e = some o ∧ o.cls = .type "StopIteration") → E (.ref e) { s with heap := h' }) → wpAny (model prog w) A' (Builtin.SmallTypes.nextOf (.ref it)) Q E s := by
    intro A' Q E h1 h2
    cases ha : x.cps.all (· < 128)
    · simp only [strIterType, ha, Bool.false_eq_true, if_false] at hit
      exact wpAny_nextOf_wide_end h1 hit hx h2
    · simp only [strIterType, ha, if_true] at hit
      exact wpAny_nextOf_ascii_end h1 hit hx h2
  unfold pyNext
  refine wpAny_bind (wpAny_attempt (wpAny_callSpecial?_slot (name := Str.ofString "__next__") hT F.slot_enumerate_next
    (wpAny_call_entry F.slot_enumerate_next hT F.entry_enumerate_next ?_ (F.args_enumerate_next_1 _))))
  show wpAny _ _ (field (.ref e) 2 >>= _) _ _ _
  refine wpAny_bind (wpAny_field he rfl (x := .ref it) rfl ?_)
  refine wpAny_bind (nx hh fun h' y he' hx' => ?_)
  obtain ⟨o, ho, hc⟩ := hx'
  refine wpAny_bind (wpAny_isInstance (T := "StopIteration") (b := true) ⟨o, ho, hc⟩ isSubtype_stop ?_)
  exact wpAny_pure (hQ _ he')
theorem turn_enumQ {P : Program} {w : World} {K : PySem.W.Frag} {elts : List Expr} {kk : Nat} {tpos : Pos} (x : Str) (t : Tok) (e it : Addr) :
    Turn P w K (.Tuple elts kk tpos) (Itq x) [e, it] e (fun i h => (∃ old, IsEnum h e it ((i : Nat) : Int) old) ∧ h.IsStrIter it (strIterType x) x t i ∧ e ≠ it) where
  mem := by simp
  obj := fun i h st b hb => by
    obtain ⟨⟨old, he⟩, ⟨o, ho, hc, hd⟩, _⟩ := st
    have e' : b = e ∨ b = it := by simpa using hb
    rcases e' with z | z
    · rw [z]; exact ⟨_, he, fun v q => nomatch q⟩
    · rw [z]; exact ⟨o, ho, fun v q => by rw [hd] at q; cases q⟩
  keep := fun i h h' st k => let ⟨⟨old, he⟩, ⟨o, ho, r⟩, hne⟩ := st; ⟨⟨old, k e (by simp) _ he⟩, ⟨o, k it (by simp) o ho, r⟩, hne⟩
  item := by
    intro X hP hw hK hc i pins s σ H E I hf st hg
    subst hP hw hK
    obtain ⟨⟨old, he⟩, hit, hne⟩ := st
    have hh : X.A.in1.handled = none := I.ok.hd hc
    have D : Draws X.prog X.w X.A.in1 it [it] x.cps.size _ _ := Draws.text hh it x t
    have hel : e < s.heap.objs.size := Heap.lt_size he
    refine wpAny_pyNext_enum_itemD D he hit hg hne (by simpa using hne) fun v h' tk hv ho hit' hT hsz hk => ?_
    obtain ⟨c, u, hx, rfl⟩ := hv
    refine ⟨_, rfl, wpAny_letOwnedTupleGo_enum (s := { s with heap := h', toks := tk + 1 }) ho fun h'' he' sb => ?_⟩
    have hT2 : h''.get? s.heap.objs.size = some { cls := .type "tuple", data := .seq #[.int i tk, .str ⟨#[c]⟩ u] } := (sb.2 _ (Nat.ne_of_gt hel)).trans hT
    have new : ObjOk X.prog X.w (upd H s.heap.objs.size (.tup [.int (i : Nat), .str ⟨#[c]⟩])) h'' s.heap.objs.size (.tup [.int (i : Nat), .str ⟨#[c]⟩]) :=
      ⟨by show 2 ≤ sizeLine; decide, [.int i tk, .str ⟨#[c]⟩ u], .cons ⟨_, rfl⟩ (.cons ⟨_, rfl⟩ .nil), ⟨_, hT2, rfl, _, rfl⟩⟩
    have I1 : Inv X pins σ (upd H s.heap.objs.size (.tup [.int (i : Nat), .str ⟨#[c]⟩])) { s with heap := h'', toks := tk + 1 } :=
      I.turnedNew (ch := [e, it]) (fun b ob hb q => (sb.2 b (fun z => hb (by simp [z]))).trans (hk b ob (fun z => hb (by simp [z])) (fun z => hb (by simp [z])) q)) hf (Nat.le_refl _) new
    obtain ⟨oi, hoi, ri⟩ := hit'
    refine ⟨.ref s.heap.objs.size, _, I1, rfl, ⟨_, c, rfl, I.hok.fresh (Nat.le_refl _), rfl, hx⟩, ⟨⟨.str ⟨#[c]⟩ u, ?_⟩, ⟨oi, (sb.2 it (Ne.symm hne)).trans hoi, ri⟩, hne⟩, fun b hb => ?_⟩
    · have e1 : ((i + 1 : Nat) : Int) = (i : Int) + 1 := by omega
      rw [e1]; exact he'
    · have hb' : b < s.heap.objs.size := by
        have e' : b = e ∨ b = it := by simpa using hb
        rcases e' with z | z
        · rw [z]; exact hel
        · rw [z]; obtain ⟨_, q, _⟩ := hit; exact Heap.lt_size q
      rw [upd_ne (Nat.ne_of_lt hb')]
      exact (hf b hb).1
  done := by
    intro X hP hw hK hc i pins s σ H E I hf st hg
    subst hP hw hK
    obtain ⟨⟨old, he⟩, hit, hne⟩ := st
    obtain ⟨f0, f1, f2, f3, f4, f5⟩ := hf it (by simp)
    exact enumQ_end (I.ok.hd hc) he hit (Array.getElem?_eq_none hg) fun h' eb => ⟨rfl, I.turned (t' := s.toks) (fun b o hb q => eb b o hb q) f0 f1 f3 f4 f5⟩
  self := fun A i s Q E st h => let ⟨⟨_, he⟩, _⟩ := st; wpAny_pyIter_enum he h
def iEnumQ (ta : TA) : TI := fun σ H R => ta σ H fun vs H1 => ∃ x, vs = [.str x] ∧ R (Itq x) H1
theorem pi_enumQ {X : Cx} {e : Expr} {ta : TA} {p pos tpos : Pos} {elts : List Expr} {kk : Nat} (hg : Gl X "enumerate") (hm : X.mg "enumerate" = none) (ha : PA X [e] ta) (hs : starEach [e] X.env = [(false, eval e X.env)] := by rfl) :
    PI X (.Tuple elts kk tpos) (.Call (.Name "enumerate" p) [e] [] pos) (iEnumQ ta) := by
  refine ⟨fun pins s σ H R I h => ?_⟩
  refine Call_ (ld_blt I hg hm boot_enumerate (PyProof.Rows.callWith_type1 (thn (ha.run pos pins s σ H _ I h) fun us s1 ⟨vs, H1, I1, r1, q1⟩ => ?_) hs rfl))
  obtain ⟨x, ex, q⟩ := q1
  subst ex
  cases r1 with
  | cons r rr =>
    cases rr
    obtain ⟨t, rfl⟩ := r
    refine call_enumerate_str fun h' he hit hsz hk => wpAny_pyIter_enum he ?_
    have I2 : Inv X pins σ H1 { s1 with heap := h' } := I1.kept (t' := s1.toks) hk
    refine ⟨s1.heap.objs.size + 1, [s1.heap.objs.size + 1, s1.heap.objs.size], _, _, H1, rfl, I2, turn_enumQ x t (s1.heap.objs.size + 1) s1.heap.objs.size, ⟨⟨.none, he⟩, hit, Nat.succ_ne_self _⟩, fun b hb => ?_, q⟩
    have e' : b = s1.heap.objs.size + 1 ∨ b = s1.heap.objs.size := by simpa using hb
    have hle : s1.heap.objs.size ≤ b := by
      rcases e' with z | z
      · rw [z]; exact Nat.le_add_right _ _
      · rw [z]; exact Nat.le_refl _
    exact I1.fpOk hle (I1.hok.fresh hle)
end L2
namespace Cu
open PySem PySem.Spec PyProof.Rows L2
section
variable {X : Cx} {W : WX} {k : Nat} {G : Gam} {S S1 S2 : Sto} {p pos pos' tpos : Pos}
theorem wk_enumQ {K : PySem.W.Frag} {M1 : List Addr} {H1 : Hp} {x : Str} : Wk K (Itq x) anyS M1 H1 ((signs x).zipIdx.map fun y => It.d (.tuple [.int (y.2 : Nat), y.1])) where
  go := fun i M' H' S' hi e s _ => by rw [List.length_map, List.length_zipIdx, signs_len] at hi; exact hi
  yl := fun i M' H' S' v H2 r hr e s _ y => by
    obtain ⟨T, c, rfl, hT, rfl, hc⟩ := y
    unfold signs at hr
    rw [List.getElem?_map, List.getElem?_zipIdx, List.getElem?_map, Array.getElem?_toList, hc] at hr
    cases hr
    have e2 : Ext M' H' M' (upd H' T (.tup [.int ((0 + i : Nat) : Int), .str ⟨#[c]⟩])) := Ext.fresh hT
    rw [Nat.zero_add] at e2
    refine ⟨e2, s.fresh hT, ?_⟩
    show Fz M' _ (.ref T) (.tuple [.int ((0 + i : Nat) : Int), .str ⟨#[c]⟩])
    rw [Nat.zero_add]
    exact Fz.tup ⟨upd_same, s.nin hT⟩ (.cons (Fz.int _) (.cons (Fz.str _) .nil))
  st := fun i M' H' S' hi e s _ => by rw [List.length_map, List.length_zipIdx, signs_len] at hi; exact hi
/-- enumerate(x), x a text -/
theorem evi_enumQ {elts : List Expr} {kk : Nat} {a1 : Expr} {x : Str} (hm : X.mg "enumerate" = none) (hi : Ev X a1 G S (.d (.str x)) S1) (hg : Gl X "enumerate" := by rfl) (hst : starEach [a1] X.env = [(false, eval a1 X.env)] := by rfl) :
    EvI X (.Tuple elts kk tpos) (.Call (.Name "enumerate" p) [a1] [] pos') G S ((signs x).zipIdx.map fun y => It.d (.tuple [.int (y.2 : Nat), y.1])) anyS S1 :=
  ⟨_, pi_enumQ hg hm pa_s hst, fun M σ H R s q => (eva_cons hi eva_nil hst) M σ H _ s fun vs M1 H1 e1 t1 r1 => by
    obtain ⟨v, rfl, hv⟩ := vr1 r1
    exact ⟨x, by rw [vr_str hv], q M1 H1 _ e1 t1 wk_enumQ⟩⟩
theorem ev_ltLe {a b : Expr} {i l h : Int} {e3 : Expr} (ha : Ev X a G S (.d (.int l)) S1) (hb : Ev X b G S1 (.d (.int i)) S2) (hc : l < i → Ev X e3 G S2 (.d (.int h)) S2) (hm : lastMarks [.Lt, .LtE] [b, e3] = false := by rfl) : Ev X (.Compare a [.Lt, .LtE] [b, e3] pos) G S (.d (.bool (decide (l < i) && decide (i ≤ h)))) S2 :=
  ev_chain op_lt op_le ha hb (rw_intB (f := fun i j => decide (i < j))) (fun z => hc (of_decide_eq_true z)) (fun _ => rw_intB (f := fun i j => decide (i ≤ j))) hm
/-- enumerate(xs), xs owned data that stays -/
theorem evi_enumO {elts : List Expr} {kk n : Nat} {a1 : Expr} {ds : List PyData} (hm : X.mg "enumerate" = none) (hi : Ev X a1 G S (.o n) S1) (hn : S1[n]? = some (.lst (ds.map .d))) (hg : Gl X "enumerate" := by rfl) (hst : starEach [a1] X.env = [(false, eval a1 X.env)] := by rfl) :
    EvI X (.Tuple elts kk tpos) (.Call (.Name "enumerate" p) [a1] [] pos') G S (ds.zipIdx.map fun x => It.d (.tuple [.int (x.2 : Nat), x.1])) (fun S' => S'[n]? = some (.lst (ds.map .d))) S1 :=
  ⟨_, pi_enum hg hm pa_s hst, fun M σ H R s q => (eva_cons hi eva_nil hst) M σ H _ s fun vs M1 H1 e1 t1 r1 => by
    obtain ⟨v, rfl, hv⟩ := vr1 r1
    obtain ⟨ad, had, ev⟩ := hv
    obtain ⟨vs0, hv0, hr0⟩ := t1.sto.rep n ad _ had hn
    refine ⟨ad, vs0, by rw [ev], .of hv0, q M1 H1 _ e1 t1 ⟨fun i M' H' S' hi e s hC => ?_, fun i M' H' S' x H2 r hr e s hC y => ?_, fun i M' H' S' hi e s hC => ?_⟩⟩
    · obtain ⟨vs, hv, hr⟩ := s.rep n ad _ (e.get had) hC
      exact ⟨vs, vs[i]'(by rw [hr.len, List.length_map]; simpa using hi), .of hv, List.getElem?_eq_getElem _⟩
    · obtain ⟨vs, hv, hr'⟩ := s.rep n ad _ (e.get had) hC
      obtain ⟨T, u, rfl, hT, rfl, y⟩ := y
      have hx := y vs (.of hv)
      obtain ⟨r', h1, h2⟩ := reps_at hr' hx
      rw [List.getElem?_map] at hr h1
      rw [List.getElem?_zipIdx] at hr
      cases ed : ds[i]? with
      | none => rw [ed] at h1; cases h1
      | some d =>
      rw [ed] at h1 hr
      cases h1
      cases hr
      have e2 : Ext M' H' M' (upd H' T (.tup [.int ((0 + i : Nat) : Int), u])) := Ext.fresh hT
      rw [Nat.zero_add] at e2
      refine ⟨e2, s.fresh hT, ?_⟩
      show Fz M' _ (.ref T) (.tuple [.int ((0 + i : Nat) : Int), d])
      rw [Nat.zero_add]
      exact Fz.tup ⟨upd_same, s.nin hT⟩ (.cons (Fz.int _) (.cons (Fz.ext e2 h2) .nil))
    · obtain ⟨vs, hv, hr⟩ := s.rep n ad _ (e.get had) hC
      refine ⟨vs, .of hv, ?_⟩
      rw [hr.len, List.length_map]
      simpa using hi⟩
theorem evx_andX {a b : Expr} {es : List Expr} {Q1 Qr : It → Sto → Prop} {Qx : Addr → Sto → Prop} (h : EvX X W a G S Q1 Qx) (hx : ∀ r S1, Q1 r S1 → r = .d (.bool true) ∧ EvX X W (.BoolOp .And (b :: es) pos) G S1 Qr Qx) : EvX X W (.BoolOp .And (a :: b :: es) pos) G S Qr Qx := fun M σ H Q s h1 h2 =>
  toE (pe_and pe_s pe_s) (h M σ H _ s (fun v M1 H1 r S1 e1 s1 r1 q1 => by
    obtain ⟨rfl, hx⟩ := hx r S1 q1
    exact ⟨true, vr_bool r1, iteT (hx M1 σ H1 _ s1 (fun v M' H' r S' e2 => h1 v M' H' r S' (e1.trans e2)) (fun M' H' C S' e2 => h2 M' H' C S' (e1.trans e2)))⟩) h2)
end
end Cu
/-! CvB: range(a, b) of whole numbers of any size. -/
namespace L2
open PySem PySem.Spec PyProof.Rows
theorem turn_long {P : Program} {w : World} {K : PySem.W.Frag} {tg : Expr} (it : Addr) (lo : Int) (n : Nat) : Turn P w K tg (Itr lo n) [it] it (fun i h => IsLongIter h it (lo + (i : Nat) * 1) ((n : Int) - (i : Nat)) 1) where
  mem := by simp
  obj := fun i h st b hb => by
    have e : b = it := by simpa using hb
    subst e
    exact ⟨_, st, fun v z => nomatch z⟩
  keep := fun i h h' st k => k it (by simp) _ st
  item := by
    intro X hP hw hK hc i pins s σ H E I hf st hg
    subst hP hw hK
    obtain ⟨f0, f1, f2, f3, f4, f5⟩ := hf it (by simp)
    have W := Walks.longrange (prog := X.prog) (w := X.w) (I.ok.hd hc) it lo 1 n
    refine W.item i s _ _ hg st fun v h' tk hv st' kk => ?_
    obtain ⟨t, rfl⟩ := hv
    have I1 : Inv X pins σ H { s with heap := h', toks := tk } := I.turned (fun b o hb e => kk b o (by simpa using hb) e) f0 f1 f3 f4 f5
    refine ⟨_, rfl, go_of (s := { s with heap := h', toks := tk }) (n := "longrange_iterator") st' rfl rfl (by decide) ⟨.int (lo + i), H, I1, ⟨t, ?_⟩, ⟨rfl, rfl⟩, st', fun b hb => (hf b hb).1⟩⟩
    rw [Int.mul_one]
  done := by
    intro X hP hw hK hc i pins s σ H E I hf st hg
    subst hP hw hK
    obtain ⟨f0, f1, f2, f3, f4, f5⟩ := hf it (by simp)
    exact wpAny_pyNext_long_end (I.ok.hd hc) st (by have : n ≤ i := hg; omega) fun h' eb => ⟨rfl, I.turned (t' := s.toks) (fun b o hb e => eb b o hb e) f0 f1 f3 f4 f5⟩
  self := fun _ _ _ _ _ st h => wpAny_pyIter_longiter st h
theorem range_itB {X : Cx} {tg : Expr} {pins : List (Addr × Obj)} {σ : St} {H : Hp} {s : Shared} {R : It → Hp → Prop} {E : Value → Shared → Prop} {lo hi : Int} {t u v : Tok} {tk : Nat} (I : Inv X pins σ H s)
    (q : R (Itr lo (hi - lo).toNat) H) : wpAny (model X.prog X.w) X.A (pyIter (.ref s.heap.objs.size)) (PIE X pins σ tg R) E { s with heap := s.heap.push { cls := .type "range", data := .fields #[.int lo t, .int hi u, .int 1 v] }, toks := tk } := by
  have e1 : lo + ((0 : Nat) : Int) * 1 = lo := by simp
  have e2 : (((hi - lo).toNat : Nat) : Int) - ((0 : Nat) : Int) = Builtin.Range.rangeSize lo hi 1 := by rw [rangeSize_one]; split <;> omega
  have I1 : Inv X pins σ H { s with heap := s.heap.push { cls := .type "range", data := .fields #[.int lo t, .int hi u, .int 1 v] }, toks := tk } := I.kept fun b o e => Heap.get?_push_of_some _ e
  have fp : ∀ b ∈ [(s.heap.push { cls := .type "range", data := .fields #[.int lo t, .int hi u, .int 1 v] }).objs.size], FpOk X pins H b := fun b hb => by
    have e : b = (s.heap.push { cls := .type "range", data := .fields #[.int lo t, .int hi u, .int 1 v] }).objs.size := by simpa using hb
    subst e
    exact I1.fpOk (Nat.le_refl _) (I1.hok.fresh (Nat.le_refl _))
  cases hs : Builtin.Range.small lo hi 1 with
  | true =>
    refine wpAny_pyIter_range (IsRange.new ..) hs ?_
    refine ⟨(s.heap.push { cls := .type "range", data := .fields #[.int lo t, .int hi u, .int 1 v] }).objs.size, [(s.heap.push { cls := .type "range", data := .fields #[.int lo t, .int hi u, .int 1 v] }).objs.size], _, _, H, rfl,
      I1.kept (t' := tk) fun b o e => Heap.get?_push_of_some _ e, turn_range _ lo (hi - lo).toNat, ?_, fp, q⟩
    show IsRangeIter _ _ (lo + ((0 : Nat) : Int) * 1) ((((hi - lo).toNat : Nat) : Int) - ((0 : Nat) : Int)) 1
    rw [e1, e2]
    exact Heap.get?_push_size _ rfl
  | false =>
    refine wpAny_pyIter_longrange (IsRange.new ..) hs ?_
    refine ⟨(s.heap.push { cls := .type "range", data := .fields #[.int lo t, .int hi u, .int 1 v] }).objs.size, [(s.heap.push { cls := .type "range", data := .fields #[.int lo t, .int hi u, .int 1 v] }).objs.size], _, _, H, rfl,
      I1.kept (t' := tk) fun b o e => Heap.get?_push_of_some _ e, turn_long _ lo (hi - lo).toNat, ?_, fp, q⟩
    show IsLongIter _ _ (lo + ((0 : Nat) : Int) * 1) ((((hi - lo).toNat : Nat) : Int) - ((0 : Nat) : Int)) 1
    rw [e1, e2]
    exact Heap.get?_push_size _ rfl
def iRng2B (ta : TA) : TI := fun σ H R => ta σ H fun vs H1 => ∃ i j : Int, vs = [.int i, .int j] ∧ R (Itr i (j - i).toNat) H1
theorem pi_range2B {X : Cx} {tg a b : Expr} {ta : TA} {p pos : Pos} (hg : Gl X "range") (hm : X.mg "range" = none) (ha : PA X [a, b] ta) (hs : starEach [a, b] X.env = [(false, eval a X.env), (false, eval b X.env)] := by rfl) (hs2 : starEach [b] X.env = [(false, eval b X.env)] := by rfl) :
    PI X tg (.Call (.Name "range" p) [a, b] [] pos) (iRng2B ta) := by
  refine ⟨fun pins s σ H R I h => ?_⟩
  refine Call_ (ld_blt I hg hm boot_range (PyProof.Rows.callWith_type1 (thn (ha.run pos pins s σ H _ I h) fun us s1 ⟨vs, H1, I1, r1, q1⟩ => ?_) (by rw [hs, hs2]) (by rw [hs2]; rfl)))
  obtain ⟨i, j, e, q⟩ := q1
  subst e
  cases r1 with
  | cons r rr =>
    cases rr with
    | cons r' rr =>
      cases rr
      obtain ⟨t, rfl⟩ := r
      obtain ⟨t', rfl⟩ := r'
      exact call_range_2 (range_itB I1 q)
end L2
namespace Cu
open PySem PySem.Spec PyProof.Rows L2
section
variable {X : Cx} {W : WX} {k : Nat} {G : Gam} {S S1 S2 : Sto} {tg : Expr} {p pos pos' tpos : Pos}
theorem evi_range2B {lo hi : Int} {a1 a2 : Expr} (hm : X.mg "range" = none) (h1 : Ev X a1 G S (.d (.int lo)) S1) (h2 : Ev X a2 G S1 (.d (.int hi)) S2)
    (hR : Gl X "range" := by rfl) (hst : starEach [a1, a2] X.env = [(false, eval a1 X.env), (false, eval a2 X.env)] := by rfl) (hst2 : starEach [a2] X.env = [(false, eval a2 X.env)] := by rfl) : EvI X tg (.Call (.Name "range" p) [a1, a2] [] pos') G S (rngI lo (hi - lo).toNat) anyS S2 :=
  ⟨_, pi_range2B hR hm pa_s hst hst2, fun M σ H R s q => toA (pa_cons pe_s (pa_cons pe_s pa_nil hst2) (by rw [hst, hst2])) (h1 M σ H _ s fun v M1 H1 e1 t1 r1 => h2 M1 σ H1 _ t1 fun v2 M2 H2 e2 t2 r2 => ⟨lo, hi, by rw [vr_int r1, vr_int r2], q M2 H2 _ (e1.trans e2) t2 wk_range⟩)⟩
end
end Cu
/-! CvC: tuples that hold owned objects. -/
namespace Cu
open PySem PySem.Spec PyProof.Rows L2
section
variable {X : Cx} {W : WX} {k j : Nat} {G G1 G2 : Gam} {S S1 S2 S3 : Sto} {P : Post} {e a b : Expr} {es : List Expr} {r x y z : It} {rs : List It} {pos pos' : Pos} {n : Int} {ds : List PyData}
theorem has_ref {K : PySem.W.Frag} {M : List Addr} {H : Hp} : ∀ {vs : List V} {rs : List It}, VReps K M H vs rs → (∃ m, It.o m ∈ rs) → ∃ b, V.ref b ∈ vs
  | _, _, .nil, ⟨_, h⟩ => nomatch h
  | _, _, .cons q t, ⟨m, h⟩ => by
    rcases List.mem_cons.mp h with e | h
    · subst e
      obtain ⟨a, _, rfl⟩ := q
      exact ⟨a, List.mem_cons_self⟩
    · obtain ⟨b, hb⟩ := has_ref t ⟨m, h⟩
      exact ⟨b, List.mem_cons_of_mem _ hb⟩
/-- a tuple, some of its items owned -/
theorem ev_tupO {x1} (h : EvA X es G S rs S1) (ho : ∃ m, It.o m ∈ rs) (hl : rs.length ≤ 1000 := by exact Nat.le_of_ble_eq_true rfl) : Ev X (.Tuple es x1 pos) G S (.o S1.length) (S1 ++ [.tup rs]) := fun M σ H Q s q =>
  toE (pe_tup pa_s) (h M σ H _ s fun vs M1 H1 e1 s1 r1 => ⟨Nat.le_of_lt (small1000 (by rw [r1.len]; exact hl)), fun p hp => by
    have e2 : Ext M1 H1 (M1 ++ [p]) (upd H1 p (.tup vs)) := Ext.own hp
    have s2 : StoreOk X.K (M1 ++ [p]) (upd H1 p (.tup vs)) (S1 ++ [.tup rs]) := s1.sto.own hp ⟨vs, upd_same, r1.ext e2, has_ref r1 ho⟩
    exact q _ _ _ (e1.trans e2) (s1.mono e2 s2) ⟨p, by rw [← s1.sto.len, List.getElem?_append_right (Nat.le_refl _), Nat.sub_self]; rfl, rfl⟩⟩)
/-- a target of a tuple that is owned -/
theorem evg_tupO {j t : Nat} (hc : X.calm = true) (hi : S[t]? = some (.tup rs)) (h : EvGs X es rs G S G1 S1) (hn : (assignEach es X.env).length = rs.length := by rfl) (hst : (assignEach es X.env).findIdx? (·.1) = none := by rfl) : EvG X (.Tuple es j pos) (.o t) G S G1 S1 := fun M σ H v Q s hv q => by
  obtain ⟨a, ha, rfl⟩ := hv
  obtain ⟨vs, h1, h2, _⟩ := s.sto.rep t a _ ha hi
  exact toG (pg_tup hc pgs_s hn hst) ⟨_, _, rfl, .of h1, by rw [h2.len], h M σ H _ Q s h2 q⟩
/-- t[i] of a tuple that is owned -/
theorem ev_ixTO {i : Nat} {d : It} (ha : Ev X a G S (.o i) S1) (hb : Ev X b G S1 (.d (.int n)) S2) (hi : S2[i]? = some (.tup rs)) (h : atI rs n = some d) (hs : PlainIx b := by exact fun _ _ => rfl) : Ev X (.Subscript a b pos) G S d S2 := ev_ixR ix_tup ha hb (fun M H v u Q s hv hu q => by
  obtain ⟨ad, had, rfl⟩ := hv
  obtain ⟨vs, h1, h2, _⟩ := s.rep i ad _ had hi
  unfold atI at h
  cases q1 : ixN rs.length n with
  | none => rw [q1] at h; cases h
  | some l =>
    rw [q1] at h
    have hl : l < rs.length := (List.getElem?_eq_some_iff.mp h).1
    obtain ⟨w, hw⟩ : ∃ w, vs[l]? = some w := ⟨_, List.getElem?_eq_getElem (by rw [h2.len]; exact hl)⟩
    obtain ⟨r', h3, h4⟩ := reps_at h2 hw
    rw [show rs[l]? = some d from h] at h3
    cases h3
    exact ⟨ad, vs, n, w, rfl, vr_int hu, .of h1, by unfold atI; rw [h2.len, q1]; exact hw, q _ M H Ext.refl s h4⟩) hs
end
end Cu
/-! CvD: min of four whole numbers; zip of two lists of data, owned or not. -/
namespace PySem
open Sem (wp)
section
variable {prog : Program} {w : World} {A : Around} {E : Value → Shared → Prop} {s : Shared}
theorem F.args_min4 (a b c d : Value) : argsOk "min" ⟨[a, b, c, d], []⟩ := by unfold argsOk; kernel_rfl
theorem argBest_le (val : Nat → Int) : ∀ k, argBest (fun i j => decide (val i < val j)) k ≤ k ∧ ∀ i, i ≤ k → val (argBest (fun i j => decide (val i < val j)) k) ≤ val i
  | 0 => ⟨Nat.le_refl _, fun i hi => by rw [Nat.le_zero.mp hi]; exact Int.le_refl _⟩
  | k + 1 => by
    obtain ⟨h1, h2⟩ := argBest_le val k
    show (if decide (val (k + 1) < val (argBest (fun i j => decide (val i < val j)) k)) = true then k + 1 else argBest (fun i j => decide (val i < val j)) k) ≤ k + 1 ∧ ∀ i, i ≤ k + 1 → val (if decide (val (k + 1) < val (argBest (fun i j => decide (val i < val j)) k)) = true then k + 1 else argBest (fun i j => decide (val i < val j)) k) ≤ val i
    by_cases h : val (k + 1) < val (argBest (fun i j => decide (val i < val j)) k)
    · rw [if_pos (decide_eq_true h)]
      refine ⟨Nat.le_refl _, fun i hi => ?_⟩
      rcases Nat.lt_or_eq_of_le hi with q | q
      · have := h2 i (Nat.lt_succ_iff.mp q)
        omega
      · rw [q]; exact Int.le_refl _
    · rw [if_neg (fun z => h (of_decide_eq_true z))]
      refine ⟨Nat.le_succ_of_le h1, fun i hi => ?_⟩
      rcases Nat.lt_or_eq_of_le hi with q | q
      · exact h2 i (Nat.lt_succ_iff.mp q)
      · rw [q]; omega
theorem call_min_four {a b c d : Value} {Q : Value → Shared → Prop}
    (h : wpAny (model prog w) A.in1 (pyIter (.ref s.heap.objs.size)) (fun it s₂ => ∃ I fp wr n P St bt, it = .ref I ∧ Walks prog w A.in1 I fp wr n P St ∧ St 0 s₂.heap ∧ (∀ b ∈ fp, b < s₂.heap.objs.size) ∧ 0 < n ∧ CmpOf prog w A.in1 .Lt P bt ∧
      ∀ v h' tk, P (argBest bt (n - 1)) v → (∀ b o, b ∉ wr → s₂.heap.get? b = some o → h'.get? b = some o) → Q v { s₂ with heap := h', toks := tk }) E
      { s with heap := s.heap.push { cls := .type "tuple", data := .seq #[a, b, c, d] } }) :
    wpAny (model prog w) A (call (.builtin "min") [a, b, c, d]) Q E s := by
  have hname : (toString "min" ++ toString ".loop" : String) = "min.loop" := by decide
  refine call_function_tree F.kind_min F.plain_min F.entry_min (F.args_min4 _ _ _ _) ?_
  show wpAny _ A.in1 (Builtin.Builtins.bindParams "min" ["key", "default"] 0 ⟨[], []⟩ >>= _) _ _ s
  refine wpAny_bind (wpAny_of_eq (show Builtin.Builtins.bindParams "min" ["key", "default"] 0 ⟨[], []⟩ = pure [none, none] from rfl) ?_)
  show wpAny _ A.in1 (newTuple [a, b, c, d] >>= _) _ _ s
  refine wpAny_bind (wpAny_newObj_type ?_)
  refine wpAny_bind (wpAny_mono h (fun it s₂ h₂ => ?_) fun _ _ e => e)
  obtain ⟨I, fp, wr, n, P, St, bt, rfl, W, hst, hfp, hn, hcmp, hQ⟩ := h₂
  refine wpAny_bind (wpAny_newObj_type ?_)
  have hSf : s₂.heap.objs.size ∉ fp := fun hm => Nat.lt_irrefl _ (hfp _ hm)
  rw [hname]
  refine wpAny_pure ⟨plainId_quiet F.plain_min_loop _, codeAny_min_loop_first W bt hcmp s₂.heap.objs.size hSf hn (W.frame _ _ _ hst fun b _ o e => Heap.get?_push_of_some _ e) (Heap.get?_push_size _ rfl) fun v h' tk hP hk => ?_⟩
  exact hQ v h' tk hP fun b o hbw e => hk b o hbw (Nat.ne_of_lt (Heap.lt_size e)) (Heap.get?_push_of_some _ e)
theorem min_four_ints {a b c e : Int} {t u x y : Tok} {Q : Value → Shared → Prop} (hh : A.handled = none)
    (h : ∀ h' tk z, (∀ d o, s.heap.get? d = some o → h'.get? d = some o) → Q (.int (min (min a b) (min c e)) z) { s with heap := h', toks := tk }) :
    wpAny (model prog w) A (call (.builtin "min") [.int a t, .int b u, .int c x, .int e y]) Q E s := by
  have hT : (s.heap.push { cls := .type "tuple", data := .seq #[.int a t, .int b u, .int c x, .int e y] }).IsTuple s.heap.objs.size (intItems #[(a, t), (b, u), (c, x), (e, y)]) := ⟨_, Heap.get?_push_size _ rfl, rfl, 0, by simp [intItems]⟩
  refine call_min_four (wpAny_pyIter_tuple hT ?_)
  have hsz : (s.heap.push { cls := .type "tuple", data := .seq #[.int a t, .int b u, .int c x, .int e y] }).objs.size = s.heap.objs.size + 1 := Heap.size_push ..
  refine ⟨_, [_, s.heap.objs.size], [_], _, _, _, _, rfl, Walks.tuple (A := A.in1) hh _ s.heap.objs.size (by rw [hsz]; exact Nat.ne_of_lt (Nat.lt_succ_self _)) (intItems #[(a, t), (b, u), (c, x), (e, y)]),
    ⟨⟨_, Heap.get?_push_size _ rfl, rfl, rfl⟩, hT.push _⟩, fun d hd => ?_, by simp [intItems], CmpOf.ints_lt (numAt #[(a, t), (b, u), (c, x), (e, y)]) (fun _ _ => intItems_at), fun v h' tk hP hk => ?_⟩
  · show d < ((s.heap.push _).push _).objs.size
    rw [Heap.size_push, hsz]
    rcases List.mem_cons.mp hd with rfl | hd
    · rw [hsz]; exact Nat.lt_succ_self _
    · rcases List.mem_cons.mp hd with rfl | hd
      · exact Nat.lt_succ_of_lt (Nat.lt_succ_self _)
      · cases hd
  · have hold : ∀ d o, s.heap.get? d = some o → h'.get? d = some o := fun d o q => by
      refine hk d o (fun hm => ?_) (Heap.get?_push_of_some _ (Heap.get?_push_of_some _ q))
      rcases List.mem_cons.mp hm with e1 | hm
      · have := Heap.lt_size q; rw [e1, hsz] at this; exact Nat.lt_irrefl _ (Nat.lt_of_succ_lt this)
      · cases hm
    have hsz2 : (intItems #[(a, t), (b, u), (c, x), (e, y)]).size - 1 = 3 := by simp [intItems]
    rw [hsz2] at hP
    obtain ⟨h1, h2⟩ := argBest_le (numAt #[(a, t), (b, u), (c, x), (e, y)]) 3
    obtain ⟨z, rfl⟩ := intItems_at hP
    generalize argBest (fun i j => decide (numAt #[(a, t), (b, u), (c, x), (e, y)] i < numAt #[(a, t), (b, u), (c, x), (e, y)] j)) 3 = k at h1 h2 hP
    have n0 : numAt #[(a, t), (b, u), (c, x), (e, y)] 0 = a := by simp [numAt]
    have n1 : numAt #[(a, t), (b, u), (c, x), (e, y)] 1 = b := by simp [numAt]
    have n2 : numAt #[(a, t), (b, u), (c, x), (e, y)] 2 = c := by simp [numAt]
    have n3 : numAt #[(a, t), (b, u), (c, x), (e, y)] 3 = e := by simp [numAt]
    have m0 := h2 0 (by decide); have m1 := h2 1 (by decide); have m2 := h2 2 (by decide); have m3 := h2 3 (by decide)
    rw [n0] at m0; rw [n1] at m1; rw [n2] at m2; rw [n3] at m3
    have ek : numAt #[(a, t), (b, u), (c, x), (e, y)] k = min (min a b) (min c e) := by
      have : k = 0 ∨ k = 1 ∨ k = 2 ∨ k = 3 := by omega
      rcases this with rfl | rfl | rfl | rfl
      · rw [n0] at *; omega
      · rw [n1] at *; omega
      · rw [n2] at *; omega
      · rw [n3] at *; omega
    rw [ek]
    exact h h' tk z hold
end
end PySem
namespace L2
open PySem PySem.Spec PyProof.Rows
theorem vals4 {x y z w : V} {us : List Value} (r : Vals [x, y, z, w] us) : ∃ a b c d, us = [a, b, c, d] ∧ RelV x a ∧ RelV y b ∧ RelV z c ∧ RelV w d := by
  cases r with
  | cons r1 r => cases r with
    | cons r2 r => cases r with
      | cons r3 r => cases r with
        | cons r4 r => cases r; exact ⟨_, _, _, _, rfl, r1, r2, r3, r4⟩
theorem call_min4 {X : Cx} (hc : X.calm = true) : CallR X (.builtin "min") (fun xs H Q => ∃ i j k l, xs = [.int i, .int j, .int k, .int l] ∧ Q (.int (min (min i j) (min k l))) H) := by
  intro pins s σ H xs us Q I r h
  obtain ⟨i, j, k, l, rfl, q⟩ := h
  obtain ⟨_, _, _, _, rfl, ⟨t, rfl⟩, ⟨t', rfl⟩, ⟨t2, rfl⟩, ⟨t3, rfl⟩⟩ := vals4 r
  exact min_four_ints (I.ok.hd hc) fun h' tk z kp => ⟨.int (min (min i j) (min k l)), H, I.kept kp, ⟨_, rfl⟩, q⟩
end L2
namespace Cu
open PySem PySem.Spec PyProof.Rows L2
section
variable {X : Cx} {W : WX} {k : Nat} {G : Gam} {S S1 S2 S3 S4 : Sto} {a b d e : Expr} {m n i j : Int} {p pos pos' tpos : Pos} {ds ds' : List PyData} {r r' : It}
theorem vr4 {K : PySem.W.Frag} {M : List Addr} {H : Hp} {vs : List V} {r1 r2 r3 r4 : It} (h : VReps K M H vs [r1, r2, r3, r4]) : ∃ v1 v2 v3 v4, vs = [v1, v2, v3, v4] ∧ VRep K M H v1 r1 ∧ VRep K M H v2 r2 ∧ VRep K M H v3 r3 ∧ VRep K M H v4 r4 := by
  cases h with
  | cons q1 h => cases h with
    | cons q2 h => cases h with
      | cons q3 h => cases h with
        | cons q4 h => cases h; exact ⟨_, _, _, _, rfl, q1, q2, q3, q4⟩
/-- min(a, b, d, e) -/
theorem ev_min4 (c : Cxo X W k) (hm : X.mg "min" = none) (ha : Ev X a G S (.d (.int m)) S1) (hb : Ev X b G S1 (.d (.int n)) S2) (hd : Ev X d G S2 (.d (.int i)) S3) (he : Ev X e G S3 (.d (.int j)) S4) (hg : Gl X "min" := by rfl)
    (s1 : starEach [a, b, d, e] X.env = (false, eval a X.env) :: starEach [b, d, e] X.env := by rfl) (s2 : starEach [b, d, e] X.env = (false, eval b X.env) :: starEach [d, e] X.env := by rfl) (s3 : starEach [d, e] X.env = (false, eval d X.env) :: starEach [e] X.env := by rfl) (s4 : starEach [e] X.env = (false, eval e X.env) :: starEach [] X.env := by rfl)
    (hpl : (backTo pos (starEach [b, d, e] X.env)).any (·.1) = false := by rfl) : Ev X (.Call (.Name "min" p) [a, b, d, e] [] pos) G S (.d (.int (min (min m n) (min i j)))) S4 :=
  ev_blt (call_min4 c.calm) hm (by decide +kernel) (eva_cons ha (eva_cons hb (eva_cons hd (eva_cons he eva_nil s4) s3) s2) s1) (fun M H vs Q s hvs q => by
    obtain ⟨v1, v2, v3, v4, rfl, h1, h2, h3, h4⟩ := vr4 hvs
    rw [vr_int h1, vr_int h2, vr_int h3, vr_int h4]
    exact ⟨m, n, i, j, rfl, q _ M H Ext.refl s (Fz.int _)⟩) hg (by decide) (by decide) s1 hpl
/-- zip of an owned list of data that stays and a list of data -/
theorem evi_zipO {elts : List Expr} {kk z : Nat} {a1 a2 : Expr} (hm : X.mg "zip" = none) (h1 : Ev X a1 G S (.o z) S1) (h2 : Ev X a2 G S1 (.d (.list ds')) S2) (hz : S2[z]? = some (.lst (ds.map .d))) (hg : Gl X "zip" := by rfl) (hst : starEach [a1, a2] X.env = (false, eval a1 X.env) :: starEach [a2] X.env := by rfl)
    (hst2 : starEach [a2] X.env = (false, eval a2 X.env) :: starEach [] X.env := by rfl) (hpl : (backTo pos' (starEach [a2] X.env)).any (·.1) = false := by rfl) :
    EvI X (.Tuple elts kk tpos) (.Call (.Name "zip" p) [a1, a2] [] pos') G S ((ds.zip ds').map fun x => It.d (.tuple [x.1, x.2])) (fun S' => S'[z]? = some (.lst (ds.map .d))) S2 :=
  ⟨_, pi_zip hg hm pa_s hst hpl, fun M σ H R s q => (eva_cons h1 (eva_cons h2 eva_nil hst2) hst) M σ H _ s fun vs M1 H1 e1 t1 r1 => by
    obtain ⟨v, u, rfl, hv, hu⟩ := vr2 r1
    obtain ⟨ad, had, rfl⟩ := hv
    obtain ⟨vs0, hv0, hr0⟩ := t1.sto.rep z ad _ had hz
    have hu' : Fz M1 H1 u (.list ds') := hu
    cases hu' with
    | lst hL' hA' =>
      refine ⟨ad, _, vs0, _, rfl, .of hv0, hL'.sq, q M1 H1 _ e1 t1 ⟨fun i M' H' S' hi e s hC => ?_, fun i M' H' S' x H2 r hr e s hC y => ?_, fun i M' H' S' hi e s hC => ?_⟩⟩
      · obtain ⟨vs, hv, hr⟩ := s.rep z ad _ (e.get had) hC
        have l2 := fz_len hA'
        have hi' : i < min ds.length ds'.length := by simpa using hi
        have l1 := hr.len
        rw [List.length_map] at l1
        exact ⟨vs, _, vs[i]'(by omega), _, .of hv, (hL'.ext e).sq, List.getElem?_eq_getElem _, List.getElem?_eq_getElem (by omega)⟩
      · obtain ⟨vs, hv, hr'⟩ := s.rep z ad _ (e.get had) hC
        obtain ⟨T, u1, u2, rfl, hT, rfl, y, y'⟩ := y
        have hx := y vs (.of hv)
        have hx' := y' _ (hL'.ext e).sq
        obtain ⟨r1, g1, g2⟩ := reps_at hr' hx
        rw [List.getElem?_map] at g1
        cases ed : ds[i]? with
        | none => rw [ed] at g1; cases g1
        | some d =>
        rw [ed] at g1
        cases g1
        obtain ⟨d', h1', h2'⟩ := fz_at hA' hx'
        have ez : (ds.zip ds')[i]? = some (d, d') := by rw [List.getElem?_zip_eq_some]; exact ⟨ed, h1'⟩
        rw [List.getElem?_map, ez] at hr
        cases hr
        have e2 : Ext M' H' M' (upd H' T (.tup [u1, u2])) := Ext.fresh hT
        exact ⟨e2, s.fresh hT, Fz.tup ⟨upd_same, s.nin hT⟩ (.cons (Fz.ext e2 g2) (.cons (Fz.ext e2 (Fz.ext e h2')) .nil))⟩
      · obtain ⟨vs, hv, hr⟩ := s.rep z ad _ (e.get had) hC
        refine ⟨vs, _, .of hv, (hL'.ext e).sq, ?_⟩
        have l2 := fz_len hA'
        have hi' : min ds.length ds'.length ≤ i := by simpa using hi
        have l1 := hr.len
        rw [List.length_map] at l1
        omega⟩
end
end Cu
namespace Cu
open PySem PySem.Spec PyProof.Rows L2 He
section
variable {X : Cx} {W : WX} {k : Nat} {G : Gam} {S S1 S2 : Sto} {p pos : Pos} {a : Expr}
/-- max(xs) of a list of whole numbers -/
theorem ev_maxL {ns : List Int} {l : Int} (c : Cxo X W k) (hm : X.mg "max" = none) (ha : Ev X a G S (.d (.list (ns.map .int))) S1) (h : l ∈ ns) (hl : ∀ y ∈ ns, y ≤ l) (hg : Gl X "max" := by rfl) (he : starEach [a] X.env = (false, eval a X.env) :: starEach [] X.env := by rfl) : Ev X (.Call (.Name "max" p) [a] [] pos) G S (.d (.int l)) S1 :=
  ev_blt (cr_max c.calm) hm (by decide +kernel) (eva_cons ha eva_nil he) (fun M H vs Q s hvs q => by
    obtain ⟨v, rfl, hv⟩ := vr1 hvs
    have hv' : Fz M H v (.list (ns.map .int)) := hv
    cases hv' with
    | lst h1 h2 =>
      refine ⟨_, ns, rfl, by rw [← fz_ints h2]; exact h1.sq, List.length_pos_of_mem h, fun m' hm1 hm2 => ?_⟩
      have e1 : m' = l := Int.le_antisymm (hl m' hm1) (hm2 l h)
      rw [e1]
      exact q _ M H Ext.refl s (Fz.int _)) hg (by decide) (by decide) he rfl
end
end Cu
/-! CyF: max, range(n) where an error is handled. -/
namespace Cu
open PySem PySem.Spec PyProof.Rows L2
section
variable {X : Cx} {W : WX} {k j : Nat} {G G1 G2 : Gam} {S S1 S2 S3 : Sto} {P : Post} {e a b o iter tg elt : Expr} {es ifs : List Expr} {r y z : It} {rs : List It} {pos pos' p apos : Pos} {pz : Addr × Obj}
/-- range(n) -/
theorem eviH_range1 {n : Int} {a1 : Expr} (hm : X.mg "range" = none) (hi : Ev X a1 G S (.d (.int n)) S1) (hb : -(2 ^ 62) ≤ n ∧ n < 2 ^ 62) (hR : Gl X "range" := by rfl) (hst : starEach [a1] X.env = [(false, eval a1 X.env)] := by rfl) : EvIH X tg (.Call (.Name "range" p) [a1] [] pos') G S (rngI 0 n.toNat) anyS S1 :=
  ⟨_, L2H.pi_range1H hR hm pa_s hst, fun M σ H R s q => toA (pa_cons pe_s pa_nil hst) (hi M σ H _ s fun v M1 H1 e1 t1 r1 => ⟨n, by rw [vr_int r1], hb.1, hb.2, q M1 H1 _ e1 t1 wk_range⟩)⟩
theorem ev_maxLH {ns : List Int} {l : Int} (c : Cxh X W k pz) (hm : X.mg "max" = none) (ha : Ev X a G S (.d (.list (ns.map .int))) S1) (h : l ∈ ns) (hl : ∀ y ∈ ns, y ≤ l) (hg : Gl X "max" := by rfl) (he : starEach [a] X.env = (false, eval a X.env) :: starEach [] X.env := by rfl) : Ev X (.Call (.Name "max" p) [a] [] pos) G S (.d (.int l)) S1 :=
  ev_blt (cr_maxH c.hc) hm (by decide +kernel) (eva_cons ha eva_nil he) (fun M H vs Q s hvs q => by
    obtain ⟨v, rfl, hv⟩ := vr1 hvs
    have hv' : Fz M H v (.list (ns.map .int)) := hv
    cases hv' with
    | lst h1 h2 =>
      refine ⟨_, ns, rfl, by rw [← fz_ints h2]; exact h1.sq, List.length_pos_of_mem h, fun m' hm1 hm2 => ?_⟩
      have e1 : m' = l := Int.le_antisymm (hl m' hm1) (hm2 l h)
      rw [e1]
      exact q _ M H Ext.refl s (Fz.int _)) hg (by decide) (by decide) he rfl
end
end Cu
namespace Pf
open PySem PySem.Spec PyProof.Rows L2 He Cu
def optI : Option (List Int) → PyData
  | none => .none
  | some ns => .list (ns.map .int)
def wordK (i : Nat) : Str := match i with | 0 => Str.ofString "gap" | 1 => Str.ofString "width" | _ => Str.ofString "rim"
def loK (i : Nat) : Int := match i with | 0 => 0 | 1 => 1 | _ => 0
def hiK (i : Nat) : Int := match i with | 0 => 2 | 1 => 3 | _ => 1
def headOk (i : Nat) (x : Str) : Bool := match rowR (wordK i) 1 x with
  | none => false
  | some ns => decide (loK i ≤ ns.getD 0 0) && decide (ns.getD 0 0 ≤ hiK i)
def kOk (x : Str) : Bool := match keepR x with
  | none => false
  | some ns => keepOk (intsD ns)
def F_lrow : Fn := fun rs S QR _ => ∃ (x word : Str) (many : Nat), rs = [.d (.str x), .d (.str word), .d (.int (many : Int))] ∧ x.length ≤ 90000 ∧ okS x ∧ QR (.d (optI (rowR word many x))) S
def F_isText : Fn := fun rs S QR _ => ∃ x : Str, rs = [.d (.str x)] ∧ x.length ≤ 90000 ∧ okS x ∧ QR (.d (.bool (okR x))) S
theorem all_kOk {l : List Str} : (match keepsR l with | none => false | some ks => (ks.map intsD).all keepOk) = l.all kOk := by
  unfold keepsR
  by_cases h : (l.all fun x => (keepR x).isSome) = true
  · rw [if_pos h]
    show ((l.map fun x => (keepR x).getD []).map intsD).all keepOk = _
    rw [List.all_map, List.all_map]
    rw [Bool.eq_iff_iff, List.all_eq_true, List.all_eq_true]
    have key : ∀ x ∈ l, keepOk (intsD ((keepR x).getD [])) = kOk x := fun x hx => by
      have := List.all_eq_true.mp h x hx
      unfold kOk
      cases e : keepR x with
      | none => rw [e] at this; cases this
      | some ns => rfl
    exact ⟨fun z x hx => by rw [← key x hx]; exact z x hx, fun z x hx => by show keepOk (intsD ((keepR x).getD [])) = true; rw [key x hx]; exact z x hx⟩
  · rw [if_neg h]
    show false = _
    symm
    rw [Bool.eq_false_iff]
    intro z
    refine h (List.all_eq_true.mpr fun x hx => ?_)
    have := List.all_eq_true.mp z x hx
    unfold kOk at this
    cases e : keepR x with
    | none => rw [e] at this; cases this
    | some ns => rfl
theorem keepsR_len {l : List Str} {ks : List (List Int)} (h : keepsR l = some ks) : ks.length = l.length := by
  unfold keepsR at h
  split at h
  · cases h
    rw [List.length_map]
  · cases h
theorem okR_eq {x : Str} {l : List Str} {last : Str} (hsp : Txt.split x (Str.ofString "\n") = l ++ [last]) :
    okR x = (decide (last = Str.ofString "") && (decide (3 ≤ l.length) && (decide (l.length ≤ 15) && (headOk 0 (l.getD 0 (Str.ofString "")) && (headOk 1 (l.getD 1 (Str.ofString "")) && (headOk 2 (l.getD 2 (Str.ofString "")) && (l.drop 3).all kOk)))))) := by
  have hR : readR x = if last = Str.ofString "" then rowsIn l else none := by
    unfold readR
    rw [hsp, List.getLast?_concat, List.dropLast_concat]
    by_cases h : last = Str.ofString ""
    · rw [if_pos h, if_pos (by rw [h])]
    · rw [if_neg h, if_neg (fun z => h (Option.some.inj z))]
  unfold okR
  rw [hR]
  by_cases h : last = Str.ofString ""
  rotate_left
  · rw [if_neg h, decide_eq_false h] <;> rfl
  rw [if_pos h, decide_eq_true h, Bool.true_and]
  unfold rowsIn
  by_cases h3 : l.length < 3
  · rw [if_pos h3, decide_eq_false (by omega)] <;> rfl
  rw [if_neg h3, decide_eq_true (show 3 ≤ l.length by omega), Bool.true_and]
  unfold headOk
  show _ = (decide (l.length ≤ 15) && ((match rowR (Str.ofString "gap") 1 (l.getD 0 (Str.ofString "")) with | none => false | some ns => decide ((0 : Int) ≤ ns.getD 0 0) && decide (ns.getD 0 0 ≤ 2)) && ((match rowR (Str.ofString "width") 1 (l.getD 1 (Str.ofString "")) with | none => false | some ns => decide ((1 : Int) ≤ ns.getD 0 0) && decide (ns.getD 0 0 ≤ 3)) && ((match rowR (Str.ofString "rim") 1 (l.getD 2 (Str.ofString "")) with | none => false | some ns => decide ((0 : Int) ≤ ns.getD 0 0) && decide (ns.getD 0 0 ≤ 1)) && (l.drop 3).all kOk))))
  rw [← all_kOk]
  cases rowR (Str.ofString "gap") 1 (l.getD 0 (Str.ofString "")) with
  | none => simp
  | some g =>
    cases rowR (Str.ofString "width") 1 (l.getD 1 (Str.ofString "")) with
    | none => simp
    | some wd =>
      cases rowR (Str.ofString "rim") 1 (l.getD 2 (Str.ofString "")) with
      | none => simp
      | some r =>
        cases hk : keepsR (l.drop 3) with
        | none => simp
        | some ks =>
          have hl := keepsR_len hk
          rw [List.length_drop] at hl
          show rulesOk (.int (g.getD 0 0)) (.int (wd.getD 0 0)) (.int (r.getD 0 0)) (ks.map intsD) = _
          unfold rulesOk inB
          rw [List.length_map, show decide (ks.length ≤ 12) = decide (l.length ≤ 15) from decide_eq_decide.mpr (by omega)]
          show (((decide ((0 : Int) ≤ g.getD 0 0) && decide (g.getD 0 0 ≤ 2)) && ((decide ((1 : Int) ≤ wd.getD 0 0) && decide (wd.getD 0 0 ≤ 3)) && (decide ((0 : Int) ≤ r.getD 0 0) && decide (r.getD 0 0 ≤ 1)))) && (decide (l.length ≤ 15) && (ks.map intsD).all keepOk)) = (decide (l.length ≤ 15) && ((decide ((0 : Int) ≤ g.getD 0 0) && decide (g.getD 0 0 ≤ 2)) && ((decide ((1 : Int) ≤ wd.getD 0 0) && decide (wd.getD 0 0 ≤ 3)) && ((decide ((0 : Int) ≤ r.getD 0 0) && decide (r.getD 0 0 ≤ 1)) && (ks.map intsD).all keepOk))))
          cases decide (l.length ≤ 15) <;> cases decide ((0 : Int) ≤ g.getD 0 0) && decide (g.getD 0 0 ≤ 2) <;> cases decide ((1 : Int) ≤ wd.getD 0 0) && decide (wd.getD 0 0 ≤ 3) <;> cases decide ((0 : Int) ≤ r.getD 0 0) && decide (r.getD 0 0 ≤ 1) <;> rfl
theorem head_bad {l : List Str} {i : Nat} (hi : i < 3) (h : headOk i (l.getD i (Str.ofString "")) = false) : (true && (true && (true && (headOk 0 (l.getD 0 (Str.ofString "")) && (headOk 1 (l.getD 1 (Str.ofString "")) && (headOk 2 (l.getD 2 (Str.ofString "")) && (l.drop 3).all kOk)))))) = false := by
  have : i = 0 ∨ i = 1 ∨ i = 2 := by omega
  rcases this with rfl | rfl | rfl
  · rw [h] <;> rfl
  · rw [h]; simp
  · rw [h]; simp
theorem at_last (l : List Str) (last : Str) : atI ((l ++ [last]).map PyData.str) (-1) = some (.str last) := by
  have hl : ((l ++ [last]).map PyData.str).length = l.length + 1 := by rw [List.length_map, List.length_append] <;> rfl
  have hi : ixN ((l ++ [last]).map PyData.str).length (-1) = some l.length := by
    rw [hl]
    unfold ixN
    simp
    omega
  unfold atI
  rw [hi]
  show ((l ++ [last]).map PyData.str)[l.length]? = _
  rw [List.map_append, List.getElem?_append_right (by rw [List.length_map]; exact Nat.le_refl _), List.length_map, Nat.sub_self] <;> rfl
theorem cut_mid {l : List Str} {last : Str} (h3 : 3 ≤ l.length) : Cu.cutD ((l ++ [last]).map PyData.str) (some 3) (some (-1)) = (l.drop 3).map .str := by
  unfold Cu.cutD
  have hl : ((l ++ [last]).map PyData.str).length = l.length + 1 := by rw [List.length_map, List.length_append] <;> rfl
  have e1 : HT.sIx ((l ++ [last]).map PyData.str).length 0 (some 3) = 3 := by
    rw [hl]
    unfold HT.sIx
    simp
    try omega
  have e2 : HT.sIx ((l ++ [last]).map PyData.str).length ((l ++ [last]).map PyData.str).length (some (-1)) = l.length := by
    rw [hl]
    unfold HT.sIx
    simp
    try omega
  rw [e1, e2, List.map_append, List.drop_append_of_le_length (by rw [List.length_map]; exact h3), List.map_drop]
  rw [List.take_append_of_le_length (by rw [List.length_drop, List.length_map]; exact Nat.le_refl _)]
  exact List.take_of_length_le (by rw [List.length_drop, List.length_map]; exact Nat.le_refl _)
theorem min_of (a : Int) : ∀ l : List Int, ∃ m, m ∈ a :: l ∧ ∀ y ∈ a :: l, m ≤ y
  | [] => ⟨a, List.mem_cons_self, fun y hy => by rw [List.mem_singleton.mp hy]; exact Int.le_refl _⟩
  | b :: l => by
    obtain ⟨m, h1, h2⟩ := min_of a l
    refine ⟨min m b, ?_, fun y hy => ?_⟩
    · rcases Int.le_total m b with z | z
      · rw [Int.min_eq_left z]
        rcases List.mem_cons.mp h1 with e | e
        · rw [e]; exact List.mem_cons_self
        · exact List.mem_cons_of_mem _ (List.mem_cons_of_mem _ e)
      · rw [Int.min_eq_right z]; exact List.mem_cons_of_mem _ List.mem_cons_self
    · rcases List.mem_cons.mp hy with rfl | hy
      · exact Int.le_trans (Int.min_le_left _ _) (h2 _ List.mem_cons_self)
      rcases List.mem_cons.mp hy with rfl | hy
      · exact Int.min_le_right _ _
      · exact Int.le_trans (Int.min_le_left _ _) (h2 _ (List.mem_cons_of_mem _ hy))
theorem max_of (a : Int) : ∀ l : List Int, ∃ m, m ∈ a :: l ∧ ∀ y ∈ a :: l, y ≤ m
  | [] => ⟨a, List.mem_cons_self, fun y hy => by rw [List.mem_singleton.mp hy]; exact Int.le_refl _⟩
  | b :: l => by
    obtain ⟨m, h1, h2⟩ := max_of a l
    refine ⟨max m b, ?_, fun y hy => ?_⟩
    · rcases Int.le_total b m with z | z
      · rw [Int.max_eq_left z]
        rcases List.mem_cons.mp h1 with e | e
        · rw [e]; exact List.mem_cons_self
        · exact List.mem_cons_of_mem _ (List.mem_cons_of_mem _ e)
      · rw [Int.max_eq_right z]; exact List.mem_cons_of_mem _ List.mem_cons_self
    · rcases List.mem_cons.mp hy with rfl | hy
      · exact Int.le_trans (h2 _ List.mem_cons_self) (Int.le_max_left _ _)
      rcases List.mem_cons.mp hy with rfl | hy
      · exact Int.le_max_right _ _
      · exact Int.le_trans (h2 _ (List.mem_cons_of_mem _ hy)) (Int.le_max_left _ _)
theorem keepOk_min {a b wd hh z mn mx : Int} (h1 : mn ∈ [a, b, wd, hh, z]) (h2 : ∀ y ∈ [a, b, wd, hh, z], mn ≤ y) (h3 : mx ∈ [a, b, wd, hh, z]) (h4 : ∀ y ∈ [a, b, wd, hh, z], y ≤ mx) :
    keepOk (intsD [a, b, wd, hh, z]) = (!(decide (mn < 0) || (decide (wd < 1) || decide (hh < 1))) && !decide (10 ^ (40 : Int).toNat ≤ mx)) := by
  have e : (10 : Int) ^ (40 : Int).toNat = 10000000000000000000000000000000000000000 := by rfl
  rw [e]
  show ((decide ((0 : Int) ≤ a) && decide (a ≤ M40)) && ((decide ((0 : Int) ≤ b) && decide (b ≤ M40)) && ((decide ((0 : Int) ≤ z) && decide (z ≤ M40)) && true)) && ((decide ((1 : Int) ≤ wd) && decide (wd ≤ M40)) && (decide ((1 : Int) ≤ hh) && decide (hh ≤ M40)))) = _
  have m1 := h2 a (by simp); have m2 := h2 b (by simp); have m3 := h2 wd (by simp); have m4 := h2 hh (by simp); have m5 := h2 z (by simp)
  have x1 := h4 a (by simp); have x2 := h4 b (by simp); have x3 := h4 wd (by simp); have x4 := h4 hh (by simp); have x5 := h4 z (by simp)
  simp only [List.mem_cons, List.not_mem_nil, or_false] at h1 h3
  unfold M40
  rw [Bool.eq_iff_iff]
  simp only [Bool.and_eq_true, decide_eq_true_eq, Bool.not_eq_true', Bool.or_eq_false_iff, decide_eq_false_iff_not, Bool.and_true]
  omega
section
variable {P : Program} {w : World} {K : PySem.W.Frag} {mg : Str → Option Value} {base : Heap}
theorem fn__law_is_number (T : TT K mg) {fd : FuncData} (Fd : FunD K "_law_is_number" "_law_is_number" (defArgs s__law_is_number) (defBody s__law_is_number) (defScope s__law_is_number) [] [] (ga K "_law_is_number") fd) : FnOk P w K mg base (L2.CX P w) 1 (ga K "_law_is_number") fd ["_law_word"] (spF K 1 F_isNum) := by
  refine fn_w Fd sc__law_is_number fun cdv A outer s H E rs S QR QE c hc hl hF => ?_
  obtain ⟨x, rfl, hx, hok, q⟩ := hF
  have hsg : ∀ v ∈ (TL.tl (figS x)).map signS, okS v := fun v hv => by
    obtain ⟨a, ha, rfl⟩ := List.mem_map.mp hv
    intro c hc
    have hc : c ∈ [a] := hc
    rw [List.mem_singleton.mp hc]
    exact figS_okS hok a ha
  refine ss_cons (ws_set 1 c.nd (ev_name 0) ?_)
  refine ss_mid (J := fun G1 S1 => G1 = [some (.d (.str x)), some (.d (.str (figS x))), none] ∧ S1 = S) ?_ ?_
  · refine ws_if (k1 := Txt.startswith x (Str.ofString "-")) (EvT.is (evt_eqT (ev_slS (il := none) (ih := some 1) (ev_name 0) trivial ev_int (by omega)) ev_str) (head_dash x)) (fun h => ?_) (fun h => ss_nil ⟨?_, rfl⟩)
    · refine ss_cons (ws_set 1 c.nd (ev_slS (il := some 1) (ih := none) (ev_name 0) ev_int trivial (by omega)) (ss_nil ⟨?_, rfl⟩))
      unfold figS
      rw [if_pos h] <;> rfl
    · unfold figS
      rw [if_neg (by rw [h]; exact Bool.false_ne_true)] <;> rfl
  rintro _ _ ⟨rfl, rfl⟩
  have hf : (figS x).length ≤ 100000 := by
    unfold figS
    split
    · exact Nat.le_trans (cutS_length _ _ _) hx
    · exact hx
  have hdig : (!((((TL.tl (figS x)).map signS).filter fun g => !decide ((TL.tl g).all fun c => decide (48 ≤ c ∧ c ≤ 57))).map PyData.str).isEmpty) = !isDig (figS x) := by
    congr 1
    unfold isDig
    induction TL.tl (figS x) with
    | nil => rfl
    | cons c r ih =>
      rw [List.map_cons, List.filter_cons, List.all_cons]
      have e : ((TL.tl (signS c)).all fun c => decide (48 ≤ c ∧ c ≤ 57)) = decide (48 ≤ c ∧ c ≤ 57) := by
        show (decide (48 ≤ c ∧ c ≤ 57) && true) = _
        rw [Bool.and_true]
      rw [e]
      by_cases h : 48 ≤ c ∧ c ≤ 57
      · rw [decide_eq_true h]
        simpa using ih
      · rw [decide_eq_false h]
        simp
  refine ss_cons (ws_if (k1 := decide (figS x = Str.ofString "") || (decide (40 < (figS x).length) || !isDig (figS x))) (EvT.is (evt_w (evw_or (evt_eqT (ev_name 1) ev_str) fun _ => evw_or (EvT.is (evt_gt (ev_lenS (z_len T) (ev_name 1) (by rw [sizeLine_eq]; omega)) ev_int) (c' := decide (40 < (figS x).length)) (decide_eq_decide.mpr (by omega))) fun _ => evw_or1 (EvT.is (evt_neD c (x := .list ((((TL.tl (figS x)).map signS).filter fun g => !decide ((TL.tl g).all fun c => decide (48 ≤ c ∧ c ≤ 57))).map PyData.str)) (Ev.is (ev_lc c (blkOk_by (by rfl)) (lc_pure (own := [("_law_glyph", 2)]) c (evi_str (ev_name 1)) (tg_name 2 c.nd) (strB fun g => !decide ((TL.tl g).all fun c => decide (48 ≤ c ∧ c ≤ 57))) idG (fun _ => trivial) (fun r hr => ?_) ?_)) ?_) (ev_lst eva_nil) (shaped_strs fun v hv => hsg v (List.mem_filter.mp hv).1) (shaped_strs (l := []) (fun _ h => nomatch h))) ?_))) rfl) (fun h => ?_) (fun h => ss_nil ?_))
  · rw [signs_eq] at hr
    obtain ⟨d, hd, rfl⟩ := List.mem_map.mp hr
    obtain ⟨v, hv, rfl⟩ := List.mem_map.mp hd
    obtain ⟨cp, _, rfl⟩ := List.mem_map.mp hv
    refine ⟨_, rfl, fun L s H C cl fp => ?_, fun _ L s H C cl fp => (ev_name 2)⟩
    refine EvT.is (evt_notInSign (c := cp) (ev_name 2) ev_str) ?_
    rw [notDig]
    show _ = !decide (((TL.tl (signS cp)).all fun c => decide (48 ≤ c ∧ c ≤ 57)) = true)
    have e : ((TL.tl (signS cp)).all fun c => decide (48 ≤ c ∧ c ≤ 57)) = decide (48 ≤ cp ∧ cp ≤ 57) := by
      show (decide (48 ≤ cp ∧ cp ≤ 57) && true) = _
      rw [Bool.and_true]
    rw [e]
    simp
  · rw [List.length_map, signs_len]; omega
  · rw [signs_eq, strs_fil]
  · rw [show (List.map PyData.str []) = [] from rfl, eqv_nil]; exact hdig
  · have : numN x = none := by
      unfold numN
      rw [if_pos]
      simp only [Bool.or_eq_true, decide_eq_true_eq, Bool.not_eq_true'] at h
      rw [empty_tl] at h
      exact h
    rw [this] at q
    exact ss_cons (ws_ret ev_bool (back_d q))
  have h' : ¬ (TL.tl (figS x) = [] ∨ 40 < (figS x).length ∨ isDig (figS x) = false) := by
    rw [← empty_tl]
    intro z
    rw [Bool.or_eq_false_iff, Bool.or_eq_false_iff] at h
    rcases z with z | z | z
    · rw [decide_eq_true z] at h; cases h.1
    · rw [decide_eq_true z] at h; cases h.2.1
    · rw [z] at h; cases h.2.2
  obtain ⟨a, r, ea⟩ : ∃ a r, TL.tl (figS x) = a :: r := by
    cases e : TL.tl (figS x) with
    | nil => exact (h' (.inl e)).elim
    | cons a r => exact ⟨a, r, rfl⟩
  have hb : decide ((⟨#[a]⟩ : Str) = Str.ofString "0") = decide (a = 48) := decide_eq_decide.mpr ⟨fun z => by
    have := congrArg TL.tl z
    have e : TL.tl (Str.ofString "0") = [48] := by decide
    rw [e] at this
    exact (List.cons.inj this).1, fun z => by rw [z]; decide⟩
  obtain ⟨n, hn, hl⟩ := num_reads (w := x) (fun z => h' (.inl z)) (Nat.le_of_not_lt fun z => h' (.inr (.inl z))) (by
    cases e : isDig (figS x) with
    | true => rfl
    | false => exact (h' (.inr (.inr e))).elim)
  have hsome : (numN x).isSome = (decide (x = Str.ofString "0") || !decide (a = 48)) := by
    unfold numN
    rw [if_neg h']
    by_cases z : (TL.tl (figS x))[0]? = some 48 ∧ x ≠ Str.ofString "0"
    · rw [if_pos z]
      obtain ⟨z1, z2⟩ := z
      rw [ea] at z1
      have z1 : a = 48 := by simpa using z1
      rw [decide_eq_false z2, decide_eq_true z1] <;> rfl
    · rw [if_neg z, hn]
      by_cases z2 : x = Str.ofString "0"
      · rw [decide_eq_true z2] <;> rfl
      · have z1 : a ≠ 48 := fun z1 => z ⟨by rw [ea, z1] <;> rfl, z2⟩
        rw [decide_eq_false z1, Bool.not_false, Bool.or_true] <;> rfl
  rw [hsome] at q
  refine ss_cons (ws_ret (ev_or (d := !decide (a = 48)) (ev_eqT (ev_name 0) ev_str) (fun _ => ev_and1 (Ev.is (ev_neT (ev_ixStr (c := a) (ev_name 1) ev_int (by rw [sizeLine_eq]; omega) (atI_nat (k := 0) rfl (by show (TL.tl (figS x))[0]? = _; rw [ea] <;> rfl))) ev_str) (by rw [hb])))) (back_d q))
theorem ok__law_is_number (T : TT K mg) : OkF P w K mg base 1 "_law_is_number" ["_law_word"] [] F_isNum := okF_of (g__law_is_number T) (d__law_is_number T) (fun _ _ _ _ _ _ us hl => match us, hl with | [_], _ => rfl) fun fd Fd => fn__law_is_number T Fd
theorem fn__law_row (T : TT K mg) {fd : FuncData} (Fd : FunD K "_law_row" "_law_row" (defArgs s__law_row) (defBody s__law_row) (defScope s__law_row) [] [] (ga K "_law_row") fd) : FnOk P w K mg base (L2.CX P w) 2 (ga K "_law_row") fd ["_law_row_here", "_law_word", "_law_many"] (spF K 3 F_lrow) := by
  refine fn_w Fd sc__law_row fun cdv A outer s H E rs S QR QE c hc hl hF => ?_
  obtain ⟨x, word, many, rfl, hx, hok, q⟩ := hF
  obtain ⟨w0, ws, hsp⟩ := split_ne x
  have hfew := split_few x
  have hsh := split_short x
  have hsk := split_okS hok
  have hR : rowR word many x = if w0 = word then (match numsN ws with | none => none | some ns => if ns.length = many then some ns else none) else none := by
    unfold rowR
    rw [hsp] <;> rfl
  rw [hsp] at hfew hsh hsk
  rw [List.length_cons] at hfew
  rw [hR] at q
  have hcutL : Cu.cutD ((w0 :: ws).map PyData.str) (some 1) none = ws.map .str := by rw [show (1 : Int) = ((1 : Nat) : Int) from rfl, cutD_from] <;> rfl
  refine ss_cons (ws_set 3 c.nd (r := .d (.list ((w0 :: ws).map .str))) (Ev.is (ev_split (ev_name 0) ev_str rfl (by omega)) (by rw [hsp])) ?_)
  refine ss_cons (ws_if (k1 := !decide (w0 = word) || !decide (ws.length = many)) (EvT.is (evt_w (evw_or (evt_neT (ev_ixL (ds := (w0 :: ws).map .str) (d := .str w0) (ev_name 3) ev_int (atI_nat (k := 0) rfl rfl)) (ev_name 1)) fun _ => evw_or1 (evt_neI (ev_lenA (ds := (w0 :: ws).map .str) (z_len T) (ev_name 3) rfl) (ev_add (ev_name 2) ev_int)))) (by rw [List.length_map, List.length_cons]; congr 2; exact decide_eq_decide.mpr (by omega))) (fun h => ?_) (fun h => ss_nil ?_))
  · have hno : (if w0 = word then (match numsN ws with | none => none | some ns => if ns.length = many then some ns else none) else none) = none := by
      by_cases hw : w0 = word
      · have h2 : ¬ ws.length = many := by rw [decide_eq_true hw] at h; simpa using h
        rw [if_pos hw]
        cases hn : numsN ws with
        | none => rfl
        | some ns =>
          have : ns.length = ws.length := by rw [← (numsN_inv hn).1, List.length_map]
          exact if_neg (by omega)
      · rw [if_neg hw]
    rw [hno] at q
    exact ss_cons (ws_ret ev_none (back_d q))
  obtain ⟨hw, hlm⟩ : w0 = word ∧ ws.length = many := by
    rw [Bool.or_eq_false_iff] at h
    exact ⟨by simpa using h.1, by simpa using h.2⟩
  rw [if_pos hw] at q
  refine ss_cons (ws_if (k1 := !(numsN ws).isSome) (EvT.is (evt_neD c (x := .list ((ws.filter fun w => !(numN w).isSome).map PyData.str)) (Ev.is (ev_lc c (blkOk_by (by rfl)) (lc_pure (rs := (ws.map PyData.str).map .d) (own := [("_law_one", 4)]) c (by
    exact evi_list (Ev.is (r' := .d (.list (ws.map .str))) (ev_slL (lo := some _) (hi := none) (il := some 1) (ih := none) (ev_name 3) ev_int trivial) (by rw [hcutL]))) (tg_name 4 c.nd) (strB fun w => !(numN w).isSome) idG (fun _ => trivial) (fun r hr => ?_) ?_)) ?_) (ev_lst eva_nil) (shaped_strs fun v hv => hsk v (List.mem_cons_of_mem _ (List.mem_filter.mp hv).1)) (shaped_strs (l := []) (fun _ h => nomatch h))) ?_) (fun h => ?_) (fun h => ss_nil ?_))
  · obtain ⟨d, hd, rfl⟩ := List.mem_map.mp hr
    obtain ⟨v, hv, rfl⟩ := List.mem_map.mp hd
    exact ⟨_, rfl, fun L s H C cl fp => evt_not (evt_val (ev_call (c.blk _ s H C cl fp) (ok__law_is_number T) (eva_cons (ev_name 4) eva_nil) (fun QR QE q => ⟨v, rfl, Nat.le_trans (hsh v (List.mem_cons_of_mem _ hv)) (by omega), hsk v (List.mem_cons_of_mem _ hv), q⟩))), fun _ L s H C cl fp => (ev_name 4)⟩
  · rw [List.length_map, List.length_map]; omega
  · rw [strs_fil]
  · rw [show (List.map PyData.str []) = [] from rfl, eqv_nil]
    rw [← numsN_none]
    cases ws.filter fun w => !(numN w).isSome <;> rfl
  · have hn : numsN ws = none := by
      cases e : numsN ws with
      | none => rfl
      | some ns => rw [e] at h; cases h
    rw [hn] at q
    exact ss_cons (ws_ret ev_none (back_d q))
  obtain ⟨ns, hn⟩ : ∃ ns, numsN ws = some ns := by
    cases e : numsN ws with
    | none => rw [e] at h; cases h
    | some ns => exact ⟨ns, rfl⟩
  have hnl : ns.length = ws.length := by rw [← (numsN_inv hn).1, List.length_map]
  obtain ⟨each, hns⟩ := numsN_each hn
  rw [hn] at q
  have q : QR (.d (optI (if ns.length = many then some ns else none))) S := q
  rw [if_pos (by omega)] at q
  refine ss_cons (ws_ret (r := .d (.list (ns.map .int))) (Ev.is (ev_lc c (blkOk_by (by rfl)) (lc_pure (own := [("_law_one", 4)]) c (evi_list (Ev.is (r' := .d (.list (ws.map .str))) (ev_slL (lo := some _) (hi := none) (il := some 1) (ih := none) (ev_name 3) ev_int trivial) (by rw [hcutL]))) (tg_name 4 c.nd) (fun _ => true) (strF fun w => .int ((numN w).getD 0)) (fun _ => trivial) (fun r hr => ?_) (by rw [List.length_map, List.length_map]; omega))) (by rw [strs_out, hns, List.map_map] <;> rfl)) (back_d q))
  obtain ⟨d, hd, rfl⟩ := List.mem_map.mp hr
  obtain ⟨v, hv, rfl⟩ := List.mem_map.mp hd
  obtain ⟨n, en, hl41⟩ := each v hv
  refine ⟨_, rfl, fun L s H C cl fp => rfl, fun _ L s H C cl fp => Ev.is (ev_intS (z_int T) (ev_name 4) (numN_text en) (by omega)) ?_⟩
  show Cu.It.d (.int n) = .d (.int ((numN v).getD 0))
  rw [en] <;> rfl
theorem ok__law_row (T : TT K mg) : OkF P w K mg base 2 "_law_row" ["_law_row_here", "_law_word", "_law_many"] [] F_lrow := okF_of (g__law_row T) (d__law_row T) (fun _ _ _ _ _ _ us hl => match us, hl with | [_, _, _], _ => rfl) fun fd Fd => fn__law_row T Fd
theorem fn__law_is_text (T : TT K mg) {fd : FuncData} (Fd : FunD K "_law_is_text" "_law_is_text" (defArgs s__law_is_text) (defBody s__law_is_text) (defScope s__law_is_text) [] [] (ga K "_law_is_text") fd) : FnOk P w K mg base (L2.CX P w) 3 (ga K "_law_is_text") fd ["_law_text_here"] (spF K 1 F_isText) := by
  refine fn_w Fd sc__law_is_text fun cdv A outer s H E rs S QR QE c hc hl hF => ?_
  obtain ⟨x, rfl, hx, hok, q⟩ := hF
  have hne : Txt.split x (Str.ofString "\n") ≠ [] := by
    obtain ⟨a, b, e⟩ := split_neN x
    rw [e]
    exact List.cons_ne_nil _ _
  obtain ⟨l, last, hsp⟩ := last_cases hne
  have hfew := split_fewN x
  have hsh := split_shortN x
  have hsk := split_okSN hok
  rw [okR_eq hsp] at q
  rw [hsp] at hfew hsh hsk
  rw [List.length_append] at hfew
  have hfew : l.length + 1 ≤ x.length + 1 := hfew
  refine ss_cons (ws_set 1 c.nd (r := .d (.list ((l ++ [last]).map .str))) (Ev.is (ev_split (ev_name 0) ev_str rfl (by omega)) (by rw [hsp])) ?_)
  have hlast : atI ((l ++ [last]).map PyData.str) (-1) = some (.str last) := at_last _ _
  have hlen : ((l ++ [last]).map PyData.str).length = l.length + 1 := by rw [List.length_map, List.length_append] <;> rfl
  refine ss_cons (ws_if (k1 := decide (l.length < 3) || (!decide (last = Str.ofString "") || decide (15 < l.length))) (EvT.is (evt_w (evw_or (EvT.is (evt_lt (ev_lenA (ds := (l ++ [last]).map .str) (z_len T) (ev_name 1) rfl) ev_int) (c' := decide (l.length < 3)) (by rw [hlen]; exact decide_eq_decide.mpr (by omega))) fun _ => evw_or (evt_neT (ev_ixL (ds := (l ++ [last]).map .str) (d := .str last) (ev_name 1) (ev_neg ev_int) hlast) ev_str) fun _ => evw_or1 (EvT.is (evt_gt (ev_lenA (ds := (l ++ [last]).map .str) (z_len T) (ev_name 1) rfl) ev_int) (c' := decide (15 < l.length)) (by rw [hlen]; exact decide_eq_decide.mpr (by omega))))) rfl) (fun h => ?_) (fun h => ss_nil ?_))
  · refine ss_cons (ws_ret (Ev.is ev_bool ?_) (back_d q))
    congr 2
    rw [Bool.or_eq_true, Bool.or_eq_true, decide_eq_true_eq, Bool.not_eq_true', decide_eq_false_iff_not, decide_eq_true_eq] at h
    rcases h with h | h | h
    · rw [decide_eq_false (show ¬ 3 ≤ l.length by omega)]; simp
    · rw [decide_eq_false h] <;> rfl
    · rw [decide_eq_false (show ¬ l.length ≤ 15 by omega)]; simp
  obtain ⟨h3, hla, h15⟩ : 3 ≤ l.length ∧ last = Str.ofString "" ∧ l.length ≤ 15 := by
    rw [Bool.or_eq_false_iff, Bool.or_eq_false_iff, decide_eq_false_iff_not, Bool.not_eq_false', decide_eq_true_eq, decide_eq_false_iff_not] at h
    exact ⟨by omega, h.2.1, by omega⟩
  rw [decide_eq_true hla, decide_eq_true h3, decide_eq_true h15] at q
  have xl : ∀ i, i < l.length → l.getD i (Str.ofString "") ∈ l := fun i hi => by
    rw [List.getD_eq_getElem?_getD, List.getElem?_eq_getElem hi]
    exact List.getElem_mem hi
  have xat : ∀ i, i < l.length → ((l ++ [last]).map PyData.str)[i]? = some (.str (l.getD i (Str.ofString ""))) := fun i hi => by
    rw [List.getElem?_map, List.getElem?_append_left hi, List.getElem?_eq_getElem hi, List.getD_eq_getElem?_getD, List.getElem?_eq_getElem hi] <;> rfl
  refine ss_cons (ws_set 2 c.nd (ev_lst (eva_cons ev_str (eva_cons ev_str (eva_cons ev_str eva_nil)))) ?_)
  refine ss_cons (ws_for c (evi_range1 (z_range T) ev_int (by decide)) (J := fun i G' S' => (∃ g3 g4, G' = [some (.d (.str x)), some (.d (.list ((l ++ [last]).map .str))), some (.d (.list [.str (Str.ofString "gap"), .str (Str.ofString "width"), .str (Str.ofString "rim")])), g3, g4, none]) ∧ S' = S ∧ ∀ j, j < i → headOk j (l.getD j (Str.ofString "")) = true) (fun r G => G.set 3 (some r)) ⟨⟨_, _, rfl⟩, rfl, fun _ z => absurd z (Nat.not_lt_zero _)⟩ (fun _ _ _ _ => trivial) ?_ ?_ ?_)
  · rintro i r G' S' hr ⟨⟨g3, g4, rfl⟩, rfl, _⟩
    exact evg_name 3 c.nd
  · rintro i r G' S' hr ⟨⟨g3, g4, rfl⟩, rfl, hto⟩
    obtain ⟨hi, rfl⟩ := rngI_at hr
    have hi : i < 3 := hi
    have e0 : (0 : Int) + (i : Int) = (i : Int) := by omega
    have hw3 : atI [PyData.str (Str.ofString "gap"), .str (Str.ofString "width"), .str (Str.ofString "rim")] (i : Int) = some (.str (wordK i)) := by
      have : i = 0 ∨ i = 1 ∨ i = 2 := by omega
      rcases this with rfl | rfl | rfl <;> exact atI_nat rfl rfl
    rw [e0]
    refine ss_cons (ws_set 4 c.nd (r := .d (optI (rowR (wordK i) 1 (l.getD i (Str.ofString ""))))) (ev_call c (ok__law_row T) (eva_cons (ev_ixL (d := .str (l.getD i (Str.ofString ""))) (ev_name 1) (ev_name 3) (atI_nat (k := i) rfl (xat i (by omega)))) (eva_cons (ev_ixL (ev_name 2) (ev_name 3) hw3) (eva_cons ev_int eva_nil))) (fun QR QE q => ⟨_, _, 1, rfl, Nat.le_trans (hsh _ (List.mem_append_left _ (xl i (by omega)))) hx, hsk _ (List.mem_append_left _ (xl i (by omega))), q⟩)) ?_)
    cases hrow : rowR (wordK i) 1 (l.getD i (Str.ofString "")) with
    | none =>
      refine ss_cons (ws_if (k1 := true) (evt_w (evw_orT (EvT.is (evt_isN (r := .d .none) (ev_name 4)) rfl))) (fun _ => ?_) (fun z => nomatch z))
      have hbad : headOk i (l.getD i (Str.ofString "")) = false := by unfold headOk; rw [hrow]
      rw [head_bad hi hbad] at q
      exact ss_cons (ws_ret ev_bool (back_d q))
    | some ns =>
      have hone := one_of (rowR_len hrow)
      obtain ⟨v, hv⟩ : ∃ v, v = ns.getD 0 0 := ⟨_, rfl⟩
      rw [← hv] at hone
      rw [hone]
      have hlo : atI [PyData.int 0, .int 1, .int 0] (i : Int) = some (.int (loK i)) := by
        have : i = 0 ∨ i = 1 ∨ i = 2 := by omega
        rcases this with rfl | rfl | rfl <;> exact atI_nat rfl rfl
      have hhi : atI [PyData.int 2, .int 3, .int 1] (i : Int) = some (.int (hiK i)) := by
        have : i = 0 ∨ i = 1 ∨ i = 2 := by omega
        rcases this with rfl | rfl | rfl <;> exact atI_nat rfl rfl
      have hh : headOk i (l.getD i (Str.ofString "")) = (decide (loK i ≤ v) && decide (v ≤ hiK i)) := by unfold headOk; rw [hrow, hv]
      refine ss_cons (ws_if (k1 := !(decide (loK i ≤ v) && decide (v ≤ hiK i))) (evt_w (evw_orF (EvT.is (evt_isN (r := .d (.list [.int v])) (ev_name 4)) rfl) (evw_or1 (evt_not (evt_leLe (ev_ixL (ev_lst (eva_cons ev_int (eva_cons ev_int (eva_cons ev_int eva_nil)))) (ev_name 3) hlo) (ev_ixL (d := .int v) (ev_name 4) ev_int (atI_nat (k := 0) rfl rfl)) (fun _ => ev_ixL (ev_lst (eva_cons ev_int (eva_cons ev_int (eva_cons ev_int eva_nil)))) (ev_name 3) hhi)))))) (fun h => ?_) (fun h => ss_nil (ss_nil ?_)))
      · have hbad : headOk i (l.getD i (Str.ofString "")) = false := by rw [hh]; exact bnot h
        rw [head_bad hi hbad] at q
        exact ss_cons (ws_ret ev_bool (back_d q))
      · refine ⟨⟨_, _, rfl⟩, rfl, fun j hj => ?_⟩
        by_cases e : j = i
        · rw [e, hh]; exact bnot2 h
        · exact hto j (by omega)
  rintro G' S' ⟨⟨g3, g4, rfl⟩, rfl, hto⟩
  have t0 := hto 0 (by show 0 < 3; decide)
  have t1 := hto 1 (by show 1 < 3; decide)
  have t2 := hto 2 (by show 2 < 3; decide)
  rw [t0, t1, t2] at q
  have q : QR (.d (.bool ((l.drop 3).all kOk))) S' := q
  have hcut : Cu.cutD ((l ++ [last]).map PyData.str) (some 3) (some (-1)) = (l.drop 3).map .str := cut_mid h3
  refine ss_cons (ws_for c (evi_list (ds := (l.drop 3).map .str) (Ev.is (ev_slL (lo := some _) (hi := some _) (il := some 3) (ih := some (-1)) (ev_name 1) ev_int (ev_neg ev_int)) (by rw [hcut]))) (J := fun i G' S2 => (∃ g3 g4 g5, G' = [some (.d (.str x)), some (.d (.list ((l ++ [last]).map .str))), some (.d (.list [.str (Str.ofString "gap"), .str (Str.ofString "width"), .str (Str.ofString "rim")])), g3, g4, g5]) ∧ S2 = S' ∧ ∀ y ∈ (l.drop 3).take i, kOk y = true) (fun r G => G.set 5 (some r)) ⟨⟨_, _, _, rfl⟩, rfl, fun _ z => nomatch z⟩ (fun _ _ _ _ => trivial) ?_ ?_ ?_)
  · rintro i r G' S2 hr ⟨⟨g3, g4, g5, rfl⟩, rfl, _⟩
    exact evg_name 5 c.nd
  · rintro i r G' S2 hr ⟨⟨g3, g4, g5, rfl⟩, rfl, hto2⟩
    rw [List.getElem?_map, List.getElem?_map] at hr
    cases hy : (l.drop 3)[i]? with
    | none => rw [hy] at hr; cases hr
    | some y =>
      rw [hy] at hr
      obtain rfl : .d (.str y) = r := by simpa using hr
      have hym : y ∈ l.drop 3 := List.mem_of_getElem? hy
      have hyl : y ∈ l ++ [last] := List.mem_append_left _ (List.mem_of_mem_drop hym)
      have bad : kOk y = false → (l.drop 3).all kOk = false := fun z => by
        rw [Bool.eq_false_iff]
        intro h
        have := List.all_eq_true.mp h y hym
        rw [z] at this; cases this
      refine ss_cons (ws_set 4 c.nd (r := .d (optI (keepR y))) (ev_call c (ok__law_row T) (eva_cons (ev_name 5) (eva_cons ev_str (eva_cons ev_int eva_nil))) (fun QR QE q => ⟨_, _, 5, rfl, Nat.le_trans (hsh _ hyl) hx, hsk _ hyl, q⟩)) ?_)
      cases hrow : keepR y with
      | none =>
        refine ss_cons (ws_if (k1 := true) (evt_w (evw_orT (EvT.is (evt_isN (r := .d .none) (ev_name 4)) rfl))) (fun _ => ?_) (fun z => nomatch z))
        rw [bad (by unfold kOk; rw [hrow])] at q
        exact ss_cons (ws_ret ev_bool (back_d q))
      | some ns =>
        have h5 := rowR_len (show rowR (Str.ofString "keep") 5 y = some ns from hrow)
        obtain ⟨a, b, wd, hh, z, rfl⟩ : ∃ a b c d e, ns = [a, b, c, d, e] := by
          match ns, h5 with
          | [a, b, c, d, e], _ => exact ⟨_, _, _, _, _, rfl⟩
        have hk : kOk y = keepOk (intsD [a, b, wd, hh, z]) := by unfold kOk; rw [hrow]
        obtain ⟨mn, hmn1, hmn2⟩ := min_of a [b, wd, hh, z]
        obtain ⟨mx, hmx1, hmx2⟩ := max_of a [b, wd, hh, z]
        have hkk := keepOk_min hmn1 hmn2 hmx1 hmx2
        refine ss_cons (ws_if (k1 := decide (mn < 0) || (decide (wd < 1) || decide (hh < 1))) (evt_w (evw_orF (EvT.is (evt_isN (r := .d (.list [.int a, .int b, .int wd, .int hh, .int z])) (ev_name 4)) rfl) (evw_or (evt_lt (ev_minL (ns := [a, b, wd, hh, z]) c (z_min T) (ev_name 4) hmn1 hmn2) ev_int) fun _ => evw_or (evt_lt (ev_ixL (d := .int wd) (ev_name 4) ev_int (atI_nat (k := 2) rfl rfl)) ev_int) fun _ => evw_or1 (evt_lt (ev_ixL (d := .int hh) (ev_name 4) ev_int (atI_nat (k := 3) rfl rfl)) ev_int)))) (fun h => ?_) (fun h => ss_nil ?_))
        · rw [bad (by rw [hk, hkk, h] <;> rfl)] at q
          exact ss_cons (ws_ret ev_bool (back_d q))
        refine ss_cons (ws_if (k1 := decide (10 ^ (40 : Int).toNat ≤ mx)) (evt_ge (ev_maxL (ns := [a, b, wd, hh, z]) c (z_max T) (ev_name 4) hmx1 hmx2) (ev_pow ev_int ev_int ⟨by decide, by decide, by decide⟩)) (fun h2 => ?_) (fun h2 => ss_nil (ss_nil ?_)))
        · rw [bad (by rw [hk, hkk, h, h2] <;> rfl)] at q
          exact ss_cons (ws_ret ev_bool (back_d q))
        · refine ⟨⟨_, _, _, rfl⟩, rfl, fun u hu => ?_⟩
          rw [List.take_add_one, hy] at hu
          rcases List.mem_append.mp hu with hu | hu
          · exact hto2 u hu
          · obtain rfl : u = y := by simpa using hu
            rw [hk, hkk, h, h2] <;> rfl
  · rintro G' S2 ⟨⟨g3, g4, g5, rfl⟩, rfl, hto2⟩
    rw [List.length_map, List.length_map, List.take_length] at hto2
    rw [List.all_eq_true.mpr hto2] at q
    exact ss_cons (ws_ret ev_bool (back_d q))
theorem ok__law_is_text (T : TT K mg) : OkF P w K mg base 3 "_law_is_text" ["_law_text_here"] [] F_isText := okF_of (g__law_is_text T) (d__law_is_text T) (fun _ _ _ _ _ _ us hl => match us, hl with | [_], _ => rfl) fun fd Fd => fn__law_is_text T Fd
end
end Pf
namespace Pf
open PySem PySem.Spec PyProof.Rows L2 He Cu
section
variable {P : Program} {w : World} {K : PySem.W.Frag} {mg : Str → Option Value} {base : Heap}
theorem fnT__law_is_number (T : TT K mg) {fd : FuncData} (Fd : FunD K "_law_is_number" "_law_is_number" (defArgs s__law_is_number) (defBody s__law_is_number) (defScope s__law_is_number) [] [] (ga K "_law_is_number") fd) : FnHt P w K mg base 1 (ga K "_law_is_number") fd ["_law_word"] (spF K 1 F_isNum) := by
  refine fn_wHt Fd sc__law_is_number (fun cdv A outer s H E pz rs S QR c hc hl hF => ?_) (fun _ _ _ _ h => h)
  obtain ⟨x, rfl, hx, hok, q⟩ := hF
  have hsg : ∀ v ∈ (TL.tl (figS x)).map signS, okS v := fun v hv => by
    obtain ⟨a, ha, rfl⟩ := List.mem_map.mp hv
    intro c hc
    have hc : c ∈ [a] := hc
    rw [List.mem_singleton.mp hc]
    exact figS_okS hok a ha
  refine ss_cons (ws_set 1 c.nd (ev_name 0) ?_)
  refine ss_mid (J := fun G1 S1 => G1 = [some (.d (.str x)), some (.d (.str (figS x))), none] ∧ S1 = S) ?_ ?_
  · refine ws_if (k1 := Txt.startswith x (Str.ofString "-")) (EvT.is (evt_eqT (ev_slS (il := none) (ih := some 1) (ev_name 0) trivial ev_int (by omega)) ev_str) (head_dash x)) (fun h => ?_) (fun h => ss_nil ⟨?_, rfl⟩)
    · refine ss_cons (ws_set 1 c.nd (ev_slS (il := some 1) (ih := none) (ev_name 0) ev_int trivial (by omega)) (ss_nil ⟨?_, rfl⟩))
      unfold figS
      rw [if_pos h] <;> rfl
    · unfold figS
      rw [if_neg (by rw [h]; exact Bool.false_ne_true)] <;> rfl
  rintro _ _ ⟨rfl, rfl⟩
  have hf : (figS x).length ≤ 100000 := by
    unfold figS
    split
    · exact Nat.le_trans (cutS_length _ _ _) hx
    · exact hx
  have hdig : (!((((TL.tl (figS x)).map signS).filter fun g => !decide ((TL.tl g).all fun c => decide (48 ≤ c ∧ c ≤ 57))).map PyData.str).isEmpty) = !isDig (figS x) := by
    congr 1
    unfold isDig
    induction TL.tl (figS x) with
    | nil => rfl
    | cons c r ih =>
      rw [List.map_cons, List.filter_cons, List.all_cons]
      have e : ((TL.tl (signS c)).all fun c => decide (48 ≤ c ∧ c ≤ 57)) = decide (48 ≤ c ∧ c ≤ 57) := by
        show (decide (48 ≤ c ∧ c ≤ 57) && true) = _
        rw [Bool.and_true]
      rw [e]
      by_cases h : 48 ≤ c ∧ c ≤ 57
      · rw [decide_eq_true h]
        simpa using ih
      · rw [decide_eq_false h]
        simp
  refine ss_cons (ws_if (k1 := decide (figS x = Str.ofString "") || (decide (40 < (figS x).length) || !isDig (figS x))) (EvT.is (evt_w (evw_or (evt_eqT (ev_name 1) ev_str) fun _ => evw_or (EvT.is (evt_gt (ev_lenS (z_len T) (ev_name 1) (by rw [sizeLine_eq]; omega)) ev_int) (c' := decide (40 < (figS x).length)) (decide_eq_decide.mpr (by omega))) fun _ => evw_or1 (EvT.is (evt_neDH c (x := .list ((((TL.tl (figS x)).map signS).filter fun g => !decide ((TL.tl g).all fun c => decide (48 ≤ c ∧ c ≤ 57))).map PyData.str)) (Ev.is (ev_lcH c (blkOk_by (by rfl)) (lcH_pure (own := [("_law_glyph", 2)]) c (eviH_str (ev_name 1)) (tgH_name 2 c.nd) (strB fun g => !decide ((TL.tl g).all fun c => decide (48 ≤ c ∧ c ≤ 57))) idG (fun _ => trivial) (fun r hr => ?_) ?_)) ?_) (ev_lst eva_nil) (shaped_strs fun v hv => hsg v (List.mem_filter.mp hv).1) (shaped_strs (l := []) (fun _ h => nomatch h))) ?_))) rfl) (fun h => ?_) (fun h => ss_nil ?_))
  · rw [signs_eq] at hr
    obtain ⟨d, hd, rfl⟩ := List.mem_map.mp hr
    obtain ⟨v, hv, rfl⟩ := List.mem_map.mp hd
    obtain ⟨cp, _, rfl⟩ := List.mem_map.mp hv
    refine ⟨_, rfl, fun L s H C cl fp => ?_, fun _ L s H C cl fp => (ev_name 2)⟩
    refine EvT.is (evt_notInSign (c := cp) (ev_name 2) ev_str) ?_
    rw [notDig]
    show _ = !decide (((TL.tl (signS cp)).all fun c => decide (48 ≤ c ∧ c ≤ 57)) = true)
    have e : ((TL.tl (signS cp)).all fun c => decide (48 ≤ c ∧ c ≤ 57)) = decide (48 ≤ cp ∧ cp ≤ 57) := by
      show (decide (48 ≤ cp ∧ cp ≤ 57) && true) = _
      rw [Bool.and_true]
    rw [e]
    simp
  · rw [List.length_map, signs_len]; omega
  · rw [signs_eq, strs_fil]
  · rw [show (List.map PyData.str []) = [] from rfl, eqv_nil]; exact hdig
  · have : numN x = none := by
      unfold numN
      rw [if_pos]
      simp only [Bool.or_eq_true, decide_eq_true_eq, Bool.not_eq_true'] at h
      rw [empty_tl] at h
      exact h
    rw [this] at q
    exact ss_cons (ws_ret ev_bool (back_d q))
  have h' : ¬ (TL.tl (figS x) = [] ∨ 40 < (figS x).length ∨ isDig (figS x) = false) := by
    rw [← empty_tl]
    intro z
    rw [Bool.or_eq_false_iff, Bool.or_eq_false_iff] at h
    rcases z with z | z | z
    · rw [decide_eq_true z] at h; cases h.1
    · rw [decide_eq_true z] at h; cases h.2.1
    · rw [z] at h; cases h.2.2
  obtain ⟨a, r, ea⟩ : ∃ a r, TL.tl (figS x) = a :: r := by
    cases e : TL.tl (figS x) with
    | nil => exact (h' (.inl e)).elim
    | cons a r => exact ⟨a, r, rfl⟩
  have hb : decide ((⟨#[a]⟩ : Str) = Str.ofString "0") = decide (a = 48) := decide_eq_decide.mpr ⟨fun z => by
    have := congrArg TL.tl z
    have e : TL.tl (Str.ofString "0") = [48] := by decide
    rw [e] at this
    exact (List.cons.inj this).1, fun z => by rw [z]; decide⟩
  obtain ⟨n, hn, hl⟩ := num_reads (w := x) (fun z => h' (.inl z)) (Nat.le_of_not_lt fun z => h' (.inr (.inl z))) (by
    cases e : isDig (figS x) with
    | true => rfl
    | false => exact (h' (.inr (.inr e))).elim)
  have hsome : (numN x).isSome = (decide (x = Str.ofString "0") || !decide (a = 48)) := by
    unfold numN
    rw [if_neg h']
    by_cases z : (TL.tl (figS x))[0]? = some 48 ∧ x ≠ Str.ofString "0"
    · rw [if_pos z]
      obtain ⟨z1, z2⟩ := z
      rw [ea] at z1
      have z1 : a = 48 := by simpa using z1
      rw [decide_eq_false z2, decide_eq_true z1] <;> rfl
    · rw [if_neg z, hn]
      by_cases z2 : x = Str.ofString "0"
      · rw [decide_eq_true z2] <;> rfl
      · have z1 : a ≠ 48 := fun z1 => z ⟨by rw [ea, z1] <;> rfl, z2⟩
        rw [decide_eq_false z1, Bool.not_false, Bool.or_true] <;> rfl
  rw [hsome] at q
  refine ss_cons (ws_ret (ev_or (d := !decide (a = 48)) (ev_eqT (ev_name 0) ev_str) (fun _ => ev_and1 (Ev.is (ev_neT (ev_ixStr (c := a) (ev_name 1) ev_int (by rw [sizeLine_eq]; omega) (atI_nat (k := 0) rfl (by show (TL.tl (figS x))[0]? = _; rw [ea] <;> rfl))) ev_str) (by rw [hb])))) (back_d q))
theorem okT__law_is_number (T : TT K mg) : OkHt P w K mg base 1 "_law_is_number" ["_law_word"] F_isNum := okHt_of (g__law_is_number T) (d__law_is_number T) (fun _ _ _ _ _ _ us hl => match us, hl with | [_], _ => rfl) fun fd Fd => fnT__law_is_number T Fd
theorem fnT__law_row (T : TT K mg) {fd : FuncData} (Fd : FunD K "_law_row" "_law_row" (defArgs s__law_row) (defBody s__law_row) (defScope s__law_row) [] [] (ga K "_law_row") fd) : FnHt P w K mg base 2 (ga K "_law_row") fd ["_law_row_here", "_law_word", "_law_many"] (spF K 3 F_lrow) := by
  refine fn_wHt Fd sc__law_row (fun cdv A outer s H E pz rs S QR c hc hl hF => ?_) (fun _ _ _ _ h => h)
  obtain ⟨x, word, many, rfl, hx, hok, q⟩ := hF
  obtain ⟨w0, ws, hsp⟩ := split_ne x
  have hfew := split_few x
  have hsh := split_short x
  have hsk := split_okS hok
  have hR : rowR word many x = if w0 = word then (match numsN ws with | none => none | some ns => if ns.length = many then some ns else none) else none := by
    unfold rowR
    rw [hsp] <;> rfl
  rw [hsp] at hfew hsh hsk
  rw [List.length_cons] at hfew
  rw [hR] at q
  have hcutL : Cu.cutD ((w0 :: ws).map PyData.str) (some 1) none = ws.map .str := by rw [show (1 : Int) = ((1 : Nat) : Int) from rfl, cutD_from] <;> rfl
  refine ss_cons (ws_set 3 c.nd (r := .d (.list ((w0 :: ws).map .str))) (Ev.is (ev_split (ev_name 0) ev_str rfl (by omega)) (by rw [hsp])) ?_)
  refine ss_cons (ws_if (k1 := !decide (w0 = word) || !decide (ws.length = many)) (EvT.is (evt_w (evw_or (evt_neT (ev_ixL (ds := (w0 :: ws).map .str) (d := .str w0) (ev_name 3) ev_int (atI_nat (k := 0) rfl rfl)) (ev_name 1)) fun _ => evw_or1 (evt_neI (ev_lenA (ds := (w0 :: ws).map .str) (z_len T) (ev_name 3) rfl) (ev_add (ev_name 2) ev_int)))) (by rw [List.length_map, List.length_cons]; congr 2; exact decide_eq_decide.mpr (by omega))) (fun h => ?_) (fun h => ss_nil ?_))
  · have hno : (if w0 = word then (match numsN ws with | none => none | some ns => if ns.length = many then some ns else none) else none) = none := by
      by_cases hw : w0 = word
      · have h2 : ¬ ws.length = many := by rw [decide_eq_true hw] at h; simpa using h
        rw [if_pos hw]
        cases hn : numsN ws with
        | none => rfl
        | some ns =>
          have : ns.length = ws.length := by rw [← (numsN_inv hn).1, List.length_map]
          exact if_neg (by omega)
      · rw [if_neg hw]
    rw [hno] at q
    exact ss_cons (ws_ret ev_none (back_d q))
  obtain ⟨hw, hlm⟩ : w0 = word ∧ ws.length = many := by
    rw [Bool.or_eq_false_iff] at h
    exact ⟨by simpa using h.1, by simpa using h.2⟩
  rw [if_pos hw] at q
  refine ss_cons (ws_if (k1 := !(numsN ws).isSome) (EvT.is (evt_neDH c (x := .list ((ws.filter fun w => !(numN w).isSome).map PyData.str)) (Ev.is (ev_lcH c (blkOk_by (by rfl)) (lcH_pure (rs := (ws.map PyData.str).map .d) (own := [("_law_one", 4)]) c (by
    exact eviH_list (Ev.is (r' := .d (.list (ws.map .str))) (ev_slL (lo := some _) (hi := none) (il := some 1) (ih := none) (ev_name 3) ev_int trivial) (by rw [hcutL]))) (tgH_name 4 c.nd) (strB fun w => !(numN w).isSome) idG (fun _ => trivial) (fun r hr => ?_) ?_)) ?_) (ev_lst eva_nil) (shaped_strs fun v hv => hsk v (List.mem_cons_of_mem _ (List.mem_filter.mp hv).1)) (shaped_strs (l := []) (fun _ h => nomatch h))) ?_) (fun h => ?_) (fun h => ss_nil ?_))
  · obtain ⟨d, hd, rfl⟩ := List.mem_map.mp hr
    obtain ⟨v, hv, rfl⟩ := List.mem_map.mp hd
    exact ⟨_, rfl, fun L s H C cl fp => evt_not (evt_val (ev_callHt (c.blk _ s H C cl fp) (okT__law_is_number T) (eva_cons (ev_name 4) eva_nil) (fun QR QE q => ⟨v, rfl, Nat.le_trans (hsh v (List.mem_cons_of_mem _ hv)) (by omega), hsk v (List.mem_cons_of_mem _ hv), q⟩))), fun _ L s H C cl fp => (ev_name 4)⟩
  · rw [List.length_map, List.length_map]; omega
  · rw [strs_fil]
  · rw [show (List.map PyData.str []) = [] from rfl, eqv_nil]
    rw [← numsN_none]
    cases ws.filter fun w => !(numN w).isSome <;> rfl
  · have hn : numsN ws = none := by
      cases e : numsN ws with
      | none => rfl
      | some ns => rw [e] at h; cases h
    rw [hn] at q
    exact ss_cons (ws_ret ev_none (back_d q))
  obtain ⟨ns, hn⟩ : ∃ ns, numsN ws = some ns := by
    cases e : numsN ws with
    | none => rw [e] at h; cases h
    | some ns => exact ⟨ns, rfl⟩
  have hnl : ns.length = ws.length := by rw [← (numsN_inv hn).1, List.length_map]
  obtain ⟨each, hns⟩ := numsN_each hn
  rw [hn] at q
  have q : QR (.d (optI (if ns.length = many then some ns else none))) S := q
  rw [if_pos (by omega)] at q
  refine ss_cons (ws_ret (r := .d (.list (ns.map .int))) (Ev.is (ev_lcH c (blkOk_by (by rfl)) (lcH_pure (own := [("_law_one", 4)]) c (eviH_list (Ev.is (r' := .d (.list (ws.map .str))) (ev_slL (lo := some _) (hi := none) (il := some 1) (ih := none) (ev_name 3) ev_int trivial) (by rw [hcutL]))) (tgH_name 4 c.nd) (fun _ => true) (strF fun w => .int ((numN w).getD 0)) (fun _ => trivial) (fun r hr => ?_) (by rw [List.length_map, List.length_map]; omega))) (by rw [strs_out, hns, List.map_map] <;> rfl)) (back_d q))
  obtain ⟨d, hd, rfl⟩ := List.mem_map.mp hr
  obtain ⟨v, hv, rfl⟩ := List.mem_map.mp hd
  obtain ⟨n, en, hl41⟩ := each v hv
  refine ⟨_, rfl, fun L s H C cl fp => rfl, fun _ L s H C cl fp => Ev.is (ev_intS (z_int T) (ev_name 4) (numN_text en) (by omega)) ?_⟩
  show Cu.It.d (.int n) = .d (.int ((numN v).getD 0))
  rw [en] <;> rfl
theorem okT__law_row (T : TT K mg) : OkHt P w K mg base 2 "_law_row" ["_law_row_here", "_law_word", "_law_many"] F_lrow := okHt_of (g__law_row T) (d__law_row T) (fun _ _ _ _ _ _ us hl => match us, hl with | [_, _, _], _ => rfl) fun fd Fd => fnT__law_row T Fd
theorem fnT__law_is_text (T : TT K mg) {fd : FuncData} (Fd : FunD K "_law_is_text" "_law_is_text" (defArgs s__law_is_text) (defBody s__law_is_text) (defScope s__law_is_text) [] [] (ga K "_law_is_text") fd) : FnHt P w K mg base 3 (ga K "_law_is_text") fd ["_law_text_here"] (spF K 1 F_isText) := by
  refine fn_wHt Fd sc__law_is_text (fun cdv A outer s H E pz rs S QR c hc hl hF => ?_) (fun _ _ _ _ h => h)
  obtain ⟨x, rfl, hx, hok, q⟩ := hF
  have hne : Txt.split x (Str.ofString "\n") ≠ [] := by
    obtain ⟨a, b, e⟩ := split_neN x
    rw [e]
    exact List.cons_ne_nil _ _
  obtain ⟨l, last, hsp⟩ := last_cases hne
  have hfew := split_fewN x
  have hsh := split_shortN x
  have hsk := split_okSN hok
  rw [okR_eq hsp] at q
  rw [hsp] at hfew hsh hsk
  rw [List.length_append] at hfew
  have hfew : l.length + 1 ≤ x.length + 1 := hfew
  refine ss_cons (ws_set 1 c.nd (r := .d (.list ((l ++ [last]).map .str))) (Ev.is (ev_split (ev_name 0) ev_str rfl (by omega)) (by rw [hsp])) ?_)
  have hlast : atI ((l ++ [last]).map PyData.str) (-1) = some (.str last) := at_last _ _
  have hlen : ((l ++ [last]).map PyData.str).length = l.length + 1 := by rw [List.length_map, List.length_append] <;> rfl
  refine ss_cons (ws_if (k1 := decide (l.length < 3) || (!decide (last = Str.ofString "") || decide (15 < l.length))) (EvT.is (evt_w (evw_or (EvT.is (evt_lt (ev_lenA (ds := (l ++ [last]).map .str) (z_len T) (ev_name 1) rfl) ev_int) (c' := decide (l.length < 3)) (by rw [hlen]; exact decide_eq_decide.mpr (by omega))) fun _ => evw_or (evt_neT (ev_ixL (ds := (l ++ [last]).map .str) (d := .str last) (ev_name 1) (ev_neg ev_int) hlast) ev_str) fun _ => evw_or1 (EvT.is (evt_gt (ev_lenA (ds := (l ++ [last]).map .str) (z_len T) (ev_name 1) rfl) ev_int) (c' := decide (15 < l.length)) (by rw [hlen]; exact decide_eq_decide.mpr (by omega))))) rfl) (fun h => ?_) (fun h => ss_nil ?_))
  · refine ss_cons (ws_ret (Ev.is ev_bool ?_) (back_d q))
    congr 2
    rw [Bool.or_eq_true, Bool.or_eq_true, decide_eq_true_eq, Bool.not_eq_true', decide_eq_false_iff_not, decide_eq_true_eq] at h
    rcases h with h | h | h
    · rw [decide_eq_false (show ¬ 3 ≤ l.length by omega)]; simp
    · rw [decide_eq_false h] <;> rfl
    · rw [decide_eq_false (show ¬ l.length ≤ 15 by omega)]; simp
  obtain ⟨h3, hla, h15⟩ : 3 ≤ l.length ∧ last = Str.ofString "" ∧ l.length ≤ 15 := by
    rw [Bool.or_eq_false_iff, Bool.or_eq_false_iff, decide_eq_false_iff_not, Bool.not_eq_false', decide_eq_true_eq, decide_eq_false_iff_not] at h
    exact ⟨by omega, h.2.1, by omega⟩
  rw [decide_eq_true hla, decide_eq_true h3, decide_eq_true h15] at q
  have xl : ∀ i, i < l.length → l.getD i (Str.ofString "") ∈ l := fun i hi => by
    rw [List.getD_eq_getElem?_getD, List.getElem?_eq_getElem hi]
    exact List.getElem_mem hi
  have xat : ∀ i, i < l.length → ((l ++ [last]).map PyData.str)[i]? = some (.str (l.getD i (Str.ofString ""))) := fun i hi => by
    rw [List.getElem?_map, List.getElem?_append_left hi, List.getElem?_eq_getElem hi, List.getD_eq_getElem?_getD, List.getElem?_eq_getElem hi] <;> rfl
  refine ss_cons (ws_set 2 c.nd (ev_lst (eva_cons ev_str (eva_cons ev_str (eva_cons ev_str eva_nil)))) ?_)
  refine ss_cons (ws_forH c (eviH_range1 (z_range T) ev_int (by decide)) (J := fun i G' S' => (∃ g3 g4, G' = [some (.d (.str x)), some (.d (.list ((l ++ [last]).map .str))), some (.d (.list [.str (Str.ofString "gap"), .str (Str.ofString "width"), .str (Str.ofString "rim")])), g3, g4, none]) ∧ S' = S ∧ ∀ j, j < i → headOk j (l.getD j (Str.ofString "")) = true) (fun r G => G.set 3 (some r)) ⟨⟨_, _, rfl⟩, rfl, fun _ z => absurd z (Nat.not_lt_zero _)⟩ (fun _ _ _ _ => trivial) ?_ ?_ ?_)
  · rintro i r G' S' hr ⟨⟨g3, g4, rfl⟩, rfl, _⟩
    exact evg_name 3 c.nd
  · rintro i r G' S' hr ⟨⟨g3, g4, rfl⟩, rfl, hto⟩
    obtain ⟨hi, rfl⟩ := rngI_at hr
    have hi : i < 3 := hi
    have e0 : (0 : Int) + (i : Int) = (i : Int) := by omega
    have hw3 : atI [PyData.str (Str.ofString "gap"), .str (Str.ofString "width"), .str (Str.ofString "rim")] (i : Int) = some (.str (wordK i)) := by
      have : i = 0 ∨ i = 1 ∨ i = 2 := by omega
      rcases this with rfl | rfl | rfl <;> exact atI_nat rfl rfl
    rw [e0]
    refine ss_cons (ws_set 4 c.nd (r := .d (optI (rowR (wordK i) 1 (l.getD i (Str.ofString ""))))) (ev_callHt c (okT__law_row T) (eva_cons (ev_ixL (d := .str (l.getD i (Str.ofString ""))) (ev_name 1) (ev_name 3) (atI_nat (k := i) rfl (xat i (by omega)))) (eva_cons (ev_ixL (ev_name 2) (ev_name 3) hw3) (eva_cons ev_int eva_nil))) (fun QR QE q => ⟨_, _, 1, rfl, Nat.le_trans (hsh _ (List.mem_append_left _ (xl i (by omega)))) hx, hsk _ (List.mem_append_left _ (xl i (by omega))), q⟩)) ?_)
    cases hrow : rowR (wordK i) 1 (l.getD i (Str.ofString "")) with
    | none =>
      refine ss_cons (ws_if (k1 := true) (evt_w (evw_orT (EvT.is (evt_isN (r := .d .none) (ev_name 4)) rfl))) (fun _ => ?_) (fun z => nomatch z))
      have hbad : headOk i (l.getD i (Str.ofString "")) = false := by unfold headOk; rw [hrow]
      rw [head_bad hi hbad] at q
      exact ss_cons (ws_ret ev_bool (back_d q))
    | some ns =>
      have hone := one_of (rowR_len hrow)
      obtain ⟨v, hv⟩ : ∃ v, v = ns.getD 0 0 := ⟨_, rfl⟩
      rw [← hv] at hone
      rw [hone]
      have hlo : atI [PyData.int 0, .int 1, .int 0] (i : Int) = some (.int (loK i)) := by
        have : i = 0 ∨ i = 1 ∨ i = 2 := by omega
        rcases this with rfl | rfl | rfl <;> exact atI_nat rfl rfl
      have hhi : atI [PyData.int 2, .int 3, .int 1] (i : Int) = some (.int (hiK i)) := by
        have : i = 0 ∨ i = 1 ∨ i = 2 := by omega
        rcases this with rfl | rfl | rfl <;> exact atI_nat rfl rfl
      have hh : headOk i (l.getD i (Str.ofString "")) = (decide (loK i ≤ v) && decide (v ≤ hiK i)) := by unfold headOk; rw [hrow, hv]
      refine ss_cons (ws_if (k1 := !(decide (loK i ≤ v) && decide (v ≤ hiK i))) (evt_w (evw_orF (EvT.is (evt_isN (r := .d (.list [.int v])) (ev_name 4)) rfl) (evw_or1 (evt_not (evt_leLe (ev_ixL (ev_lst (eva_cons ev_int (eva_cons ev_int (eva_cons ev_int eva_nil)))) (ev_name 3) hlo) (ev_ixL (d := .int v) (ev_name 4) ev_int (atI_nat (k := 0) rfl rfl)) (fun _ => ev_ixL (ev_lst (eva_cons ev_int (eva_cons ev_int (eva_cons ev_int eva_nil)))) (ev_name 3) hhi)))))) (fun h => ?_) (fun h => ss_nil (ss_nil ?_)))
      · have hbad : headOk i (l.getD i (Str.ofString "")) = false := by rw [hh]; exact bnot h
        rw [head_bad hi hbad] at q
        exact ss_cons (ws_ret ev_bool (back_d q))
      · refine ⟨⟨_, _, rfl⟩, rfl, fun j hj => ?_⟩
        by_cases e : j = i
        · rw [e, hh]; exact bnot2 h
        · exact hto j (by omega)
  rintro G' S' ⟨⟨g3, g4, rfl⟩, rfl, hto⟩
  have t0 := hto 0 (by show 0 < 3; decide)
  have t1 := hto 1 (by show 1 < 3; decide)
  have t2 := hto 2 (by show 2 < 3; decide)
  rw [t0, t1, t2] at q
  have q : QR (.d (.bool ((l.drop 3).all kOk))) S' := q
  have hcut : Cu.cutD ((l ++ [last]).map PyData.str) (some 3) (some (-1)) = (l.drop 3).map .str := cut_mid h3
  refine ss_cons (ws_forH c (eviH_list (ds := (l.drop 3).map .str) (Ev.is (ev_slL (lo := some _) (hi := some _) (il := some 3) (ih := some (-1)) (ev_name 1) ev_int (ev_neg ev_int)) (by rw [hcut]))) (J := fun i G' S2 => (∃ g3 g4 g5, G' = [some (.d (.str x)), some (.d (.list ((l ++ [last]).map .str))), some (.d (.list [.str (Str.ofString "gap"), .str (Str.ofString "width"), .str (Str.ofString "rim")])), g3, g4, g5]) ∧ S2 = S' ∧ ∀ y ∈ (l.drop 3).take i, kOk y = true) (fun r G => G.set 5 (some r)) ⟨⟨_, _, _, rfl⟩, rfl, fun _ z => nomatch z⟩ (fun _ _ _ _ => trivial) ?_ ?_ ?_)
  · rintro i r G' S2 hr ⟨⟨g3, g4, g5, rfl⟩, rfl, _⟩
    exact evg_name 5 c.nd
  · rintro i r G' S2 hr ⟨⟨g3, g4, g5, rfl⟩, rfl, hto2⟩
    rw [List.getElem?_map, List.getElem?_map] at hr
    cases hy : (l.drop 3)[i]? with
    | none => rw [hy] at hr; cases hr
    | some y =>
      rw [hy] at hr
      obtain rfl : .d (.str y) = r := by simpa using hr
      have hym : y ∈ l.drop 3 := List.mem_of_getElem? hy
      have hyl : y ∈ l ++ [last] := List.mem_append_left _ (List.mem_of_mem_drop hym)
      have bad : kOk y = false → (l.drop 3).all kOk = false := fun z => by
        rw [Bool.eq_false_iff]
        intro h
        have := List.all_eq_true.mp h y hym
        rw [z] at this; cases this
      refine ss_cons (ws_set 4 c.nd (r := .d (optI (keepR y))) (ev_callHt c (okT__law_row T) (eva_cons (ev_name 5) (eva_cons ev_str (eva_cons ev_int eva_nil))) (fun QR QE q => ⟨_, _, 5, rfl, Nat.le_trans (hsh _ hyl) hx, hsk _ hyl, q⟩)) ?_)
      cases hrow : keepR y with
      | none =>
        refine ss_cons (ws_if (k1 := true) (evt_w (evw_orT (EvT.is (evt_isN (r := .d .none) (ev_name 4)) rfl))) (fun _ => ?_) (fun z => nomatch z))
        rw [bad (by unfold kOk; rw [hrow])] at q
        exact ss_cons (ws_ret ev_bool (back_d q))
      | some ns =>
        have h5 := rowR_len (show rowR (Str.ofString "keep") 5 y = some ns from hrow)
        obtain ⟨a, b, wd, hh, z, rfl⟩ : ∃ a b c d e, ns = [a, b, c, d, e] := by
          match ns, h5 with
          | [a, b, c, d, e], _ => exact ⟨_, _, _, _, _, rfl⟩
        have hk : kOk y = keepOk (intsD [a, b, wd, hh, z]) := by unfold kOk; rw [hrow]
        obtain ⟨mn, hmn1, hmn2⟩ := min_of a [b, wd, hh, z]
        obtain ⟨mx, hmx1, hmx2⟩ := max_of a [b, wd, hh, z]
        have hkk := keepOk_min hmn1 hmn2 hmx1 hmx2
        refine ss_cons (ws_if (k1 := decide (mn < 0) || (decide (wd < 1) || decide (hh < 1))) (evt_w (evw_orF (EvT.is (evt_isN (r := .d (.list [.int a, .int b, .int wd, .int hh, .int z])) (ev_name 4)) rfl) (evw_or (evt_lt (ev_minLH (ns := [a, b, wd, hh, z]) c (z_min T) (ev_name 4) hmn1 hmn2) ev_int) fun _ => evw_or (evt_lt (ev_ixL (d := .int wd) (ev_name 4) ev_int (atI_nat (k := 2) rfl rfl)) ev_int) fun _ => evw_or1 (evt_lt (ev_ixL (d := .int hh) (ev_name 4) ev_int (atI_nat (k := 3) rfl rfl)) ev_int)))) (fun h => ?_) (fun h => ss_nil ?_))
        · rw [bad (by rw [hk, hkk, h] <;> rfl)] at q
          exact ss_cons (ws_ret ev_bool (back_d q))
        refine ss_cons (ws_if (k1 := decide (10 ^ (40 : Int).toNat ≤ mx)) (evt_ge (ev_maxLH (ns := [a, b, wd, hh, z]) c (z_max T) (ev_name 4) hmx1 hmx2) (ev_pow ev_int ev_int ⟨by decide, by decide, by decide⟩)) (fun h2 => ?_) (fun h2 => ss_nil (ss_nil ?_)))
        · rw [bad (by rw [hk, hkk, h, h2] <;> rfl)] at q
          exact ss_cons (ws_ret ev_bool (back_d q))
        · refine ⟨⟨_, _, _, rfl⟩, rfl, fun u hu => ?_⟩
          rw [List.take_add_one, hy] at hu
          rcases List.mem_append.mp hu with hu | hu
          · exact hto2 u hu
          · obtain rfl : u = y := by simpa using hu
            rw [hk, hkk, h, h2] <;> rfl
  · rintro G' S2 ⟨⟨g3, g4, g5, rfl⟩, rfl, hto2⟩
    rw [List.length_map, List.length_map, List.take_length] at hto2
    rw [List.all_eq_true.mpr hto2] at q
    exact ss_cons (ws_ret ev_bool (back_d q))
theorem okT__law_is_text (T : TT K mg) : OkHt P w K mg base 3 "_law_is_text" ["_law_text_here"] F_isText := okHt_of (g__law_is_text T) (d__law_is_text T) (fun _ _ _ _ _ _ us hl => match us, hl with | [_], _ => rfl) fun fd Fd => fnT__law_is_text T Fd
end
end Pf
namespace Pf
open PySem PySem.Spec PyProof.Rows L2 He Cu
theorem text_join (rows : List Str) : textOf rows = Txt.join nl1 (rows ++ [Str.ofString ""]) := by
  refine TL.ext_tl ?_
  rw [tl_text, TL.join_eq, TL.tl_join, tl_nl, List.map_append]
  show _ = TL.joinL [10] (rows.map TL.tl ++ [[]])
  rw [joinE2, List.map_map] <;> rfl
def upN (k : List Nat) : List Int := k.map fun (n : Nat) => (n : Int)
theorem upN_of : ∀ {k : List Int}, (∀ i ∈ k, 0 ≤ i) → ∃ k' : List Nat, k = upN k'
  | [], _ => ⟨[], rfl⟩
  | i :: r, h => by
    obtain ⟨k', e⟩ := upN_of (k := r) fun j hj => h j (List.mem_cons_of_mem _ hj)
    have := h i List.mem_cons_self
    exact ⟨i.toNat :: k', by rw [e]; show _ = ((i.toNat : Nat) : Int) :: upN k'; rw [Int.toNat_of_nonneg this]⟩
theorem intsD_up (k : List Nat) : intsD (upN k) = intsN k := by unfold intsD upN intsN; rw [List.map_map] <;> rfl
theorem rowR_text {word x : Str} {many : Nat} {k : List Nat} (h : rowR word many x = some (upN k)) : rowW word k = x := by
  obtain ⟨w0, ws, hsp⟩ := split_ne x
  have hj := join_split x
  unfold rowR at h
  rw [hsp] at h hj
  have h : (if w0 = word then (match numsN ws with | none => none | some ns => if ns.length = many then some ns else none) else none) = some (upN k) := h
  by_cases hw : w0 = word
  · rw [if_pos hw] at h
    cases hn : numsN ws with
    | none => rw [hn] at h; cases h
    | some ns =>
      rw [hn] at h
      have h : (if ns.length = many then some ns else none) = some (upN k) := h
      split at h
      · have e := Option.some.inj h
        have e1 := (numsN_inv hn).1
        rw [← hj, ← e1, e, hw]
        unfold rowW wordsN upN sp1
        rw [List.map_map] <;> rfl
      · cases h
  · rw [if_neg hw] at h; cases h
theorem keep_up {ds : List Int} (h : keepOk (intsD ds) = true) : ∃ k : List Nat, ds = upN k ∧ KeepOk k := by
  match ds, h with
  | [a, b, c, d, e], h =>
    have h : ((decide ((0 : Int) ≤ a) && decide (a ≤ M40)) && ((decide ((0 : Int) ≤ b) && decide (b ≤ M40)) && ((decide ((0 : Int) ≤ e) && decide (e ≤ M40)) && true)) && ((decide ((1 : Int) ≤ c) && decide (c ≤ M40)) && (decide ((1 : Int) ≤ d) && decide (d ≤ M40)))) = true := h
    unfold M40 at h
    simp only [Bool.and_eq_true, decide_eq_true_eq, Bool.and_true] at h
    obtain ⟨⟨⟨a1, a2⟩, ⟨b1, b2⟩, e1, e2⟩, ⟨c1, c2⟩, d1, d2⟩ := h
    obtain ⟨k, hk⟩ := upN_of (k := [a, b, c, d, e]) (fun i hi => by
      simp only [List.mem_cons, List.not_mem_nil, or_false] at hi
      rcases hi with rfl | rfl | rfl | rfl | rfl <;> omega)
    refine ⟨k, hk, ?_⟩
    match k, hk with
    | [a', b', c', d', e'], hk =>
      have hk : [a, b, c, d, e] = [(a' : Int), b', c', d', e'] := hk
      simp only [List.cons.injEq, and_true] at hk
      obtain ⟨rfl, rfl, rfl, rfl, rfl⟩ := hk
      refine ⟨⟨a', b', c', d', e', rfl, by omega, by omega⟩, fun n hn => ?_⟩
      simp only [List.mem_cons, List.not_mem_nil, or_false] at hn
      rcases hn with rfl | rfl | rfl | rfl | rfl <;> omega
theorem keeps_up : ∀ {ks : List (List Int)}, ((ks.map intsD).all keepOk) = true → ∃ ks' : List (List Nat), ks = ks'.map upN ∧ ∀ k ∈ ks', KeepOk k
  | [], _ => ⟨[], rfl, fun _ h => nomatch h⟩
  | d :: r, h => by
    rw [List.map_cons, List.all_cons, Bool.and_eq_true] at h
    obtain ⟨k, e1, e2⟩ := keep_up h.1
    obtain ⟨ks', e3, e4⟩ := keeps_up h.2
    refine ⟨k :: ks', by rw [e1, e3] <;> rfl, fun k' hk' => ?_⟩
    rcases List.mem_cons.mp hk' with rfl | hk'
    · exact e2
    · exact e4 k' hk'
theorem keepsR_rows0 : ∀ {l : List Str} {ks : List (List Nat)}, (l.all fun x => (keepR x).isSome) = true → (l.map fun x => (keepR x).getD []) = ks.map upN → l = ks.map (rowW (Str.ofString "keep"))
  | [], [], _, _ => rfl
  | [], _ :: _, _, h => by cases h
  | _ :: _, [], _, h => by cases h
  | x :: r, k :: ks, hall, h => by
    rw [List.map_cons, List.map_cons] at h
    obtain ⟨h1, h2⟩ := List.cons.inj h
    rw [List.all_cons, Bool.and_eq_true] at hall
    have hx : keepR x = some (upN k) := by
      cases e : keepR x with
      | none => rw [e] at hall; cases hall.1
      | some y => rw [e] at h1; rw [← h1] <;> rfl
    rw [List.map_cons, ← keepsR_rows0 hall.2 h2, rowR_text (show rowR (Str.ofString "keep") 5 x = some (upN k) from hx)]
theorem keepsR_rows {l : List Str} {ks : List (List Nat)} (h : keepsR l = some (ks.map upN)) : l = ks.map (rowW (Str.ofString "keep")) := by
  unfold keepsR at h
  by_cases hall : (l.all fun x => (keepR x).isSome) = true
  · rw [if_pos hall] at h
    exact keepsR_rows0 hall (Option.some.inj h)
  · rw [if_neg hall] at h; cases h
theorem one_up {ns : List Int} {word x : Str} (h : rowR word 1 x = some ns) (h0 : 0 ≤ ns.getD 0 0) : ∃ n : Nat, ns.getD 0 0 = (n : Int) ∧ rowW word [n] = x := by
  have e := one_of (rowR_len h)
  refine ⟨(ns.getD 0 0).toNat, (Int.toNat_of_nonneg h0).symm, rowR_text (many := 1) ?_⟩
  rw [h]
  show some ns = some [(((ns.getD 0 0).toNat : Nat) : Int)]
  rw [Int.toNat_of_nonneg h0, ← e]
theorem read_text {x : Str} {g w r : List Int} {ks : List (List Int)} (h : readR x = some (g, w, r, ks)) (ho : okR x = true) :
    ∃ (g' w' r' : Nat) (ks' : List (List Nat)), g.getD 0 0 = (g' : Int) ∧ w.getD 0 0 = (w' : Int) ∧ r.getD 0 0 = (r' : Int) ∧ ks = ks'.map upN ∧ RulOk g' w' r' ks' ∧ textOf (rowsR g' w' r' ks') = x := by
  have hne : Txt.split x (Str.ofString "\n") ≠ [] := by
    obtain ⟨a, b, e⟩ := split_neN x
    rw [e]
    exact List.cons_ne_nil _ _
  obtain ⟨l, last, hsp⟩ := last_cases hne
  have hj := join_splitN x
  rw [hsp] at hj
  have ho2 : rulesOk (.int (g.getD 0 0)) (.int (w.getD 0 0)) (.int (r.getD 0 0)) (ks.map intsD) = true := by
    unfold okR at ho
    rw [h] at ho
    exact ho
  unfold readR at h
  rw [hsp, List.getLast?_concat, List.dropLast_concat] at h
  by_cases hla : last = Str.ofString ""
  rotate_left
  · rw [if_neg (fun z => hla (Option.some.inj z))] at h; cases h
  rw [if_pos (by rw [hla])] at h
  unfold rowsIn at h
  by_cases h3 : l.length < 3
  · rw [if_pos h3] at h; cases h
  rw [if_neg h3] at h
  cases hg : rowR (Str.ofString "gap") 1 (l.getD 0 (Str.ofString "")) with
  | none => rw [hg] at h; cases h
  | some g1 =>
    cases hw : rowR (Str.ofString "width") 1 (l.getD 1 (Str.ofString "")) with
    | none => rw [hg, hw] at h; cases h
    | some w1 =>
      cases hr : rowR (Str.ofString "rim") 1 (l.getD 2 (Str.ofString "")) with
      | none => rw [hg, hw, hr] at h; cases h
      | some r1 =>
        cases hk : keepsR (l.drop 3) with
        | none => rw [hg, hw, hr, hk] at h; cases h
        | some ks1 =>
          rw [hg, hw, hr, hk] at h
          have h : some (g1, w1, r1, ks1) = some (g, w, r, ks) := h
          cases h
          unfold rulesOk inB at ho2
          have ho2 : (((decide ((0 : Int) ≤ g.getD 0 0) && decide (g.getD 0 0 ≤ 2)) && ((decide ((1 : Int) ≤ w.getD 0 0) && decide (w.getD 0 0 ≤ 3)) && (decide ((0 : Int) ≤ r.getD 0 0) && decide (r.getD 0 0 ≤ 1)))) && (decide ((ks.map intsD).length ≤ 12) && (ks.map intsD).all keepOk)) = true := ho2
          rw [List.length_map] at ho2
          simp only [Bool.and_eq_true, decide_eq_true_eq] at ho2
          obtain ⟨⟨⟨g0, g2⟩, ⟨w0, w3⟩, r0, r2⟩, k12, kall⟩ := ho2
          obtain ⟨g', eg, tg⟩ := one_up hg g0
          obtain ⟨w', ew, tw⟩ := one_up hw (by omega)
          obtain ⟨r', er, tr⟩ := one_up hr r0
          obtain ⟨ks', ek, kok⟩ := keeps_up kall
          subst ek
          rw [List.length_map] at k12
          refine ⟨g', w', r', ks', eg, ew, er, rfl, ⟨by omega, by omega, by omega, by omega, k12, kok⟩, ?_⟩
          have tk := keepsR_rows hk
          have hl : rowsR g' w' r' ks' = l := by
            unfold rowsR
            rw [tg, tw, tr, ← tk]
            match l, h3 with
            | a :: b :: c :: m, _ => rfl
            | [_, _], h3 => exact absurd (Nat.lt_succ_self 2) h3
            | [_], h3 => exact absurd (show 1 < 3 by decide) h3
            | [], h3 => exact absurd (show 0 < 3 by decide) h3
          rw [hl, text_join, ← hj, hla] <;> rfl
def F_right : Fn := fun rs S QR _ => ∃ x : Str, rs = [.d (.str x)] ∧ x.length ≤ 90000 ∧ okS x ∧ QR (.d (.bool true)) S
section
variable {P : Program} {w : World} {K : PySem.W.Frag} {mg : Str → Option Value} {base : Heap}
theorem fn__law_right (T : TT K mg) {fd : FuncData} (Fd : FunD K "_law_right" "_law_right" (defArgs s__law_right) (defBody s__law_right) (defScope s__law_right) [] [] (ga K "_law_right") fd) : FnOk P w K mg base (L2.CX P w) 7 (ga K "_law_right") fd ["_law_text_here"] (spF K 1 F_right) := by
  refine fn_w Fd sc__law_right fun cdv A outer s H E rs S QR QE c hc hl hF => ?_
  obtain ⟨x, rfl, hx, hok, q⟩ := hF
  refine ss_cons (ws_try_asN 2 c (takesN c.tk) rfl rfl ⟨rfl, by decide, .inl (g_CopperError T)⟩ (fun C G' S' => C = ga K "NoRules" ∧ G' = startG ["_law_text_here", "_law_found", "e", "_law_others"] [.d (.str x)] ∧ S' = S ∧ okR x = false) (fun W' pn xe c' tk' => ?_) ?_)
  · refine ss_cons (ws_setX 1 c'.nd (Qr := fun r S' => r = .o (S.length + 1) ∧ ∃ g w r ks L, readR x = some (g, w, r, ks) ∧ okR x = true ∧ S' = S ++ [L] ++ [.ins (ga K "Rules") (rulF (S.length + 2) (.int (g.getD 0 0)) (.int (w.getD 0 0)) (.int (r.getD 0 0)))] ++ [.lst (((ks.map intsD).map .tuple).map .d)]) (Qx := fun C S' => C = ga K "NoRules" ∧ S' = S ∧ okR x = false) (evx_callN c' tk' (okN_read_rules T) (by decide) (eva_cons (ev_name 0) eva_nil) rfl (fun QR QE k1 k2 => ⟨x, rfl, hx, fun g w r ks h1 h2 L => k1 _ _ ⟨rfl, g, w, r, ks, L, h1, h2, rfl⟩, fun h => k2 _ _ ⟨rfl, rfl, h⟩⟩)) ?_ ?_)
    · rintro _ _ ⟨rfl, g, wd, r, ks, L, h1, hO, rfl⟩
      refine ss_nil ?_
      obtain ⟨g', w', r', ks', eg, ew, er, rfl, ro, tx⟩ := read_text h1 hO
      rw [eg, ew, er]
      have e1 : ((ks'.map upN).map intsD).map PyData.tuple = ksD ks' := by
        rw [List.map_map (f := upN) (g := intsD), show (intsD ∘ upN) = intsN from funext intsD_up, ksD_tup]
      rw [e1]
      have hi : (S ++ [L] ++ [Own.ins (ga K "Rules") (rulF (S.length + 2) (.int g') (.int w') (.int r'))] ++ [Own.lst ((ksD ks').map .d)])[S.length + 1]? = some (.ins (ga K "Rules") (rulF (S.length + 2) (.int g') (.int w') (.int r'))) := by
        rw [List.getElem?_append_left (by simp), List.getElem?_append_right (by simp)]; simp
      have hj : (S ++ [L] ++ [Own.ins (ga K "Rules") (rulF (S.length + 2) (.int g') (.int w') (.int r'))] ++ [Own.lst ((ksD ks').map .d)])[S.length + 2]? = some (.lst ((ksD ks').map .d)) := by
        rw [List.getElem?_append_right (by simp)]; simp
      refine ss_cons (ws_ret (ev_and (c := true) (d := true) (Ev.is (ev_call c (ok__law_is_text T) (eva_cons (ev_name 0) eva_nil) (fun QR QE q => ⟨x, rfl, hx, hok, q⟩)) (by rw [hO])) (fun _ => ?_)) (back_drop (S1 := S) ([L] ++ [.ins (ga K "Rules") (rulF (S.length + 2) (.int g') (.int w') (.int r'))] ++ [.lst ((ksD ks').map .d)]) hc q (by simp)))
      exact Ev.is (ev_eqT (ev_meth0 c (ok_Rules_told T) (ev_name 1) hi (fun QR QE q => ⟨_, _, g', w', r', ks', rfl, hi, hj, ro, q⟩)) (ev_name 0)) (by rw [decide_eq_true tx])
    · rintro _ _ ⟨rfl, rfl, z⟩
      exact ⟨rfl, rfl, rfl, z⟩
  · rintro _ _ _ ⟨rfl, rfl, rfl, z⟩
    refine ⟨exm_NoRules_CopperError T, fun ad oe pn hz hf => ?_⟩
    refine ss_cons (ws_set 3 c.nd (ev_isET (kk := false) (cvs := [.ref (ga K "NoBoard"), .ref (ga K "NoDrawing"), .ref (ga K "NoShape"), .ref (ga K "NoSpan")]) (ec_NoRules T) hz.zc hf (z_isinstance T) (ev_name 2) (eva_cons (ev_gref (g_NoBoard T)) (eva_cons (ev_gref (g_NoDrawing T)) (eva_cons (ev_gref (g_NoShape T)) (eva_cons (ev_gref (g_NoSpan T)) eva_nil)))) rfl ?_) ?_)
    · exact kitAny_no (kit_NoRules_NoBoard T) (kitAny_no (kit_NoRules_NoDrawing T) (kitAny_no (kit_NoRules_NoShape T) (kitAny_no (kit_NoRules_NoSpan T) rfl)))
    · exact ss_cons (ws_ret (ev_and (c := true) (d := !false && !(okR x)) (ev_isE (kk := true) (ec_NoRules T) hz.zc hf (z_isinstance T) (ev_name 2) (ev_gref (g_NoRules T)) rfl (kit_NoRules_NoRules T)) fun _ => ev_and (c := !false) (d := !(okR x)) (ev_not (ev_name 3)) fun _ => ev_and1 (ev_not (ev_callHt (cxh_su c hz hf) (okT__law_is_text T) (eva_cons (ev_name 0) eva_nil) (fun QR QE q => ⟨x, rfl, hx, hok, q⟩)))) (back_d (by rw [z]; exact q)))
theorem ok__law_right (T : TT K mg) : OkF P w K mg base 7 "_law_right" ["_law_text_here"] [] F_right := okF_of (g__law_right T) (d__law_right T) (fun _ _ _ _ _ _ us hl => match us, hl with | [_], _ => rfl) fun fd Fd => fn__law_right T Fd
end
end Pf
/-! CwA: a dict with tuple keys, walked; it is locked meanwhile. -/
namespace Cu
open PySem PySem.Spec PyProof.Rows L2
/-- the dict, locked -/
def LkT (kvs : List (List Key × It)) (L : Own) : Prop := ∃ od ps, L = .lkT od ps kvs
section
variable {X : Cx} {W : WX} {k j : Nat} {G G1 G2 : Gam} {S S1 S2 S3 : Sto} {P : Post} {e a b o iter tg elt : Expr} {es : List Expr} {r y z r' : It} {rs : List It} {pos pos' p apos cpos : Pos} {ds ds' : List PyData} {m n : Int} {i : Nat} {kd : PyData} {kk : List Key} {kvs : List (List Key × It)} {body : List Stmt} {Qr : It → Sto → Prop} {Qx : Addr → Sto → Prop} {st : Stmt}
/-- a dict, locked or not -/
def HasT (S : Sto) (i : Nat) (kvs : List (List Key × It)) : Prop := S[i]? = some (.dT kvs) ∨ ∃ L, LkT kvs L ∧ S[i]? = some L
theorem hasT_at {K : PySem.W.Frag} {M : List Addr} {H : Hp} {v : V} (s : StoreOk K M H S) (hv : VRep K M H v (.o i)) (hi : HasT S i kvs) : ∃ a ps, v = .ref a ∧ M[i]? = some a ∧ (H a = some (.dT ps) ∨ ∃ od, H a = some (.frz od (.dT ps))) ∧ PRep K M H ps kvs := by
  obtain ⟨a, ha, rfl⟩ := hv
  rcases hi with hi | ⟨L, ⟨od, ps, rfl⟩, hi⟩
  · obtain ⟨ps, h1, h2⟩ := s.rep _ a _ ha hi
    exact ⟨a, ps, rfl, ha, .inl h1, h2⟩
  · obtain ⟨h1, h2⟩ := s.rep _ a _ ha hi
    exact ⟨a, ps, rfl, ha, .inr ⟨od, h1⟩, h2⟩
theorem dget_of {H : Hp} {a b : Addr} {ps : List (List Key × V)} {kk : List Key} (h : H a = some (.dT ps) ∨ ∃ od, H a = some (.frz od (.dT ps))) (hb : H b = some (.tup (kk.map kV))) : DGet H a (.ref b) (valV ps kk) := .inr ⟨ps, kk, b, h, rfl, hb, rfl⟩
theorem evt_dinTL (c : Cxo X W k) (ha : Ev X a G S (.d kd) S1) (hb : Ev X b G S1 (.o i) S2) (hi : HasT S2 i kvs) (hk : keyD kd = some kk) (hm : behindInMarks .In b = false := by rfl) : EvT X (.Compare a [.In] [b] pos) G S (valI kvs kk).isSome S2 := fun M σ H Q s q =>
  toT (pt_cmp (pc_din (u1 c) pe_s pe_s) hm) (ha M σ H _ s fun v M1 H1 e1 s1 r1 => hb M1 σ H1 _ s1 fun u M2 H2 e2 s2 r2 => by
    obtain ⟨a, ps, rfl, _, h1, h2⟩ := hasT_at s2.sto r2 hi
    obtain ⟨b, rfl, hb, _⟩ := key_at hk (r1.ext e2)
    exact ⟨a, valV ps kk, rfl, dget_of h1 hb, _, rfl, by rw [prep_some h2]; exact q M2 H2 (e1.trans e2) s2⟩)
theorem evt_dnotinTL (c : Cxo X W k) (ha : Ev X a G S (.d kd) S1) (hb : Ev X b G S1 (.o i) S2) (hi : HasT S2 i kvs) (hk : keyD kd = some kk) (hm : behindInMarks .NotIn b = false := by rfl) : EvT X (.Compare a [.NotIn] [b] pos) G S (!(valI kvs kk).isSome) S2 := fun M σ H Q s q =>
  toT (pt_cmp (pc_dnotin (u1 c) pe_s pe_s) hm) (ha M σ H _ s fun v M1 H1 e1 s1 r1 => hb M1 σ H1 _ s1 fun u M2 H2 e2 s2 r2 => by
    obtain ⟨a, ps, rfl, _, h1, h2⟩ := hasT_at s2.sto r2 hi
    obtain ⟨b, rfl, hb, _⟩ := key_at hk (r1.ext e2)
    exact ⟨a, valV ps kk, rfl, dget_of h1 hb, _, rfl, by rw [prep_some h2]; exact q M2 H2 (e1.trans e2) s2⟩)
/-- d[k], there; d may be locked -/
theorem ev_dgetTL (c : Cxo X W k) (ho : Ev X o G S (.o i) S1) (ha : Ev X a G S1 (.d kd) S2) (hi : HasT S2 i kvs) (hk : keyD kd = some kk) (hv : valI kvs kk = some r) (hs : NoSl a := by exact fun _ _ => rfl) : Ev X (.Subscript o a pos) G S r S2 := fun M σ H Q s q =>
  toE (pe_dget (u1 c) pe_s pe_s hs) (ho M σ H _ s fun v M1 H1 e1 s1 r1 => ha M1 σ H1 _ s1 fun u M2 H2 e2 s2 r2 => by
    obtain ⟨a, ps, rfl, _, h1, h2⟩ := hasT_at s2.sto (r1.ext e2) hi
    obtain ⟨b, rfl, hb, _⟩ := key_at hk r2
    rcases prep_val (k := kk) h2 with ⟨_, z⟩ | ⟨v, r', h3, h4, h5⟩
    · rw [z] at hv; cases hv
    · rw [h4] at hv
      cases hv
      refine ⟨a, v, rfl, ?_, q _ M2 H2 (e1.trans e2) s2 h5⟩
      rw [← h3]
      exact dget_of h1 hb)
/-- the keys, in order -/
def keysI (kvs : List (List Key × It)) : List It := kvs.map fun p => It.d (keyU p.1)
theorem prep_get {κ : Type} {K : PySem.W.Frag} {M : List Addr} {H : Hp} : ∀ {ps : List (κ × V)} {kvs : List (κ × It)} {i : Nat} {k : κ} {v : V}, PRep K M H ps kvs → ps[i]? = some (k, v) → ∃ r, kvs[i]? = some (k, r)
  | _, _, _, _, _, .nil, e => by simp at e
  | _, _, 0, _, _, .cons h t, e => by
    cases e
    exact ⟨_, congrArg some (Prod.ext h.1.symm rfl)⟩
  | _, _, i + 1, _, _, .cons h t, e => prep_get (i := i) t e
/-- a locked dict is walked by its keys -/
theorem evi_keysT {L : Own} (hi : Ev X iter G S (.o i) S1) (hL : LkT kvs L) (hd : S1[i]? = some L) : EvI X tg iter G S (keysI kvs) (fun S' => S'[i]? = some L) S1 := by
  obtain ⟨od, ps, rfl⟩ := hL
  refine ⟨_, pi_keys pe_s, fun M σ H R s q => hi M σ H _ s fun v M1 H1 e1 t1 r1 => ?_⟩
  obtain ⟨ad, had, rfl⟩ := r1
  obtain ⟨h1, h2⟩ := t1.sto.rep _ ad _ had hd
  have hlen : (keysI kvs).length = ps.length := by unfold keysI; rw [List.length_map]; exact (Paired.length h2).symm
  refine ⟨ad, od, rfl, .inr ⟨ps, h1, q M1 H1 _ e1 t1 ⟨fun n M' H' S' hn e' s' hc => ?_, fun n M' H' S' x H2 r hr e' s' hc yl => ?_, fun n M' H' S' hn e' s' hc => ?_⟩⟩⟩
  · exact ⟨(s'.rep _ ad _ (e'.get had) hc).1, by rw [← hlen]; exact hn⟩
  · obtain ⟨rfl, kx, vx, qx, hk, rfl, hq⟩ := yl
    obtain ⟨rr, hrr⟩ := prep_get h2 hk
    unfold keysI at hr
    rw [List.getElem?_map, hrr] at hr
    cases hr
    refine ⟨Ext.refl, s', fzU hq (no_tup s' hq fun b hb => ?_)⟩
    obtain ⟨k0, _, e0⟩ := List.mem_map.mp hb
    cases k0 <;> cases e0
  · exact ⟨(s'.rep _ ad _ (e'.get had) hc).1, by rw [← hlen]; exact hn⟩
/-- the wish of a turn while the i-th object is locked as L -/
abbrev Post.turnL (P : Post) (i : Nat) (L w : Own) (N : Gam → Sto → Prop) : Post := { nx := N, ct := N, bk := fun G S => S[i]? = some L ∧ P.nx G (S.set i w), rt := fun r S => S[i]? = some L ∧ P.rt r (S.set i w) }
/-- the state, its dict unlocked -/
theorem stt_unlock {K : PySem.W.Frag} {M : List Addr} {H : Hp} {σ : Sig} {ad : Addr} {od : Obj} {ps : List (List Key × V)} (t : Stt K M H S G σ) (had : M[i]? = some ad) (hi : S[i]? = some (.lkT od ps kvs)) : Ext M H M (upd H ad (.dT ps)) ∧ Stt K M (upd H ad (.dT ps)) (S.set i (.dT kvs)) G σ ∧ H ad = some (.frz od (.dT ps)) := by
  obtain ⟨h1, h2⟩ := t.sto.rep _ ad _ had hi
  have e3 : Ext M H M (upd H ad (.dT ps)) := Ext.put (List.mem_of_getElem? had)
  exact ⟨e3, t.mono e3 (t.sto.put (w := .dT kvs) had ⟨ps, upd_same, Paired.mapP h2 fun _ _ q => ⟨q.1, q.2.ext e3⟩⟩), h1⟩
theorem stt_lock {K : PySem.W.Frag} {M : List Addr} {H : Hp} {σ : Sig} {ad : Addr} {ps : List (List Key × V)} (od : Obj) (t : Stt K M H S G σ) (had : M[i]? = some ad) (h1 : H ad = some (.dT ps)) (h2 : PRep K M H ps kvs) : Ext M H M (upd H ad (.frz od (.dT ps))) ∧ Stt K M (upd H ad (.frz od (.dT ps))) (S.set i (.lkT od ps kvs)) G σ := by
  have e3 : Ext M H M (upd H ad (.frz od (.dT ps))) := Ext.put (List.mem_of_getElem? had)
  exact ⟨e3, t.mono e3 (t.sto.put (w := .lkT od ps kvs) had ⟨upd_same, Paired.mapP h2 fun _ _ q => ⟨q.1, q.2.ext e3⟩⟩)⟩
/-- a statement while the i-th object, a dict, is locked; nothing is raised -/
theorem ws_lockT (hd : S[i]? = some (.dT kvs)) (h : ∀ L, LkT kvs L → WS X W st G (S.set i L) { nx := fun G' S' => S'[i]? = some L ∧ P.nx G' (S'.set i (.dT kvs)), rt := fun r S' => S'[i]? = some L ∧ P.rt r (S'.set i (.dT kvs)), bk := fun G' S' => S'[i]? = some L ∧ P.bk G' (S'.set i (.dT kvs)), ct := fun G' S' => S'[i]? = some L ∧ P.ct G' (S'.set i (.dT kvs)) }) : WS X W st G S P := fun M σ H D s m => by
  obtain ⟨ad, had, ps, h1, h2⟩ := s.sto.addr hd
  refine toS (ps_lock ps_s) ⟨ad, _, h1, trivial, fun od => ?_⟩
  obtain ⟨e1, s1⟩ := stt_lock od s had h1 h2
  refine h _ ⟨od, ps, rfl⟩ M σ _ _ s1 ⟨fun M' σ' H' G' S' e t q => ?_, fun v M' H' r S' e t hv q => ?_, fun M' σ' H' G' S' e t q => ?_, fun M' σ' H' G' S' e t q => ?_, fun _ _ _ _ _ _ _ _ q => q.elim⟩
  · obtain ⟨e2, s2, f2⟩ := stt_unlock t (e.get had) q.1
    exact ⟨f2, m.nx M' σ' _ G' _ ((e1.trans e).trans e2) s2 q.2⟩
  · obtain ⟨e2, s2, f2⟩ := stt_unlock (G := []) (σ := []) ⟨t, rfl, fun _ _ q => nomatch q⟩ (e.get had) q.1
    exact ⟨f2, m.rt v M' _ r _ ((e1.trans e).trans e2) s2.sto (hv.ext e2) q.2⟩
  · obtain ⟨e2, s2, f2⟩ := stt_unlock t (e.get had) q.1
    exact ⟨f2, m.bk M' σ' _ G' _ ((e1.trans e).trans e2) s2 q.2⟩
  · obtain ⟨e2, s2, f2⟩ := stt_unlock t (e.get had) q.1
    exact ⟨f2, m.ct M' σ' _ G' _ ((e1.trans e).trans e2) s2 q.2⟩
/-- an expression while the i-th object, a dict, is locked -/
theorem ev_lockT {S' : Sto} (hd : S[i]? = some (.dT kvs)) (h : ∀ L, LkT kvs L → ∃ S1, Ev X e G (S.set i L) r S1 ∧ S1[i]? = some L ∧ S1.set i (.dT kvs) = S') : Ev X e G S r S' := fun M σ H Q s q => by
  obtain ⟨ad, had, ps, h1, h2⟩ := s.sto.addr hd
  refine toE (pe_lock pe_s) ⟨ad, _, h1, trivial, fun od => ?_⟩
  obtain ⟨e1, s1⟩ := stt_lock od s had h1 h2
  obtain ⟨S1, hev, hL, hS⟩ := h _ ⟨od, ps, rfl⟩
  refine hev M σ _ _ s1 fun v M' H' e t hv => ?_
  obtain ⟨e2, s2, f2⟩ := stt_unlock t (e.get had) hL
  rw [hS] at s2
  exact ⟨f2, q v M' _ ((e1.trans e).trans e2) s2 (hv.ext e2)⟩
/-- for x in d: the dict stands still meanwhile -/
theorem ws_forDT (c : Cxo X W k) (hi : ∀ S', Ev X iter G S' (.o i) S') (hd : S[i]? = some (.dT kvs)) (tgt : It → Gam → Gam)
    (h : ∀ L, LkT kvs L → ∃ J : Nat → Gam → Sto → Prop, J 0 G (S.set i L) ∧ (∀ n G' S', J n G' S' → S'[i]? = some L) ∧ (∀ n r G' S', (keysI kvs)[n]? = some r → J n G' S' → EvG X tg r G' S' (tgt r G') S') ∧
      (∀ n r G' S', (keysI kvs)[n]? = some r → J n G' S' → WSs X W body (tgt r G') S' (P.turnL i L (.dT kvs) (J (n + 1)))) ∧ (∀ G' S', J (keysI kvs).length G' S' → P.nx G' (S'.set i (.dT kvs))))
    (hf : ∀ x, foldedSetIterable iter X.env x = pure x := by intro _; rfl) : WS X W (.For tg iter body [] pos) G S P :=
  ws_lockT hd fun L hL => by
    obtain ⟨J, h0, hC, hg, hs, hq⟩ := h L hL
    have hl : i < S.length := (List.getElem?_eq_some_iff.mp hd).1
    have hLi : (S.set i L)[i]? = some L := List.getElem?_set_self hl
    refine ws_for c (evi_keysT (hi _) hL hLi) J tgt h0 hC hg (fun n r G' S' hr hJ => ?_) (fun G' S' hJ => ⟨hC _ _ _ hJ, hq G' S' hJ⟩) hf
    exact hs n r G' S' hr hJ
end
end Cu
/-! CwB: sorted by a lambda's keys. -/
namespace Cu
open PySem PySem.Spec PyProof.Rows L2
abbrev KeepH (h h' : Heap) : Prop := ∀ b o, h.get? b = some o → h'.get? b = some o
/-- e, read where x is a datum d, gives the datum kd; all stays -/
def KEv (e : Expr) (x : Str) (d kd : PyData) : Prop := ∀ (prog : Program) (w : World) (A : Around) (env : Env) (E : Value → Shared → Prop) (s : Shared) (u : Value) (as : List Addr) (m : Str → Option Value) (Q : Value → Shared → Prop),
  env.scope.kind = .function → env.kindOf x = some .local → s.heap.Ns env.locals m → m x = some u → Reads s.heap u d as →
  (∀ v' h' tk' as', KeepH s.heap h' → Reads h' v' kd as' → Q v' { s with heap := h', toks := tk' }) → wpAny (model prog w) A (eval e env) Q E s
def KEvs (es : List Expr) (x : Str) (d : PyData) (kds : List PyData) : Prop := ∀ (prog : Program) (w : World) (A : Around) (env : Env) (E : Value → Shared → Prop) (s : Shared) (u : Value) (as : List Addr) (m : Str → Option Value) (pos : Pos) (Q : List Value → Shared → Prop),
  env.scope.kind = .function → env.kindOf x = some .local → s.heap.Ns env.locals m → m x = some u → Reads s.heap u d as →
  (∀ vs h' tk' as', KeepH s.heap h' → ReadsAll h' vs kds as' → Q vs { s with heap := h', toks := tk' }) → wpAny (model prog w) A (spliced (backTo pos (starEach es env))) Q E s
theorem ns_keep {h h' : Heap} {L : Addr} {m : Str → Option Value} (n : h.Ns L m) (k : KeepH h h') : h'.Ns L m := by
  obtain ⟨o, es, ep, ho, r⟩ := n
  exact ⟨o, es, ep, k _ _ ho, r⟩
theorem key_name {x : Str} {d : PyData} {p : Pos} (hd : (x == ("__debug__" : Str)) = false := by decide) : KEv (.Name x p) x d d := fun prog w A env E s u as m Q hk hl hn hm hr q => by
  refine wpAny_Name (wpAny_loadName_local hk hl hn hm ?_) hd
  exact q u s.heap s.toks as (fun _ _ h => h) hr
theorem readsAll_get {h : Heap} : ∀ {vs : List Value} {ds : List PyData} {as : List Addr} {i : Nat} {d : PyData}, ReadsAll h vs ds as → ds[i]? = some d → ∃ v as', vs[i]? = some v ∧ Reads h v d as'
  | _, _, _, i, d, .nil, e => by simp at e
  | _, _, _, 0, d, .cons h1 h2, e => by
    cases e
    exact ⟨_, _, rfl, h1⟩
  | _, _, _, i + 1, d, .cons h1 h2, e => readsAll_get (i := i) h2 e
theorem readsAll_len {h : Heap} : ∀ {vs : List Value} {ds : List PyData} {as : List Addr}, ReadsAll h vs ds as → vs.length = ds.length
  | _, _, _, .nil => rfl
  | _, _, _, .cons _ t => congrArg Nat.succ (readsAll_len t)
/-- t[i] of a tuple -/
theorem key_ixT {a : Expr} {x : Str} {d kd : PyData} {ds : List PyData} {i : Nat} {j : Nat} {p pos : Pos} (ha : KEv a x d (.tuple ds)) (hi : ds[i]? = some kd) (hz : i < 1000000)
    (hs : ∀ v u, subscripted (.Constant (.int (i : Int)) j p) false v u = operate [v, u] (getItem v u) := by intros; rfl) : KEv (.Subscript a (.Constant (.int (i : Int)) j p) pos) x d kd := fun prog w A env E s u as m Q hk hl hn hm hr q => by
  refine Subscript_ (ha prog w A env E s u as m _ hk hl hn hm hr fun v' h' tk' as' kp hr' => ?_)
  refine wpAny_Constant_int ?_
  cases hr' with
  | tuple e1 e2 e3 e4 =>
    obtain ⟨v, as2, hv, hrv⟩ := readsAll_get e4 hi
    have hlt : i < ds.length := (List.getElem?_eq_some_iff.mp hi).1
    have hlen := readsAll_len e4
    rename_i vs n
    have hsz : vs.size = ds.length := by rw [← hlen, Array.length_toList]
    refine subscriptTail_builtinR (x := v) (T := "tuple") ⟨_, e1, e2⟩ slot_tuple_getitem.lookup
      (PyProof.Rows.getItem_tuple (j := i) (Q := fun r s' => r = v ∧ Q r s') ⟨_, e1, e2, n, e3⟩ (by omega) (by omega) (by unfold seqIndex?; simp; omega) (by rw [← Array.getElem?_toList]; exact hv) ⟨rfl, ?_⟩) (hs _ _)
    exact q v h' (tk' + 1) as2 kp hrv
theorem keys_nil {x : Str} {d : PyData} : KEvs [] x d [] := fun prog w A env E s u as m pos Q hk hl hn hm hr q => Calls.spliced_nil (q [] s.heap s.toks [] (fun _ _ h => h) .nil)
theorem keys_cons {e : Expr} {es : List Expr} {x : Str} {d kd : PyData} {kds : List PyData} (h : KEv e x d kd) (hr : KEvs es x d kds) (he : ∀ env, starEach (e :: es) env = (false, eval e env) :: starEach es env := by intro _; rfl) : KEvs (e :: es) x d (kd :: kds) := fun prog w A env E s u as m pos Q hk hl hn hm hrd q => by
  rw [he]
  show wpAny _ _ (spliced ((false, eval e env) :: backTo pos (starEach es env))) _ _ _
  refine Calls.spliced_cons (h prog w A env E s u as m _ hk hl hn hm hrd fun v' h' tk' as' kp hv => ?_)
  refine hr prog w A env E { s with heap := h', toks := tk' } u as m pos _ hk hl (ns_keep hn kp) hm (Reads.keeps kp hrd) fun vs h2 tk2 as2 kp2 hvs => ?_
  exact q (v' :: vs) h2 tk2 _ (fun b o z => kp2 b o (kp b o z)) (.cons (Reads.keeps kp2 hv) hvs)
/-- (e1, e2, ..) -/
theorem key_tup {es : List Expr} {x : Str} {d : PyData} {kds : List PyData} {j : Nat} {pos : Pos} (h : KEvs es x d kds) (hz : kds.length ≤ 1000) : KEv (.Tuple es j pos) x d (.tuple kds) := fun prog w A env E s u as m Q hk hl hn hm hr q => by
  refine wpAny_Tuple_spliced (h prog w A env E s u as m pos _ hk hl hn hm hr fun vs h' tk' as' kp hvs => ⟨by rw [readsAll_len hvs, sizeLine_eq]; omega, ?_⟩)
  refine q _ _ tk' as' (fun b o z => Heap.get?_push_of_some _ (kp b o z)) ?_
  exact .tuple (Heap.get?_push_size _ rfl) rfl rfl (by rw [List.toList_toArray]; exact ReadsAll.keeps (fun b o z => Heap.get?_push_of_some _ z) hvs)
/-- the lambda's one parameter, its names -/
structure Lam1 (scope : Scope) (params : Arguments) (x : Str) : Prop where
  kind : scope.kind = .function
  co : scope.isCoroutine = false
  gen : scope.isGenerator = false
  nocell : ∀ y ∈ scope.names, y.2 ≠ .cell
  nofree : ∀ y ∈ scope.names, y.2 ≠ .free
  loc : scope.names.lookup x = some .local
  bind : ∀ (q : Str) (body : Expr) (pm cv ct v : Value), bindArgs (PySem.W.kla_fn "<lambda>" q params body scope [] pm cv ct) ⟨[v], []⟩ = pure [(x, v)]
/-- a call of the lambda on what reads as d -/
theorem lam_call {prog : Program} {w : World} {A : Around} {s : Shared} {f c' : Addr} {q x : Str} {params : Arguments} {body : Expr} {scope : Scope} {pm ctv v : Value} {d kd : PyData} {as : List Addr} (L : Lam1 scope params x) (hb : KEv body x d kd) (hkd : ∀ h v as, Reads h v kd as → as = [])
    (hf : s.heap.get? f = some (PySem.W.kla_obj "<lambda>" q params body scope [] pm c' ctv)) (hc : s.heap.CodeRec (.ref c') q) (hr : A.depth < recursionLimit) (hlim : s.heap.NoLimit) (hv : Reads s.heap v d as) :
    wpAny (model prog w) A (call (.ref f) [v]) (PySem.W.KeyPure kd s) (fun _ _ => False) s := by
  refine wpAny_call ?_
  refine PySem.W.kla_callFunE hr hf rfl L.co L.gen rfl hc ?_
  rw [L.bind]
  refine wpAny_pure (wpAny_newFunctionEnv L.nocell (fun y hy => ?_) (fun h₁ hns hsb => ⟨hlim.fresh _ hsb, ?_⟩) L.kind)
  · rw [List.mem_singleton.mp hy]; exact L.loc
  · have kp : KeepH s.heap h₁ := fun b o e => hsb.extBut b o (Nat.ne_of_lt (Heap.lt_size e)) (Heap.get?_push_of_some _ e)
    refine PySem.W.kla_codeExpr (hb prog w _ _ _ _ v as _ _ L.kind ?_ hns ?_ (Reads.keeps kp hv) fun v' h' tk' as' kp2 hv' => ?_)
    · exact L.loc
    · show ([(x, v)] : List (Str × Value)).reverse.lookup x = some v
      simp
    · have e := hkd _ _ _ hv'
      subst e
      exact ⟨h', tk', rfl, fun b o z => kp2 b o (kp b o z), hv'⟩
theorem upd_swap {H : Hp} {a b : Addr} {o u : HO} (h : a ≠ b) : upd (upd H a o) b u = upd (upd H b u) a o := by
  funext c
  by_cases h1 : c = b
  · subst h1; rw [upd_same, upd_ne (Ne.symm h), upd_same]
  · by_cases h2 : c = a
    · subst h2; rw [upd_ne h1, upd_same, upd_same]
    · rw [upd_ne h1, upd_ne h2, upd_ne h2, upd_ne h1]
/-- what the making of a lambda leaves of the heap's picture -/
def LamHp (H : Hp) (P : Addr) (ps : Array Value) (q : Str) (c' : Addr) (H1 : Hp) : Prop :=
  (H1 = H ∧ H c' = some (LamX.CodeO c' q)) ∨ ∃ ps' : Array Value, H c' = none ∧ c' ≠ P ∧ H1 = upd (upd H P (.tbl ps')) c' (LamX.CodeO c' q) ∧ TriplesOk ps'.toList ∧ ∀ (pos : Pos) (cv : Value), codeAmong pos ps'.toList = some cv → codeAmong pos ps.toList = some cv ∨ cv = .ref c'
section
variable {X : Cx} {pins : List (Addr × Obj)} {σ : Sig} {H : Hp} {s : Shared}
theorem lam_make3 {c P : Addr} {ps : Array Value} {params : Arguments} {body : Expr} {scope : Scope} {pos : Pos} {E : Value → Shared → Prop} {Q : Value → Shared → Prop} (I : Inv X pins σ H s) (TB : LamX.TabB X.base X.mg c P) (hcode : X.env.code = .ref c) (hP : H P = some (.tbl ps)) (ht : TriplesOk ps.toList)
    (ha : ∀ (pos : Pos) (cv : Value), codeAmong pos ps.toList = some cv → ∃ c, cv = .ref c ∧ H c = some (LamX.CodeO c (X.env.qual ++ "<lambda>"))) (hdef : defaultsOf params X.env = ([], [])) (hfree : ∀ y ∈ scope.names, y.2 = .free → ∃ c, X.env.cells.lookup y.1 = some c)
    (h : ∀ (f c' : Addr) (pm ctv : Value) (H1 : Hp) (s' : Shared), Inv X pins σ H1 s' → LamHp H P ps (X.env.qual ++ "<lambda>") c' H1 → s'.heap.get? f = some (PySem.W.kla_obj "<lambda>" (X.env.qual ++ "<lambda>") params body scope (cloFrom X.env.cells scope.names []) pm c' ctv) → H1 f = none → f ∉ frs X.stack → s'.heap.CodeRec (.ref c') (X.env.qual ++ "<lambda>") → Q (.ref f) s') :
    wpAny (model X.prog X.w) X.A (eval (.Lambda params body scope pos) X.env) Q E s := by
  refine PySem.W.kla_eval hdef ?_
  have b1 := TB.bm.keeps I.bk
  have g1 := I.mod.glob.keeps I.bk
  have C1 := TB.code.keeps I.bk
  have hPs : s.heap.get? P = some { cls := .none, data := .fields ps } := I.hok P _ hP
  have outF : ∀ f, s.heap.objs.size ≤ f → f ∉ frs X.stack := fun f hf z => (List.mem_cons.mp (I.stkSub _ z)).elim (fun e => absurd I.lt (by rw [← e]; exact Nat.not_lt.mpr hf)) (fun e => I.nofs hf e)
  cases hit : codeAmong pos ps.toList with
  | some cv =>
    obtain ⟨c', rfl, hco⟩ := ha pos cv hit
    refine PySem.W.kla_makeFunctionHit (c := c) (closure_ok hfree) I.ok.glob g1 hcode C1 hPs ht hit b1 fun ctv h' tk up le => ?_
    have kp : KeepH s.heap (h'.push (PySem.W.kla_obj "<lambda>" (X.env.qual ++ "<lambda>") params body scope (cloFrom X.env.cells scope.names []) ((X.mg "__name__").getD .none) c' ctv)) := fun b o e => Heap.get?_push_of_some _ (up b o e)
    obtain ⟨⟨oc, vs, tq, r1, r2, r3⟩, _⟩ := I.hok c' _ hco
    exact h _ c' _ ctv H _ (I.kept (t' := tk) kp) (.inl ⟨rfl, hco⟩) (Heap.get?_push_size _ rfl) (I.hok.fresh le) (outF _ le) ⟨c', oc, vs, tq, rfl, kp _ _ r1, r2, r3⟩
  | none =>
    refine PySem.W.kla_makeFunction (c := c) (closure_ok hfree) I.ok.glob g1 hcode C1 hPs ht hit TB.gP b1 fun c' ctv h' tk up le lt rec tab => ?_
    obtain ⟨c2, oc, vs, tq, e2, r1, r2, r3⟩ := rec
    cases e2
    have le2 : s.heap.objs.size ≤ h'.objs.size := Nat.le_of_lt (Nat.lt_of_le_of_lt le lt)
    have nc : H c' = none := I.hok.fresh le
    have ne1 : c' ≠ P := fun z => by rw [z, hP] at nc; cases nc
    have app : (ps ++ #[rawInt pos.line, rawInt pos.col, .ref c']).toList = ps.toList ++ [rawInt pos.line, rawInt pos.col, .ref c'] := by simp
    have J := LamX.inv_table (t' := tk) (more := #[rawInt pos.line, rawInt pos.col, .ref c']) (q := X.env.qual ++ "<lambda>")
      (h' := h'.push (PySem.W.kla_obj "<lambda>" (X.env.qual ++ "<lambda>") params body scope (cloFrom X.env.cells scope.names []) ((X.mg "__name__").getD .none) c' ctv)) I hP
      (fun b o nb e => Heap.get?_push_of_some _ (up b o nb e)) (Heap.get?_push_of_some _ tab) le ⟨oc, vs, tq, Heap.get?_push_of_some _ r1, r2, r3⟩
    refine h _ c' _ ctv _ _ J (.inr ⟨_, nc, ne1, rfl, by rw [app]; exact PySem.TriplesOk_snoc _ _ _ _ ht, fun p2 cv hcv => ?_⟩) (Heap.get?_push_size _ rfl) ?_ (outF _ le2) ⟨c', oc, vs, tq, rfl, Heap.get?_push_of_some _ r1, r2, r3⟩
    · rw [app] at hcv
      exact LamX.among_app _ ht hcv
    · rw [upd_ne (Nat.ne_of_gt lt), upd_ne fun z => absurd (Heap.lt_size hPs) (Nat.not_lt.mpr (by rw [← z]; exact le2))]
      exact I.hok.fresh le2
end
/-- the store, its table grown -/
theorem stt_lam {K : PySem.W.Frag} {M : List Addr} {H H1 : Hp} {S : Sto} {G : Gam} {σ : Sig} {P : Addr} {q : Str} {t : Nat} {ps : Array Value} {c' : Addr} (st : Stt K M H S G σ) (ht : S[t]? = some (.tbl P q)) (hP : H P = some (.tbl ps)) (hps : ∀ (pos : Pos) (cv : Value), codeAmong pos ps.toList = some cv → ∃ c, cv = .ref c ∧ H c = some (LamX.CodeO c q) ∧ c ∉ M)
    (had : M[t]? = some P) (h : LamHp H P ps q c' H1) : Ext M H M H1 ∧ Stt K M H1 S G σ := by
  rcases h with ⟨rfl, _⟩ | ⟨ps', nc, ne1, rfl, h2, h3⟩
  · exact ⟨Ext.refl, st⟩
  · rw [upd_swap (Ne.symm ne1)]
    have e1 : Ext M H M (upd H c' (LamX.CodeO c' q)) := Ext.fresh nc
    have s1 := st.fresh (o := LamX.CodeO c' q) nc
    have e2 : Ext M (upd H c' (LamX.CodeO c' q)) M (upd (upd H c' (LamX.CodeO c' q)) P (.tbl ps')) := Ext.put (List.mem_of_getElem? had)
    have nM : c' ∉ M := st.sto.nin nc
    have w2 := s1.sto.put (w := .tbl P q) (o := .tbl ps') had ⟨rfl, ps', upd_same, h2, fun pos cv hcv => by
      rcases h3 pos cv hcv with z | z
      · obtain ⟨c, x1, x2, x3⟩ := hps pos cv z
        refine ⟨c, x1, ?_, x3⟩
        have n1 : c ≠ P := fun y => by
          rw [y, hP] at x2
          exact LamX.codeO_ne _ (Option.some.inj x2).symm
        have n2 : c ≠ c' := fun y => by
          rw [y, nc] at x2
          cases x2
        rw [upd_ne n1, upd_ne n2]
        exact x2
      · exact ⟨c', z, by rw [upd_ne ne1, upd_same], nM⟩⟩
    rw [show S.set t (.tbl P q) = S from List.ext_getElem? fun i => by
      by_cases hi : t = i
      · subst hi
        rw [List.getElem?_set_self (List.getElem?_eq_some_iff.mp ht).1, ht]
      · rw [List.getElem?_set_ne hi]] at w2
    exact ⟨e1.trans e2, s1.mono e2 w2⟩
theorem clo_nil {cells : List (Str × Addr)} : ∀ {names : List (Str × NameKind)} {acc : List (Str × Addr)}, (∀ y ∈ names, y.2 ≠ .free) → cloFrom cells names acc = acc
  | [], _, _ => rfl
  | (n, k) :: r, acc, h => by
    have hk : (k == NameKind.free) = false := beq_eq_false_iff_ne.mpr (h (n, k) List.mem_cons_self)
    show (if (k == NameKind.free) = true then _ else _) = _
    rw [hk, if_neg Bool.false_ne_true]
    exact clo_nil fun y hy => h y (List.mem_cons_of_mem _ hy)
theorem each_both {α β : Type} {P Q : α → β → Prop} : ∀ {l : List α} {m : List β}, PySem.W.EachIs P l m → PySem.W.EachIs Q l m → PySem.W.EachIs (fun a b => P a b ∧ Q a b) l m
  | _, _, .nil, .nil => .nil
  | _, _, .cons a t, .cons b s => .cons ⟨a, b⟩ (each_both t s)
section
variable {X : Cx} {W : WX} {k j : Nat} {G G1 G2 : Gam} {S S1 S2 S3 : Sto} {e a : Expr} {r : It} {pos lpos kpos p : Pos} {ds : List PyData} {t : Nat} {cA PA_ : Addr} {params : Arguments} {body : Expr} {scope : Scope} {x : Str}
/-- sorted(a, key=lambda x: body), a list that stays as it is -/
theorem ev_sortedLam (kf : PyData → PyData) (c : Cxo X W k) (hk2 : 2 ≤ k) (hm : X.mg "sorted" = none) (ha : Ev X a G S r S1) (hr : lsOf S1 r = some ds) (L : Lam1 scope params x) (hkey : ∀ d ∈ ds, KEv body x d (kf d)) (hlf : ∀ d ∈ ds, ∀ h v as, Reads h v (kf d) as → as = [])
    (hal : PySem.W.AllAlike (ds.map kf)) (hso : PySem.W.Sortable (ds.map kf)) (hde : ∀ d ∈ ds, (kf d).depth ≤ 60) (ht : S1[t]? = some (.tbl PA_ (X.env.qual ++ "<lambda>"))) (TB : LamX.TabB X.base X.mg cA PA_) (hcode : X.env.code = .ref cA)
    (hdef : defaultsOf params X.env = ([], []) := by rfl) (hg : Gl X "sorted" := by rfl)
    (he : backTo pos (starEach [a] X.env) = (false, eval a X.env) :: backTo pos (starEach [] X.env) := by rfl) (hpl : (backTo pos (starEach [a] X.env)).any (·.1) = false := by rfl) (he2 : starEach [a] X.env = (false, eval a X.env) :: starEach [] X.env := by rfl)
    (hall : (backToKw pos (keywordEach [⟨some "key", .Lambda params body scope lpos, kpos⟩] X.env)).all (·.1.isSome) = true := by rfl) (hnone : (backToKw pos (keywordEach [⟨some "key", .Lambda params body scope lpos, kpos⟩] X.env)).any (·.1.isNone) = false := by rfl) :
    Ev X (.Call (.Name "sorted" p) [a] [⟨some "key", .Lambda params body scope lpos, kpos⟩] pos) G S (.d (.list (ds.mergeSort (PySem.W.dataLe false kf)))) S1 := fun M σ H Q st q pins s0 I => by
  refine wpAny_Call_Name_kw (ld_blt I hg hm (PyProof.Rows.boot_sorted) ?_ (by decide) (by decide))
  refine PyProof.Rows.callWith_kw (thn ((pa_cons (pe_s (e := a)) pa_nil he2).run pos pins s0 σ H (fun vs H1 => ∃ v M1, vs = [v] ∧ Ext M H M1 H1 ∧ Stt X.K M1 H1 S1 G σ ∧ VRep X.K M1 H1 v r) I (ha M σ H _ st fun v M' H' e' s' r' => ⟨v, M', rfl, e', s', r'⟩)) fun us s1 hus => ?_) he hpl hall hnone
  obtain ⟨vs, H1, I1, r1, v, M1, rfl, e1, t1, q1⟩ := hus
  obtain ⟨ad0, xs0, ev0, _, _⟩ := ls_rd t1.sto q1 hr
  subst ev0
  obtain rfl := Vals.ref1 r1
  obtain ⟨aP, hadP, rfl, ps, hP, hps1, hps2⟩ := t1.sto.addr ht
  show wpAny _ _ (evalAll ((do let v ← eval (.Lambda params body scope lpos) X.env; standAt pos; pure v) :: [])) _ _ _
  refine wpAny_evalAll_cons (wpAny_bind (lam_make3 I1 TB hcode hP hps1 (fun p2 cv hcv => let ⟨c2, x1, x2, _⟩ := hps2 p2 cv hcv; ⟨c2, x1, x2⟩) hdef (fun y hy hf => absurd hf (L.nofree y hy)) fun f c' pm ctv H2 s2 I2 hH hf hfn hfr hrec => ?_))
  refine wpAny_bind (wpAny_standAt (wpAny_pure (wpAny_evalAll_nil ?_)))
  obtain ⟨e2, t2⟩ := stt_lam t1 ht hP hps2 hadP hH
  obtain ⟨ad, xs, ev, hx1, hx2⟩ := ls_rd t2.sto (q1.ext e2) hr
  cases ev
  obtain ⟨its, rv, hl, hz⟩ := I2.list (.inl hx1)
  have hlen : ds.length = its.length := by rw [← fz_len hx2]; exact rv.length
  have lim : s2.heap.NoLimit := I2.mod.nolimit.keeps I2.bk
  have hu := c.hr.units
  show wpAny _ _ (call (.builtin "sorted") [.ref ad0] [(Str.ofString "key", .ref f)]) _ _ _
  rw [clo_nil L.nofree] at hf
  refine PySem.W.sorted_key_data (b := false) (bs := ds) (vs := its) (R := fun u d => (∃ v, RelV v u ∧ Fz M1 H2 v d) ∧ ∃ as, Reads s2.heap u d as) kf hl.isList (each_both (each_of rv (fz_pair hx2)) (each_reads I2 rv (FzAll.dp hx2))) hal hso (by rw [hlen, ← rv.length]; exact hz)
    (fun d hd => ?_) (PyProof.Rows.ksk_s1 _ _) (fun _ => PyProof.Rows.ksk_l1 _ _) (fun x => PyProof.Rows.ksk_t1 f x) (fun u d hR hd g tk kp => ?_) fun out c2 h' tk kp fr hat ho hs => ?_
  · have := hde d hd
    omega
  · obtain ⟨_, as, hrd⟩ := hR
    refine lam_call (s := { s2 with heap := g, toks := tk }) L (hkey d hd) (hlf d hd) (kp _ _ hf) ?_ ?_ (lim.keeps kp) (Reads.keeps kp hrd)
    · obtain ⟨c3, oc, ws, tq, x1, x2, x3, x4⟩ := hrec
      exact ⟨c3, oc, ws, tq, x1, kp _ _ x2, x3, x4⟩
    · have := c.hr.dp
      show X.A.depth < recursionLimit
      omega
  · obtain ⟨ys, hy, hyr⟩ := each_back (hs.mono fun u d z => z.1)
    have hle : ys.length ≤ sizeLine := by rw [hy.length, ho, hlen, ← rv.length]; exact hz
    have hn : H2 (s2.heap.objs.size + 1) = none := I2.hok.fresh (Nat.le_succ _)
    refine ⟨.ref _, upd H2 (s2.heap.objs.size + 1) (.lst ys), I2.laid (t' := tk) kp (Nat.le_succ _) ⟨hle, out, c2, hy, hat⟩, rfl, ?_⟩
    exact q _ M1 _ ((e1.trans e2).trans (Ext.fresh hn)) (t2.fresh hn) (Fz.lst ⟨.inl upd_same, t2.sto.nin hn⟩ (FzAll.ext (Ext.fresh hn) (fz_unpair hyr)))
end
end Cu
/-! CwC: laws whose defs make lambdas: the tables of their code objects stand at the store's start. -/
namespace Cu
open PySem PySem.Spec PyProof.Rows L2 He
/-- the tables stand apart -/
def apartB (tf : List Defn) (K : PySem.W.Frag) : Bool := decide ((tf.map fun p => (cT K p).2).Nodup)
structure SaysTb (fa : List Fk) (fn : List DefD) (tf : List Defn) (h : Heap) (K : PySem.W.Frag) : Prop where
  c : SaysC fa fn K
  nd : (tf.map fun p => (cT K p).2).Nodup
  hd : ∀ p ∈ tf, PySem.W.codeHdIn K (cT K p).1 (cT K p).2 = true
  out : ∀ p ∈ tf, K.lookup (cT K p).2 = none
  empty : ∀ p ∈ tf, h.get? (cT K p).2 = some { cls := .none, data := .fields #[] }
abbrev AlTb : Type := AlD × Bool
def obsTb (n : Nat) (fa : List Fk) (fn : List DefD) (tf : List Defn) (g : Addr → Option Obj) : AlTb := (obsC fa fn (frT g (asD g n)), apartB tf (frT g (asD g n)) && tabsB g tf (frT g (asD g n)))
def valTb (fn : List DefD) : AlTb := (valC fn, true)
theorem saysTb_of {n : Nat} {fa : List Fk} {fn : List DefD} {tf : List Defn} {h : Heap} (e : obsTb n fa fn tf h.get? = valTb fn) : SaysTb fa fn tf h (frT h.get? (asD h.get? n)) := by
  have e2 := congrArg (fun z : AlTb => z.2) e
  obtain ⟨h1, h2⟩ := Bool.and_eq_true_iff.mp (show (apartB tf (frT h.get? (asD h.get? n)) && tabsB h.get? tf (frT h.get? (asD h.get? n))) = true from e2)
  have each : ∀ p ∈ tf, PySem.W.codeHdIn (frT h.get? (asD h.get? n)) (cT (frT h.get? (asD h.get? n)) p).1 (cT (frT h.get? (asD h.get? n)) p).2 = true ∧ ∃ ob, h.get? (cT (frT h.get? (asD h.get? n)) p).2 = some ob ∧ emptyTab ob = true := fun p hp => by
    have h3 := List.all_eq_true.mp h2 p hp
    cases ob : h.get? (cT (frT h.get? (asD h.get? n)) p).2 with
    | none => rw [ob, Bool.and_false] at h3; cases h3
    | some ob' => rw [ob] at h3; exact ⟨(Bool.and_eq_true_iff.mp h3).1, ob', rfl, (Bool.and_eq_true_iff.mp h3).2⟩
  refine ⟨congrArg (fun z : AlTb => z.1) e, of_decide_eq_true h1, fun p hp => (each p hp).1, fun p hp => ?_, fun p hp => ?_⟩
  · obtain ⟨_, ob, x1, x2⟩ := each p hp
    exact frT_none x1 x2
  · obtain ⟨_, ob, x1, x2⟩ := each p hp
    rw [x1, emptyTab_eq x2]
def hookTb (n : Nat) (fa : List Fk) (fn : List DefD) (tf : List Defn) : PySem.W.Hook where
  α := AlTb
  obs := fun s => obsTb n fa fn tf s.heap.get?
  val := fun _ => valTb fn
  says := fun _ h => ∃ K : PySem.W.Frag, K.In h ∧ SaysTb fa fn tf h K
  of := fun _ _ e => ⟨_, frT_in, saysTb_of e⟩
  keeps := fun _ _ _ ⟨K, hK, c⟩ k => ⟨K, PySem.W.Frag.In.keeps hK k, ⟨c.c, c.nd, c.hd, c.out, fun p hp => k _ _ (c.empty p hp)⟩⟩
theorem obsTb_eq {n : Nat} {fa : List Fk} {fn : List DefD} {tf : List Defn} {g : Addr → Option Obj} {s : Shared} (h : ∀ a, g a = s.heap.get? a) : obsTb n fa fn tf g = (hookTb n fa fn tf).obs s := by
  have e : g = s.heap.get? := funext h
  rw [e] <;> rfl
/-- the store's start: the tables, by the defs and what their lambdas are called -/
def tabS (K : PySem.W.Frag) (tf : List (Defn × Str)) : Sto := tf.map fun p => .tbl (cT K p.1).2 p.2
def lawFT (K : PySem.W.Frag) (tf : List (Defn × Str)) : Fn := fun rs S QR _ => ∃ ns : List Int, rs = [.s ns] ∧ S = tabS K tf ∧ ns.length ≤ 63 ∧ QR (.d (.bool true)) S
theorem law_spT {K : PySem.W.Frag} {tf : List (Defn × Str)} {H : Hp} {a : Addr} {ns : List Int} (hl : ns.length ≤ 63) (nd : (tf.map fun p => (cT K p.1).2).Nodup) (hH : ∀ p ∈ tf, H (cT K p.1).2 = some (.tbl #[])) (hS : SqL K H a (ns.map V.int)) : spF K 1 (lawFT K tf) [.ref a] H (fun v _ => v = .bl true) (fun _ _ _ => False) := by
  have h0 : StoreOk K (tf.map fun p => (cT K p.1).2) H (tabS K tf) := by
    refine ⟨nd, by unfold tabS; rw [List.length_map, List.length_map], fun n b w h1 h2 => ?_⟩
    unfold tabS at h2
    rw [List.getElem?_map] at h1 h2
    cases e : tf[n]? with
    | none => rw [e] at h1; cases h1
    | some p =>
      rw [e] at h1 h2
      cases h1
      cases h2
      refine ⟨rfl, #[], hH p (List.mem_of_getElem? e), trivial, fun pos cv hc => ?_⟩
      simp [codeAmong] at hc
  have hN : NdS K (tf.map fun p => (cT K p.1).2) H a (ns.map V.int) := by
    rcases hS with h | h
    · refine .inl ⟨h, fun z => ?_⟩
      obtain ⟨p, hp, e⟩ := List.mem_map.mp z
      have := hH p hp
      rw [e] at this
      rcases h with h | ⟨o, h⟩ <;> rw [h] at this <;> cases this
    · exact .inr h
  exact ⟨_, _, [.s ns], h0, .cons ⟨a, rfl, hN⟩ .nil, rfl, ns, rfl, rfl, hl, fun v M' H' _ _ hv => vr_bool hv⟩
/-- the text's facts, with the tables' -/
structure TxtT (fa : List Fk) (fn : List DefD) (tf : List (Defn × Str)) (K : PySem.W.Frag) (mg : Str → Option Value) : Prop where
  t : Txt fa fn K mg
  hd : ∀ p ∈ tf, PySem.W.codeHdIn K (cT K p.1).1 (cT K p.1).2 = true
/-- the end: from the law's def to the row -/
theorem walk_wT {l : PySem.W.OpenLaw} {fa : List Fk} {fn : List DefD} {tf : List (Defn × Str)} {nn k : Nat} {q : Program} {loose : List Str} {XP : (Str → Option Value) → Heap → Prop} {d : DefRec} {x : Str} (hn : l.most = some 63) (hdf : d.params.defaults = []) (hr : Room k callerA) (hd : d.name = "law")
    (h : ∀ (w : World) (K : PySem.W.Frag) (mg : Str → Option Value), Txt fa fn K mg → mg "law" = some (.ref (ga K "law")) ∧ ∃ fd : FuncData, (∀ (s : Shared) (u : Value), BindsTo s fd ⟨[u], []⟩ [(x, u)]) ∧ ∀ base : Heap, (∀ p ∈ tf, LamX.TabB base mg (cT K p.1).1 (cT K p.1).2) → FnOk l.prog w K mg base (L2.CX l.prog w) k (ga K "law") fd [x] (spF K 1 (lawFT K tf))) :
    PySem.W.WalkO q loose XP (hookTb nn fa fn (tf.map (·.1))).says l.row.toRowW d [] (fun f vs => PySem.call f vs) := by
  refine Att.attach_call hn hdf fun w s0 s1 mg mb f1 ob pm cd doc ad vs ns Gd Y ho hda hcd hmg hobj hins hlen hgn => ?_
  obtain ⟨K, KX, c⟩ := Y
  obtain ⟨hgl, fd, hb, hF⟩ := h w K mg ⟨c.c, _, KX, Gd.T.g⟩
  rw [hd, hgl] at hmg
  obtain rfl : ga K "law" = f1 := by injection hmg with hmg; injection hmg
  have mem : ∀ p ∈ tf.map fun p => cT K p.1, ∃ z ∈ tf, p = cT K z.1 := fun p hp => by
    obtain ⟨z, hz, e⟩ := List.mem_map.mp hp
    exact ⟨z, hz, e.symm⟩
  have inM : ∀ z ∈ tf, z.1 ∈ tf.map (·.1) := fun z hz => List.mem_map.mpr ⟨z, hz, rfl⟩
  refine LamX.law_callTs (cs := tf.map fun p => cT K p.1) KX Gd.T.g Gd.T.b Gd.T.builtins Gd.T.nolimit hgn (fun p hp => ?_) (fun p hp => ?_) (fun p hp => ?_) Gd.T.bmain hobj hins (Nat.le_trans hlen (by rw [sizeLine_eq]; omega)) hr
    (fun base _ _ hT => hF base fun p hp => hT _ (List.mem_map.mpr ⟨p, hp, rfl⟩)) hb (fun H hT hS => law_spT hlen ?_ (fun p hp => hT _ (List.mem_map.mpr ⟨p, hp, rfl⟩)) hS) fun H e s' hx => ?_
  · obtain ⟨z, hz, rfl⟩ := mem p hp
    exact c.empty _ (inM z hz)
  · obtain ⟨z, hz, rfl⟩ := mem p hp
    exact c.out _ (inM z hz)
  · obtain ⟨z, hz, rfl⟩ := mem p hp
    exact PySem.W.codeHd_of_K KX (c.hd _ (inM z hz))
  · have := c.nd
    rw [List.map_map] at this
    exact this
  · obtain ⟨_, _, _, _, _, _, _, _, _, _, _, _, z⟩ := hx
    exact z
section
variable {P : Program} {w : World} {K : PySem.W.Frag} {mg : Str → Option Value} {base : Heap} {x qual : Str} {params : Arguments} {body : List Stmt} {scope : Scope} {dvs : List V} {kws : List (Str × V)} {f : Addr} {fd : FuncData}
/-- THE RULE for a def that makes lambdas: its code object is known -/
theorem fn_wT {F : Fn} {N ps : List Str} {k : Nat} (Fd : FunD K x qual params body scope dvs kws f fd) (Sc : FnScope N ps scope) (p : Defn) (hf : fAd K p = f)
    (h : ∀ (cdv : Value) (A : Around) (outer : List Env) (s : Shared) (H : Hp) (E : XK) (rs : List It) (S : Sto) (QR : It → Sto → Prop) (QE : Addr → Sto → Prop), cdv = .ref (cT K p).1 → Cxo (cxF P w K mg base N qual scope f cdv A outer s H E) (wF E) k →
      ClS S → rs.length = ps.length → F rs S QR QE → WSs (cxF P w K mg base N qual scope f cdv A outer s H E) (wF E) body (startG N rs) S ⟨fun _ S' => Back S.length S' (.d .none) QR, fun r S' => Back S.length S' r QR, fun _ _ => False, fun _ _ => False, fun C _ S' => BackX S.length S' C QE⟩) :
    FnOk P w K mg base (L2.CX P w) (k + 1) f fd ps (spF K ps.length F) := by
  obtain ⟨oc, od, dV, kV, doc, pm, an, cdv, ct, osl, rfl, lk, hcd, _, _⟩ := Fd.ex
  obtain ⟨c, rfl⟩ := codeIn_ref hcd
  have hc : codeOf K p = c := codeOf_eq (by rw [hf]; exact lk) rfl
  refine fn_of lk hcd Sc (fun vs H Q E hs => ?_) (fun A outer s H vs Q E hr hs => ⟨sSs _ body, pss_s, ?_⟩)
  · obtain ⟨M, S, rs, h1, h2, h3, _⟩ := hs
    rw [h2.len, h3]
  · obtain ⟨M, S, rs, h1, h2, h3, hF⟩ := hs
    have giveR : ∀ {v : V} {M' : List Addr} {H' : Hp} {r : It} {S' : Sto}, Ext M H M' H' → StoreOk K M' H' S' → VRep K M' H' v r → Back S.length S' r (fun r S' => ∀ v M' H', Ext M H M' H' → StoreOk K M' H' S' → VRep K M' H' v r → Q v H') → Q v H' := by
      intro v M' H' r S' e s' hv hb
      obtain ⟨S1, L, r1, rfl, hn, hc, hr1, q⟩ := hb
      refine q v (M'.take S1.length) H' (e.take (by rw [h1.len]; exact hn)) (s'.take (hc s'.closed)) ?_
      rcases hr1 with ⟨rfl, hcl⟩ | ⟨z, rfl, hd⟩
      · exact hv.take hcl
      · exact Den.fz s' hd hv
    refine h (.ref c) A outer s H E rs S _ _ (by show _ = Value.ref (codeOf K p); rw [hc]) (cxo_of Sc hr) h1.closed h3 hF M (L2.start N vs) H _ (stt_start h1 N h2) ⟨fun M' σ' H' G' S' e t q => giveR (v := .non) (r := .d .none) e t.sto Fz.non q, fun v M' H' r S' e t hv q => giveR e t hv q, fun _ _ _ _ _ _ _ q => q.elim, fun _ _ _ _ _ _ _ q => q.elim, fun M' σ' H' G' C S' e t q => ?_⟩
    obtain ⟨S1, L, rfl, hn, hc, q⟩ := q
    exact q (M'.take S1.length) H' (e.take (by rw [h1.len]; exact hn)) (t.sto.take (hc t.sto.closed))
end
end Cu
/-! CwD: how often a text is in a list of texts; len of an owned tuple; x in what stands for a list. -/
namespace Cu
open PySem PySem.Spec PyProof.Rows L2
def eqTx (k : Str) : Value → Bool
  | .str x _ => decide (x = k)
  | _ => false
theorem txs_count {k : Str} : ∀ {ws : List Str} {its : List Value}, L2.Vals (ws.map V.str) its → its.countP (eqTx k) = ws.count k
  | [], _, h => by cases h; rfl
  | w :: ws, _, h => by
    cases h with
    | cons h1 h2 =>
      obtain ⟨t, rfl⟩ := h1
      rw [List.countP_cons, txs_count h2, List.count_cons]
      rfl
theorem txs_mem : ∀ {ws : List Str} {its : List Value}, L2.Vals (ws.map V.str) its → ∀ y ∈ its, ∃ x t, y = Value.str x t
  | [], _, h, y, hy => by cases h; cases hy
  | w :: ws, _, h, y, hy => by
    cases h with
    | cons h1 h2 =>
      obtain ⟨t, rfl⟩ := h1
      rcases List.mem_cons.mp hy with rfl | q
      · exact ⟨_, _, rfl⟩
      · exact txs_mem h2 y q
section
variable {X : Cx} {W : WX} {k j : Nat} {G G1 G2 : Gam} {S S1 S2 S3 : Sto} {P : Post} {e a b o : Expr} {es : List Expr} {r y z r' : It} {rs : List It} {pos p apos cpos : Pos} {ds : List PyData} {m n : Int}
theorem mt_countTx : MtR X "list.count" (fun x xs H Q => ∃ (p : Addr) (ws : List Str) (k : Str), x = .ref p ∧ xs = [.str k] ∧ SqL X.K H p (ws.map V.str) ∧ Q (.int (ws.count k : Nat)) H) := by
  intro pins s σ H x xs v us Q I rx rxs h
  obtain ⟨p, ws, k, rfl, rfl, hs, q⟩ := h
  cases rx
  obtain ⟨u, rfl, tk, rfl⟩ := rxs.one
  obtain ⟨its, rv, ⟨⟨cls, dd, data, sl⟩, n, ho, hc, hdn, hd⟩, hlen⟩ := I.list hs
  simp only at hc hd
  subst hc hd
  have hb := txs_count (k := k) rv
  refine call_meets PySem.F.slot_list_count ⟨_, ho, rfl⟩ PySem.F.entry_list_count (PySem.F.args_list_count_2 _ _)
    (SeqAt.list_countAt p its.toArray n dd sl (.str k tk) (eqTx k)) ⟨ho, fun y hy => ?_, ?_⟩
  · have hy : y ∈ its := by simpa using hy
    obtain ⟨x, t, rfl⟩ := txs_mem rv y hy
    have q := eqAt_V (A := X.A.in1) (s := s) (y := .str x) (x := .str k) (u := .str x t) (v := .str k tk) ⟨_, rfl⟩ ⟨_, rfl⟩ rfl rfl
    exact q
  · refine ⟨.int (ws.count k : Nat), H, I.tok _, ⟨s.toks, ?_⟩, q⟩
    show Value.int ((its.toArray.toList.countP (eqTx k) : Nat) : Int) s.toks = _
    rw [show its.toArray.toList = its by simp, hb]
/-- xs.count(t) of texts -/
theorem ev_countTx {ws : List Str} {k : Str} (ho : Ev X o G S r S1) (hi : lsOf S2 r = some (ws.map .str)) (ha : Ev X e G S1 (.d (.str k)) S2) (hT : ∀ M H v, StoreOk X.K M H S1 → VRep X.K M H v r → tyV X.K "list" v H) (hbase : attributeBase o "count" X.env (eval o X.env) = eval o X.env := by rfl)
    (hfew : ((backTo cpos (starEach [e] X.env)).all (fun x => !x.1) && (backToKw cpos (keywordEach [] X.env)).all (fun x => x.1.isSome) && decide ([e].length + ([] : List Keyword).length + (if ([] : List Keyword).isEmpty then 0 else 1) < 30)) = true := by rfl)
    (hline : (apos.endLine == cpos.line) = true := by rfl) (hs : starEach [e] X.env = (false, eval e X.env) :: starEach [] X.env := by rfl) : Ev X (.Call (.Attribute o "count" apos) [e] [] cpos) G S (.d (.int (ws.count k : Nat))) S2 :=
  ev_bm PySem.F.plainAttrs_list PySem.F.slot_list_count PySem.F.type_list_count mt_countTx ho hT (eva_cons ha eva_nil hs) (fun M H v vs Q s hv hvs q => by
    obtain ⟨u, rfl, hu⟩ := vr1 hvs
    obtain ⟨ad, xs, rfl, h3, h4⟩ := ls_rd s hv hi
    exact ⟨ad, ws, k, rfl, by rw [vr_str hu], .inl (by rw [← fz_strs h4]; exact h3), q _ M H Ext.refl s (Fz.int _)⟩) hbase hfew hline hs rfl
theorem ty_dl {ds : List PyData} : ∀ M H v, StoreOk X.K M H S → VRep X.K M H v (.d (.list ds)) → tyV X.K "list" v H := fun M H v s h => by
  have h' : Fz M H v (.list ds) := h
  cases h' with
  | lst h1 h2 => exact .inl ⟨rfl, _, h1.sq⟩
/-- len of an owned tuple -/
theorem ev_lenTO {i : Nat} (hm : X.mg "len" = none) (ha : Ev X a G S (.o i) S1) (h : S1[i]? = some (.tup rs)) (hg : Gl X "len" := by rfl) (he : starEach [a] X.env = (false, eval a X.env) :: starEach [] X.env := by rfl) : Ev X (.Call (.Name "len" p) [a] [] pos) G S (.d (.int rs.length)) S1 := ev_blt call_len_seq hm PySem.boot_len (eva_cons ha eva_nil he) (fun M H vs Q s hvs q => by
  obtain ⟨v, rfl, hv⟩ := vr1 hvs
  obtain ⟨ad, had, rfl⟩ := hv
  obtain ⟨ws, h1, h2, _⟩ := s.rep i ad _ had h
  exact ⟨ad, ws, rfl, .inr (.inl (.inl h1)), by rw [h2.len]; exact q _ M H Ext.refl s (Fz.int _)⟩) hg (by decide) (by decide) he rfl
theorem evt_inDen {x : PyData} {n n' : Nat} (c : Cxo X W k) (ha : Ev X a G S r S1) (hb : Ev X b G S1 r' S2) (hr : Den n S2 r x) (hr' : Den n' S2 r' (.list ds)) (hx : SeqAt.shaped x = true) (hd : SeqAt.shaped (.list ds) = true) (hm : behindInMarks .In b = false := by rfl) : EvT X (.Compare a [.In] [b] pos) G S (ds.any fun z => PyData.eqv z x) S2 := evt_cmp (op_inD (by have := c.hr.un; omega)) ha hb (fun M H v u Q s hv hw q => ⟨x, ds, Den.dp s hr hv, Den.dp s hr' hw, hx, hd, q _ M H Ext.refl s (Fz.bl _)⟩) hm
end
end Cu
/-! CvN: upper; join of owned texts; a dict written with four texts for keys. -/
namespace Cu
open PySem PySem.Spec PyProof.Rows L2
section
variable {X : Cx} {W : WX} {k j : Nat} {G : Gam} {S S1 S2 : Sto} {P : Post} {e a b o : Expr} {r : It} {pos apos cpos : Pos} {n : Nat}
theorem ev_upper {x : Str} (ho : Ev X o G S (.d (.str x)) S1) (hz : x.length ≤ 1000000) (hbase : attributeBase o "upper" X.env (eval o X.env) = eval o X.env := by rfl) (hline : (apos.endLine == pos.line) = true := by rfl) : Ev X (.Call (.Attribute o "upper" apos) [] [] pos) G S (.d (.str (Txt.upper x))) S1 := fun M σ H Q s q =>
  toE (pe_upper pe_s hbase hline) (ho M σ H _ s fun v M1 H1 e1 t1 r1 => by
    rw [vr_str r1]
    exact ⟨⟨x, rfl⟩, x, rfl, rfl, by omega, q _ M1 H1 e1 t1 (Fz.str _)⟩)
theorem ev_joinO {x : Str} {ys : List Str} (ho : Ev X o G S (.d (.str x)) S1) (ha : Ev X e G S1 (.o n) S2) (hn : S2[n]? = some (.lst ((ys.map PyData.str).map .d))) (hz : (ys.map (·.length)).sum + ys.length * x.length ≤ 16777216) (hbase : attributeBase o "join" X.env (eval o X.env) = eval o X.env := by rfl)
    (hfew : ((backTo cpos (starEach [e] X.env)).all (fun x => !x.1) && (backToKw cpos (keywordEach [] X.env)).all (fun x => x.1.isSome) && decide ([e].length + ([] : List Keyword).length + (if ([] : List Keyword).isEmpty then 0 else 1) < 30)) = true := by rfl)
    (hline : (apos.endLine == cpos.line) = true := by rfl) (hs : starEach [e] X.env = (false, eval e X.env) :: starEach [] X.env := by rfl) : Ev X (.Call (.Attribute o "join" apos) [e] [] cpos) G S (.d (.str (Txt.join x ys))) S2 :=
  ev_bm PySem.F.plainAttrs_str PySem.F.slot_str_join PySem.F.type_str_join mt_join ho ty_str (eva_cons ha eva_nil hs) (fun M H v vs Q s hv hvs q => by
    obtain ⟨u, rfl, hu⟩ := vr1 hvs
    obtain ⟨ad, h1, rfl⟩ := hu
    obtain ⟨us, h2, h3⟩ := s.rep _ ad _ h1 hn
    rw [vr_str hv]
    refine ⟨x, _, ys, rfl, rfl, .inl ?_, hz, q _ M H Ext.refl s (Fz.str _)⟩
    rw [← fz_strs (fz_all (dsOf_map _) h3)]
    exact .inl (.inl h2)) hbase hfew hline hs rfl
def kS (x : Str) : Key := .inr x
theorem ev_dispS4 {k1 k2 k3 k4 v1 v2 v3 v4 : Str} {i1 i2 i3 i4 j1 j2 j3 j4 : Nat} {p1 p2 p3 p4 q1 q2 q3 q4 : Pos} (hm : mergeK [] [(kS k1, V.str v1), (kS k2, V.str v2), (kS k3, V.str v3), (kS k4, V.str v4)] = [(kS k1, V.str v1), (kS k2, V.str v2), (kS k3, V.str v3), (kS k4, V.str v4)]) :
    Ev X (.Dict [some (.Constant (.str k1) i1 p1), some (.Constant (.str k2) i2 p2), some (.Constant (.str k3) i3 p3), some (.Constant (.str k4) i4 p4)] [.Constant (.str v1) j1 q1, .Constant (.str v2) j2 q2, .Constant (.str v3) j3 q3, .Constant (.str v4) j4 q4] pos) G S (.o S.length)
      (S ++ [.dK [(kS k1, .d (.str v1)), (kS k2, .d (.str v2)), (kS k3, .d (.str v3)), (kS k4, .d (.str v4))]]) := fun M σ H Q s q =>
  toE (pe_disp (pps_cons pe_str pe_str (pps_cons pe_str pe_str (pps_cons pe_str pe_str (pps_cons pe_str pe_str pps_nil)))) rfl rfl (by simp) (Nat.le_of_ble_eq_true rfl)) fun p hp => by
    have e2 : Ext M H (M ++ [p]) (upd H p (.dK [])) := Ext.own hp
    have s2 : StoreOk X.K (M ++ [p]) (upd H p (.dK [])) (S ++ [.dK []]) := s.sto.own hp ⟨[], upd_same, .nil⟩
    have hn : (M ++ [p])[S.length]? = some p := by rw [← s.sto.len, List.getElem?_append_right (Nat.le_refl _), Nat.sub_self]; rfl
    refine ⟨upd_same, [(kS k1, V.str v1), (kS k2, V.str v2), (kS k3, V.str v3), (kS k4, V.str v4)], rfl, Nat.le_of_ble_eq_true rfl, ?_⟩
    rw [hm]
    have e3 : Ext (M ++ [p]) (upd H p (.dK [])) (M ++ [p]) (upd (upd H p (.dK [])) p (.dK [(kS k1, V.str v1), (kS k2, V.str v2), (kS k3, V.str v3), (kS k4, V.str v4)])) := Ext.put (List.mem_of_getElem? hn)
    have fs : ∀ (k v : Str) {Mx : List Addr} {Hx : Hp}, (fun (p : Key × V) (q : Key × It) => p.1 = q.1 ∧ VRep X.K Mx Hx p.2 q.2) (kS k, V.str v) (kS k, .d (.str v)) := fun k v Mx Hx => ⟨rfl, Fz.str v⟩
    have s3 := s2.put (w := .dK [(kS k1, .d (.str v1)), (kS k2, .d (.str v2)), (kS k3, .d (.str v3)), (kS k4, .d (.str v4))]) hn ⟨[(kS k1, V.str v1), (kS k2, V.str v2), (kS k3, V.str v3), (kS k4, V.str v4)], upd_same, .cons (fs k1 v1) (.cons (fs k2 v2) (.cons (fs k3 v3) (.cons (fs k4 v4) .nil)))⟩
    rw [List.set_append_right _ _ (Nat.le_refl _), Nat.sub_self] at s3
    exact q _ _ _ (e2.trans e3) (s.mono (e2.trans e3) s3) ⟨p, hn, rfl⟩
theorem ev_dgetS {i : Nat} {x : Str} {kvs : List (Key × It)} (c : Cxo X W k) (ho : Ev X o G S (.o i) S1) (ha : Ev X a G S1 (.d (.str x)) S2) (hi : S2[i]? = some (.dK kvs)) (hv : valI kvs (kS x) = some r) (hs : NoSl a := by exact fun _ _ => rfl) : Ev X (.Subscript o a pos) G S r S2 := fun M σ H Q s q =>
  toE (pe_dget (u1 c) pe_s pe_s hs) (ho M σ H _ s fun v M1 H1 e1 s1 r1 => ha M1 σ H1 _ s1 fun u M2 H2 e2 s2 r2 => by
    obtain ⟨ad, h0, rfl⟩ := r1.ext e2
    obtain ⟨ps, h1, h2⟩ := s2.sto.rep _ ad _ h0 hi
    rw [vr_str r2]
    rcases prep_val (k := kS x) h2 with ⟨_, z⟩ | ⟨v, r', h3, h4, h5⟩
    · rw [z] at hv; cases hv
    · rw [h4] at hv
      cases hv
      refine ⟨ad, v, rfl, ?_, q _ M2 H2 (e1.trans e2) s2 h5⟩
      rw [← h3]
      exact DGet.k (k := kS x) h1)
end
end Cu
/-! CvO: a call whose one argument is told loosely; if a != b, a told loosely. -/
namespace Cu
open PySem PySem.Spec PyProof.Rows L2
section
variable {X : Cx} {W : WX} {k j : Nat} {G : Gam} {S : Sto} {P : Post} {e a b : Expr} {pos pos' p : Pos} {n : Str} {ps : List Str} {drs : List It} {F : Fn} {Q1 Qr : It → Sto → Prop} {Qx : Addr → Sto → Prop}
theorem evx_call1 (c : Cxo X W k) (O : OkF X.prog X.w X.K X.mg X.base j n ps drs F) (hj : j ≤ k) (ha : EvX X W e G S Q1 Qx)
    (hF : ∀ r S1, Q1 r S1 → ([r] ++ drs).length = ps.length ∧ ∀ (QR : It → Sto → Prop) (QE : Addr → Sto → Prop), (∀ r S', Qr r S' → QR r S') → (∀ C S', Qx C S' → QE C S') → F ([r] ++ drs) S1 QR QE) (hg : Gl X n := by rfl) (hdb : (n == ("__debug__" : Str)) = false := by decide)
    (he : starEach [e] X.env = (false, eval e X.env) :: starEach [] X.env := by rfl) (hpl : (backTo pos (starEach [] X.env)).any (·.1) = false := by rfl) : EvX X W (.Call (.Name n p) [e] [] pos) G S Qr Qx := fun M σ H Q s h1 h2 pins s0 I => by
  obtain ⟨f, fd, dvs, dus, hm, hk, hb, hd, rd, ok⟩ := O.ex
  refine wpAny_Call_Name_kw (ld_glob I hg hm ?_ hdb)
  refine PySem.W.callWith_K (h₀ := X.base) I.ok.mod.kin hk ?_ he hpl
  have arg : sA X [e] σ H (fun vs H1 => ∃ M1 r S1, Ext M H M1 H1 ∧ Stt X.K M1 H1 S1 G σ ∧ VReps X.K M1 H1 vs [r] ∧ Q1 r S1) :=
    toA (pa_cons pe_s pa_nil he) (ha M σ H _ s (fun v M' H' r S' e1 t1 r1 q1 => ⟨M', r, S', e1, t1, .cons r1 .nil, q1⟩) h2)
  refine thn ((pa_s (es := [e])).run pos pins s0 σ H _ I arg) fun us s1 ⟨vs, H1, I1, r1, M1, r, S1, e1, t1, q1, qq⟩ => ⟨I1.kIn, ?_⟩
  obtain ⟨hl, hF2⟩ := hF r S1 qq
  exact run_fnAt (E := eAt W σ) ok (c.hr.mono hj) hb hd (fun e s' cx => passAt c.tk σ pins H1 s1 e s' I1 cx) I1 r1 (spF_of t1.sto q1 rd hl hF2 (fun v M' H' r S' e2 s2 hv q => h1 v M' H' r S' (e1.trans e2) (t1.mono e2 s2) hv q) fun M' H' C S' e2 s2 q => h2 M' H' C S' (e1.trans e2) (t1.mono e2 s2) q)
/-- if a != b: texts -/
theorem ws_ifNeX {pp qq : List Stmt} (ha : EvX X W a G S Q1 Qx) (h : ∀ r S1, Q1 r S1 → ∃ (x y : Str) (S2 : Sto), r = .d (.str x) ∧ Ev X b G S1 (.d (.str y)) S2 ∧ (x ≠ y → WSs X W pp G S2 P) ∧ (x = y → WSs X W qq G S2 P)) (qx : ∀ C S', Qx C S' → P.xc C G S')
    (hm : behindInMarks .NotEq b = false := by first | exact nomark _ | rfl) : WS X W (.If (.Compare a [.NotEq] [b] pos') pp qq pos) G S P := fun M σ H D s m =>
  toS (ps_if pt_s pss_s pss_s) (toT (pt_cmpR op_ne pe_s pe_s hm) (ha M σ H _ s (fun v M1 H1 r S1 e1 s1 r1 q1 => by
    obtain ⟨x, y, S2, rfl, hb, k1, k2⟩ := h r S1 q1
    refine hb M1 σ H1 _ s1 fun u M2 H2 e2 s2 r2 => rw_neS (x := .str x) (y := .str y) (S := S2) rfl rfl rfl M2 H2 v u _ s2.sto (r1.ext e2) r2 fun w M3 H3 e3 s3 r3 => ⟨_, vr_bool r3, ?_⟩
    have t3 : Stt X.K M3 H3 S2 G σ := s2.mono e3 s3
    have m3 := m.ext ((e1.trans e2).trans e3)
    rw [eqS_str]
    by_cases e : x = y
    · rw [decide_eq_true e]
      exact iteF (k2 e M3 σ H3 D t3 m3)
    · rw [decide_eq_false e]
      exact iteT (k1 e M3 σ H3 D t3 m3)) fun M1 H1 C S' e1 t1 q1 => m.xc M1 σ H1 G C S' e1 t1 (qx C S' q1)))
end
end Cu
/-! CwE: arguments, tests whose parts are told loosely. -/
namespace Cu
open PySem PySem.Spec PyProof.Rows L2
/-- the arguments, told loosely -/
def EvAX (X : Cx) (W : WX) (es : List Expr) (G : Gam) (S : Sto) (Qa : List It → Sto → Prop) (Qx : Addr → Sto → Prop) : Prop := ∀ (M : List Addr) (σ : Sig) (H : Hp) (Q : List V → Hp → Prop), Stt X.K M H S G σ →
  (∀ vs M' H' rs S', Ext M H M' H' → Stt X.K M' H' S' G σ → VReps X.K M' H' vs rs → Qa rs S' → Q vs H') → (∀ M' H' C S', Ext M H M' H' → Stt X.K M' H' S' G σ → Qx C S' → W (.ref C) none σ H') → sA X es σ H Q
/-- a test, told loosely -/
def EvTX (X : Cx) (W : WX) (e : Expr) (G : Gam) (S : Sto) (Qb : Bool → Sto → Prop) (Qx : Addr → Sto → Prop) : Prop := ∀ (M : List Addr) (σ : Sig) (H : Hp) (Q : Bool → Hp → Prop), Stt X.K M H S G σ →
  (∀ b M' H' S', Ext M H M' H' → Stt X.K M' H' S' G σ → Qb b S' → Q b H') → (∀ M' H' C S', Ext M H M' H' → Stt X.K M' H' S' G σ → Qx C S' → W (.ref C) none σ H') → sT X e σ H Q
def EvWX (X : Cx) (W : WX) (e : Expr) (G : Gam) (S : Sto) (Qb : Bool → Sto → Prop) (Qx : Addr → Sto → Prop) : Prop := ∀ (M : List Addr) (σ : Sig) (H : Hp) (Q : Bool → Hp → Prop), Stt X.K M H S G σ →
  (∀ b M' H' S', Ext M H M' H' → Stt X.K M' H' S' G σ → Qb b S' → Q b H') → (∀ M' H' C S', Ext M H M' H' → Stt X.K M' H' S' G σ → Qx C S' → W (.ref C) none σ H') → sW X e σ H Q
section
variable {X : Cx} {W : WX} {k j : Nat} {G : Gam} {S S1 : Sto} {P : Post} {e a b : Expr} {es : List Expr} {r : It} {pos p : Pos} {n : Str} {ps : List Str} {drs : List It} {F : Fn} {Q1 Qr : It → Sto → Prop} {Qx : Addr → Sto → Prop} {Qa : List It → Sto → Prop} {Qb Qc : Bool → Sto → Prop} {c0 : Bool}
theorem evax_nil (h : Qa [] S) : EvAX X W [] G S Qa Qx := fun M σ H Q s h1 _ => toA pa_nil (h1 [] M H [] S Ext.refl s .nil h)
theorem evax_cons (h : EvX X W e G S Q1 Qx) (hs : ∀ r S1, Q1 r S1 → EvAX X W es G S1 (fun rs S2 => Qa (r :: rs) S2) Qx) (he : starEach (e :: es) X.env = (false, eval e X.env) :: starEach es X.env := by rfl) : EvAX X W (e :: es) G S Qa Qx := fun M σ H Q s h1 h2 =>
  toA (pa_cons pe_s pa_s he) (h M σ H _ s (fun v M1 H1 r S1 e1 t1 r1 q1 => hs r S1 q1 M1 σ H1 _ t1 (fun vs M2 H2 rs S2 e2 t2 r2 q2 => h1 (v :: vs) M2 H2 (r :: rs) S2 (e1.trans e2) t2 (.cons (r1.ext e2) r2) q2) fun M2 H2 C S2 e2 t2 q2 => h2 M2 H2 C S2 (e1.trans e2) t2 q2) h2)
/-- one argument exactly, the rest loosely -/
theorem evax_con (h : Ev X e G S r S1) (hs : EvAX X W es G S1 (fun rs S2 => Qa (r :: rs) S2) Qx) (he : starEach (e :: es) X.env = (false, eval e X.env) :: starEach es X.env := by rfl) : EvAX X W (e :: es) G S Qa Qx :=
  evax_cons (Ev.ex (Qr := fun r' S' => r' = r ∧ S' = S1) h ⟨rfl, rfl⟩) (fun _ _ ⟨h1, h2⟩ => by rw [h1, h2]; exact hs) he
theorem evx_callX (c : Cxo X W k) (O : OkF X.prog X.w X.K X.mg X.base j n ps drs F) (hj : j ≤ k) (ha : EvAX X W (e :: es) G S Qa Qx)
    (hF : ∀ rs S1, Qa rs S1 → (rs ++ drs).length = ps.length ∧ ∀ (QR : It → Sto → Prop) (QE : Addr → Sto → Prop), (∀ r S', Qr r S' → QR r S') → (∀ C S', Qx C S' → QE C S') → F (rs ++ drs) S1 QR QE) (hg : Gl X n := by rfl) (hdb : (n == ("__debug__" : Str)) = false := by decide)
    (he : starEach (e :: es) X.env = (false, eval e X.env) :: starEach es X.env := by rfl) (hpl : (backTo pos (starEach es X.env)).any (·.1) = false := by rfl) : EvX X W (.Call (.Name n p) (e :: es) [] pos) G S Qr Qx := fun M σ H Q s h1 h2 pins s0 I => by
  obtain ⟨f, fd, dvs, dus, hm, hk, hb, hd, rd, ok⟩ := O.ex
  refine wpAny_Call_Name_kw (ld_glob I hg hm ?_ hdb)
  refine PySem.W.callWith_K (h₀ := X.base) I.ok.mod.kin hk ?_ he hpl
  have arg : sA X (e :: es) σ H (fun vs H1 => ∃ M1 rs S1, Ext M H M1 H1 ∧ Stt X.K M1 H1 S1 G σ ∧ VReps X.K M1 H1 vs rs ∧ Qa rs S1) :=
    ha M σ H _ s (fun vs M' H' rs S' e1 t1 r1 q1 => ⟨M', rs, S', e1, t1, r1, q1⟩) h2
  refine thn ((pa_s (es := e :: es)).run pos pins s0 σ H _ I arg) fun us s1 ⟨vs, H1, I1, r1, M1, rs, S1, e1, t1, q1, qq⟩ => ⟨I1.kIn, ?_⟩
  obtain ⟨hl, hF2⟩ := hF rs S1 qq
  exact run_fnAt (E := eAt W σ) ok (c.hr.mono hj) hb hd (fun e s' cx => passAt c.tk σ pins H1 s1 e s' I1 cx) I1 r1 (spF_of t1.sto q1 rd hl hF2 (fun v M' H' r S' e2 s2 hv q => h1 v M' H' r S' (e1.trans e2) (t1.mono e2 s2) hv q) fun M' H' C S' e2 s2 q => h2 M' H' C S' (e1.trans e2) (t1.mono e2 s2) q)
/-! ### tests -/
theorem evtx_of (h : EvT X e G S c0 S1) (q : Qb c0 S1) : EvTX X W e G S Qb Qx := fun M σ H Q s h1 _ => h M σ H Q s fun M' H' e1 t1 => h1 _ M' H' S1 e1 t1 q
theorem evwx_of (h : EvW X e G S c0 S1) (q : Qb c0 S1) : EvWX X W e G S Qb Qx := fun M σ H Q s h1 _ => h M σ H Q s fun M' H' e1 t1 => h1 _ M' H' S1 e1 t1 q
theorem evtx_val (h : EvX X W e G S Q1 Qx) (hb : ∀ r S', Q1 r S' → ∃ b, r = .d (.bool b) ∧ Qb b S') (he : ∀ whole, isTrue e X.env whole = (do let v ← whole; standAt e.pos; holding [v] (truthy v)) := by intro _; rfl) : EvTX X W e G S Qb Qx := fun M σ H Q s h1 h2 =>
  toT (pt_val pe_s he) (h M σ H _ s (fun v M' H' r S' e1 t1 r1 q1 => by
    obtain ⟨b, rfl, q⟩ := hb r S' q1
    exact ⟨b, vr_bool r1, h1 b M' H' S' e1 t1 q⟩) h2)
theorem evtx_not (h : EvTX X W e G S Qc Qx) (hq : ∀ b S', Qc b S' → Qb (!b) S') : EvTX X W (.UnaryOp .Not e pos) G S Qb Qx := fun M σ H Q s h1 h2 =>
  toT (pt_not pt_s) (h M σ H _ s (fun b M' H' S' e1 t1 q => h1 _ M' H' S' e1 t1 (hq b S' q)) h2)
theorem evtx_w (h : EvWX X W e G S Qb Qx) : EvTX X W e G S Qb Qx := fun M σ H Q s h1 h2 => toT pw_s.pt (h M σ H _ s h1 h2)
theorem evwx_one {op : BoolOp} (h : EvTX X W a G S Qb Qx) (ho : op = .And ∨ op = .Or := by first | exact .inl rfl | exact .inr rfl) : EvWX X W (.BoolOp op [a] pos) G S Qb Qx := fun M σ H Q s h1 h2 => by
  rcases ho with rfl | rfl
  · exact toW (pw_and1 pt_s) (h M σ H _ s h1 h2)
  · exact toW (pw_or1 pt_s) (h M σ H _ s h1 h2)
theorem evwx_or (h : EvTX X W a G S Qc Qx) (ht : ∀ S', Qc true S' → Qb true S') (hf : ∀ S', Qc false S' → EvWX X W (.BoolOp .Or (b :: es) pos) G S' Qb Qx) : EvWX X W (.BoolOp .Or (a :: b :: es) pos) G S Qb Qx := fun M σ H Q s h1 h2 =>
  toW (pw_or pt_s pw_s) (h M σ H _ s (fun c M1 H1 S1 e1 t1 q => by
    cases c with
    | true => exact iteT (h1 true M1 H1 S1 e1 t1 (ht S1 q))
    | false => exact iteF (hf S1 q M1 σ H1 _ t1 (fun b M2 H2 S2 e2 t2 q2 => h1 b M2 H2 S2 (e1.trans e2) t2 q2) fun M2 H2 C S2 e2 t2 q2 => h2 M2 H2 C S2 (e1.trans e2) t2 q2)) h2)
theorem evwx_and (h : EvTX X W a G S Qc Qx) (hf : ∀ S', Qc false S' → Qb false S') (ht : ∀ S', Qc true S' → EvWX X W (.BoolOp .And (b :: es) pos) G S' Qb Qx) : EvWX X W (.BoolOp .And (a :: b :: es) pos) G S Qb Qx := fun M σ H Q s h1 h2 =>
  toW (pw_and pt_s pw_s) (h M σ H _ s (fun c M1 H1 S1 e1 t1 q => by
    cases c with
    | false => exact iteF (h1 false M1 H1 S1 e1 t1 (hf S1 q))
    | true => exact iteT (ht S1 q M1 σ H1 _ t1 (fun b M2 H2 S2 e2 t2 q2 => h1 b M2 H2 S2 (e1.trans e2) t2 q2) fun M2 H2 C S2 e2 t2 q2 => h2 M2 H2 C S2 (e1.trans e2) t2 q2)) h2)
theorem ws_ifX {pp qq : List Stmt} (h : EvTX X W e G S Qb Qx) (h1 : ∀ S1, Qb true S1 → WSs X W pp G S1 P) (h2 : ∀ S1, Qb false S1 → WSs X W qq G S1 P) (qx : ∀ C S', Qx C S' → P.xc C G S') : WS X W (.If e pp qq pos) G S P := fun M σ H D s m =>
  toS (ps_if pt_s pss_s pss_s) (h M σ H _ s (fun c M1 H1 S1 e1 t1 q => by
    cases c with
    | true => exact iteT (h1 S1 q M1 σ H1 D t1 (m.ext e1))
    | false => exact iteF (h2 S1 q M1 σ H1 D t1 (m.ext e1))) fun M1 H1 C S' e1 t1 q1 => m.xc M1 σ H1 G C S' e1 t1 (qx C S' q1))
end
end Cu
/-! CwH: a list of data, and an index, told loosely. -/
namespace Cu
open PySem PySem.Spec PyProof.Rows L2
section
variable {X : Cx} {W : WX} {k j : Nat} {G : Gam} {S S1 : Sto} {P : Post} {e a b : Expr} {es : List Expr} {r : It} {pos p : Pos} {n : Str} {Q1 Qr : It → Sto → Prop} {Qx : Addr → Sto → Prop} {Qa : List It → Sto → Prop}
theorem evx_lst (h : EvAX X W es G S Qa Qx) (hq : ∀ rs S1, Qa rs S1 → ∃ ds, ds? rs = some ds ∧ rs.length ≤ 1000 ∧ Qr (.d (.list ds)) S1) : EvX X W (.List es pos) G S Qr Qx := fun M σ H Q s h1 h2 =>
  toE (pe_lst pa_s) (h M σ H _ s (fun vs M1 H1 rs S1 e1 t1 r1 q1 => by
    obtain ⟨ds, hd, hl, q⟩ := hq rs S1 q1
    exact ⟨Nat.le_of_lt (small1000 (by rw [r1.len]; exact hl)), fun p hp =>
      h1 _ M1 _ (.d (.list ds)) S1 (e1.trans (Ext.fresh hp)) (t1.fresh hp) (Fz.lst ⟨.inl upd_same, t1.sto.nin hp⟩ (FzAll.ext (Ext.fresh hp) (fz_all hd r1))) q⟩) h2)
/-- xs[i], i told loosely -/
theorem evx_ixL {ds : List PyData} (ha : Ev X a G S (.d (.list ds)) S1) (hb : EvX X W b G S1 Q1 Qx) (hq : ∀ r S', Q1 r S' → ∃ (n : Int) (d : PyData), r = .d (.int n) ∧ atI ds n = some d ∧ Qr (.d d) S') (hs : PlainIx b := by exact fun _ _ => rfl) : EvX X W (.Subscript a b pos) G S Qr Qx := fun M σ H Q s h1 h2 =>
  toE (pe_ix ix_list pe_s pe_s hs) (ha M σ H _ s fun v M1 H1 e1 s1 r1 => hb M1 σ H1 _ s1 (fun u M2 H2 r S' e2 s2 r2 q2 => by
    obtain ⟨n, d, rfl, hat, q⟩ := hq r S' q2
    have hv' : Fz M2 H2 v (.list ds) := Fz.ext e2 r1
    cases hv' with
    | lst k1 k2 =>
      obtain ⟨w, hw, fw⟩ := atI_fz k2 hat
      exact ⟨_, _, n, w, rfl, vr_int r2, k1.sq, hw, h1 w M2 H2 (.d d) S' (e1.trans e2) s2 fw q⟩) fun M2 H2 C S' e2 s2 q2 => h2 M2 H2 C S' (e1.trans e2) s2 q2)
end
end Cu
namespace Pf
open PySem PySem.Spec PyProof.Rows L2 He Cu
def F_spoilt : Fn := fun rs S QR _ => ∃ (n : Nat) (w : Well) (x : Str), rs = [.d (.str x), .o n] ∧ S[n]? = some (wellO w) ∧ okS x ∧ x.length ≤ 10000 ∧ ∀ y w', okS y → y.length ≤ 90000 → QR (.d (.str y)) (S.set n (wellO w'))
def glyS : Str := Str.ofString " 0-19+blk\t\n.x8az"
section
variable {P : Program} {w : World} {K : PySem.W.Frag} {mg : Str → Option Value} {base : Heap}
theorem fn__law_spoilt_text (T : TT K mg) {fd : FuncData} (Fd : FunD K "_law_spoilt_text" "_law_spoilt_text" (defArgs s__law_spoilt_text) (defBody s__law_spoilt_text) (defScope s__law_spoilt_text) [] [] (ga K "_law_spoilt_text") fd) : FnOk P w K mg base (L2.CX P w) 4 (ga K "_law_spoilt_text") fd ["_law_text_here", "_law_well_here"] (spF K 2 F_spoilt) := by
  refine fn_w Fd sc__law_spoilt_text fun cdv A outer s H E rs S QR QE c hc hl hF => ?_
  obtain ⟨n, w1, x, rfl, hw, hok, hlen, q⟩ := hF
  have hn : n < S.length := (List.getElem?_eq_some_iff.mp hw).1
  have hw2 : ∀ w', (S.set n (wellO w'))[n]? = some (wellO w') := fun w' => List.getElem?_set_self hn
  have dr : ∀ {S1 : Sto} {w1 : Well} {m : Int} {QR : Cu.It → Sto → Prop} {QE : Addr → Sto → Prop}, S1[n]? = some (wellO w1) → 0 < m → m < 1073741824 → QR (.d (.int (drawV w1 m))) (S1.set n (wellO (drawW w1 m))) → F_draw [.o n, .d (.int m)] S1 QR QE := fun h1 h2 h3 h4 => ⟨_, _, _, rfl, h1, h2, h3, h4⟩
  have d1 := draw_lo (w := w1) (m := 4) (by decide)
  have d2 := draw_hi (w := w1) (m := 4) (by decide)
  refine ss_cons (ws_for c (evi_range1 (z_range T) (ev_call c (ok__law_draw T) (eva_cons (ev_name 1) (eva_cons ev_int eva_nil)) (fun QR QE q => dr hw (by decide) (by decide) q)) (by omega)) (J := fun i G' S' => ∃ (y : Str) (g2 g3 g4 g5 : Option Cu.It) (w' : Well), G' = [some (.d (.str y)), some (.o n), g2, g3, g4, g5] ∧ S' = S.set n (wellO w') ∧ okS y ∧ y.length + 1 ≤ 2 ^ i * (x.length + 1)) (fun r G => G.set 2 (some r)) ⟨x, _, _, _, _, _, rfl, rfl, hok, by omega⟩ (fun _ _ _ _ => trivial) ?_ ?_ ?_)
  · rintro i r G' S' hr ⟨y, g2, g3, g4, g5, w', rfl, rfl, _⟩
    exact evg_name 2 c.nd
  · rintro i r G' S' hr ⟨y, g2, g3, g4, g5, w', rfl, rfl, hoky, hly⟩
    obtain ⟨hi, rfl⟩ := rngI_at hr
    have hi3 : i < 3 := by omega
    have hpow : 2 ^ i ≤ 4 := by
      have : i = 0 ∨ i = 1 ∨ i = 2 := by omega
      rcases this with rfl | rfl | rfl <;> decide
    have hyl : y.length ≤ 50000 := by
      have := Nat.mul_le_mul_right (x.length + 1) hpow
      omega
    have a1 := draw_lo (w := w') (m := (y.length : Int) + 1) (by omega)
    refine ss_cons (ws_set 3 c.nd (ev_call c (ok__law_draw T) (eva_cons (ev_name 1) (eva_cons (ev_add (ev_lenS (z_len T) (ev_name 0) (by rw [sizeLine_eq]; omega)) ev_int) eva_nil)) (fun QR QE q => dr (m := (y.length : Int) + 1) (hw2 _) (by omega) (by omega) q)) ?_)
    rw [List.set_set]
    obtain ⟨at_, hat⟩ : ∃ a : Int, a = drawV w' ((y.length : Int) + 1) := ⟨_, rfl⟩
    rw [← hat] at a1 ⊢
    obtain ⟨w2, hw2e⟩ : ∃ w2, w2 = drawW w' ((y.length : Int) + 1) := ⟨_, rfl⟩
    rw [← hw2e]
    have b1 := draw_lo (w := w2) (m := 16) (by decide)
    have b2 := draw_hi (w := w2) (m := 16) (by decide)
    obtain ⟨g, hg, hgok⟩ : ∃ g, atI glyS.cps.toList (drawV w2 16) = some g ∧ g < 1114112 := by
      have hall : ∀ k : Nat, k < 16 → ∃ g, glyS.cps.toList[k]? = some g ∧ g < 1114112 := by decide
      obtain ⟨g, h1, h2⟩ := hall (drawV w2 16).toNat (by omega)
      exact ⟨g, atI_nat (k := (drawV w2 16).toNat) (by omega) h1, h2⟩
    refine ss_cons (ws_set 4 c.nd (ev_ixStr (c := g) ev_str (ev_call c (ok__law_draw T) (eva_cons (ev_name 1) (eva_cons ev_int eva_nil)) (fun QR QE q => dr (hw2 _) (by decide) (by decide) q)) (by decide +kernel) hg) ?_)
    rw [List.set_set]
    have c1 := draw_lo (w := drawW w2 16) (m := 3) (by decide)
    have c2 := draw_hi (w := drawW w2 16) (m := 3) (by decide)
    refine ss_cons (ws_set 5 c.nd (ev_call c (ok__law_draw T) (eva_cons (ev_name 1) (eva_cons ev_int eva_nil)) (fun QR QE q => dr (hw2 _) (by decide) (by decide) q)) ?_)
    rw [List.set_set]
    obtain ⟨way, hway⟩ : ∃ way, way = drawV (drawW w2 16) 3 := ⟨_, rfl⟩
    rw [← hway] at c1 c2 ⊢
    obtain ⟨w4, hw4⟩ : ∃ w4, w4 = drawW (drawW w2 16) 3 := ⟨_, rfl⟩
    rw [← hw4]
    have l1 := cutS_length y none (some at_)
    have l2 := cutS_length y (some at_) none
    have l3 := cutS_length y (some (at_ + 1)) none
    have lg : (⟨#[g]⟩ : Str).length = 1 := rfl
    have lA : (cutS y none (some at_) ++ (⟨#[g]⟩ : Str)).length ≤ y.length + 1 := by rw [len_app, lg]; omega
    have fin : ∀ (z : Str), okS z → z.length ≤ 2 * y.length + 1 → ∃ (y2 : Str) (g2 g3 g4 g5 : Option Cu.It) (w' : Well), [some (Cu.It.d (.str z)), some (.o n), some (.d (.int (0 + (i : Int)))), some (.d (.int at_)), some (.d (.str ⟨#[g]⟩)), some (.d (.int way))] = [some (.d (.str y2)), some (.o n), g2, g3, g4, g5] ∧ S.set n (wellO w4) = S.set n (wellO w') ∧ okS y2 ∧ y2.length + 1 ≤ 2 ^ (i + 1) * (x.length + 1) := fun z hz hzl => by
      refine ⟨z, _, _, _, _, w4, rfl, rfl, hz, ?_⟩
      rw [Nat.pow_succ, Nat.mul_right_comm]
      omega
    have h3 : way = 0 ∨ way = 1 ∨ way = 2 := by omega
    rcases h3 with rfl | rfl | rfl
    · refine ss_cons (ws_if (k1 := true) (EvT.is (evt_eqI (ev_name 5) ev_int) rfl) (fun _ => ss_cons (ws_set 0 c.nd (ev_addS (ev_addS (ev_slS (il := none) (ih := some at_) (ev_name 0) trivial (ev_name 3) (by omega)) (ev_name 4) (by omega)) (ev_slS (il := some at_) (ih := none) (ev_name 0) (ev_name 3) trivial (by omega)) (by omega)) (ss_nil ?_))) (fun z => nomatch z))
      refine ss_cons (ws_if (k1 := false) (EvT.is (evt_eqI (ev_name 5) ev_int) rfl) (fun z => nomatch z) (fun _ => ss_nil ?_))
      refine ss_cons (ws_if (k1 := false) (EvT.is (evt_eqI (ev_name 5) ev_int) rfl) (fun z => nomatch z) (fun _ => ss_nil (ss_nil (fin _ (okS_app (okS_app (okS_cut hoky _ _) (okS_sign hgok)) (okS_cut hoky _ _)) ?_))))
      rw [len_app]
      omega
    · refine ss_cons (ws_if (k1 := false) (EvT.is (evt_eqI (ev_name 5) ev_int) rfl) (fun z => nomatch z) (fun _ => ss_nil ?_))
      refine ss_cons (ws_if (k1 := true) (EvT.is (evt_eqI (ev_name 5) ev_int) rfl) (fun _ => ss_cons (ws_set 0 c.nd (ev_addS (ev_slS (il := none) (ih := some at_) (ev_name 0) trivial (ev_name 3) (by omega)) (ev_slS (il := some (at_ + 1)) (ih := none) (ev_name 0) (ev_add (ev_name 3) ev_int) trivial (by omega)) (by omega)) (ss_nil ?_))) (fun z => nomatch z))
      refine ss_cons (ws_if (k1 := false) (EvT.is (evt_eqI (ev_name 5) ev_int) rfl) (fun z => nomatch z) (fun _ => ss_nil (ss_nil (fin _ (okS_app (okS_cut hoky _ _) (okS_cut hoky _ _)) ?_))))
      rw [len_app]
      omega
    · refine ss_cons (ws_if (k1 := false) (EvT.is (evt_eqI (ev_name 5) ev_int) rfl) (fun z => nomatch z) (fun _ => ss_nil ?_))
      refine ss_cons (ws_if (k1 := false) (EvT.is (evt_eqI (ev_name 5) ev_int) rfl) (fun z => nomatch z) (fun _ => ss_nil ?_))
      refine ss_cons (ws_if (k1 := true) (EvT.is (evt_eqI (ev_name 5) ev_int) rfl) (fun _ => ss_cons (ws_set 0 c.nd (ev_addS (ev_addS (ev_slS (il := none) (ih := some at_) (ev_name 0) trivial (ev_name 3) (by omega)) (ev_name 4) (by omega)) (ev_slS (il := some (at_ + 1)) (ih := none) (ev_name 0) (ev_add (ev_name 3) ev_int) trivial (by omega)) (by omega)) (ss_nil (ss_nil (fin _ (okS_app (okS_app (okS_cut hoky _ _) (okS_sign hgok)) (okS_cut hoky _ _)) ?_))))) (fun z => nomatch z))
      rw [len_app]
      omega
  · rintro G' S' ⟨y, g2, g3, g4, g5, w', rfl, rfl, hoky, hly⟩
    rw [rngI_len] at hly
    refine ss_cons (ws_ret (ev_name 0) (back_d (q y _ hoky ?_)))
    have hk : (drawV w1 4).toNat ≤ 3 := by omega
    have hpow : 2 ^ (drawV w1 4).toNat ≤ 8 := Nat.le_trans (Nat.pow_le_pow_right (by decide) hk) (by decide)
    have := Nat.mul_le_mul_right (x.length + 1) hpow
    omega
theorem ok__law_spoilt_text (T : TT K mg) : OkF P w K mg base 4 "_law_spoilt_text" ["_law_text_here", "_law_well_here"] [] F_spoilt := okF_of (g__law_spoilt_text T) (d__law_spoilt_text T) (fun _ _ _ _ _ _ us hl => match us, hl with | [_, _], _ => rfl) fun fd Fd => fn__law_spoilt_text T Fd
end
end Pf
/-! CyG: xs.pop(i), xs.insert(i, x) of an owned list. -/
namespace Cu
open PySem PySem.Spec PyProof.Rows L2
theorem reps_eraseI {K : PySem.W.Frag} {M : List Addr} {H : Hp} : ∀ {vs : List V} {rs : List It} (k : Nat), VReps K M H vs rs → VReps K M H (vs.eraseIdx k) (rs.eraseIdx k)
  | _, _, _, .nil => .nil
  | _, _, 0, .cons _ t => t
  | _, _, k + 1, .cons a t => .cons a (reps_eraseI k t)
theorem reps_put {K : PySem.W.Frag} {M : List Addr} {H : Hp} {v : V} {r : It} (hv : VRep K M H v r) : ∀ {vs : List V} {rs : List It} (k : Nat), VReps K M H vs rs → VReps K M H (vs.take k ++ [v] ++ vs.drop k) (rs.take k ++ [r] ++ rs.drop k)
  | _, _, k, .nil => by
    rw [List.take_nil, List.take_nil, List.drop_nil, List.drop_nil]
    exact .cons hv .nil
  | _, _, 0, .cons a t => .cons hv (.cons a t)
  | _, _, k + 1, .cons a t => .cons a (reps_put hv k t)
section
variable {X : Cx} {G : Gam} {S S1 S2 S3 : Sto} {e a b o : Expr} {r : It} {apos cpos : Pos}
theorem ev_popI {i k : Nat} {n : Int} {xs : List It} {y : It} (ho : Ev X o G S (.o i) S1) (hi : S1[i]? = some (.lst xs)) (ha : Ev X e G S1 (.d (.int n)) S2) (hi2 : S2[i]? = some (.lst xs)) (hn : n = k) (hz : k < 1000000) (hy : xs[k]? = some y) (hbase : attributeBase o "pop" X.env (eval o X.env) = eval o X.env := by rfl)
    (hfew : ((backTo cpos (starEach [e] X.env)).all (fun x => !x.1) && (backToKw cpos (keywordEach [] X.env)).all (fun x => x.1.isSome) && decide ([e].length + ([] : List Keyword).length + (if ([] : List Keyword).isEmpty then 0 else 1) < 30)) = true := by rfl)
    (hline : (apos.endLine == cpos.line) = true := by rfl) (hs : starEach [e] X.env = (false, eval e X.env) :: starEach [] X.env := by rfl) : Ev X (.Call (.Attribute o "pop" apos) [e] [] cpos) G S y (S2.set i (.lst (xs.eraseIdx k))) :=
  ev_bm PySem.F.plainAttrs_list PySem.F.slot_list_pop PySem.F.type_list_pop mt_popAt ho (ty_own hi) (eva_cons ha eva_nil hs) (fun M H v vs Q s hv hvs q => by
    obtain ⟨u, rfl, hu⟩ := vr1 hvs
    obtain ⟨ad, had, rfl⟩ := hv
    obtain ⟨ws, e1, e2⟩ := s.rep i ad _ had hi2
    obtain ⟨w, hw, rw'⟩ := reps_get e2 hy
    have hlt : k < ws.length := (List.getElem?_eq_some_iff.mp hw).1
    have e3 : Ext M H M (upd H ad (.lst (ws.eraseIdx k))) := Ext.put (List.mem_of_getElem? had)
    refine ⟨ad, ws, n, k, w, rfl, by rw [vr_int hu], e1, by omega, by omega, ?_, hw, q w M _ e3 (s.put had ⟨_, upd_same, VReps.ext e3 (reps_eraseI k e2)⟩) (rw'.ext e3)⟩
    rw [hn]
    unfold seqIndex?
    simp
    omega) hbase hfew hline hs rfl
theorem ev_insert {i k : Nat} {n : Int} {xs : List It} (ho : Ev X o G S (.o i) S1) (hi : S1[i]? = some (.lst xs)) (ha : Ev X a G S1 (.d (.int n)) S2) (hb : Ev X b G S2 r S3) (hi3 : S3[i]? = some (.lst xs)) (hn : n = k) (hz : k < 1000000) (hl : xs.length < 1000000) (hbase : attributeBase o "insert" X.env (eval o X.env) = eval o X.env := by rfl)
    (hfew : ((backTo cpos (starEach [a, b] X.env)).all (fun x => !x.1) && (backToKw cpos (keywordEach [] X.env)).all (fun x => x.1.isSome) && decide ([a, b].length + ([] : List Keyword).length + (if ([] : List Keyword).isEmpty then 0 else 1) < 30)) = true := by rfl)
    (hline : (apos.endLine == cpos.line) = true := by rfl) (hs : starEach [a, b] X.env = (false, eval a X.env) :: starEach [b] X.env := by rfl) (hs2 : starEach [b] X.env = (false, eval b X.env) :: starEach [] X.env := by rfl) (hpl : (backTo cpos (starEach [b] X.env)).any (·.1) = false := by rfl) :
    Ev X (.Call (.Attribute o "insert" apos) [a, b] [] cpos) G S (.d .none) (S3.set i (.lst (xs.take k ++ [r] ++ xs.drop k))) :=
  ev_bm PySem.F.plainAttrs_list PySem.F.slot_list_insert PySem.F.type_list_insert mt_insert ho (ty_own hi) (eva_cons ha (eva_cons hb eva_nil hs2) hs) (fun M H v vs Q s hv hvs q => by
    obtain ⟨u, w, rfl, hu, hw⟩ := vr2 hvs
    obtain ⟨ad, had, rfl⟩ := hv
    obtain ⟨ws, e1, e2⟩ := s.rep i ad _ had hi3
    have hlen := e2.len
    have e3 : Ext M H M (upd H ad (.lst (ws.take n.toNat ++ [w] ++ ws.drop n.toNat))) := Ext.put (List.mem_of_getElem? had)
    have hk : n.toNat = k := by omega
    refine ⟨ad, ws, n, w, rfl, by rw [vr_int hu], e1, by rw [sizeLine_eq]; omega, by omega, by omega, q .non M _ e3 (s.put had ⟨_, upd_same, ?_⟩) Fz.non⟩
    rw [hk]
    have := reps_put (hw.ext e3) k (VReps.ext e3 e2)
    rw [hk] at this
    exact this) hbase hfew hline hs hpl
end
end Cu
namespace Pf
open PySem PySem.Spec PyProof.Rows L2 He Cu
/-- numbers drawn one by one -/
def drawsN (m : Int) (w : Well) : Nat → Well × List Int
  | 0 => (w, [])
  | i + 1 => (drawW (drawsN m w i).1 m, (drawsN m w i).2 ++ [drawV (drawsN m w i).1 m])
theorem draws_len (m : Int) (w : Well) : ∀ i, (drawsN m w i).2.length = i
  | 0 => rfl
  | i + 1 => by
    show ((drawsN m w i).2 ++ [_]).length = _
    rw [List.length_append, draws_len m w i] <;> rfl
theorem draws_in {m : Int} (hm : 0 < m) (w : Well) : ∀ i, ∀ x ∈ (drawsN m w i).2, 0 ≤ x ∧ x < m
  | 0, _, h => nomatch h
  | i + 1, x, h => by
    have h : x ∈ (drawsN m w i).2 ++ [_] := h
    rcases List.mem_append.mp h with h | h
    · exact draws_in hm w i x h
    · rw [List.mem_singleton.mp h]
      exact ⟨draw_lo hm, draw_hi hm⟩
theorem cutD_to {α : Type} (xs : List α) (n : Nat) : Cu.cutD xs none (some (n : Int)) = xs.take n := by
  unfold Cu.cutD
  have e1 : HT.sIx xs.length 0 none = 0 := rfl
  have e2 : HT.sIx xs.length xs.length (some (n : Int)) = min n xs.length := HT.sIx_nat _ _ _
  rw [e1, e2, List.drop_zero, Nat.sub_zero]
  rcases Nat.le_total n xs.length with h | h
  · rw [Nat.min_eq_left h]
  · rw [Nat.min_eq_right h, List.take_length, List.take_of_length_le h]
theorem cutD_both {α : Type} (xs : List α) (n m : Nat) (h : n ≤ xs.length) : Cu.cutD xs (some (n : Int)) (some (m : Int)) = (xs.drop n).take (m - n) := by
  unfold Cu.cutD
  have e1 : HT.sIx xs.length 0 (some (n : Int)) = min n xs.length := HT.sIx_nat _ _ _
  have e2 : HT.sIx xs.length xs.length (some (m : Int)) = min m xs.length := HT.sIx_nat _ _ _
  rw [e1, e2, Nat.min_eq_left h]
  rcases Nat.le_total m xs.length with h2 | h2
  · rw [Nat.min_eq_left h2]
  · rw [Nat.min_eq_right h2, List.take_of_length_le (by rw [List.length_drop]; exact Nat.le_refl _), List.take_of_length_le (by rw [List.length_drop]; omega)]
theorem ixN_of {n : Nat} {i : Int} (h0 : 0 ≤ i) (h : i < n) : ixN n i = some i.toNat := by
  unfold ixN
  rw [if_pos h0, if_pos h]
def rowOk (x : Str) : Prop := okS x ∧ x.length ≤ 220
theorem numS_len41 {n : Int} (h0 : 0 ≤ n) (h : n ≤ 10 ^ 40) : (numS n).length ≤ 41 := by
  obtain ⟨m, rfl⟩ : ∃ m : Nat, n = (m : Int) := ⟨n.toNat, (Int.toNat_of_nonneg h0).symm⟩
  rw [TL.len_tl, tl_numS]
  exact TL.numL_len (by decide) (by have : (m : Int) < 10 ^ 41 := Int.lt_of_le_of_lt h (by decide); exact_mod_cast this)
theorem big_log {n : Int} (h0 : 0 ≤ n) (h : n ≤ 10 ^ 40) : n.natAbs.log2 < 1920 := by
  have h1 : n.natAbs < 2 ^ 200 := by omega
  by_cases h2 : n.natAbs = 0
  · rw [h2]; decide
  · exact Nat.lt_trans ((Nat.log2_lt h2).mpr h1) (by decide)
theorem rowOk_one {w : Str} {n : Int} (hw : okS w) (hl : w.length ≤ 6) (h0 : 0 ≤ n) (h : n ≤ 10) : rowOk (w ++ numS n) := by
  refine ⟨okS_app hw (okS_numS n), ?_⟩
  have := numS_len41 h0 (Int.le_trans h (by decide))
  rw [len_app]
  omega
theorem rowOk_keep {ns : List Int} (h : ∀ n ∈ ns, 0 ≤ n ∧ n ≤ 10 ^ 40) (hl : ns.length = 5) : rowOk (Str.ofString "keep " ++ Txt.join (Str.ofString " ") (ns.map numS)) := by
  refine ⟨okS_app (by unfold okS; decide +kernel) (okS_join fun w hw => ?_), ?_⟩
  · obtain ⟨n, _, rfl⟩ := List.mem_map.mp hw
    exact okS_numS n
  · have := join_short (ws := ns.map numS) fun w hw => by
      obtain ⟨n, hn, rfl⟩ := List.mem_map.mp hw
      exact numS_len41 (h n hn).1 (h n hn).2
    rw [List.length_map, hl] at this
    rw [len_app]
    have e : (Str.ofString "keep ").length = 5 := by decide
    omega
def numStrG : Cu.It → PyData
  | .d (.int n) => PyData.str (Str.ofString (toString n))
  | _ => .none
def nlG : Cu.It → PyData
  | .d (.str x) => PyData.str (x ++ nl1)
  | _ => .none
theorem nums_out (ns : List Int) : (((ns.map PyData.int).map Cu.It.d).filter fun _ => true).map numStrG = (ns.map numS).map .str := by
  rw [List.filter_eq_self.mpr (fun _ _ => rfl), List.map_map, List.map_map, List.map_map] <;> rfl
theorem nl_out (ws : List Str) : (((ws.map PyData.str).map Cu.It.d).filter fun _ => true).map nlG = (ws.map fun r => r ++ nl1).map .str := by
  rw [List.filter_eq_self.mpr (fun _ _ => rfl), List.map_map, List.map_map, List.map_map] <;> rfl
theorem erase_map {α β : Type} (f : α → β) : ∀ (l : List α) (k : Nat), (l.map f).eraseIdx k = (l.eraseIdx k).map f
  | [], _ => rfl
  | _ :: _, 0 => rfl
  | a :: l, k + 1 => congrArg (f a :: ·) (erase_map f l k)
theorem nl_fits {v : Str} (h : rowOk v) : v.length + nl1.length ≤ 1000000 := by
  have := h.2
  have e : nl1.length = 1 := by decide
  omega
def F_text4 : Fn := fun rs S QR _ => ∃ (n : Nat) (w : Well), rs = [.o n] ∧ S[n]? = some (wellO w) ∧ ∀ y w', okS y → y.length ≤ 10000 → QR (.d (.str y)) (S.set n (wellO w'))
theorem textOf_len {rows : List Str} (h : ∀ r ∈ rows, rowOk r) : (textOf rows).length ≤ rows.length * 221 ∧ okS (textOf rows) := by
  refine ⟨text_len fun r hr => (h r hr).2, fun c hc => ?_⟩
  rw [tl_text, List.mem_flatten] at hc
  obtain ⟨l, hl, hcl⟩ := hc
  obtain ⟨r, hr, rfl⟩ := List.mem_map.mp hl
  rcases List.mem_append.mp hcl with z | z
  · exact (h r hr).1 c z
  · rw [List.mem_singleton.mp z]; decide
section
variable {P : Program} {w : World} {K : PySem.W.Frag} {mg : Str → Option Value} {base : Heap}
theorem fn__law_text (T : TT K mg) {fd : FuncData} (Fd : FunD K "_law_text" "_law_text" (defArgs s__law_text) (defBody s__law_text) (defScope s__law_text) [] [] (ga K "_law_text") fd) : FnOk P w K mg base (L2.CX P w) 4 (ga K "_law_text") fd ["_law_well_here"] (spF K 1 F_text4) := by
  refine fn_w Fd sc__law_text fun cdv A outer s H E rs S QR QE c hc hl hF => ?_
  obtain ⟨n, w1, rfl, hw, q⟩ := hF
  have hn : n < S.length := (List.getElem?_eq_some_iff.mp hw).1
  have hw2 : ∀ w', (S.set n (wellO w'))[n]? = some (wellO w') := fun w' => List.getElem?_set_self hn
  have hsl : ∀ w', (S.set n (wellO w')).length = S.length := fun w' => List.length_set
  have hw3 : ∀ w' L, (S.set n (wellO w') ++ L)[n]? = some (wellO w') := fun w' L => by rw [List.getElem?_append_left (by rw [List.length_set]; exact hn)]; exact hw2 w'
  have hst : ∀ w' w3 L, (S.set n (wellO w') ++ L).set n (wellO w3) = S.set n (wellO w3) ++ L := fun w' w3 L => by rw [List.set_append_left _ _ (by rw [List.length_set]; exact hn), List.set_set]
  have hat : ∀ (w' : Well) (u : Own) (L : Sto), (S.set n (wellO w') ++ u :: L)[S.length]? = some u := fun w' u L => by rw [List.getElem?_append_right (by rw [hsl]; exact Nat.le_refl _), hsl, Nat.sub_self] <;> rfl
  have hsa : ∀ (w' : Well) (u v : Own) (L : Sto), (S.set n (wellO w') ++ u :: L).set S.length v = S.set n (wellO w') ++ v :: L := fun w' u v L => by rw [List.set_append_right _ _ (by rw [hsl]; exact Nat.le_refl _), hsl, Nat.sub_self] <;> rfl
  have dr : ∀ {S1 : Sto} {w1 : Well} {m : Int} {QR : Cu.It → Sto → Prop} {QE : Addr → Sto → Prop}, S1[n]? = some (wellO w1) → 0 < m → m < 1073741824 → QR (.d (.int (drawV w1 m))) (S1.set n (wellO (drawW w1 m))) → F_draw [.o n, .d (.int m)] S1 QR QE := fun h1 h2 h3 h4 => ⟨_, _, _, rfl, h1, h2, h3, h4⟩
  have small : ∀ {i : Int}, 0 ≤ i → i ≤ 100 → i.natAbs.log2 < 1920 := fun h0 h => big_log h0 (Int.le_trans h (by decide))
  have a1 := draw_lo (w := w1) (m := 4) (by decide)
  have a2 := draw_hi (w := w1) (m := 4) (by decide)
  have b1 := draw_lo (w := drawW w1 4) (m := 5) (by decide)
  have b2 := draw_hi (w := drawW w1 4) (m := 5) (by decide)
  have sl : ∀ {x : Str} {i : Int}, x.length ≤ 10 → 0 ≤ i → i ≤ 10 → x.length + (numS i).length ≤ 1000000 := fun {x i} h h0 h1 => by
    have := numS_len41 h0 (Int.le_trans h1 (by decide))
    omega
  refine ss_cons (ws_set 1 c.nd (ev_lstO (eva_cons (ev_addS (y := numS (drawV w1 4)) ev_str (ev_strI (z_str T) (ev_call c (ok__law_draw T) (eva_cons (ev_name 0) (eva_cons ev_int eva_nil)) (fun QR QE q => dr hw (by decide) (by decide) q)) (small a1 (by omega))) (sl (by decide) a1 (by omega))) (eva_cons (ev_addS (y := numS (drawV (drawW w1 4) 5)) ev_str (ev_strI (z_str T) (ev_call c (ok__law_draw T) (eva_cons (ev_name 0) (eva_cons ev_int eva_nil)) (fun QR QE q => dr (hw2 _) (by decide) (by decide) q)) (small b1 (by omega))) (sl (by decide) b1 (by omega))) eva_nil))) ?_)
  rw [List.set_set, hsl]
  obtain ⟨w2, hw2e⟩ : ∃ w2, w2 = drawW (drawW w1 4) 5 := ⟨_, rfl⟩
  rw [← hw2e]
  have c1 := draw_lo (w := w2) (m := 3) (by decide)
  have c2 := draw_hi (w := w2) (m := 3) (by decide)
  refine ss_cons (ws_expr (ev_append (i := S.length) (ev_name 1) (hat _ _ _) (ev_addS (y := numS (drawV w2 3)) ev_str (ev_strI (z_str T) (ev_call c (ok__law_draw T) (eva_cons (ev_name 0) (eva_cons ev_int eva_nil)) (fun QR QE q => dr (hw3 _ _) (by decide) (by decide) q)) (small c1 (by omega))) (sl (by decide) c1 (by omega))) (by rw [hst]; exact hat _ _ _) (by simp)) ?_)
  rw [hst, hsa]
  obtain ⟨w3, hw3e⟩ : ∃ w3, w3 = drawW w2 3 := ⟨_, rfl⟩
  rw [← hw3e]
  have d1 := draw_lo (w := w3) (m := 15) (by decide)
  have d2 := draw_hi (w := w3) (m := 15) (by decide)
  have first : ∀ x ∈ [Str.ofString "gap " ++ numS (drawV w1 4), Str.ofString "width " ++ numS (drawV (drawW w1 4) 5), Str.ofString "rim " ++ numS (drawV w2 3)], rowOk x := fun x hx => by
    simp only [List.mem_cons, List.not_mem_nil, or_false] at hx
    rcases hx with rfl | rfl | rfl
    · exact rowOk_one (by unfold okS; decide +kernel) (by decide) a1 (by omega)
    · exact rowOk_one (by unfold okS; decide +kernel) (by decide) b1 (by omega)
    · exact rowOk_one (by unfold okS; decide +kernel) (by decide) c1 (by omega)
  refine ss_cons (ws_for c (evi_range1 (z_range T) (ev_call c (ok__law_draw T) (eva_cons (ev_name 0) (eva_cons ev_int eva_nil)) (fun QR QE q => dr (hw3 _ _) (by decide) (by decide) q)) (by omega)) (J := fun i G' S' => ∃ (R : List Str) (g2 g3 : Option Cu.It) (w' : Well) (L : Sto), G' = [some (.o n), some (.o S.length), g2, g3, none, none, none, none, none] ∧ S' = S.set n (wellO w') ++ .lst ((R.map PyData.str).map .d) :: L ∧ R.length = 3 + i ∧ ∀ x ∈ R, rowOk x) (fun r G => G.set 2 (some r)) ⟨_, _, _, _, _, rfl, by rw [hst] <;> rfl, rfl, first⟩ (fun _ _ _ _ => trivial) ?_ ?_ ?_)
  · rintro i r G' S' hr ⟨R, g2, g3, w', L, rfl, rfl, _⟩
    exact evg_name 2 c.nd
  · rintro i r G' S' hr ⟨R, g2, g3, w', L, rfl, rfl, hlen, hR⟩
    obtain ⟨hi, rfl⟩ := rngI_at hr
    have hi15 : i < 15 := by omega
    obtain ⟨rO, hrO⟩ : ∃ rO : Own, rO = .lst ((R.map PyData.str).map .d) := ⟨_, rfl⟩
    rw [← hrO]
    have hlenL : ∀ (w4 : Well) (r4 : Own), (S.set n (wellO w4) ++ r4 :: L).length = S.length + 1 + L.length := fun w4 r4 => by rw [List.length_append, hsl, List.length_cons]; omega
    have hatL : ∀ (w4 : Well) (r4 u : Own), (S.set n (wellO w4) ++ r4 :: (L ++ [u]))[S.length + 1 + L.length]? = some u := fun w4 r4 u => by
      have := get_endR (S.set n (wellO w4) ++ r4 :: L) u
      rw [hlenL, List.append_assoc] at this
      exact this
    have hsetL : ∀ (w4 : Well) (r4 u v : Own), (S.set n (wellO w4) ++ r4 :: (L ++ [u])).set (S.length + 1 + L.length) v = S.set n (wellO w4) ++ r4 :: (L ++ [v]) := fun w4 r4 u v => by
      have := set_endR (S.set n (wellO w4) ++ r4 :: L) u v
      rw [hlenL, List.append_assoc, List.append_assoc] at this
      exact this
    have d4l := draws_len 4 w'
    refine ss_cons (ws_setLcO (own := [("_law_j", 4)]) (l := S.length + 1 + L.length) 3 c (blkOk_by (by rfl)) (S2 := S.set n (wellO (drawsN 4 w' 5).1) ++ rO :: (L ++ [.lst (((drawsN 4 w' 5).2.map PyData.int).map .d)])) (by
      rw [← hlenL w' rO]
      refine lc_own (own := [("_law_j", 4)]) c (evi_range1 (n := 5) (z_range T) ev_int ⟨by decide, by decide⟩) (tg_name 4 c.nd) (J := fun j S2 => S2 = S.set n (wellO (drawsN 4 w' j).1) ++ rO :: (L ++ [Own.lst (((drawsN 4 w' j).2.map PyData.int).map Cu.It.d)])) (by rw [List.append_assoc] <;> rfl) (fun _ _ _ => trivial) (fun j r S2 hr hJ => ?_) (fun S2 h => h)
      subst hJ
      obtain ⟨hj, rfl⟩ := rngI_at hr
      refine ⟨_, true, rfl, fun s H C cl fp => rfl, fun _ => ⟨.d (.int (drawV (drawsN 4 w' j).1 4)), S.set n (wellO (drawW (drawsN 4 w' j).1 4)) ++ rO :: (L ++ [.lst (((drawsN 4 w' j).2.map PyData.int).map .d)]), ((drawsN 4 w' j).2.map PyData.int).map .d, fun s H C cl fp => Ev.is2 (ev_call (c.blk _ s H C cl fp) (ok__law_draw T) (eva_cons (ev_name 0) (eva_cons ev_int eva_nil)) (fun QR QE q => dr (hw3 _ _) (by decide) (by decide) q)) rfl (by rw [hst]), by rw [hlenL]; exact hatL _ _ _, by rw [List.length_map, List.length_map, d4l]; have : j < 5 := hj; omega, ?_⟩, fun h => by cases h⟩
      rw [hlenL, hsetL]
      show _ = S.set n (wellO (drawW (drawsN 4 w' j).1 4)) ++ rO :: (L ++ [.lst ((((drawsN 4 w' j).2 ++ [drawV (drawsN 4 w' j).1 4]).map PyData.int).map .d)])
      rw [List.map_append, List.map_append] <;> rfl) ?_)
    obtain ⟨wA, nsA, hA1, hA2, hA3, hA4⟩ : ∃ (wA : Well) (nsA : List Int), wA = (drawsN 4 w' 5).1 ∧ nsA = (drawsN 4 w' 5).2 ∧ nsA.length = 5 ∧ ∀ x ∈ nsA, 0 ≤ x ∧ x ≤ 10 ^ 40 := ⟨_, _, rfl, rfl, d4l 5, fun x hx => by
      have := draws_in (m := 4) (by decide) w' 5 x hx
      omega⟩
    rw [← hA1, ← hA2]
    have e1 := draw_lo (w := drawW wA 4) (m := 2) (by decide)
    have e2 := draw_hi (w := drawW wA 4) (m := 2) (by decide)
    have f1 := draw_lo (w := drawW (drawW wA 4) 2) (m := 5) (by decide)
    have f2 := draw_hi (w := drawW (drawW wA 4) 2) (m := 5) (by decide)
    refine ss_mid (J := fun G1 S1 => ∃ (ns : List Int) (w4 : Well), G1 = [some (.o n), some (.o S.length), some (.d (.int (0 + (i : Int)))), some (.o (S.length + 1 + L.length)), none, none, none, none, none] ∧ S1 = S.set n (wellO w4) ++ rO :: (L ++ [.lst ((ns.map PyData.int).map .d)]) ∧ ns.length = 5 ∧ ∀ x ∈ ns, 0 ≤ x ∧ x ≤ 10 ^ 40) ?_ ?_
    · refine ws_if (evt_eqI (ev_call c (ok__law_draw T) (eva_cons (ev_name 0) (eva_cons ev_int eva_nil)) (fun QR QE q => dr (hw3 _ _) (by decide) (by decide) q)) ev_int) (fun h => ?_) (fun h => ss_nil ⟨nsA, _, rfl, by rw [hst], hA3, hA4⟩)
      rw [hst]
      refine ss_cons (ws_setIx (i := S.length + 1 + L.length) (l := (drawV (drawW (drawW wA 4) 2) 5).toNat) (rs := (nsA.map PyData.int).map .d) (ev_sub (ev_pow ev_int ev_int ⟨by decide, by decide, by decide⟩) (ev_call c (ok__law_draw T) (eva_cons (ev_name 0) (eva_cons ev_int eva_nil)) (fun QR QE q => dr (hw3 _ _) (by decide) (by decide) q))) (ev_name 3) (ev_call c (ok__law_draw T) (eva_cons (ev_name 0) (eva_cons ev_int eva_nil)) (fun QR QE q => dr (by rw [hst]; exact hw3 _ _) (by decide) (by decide) q)) (by rw [hst, hst]; exact hatL _ _ _) (by
        rw [List.length_map, List.length_map, hA3]
        exact ixN_of (by omega) (by omega)) (ss_nil ⟨nsA.set (drawV (drawW (drawW wA 4) 2) 5).toNat (10 ^ (40 : Int).toNat - drawV (drawW wA 4) 2), _, rfl, by rw [hst, hst, hsetL, List.map_set, List.map_set], by rw [List.length_set]; exact hA3, fun x hx => ?_⟩))
      rcases List.mem_or_eq_of_mem_set hx with hx | rfl
      · exact hA4 x hx
      · have e : (10 : Int) ^ (40 : Int).toNat = 10 ^ 40 := by rfl
        rw [e]
        omega
    rintro _ _ ⟨ns, w4, rfl, rfl, hn5, hns⟩
    have hlsN : lsOf (S.set n (wellO w4) ++ rO :: (L ++ [Own.lst ((ns.map PyData.int).map .d)])) (.o (S.length + 1 + L.length)) = some (ns.map .int) := ls_own (hatL _ _ _)
    have hrow := rowOk_keep hns hn5
    have hjl := join_short (ws := ns.map numS) fun w hw => by
      obtain ⟨m, hm, rfl⟩ := List.mem_map.mp hw
      exact numS_len41 (hns m hm).1 (hns m hm).2
    rw [List.length_map, hn5] at hjl
    have hz2 : (Str.ofString "keep ").length + (Txt.join (Str.ofString " ") (ns.map numS)).length ≤ 1000000 := by
      have e : (Str.ofString "keep ").length = 5 := by decide
      omega
    subst hrO
    refine ss_cons (ws_expr (ev_append (i := S.length) (xs := (R.map PyData.str).map .d) (r := .d (.str (Str.ofString "keep " ++ Txt.join (Str.ofString " ") (ns.map numS)))) (ev_name 1) (hat _ _ _) (ev_addS ev_str (ev_join (ys := ns.map numS) ev_str (Ev.is (ev_lc c (blkOk_by (by rfl)) (lc_pure (own := [("_law_number", 5)]) c (evi_ls (ev_name 3) hlsN) (tg_name 5 c.nd) (fun _ => true) numStrG (fun L => ls_app hlsN L) (fun r hr => ?_) (by rw [List.length_map, List.length_map, hn5]; decide))) (by rw [nums_out])) ?_) hz2) (hat _ _ _) (by rw [List.length_map, List.length_map]; omega)) (ss_nil ?_))
    · obtain ⟨d, hd, rfl⟩ := List.mem_map.mp hr
      obtain ⟨m, hm, rfl⟩ := List.mem_map.mp hd
      exact ⟨_, rfl, fun L s H C cl fp => rfl, fun _ L s H C cl fp => (ev_strI (z_str T) (ev_name 5) (big_log (hns m hm).1 (hns m hm).2))⟩
    · have hsum : ((ns.map numS).map (·.length)).sum ≤ (ns.map numS).length * 41 := sum_le fun y hy => by
        obtain ⟨m, hm, rfl⟩ := List.mem_map.mp hy
        exact numS_len41 (hns m hm).1 (hns m hm).2
      have e : (Str.ofString " ").length = 1 := by decide
      rw [List.length_map, hn5] at hsum ⊢
      rw [e]
      omega
    · refine ⟨R ++ [Str.ofString "keep " ++ Txt.join (Str.ofString " ") (ns.map numS)], _, _, w4, L ++ [.lst ((ns.map PyData.int).map .d)], rfl, ?_, by rw [List.length_append, hlen]; show 3 + i + 1 = 3 + (i + 1); omega, fun x hx => ?_⟩
      · rw [hsa, List.map_append, List.map_append] <;> rfl
      · rcases List.mem_append.mp hx with hx | hx
        · exact hR x hx
        · rw [List.mem_singleton.mp hx]; exact hrow
  · rintro G' S' ⟨R, g2, g3, w', L, rfl, rfl, hlen, hR⟩
    rw [rngI_len] at hlen
    have hR18 : R.length ≤ 17 := by omega
    obtain ⟨rO, hrO⟩ : ∃ rO : Own, rO = .lst ((R.map PyData.str).map .d) := ⟨_, rfl⟩
    have hm : (0 : Int) < R.length := by omega
    have g1 := draw_lo (w := w') (m := (R.length : Int)) hm
    have g2' := draw_hi (w := w') (m := (R.length : Int)) hm
    refine ss_cons (ws_set 6 c.nd (r := .d (.int (drawV w' R.length))) (ev_call c (ok__law_draw T) (eva_cons (ev_name 0) (eva_cons (Ev.is (r' := .d (.int (R.length : Int))) (ev_lenA (z_len T) (ev_name 1) (ls_own (hat _ _ _))) (by rw [List.length_map])) eva_nil)) (fun QR QE q => dr (hw3 _ _) hm (by omega) q)) ?_)
    rw [hst]
    obtain ⟨k, hk⟩ : ∃ k : Nat, drawV w' R.length = (k : Int) := ⟨(drawV w' R.length).toNat, (Int.toNat_of_nonneg g1).symm⟩
    rw [hk] at g2' ⊢
    have hkl : k < R.length := by omega
    obtain ⟨wB, hwB⟩ : ∃ wB, wB = drawW w' R.length := ⟨_, rfl⟩
    rw [← hwB]
    refine ss_cons (ws_set 7 c.nd (ev_call c (ok__law_draw T) (eva_cons (ev_name 0) (eva_cons ev_int eva_nil)) (fun QR QE q => dr (hw3 _ _) (by decide) (by decide) q)) ?_)
    rw [hst]
    obtain ⟨way, hway⟩ : ∃ way, way = drawV wB 8 := ⟨_, rfl⟩
    obtain ⟨w4, hw4⟩ : ∃ w4, w4 = drawW wB 8 := ⟨_, rfl⟩
    rw [← hway, ← hw4]
    clear hway hw4
    have hlsR : lsOf (S.set n (wellO w4) ++ Own.lst ((R.map PyData.str).map .d) :: L) (.o S.length) = some (R.map .str) := ls_own (hat _ _ _)
    have l1000 : (R.map PyData.str).length ≤ 17 := by rw [List.length_map]; exact hR18
    let Dn : Gam → Sto → Prop := fun G1 S1 => ∃ (R2 : List Str) (L4 : Sto) (r1 : Cu.It) (g8 : Option Cu.It), G1 = [some (.o n), some r1, g2, g3, none, none, some (.d (.int (k : Int))), some (.d (.int way)), g8] ∧ S1 = S.set n (wellO w4) ++ L4 ∧ lsOf S1 r1 = some (R2.map .str) ∧ (∀ x ∈ R2, rowOk x) ∧ R2.length ≤ 18
    let Ex : Gam → Sto → Prop := fun G1 S1 => G1 = [some (.o n), some (.o S.length), g2, g3, none, none, some (.d (.int (k : Int))), some (.d (.int way)), none] ∧ S1 = S.set n (wellO w4) ++ .lst ((R.map PyData.str).map .d) :: L
    have exdn : ∀ {G1 S1}, Ex G1 S1 → Dn G1 S1 := fun {G1 S1} h => ⟨R, _, _, _, h.1, h.2, by rw [h.2]; exact hlsR, hR, by omega⟩
    have hcutT : Cu.cutD (R.map PyData.str) none (some (k : Int)) = (R.take k).map .str := by rw [cutD_to, List.map_take]
    have hcutF : ∀ m : Nat, Cu.cutD (R.map PyData.str) (some (m : Int)) none = (R.drop m).map .str := fun m => by rw [cutD_from, List.map_drop]
    have e1k : (k : Int) + 1 = ((k + 1 : Nat) : Int) := by omega
    refine ss_mid (J := fun G1 S1 => (way ≠ 2 ∧ way ≠ 3 ∧ Dn G1 S1) ∨ ((way = 2 ∨ way = 3) ∧ Ex G1 S1)) ?_ ?_
    · refine ws_if (k1 := decide (way = 1)) (evt_eqI (ev_name 7) ev_int) (fun h => ?_) (fun h => ss_nil ?_)
      · have h := of_decide_eq_true h
        refine ss_cons (ws_set 1 c.nd (r := .d (.list ((R.take k ++ R.drop (k + 1)).map .str))) (Ev.is (ev_cat (ev_slA (il := none) (ih := some (k : Int)) (ev_name 1) hlsR trivial (ev_name 6)) (ev_slA (il := some ((k : Int) + 1)) (ih := none) (ev_name 1) hlsR (ev_add (ev_name 6) ev_int) trivial) ?_) ?_) (ss_nil (.inl ⟨by omega, by omega, R.take k ++ R.drop (k + 1), _, _, _, rfl, rfl, rfl, fun x hx => ?_, ?_⟩)))
        · rw [hcutT, e1k, hcutF, List.length_map, List.length_map, List.length_take, List.length_drop]; omega
        · rw [hcutT, e1k, hcutF, List.map_append]
        · rcases List.mem_append.mp hx with hx | hx
          · exact hR x (List.mem_of_mem_take hx)
          · exact hR x (List.mem_of_mem_drop hx)
        · rw [List.length_append, List.length_take, List.length_drop]; omega
      · have h := of_decide_eq_false h
        by_cases h2 : way = 2 ∨ way = 3
        · exact .inr ⟨h2, rfl, rfl⟩
        · exact .inl ⟨fun z => h2 (.inl z), fun z => h2 (.inr z), exdn ⟨rfl, rfl⟩⟩
    intro G1 S1 hJ1
    refine ss_mid (J := fun G1 S1 => (way ≠ 3 ∧ Dn G1 S1) ∨ (way = 3 ∧ Ex G1 S1)) ?_ ?_
    · rcases hJ1 with ⟨h2, h3, R2, L4, r1, g8, rfl, rfl, hls, hok2, hl2⟩ | ⟨h23, rfl, rfl⟩
      · exact ws_if (k1 := false) (EvT.is (evt_eqI (ev_name 7) ev_int) (decide_eq_false h2)) (fun z => nomatch z) (fun _ => ss_nil (.inl ⟨h3, R2, L4, r1, g8, rfl, rfl, hls, hok2, hl2⟩))
      · refine ws_if (k1 := decide (way = 2)) (evt_eqI (ev_name 7) ev_int) (fun h => ?_) (fun h => ss_nil ?_)
        · have h := of_decide_eq_true h
          have hmid : Cu.cutD (R.map PyData.str) (some (k : Int)) (some ((k : Int) + 1)) = ((R.drop k).take 1).map .str := by
            rw [e1k, cutD_both _ _ _ (by rw [List.length_map]; omega), show k + 1 - k = 1 by omega, List.map_take, List.map_drop]
          refine ss_cons (ws_set 1 c.nd (r := .d (.list ((R.take k ++ (R.drop k).take 1 ++ R.drop k).map .str))) (Ev.is (ev_cat (ev_cat (ev_slA (il := none) (ih := some (k : Int)) (ev_name 1) hlsR trivial (ev_name 6)) (ev_slA (il := some (k : Int)) (ih := some ((k : Int) + 1)) (ev_name 1) hlsR (ev_name 6) (ev_add (ev_name 6) ev_int)) ?_) (ev_slA (il := some (k : Int)) (ih := none) (ev_name 1) hlsR (ev_name 6) trivial) ?_) ?_) (ss_nil (.inl ⟨by omega, R.take k ++ (R.drop k).take 1 ++ R.drop k, _, _, _, rfl, rfl, rfl, fun x hx => ?_, ?_⟩)))
          · rw [hcutT, hmid, List.length_map, List.length_map, List.length_take, List.length_take]; omega
          · rw [hcutT, hmid, hcutF, List.length_append, List.length_map, List.length_map, List.length_map, List.length_take, List.length_take, List.length_drop]; omega
          · rw [hcutT, hmid, hcutF, List.map_append, List.map_append]
          · rcases List.mem_append.mp hx with hx | hx
            · rcases List.mem_append.mp hx with hx | hx
              · exact hR x (List.mem_of_mem_take hx)
              · exact hR x (List.mem_of_mem_drop (List.mem_of_mem_take hx))
            · exact hR x (List.mem_of_mem_drop hx)
          · rw [List.length_append, List.length_append, List.length_take, List.length_take, List.length_drop]; omega
        · have h := of_decide_eq_false h
          exact .inr ⟨h23.resolve_left h, rfl, rfl⟩
    clear hJ1
    intro G1 S1 hJ2
    refine ss_mid (J := Dn) ?_ ?_
    · rcases hJ2 with ⟨h3, R2, L4, r1, g8, rfl, rfl, hls, hok2, hl2⟩ | ⟨h3, rfl, rfl⟩
      · exact ws_if (k1 := false) (EvT.is (evt_eqI (ev_name 7) ev_int) (decide_eq_false h3)) (fun z => nomatch z) (fun _ => ss_nil ⟨R2, L4, r1, g8, rfl, rfl, hls, hok2, hl2⟩)
      · obtain ⟨y, hy⟩ : ∃ y, R[k]? = some y := ⟨R[k], List.getElem?_eq_getElem hkl⟩
        refine ws_if (k1 := true) (EvT.is (evt_eqI (ev_name 7) ev_int) (decide_eq_true h3)) (fun _ => ?_) (fun z => nomatch z)
        refine ss_cons (ws_set 8 c.nd (ev_popI (k := k) (y := .d (.str y)) (ev_name 1) (hat _ _ _) (ev_name 6) (hat _ _ _) rfl (by omega) (by rw [List.getElem?_map, List.getElem?_map, hy] <;> rfl)) ?_)
        rw [hsa]
        have her : ((R.map PyData.str).map Cu.It.d).eraseIdx k = ((R.eraseIdx k).map PyData.str).map .d := by rw [erase_map, erase_map]
        rw [her]
        refine ss_cons (ws_expr (ev_insert (i := S.length) (k := k + 1) (ev_name 1) (hat _ _ _) (ev_add (ev_name 6) ev_int) (ev_name 8) (hat _ _ _) e1k (by omega) (by rw [List.length_map, List.length_map, List.length_eraseIdx_of_lt hkl]; omega)) (ss_nil ?_))
        rw [hsa]
        refine ⟨(R.eraseIdx k).take (k + 1) ++ [y] ++ (R.eraseIdx k).drop (k + 1), Own.lst ((((R.eraseIdx k).take (k + 1) ++ [y] ++ (R.eraseIdx k).drop (k + 1)).map PyData.str).map .d) :: L, _, _, rfl, ?_, ?_, fun x hx => ?_, ?_⟩
        · simp only [List.map_append, List.map_take, List.map_drop] <;> rfl
        · have : (S.set n (wellO w4) ++ Own.lst (((R.eraseIdx k).map PyData.str |>.map Cu.It.d).take (k + 1) ++ [.d (.str y)] ++ ((R.eraseIdx k).map PyData.str |>.map Cu.It.d).drop (k + 1)) :: L) = S.set n (wellO w4) ++ Own.lst ((((R.eraseIdx k).take (k + 1) ++ [y] ++ (R.eraseIdx k).drop (k + 1)).map PyData.str).map .d) :: L := by
            simp only [List.map_append, List.map_take, List.map_drop] <;> rfl
          rw [this]
          exact ls_own (hat _ _ _)
        · have mem : ∀ z ∈ R.eraseIdx k, rowOk z := fun z hz => hR z (List.mem_of_mem_eraseIdx hz)
          rcases List.mem_append.mp hx with hx | hx
          · rcases List.mem_append.mp hx with hx | hx
            · exact mem x (List.mem_of_mem_take hx)
            · rw [List.mem_singleton.mp hx]
              exact hR y (List.mem_of_getElem? hy)
          · exact mem x (List.mem_of_mem_drop hx)
        · rw [List.length_append, List.length_append, List.length_take, List.length_drop, List.length_eraseIdx_of_lt hkl]
          show _ + 1 + _ ≤ 18
          omega
    rintro _ _ ⟨R2, L4, r1, g8, rfl, rfl, hls, hok2, hl2⟩
    obtain ⟨tl1, tl2⟩ := textOf_len hok2
    refine ss_cons (ws_ret (r := .d (.str (textOf R2))) (Ev.is (ev_join (ys := R2.map fun r => r ++ nl1) ev_str (Ev.is (ev_lc c (blkOk_by (by rfl)) (lc_pure (own := [("_law_row_here", 8)]) c (evi_ls (ev_name 1) hls) (tg_name 8 c.nd) (fun _ => true) nlG (fun L => ls_app hls L) (fun r hr => ?_) (by rw [List.length_map, List.length_map]; omega))) (by rw [nl_out])) ?_) rfl) (back_drop (S1 := S.set n (wellO w4)) _ (cls_set hc well_cl) (q _ _ tl2 (by omega)) rfl (by rw [hsl]; exact Nat.le_refl _)))
    · obtain ⟨d, hd, rfl⟩ := List.mem_map.mp hr
      obtain ⟨v, hv, rfl⟩ := List.mem_map.mp hd
      exact ⟨_, rfl, fun L s H C cl fp => rfl, fun _ L s H C cl fp => (ev_addS (ev_name 8) ev_str (nl_fits (hok2 v hv)))⟩
    · have hs2 : ((R2.map fun r => r ++ nl1).map (·.length)).sum ≤ (R2.map fun r => r ++ nl1).length * 221 := sum_le fun y hy => by
        obtain ⟨v, hv, rfl⟩ := List.mem_map.mp hy
        have := (hok2 v hv).2
        rw [len_app]
        have e : nl1.length = 1 := by decide
        omega
      have e : (Str.ofString "").length = 0 := by decide
      rw [e]
      rw [List.length_map] at hs2
      omega
theorem ok__law_text (T : TT K mg) : OkF P w K mg base 4 "_law_text" ["_law_well_here"] [] F_text4 := okF_of (g__law_text T) (d__law_text T) (fun _ _ _ _ _ _ us hl => match us, hl with | [_], _ => rfl) fun fd Fd => fn__law_text T Fd
end
end Pf
/-! CyH: zip of three lists of data. -/
namespace Cu
open PySem PySem.Spec PyProof.Rows L2
def Itz3 (K : PySem.W.Frag) (a b c : Addr) (n : Nat) : L2.It :=
  ⟨fun i H => i < n ∧ ∃ xs ys zs : List V, SqL K H a xs ∧ SqL K H b ys ∧ SqL K H c zs ∧ min (min xs.length ys.length) zs.length = n,
    fun i H v H' => ∃ T x y u, v = .ref T ∧ H T = none ∧ H' = upd H T (.tup [x, y, u]) ∧ (∀ xs, SqL K H a xs → xs[i]? = some x) ∧ (∀ ys, SqL K H b ys → ys[i]? = some y) ∧ ∀ zs, SqL K H c zs → zs[i]? = some u,
    fun i H => n ≤ i ∧ ∃ xs ys zs : List V, SqL K H a xs ∧ SqL K H b ys ∧ SqL K H c zs ∧ min (min xs.length ys.length) zs.length = n⟩
theorem turn_zip3 {P : Program} {w : World} {K : PySem.W.Frag} {elts : List Expr} {kk : Nat} {tpos : Pos} {a b c z TI TO i1 i2 i3 : Addr} {n : Nat} (D : ZipSep3 z TI TO i1 i2 i3 [i1, a] [i2, b] [i3, c]) (na : a ≠ i1) (nb : b ≠ i2) (nc : c ≠ i3) :
    Turn P w K (.Tuple elts kk tpos) (Itz3 K a b c n) [z, TI, TO, i1, i2, i3] z (fun i h => i ≤ n ∧ IsZip h z TI TO .none ∧ IsTupOf3 h TI (.ref i1) (.ref i2) (.ref i3) ∧ (∃ x y u, IsTupOf3 h TO x y u) ∧ h.IsListIter i1 a i ∧ h.IsListIter i2 b i ∧ h.IsListIter i3 c i) where
  mem := List.mem_cons_self
  obj := fun i h st e he => by
    obtain ⟨_, hz, hTI, ⟨x, y, u, hTO⟩, ⟨o1, e1, _, d1⟩, ⟨o2, e2, _, d2⟩, ⟨o3, e3, _, d3⟩⟩ := st
    simp only [List.mem_cons, List.not_mem_nil, or_false] at he
    rcases he with q | q | q | q | q | q
    · rw [q]; exact ⟨_, hz, fun v q => nomatch q⟩
    · rw [q]; exact ⟨_, hTI, fun v q => nomatch q⟩
    · rw [q]; exact ⟨_, hTO, fun v q => nomatch q⟩
    · rw [q]; exact ⟨o1, e1, fun v q => by rw [d1] at q; cases q⟩
    · rw [q]; exact ⟨o2, e2, fun v q => by rw [d2] at q; cases q⟩
    · rw [q]; exact ⟨o3, e3, fun v q => by rw [d3] at q; cases q⟩
  keep := fun i h h' st k => by
    obtain ⟨hn, hz, hTI, ⟨x, y, u, hTO⟩, h1, h2, h3⟩ := st
    exact ⟨hn, k z (by simp) _ hz, k TI (by simp) _ hTI, ⟨x, y, u, k TO (by simp) _ hTO⟩, h1.at fun o q => k i1 (by simp) o q, h2.at fun o q => k i2 (by simp) o q, h3.at fun o q => k i3 (by simp) o q⟩
  item := by
    rintro X rfl rfl rfl hc i pins s σ H E I hf ⟨_, hz, hTI, hTO, h1, h2, h3⟩ ⟨hlt, xs, ys, zs, qx, qy, qz, hmin⟩
    obtain ⟨its1, rv1, p1, _⟩ := I.list qx
    obtain ⟨its2, rv2, p2, _⟩ := I.list qy
    obtain ⟨its3, rv3, p3, _⟩ := I.list qz
    have l1 := rv1.length; have l2 := rv2.length; have l3 := rv3.length
    have hh : X.A.in1.handled = none := I.ok.hd hc
    have W := WalksT.zipD3 (prog := X.prog) (w := X.w) (A := X.A) D (Draws.list hh i1 a na its1.toArray) (Draws.list hh i2 b nb its2.toArray) (Draws.list hh i3 c nc its3.toArray)
    refine W.item i s _ _ (by simp only [List.size_toArray]; omega) ⟨hz, hTI, hTO, ⟨h1, p1.isList⟩, ⟨h2, p2.isList⟩, h3, p3.isList⟩ fun T vals h' tk hP hT hTup hMid hk => ?_
    refine ⟨_, rfl, W.go elts kk tpos i T { s with heap := h', toks := tk } _ _ hMid fun h'' st2 hk2 => ?_⟩
    obtain ⟨u1, u2, u3, hu1, hu2, hu3, rfl⟩ := hP
    obtain ⟨z2, TI2, TO2, ⟨b1, _⟩, ⟨b2, _⟩, b3, _⟩ := st2
    have sub : ∀ e, e ∉ [z, TI, TO, i1, i2, i3] → e ∉ [z, TO, i1, i2, i3] := fun e h q => h (by
      simp only [List.mem_cons, List.not_mem_nil, or_false] at q ⊢
      rcases q with q | q | q | q | q <;> simp [q])
    obtain ⟨x1, hx1, r1⟩ : ∃ x, xs[i]? = some x ∧ RelV x u1 := by
      have hi : i < xs.length := by omega
      obtain ⟨u, hu, ru⟩ := rv1.get (List.getElem?_eq_getElem hi)
      have : its1.toArray[i]? = some u := by simpa using hu
      rw [this] at hu1
      cases hu1
      exact ⟨_, List.getElem?_eq_getElem hi, ru⟩
    obtain ⟨x2, hx2, r2⟩ : ∃ x, ys[i]? = some x ∧ RelV x u2 := by
      have hi : i < ys.length := by omega
      obtain ⟨u, hu, ru⟩ := rv2.get (List.getElem?_eq_getElem hi)
      have : its2.toArray[i]? = some u := by simpa using hu
      rw [this] at hu2
      cases hu2
      exact ⟨_, List.getElem?_eq_getElem hi, ru⟩
    obtain ⟨x3, hx3, r3⟩ : ∃ x, zs[i]? = some x ∧ RelV x u3 := by
      have hi : i < zs.length := by omega
      obtain ⟨u, hu, ru⟩ := rv3.get (List.getElem?_eq_getElem hi)
      have : its3.toArray[i]? = some u := by simpa using hu
      rw [this] at hu3
      cases hu3
      exact ⟨_, List.getElem?_eq_getElem hi, ru⟩
    obtain ⟨oT, eT, cT, nT, dT⟩ := hTup
    have eT2 := hk2 T oT (W.apart i T h' hMid) eT
    have new : ObjOk X.prog X.w (upd H T (.tup [x1, x2, x3])) h'' T (.tup [x1, x2, x3]) := ⟨by show 3 ≤ sizeLine; decide, [u1, u2, u3], .cons r1 (.cons r2 (.cons r3 .nil)), ⟨oT, eT2, cT, nT, dT⟩⟩
    have I1 : Inv X pins σ (upd H T (.tup [x1, x2, x3])) { s with heap := h'', toks := tk } :=
      I.turnedNew (ch := [z, TI, TO, i1, i2, i3]) (fun e o he q => hk2 e o (sub e he) (hk e o (sub e he) q)) hf hT new
    have old : ∀ e ∈ [z, TI, TO, i1, i2, i3], e < s.heap.objs.size := fun e he => by
      simp only [List.mem_cons, List.not_mem_nil, or_false] at he
      obtain ⟨_, _, _, hTO⟩ := hTO
      rcases he with q | q | q | q | q | q
      · rw [q]; exact Heap.lt_size hz
      · rw [q]; exact Heap.lt_size hTI
      · rw [q]; exact Heap.lt_size hTO
      · rw [q]; obtain ⟨_, e1, _⟩ := h1; exact Heap.lt_size e1
      · rw [q]; obtain ⟨_, e2, _⟩ := h2; exact Heap.lt_size e2
      · rw [q]; obtain ⟨_, e3, _⟩ := h3; exact Heap.lt_size e3
    refine ⟨.ref T, _, I1, rfl, ⟨T, x1, x2, x3, rfl, I.hok.fresh hT, rfl, fun l hl => by rw [I.list_inj hl qx]; exact hx1, fun l hl => by rw [I.list_inj hl qy]; exact hx2, fun l hl => by rw [I.list_inj hl qz]; exact hx3⟩, ⟨by omega, z2, TI2, TO2, b1, b2, b3⟩, fun e he => ?_⟩
    rw [upd_ne (Nat.ne_of_lt (Nat.lt_of_lt_of_le (old e he) hT))]
    exact (hf e he).1
  done := by
    rintro X rfl rfl rfl hc i pins s σ H E I hf ⟨hin, hz, hTI, hTO, h1, h2, h3⟩ ⟨hge, xs, ys, zs, qx, qy, qz, hmin⟩
    obtain ⟨its1, rv1, p1, _⟩ := I.list qx
    obtain ⟨its2, rv2, p2, _⟩ := I.list qy
    obtain ⟨its3, rv3, p3, _⟩ := I.list qz
    have l1 := rv1.length; have l2 := rv2.length; have l3 := rv3.length
    have hh : X.A.in1.handled = none := I.ok.hd hc
    have W := WalksT.zipD3 (prog := X.prog) (w := X.w) (A := X.A) D (Draws.list hh i1 a na its1.toArray) (Draws.list hh i2 b nb its2.toArray) (Draws.list hh i3 c nc its3.toArray)
    have ei : i = min (min its1.toArray.size its2.toArray.size) its3.toArray.size := by simp only [List.size_toArray]; omega
    rw [ei] at h1 h2 h3
    refine W.done s _ _ ⟨hz, hTI, hTO, ⟨h1, p1.isList⟩, ⟨h2, p2.isList⟩, h3, p3.isList⟩ fun h' tk hk => ⟨rfl, I.turnedL (ch := [z, TI, TO, i1, i2, i3]) (fun e o he q => hk e o (fun z => he (by
      simp only [List.mem_cons, List.not_mem_nil, or_false] at z ⊢
      rcases z with z | z | z | z | z <;> simp [z])) q) hf⟩
  self := fun A i s Q E st h => wpAny_pyIter_zip st.2.1 h
def iZip3 (K : PySem.W.Frag) (ta : TA) : TI := fun σ H R => ta σ H fun vs H1 => ∃ a b c xs ys zs, vs = [.ref a, .ref b, .ref c] ∧ SqL K H1 a xs ∧ SqL K H1 b ys ∧ SqL K H1 c zs ∧ R (Itz3 K a b c (min (min xs.length ys.length) zs.length)) H1
theorem pi_zip3 {X : Cx} {e1 e2 e3 : Expr} {ta : TA} {p pos tpos : Pos} {elts : List Expr} {kk : Nat} (hg : Gl X "zip") (hm : X.mg "zip" = none) (ha : PA X [e1, e2, e3] ta)
    (hs : starEach [e1, e2, e3] X.env = (false, eval e1 X.env) :: starEach [e2, e3] X.env := by rfl) (hpl : (backTo pos (starEach [e2, e3] X.env)).any (·.1) = false := by rfl) : PI X (.Tuple elts kk tpos) (.Call (.Name "zip" p) [e1, e2, e3] [] pos) (iZip3 X.K ta) := by
  refine ⟨fun pins s σ H R I h => Call_ (ld_blt I hg hm PyProof.Rows.boot_zip (PyProof.Rows.callWith_type1 (thn (ha.run pos pins s σ H _ I h) fun us s1 ⟨vs, H1, I1, r1, a, b, c, xs, ys, zs, ex, qx, qy, qz, q⟩ => ?_) hs hpl))⟩
  subst ex
  obtain rfl : us = [.ref a, .ref b, .ref c] := by
    cases r1 with
    | cons r rr =>
      cases rr with
      | cons r' rr =>
        cases rr with
        | cons r'' rr =>
          cases rr
          cases r
          cases r'
          cases r''
          rfl
  obtain ⟨its1, rv1, p1, _⟩ := I1.list qx
  obtain ⟨its2, rv2, p2, _⟩ := I1.list qy
  obtain ⟨its3, rv3, p3, _⟩ := I1.list qz
  have la := p1.lt; have lb := p2.lt; have lc := p3.lt
  refine zip_begins3 (begins_list a its1.toArray) (begins_list b its2.toArray) (begins_list c its3.toArray) p1.isList p2.isList p3.isList fun h' hz hTI hTO g1 g2 g3 hsz hk => wpAny_pyIter_zip hz ?_
  have I2 : Inv X pins σ H1 { s1 with heap := h' } := I1.kept (t' := s1.toks) hk
  have one : ∀ {l m : Addr}, l < m → ∀ e ∈ [l], e < m := fun h e he => by rw [List.mem_singleton.mp he]; exact h
  refine ⟨s1.heap.objs.size + 5, [s1.heap.objs.size + 5, s1.heap.objs.size + 3, s1.heap.objs.size + 4, s1.heap.objs.size, s1.heap.objs.size + 1, s1.heap.objs.size + 2], _, _, H1, rfl, I2, turn_zip3 (zip_sep3 (one la) (one lb) (one lc)) (Nat.ne_of_lt la) (Nat.ne_of_lt (Nat.lt_of_lt_of_le lb (Nat.le_add_right _ _))) (Nat.ne_of_lt (Nat.lt_of_lt_of_le lc (Nat.le_add_right _ _))), ⟨Nat.zero_le _, hz, hTI, ⟨_, _, _, hTO⟩, ⟨_, g1, rfl, rfl⟩, ⟨_, g2, rfl, rfl⟩, ⟨_, g3, rfl, rfl⟩⟩, fun e he => ?_, q⟩
  have hle : s1.heap.objs.size ≤ e := by
    simp only [List.mem_cons, List.not_mem_nil, or_false] at he
    rcases he with z | z | z | z | z | z <;> rw [z] <;> first | exact Nat.le_add_right _ _ | exact Nat.le_refl _
  exact I1.fpOk hle (I1.hok.fresh hle)
section
variable {X : Cx} {G : Gam} {S S1 S2 S3 : Sto} {ds ds' ds'' : List PyData} {p pos' tpos : Pos}
theorem wk_zip3 {K : PySem.W.Frag} {M1 : List Addr} {H1 : Hp} {ad bd cd : Addr} {xs ys zs : List V} (hL : NdL M1 H1 ad xs) (hA : FzAll M1 H1 xs ds) (hL' : NdL M1 H1 bd ys) (hA' : FzAll M1 H1 ys ds') (hL2 : NdL M1 H1 cd zs) (hA2 : FzAll M1 H1 zs ds'') :
    Wk K (Itz3 K ad bd cd (min (min xs.length ys.length) zs.length)) anyS M1 H1 ((ds.zip (ds'.zip ds'')).map fun x => It.d (.tuple [x.1, x.2.1, x.2.2])) where
  go := fun i M' H' S' hi e s _ => by
    have l1 := fz_len hA; have l2 := fz_len hA'; have l3 := fz_len hA2
    have hi' : i < min ds.length (min ds'.length ds''.length) := by simpa using hi
    exact ⟨by omega, xs, ys, zs, (hL.ext e).sq, (hL'.ext e).sq, (hL2.ext e).sq, rfl⟩
  yl := fun i M' H' S' x H2 r hr e s _ y => by
    obtain ⟨T, u, u', u'', rfl, hT, rfl, y, y', y''⟩ := y
    obtain ⟨d, h1, h2⟩ := fz_at hA (y xs (hL.ext e).sq)
    obtain ⟨d', h1', h2'⟩ := fz_at hA' (y' ys (hL'.ext e).sq)
    obtain ⟨d'', h1'', h2''⟩ := fz_at hA2 (y'' zs (hL2.ext e).sq)
    have ez : (ds.zip (ds'.zip ds''))[i]? = some (d, d', d'') := by
      rw [List.getElem?_zip_eq_some]
      exact ⟨h1, by rw [List.getElem?_zip_eq_some]; exact ⟨h1', h1''⟩⟩
    rw [List.getElem?_map, ez] at hr
    cases hr
    have e2 : Ext M' H' M' (upd H' T (.tup [u, u', u''])) := Ext.fresh hT
    exact ⟨e2, s.fresh hT, Fz.tup ⟨upd_same, s.nin hT⟩ (.cons (Fz.ext e2 (Fz.ext e h2)) (.cons (Fz.ext e2 (Fz.ext e h2')) (.cons (Fz.ext e2 (Fz.ext e h2'')) .nil)))⟩
  st := fun i M' H' S' hi e s _ => by
    have l1 := fz_len hA; have l2 := fz_len hA'; have l3 := fz_len hA2
    have hi' : min ds.length (min ds'.length ds''.length) ≤ i := by simpa using hi
    exact ⟨by omega, xs, ys, zs, (hL.ext e).sq, (hL'.ext e).sq, (hL2.ext e).sq, rfl⟩
theorem evi_zip3 {elts : List Expr} {kk : Nat} {a1 a2 a3 : Expr} (hm : X.mg "zip" = none) (h1 : Ev X a1 G S (.d (.list ds)) S1) (h2 : Ev X a2 G S1 (.d (.list ds')) S2) (h3 : Ev X a3 G S2 (.d (.list ds'')) S3) (hg : Gl X "zip" := by rfl) (hst : starEach [a1, a2, a3] X.env = (false, eval a1 X.env) :: starEach [a2, a3] X.env := by rfl)
    (hst2 : starEach [a2, a3] X.env = (false, eval a2 X.env) :: starEach [a3] X.env := by rfl) (hst3 : starEach [a3] X.env = (false, eval a3 X.env) :: starEach [] X.env := by rfl) (hpl : (backTo pos' (starEach [a2, a3] X.env)).any (·.1) = false := by rfl) :
    EvI X (.Tuple elts kk tpos) (.Call (.Name "zip" p) [a1, a2, a3] [] pos') G S ((ds.zip (ds'.zip ds'')).map fun x => It.d (.tuple [x.1, x.2.1, x.2.2])) anyS S3 :=
  ⟨_, pi_zip3 hg hm pa_s hst hpl, fun M σ H R s q => (eva_cons h1 (eva_cons h2 (eva_cons h3 eva_nil hst3) hst2) hst) M σ H _ s fun vs M1 H1 e1 t1 r1 => by
    obtain ⟨v1, _, rfl, w1, r2⟩ : ∃ v l, vs = v :: l ∧ VRep X.K M1 H1 v (.d (.list ds)) ∧ VReps X.K M1 H1 l [.d (.list ds'), .d (.list ds'')] := by
      cases r1 with
      | cons a b => exact ⟨_, _, rfl, a, b⟩
    obtain ⟨v2, v3, rfl, w2, w3⟩ := vr2 r2
    have w1 : Fz M1 H1 v1 (.list ds) := w1
    have w2 : Fz M1 H1 v2 (.list ds') := w2
    have w3 : Fz M1 H1 v3 (.list ds'') := w3
    cases w1 with
    | lst k1 k2 =>
      cases w2 with
      | lst k3 k4 =>
        cases w3 with
        | lst k5 k6 => exact ⟨_, _, _, _, _, _, rfl, k1.sq, k3.sq, k5.sq, q M1 H1 _ e1 t1 (wk_zip3 k1 k2 k3 k4 k5 k6)⟩⟩
end
end Cu
/-! CyI: min, max of a tuple of whole numbers. -/
namespace Cu
open PySem PySem.Spec PyProof.Rows L2
section
variable {prog : Program} {w : World} {A : Around} {E : Value → Shared → Prop} {s : Shared} {l : Addr} {its : List Value} {ns : List Int} {Q : Value → Shared → Prop}
theorem best_tup {big : Bool} (hh : A.handled = none) (hl : s.heap.IsTuple l its.toArray) (hi : IntsAre its ns) (hne : 0 < ns.length)
    (h : ∀ h' tk m t', (∀ b o, s.heap.get? b = some o → h'.get? b = some o) → m ∈ ns → (∀ a, a ∈ ns → if big = true then a ≤ m else m ≤ a) → Q (.int m t') { s with heap := h', toks := tk }) : wpAny (model prog w) A (call (.builtin (if big = true then "max" else "min")) [.ref l]) Q E s := by
  obtain ⟨xs, e⟩ := hi.allInts.items
  have hn : numsOf (intItems xs).toList = ns := by rw [← e]; exact hi.numsOf
  rw [nums_intItems] at hn
  subst hn
  rw [e] at hl
  have hsz : 0 < xs.size := by simpa using hne
  have hlt : l < s.heap.objs.size := by
    obtain ⟨_, e, _⟩ := hl
    exact Heap.lt_size e
  have kept : ∀ {h' : Heap}, (∀ b o, b ∉ [s.heap.objs.size] → (s.heap.push { cls := .type "tuple_iterator", data := .fields #[.ref l, .int 0 0] }).get? b = some o → h'.get? b = some o) → ∀ b o, s.heap.get? b = some o → h'.get? b = some o := fun hk b o e =>
    hk b o (fun hm => Nat.ne_of_lt (Heap.lt_size e) (List.mem_singleton.mp hm)) (Heap.get?_push_of_some _ e)
  have sz : ∀ b ∈ [s.heap.objs.size, l], b < (s.heap.push { cls := .type "tuple_iterator", data := .fields #[.ref l, .int 0 0] }).objs.size := fun b hb => by
    rw [Heap.size_push]
    simp only [List.mem_cons, List.not_mem_nil, or_false] at hb
    rcases hb with e | e
    · rw [e]; exact Nat.lt_succ_self _
    · rw [e]; exact Nat.lt_succ_of_lt hlt
  have st0 : (s.heap.push { cls := .type "tuple_iterator", data := .fields #[.ref l, .int 0 0] }).IsTupleIter s.heap.objs.size l 0 ∧ (s.heap.push { cls := .type "tuple_iterator", data := .fields #[.ref l, .int 0 0] }).IsTuple l (intItems xs) :=
    ⟨⟨_, Heap.get?_push_size _ rfl, rfl, rfl⟩, hl.at fun o e => Heap.get?_push_of_some _ e⟩
  have it0 : ∀ {R : Value → Shared → Prop}, R (.ref s.heap.objs.size) { s with heap := s.heap.push { cls := .type "tuple_iterator", data := .fields #[.ref l, .int 0 0] } } → wpAny (model prog w) A.in1 (pyIter (.ref l)) R E s := fun q => wpAny_pyIter_tuple hl q
  have W := Walks.tuple (prog := prog) (w := w) (A := A.in1) hh s.heap.objs.size l (Nat.ne_of_lt hlt) (intItems xs)
  have hsI : 0 < (intItems xs).size := by simpa [intItems] using hsz
  cases big with
  | true =>
    refine call_max_walk (it0 ⟨_, _, _, _, _, _, _, rfl, W, st0, sz, hsI, CmpOf.ints_gt (numAt xs) (fun _ _ => intItems_at), fun v h' tk hP hk => ?_⟩)
    obtain ⟨t, rfl⟩ := intItems_at (show (intItems xs)[argBest (fun i j => decide (numAt xs i > numAt xs j)) (xs.size - 1)]? = some v by simpa [intItems] using hP)
    obtain ⟨h1, h2⟩ := argBest_gt (numAt xs) (xs.size - 1)
    refine h h' tk _ t (kept hk) ?_ fun a ha => ?_
    · rw [numAt_eq]
      exact PySem.getD_mem (by rw [List.length_map, Array.length_toList]; omega)
    · obtain ⟨j, hj, rfl⟩ := mem_getD ha
      rw [List.length_map, Array.length_toList] at hj
      rw [if_pos rfl, ← numAt_eq]
      exact h2 j (by omega)
  | false =>
    refine call_min_walk (it0 ⟨_, _, _, _, _, _, _, rfl, W, st0, sz, hsI, CmpOf.ints_lt (numAt xs) (fun _ _ => intItems_at), fun v h' tk hP hk => ?_⟩)
    obtain ⟨t, rfl⟩ := intItems_at (show (intItems xs)[argBest (fun i j => decide (numAt xs i < numAt xs j)) (xs.size - 1)]? = some v by simpa [intItems] using hP)
    obtain ⟨h1, h2⟩ := argBest_lt (numAt xs) (xs.size - 1)
    refine h h' tk _ t (kept hk) ?_ fun a ha => ?_
    · rw [numAt_eq]
      exact PySem.getD_mem (by rw [List.length_map, Array.length_toList]; omega)
    · obtain ⟨j, hj, rfl⟩ := mem_getD ha
      rw [List.length_map, Array.length_toList] at hj
      rw [if_neg (by decide), ← numAt_eq]
      exact h2 j (by omega)
end
def rBestT (K : PySem.W.Frag) (big : Bool) : List V → Hp → VK → Prop := fun vs H Q => ∃ (a : Addr) (ns : List Int), vs = [V.ref a] ∧ SqT K H a (ns.map V.int) ∧ 0 < ns.length ∧ ∀ m, m ∈ ns → (∀ y, y ∈ ns → if big = true then y ≤ m else m ≤ y) → Q (.int m) H
theorem cr_bestT {X : Cx} {big : Bool} (hc : X.calm = true) : CallR X (.builtin (if big = true then "max" else "min")) (rBestT X.K big) := by
  rintro pins s σ H vs us Q I r ⟨a, ns, rfl, hs, hne, q⟩
  obtain ⟨its, rv, hl, _⟩ := I.tuple hs
  rw [Vals.ref1 r]
  exact best_tup (big := big) (I.ok.hd hc) hl rv.ints hne fun h' tk m t' hk h1 h2 => ⟨.int _, H, I.kept hk, ⟨_, rfl⟩, q m h1 h2⟩
section
variable {X : Cx} {W : WX} {k : Nat} {G : Gam} {S S1 : Sto} {a : Expr} {p pos : Pos}
theorem ev_minT {ns : List Int} {l : Int} (c : Cxo X W k) (hm : X.mg "min" = none) (ha : Ev X a G S (.d (.tuple (ns.map .int))) S1) (h : l ∈ ns) (hl : ∀ y ∈ ns, l ≤ y) (hg : Gl X "min" := by rfl) (he : starEach [a] X.env = (false, eval a X.env) :: starEach [] X.env := by rfl) : Ev X (.Call (.Name "min" p) [a] [] pos) G S (.d (.int l)) S1 :=
  ev_blt (cr_bestT (big := false) c.calm) hm (by decide +kernel) (eva_cons ha eva_nil he) (fun M H vs Q s hvs q => by
    obtain ⟨v, rfl, hv⟩ := vr1 hvs
    have hv' : Fz M H v (.tuple (ns.map .int)) := hv
    cases hv' with
    | tup h1 h2 =>
      refine ⟨_, ns, rfl, by rw [← fz_ints h2]; exact h1.sq, List.length_pos_of_mem h, fun m' hm1 hm2 => ?_⟩
      have e1 : m' = l := Int.le_antisymm (by simpa using hm2 l h) (hl m' hm1)
      rw [e1]
      exact q _ M H Ext.refl s (Fz.int _)) hg (by decide) (by decide) he rfl
theorem ev_maxT {ns : List Int} {l : Int} (c : Cxo X W k) (hm : X.mg "max" = none) (ha : Ev X a G S (.d (.tuple (ns.map .int))) S1) (h : l ∈ ns) (hl : ∀ y ∈ ns, y ≤ l) (hg : Gl X "max" := by rfl) (he : starEach [a] X.env = (false, eval a X.env) :: starEach [] X.env := by rfl) : Ev X (.Call (.Name "max" p) [a] [] pos) G S (.d (.int l)) S1 :=
  ev_blt (cr_bestT (big := true) c.calm) hm (by decide +kernel) (eva_cons ha eva_nil he) (fun M H vs Q s hvs q => by
    obtain ⟨v, rfl, hv⟩ := vr1 hvs
    have hv' : Fz M H v (.tuple (ns.map .int)) := hv
    cases hv' with
    | tup h1 h2 =>
      refine ⟨_, ns, rfl, by rw [← fz_ints h2]; exact h1.sq, List.length_pos_of_mem h, fun m' hm1 hm2 => ?_⟩
      have e1 : m' = l := Int.le_antisymm (hl m' hm1) (by simpa using hm2 l h)
      rw [e1]
      exact q _ M H Ext.refl s (Fz.int _)) hg (by decide) (by decide) he rfl
end
end Cu
/-! CyJ: xs[:e], e may change what is owned. -/
namespace Cu
open PySem PySem.Spec PyProof.Rows L2
section
variable {X : Cx} {G : Gam} {S S1 S2 : Sto} {a e : Expr} {r : It} {ds : List PyData} {n : Int} {pos p2 : Pos}
theorem ev_slTo (ha : Ev X a G S r S1) (hh : Ev X e G S1 (.d (.int n)) S2) (hr : lsOf S2 r = some ds) : Ev X (.Subscript a (.Slice none (some e) none p2) pos) G S (.d (.list (cutD ds none (some n)))) S2 := fun M σ H Q s q =>
  toE (pe_slice sl_list pe_s po_tEP po_tEP) (ha M σ H _ s fun v M1 H1 e1 t1 r1 => (show EvP X none G S1 none from trivial).run t1 fun M2 H2 e2 t2 => hh M2 σ H2 _ t2 fun u M3 H3 e3 t3 r3 => by
    obtain ⟨ad, xs, rfl, h1, h2⟩ := ls_rd t3.sto ((r1.ext e2).ext e3) hr
    exact ⟨n, vr_int r3, _, _, rfl, .inl h1, fun p hp => q _ M3 _ (((e1.trans e2).trans e3).trans (Ext.fresh hp)) (t3.fresh hp) (Fz.lst ⟨.inl upd_same, t3.sto.nin hp⟩ (FzAll.ext (Ext.fresh hp) (fz_cut h2)))⟩)
end
end Cu
namespace Pf
open PySem PySem.Spec PyProof.Rows L2 He Cu
def F_refused : Fn := fun rs S QR _ => ∃ (a b d : PyData) (r : Cu.It) (kds : List (List PyData)), rs = [.d (.list [a, b, d]), r] ∧ nb a = true ∧ nb b = true ∧ nb d = true ∧ lsOf S r = some (kds.map .tuple) ∧ kds.length ≤ 1000 ∧ (∀ ds ∈ kds, ds.all nb = true ∧ ds.length ≤ 1000) ∧ QR (.d (.bool (!rulesOk a b d kds))) S
def F_good : Fn := fun rs S QR _ => ∃ (a b d : PyData) (r : Cu.It) (kds : List (List PyData)), rs = [.d (.list [a, b, d]), r] ∧ nb a = true ∧ nb b = true ∧ nb d = true ∧ lsOf S r = some (kds.map .tuple) ∧ kds.length ≤ 1000 ∧ (∀ ds ∈ kds, ds.all nb = true ∧ ds.length ≤ 1000) ∧ QR (.d (.bool (rulesOk a b d kds))) S
def isB : Cu.It → Bool
  | .d (.bool _) => true
  | _ => false
theorem nb_cases {x : PyData} (h : nb x = true) : (∃ i, x = .int i) ∨ ∃ b, x = .bool b := by
  cases x with
  | int i => exact .inl ⟨i, rfl⟩
  | bool b => exact .inr ⟨b, rfl⟩
  | _ => cases h
theorem nb_ints_or {ds : List PyData} (h : ds.all nb = true) : (∃ ns : List Int, ds = ns.map .int) ∨ ∃ b, PyData.bool b ∈ ds := by
  induction ds with
  | nil => exact .inl ⟨[], rfl⟩
  | cons x r ih =>
    rw [List.all_cons, Bool.and_eq_true] at h
    rcases nb_cases h.1 with ⟨i, rfl⟩ | ⟨b, rfl⟩
    · rcases ih h.2 with ⟨ns, e⟩ | ⟨b, hb⟩
      · exact .inl ⟨i :: ns, by rw [e] <;> rfl⟩
      · exact .inr ⟨b, List.mem_cons_of_mem _ hb⟩
    · exact .inr ⟨b, List.mem_cons_self⟩
theorem keepOk_bool {ds : List PyData} {b : Bool} (h : PyData.bool b ∈ ds) : keepOk ds = false := by
  match ds, h with
  | [x, y, w, hh, z], h =>
    simp only [List.mem_cons, List.not_mem_nil, or_false] at h
    show ((inB 0 M40 x && (inB 0 M40 y && (inB 0 M40 z && true))) && (inB 1 M40 w && inB 1 M40 hh)) = false
    rcases h with e | e | e | e | e <;> subst e <;> simp [inB]
  | [], h => rfl
  | [_], h => rfl
  | [_, _], h => rfl
  | [_, _, _], h => rfl
  | [_, _, _, _], h => rfl
  | _ :: _ :: _ :: _ :: _ :: _ :: _, h => rfl
theorem keepOk_len {ns : List Int} (h : ns.length ≠ 5) : keepOk (ns.map .int) = false := by
  match ns, h with
  | [_, _, _, _, _], h => exact absurd rfl h
  | [], h => rfl
  | [_], h => rfl
  | [_, _], h => rfl
  | [_, _, _], h => rfl
  | [_, _, _, _], h => rfl
  | _ :: _ :: _ :: _ :: _ :: _ :: _, h => rfl
theorem bools_fil (ds : List PyData) : (((ds.map Cu.It.d).filter isB).map idG).isEmpty = true ↔ ∀ b, PyData.bool b ∉ ds := by
  rw [List.isEmpty_iff, List.map_eq_nil_iff, List.filter_eq_nil_iff]
  refine ⟨fun h b hb => h _ (List.mem_map_of_mem hb) rfl, fun h r hr => ?_⟩
  obtain ⟨d, hd, rfl⟩ := List.mem_map.mp hr
  cases d with
  | bool b => exact absurd hd (h b)
  | _ => exact Bool.false_ne_true
section
variable {P : Program} {w : World} {K : PySem.W.Frag} {mg : Str → Option Value} {base : Heap}
theorem fn__law_is_refused (T : TT K mg) {fd : FuncData} (Fd : FunD K "_law_is_refused" "_law_is_refused" (defArgs s__law_is_refused) (defBody s__law_is_refused) (defScope s__law_is_refused) [] [] (ga K "_law_is_refused") fd) : FnOk P w K mg base (L2.CX P w) 6 (ga K "_law_is_refused") fd ["_law_numbers", "_law_keeps"] (spF K 2 F_refused) := by
  refine fn_w Fd sc__law_is_refused fun cdv A outer s H E rs S QR QE c hc hl hF => ?_
  obtain ⟨a, b, d, r, kds, rfl, na, nb', nd, hk, hkl, hkd, q⟩ := hF
  refine ss_cons (ws_try_only c rfl rfl ⟨rfl, by decide, .inl (g_NoRules T)⟩ (fun C G' S' => C = ga K "NoRules" ∧ S' = S ∧ rulesOk a b d kds = false) (fun W' pn xe c' => ?_) ?_)
  · refine ss_cons (ws_exprX (Qr := fun _ S' => (∃ L, S' = S ++ L) ∧ rulesOk a b d kds = true) (Qx := fun C S' => C = ga K "NoRules" ∧ S' = S ∧ rulesOk a b d kds = false) (evx_make c' (ok_Rules___init__ T) (by decide) (eva_cons (ev_ixL (d := a) (ev_name 0) ev_int (atI_nat (k := 0) rfl rfl)) (eva_cons (ev_ixL (d := b) (ev_name 0) ev_int (atI_nat (k := 1) rfl rfl)) (eva_cons (ev_ixL (d := d) (ev_name 0) ev_int (atI_nat (k := 2) rfl rfl)) (eva_cons (ev_name 1) eva_nil)))) rfl (fun QR QE k1 k2 => ⟨S, _, _, _, _, kds, rfl, rfl, na, nb', nd, fun o => ls_app hk [o], hkl, hkd, fun z => k1 _ ⟨⟨_, (List.append_assoc _ _ _)⟩, z⟩, fun z => k2 _ _ S _ rfl (Nat.le_refl _) (fun _ => hc) ⟨rfl, rfl, z⟩⟩)) ?_ ?_)
    · rintro _ _ ⟨⟨L, rfl⟩, z⟩
      rw [z] at q
      exact ss_nil (ss_cons (ws_ret ev_bool (back_drop L hc q)))
    · rintro _ _ ⟨rfl, rfl, z⟩
      exact ⟨rfl, rfl, z⟩
  · rintro _ _ _ ⟨rfl, rfl, z⟩
    refine ⟨exm_NoRules_NoRules T, fun ad oe pn hz hf => ?_⟩
    rw [z] at q
    exact ss_cons (ws_ret ev_bool (back_d q))
theorem ok__law_is_refused (T : TT K mg) : OkF P w K mg base 6 "_law_is_refused" ["_law_numbers", "_law_keeps"] [] F_refused := okF_of (g__law_is_refused T) (d__law_is_refused T) (fun _ _ _ _ _ _ us hl => match us, hl with | [_, _], _ => rfl) fun fd Fd => fn__law_is_refused T Fd
theorem fn__law_good (T : TT K mg) {fd : FuncData} (Fd : FunD K "_law_good" "_law_good" (defArgs s__law_good) (defBody s__law_good) (defScope s__law_good) [] [] (ga K "_law_good") fd) : FnOk P w K mg base (L2.CX P w) 2 (ga K "_law_good") fd ["_law_numbers", "_law_keeps"] (spF K 2 F_good) := by
  refine fn_w Fd sc__law_good fun cdv A outer s H E rs S QR QE c hc hl hF => ?_
  obtain ⟨a, b, d, r, kds, rfl, na, nb', nd, hk, hkl, hkd, q⟩ := hF
  let ok3 : Nat → Bool := fun i => match i with | 0 => inB 0 2 a | 1 => inB 1 3 b | _ => inB 0 1 d
  have hro : rulesOk a b d kds = ((ok3 0 && (ok3 1 && ok3 2)) && (decide (kds.length ≤ 12) && kds.all keepOk)) := rfl
  have badN : ∀ i, i < 3 → ok3 i = false → rulesOk a b d kds = false := fun i hi h => by
    rw [hro]
    have : i = 0 ∨ i = 1 ∨ i = 2 := by omega
    rcases this with rfl | rfl | rfl <;> rw [h] <;> simp
  refine ss_cons (ws_for c (evi_zip3 (z_zip T) (ev_name 0) (ev_lst (eva_cons ev_int (eva_cons ev_int (eva_cons ev_int eva_nil)))) (ev_lst (eva_cons ev_int (eva_cons ev_int (eva_cons ev_int eva_nil))))) (J := fun i G' S' => (∃ g2 g3 g4, G' = [some (.d (.list [a, b, d])), some r, g2, g3, g4, none, none]) ∧ S' = S ∧ ∀ j, j < i → ok3 j = true) (fun r G => match r with | .d (.tuple [x, y, z]) => ((G.set 2 (some (.d x))).set 3 (some (.d y))).set 4 (some (.d z)) | _ => G) ⟨⟨_, _, _, rfl⟩, rfl, fun _ z => absurd z (Nat.not_lt_zero _)⟩ (fun _ _ _ _ => trivial) ?_ ?_ ?_)
  · rintro i r' G' S' hr ⟨⟨g2, g3, g4, rfl⟩, rfl, _⟩
    obtain ⟨d', hd', rfl⟩ := List.mem_map.mp (List.mem_of_getElem? hr)
    exact evg_tup c.calm (evgs_cons (evg_name 2 c.nd) (evgs_cons (evg_name 3 c.nd) (evgs_cons (evg_name 4 c.nd) evgs_nil)))
  · rintro i r' G' S' hr ⟨⟨g2, g3, g4, rfl⟩, rfl, hto⟩
    have hi : i < 3 := by
      have := (List.getElem?_eq_some_iff.mp hr).1
      simpa using this
    obtain ⟨x, lo, hi', nx, hr', hok⟩ : ∃ (x : PyData) (lo hi' : Int), nb x = true ∧ r' = .d (.tuple [x, .int lo, .int hi']) ∧ ok3 i = inB lo hi' x := by
      have : i = 0 ∨ i = 1 ∨ i = 2 := by omega
      rcases this with rfl | rfl | rfl
      · cases hr; exact ⟨a, 0, 2, na, rfl, rfl⟩
      · cases hr; exact ⟨b, 1, 3, nb', rfl, rfl⟩
      · cases hr; exact ⟨d, 0, 1, nd, rfl, rfl⟩
    subst hr'
    rcases nb_cases nx with ⟨v, rfl⟩ | ⟨t, rfl⟩
    · refine ss_cons (ws_if (k1 := decide (v < lo) || decide (hi' < v)) (EvT.is (evt_w (evw_orF (EvT.is (evt_not (c := true) (evt_val (ev_isD (T := "int") (kk := true) (z_isinstance T) (z_int T) (ev_name 2) rfl))) rfl) (evw_orF (evt_val (ev_isD (T := "bool") (kk := false) (z_isinstance T) (z_bool T) (ev_name 2) rfl)) (evw_or (evt_lt (m := v) (n := lo) (ev_name 2) (ev_name 3)) fun _ => evw_or1 (evt_gt (m := v) (n := hi') (ev_name 2) (ev_name 4)))))) (by rfl)) (fun h => ?_) (fun h => ss_nil (ss_nil ?_)))
      · have hbad : ok3 i = false := by
          rw [hok]
          show (decide (lo ≤ v) && decide (v ≤ hi')) = false
          rw [Bool.or_eq_true, decide_eq_true_eq, decide_eq_true_eq] at h
          rw [Bool.and_eq_false_iff, decide_eq_false_iff_not, decide_eq_false_iff_not]
          omega
        rw [badN i hi hbad] at q
        exact ss_cons (ws_ret ev_bool (back_d q))
      · refine ⟨⟨_, _, _, rfl⟩, rfl, fun j hj => ?_⟩
        by_cases e : j = i
        · rw [e, hok]
          show (decide (lo ≤ v) && decide (v ≤ hi')) = true
          rw [Bool.or_eq_false_iff, decide_eq_false_iff_not, decide_eq_false_iff_not] at h
          rw [Bool.and_eq_true, decide_eq_true_eq, decide_eq_true_eq]
          omega
        · exact hto j (by omega)
    · refine ss_cons (ws_if (k1 := true) (evt_w (evw_orF (EvT.is (evt_not (c := true) (evt_val (ev_isD (T := "int") (kk := true) (z_isinstance T) (z_int T) (ev_name 2) rfl))) rfl) (evw_orT (evt_val (ev_isD (T := "bool") (kk := true) (z_isinstance T) (z_bool T) (ev_name 2) rfl))))) (fun _ => ?_) (fun z => nomatch z))
      rw [badN i hi (by rw [hok] <;> rfl)] at q
      exact ss_cons (ws_ret ev_bool (back_d q))
  rintro G' S' ⟨⟨g2, g3, g4, rfl⟩, rfl, hto⟩
  have t0 := hto 0 (by show 0 < 3; decide)
  have t1 := hto 1 (by show 1 < 3; decide)
  have t2 := hto 2 (by show 2 < 3; decide)
  rw [hro, t0, t1, t2] at q
  have q : QR (.d (.bool (decide (kds.length ≤ 12) && kds.all keepOk))) S' := q
  clear_value ok3
  clear hro badN hto t0 t1 t2
  refine ss_cons (ws_for c (evi_ls (ev_name 1) hk) (J := fun i G' S2 => (∃ g2 g3 g4 g5, G' = [some (.d (.list [a, b, d])), some r, g2, g3, g4, g5, none]) ∧ S2 = S' ∧ ∀ ds ∈ kds.take i, keepOk ds = true) (fun r G => G.set 5 (some r)) ⟨⟨_, _, _, _, rfl⟩, rfl, fun _ z => nomatch z⟩ (fun i G2 S2 h => by rw [h.2.1]; exact hk) ?_ ?_ ?_)
  · rintro i r' G' S2 hr ⟨⟨g2, g3, g4, g5, rfl⟩, rfl, _⟩
    exact evg_name 5 c.nd
  · rintro i r' G' S2 hr ⟨⟨g2, g3, g4, g5, rfl⟩, rfl, hto2⟩
    rw [List.getElem?_map, List.getElem?_map] at hr
    cases hy : kds[i]? with
    | none => rw [hy] at hr; cases hr
    | some ds =>
      rw [hy] at hr
      obtain rfl : .d (.tuple ds) = r' := by simpa using hr
      have hm : ds ∈ kds := List.mem_of_getElem? hy
      obtain ⟨hnb, hdl⟩ := hkd ds hm
      have bad : keepOk ds = false → (decide (kds.length ≤ 12) && kds.all keepOk) = false := fun z => by
        rw [Bool.and_eq_false_iff]
        refine .inr ?_
        rw [Bool.eq_false_iff]
        intro h
        have := List.all_eq_true.mp h ds hm
        rw [z] at this; cases this
      have hfl : ∀ x ∈ ((ds.map Cu.It.d).filter isB).map idG, PyData.canLay0 x = true ∧ x.depth ≤ 50 := fun x hx => by
        obtain ⟨y, hy2, rfl⟩ := List.mem_map.mp hx
        obtain ⟨h1, h2⟩ := List.mem_filter.mp hy2
        obtain ⟨z, hz, rfl⟩ := List.mem_map.mp h1
        cases z with
        | bool t => exact ⟨by simp [idG, PyData.canLay0], by simp [idG, PyData.depth]⟩
        | _ => cases h2
      refine ss_cons (ws_if (k1 := !(((ds.map Cu.It.d).filter isB).map idG).isEmpty) (EvT.is (evt_neD c (x := .list (((ds.map Cu.It.d).filter isB).map idG)) (ev_lc c (blkOk_by (by rfl)) (lc_pure (own := [("_law_one", 6)]) c (evi_tup (ev_name 5)) (tg_name 6 c.nd) isB idG (fun _ => trivial) (fun rr hrr => ?_) (by rw [List.length_map]; omega))) (ev_lst eva_nil) (shaped_list hfl) (shaped_list (ds := []) (fun _ h => nomatch h))) (by rw [eqv_nil])) (fun h => ?_) (fun h => ss_nil ?_))
      · obtain ⟨x, hx, rfl⟩ := List.mem_map.mp hrr
        rcases nb_cases (List.all_eq_true.mp hnb x hx) with ⟨v, rfl⟩ | ⟨t, rfl⟩
        · exact ⟨_, rfl, fun L s H C cl fp => evt_val (ev_isD (T := "bool") (kk := false) (z_isinstance T) (z_bool T) (ev_name 6) rfl), fun z => nomatch z⟩
        · exact ⟨_, rfl, fun L s H C cl fp => evt_val (ev_isD (T := "bool") (kk := true) (z_isinstance T) (z_bool T) (ev_name 6) rfl), fun _ L s H C cl fp => (ev_name 6)⟩
      · have hbool : keepOk ds = false := by
          rcases nb_ints_or hnb with ⟨ns, rfl⟩ | ⟨t, ht⟩
          · exfalso
            have : (((((ns.map PyData.int).map Cu.It.d).filter isB).map idG).isEmpty) = true := (bools_fil _).mpr fun b hb => by
              obtain ⟨_, _, e⟩ := List.mem_map.mp hb
              cases e
            rw [this] at h; cases h
          · exact keepOk_bool ht
        rw [bad hbool] at q
        exact ss_cons (ws_ret ev_bool (back_d q))
      obtain ⟨ns, rfl⟩ : ∃ ns : List Int, ds = ns.map .int := by
        rcases nb_ints_or hnb with h2 | ⟨t, ht⟩
        · exact h2
        · exact absurd ht ((bools_fil ds).mp (bnot2 h) t)
      by_cases h5 : ns.length = 5
      · obtain ⟨x, y, wd, hh, z, rfl⟩ : ∃ a b c d e, ns = [a, b, c, d, e] := by
          match ns, h5 with
          | [a, b, c, d, e], _ => exact ⟨_, _, _, _, _, rfl⟩
        obtain ⟨mn, hmn1, hmn2⟩ := min_of x [y, wd, hh, z]
        obtain ⟨mx, hmx1, hmx2⟩ := max_of x [y, wd, hh, z]
        have hkk := keepOk_min hmn1 hmn2 hmx1 hmx2
        have hkk : keepOk ([x, y, wd, hh, z].map PyData.int) = (!(decide (mn < 0) || (decide (wd < 1) || decide (hh < 1))) && !decide (10 ^ (40 : Int).toNat ≤ mx)) := hkk
        refine ss_cons (ws_if (k1 := decide (mn < 0) || (decide (wd < 1) || (decide (hh < 1) || decide (10 ^ (40 : Int).toNat ≤ mx)))) (evt_w (evw_orF (EvT.is (evt_neI (ev_len (l := 5) (z_len T) (ev_name 5) rfl) ev_int) rfl) (evw_or (evt_lt (ev_minT (ns := [x, y, wd, hh, z]) c (z_min T) (ev_name 5) hmn1 hmn2) ev_int) fun _ => evw_or (evt_lt (ev_ixT (d := .int wd) (ev_name 5) ev_int (atI_nat (k := 2) rfl rfl)) ev_int) fun _ => evw_or (evt_lt (ev_ixT (d := .int hh) (ev_name 5) ev_int (atI_nat (k := 3) rfl rfl)) ev_int) fun _ => evw_or1 (evt_ge (ev_maxT (ns := [x, y, wd, hh, z]) c (z_max T) (ev_name 5) hmx1 hmx2) (ev_pow ev_int ev_int ⟨by decide, by decide, by decide⟩))))) (fun h2 => ?_) (fun h2 => ss_nil (ss_nil ?_)))
        · have hbad : keepOk ([x, y, wd, hh, z].map PyData.int) = false := by
            rw [hkk]
            revert h2
            cases decide (mn < 0) <;> cases decide (wd < 1) <;> cases decide (hh < 1) <;> cases decide (10 ^ (40 : Int).toNat ≤ mx) <;> intro h2 <;> first | rfl | cases h2
          rw [bad hbad] at q
          exact ss_cons (ws_ret ev_bool (back_d q))
        · refine ⟨⟨_, _, _, _, rfl⟩, rfl, fun u hu => ?_⟩
          rw [List.take_add_one, hy] at hu
          rcases List.mem_append.mp hu with hu | hu
          · exact hto2 u hu
          · obtain rfl : u = [x, y, wd, hh, z].map PyData.int := by simpa using hu
            rw [hkk]
            revert h2
            cases decide (mn < 0) <;> cases decide (wd < 1) <;> cases decide (hh < 1) <;> cases decide (10 ^ (40 : Int).toNat ≤ mx) <;> intro h2 <;> first | rfl | cases h2
      · refine ss_cons (ws_if (k1 := true) (evt_w (evw_orT (EvT.is (evt_neI (ev_len (l := ns.length) (z_len T) (ev_name 5) (by show some ((ns.map PyData.int).length) = _; rw [List.length_map])) ev_int) (by rw [decide_eq_false (by omega)] <;> rfl)))) (fun _ => ?_) (fun z => nomatch z))
        rw [bad (keepOk_len h5)] at q
        exact ss_cons (ws_ret ev_bool (back_d q))
  · rintro G' S2 ⟨⟨g2, g3, g4, g5, rfl⟩, rfl, hto2⟩
    rw [List.length_map, List.length_map, List.take_length] at hto2
    rw [List.all_eq_true.mpr hto2, Bool.and_true] at q
    exact ss_cons (ws_ret (Ev.is (ev_le (ev_lenA (z_len T) (ev_name 1) hk) ev_int) (by rw [List.length_map]; congr 2; exact decide_eq_decide.mpr (by omega))) (back_d q))
theorem ok__law_good (T : TT K mg) : OkF P w K mg base 2 "_law_good" ["_law_numbers", "_law_keeps"] [] F_good := okF_of (g__law_good T) (d__law_good T) (fun _ _ _ _ _ _ us hl => match us, hl with | [_, _], _ => rfl) fun fd Fd => fn__law_good T Fd
end
end Pf
/-! CxD: comparisons and lengths of what is told loosely; truths compared. -/
namespace Cu
open PySem PySem.Spec PyProof.Rows L2
section
variable {X : Cx} {W : WX} {k : Nat} {G : Gam} {S S1 S2 : Sto} {a b : Expr} {r r' : It} {pos p : Pos} {Q1 Qr : It → Sto → Prop} {Qx : Addr → Sto → Prop} {Qb : Bool → Sto → Prop} {ds ds' : List PyData}
theorem evx_cmp {op : CmpOp} {rr : R2} (ho : OpR X (compareOp op) rr) (ha : EvX X W a G S Q1 Qx) (h : ∀ r S1, Q1 r S1 → ∃ y S2 z S3, Ev X b G S1 y S2 ∧ RW2 X rr r y S2 z S3 ∧ Qr z S3) (hm : behindInMarks op b = false := by first | exact nomark _ | rfl) : EvX X W (.Compare a [op] [b] pos) G S Qr Qx := fun M σ H Q s h1 h2 =>
  toE (pe_cmpR ho pe_s pe_s hm) (ha M σ H _ s (fun v M1 H1 r S1 e1 s1 r1 q1 => by
    obtain ⟨y, S2, z, S3, hb, hr, q⟩ := h r S1 q1
    exact hb M1 σ H1 _ s1 fun u M2 H2 e2 s2 r2 => hr M2 H2 v u _ s2.sto (r1.ext e2) r2 fun w M3 H3 e3 s3 r3 => h1 w M3 H3 z S3 ((e1.trans e2).trans e3) (s2.mono e3 s3) r3 q) h2)
theorem evtx_cmp {op : CmpOp} {rr : R2} (ho : OpR X (compareOp op) rr) (ha : EvX X W a G S Q1 Qx) (h : ∀ r S1, Q1 r S1 → ∃ y S2 c S3, Ev X b G S1 y S2 ∧ RW2 X rr r y S2 (.d (.bool c)) S3 ∧ Qb c S3) (hm : behindInMarks op b = false := by first | exact nomark _ | rfl) : EvTX X W (.Compare a [op] [b] pos) G S Qb Qx := fun M σ H Q s h1 h2 =>
  toT (pt_cmpR ho pe_s pe_s hm) (ha M σ H _ s (fun v M1 H1 r S1 e1 s1 r1 q1 => by
    obtain ⟨y, S2, z, S3, hb, hr, q⟩ := h r S1 q1
    exact hb M1 σ H1 _ s1 fun u M2 H2 e2 s2 r2 => hr M2 H2 v u _ s2.sto (r1.ext e2) r2 fun w M3 H3 e3 s3 r3 => ⟨_, vr_bool r3, h1 z M3 H3 S3 ((e1.trans e2).trans e3) (s2.mono e3 s3) q⟩) h2)
theorem rw_eqLs (hr : lsOf S r = some ds) (hr' : lsOf S r' = some ds') (hx : SeqAt.shaped (.list ds) = true) (hy : SeqAt.shaped (.list ds') = true) : RW2 X (rEqD X.K) r r' S (.d (.bool (PyData.eqv (.list ds) (.list ds')))) S := fun M H v u Q s hv hu q => by
  obtain ⟨ad, xs, rfl, h1, h2⟩ := ls_rd s hv hr
  obtain ⟨bd, ys, rfl, h3, h4⟩ := ls_rd s hu hr'
  exact ⟨_, _, dp_list h1 h2, dp_list h3 h4, hx, hy, q _ M H Ext.refl s (Fz.bl _)⟩
theorem rw_neLs (hr : lsOf S r = some ds) (hr' : lsOf S r' = some ds') (hx : SeqAt.shaped (.list ds) = true) (hy : SeqAt.shaped (.list ds') = true) : RW2 X (rNeD X.K) r r' S (.d (.bool (!PyData.eqv (.list ds) (.list ds')))) S := fun M H v u Q s hv hu q => by
  obtain ⟨ad, xs, rfl, h1, h2⟩ := ls_rd s hv hr
  obtain ⟨bd, ys, rfl, h3, h4⟩ := ls_rd s hu hr'
  exact ⟨_, _, dp_list h1 h2, dp_list h3 h4, hx, hy, q _ M H Ext.refl s (Fz.bl _)⟩
/-- len of what is told loosely -/
theorem evx_len (hm : X.mg "len" = none) (ha : EvX X W a G S Q1 Qx) (h : ∀ r S1, Q1 r S1 → ∃ l, lenOf S1 r = some l ∧ Qr (.d (.int (l : Nat))) S1) (hg : Gl X "len" := by rfl) (he : starEach [a] X.env = (false, eval a X.env) :: starEach [] X.env := by rfl) : EvX X W (.Call (.Name "len" p) [a] [] pos) G S Qr Qx :=
  evx_blt call_len_seq hm PySem.boot_len ha (fun r S' q => by
    obtain ⟨l, hl, q⟩ := h r S' q
    exact ⟨_, _, rw_len hl, q⟩) hg (by decide) (by decide) he
theorem ev_inD {x : PyData} (c : Cxo X W k) (ha : Ev X a G S (.d x) S1) (hb : Ev X b G S1 r S2) (hr : lsOf S2 r = some ds) (hx : SeqAt.shaped x = true) (hd : SeqAt.shaped (.list ds) = true) (hm : behindInMarks .In b = false := by rfl) : Ev X (.Compare a [.In] [b] pos) G S (.d (.bool (ds.any fun z => PyData.eqv z x))) S2 := ev_cmp (op_inD (by have := c.hr.un; omega)) ha hb (fun M H v u Q s hv hw q => by
  obtain ⟨ad, xs, rfl, h1, h2⟩ := ls_rd s hw hr
  exact ⟨x, ds, Fz.dp hv, dp_list h1 h2, hx, hd, q _ M H Ext.refl s (Fz.bl _)⟩) hm
theorem eqS_bool {x y : Bool} : eqS (.bool x) (.bool y) = (x == y) := by
  unfold eqS
  cases x <;> cases y <;> decide
theorem evt_neB {x y : Bool} (ha : Ev X a G S (.d (.bool x)) S1) (hb : Ev X b G S1 (.d (.bool y)) S2) : EvT X (.Compare a [.NotEq] [b] pos) G S (!(x == y)) S2 := by rw [← eqS_bool]; exact evt_cmp op_ne ha hb (rw_neS rfl rfl rfl)
theorem evt_eqB {x y : Bool} (ha : Ev X a G S (.d (.bool x)) S1) (hb : Ev X b G S1 (.d (.bool y)) S2) : EvT X (.Compare a [.Eq] [b] pos) G S (x == y) S2 := by rw [← eqS_bool]; exact evt_cmp op_eq ha hb (rw_eqS rfl rfl rfl)
theorem ev_eqB {x y : Bool} (ha : Ev X a G S (.d (.bool x)) S1) (hb : Ev X b G S1 (.d (.bool y)) S2) : Ev X (.Compare a [.Eq] [b] pos) G S (.d (.bool (x == y))) S2 := by rw [← eqS_bool]; exact ev_cmp op_eq ha hb (rw_eqS rfl rfl rfl)
end
end Cu
namespace Pf
open PySem PySem.Spec PyProof.Rows L2 He Cu
def w4 (ns : List Int) (k : Int) : Well := (cellN ns 0 % 2, cellN ns k, 0)
def F_well4 : Fn := fun rs S QR _ => ∃ (ns : List Int) (k : Int), rs = [.s ns, .d (.int k)] ∧ 0 ≤ k ∧ QR (.o S.length) (S ++ [wellO (w4 ns k)])
def pickL : List PyData := [.int 0, .int 1, .int 2, .int 3, .int 4, .int (-1), .int (10 ^ (30 : Int).toNat), .int (-7), .bool true, .bool false]
def pickN (v : Int) : PyData := pickL.getD v.toNat .none
theorem pick_at {v : Int} (h0 : 0 ≤ v) (h : v < 10) : atI pickL v = some (pickN v) ∧ nb (pickN v) = true := by
  obtain ⟨k, rfl⟩ : ∃ k : Nat, v = (k : Int) := ⟨v.toNat, (Int.toNat_of_nonneg h0).symm⟩
  have hk : k < pickL.length := by show k < 10; omega
  have e : pickN (k : Int) = pickL[k] := by
    unfold pickN
    rw [Int.toNat_natCast, List.getD_eq_getElem?_getD, List.getElem?_eq_getElem hk] <;> rfl
  refine ⟨atI_nat (k := k) rfl (by rw [e]; exact List.getElem?_eq_getElem hk), ?_⟩
  rw [e]
  have : k = 0 ∨ k = 1 ∨ k = 2 ∨ k = 3 ∨ k = 4 ∨ k = 5 ∨ k = 6 ∨ k = 7 ∨ k = 8 ∨ k = 9 := by omega
  rcases this with rfl | rfl | rfl | rfl | rfl | rfl | rfl | rfl | rfl | rfl <;> rfl
/-- the numbers of a keep, drawn -/
def kN (w : Well) : Nat → Well × List PyData
  | 0 => (w, [])
  | i + 1 => (drawW (drawW (kN w i).1 40) 40, (kN w i).2 ++ [.int (drawV (kN w i).1 40 - (if decide (drawV (drawW (kN w i).1 40) 40 = 39) = true then 1 else 0) + 1)])
theorem kN_nb (w : Well) : ∀ i, (kN w i).2.all nb = true ∧ (kN w i).2.length = i
  | 0 => ⟨rfl, rfl⟩
  | i + 1 => by
    obtain ⟨h1, h2⟩ := kN_nb w i
    show ((kN w i).2 ++ [_]).all nb = true ∧ ((kN w i).2 ++ [_]).length = i + 1
    rw [List.all_append, h1, List.length_append, h2]
    exact ⟨rfl, rfl⟩
def farL : List PyData := [.int (10 ^ (40 : Int).toNat), .int (10 ^ (40 : Int).toNat - 1), .bool true, .int 7]
def sevens : List PyData := [.int 7, .int 7, .int 7, .int 7, .int 7]
theorem far_at {v : Int} (h0 : 0 ≤ v) (h : v < 4) : ∃ d, atI farL v = some d ∧ nb d = true := by
  have : v = 0 ∨ v = 1 ∨ v = 2 ∨ v = 3 := by omega
  rcases this with rfl | rfl | rfl | rfl
  · exact ⟨_, rfl, rfl⟩
  · exact ⟨_, rfl, rfl⟩
  · exact ⟨_, rfl, rfl⟩
  · exact ⟨_, rfl, rfl⟩
theorem all_cut {ds : List PyData} (h : ds.all nb = true) (il ih : Option Int) : (Cu.cutD ds il ih).all nb = true ∧ (Cu.cutD ds il ih).length ≤ ds.length := by
  unfold Cu.cutD
  refine ⟨List.all_eq_true.mpr fun x hx => List.all_eq_true.mp h x (List.mem_of_mem_drop (List.mem_of_mem_take hx)), ?_⟩
  rw [List.length_take, List.length_drop]
  omega
theorem all_set {ds : List PyData} (h : ds.all nb = true) (l : Nat) {d : PyData} (hd : nb d = true) : (ds.set l d).all nb = true := List.all_eq_true.mpr fun x hx => by
  rcases List.mem_or_eq_of_mem_set hx with hx | rfl
  · exact List.all_eq_true.mp h x hx
  · exact hd
theorem all_take {ds : List PyData} (h : ds.all nb = true) (n : Nat) : (ds.take n).all nb = true := List.all_eq_true.mpr fun x hx => List.all_eq_true.mp h x (List.mem_of_mem_take hx)
section
variable {P : Program} {w : World} {K : PySem.W.Frag} {mg : Str → Option Value} {base : Heap}
theorem fn__law_well4 (T : TT K mg) {fd : FuncData} (Fd : FunD K "_law_well" "_law_well" (defArgs s__law_well) (defBody s__law_well) (defScope s__law_well) [] [] (ga K "_law_well") fd) : FnOk P w K mg base (L2.CX P w) 2 (ga K "_law_well") fd ["_law_script", "_law_k"] (spF K 2 F_well4) := by
  refine fn_w Fd sc__law_well fun cdv A outer s H E rs S QR QE c hc hl hF => ?_
  obtain ⟨ns, k, rfl, hk, q⟩ := hF
  exact ss_cons (ws_ret (ev_lstO (eva_cons (ev_mod (ev_call c (ok__law_cell T) (eva_cons (ev_name 0) (eva_cons ev_int eva_nil)) (fun QR QE q => ⟨_, _, rfl, by decide, q⟩)) ev_int (by decide)) (eva_cons (ev_call c (ok__law_cell T) (eva_cons (ev_name 0) (eva_cons (ev_name 1) eva_nil)) (fun QR QE q => ⟨_, _, rfl, hk, q⟩)) (eva_cons ev_int eva_nil)))) (back_same (by show S.length < _; simp) q))
theorem ok__law_well4 (T : TT K mg) : OkF P w K mg base 2 "_law_well" ["_law_script", "_law_k"] [] F_well4 := okF_of (g__law_well T) (d__law_well T) (fun _ _ _ _ _ _ us hl => match us, hl with | [_, _], _ => rfl) fun fd Fd => fn__law_well4 T Fd
theorem fn_law (T : TT K mg) {fd : FuncData} (Fd : FunD K "law" "law" (defArgs s_law) (defBody s_law) (defScope s_law) [] [] (ga K "law") fd) : FnOk P w K mg base (L2.CX P w) 8 (ga K "law") fd ["_law_script"] (spF K 1 lawF) := by
  refine fn_w Fd sc_law fun cdv A outer s H E rs S QR QE c hc hl hF => ?_
  obtain ⟨ns, rfl, rfl, hns, q⟩ := hF
  refine ss_cons (ws_setX 1 c.nd (Qr := fun r _ => ∃ y, r = .d (.str y) ∧ okS y ∧ y.length ≤ 10000) (Qx := fun _ _ => False) (evx_call c (ok__law_text T) (by decide) (eva_cons (ev_call c (ok__law_well4 T) (eva_cons (ev_name 0) (eva_cons ev_int eva_nil)) (fun QR QE q => ⟨ns, 1, rfl, by decide, q⟩)) eva_nil) rfl (fun QR QE k1 _ => ⟨0, w4 ns 1, rfl, rfl, fun y w' h1 h2 => k1 _ _ ⟨y, rfl, h1, h2⟩⟩)) ?_ (fun _ _ z => z.elim))
  rintro _ S1 ⟨x, rfl, hxo, hxl⟩
  refine ss_cons (ws_ifX (Qb := fun b _ => b = false) (Qx := fun _ _ => False) (evtx_w (evwx_or (Qc := fun b S' => b = false ∧ S' = S1) (evtx_of (EvT.is (evt_not (evt_val (ev_call c (ok__law_right T) (eva_cons (ev_name 1) eva_nil) (fun QR QE q => ⟨x, rfl, by omega, hxo, q⟩)))) (c' := false) rfl) ⟨rfl, rfl⟩) (fun _ z => nomatch z.1) (fun S2 hS2 => ?_))) (fun _ z => nomatch z) (fun S2 _ => ss_nil ?_) (fun _ _ z => z.elim))
  · obtain ⟨_, rfl⟩ := hS2
    refine evwx_one (evtx_not (Qc := fun b _ => b = true) (evtx_val (Q1 := fun r _ => r = .d (.bool true)) ?_ (fun r _ h => ⟨true, h, rfl⟩)) (fun b _ h => by rw [h] <;> rfl))
    refine evx_callX c (ok__law_right T) (by decide) (evax_cons (Qa := fun rs _ => ∃ y, rs = [.d (.str y)] ∧ okS y ∧ y.length ≤ 90000) (Q1 := fun r _ => ∃ y, r = .d (.str y) ∧ okS y ∧ y.length ≤ 90000) (evx_call c (ok__law_spoilt_text T) (by decide) (eva_cons (ev_name 1) (eva_cons (ev_call c (ok__law_well4 T) (eva_cons (ev_name 0) (eva_cons ev_int eva_nil)) (fun QR QE q => ⟨ns, 2, rfl, by decide, q⟩)) eva_nil)) rfl (fun QR QE k1 _ => ⟨S2.length, w4 ns 2, x, rfl, get_endR _ _, hxo, by omega, fun y w' h1 h2 => k1 _ _ ⟨y, rfl, h1, h2⟩⟩)) (fun r S1 hr => evax_nil (by obtain ⟨y, rfl, h1, h2⟩ := hr; exact ⟨y, rfl, h1, h2⟩))) (fun rs S1 hr => ?_)
    obtain ⟨y, rfl, h1, h2⟩ := hr
    exact ⟨rfl, fun QR QE k1 _ => ⟨y, rfl, h2, h1, k1 _ _ rfl⟩⟩
  clear hxo hxl
  -- the numbers
  have hat : ∀ (w' : Well) (L : Sto), (S2 ++ wellO w' :: L)[S2.length]? = some (wellO w') := fun w' L => by rw [List.getElem?_append_right (Nat.le_refl _), Nat.sub_self] <;> rfl
  have hst : ∀ (w' w3 : Well) (L : Sto), (S2 ++ wellO w' :: L).set S2.length (wellO w3) = S2 ++ wellO w3 :: L := fun w' w3 L => by rw [List.set_append_right _ _ (Nat.le_refl _), Nat.sub_self] <;> rfl
  have hat1 : ∀ (w' : Well) (u : Own) (L : Sto), (S2 ++ wellO w' :: u :: L)[S2.length + 1]? = some u := fun w' u L => by rw [List.getElem?_append_right (Nat.le_succ _), show S2.length + 1 - S2.length = 1 by omega] <;> rfl
  have hst1 : ∀ (w' : Well) (u v : Own) (L : Sto), (S2 ++ wellO w' :: u :: L).set (S2.length + 1) v = S2 ++ wellO w' :: v :: L := fun w' u v L => by rw [List.set_append_right _ _ (Nat.le_succ _), show S2.length + 1 - S2.length = 1 by omega] <;> rfl
  have dr : ∀ {w1 : Well} {m : Int} {L : Sto} {QR : Cu.It → Sto → Prop} {QE : Addr → Sto → Prop}, 0 < m → m < 1073741824 → QR (.d (.int (drawV w1 m))) (S2 ++ wellO (drawW w1 m) :: L) → F_draw [.o S2.length, .d (.int m)] (S2 ++ wellO w1 :: L) QR QE := fun {w1 m L QR QE} h2 h3 h4 => ⟨_, _, _, rfl, hat _ _, h2, h3, by rw [hst]; exact h4⟩
  refine ss_cons (ws_set 2 c.nd (r := .o S2.length) (S1 := S2 ++ [wellO (w4 ns 3)]) (ev_call c (ok__law_well4 T) (eva_cons (ev_name 0) (eva_cons ev_int eva_nil)) (fun QR QE q => ⟨ns, 3, rfl, by decide, q⟩)) ?_)
  obtain ⟨wa, hwa⟩ : ∃ wa, wa = w4 ns 3 := ⟨_, rfl⟩
  rw [← hwa]
  have hpl := draws_len 10 wa
  have hpi := draws_in (m := 10) (by decide) wa
  refine ss_cons (ws_setLc (own := [("_law_k", 4)]) (out := (drawsN 10 wa 3).2.map pickN) (S2 := S2 ++ [wellO (drawsN 10 wa 3).1]) 3 c (blkOk_by (by rfl)) ⟨lc_reads c (evi_range1 (n := 3) (z_range T) ev_int ⟨by decide, by decide⟩) (tg_name 4 c.nd) (fun i acc S' => S' = S2 ++ [wellO (drawsN 10 wa i).1] ∧ acc = (drawsN 10 wa i).2.map pickN) ⟨rfl, rfl⟩ (fun _ _ _ _ _ => trivial) (fun i r acc S' hr hJ _ => ?_) (fun acc S' h => ⟨h.2, h.1⟩) (by decide) (fun h => ?_)⟩ ?_)
  · obtain ⟨rfl, rfl⟩ := hJ
    obtain ⟨hi, rfl⟩ := rngI_at hr
    have a1 := draw_lo (w := (drawsN 10 wa i).1) (m := 10) (by decide)
    have a2 := draw_hi (w := (drawsN 10 wa i).1) (m := 10) (by decide)
    refine ⟨_, true, rfl, fun L s H C cl fp => rfl, fun _ => ⟨pickN (drawV (drawsN 10 wa i).1 10), S2 ++ [wellO (drawsN 10 wa (i + 1)).1], by simp, fun L s H C cl fp => ?_, rfl, ?_⟩, fun h => nomatch h⟩
    · rw [List.append_assoc, List.append_assoc]
      exact ev_ixL (ev_lst (ds := pickL) (eva_cons ev_int (eva_cons ev_int (eva_cons ev_int (eva_cons ev_int (eva_cons ev_int (eva_cons (ev_neg ev_int) (eva_cons (ev_pow ev_int ev_int ⟨by decide, by decide, by decide⟩) (eva_cons (ev_neg ev_int) (eva_cons ev_bool (eva_cons ev_bool eva_nil)))))))))) rfl) (ev_call (c.blk _ s H C cl fp) (ok__law_draw T) (eva_cons (ev_name 2) (eva_cons ev_int eva_nil)) (fun QR QE q => dr (by decide) (by decide) q)) (pick_at a1 a2).1
    · show _ = ((drawsN 10 wa i).2 ++ [_]).map pickN
      rw [List.map_append] <;> rfl
  · have := cls_set (i := S2.length) (w := wellO (drawsN 10 wa 3).1) h well_cl
    rw [hst] at this
    exact this
  obtain ⟨v0, v1, v2, hv, hn0, hn1, hn2⟩ : ∃ a b d : PyData, (drawsN 10 wa 3).2.map pickN = [a, b, d] ∧ nb a = true ∧ nb b = true ∧ nb d = true := by
    have h3 := hpl 3
    have hi3 := hpi 3
    match (drawsN 10 wa 3).2, h3, hi3 with
    | [a, b, d], _, hi => exact ⟨pickN a, pickN b, pickN d, rfl, (pick_at (hi a (by simp)).1 (hi a (by simp)).2).2, (pick_at (hi b (by simp)).1 (hi b (by simp)).2).2, (pick_at (hi d (by simp)).1 (hi d (by simp)).2).2⟩
  rw [hv]
  clear hpl hpi hv
  obtain ⟨wb, hwb⟩ : ∃ wb, wb = (drawsN 10 wa 3).1 := ⟨_, rfl⟩
  rw [← hwb]
  refine ss_mid (J := fun G1 S3 => ∃ (a b d : PyData) (w' : Well), nb a = true ∧ nb b = true ∧ nb d = true ∧ G1 = [some (.s ns), some (.d (.str x)), some (.o S2.length), some (.d (.list [a, b, d])), none, none, none, none] ∧ S3 = S2 ++ [wellO w']) ?_ ?_
  · refine ws_if (evt_eqI (ev_call c (ok__law_draw T) (eva_cons (ev_name 2) (eva_cons ev_int eva_nil)) (fun QR QE q => dr (by decide) (by decide) q)) ev_int) (fun _ => ?_) (fun _ => ss_nil ⟨v0, v1, v2, _, hn0, hn1, hn2, rfl, rfl⟩)
    exact ss_cons (ws_set 3 c.nd (ev_lst (eva_cons (ev_call c (ok__law_draw T) (eva_cons (ev_name 2) (eva_cons ev_int eva_nil)) (fun QR QE q => dr (by decide) (by decide) q)) (eva_cons (ev_add ev_int (ev_call c (ok__law_draw T) (eva_cons (ev_name 2) (eva_cons ev_int eva_nil)) (fun QR QE q => dr (by decide) (by decide) q))) (eva_cons (ev_call c (ok__law_draw T) (eva_cons (ev_name 2) (eva_cons ev_int eva_nil)) (fun QR QE q => dr (by decide) (by decide) q)) eva_nil)))) (ss_nil ⟨_, _, _, _, rfl, rfl, rfl, rfl, rfl⟩))
  clear hwb hn0 hn1 hn2
  rintro _ _ ⟨a, b, d, wc, na, nb', nd, rfl, rfl⟩
  -- the keeps
  refine ss_cons (ws_set 5 c.nd (r := .o (S2.length + 1)) (S1 := S2 ++ [wellO wc, .lst []]) (Ev.is2 (ev_lstO eva_nil) (by rw [List.length_append] <;> rfl) (by rw [List.append_assoc] <;> rfl)) ?_)
  have d1 := draw_lo (w := wc) (m := 14) (by decide)
  have d2 := draw_hi (w := wc) (m := 14) (by decide)
  refine ss_cons (ws_for c (evi_range1 (z_range T) (ev_call c (ok__law_draw T) (eva_cons (ev_name 2) (eva_cons ev_int eva_nil)) (fun QR QE q => dr (by decide) (by decide) q)) (by omega)) (J := fun i G' S3 => ∃ (kds : List (List PyData)) (g4 : Option Cu.It) (w' : Well), G' = [some (.s ns), some (.d (.str x)), some (.o S2.length), some (.d (.list [a, b, d])), g4, some (.o (S2.length + 1)), none, none] ∧ S3 = S2 ++ [wellO w', .lst ((kds.map PyData.tuple).map .d)] ∧ kds.length = i ∧ ∀ ds ∈ kds, ds.all nb = true ∧ ds.length ≤ 1000) (fun r G => G.set 4 (some r)) ⟨[], _, _, rfl, rfl, rfl, fun _ h => nomatch h⟩ (fun _ _ _ _ => trivial) ?_ ?_ ?_)
  · rintro i r G' S3 hr ⟨kds, g4, w', rfl, rfl, _⟩
    exact evg_name 4 c.nd
  · rintro i r G' S3 hr ⟨kds, g4, w', rfl, rfl, hkl, hkd⟩
    obtain ⟨hi, rfl⟩ := rngI_at hr
    have hi14 : i < 14 := by omega
    obtain ⟨lO, hlO⟩ : ∃ lO : Own, lO = .lst ((kds.map PyData.tuple).map .d) := ⟨_, rfl⟩
    have hin : (S2 ++ [wellO w', lO])[S2.length + 1]? = some (.lst ((kds.map PyData.tuple).map .d)) := by rw [hlO]; exact hat1 _ _ _
    rw [← hlO]
    refine ss_cons (ws_expr (ev_append (i := S2.length + 1) (xs := (kds.map PyData.tuple).map .d) (r := .d (.tuple (kN w' 5).2)) (S2 := S2 ++ [wellO (kN w' 5).1, lO]) (ev_name 5) hin (ev_tupleL (ds := (kN w' 5).2) (z_tuple T) (ev_lc (out := (kN w' 5).2) (S2 := S2 ++ [wellO (kN w' 5).1, lO]) c (blkOk_by (own := [("_law_j", 6)]) (by rfl)) ⟨lc_reads c (evi_range1 (n := 5) (z_range T) ev_int ⟨by decide, by decide⟩) (tg_name 6 c.nd) (fun j acc S' => S' = S2 ++ [wellO (kN w' j).1, lO] ∧ acc = (kN w' j).2) ⟨rfl, rfl⟩ (fun _ _ _ _ _ => trivial) (fun j r acc S' hr hJ _ => ?_) (fun acc S' h => ⟨h.2, h.1⟩) (by decide) (fun h => ?_)⟩) rfl) (by rw [hlO]; exact hat1 _ _ _) (by rw [List.length_map, List.length_map]; omega)) (ss_nil ?_))
    · obtain ⟨rfl, rfl⟩ := hJ
      refine ⟨_, true, rfl, fun L s H C cl fp => rfl, fun _ => ⟨_, S2 ++ [wellO (kN w' (j + 1)).1, lO], by simp, fun L s H C cl fp => ?_, rfl, rfl⟩, fun h => nomatch h⟩
      rw [List.append_assoc, List.append_assoc]
      exact ev_add (ev_sub (ev_call (c.blk _ s H C cl fp) (ok__law_draw T) (eva_cons (ev_name 2) (eva_cons ev_int eva_nil)) (fun QR QE q => dr (by decide) (by decide) q)) (ev_intB (z_int T) (ev_eqI (ev_call (c.blk _ s H C cl fp) (ok__law_draw T) (eva_cons (ev_name 2) (eva_cons ev_int eva_nil)) (fun QR QE q => dr (by decide) (by decide) q)) ev_int))) ev_int
    · have := cls_set (i := S2.length) (w := wellO (kN w' 5).1) h well_cl
      rw [hst] at this
      exact this
    · subst hlO
      rw [hst1]
      refine ⟨kds ++ [(kN w' 5).2], _, _, rfl, by rw [List.map_append, List.map_append] <;> rfl, by rw [List.length_append, hkl] <;> rfl, fun ds hds => ?_⟩
      rcases List.mem_append.mp hds with hds | hds
      · exact hkd ds hds
      · rw [List.mem_singleton.mp hds]
        exact ⟨(kN_nb w' 5).1, by rw [(kN_nb w' 5).2]; decide⟩
  rintro _ _ ⟨kds, g4, w', rfl, rfl, hkl, hkd⟩
  rw [rngI_len] at hkl
  have hk14 : kds.length ≤ 14 := by omega
  clear hkl
  -- one of no width
  refine ss_mid (J := fun G1 S3 => ∃ (kds : List (List PyData)) (w' : Well), G1 = [some (.s ns), some (.d (.str x)), some (.o S2.length), some (.d (.list [a, b, d])), g4, some (.o (S2.length + 1)), none, none] ∧ S3 = S2 ++ [wellO w', .lst ((kds.map PyData.tuple).map .d)] ∧ kds.length ≤ 15 ∧ ∀ ds ∈ kds, ds.all nb = true ∧ ds.length ≤ 1000) ?_ ?_
  · refine ws_if (evt_eqI (ev_call c (ok__law_draw T) (eva_cons (ev_name 2) (eva_cons ev_int eva_nil)) (fun QR QE q => dr (by decide) (by decide) q)) ev_int) (fun _ => ?_) (fun _ => ss_nil ⟨kds, _, rfl, rfl, by omega, hkd⟩)
    refine ss_cons (ws_expr (ev_append (i := S2.length + 1) (xs := (kds.map PyData.tuple).map .d) (ev_name 5) (hat1 _ _ _) (ev_tup (eva_cons ev_int (eva_cons ev_int (eva_cons ev_int (eva_cons ev_int (eva_cons ev_int eva_nil)))))) (hat1 _ _ _) (by rw [List.length_map, List.length_map]; omega)) (ss_nil ?_))
    rw [hst1]
    refine ⟨kds ++ [[.int 0, .int 0, .int 0, .int 1, .int 0]], _, rfl, by rw [List.map_append, List.map_append] <;> rfl, by rw [List.length_append]; show kds.length + 1 ≤ 15; omega, fun ds hds => ?_⟩
    rcases List.mem_append.mp hds with hds | hds
    · exact hkd ds hds
    · rw [List.mem_singleton.mp hds]
      exact ⟨rfl, by decide⟩
  clear hk14 hkd kds w'
  rintro _ _ ⟨kds, w', rfl, rfl, hk15, hkd⟩
  refine ss_mid (J := fun G1 S3 => ∃ (kds : List (List PyData)) (w' : Well) (L : Sto) (g7 : Option Cu.It), G1 = [some (.s ns), some (.d (.str x)), some (.o S2.length), some (.d (.list [a, b, d])), g4, some (.o (S2.length + 1)), none, g7] ∧ S3 = S2 ++ wellO w' :: .lst ((kds.map PyData.tuple).map .d) :: L ∧ kds.length ≤ 16 ∧ ∀ ds ∈ kds, ds.all nb = true ∧ ds.length ≤ 1000) ?_ ?_
  · refine ws_if (evt_eqI (ev_call c (ok__law_draw T) (eva_cons (ev_name 2) (eva_cons ev_int eva_nil)) (fun QR QE q => dr (by decide) (by decide) q)) ev_int) (fun _ => ?_) (fun _ => ss_nil ⟨kds, _, [], _, rfl, rfl, by omega, hkd⟩)
    have hat2 : ∀ (w' : Well) (u u2 : Own), (S2 ++ [wellO w', u, u2])[S2.length + 2]? = some u2 := fun w' u u2 => by rw [List.getElem?_append_right (by omega), show S2.length + 2 - S2.length = 2 by omega] <;> rfl
    have hst2 : ∀ (w' : Well) (u u2 v : Own), (S2 ++ [wellO w', u, u2]).set (S2.length + 2) v = S2 ++ [wellO w', u, v] := fun w' u u2 v => by rw [List.set_append_right _ _ (by omega), show S2.length + 2 - S2.length = 2 by omega] <;> rfl
    obtain ⟨lO, hlO⟩ : ∃ lO : Own, lO = .lst ((kds.map PyData.tuple).map .d) := ⟨_, rfl⟩
    have hin : ∀ (w' : Well) (L : Sto), (S2 ++ wellO w' :: lO :: L)[S2.length + 1]? = some (.lst ((kds.map PyData.tuple).map .d)) := fun w' L => by rw [hlO]; exact hat1 _ _ _
    rw [← hlO]
    obtain ⟨wd, hwd⟩ : ∃ wd, wd = drawW w' 4 := ⟨_, rfl⟩
    rw [← hwd]
    refine ss_cons (ws_set 7 c.nd (r := .o (S2.length + 2)) (S1 := S2 ++ [wellO wd, lO, .lst (sevens.map .d)]) (Ev.is2 (ev_lstO (eva_cons ev_int (eva_cons ev_int (eva_cons ev_int (eva_cons ev_int (eva_cons ev_int eva_nil)))))) (by rw [List.length_append] <;> rfl) (by rw [List.append_assoc] <;> rfl)) ?_)
    have a1 := draw_lo (w := wd) (m := 4) (by decide)
    have a2 := draw_hi (w := wd) (m := 4) (by decide)
    have b1 := draw_lo (w := drawW wd 4) (m := 5) (by decide)
    have b2 := draw_hi (w := drawW wd 4) (m := 5) (by decide)
    obtain ⟨fv, hfv, hfn⟩ := far_at a1 a2
    refine ss_cons (ws_setIx (i := S2.length + 2) (l := (drawV (drawW wd 4) 5).toNat) (rs := sevens.map .d) (S1 := S2 ++ [wellO (drawW wd 4), lO, .lst (sevens.map .d)]) (r := .d fv) (ev_ixL (ev_lst (ds := farL) (eva_cons (ev_pow ev_int ev_int ⟨by decide, by decide, by decide⟩) (eva_cons (ev_sub (ev_pow ev_int ev_int ⟨by decide, by decide, by decide⟩) ev_int) (eva_cons ev_bool (eva_cons ev_int eva_nil)))) rfl) (ev_call c (ok__law_draw T) (eva_cons (ev_name 2) (eva_cons ev_int eva_nil)) (fun QR QE q => dr (by decide) (by decide) q)) hfv) (ev_name 7) (ev_call c (ok__law_draw T) (eva_cons (ev_name 2) (eva_cons ev_int eva_nil)) (fun QR QE q => dr (by decide) (by decide) q)) (hat2 _ _ _) (by
      rw [List.length_map]
      exact ixN_of b1 b2) ?_)
    rw [hst2]
    obtain ⟨fs, hfs⟩ : ∃ fs, fs = sevens.set (drawV (drawW wd 4) 5).toNat fv := ⟨_, rfl⟩
    have hfnb : fs.all nb = true := by rw [hfs]; exact all_set rfl _ hfn
    have hfl : fs.length = 5 := by rw [hfs, List.length_set] <;> rfl
    have hset : ((sevens.map Cu.It.d).set (drawV (drawW wd 4) 5).toNat (.d fv)) = fs.map .d := by rw [hfs, List.map_set]
    rw [hset]
    obtain ⟨we, hwe⟩ : ∃ we, we = drawW (drawW wd 4) 5 := ⟨_, rfl⟩
    rw [← hwe]
    have c1 := draw_lo (w := we) (m := 3) (by decide)
    have c2 := draw_hi (w := we) (m := 3) (by decide)
    obtain ⟨n1, hn1⟩ : ∃ n1 : Int, atI [PyData.int 5, .int 5, .int 4] (drawV we 3) = some (.int n1) := by
      have : drawV we 3 = 0 ∨ drawV we 3 = 1 ∨ drawV we 3 = 2 := by omega
      rcases this with z | z | z <;> rw [z]
      · exact ⟨5, rfl⟩
      · exact ⟨5, rfl⟩
      · exact ⟨4, rfl⟩
    have hlsF : ∀ w' : Well, lsOf (S2 ++ [wellO w', lO, Own.lst (fs.map .d)]) (.o (S2.length + 2)) = some fs := fun w' => ls_own (hat2 _ _ _)
    obtain ⟨k1, k2⟩ := all_cut hfnb none (some n1)
    obtain ⟨k3, k4⟩ := all_cut hfnb none (some (drawV (drawW we 3) 4 / 3))
    have hal : (Cu.cutD fs none (some n1) ++ Cu.cutD fs none (some (drawV (drawW we 3) 4 / 3))).all nb = true := by rw [List.all_append, k1, k3] <;> rfl
    have hll : (Cu.cutD fs none (some n1) ++ Cu.cutD fs none (some (drawV (drawW we 3) 4 / 3))).length ≤ 10 := by rw [List.length_append]; omega
    refine ss_cons (ws_expr (ev_append (i := S2.length + 1) (xs := (kds.map PyData.tuple).map .d) (ev_name 5) (hin _ _) (ev_tupleL (ds := Cu.cutD fs none (some n1) ++ Cu.cutD fs none (some (drawV (drawW we 3) 4 / 3))) (z_tuple T) (ev_cat (ev_slTo (ev_name 7) (ev_ixL (ev_lst (eva_cons ev_int (eva_cons ev_int (eva_cons ev_int eva_nil)))) (ev_call c (ok__law_draw T) (eva_cons (ev_name 2) (eva_cons ev_int eva_nil)) (fun QR QE q => dr (by decide) (by decide) q)) hn1) (hlsF _)) (ev_slTo (ev_name 7) (ev_fdiv (ev_call c (ok__law_draw T) (eva_cons (ev_name 2) (eva_cons ev_int eva_nil)) (fun QR QE q => dr (by decide) (by decide) q)) ev_int ⟨by decide, by decide⟩) (hlsF _)) (by omega)) rfl) (hin _ _) (by rw [List.length_map, List.length_map]; omega)) (ss_nil ?_))
    subst hlO
    rw [hst1]
    refine ⟨kds ++ [_], _, _, _, rfl, by rw [List.map_append, List.map_append] <;> rfl, by rw [List.length_append]; show kds.length + 1 ≤ 16; omega, fun ds hds => ?_⟩
    rcases List.mem_append.mp hds with hds | hds
    · exact hkd ds hds
    · rw [List.mem_singleton.mp hds]
      exact ⟨hal, by omega⟩
  clear hk15 hkd kds w'
  rintro _ _ ⟨kds, w', L, g7, rfl, rfl, hk16, hkd⟩
  have hls : lsOf (S2 ++ wellO w' :: Own.lst ((kds.map PyData.tuple).map .d) :: L) (.o (S2.length + 1)) = some (kds.map .tuple) := ls_own (hat1 _ _ _)
  refine ss_cons (ws_ret (r := .d (.bool true)) (Ev.is (ev_eqB (ev_call c (ok__law_is_refused T) (eva_cons (ev_name 3) (eva_cons (ev_name 5) eva_nil)) (fun QR QE q => ⟨a, b, d, _, kds, rfl, na, nb', nd, hls, by omega, hkd, q⟩)) (ev_not (ev_call c (ok__law_good T) (eva_cons (ev_name 3) (eva_cons (ev_name 5) eva_nil)) (fun QR QE q => ⟨a, b, d, _, kds, rfl, na, nb', nd, hls, by omega, hkd, q⟩)))) (by rw [beq_self_eq_true])) (back_drop (S1 := []) _ cls_nil q))
end
end Pf
namespace Pf
open PySem PySem.Spec PyProof.Rows L2 He Cu
/-! ### the top's run -/
def loose0 : List PySem.Str := ["CopperError", "NoShape", "NoBoard", "NoRules", "NoDrawing", "NoSpan", "FIGURES", "MOST", "is_whole", "number_or_none", "numbers_or_none", "MOST_KEEPS", "MOST_NUMBER", "within", "is_keep", "Rules", "read_row", "read_rules", "_law_cell", "_law_mixed", "_law_twice", "_law_well", "_law_draw", "_law_is_number", "_law_spoilt_text", "_law_text", "_law_row", "_law_is_text", "_law_right", "_law_is_refused"]
def loose1 : List PySem.Str := ["_law_good"]
def loose : List PySem.Str := loose0 ++ loose1
abbrev R : PySem.W.OpenRow := PySem.W.OpenLaw.row PySem.Challenge.rw_copperbook_k32_no_rules
abbrev hk : PySem.W.Hook := hookC 5 fa fn
def ob (s : PySem.W.SharedT) : AlD := obsCG 5 fa fn (HandSHeadRun.getT s)
theorem ob_eq (s : PySem.W.SharedT) : ob s = hk.obs s.abs := obsCG_eq (HandSHeadRun.getT_eq s)
theorem run (w : World) : HandSHeadRun.RunEq R (PySem.W.view R.prog [35]) hk ob 8000 loose w := by
  intro os
  kernel_rfl
end Pf
open PySem PySem.W PySem.Calls PyProof.Rows
set_option maxHeartbeats 0 in
theorem PySem.Challenge.cw_copperbook_k32_no_rules_holds : PySem.Challenge.rw_copperbook_k32_no_rules.Holds := by
  w_on; o_law
  refine HandSHeadRun.head_any (r := Pf.R) (q := view Pf.R.prog [35]) (H := Pf.hk) (ob := Pf.ob) (M := 8000) (loose := Pf.loose) (d := HandSHeadRun.topDef Pf.R.prog 35) (kwd := []) Pf.ob_eq
    (by kernel_rfl) (fun s => by kernel_rfl) Pf.run (by kernel_rfl) (by kernel_rfl) (by kernel_rfl) (by rfl) (by first | assumption | decide +kernel) (by decide +kernel) ⟨rfl, rfl, rfl, rfl, rfl, by decide +kernel⟩ ?hw ?hc
  case hw => w_witness2
  case hc =>
    exact Cu.walk_w (l := PySem.Challenge.rw_copperbook_k32_no_rules) (fa := Pf.fa) (fn := Pf.fn) (k := 8) (x := "_law_script") rfl (by kernel_rfl) ⟨rfl, by decide, by decide⟩ (by kernel_rfl) fun w K mg T => ⟨Pf.g_law T, by
      obtain ⟨fd, Fd⟩ := Pf.d_law T
      exact ⟨fd, fun s u => L2.FunD.bindsA (ps := ["_law_script"]) Fd (fun _ _ _ _ _ _ us hl => match us, hl with | [_], _ => rfl) s [u] rfl, fun base => Pf.fn_law T Fd⟩⟩
