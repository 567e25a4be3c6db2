import PyProof.Rows.All
import Wide.All
import OpenK.AllK
import Wide.FinOn
import HandS.ForMost
import HandS.Deep
import HandS.TupAny
import HandS.TupMul
import HandS.IsInst
import HandS.SortInts
import HandS.Conv
import HandS.DictComp
import HandS.Flow
import KE.KDictKeyed
import KE.KDictWalk
import KE.KeyNested
import KE.SortData
import PyProof.ReprReads
import KE.KDictSum
import PyProof.Transfer
import HandS.Walk
import KE.GoesNew
import KE.KDictDisplayH
import HandS.ForExc
import HandS.ExcSuper
import KE.KExcSuper
import KE.DataAny
import HandS.Defaults
import KE.KIndexOf
import HandS.SetFor
import HandS.Strs
import HandS.Evl
import HandS.TupSets
import HandS.Lambda
import HandS.EndTab
import HandS.ExcIs
import KE.KExcIs
import HandS.RaiseMore
import PySem.Challenge.RW_onewitness_k25_whole_groups_that_keep
set_option Elab.async false
set_option linter.all false
section
set_option maxRecDepth 100000
set_option maxHeartbeats 0
open PySem PySem.W PyProof.Rows
open_top head for PySem.Challenge.rw_onewitness_k25_whole_groups_that_keep
end
section
set_option maxRecDepth 100000
set_option maxHeartbeats 4000000
/-! the persistent reading: data in the abstract heap -/
namespace G
open PySem PySem.Spec PyProof.Rows L2
/-- the heap has grown -/
abbrev Ex (H H' : Hp) : Prop := ∀ b o, H b = some o → H' b = some o
/-- all but the tables stays -/
abbrev Nx (H H' : Hp) : Prop := ∀ b o, H b = some o → (∀ ps, o ≠ .tbl ps) → H' b = some o
theorem Ex.rfl' {H : Hp} : Ex H H := fun _ _ h => h
theorem Ex.tr {H H1 H2 : Hp} (a : Ex H H1) (b : Ex H1 H2) : Ex H H2 := fun x o h => b x o (a x o h)
theorem Ex.n {H H1 : Hp} (a : Ex H H1) : Nx H H1 := fun x o h _ => a x o h
theorem Nx.rfl' {H : Hp} : Nx H H := fun _ _ h _ => h
theorem Nx.tr {H H1 H2 : Hp} (a : Nx H H1) (b : Nx H1 H2) : Nx H H2 := fun x o h n => b x o (a x o h n) n
theorem Ex.new {H : Hp} {p : Addr} {o : HO} (h : H p = none) : Ex H (upd H p o) := fun a u e => by
  rw [upd_ne (ne_of_none e h)]; exact e
/-- an object that the base does not know is changed -/
theorem Ex.mut {H H' : Hp} {p : Addr} {o : HO} (e : Ex H H') (h : H p = none) : Ex H (upd H' p o) := fun a u ha => by
  rw [upd_ne (ne_of_none ha h)]; exact e a u ha
theorem Ex.back {H H' : Hp} {p : Addr} (e : Ex H H') (h : H' p = none) : H p = none := by
  cases h1 : H p with
  | none => rfl
  | some o => rw [e p o h1] at h; cases h
mutual
/-- the value v stands for the data d -/
inductive R (H : Hp) : V → PyData → Prop
  | non : R H .non .none
  | bl (b : Bool) : R H (.bl b) (.bool b)
  | int (i : Int) : R H (.int i) (.int i)
  | str (x : Str) : R H (.str x) (.str x)
  | lst {a : Addr} {xs : List V} {ds : List PyData} : H a = some (.lst xs) → RAll H xs ds → R H (.ref a) (.list ds)
  | tup {a : Addr} {xs : List V} {ds : List PyData} : H a = some (.tup xs) → RAll H xs ds → R H (.ref a) (.tuple ds)
inductive RAll (H : Hp) : List V → List PyData → Prop
  | nil : RAll H [] []
  | cons {v : V} {vs : List V} {d : PyData} {ds : List PyData} : R H v d → RAll H vs ds → RAll H (v :: vs) (d :: ds)
end
mutual
theorem R.nx {H H' : Hp} (e : Nx H H') : ∀ (d : PyData) (v : V), R H v d → R H' v d
  | .none, _, .non => .non
  | .bool b, _, .bl _ => .bl b
  | .int i, _, .int _ => .int i
  | .str x, _, .str _ => .str x
  | .list ds, _, .lst h t => .lst (e _ _ h (fun _ z => by cases z)) (RAll.nx e ds _ t)
  | .tuple ds, _, .tup h t => .tup (e _ _ h (fun _ z => by cases z)) (RAll.nx e ds _ t)
theorem RAll.nx {H H' : Hp} (e : Nx H H') : ∀ (ds : List PyData) (vs : List V), RAll H vs ds → RAll H' vs ds
  | [], _, .nil => .nil
  | d :: ds, _, .cons h t => .cons (R.nx e d _ h) (RAll.nx e ds _ t)
end
theorem R.ex {H H' : Hp} {d : PyData} {v : V} (h : R H v d) (e : Ex H H') : R H' v d := R.nx e.n d v h
theorem RAll.ex {H H' : Hp} {d : List PyData} {v : List V} (h : RAll H v d) (e : Ex H H') : RAll H' v d := RAll.nx e.n d v h
mutual
theorem R.dp {K : PySem.W.Frag} {H : Hp} : ∀ (d : PyData) (v : V), R H v d → Dp K H v d
  | .none, _, .non => .non
  | .bool b, _, .bl _ => .bl b
  | .int i, _, .int _ => .int i
  | .str x, _, .str _ => .str x
  | .list ds, _, .lst h t => .lst (SqL.of h) (RAll.dp ds _ t)
  | .tuple ds, _, .tup h t => .tup (SqT.of h) (RAll.dp ds _ t)
theorem RAll.dp {K : PySem.W.Frag} {H : Hp} : ∀ (ds : List PyData) (vs : List V), RAll H vs ds → DpAll K H vs ds
  | [], _, .nil => .nil
  | d :: ds, _, .cons h t => .cons (R.dp d _ h) (RAll.dp ds _ t)
end
end G
end
section
set_option maxRecDepth 100000
set_option maxHeartbeats 4000000
/-! dicts whose keys are nested tuples, over the layer -/
namespace G
open PySem PySem.Spec PyProof.Rows L2
/-- at d: a dict, its entries' keys, addresses, values -/
def ND (P : Program) (w : World) (d : Addr) (xs : List (NestedKey × Addr × Value)) : HO := .ext fun h => ∃ o es ep, h.get? d = some o ∧ o.ExactDict ∧ o.data = .dict es ep ∧ es.toList = xs.map (entryOfKey (nestedKind P w))
mutual
theorem R.nested {P : Program} {w : World} {H : Hp} {h : Heap} (ok : HOk P w H h) : ∀ (k : NestedKey) (v : V) (u : Value), R H v k.data → RelV v u → NestedIs h k u
  | .none, _, _, r, ru => by
    cases r; cases ru; exact .none
  | .num i, _, _, r, ru => by
    cases r; obtain ⟨t, rfl⟩ := ru; exact .int i t
  | .text x, _, _, r, ru => by
    cases r; obtain ⟨t, rfl⟩ := ru; exact .text x t
  | .tup ks, _, _, r, ru => by
    have r' : R H _ (.tuple (NestedKey.datas ks)) := r
    cases r' with
    | @tup a xs _ ha t =>
      cases ru
      obtain ⟨_, its, rv, o, h1, h2, n, h3⟩ := (show ObjOk P w H h a (.tup xs) from ok a _ ha)
      exact .tup h1 h2 h3 (RAll.nested ok ks xs its t rv)
theorem RAll.nested {P : Program} {w : World} {H : Hp} {h : Heap} (ok : HOk P w H h) : ∀ (ks : List NestedKey) (vs : List V) (us : List Value), RAll H vs (NestedKey.datas ks) → Vals vs us → NestedAll h ks us
  | [], _, _, r, ru => by
    have r' : RAll H _ [] := r
    cases r'; cases ru; exact .nil
  | k :: ks, _, _, r, ru => by
    have r' : RAll H _ (k.data :: NestedKey.datas ks) := r
    cases r' with
    | cons h1 t1 =>
      cases ru with
      | cons h2 t2 => exact .cons (R.nested ok k _ _ h1 h2) (RAll.nested ok ks _ _ t1 t2)
end
/-- the entries, as the layer knows them -/
abbrev KN (H : Hp) : List (NestedKey × V) → List (NestedKey × Addr × Value) → Prop :=
  Paired fun (p : NestedKey × V) (q : NestedKey × Addr × Value) => p.1 = q.1 ∧ R H (.ref q.2.1) p.1.data ∧ p.1.depth ≤ 8 ∧ RelV p.2 q.2.2
theorem KN.nx {H H' : Hp} {kvs : List (NestedKey × V)} {xs} (r : KN H kvs xs) (e : Nx H H') : KN H' kvs xs := Paired.mapP r fun _ _ z => ⟨z.1, R.nx e _ _ z.2.1, z.2.2⟩
theorem KN.val {H : Hp} {kvs : List (NestedKey × V)} {xs : List (NestedKey × Addr × Value)} (r : KN H kvs xs) (k : NestedKey) : RelO (valV kvs k) ((atKey xs k).map (·.2)) := by
  induction r with
  | nil => exact True.intro
  | @cons p q ps qs h t ih =>
    obtain ⟨h1, _, _, h2⟩ := h
    by_cases e : p.1 = k
    · have e' : q.1 = k := h1.symm.trans e
      have b : atKey (q :: qs) k = some q.2 := by simp [atKey, List.find?_cons, e']
      rw [valV_pos e, b]; exact h2
    · have e' : ¬ q.1 = k := fun z => e (h1.trans z)
      have b : atKey (q :: qs) k = atKey qs k := by simp [atKey, List.find?_cons, e']
      rw [valV_neg e, b]; exact ih
theorem KN.keys {H : Hp} {kvs : List (NestedKey × V)} {xs : List (NestedKey × Addr × Value)} (r : KN H kvs xs) : kvs.map (·.1) = xs.map (·.1) := by
  induction r with
  | nil => rfl
  | cons h t ih => rw [List.map_cons, List.map_cons, ih, h.1]
/-- at d: a dict of the keys and values kvs, in order -/
def DN (P : Program) (w : World) (H : Hp) (d : Addr) (kvs : List (NestedKey × V)) : Prop :=
  (d == sysModules) = false ∧ kvs.length ≤ sizeLine ∧ (kvs.map (·.1)).Nodup ∧ ∃ xs, Rd H d (ND P w d xs) ∧ KN H kvs xs
/-- .. that may be changed -/
def DM (P : Program) (w : World) (H : Hp) (d : Addr) (kvs : List (NestedKey × V)) : Prop :=
  (d == sysModules) = false ∧ kvs.length ≤ sizeLine ∧ (kvs.map (·.1)).Nodup ∧ ∃ xs, H d = some (ND P w d xs) ∧ KN H kvs xs
section
variable {P : Program} {w : World} {H H' : Hp} {h : Heap} {d : Addr} {kvs : List (NestedKey × V)} {xs : List (NestedKey × Addr × Value)}
theorem DM.dn (x : DM P w H d kvs) : DN P w H d kvs := let ⟨a, b, c, xs, h, k⟩ := x; ⟨a, b, c, xs, .inl h, k⟩
theorem DM.nx (x : DM P w H d kvs) (e : Nx H H') : DM P w H' d kvs := let ⟨a, b, c, xs, h, k⟩ := x; ⟨a, b, c, xs, e _ _ h (fun _ z => by unfold ND at z; cases z), k.nx e⟩
theorem DM.ex (x : DM P w H d kvs) (e : Ex H H') : DM P w H' d kvs := x.nx e.n
theorem nd_ok (ok : ObjOk P w H h d (ND P w d xs)) : ∃ o es ep, h.get? d = some o ∧ o.ExactDict ∧ o.data = .dict es ep ∧ es.toList = xs.map (entryOfKey (nestedKind P w)) := by
  unfold ND at ok
  exact ok.1
theorem nd_mk (x : ∃ o es ep, h.get? d = some o ∧ o.ExactDict ∧ o.data = .dict es ep ∧ es.toList = xs.map (entryOfKey (nestedKind P w))) : ObjOk P w H h d (ND P w d xs) := by
  unfold ND
  refine ⟨x, ?_, fun h1 h2 z k => ?_⟩
  · obtain ⟨o, _, _, e, _⟩ := x; exact ⟨o, e⟩
  · obtain ⟨o, es, ep, e, r⟩ := z; exact ⟨o, es, ep, k _ e, r⟩
theorem KN.is (ok : HOk P w H h) (r : KN H kvs xs) : ∀ x ∈ xs, (nestedKind P w).is h x.1 x.2.1 := by
  induction r with
  | nil => intro x hx; exact nomatch hx
  | @cons p q ps qs hq t ih =>
    intro x hx
    rcases List.mem_cons.mp hx with e | hx
    · subst e
      rw [← hq.1]
      exact ⟨R.nested ok _ _ _ hq.2.1 rfl, hq.2.2.1⟩
    · exact ih x hx
theorem DN.dictOf (ok : HOk P w H h) (x : DN P w H d kvs) : ∃ xs, KN H kvs xs ∧ h.DictOfH (nestedKind P w) d xs ∧ Rd H d (ND P w d xs) := by
  obtain ⟨_, _, nd, xs, hd, k⟩ := x
  obtain ⟨o, es, ep, a, b, c, e⟩ := nd_ok (hd.ok ok)
  exact ⟨xs, k, ⟨o, es, ep, a, b, c, e, k.is ok, by rw [← k.keys]; exact nd⟩, hd⟩
theorem DM.dictOf (ok : HOk P w H h) (x : DM P w H d kvs) : ∃ xs, KN H kvs xs ∧ h.DictOfH (nestedKind P w) d xs ∧ H d = some (ND P w d xs) := by
  obtain ⟨_, _, nd, xs, hd, k⟩ := x
  obtain ⟨o, es, ep, a, b, c, e⟩ := nd_ok (ok d _ hd)
  exact ⟨xs, k, ⟨o, es, ep, a, b, c, e, k.is ok, by rw [← k.keys]; exact nd⟩, hd⟩
end
section
variable {X : Cx}
theorem room8 {A : Around} (hu : A.units + 64 < cLine) {prog : Program} {w : World} : (nestedKind prog w).room A.in1 := by
  show A.units + 1 + 8 < cLine
  omega
/-- x in d, x not in d: keys that are tuples -/
def rInN (P : Program) (w : World) (neg : Bool) : R2 := fun x y H Q => ∃ (a d : Addr) (k : NestedKey) (kvs : List (NestedKey × V)), x = .ref a ∧ y = .ref d ∧ R H (.ref a) k.data ∧ k.depth ≤ 8 ∧ DN P w H d kvs ∧
  Q (.bl (if neg then !(valV kvs k).isSome else (valV kvs k).isSome)) H
theorem op_inN (hu : X.A.units + 64 < cLine) : OpR X (compareOp .In) (rInN X.prog X.w false) := by
  intro pins s σ H x y v u Q I rx ry h
  obtain ⟨a, d, k, kvs, rfl, rfl, rk, hk, hd, q⟩ := h
  cases rx; cases ry
  obtain ⟨xs, kn, hm, _⟩ := hd.dictOf I.hok
  refine wpAny_in_heap (room8 hu) ⟨R.nested I.hok _ _ _ rk rfl, hk⟩ hd.1 hm ?_
  refine ⟨.bl _, H, I.tok _, rfl, ?_⟩
  have e := (kn.val k).isSome_eq
  rw [Option.isSome_map] at e
  rw [← e]
  exact q
theorem op_notInN (hu : X.A.units + 64 < cLine) : OpR X (compareOp .NotIn) (rInN X.prog X.w true) := by
  intro pins s σ H x y v u Q I rx ry h
  obtain ⟨a, d, k, kvs, rfl, rfl, rk, hk, hd, q⟩ := h
  cases rx; cases ry
  obtain ⟨xs, kn, hm, _⟩ := hd.dictOf I.hok
  have hk2 : s.heap.DictKeyed (nestedKind X.prog X.w) d (pairsH xs) := ⟨xs, hm, rfl⟩
  refine notIn_keyed (room8 hu) ⟨R.nested I.hok _ _ _ rk rfl, hk⟩ hd.1 hk2 ?_
  refine ⟨.bl _, H, I.tok _, rfl, ?_⟩
  rw [valueAt_pairsH, ← (kn.val k).isSome_eq]
  exact q
/-- len(d) -/
theorem KN.len {H : Hp} {kvs : List (NestedKey × V)} {xs : List (NestedKey × Addr × Value)} (r : KN H kvs xs) : kvs.length = xs.length := Paired.length r
def rLenN (P : Program) (w : World) : List V → Hp → VK → Prop := fun xs H Q => ∃ (d : Addr) (kvs : List (NestedKey × V)), xs = [.ref d] ∧ DN P w H d kvs ∧ Q (.int kvs.length) H
theorem cr_lenN : CallR X (.builtin "len") (rLenN X.prog X.w) := by
  intro pins s σ H xs us Q I r h
  obtain ⟨d, kvs, rfl, hd, q⟩ := h
  obtain rfl := Vals.ref1 r
  obtain ⟨xs, kn, hm, _⟩ := hd.dictOf I.hok
  have hl := kn.len
  have hk : s.heap.DictKeyed (nestedKind X.prog X.w) d (pairsH xs) := ⟨xs, hm, rfl⟩
  have hz := hd.2.1
  have hn : (pairsH xs).length = kvs.length := by rw [pairsH_length]; omega
  refine PyProof.Rows.call_len_slot (n := kvs.length) hm.typeIs F.slot_dict_len (fun Q' hq => len_keyed hd.1 hk (by rw [hn]; exact hq)) (by omega) (by rw [sizeLine_eq] at hz; omega) ?_
  exact ⟨.int kvs.length, H, I.tok _, ⟨_, rfl⟩, q⟩
end
end G
end
section
set_option maxRecDepth 100000
set_option maxHeartbeats 4000000
namespace G
open PySem PySem.Spec PyProof.Rows L2
/-- tuples stay -/
abbrev Tx (H H' : Hp) : Prop := ∀ b xs, H b = some (.tup xs) → H' b = some (.tup xs)
theorem Ex.t {H H' : Hp} (e : Ex H H') : Tx H H' := fun b xs h => e b _ h
theorem Nx.t {H H' : Hp} (e : Nx H H') : Tx H H' := fun b xs h => e b _ h (fun _ z => by cases z)
theorem Tx.tr {H H1 H2 : Hp} (a : Tx H H1) (b : Tx H1 H2) : Tx H H2 := fun x o h => b x o (a x o h)
theorem Tx.put {H : Hp} {d : Addr} {o u : HO} (h : H d = some o) (n : ∀ xs, o ≠ .tup xs) : Tx H (upd H d u) := fun b xs e => by
  rw [upd_ne (fun z => by subst z; rw [h] at e; exact n xs (Option.some.inj e))]; exact e
mutual
/-- no list within -/
def noL : PyData → Bool
  | .list _ => false
  | .tuple ds => noLs ds
  | .dict _ => false
  | _ => true
def noLs : List PyData → Bool
  | [] => true
  | d :: ds => noL d && noLs ds
end
mutual
theorem R.tx {H H' : Hp} (e : Tx H H') : ∀ (d : PyData) (v : V), noL d = true → R H v d → R H' v d
  | .none, _, _, .non => .non
  | .bool b, _, _, .bl _ => .bl b
  | .int i, _, _, .int _ => .int i
  | .str x, _, _, .str _ => .str x
  | .list ds, _, n, .lst h t => by simp [noL] at n
  | .tuple ds, _, n, .tup h t => .tup (e _ _ h) (RAll.tx e ds _ (by simpa [noL] using n) t)
theorem RAll.tx {H H' : Hp} (e : Tx H H') : ∀ (ds : List PyData) (vs : List V), noLs ds = true → RAll H vs ds → RAll H' vs ds
  | [], _, _, .nil => .nil
  | d :: ds, _, n, .cons h t => by
    simp only [noLs, Bool.and_eq_true] at n
    exact .cons (R.tx e d _ n.1 h) (RAll.tx e ds _ n.2 t)
end
mutual
theorem noL_key : ∀ k : NestedKey, noL k.data = true
  | .none => rfl
  | .num _ => rfl
  | .text _ => rfl
  | .tup ks => by
    show noLs (NestedKey.datas ks) = true
    exact noL_keys ks
theorem noL_keys : ∀ ks : List NestedKey, noLs (NestedKey.datas ks) = true
  | [] => rfl
  | k :: ks => by
    show (noL k.data && noLs (NestedKey.datas ks)) = true
    rw [noL_key k, noL_keys ks]; rfl
end
theorem KN.tx {H H' : Hp} {kvs : List (NestedKey × V)} {xs} (r : KN H kvs xs) (e : Tx H H') : KN H' kvs xs := Paired.mapP r fun _ _ z => ⟨z.1, R.tx e _ _ (noL_key _) z.2.1, z.2.2⟩
theorem KN.repl {H : Hp} {kvs : List (NestedKey × V)} {xs : List (NestedKey × Addr × Value)} (r : KN H kvs xs) (k : NestedKey) {y : V} {u : Value} (ry : RelV y u) :
    KN H (kvs.map fun kv => if kv.1 = k then (kv.1, y) else kv) (xs.map (putAt k u)) := by
  induction r with
  | nil => exact .nil
  | @cons p q ps qs h t ih =>
    rw [List.map_cons, List.map_cons]
    refine .cons ?_ ih
    obtain ⟨h1, h2, h2', h3⟩ := h
    unfold putAt
    by_cases e : p.1 = k
    · rw [if_pos e, if_pos (h1.symm.trans e)]; exact ⟨h1, h2, h2', ry⟩
    · rw [if_neg e, if_neg (fun z => e (h1.trans z))]; exact ⟨h1, h2, h2', h3⟩
theorem KN.put {H : Hp} {kvs : List (NestedKey × V)} {xs : List (NestedKey × Addr × Value)} (r : KN H kvs xs) (k : NestedKey) {b : Addr} {y : V} {u : Value} (hb : R H (.ref b) k.data) (hk : k.depth ≤ 8) (ry : RelV y u) :
    KN H (putK kvs k y) (storedH xs k b u) := by
  have e : (kvs.any fun kv => decide (kv.1 = k)) = (atKey xs k).isSome := by
    rw [valV_any, (r.val k).isSome_eq, Option.isSome_map]
  unfold putK storedH
  rw [e]
  by_cases q : (atKey xs k).isSome = true
  · rw [if_pos q, if_pos q]; exact r.repl k ry
  · rw [if_neg q, if_neg q]; exact Paired.snoc r ⟨rfl, hb, hk, ry⟩
theorem nd_notup {P : Program} {w : World} {d : Addr} {xs : List (NestedKey × Addr × Value)} : ∀ ys, ND P w d xs ≠ .tup ys := fun ys z => by unfold ND at z; cases z
theorem nd_mut {P : Program} {w : World} {d : Addr} {xs : List (NestedKey × Addr × Value)} : Mut (some (ND P w d xs)) := by unfold ND; trivial
section
variable {X : Cx} {pins : List (Addr × Obj)} {σ : L2.St} {H : Hp} {s : Shared}
/-- d has been given a key: the new state -/
theorem nd_stored {d a : Addr} {k : NestedKey} {v : V} {u : Value} {kvs : List (NestedKey × V)} {xs : List (NestedKey × Addr × Value)} {h' : Heap} {tk : Nat} (I : Inv X pins σ H s) (hd : H d = some (ND X.prog X.w d xs)) (lo : (d == sysModules) = false) (kn : KN H kvs xs)
    (rk : R H (.ref a) k.data) (hk : k.depth ≤ 8) (rv : RelV v u) (hz : kvs.length < sizeLine) (hm' : h'.DictOfH (nestedKind X.prog X.w) d (storedH xs k a u)) (hs : Heap.SameBut d s.heap h') :
    Inv X pins σ (upd H d (ND X.prog X.w d (storedH xs k a u))) { s with heap := h', toks := tk } ∧ DM X.prog X.w (upd H d (ND X.prog X.w d (storedH xs k a u))) d (putK kvs k v) := by
  have tx : Tx H (upd H d (ND X.prog X.w d (storedH xs k a u))) := Tx.put hd nd_notup
  have kn' := (kn.put k rk hk rv).tx tx
  obtain ⟨o, es, ep, ho, hx, hdat, he, his, hn⟩ := hm'
  refine ⟨I.write (x := d) (e := d) (by rw [hd]; exact nd_mut) (.inl rfl) (fun b u' hb e => (hs.2 b hb).trans e) ⟨_, ho⟩ (nd_mk ⟨o, es, ep, ho, hx, hdat, he⟩), lo, ?_, ?_, _, upd_same, kn'⟩
  · have := length_putK kvs k v; omega
  · rw [kn'.keys]; exact hn
end
section
variable {X : Cx}
/-- d[k] = v -/
def rSetN (P : Program) (w : World) : TSet := fun o i v H Q => ∃ (a d : Addr) (k : NestedKey) (kvs : List (NestedKey × V)), o = .ref d ∧ i = .ref a ∧ R H (.ref a) k.data ∧ k.depth ≤ 8 ∧ DM P w H d kvs ∧ kvs.length < sizeLine ∧
  ∀ u, DM P w (upd H d u) d (putK kvs k v) → Q (upd H d u)
theorem set_N (hu : X.A.units + 64 < cLine) : PSet X (rSetN X.prog X.w) := by
  intro pins s σ H o i v ov iv u Q I ro ri rv h
  obtain ⟨a, d, k, kvs, rfl, rfl, rk, hk, hd, hz, q⟩ := h
  cases ro; cases ri
  obtain ⟨xs, kn, hm, hH⟩ := hd.dictOf I.hok
  have hl := kn.len
  refine wpAny_setItem_heap (hsz := by omega) (room8 hu) ⟨R.nested I.hok _ _ _ rk rfl, hk⟩ hm fun h' hm' hs => ?_
  obtain ⟨I', D'⟩ := nd_stored (tk := s.toks + (nestedKind X.prog X.w).draws k) I hH hd.1 kn rk hk rv hz hm' hs
  exact ⟨_, I', q _ D'⟩
/-- d.setdefault(k, x) -/
def rSetdN (P : Program) (w : World) : V → List V → Hp → VK → Prop := fun x xs H Q => ∃ (a d : Addr) (z : V) (k : NestedKey) (kvs : List (NestedKey × V)), x = .ref d ∧ xs = [.ref a, z] ∧ R H (.ref a) k.data ∧ k.depth ≤ 8 ∧ DM P w H d kvs ∧ kvs.length < sizeLine ∧
  (∀ v, valV kvs k = some v → Q v H) ∧ (valV kvs k = none → ∀ u, DM P w (upd H d u) d (putK kvs k z) → Q z (upd H d u))
theorem mt_setdN (hu : X.A.units + 64 < cLine) : MtR X "dict.setdefault" (rSetdN X.prog X.w) := by
  intro pins s σ H x xs v us Q I rx rxs h
  obtain ⟨a, d, z, k, kvs, rfl, rfl, rk, hk, hd, hz, q1, q2⟩ := h
  cases rx
  cases rxs with
  | cons r1 r2 =>
    cases r2 with
    | cons r2 r3 =>
      cases r3
      cases r1
      rename_i u
      obtain ⟨xs, kn, hm, hH⟩ := hd.dictOf I.hok
      have hl := kn.len
      have kv := kn.val k
      refine call_setdefault_heap (hsz := by omega) (room8 hu) ⟨R.nested I.hok _ _ _ rk rfl, hk⟩ hd.1 hm (fun p hp => ?_) (fun hn h' hm' hs => ?_)
      · rw [hp] at kv
        cases hv : valV kvs k with
        | none => rw [hv] at kv; exact False.elim kv
        | some v0 =>
          rw [hv] at kv
          exact ⟨v0, H, I.tok _, kv, q1 v0 hv⟩
      · rw [hn] at kv
        cases hv : valV kvs k with
        | some v0 => rw [hv] at kv; exact False.elim kv
        | none =>
          obtain ⟨I', D'⟩ := nd_stored (tk := s.toks + (nestedKind X.prog X.w).draws k) I hH hd.1 kn rk hk r2 hz hm' hs
          exact ⟨z, _, I', r2, q2 hv _ D'⟩
end
end G
end
section
set_option maxRecDepth 100000
set_option maxHeartbeats 4000000
namespace G
open PySem PySem.Spec PyProof.Rows L2
/-! ### lists of data -/
theorem RAll.length {H : Hp} : ∀ {vs : List V} {ds : List PyData}, RAll H vs ds → vs.length = ds.length
  | _, _, .nil => rfl
  | _, _, .cons _ t => by rw [List.length_cons, List.length_cons, RAll.length t]
theorem RAll.get {H : Hp} : ∀ {vs : List V} {ds : List PyData} {i : Nat} {v : V}, RAll H vs ds → vs[i]? = some v → ∃ d, ds[i]? = some d ∧ R H v d
  | _, _, _, _, .nil, e => by simp at e
  | _, _, 0, _, .cons h _, e => by simp at e; subst e; exact ⟨_, rfl, h⟩
  | _, _, i + 1, v, .cons _ t, e => by
    obtain ⟨d, h1, h2⟩ := RAll.get (i := i) t (by simpa using e)
    exact ⟨d, by simpa using h1, h2⟩
theorem RAll.at {H : Hp} : ∀ {vs : List V} {ds : List PyData} {i : Nat} {d : PyData}, RAll H vs ds → ds[i]? = some d → ∃ v, vs[i]? = some v ∧ R H v d
  | _, _, _, _, .nil, e => by simp at e
  | _, _, 0, _, .cons h _, e => by simp at e; subst e; exact ⟨_, rfl, h⟩
  | _, _, i + 1, v, .cons _ t, e => by
    obtain ⟨d, h1, h2⟩ := RAll.at (i := i) t (by simpa using e)
    exact ⟨d, by simpa using h1, h2⟩
theorem RAll.app {H : Hp} : ∀ {vs ws : List V} {ds es : List PyData}, RAll H vs ds → RAll H ws es → RAll H (vs ++ ws) (ds ++ es)
  | _, _, _, _, .nil, q => q
  | _, _, _, _, .cons h t, q => .cons h (RAll.app t q)
theorem RAll.one {H : Hp} {v : V} {d : PyData} (h : R H v d) : RAll H [v] [d] := .cons h .nil
theorem RAll.ints {H : Hp} : ∀ ns : List Int, RAll H (ns.map V.int) (ns.map PyData.int)
  | [] => .nil
  | n :: ns => .cons (.int n) (RAll.ints ns)
theorem RAll.ofInts {H : Hp} : ∀ {ns : List Int} {vs : List V}, RAll H vs (ns.map PyData.int) → vs = ns.map V.int
  | [], vs, r => by
    have r' : RAll H vs [] := r
    cases r'; rfl
  | n :: ns, vs, r => by
    have r' : RAll H vs (.int n :: ns.map PyData.int) := r
    cases r' with
    | cons h t => cases h; rw [RAll.ofInts t]; rfl
theorem RAll.of {H : Hp} : ∀ {ps : List (PyData × V)}, (∀ p ∈ ps, R H p.2 p.1) → RAll H (ps.map (·.2)) (ps.map (·.1))
  | [], _ => .nil
  | p :: ps, h => .cons (h p List.mem_cons_self) (RAll.of fun q hq => h q (List.mem_cons_of_mem _ hq))
theorem RAll.zip {H : Hp} : ∀ {vs : List V} {ds : List PyData}, RAll H vs ds → ∃ ps : List (PyData × V), ps.map (·.2) = vs ∧ ps.map (·.1) = ds ∧ ∀ p ∈ ps, R H p.2 p.1
  | _, _, .nil => ⟨[], rfl, rfl, fun _ h => by simp at h⟩
  | v :: _, d :: _, .cons h t => by
    obtain ⟨ps, e1, e2, e3⟩ := RAll.zip t
    refine ⟨(d, v) :: ps, by rw [List.map_cons, e1], by rw [List.map_cons, e2], fun p hp => ?_⟩
    rcases List.mem_cons.mp hp with e | hp
    · subst e; exact h
    · exact e3 p hp
/-! ### sorted(list of data) -/
theorem each_of_vals : ∀ {vs : List V} {us : List Value}, Vals vs us → ∀ {ps : List (PyData × V)}, ps.map (·.2) = vs → PySem.W.EachIs (fun (u : Value) (b : PyData × V) => RelV b.2 u) us ps
  | _, _, .nil, [], _ => .nil
  | _, _, .nil, _ :: _, e => by simp at e
  | _, _, .cons r t, p :: ps, e => by
    rw [List.map_cons] at e
    injection e with e1 e2
    exact .cons (by rw [e1]; exact r) (each_of_vals t e2)
  | _, _, .cons r t, [], e => by simp at e
theorem vals_of_each : ∀ {us : List Value} {ps : List (PyData × V)}, PySem.W.EachIs (fun (u : Value) (b : PyData × V) => RelV b.2 u) us ps → Vals (ps.map (·.2)) us
  | _, _, .nil => .nil
  | _, _, .cons r t => .cons r (vals_of_each t)
/-- Python's order of data -/
noncomputable abbrev sortD (ds : List PyData) : List PyData := ds.mergeSort (PySem.W.dataLe false fun d => d)
theorem sort_fst (ps : List (PyData × V)) : (ps.mergeSort (PySem.W.dataLe false fun p => p.1)).map (·.1) = sortD (ps.map (·.1)) := PySem.W.sort_maps _ fun _ _ _ _ => rfl
/-- sorted(x): x a list of data that are alike -/
def rSortD (K : PySem.W.Frag) : List V → Hp → VK → Prop := fun xs H Q => ∃ (a : Addr) (vs : List V) (ds : List PyData), xs = [.ref a] ∧ SqL K H a vs ∧ RAll H vs ds ∧ PySem.W.AllAlike ds ∧ PySem.W.Sortable ds ∧ (∀ d ∈ ds, d.depth ≤ 60) ∧
  ∀ p out, H p = none → RAll H out (sortD ds) → Q (.ref p) (upd H p (.lst out))
theorem cr_sortD (hu : X.A.units + 64 < cLine) : CallR X (.builtin "sorted") (rSortD X.K) := by
  intro pins s σ H xs us Q I r h
  obtain ⟨a, vs, ds, rfl, hs, ra, hal, hk, hd, q⟩ := h
  obtain rfl := Vals.ref1 r
  obtain ⟨its, rv, hl, hz⟩ := I.list hs
  obtain ⟨ps, e1, e2, e3⟩ := ra.zip
  subst e1 e2
  have each := each_of_vals rv rfl
  have er : PySem.W.EachIs (fun (u : Value) (b : PyData × V) => ∃ as, Reads s.heap u b.1 as) its ps := by
    have aux : ∀ {us : List Value} {qs : List (PyData × V)}, PySem.W.EachIs (fun (u : Value) (b : PyData × V) => RelV b.2 u) us qs → (∀ p ∈ qs, R H p.2 p.1) → PySem.W.EachIs (fun (u : Value) (b : PyData × V) => ∃ as, Reads s.heap u b.1 as) us qs := by
      intro us qs x
      induction x with
      | nil => intro _; exact .nil
      | @cons u b us qs r t ih => intro h; exact .cons (Dp.reads I _ _ _ (R.dp _ _ (h b List.mem_cons_self)) r) (ih fun p hp => h p (List.mem_cons_of_mem _ hp))
    exact aux each e3
  have hlen : ps.length ≤ sizeLine := by rw [List.length_map] at hz; exact hz
  refine PySem.W.sorted_data (enc := fun b : PyData × V => b.1) hl.isList each er hal hk hlen (fun b hb => ?_) fun out h1 h2 => ?_
  · have := hd b.1 (List.mem_map_of_mem hb)
    omega
  · obtain ⟨ep, he'⟩ := PyProof.Rows.sortedAll_at s.heap its out.toArray
    have vo := vals_of_each h2
    have rm : RAll H ((ps.mergeSort (PySem.W.dataLe false fun b => b.1)).map (·.2)) (sortD (ps.map (·.1))) := by
      rw [← sort_fst]
      exact RAll.of fun p hp => e3 p ((List.mergeSort_perm _ _).mem_iff.mp hp)
    have hz2 : ((ps.mergeSort (PySem.W.dataLe false fun b => b.1)).map (·.2)).length ≤ sizeLine := by rw [List.length_map, List.length_mergeSort]; exact hlen
    exact ⟨.ref _, _, I.laid (t' := s.toks) (o := .lst ((ps.mergeSort (PySem.W.dataLe false fun b => b.1)).map (·.2))) (fun _ _ => PyProof.Rows.sortedAll_old) (Nat.le_succ _) ⟨hz2, out, ep, vo, he'⟩, rfl, q _ _ (I.hok.fresh (Nat.le_succ _)) rm⟩
end G
end
section
set_option maxRecDepth 100000
set_option maxHeartbeats 4000000
namespace G
open PySem PySem.Spec PyProof.Rows L2
theorem KN.refs {H : Hp} {kvs : List (NestedKey × V)} {xs : List (NestedKey × Addr × Value)} (r : KN H kvs xs) : RAll H (xs.map fun x => V.ref x.2.1) (kvs.map fun p => p.1.data) := by
  induction r with
  | nil => exact .nil
  | cons h t ih => exact .cons h.2.1 ih
theorem refs_vals (xs : List (NestedKey × Addr × Value)) : Vals (xs.map fun x => V.ref x.2.1) (xs.map fun x => Value.ref x.2.1) := by
  induction xs with
  | nil => exact .nil
  | cons x xs ih => exact .cons rfl ih
theorem nd_acc {es : Array DictEntry} {xs : List (NestedKey × Addr × Value)} {acc : Array Value} (hs : es.size = xs.length) (hx : ∀ i (hi : i < es.size), ∃ y, xs[i]? = some y ∧ es[i].key = .ref y.2.1)
    (it : ItemsOf (fun i v => ∃ hi : i < es.size, v = es[i].key) acc es.size) : acc.toList = xs.map fun x => Value.ref x.2.1 := by
  have hl : acc.toList.length = xs.length := by rw [Array.length_toList, it.1]; exact hs
  apply List.ext_getElem?
  intro j
  rw [List.getElem?_map]
  cases hj : acc.toList[j]? with
  | none =>
    have h1 := List.getElem?_eq_none_iff.mp hj
    rw [List.getElem?_eq_none (by omega)]
    rfl
  | some v =>
    obtain ⟨hi, hv⟩ := it.2 j v (by rw [← Array.getElem?_toList]; exact hj)
    obtain ⟨y, hy, hk⟩ := hx j hi
    rw [hy, hv, hk]
    rfl
section
variable {X : Cx}
/-- list(d) -/
def rListN (P : Program) (w : World) : List V → Hp → VK → Prop := fun xs H Q => ∃ (d : Addr) (kvs : List (NestedKey × V)), xs = [.ref d] ∧ DN P w H d kvs ∧
  ∀ p out, H p = none → RAll H out (kvs.map fun q => q.1.data) → Q (.ref p) (upd H p (.lst out))
theorem cr_listN (hc : X.calm = true) : CallR X (.type "list") (rListN X.prog X.w) := by
  intro pins s σ H xs us Q I r h
  obtain ⟨d, kvs, rfl, hd, q⟩ := h
  obtain rfl := Vals.ref1 r
  obtain ⟨xs, kn, hm, _⟩ := hd.dictOf I.hok
  obtain ⟨es, ep, raw, hs, hx⟩ := hm.raw
  have hl := kn.len
  have hz := hd.2.1
  refine PySem.W.kdl_call (PySem.KdlSrc.rawDict hd.1) (I.ok.hd hc) raw (by omega) fun h' tk acc c kp e it => ?_
  have ea := nd_acc hs (fun i hi => by obtain ⟨y, a, b, _⟩ := hx i hi; exact ⟨y, a, b⟩) it
  refine ⟨.ref s.heap.objs.size, _, I.laid (t' := tk) (o := .lst (xs.map fun x => V.ref x.2.1)) kp (Nat.le_refl _) ⟨by rw [List.length_map]; omega, acc.toList, c, by rw [ea]; exact refs_vals xs, by rw [Array.toArray_toList]; exact e⟩, rfl, q _ _ (I.hok.fresh (Nat.le_refl _)) kn.refs⟩
/-- sorted(d) -/
def rSortN (P : Program) (w : World) : List V → Hp → VK → Prop := fun xs H Q => ∃ (d : Addr) (kvs : List (NestedKey × V)), xs = [.ref d] ∧ DN P w H d kvs ∧ PySem.W.AllAlike (kvs.map fun q => q.1.data) ∧ PySem.W.Sortable (kvs.map fun q => q.1.data) ∧ (∀ q ∈ kvs, q.1.data.depth ≤ 50) ∧
  ∀ p out, H p = none → RAll H out (sortD (kvs.map fun q => q.1.data)) → Q (.ref p) (upd H p (.lst out))
theorem cr_sortN (hc : X.calm = true) (hu : X.A.units + 64 < cLine) : CallR X (.builtin "sorted") (rSortN X.prog X.w) := by
  intro pins s σ H xs us Q I r h
  obtain ⟨d, kvs, rfl, hd, hal, hk, hdp, q⟩ := h
  obtain rfl := Vals.ref1 r
  obtain ⟨xs, kn, hm, _⟩ := hd.dictOf I.hok
  obtain ⟨es, ep, raw, hs, hx⟩ := hm.raw
  have hl := kn.len
  have hz := hd.2.1
  refine Calls.call_function_entry PyProof.Rows.kind_sorted PyProof.Rows.plain_sorted PyProof.Rows.entry_sorted (PyProof.Rows.args_sorted1 _) ?_
  unfold Builtin.«sorted»
  refine wpAny_bind (m := checkCount "sorted" 1 1 _) (wpAny_pure ?_)
  refine wpAny_bind (PySem.W.kdu_collect (A := X.A.in1) (PySem.KdlSrc.rawDict hd.1) (I.ok.hd hc) raw (by omega) fun h' tk acc kp it => ?_)
  have ea := nd_acc hs (fun i hi => by obtain ⟨y, a, b, _⟩ := hx i hi; exact ⟨y, a, b⟩) it
  have I1 : Inv X pins σ H { s with heap := h', toks := tk } := I.kept kp
  rw [ea]
  refine wpAny_bind (wpAny_newList ?_ (by rw [List.length_map]; omega))
  have ra := kn.refs
  obtain ⟨ps, e1, e2, e3⟩ := ra.zip
  have each := each_of_vals (refs_vals xs) e1
  generalize hvs : (xs.map fun x => Value.ref x.2.1) = vs at each
  rw [← e2] at hal hk
  have hoL : (h'.push (seqObj "list" vs.toArray 0)).get? h'.objs.size = some (seqObj "list" vs.toArray 0) := Heap.get?_push_size _ rfl
  show wpAny _ _ _ _ _ { s with heap := h'.push (seqObj "list" vs.toArray 0), toks := tk }
  have er : PySem.W.EachIs (fun (u : Value) (b : PyData × V) => ∃ as, Reads (h'.push (seqObj "list" vs.toArray 0)) u b.1 as ∧ h'.objs.size ∉ as) vs ps := by
    have aux : ∀ {us : List Value} {qs : List (PyData × V)}, PySem.W.EachIs (fun (u : Value) (b : PyData × V) => RelV b.2 u) us qs → (∀ p ∈ qs, R H p.2 p.1) →
        PySem.W.EachIs (fun (u : Value) (b : PyData × V) => ∃ as, Reads (h'.push (seqObj "list" vs.toArray 0)) u b.1 as ∧ h'.objs.size ∉ as) us qs := by
      intro us qs x
      induction x with
      | nil => intro _; exact .nil
      | @cons u b us qs r t ih =>
        intro h
        obtain ⟨as, ra⟩ := Dp.reads I1 _ _ _ (R.dp _ _ (h b List.mem_cons_self)) r
        refine .cons ⟨as, PyProof.Rows.Reads.keeps (fun _ _ e => Heap.get?_push_of_some _ e) ra, fun hm => ?_⟩ (ih fun p hp => h p (List.mem_cons_of_mem _ hp))
        obtain ⟨o, ho⟩ := PyProof.On.reads_mem_get ra _ hm
        exact absurd (Heap.lt_size ho) (Nat.lt_irrefl _)
    exact aux each e3
  have hlen : ps.length ≤ sizeLine := by
    have := congrArg List.length e1
    rw [List.length_map, List.length_map] at this
    omega
  refine wpAny_bind (wpAny_holding (PySem.W.list_sort_data (s := { s with heap := h'.push (seqObj "list" vs.toArray 0), toks := tk }) (enc := fun b : PyData × V => b.1) hoL each er hal hk hlen (fun b hb => ?_) fun out h1 h2 => ?_))
  · obtain ⟨q0, hq0, e0⟩ := List.mem_map.mp (show b.1 ∈ kvs.map (fun q => q.1.data) by rw [← e2]; exact List.mem_map_of_mem hb)
    have := hdp q0 hq0
    rw [e0] at this
    show X.A.units + 1 + 1 + b.1.depth < cLine
    omega
  · obtain ⟨e', he'⟩ := PyProof.Rows.sortedHeap_at (vs := vs) (out := out.toArray) hoL
    have vo := vals_of_each h2
    have rm : RAll H ((ps.mergeSort (PySem.W.dataLe false fun b => b.1)).map (·.2)) (sortD (kvs.map fun q => q.1.data)) := by
      rw [← e2, ← sort_fst]
      exact RAll.of fun p hp => e3 p ((List.mergeSort_perm _ _).mem_iff.mp hp)
    have hz2 : ((ps.mergeSort (PySem.W.dataLe false fun b => b.1)).map (·.2)).length ≤ sizeLine := by rw [List.length_map, List.length_mergeSort]; exact hlen
    refine wpAny_pure ⟨_, rfl, .ref h'.objs.size, _, I1.laid (t' := tk) (o := .lst ((ps.mergeSort (PySem.W.dataLe false fun b => b.1)).map (·.2))) (fun b u e => ?_) (Nat.le_refl _) ⟨hz2, out, e', vo, he'⟩, rfl, q _ _ (I1.hok.fresh (Nat.le_refl _)) rm⟩
    have hb : b < h'.objs.size := Heap.lt_size e
    rw [PyProof.Rows.sortedHeap_old (Nat.ne_of_lt hb) (by rw [Heap.size_push]; exact Nat.lt_succ_of_lt hb)]
    exact Heap.get?_push_of_some _ e
end
end G
end
section
set_option maxRecDepth 100000
set_option maxHeartbeats 4000000
namespace G
open PySem PySem.Spec PyProof.Rows L2
/-! ### {k: v}: one pair, the key nested tuples -/
def tDisp1N (P : Program) (w : World) (tk tv : TE) : TE := fun σ H Q => ∀ d, H d = none → tk σ (upd H d (ND P w d [])) fun x H1 => tv σ H1 fun y H2 => H2 d = some (ND P w d []) ∧
  ∃ (a : Addr) (k : NestedKey), x = .ref a ∧ R H2 (.ref a) k.data ∧ k.depth ≤ 8 ∧ ∀ u, DM P w (upd H2 d u) d [(k, y)] → Q (.ref d) (upd H2 d u)
section
variable {X : Cx}
theorem pe_disp1N {k v : Expr} {pos : Pos} {tk tv : TE} (hu : X.A.units + 64 < cLine) (hk : PE X k tk) (hv : PE X v tv) : PE X (.Dict [some k] [v] pos) (tDisp1N X.prog X.w tk tv) := by
  refine ⟨fun pins s σ H Q I h => ?_⟩
  have hn := I.hok.fresh (Nat.le_refl s.heap.objs.size)
  have lo : (s.heap.objs.size == sysModules) = false := beq_eq_false_iff_ne.mpr (Nat.ne_of_gt I.big)
  have I1 := I.laid (a := s.heap.objs.size) (o := ND X.prog X.w s.heap.objs.size []) (h' := s.heap.push { cls := .type "dict", data := .dict #[] }) (t' := s.toks) (fun _ _ q => Heap.get?_push_of_some _ q) (Nat.le_refl _)
    (nd_mk ⟨_, #[], 0, Heap.get?_push_size _ rfl, ⟨rfl, rfl, rfl⟩, rfl, rfl⟩)
  rw [arm_eval_Dict, zip_pairTrees [some k] [v] X.env pos rfl rfl, dictDisplay_pairs _ (by intro e; cases e) (by show 1 < 17; decide)]
  refine wpAny_bind (wpAny_standAt (wpAny_bind (wpAny_subDictH (knd := nestedKind X.prog X.w) (by show X.A.units + 8 < cLine; omega) (by show 1 ≤ 15; decide) (pairTrees_cons_walk ?_))))
  refine thn (hk.run pins _ σ _ _ I1 (h _ hn)) fun u1 s1 ⟨x, H1, I2, rx, q1⟩ => thn (hv.run pins s1 σ H1 _ I2 q1) fun u2 s2 ⟨y, H2, I3, ry, hd, a, kk, ex, rk, hdp, q⟩ => pairTrees_nil_walk ?_
  subst ex
  cases rx
  obtain ⟨o, es, ep, g1, g2, g3, g4⟩ := nd_ok (I3.hok _ _ hd)
  refine ⟨[(kk, a, u2)], ⟨rfl, rfl, ⟨R.nested I3.hok _ _ _ rk rfl, hdp⟩, trivial⟩, ⟨o, es, ep, g1, g2, g3, g4, fun _ z => by simp at z, List.nodup_nil⟩, fun h' tkk hm hs => ?_⟩
  obtain ⟨I4, D4⟩ := nd_stored (xs := []) (kvs := []) (tk := tkk) I3 hd lo .nil rk hdp ry (by decide) hm hs
  exact wpAny_pure ⟨.ref _, _, I4, rfl, q _ D4⟩
end
/-! ### a dict's keys, walked under its lock -/
def ItN (P : Program) (w : World) (d : Addr) (o : Obj) (xs : List (NestedKey × Addr × Value)) : It :=
  ⟨fun i H => H d = some (.frz o (ND P w d xs)) ∧ i < xs.length, fun i H x H' => H' = H ∧ ∃ y, xs[i]? = some y ∧ x = .ref y.2.1, fun i H => H d = some (.frz o (ND P w d xs)) ∧ xs.length ≤ i⟩
theorem walk_ndKeys {P : Program} {w : World} {d : Addr} {o : Obj} {xs : List (NestedKey × Addr × Value)} : Walk (ItN P w d o xs) xs.length (fun H => H d = some (.frz o (ND P w d xs))) (fun i H x H' => H' = H ∧ ∃ y, xs[i]? = some y ∧ x = .ref y.2.1) :=
  ⟨fun _ _ hi q => ⟨q, hi⟩, fun _ q => ⟨q, Nat.le_refl _⟩, fun _ _ _ _ _ _ y => y⟩
theorem nd_frz {P : Program} {w : World} {H : Hp} {h : Heap} {d : Addr} {o : Obj} {xs : List (NestedKey × Addr × Value)} (ok : HOk P w H h) (hd : H d = some (.frz o (ND P w d xs))) :
    h.get? d = some o ∧ o.ExactDict ∧ ∃ es ep, o.data = .dict es ep ∧ es.toList = xs.map (entryOfKey (nestedKind P w)) := by
  obtain ⟨g, n⟩ := (show h.get? d = some o ∧ ObjOk P w H h d (ND P w d xs) from ok d _ hd)
  obtain ⟨o', es, ep, g1, g2, g3, g4⟩ := nd_ok n
  rw [g] at g1; cases g1
  exact ⟨g, g2, es, ep, g3, g4⟩
theorem turn_ndKeys {P : Program} {w : World} {K : PySem.W.Frag} {tg : Expr} {d : Addr} {o : Obj} {es : Array DictEntry} {ep : Nat} {xs : List (NestedKey × Addr × Value)} (it : Addr) (hod : o.data = .dict es ep) :
    Turn P w K tg (ItN P w d o xs) [it] it (fun i h => h.IsKeyIter it d i xs.length ep) where
  mem := List.mem_singleton_self it
  obj := fun i h st b hb => by
    obtain rfl := List.mem_singleton.mp hb
    obtain ⟨oi, e, c, dd⟩ := st
    exact ⟨oi, e, fun v z => by rw [dd] at z; cases z⟩
  keep := fun i h h' st k => st.at fun oi e => k it (List.mem_singleton_self it) oi e
  item := by
    intro X hP hw hK hc i pins s σ H E I hf st hg
    subst hP hw hK
    obtain ⟨hd, hi⟩ := hg
    obtain ⟨f0, f1, f2, f3, f4, f5⟩ := hf it (List.mem_singleton_self it)
    obtain ⟨g, hx, es', ep', hdt, he⟩ := nd_frz I.hok hd
    rw [hod] at hdt; cases hdt
    have hsz : es.size = xs.length := size_of_entries he
    have hen : es[i]? = some (entryOfKey (nestedKind X.prog X.w) xs[i]) := by rw [entry_at he, List.getElem?_eq_getElem hi]; rfl
    refine next_key_item st g hod hsz hen fun h' st' sb => ?_
    have I1 : Inv X pins σ H { s with heap := h' } := I.turned (t' := s.toks) (fun b ob hb e => (sb.2 b hb).trans e) f0 f1 f3 f4 f5
    obtain ⟨oi, e, c, dd⟩ := id st'
    exact ⟨_, rfl, go_of (s := { s with heap := h' }) e c dd (by decide) ⟨.ref xs[i].2.1, H, I1, rfl, ⟨rfl, xs[i], List.getElem?_eq_getElem hi, rfl⟩, st', fun b hb => (hf b hb).1⟩⟩
  done := by
    intro X hP hw hK hc i pins s σ H E I hf st hg
    subst hP hw hK
    obtain ⟨hd, hi⟩ := hg
    obtain ⟨f0, f1, f2, f3, f4, f5⟩ := hf it (List.mem_singleton_self it)
    obtain ⟨g, hx, es', ep', hdt, he⟩ := nd_frz I.hok hd
    rw [hod] at hdt; cases hdt
    exact next_key_end (I.ok.hd hc) st g hod (size_of_entries he) hi fun h' eb => ⟨rfl, I.turned (t' := s.toks) (fun b ob hb e => eb b ob hb e) f0 f1 f3 f4 f5⟩
  self := fun A i s Q E st h => wpAny_pyIter_keyiter st h
def iNd (P : Program) (w : World) (td : TE) : TI := fun σ H R => td σ H fun x H1 => ∃ d o xs, x = .ref d ∧ (d == sysModules) = false ∧ H1 d = some (.frz o (ND P w d xs)) ∧ R (ItN P w d o xs) H1
theorem pi_nd {X : Cx} {tg e : Expr} {td : TE} (he : PE X e td) : PI X tg e (iNd X.prog X.w td) := by
  refine ⟨fun pins s σ H R I h => ?_⟩
  refine thn (he.run pins s σ H _ I h) fun u s1 ⟨x, H1, I1, rx, d, o, xs, ex, lo, hd, q⟩ => ?_
  subst ex
  cases rx
  obtain ⟨g, hx, es, ep, hdt, hen⟩ := nd_frz I1.hok hd
  refine iter_keys lo g hx hdt (pi_one (tk := s1.toks) I1 _ (turn_ndKeys _ hdt) ⟨_, Heap.get?_push_size _ rfl, rfl, ?_⟩ q)
  rw [size_of_entries hen]
  rfl
end G
end
section
set_option maxRecDepth 100000
set_option maxHeartbeats 4000000
namespace G
open PySem PySem.Spec PyProof.Rows L2
/-! ### enumerate(t), t a tuple -/
theorem meets_enum1 {v : Value} {o : Obj} {C : Heap → Prop} (B : Begins v o C) :
    Meets (Builtin.«enumerate.__new__» ⟨[.type "enumerate", v], []⟩) (fun _ T s => C s.heap ∧
      T (.ok (.ret (.ref (s.heap.push o).objs.size))) { s with heap := (s.heap.push o).push { cls := .type "enumerate", data := .fields #[.none, .bool false, .ref s.heap.objs.size, rawInt 0, .none, .none] } }) :=
  .of_wp fun prog w A T s h => by
    obtain ⟨hp, g, d, tk, os⟩ := s
    obtain ⟨h1, h⟩ := h
    have hsub := sub_enumerate
    have q1 : ∀ {A' : Around} {E : Value → Shared → Prop} {Q : Value → Shared → Prop}, Q (.ref hp.objs.size) ⟨hp.push o, g, d, tk, os⟩ → wpAny (model prog w) A' (pyIter v) Q E ⟨hp, g, d, tk, os⟩ :=
      fun q => B.iter prog w _ _ ⟨hp, g, d, tk, os⟩ _ h1 q
    wp_walk using q1
    refine wpAny_stack_any fun st => wpAny_pure ?_
    split
    · rename_i c _ _ _ _ _
      cases (c == Value.type "enumerate") <;> (wp_walk using q1; exact ⟨_, rfl, h⟩)
    · wp_walk using q1
      exact ⟨_, rfl, h⟩
section
variable {prog : Program} {w : World} {A : Around} {E : Value → Shared → Prop} {s : Shared}
theorem call_enum1 {v : Value} {o : Obj} {C : Heap → Prop} {Q : Value → Shared → Prop} (B : Begins v o C) (h1 : C s.heap)
    (h : ∀ h', IsEnum h' (s.heap.objs.size + 1) s.heap.objs.size 0 .none → h'.get? s.heap.objs.size = some o → (∀ b ob, s.heap.get? b = some ob → h'.get? b = some ob) → Q (.ref (s.heap.objs.size + 1)) { s with heap := h' }) :
    wpAny (model prog w) A (call (.type "enumerate") [v]) Q E s := by
  refine callType_new F.called_enumerate (by decide) (F.typeCall_enumerate_1 _) (F.newCall_enumerate_1 _) (fun obj => F.args_object_init_2 obj _) F.entry_enumerate_new (meets_enum1 B) ⟨h1, ?_⟩
  have hz : (s.heap.push o).objs.size = s.heap.objs.size + 1 := Heap.size_push ..
  have he : IsEnum ((s.heap.push o).push { cls := .type "enumerate", data := .fields #[.none, .bool false, .ref s.heap.objs.size, rawInt 0, .none, .none] }) (s.heap.objs.size + 1) s.heap.objs.size 0 .none := by
    have q := Heap.get?_push_size (s.heap.push o) (o := { cls := .type "enumerate", data := .fields #[.none, .bool false, .ref s.heap.objs.size, rawInt 0, .none, .none] }) rfl
    rw [hz] at q; exact q
  show _ ∧ _
  rw [hz]
  exact ⟨⟨_, he, rfl⟩, h _ he (Heap.get?_push_of_some _ (Heap.get?_push_size _ B.free)) fun b ob x => Heap.get?_push_of_some _ (Heap.get?_push_of_some _ x)⟩
end
/-- the tuple at a, numbered: a new pair a turn -/
def ItEt (a : Addr) (xs : List V) : It :=
  ⟨fun i H => H a = some (.tup xs) ∧ i < xs.length, fun i H v H' => ∃ T x, v = .ref T ∧ H T = none ∧ H' = upd H T (.tup [.int (i : Nat), x]) ∧ xs[i]? = some x, fun i H => H a = some (.tup xs) ∧ i = xs.length⟩
theorem walk_enumT {a : Addr} {xs : List V} : Walk (ItEt a xs) xs.length (fun H => H a = some (.tup xs)) (YPair (fun i => some (.int (i : Nat))) (fun i => xs[i]?)) := by
  refine ⟨fun i _ hi q => ⟨q, hi⟩, fun _ q => ⟨q, rfl⟩, fun i H v H' _ q y => ?_⟩
  obtain ⟨T, x, h1, h2, h3, h4⟩ := y
  exact ⟨T, .int (i : Nat), x, h1, h2, h3, rfl, h4⟩
theorem tup_obj {P : Program} {w : World} {H : Hp} {h : Heap} {a : Addr} {xs : List V} (ok : HOk P w H h) (e : H a = some (.tup xs)) : ∃ its : List Value, Vals xs its ∧ h.IsTuple a its.toArray ∧ xs.length ≤ sizeLine := by
  obtain ⟨z, its, rv, p⟩ := (show ObjOk P w H h a (.tup xs) from ok a _ e)
  exact ⟨its, rv, p, z⟩
theorem lst_obj {P : Program} {w : World} {H : Hp} {h : Heap} {a : Addr} {xs : List V} (ok : HOk P w H h) (e : H a = some (.lst xs)) : ∃ its : List Value, Vals xs its ∧ h.IsList a its.toArray ∧ xs.length ≤ sizeLine := by
  obtain ⟨z, its, n, rv, p⟩ := (show ObjOk P w H h a (.lst xs) from ok a _ e)
  exact ⟨its, rv, ⟨_, p, rfl, n, rfl⟩, z⟩
theorem new_tup {P : Program} {w : World} {H : Hp} {h : Heap} {T : Addr} {xs : List V} {us : List Value} (hz : xs.length ≤ sizeLine) (rv : Vals xs us) (t : h.IsTuple T us.toArray) : ObjOk P w H h T (.tup xs) := ⟨hz, us, rv, t⟩
theorem turn_enumT {P : Program} {w : World} {K : PySem.W.Frag} {elts : List Expr} {kk : Nat} {tpos : Pos} {xs : List V} (a e it : Addr) :
    Turn P w K (.Tuple elts kk tpos) (ItEt a xs) [e, it] e (fun i h => (∃ old, IsEnum h e it (0 + ((i : Nat) : Int)) old) ∧ h.IsTupleIter it a i ∧ e ≠ it) where
  mem := List.mem_cons_self ..
  obj := fun i h st b hb => by
    obtain ⟨⟨old, he⟩, ⟨o, ho, hc, hd⟩, _⟩ := st
    rcases List.mem_cons.mp hb with z | z
    · exact ⟨_, z ▸ he, fun v q => by cases q⟩
    · rw [List.mem_singleton.mp z]
      exact ⟨o, ho, fun v q => by rw [hd] at q; cases q⟩
  keep := fun i h h' st k => let ⟨⟨old, he⟩, hi, hne⟩ := st; ⟨⟨old, k e (List.mem_cons_self ..) _ he⟩, hi.at fun o q => k it (by simp) o q, hne⟩
  item := by
    intro X hP hw hK hc i pins s σ H E I hf st hg
    subst hP hw hK
    obtain ⟨⟨old, he⟩, hit, hne⟩ := st
    obtain ⟨ha, hi⟩ := hg
    obtain ⟨its, rv, ht, hz⟩ := tup_obj I.hok ha
    have hl := rv.length
    have nae : a ≠ e := fun z => by rw [z, (hf e (List.mem_cons_self ..)).1] at ha; cases ha
    have nai : a ≠ it := fun z => by rw [z, (hf it (by simp)).1] at ha; cases ha
    have W := GoesN.enumFrom (prog := X.prog) (w := X.w) (A := X.A) (elts := elts) (x1 := kk) (pos := tpos) 0 (Draws.tuple (A := X.A.in1) (I.ok.hd hc) it a nai its.toArray) e hne (by simp [hne, Ne.symm nae]) (List.mem_cons_self ..)
    refine W.goes i s (fun u s2 => ∃ x H', Inv X pins σ H' s2 ∧ RelV x u ∧ (ItEt a xs).yld i H x H' ∧ _ ∧ ∀ b ∈ [e, it], H' b = none) E (by rw [List.size_toArray, ← hl]; exact hi) ⟨⟨old, he⟩, hit, ht⟩ fun v h' tk hY st' hk htk => ?_
    obtain ⟨T, t, x, rfl, hT, hx, hTu⟩ := hY
    obtain ⟨st1, st2, _⟩ := st'
    obtain ⟨y, hy⟩ : ∃ y, xs[i]? = some y := ⟨xs[i], List.getElem?_eq_getElem hi⟩
    obtain ⟨u, hu, ru⟩ := rv.get hy
    have hux : x = u := by
      have q : its[i]? = some x := by rw [← List.getElem?_toArray]; exact hx
      rw [hu] at q; exact (Option.some.inj q).symm
    subst hux
    have I1 : Inv X pins σ (upd H T (.tup [.int (i : Nat), y])) { s with heap := h', toks := tk } :=
      I.turnedNew (ch := [e, it]) hk hf hT (new_tup (us := [.int (0 + (i : Int)) t, x]) (by show 2 ≤ sizeLine; decide) (.cons ⟨t, by rw [Int.zero_add]⟩ (.cons ru .nil)) hTu)
    have lt : ∀ b ∈ [e, it], b < s.heap.objs.size := fun b hb => by
      rcases List.mem_cons.mp hb with z | z
      · rw [z]; exact Heap.lt_size he
      · rw [List.mem_singleton.mp z]; obtain ⟨_, q, _⟩ := hit; exact Heap.lt_size q
    exact ⟨.ref T, _, I1, rfl, ⟨T, y, rfl, I.hok.fresh hT, rfl, hy⟩, ⟨st1, st2, hne⟩, fun b hb => by rw [upd_ne (Nat.ne_of_lt (Nat.lt_of_lt_of_le (lt b hb) hT))]; exact (hf b hb).1⟩
  done := by
    intro X hP hw hK hc i pins s σ H E I hf st hg
    subst hP hw hK
    obtain ⟨⟨old, he⟩, hit, hne⟩ := st
    obtain ⟨ha, hi⟩ := hg
    obtain ⟨its, rv, ht, hz⟩ := tup_obj I.hok ha
    have hl := rv.length
    have nae : a ≠ e := fun z => by rw [z, (hf e (List.mem_cons_self ..)).1] at ha; cases ha
    have nai : a ≠ it := fun z => by rw [z, (hf it (by simp)).1] at ha; cases ha
    have W := GoesN.enumFrom (prog := X.prog) (w := X.w) (A := X.A) (elts := elts) (x1 := kk) (pos := tpos) 0 (Draws.tuple (A := X.A.in1) (I.ok.hd hc) it a nai its.toArray) e hne (by simp [hne, Ne.symm nae]) (List.mem_cons_self ..)
    have en : i = its.toArray.size := by rw [List.size_toArray, ← hl]; exact hi
    refine W.stops s _ E (by rw [← en]; exact ⟨⟨old, he⟩, hit, ht⟩) fun h' tk hk htk => ?_
    exact I.turnedL (t' := tk) (ch := [e, it]) hk hf
  self := fun A i s Q E st h => let ⟨⟨_, he⟩, _⟩ := st; wpAny_pyIter_enum he h
def iEnumT (ta : TA) : TI := fun σ H R => ta σ H fun vs H1 => ∃ a xs, vs = [.ref a] ∧ H1 a = some (.tup xs) ∧ R (ItEt a xs) H1
theorem pi_enumT {X : Cx} {e : Expr} {ta : TA} {p pos tpos : Pos} {elts : List Expr} {kk : Nat} (hg : Gl X "enumerate") (hm : X.mg "enumerate" = none) (ha : PA X [e] ta) (hs : starEach [e] X.env = [(false, eval e X.env)] := by rfl) :
    PI X (.Tuple elts kk tpos) (.Call (.Name "enumerate" p) [e] [] pos) (iEnumT ta) := by
  refine ⟨fun pins s σ H R I h => ?_⟩
  refine Call_ (ld_blt I hg hm boot_enumerate (PyProof.Rows.callWith_type1 (thn (ha.run pos pins s σ H _ I h) fun us s1 hh => ?_) hs rfl))
  obtain ⟨vs, H1, I1, r1, a, xs, ex, hq, q⟩ := hh
  subst ex
  obtain rfl := Vals.ref1 r1
  obtain ⟨its, rv, ht, hz⟩ := tup_obj I1.hok hq
  refine call_enum1 (begins_tuple a its.toArray) ht fun h' he hit hk => wpAny_pyIter_enum he ?_
  have I2 : Inv X pins σ H1 { s1 with heap := h' } := I1.kept (t' := s1.toks) hk
  refine ⟨s1.heap.objs.size + 1, [s1.heap.objs.size + 1, s1.heap.objs.size], _, _, H1, rfl, I2, turn_enumT a (s1.heap.objs.size + 1) s1.heap.objs.size, ⟨⟨.none, he⟩, ⟨_, hit, rfl, rfl⟩, Nat.succ_ne_self _⟩, fun b hb => ?_, q⟩
  have hle : s1.heap.objs.size ≤ b := by
    rcases List.mem_cons.mp hb with z | z
    · rw [z]; exact Nat.le_succ _
    · rw [List.mem_singleton.mp z]; exact Nat.le_refl _
  exact I1.fpOk hle (I1.hok.fresh hle)
end G
end
section
set_option maxRecDepth 100000
set_option maxHeartbeats 4000000
namespace G
open PySem PySem.Spec PyProof.Rows L2
/-! ### zip(a, b, c): tuples, the last one a list (l) or a tuple -/
def seqO (l : Bool) (xs : List V) : HO := if l then .lst xs else .tup xs
def IsSeq (l : Bool) (h : Heap) (a : Addr) (items : Array Value) : Prop := if l then h.IsList a items else h.IsTuple a items
def SeqIt (l : Bool) (h : Heap) (it a : Addr) (i : Nat) : Prop := if l then h.IsListIter it a i else h.IsTupleIter it a i
def itO (l : Bool) (a : Addr) : Obj := { cls := .type (if l then "list_iterator" else "tuple_iterator"), data := .fields #[.ref a, .int 0 0] }
theorem seq_obj {P : Program} {w : World} {H : Hp} {h : Heap} {a : Addr} {l : Bool} {xs : List V} (ok : HOk P w H h) (e : H a = some (seqO l xs)) : ∃ its : List Value, Vals xs its ∧ IsSeq l h a its.toArray ∧ xs.length ≤ sizeLine := by
  cases l
  · exact tup_obj ok e
  · exact lst_obj ok e
theorem draws_seq {prog : Program} {w : World} {A : Around} (l : Bool) (hh : A.handled = none) (it a : Addr) (hne : a ≠ it) (items : Array Value) :
    Draws prog w A it [it, a] items.size (fun i v => items[i]? = some v) (fun i h => SeqIt l h it a i ∧ IsSeq l h a items) := by
  cases l
  · exact Draws.tuple hh it a hne items
  · exact Draws.list hh it a hne items
theorem begins_seq (l : Bool) (a : Addr) (items : Array Value) : Begins (.ref a) (itO l a) fun h => IsSeq l h a items := by
  cases l
  · exact begins_tuple a items
  · exact begins_list a items
theorem SeqIt.get {l : Bool} {h : Heap} {it a : Addr} {i : Nat} (x : SeqIt l h it a i) : ∃ o, h.get? it = some o ∧ ∀ v, o.data ≠ .cell v := by
  cases l
  · obtain ⟨o, ho, hc, hd⟩ := x; exact ⟨o, ho, fun v q => by rw [hd] at q; cases q⟩
  · obtain ⟨o, ho, hc, hd⟩ := x; exact ⟨o, ho, fun v q => by rw [hd] at q; cases q⟩
theorem SeqIt.keep {l : Bool} {h h' : Heap} {it a : Addr} {i : Nat} (x : SeqIt l h it a i) (k : ∀ o, h.get? it = some o → h'.get? it = some o) : SeqIt l h' it a i := by
  cases l
  · obtain ⟨o, ho, r⟩ := x; exact ⟨o, k _ ho, r⟩
  · obtain ⟨o, ho, r⟩ := x; exact ⟨o, k _ ho, r⟩
theorem SeqIt.zero {l : Bool} {h : Heap} {it a : Addr} (e : h.get? it = some (itO l a)) : SeqIt l h it a 0 := by
  cases l
  · exact ⟨_, e, rfl, rfl⟩
  · exact ⟨_, e, rfl, rfl⟩
def ItZ (l : Bool) (a b c : Addr) (xs ys zs : List V) (n : Nat) : It :=
  ⟨fun i H => H a = some (.tup xs) ∧ H b = some (.tup ys) ∧ H c = some (seqO l zs) ∧ i < n,
   fun i H v H' => ∃ T x y z, v = .ref T ∧ H T = none ∧ H' = upd H T (.tup [x, y, z]) ∧ xs[i]? = some x ∧ ys[i]? = some y ∧ zs[i]? = some z,
   fun i H => H a = some (.tup xs) ∧ H b = some (.tup ys) ∧ H c = some (seqO l zs) ∧ i = n⟩
theorem walk_zip3 {l : Bool} {a b c : Addr} {xs ys zs : List V} {n : Nat} : Walk (ItZ l a b c xs ys zs n) n (fun H => H a = some (.tup xs) ∧ H b = some (.tup ys) ∧ H c = some (seqO l zs))
    (fun i H v H' => ∃ T x y z, v = .ref T ∧ H T = none ∧ H' = upd H T (.tup [x, y, z]) ∧ xs[i]? = some x ∧ ys[i]? = some y ∧ zs[i]? = some z) :=
  ⟨fun i _ hi q => ⟨q.1, q.2.1, q.2.2, hi⟩, fun _ q => ⟨q.1, q.2.1, q.2.2, rfl⟩, fun i H v H' _ q y => y⟩
theorem item_at {its : List Value} {xs : List V} {i : Nat} {x : Value} (rv : Vals xs its) (h : its.toArray[i]? = some x) : ∃ v, xs[i]? = some v ∧ RelV v x := by
  have q : its[i]? = some x := by rw [← List.getElem?_toArray]; exact h
  have hi : i < xs.length := by rw [rv.length]; exact (List.getElem?_eq_some_iff.mp q).1
  obtain ⟨u, hu, ru⟩ := rv.get (List.getElem?_eq_getElem hi)
  rw [q] at hu
  cases hu
  exact ⟨_, List.getElem?_eq_getElem hi, ru⟩
theorem notin2 {x a b : Addr} (h1 : a ≠ x) (h2 : b ≠ x) : x ∉ [a, b] := fun h => by
  rcases List.mem_cons.mp h with e | h
  · exact h1 e.symm
  · exact h2 (List.mem_singleton.mp h).symm
theorem zsep {N : Nat} {a b c : Nat} (a1 : a ≠ N + 5) (a2 : a ≠ N + 4) (_ : a ≠ N) (a4 : a ≠ N + 1) (a5 : a ≠ N + 2) (b1 : b ≠ N + 5) (b2 : b ≠ N + 4) (b3 : b ≠ N) (_ : b ≠ N + 1) (b5 : b ≠ N + 2)
    (c1 : c ≠ N + 5) (c2 : c ≠ N + 4) (c3 : c ≠ N) (c4 : c ≠ N + 1) (_ : c ≠ N + 2) : ZipSep3 (N + 5) (N + 3) (N + 4) N (N + 1) (N + 2) [N, a] [N + 1, b] [N + 2, c] where
  TIz := show N + 3 ≠ N + 5 by omega
  TOz := show N + 4 ≠ N + 5 by omega
  TITO := show N + 3 ≠ N + 4 by omega
  TIi1 := show N + 3 ≠ N by omega
  mem1 := List.mem_cons_self ..
  zf1 := notin2 (show N ≠ N + 5 by omega) a1
  Tf1 := notin2 (show N ≠ N + 4 by omega) a2
  TIi2 := show N + 3 ≠ N + 1 by omega
  mem2 := List.mem_cons_self ..
  zf2 := notin2 (show N + 1 ≠ N + 5 by omega) b1
  Tf2 := notin2 (show N + 1 ≠ N + 4 by omega) b2
  TIi3 := show N + 3 ≠ N + 2 by omega
  mem3 := List.mem_cons_self ..
  zf3 := notin2 (show N + 2 ≠ N + 5 by omega) c1
  Tf3 := notin2 (show N + 2 ≠ N + 4 by omega) c2
  sep1_2 := notin2 (show N + 1 ≠ N by omega) b3
  sep1_3 := notin2 (show N + 2 ≠ N by omega) c3
  sep2_1 := notin2 (show N ≠ N + 1 by omega) a4
  sep2_3 := notin2 (show N + 2 ≠ N + 1 by omega) c4
  sep3_1 := notin2 (show N ≠ N + 2 by omega) a5
  sep3_2 := notin2 (show N + 1 ≠ N + 2 by omega) b5
theorem sub6 {z TI TO i1 i2 i3 q : Addr} (h : q ∈ [z, TO, i1, i2, i3]) : q ∈ [z, TI, TO, i1, i2, i3] := by
  rcases List.mem_cons.mp h with rfl | h
  · exact List.mem_cons_self ..
  · exact List.mem_cons_of_mem _ (List.mem_cons_of_mem _ h)
theorem turn_zip3 {P : Program} {w : World} {K : PySem.W.Frag} {elts : List Expr} {kk : Nat} {tpos : Pos} {l : Bool} {a b c : Addr} {xs ys zs : List V} {n : Nat} (e1 : xs.length = n) (e2 : ys.length = n) (e3 : zs.length = n) {z TI TO i1 i2 i3 : Addr}
    (S : ∀ a b c : Addr, a ≠ z ∧ a ≠ TO ∧ a ≠ i1 ∧ a ≠ i2 ∧ a ≠ i3 → b ≠ z ∧ b ≠ TO ∧ b ≠ i1 ∧ b ≠ i2 ∧ b ≠ i3 → c ≠ z ∧ c ≠ TO ∧ c ≠ i1 ∧ c ≠ i2 ∧ c ≠ i3 → ZipSep3 z TI TO i1 i2 i3 [i1, a] [i2, b] [i3, c]) :
    Turn P w K (.Tuple elts kk tpos) (ItZ l a b c xs ys zs n) [z, TI, TO, i1, i2, i3] z
      (fun i h => IsZip h z TI TO .none ∧ IsTupOf3 h TI (.ref i1) (.ref i2) (.ref i3) ∧ (∃ a1 a2 a3, IsTupOf3 h TO a1 a2 a3) ∧ SeqIt false h i1 a i ∧ SeqIt false h i2 b i ∧ SeqIt l h i3 c i) where
  mem := List.mem_cons_self ..
  obj := fun i h st q hb => by
    obtain ⟨h1, h2, ⟨_, _, _, h3⟩, h4, h5, h6⟩ := st
    simp only [List.mem_cons, List.not_mem_nil, or_false] at hb
    rcases hb with rfl | rfl | rfl | rfl | rfl | rfl
    · exact ⟨_, h1, fun v q => by cases q⟩
    · exact ⟨_, h2, fun v q => by cases q⟩
    · exact ⟨_, h3, fun v q => by cases q⟩
    · exact h4.get
    · exact h5.get
    · exact h6.get
  keep := fun i h h' st k => by
    obtain ⟨h1, h2, ⟨_, _, _, h3⟩, h4, h5, h6⟩ := st
    exact ⟨k _ (by simp) _ h1, k _ (by simp) _ h2, ⟨_, _, _, k _ (by simp) _ h3⟩, h4.keep (k _ (by simp)), h5.keep (k _ (by simp)), h6.keep (k _ (by simp))⟩
  item := by
    intro X hP hw hK hc i pins s σ H E I hf st hg
    subst hP hw hK
    obtain ⟨h1, h2, h3, h4, h5, h6⟩ := st
    obtain ⟨ha, hb, hcc, hi⟩ := hg
    obtain ⟨its1, rv1, t1, hz1⟩ := seq_obj (l := false) I.hok ha
    obtain ⟨its2, rv2, t2, hz2⟩ := seq_obj (l := false) I.hok hb
    obtain ⟨its3, rv3, t3, hz3⟩ := seq_obj I.hok hcc
    have l1 := rv1.length
    have l2 := rv2.length
    have l3 := rv3.length
    have ap : ∀ {q : Addr} {o : HO}, H q = some o → ∀ b ∈ [z, TI, TO, i1, i2, i3], q ≠ b := fun {q o} e b hb zz => by rw [zz, (hf b hb).1] at e; cases e
    have S' := S a b c ⟨ap ha _ (by simp), ap ha _ (by simp), ap ha _ (by simp), ap ha _ (by simp), ap ha _ (by simp)⟩ ⟨ap hb _ (by simp), ap hb _ (by simp), ap hb _ (by simp), ap hb _ (by simp), ap hb _ (by simp)⟩
      ⟨ap hcc _ (by simp), ap hcc _ (by simp), ap hcc _ (by simp), ap hcc _ (by simp), ap hcc _ (by simp)⟩
    have W := GoesN.zip3 (prog := X.prog) (w := X.w) (A := X.A) (elts := elts) (x1 := kk) (pos := tpos) S' (draws_seq (A := X.A.in1) false (I.ok.hd hc) i1 a (ap ha _ (by simp)) its1.toArray) (draws_seq (A := X.A.in1) false (I.ok.hd hc) i2 b (ap hb _ (by simp)) its2.toArray)
      (draws_seq (A := X.A.in1) l (I.ok.hd hc) i3 c (ap hcc _ (by simp)) its3.toArray)
    refine W.goes i s (fun u s2 => ∃ x H', Inv X pins σ H' s2 ∧ RelV x u ∧ (ItZ l a b c xs ys zs n).yld i H x H' ∧ _ ∧ ∀ b ∈ [z, TI, TO, i1, i2, i3], H' b = none) E
      (by simp only [List.size_toArray]; omega) ⟨h1, h2, h3, ⟨h4, t1⟩, ⟨h5, t2⟩, ⟨h6, t3⟩⟩ fun v h' tk hY st' hk htk => ?_
    obtain ⟨T, x, y, u, rfl, hT, hx, hy, hu, hTu⟩ := hY
    obtain ⟨s1, s2, s3, ⟨s4, _⟩, ⟨s5, _⟩, ⟨s6, _⟩⟩ := st'
    obtain ⟨x', hx', rx⟩ := item_at rv1 hx
    obtain ⟨y', hy', ry⟩ := item_at rv2 hy
    obtain ⟨u', hu', ru⟩ := item_at rv3 hu
    have I1 : Inv X pins σ (upd H T (.tup [x', y', u'])) { s with heap := h', toks := tk } :=
      I.turnedNew (ch := [z, TI, TO, i1, i2, i3]) (fun q o hq e => hk q o (fun zz => hq (sub6 zz)) e) hf hT
        (new_tup (us := [x, y, u]) (by show 3 ≤ sizeLine; decide) (.cons rx (.cons ry (.cons ru .nil))) hTu)
    have lt : ∀ q ∈ [z, TI, TO, i1, i2, i3], q < s.heap.objs.size := fun q hb => by
      simp only [List.mem_cons, List.not_mem_nil, or_false] at hb
      obtain ⟨_, _, _, h3⟩ := h3
      rcases hb with rfl | rfl | rfl | rfl | rfl | rfl
      · exact Heap.lt_size h1
      · exact Heap.lt_size h2
      · exact Heap.lt_size h3
      · obtain ⟨_, q, _⟩ := h4.get; exact Heap.lt_size q
      · obtain ⟨_, q, _⟩ := h5.get; exact Heap.lt_size q
      · obtain ⟨_, q, _⟩ := h6.get; exact Heap.lt_size q
    exact ⟨.ref T, _, I1, rfl, ⟨T, x', y', u', rfl, I.hok.fresh hT, rfl, hx', hy', hu'⟩, ⟨s1, s2, s3, s4, s5, s6⟩, fun q hq => by rw [upd_ne (Nat.ne_of_lt (Nat.lt_of_lt_of_le (lt q hq) hT))]; exact (hf q hq).1⟩
  done := by
    intro X hP hw hK hc i pins s σ H E I hf st hg
    subst hP hw hK
    obtain ⟨h1, h2, h3, h4, h5, h6⟩ := st
    obtain ⟨ha, hb, hcc, hi⟩ := hg
    obtain ⟨its1, rv1, t1, hz1⟩ := seq_obj (l := false) I.hok ha
    obtain ⟨its2, rv2, t2, hz2⟩ := seq_obj (l := false) I.hok hb
    obtain ⟨its3, rv3, t3, hz3⟩ := seq_obj I.hok hcc
    have l1 := rv1.length
    have l2 := rv2.length
    have l3 := rv3.length
    have ap : ∀ {q : Addr} {o : HO}, H q = some o → ∀ b ∈ [z, TI, TO, i1, i2, i3], q ≠ b := fun {q o} e b hb zz => by rw [zz, (hf b hb).1] at e; cases e
    have S' := S a b c ⟨ap ha _ (by simp), ap ha _ (by simp), ap ha _ (by simp), ap ha _ (by simp), ap ha _ (by simp)⟩ ⟨ap hb _ (by simp), ap hb _ (by simp), ap hb _ (by simp), ap hb _ (by simp), ap hb _ (by simp)⟩
      ⟨ap hcc _ (by simp), ap hcc _ (by simp), ap hcc _ (by simp), ap hcc _ (by simp), ap hcc _ (by simp)⟩
    have W := GoesN.zip3 (prog := X.prog) (w := X.w) (A := X.A) (elts := elts) (x1 := kk) (pos := tpos) S' (draws_seq (A := X.A.in1) false (I.ok.hd hc) i1 a (ap ha _ (by simp)) its1.toArray) (draws_seq (A := X.A.in1) false (I.ok.hd hc) i2 b (ap hb _ (by simp)) its2.toArray)
      (draws_seq (A := X.A.in1) l (I.ok.hd hc) i3 c (ap hcc _ (by simp)) its3.toArray)
    have en : i = min (min its1.toArray.size its2.toArray.size) its3.toArray.size := by simp only [List.size_toArray]; omega
    refine W.stops s _ E (by rw [← en]; exact ⟨h1, h2, h3, ⟨h4, t1⟩, ⟨h5, t2⟩, ⟨h6, t3⟩⟩) fun h' tk hk htk => ?_
    exact I.turnedL (t' := tk) (ch := [z, TI, TO, i1, i2, i3]) (fun q o hq e => hk q o (fun zz => hq (sub6 zz)) e) hf
  self := fun A i s Q E st h => wpAny_pyIter_zip st.1 h
def iZip3 (ta : TA) : TI := fun σ H J => ta σ H fun vs H1 => ∃ l a b c xs ys zs n, vs = [.ref a, .ref b, .ref c] ∧ H1 a = some (.tup xs) ∧ H1 b = some (.tup ys) ∧ H1 c = some (seqO l zs) ∧ xs.length = n ∧ ys.length = n ∧ zs.length = n ∧ J (ItZ l a b c xs ys zs n) H1
theorem pi_zip3 {X : Cx} {e e' e'' : Expr} {ta : TA} {p pos tpos : Pos} {elts : List Expr} {kk : Nat} (hg : Gl X "zip") (hm : X.mg "zip" = none) (ha : PA X [e, e', e''] ta)
    (hs : starEach [e, e', e''] X.env = (false, eval e X.env) :: starEach [e', e''] X.env := by rfl) (hpl : (backTo pos (starEach [e', e''] X.env)).any (·.1) = false := by rfl) :
    PI X (.Tuple elts kk tpos) (.Call (.Name "zip" p) [e, e', e''] [] pos) (iZip3 ta) := by
  refine ⟨fun pins s σ H J I h => ?_⟩
  refine Call_ (ld_blt I hg hm boot_zip (PyProof.Rows.callWith_type1 (thn (ha.run pos pins s σ H _ I h) fun us s1 hh => ?_) hs hpl))
  obtain ⟨vs, H1, I1, r1, l, a, b, c, xs, ys, zs, n, ex, h1, h2, h3, e1, e2, e3, q⟩ := hh
  subst ex
  cases r1 with
  | cons ra r1 =>
    cases r1 with
    | cons rb r1 =>
      cases r1 with
      | cons rc r1 =>
        cases r1
        cases ra; cases rb; cases rc
        obtain ⟨its1, rv1, t1, _⟩ := seq_obj (l := false) I1.hok h1
        obtain ⟨its2, rv2, t2, _⟩ := seq_obj (l := false) I1.hok h2
        obtain ⟨its3, rv3, t3, _⟩ := seq_obj I1.hok h3
        refine zip_begins3 (begins_seq false a its1.toArray) (begins_seq false b its2.toArray) (begins_seq l c its3.toArray) t1 t2 t3 fun h' hz hTI hTO g1 g2 g3 hsz hk => wpAny_pyIter_zip hz ?_
        have I2 : Inv X pins σ H1 { s1 with heap := h' } := I1.kept (t' := s1.toks) hk
        have big : ∀ {q : Addr}, q ∈ [s1.heap.objs.size + 5, s1.heap.objs.size + 3, s1.heap.objs.size + 4, s1.heap.objs.size, s1.heap.objs.size + 1, s1.heap.objs.size + 2] → s1.heap.objs.size ≤ q := fun {q} hq => by
          have hq' : q = s1.heap.objs.size + 5 ∨ q = s1.heap.objs.size + 3 ∨ q = s1.heap.objs.size + 4 ∨ q = s1.heap.objs.size ∨ q = s1.heap.objs.size + 1 ∨ q = s1.heap.objs.size + 2 := by simpa using hq
          rcases hq' with e | e | e | e | e | e <;> rw [e] <;> first | exact Nat.le_add_right _ _ | exact Nat.le_refl _
        refine ⟨s1.heap.objs.size + 5, [s1.heap.objs.size + 5, s1.heap.objs.size + 3, s1.heap.objs.size + 4, s1.heap.objs.size, s1.heap.objs.size + 1, s1.heap.objs.size + 2], _, _, H1, rfl, I2,
          turn_zip3 (l := l) (a := a) (b := b) (c := c) e1 e2 e3 (fun a' b' c' n1 n2 n3 => ?_), ⟨hz, hTI, ⟨_, _, _, hTO⟩, SeqIt.zero g1, SeqIt.zero g2, SeqIt.zero g3⟩, fun b hb => I1.fpOk (big hb) (I1.hok.fresh (big hb)), q⟩
        obtain ⟨a1, a2, a3, a4, a5⟩ := n1
        obtain ⟨b1, b2, b3, b4, b5⟩ := n2
        obtain ⟨c1, c2, c3, c4, c5⟩ := n3
        exact zsep a1 a2 a3 a4 a5 b1 b2 b3 b4 b5 c1 c2 c3 c4 c5
end G
end
section
set_option maxRecDepth 100000
set_option maxHeartbeats 4000000
namespace G
open PySem PySem.Spec PyProof.Rows L2
/-! ### {k: v for x in it}: the keys nested tuples, no if -/
/-- what the loop asks: Go i m H: the state ahead of turn i -/
def tDcN (P : Program) (w : World) (wi : TI) (g : TG) (tk tv : TE) (vs : List Nat) : TE := fun σ H Q => wi σ H fun J H1 => ∀ D, H1 D = none → (D == sysModules) = false → ∃ Go : Nat → Nat → Hp → Prop, (∃ m, Go 0 m (upd H1 D (ND P w D []))) ∧
  ∀ i m H, Go i m H → (J.stop i H ∧ Q (.ref D) H) ∨ (J.go i H ∧ ∃ Af : Hp → Prop, (∀ H', Af H' → ∃ m', m' < m ∧ Go (i + 1) m' H') ∧
    ∀ x H', J.yld i H x H' → g x (wipe σ vs) H' fun σ2 H2 => wipe σ2 vs = wipe σ vs ∧ tk σ2 H2 fun y H4 => tv σ2 H4 fun z H5 =>
      ∃ (a : Addr) (k : NestedKey) (kvs : List (NestedKey × V)), y = .ref a ∧ R H5 (.ref a) k.data ∧ k.depth ≤ 8 ∧ DM P w H5 D kvs ∧ kvs.length < sizeLine ∧ ∀ u, DM P w (upd H5 D u) D (putK kvs k z) → Af (upd H5 D u))
theorem dset_N {X : Cx} {pins : List (Addr × Obj)} {σ : L2.St} {H : Hp} {s : Shared} {E : Value → Shared → Prop} {a d : Addr} {k : NestedKey} {v : V} {u : Value} {kvs : List (NestedKey × V)} {Q : Unit → Shared → Prop} (hu : X.A.units + 64 < cLine) (I : Inv X pins σ H s)
    (rk : R H (.ref a) k.data) (hk : k.depth ≤ 8) (hd : DM X.prog X.w H d kvs) (hz : kvs.length < sizeLine) (rv : RelV v u) (h : ∀ u' s', Inv X pins σ (upd H d u') s' → DM X.prog X.w (upd H d u') d (putK kvs k v) → Q () s') : wpAny (model X.prog X.w) X.A (dictSet d (.ref a) u) Q E s := by
  obtain ⟨xs, kn, hm, hH⟩ := hd.dictOf I.hok
  have hl := kn.len
  refine wpAny_dictSet_heap (knd := nestedKind X.prog X.w) (hsz := by omega) (by show X.A.units + 8 < cLine; omega) ⟨R.nested I.hok _ _ _ rk rfl, hk⟩ hm fun h' hm' hs => ?_
  obtain ⟨I', D'⟩ := nd_stored (tk := s.toks + (nestedKind X.prog X.w).draws k) I hH hd.1 kn rk hk rv hz hm' hs
  exact h _ _ I' D'
section
variable {X : Cx}
theorem dcN_core {pins : List (Addr × Obj)} {s : Shared} {σ : L2.St} {H : Hp} {Q : VK} {kx vx tg iter : Expr} {scope : Scope} {own : List (Str × Nat)} {pos pos' : Pos} {wi : TI} {g : TG} {tk tv : TE} {use : Option (Value → Sem Unit)} {Qf : Value → Shared → Prop}
    (hu : X.A.units + 64 < cLine) (hc : X.calm = true) (hN : X.N.Nodup) (I : Inv X pins σ H s) (hi : PI X tg iter wi) (ok : BlkOk X.N X.env.scope scope own)
    (hg : ∀ s H C cl fp, PG (X.blk s H scope (compEnvC scope cl C X.env) fp) tg g)
    (hk : ∀ s H C cl fp, PE (X.blk s H scope (compEnvC scope cl C X.env) fp) kx tk)
    (hv : ∀ s H C cl fp, PE (X.blk s H scope (compEnvC scope cl C X.env) fp) vx tv) (hs : ∀ x, foldedSetIterable iter X.env x = pure x)
    (h : tDcN X.prog X.w wi g tk tv (own.map (·.2)) σ H Q)
    (post : ∀ D C s' m H', Inv X pins σ H' s' → Q (.ref D) H' → s'.heap.Ns C m → FpOk X pins H' C → compPost (model X.prog X.w) X.A X.xe use Qf (.ref D) C (.ok .next) s') :
    wpAny (model X.prog X.w) X.A (comprehension (.DictComp kx vx [⟨tg, iter, [], 0⟩] scope pos) scope X.env pos' newDict false (eval iter X.env) use) Qf X.xe s := by
  have clo : ∀ y ∈ scope.names, y.2 = .free → ∃ c, X.env.cells.lookup y.1 = some c := fun y hy e => I.ok.has _ (ok.free y hy e)
  refine wpAny_comprehension_free (use := use) rfl hs (closure_ok clo) ok.kind (fun y hy e => by rw [ok.uniq y hy, e]) (thn (hi.run pins s σ H _ I h) fun xv s1 hx => thn hx fun itv s2 h2 => ?_)
  obtain ⟨it, fp, tn, J, H2, rfl, I2, T, st2, f2, q⟩ := h2
  refine wpAny_newObj_type (newEnv_comp ?_)
  generalize hD : s2.heap.objs.size = D
  have hDn : H2 D = none := I2.hok.fresh (Nat.le_of_eq hD)
  have lo : (D == sysModules) = false := beq_eq_false_iff_ne.mpr (Nat.ne_of_gt (by rw [← hD]; exact I2.big))
  obtain ⟨Go, ⟨m0, w0⟩, turn⟩ := q D hDn lo
  generalize hs3 : ({ s2 with heap := s2.heap.push { cls := .type "dict", data := .dict #[] } } : Shared) = s3
  have h3 : s3.heap = s2.heap.push { cls := .type "dict", data := .dict #[] } := by rw [← hs3]
  have I3 : Inv X pins σ (upd H2 D (ND X.prog X.w D [])) s3 := by
    subst hs3
    have gD : (s2.heap.push { cls := .type "dict", data := .dict #[] }).get? D = some { cls := .type "dict", data := .dict #[] } := by rw [← hD]; exact Heap.get?_push_size _ rfl
    exact I2.laid (t' := s2.toks) (fun b o e => Heap.get?_push_of_some _ e) (Nat.le_of_eq hD) (nd_mk ⟨_, #[], 0, gD, ⟨rfl, rfl, rfl⟩, rfl, rfl⟩)
  have sz : ∀ b ∈ fp, b < s2.heap.objs.size := fun b hb => let ⟨o, e, _⟩ := T.obj _ _ st2 b hb; Heap.lt_size e
  have f3 : ∀ b ∈ fp, FpOk X pins (upd H2 D (ND X.prog X.w D [])) b ∧ b < s3.heap.objs.size := fun b hb =>
    ⟨⟨by rw [upd_ne (by rw [← hD]; exact Nat.ne_of_lt (sz b hb))]; exact (f2 b hb).1, (f2 b hb).2⟩, by rw [h3, Heap.size_push]; exact Nat.lt_succ_of_lt (sz b hb)⟩
  have st3 : tn 0 s3.heap := T.keep _ _ _ st2 fun b _ o e => by rw [h3]; exact Heap.get?_push_of_some _ e
  have I4 := block_start I3 ok hN f3
  generalize hce : compEnvC scope (cellsFrom (s3.heap.objs.size + 1) scope.names (cloFrom X.env.cells scope.names [])) s3.heap.objs.size X.env = ce at I4
  have cL : ce.locals = s3.heap.objs.size := by subst hce; rfl
  generalize hH3 : upd H2 D (ND X.prog X.w D []) = H3 at I3 I4 w0 f3
  have pg := hg s3 H3 s3.heap.objs.size (cellsFrom (s3.heap.objs.size + 1) scope.names (cloFrom X.env.cells scope.names [])) fp
  have pk := hk s3 H3 s3.heap.objs.size (cellsFrom (s3.heap.objs.size + 1) scope.names (cloFrom X.env.cells scope.names [])) fp
  have pv := hv s3 H3 s3.heap.objs.size (cellsFrom (s3.heap.objs.size + 1) scope.names (cloFrom X.env.cells scope.names [])) fp
  rw [hce] at pg pk pv
  show codeAny _ _ (.compStart (.DictComp kx vx [⟨tg, iter, [], 0⟩] scope pos) 0 (.ref it) (.ref D) (compEnvC scope (cellsFrom (s3.heap.objs.size + 1) scope.names (cloFrom X.env.cells scope.names [])) s3.heap.objs.size X.env)) (compPost (model X.prog X.w) X.A X.xe use Qf (.ref D) s3.heap.objs.size) { s3 with heap := pushCells (s3.heap.push { cls := .type "dict", data := .dict #[] }) scope.names }
  rw [hce]
  generalize hs4 : ({ s3 with heap := pushCells (s3.heap.push { cls := .type "dict", data := .dict #[] }) scope.names } : Shared) = s4 at I4 ⊢
  have st4 : tn 0 s4.heap := T.keep _ _ _ st3 fun b _ o e => by rw [← hs4]; exact pushCells_keeps _ _ _ _ (Heap.get?_push_of_some _ e)
  have own_ : ∀ {σ' : L2.St} {H' : Hp} {s' : Shared}, Inv (X.blk s3 H3 scope ce fp) [] σ' H' s' → (∀ b ∈ fp, H' b = none) → ∀ b ∈ fp, FpOk (X.blk s3 H3 scope ce fp) [] H' b := fun {σ' H' s'} J1 hn b hb =>
    ⟨hn b hb, (J1.ok.exf b hb).1, J1.ok.exfs b hb, .inl hb, fun x c e => (J1.ok.exf b hb).2 x c e, fun p hp => by simp at hp⟩
  have loop : codeAny (model X.prog X.w) X.A (.compLoop (.DictComp kx vx [⟨tg, iter, [], 0⟩] scope pos) 0 (.ref it) (.ref D) ce) (compPost (model X.prog X.w) X.A X.xe use Qf (.ref D) s3.heap.objs.size) s4 := by
    refine compLoop_anyD (fun n s' => ∃ i H', Inv (X.blk s3 H3 scope ce fp) [] (wipe σ (own.map (·.2))) H' s' ∧ tn i s'.heap ∧ (∀ b ∈ fp, H' b = none) ∧ Go i n H') ?_ m0 ⟨0, H3, I4, st4, fun b hb => (f3 b hb).1.1, w0⟩
    rintro n s5 ⟨i, H5, I5, st5, n5, w5⟩
    rcases turn i n H5 w5 with ⟨stop, qq⟩ | ⟨go, Af, hAf, step⟩
    · refine thnF (T.done (X.blk s3 H3 scope ce fp) rfl rfl rfl hc i [] s5 _ H5 (fun _ _ => False) I5 (own_ I5 n5) st5 stop) fun r s6 ⟨hr, I6⟩ => ?_
      subst hr
      have I7 : Inv X pins σ H5 s6 := I3.call' (ch := fp) I6.os I6.base I6.hok I6.bare fun b hb => ⟨(f3 b hb).1.2.2.2.1, (f3 b hb).1.2.1, (f3 b hb).1.2.2.2.2.1, (f3 b hb).1.2.2.2.2.2⟩
      have nC : H5 s3.heap.objs.size = none := by rw [← cL]; exact I6.free
      obtain ⟨m, hn, _⟩ := I6.loc
      have hn : s6.heap.Ns ce.locals m := hn
      rw [cL] at hn
      exact post D s3.heap.objs.size s6 m H5 I7 qq hn (I3.fpOk (Nat.le_refl _) nC)
    · refine thnF (T.item (X.blk s3 H3 scope ce fp) rfl rfl rfl hc i [] s5 _ H5 (fun _ _ => False) I5 (own_ I5 n5) st5 go) fun r s6 ⟨u, hr, h6⟩ => ?_
      subst hr
      refine thnF h6 fun _ s7 ⟨x, H7, I7, r7, y7, st7, n7⟩ => ?_
      refine thnF (pg.run _ s7 _ H7 x u _ (I7.pinned (own_ I7 n7) (T.obj _ _ st7)) r7 (step x H7 y7)) fun _ s8 ⟨σ8, H8, I8, hw8, q8⟩ => ?_
      refine wpAny_pure ?_
      refine thnF (pk.run _ s8 σ8 H8 _ I8 q8) fun z s10 ⟨yk, H10, I10, r10, q10⟩ => ?_
      refine thnF (pv.run _ s10 σ8 H10 _ I10 q10) fun z2 s11 ⟨yv, H11, I11, r11, a, k, kvs, ek, rk, hkd, hD11, hz11, nx⟩ => ?_
      subst ek
      cases r10
      refine dset_N (X := X.blk s3 H3 scope ce fp) hu I11 rk hkd hD11 hz11 r11 fun u' s12 I12 D12 => ?_
      obtain ⟨m', hm, w'⟩ := hAf _ (nx u' D12)
      have pin' : ∀ b ∈ fp, ∀ o, s7.heap.get? b = some o → s12.heap.get? b = some o ∧ (upd H11 D u') b = none := fun b hb o e =>
        let z := I12.pin (b, o) (List.mem_append_right _ (List.mem_append_right _ (mem_pinsAt hb e)))
        ⟨z.1, z.2.1⟩
      refine ⟨m', hm, i + 1, _, (I12.unpinned (pins := [])).weak (by rw [← hw8, wipe_length]) (fun j v e => ?_), T.keep _ _ _ st7 fun b hb o e => (pin' b hb o e).1, fun b hb => ?_, w'⟩
      · rw [← hw8] at e
        exact (wipe_some e).1
      · obtain ⟨o, e, _⟩ := T.obj _ _ st7 b hb
        exact (pin' b hb o e).2
  exact codeAny_compStart_dict loop (T.self X.A 0 _ _ _ st4 loop)
theorem pe_dcN {kx vx tg iter : Expr} {scope : Scope} {own : List (Str × Nat)} {pos : Pos} {wi : TI} {g : TG} {tk tv : TE} (hu : X.A.units + 64 < cLine) (hc : X.calm = true) (hN : X.N.Nodup) (hi : PI X tg iter wi) (ok : BlkOk X.N X.env.scope scope own)
    (hg : ∀ s H C cl fp, PG (X.blk s H scope (compEnvC scope cl C X.env) fp) tg g) (hk : ∀ s H C cl fp, PE (X.blk s H scope (compEnvC scope cl C X.env) fp) kx tk)
    (hv : ∀ s H C cl fp, PE (X.blk s H scope (compEnvC scope cl C X.env) fp) vx tv) (hs : ∀ x, foldedSetIterable iter X.env x = pure x := by intro _; rfl) :
    PE X (.DictComp kx vx [⟨tg, iter, [], 0⟩] scope pos) (tDcN X.prog X.w wi g tk tv (own.map (·.2))) := by
  refine ⟨fun pins s σ H Q I h => ?_⟩
  rw [arm_eval_DictComp]
  refine dcN_core hu hc hN I hi ok hg hk hv hs h fun D C s' m H' I' q hn f => ⟨m, hn, fun h'' sb => ?_⟩
  obtain ⟨f0, f1, f2, f3, f4, f5⟩ := f
  exact ⟨.ref D, H', I'.turned (t' := s'.toks) (fun b o hb e => (sb.2 b hb).trans e) f0 f1 f3 f4 f5, rfl, q⟩
/-- over any walk -/
theorem dcN_it {P : Program} {w : World} {J : It} {n : Nat} {C : Hp → Prop} {Y : Nat → Hp → V → Hp → Prop} (W : Walk J n C Y) {g : TG} {tk tv : TE} {vs : List Nat} {σ : L2.St} {H1 : Hp} {D : Addr} {Qd : Hp → Prop} (Pv : Nat → Hp → Prop) (h0 : Pv 0 (upd H1 D (ND P w D [])))
    (hC : ∀ i H, i ≤ n → Pv i H → C H)
    (hs : ∀ i x H H', i < n → Pv i H → Y i H x H' → g x (wipe σ vs) H' fun σ2 H2 => wipe σ2 vs = wipe σ vs ∧ tk σ2 H2 fun y H4 => tv σ2 H4 fun z H5 =>
      ∃ (a : Addr) (k : NestedKey) (kvs : List (NestedKey × V)), y = .ref a ∧ R H5 (.ref a) k.data ∧ k.depth ≤ 8 ∧ DM P w H5 D kvs ∧ kvs.length < sizeLine ∧ ∀ u, DM P w (upd H5 D u) D (putK kvs k z) → Pv (i + 1) (upd H5 D u))
    (hd : ∀ H, Pv n H → Qd H) :
    ∃ Go : Nat → Nat → Hp → Prop, (∃ m, Go 0 m (upd H1 D (ND P w D []))) ∧ ∀ i m H, Go i m H → (J.stop i H ∧ Qd H) ∨ (J.go i H ∧ ∃ Af : Hp → Prop, (∀ H', Af H' → ∃ m', m' < m ∧ Go (i + 1) m' H') ∧
      ∀ x H', J.yld i H x H' → g x (wipe σ vs) H' fun σ2 H2 => wipe σ2 vs = wipe σ vs ∧ tk σ2 H2 fun y H4 => tv σ2 H4 fun z H5 =>
        ∃ (a : Addr) (k : NestedKey) (kvs : List (NestedKey × V)), y = .ref a ∧ R H5 (.ref a) k.data ∧ k.depth ≤ 8 ∧ DM P w H5 D kvs ∧ kvs.length < sizeLine ∧ ∀ u, DM P w (upd H5 D u) D (putK kvs k z) → Af (upd H5 D u)) := by
  refine ⟨fun i m H => m = n - i ∧ i ≤ n ∧ Pv i H, ⟨n, rfl, Nat.zero_le _, h0⟩, ?_⟩
  rintro i m H ⟨rfl, hi, p⟩
  have q := hC i H hi p
  by_cases hlt : i < n
  · exact .inr ⟨W.goes i H hlt q, Pv (i + 1), fun H' p' => ⟨n - (i + 1), by omega, rfl, hlt, p'⟩, fun x H' y => hs i x H H' hlt p (W.yields i H x H' hlt q y)⟩
  · obtain rfl : i = n := by omega
    exact .inl ⟨W.stops H q, hd H p⟩
end
end G
end
section
set_option maxRecDepth 100000
set_option maxHeartbeats 4000000
/-! own errors whose __init__ begins super().__init__('..'), over ValueError or KeyError -/
namespace PySem
namespace GX
open PySem.W PySem.Calls PyProof.Rows PySem.HandSPX
/-- what the built-in __init__ i of the class B is -/
structure InitF (B i : String) : Prop where
  kxs : KxsFacts B i
  kind : builtinKind i = some .slot
  row : Manifest.signature? i = some ⟨.positional, "*", B, .self, [⟨"args", .varPos, false⟩]⟩
  star : (B != "*") = true
  entry : entryFor table i = some Builtin.«BaseException.__init__»
  plain : plainId i = true
  quiet : ∀ args, (Code.builtin i args).quiet = true
theorem init_VE : InitF "ValueError" "ValueError.__init__" :=
  ⟨kxs_ValueError, F.excBase_ValueError.initKind, F.excBase_ValueError.initRow, F.excBase_ValueError.noStar, F.excBase_ValueError.initEntry, F.excBase_ValueError.init.plain, fun args => Code.quiet_builtin args (by decide +kernel)⟩
theorem init_KE : InitF "KeyError" "KeyError.__init__" :=
  ⟨⟨by show builtinType _ = _; rw [builtinType_eq_fast]; kernel_rfl, by first | kernel_rfl | rfl⟩, by decide +kernel, by kernel_rfl, by decide, excClass_KeyError.initEntry, excClass_KeyError.init.plain, fun args => Code.quiet_builtin args (by decide +kernel)⟩
section
variable {prog : Program} {w : World} {M : Model} {A : Around} {E : Value → Shared → Prop} {R : Result → Shared → Prop} {h : Heap} {g : Array GenState} {d : Drawn} {t : Nat} {os : OsState}
variable {nm q : Str} {C N : Addr} {bs bm bmB : List Value} {hdct : Bool} {sn : List Str} {sub : List Value} {ab : Bool} {col : Option Bool} {dd : Option Addr} {k0 k1 k2 k3 k5 : Option Value} {B newId iN : String}
/-- the class's making: __new__ of B (bm: what stands above the class) -/
structure NewF (B newId iN : String) (bmB bm : List Value) : Prop where
  f : ExcBaseFacts B newId iN bmB
  hB : bm.contains (.type B) = true
  hA : bm.contains (.type "AttributeError") = false
  hN : bm.contains (.type "NameError") = false
theorem up1 {X : Value} {b : Bool} (h : bm.contains X = b) (n : (X == Value.ref C) = false) : (Value.ref C :: bm).contains X = b := by
  rw [List.contains_cons, n, Bool.false_or, h]
theorem checkNew (F : NewF B newId iN bmB bm) {rest : List Value} {Q : Unit → Shared → Prop} (hC : h.get? C = some (excClassObj nm q C N bs bm hdct sn sub ab col dd k0 k1 k2 k3 k5 newId)) (hq : Q () ⟨h, g, d, t, os⟩) :
    wpAny M A (checkBuiltinCall newId ⟨.ref C :: rest, []⟩) Q E ⟨h, g, d, t, os⟩ := by
  have hcont := up1 (C := C) F.hB rfl
  have hstar := F.f.noStar
  simp only [checkBuiltinCall, F.f.newKind, F.f.newSplit, F.f.newRow]
  repeat (first | refine wpAny_loadPart_at hC ?_ | (refine wpAny_isSubtype_exc hC ?_; rw [hcont]) | refine wpAny_staticBase_exc hC ?_ | refine wpAny_madeBy_exc hC ?_ | simp only [bne_self_eq_false, Bool.false_eq_true, if_false] | wp_step)
  exact hq
theorem codeNew (F : NewF B newId iN bmB bm) {rest : List Value} (hC : h.get? C = some (excClassObj nm q C N bs bm hdct sn sub ab col dd k0 k1 k2 k3 k5 newId))
    (hq : R (.ok (.ret (.ref (h.objs.size + 1)))) ⟨(h.push (kdv_tup rest)).push (excO C h.objs.size), g, d, t, os⟩) (hrest : rest.length ≤ sizeLine) : codeAny (model prog w) A (.builtin newId ⟨.ref C :: rest, []⟩) R ⟨h, g, d, t, os⟩ := by
  have hends := F.f.ends
  have c1 := up1 (C := C) F.hB rfl
  have c2 := up1 (C := C) F.hA rfl
  have c3 := up1 (C := C) F.hN rfl
  refine codeAny_builtinAt F.f.entry ?_
  unfold Builtin.«BaseException.__new__»
  refine wpAt_bind ?_
  show wpAt _ _ _ (stack >>= _) _ _ _
  refine wpAt_bind (wpAt_stack fun p below => wpAt_of_wpAny ?_)
  wp_walk
  refine wpAt_of_wpAny ?_
  rw [F.f.owner]
  repeat (first | with_reducible refine wpAny_madeHere_exc F.f.canon hC ?_ | with_reducible refine wpAny_loadPart_at hC ?_ | (with_reducible refine wpAny_isSubtype_exc hC ?_; first | rw [c1] | rw [c2] | rw [c3]) | wp_step)
  show R _ _
  rw [Heap.size_push]
  exact hq
theorem callClass (F : NewF B newId iN bmB bm) {rest : List Value} {fI : Addr} (hC : h.get? C = some (excClassObj nm q C N bs bm hdct sn sub ab col dd k0 k1 k2 k3 k5 newId))
    (hi : Looks (model prog w) h (typeLookup (.ref C) "__init__") (some (.ref fI))) (hb : ∀ self, Looks (model prog w) h (bindSpecial (.ref fI) self) (.ref fI, [self])) (hrest : rest.length ≤ sizeLine)
    (hq : codeAny (model prog w) (A.under (.builtin "type.__call__" ⟨.ref C :: rest, []⟩)) (.call (.ref fI) ⟨.ref (h.objs.size + 1) :: rest, []⟩) (InitBack (h.objs.size + 1) R) ⟨(h.push (kdv_tup rest)).push (excO C h.objs.size), g, d, t, os⟩) :
    codeAny (model prog w) A (.call (.ref C) ⟨rest, []⟩) R ⟨h, g, d, t, os⟩ := by
  have f1 := tc_lookup
  have f2 := tc_bind (.ref C)
  have hTy : (⟨h, g, d, t, os⟩ : Shared).TypeIs (.ref C) "type" := ⟨_, hC, rfl⟩
  refine codeAny_of_tree ?_
  show wpAny _ _ (callAny (.ref C) _) _ _ _
  repeat (any_goals (first | assumption | with_reducible refine wpAny_loadPart_at hC ?_ | wp_step))
  refine ⟨rfl, ?_⟩
  have inner : ∀ {A' : Around} {Q : Fin → Shared → Prop} {E : Value → Shared → Prop}, codeAny (model prog w) A' (.call (.ref fI) ⟨.ref (h.objs.size + 1) :: rest, []⟩)
      (fun r s' => match r with | .ok (.ret v) => v = .none ∧ Q (.done (.ret (.ref (h.objs.size + 1)))) s' | .ok _ => False | .error e => E e s') ⟨(h.push (kdv_tup rest)).push (excO C h.objs.size), g, d, t, os⟩ →
      wpAny (model prog w) A' (Builtin.«type.__call__» ⟨.ref C :: rest, []⟩) Q E ⟨h, g, d, t, os⟩ := by
    intro A' Q E hq
    repeat (first | with_reducible refine wpAny_loadPart_at hC ?_ | with_reducible refine wpAny_madeBy_exc hC ?_ | wp_step)
    refine codeAny_call_builtin_code (Code.quiet_builtin _ F.f.quiet) (checkNew F hC ?_)
    refine codeNew F hC ?_ hrest
    show wpAny _ _ _ _ _ _
    have k : ∀ b o, h.get? b = some o → ((h.push (kdv_tup rest)).push (excO C h.objs.size)).get? b = some o := fun b o e => Heap.get?_push_of_some _ (Heap.get?_push_of_some _ e)
    have hC₁ := k _ _ hC
    have hget : ((h.push (kdv_tup rest)).push (excO C h.objs.size)).get? (h.objs.size + 1) = some (excO C h.objs.size) := by heap_get
    have hcC : (Value.ref C :: bm).contains (.ref C) = true := by simp
    have i1 := hi.keeps k
    have b1 := (hb (.ref (h.objs.size + 1))).keeps k
    unfold isInstance
    repeat (first | with_reducible refine wpAny_loadPart_at hget ?_ | (with_reducible refine wpAny_isSubtype_exc hC₁ ?_; rw [hcC]) | wp_step)
    show wpAny _ _ (typeLookup (.ref C) _) _ _ _
    refine i1.at ?_
    refine wpAny_holding (wpAny_bind (b1.at ?_))
    refine wpAny_bind (wpAny_call (codeAny_mono hq fun r s' z => ?_))
    rcases r with e | (v | _ | _ | _) <;> first | exact z | exact z.elim | skip
    obtain ⟨rfl, z⟩ := z
    first
      | exact wpAny_pure (wpAny_pure z)
      | (wp_walk; exact z)
  refine codeAny_call_builtin_at (Code.quiet_builtin _ (by decide +kernel)) entry_typeCall (wpAny_check_type_call_sub hC (inner ?_))
  refine codeAny_mono hq fun r s' z => ?_
  rcases r with e | (v | _ | _ | _) <;> exact z
end
end GX
end PySem
end
section
set_option maxRecDepth 100000
set_option maxHeartbeats 4000000
namespace PySem
namespace GX
open PySem.W PySem.Calls PyProof.Rows PySem.HandSPX
/-! ### self.f = f on a fresh error -/
section
open Builtin Builtin.ObjectAttr
variable {prog : Program} {w : World} {A : Around} {E : Value → Shared → Prop} {R : Result → Shared → Prop} {hp : Heap} {g : Array GenState} {d : Drawn} {t : Nat} {os : OsState}
/-- what the class's mro lets a store do -/
structure MroF (mro : List Value) : Prop where
  pass : ∀ self, refuseLoop self "__setattr__" mro = pure ()
  ne : mro.isEmpty = false
  ob : mro.contains (.type "object") = true
theorem osaPre {K : Frag} {name : Str} {tk : Tok} {v : Value} {x C : Addr} {ox : Obj} {od : Option Obj} {cd : ClassData} (X : K.In hp) (I : InstAt hp x ox C od) (hcd : clsIn K C = some cd) (hm : MroF cd.mro) (ha : findIn K (.ref C) name = some none)
    (hq : wpAny (model prog w) A.in1 (storeInOwnDict (.ref x) (.ref C) (.str name tk) name v false)
      (fun fin s' => match fin with | .done f => R (.ok f) s' | .again c' => c'.quiet = true ∧ codeAny (model prog w) A c' R s') (fun e s' => R (.error e) s') ⟨hp, g, d, t, os⟩) :
    codeAny (model prog w) A (.call (.builtin "object.__setattr__") ⟨[.ref x, .str name tk, v], []⟩) R ⟨hp, g, d, t, os⟩ := by
  have SF := F.store_object
  have sub : Looks (model prog w) hp (isInstance (.ref x) (.type "object")) true := I.type.andThen (looks_mroIn X (by unfold mroIn; rw [hcd, Option.bind_some, if_neg (by rw [hm.ne]; decide), hm.ob]))
  refine codeAny_call_builtin SF.slot.plain SF.entry (@check_slot (model prog w) _ _ ⟨hp, g, d, t, os⟩ "object.__setattr__" "object" "__setattr__" (.ref x) [.str name tk, v] [] _ SF.kind SF.split sub (SF.args (.ref x) (.str name tk) v) ?_)
  have hmr : Looks (model prog w) hp (mroOf (.ref C)) cd.mro := (looks_clsIn X hcd).andThen .now
  have L3 : Looks (model prog w) hp (storeTaker? none) none := .now
  rw [osa_eq, refuse_eq]
  refine wpAny_bind (wpAny_bind (I.type.at (wpAny_bind (hmr.at ?_))))
  rw [hm.pass]
  exact wpAny_pure (wpAny_bind (I.type.at (wpAny_bind ((looks_findIn X ha).at (wpAny_bind (L3.at hq))))))
theorem osaFirst {K : Frag} {name : Str} {tk : Tok} {v : Value} {x C : Addr} {fv : Array Value} {cd : ClassData} (X : K.In hp) (hx : hp.get? x = some { cls := .ref C, data := .fields fv }) (hcd : clsIn K C = some cd) (hm : MroF cd.mro) (hh : cd.hasDict = true) (ha : findIn K (.ref C) name = some none)
    (hq : ∀ h' tk' dx, (∀ b o, b ≠ x → hp.get? b = some o → h'.get? b = some o) → hp.objs.size ≤ dx → dx ≠ x → h'.get? x = some { cls := .ref C, dict := some dx, data := .fields fv } →
      h'.Ns1 dx (fun y => if y = name then some v else none) → R (.ok (.ret .none)) ⟨h', g, d, tk', os⟩) :
    codeAny (model prog w) A (.call (.builtin "object.__setattr__") ⟨[.ref x, .str name tk, v], []⟩) R ⟨hp, g, d, t, os⟩ := by
  have I : InstAt hp x { cls := .ref C, data := .fields fv } C none := ⟨hx, rfl, rfl, trivial⟩
  have hxs : x ≠ hp.objs.size := Nat.ne_of_lt (Heap.lt_size hx)
  refine osaPre X I hcd hm ha ?_
  have hcls : Looks (model prog w) hp (classData C) cd := looks_clsIn X hcd
  obtain ⟨nm, bs, mro, ns, qn, hd, sn, sb, ab, col, del⟩ := cd
  dsimp only at hh
  subst hh
  unfold storeInOwnDict ownDictForStores
  repeat (first | with_reducible refine store_in_new ?_ ?_ | with_reducible refine wpAny_loadPart_at hx ?_ | with_reducible refine hcls.at ?_ | wp_step)
  · exact ⟨_, #[], _, (Heap.get?_update_ne _ _ _ _ hxs.symm).trans (Heap.get?_push_at rfl rfl), rfl, fun e he => absurd he (by simp), fun _ => rfl⟩
  · intro h' tk' hn' hs
    have hx₁ : (hp.push { cls := .type "dict", data := .dict #[] }).get? x = some { cls := .ref C, data := .fields fv } := Heap.get?_push_of_some _ hx
    refine hq h' tk' hp.objs.size (fun b o hb ho => ?_) (Nat.le_refl _) hxs.symm ?_ hn'
    · exact (hs.2 b (Nat.ne_of_lt (Heap.lt_size ho))).trans ((Heap.get?_update_ne _ _ _ _ hb).trans (Heap.get?_push_of_some _ ho))
    · exact (hs.2 x hxs).trans (Heap.get?_update_self _ hx₁ rfl)
theorem osaMore {K : Frag} {name : Str} {tk : Tok} {v : Value} {x C dx : Addr} {fv : Array Value} {cd : ClassData} {m0 : Str → Option Value} {nl : List Str} (X : K.In hp) (hx : hp.get? x = some { cls := .ref C, dict := some dx, data := .fields fv }) (hns : hp.Ns1 dx m0) (hw : Within m0 nl) (hz : nl.length ≤ 1000)
    (hcd : clsIn K C = some cd) (hm : MroF cd.mro) (hh : cd.hasDict = true) (ha : findIn K (.ref C) name = some none)
    (hq : ∀ h' tk', (∀ b o, b ≠ dx → hp.get? b = some o → h'.get? b = some o) → h'.Ns1 dx (fun y => if y = name then some v else m0 y) → R (.ok (.ret .none)) ⟨h', g, d, tk', os⟩) :
    codeAny (model prog w) A (.call (.builtin "object.__setattr__") ⟨[.ref x, .str name tk, v], []⟩) R ⟨hp, g, d, t, os⟩ := by
  obtain ⟨oD, esD, epD, hoD, hdD, _⟩ := hns.count hw
  refine osaPre X (⟨hx, rfl, rfl, hoD⟩ : InstAt hp x { cls := .ref C, dict := some dx, data := .fields fv } C (some oD)) hcd hm ha ?_
  have hcls : Looks (model prog w) hp (classData C) cd := looks_clsIn X hcd
  obtain ⟨nm, bs, mro, ns, qn, hd, sn, sb, ab, col, del⟩ := cd
  dsimp only at hh
  subst hh
  unfold storeInOwnDict ownDictForStores
  repeat (first | with_reducible refine ESX.store_in_old hns hw hz ?_ | with_reducible refine wpAny_loadPart_at hx ?_ | with_reducible refine hcls.at ?_ | wp_step)
  intro h' tk' hn' hs
  exact hq h' tk' (fun b o hb ho => (hs.2 b hb).trans ho) hn'
end
/-! ### the bound built-in __init__, called -/
section
variable {prog : Program} {w : World} {A : Around} {E : Value → Shared → Prop} {h : Heap} {g : Array GenState} {d : Drawn} {t : Nat} {os : OsState} {B i newId : String}
variable {nm q : Str} {C N : Addr} {bs bm : List Value} {hdct : Bool} {sn : List Str} {sub : List Value} {ab : Bool} {col : Option Bool} {dd : Option Addr} {k0 k1 k2 k3 k5 : Option Value}
theorem callMw (FI : InitF B i) {u e t0 : Addr} {rest : List Value} {Q : Value → Shared → Prop} (hC : h.get? C = some (excClassObj nm q C N bs bm hdct sn sub ab col dd k0 k1 k2 k3 k5 newId)) (he : h.get? e = some (excO C t0)) (hu : h.get? u = some (kxs_mw i e))
    (hrest : rest.length ≤ sizeLine) (hq : ∀ h' t1, (∀ b o, b ≠ e → h.get? b = some o → h'.get? b = some o) → h'.get? e = some (excO C t1) → Q .none ⟨h', g, d, t, os⟩) :
    wpAny (model prog w) A (call (.ref u) rest) Q E ⟨h, g, d, t, os⟩ := by
  refine wpAny_call (codeAny_of_tree ?_)
  show wpAny _ A.in1 (callAny (.ref u) ⟨rest, []⟩) _ _ _
  simp only [callAny]
  refine wpAny_bind (wpAny_load hu ?_)
  simp only [kxs_mw, show (Value.type "method-wrapper" == Value.type "method" || Value.type "method-wrapper" == Value.type "builtin_function_or_method" || Value.type "method-wrapper" == Value.type "method-wrapper") = true by decide, if_true]
  refine KFB.if_so (by decide) ?_
  have chk : ∀ {A' : Around} {Q' : Unit → Shared → Prop} {E' : Value → Shared → Prop}, Q' () ⟨h, g, d, t, os⟩ → wpAny (model prog w) A' (checkBoundCall i ⟨.ref e :: rest, []⟩) Q' E' ⟨h, g, d, t, os⟩ := by
    intro A' Q' E' hq'
    have hshort := FI.star
    simp only [checkBoundCall, FI.kind, FI.row]
    repeat (first | (with_reducible refine wpAny_loadPart_at he ?_) | with_reducible refine wpAny_loadPart_at hC ?_ | wp_step)
    refine wpAny_onRaise ?_
    rw [show ∀ (a b : String) (n : Nat), Bind.check ⟨.positional, "*", B, .self, [⟨"args", .varPos, false⟩]⟩ a b n (List.map (fun x => x.fst) ({ pos := Value.ref e :: rest } : Args).kw) = pure () from fun a b n => check_star_args _ _ _ _ _ _]
    exact wpAny_pure hq'
  refine wpAny_bind (chk ?_)
  refine wpAny_bind (wpAny_pure (wpAny_pure ?_))
  refine ⟨FI.quiet _, codeAny_builtin FI.entry ?_⟩
  rw [Around.under_plainId FI.plain _]
  wp_walk
  refine hq _ h.objs.size (fun b o hb ho => ?_) ?_
  · rw [Heap.get?_update_other _ _ (Ne.symm hb)]
    exact Heap.get?_push_of_some _ ho
  · rw [Heap.get?_update_self _ (Heap.get?_push_of_some _ he) rfl]
    rfl
end
end GX
end PySem
end
section
set_option maxRecDepth 100000
set_option maxHeartbeats 4000000
namespace PySem
namespace GX
open PySem.W PySem.Calls PyProof.Rows PySem.HandSPX
/-! ### the text of such an __init__ -/
def superStmt (text : Str) (k : Nat) (p0 p1 p2 p3 p4 p5 : Pos) : Stmt := .Expr (.Call (.Attribute (.Call (.Name "super" p0) [] [] p1) "__init__" p2) [.Constant (.str text) k p3] [] p4) p5
inductive FldS : List Str → List Stmt → Prop
  | nil : FldS [] []
  | cons {f : Str} {q0 q1 q2 q3 : Pos} {fs : List Str} {ss : List Stmt} : FldS fs ss → FldS (f :: fs) (.Assign [.Attribute (.Name "self" q0) f q1] (.Name f q2) q3 :: ss)
/-- its scope -/
structure InitSc (sc : Scope) (flds : List Str) : Prop where
  kind : sc.kind = .function
  co : sc.isCoroutine = false
  gen : sc.isGenerator = false
  cell : ∀ y ∈ sc.names, y.2 ≠ .cell
  self : sc.names.lookup ("self" : Str) = some .local
  flds : ∀ f ∈ flds, sc.names.lookup f = some .local ∧ (f == ("__debug__" : Str)) = false
  cls : sc.names.lookup ("__class__" : Str) = some .free
  sup : sc.names.lookup ("super" : Str) = some .globalImplicit
/-- what the written part says of the class nm at C, its __init__ at fI; its fields flds; over the built-in B (made by BN's __new__) -/
structure ExcT (P : Program) (K : Frag) (mg : Str → Option Value) (nm : Str) (flds : List Str) (BN newId iN BI initId : String) (C fI : Addr) : Prop where
  gC : mg nm = some (.ref C)
  cls : ∃ n q N bs bmB bm sn sub ab col dd k0 k1 k2 k3 k5, K.lookup C = some (excClassObj n q C N bs bm true sn sub ab col dd k0 k1 k2 k3 k5 newId) ∧ NewF BN newId iN bmB bm ∧ MroF (.ref C :: bm)
  init : InitF BI initId
  sa : findIn K (.ref C) "__setattr__" = some (some (.builtin "object.__setattr__"))
  ga : findIn K (.ref C) "__getattribute__" = some (some (.builtin "BaseException.__getattribute__"))
  gg : findIn K (.ref C) "__getattr__" = some none
  no : ∀ f ∈ flds, findIn K (.ref C) f = some none
  iC : findIn K (.ref C) "__init__" = some (some (.ref fI))
  tC : typeIn K (.ref fI) = some (.type "function")
  kC : keepIn K (.ref C) = true
  exC : subIn K (.ref C) (.type "BaseException") = some true
  tyC : typeIn K (.ref C) = some (.type "type")
  hdC : hasDictIn K C = true
  sup : ks_superIn K C C "__init__" = some (some (.builtin initId))
  subB : subIn K (.ref C) (.type BI) = some true
  self : mroIn K C (.ref C) = some true
  opq : nsIn K cStatics "thirdparty.any" = some none
  sup0 : mg "super" = none
  top : (P.main.scope.names.lookup ("super" : Str)).isSome = false
  fn : ∃ (oc : Value) (od : Option Addr) (q : Str) (ar : Arguments) (body : List Stmt) (sc : Scope) (doc pm : Value) (an : Option Addr) (cda : Addr) (ct : Value) (cc : Addr) (osl : Array (Option Value)) (text : Str) (k : Nat) (p0 p1 p2 p3 p4 p5 : Pos) (ss : List Stmt) (ar0 : Arg),
    K.lookup fI = some ⟨oc, od, .func (ksFn "__init__" q ar body sc .none .none doc pm an (.ref cda) ct cc), osl⟩ ∧ codeIn K (.ref cda) q = true ∧ body = superStmt text k p0 p1 p2 p3 p4 p5 :: ss ∧ FldS flds ss ∧ InitSc sc flds ∧ text.length ≤ 1000 ∧ (p2.endLine == p4.line) = true ∧
      (ar.posonlyargs ++ ar.args).head? = some ar0 ∧ ar0.arg = "self" ∧
      (∀ (x : Value) (us : List Value), us.length = flds.length → bindArgs (ksFn "__init__" q ar body sc .none .none doc pm an (.ref cda) ct cc) ⟨x :: us, []⟩ = pure ((("self" : Str), x) :: flds.zip us)) ∧
      (∃ (cl : Value) (cld : Option Addr) (csl : Array (Option Value)), K.lookup cc = some ⟨cl, cld, .cell (some (.ref C)), csl⟩) ∧
      (∃ (ccl : Value) (cdd : Option Addr) (vs : Array Value) (ccs : Array (Option Value)) (file : Str) (tf : Tok), K.lookup cda = some ⟨ccl, cdd, .fields vs, ccs⟩ ∧ vs[2]? = some (.str file tf) ∧ ((P.main.file : Str) == file) = true)
theorem lookupR {f : Str} {v : Value} {l : List (Str × Value)} (hn : (l.map (·.1)).Nodup) (hm : (f, v) ∈ l) : l.reverse.lookup f = some v := by
  have key : ∀ {l : List (Str × Value)}, (l.map (·.1)).Nodup → (f, v) ∈ l → l.lookup f = some v := by
    intro l
    induction l with
    | nil => intro _ h; simp at h
    | cons p l ih =>
      intro hn h
      rw [List.map_cons, List.nodup_cons] at hn
      rcases List.mem_cons.mp h with e | h
      · subst e; simp [List.lookup]
      · have ne : (f == p.1) = false := beq_eq_false_iff_ne.mpr fun e => hn.1 (by rw [← e]; exact List.mem_map_of_mem (f := (·.1)) h)
        simp only [List.lookup, ne]
        exact ih hn.2 h
  refine key ?_ (List.mem_reverse.mpr hm)
  rw [List.map_reverse]
  exact (List.reverse_perm _).nodup_iff.mpr hn
theorem zip_keys : ∀ {fl : List Str} {ul : List Value}, ul.length = fl.length → (fl.zip ul).map (·.1) = fl
  | [], _, _ => by simp
  | a :: fl, [], h => by simp at h
  | a :: fl, b :: ul, h => by rw [List.zip_cons_cons, List.map_cons, zip_keys (by simpa using h)]
/-- what the stores make of the names -/
def putAll : List (Str × Value) → (Str → Option Value) → Str → Option Value
  | [], m => m
  | (f, v) :: r, m => putAll r fun y => if y = f then some v else m y
/-- what __init__ leaves of a fresh error at x -/
structure InitEnd (h h' : Heap) (x C dx t1 : Addr) (fvs : List (Str × Value)) : Prop where
  keep : ∀ b o, b ≠ x → h.get? b = some o → h'.get? b = some o
  obj : h'.get? x = some { cls := .ref C, dict := some dx, data := .fields #[.ref t1, .none, .none, .none, .bool false, .none] }
  dbig : h.objs.size ≤ dx
  dne : dx ≠ x
  ns : h'.Ns1 dx (putAll fvs fun _ => none)
end GX
end PySem
end
section
set_option maxRecDepth 100000
set_option maxHeartbeats 4000000
namespace PySem
namespace GX
open PySem.W PySem.Calls PyProof.Rows PySem.HandSPX
theorem butK {K : Frag} {h h' : Heap} {x : Addr} (X : K.In h) (hx : K.lookup x = none) (k : ∀ b o, b ≠ x → h.get? b = some o → h'.get? b = some o) : K.In h' := fun a o e =>
  k a o (fun z => by rw [z, hx] at e; cases e) (X a o e)
section
variable {prog : Program} {w : World} {A : Around} {E : Value → Shared → Prop} {K : Frag} {C : Addr} {g : Array GenState} {d : Drawn} {t : Nat} {os : OsState}
/-- self.f = v, fresh -/
theorem within_put {m : Str → Option Value} {l : List Str} {f : Str} {v : Value} (h : Within m l) : Within (fun y => if y = f then some v else m y) (f :: l) := Within.cons f v h
/-- the stores, from a dict on -/
theorem fields_run {flds : List Str} {ss : List Stmt} (FS : FldS flds ss) : ∀ {h : Heap} {t : Nat} {nl : List Str} {m0 : Str → Option Value} {env : Env} {x dx : Addr} {fv : Array Value} {cd : ClassData} {ml : Str → Option Value} {us : List Value} {Q : Flow → Shared → Prop},
    (X : K.In h) → (hxK : K.lookup dx = none) → h.get? x = some { cls := .ref C, dict := some dx, data := .fields fv } → h.Ns1 dx m0 → Within m0 nl → nl.length + flds.length ≤ 1000 → clsIn K C = some cd → MroF cd.mro → cd.hasDict = true →
    (∀ f ∈ flds, findIn K (.ref C) f = some none) → findIn K (.ref C) "__setattr__" = some (some (.builtin "object.__setattr__")) →
    h.Ns env.locals ml → env.locals ≠ dx → x ≠ dx → env.scope.kind = .function → (∀ f ∈ ("self" : Str) :: flds, env.kindOf f = some .local ∧ (f == ("__debug__" : Str)) = false) → ml "self" = some (.ref x) → us.length = flds.length → (∀ p ∈ flds.zip us, ml p.1 = some p.2) →
    (∀ h' t', (∀ b o, b ≠ dx → h.get? b = some o → h'.get? b = some o) → h'.Ns1 dx (putAll (flds.zip us) m0) → Q .next ⟨h', g, d, t', os⟩) →
    wpAny (model prog w) A (execs ss env) Q E ⟨h, g, d, t, os⟩ := by
  induction FS with
  | nil =>
    intro h t nl m0 env x dx fv cd ml us Q X hxK hx hns hw hz hcd hm hh ha sa hn hL hxd hk hsc hself hl hv hq
    exact wpAny_execs_nil (hq h t (fun b o _ e => e) (by cases us <;> exact hns))
  | @cons f q0 q1 q2 q3 fs ss FS ih =>
    intro h t nl m0 env x dx fv cd ml us Q X hxK hx hns hw hz hcd hm hh ha sa hn hL hxd hk hsc hself hl hv hq
    cases us with
    | nil => simp at hl
    | cons u us =>
      have hf := hsc f (by simp)
      have hs := hsc "self" (by simp)
      refine wpAny_execs_cons (plainObj_wpAny_Assign_Attribute ?_)
      refine ESX.ldL hn (hv (f, u) (by simp)) (ESX.ldL hn hself ?_ hk hs.1 hs.2) hk hf.1 hf.2
      obtain ⟨oD, esD, epD, hoD, hdD, _⟩ := hns.count hw
      refine set_plain X (ox := { cls := .ref C, dict := some dx, data := .fields fv }) (od := some oD) ⟨hx, rfl, rfl, hoD⟩ sa ?_
      refine osaMore X hx hns hw (by simp at hz; omega) hcd hm hh (ha f (by simp)) fun h' tk' k' hns' => ?_
      obtain ⟨oL, es, ep, hoL, r⟩ := hn
      refine ih (butK X hxK k') hxK (k' _ _ hxd hx) hns' (within_put hw) (by simp at hz ⊢; omega) hcd hm hh (fun z hz => ha z (by simp [hz])) sa ⟨oL, es, ep, k' _ _ hL hoL, r⟩ hL hxd hk (fun z hz => hsc z ?_) hself (by simpa using hl) (fun p hp => hv p (by simp [hp])) fun h2 t2 k2 n2 => hq h2 t2 (fun b o hb e => k2 b o hb (k' b o hb e)) n2
      rcases List.mem_cons.mp hz with e | e
      · subst e; simp
      · simp [e]
end
end GX
end PySem
end
section
set_option maxRecDepth 100000
set_option maxHeartbeats 4000000
namespace PySem
namespace GX
open PySem.W PySem.Calls PyProof.Rows PySem.HandSPX
section
variable {P : Program} {w : World} {A : Around} {R : Result → Shared → Prop} {K : Frag} {mg mb : Str → Option Value} {nm BN newId iN BI initId : _} {flds : List Str} {C fI : Addr} {h : Heap} {g : Array GenState} {d : Drawn} {t : Nat} {os : OsState}
theorem ltK {x : Addr} (X : K.In h) (hx : h.objs.size ≤ x) : K.lookup x = none := by
  cases e : K.lookup x with
  | none => rfl
  | some o => exact absurd (Heap.lt_size (X _ _ e)) (Nat.not_lt.mpr hx)
theorem super_eval {text : Str} {k : Nat} {p0 p1 p2 p3 p4 : Pos} {env : Env} (hpos : (p2.endLine == p4.line) = true) : eval (.Call (.Attribute (.Call (.Name "super" p0) [] [] p1) "__init__" p2) [.Constant (.str text) k p3] [] p4) env = (do
      let ov ← attributeBase (.Call (.Name "super" p0) [] [] p1) "__init__" env (eval (.Call (.Name "super" p0) [] [] p1) env)
      standAt p2.atName
      let (f, first) ← holding [ov] (getMethod ov "__init__" (do return (← importBound (.Call (.Name "super" p0) [] [] p1) env).getD true))
      callWith p4 f first (backTo p4 (starEach [.Constant (.str text) k p3] env)) []) := by
  show (attributeBase _ _ _ _ >>= fun ov => standAt _ >>= fun _ => methodCall _ _ _ _ _ _ _ _ _) = _
  refine congrArg _ (funext fun ov => congrArg _ (funext fun _ => ?_))
  unfold methodCall methodCallPos
  rw [hpos, Bool.or_true]
  rfl
theorem init_run (T : ExcT P K mg nm flds BN newId iN BI initId C fI) {x t0 : Addr} {us : List Value} (X : K.In h) (G : h.Ns mainGlobals mg) (B : h.Ns builtinsNs mb) (hmb : mb "super" = some (.type "super")) (hlim : h.NoLimit) (hx : h.get? x = some (excO C t0)) (hxK : K.lookup x = none) (hxG : x ≠ mainGlobals) (hxB : x ≠ builtinsNs)
    (hroom : A.depth < recursionLimit) (hl : us.length = flds.length) (hne : flds ≠ []) (hnd : (("self" : Str) :: flds).Nodup) (hsz : flds.length ≤ 900)
    (hq : ∀ h' tk dx t1, InitEnd h h' x C dx t1 (flds.zip us) → R (.ok (.ret .none)) ⟨h', g, d, tk, os⟩) : codeAny (model P w) A (.call (.ref fI) ⟨.ref x :: us, []⟩) R ⟨h, g, d, t, os⟩ := by
  obtain ⟨oc, od, q, ar, body, sc, doc, pm, an, cda, ct, cc, osl, text, k, p0, p1, p2, p3, p4, p5, ss, ar0, ho, hcd, rfl, FS, S, htx, hpos, hp, har, hbd, ⟨cl, cld, csl, hcell⟩, ⟨ccl, cdd, vs, ccs, file, tf, hcode, hvs, hfile⟩⟩ := T.fn
  obtain ⟨n, q', N, bs, bmB, bm, sn, sub, ab, col, dd, k0, k1, k2, k3, k5, hC, NF, MF⟩ := T.cls
  have hcl : clsIn K C = some { name := n, bases := bs, mro := .ref C :: bm, ns := N, qualname := q', hasDict := true, slotNames := sn, subclasses := sub, abstract := ab, collection := col, hasDel := false } := by unfold clsIn; rw [hC] <;> rfl
  have zk := zip_keys hl
  have hbk : ((("self" : Str), Value.ref x) :: flds.zip us).map (·.1) = ("self" : Str) :: flds := by rw [List.map_cons, zk]
  have hnd' : (((("self" : Str), Value.ref x) :: flds.zip us).map (·.1)).Nodup := by rw [hbk]; exact hnd
  refine ks_codeAny_call_defAt hroom (X _ _ ho) rfl hlim (codeRec_of X hcd) rfl (BindsTo.of_eq (hbd (.ref x) us hl)) S.cell ?_ ?_ S.co S.gen S.kind
  · intro y hy
    rcases List.mem_cons.mp hy with e | e
    · subst e; exact S.self
    · exact (S.flds y.1 (by rw [← zk]; exact List.mem_map_of_mem (f := (·.1)) e)).1
  intro h₀ hn k₀
  have X₀ : K.In h₀ := X.keeps k₀
  have hx₀ := k₀ _ _ hx
  have hL : h.objs.size ≠ x := Nat.ne_of_gt (Heap.lt_size hx)
  have mem : ∀ p ∈ (("self" : Str), Value.ref x) :: flds.zip us, ((("self" : Str), Value.ref x) :: flds.zip us).reverse.lookup p.1 = some p.2 := fun p hp => lookupR hnd' hp
  have hself := mem _ List.mem_cons_self
  obtain ⟨oD, hoD, hdD⟩ : ∃ oD, h₀.get? C = some oD ∧ oD.data = .cls { name := n, bases := bs, mro := .ref C :: bm, ns := N, qualname := q', hasDict := true, slotNames := sn, subclasses := sub, abstract := ab, collection := col, hasDel := false } := ⟨_, X₀ _ _ hC, rfl⟩
  have I₀ : InstAt h₀ x (excO C t0) C none := ⟨hx₀, rfl, rfl, trivial⟩
  have hxC : x ≠ C := ks_ne X₀ I₀ hcl
  refine ks_wpAt_execs_cons (ks_wpAt_Expr_any (ks_wpAt_MethodCall ?_ (super_eval hpos)) (by unfold interactive; first | rfl | (rw [show (callEnv (ksFn "__init__" q ar (superStmt text k p0 p1 p2 p3 p4 p5 :: ss) sc .none .none doc pm an (.ref cda) ct cc) h.objs.size fI).scope.kind = .function from S.kind]; rfl)))
  refine ks_wpAt_super_base S.sup S.cls (by decide) rfl (X₀ _ _ ho) rfl hp rfl (X₀ _ _ hcode) rfl hvs hfile T.top ?_
  refine ks_loadName_global S.kind S.sup (loadGlobal_builtin (G.keeps k₀) T.sup0 (B.keeps k₀) hmb ⟨rfl, ?_⟩)
  refine wpAny_loadName_free S.kind S.cls rfl ⟨_, X₀ _ _ hcell, rfl⟩ ?_
  rw [har]
  refine wpAny_loadName_local S.kind S.self hn hself ?_
  refine ks_wpAny_isType_cls hoD hdD ⟨rfl, ?_⟩
  refine ks_wpAny_call_super hoD hdD hx₀ rfl (fun c e => by cases e) (looks_mroIn X₀ T.self) (fun h₁ hso k₁ => ?_)
  have X₁ : K.In h₁ := X₀.keeps k₁
  have I₁ : InstAt h₁ x (excO C t0) C none := ⟨k₁ _ _ hx₀, rfl, rfl, trivial⟩
  have hsup := T.sup
  unfold ks_superIn at hsup
  rw [hcl] at hsup
  refine kxs_getMethod T.init.kxs hso (looks_opaque X₁ T.opq) (fun A Q E s k q => wpAny_bind ((looks_clsIn X₁ hcl) A _ E s k (wpAny_pure q))) rfl X₁ hsup (I₁.type.andThen (looks_subIn X₁ T.subB)) hxC (by decide) ?_
  have kU : ∀ b o, h₁.get? b = some o → (h₁.push (kxs_mw initId x)).get? b = some o := fun b o e => Heap.get?_push_of_some _ e
  have hu : (h₁.push (kxs_mw initId x)).get? h₁.objs.size = some (kxs_mw initId x) := Heap.get?_push_at rfl rfl
  refine kxs_callWith (i := initId) (x := x) rfl ?_
  refine evalArgs_plain (spliced_cons (Constant_str (k := k) (pos := p3) (spliced_nil ⟨hu, ?_⟩)))
  refine callMw T.init (kU _ _ (X₁ _ _ hC)) (kU _ _ I₁.at_) hu (by rw [sizeLine_eq]; simp) fun h₂ t1 k₂ hx₂ => ?_
  have kA : ∀ b o, b ≠ x → h₀.get? b = some o → h₂.get? b = some o := fun b o hb e => k₂ b o hb (kU _ _ (k₁ _ _ e))
  have X₂ : K.In h₂ := butK X₀ hxK kA
  obtain ⟨oL, es, ep, hoL, rL⟩ := hn
  have hn₂ : h₂.Ns h.objs.size _ := ⟨oL, es, ep, kA _ _ hL hoL, rL⟩
  obtain ⟨f, fl, rfl⟩ : ∃ f fl, flds = f :: fl := by cases flds with
    | nil => exact absurd rfl hne
    | cons f fl => exact ⟨f, fl, rfl⟩
  obtain ⟨u, ul, rfl⟩ : ∃ u ul, us = u :: ul := by cases us with
    | nil => simp at hl
    | cons u ul => exact ⟨u, ul, rfl⟩
  cases FS with
  | @cons _ q0 q1 q2 q3 _ ss FS =>
  refine wpAt_of_wpAny (wpAny_execs_cons (plainObj_wpAny_Assign_Attribute ?_))
  have kd := fun f hf => (S.flds f hf)
  refine ESX.ldL hn₂ (mem (f, u) (by simp)) (ESX.ldL hn₂ hself ?_ S.kind S.self (by decide)) S.kind (kd f (by simp)).1 (kd f (by simp)).2
  refine set_plain X₂ (ox := excO C t1) (od := none) ⟨hx₂, rfl, rfl, trivial⟩ T.sa ?_
  refine osaFirst X₂ hx₂ hcl MF rfl (T.no f (by simp)) fun h₃ tk₃ dx k₃ dn dne hx₃ hn₃ => ?_
  have kB : ∀ b o, b ≠ x → h.get? b = some o → h₃.get? b = some o := fun b o hb e => k₃ b o hb (kA b o hb (k₀ b o e))
  have X₃ : K.In h₃ := butK X hxK kB
  have z₂ : h.objs.size < h₂.objs.size := Heap.lt_size (hn₂.choose_spec.choose_spec.choose_spec.1)
  have dn' : h₂.objs.size ≤ dx := dn
  have dbig : h.objs.size ≤ dx := by omega
  have dL : h.objs.size ≠ dx := by omega
  refine fields_run FS (nl := [f]) X₃ (ltK X dbig) hx₃ hn₃ (Within.cons f u (ns := []) (fun y hy => by simp at hy)) (by simp at hsz ⊢; omega) hcl MF rfl (fun z hz => T.no z (by simp [hz])) T.sa ⟨oL, es, ep, k₃ _ _ hL (kA _ _ hL hoL), rL⟩ dL (Ne.symm dne) S.kind (fun z hz => ?_) hself (by simpa using hl) (fun p hp => mem p (by simp [hp])) fun h₄ t₄ k₄ n₄ => ?_
  · rcases List.mem_cons.mp hz with e | e
    · subst e; exact ⟨S.self, by decide⟩
    · exact kd z (by simp [e])
  · exact hq h₄ t₄ dx t1 ⟨fun b o hb e => k₄ b o (Nat.ne_of_lt (Nat.lt_of_lt_of_le (Heap.lt_size e) dbig)) (kB b o hb e), k₄ _ _ (Ne.symm dne) hx₃, dbig, dne, n₄⟩
end
end GX
end PySem
end
section
set_option maxRecDepth 100000
set_option maxHeartbeats 4000000
namespace PySem
namespace GX
open PySem.W PySem.Calls PyProof.Rows PySem.HandSPX
/-- the made error -/
structure MadeX (h h' : Heap) (e C d : Addr) (fvs : List (Str × Value)) : Prop where
  keep : ∀ b o, h.get? b = some o → h'.get? b = some o
  new : h.objs.size ≤ e
  obj : ∃ oe vs, h'.get? e = some oe ∧ oe.cls = .ref C ∧ oe.dict = some d ∧ oe.data = .fields vs ∧ vs[1]? = some .none
  dbig : h.objs.size ≤ d
  dne : d ≠ e
  ns : h'.Ns1 d (putAll fvs fun _ => none)
theorem ns_lt {h : Heap} {a : Addr} {m : Str → Option Value} (n : h.Ns a m) : a < h.objs.size := n.lt
section
variable {P : Program} {w : World} {A : Around} {R : Result → Shared → Prop} {K : Frag} {mg mb : Str → Option Value} {nm BN newId iN BI initId : _} {flds : List Str} {C fI : Addr} {h : Heap} {g : Array GenState} {d : Drawn} {t : Nat} {os : OsState}
theorem made_run (T : ExcT P K mg nm flds BN newId iN BI initId C fI) {us : List Value} (X : K.In h) (G : h.Ns mainGlobals mg) (B : h.Ns builtinsNs mb) (hmb : mb "super" = some (.type "super")) (hlim : h.NoLimit)
    (hroom : A.depth + 1 < recursionLimit) (hl : us.length = flds.length) (hne : flds ≠ []) (hnd : (("self" : Str) :: flds).Nodup) (hsz : flds.length ≤ 900)
    (hq : ∀ h' tk e dx, MadeX h h' e C dx (flds.zip us) → R (.ok (.ret (.ref e))) ⟨h', g, d, tk, os⟩) : codeAny (model P w) A (.call (.ref C) ⟨us, []⟩) R ⟨h, g, d, t, os⟩ := by
  obtain ⟨n, q', N, bs, bmB, bm, sn, sub, ab, col, dd, k0, k1, k2, k3, k5, hC, NF, MF⟩ := T.cls
  have k : ∀ b o, h.get? b = some o → ((h.push (kdv_tup us)).push (excO C h.objs.size)).get? b = some o := fun b o e => Heap.get?_push_of_some _ (Heap.get?_push_of_some _ e)
  have hget : ((h.push (kdv_tup us)).push (excO C h.objs.size)).get? (h.objs.size + 1) = some (excO C h.objs.size) := by heap_get
  refine callClass NF (X _ _ hC) (looks_findIn X T.iC) (fun self => bind_fn X self T.tC) (by rw [sizeLine_eq]; omega) ?_
  refine init_run T (X.keeps k) (G.keeps k) (B.keeps k) hmb (hlim.keeps k) hget (ltK X (Nat.le_succ _)) (Nat.ne_of_gt (Nat.lt_succ_of_lt (ns_lt G))) (Nat.ne_of_gt (Nat.lt_succ_of_lt (ns_lt B))) hroom hl hne hnd hsz fun h' tk' dx t1 I => ?_
  have old : ∀ b o, h.get? b = some o → h'.get? b = some o := fun b o e => I.keep b o (Nat.ne_of_lt (Nat.lt_succ_of_lt (Heap.lt_size e))) (k b o e)
  have z := I.dbig
  rw [Heap.size_push, Heap.size_push] at z
  exact ⟨rfl, hq h' tk' (h.objs.size + 1) dx ⟨old, Nat.le_succ _, ⟨_, _, I.obj, rfl, rfl, rfl, rfl⟩, by omega, I.dne, I.ns⟩⟩
end
end GX
end PySem
namespace L2
open PySem PySem.Spec PyProof.Rows PySem.GX
theorem putAll_look {f : Str} : ∀ {l : List (Str × Value)} {m : Str → Option Value}, (l.map (·.1)).Nodup → putAll l m f = (match l.lookup f with | some v => some v | none => m f)
  | [], m, _ => rfl
  | (a, v) :: l, m, hn => by
    rw [List.map_cons, List.nodup_cons] at hn
    show putAll l _ f = _
    rw [putAll_look hn.2]
    by_cases e : f = a
    · subst e
      have z : l.lookup f = none := by
        cases q : l.lookup f with
        | none => rfl
        | some u =>
          exfalso
          refine hn.1 ?_
          clear hn
          induction l with
          | nil => simp [List.lookup] at q
          | cons p l ih =>
            by_cases e : (f == p.1) = true
            · simp at e; simp [e]
            · have e' : (f == p.1) = false := by simpa using e
              rw [List.lookup, e'] at q
              exact List.mem_cons_of_mem _ (ih q)
      rw [z]
      simp [List.lookup]
    · have e' : (f == a) = false := by simpa using e
      rw [List.lookup, e']
      simp only [if_neg e]
theorem relO_zip {f : Str} : ∀ {fl : List Str} {vs : List V} {us : List Value}, Paired RelV vs us → RelO ((fl.zip vs).lookup f) ((fl.zip us).lookup f)
  | [], _, _, _ => by simp [RelO]
  | a :: fl, _, _, .nil => by simp [RelO]
  | a :: fl, _, _, .cons r rs => by
    rw [List.zip_cons_cons, List.zip_cons_cons, List.lookup, List.lookup]
    cases f == a with
    | true => exact r
    | false => exact relO_zip rs
theorem relO_put {f : Str} {fl : List Str} {vs : List V} {us : List Value} (r : Paired RelV vs us) (hl : us.length = fl.length) (hn : fl.Nodup) : RelO ((fl.zip vs).lookup f) (putAll (fl.zip us) (fun _ => none) f) := by
  rw [putAll_look (by rw [zip_keys hl]; exact hn)]
  have z := relO_zip (f := f) (fl := fl) r
  cases e : (fl.zip us).lookup f with
  | none => rw [e] at z; exact z
  | some u => rw [e] at z; exact z
section
variable {X : Cx} {C fI : Addr} {nm BN newId iN BI initId : _} {flds : List Str}
/-- Err(e1, .., en) -/
def tMkX (C : Addr) (flds : List Str) (ta : TA) : St → Hp → XK → Prop := fun σ H Q => ta σ H fun vs H1 => vs.length = flds.length ∧ ∀ d, H1 d = none → Q (.ref C) (some d) (upd H1 d (.xd (flds.zip vs)))
theorem pmk_ownX {a : Expr} {es : List Expr} {ta : TA} {p pos : Pos} {k : Nat} (T : ExcT X.prog X.K X.mg nm flds BN newId iN BI initId C fI) (hr : Room k X.A) (ha : PA X (a :: es) ta) (hne : flds ≠ []) (hnd : (("self" : Str) :: flds).Nodup) (hsz : flds.length ≤ 900) (hg : Gl X nm := by rfl)
    (he : starEach (a :: es) X.env = (false, eval a X.env) :: starEach es X.env := by rfl) (hpl : (backTo pos (starEach es X.env)).any (·.1) = false := by rfl) (hdb : (nm == ("__debug__" : Str)) = false := by decide) :
    PMk X (.Call (.Name nm p) (a :: es) [] pos) (tMkX C flds ta) := by
  intro pins s σ H Q I h
  refine wpAny_Call_Name_kw (ld_glob I hg T.gC ?_ hdb)
  refine PySem.W.callWith_K (h₀ := X.base) I.ok.mod.kin T.kC (thn (ha.run pos pins s σ H _ I h) fun us s1 hh => ?_) he hpl
  obtain ⟨vs, H1, I1, r1, hlv, q1⟩ := hh
  refine ⟨I1.kIn, ?_⟩
  have hlu : us.length = flds.length := by rw [← r1.length]; exact hlv
  show wpAny _ _ (call (.ref C) us) _ _ _
  have hlim := I1.nolimit
  obtain ⟨mb, b1, b2⟩ := I1.mod.blt
  obtain ⟨hp, g, dr, tk, os⟩ := s1
  refine wpAny_call (made_run T I1.kIn (I1.mod.glob.keeps I1.bk) (b1.keeps I1.bk) ((b2 _ (by decide)).trans (by decide +kernel)) hlim (by have := hr.dp; omega) hlu hne hnd hsz fun h' tk' e d M => ?_)
  show MkP X pins σ Q (.ref e) ⟨h', g, dr, tk', os⟩
  obtain ⟨oe, fv, hoe, hc, hd, hdat, h1⟩ := M.obj
  have hns := M.ns
  obtain ⟨G', g1, g2⟩ := restrict h' fun b => decide (b ≠ e)
  have gk : ∀ b, b ≠ e → G'.get? b = h'.get? b := fun b hb => g1 b (decide_eq_true hb)
  have ge : G'.get? e = none := g2 e (by simp)
  have old : ∀ b o, hp.get? b = some o → G'.get? b = some o := fun b o q => (gk b (Nat.ne_of_lt (Nat.lt_of_lt_of_le (Heap.lt_size q) M.new))).trans (M.keep b o q)
  have ob : ObjOk X.prog X.w (upd H1 d (.xd (flds.zip vs))) G' d (.xd (flds.zip vs)) :=
    ⟨_, hns.at (fun o q => (gk d M.dne).trans q), fun f => relO_put r1 hlu (List.nodup_cons.mp hnd).2⟩
  have J : Inv X pins σ (upd H1 d (.xd (flds.zip vs))) ⟨G', g, dr, tk', os⟩ := I1.laid (t' := tk') old M.dbig ob
  refine ⟨e, oe, fv, ⟨G', g, dr, tk', os⟩, _, .ref C, some d, rfl, J, fun b o q => ?_, ge, hoe, ⟨hc, hd⟩, hdat, h1, ?_, rfl, I1.bare, raises_own T.exC T.tyC, q1 d (I1.hok.fresh M.dbig)⟩
  · by_cases hb : b = e
    · have q' : G'.get? b = some o := q
      rw [hb, ge] at q'; cases q'
    · exact (gk b hb).symm.trans q
  · rw [upd_ne (Ne.symm M.dne)]
    exact I1.hok.fresh M.new
/-- raise Err(e1, .., en) -/
def tRaiseX (C : Addr) (flds : List Str) (W : WX) (ta : TA) : TS := fun _ σ H => tMkX C flds ta σ H fun cls d H' => W cls d σ H'
theorem ps_raiseX {a : Expr} {es : List Expr} {ta : TA} {W : WX} {p pos pos2 : Pos} {k : Nat} (hc : X.calm = true) (T : ExcT X.prog X.K X.mg nm flds BN newId iN BI initId C fI) (hr : Room k X.A) (tk : Takes X W) (ha : PA X (a :: es) ta) (hne : flds ≠ [] := by decide) (hnd : (("self" : Str) :: flds).Nodup := by decide +kernel) (hsz : flds.length ≤ 900 := by decide) (hg : Gl X nm := by rfl)
    (he : starEach (a :: es) X.env = (false, eval a X.env) :: starEach es X.env := by rfl) (hpl : (backTo pos (starEach es X.env)).any (·.1) = false := by rfl) (hdb : (nm == ("__debug__" : Str)) = false := by decide) :
    PS X (.Raise (some (.Call (.Name nm p) (a :: es) [] pos)) none pos2) (tRaiseX C flds W ta) := ps_raise hc tk (pmk_ownX T hr ha hne hnd hsz hg he hpl hdb)
/-- fault.f: fault the error that the suite holds (at a; its class cls, its dict d); f its i-th field -/
def tByX (C a : Addr) (cls : Value) (d : Option Addr) (flds : List Str) (f : Str) (te : TE) : TE := fun σ H Q => te σ H fun x H1 => x = .ref a ∧ cls = .ref C ∧ ∃ (dd : Addr) (l : List (Str × V)) (v : V), d = some dd ∧ H1 dd = some (.xd l) ∧ l.lookup f = some v ∧ Q v H1
theorem pe_byX {a : Addr} {oe : Obj} {cls : Value} {d : Option Addr} {pn : List (Addr × Obj)} {f : Str} {e : Expr} {te : TE} {pos : Pos} (T : ExcT X.prog X.K X.mg nm flds BN newId iN BI initId C fI) (hm : f ∈ flds) (hz : Zc cls d oe) (hf : ∃ vs, oe.data = .fields vs) (he : PE (X.suite a ((a, oe) :: pn)) e te)
    (hb : attributeBase e f X.env (eval e X.env) = eval e X.env := by rfl) :
    PE (X.suite a ((a, oe) :: pn)) (.Attribute e f pos) (tByX C a cls d flds f te) := by
  refine ⟨fun pins s σ H Q I h => ?_⟩
  refine attr_of hb (thn (he.run pins s σ H _ I h) fun u s1 hh => ?_)
  obtain ⟨x, H1, I1, rx, ex, ec, dd, l, v, ed, ea, lk, q⟩ := hh
  subst ex
  obtain rfl : u = Value.ref a := rx
  subst ec
  subst ed
  obtain ⟨ha, _⟩ := I1.pin (a, oe) (List.mem_append_left _ List.mem_cons_self)
  obtain ⟨vs, hd⟩ := hf
  have hx : ObjOk X.prog X.w H1 s1.heap dd (.xd l) := I1.hok dd _ ea
  obtain ⟨mA, hns, hr⟩ := hx
  obtain ⟨od, ho, hl⟩ := lookIn_ns hns
  obtain ⟨u, hu, ru⟩ := RelO.some_of (v := v) (o := mA f) (by rw [← lk]; exact hr f)
  have J : PySem.W.InstAt s1.heap a oe C (some od) := ⟨ha, hz.1, by unfold PySem.W.notCls; rw [hd] <;> rfl, by rw [hz.2]; exact ho⟩
  exact HandSPX.exc_get I1.kIn J T.ga T.gg T.exC (PySem.W.findObj_own T.hdC (T.no f hm) rfl (by rw [hl, hu])) (handed_of ru) ⟨v, H1, I1.tok _, ru, q⟩
end
end L2
end
section
set_option maxRecDepth 100000
set_option maxHeartbeats 4000000
namespace Onew
open PySem PySem.Spec PyProof.Rows L2 PySem.GX
def top (i : Nat) : Stmt := PySem.Challenge.pw_onewitness_k25_whole_groups_that_keep.main.body.getD i (.Pass ⟨0, 0, 0, 0⟩)
abbrev sRefused : Stmt := inClass (top 4) 0
abbrev sNoState : Stmt := inClass (top 7) 0
theorem scRefused : InitSc (defScope sRefused) ["at"] := ⟨rfl, rfl, rfl, by decide +kernel, by decide +kernel, by decide +kernel, by decide +kernel, by decide +kernel⟩
theorem exc_mk {P : Program} {K : PySem.W.Frag} {mg : Str → Option Value} {nm : Str} {flds : List Str} {BN newId iN BI initId : String} {C fI cda cc : Addr} {h : Heap} (X : K.In h) (G : h.Ns mainGlobals mg) {st : Stmt} {q : Str}
    {n q' : Str} {N : Addr} {bs bm bmB : List Value} {sn : List Str} {sub : List Value} {ab : Bool} {col : Option Bool} {dd : Option Addr} {k0 k1 k2 k3 k5 : Option Value}
    {od1 an1 : Option Addr} {sl1 : Array (Option Value)} {oc1 dc1 pm1 ct1 : Value} {cl : Value} {cld : Option Addr} {csl : Array (Option Value)} {ccl : Value} {cdd : Option Addr} {vs : Array Value} {ccs : Array (Option Value)} {file : Str} {tf : Tok}
    {text : Str} {k : Nat} {p0 p1 p2 p3 p4 p5 : Pos} {ss : List Stmt} {ar0 : Arg}
    (gC : PySem.W.nsIn K mainGlobals nm = some (some (.ref C)))
    (xC : K.lookup C = some (excClassObj n q' C N bs bm true sn sub ab col dd k0 k1 k2 k3 k5 newId)) (sa : PySem.W.findIn K (.ref C) "__setattr__" = some (some (.builtin "object.__setattr__")))
    (ga : PySem.W.findIn K (.ref C) "__getattribute__" = some (some (.builtin "BaseException.__getattribute__"))) (gg : PySem.W.findIn K (.ref C) "__getattr__" = some none)
    (iC : PySem.W.findIn K (.ref C) "__init__" = some (some (.ref fI))) (tI : PySem.W.typeIn K (.ref fI) = some (.type "function")) (kC : PySem.W.keepIn K (.ref C) = true)
    (eC : PySem.W.subIn K (.ref C) (.type "BaseException") = some true) (tC : PySem.W.typeIn K (.ref C) = some (.type "type")) (hC : PySem.W.hasDictIn K C = true)
    (sp : PySem.W.ks_superIn K C C "__init__" = some (some (.builtin initId))) (sB : PySem.W.subIn K (.ref C) (.type BI) = some true) (sC : PySem.W.mroIn K C (.ref C) = some true) (oq : PySem.W.nsIn K cStatics "thirdparty.any" = some none) (s0 : PySem.W.nsIn K mainGlobals "super" = some none)
    (lI : K.lookup fI = some ⟨oc1, od1, .func (PySem.W.ksFn "__init__" q (defArgs st) (defBody st) (defScope st) .none .none dc1 pm1 an1 (.ref cda) ct1 cc), sl1⟩) (cI : PySem.W.codeIn K (.ref cda) q = true)
    (lc : K.lookup cc = some ⟨cl, cld, .cell (some (.ref C)), csl⟩) (lo : K.lookup cda = some ⟨ccl, cdd, .fields vs, ccs⟩) (lf : vs[2]? = some (.str file tf)) (lp : ((P.main.file : Str) == file) = true)
    (no : ∀ f ∈ flds, PySem.W.findIn K (.ref C) f = some none)
    (tp : (P.main.scope.names.lookup ("super" : Str)).isSome = false) (NF : NewF BN newId iN bmB bm) (MF : ∀ C : Addr, MroF (.ref C :: bm)) (IF : InitF BI initId)
    (hb : defBody st = superStmt text k p0 p1 p2 p3 p4 p5 :: ss) (hf : FldS flds ss) (hs : InitSc (defScope st) flds) (ht : text.length ≤ 1000) (hp : (p2.endLine == p4.line) = true) (ha : ((defArgs st).posonlyargs ++ (defArgs st).args).head? = some ar0) (h0 : ar0.arg = "self")
    (hbind : ∀ (doc pm : Value) (an : Option Addr) (cv ct : Value) (cc : Addr) (x : Value) (us : List Value), us.length = flds.length → bindArgs (PySem.W.ksFn "__init__" q (defArgs st) (defBody st) (defScope st) .none .none doc pm an cv ct cc) ⟨x :: us, []⟩ = pure ((("self" : Str), x) :: flds.zip us)) :
    ExcT P K mg nm flds BN newId iN BI initId C fI where
  gC := PySem.W.mg_of X G gC
  cls := ⟨n, q', N, bs, bmB, bm, sn, sub, ab, col, dd, k0, k1, k2, k3, k5, xC, NF, MF C⟩
  init := IF
  sa := sa
  ga := ga
  gg := gg
  no := no
  iC := iC
  tC := tI
  kC := kC
  exC := eC
  tyC := tC
  hdC := hC
  sup := sp
  subB := sB
  self := sC
  opq := oq
  sup0 := PySem.W.mg_none_of X G s0
  top := tp
  fn := ⟨_, _, _, _, _, _, _, _, _, _, _, _, _, _, _, _, _, _, _, _, _, _, _, lI, cI, hb, hf, hs, ht, hp, ha, h0, fun x us hl => hbind _ _ _ _ _ _ x us hl, ⟨_, _, _, lc⟩, ⟨_, _, _, _, _, _, lo, lf, lp⟩⟩
theorem new_VE {bm : List Value} (h1 : bm.contains (.type "ValueError") = true) (h2 : bm.contains (.type "AttributeError") = false) (h3 : bm.contains (.type "NameError") = false) : NewF "ValueError" "ValueError.__new__" "ValueError.__init__" [.type "ValueError", .type "Exception", .type "BaseException", .type "object"] bm := ⟨F.excBase_ValueError, h1, h2, h3⟩
theorem new_LE {bm : List Value} (h1 : bm.contains (.type "LookupError") = true) (h2 : bm.contains (.type "AttributeError") = false) (h3 : bm.contains (.type "NameError") = false) : NewF "LookupError" "LookupError.__new__" "LookupError.__init__" [.type "LookupError", .type "Exception", .type "BaseException", .type "object"] bm := ⟨F.excBase_LookupError, h1, h2, h3⟩
theorem mroF_of {l : List Value} (tail : List Value) (hp : ∀ self, refuseLoop self "__setattr__" tail = pure ()) (ho : tail.contains (.type "object") = true) : ∀ (cs : List Addr), MroF (cs.map Value.ref ++ tail)
  | [] => ⟨hp, by cases tail with
      | nil => cases ho
      | cons => rfl, ho⟩
  | c :: cs => by
    have ih := mroF_of (l := l) tail hp ho cs
    exact ⟨fun self => by rw [List.map_cons, List.cons_append, refuseLoop_ref]; exact ih.pass self, rfl, by rw [List.map_cons, List.cons_append, List.contains_cons, ih.ob, Bool.or_true]⟩
theorem mroVE (C W : Addr) : MroF [.ref C, .ref W, .type "ValueError", .type "Exception", .type "BaseException", .type "object"] := mroF_of (l := []) HandSPX.veTail (fun self => F.store_ValueError.passes self) (by decide +kernel) [C, W]
theorem pass_KE (self : Value) : refuseLoop self "__setattr__" [.type "KeyError", .type "LookupError", .type "Exception", .type "BaseException", .type "object"] = pure () := by kernel_rfl
theorem mroKE (C : Addr) : MroF [.ref C, .type "KeyError", .type "LookupError", .type "Exception", .type "BaseException", .type "object"] := mroF_of (l := []) [.type "KeyError", .type "LookupError", .type "Exception", .type "BaseException", .type "object"] pass_KE (by decide +kernel) [C]
end Onew
end
section
set_option maxRecDepth 100000
set_option maxHeartbeats 4000000
namespace Onew
open PySem PySem.Spec PyProof.Rows L2 G
/-! ### calls -/
/-- the def named nm keeps the promise sp, at level k -/
structure Def (P : Program) (w : World) (K : PySem.W.Frag) (mg : Str → Option Value) (base : Heap) (k : Nat) (nm : Str) (ps : List Str) (sp : Sp) : Prop where
  ex : ∃ (f : Addr) (fd : FuncData), FnOk P w K mg base (L2.CX P w) k f fd ps sp ∧ mg nm = some (.ref f) ∧ PySem.W.keepIn K (.ref f) = true ∧ Binds K fd ps []
theorem passF {X : Cx} : Passes (L2.CX X.prog X.w) X fun _ _ _ => False := fun _ _ _ _ _ _ _ c => by
  obtain ⟨_, _, _, _, _, _, _, _, _, _, _, _, z⟩ := c
  exact z.elim
theorem ps_dead {X : Cx} {st : Stmt} : PS X st fun _ _ _ => False := ⟨fun _ _ _ _ _ _ h => h.elim⟩
theorem pss_dead {X : Cx} {st : List Stmt} : PSs X st fun _ _ _ => False := ⟨fun _ _ _ _ _ _ h => h.elim⟩
section
variable {X : Cx} {k j : Nat} {nm : Str} {ps : List Str} {sp : Sp} {e : Expr} {es : List Expr} {t : TA} {p pos : Pos}
/-- f(..), f never raising here -/
theorem pcall (D : Def X.prog X.w X.K X.mg X.base k nm ps sp) (hr : Room j X.A) (hk : k ≤ j) (ha : PA X (e :: es) t) (hg : Gl X nm := by rfl) (hdb : (nm == ("__debug__" : Str)) = false := by decide) (he : starEach (e :: es) X.env = (false, eval e X.env) :: starEach es X.env := by rfl)
    (hpl : (backTo pos (starEach es X.env)).any (·.1) = false := by rfl) : PE X (.Call (.Name nm p) (e :: es) [] pos) (tCall sp [] (fun _ _ _ => False) t) := by
  obtain ⟨f, fd, F, hm, kp, b⟩ := D.ex
  exact pe_call F (hr.mono hk) hg hm kp b .nil passF ha hdb he hpl
/-- f(..), what it raises leaves us, too -/
theorem pcallE {W : WX} {E : XK} (D : Def X.prog X.w X.K X.mg X.base k nm ps sp) (hr : Room j X.A) (hk : k ≤ j) (tk : Takes X W) (hW : ∀ cls d σ H, E cls d H → W cls d σ H) (ha : PA X (e :: es) t) (hg : Gl X nm := by rfl) (hdb : (nm == ("__debug__" : Str)) = false := by decide) (he : starEach (e :: es) X.env = (false, eval e X.env) :: starEach es X.env := by rfl)
    (hpl : (backTo pos (starEach es X.env)).any (·.1) = false := by rfl) : PE X (.Call (.Name nm p) (e :: es) [] pos) (tCall sp [] E t) := by
  obtain ⟨f, fd, F, hm, kp, b⟩ := D.ex
  exact pe_call F (hr.mono hk) hg hm kp b .nil (passes_call tk hW) ha hdb he hpl
end
/-! ### the data's types -/
def tyD : PyData → String
  | .none => "NoneType" | .bool _ => "bool" | .int _ => "int" | .str _ => "str" | .list _ => "list" | .tuple _ => "tuple" | _ => "object"
theorem tyx {K : PySem.W.Frag} {H : Hp} {v : V} {d : PyData} (h : R H v d) : TyX K H v (.type (tyD d)) := by
  cases h with
  | non => exact .base .non
  | bl b => exact .base (.bl b)
  | int i => exact .base (.int i)
  | str x => exact .base (.str x)
  | lst h _ => exact .base (.lst h)
  | tup h _ => exact .base (.tup h)
def isSeqD : PyData → Bool
  | .list _ => true | .tuple _ => true | _ => false
def isIntD : PyData → Bool
  | .int _ => true | _ => false
theorem hu64 {A : Around} {k : Nat} (hr : Room k A) : A.units + 64 < cLine := hr.units
theorem hu1 {A : Around} {k : Nat} (hr : Room k A) : A.units + 1 < cLine := hu_of hr
/-- what the module's names hold -/
structure Txt (K : PySem.W.Frag) (mg : Str → Option Value) : Prop where
  no : ∀ x ∈ ([("isinstance" : Str), "len", "range", "all", "any", "tuple", "list", "sorted", "enumerate", "zip", "min", "abs", "int", "set", "sum", "repr", "bool", "KeyError"] : List Str), mg x = none
  cD : ∃ t, mg "MOST_DEEDS" = some (.int 4 t)
  cS : ∃ t, mg "MOST_STATES" = some (.int 8 t)
  cR : ∃ t, mg "MOST_ROUND" = some (.int 60 t)
  cE : ∃ t, mg "MOST_REST" = some (.int 6 t)
def isBoolD : PyData → Bool
  | .bool _ => true | _ => false
theorem kitInt {K : PySem.W.Frag} {v : V} {H : Hp} {d : PyData} (r : R H v d) : PySem.W.kitOne K (.type (tyD d)) (.type "int") = some (isIntD d || isBoolD d) := by
  cases r with
  | non => exact kit_ty (a := "NoneType") (b := "int") (r := false) (by decide +kernel)
  | bl => exact kit_ty (a := "bool") (b := "int") (r := true) (by decide +kernel)
  | int => exact kit_ty (a := "int") (b := "int") (r := true) (by decide +kernel)
  | str => exact kit_ty (a := "str") (b := "int") (r := false) (by decide +kernel)
  | lst => exact kit_ty (a := "list") (b := "int") (r := false) (by decide +kernel)
  | tup => exact kit_ty (a := "tuple") (b := "int") (r := false) (by decide +kernel)
theorem kitSeq2 {K : PySem.W.Frag} {t : String} {b1 b2 : Bool} (h1 : kitB t "list" = some b1) (h2 : kitB t "tuple" = some b2) : PySem.W.kitAny K (.type t) [.type "list", .type "tuple"] = some (b1 || b2) :=
  kitAny_cons (kit_ty h1) (fun e => by subst e; exact kitAny_cons (kit_ty h2) (fun e => by subst e; rfl) (fun e => by subst e; rfl)) (fun e => by subst e; rfl)
theorem kitSeq {K : PySem.W.Frag} {t : String} (h : t ∈ ["NoneType", "bool", "int", "str", "list", "tuple"]) : PySem.W.kitAny K (.type t) [.type "list", .type "tuple"] = some (t == "list" || t == "tuple") := by
  simp only [List.mem_cons, List.not_mem_nil, or_false] at h
  rcases h with rfl | rfl | rfl | rfl | rfl | rfl
  · exact kitSeq2 (b1 := false) (b2 := false) (by decide +kernel) (by decide +kernel)
  · exact kitSeq2 (b1 := false) (b2 := false) (by decide +kernel) (by decide +kernel)
  · exact kitSeq2 (b1 := false) (b2 := false) (by decide +kernel) (by decide +kernel)
  · exact kitSeq2 (b1 := false) (b2 := false) (by decide +kernel) (by decide +kernel)
  · exact kitSeq2 (b1 := true) (b2 := false) (by decide +kernel) (by decide +kernel)
  · exact kitSeq2 (b1 := false) (b2 := true) (by decide +kernel) (by decide +kernel)
section
variable {P : Program} {w : World} {K : PySem.W.Frag} {mg : Str → Option Value} {base : Heap}
/-! ### words -/
def spIsInt : Sp := fun vs H Q _ => ∃ v d, vs = [v] ∧ R H v d ∧ Q (.bl (isIntD d)) H
abbrev sIsInt : Stmt := top 13
theorem scIsInt : FnScope ["value"] ["value"] (defScope sIsInt) := ⟨rfl, rfl, rfl, by decide +kernel, rfl, by decide +kernel, by decide +kernel⟩
theorem ok_isint {f : Addr} {fd : FuncData} (F : Fun K "is_integer" "is_integer" sIsInt f fd) (T : Txt K mg) : FnOk P w K mg base (L2.CX P w) 1 f fd ["value"] spIsInt := by
  refine F.okX scIsInt (fun vs H Q E h => ?_) (fun cdv A outer s H vs Q E hr h => ?_)
  · obtain ⟨v, d, rfl, _⟩ := h
    rfl
  · obtain ⟨v, d, rfl, r, q⟩ := h
    refine ⟨_, (pss_one (ps_ret (pe_and (pe_callB call_isi (by rfl) (T.no "isinstance" (by decide)) boot_isinstance (pa_cons (pv 0) (pa_cons (pe_bltn (by rfl) (T.no "int" (by decide)) (u := .type "int") (by decide +kernel) (v := .ty "int") rfl) pa_nil))) (pe_one (pe_not (pe_callB call_isi (by rfl) (T.no "isinstance" (by decide)) boot_isinstance (pa_cons (pv 0) (pa_cons (pe_bltn (by rfl) (T.no "bool" (by decide)) (u := .type "bool") (by decide +kernel) (v := .ty "bool") rfl) pa_nil)))))))), ?_⟩
    refine ⟨_, rfl, v, .ty "int", .type (tyD d), .type "int", _, rfl, .ty _, (tyx r), kitInt r, _, rfl, ?_⟩
    cases r with
    | int i => exact ⟨_, rfl, _, _, .type "int", .type "bool", _, rfl, .ty _, .base (.int i), kit_ty (r := false) (by decide +kernel), _, rfl, q⟩
    | bl b => exact ⟨_, rfl, _, _, .type "bool", .type "bool", _, rfl, .ty _, .base (.bl b), kit_ty (r := true) (by decide +kernel), _, rfl, q⟩
    | _ => exact q
def numD : PyData → Bool
  | .int i => decide (0 ≤ i) | _ => false
def spIsNum : Sp := fun vs H Q _ => ∃ v d, vs = [v] ∧ R H v d ∧ Q (.bl (numD d)) H
abbrev sIsNum : Stmt := top 14
theorem scIsNum : FnScope ["value"] ["value"] (defScope sIsNum) := ⟨rfl, rfl, rfl, by decide +kernel, rfl, by decide +kernel, by decide +kernel⟩
theorem ok_isnum {f : Addr} {fd : FuncData} (F : Fun K "is_number" "is_number" sIsNum f fd) (T : Txt K mg) (D_is_integer : Def P w K mg base 1 "is_integer" ["value"] spIsInt) : FnOk P w K mg base (L2.CX P w) 2 f fd ["value"] spIsNum := by
  refine F.okX scIsNum (fun vs H Q E h => ?_) (fun cdv A outer s H vs Q E hr h => ?_)
  · obtain ⟨v, d, rfl, _⟩ := h
    rfl
  · obtain ⟨v, d, rfl, r, q⟩ := h
    refine ⟨_, (pss_one (ps_ret (pe_and (pcall D_is_integer hr (by decide) (pa_cons (pv 0) pa_nil)) (pe_one (pe_cmpR op_ge (pv 0) pe_int (nomark _)))))), ?_⟩
    refine ⟨_, rfl, v, d, rfl, r, _, rfl, ?_⟩
    cases r with
    | int i => exact ⟨_, rfl, _, _, rfl, rfl, q⟩
    | _ => exact q
def belowD (m : Int) : PyData → Bool
  | .int i => decide (0 ≤ i) && decide (i < m) | _ => false
def spIsBel : Sp := fun vs H Q _ => ∃ v d m, vs = [v, .int m] ∧ R H v d ∧ Q (.bl (belowD m d)) H
abbrev sIsBel : Stmt := top 15
theorem scIsBel : FnScope ["value", "most"] ["value", "most"] (defScope sIsBel) := ⟨rfl, rfl, rfl, by decide +kernel, rfl, by decide +kernel, by decide +kernel⟩
theorem ok_isbel {f : Addr} {fd : FuncData} (F : Fun K "is_below" "is_below" sIsBel f fd) (T : Txt K mg) (D_is_number : Def P w K mg base 2 "is_number" ["value"] spIsNum) : FnOk P w K mg base (L2.CX P w) 3 f fd ["value", "most"] spIsBel := by
  refine F.okX scIsBel (fun vs H Q E h => ?_) (fun cdv A outer s H vs Q E hr h => ?_)
  · obtain ⟨v, d, m, rfl, _⟩ := h
    rfl
  · obtain ⟨v, d, m, rfl, r, q⟩ := h
    refine ⟨_, (pss_one (ps_ret (pe_and (pcall D_is_number hr (by decide) (pa_cons (pv 0) pa_nil)) (pe_one (pe_cmpR op_lt (pv 0) (pv 1) (nomark _)))))), ?_⟩
    refine ⟨_, rfl, v, d, rfl, r, _, rfl, ?_⟩
    cases r with
    | int i =>
      have q' : Q (.bl (decide (0 ≤ i) && decide (i < m))) H := q
      show if decide (0 ≤ i) = true then _ else _
      cases e : decide (0 ≤ i) with
      | false => rw [e] at q'; exact q'
      | true => rw [e, Bool.true_and] at q'; exact ⟨_, rfl, _, rfl, _, _, rfl, rfl, q'⟩
    | _ => exact q
def withinD (l m : Int) : PyData → Bool
  | .int i => decide (l ≤ i) && decide (i ≤ m) | _ => false
def spIsWit : Sp := fun vs H Q _ => ∃ v d l m, vs = [v, .int l, .int m] ∧ R H v d ∧ Q (.bl (withinD l m d)) H
abbrev sIsWit : Stmt := top 16
theorem scIsWit : FnScope ["value", "least", "most"] ["value", "least", "most"] (defScope sIsWit) := ⟨rfl, rfl, rfl, by decide +kernel, rfl, by decide +kernel, by decide +kernel⟩
theorem ok_iswit {f : Addr} {fd : FuncData} (F : Fun K "is_within" "is_within" sIsWit f fd) (T : Txt K mg) (D_is_integer : Def P w K mg base 1 "is_integer" ["value"] spIsInt) : FnOk P w K mg base (L2.CX P w) 2 f fd ["value", "least", "most"] spIsWit := by
  refine F.okX scIsWit (fun vs H Q E h => ?_) (fun cdv A outer s H vs Q E hr h => ?_)
  · obtain ⟨v, d, l, m, rfl, _⟩ := h
    rfl
  · obtain ⟨v, d, l, m, rfl, r, q⟩ := h
    refine ⟨_, (pss_one (ps_ret (pe_and (pcall D_is_integer hr (by decide) (pa_cons (pv 0) pa_nil)) (pe_one (pe_chain op_le op_le (pv 1) (pv 0) (pv 2) ))))), ?_⟩
    refine ⟨_, rfl, v, d, rfl, r, _, rfl, ?_⟩
    cases r with
    | int i =>
      have q' : Q (.bl (decide (l ≤ i) && decide (i ≤ m))) H := q
      refine ⟨_, rfl, _, rfl, _, _, rfl, rfl, _, rfl, ?_⟩
      cases e : decide (l ≤ i) with
      | false => rw [e] at q'; exact q'
      | true => rw [e, Bool.true_and] at q'; exact ⟨_, rfl, _, _, rfl, rfl, q'⟩
    | _ => exact q
def spIsSeq (K : PySem.W.Frag) : Sp := fun vs H Q _ => ∃ v t, vs = [v] ∧ TyX K H v (.type t) ∧ t ∈ ["NoneType", "bool", "int", "str", "list", "tuple"] ∧ ∀ H', Ex H H' → Q (.bl (t == "list" || t == "tuple")) H'
abbrev sIsSeq : Stmt := top 17
theorem scIsSeq : FnScope ["value"] ["value"] (defScope sIsSeq) := ⟨rfl, rfl, rfl, by decide +kernel, rfl, by decide +kernel, by decide +kernel⟩
theorem TyX.up {K : PySem.W.Frag} {H : Hp} {v : V} {t : Value} {p : Addr} {o : HO} (h : TyX K H v t) (hp : H p = none) : TyX K (upd H p o) v t := by
  have e : Ex H (upd H p o) := Ex.new hp
  cases h with
  | base b =>
    refine .base ?_
    cases b with
    | non => exact .non
    | bl x => exact .bl x
    | int x => exact .int x
    | str x => exact .str x
    | flt x => exact .flt x
    | lst h => exact .lst (e _ _ h)
    | frz h => exact .frz (e _ _ h)
    | tup h => exact .tup (e _ _ h)
    | dK h => exact .dK (e _ _ h)
    | dT h => exact .dT (e _ _ h)
    | ins h a b c d f => exact .ins (e _ _ h) a b c d f
  | byt b => exact .byt b
  | set h => exact .set (e _ _ h)
  | kList a b => exact .kList a b
  | kTuple a b => exact .kTuple a b
  | kDict a b => exact .kDict a b
  | fTuple h => exact .fTuple (e _ _ h)
  | fDict h => exact .fDict (e _ _ h)
theorem ok_isseq {f : Addr} {fd : FuncData} (F : Fun K "is_sequence" "is_sequence" sIsSeq f fd) (T : Txt K mg) : FnOk P w K mg base (L2.CX P w) 1 f fd ["value"] (spIsSeq K) := by
  refine F.okX scIsSeq (fun vs H Q E h => ?_) (fun cdv A outer s H vs Q E hr h => ?_)
  · obtain ⟨v, t, rfl, _⟩ := h
    rfl
  · obtain ⟨v, t, rfl, ty, ht, q⟩ := h
    refine ⟨_, (pss_one (ps_ret (pe_callB call_isiT (by rfl) (T.no "isinstance" (by decide)) boot_isinstance (pa_cons (pv 0) (pa_cons (pe_tup (pa_cons (pe_bltn (by rfl) (T.no "list" (by decide)) (u := .type "list") (by decide +kernel) (v := .ty "list") rfl) (pa_cons (pe_bltn (by rfl) (T.no "tuple" (by decide)) (u := .type "tuple") (by decide +kernel) (v := .ty "tuple") rfl) pa_nil))) pa_nil))))), ?_⟩
    refine ⟨_, rfl, by show 2 ≤ sizeLine; decide, fun p hp => ?_⟩
    exact ⟨v, p, _, _, _, _, rfl, upd_same, .cons (.ty _) (.cons (.ty _) .nil), TyX.up ty hp, kitSeq ht, q _ (Ex.new hp)⟩
end
end Onew
end
section
set_option maxRecDepth 100000
set_option maxHeartbeats 4000000
/-! comprehensions that only lay new things; sequences of either kind -/
namespace G
open PySem PySem.Spec PyProof.Rows L2
/-- a list or a tuple, read -/
def SqV (K : PySem.W.Frag) (H : Hp) (a : Addr) (xs : List V) : Prop := SqL K H a xs ∨ SqT K H a xs
theorem rd_ex {H H' : Hp} {a : Addr} {o : HO} (h : Rd H a o) (e : Ex H H') : Rd H' a o := by
  rcases h with h | ⟨u, h⟩
  · exact .inl (e _ _ h)
  · exact .inr ⟨u, e _ _ h⟩
theorem sqL_ex {K : PySem.W.Frag} {H H' : Hp} {a : Addr} {xs : List V} (h : SqL K H a xs) (e : Ex H H') : SqL K H' a xs := h.elim (fun h => .inl (rd_ex h e)) .inr
theorem sqT_ex {K : PySem.W.Frag} {H H' : Hp} {a : Addr} {xs : List V} (h : SqT K H a xs) (e : Ex H H') : SqT K H' a xs := h.elim (fun h => .inl (rd_ex h e)) .inr
theorem SqV.ex {K : PySem.W.Frag} {H H' : Hp} {a : Addr} {xs : List V} (h : SqV K H a xs) (e : Ex H H') : SqV K H' a xs := h.imp (fun h => sqL_ex h e) (fun h => sqT_ex h e)
def tyL (l : Bool) : String := if l then "list" else "tuple"
section
variable {X : Cx}
theorem pi_or {tg e : Expr} {w1 w2 : TI} (h1 : PI X tg e w1) (h2 : PI X tg e w2) : PI X tg e (fun σ H R => w1 σ H R ∨ w2 σ H R) := ⟨fun pins s σ H R I h => h.elim (h1.run pins s σ H R I) (h2.run pins s σ H R I)⟩
theorem pe_either {e : Expr} {t u : TE} (h1 : PE X e t) (h2 : PE X e u) : PE X e (fun σ H Q => t σ H Q ∨ u σ H Q) := ⟨fun pins s σ H Q I h => h.elim (h1.run pins s σ H Q I) (h2.run pins s σ H Q I)⟩
/-- what a for walks: a list or a tuple -/
def iSq (K : PySem.W.Frag) (tl : TE) : TI := fun σ H R => tl σ H fun x H1 => ∃ a xs, x = .ref a ∧ SqV K H1 a xs ∧ ∀ J, (∀ n, n = xs.length → ∃ C : Hp → Prop, Walk J n C (YAt xs) ∧ ∀ H', Ex H1 H' → C H') → R J H1
theorem pi_sq {tg l : Expr} {tl : TE} (hl : PE X l tl) : PI X tg l (iSq X.K tl) := by
  refine ⟨fun pins s σ H R I h => ?_⟩
  have h2 : (fun σ H R => iList X.K (fun σ H Q => tl σ H Q) σ H R ∨ iTup X.K (fun σ H Q => tl σ H Q) σ H R) σ H R ∨ True := .inr trivial
  refine thn (hl.run pins s σ H _ I h) fun v s1 ⟨x, H1, I1, r1, a, xs, ex, sq, q⟩ => ?_
  subst ex
  cases r1
  rcases sq with sl | st
  · obtain ⟨its, rv, p, hz⟩ := I1.list sl
    refine wpAny_pyIter_list p.isList ?_
    refine ⟨s1.heap.objs.size, [s1.heap.objs.size], _, _, H1, rfl, I1.kept (t' := s1.toks) fun b o e => Heap.get?_push_of_some _ e, turn_list a _, ⟨_, Heap.get?_push_size _ rfl, rfl, rfl⟩, fun b hb => ?_, q _ fun n hn => ⟨_, by rw [hn]; exact walk_list, fun H' e => sqL_ex sl e⟩⟩
    have e : b = s1.heap.objs.size := by simpa using hb
    subst e
    exact I1.fpOk (Nat.le_refl _) (I1.hok.fresh (Nat.le_refl _))
  · obtain ⟨its, rv, p, hz⟩ := I1.tuple st
    refine wpAny_pyIter_tuple (show s1.heap.IsTuple a its.toArray from p) ?_
    refine ⟨s1.heap.objs.size, [s1.heap.objs.size], _, _, H1, rfl, I1.kept (t' := s1.toks) fun b o e => Heap.get?_push_of_some _ e, turn_tuple a _, ⟨_, Heap.get?_push_size _ rfl, rfl, rfl⟩, fun b hb => ?_, q _ fun n hn => ⟨_, by rw [hn]; exact walk_tup, fun H' e => sqT_ex st e⟩⟩
    have e : b = s1.heap.objs.size := by simpa using hb
    subst e
    exact I1.fpOk (Nat.le_refl _) (I1.hok.fresh (Nat.le_refl _))
end
/-- a comprehension whose parts only lay new things -/
theorem lc_grow {J : It} {n : Nat} {C : Hp → Prop} {Y : Nat → Hp → V → Hp → Prop} (W : Walk J n C Y) {g : TG} {tt : TT} {te : TE} {vs : List Nat} {σ : L2.St} {H1 : Hp} {D : Addr} {Qd : Hp → Prop} (hD : H1 D = none) (Pa : Nat → List V → Hp → Prop)
    (mono : ∀ i acc H H', Tx H H' → Pa i acc H → Pa i acc H') (h0 : Pa 0 [] H1) (hC : ∀ H, Ex H1 H → C H)
    (step : ∀ i x H H' acc (Nx : Hp → Prop), i < n → Ex H1 H → Pa i acc H → Y i H x H' → (∀ y H4, Ex H H4 → acc.length < sizeLine → Pa (i + 1) (acc ++ [y]) H4 → ∃ acc, H4 D = some (.lst acc) ∧ acc.length < sizeLine ∧ Nx (upd H4 D (.lst (acc ++ [y])))) → (∀ H3, Ex H H3 → Pa (i + 1) acc H3 → Nx H3) →
      g x (wipe σ vs) H' fun σ2 H2 => wipe σ2 vs = wipe σ vs ∧ tt σ2 H2 fun b H3 => if b = true then te σ2 H3 fun y H4 => ∃ acc, H4 D = some (.lst acc) ∧ acc.length < sizeLine ∧ Nx (upd H4 D (.lst (acc ++ [y]))) else Nx H3)
    (done : ∀ acc H, Ex H1 H → H D = some (.lst acc) → Pa n acc H → Qd H) :
    ∃ Wm : Nat → Nat → Hp → Prop, (∃ m, Wm 0 m (upd H1 D (.lst []))) ∧ ∀ i m H, Wm i m H →
      (J.stop i H ∧ Qd H) ∨ (J.go i H ∧ ∃ Nx : Hp → Prop, (∀ H', Nx H' → ∃ m', m' < m ∧ Wm (i + 1) m' H') ∧ ∀ x H', J.yld i H x H' → g x (wipe σ vs) H' fun σ2 H2 => wipe σ2 vs = wipe σ vs ∧ tt σ2 H2 fun b H3 =>
        if b = true then te σ2 H3 fun y H4 => ∃ acc, H4 D = some (.lst acc) ∧ acc.length < sizeLine ∧ Nx (upd H4 D (.lst (acc ++ [y]))) else Nx H3) := by
  refine lc_it W (fun i H => ∃ acc, H D = some (.lst acc) ∧ Ex H1 H ∧ Pa i acc H) ⟨[], upd_same, Ex.new hD, mono _ _ _ _ (Ex.new hD).t h0⟩ (fun i H _ ⟨acc, _, e, _⟩ => hC H e) ?_ (fun H ⟨acc, a, b, c⟩ => done acc H b a c)
  rintro i x H H' hi ⟨acc, hd, e, p⟩ y
  refine step i x H H' acc _ hi e p y ?_ ?_
  · intro y H4 e4 hl p4
    exact ⟨acc, e4 _ _ hd, hl, acc ++ [y], upd_same, (e.tr e4).mut hD, mono _ _ _ _ (Tx.put (e4 _ _ hd) fun xs z => by cases z) p4⟩
  · intro H3 e3 p3
    exact ⟨acc, e3 _ _ hd, e.tr e3, p3⟩
theorem takeNx {α : Type} {l : List α} {i : Nat} {x : α} (h : l[i]? = some x) : l.take (i + 1) = l.take i ++ [x] := by
  rw [List.take_succ, h]; rfl
theorem noLs_take : ∀ {l : List PyData} {i : Nat}, noLs l = true → noLs (l.take i) = true
  | [], _, h => by simp [noLs]
  | _ :: _, 0, _ => by simp [noLs]
  | d :: l, i + 1, h => by
    rw [List.take_succ_cons]
    simp only [noLs, Bool.and_eq_true] at h ⊢
    exact ⟨h.1, noLs_take h.2⟩
/-- [f(x) for x in xs], all tuples within -/
theorem lc_map {J : It} {n : Nat} {C : Hp → Prop} {Y : Nat → Hp → V → Hp → Prop} (W : Walk J n C Y) {g : TG} {te : TE} {vs : List Nat} {σ : L2.St} {H1 : Hp} {D : Addr} {Qd : Hp → Prop} (hD : H1 D = none) (ds : List PyData) (hn : ds.length = n) (hz : n ≤ sizeLine) (hl : noLs ds = true) (hC : ∀ H, Ex H1 H → C H)
    (step : ∀ i x H H' d (Post : VK), i < n → Ex H1 H → Y i H x H' → ds[i]? = some d → (∀ y H4, Ex H H4 → R H4 y d → Post y H4) → g x (wipe σ vs) H' fun σ2 H2 => wipe σ2 vs = wipe σ vs ∧ te σ2 H2 Post)
    (done : ∀ acc H, Ex H1 H → H D = some (.lst acc) → RAll H acc ds → Qd H) :
    ∃ Wm : Nat → Nat → Hp → Prop, (∃ m, Wm 0 m (upd H1 D (.lst []))) ∧ ∀ i m H, Wm i m H →
      (J.stop i H ∧ Qd H) ∨ (J.go i H ∧ ∃ Nx : Hp → Prop, (∀ H', Nx H' → ∃ m', m' < m ∧ Wm (i + 1) m' H') ∧ ∀ x H', J.yld i H x H' → g x (wipe σ vs) H' fun σ2 H2 => wipe σ2 vs = wipe σ vs ∧ tYes σ2 H2 fun b H3 =>
        if b = true then te σ2 H3 fun y H4 => ∃ acc, H4 D = some (.lst acc) ∧ acc.length < sizeLine ∧ Nx (upd H4 D (.lst (acc ++ [y]))) else Nx H3) := by
  refine lc_grow W hD (fun i acc H => RAll H acc (ds.take i)) (fun i acc H H' t p => RAll.tx t _ _ (noLs_take hl) p) .nil hC ?_ (fun acc H e hd p => done acc H e hd (by rw [← hn, List.take_length] at p; exact p))
  intro i x H H' acc Nx hi e p y k1 k2
  obtain ⟨d, hd⟩ : ∃ d, ds[i]? = some d := ⟨ds[i]'(by omega), List.getElem?_eq_getElem (by omega)⟩
  have q := step i x H H' d (fun y H4 => ∃ acc, H4 D = some (.lst acc) ∧ acc.length < sizeLine ∧ Nx (upd H4 D (.lst (acc ++ [y])))) hi e y hd fun y H4 e4 r4 => k1 y H4 e4 (by
    rw [p.length, List.length_take]; omega) (by rw [takeNx hd]; exact RAll.app (p.ex e4) (RAll.one r4))
  exact q
theorem noLs_map {f : PyData → PyData} {pr : PyData → Bool} : ∀ {l : List PyData}, (∀ d ∈ l, noL (f d) = true) → noLs ((l.filter pr).map f) = true
  | [], _ => rfl
  | d :: l, h => by
    have ih := noLs_map (pr := pr) (l := l) fun z hz => h z (.tail _ hz)
    rw [List.filter_cons]
    split
    · simp only [List.map_cons, noLs, Bool.and_eq_true]; exact ⟨h d (.head _), ih⟩
    · exact ih
/-- [f(x) for x in xs if p(x)], all tuples within -/
theorem lc_filt {J : It} {n : Nat} {C : Hp → Prop} {Y : Nat → Hp → V → Hp → Prop} (W : Walk J n C Y) {g : TG} {tt : TT} {te : TE} {vs : List Nat} {σ : L2.St} {H1 : Hp} {D : Addr} {Qd : Hp → Prop} (hD : H1 D = none) (ds : List PyData) (f : PyData → PyData) (pr : PyData → Bool) (hn : ds.length = n) (hz : n ≤ sizeLine)
    (hl : ∀ d ∈ ds, noL (f d) = true) (hC : ∀ H, Ex H1 H → C H)
    (step : ∀ i x H H' d (Post : VK) (Pf : Hp → Prop), i < n → Ex H1 H → Y i H x H' → ds[i]? = some d → (pr d = true → ∀ y H4, Ex H H4 → R H4 y (f d) → Post y H4) → (pr d = false → ∀ H3, Ex H H3 → Pf H3) → g x (wipe σ vs) H' fun σ2 H2 => wipe σ2 vs = wipe σ vs ∧ tt σ2 H2 fun b H3 => if b = true then te σ2 H3 Post else Pf H3)
    (done : ∀ acc H, Ex H1 H → H D = some (.lst acc) → RAll H acc ((ds.filter pr).map f) → Qd H) :
    ∃ Wm : Nat → Nat → Hp → Prop, (∃ m, Wm 0 m (upd H1 D (.lst []))) ∧ ∀ i m H, Wm i m H →
      (J.stop i H ∧ Qd H) ∨ (J.go i H ∧ ∃ Nx : Hp → Prop, (∀ H', Nx H' → ∃ m', m' < m ∧ Wm (i + 1) m' H') ∧ ∀ x H', J.yld i H x H' → g x (wipe σ vs) H' fun σ2 H2 => wipe σ2 vs = wipe σ vs ∧ tt σ2 H2 fun b H3 =>
        if b = true then te σ2 H3 fun y H4 => ∃ acc, H4 D = some (.lst acc) ∧ acc.length < sizeLine ∧ Nx (upd H4 D (.lst (acc ++ [y]))) else Nx H3) := by
  refine lc_grow W hD (fun i acc H => RAll H acc (((ds.take i).filter pr).map f)) (fun i acc H H' t p => RAll.tx t _ _ (noLs_map fun d hd => hl d (List.mem_of_mem_take hd)) p) .nil hC ?_ (fun acc H e hd p => done acc H e hd (by rw [← hn, List.take_length] at p; exact p))
  intro i x H H' acc Nx hi e p y k1 k2
  obtain ⟨d, hd⟩ : ∃ d, ds[i]? = some d := ⟨ds[i]'(by omega), List.getElem?_eq_getElem (by omega)⟩
  refine step i x H H' d (fun y H4 => ∃ acc, H4 D = some (.lst acc) ∧ acc.length < sizeLine ∧ Nx (upd H4 D (.lst (acc ++ [y])))) Nx hi e y hd ?_ ?_
  · intro hp y H4 e4 r4
    refine k1 y H4 e4 ?_ ?_
    · rw [p.length, List.length_map]
      have a1 := List.length_filter_le pr (ds.take i)
      rw [List.length_take] at a1; omega
    · rw [takeNx hd, List.filter_append, List.filter_cons, if_pos hp, List.filter_nil, List.map_append]
      exact RAll.app (p.ex e4) (RAll.one r4)
  · intro hp H3 e3
    refine k2 H3 e3 ?_
    rw [takeNx hd, List.filter_append, List.filter_cons, if_neg (by rw [hp]; exact Bool.false_ne_true), List.filter_nil, List.append_nil]
    exact p.ex e3
theorem RAll.ofBools {H : Hp} : ∀ {bs : List Bool} {vs : List V}, RAll H vs (bs.map PyData.bool) → vs = bs.map V.bl
  | [], _, .nil => rfl
  | b :: bs, _, .cons (.bl _) t => by rw [List.map_cons, RAll.ofBools t]
theorem noLs_ints : ∀ ns : List Int, noLs (ns.map PyData.int) = true
  | [] => rfl
  | n :: ns => by simp only [List.map_cons, noLs, noL, Bool.true_and]; exact noLs_ints ns
theorem noLs_bools : ∀ ns : List Bool, noLs (ns.map PyData.bool) = true
  | [] => rfl
  | n :: ns => by simp only [List.map_cons, noLs, noL, Bool.true_and]; exact noLs_bools ns
end G
end
section
set_option maxRecDepth 100000
set_option maxHeartbeats 4000000
namespace G
open PySem PySem.Spec PyProof.Rows L2
theorem tuple_mul1 (l : Addr) (items : Array Value) (n : Nat) (dd : Option Addr) (sl : Array (Option Value)) (u : Tok) :
    Meets (Builtin.«tuple.__mul__» ⟨[.ref l, .int 1 u], []⟩) (fun _ R s => s.heap.get? l = some { cls := .type "tuple", dict := dd, data := .seq items n, slots := sl } ∧ R (.ok (.ret (Value.ref l))) s) :=
  .of_wp fun prog w A R s h => by
    obtain ⟨hp, g, d, tk, os⟩ := s
    obtain ⟨hl, h⟩ := h
    have f1 := AutoSeq1.idx_int
    have c0 : (decide ((1 : Int) < -(2 ^ 63)) || decide ((1 : Int) ≥ 2 ^ 63)) = false := by decide
    have c1 : (items.isEmpty || (1 : Int) == 1) = true := by rw [show ((1 : Int) == 1) = true from rfl, Bool.or_true]
    wp_walk using wpAny_loadPart' hl
    repeat (first
      | (refine wpAny_ite_false (decide_eq_false (by rw [c0]; exact Bool.false_ne_true)) ?_; wp_walk using wpAny_loadPart' hl)
      | (refine wpAny_ite_true (decide_eq_true c1) ?_; wp_walk using wpAny_loadPart' hl))
    exact ⟨_, rfl, h⟩
/-- t * k, 1 ≤ k ≤ 1000 -/
def rRep1 (K : PySem.W.Frag) : R2 := fun x y H Q => ∃ l k xs, x = .ref l ∧ y = .int k ∧ SqT K H l xs ∧ xs ≠ [] ∧ 1 ≤ k ∧ k ≤ 1000 ∧ xs.length ≤ 1000 ∧
  ∀ p H', Ex H H' → SqT K H' p (List.replicate k.toNat xs).flatten → (k = 1 → H' = H ∧ p = l) → (1 < k → H p = none ∧ H' = upd H p (.tup (List.replicate k.toNat xs).flatten)) → Q (.ref p) H'
section
variable {X : Cx}
theorem op_repT1 : OpR X (binaryOp .Mult) (rRep1 X.K) := by
  intro pins s σ H x y v u Q I rx ry h
  obtain ⟨l, k, xs, rfl, rfl, hT, hne, h1, h2, hz, q⟩ := h
  by_cases hk : 1 < k
  · exact op_repT pins s σ H _ _ v u Q I rx ry ⟨l, k, xs, rfl, rfl, hT, hne, by omega, h2, hz, fun p hp => q p _ (Ex.new hp) (SqT.of upd_same) (fun e => by omega) fun _ => ⟨hp, rfl⟩⟩
  · obtain rfl : k = 1 := by omega
    cases rx
    obtain ⟨t, rfl⟩ := ry
    obtain ⟨its, r, ⟨⟨cls, dd, data, sl⟩, ho, hc, n, hd⟩, hs⟩ := I.tuple hT
    simp only at hc hd
    subst hc hd
    refine wpAny_binaryOp_repeat_ref (T := "tuple") (U := "int") (by decide) ⟨_, ho, rfl⟩ (fun s' => typeIs_int s' 1 t) noFill_tuple_mul F.fills_int_mul F.slot_int_rmul repeat_tuple F.slot_int_index.lookup
      (call_meets F.slot_int_rmul (typeIs_int s 1 t) F.entry_int_rmul (F.args_int_rmul_2 _ _) (int_rmul_tuple 1 t l its.toArray n dd sl)
        ⟨ho, rfl, ⟨_, ho, rfl⟩, call_meets F.slot_tuple_mul ⟨_, ho, rfl⟩ F.entry_tuple_mul (F.args_tuple_mul_2 _ _) (tuple_mul1 l its.toArray n dd sl t) ⟨ho, ?_⟩⟩)
    exact ⟨.ref l, H, I, rfl, q l H Ex.rfl' (by rw [show (List.replicate (1 : Int).toNat xs).flatten = xs by simp]; exact hT) (fun _ => ⟨rfl, rfl⟩) fun e => absurd e (by omega)⟩
/-- sum(t) of ints -/
def rSumT (K : PySem.W.Frag) : List V → Hp → VK → Prop := fun vs H Q => ∃ (a : Addr) (ns : List Int), vs = [V.ref a] ∧ SqT K H a (ns.map V.int) ∧ Q (.int ns.sum) H
theorem cr_sumT (hc : X.calm = true) : CallR X (.builtin "sum") (rSumT X.K) := by
  intro pins s σ H vs us Q I r h
  obtain ⟨a, ns, rfl, hs, q⟩ := h
  obtain ⟨its, rv, hl, _⟩ := I.tuple hs
  rw [Vals.ref1 r]
  have hi := rv.ints
  obtain ⟨xs, e⟩ := hi.allInts.items
  have hn : numsOf (intItems xs).toList = ns := by rw [← e]; exact hi.numsOf
  rw [nums_intItems] at hn
  rw [e] at hl
  have hl : s.heap.IsTuple a (intItems xs) := hl
  have hlt : a < s.heap.objs.size := by obtain ⟨_, e, _⟩ := hl; exact Heap.lt_size e
  refine call_sum_walkG (wpAny_pyIter_tuple hl ?_)
  refine ⟨_, _, _, _, _, _, numAt xs, rfl, Walks.tuple (A := X.A.in1) (I.ok.hd hc) _ a (Nat.ne_of_lt hlt) (intItems xs), ⟨⟨_, Heap.get?_push_size _ rfl, rfl, rfl⟩, hl.push _⟩, fun b hb => ?_, (fun _ _ => intItems_at), fun h' tk t' hk => ?_⟩
  · simp only [List.mem_cons, List.not_mem_nil, or_false] at hb
    rw [Heap.size_push]
    rcases hb with rfl | rfl
    · exact Nat.lt_succ_self _
    · exact Nat.lt_succ_of_lt hlt
  · refine ⟨.int ns.sum, H, I.kept fun b o eo => hk b o (fun hmem => ?_) (Heap.get?_push_of_some _ eo), ⟨t', ?_⟩, q⟩
    · have e1 : b = s.heap.objs.size := by simpa using hmem
      exact absurd (e1 ▸ Heap.lt_size eo) (Nat.lt_irrefl _)
    · rw [show (intItems xs).size = xs.size by simp [intItems], preSum_eq, List.take_of_length_le (by simp), hn]
theorem plain_ints : ∀ ns : List Int, PyData.plainAll (ns.map PyData.int) = true
  | [] => rfl
  | n :: ns => by rw [List.map_cons]; simp only [PyData.plainAll, PyData.plain, Bool.true_and]; exact plain_ints ns
/-- any(t) of ints -/
def rAnyT (K : PySem.W.Frag) : List V → Hp → VK → Prop := fun vs H Q => ∃ (a : Addr) (ns : List Int), vs = [V.ref a] ∧ SqT K H a (ns.map V.int) ∧ Q (.bl (ns.any (· != 0))) H
theorem cr_anyT (hc : X.calm = true) : CallR X (.builtin "any") (rAnyT X.K) := by
  intro pins s σ H vs us Q I r h
  obtain ⟨a, ns, rfl, hs, q⟩ := h
  obtain ⟨its, rv, hl, _⟩ := I.tuple hs
  rw [Vals.ref1 r]
  have hd : DpAll X.K H (ns.map V.int) (ns.map PyData.int) := RAll.dp _ _ (RAll.ints ns)
  obtain ⟨as, hr⟩ := Dp.readsAll I _ _ its hd rv
  have hl : s.heap.IsTuple a its.toArray := hl
  refine PySem.W.any_tuple_data (I.ok.hd hc) hl hr ?_ ?_ fun h' tk hk => ⟨.bl _, H, I.kept hk, ?_, q⟩
  · exact plain_ints ns
  · intro x hx
    obtain ⟨n, _, rfl⟩ := List.mem_map.mp hx
    trivial
  · show Value.bool _ = Value.bool _
    rw [List.any_map]
    rfl
end
end G
end
section
set_option maxRecDepth 100000
set_option maxHeartbeats 4000000
namespace Onew
open PySem PySem.Spec PyProof.Rows L2 G
/-! ### numbers as data -/
def nD (ns : List Nat) : List PyData := ns.map fun n => .int (n : Nat)
def nV (ns : List Nat) : List V := ns.map fun n => .int (n : Nat)
def iD (ns : List Nat) : PyData := .tuple (nD ns)
theorem nD_len (ns : List Nat) : (nD ns).length = ns.length := List.length_map _
theorem nV_len (ns : List Nat) : (nV ns).length = ns.length := List.length_map _
theorem noL_n : ∀ ns : List Nat, noLs (nD ns) = true
  | [] => rfl
  | n :: ns => by show (true && noLs (nD ns)) = true; rw [noL_n ns]; rfl
theorem noL_i (ns : List Nat) : noL (iD ns) = true := noL_n ns
theorem rall_n {H : Hp} : ∀ ns : List Nat, RAll H (nV ns) (nD ns)
  | [] => .nil
  | n :: ns => .cons (.int _) (rall_n ns)
theorem rall_of {H : Hp} : ∀ {ns : List Nat} {vs : List V}, RAll H vs (nD ns) → vs = nV ns
  | [], _, .nil => rfl
  | n :: ns, _, .cons (.int _) t => by rw [rall_of t]; rfl
theorem nV_int (ns : List Nat) : nV ns = (ns.map fun n : Nat => (n : Int)).map V.int := by unfold nV; rw [List.map_map]; rfl
theorem r_i {H : Hp} {v : V} {ns : List Nat} (h : R H v (iD ns)) : ∃ a, v = .ref a ∧ H a = some (.tup (nV ns)) := by
  cases h with
  | tup h t => cases rall_of t; exact ⟨_, rfl, h⟩
theorem r_i_mk {H : Hp} {a : Addr} {ns : List Nat} (h : H a = some (.tup (nV ns))) : R H (.ref a) (iD ns) := .tup h (rall_n ns)
/-- a list or tuple as data -/
def sqD (b : Bool) (ds : List PyData) : PyData := if b then .list ds else .tuple ds
def sqO (b : Bool) (xs : List V) : HO := if b then .lst xs else .tup xs
theorem r_sq {K : PySem.W.Frag} {H : Hp} {v : V} {b : Bool} {ds : List PyData} (h : R H v (sqD b ds)) : ∃ a xs, v = .ref a ∧ SqV K H a xs ∧ RAll H xs ds ∧ TyX K H v (.type (tyL b)) ∧ H a = some (sqO b xs) := by
  cases b with
  | true =>
    cases (show R H v (.list ds) from h) with
    | lst h1 t => exact ⟨_, _, rfl, .inl (SqL.of h1), t, .base (.lst h1), h1⟩
  | false =>
    cases (show R H v (.tuple ds) from h) with
    | tup h1 t => exact ⟨_, _, rfl, .inr (SqT.of h1), t, .base (.tup h1), h1⟩
/-- tuple(xs), xs a list or a tuple of the data ds -/
theorem tuple_sq {K : PySem.W.Frag} {H : Hp} {a : Addr} {b : Bool} {xs : List V} {ds : List PyData} {Q : VK} (h : H a = some (sqO b xs)) (r : RAll H xs ds) (q : ∀ v H', Ex H H' → R H' v (.tuple ds) → Q v H') :
    ∃ p ys, ([V.ref a] : List V) = [.ref p] ∧ ((SqL K H p ys ∧ ∀ l, H l = none → Q (.ref l) (upd H l (.tup ys))) ∨ (SqT K H p ys ∧ Q (.ref p) H)) := by
  cases b with
  | true => exact ⟨a, xs, rfl, .inl ⟨SqL.of h, fun l hl => q _ _ (Ex.new hl) (.tup upd_same (r.ex (Ex.new hl)))⟩⟩
  | false => exact ⟨a, xs, rfl, .inr ⟨SqT.of h, q _ _ Ex.rfl' (.tup h r)⟩⟩
theorem tyL_in (b : Bool) : tyL b ∈ ["NoneType", "bool", "int", "str", "list", "tuple"] := by cases b <;> decide
theorem tyL_sq (b : Bool) : (tyL b == "list" || tyL b == "tuple") = true := by cases b <;> decide
/-- what is to be read in K and H, behind a growth -/
theorem ttp {A B : Prop} (h : A) : (if true = true then A else B) := h
theorem ffp {A B : Prop} (h : B) : (if false = true then A else B) := h
theorem sqv_of {K : PySem.W.Frag} {H : Hp} {a : Addr} {xs : List V} (h : SqV K H a xs) : SqL K H a xs ∨ SqT K H a xs := h
theorem itT {c : Bool} {A B : Prop} (hc : c = true) (h : A) : if c = true then A else B := by rw [if_pos hc]; exact h
theorem itF {c : Bool} {A B : Prop} (hc : c = false) (h : B) : if c = true then A else B := by rw [hc, if_neg Bool.false_ne_true]; exact h
theorem dT {p : Prop} [Decidable p] (h : p) : decide p = true := decide_eq_true h
theorem nD_at {ns : List Nat} {i : Nat} {d : PyData} (h : (nD ns)[i]? = some d) : ∃ n, ns[i]? = some n ∧ d = .int n := by
  unfold nD at h
  rw [List.getElem?_map] at h
  cases e : ns[i]? with
  | none => rw [e] at h; cases h
  | some n => rw [e] at h; cases h; exact ⟨n, rfl, rfl⟩
section
variable {P : Program} {w : World} {K : PySem.W.Frag} {mg : Str → Option Value} {base : Heap}
def spChk : Sp := fun vs H Q _ => ∃ v b ns, vs = [v] ∧ R H v (sqD b (nD ns)) ∧ 1 ≤ ns.length ∧ ns.length ≤ 4 ∧ (∀ n ∈ ns, n ≤ 60) ∧ ∀ v' H', Ex H H' → R H' v' (iD ns) → Q v' H'
abbrev sChk : Stmt := top 19
theorem scChk : FnScope ["value", "number"] ["value"] (defScope sChk) := ⟨rfl, rfl, rfl, by decide +kernel, rfl, by decide +kernel, by decide +kernel⟩
theorem ok_chk {f : Addr} {fd : FuncData} (F : Fun K "check_rounds" "check_rounds" sChk f fd) (T : Txt K mg) (D_is_sequence : Def P w K mg base 1 "is_sequence" ["value"] (spIsSeq K)) (D_is_within : Def P w K mg base 2 "is_within" ["value", "least", "most"] spIsWit) :
    FnOk P w K mg base (L2.CX P w) 3 f fd ["value"] spChk := by
  obtain ⟨tD, cD⟩ := T.cD
  obtain ⟨tR, cR⟩ := T.cR
  refine F.okX scChk (fun vs H Q E h => ?_) (fun cdv A outer s H vs Q E hr h => ?_)
  · obtain ⟨v, b, ns, rfl, _⟩ := h
    rfl
  · obtain ⟨v, b, ns, rfl, r, l1, l4, hb, q⟩ := h
    have nd := scChk.nd
    refine ⟨_, (pss_cons (ps_if ((pw_or (pt_not (pt_val (pcall D_is_sequence hr (by decide) (pa_cons (pv 0) pa_nil)))) (pw_or1 (pt_not (pt_chain op_le op_le pe_int (pe_callB call_len_seq (by rfl) (T.no "len" (by decide)) boot_len (pa_cons (pv 0) pa_nil)) (pe_glob (by rfl) cD (v := .int 4) ⟨_, rfl⟩) ))))).pt (pss_one ps_dead) pss_nil)
      (pss_cons (ps_if (pt_not (pt_val (pe_callB (cr_all rfl) (by rfl) (T.no "all" (by decide)) boot_all (pa_cons (pe_lc (own := [("number", 1)]) (g := gName 1) (tt := tYes) rfl nd (pi_sq (pv 0)) (blkOk_by (N := ["value", "number"]) (sc := defScope sChk) (by decide +kernel)) (fun _ _ _ _ _ => (pg_name (i := 1) nd rfl (Or.inl rfl))) (fun _ _ _ _ _ => pts_nil) (fun _ _ _ _ _ => (pcall D_is_within hr (by decide) (pa_cons (pv 1) (pa_cons pe_int (pa_cons (pe_glob (by rfl) cR (v := .int 60) ⟨_, rfl⟩) pa_nil)))))) pa_nil)))) (pss_one ps_dead) pss_nil)
      (pss_one (ps_ret (pe_callTy call_tuple_of (by rfl) (T.no "tuple" (by decide)) boot_tuple (pa_cons (pv 0) pa_nil)))))), ?_⟩
    obtain ⟨a, xs, rfl, sq, ra, ty, ha⟩ := r_sq (K := K) r
    have xl : xs.length = ns.length := by rw [ra.length, nD_len]
    refine ⟨_, rfl, _, _, rfl, ty, tyL_in b, fun H1 e1 => ⟨_, rfl, ?_⟩⟩
    rw [tyL_sq]
    have sq1 := sq.ex e1
    refine ⟨_, rfl, _, _, rfl, sq1, _, _, rfl, rfl, _, rfl, itT (dT (by rw [xl]; omega)) ⟨_, _, rfl, rfl, _, rfl, itF (by rw [dT (by rw [xl]; omega)]; rfl) ?_⟩⟩
    refine ⟨_, rfl, a, xs, rfl, sq1, fun J hJ D hD => ?_⟩
    obtain ⟨C, W, hC⟩ := hJ _ rfl
    have ra1 := ra.ex e1
    refine lc_map W hD ((ns.map fun n => decide (n ≤ 60)).map PyData.bool) (by rw [List.length_map, List.length_map, xl]) (by rw [xl, sizeLine_eq]; omega) (noLs_bools _) hC ?_ ?_
    · intro i x H2 H2' d Post hi e2 y hd k
      obtain ⟨rfl, hx⟩ := y
      obtain ⟨d0, h0, r0⟩ := RAll.get ra1 hx
      obtain ⟨n, hn, rfl⟩ := nD_at h0
      have ed : d = .bool (decide (n ≤ 60)) := by
        rw [List.getElem?_map, List.getElem?_map, hn] at hd
        exact (Option.some.inj hd).symm
      refine ⟨rfl, _, rfl, _, _, _, _, rfl, r0.ex e2, k _ _ Ex.rfl' ?_⟩
      rw [ed, show withinD 0 60 (.int (n : Int)) = decide (n ≤ 60) by simp [withinD]; omega]
      exact .bl _
    · intro acc H2 e2 h2 r2
      refine ⟨_, _, rfl, SqL.of (by rw [h2, RAll.ofBools r2]), _, rfl, itF ?_ ?_⟩
      · rw [show (List.map (fun n => decide (n ≤ 60)) ns).all id = true by simp only [List.all_map, List.all_eq_true]; exact fun n hn => decide_eq_true (hb n hn)]; rfl
      have e3 := e1.tr e2
      exact ⟨_, rfl, tuple_sq (e3 _ _ ha) (ra.ex e3) fun v H' e r' => q _ _ (e3.tr e) r'⟩
/-- the rests that a value stands for, m the rounds -/
def restsOf (m : Nat) (ns : List Nat) : List Nat := if ns.length = 0 then List.replicate m 0 else ns
def spChkE (K : PySem.W.Frag) : Sp := fun vs H Q _ => ∃ (a : Addr) (xs : List V) (b : Bool) (ns : List Nat) (m : Nat), vs = [.ref a, .int (m : Nat)] ∧ SqV K H a xs ∧ TyX K H (.ref a) (.type (tyL b)) ∧ RAll H xs (nD ns) ∧ (ns.length = 0 ∨ (ns.length = m ∧ H a = some (sqO b xs))) ∧ 1 ≤ m ∧ m ≤ 4 ∧ (∀ n ∈ ns, n ≤ 6) ∧
  ∀ v' H', Ex H H' → R H' v' (iD (restsOf m ns)) → Q v' H'
abbrev sChkE : Stmt := top 20
theorem scChkE : FnScope ["value", "many", "number"] ["value", "many"] (defScope sChkE) := ⟨rfl, rfl, rfl, by decide +kernel, rfl, by decide +kernel, by decide +kernel⟩
theorem rep0 (m : Nat) : (List.replicate m [V.int 0]).flatten = nV (List.replicate m 0) := by
  induction m with
  | zero => rfl
  | succ m ih => rw [List.replicate_succ, List.replicate_succ, List.flatten_cons, ih]; rfl
theorem ok_chkE {f : Addr} {fd : FuncData} (F : Fun K "check_rests" "check_rests" sChkE f fd) (T : Txt K mg) (D_is_sequence : Def P w K mg base 1 "is_sequence" ["value"] (spIsSeq K)) (D_is_within : Def P w K mg base 2 "is_within" ["value", "least", "most"] spIsWit) :
    FnOk P w K mg base (L2.CX P w) 3 f fd ["value", "many"] (spChkE K) := by
  obtain ⟨tE, cE⟩ := T.cE
  refine F.okX scChkE (fun vs H Q E h => ?_) (fun cdv A outer s H vs Q E hr h => ?_)
  · obtain ⟨a, xs, b, ns, m, rfl, _⟩ := h
    rfl
  · obtain ⟨a, xs, b, ns, m, rfl, sq, ty, ra, hl, m1, m4, hb, q⟩ := h
    have nd := scChkE.nd
    refine ⟨_, (pss_cons (ps_if ((pw_or (pt_not (pt_val (pcall D_is_sequence hr (by decide) (pa_cons (pv 0) pa_nil)))) (pw_or1 (pt_cmpR op_notIn_seq (pe_callB call_len_seq (by rfl) (T.no "len" (by decide)) boot_len (pa_cons (pv 0) pa_nil)) (pe_tup (pa_cons pe_int (pa_cons (pv 1) pa_nil))) (by rfl))))).pt (pss_one ps_dead) pss_nil)
      (pss_cons (ps_if (pt_not (pt_val (pe_callB (cr_all rfl) (by rfl) (T.no "all" (by decide)) boot_all (pa_cons (pe_lc (own := [("number", 2)]) (g := gName 2) (tt := tYes) rfl nd (pi_sq (pv 0)) (blkOk_by (N := ["value", "many", "number"]) (sc := defScope sChkE) (by decide +kernel)) (fun _ _ _ _ _ => (pg_name (i := 2) nd rfl (Or.inl rfl))) (fun _ _ _ _ _ => pts_nil) (fun _ _ _ _ _ => (pcall D_is_within hr (by decide) (pa_cons (pv 2) (pa_cons pe_int (pa_cons (pe_glob (by rfl) cE (v := .int 6) ⟨_, rfl⟩) pa_nil)))))) pa_nil)))) (pss_one ps_dead) pss_nil)
      (pss_one (ps_ret (pe_ifExp (pt_cmpR op_gt (pe_callB call_len_seq (by rfl) (T.no "len" (by decide)) boot_len (pa_cons (pv 0) pa_nil)) pe_int (nomark _)) (pe_callTy call_tuple_of (by rfl) (T.no "tuple" (by decide)) boot_tuple (pa_cons (pv 0) pa_nil)) (pe_op op_repT1 (pe_tup (pa_cons pe_int pa_nil)) (pv 1))))))), ?_⟩
    have xl : xs.length = ns.length := by rw [ra.length, nD_len]
    refine ⟨_, rfl, _, _, rfl, ty, tyL_in b, fun H1 e1 => ⟨_, rfl, ?_⟩⟩
    rw [tyL_sq]
    have sq1 := sq.ex e1
    refine ⟨_, rfl, _, _, rfl, sq1, _, rfl, by show 2 ≤ sizeLine; decide, fun p hp => ?_⟩
    have e2 := e1.tr (Ex.new (o := .tup [.int 0, .int (m : Int)]) hp)
    refine ⟨p, [.int 0, .int (m : Int)], rfl, .inr (SqT.of upd_same), rfl, rfl, _, rfl, itF ?_ ?_⟩
    · have : inV (V.int (xs.length : Int)) [.int 0, .int (m : Int)] = true := by
        rw [xl]
        rcases hl with hl | hl
        · rw [hl]; rfl
        · rw [hl.1]; simp [inV, eqV]
      rw [if_pos rfl, this]; rfl
    refine ⟨_, rfl, a, xs, rfl, sq.ex e2, fun J hJ D hD => ?_⟩
    obtain ⟨C, W, hC⟩ := hJ _ rfl
    have ra1 := ra.ex e2
    refine lc_map W hD ((ns.map fun n => decide (n ≤ 6)).map PyData.bool) (by rw [List.length_map, List.length_map, xl]) (by rw [xl, sizeLine_eq]; omega) (noLs_bools _) hC ?_ ?_
    · intro i x H2 H2' d Post hi e2 y hd k
      obtain ⟨rfl, hx⟩ := y
      obtain ⟨d0, h0, r0⟩ := RAll.get ra1 hx
      obtain ⟨n, hn, rfl⟩ := nD_at h0
      have ed : d = .bool (decide (n ≤ 6)) := by
        rw [List.getElem?_map, List.getElem?_map, hn] at hd
        exact (Option.some.inj hd).symm
      refine ⟨rfl, _, rfl, _, _, _, _, rfl, r0.ex e2, k _ _ Ex.rfl' ?_⟩
      rw [ed, show withinD 0 6 (.int (n : Int)) = decide (n ≤ 6) by simp [withinD]; omega]
      exact .bl _
    · intro acc H2 e3' h2 r2
      refine ⟨_, _, rfl, SqL.of (by rw [h2, RAll.ofBools r2]), _, rfl, itF ?_ ?_⟩
      · rw [show (List.map (fun n => decide (n ≤ 6)) ns).all id = true by simp only [List.all_map, List.all_eq_true]; exact fun n hn => decide_eq_true (hb n hn)]; rfl
      have e3 := e2.tr e3'
      refine ⟨_, rfl, a, xs, rfl, sq.ex e3, _, _, rfl, rfl, _, rfl, ?_⟩
      by_cases h0 : ns.length = 0
      · refine itF (decide_eq_false (by rw [xl]; omega)) ?_
        refine ⟨by show 1 ≤ sizeLine; decide, fun p2 hp2 => ⟨_, rfl, p2, m, [.int 0], rfl, rfl, SqT.of upd_same, by simp, by omega, by omega, by simp, fun p3 H3 e4 s4 k1 k2 => q _ _ (e3.tr ((Ex.new hp2).tr e4)) ?_⟩⟩
        rw [restsOf, if_pos h0]
        refine r_i_mk ?_
        rw [← rep0]
        by_cases hm : (m : Int) = 1
        · obtain ⟨rfl, rfl⟩ := k1 hm
          obtain rfl : m = 1 := by omega
          exact upd_same
        · obtain ⟨k3, rfl⟩ := k2 (by omega)
          exact upd_same
      · refine itT (dT (by rw [xl]; omega)) ?_
        obtain ⟨h4, h5⟩ := hl.resolve_left h0
        refine ⟨_, rfl, tuple_sq (e3 _ _ h5) (ra.ex e3) fun v H' e r' => q _ _ (e3.tr e) ?_⟩
        rw [restsOf, if_neg h0]
        exact r'
end
end Onew
end
section
set_option maxRecDepth 100000
set_option maxHeartbeats 4000000
namespace Onew
open PySem PySem.Spec PyProof.Rows L2 G
/-! ### Counters, Machine -/
def cf (r q : Addr) : List (Str × V) := putF "rests" (.ref q) (putF "rounds" (.ref r) [])
theorem cf_rounds (r q : Addr) : (cf r q).lookup ("rounds" : Str) = some (.ref r) := by
  unfold cf; rw [lookup_putF, if_neg (by decide +kernel), lookup_putF, if_pos rfl]
theorem cf_rests (r q : Addr) : (cf r q).lookup ("rests" : Str) = some (.ref q) := by
  unfold cf; rw [lookup_putF, if_pos rfl]
def mf (t : Addr) (n m : Int) : List (Str × V) := putF "states" (.int m) (putF "deeds" (.int n) (putF "tables" (.ref t) []))
theorem mf_tables (t : Addr) (n m : Int) : (mf t n m).lookup ("tables" : Str) = some (.ref t) := by
  unfold mf; rw [lookup_putF, if_neg (by decide +kernel), lookup_putF, if_neg (by decide +kernel), lookup_putF, if_pos rfl]
theorem mf_deeds (t : Addr) (n m : Int) : (mf t n m).lookup ("deeds" : Str) = some (.int n) := by
  unfold mf; rw [lookup_putF, if_neg (by decide +kernel), lookup_putF, if_pos rfl]
theorem mf_states (t : Addr) (n m : Int) : (mf t n m).lookup ("states" : Str) = some (.int m) := by
  unfold mf; rw [lookup_putF, if_pos rfl]
/-- the data of a table of rows -/
def tD (ts : List (List Nat)) : PyData := .tuple (ts.map iD)
theorem noLs_tab : ∀ ts : List (List Nat), noLs (ts.map iD) = true
  | [] => rfl
  | t :: ts => by simp only [List.map_cons, noLs, noL_i, Bool.true_and]; exact noLs_tab ts
/-- Counters(rounds, rests) at p -/
def CounAt (CC : Addr) (H : Hp) (p : Addr) (rounds rests : List Nat) : Prop := ∃ dx r q, H p = some (.ins CC dx (cf r q)) ∧ R H (.ref r) (iD rounds) ∧ R H (.ref q) (iD rests)
/-- Machine(tables) at p -/
def MachAt (CM : Addr) (H : Hp) (p : Addr) (ts : List (List Nat)) : Prop := ∃ dx t, H p = some (.ins CM dx (mf t ts.length (ts.headD []).length)) ∧ R H (.ref t) (tD ts)
theorem CounAt.nx {CC : Addr} {H H' : Hp} {p : Addr} {a b : List Nat} (h : CounAt CC H p a b) (e : Nx H H') : CounAt CC H' p a b := let ⟨dx, r, q, h1, h2, h3⟩ := h; ⟨dx, r, q, e _ _ h1 (fun _ z => by cases z), R.nx e _ _ h2, R.nx e _ _ h3⟩
theorem MachAt.nx {CM : Addr} {H H' : Hp} {p : Addr} {ts : List (List Nat)} (h : MachAt CM H p ts) (e : Nx H H') : MachAt CM H' p ts := let ⟨dx, t, h1, h2⟩ := h; ⟨dx, t, e _ _ h1 (fun _ z => by cases z), R.nx e _ _ h2⟩
theorem CounAt.ex {CC : Addr} {H H' : Hp} {p : Addr} {a b : List Nat} (h : CounAt CC H p a b) (e : Ex H H') : CounAt CC H' p a b := h.nx e.n
theorem MachAt.ex {CM : Addr} {H H' : Hp} {p : Addr} {ts : List (List Nat)} (h : MachAt CM H p ts) (e : Ex H H') : MachAt CM H' p ts := h.nx e.n
/-- what the module's text says of the two classes -/
structure TxC (K : PySem.W.Frag) (mg : Str → Option Value) (CM CC : Addr) : Prop where
  clM : Cls K CM
  clC : Cls K CC
  nM : ∀ x ∈ ([("tables" : Str), "deeds", "states"] : List Str), NoAttr K CM x
  nC : ∀ x ∈ ([("rounds" : Str), "rests"] : List Str), NoAttr K CC x
  mM : mg "Machine" = some (.ref CM)
  mC : mg "Counters" = some (.ref CC)
/-- all but p stays -/
abbrev But (p : Addr) (H H' : Hp) : Prop := ∀ b o, b ≠ p → H b = some o → H' b = some o
theorem But.tr {p : Addr} {H H1 H2 : Hp} (a : But p H H1) (b : But p H1 H2) : But p H H2 := fun x o n h => b x o n (a x o n h)
theorem Ex.but {p : Addr} {H H' : Hp} (e : Ex H H') : But p H H' := fun b o _ h => e b o h
theorem But.upd {p : Addr} {H : Hp} {o : HO} : But p H (upd H p o) := fun b u n h => by rw [upd_ne n]; exact h
theorem But.ex {p : Addr} {H0 H H' : Hp} (b : But p H H') (e : Ex H0 H) (n : H0 p = none) : Ex H0 H' := fun x o h => b x o (fun z => by rw [z, n] at h; cases h) (e x o h)
/-- tuples' data where only p, no tuple, changes -/
theorem But.tx {p : Addr} {H H' : Hp} {o : HO} (b : But p H H') (h : H p = some o) (n : ∀ xs, o ≠ .tup xs) : Tx H H' := fun x xs e => b x _ (fun z => by
  rw [z, h] at e
  exact n xs (Option.some.inj e)) e
section
variable {P : Program} {w : World} {K : PySem.W.Frag} {mg : Str → Option Value} {base : Heap} {CM CC : Addr}
def spCIni (K : PySem.W.Frag) (CC : Addr) : Sp := fun vs H Q _ => ∃ (x dx : Addr) (v : V) (b : Bool) (ns : List Nat) (a : Addr) (c : Bool) (es : List Nat), vs = [.ref x, v, .ref a] ∧ H x = some (.ins CC dx []) ∧ R H v (sqD b (nD ns)) ∧ 1 ≤ ns.length ∧ ns.length ≤ 4 ∧ (∀ n ∈ ns, n ≤ 60) ∧
  ((es = [] ∧ ∀ H, SqV K H a [] ∧ TyX K H (.ref a) (.type (tyL c))) ∨ (R H (.ref a) (sqD c (nD es)) ∧ es.length = ns.length)) ∧ (∀ n ∈ es, n ≤ 6) ∧ ∀ H', But x H H' → CounAt CC H' x ns (restsOf ns.length es) → Q .non H'
abbrev sCIni : Stmt := inClass (top 21) 0
theorem scCIni : FnScope ["self", "rounds", "rests"] ["self", "rounds", "rests"] (defScope sCIni) := ⟨rfl, rfl, rfl, by decide +kernel, rfl, by decide +kernel, by decide +kernel⟩
theorem ok_cini {f eA : Addr} {fd : FuncData} (F : FunD K "__init__" "Counters.__init__" (defArgs sCIni) (defBody sCIni) (defScope sCIni) [.ref eA] [] f fd) (T : Txt K mg) (TC : TxC K mg CM CC) (D_check_rounds : Def P w K mg base 3 "check_rounds" ["value"] spChk) (D_check_rests : Def P w K mg base 3 "check_rests" ["value", "many"] (spChkE K)) :
    FnOk P w K mg base (L2.CX P w) 4 f fd ["self", "rounds", "rests"] (spCIni K CC) := by
  refine F.ok scCIni (fun vs H Q E h => ?_) (fun cdv A outer s H vs Q E hr h => ?_)
  · obtain ⟨x, dx, v, b, ns, a, c, es, rfl, _⟩ := h
    rfl
  · obtain ⟨x, dx, v, b, ns, a, c, es, rfl, hx, r, l1, l4, hb, hl, he, q⟩ := h
    refine ⟨_, (pss_cons (ps_fld (pv 0) (pcall D_check_rounds hr (by decide) (pa_cons (pv 1) pa_nil)) rfl)
      (pss_one (ps_fld (pv 0) (pcall D_check_rests hr (by decide) (pa_cons (pv 2) (pa_cons (pe_callB call_len_seq (by rfl) (T.no "len" (by decide)) boot_len (pa_cons (pe_fld (pv 0) rfl) pa_nil)) pa_nil))) rfl))), ?_⟩
    refine ⟨_, rfl, v, b, ns, rfl, r, l1, l4, hb, fun v1 H1 e1 r1 => ⟨_, rfl, x, CC, dx, [], rfl, e1 _ _ hx, TC.clC, TC.nC _ (by decide), by show 0 < 1000; decide, ?_⟩⟩
    obtain ⟨r1a, rfl, h1⟩ := r_i r1
    have nx : r1a ≠ x := fun z => by rw [z, e1 _ _ hx] at h1; cases h1
    have b1 : But x H (upd H1 x (.ins CC dx (putF "rounds" (.ref r1a) []))) := (Ex.but e1).tr But.upd
    have hr1 : (upd H1 x (.ins CC dx (putF "rounds" (.ref r1a) []))) r1a = some (.tup (nV ns)) := by rw [upd_ne nx]; exact h1
    have key : ∃ xs, SqV K (upd H1 x (.ins CC dx (putF "rounds" (.ref r1a) []))) a xs ∧ TyX K (upd H1 x (.ins CC dx (putF "rounds" (.ref r1a) []))) (.ref a) (.type (tyL c)) ∧ RAll (upd H1 x (.ins CC dx (putF "rounds" (.ref r1a) []))) xs (nD es) ∧ (es.length = 0 ∨ (es.length = ns.length ∧ (upd H1 x (.ins CC dx (putF "rounds" (.ref r1a) []))) a = some (sqO c xs))) := by
      rcases hl with ⟨rfl, k⟩ | ⟨k, k2⟩
      · exact ⟨[], (k _).1, (k _).2, .nil, .inl rfl⟩
      · obtain ⟨a', xs, ea, _, t, _, h2⟩ := r_sq (K := K) k
        cases ea
        have na : a ≠ x := fun z => by rw [z, hx] at h2; cases c <;> cases h2
        have h3 := b1 _ _ na h2
        have t3 : RAll (upd H1 x (.ins CC dx (putF "rounds" (.ref r1a) []))) xs (nD es) := by rw [rall_of t]; exact rall_n es
        have k3 : R (upd H1 x (.ins CC dx (putF "rounds" (.ref r1a) []))) (.ref a) (sqD c (nD es)) := by
          cases c with
          | true => exact .lst h3 t3
          | false => exact .tup h3 t3
        obtain ⟨a', xs', ea, s4, t4, y4, h4⟩ := r_sq (K := K) k3
        cases ea
        rw [h3] at h4
        have ex : xs' = xs := by cases c <;> cases h4 <;> rfl
        rw [ex] at s4 t4
        exact ⟨xs, s4, y4, t4, .inr ⟨k2, h3⟩⟩
    obtain ⟨xs, s2, y2, t2, l2⟩ := key
    refine ⟨_, rfl, _, rfl, x, CC, dx, _, _, rfl, upd_same, TC.clC, TC.nC _ (by decide), by rw [lookup_putF, if_pos rfl], r1a, _, rfl, .inr (SqT.of hr1), a, xs, c, es, ns.length, by rw [nV_len]; rfl, s2, y2, t2, l2, l1, l4, he, fun v2 H2 e2 r2 => ?_⟩
    obtain ⟨q2, rfl, h2⟩ := r_i r2
    have hx2 := e2 _ _ (upd_same (H := H1) (a := x) (o := .ins CC dx (putF "rounds" (.ref r1a) [])))
    have nq : q2 ≠ x := fun z => by rw [z, hx2] at h2; cases h2
    refine ⟨_, rfl, x, CC, dx, _, rfl, hx2, TC.clC, TC.nC _ (by decide), by show 1 < 1000; decide, q _ ((b1.tr (Ex.but e2)).tr But.upd) ⟨dx, r1a, q2, upd_same, ?_, ?_⟩⟩
    · exact r_i_mk (by rw [upd_ne nx]; exact e2 _ _ hr1)
    · exact r_i_mk (by rw [upd_ne nq]; exact h2)
end
end Onew
end
section
set_option maxRecDepth 100000
set_option maxHeartbeats 4000000
namespace Onew
open PySem PySem.Spec PyProof.Rows L2 G
theorem TyX_ex {K : PySem.W.Frag} {H H' : Hp} {v : V} {t : Value} (h : TyX K H v t) (e : Ex H H') : TyX K H' v t := by
  cases h with
  | base b =>
    refine .base ?_
    cases b with
    | non => exact .non
    | bl x => exact .bl x
    | int x => exact .int x
    | str x => exact .str x
    | flt x => exact .flt x
    | lst h => exact .lst (e _ _ h)
    | frz h => exact .frz (e _ _ h)
    | tup h => exact .tup (e _ _ h)
    | dK h => exact .dK (e _ _ h)
    | dT h => exact .dT (e _ _ h)
    | ins h a b c d f => exact .ins (e _ _ h) a b c d f
  | byt b => exact .byt b
  | set h => exact .set (e _ _ h)
  | kList a b => exact .kList a b
  | kTuple a b => exact .kTuple a b
  | kDict a b => exact .kDict a b
  | fTuple h => exact .fTuple (e _ _ h)
  | fDict h => exact .fDict (e _ _ h)
def rTup (K : PySem.W.Frag) : List V → Hp → VK → Prop := fun xs H Q => ∃ p ys, xs = [.ref p] ∧ ((SqL K H p ys ∧ ∀ l, H l = none → Q (.ref l) (upd H l (.tup ys))) ∨ (SqT K H p ys ∧ Q (.ref p) H))
theorem cr_tup {X : Cx} : CallR X (.type "tuple") (rTup X.K) := call_tuple_of
section
variable {P : Program} {w : World} {K : PySem.W.Frag} {mg : Str → Option Value} {base : Heap} {CM CC : Addr}
def spIsTab : Sp := fun vs H Q _ => ∃ (v : V) (b : Bool) (ns : List Nat) (m : Nat), vs = [v, .int (m : Nat)] ∧ R H v (sqD b (nD ns)) ∧ ns.length = m ∧ m ≤ 8 ∧ (∀ n ∈ ns, n < m) ∧ ∀ H', Ex H H' → Q (.bl true) H'
abbrev sIsTab : Stmt := top 24
theorem scIsTab : FnScope ["value", "states", "state"] ["value", "states"] (defScope sIsTab) := ⟨rfl, rfl, rfl, by decide +kernel, rfl, by decide +kernel, by decide +kernel⟩
theorem ok_istab {f : Addr} {fd : FuncData} (F : Fun K "is_table" "is_table" sIsTab f fd) (T : Txt K mg) (D_is_sequence : Def P w K mg base 1 "is_sequence" ["value"] (spIsSeq K)) (D_is_below : Def P w K mg base 3 "is_below" ["value", "most"] spIsBel) :
    FnOk P w K mg base (L2.CX P w) 4 f fd ["value", "states"] spIsTab := by
  refine F.okX scIsTab (fun vs H Q E h => ?_) (fun cdv A outer s H vs Q E hr h => ?_)
  · obtain ⟨v, b, ns, m, rfl, _⟩ := h
    rfl
  · obtain ⟨v, b, ns, m, rfl, r, hl, hm, hb, q⟩ := h
    have nd := scIsTab.nd
    refine ⟨_, (pss_one (ps_ret (pe_and (pcall D_is_sequence hr (by decide) (pa_cons (pv 0) pa_nil)) (pe_and (pe_cmpR op_eq (pe_callB call_len_seq (by rfl) (T.no "len" (by decide)) boot_len (pa_cons (pv 0) pa_nil)) (pv 1) (nomark _)) (pe_one (pe_callB (cr_all rfl) (by rfl) (T.no "all" (by decide)) boot_all (pa_cons (pe_lc (own := [("state", 2)]) (g := gName 2) (tt := tYes) rfl nd (pi_sq (pv 0)) (blkOk_by (N := ["value", "states", "state"]) (sc := defScope sIsTab) (by decide +kernel)) (fun _ _ _ _ _ => (pg_name (i := 2) nd rfl (Or.inl rfl))) (fun _ _ _ _ _ => pts_nil) (fun _ _ _ _ _ => (pcall D_is_below hr (by decide) (pa_cons (pv 2) (pa_cons (pv 1) pa_nil))))) pa_nil))))))), ?_⟩
    obtain ⟨a, xs, rfl, sq, ra, ty, ha⟩ := r_sq (K := K) r
    have xl : xs.length = ns.length := by rw [ra.length, nD_len]
    refine ⟨_, rfl, _, _, rfl, ty, tyL_in b, fun H1 e1 => ⟨_, rfl, itT (tyL_sq b) ?_⟩⟩
    refine ⟨_, rfl, _, _, rfl, sq.ex e1, _, rfl, rfl, _, rfl, itT (by rw [xl, hl]; exact dT rfl) ?_⟩
    refine ⟨_, rfl, a, xs, rfl, sq.ex e1, fun J hJ D hD => ?_⟩
    obtain ⟨C, W, hC⟩ := hJ _ rfl
    have ra1 := ra.ex e1
    refine lc_map W hD ((ns.map fun n => decide (n < m)).map PyData.bool) (by rw [List.length_map, List.length_map, xl]) (by rw [xl, sizeLine_eq]; omega) (noLs_bools _) hC ?_ ?_
    · intro i x H2 H2' d Post hi e2 y hd k
      obtain ⟨rfl, hx⟩ := y
      obtain ⟨d0, h0, r0⟩ := RAll.get ra1 hx
      obtain ⟨n, hn, rfl⟩ := nD_at h0
      have ed : d = .bool (decide (n < m)) := by
        rw [List.getElem?_map, List.getElem?_map, hn] at hd
        exact (Option.some.inj hd).symm
      refine ⟨rfl, _, rfl, _, rfl, _, _, _, rfl, r0.ex e2, k _ _ Ex.rfl' ?_⟩
      rw [ed, show belowD (m : Int) (.int (n : Int)) = decide (n < m) by simp [belowD]]
      exact .bl _
    · intro acc H2 e2 h2 r2
      refine ⟨_, _, rfl, SqL.of (by rw [h2, RAll.ofBools r2]), ?_⟩
      rw [show (List.map (fun n => decide (n < m)) ns).all id = true by simp only [List.all_map, List.all_eq_true]; exact fun n hn => decide_eq_true (hb n hn)]
      exact q _ (e1.tr e2)
/-- the data of a list of rows, each a list or a tuple -/
def rowsD (rs : List (Bool × List Nat)) : List PyData := rs.map fun p => sqD p.1 (nD p.2)
def spChkT : Sp := fun vs H Q _ => ∃ (v : V) (rs : List (Bool × List Nat)) (m : Nat), vs = [v] ∧ R H v (.list (rowsD rs)) ∧ 1 ≤ rs.length ∧ rs.length ≤ 4 ∧ 1 ≤ m ∧ m ≤ 8 ∧ (∀ p ∈ rs, p.2.length = m ∧ ∀ n ∈ p.2, n < m) ∧ ∀ v' H', Ex H H' → R H' v' (tD (rs.map (·.2))) → Q v' H'
abbrev sChkT : Stmt := top 25
theorem scChkT : FnScope ["value", "states", "at", "table"] ["value"] (defScope sChkT) := ⟨rfl, rfl, rfl, by decide +kernel, rfl, by decide +kernel, by decide +kernel⟩
theorem rowsD_at {rs : List (Bool × List Nat)} {i : Nat} {d : PyData} (h : (rowsD rs)[i]? = some d) : ∃ p, rs[i]? = some p ∧ d = sqD p.1 (nD p.2) := by
  unfold rowsD at h
  rw [List.getElem?_map] at h
  cases e : rs[i]? with
  | none => rw [e] at h; cases h
  | some n => rw [e] at h; cases h; exact ⟨n, rfl, rfl⟩
theorem ok_chkT {f : Addr} {fd : FuncData} (F : Fun K "check_tables" "check_tables" sChkT f fd) (T : Txt K mg) (D_is_sequence : Def P w K mg base 1 "is_sequence" ["value"] (spIsSeq K)) (D_is_table : Def P w K mg base 4 "is_table" ["value", "states"] spIsTab) :
    FnOk P w K mg base (L2.CX P w) 5 f fd ["value"] spChkT := by
  obtain ⟨tD', cD⟩ := T.cD
  obtain ⟨tS, cS⟩ := T.cS
  refine F.okX scChkT (fun vs H Q E h => ?_) (fun cdv A outer s H vs Q E hr h => ?_)
  · obtain ⟨v, rs, m, rfl, _⟩ := h
    rfl
  · obtain ⟨v, rs, m, rfl, r, l1, l4, m1, m8, hb, q⟩ := h
    have nd := scChkT.nd
    refine ⟨_, (pss_cons (ps_if ((pw_or (pt_not (pt_val (pcall D_is_sequence hr (by decide) (pa_cons (pv 0) pa_nil)))) (pw_or1 (pt_not (pt_chain op_le op_le pe_int (pe_callB call_len_seq (by rfl) (T.no "len" (by decide)) boot_len (pa_cons (pv 0) pa_nil)) (pe_glob (by rfl) cD (v := .int 4) ⟨_, rfl⟩) ))))).pt (pss_one ps_dead) pss_nil)
      (pss_cons (ps_set (i := 1) nd rfl (Or.inl rfl) (pe_ifExp (pt_val (pcall D_is_sequence hr (by decide) (pa_cons (pe_ix ix_list (pv 0) pe_int (fun _ _ => rfl)) pa_nil))) (pe_callB call_len_seq (by rfl) (T.no "len" (by decide)) boot_len (pa_cons (pe_ix ix_list (pv 0) pe_int (fun _ _ => rfl)) pa_nil)) pe_int))
      (pss_cons (ps_for (passes_of rfl) rfl (pi_enum (by rfl) (T.no "enumerate" (by decide)) (pa_cons (pv 0) pa_nil)) (pg_tup rfl (pgs_cons (pg_name (i := 2) nd rfl (Or.inl rfl)) (pgs_cons (pg_name (i := 3) nd rfl (Or.inl rfl)) pgs_nil))) (pss_one (ps_if ((pw_or (pt_not (pt_chain op_le op_le pe_int (pv 1) (pe_glob (by rfl) cS (v := .int 8) ⟨_, rfl⟩) )) (pw_or1 (pt_not (pt_val (pcall D_is_table hr (by decide) (pa_cons (pv 3) (pa_cons (pv 1) pa_nil)))))))).pt (pss_one ps_dead) pss_nil)))
      (pss_one (ps_ret (pe_callTy call_tuple_of (by rfl) (T.no "tuple" (by decide)) boot_tuple (pa_cons (pe_lc (own := [("table", 3)]) (g := gName 3) (tt := tYes) (te := tCB (rTup K) (tCons (tVar 3) tNil)) rfl nd (pi_list (pv 0)) (blkOk_by (N := ["value", "states", "at", "table"]) (sc := defScope sChkT) (by decide +kernel)) (fun _ _ _ _ _ => (pg_name (i := 3) nd rfl (Or.inl rfl))) (fun _ _ _ _ _ => pts_nil) (fun _ _ _ _ _ => (pe_callTy cr_tup (by rfl) (T.no "tuple" (by decide)) boot_tuple (pa_cons (pv 3) pa_nil)))) pa_nil))))))), ?_⟩
    obtain ⟨a, xs, rfl, sq, ra, ty, ha⟩ := r_sq (K := K) (b := true) r
    have xl : xs.length = rs.length := by rw [ra.length]; exact List.length_map _
    refine ⟨_, rfl, _, _, rfl, ty, tyL_in true, fun H1 e1 => ⟨_, rfl, ?_⟩⟩
    rw [tyL_sq]
    refine ⟨_, rfl, _, _, rfl, sq.ex e1, _, _, rfl, rfl, _, rfl, itT (dT (by rw [xl]; omega)) ⟨_, _, rfl, rfl, _, rfl, itF (by rw [dT (by rw [xl]; omega)]; rfl) ?_⟩⟩
    obtain ⟨p0, hp0⟩ : ∃ p, rs[0]? = some p := ⟨rs[0]'(by omega), List.getElem?_eq_getElem (by omega)⟩
    obtain ⟨v0, hv0, r0⟩ := RAll.at ra (i := 0) (d := sqD p0.1 (nD p0.2)) (by unfold rowsD; rw [List.getElem?_map, hp0]; rfl)
    have hm0 := hb p0 (List.mem_of_getElem? hp0)
    obtain ⟨a0, xs0, rfl, sq0, ra0, ty0, ha0⟩ := r_sq (K := K) r0
    have at0 : atI xs 0 = some (.ref a0) := atI_nat hv0
    refine ⟨_, rfl, _, _, _, _, rfl, rfl, SqL.of (e1 _ _ ha), at0, _, _, rfl, TyX_ex ty0 e1, tyL_in p0.1, fun H2 e2 => ⟨_, rfl, itT (tyL_sq _) ?_⟩⟩
    have e12 := e1.tr e2
    refine ⟨_, rfl, _, _, _, _, rfl, rfl, SqL.of (e12 _ _ ha), at0, _, _, rfl, sq0.ex e12, ?_⟩
    rw [show xs0.length = m by rw [ra0.length, nD_len, hm0.1]]
    refine ⟨_, rfl, a, xs, rfl, SqL.of (e12 _ _ ha), ?_⟩
    refine for_it walk_enum (fun i σ H' => (∃ x y, σ = [some (.ref a), some (.int (m : Nat)), x, y]) ∧ Ex H2 H') ⟨⟨_, _, rfl⟩, Ex.rfl'⟩ (fun i σ H' _ h => SqL.of (h.2 _ _ (e12 _ _ ha))) ?_ ?_
    · rintro i x σ H3 H3' hi ⟨⟨y1, y2, rfl⟩, e3⟩ ⟨TT, z1, z2, rfl, hT, rfl, ez1, ez2⟩
      cases ez1
      have e4 := e3.tr (Ex.new (o := .tup [.int (i : Nat), z2]) hT)
      refine ⟨TT, _, rfl, SqT.of upd_same, rfl, _, _, rfl, _, _, rfl, rfl, ?_⟩
      obtain ⟨d, hd, rd⟩ := RAll.get ra ez2
      obtain ⟨pr, hp, rfl⟩ := rowsD_at hd
      have hmp := hb pr (List.mem_of_getElem? hp)
      refine ⟨_, rfl, _, _, rfl, rfl, _, rfl, itT (dT (by omega)) ⟨_, _, rfl, rfl, _, rfl, itF (by rw [dT (by omega)]; rfl) ?_⟩⟩
      exact ⟨_, rfl, _, rfl, z2, pr.1, pr.2, m, rfl, rd.ex (e12.tr e4), hmp.1, m8, hmp.2, fun H5 e5 => ⟨_, rfl, itF rfl ⟨⟨_, _, rfl⟩, e4.tr e5⟩⟩⟩
    · rintro σ H3 ⟨⟨y1, y2, rfl⟩, e3⟩
      have e4 := e12.tr e3
      refine ⟨_, rfl, a, rfl, ⟨xs, SqL.of (e4 _ _ ha)⟩, fun D hD => ?_⟩
      refine lc_map walk_list hD ((rs.map (·.2)).map iD) (by rw [List.length_map, List.length_map, xl]) (by rw [xl, sizeLine_eq]; omega) (noLs_tab _) (fun H e => SqL.of (e _ _ (e4 _ _ ha))) ?_ ?_
      · intro i x H5 H5' d Post hi e5 y hd k
        obtain ⟨rfl, hx⟩ := y
        obtain ⟨d0, h0, r0⟩ := RAll.get ra hx
        obtain ⟨pr, hp, rfl⟩ := rowsD_at h0
        have ed : d = iD pr.2 := by
          rw [List.getElem?_map, List.getElem?_map, hp] at hd
          exact (Option.some.inj hd).symm
        obtain ⟨a1, xs1, rfl, _, ra1, _, ha1⟩ := r_sq (K := K) r0
        have e6 := e4.tr e5
        refine ⟨rfl, _, rfl, tuple_sq (e6 _ _ ha1) (ra1.ex e6) fun v H' e r' => k _ _ e ?_⟩
        rw [ed]
        exact r'
      · intro acc H5 e5 h5 r5
        exact tuple_sq (b := true) h5 r5 fun v H' e r' => q _ _ (e4.tr (e5.tr e)) r'
end
end Onew
end
section
set_option maxRecDepth 100000
set_option maxHeartbeats 4000000
namespace Onew
open PySem PySem.Spec PyProof.Rows L2 G
structure TxE (P : Program) (K : PySem.W.Frag) (mg : Str → Option Value) (CR CN CF CT : Addr) : Prop where
  re : ∃ fI, PySem.GX.ExcT P K mg "Refused" ["at"] "ValueError" "ValueError.__new__" "ValueError.__init__" "ValueError" "ValueError.__init__" CR fI
  no : ∃ fI, PySem.GX.ExcT P K mg "NoState" ["state"] "LookupError" "LookupError.__new__" "LookupError.__init__" "KeyError" "KeyError.__init__" CN fI
  fo : ∃ fI, PySem.GX.ExcT P K mg "Forgets" ["deed", "one", "other"] "ValueError" "ValueError.__new__" "ValueError.__init__" "ValueError" "ValueError.__init__" CF fI
  tg : ∃ fI, PySem.GX.ExcT P K mg "TooGreat" ["most"] "ValueError" "ValueError.__new__" "ValueError.__init__" "ValueError" "ValueError.__init__" CT fI
/-- the error of class C with the one field f = v -/
abbrev Rais (E : XK) (H : Hp) (C : Addr) (f : Str) (v : V) : Prop := ∀ d H', Ex H H' → H' d = some (.xd [(f, v)]) → E (.ref C) (some d) H'
theorem tk_own {P : Program} {w : World} {K : PySem.W.Frag} {mg : Str → Option Value} {base : Heap} {N : List Str} {qual : Str} {sc : Scope} {f : Addr} {cdv : Value} {A : Around} {outer : List Env} {s : Shared} {H : Hp} {E : XK} :
    Takes (cxOf (L2.CX P w) P w K mg base N qual sc f cdv A outer s H E) (fun cls d _ H => E cls d H) := takes_of rfl rfl rfl rfl
section
variable {P : Program} {w : World} {K : PySem.W.Frag} {mg : Str → Option Value} {base : Heap} {CM CC CR CN CF CT : Addr}
def spMIni (CM : Addr) : Sp := fun vs H Q _ => ∃ (x dx : Addr) (v : V) (rs : List (Bool × List Nat)) (m : Nat), vs = [.ref x, v] ∧ H x = some (.ins CM dx []) ∧ R H v (.list (rowsD rs)) ∧ 1 ≤ rs.length ∧ rs.length ≤ 4 ∧ 1 ≤ m ∧ m ≤ 8 ∧ (∀ p ∈ rs, p.2.length = m ∧ ∀ n ∈ p.2, n < m) ∧
  ∀ H', But x H H' → MachAt CM H' x (rs.map (·.2)) → Q .non H'
abbrev sMIni : Stmt := inClass (top 26) 0
theorem scMIni : FnScope ["self", "tables"] ["self", "tables"] (defScope sMIni) := ⟨rfl, rfl, rfl, by decide +kernel, rfl, by decide +kernel, by decide +kernel⟩
theorem ok_mini {f : Addr} {fd : FuncData} (F : Fun K "__init__" "Machine.__init__" sMIni f fd) (T : Txt K mg) (TC : TxC K mg CM CC) (D_check_tables : Def P w K mg base 5 "check_tables" ["value"] spChkT) :
    FnOk P w K mg base (L2.CX P w) 6 f fd ["self", "tables"] (spMIni CM) := by
  refine F.okX scMIni (fun vs H Q E h => ?_) (fun cdv A outer s H vs Q E hr h => ?_)
  · obtain ⟨x, dx, v, rs, m, rfl, _⟩ := h
    rfl
  · obtain ⟨x, dx, v, rs, m, rfl, hx, r, l1, l4, m1, m8, hb, q⟩ := h
    refine ⟨_, (pss_cons (ps_fld (pv 0) (pcall D_check_tables hr (by decide) (pa_cons (pv 1) pa_nil)) rfl)
      (pss_cons (ps_fld (pv 0) (pe_callB call_len_seq (by rfl) (T.no "len" (by decide)) boot_len (pa_cons (pe_fld (pv 0) rfl) pa_nil)) rfl)
      (pss_one (ps_fld (pv 0) (pe_callB call_len_seq (by rfl) (T.no "len" (by decide)) boot_len (pa_cons (pe_ix ix_tup (pe_fld (pv 0) rfl) pe_int (fun _ _ => rfl)) pa_nil)) rfl)))), ?_⟩
    refine ⟨_, rfl, v, rs, m, rfl, r, l1, l4, m1, m8, hb, fun v1 H1 e1 r1 => ⟨_, rfl, x, CM, dx, [], rfl, e1 _ _ hx, TC.clM, TC.nM _ (by decide), by show 0 < 1000; decide, ?_⟩⟩
    cases hr1 : r1 with
    | @tup t xs _ h1 rt =>
    have nx : t ≠ x := fun z => by rw [z, e1 _ _ hx] at h1; cases h1
    have xl : xs.length = rs.length := by rw [rt.length, List.length_map, List.length_map]
    have b1 : But x H (upd H1 x (.ins CM dx (putF "tables" (.ref t) []))) := (Ex.but e1).tr But.upd
    have ht : (upd H1 x (.ins CM dx (putF "tables" (.ref t) []))) t = some (.tup xs) := by rw [upd_ne nx]; exact h1
    refine ⟨_, rfl, _, _, _, _, _, rfl, upd_same, TC.clM, TC.nM _ (by decide), by rw [lookup_putF, if_pos rfl], t, xs, rfl, .inr (SqT.of ht), _, rfl, x, CM, dx, _, rfl, upd_same, TC.clM, TC.nM _ (by decide), by show 1 < 1000; decide, ?_⟩
    obtain ⟨p0, hp0⟩ : ∃ p, rs[0]? = some p := ⟨rs[0]'(by omega), List.getElem?_eq_getElem (by omega)⟩
    obtain ⟨v0, hv0, r0⟩ := RAll.at rt (i := 0) (d := iD p0.2) (by rw [List.getElem?_map, List.getElem?_map, hp0]; rfl)
    obtain ⟨a0, rfl, h0⟩ := r_i r0
    have n0 : a0 ≠ x := fun z => by rw [z, e1 _ _ hx] at h0; cases h0
    have at0 : atI xs 0 = some (.ref a0) := atI_nat hv0
    refine ⟨_, rfl, _, _, _, _, _, rfl, upd_same, TC.clM, TC.nM _ (by decide), by rw [lookup_putF, if_neg (by decide +kernel), lookup_putF, if_pos rfl], _, _, _, _, rfl, rfl, SqT.of (by rw [upd_ne nx]; exact ht), at0, _, _, rfl, .inr (SqT.of (by rw [upd_ne n0, upd_ne n0]; exact h0)), ?_⟩
    refine ⟨_, rfl, x, CM, dx, _, rfl, upd_same, TC.clM, TC.nM _ (by decide), by show 2 < 1000; decide, q _ ((b1.tr But.upd).tr But.upd) ⟨dx, t, ?_, ?_⟩⟩
    · rw [upd_same, xl, nV_len]
      have : ((rs.map (·.2)).headD []).length = p0.2.length := by
        cases rs with
        | nil => cases hp0
        | cons r rs => cases hp0; rfl
      rw [this, List.length_map]
      rfl
    · have tx : Tx H1 (upd (upd (upd H1 x (.ins CM dx (putF "tables" (.ref t) []))) x (.ins CM dx (putF "deeds" (.int (xs.length : Nat)) (putF "tables" (.ref t) [])))) x (.ins CM dx (putF "states" (.int ((nV p0.2).length : Nat)) (putF "deeds" (.int (xs.length : Nat)) (putF "tables" (.ref t) []))))) :=
        ((But.upd.tr But.upd).tr But.upd).tx (e1 _ _ hx) (fun xs z => by cases z)
      exact R.tx tx _ _ (noLs_tab _) r1
end
end Onew
end
section
set_option maxRecDepth 100000
set_option maxHeartbeats 4000000
namespace Onew
open PySem PySem.Spec PyProof.Rows L2 G
section
variable {P : Program} {w : World} {K : PySem.W.Frag} {mg : Str → Option Value} {base : Heap} {CM CC CR CN CF CT : Addr}
def mst (ts : List (List Nat)) : Nat := (ts.headD []).length
def spNState (CM CN : Addr) : Sp := fun vs H Q E => ∃ (p : Addr) (v : V) (d : PyData) (ts : List (List Nat)), vs = [.ref p, v] ∧ MachAt CM H p ts ∧ R H v d ∧ (belowD (mst ts) d = true → Q v H) ∧ (belowD (mst ts) d = false → Rais E H CN "state" v)
abbrev sNState : Stmt := top 27
theorem scNState : FnScope ["machine", "state"] ["machine", "state"] (defScope sNState) := ⟨rfl, rfl, rfl, by decide +kernel, rfl, by decide +kernel, by decide +kernel⟩
theorem ok_nstate {f : Addr} {fd : FuncData} (F : Fun K "need_state" "need_state" sNState f fd) (T : Txt K mg) (TC : TxC K mg CM CC) (TE : TxE P K mg CR CN CF CT) (D_is_below : Def P w K mg base 3 "is_below" ["value", "most"] spIsBel) :
    FnOk P w K mg base (L2.CX P w) 4 f fd ["machine", "state"] (spNState CM CN) := by
  obtain ⟨fI, xN⟩ := TE.no
  refine F.okX scNState (fun vs H Q E h => ?_) (fun cdv A outer s H vs Q E hr h => ?_)
  · obtain ⟨p, v, d, ts, rfl, _⟩ := h
    rfl
  · obtain ⟨p, v, d, ts, rfl, ⟨dx, t, hp, rt⟩, r, q1, q2⟩ := h
    refine ⟨_, (pss_cons (ps_if (pt_not (pt_val (pcall D_is_below hr (by decide) (pa_cons (pv 1) (pa_cons (pe_fld (pv 0) rfl) pa_nil))))) (pss_one (ps_raiseX (W := fun cls d _ H => E cls d H) rfl xN hr tk_own (pa_cons (pv 1) pa_nil))) pss_nil)
      (pss_one (ps_ret (pv 1)))), ?_⟩
    refine ⟨_, rfl, _, rfl, p, CM, dx, _, _, rfl, hp, TC.clM, TC.nM _ (by decide), mf_states _ _ _, v, d, _, rfl, r, _, rfl, ?_⟩
    have q1' : belowD ((ts.headD []).length : Nat) d = true → Q v H := q1
    cases e : belowD ((ts.headD []).length : Nat) d with
    | true => exact itF rfl ⟨_, rfl, q1' e⟩
    | false => exact itT rfl ⟨_, rfl, rfl, fun d2 h2 => q2 e _ _ (Ex.new h2) upd_same⟩
def spNFit (CM CC CR : Addr) : Sp := fun vs H Q E => ∃ (p c : Addr) (ts : List (List Nat)) (ns es : List Nat), vs = [.ref p, .ref c] ∧ MachAt CM H p ts ∧ CounAt CC H c ns es ∧ (ns.length = ts.length → Q (.ref c) H) ∧ (ns.length ≠ ts.length → Rais E H CR "at" (.ref c))
abbrev sNFit : Stmt := top 22
theorem scNFit : FnScope ["machine", "counters"] ["machine", "counters"] (defScope sNFit) := ⟨rfl, rfl, rfl, by decide +kernel, rfl, by decide +kernel, by decide +kernel⟩
theorem ok_nfit {f : Addr} {fd : FuncData} (F : Fun K "need_fit" "need_fit" sNFit f fd) (T : Txt K mg) (TC : TxC K mg CM CC) (TE : TxE P K mg CR CN CF CT) :
    FnOk P w K mg base (L2.CX P w) 2 f fd ["machine", "counters"] (spNFit CM CC CR) := by
  obtain ⟨fI, xR⟩ := TE.re
  refine F.okX scNFit (fun vs H Q E h => ?_) (fun cdv A outer s H vs Q E hr h => ?_)
  · obtain ⟨p, c, ts, ns, es, rfl, _⟩ := h
    rfl
  · obtain ⟨p, c, ts, ns, es, rfl, ⟨dx, t, hp, rt⟩, ⟨dy, r, q, hc, rr, rq⟩, q1, q2⟩ := h
    refine ⟨_, (pss_cons (ps_if (pt_cmpR op_ne (pe_callB call_len_seq (by rfl) (T.no "len" (by decide)) boot_len (pa_cons (pe_fld (pv 1) rfl) pa_nil)) (pe_fld (pv 0) rfl) (nomark _)) (pss_one (ps_raiseX (W := fun cls d _ H => E cls d H) rfl xR hr tk_own (pa_cons (pv 1) pa_nil))) pss_nil)
      (pss_one (ps_ret (pv 1)))), ?_⟩
    obtain ⟨r', er, hr'⟩ := r_i rr
    cases er
    refine ⟨_, rfl, _, _, _, _, _, rfl, hc, TC.clC, TC.nC _ (by decide), cf_rounds _ _, _, _, rfl, .inr (SqT.of hr'), _, rfl, _, _, _, _, _, rfl, hp, TC.clM, TC.nM _ (by decide), mf_deeds _ _ _, rfl, _, rfl, ?_⟩
    rw [nV_len]
    by_cases e : ns.length = ts.length
    · exact itF (by rw [e]; simp) ⟨_, rfl, q1 e⟩
    · refine itT (by simp; omega) ⟨_, rfl, rfl, fun d2 h2 => q2 e _ _ (Ex.new h2) upd_same⟩
def spNRou (CC CR : Addr) : Sp := fun vs H Q E => ∃ (c : Addr) (ns es : List Nat), vs = [.ref c] ∧ CounAt CC H c ns es ∧ ns.length ≤ 4 ∧ es.length ≤ 4 ∧ ((0 ∉ ns ∧ ∀ e ∈ es, e = 0) → ∀ H', Ex H H' → Q (.ref c) H') ∧ (¬ (0 ∉ ns ∧ ∀ e ∈ es, e = 0) → Rais E H CR "at" (.ref c))
abbrev sNRou : Stmt := top 32
theorem scNRou : FnScope ["counters", "rest"] ["counters"] (defScope sNRou) := ⟨rfl, rfl, rfl, by decide +kernel, rfl, by decide +kernel, by decide +kernel⟩
theorem in_n {n : Nat} : ∀ ns : List Nat, inV (.int (n : Nat)) (nV ns) = decide (n ∈ ns)
  | [] => rfl
  | m :: ns => by
    have ih := in_n (n := n) ns
    unfold inV at ih ⊢
    rw [show nV (m :: ns) = .int (m : Nat) :: nV ns from rfl, List.any_cons, ih]
    by_cases h : n = m
    · subst h; simp [eqV]
    · have : ¬ ((m : Int) = (n : Int)) := by omega
      simp [eqV, h, Ne.symm h]
      omega
theorem flat_n (ns : List Nat) : (nV ns).all flatV = true := by
  unfold nV; rw [List.all_map]; simp [flatV]
theorem ok_nrou {f : Addr} {fd : FuncData} (F : Fun K "need_rounds" "need_rounds" sNRou f fd) (T : Txt K mg) (TC : TxC K mg CM CC) (TE : TxE P K mg CR CN CF CT) :
    FnOk P w K mg base (L2.CX P w) 2 f fd ["counters"] (spNRou CC CR) := by
  obtain ⟨fI, xR⟩ := TE.re
  refine F.okX scNRou (fun vs H Q E h => ?_) (fun cdv A outer s H vs Q E hr h => ?_)
  · obtain ⟨c, ns, es, rfl, _⟩ := h
    rfl
  · obtain ⟨c, ns, es, rfl, ⟨dy, r, q, hc, rr, rq⟩, l1, l2, q1, q2⟩ := h
    have nd := scNRou.nd
    refine ⟨_, (pss_cons (ps_if ((pw_or (pt_cmpR op_in_seq pe_int (pe_fld (pv 0) rfl) (by rfl)) (pw_or1 (pt_val (pe_callB (cr_any rfl) (by rfl) (T.no "any" (by decide)) boot_any (pa_cons (pe_lc (own := [("rest", 1)]) (g := gName 1) (tt := tYes) rfl nd (pi_tup (pe_fld (pv 0) rfl)) (blkOk_by (N := ["counters", "rest"]) (sc := defScope sNRou) (by decide +kernel)) (fun _ _ _ _ _ => (pg_name (i := 1) nd rfl (Or.inl rfl))) (fun _ _ _ _ _ => pts_nil) (fun _ _ _ _ _ => (pe_cmpR op_gt (pv 1) pe_int (nomark _)))) pa_nil)))))).pt (pss_one (ps_raiseX (W := fun cls d _ H => E cls d H) rfl xR hr tk_own (pa_cons (pv 0) pa_nil))) pss_nil)
      (pss_one (ps_ret (pv 0)))), ?_⟩
    obtain ⟨r', er, hr'⟩ := r_i rr
    cases er
    obtain ⟨q', eq, hq'⟩ := r_i rq
    cases eq
    refine ⟨_, rfl, _, _, _, _, _, rfl, hc, TC.clC, TC.nC _ (by decide), cf_rounds _ _, _, _, rfl, .inr (SqT.of hr'), rfl, flat_n _, _, rfl, ?_⟩
    rw [if_neg Bool.false_ne_true, show inV (.int 0) (nV ns) = decide (0 ∈ ns) from in_n (n := 0) ns]
    by_cases h0 : 0 ∈ ns
    · exact itT (dT h0) (itT rfl ⟨_, rfl, rfl, fun d2 h2 => q2 (fun z => z.1 h0) _ _ (Ex.new h2) upd_same⟩)
    · refine itF (decide_eq_false h0) ?_
      refine ⟨_, rfl, _, _, _, _, _, rfl, hc, TC.clC, TC.nC _ (by decide), cf_rests _ _, _, rfl, ⟨_, SqT.of hq'⟩, fun D hD => ?_⟩
      refine lc_map walk_tup hD ((es.map fun n => decide (0 < n)).map PyData.bool) (by rw [List.length_map, List.length_map, nV_len]) (by rw [nV_len, sizeLine_eq]; omega) (noLs_bools _) (fun H' e => SqT.of (e _ _ hq')) ?_ ?_
      · intro i x H2 H2' d Post hi e2 y hd k
        obtain ⟨rfl, hx⟩ := y
        unfold nV at hx
        rw [List.getElem?_map] at hx
        cases en : es[i]? with
        | none => rw [en] at hx; cases hx
        | some n =>
        rw [en] at hx
        cases hx
        have ed : d = .bool (decide (0 < n)) := by
          rw [List.getElem?_map, List.getElem?_map, en] at hd
          exact (Option.some.inj hd).symm
        refine ⟨rfl, _, rfl, _, _, rfl, rfl, k _ _ Ex.rfl' ?_⟩
        rw [ed]
        show R H2' (.bl (decide ((0 : Int) < (n : Nat)))) _
        rw [show decide ((0 : Int) < (n : Nat)) = decide (0 < n) by simp]
        exact .bl _
      · intro acc H2 e2 h2 r2
        refine ⟨_, _, rfl, SqL.of (by rw [h2, RAll.ofBools r2]), _, rfl, ?_⟩
        by_cases hz : ∀ e ∈ es, e = 0
        · refine itF ?_ ⟨_, rfl, q1 ⟨h0, hz⟩ _ e2⟩
          simp only [List.any_map, List.any_eq_false]
          intro e he
          simp [hz e he]
        · refine itT ?_ ⟨_, rfl, rfl, fun d2 h2 => q2 (fun z => hz z.2) _ _ (e2.tr (Ex.new h2)) upd_same⟩
          simp only [List.any_map, List.any_eq_true]
          by_cases hex : ∃ e ∈ es, 0 < e
          · obtain ⟨e, h1, h2⟩ := hex
            exact ⟨e, h1, by simp [h2]⟩
          · refine absurd (fun e he => ?_) hz
            by_cases h : e = 0
            · exact h
            · exact absurd ⟨e, he, by omega⟩ hex
end
end Onew
end
section
set_option maxHeartbeats 4000000
/-! the plain mathematics: tables, what is reached -/
namespace Mx
abbrev Tab := List (List Nat)
/-- the states -/
def mst (ts : Tab) : Nat := (ts.headD []).length
/-- the image of s under the row t -/
def im (t : List Nat) (s : Nat) : Nat := t.getD s 0
structure Ok (ts : Tab) : Prop where
  l1 : 1 ≤ ts.length
  l4 : ts.length ≤ 4
  m1 : 1 ≤ mst ts
  m8 : mst ts ≤ 8
  row : ∀ t ∈ ts, t.length = mst ts ∧ ∀ n ∈ t, n < mst ts
theorem Ok.im {ts : Tab} (o : Ok ts) {t : List Nat} (h : t ∈ ts) {s : Nat} (hs : s < mst ts) : t[s]? = some (im t s) ∧ im t s < mst ts := by
  obtain ⟨a, b⟩ := o.row t h
  have e : t[s]? = some t[s] := List.getElem?_eq_getElem (by omega)
  have e2 : Mx.im t s = t[s] := by unfold Mx.im; rw [List.getD_eq_getElem?_getD, e]; rfl
  exact ⟨by rw [e, e2], by rw [e2]; exact b _ (List.getElem_mem _)⟩
inductive Rch (ts : Tab) (f : Nat) : Nat → Prop
  | base : Rch ts f f
  | step {s : Nat} {t : List Nat} : Rch ts f s → t ∈ ts → Rch ts f (im t s)
theorem Rch.lt {ts : Tab} (o : Ok ts) {f x : Nat} (hf : f < mst ts) (h : Rch ts f x) : x < mst ts := by
  induction h with
  | base => exact hf
  | step _ ht ih => exact (o.im ht ih).2
/-- one row more -/
def add (m : Nat) (S : List Nat) (t : List Nat) : List Nat := (List.range m).filter fun n => S.contains n || S.any fun s => im t s == n
theorem mem_add {m : Nat} {S : List Nat} {t : List Nat} {x : Nat} : x ∈ add m S t ↔ x < m ∧ (x ∈ S ∨ ∃ s ∈ S, im t s = x) := by
  unfold add
  rw [List.mem_filter, List.mem_range]
  simp
theorem add_sorted (m : Nat) (S t : List Nat) : (add m S t).Pairwise (· < ·) := List.Pairwise.filter _ List.pairwise_lt_range
def rnd (m : Nat) (ts : Tab) (S : List Nat) : List Nat := ts.foldl (add m) S
def iter (f : List Nat → List Nat) : Nat → List Nat → List Nat
  | 0, S => S
  | n + 1, S => iter f n (f S)
/-- what is reached -/
def rl (ts : Tab) (f : Nat) : List Nat := iter (rnd (mst ts) ts) (mst ts) [f]
theorem asc_eq : ∀ {a b : List Nat}, a.Pairwise (· < ·) → b.Pairwise (· < ·) → (∀ x, x ∈ a ↔ x ∈ b) → a = b
  | [], [], _, _, _ => rfl
  | [], y :: b, _, _, h => absurd ((h y).mpr (.head _)) (by simp)
  | x :: a, [], _, _, h => absurd ((h x).mp (.head _)) (by simp)
  | x :: a, y :: b, ha, hb, h => by
    rw [List.pairwise_cons] at ha hb
    have e : x = y := by
      rcases List.mem_cons.mp ((h x).mp (.head _)) with e | e
      · exact e
      rcases List.mem_cons.mp ((h y).mpr (.head _)) with e2 | e2
      · exact e2.symm
      have := hb.1 x e
      have := ha.1 y e2
      omega
    subst e
    rw [asc_eq ha.2 hb.2 fun z => ?_]
    constructor
    · intro hz
      rcases List.mem_cons.mp ((h z).mp (.tail _ hz)) with e | e
      · subst e; exact absurd (ha.1 z hz) (Nat.lt_irrefl _)
      · exact e
    · intro hz
      rcases List.mem_cons.mp ((h z).mpr (.tail _ hz)) with e | e
      · subst e; exact absurd (hb.1 z hz) (Nat.lt_irrefl _)
      · exact e
theorem rnd_sub {m : Nat} {x : Nat} : ∀ {ts : Tab} {S : List Nat}, (∀ s ∈ S, s < m) → x ∈ S → x ∈ rnd m ts S
  | [], _, _, h => h
  | t :: ts, S, hS, h => by
    show x ∈ rnd m ts (add m S t)
    exact rnd_sub (fun s hs => (mem_add.mp hs).1) (mem_add.mpr ⟨hS x h, .inl h⟩)
theorem rnd_lt {m : Nat} : ∀ {ts : Tab} {S : List Nat}, (∀ s ∈ S, s < m) → ∀ s ∈ rnd m ts S, s < m
  | [], _, h => h
  | t :: ts, S, h => rnd_lt (ts := ts) fun s hs => (mem_add.mp hs).1
theorem rnd_im {m : Nat} {x : Nat} : ∀ {ts : Tab} {S : List Nat} {t : List Nat}, (∀ s ∈ S, s < m) → (∀ t ∈ ts, ∀ s < m, im t s < m) → t ∈ ts → x ∈ S → im t x ∈ rnd m ts S
  | t' :: ts, S, t, hS, hi, ht, h => by
    show im t x ∈ rnd m ts (add m S t')
    have lt : ∀ s ∈ add m S t', s < m := fun s hs => (mem_add.mp hs).1
    rcases List.mem_cons.mp ht with rfl | ht
    · exact rnd_sub lt (mem_add.mpr ⟨hi t (.head _) x (hS x h), .inr ⟨x, h, rfl⟩⟩)
    · exact rnd_im lt (fun t h => hi t (.tail _ h)) ht (mem_add.mpr ⟨hS x h, .inl h⟩)
theorem rnd_rch {m : Nat} {as : Tab} {f x : Nat} : ∀ {ts : Tab} {S : List Nat}, (∀ t ∈ ts, t ∈ as) → (∀ s ∈ S, Rch as f s) → x ∈ rnd m ts S → Rch as f x
  | [], _, _, h, hx => h x hx
  | t :: ts, S, ht, h, hx => rnd_rch (ts := ts) (S := add m S t) (fun z hz => ht z (.tail _ hz)) (fun s hs => by
      rcases (mem_add.mp hs).2 with h1 | ⟨y, h1, rfl⟩
      · exact h s h1
      · exact .step (h y h1) (ht t (.head _))) hx
theorem rnd_sorted {m : Nat} : ∀ {ts : Tab} {S : List Nat}, S.Pairwise (· < ·) → (rnd m ts S).Pairwise (· < ·)
  | [], _, h => h
  | t :: ts, S, _ => rnd_sorted (ts := ts) (add_sorted m S t)
theorem iter_inv (P : List Nat → Prop) {f : List Nat → List Nat} (h : ∀ S, P S → P (f S)) : ∀ n S, P S → P (iter f n S)
  | 0, S, p => p
  | n + 1, S, p => iter_inv P h n (f S) (h S p)
theorem rl_sorted (ts : Tab) (f : Nat) : (rl ts f).Pairwise (· < ·) := iter_inv (fun S => S.Pairwise (· < ·)) (fun S h => rnd_sorted h) _ _ (by simp)
theorem nodup_asc {l : List Nat} (h : l.Pairwise (· < ·)) : l.Nodup := h.imp fun h => Nat.ne_of_lt h
/-- a sublist by members, duplicate-free -/
theorem len_le_of_sub {α : Type} [BEq α] [LawfulBEq α] : ∀ {a b : List α}, a.Nodup → (∀ x ∈ a, x ∈ b) → a.length ≤ b.length
  | [], _, _, _ => Nat.zero_le _
  | x :: a, b, ha, h => by
    rw [List.nodup_cons] at ha
    have hx : x ∈ b := h x (.head _)
    have l1 := len_le_of_sub (a := a) (b := b.erase x) ha.2 fun y hy => (List.mem_erase_of_ne (fun e => ha.1 (by rw [← e]; exact hy))).mpr (h y (.tail _ hy))
    rw [List.length_erase_of_mem hx] at l1
    have : 0 < b.length := List.length_pos_of_mem hx
    rw [List.length_cons]; omega
theorem sub_of_len {α : Type} [BEq α] [LawfulBEq α] {a b : List α} (ha : a.Nodup) (h : ∀ x ∈ a, x ∈ b) (hl : b.length ≤ a.length) (hb : b.Nodup) : ∀ x ∈ b, x ∈ a := by
  intro y hy
  by_cases hya : y ∈ a
  · exact hya
  · have l1 := len_le_of_sub (a := a) (b := b.erase y) ha fun x hx => (List.mem_erase_of_ne (fun e => hya (by rw [← e]; exact hx))).mpr (h x hx)
    rw [List.length_erase_of_mem hy] at l1
    have : 0 < b.length := List.length_pos_of_mem hy
    omega
theorem asc_len_eq {a b : List Nat} (ha : a.Pairwise (· < ·)) (hb : b.Pairwise (· < ·)) (h : ∀ x ∈ a, x ∈ b) (hl : b.length ≤ a.length) : a = b :=
  asc_eq ha hb fun x => ⟨h x, sub_of_len (nodup_asc ha) h hl (nodup_asc hb) x⟩
theorem iter_fix {f : List Nat → List Nat} {S : List Nat} (h : f S = S) : ∀ n, iter f n S = S
  | 0 => rfl
  | n + 1 => by show iter f n (f S) = S; rw [h]; exact iter_fix h n
/-- what grows within a bound stands still -/
theorem iter_still {f : List Nat → List Nat} {m : Nat} (P : List Nat → Prop) (hp : ∀ S, P S → P (f S)) (hg : ∀ S, P S → f S ≠ S → S.length < (f S).length) (hb : ∀ S, P S → S.length ≤ m) : ∀ n S, P S → m < n + S.length + 1 → f (iter f n S) = iter f n S
  | 0, S, p, h => by
    show f S = S
    by_cases e : f S = S
    · exact e
    · have a := hg S p e
      have b := hb (f S) (hp S p)
      omega
  | n + 1, S, p, h => by
    show f (iter f n (f S)) = iter f n (f S)
    by_cases e : f S = S
    · rw [e, iter_fix e, e]
    · exact iter_still P hp hg hb n (f S) (hp S p) (by have := hg S p e; omega)
theorem mem_rl {ts : Tab} (o : Ok ts) {f : Nat} (hf : f < mst ts) {x : Nat} : x ∈ rl ts f ↔ Rch ts f x := by
  have hi : ∀ t ∈ ts, ∀ s < mst ts, im t s < mst ts := fun t ht s hs => (o.im ht hs).2
  have inv := iter_inv (f := rnd (mst ts) ts) (fun S => (∀ s ∈ S, s < mst ts) ∧ (∀ s ∈ S, Rch ts f s) ∧ f ∈ S) (fun S h => ⟨rnd_lt h.1, fun s hs => rnd_rch (fun _ h => h) h.2.1 hs, rnd_sub h.1 h.2.2⟩) (mst ts) [f]
    ⟨fun s hs => by rw [List.mem_singleton.mp hs]; exact hf, fun s hs => by rw [List.mem_singleton.mp hs]; exact .base, .head _⟩
  refine ⟨inv.2.1 x, fun h => ?_⟩
  have st : rnd (mst ts) ts (rl ts f) = rl ts f := iter_still (m := mst ts) (fun S => (∀ s ∈ S, s < mst ts) ∧ S.Pairwise (· < ·)) (fun S h => ⟨rnd_lt h.1, rnd_sorted h.2⟩) (fun S h e => by
      have a := len_le_of_sub (nodup_asc h.2) (fun x hx => rnd_sub (ts := ts) h.1 hx)
      rcases Nat.lt_or_ge S.length (rnd (mst ts) ts S).length with q | q
      · exact q
      · exact absurd (asc_len_eq h.2 (rnd_sorted h.2) (fun x hx => rnd_sub (ts := ts) h.1 hx) q).symm e) (fun S h => by
      have a := len_le_of_sub (b := List.range (mst ts)) (nodup_asc h.2) (fun x hx => List.mem_range.mpr (h.1 x hx))
      rw [List.length_range] at a; exact a) (mst ts) [f] ⟨fun s hs => by rw [List.mem_singleton.mp hs]; exact hf, by simp⟩ (by simp; omega)
  have cl : ∀ s ∈ rl ts f, ∀ t ∈ ts, im t s ∈ rl ts f := fun s hs t ht => by
    have := rnd_im (ts := ts) inv.1 hi ht hs
    rw [show rnd (mst ts) ts (iter (rnd (mst ts) ts) (mst ts) [f]) = rl ts f from st] at this
    exact this
  induction h with
  | base => exact inv.2.2
  | step _ ht ih => exact cl _ ih _ ht
/-- a closed set of reached states with the first is all -/
theorem rl_of {ts : Tab} (o : Ok ts) {f : Nat} (hf : f < mst ts) {S : List Nat} (hr : ∀ s ∈ S, Rch ts f s) (h0 : f ∈ S) (hc : ∀ s ∈ S, ∀ t ∈ ts, im t s ∈ S) (x : Nat) : x ∈ S ↔ x ∈ rl ts f := by
  rw [mem_rl o hf]
  refine ⟨hr x, fun h => ?_⟩
  induction h with
  | base => exact h0
  | step _ ht ih => exact hc _ ih _ ht
theorem rl_first {ts : Tab} (o : Ok ts) {f : Nat} (hf : f < mst ts) : f ∈ rl ts f := (mem_rl o hf).mpr .base
theorem rl_lt {ts : Tab} (o : Ok ts) {f : Nat} (hf : f < mst ts) {x : Nat} (h : x ∈ rl ts f) : x < mst ts := ((mem_rl o hf).mp h).lt o hf
theorem rl_im {ts : Tab} (o : Ok ts) {f : Nat} (hf : f < mst ts) {x : Nat} {t : List Nat} (h : x ∈ rl ts f) (ht : t ∈ ts) : im t x ∈ rl ts f := (mem_rl o hf).mpr (.step ((mem_rl o hf).mp h) ht)
theorem rl_len {ts : Tab} (o : Ok ts) {f : Nat} (hf : f < mst ts) : (rl ts f).length ≤ mst ts := by
  have a := len_le_of_sub (b := List.range (mst ts)) (nodup_asc (rl_sorted ts f)) (fun x hx => List.mem_range.mpr (rl_lt o hf hx))
  rw [List.length_range] at a; exact a
end Mx
end
section
set_option maxRecDepth 100000
set_option maxHeartbeats 4000000
namespace G
open PySem PySem.Spec PyProof.Rows L2
section
variable {K : PySem.W.Frag} {H : Hp} {Q : VK} {a : Addr} {xs : List V}
theorem sl_from {lo : Nat} (h : H a = some (.tup xs)) (q : ∀ p H', Ex H H' → H' p = some (.tup (xs.drop lo)) → Q (.ref p) H') : rSlA K (.ref a) (some (lo : Int)) none H Q := by
  refine ⟨a, xs, rfl, SqT.of h, fun c => ?_, fun _ p hp => q _ _ (Ex.new hp) ?_⟩
  · refine q _ _ Ex.rfl' ?_
    rw [HT.sIx_nat] at c
    by_cases e : lo = 0
    · rw [e, List.drop_zero]; exact h
    · have : xs.length = 0 := by omega
      rw [List.drop_of_length_le (by omega), h, List.eq_nil_of_length_eq_zero this]
  · rw [upd_same]
    unfold cutV
    rw [HT.sIx_nat, HT.sIx_none]
    rw [List.take_of_length_le (by rw [List.length_drop]; omega)]
    by_cases e : lo ≤ xs.length
    · rw [Nat.min_eq_left e]
    · rw [Nat.min_eq_right (by omega), List.drop_length, List.drop_of_length_le (by omega)]
theorem sl_to {hi : Nat} (h : H a = some (.tup xs)) (q : ∀ p H', Ex H H' → H' p = some (.tup (xs.take hi)) → Q (.ref p) H') : rSlA K (.ref a) none (some (hi : Int)) H Q := by
  refine ⟨a, xs, rfl, SqT.of h, fun c => ?_, fun _ p hp => q _ _ (Ex.new hp) ?_⟩
  · refine q _ _ Ex.rfl' ?_
    rw [HT.sIx_nat] at c
    rw [List.take_of_length_le (by omega)]; exact h
  · rw [upd_same]
    unfold cutV
    rw [HT.sIx_nat, HT.sIx_none, List.drop_zero, Nat.sub_zero]
    by_cases e : hi ≤ xs.length
    · rw [Nat.min_eq_left e]
    · rw [Nat.min_eq_right (by omega), List.take_length, List.take_of_length_le (by omega)]
theorem cat_tup {b : Addr} {ys : List V} (h1 : H a = some (.tup xs)) (h2 : H b = some (.tup ys)) (hz : xs.length + ys.length ≤ sizeLine) (q : ∀ p H', Ex H H' → H' p = some (.tup (xs ++ ys)) → Q (.ref p) H') : rCatA K (.ref a) (.ref b) H Q := by
  refine ⟨a, b, xs, ys, rfl, rfl, SqT.of h1, SqT.of h2, hz, fun e => q _ _ Ex.rfl' (by rw [e]; exact h2), fun _ e => q _ _ Ex.rfl' (by rw [e, List.append_nil]; exact h1), fun _ _ p hp => q _ _ (Ex.new hp) upd_same⟩
end
end G
end
section
set_option maxRecDepth 100000
set_option maxHeartbeats 4000000
namespace G
open PySem PySem.Spec PyProof.Rows L2
section
variable {X : Cx}
/-- t.index(k), ints, k within -/
def rTIdx (K : PySem.W.Frag) : V → List V → Hp → VK → Prop := fun x xs H Q => ∃ (a : Addr) (ns : List Int) (k : Int), x = .ref a ∧ xs = [.int k] ∧ SqT K H a (ns.map V.int) ∧ k ∈ ns ∧ Q (.int (ns.idxOf k : Nat)) H
theorem mt_tidx : MtR X "tuple.index" (rTIdx X.K) := by
  intro pins s σ H x xs v us Q I rx rxs h
  obtain ⟨a, ns, k, rfl, rfl, hs, hk, q⟩ := h
  cases rx
  cases rxs with
  | cons ry rt =>
    cases rt
    obtain ⟨t, rfl⟩ := ry
    obtain ⟨its, rv, hl, hlen⟩ := I.tuple hs
    exact PySem.SeqAt.tuple_index_ints (vs := its) hl rv.ints hk ⟨.int _, H, I.tok _, ⟨_, rfl⟩, q⟩
/-- xs.index(k), ints, k within -/
def rLIdx (K : PySem.W.Frag) : V → List V → Hp → VK → Prop := fun x xs H Q => ∃ (a : Addr) (ns : List Int) (k : Int), x = .ref a ∧ xs = [.int k] ∧ SqL K H a (ns.map V.int) ∧ k ∈ ns ∧ Q (.int (ns.idxOf k : Nat)) H
theorem mt_lidx : MtR X "list.index" (rLIdx X.K) := by
  intro pins s σ H x xs v us Q I rx rxs h
  obtain ⟨a, ns, k, rfl, rfl, hs, hk, q⟩ := h
  cases rx
  cases rxs with
  | cons ry rt =>
    cases rt
    obtain ⟨t, rfl⟩ := ry
    obtain ⟨its, rv, hl, hlen⟩ := I.list hs
    exact PySem.SeqAt.list_index_ints (vs := its) hl.isList rv.ints (by rw [List.length_map] at hlen; exact hlen) hk ⟨.int _, H, I.tok _, ⟨_, rfl⟩, q⟩
end
end G
end
section
set_option maxRecDepth 100000
set_option maxHeartbeats 4000000
namespace G
open PySem PySem.Spec PyProof.Rows L2
theorem noLs_mapT {α : Type} {out : α → PyData} {pr : α → Bool} : ∀ {l : List α}, (∀ d ∈ l, noL (out d) = true) → noLs ((l.filter pr).map out) = true
  | [], _ => rfl
  | d :: l, h => by
    have ih := noLs_mapT (pr := pr) (l := l) fun z hz => h z (.tail _ hz)
    rw [List.filter_cons]
    split
    · simp only [List.map_cons, noLs, Bool.and_eq_true]; exact ⟨h d (.head _), ih⟩
    · exact ih
/-- [f(x) for x in xs if p(x)], told by things of a type -/
theorem lc_filtT {α : Type} {J : It} {n : Nat} {C : Hp → Prop} {Y : Nat → Hp → V → Hp → Prop} (Wk : Walk J n C Y) {g : TG} {tt : TT} {te : TE} {vs : List Nat} {σ : L2.St} {H1 : Hp} {D : Addr} {Qd : Hp → Prop} (hD : H1 D = none) (W : List α) (out : α → PyData) (pr : α → Bool) (hn : W.length = n) (hz : n ≤ sizeLine)
    (hl : ∀ d ∈ W, noL (out d) = true) (hC : ∀ H, Ex H1 H → C H)
    (step : ∀ i x H H' d (Post : VK) (Pf : Hp → Prop), i < n → Ex H1 H → Y i H x H' → W[i]? = some d → (pr d = true → ∀ y H4, Ex H H4 → R H4 y (out d) → Post y H4) → (pr d = false → ∀ H3, Ex H H3 → Pf H3) → g x (wipe σ vs) H' fun σ2 H2 => wipe σ2 vs = wipe σ vs ∧ tt σ2 H2 fun b H3 => if b = true then te σ2 H3 Post else Pf H3)
    (done : ∀ acc H, Ex H1 H → H D = some (.lst acc) → RAll H acc ((W.filter pr).map out) → Qd H) :
    ∃ Wm : Nat → Nat → Hp → Prop, (∃ m, Wm 0 m (upd H1 D (.lst []))) ∧ ∀ i m H, Wm i m H →
      (J.stop i H ∧ Qd H) ∨ (J.go i H ∧ ∃ Nx : Hp → Prop, (∀ H', Nx H' → ∃ m', m' < m ∧ Wm (i + 1) m' H') ∧ ∀ x H', J.yld i H x H' → g x (wipe σ vs) H' fun σ2 H2 => wipe σ2 vs = wipe σ vs ∧ tt σ2 H2 fun b H3 =>
        if b = true then te σ2 H3 fun y H4 => ∃ acc, H4 D = some (.lst acc) ∧ acc.length < sizeLine ∧ Nx (upd H4 D (.lst (acc ++ [y]))) else Nx H3) := by
  refine lc_grow Wk hD (fun i acc H => RAll H acc (((W.take i).filter pr).map out)) (fun i acc H H' t p => RAll.tx t _ _ (noLs_mapT fun d hd => hl d (List.mem_of_mem_take hd)) p) .nil hC ?_ (fun acc H e hd p => done acc H e hd (by rw [← hn, List.take_length] at p; exact p))
  intro i x H H' acc Nx hi e p y k1 k2
  obtain ⟨d, hd⟩ : ∃ d, W[i]? = some d := ⟨W[i]'(by omega), List.getElem?_eq_getElem (by omega)⟩
  refine step i x H H' d (fun y H4 => ∃ acc, H4 D = some (.lst acc) ∧ acc.length < sizeLine ∧ Nx (upd H4 D (.lst (acc ++ [y])))) Nx hi e y hd ?_ ?_
  · intro hp y H4 e4 r4
    refine k1 y H4 e4 ?_ ?_
    · rw [p.length, List.length_map]
      have a1 := List.length_filter_le pr (W.take i)
      rw [List.length_take] at a1; omega
    · rw [takeNx hd, List.filter_append, List.filter_cons, if_pos hp, List.filter_nil, List.map_append]
      exact RAll.app (p.ex e4) (RAll.one r4)
  · intro hp H3 e3
    refine k2 H3 e3 ?_
    rw [takeNx hd, List.filter_append, List.filter_cons, if_neg (by rw [hp]; exact Bool.false_ne_true), List.filter_nil, List.append_nil]
    exact p.ex e3
section
variable {X : Cx}
theorem swD {kx vx : Expr} {gs : List Comprehension} {scope : Scope} {pos py : Pos} {y : Str} {l : Nat} {env : Env} (hk : env.scope.kind = .function) (hy : env.scope.names.lookup y = some .local) (hl : (py.line == pos.line) = true)
    (ha : (scope.names.any fun (n, k) => n == y && (k == .local || k == .cell)) = false) : swapsWith (.DictComp kx vx gs scope pos) (some (.Name y py)) l env = pure true := by
  have k1 : env.kindOf y = some .local := hy
  have k2 : env.blockKind = .function := by unfold Env.blockKind; rw [hk]; rfl
  unfold swapsWith
  simp only [k2, k1, ha, Expr.pos, hl]
  rfl
/-- y = {k: v for ..}, y a local name on the same line -/
theorem ps_setDcN {i : Nat} {y : Str} {py : Pos} {kx vx tg iter : Expr} {scope : Scope} {own : List (Str × Nat)} {pos spos : Pos} {wi : TI} {g : TG} {tk tv : TE} (hu : X.A.units + 64 < cLine) (hc : X.calm = true) (hN : X.N.Nodup) (hy : X.N[i]? = some y) (hyl : X.env.scope.names.lookup y = some .local)
    (hsw : swapsWith (.DictComp kx vx [⟨tg, iter, [], 0⟩] scope pos) (some (.Name y py)) spos.line X.env = pure true) (hi : PI X tg iter wi) (ok : BlkOk X.N X.env.scope scope own)
    (hg : ∀ s H C cl fp, PG (X.blk s H scope (compEnvC scope cl C X.env) fp) tg g) (hk : ∀ s H C cl fp, PE (X.blk s H scope (compEnvC scope cl C X.env) fp) kx tk)
    (hv : ∀ s H C cl fp, PE (X.blk s H scope (compEnvC scope cl C X.env) fp) vx tv) (hs : ∀ x, foldedSetIterable iter X.env x = pure x := by intro _; rfl) :
    PS X (.Assign [.Name y py] (.DictComp kx vx [⟨tg, iter, [], 0⟩] scope pos) spos) (tAsg (tDcN X.prog X.w wi g tk tv (own.map (·.2))) (gName i)) := by
  refine ⟨fun pins s σ H D I h => ?_⟩
  rw [exec_Assign_Name_used _ _ _ _ hsw]
  refine wpAny_bind (wpAny_standAt (wpAny_bind ?_))
  show wpAny _ X.A (do let _ ← comprehension (.DictComp kx vx [⟨tg, iter, [], 0⟩] scope pos) scope X.env (firstIterPos [⟨tg, iter, [], 0⟩] pos) newDict false (eval iter X.env) (some (assign (.Name y py) X.env))) _ _ s
  have h' : tDcN X.prog X.w wi g tk tv (own.map (·.2)) σ H (fun x H1 => gName i x σ H1 D.nx) := h
  refine wpAny_bind (thn (dcN_core (Qf := fun _ s' => SP X pins D .next s') hu hc hN I hi ok hg hk hv hs h' fun L C s' m H' I' q hn f => ?_) fun _ s' hq => wpAny_pure (wpAny_pure hq))
  show wpAny _ _ (assign (.Name y py) X.env (.ref L)) _ _ _
  refine wpAny_assign_Name (store_ok2 (v := V.ref L) I' hN hy (.inl hyl) rfl (fun s2 I2 ⟨a, sb, ha⟩ => ?_) (.inr hyl))
  obtain ⟨f0, f1, f2, f3, f4, f5⟩ := f
  have hne : C ≠ a := by
    rcases ha with z | z
    · rw [z]; exact f1
    · exact fun e => f4 y a z e.symm
  exact ⟨m, hn.sameBut sb hne, fun h3 sb3 => ⟨_, H', I2.turned (t' := s2.toks) (fun b o hb e => (sb3.2 b hb).trans e) f0 f1 f3 f4 f5, q⟩⟩
end
end G
end
section
set_option maxRecDepth 100000
set_option maxHeartbeats 4000000
namespace G
open PySem PySem.Spec PyProof.Rows L2
/-- a tuple that is known to have no dict of its own -/
def TupO (a : Addr) (xs : List V) : HO := .ext fun h => ∃ (us : List Value) (n : Nat) (sl : Array (Option Value)), h.get? a = some ⟨.type "tuple", none, .seq us.toArray n, sl⟩ ∧ Vals xs us ∧ xs.length ≤ sizeLine
def rTupO (K : PySem.W.Frag) : List V → Hp → VK → Prop := fun xs H Q => ∃ p ys, xs = [.ref p] ∧ SqL K H p ys ∧ ∀ l, H l = none → Q (.ref l) (upd H l (TupO l ys))
section
variable {X : Cx}
theorem cr_tupO : CallR X (.type "tuple") (rTupO X.K) := by
  intro pins s σ H xs us Q I r h
  obtain ⟨p, ys, rfl, hq, q⟩ := h
  obtain ⟨u, rfl, rx⟩ := vals1 r
  cases rx
  obtain ⟨its, r', pl, hz⟩ := I.list hq
  have hlen := r'.length
  refine call_tuple_list pl.isList (fun h' kp => ?_) (by simp only [List.size_toArray] <;> omega)
  have I1 : Inv X pins σ H { s with heap := h' } := I.kept (t' := s.toks) kp
  refine ⟨.ref h'.objs.size, _, I1.laid (h' := h'.push { cls := .type "tuple", data := .seq its.toArray }) (o := TupO h'.objs.size ys) (t' := s.toks) (fun b o e => Heap.get?_push_of_some _ e) (Nat.le_refl _) ?_, rfl, q _ (I1.hok.fresh (Nat.le_refl _))⟩
  exact ⟨⟨its, _, _, Heap.get?_push_size _ rfl, r', hz⟩, ⟨_, Heap.get?_push_size _ rfl⟩, fun h1 h2 ⟨us, n, sl, e, v, z⟩ k => ⟨us, n, sl, k _ e, v, z⟩⟩
theorem cr_or {f : Value} {r1 r2 : List V → Hp → VK → Prop} (h1 : CallR X f r1) (h2 : CallR X f r2) : CallR X f (fun xs H Q => r1 xs H Q ∨ r2 xs H Q) := fun pins s σ H xs us Q I r h => h.elim (h1 pins s σ H xs us Q I r) (h2 pins s σ H xs us Q I r)
/-- o.index(e), o a tuple of ints known to have no dict -/
def tIdxO (to : TE) (t : TA) : TE := fun σ H Q => to σ H fun x H1 => ∃ (a : Addr) (ns : List Int), x = .ref a ∧ H1 a = some (TupO a (ns.map V.int)) ∧ t σ H1 fun ys H2 => ∃ k, ys = [.int k] ∧ k ∈ ns ∧ H2 a = some (TupO a (ns.map V.int)) ∧ Q (.int (ns.idxOf k : Nat)) H2
theorem pe_idxO {o e : Expr} {apos cpos : Pos} {to : TE} {t : TA} (ho : PE X o to) (ha : PA X [e] t)
    (hbase : attributeBase o "index" X.env (eval o X.env) = eval o X.env := by rfl)
    (hfew : ((backTo cpos (starEach [e] X.env)).all (fun x => !x.1) && (backToKw cpos (keywordEach [] X.env)).all (fun x => x.1.isSome)
      && decide ([e].length + ([] : List Keyword).length + (if ([] : List Keyword).isEmpty then 0 else 1) < 30)) = true := by rfl)
    (hline : (apos.endLine == cpos.line) = true := by rfl) (hs : starEach [e] X.env = (false, eval e X.env) :: starEach [] X.env := by rfl) (hplain : (backTo cpos (starEach [] X.env)).any (·.1) = false := by rfl) :
    PE X (.Call (.Attribute o "index" apos) [e] [] cpos) (tIdxO to t) := by
  refine ⟨fun pins s σ H Q I h => ?_⟩
  refine wpAny_Call_method_late hbase hfew hline rfl (thn (ho.run pins s σ H _ I h) fun v s1 ⟨x, H1, I1, r1, a, ns, ex, ea, q1⟩ => ?_)
  subst ex
  obtain rfl : v = Value.ref a := r1
  obtain ⟨⟨us, n, sl, g, _, _⟩, _⟩ := I1.hok a _ ea
  refine ⟨"tuple", "tuple.index", PySem.F.plainAttrs_tuple, PySem.F.slot_tuple_index, PySem.F.type_tuple_index, ⟨_, g, rfl⟩, fun b eb => by cases eb; exact ⟨_, g, rfl⟩, ?_⟩
  have hA := ha.run cpos pins s1 σ H1 _ I1 q1
  rw [hs] at hA ⊢
  refine Calls.callWith_builtin (by show (false || (backTo cpos (starEach [] X.env)).any (·.1)) = false; rw [hplain] <;> rfl) (Calls.evalArgs_plain ?_)
  refine thn hA fun ws s2 ⟨vs, H2, I2, r2, k, ev, hk, e2, q2⟩ => ?_
  subst ev
  cases r2 with
  | cons ry rt =>
    cases rt
    obtain ⟨t', rfl⟩ := ry
    obtain ⟨⟨us2, n2, sl2, g2, rv, _⟩, _⟩ := I2.hok a _ e2
    exact PySem.SeqAt.tuple_index_ints (vs := us2) (show s2.heap.IsTuple a us2.toArray from ⟨_, g2, rfl, _, rfl⟩) rv.ints hk ⟨.int _, H2, I2.tok _, ⟨_, rfl⟩, q2⟩
end
end G
end
section
set_option maxRecDepth 100000
set_option maxHeartbeats 4000000
namespace Onew
open PySem PySem.Spec PyProof.Rows L2 G
open Mx (Tab im Rch rl)
/-- a dict of ints, all True -/
def kI (fs : List Nat) : List (Key × V) := fs.map fun n : Nat => (Sum.inl (n : Int), .bl true)
theorem valV_kI {n : Nat} : ∀ fs : List Nat, valV (kI fs) (Sum.inl (n : Int)) = if n ∈ fs then some (.bl true) else none
  | [] => rfl
  | m :: fs => by
    show valV ((Sum.inl (m : Int), V.bl true) :: kI fs) _ = _
    by_cases h : m = n
    · subst h
      rw [valV_pos rfl, if_pos (.head _)]
    · rw [valV_neg (fun e => h (by have := Sum.inl.inj e; omega)), valV_kI fs]
      by_cases h2 : n ∈ fs
      · rw [if_pos h2, if_pos (.tail _ h2)]
      · rw [if_neg h2, if_neg (fun e => by rcases List.mem_cons.mp e with e | e; exact h e.symm; exact h2 e)]
theorem putK_kI {n : Nat} {fs : List Nat} (h : n ∉ fs) : putK (kI fs) (Sum.inl (n : Int)) (.bl true) = kI (fs ++ [n]) := by
  rw [putK_new _ (by rw [valV_kI, if_neg h])]
  unfold kI; rw [List.map_append]; rfl
/-- the i-th row of a machine's tables, read -/
theorem tab_at {H : Hp} {t : Addr} {ts : Tab} (r : R H (.ref t) (tD ts)) : ∃ xs, H t = some (.tup xs) ∧ xs.length = ts.length ∧ ∀ (i : Nat) (row : List Nat), ts[i]? = some row → ∃ a : Addr, xs[i]? = some (.ref a) ∧ H a = some (.tup (nV row)) := by
  cases r with
  | @tup _ xs _ h rt =>
    refine ⟨xs, h, by rw [rt.length, List.length_map], fun i row e => ?_⟩
    obtain ⟨v, hv, r⟩ := RAll.at rt (i := i) (d := iD row) (by rw [List.getElem?_map, e]; rfl)
    obtain ⟨a, rfl, ha⟩ := r_i r
    exact ⟨a, hv, ha⟩
theorem nV_at {ns : List Nat} {i n : Nat} (h : ns[i]? = some n) : (nV ns)[i]? = some (.int (n : Nat)) := by
  unfold nV; rw [List.getElem?_map, h]; rfl
theorem asc_cast {ns' : List Int} {fs : List Nat} (pm : ns'.Perm (fs.map fun n : Nat => (n : Int))) (asc : ns'.Pairwise (· ≤ ·)) (nd : fs.Nodup) : ∃ ns0 : List Nat, ns' = ns0.map (fun n : Nat => (n : Int)) ∧ ns0.Perm fs ∧ ns0.Pairwise (· < ·) := by
  have nn : ∀ i ∈ ns', 0 ≤ i := fun i hi => by
    obtain ⟨n, _, rfl⟩ := List.mem_map.mp (pm.mem_iff.mp hi)
    omega
  have e1 : ns' = (ns'.map Int.toNat).map (fun n : Nat => (n : Int)) := by
    rw [List.map_map]
    conv => lhs; rw [← List.map_id ns']
    refine List.map_congr_left fun i hi => ?_
    have := nn i hi
    simp only [id, Function.comp]
    omega
  have p2 : (ns'.map Int.toNat).Perm fs := by
    have := pm.map Int.toNat
    rw [List.map_map] at this
    have e : (Int.toNat ∘ fun n : Nat => (n : Int)) = id := by funext n; simp
    rw [e, List.map_id] at this
    exact this
  refine ⟨_, e1, p2, ?_⟩
  have nd2 : (ns'.map Int.toNat).Nodup := p2.nodup_iff.mpr nd
  have a2 : (ns'.map Int.toNat).Pairwise (· ≤ ·) := by
    rw [List.pairwise_map]
    exact asc.imp fun h => by omega
  exact (a2.and nd2).imp fun ⟨h1, h2⟩ => by omega
section
variable {P : Program} {w : World} {K : PySem.W.Frag} {mg : Str → Option Value} {base : Heap} {CM CC CR CN CF CT : Addr}
def spReached (CM CN : Addr) : Sp := fun vs H Q E => ∃ (p : Addr) (v : V) (d : PyData) (ts : Tab), vs = [.ref p, v] ∧ MachAt CM H p ts ∧ Mx.Ok ts ∧ R H v d ∧ (∀ f : Nat, d = .int (f : Nat) → f < Mx.mst ts → ∀ v' H', Ex H H' → R H' v' (iD (rl ts f)) → Q v' H') ∧ (belowD (mst ts) d = false → Rais E H CN "state" v)
def spReachedX (CM : Addr) : Sp := fun vs H Q _ => ∃ (p : Addr) (ts : Tab) (f : Nat), vs = [.ref p, .int (f : Nat)] ∧ MachAt CM H p ts ∧ Mx.Ok ts ∧ f < Mx.mst ts ∧ ∀ a H', Ex H H' → H' a = some (TupO a (nV (rl ts f))) → Q (.ref a) H'
def spReachedU (CM CN : Addr) : Sp := fun vs H Q E => ∃ (p : Addr) (v : V) (d : PyData) (ts : Tab), vs = [.ref p, v] ∧ MachAt CM H p ts ∧ Mx.Ok ts ∧ R H v d ∧ (∀ f : Nat, d = .int (f : Nat) → f < Mx.mst ts → (∀ v' H', Ex H H' → R H' v' (iD (rl ts f)) → Q v' H') ∨ ∀ a H', Ex H H' → H' a = some (TupO a (nV (rl ts f))) → Q (.ref a) H') ∧ (belowD (mst ts) d = false → Rais E H CN "state" v)
abbrev sReached : Stmt := top 28
theorem scReached : FnScope ["machine", "first", "found", "waiting", "here", "table"] ["machine", "first"] (defScope sReached) := ⟨rfl, rfl, rfl, by decide +kernel, rfl, by decide +kernel, by decide +kernel⟩
/-- the invariant of the walk -/
structure RInv (ts : Tab) (f : Nat) (fs ws : List Nat) : Prop where
  nd : fs.Nodup
  rch : ∀ x ∈ fs, Rch ts f x
  first : f ∈ fs
  sub : ∀ x ∈ ws, x ∈ fs
def muR (D L : Addr) (m : Nat) (H : Hp) : Nat := match H D, H L with
  | some (.dK k), some (.lst l) => 2 * (m - k.length) + l.length
  | _, _ => 0
theorem belowD_of {m : Nat} {d : PyData} (h : belowD (m : Nat) d = true) : ∃ f : Nat, d = .int (f : Nat) ∧ f < m := by
  cases d with
  | int i =>
    simp only [belowD, Bool.and_eq_true, decide_eq_true_eq] at h
    exact ⟨i.toNat, by rw [Int.toNat_of_nonneg h.1], by omega⟩
  | _ => cases h
theorem belowD_nat {m f : Nat} (h : f < m) : belowD (m : Nat) (.int (f : Nat)) = true := by simp [belowD, h]
theorem ok_reachedU {f : Addr} {fd : FuncData} (F : Fun K "reached" "reached" sReached f fd) (T : Txt K mg) (TC : TxC K mg CM CC) (D_need_state : Def P w K mg base 4 "need_state" ["machine", "state"] (spNState CM CN)) :
    FnOk P w K mg base (L2.CX P w) 5 f fd ["machine", "first"] (spReachedU CM CN) := by
  refine F.okX scReached (fun vs H Q E h => ?_) (fun cdv A outer s H vs Q E hr h => ?_)
  · obtain ⟨p, v, d, ts, rfl, _⟩ := h
    rfl
  · obtain ⟨p, v, d, ts, rfl, M, ok, r, q1, q2⟩ := h
    have nd := scReached.nd
    refine ⟨_, (pss_cons (ps_set (i := 2) nd rfl (Or.inl rfl) (pe_disp (pps_cons (pcallE (E := E) D_need_state hr (by decide) tk_own (fun _ _ _ _ h => h) (pa_cons (pv 0) (pa_cons (pv 1) pa_nil))) pe_bl pps_nil) rfl rfl (by simp) (by decide)))
      (pss_cons (ps_set (i := 3) nd rfl (Or.inl rfl) (pe_lst (pa_cons (pv 1) pa_nil)))
      (pss_cons (ps_while (passes_of rfl) (pt_cmpR op_gt (pe_callB call_len_seq (by rfl) (T.no "len" (by decide)) boot_len (pa_cons (pv 3) pa_nil)) pe_int (nomark _)) (pss_cons (ps_set (i := 4) nd rfl (Or.inl rfl) (pe_bm0 PySem.F.plainAttrs_list PySem.F.slot_list_pop PySem.F.type_list_pop mt_pop (pv 3)))
      (pss_one (ps_for (passes_of rfl) rfl (pi_tup (pe_fld (pv 0) rfl)) (pg_name (i := 5) nd rfl (Or.inl rfl)) (pss_one (ps_if (pt_cmp (pc_dnotin (hu1 hr) (pe_ix ix_tup (pv 5) (pv 4) (fun _ _ => rfl)) (pv 2))) (pss_cons (ps_dput (hu1 hr) (pv 2) (pe_ix ix_tup (pv 5) (pv 4) (fun _ _ => rfl)) pe_bl rfl)
      (pss_one (ps_expr (pe_bm PySem.F.plainAttrs_list PySem.F.slot_list_append PySem.F.type_list_append mt_append (pv 3) (pa_cons (pe_ix ix_tup (pv 5) (pv 4) (fun _ _ => rfl)) pa_nil))))) pss_nil))))))
      (pss_one (ps_ret (pe_callTy (cr_or cr_tup cr_tupO) (by rfl) (T.no "tuple" (by decide)) boot_tuple (pa_cons (pe_callB cr_sortedI (by rfl) (T.no "sorted" (by decide)) boot_sorted (pa_cons (pe_callTy (call_list_dK rfl) (by rfl) (T.no "list" (by decide)) boot_list (pa_cons (pv 2) pa_nil)) pa_nil)) pa_nil))))))), ?_⟩
    intro D hD
    have eD := Ex.new (o := .dK []) hD
    refine ⟨_, rfl, _, rfl, p, v, d, ts, rfl, M.ex eD, r.ex eD, fun hb => ?_, fun hb d2 H2 e2 h2 => q2 hb d2 H2 (eD.tr e2) h2⟩
    obtain ⟨f, rfl, hf⟩ := belowD_of hb
    have q1' := q1 f rfl hf
    cases r
    refine ⟨upd_same, [(Sum.inl (f : Int), .bl true)], rfl, by show 1 ≤ 15; decide, ?_⟩
    rw [show mergeK [] [(Sum.inl (f : Int), V.bl true)] = kI [f] from rfl]
    refine ⟨_, rfl, by show 1 ≤ sizeLine; decide, fun L hL => ?_⟩
    have hL0 : upd (upd H D (.dK [])) D (.dK (kI [f])) L = none := hL
    have nLD : L ≠ D := fun z => by rw [z, upd_same] at hL0; cases hL0
    have hLH : H L = none := by rw [upd_ne nLD, upd_ne nLD] at hL0; exact hL0
    obtain ⟨dx, t, hp, rt⟩ := M
    obtain ⟨xs, htx, xl, rows⟩ := tab_at rt
    refine while_by (fun σ H' => ∃ (fs ws : List Nat) (x y : Option V), σ = [some (.ref p), some (.int (f : Nat)), some (.ref D), some (.ref L), x, y] ∧ Ex H H' ∧ H' D = some (.dK (kI fs)) ∧ H' L = some (.lst (nV ws)) ∧ RInv ts f fs ws ∧ (∀ s ∈ fs, s ∉ ws → ∀ t ∈ ts, im t s ∈ fs) ∧ 2 * (Mx.mst ts - fs.length) + ws.length ≤ 20) (fun σ H' => muR D L (Mx.mst ts) H') ?_ ?_ ?_
    · refine ⟨[f], [f], _, _, rfl, ?_, ?_, upd_same, ⟨by simp, fun x hx => by rw [List.mem_singleton.mp hx]; exact .base, .head _, fun x h => h⟩, fun s h n => absurd h n, by have := ok.m8; simp; omega⟩
      · exact ((eD.mut hD).mut hLH)
      · rw [upd_ne nLD.symm, upd_same]
    · rintro σ H1 ⟨fs, ws, x, y, rfl, e1, h1, h2, I, cl, m20⟩
      have Dn : D ≠ L := nLD.symm
      refine ⟨_, rfl, _, _, rfl, .inl (SqL.of h2), _, _, rfl, rfl, _, rfl, ?_⟩
      rw [nV_len]
      by_cases hw : ws = []
      · subst hw
        refine itF (by simp) ?_
        refine ⟨_, rfl, D, _, rfl, h1, fun l hl => ⟨l, fs.map (fun n : Nat => (n : Int)), rfl, SqL.of (by rw [upd_same]; unfold kI; rw [List.map_map, List.map_map]; rfl), fun ns' l2 pm asc hl2 => ?_⟩⟩
        have e2 := e1.tr ((Ex.new (o := .lst (List.map (fun kv => kV kv.1) (kI fs))) hl).tr (Ex.new (o := .lst (ns'.map V.int)) hl2))
        have key : ns' = (rl ts f).map (fun n : Nat => (n : Int)) := by
          obtain ⟨ns0, rfl, p0, a0⟩ := asc_cast pm asc I.nd
          rw [Mx.asc_eq a0 (Mx.rl_sorted ts f) fun x => by
            rw [p0.mem_iff]
            exact Mx.rl_of ok hf I.rch I.first (fun s hs t ht => cl s hs (by simp) t ht) x]
        rcases q1' with q1' | q1'
        · refine .inl ⟨l2, _, rfl, .inl ⟨SqL.of upd_same, fun l3 hl3 => q1' _ _ (e2.tr (Ex.new hl3)) (r_i_mk ?_)⟩⟩
          rw [upd_same, key, nV_int]
        · refine .inr ⟨l2, _, rfl, SqL.of upd_same, fun l3 hl3 => q1' _ _ (e2.tr (Ex.new hl3)) ?_⟩
          rw [upd_same, key, nV_int]
      · refine itT (by simp; exact List.length_pos_iff.mpr hw) ?_
        obtain ⟨ws, s, rfl⟩ : ∃ ws' s, ws = ws' ++ [s] := ⟨ws.dropLast, ws.getLast hw, (List.dropLast_concat_getLast hw).symm⟩
        have hlast : (nV (ws ++ [s]))[(nV (ws ++ [s])).length - 1]? = some (.int (s : Nat)) := by
          rw [nV_len, List.length_append, List.length_singleton, Nat.add_sub_cancel]
          exact nV_at (by simp)
        have hdrop : (nV (ws ++ [s])).dropLast = nV ws := by unfold nV; rw [List.map_append]; simp
        have hs : s ∈ fs := I.sub s (by simp)
        have hsm : s < Mx.mst ts := (I.rch s hs).lt ok hf
        refine ⟨_, rfl, .inl ⟨rfl, _, SqL.of h2⟩, L, _, _, rfl, rfl, h2, hlast, ?_⟩
        rw [hdrop]
        have e2 : Ex H (upd H1 L (.lst (nV ws))) := e1.mut hLH
        refine ⟨_, rfl, _, _, _, _, _, rfl, e2 _ _ hp, TC.clM, TC.nM _ (by decide), mf_tables _ _ _, t, rfl, ⟨xs, SqT.of (e2 _ _ htx)⟩, ?_⟩
        refine for_it walk_tup (fun i σ H' => ∃ (fs' ws' : List Nat) (y : Option V), σ = [some (.ref p), some (.int (f : Nat)), some (.ref D), some (.ref L), some (.int (s : Nat)), y] ∧ Ex H H' ∧ H' D = some (.dK (kI fs')) ∧ H' L = some (.lst (nV ws')) ∧ RInv ts f fs' ws' ∧ s ∈ fs' ∧
          (∀ z ∈ fs', z ∉ ws' → z ≠ s → ∀ t ∈ ts, im t z ∈ fs') ∧ (∀ t ∈ ts.take i, im t s ∈ fs') ∧ 2 * (Mx.mst ts - fs'.length) + ws'.length < 2 * (Mx.mst ts - fs.length) + (ws ++ [s]).length) ⟨fs, ws, y, rfl, e2, by rw [upd_ne Dn]; exact h1, upd_same, ⟨I.nd, I.rch, I.first, fun x hx => I.sub x (by simp [hx])⟩, hs, ?_, fun t h => by simp at h, by simp⟩ (fun i σ H' _ h => by obtain ⟨_, _, _, _, e, _⟩ := h; exact SqT.of (e _ _ htx)) ?_ ?_
        · intro z hz hn hzs t ht
          exact cl z hz (by simp [hn, hzs]) t ht
        · rintro i x σ H3 H3' hi ⟨fs', ws', y', rfl, e3, h3, h4, I3, s3, cl3, im3, mu3⟩ ⟨rfl, hx⟩
          obtain ⟨row, hrow⟩ : ∃ row, ts[i]? = some row := ⟨ts[i]'(by omega), List.getElem?_eq_getElem (by omega)⟩
          obtain ⟨a, ha, hra⟩ := rows i row hrow
          rw [ha] at hx
          cases hx
          have hmem : row ∈ ts := List.mem_of_getElem? hrow
          have him := ok.im hmem hsm
          have hat : atI (nV row) (s : Nat) = some (.int (im row s : Nat)) := atI_nat (nV_at him.1)
          have hra3 := e3 _ _ hra
          have tk : ts.take (i + 1) = ts.take i ++ [row] := takeNx hrow
          refine ⟨_, rfl, _, rfl, _, _, _, _, rfl, rfl, SqT.of hra3, hat, _, rfl, D, _, rfl, DGet.k (k := Sum.inl (im row s : Int)) h3, _, rfl, ?_⟩
          rw [valV_kI]
          by_cases hin : im row s ∈ fs'
          · rw [if_pos hin]
            refine itF rfl ⟨fs', ws', _, rfl, e3, h3, h4, I3, s3, cl3, fun t ht => ?_, mu3⟩
            rw [tk] at ht
            rcases List.mem_append.mp ht with h | h
            · exact im3 t h
            · rw [List.mem_singleton.mp h]; exact hin
          · rw [if_neg hin]
            refine itT rfl ?_
            have flt : fs'.length < Mx.mst ts := by
              have a := Mx.len_le_of_sub (a := fs' ++ [im row s]) (b := List.range (Mx.mst ts)) (by
                rw [List.nodup_append]
                exact ⟨I3.nd, by simp, fun x hx y hy e => hin (by rw [← List.mem_singleton.mp hy, ← e]; exact hx)⟩) (fun x hx => List.mem_range.mpr (by
                rcases List.mem_append.mp hx with h | h
                · exact (I3.rch x h).lt ok hf
                · rw [List.mem_singleton.mp h]; exact him.2))
              rw [List.length_range, List.length_append, List.length_singleton] at a
              omega
            have wlt : ws'.length < 100 := by
              omega
            refine ⟨_, rfl, _, rfl, _, rfl, _, _, _, _, rfl, rfl, SqT.of hra3, hat, D, _, rfl, DPut.k (k := Sum.inl (im row s : Int)) h3 (by unfold kI; rw [List.length_map]; have := ok.m8; rw [sizeLine_eq]; omega), ?_⟩
            rw [putK_kI hin]
            have h4' : (upd H3' D (.dK (kI (fs' ++ [im row s])))) L = some (.lst (nV ws')) := by rw [upd_ne nLD]; exact h4
            have e4 : Ex H (upd H3' D (.dK (kI (fs' ++ [im row s])))) := e3.mut hD
            refine ⟨_, rfl, .inl ⟨rfl, _, SqL.of h4'⟩, _, rfl, _, rfl, _, _, _, _, rfl, rfl, SqT.of (e4 _ _ hra), hat, L, _, _, rfl, rfl, h4', (by rw [nV_len]; exact Nat.lt_trans wlt (by decide)), ?_⟩
            refine ⟨fs' ++ [im row s], ws' ++ [im row s], _, rfl, e4.mut hLH, by rw [upd_ne Dn, upd_same], by rw [upd_same]; unfold nV; rw [List.map_append]; rfl, ⟨?_, ?_, by simp [I3.first], ?_⟩, by simp [s3], ?_, ?_, by simp only [List.length_append, List.length_singleton] at mu3 ⊢; omega⟩
            · rw [List.nodup_append]
              exact ⟨I3.nd, by simp, fun x hx y hy e => hin (by rw [← List.mem_singleton.mp hy, ← e]; exact hx)⟩
            · intro x hx
              rcases List.mem_append.mp hx with h | h
              · exact I3.rch x h
              · rw [List.mem_singleton.mp h]; exact .step (I3.rch s s3) hmem
            · intro x hx
              rcases List.mem_append.mp hx with h | h
              · exact List.mem_append_left _ (I3.sub x h)
              · exact List.mem_append_right _ h
            · intro z hz hn hzs t ht
              rcases List.mem_append.mp hz with h | h
              · exact List.mem_append_left _ (cl3 z h (fun q => hn (List.mem_append_left _ q)) hzs t ht)
              · exact absurd (List.mem_append_right _ h) hn
            · intro t ht
              rw [tk] at ht
              rcases List.mem_append.mp ht with h | h
              · exact List.mem_append_left _ (im3 t h)
              · rw [List.mem_singleton.mp h]; simp
        · rintro σ H3 ⟨fs', ws', y', rfl, e3, h3, h4, I3, s3, cl3, im3, mu3⟩
          refine ⟨⟨fs', ws', _, _, rfl, e3, h3, h4, I3, fun z hz hn t ht => ?_, by omega⟩, ?_⟩
          · by_cases hzs : z = s
            · subst hzs
              exact im3 t (by rw [xl, List.take_length]; exact ht)
            · exact cl3 z hz hn hzs t ht
          · unfold muR
            rw [h3, h4, h1, h2]
            simp only [kI, List.length_map, nV_len]
            exact mu3
    · rintro σ H' Q Q' h ⟨_, a1, _, _, a2, a3, _, _, a4, a5, _, a6, q⟩
      exact ⟨_, a1, _, _, a2, a3, _, _, a4, a5, _, a6, h _ _ q⟩
theorem ok_reached {f : Addr} {fd : FuncData} (F : Fun K "reached" "reached" sReached f fd) (T : Txt K mg) (TC : TxC K mg CM CC) (D_need_state : Def P w K mg base 4 "need_state" ["machine", "state"] (spNState CM CN)) : FnOk P w K mg base (L2.CX P w) 5 f fd ["machine", "first"] (spReached CM CN) :=
  (ok_reachedU F T TC D_need_state).imp fun vs H Q E ⟨p, v, d, ts, h1, h2, h3, h4, h5, h6⟩ => ⟨p, v, d, ts, h1, h2, h3, h4, fun f a b => .inl (h5 f a b), h6⟩
theorem ok_reachedX {f : Addr} {fd : FuncData} (F : Fun K "reached" "reached" sReached f fd) (T : Txt K mg) (TC : TxC K mg CM CC) (D_need_state : Def P w K mg base 4 "need_state" ["machine", "state"] (spNState CM CN)) : FnOk P w K mg base (L2.CX P w) 5 f fd ["machine", "first"] (spReachedX CM) :=
  (ok_reachedU F T TC D_need_state).imp fun vs H Q E ⟨p, ts, f, h1, h2, h3, h4, h5⟩ => ⟨p, .int f, .int f, ts, h1, h2, h3, .int _, fun f' e _ => by
    have : f' = f := by injection e with z; omega
    subst this
    exact .inr h5, fun hb => absurd hb (by rw [show belowD (mst ts : Nat) (.int (f : Nat)) = true from belowD_nat h4]; decide)⟩
end
end Onew
end
section
set_option maxHeartbeats 4000000
namespace Mx
/-! a deed that leads unlike states to one -/
def rowF (row : List Nat) : List Nat → Option (Nat × Nat)
  | [] => none
  | one :: rest => match rest.find? (fun o => im row one == im row o) with
    | some o => some (one, o)
    | none => rowF row rest
def forgF (k : Nat) (S : List Nat) : Tab → Option (Nat × Nat × Nat)
  | [] => none
  | row :: ts => match rowF row S with
    | some (a, b) => some (k, a, b)
    | none => forgF (k + 1) S ts
/-- the states are not forgotten -/
abbrev Keep (ts : Tab) (S : List Nat) : Prop := forgF 0 S ts = none
theorem rowF_none {row : List Nat} : ∀ {S : List Nat}, rowF row S = none ↔ S.Pairwise (fun a b => im row a ≠ im row b)
  | [] => by simp [rowF]
  | a :: S => by
    rw [List.pairwise_cons, ← rowF_none (S := S)]
    rw [show rowF row (a :: S) = (match S.find? (fun o => im row a == im row o) with | some o => some (a, o) | none => rowF row S) from rfl]
    cases e : S.find? (fun o => im row a == im row o) with
    | some o =>
      have h1 := List.find?_some e
      have h2 := List.mem_of_find?_eq_some e
      simp only [beq_iff_eq] at h1
      constructor
      · intro h; cases h
      · intro h; exact absurd h1 (h.1 o h2)
    | none =>
      rw [List.find?_eq_none] at e
      constructor
      · intro h
        exact ⟨fun b hb q => e b hb (by simp [q]), h⟩
      · exact fun h => h.2
theorem forgF_none {S : List Nat} : ∀ {ts : Tab} {k : Nat}, forgF k S ts = none ↔ ∀ row ∈ ts, rowF row S = none
  | [], _ => by simp [forgF]
  | row :: ts, k => by
    unfold forgF
    cases e : rowF row S with
    | some p => simp [e]
    | none => simp [e, forgF_none (ts := ts)]
end Mx
end
section
set_option maxRecDepth 100000
set_option maxHeartbeats 4000000
namespace Onew
open PySem PySem.Spec PyProof.Rows L2 G
open Mx (Tab im Rch rl rowF forgF)
theorem nV_drop (ns : List Nat) (k : Nat) : (nV ns).drop k = nV (ns.drop k) := by unfold nV; rw [List.map_drop]
theorem nV_take (ns : List Nat) (k : Nat) : (nV ns).take k = nV (ns.take k) := by unfold nV; rw [List.map_take]
theorem nV_app (a b : List Nat) : nV a ++ nV b = nV (a ++ b) := by unfold nV; rw [List.map_append]
theorem nV_get {ns : List Nat} {i : Nat} {v : V} (h : (nV ns)[i]? = some v) : ∃ n, ns[i]? = some n ∧ v = .int (n : Nat) := by
  unfold nV at h
  rw [List.getElem?_map] at h
  cases e : ns[i]? with
  | none => rw [e] at h; cases h
  | some n => rw [e] at h; cases h; exact ⟨n, rfl, rfl⟩
section
variable {P : Program} {w : World} {K : PySem.W.Frag} {mg : Str → Option Value} {base : Heap} {CM CC CR CN CF CT : Addr}
def spForg (CM CN : Addr) : Sp := fun vs H Q E => ∃ (p : Addr) (v : V) (d : PyData) (ts : Tab), vs = [.ref p, v] ∧ MachAt CM H p ts ∧ Mx.Ok ts ∧ R H v d ∧
  (∀ f : Nat, d = .int (f : Nat) → f < Mx.mst ts → (forgF 0 (rl ts f) ts = none → ∀ H', Ex H H' → Q .non H') ∧ ∀ k a b, forgF 0 (rl ts f) ts = some (k, a, b) → ∀ q H', Ex H H' → H' q = some (.tup [.int (k : Nat), .int (a : Nat), .int (b : Nat)]) → Q (.ref q) H') ∧ (belowD (mst ts) d = false → Rais E H CN "state" v)
abbrev sForg : Stmt := top 29
theorem scForg : FnScope ["machine", "first", "states", "deed", "table", "at", "one", "other"] ["machine", "first"] (defScope sForg) := ⟨rfl, rfl, rfl, by decide +kernel, rfl, by decide +kernel, by decide +kernel⟩
theorem forg_drop {S : List Nat} {ts : Tab} {i : Nat} {row : List Nat} (h : ts[i]? = some row) : forgF i S (ts.drop i) = (match rowF row S with | some (a, b) => some (i, a, b) | none => forgF (i + 1) S (ts.drop (i + 1))) := by
  have hi : i < ts.length := by
    rcases Nat.lt_or_ge i ts.length with e | e
    · exact e
    · rw [List.getElem?_eq_none e] at h; cases h
  rw [List.drop_eq_getElem_cons hi]
  rw [List.getElem?_eq_getElem hi] at h
  rw [Option.some.inj h]
  rfl
theorem row_drop {S : List Nat} {row : List Nat} {i s : Nat} (h : S[i]? = some s) : rowF row (S.drop i) = (match (S.drop (i + 1)).find? (fun o => im row s == im row o) with | some o => some (s, o) | none => rowF row (S.drop (i + 1))) := by
  have hi : i < S.length := by
    rcases Nat.lt_or_ge i S.length with e | e
    · exact e
    · rw [List.getElem?_eq_none e] at h; cases h
  rw [List.drop_eq_getElem_cons hi]
  rw [List.getElem?_eq_getElem hi] at h
  rw [Option.some.inj h]
  rfl
theorem find_drop {p : Nat → Bool} {S : List Nat} {i s : Nat} (h : S[i]? = some s) : (S.drop i).find? p = if p s = true then some s else (S.drop (i + 1)).find? p := by
  have hi : i < S.length := by
    rcases Nat.lt_or_ge i S.length with e | e
    · exact e
    · rw [List.getElem?_eq_none e] at h; cases h
  rw [List.drop_eq_getElem_cons hi]
  rw [List.getElem?_eq_getElem hi] at h
  rw [Option.some.inj h, List.find?_cons]
  cases p s <;> rfl
theorem ok_forg {f : Addr} {fd : FuncData} (F : Fun K "forgotten" "forgotten" sForg f fd) (T : Txt K mg) (TC : TxC K mg CM CC) (D_reached : Def P w K mg base 5 "reached" ["machine", "first"] (spReached CM CN)) :
    FnOk P w K mg base (L2.CX P w) 6 f fd ["machine", "first"] (spForg CM CN) := by
  refine F.okX scForg (fun vs H Q E h => ?_) (fun cdv A outer s H vs Q E hr h => ?_)
  · obtain ⟨p, v, d, ts, rfl, _⟩ := h
    rfl
  · obtain ⟨p, v, d, ts, rfl, M, ok, r, q1, q2⟩ := h
    have nd := scForg.nd
    refine ⟨_, (pss_cons (ps_set (i := 2) nd rfl (Or.inl rfl) (pcallE (E := E) D_reached hr (by decide) tk_own (fun _ _ _ _ h => h) (pa_cons (pv 0) (pa_cons (pv 1) pa_nil))))
      (pss_cons (ps_for (passes_of rfl) rfl (pi_enumT (by rfl) (T.no "enumerate" (by decide)) (pa_cons (pe_fld (pv 0) rfl) pa_nil)) (pg_tup rfl (pgs_cons (pg_name (i := 3) nd rfl (Or.inl rfl)) (pgs_cons (pg_name (i := 4) nd rfl (Or.inl rfl)) pgs_nil))) (pss_one (ps_for (passes_of rfl) rfl (pi_enumT (by rfl) (T.no "enumerate" (by decide)) (pa_cons (pv 2) pa_nil)) (pg_tup rfl (pgs_cons (pg_name (i := 5) nd rfl (Or.inl rfl)) (pgs_cons (pg_name (i := 6) nd rfl (Or.inl rfl)) pgs_nil))) (pss_one (ps_for (passes_of rfl) rfl (pi_tup (pe_slice sl_tupA (pv 2) (po_some (pe_op op_add (pv 5) pe_int)) po_none)) (pg_name (i := 7) nd rfl (Or.inl rfl)) (pss_one (ps_if (pt_cmpR op_eq (pe_ix ix_tup (pv 4) (pv 6) (fun _ _ => rfl)) (pe_ix ix_tup (pv 4) (pv 7) (fun _ _ => rfl)) (nomark _)) (pss_one (ps_ret (pe_tup (pa_cons (pv 3) (pa_cons (pv 6) (pa_cons (pv 7) pa_nil)))))) pss_nil)))))))
      (pss_one (ps_ret pe_non)))), ?_⟩
    refine ⟨_, rfl, _, rfl, p, v, d, ts, rfl, M, ok, r, fun f ed hf v1 H1 e1 r1 => ?_, q2⟩
    subst ed
    cases r
    obtain ⟨qn, qs⟩ := q1 f rfl hf
    obtain ⟨S, rfl, hS⟩ := r_i r1
    obtain ⟨dx, t, hp, rt⟩ := M
    obtain ⟨xs, htx, xl, rows⟩ := tab_at rt
    refine ⟨_, rfl, _, _, _, _, _, rfl, e1 _ _ hp, TC.clM, TC.nM _ (by decide), mf_tables _ _ _, t, xs, rfl, e1 _ _ htx, ?_⟩
    refine for_it walk_enumT (fun i σ H' => (∃ a b c d e, σ = [some (.ref p), some (.int (f : Nat)), some (.ref S), a, b, c, d, e]) ∧ Ex H1 H' ∧ forgF 0 (rl ts f) ts = forgF i (rl ts f) (ts.drop i)) ⟨⟨_, _, _, _, _, rfl⟩, Ex.rfl', rfl⟩ (fun i σ H' _ h => h.2.1 _ _ (e1 _ _ htx)) ?_ ?_
    · rintro i x σ H2 H2' hi ⟨⟨c1, c2, c3, c4, c5, rfl⟩, e2, fg⟩ ⟨T1, z1, z2, rfl, hT1, rfl, ez1, ez2⟩
      cases ez1
      obtain ⟨row, hrow⟩ : ∃ row, ts[i]? = some row := ⟨ts[i]'(by omega), List.getElem?_eq_getElem (by omega)⟩
      obtain ⟨a, ha, hra⟩ := rows i row hrow
      have ez2 : xs[i]? = some z2 := ez2
      rw [ha] at ez2
      cases ez2
      have hmem : row ∈ ts := List.mem_of_getElem? hrow
      have e12 : Ex H (upd H2 T1 (.tup [.int (i : Nat), .ref a])) := (e1.tr e2).tr (Ex.new hT1)
      rw [forg_drop hrow] at fg
      refine ⟨T1, _, rfl, SqT.of upd_same, rfl, _, _, rfl, _, _, rfl, rfl, ?_⟩
      refine ⟨_, rfl, S, _, rfl, (e2.tr (Ex.new hT1)) _ _ hS, ?_⟩
      refine for_it walk_enumT (fun j σ H' => (∃ c d e, σ = [some (.ref p), some (.int (f : Nat)), some (.ref S), some (.int (i : Nat)), some (.ref a), c, d, e]) ∧ Ex (upd H2 T1 (.tup [.int (i : Nat), .ref a])) H' ∧ rowF row (rl ts f) = rowF row ((rl ts f).drop j)) ⟨⟨_, _, _, rfl⟩, Ex.rfl', rfl⟩ (fun j σ H' _ h => h.2.1 _ _ ((e2.tr (Ex.new hT1)) _ _ hS)) ?_ ?_
      · rintro j x σ H3 H3' hj ⟨⟨c3, c4, c5, rfl⟩, e3, fr⟩ ⟨T2, z1, z2, rfl, hT2, rfl, ez1, ez2⟩
        cases ez1
        obtain ⟨s, hs, rfl⟩ := nV_get ez2
        rw [row_drop hs] at fr
        have e3' : Ex H (upd H3 T2 (.tup [.int (j : Nat), .int (s : Nat)])) := (e12.tr e3).tr (Ex.new hT2)
        have hsm : s < Mx.mst ts := Mx.rl_lt ok hf (List.mem_of_getElem? hs)
        refine ⟨T2, _, rfl, SqT.of upd_same, rfl, _, _, rfl, _, _, rfl, rfl, ?_⟩
        have hS3 : (upd H3 T2 (.tup [.int (j : Nat), .int (s : Nat)])) S = some (.tup (nV (rl ts f))) := (e3.tr (Ex.new hT2)) _ _ ((e2.tr (Ex.new hT1)) _ _ hS)
        refine ⟨_, rfl, _, rfl, _, _, rfl, rfl, _, rfl, ?_⟩
        unfold tNoPart
        rw [show (j : Int) + 1 = ((j + 1 : Nat) : Int) by omega]
        refine sl_from hS3 fun S2 H4 e4 hS4 => ?_
        rw [nV_drop] at hS4
        refine ⟨S2, rfl, ⟨_, SqT.of hS4⟩, ?_⟩
        have e4' := e3'.tr e4
        refine for_it walk_tup (fun k σ H' => (∃ e, σ = [some (.ref p), some (.int (f : Nat)), some (.ref S), some (.int (i : Nat)), some (.ref a), some (.int (j : Nat)), some (.int (s : Nat)), e]) ∧ Ex H4 H' ∧ ((rl ts f).drop (j + 1)).find? (fun o => im row s == im row o) = (((rl ts f).drop (j + 1)).drop k).find? (fun o => im row s == im row o)) ⟨⟨_, rfl⟩, Ex.rfl', rfl⟩ (fun k σ H' _ h => SqT.of (h.2.1 _ _ hS4)) ?_ ?_
        · rintro k x σ H5 H5' hk ⟨⟨c5, rfl⟩, e5, ff⟩ ⟨rfl, hx⟩
          obtain ⟨o, ho, rfl⟩ := nV_get hx
          rw [find_drop ho] at ff
          have hom : o < Mx.mst ts := Mx.rl_lt ok hf (List.mem_of_mem_drop (List.mem_of_getElem? ho))
          have hra5 := e5 _ _ (e4' _ _ hra)
          have i1 := ok.im hmem hsm
          have i2 := ok.im hmem hom
          refine ⟨_, rfl, _, rfl, _, _, _, _, rfl, rfl, SqT.of hra5, atI_nat (nV_at i1.1), _, rfl, _, rfl, _, _, _, _, rfl, rfl, SqT.of hra5, atI_nat (nV_at i2.1), rfl, _, rfl, ?_⟩
          by_cases hq : im row s = im row o
          · refine itT (by rw [hq]; simp) ?_
            rw [if_pos (by simp [hq])] at ff
            rw [ff] at fr
            rw [fr] at fg
            exact ⟨_, rfl, _, rfl, _, rfl, by show 3 ≤ sizeLine; decide, fun q hq2 => qs i s o fg q _ (((e4'.tr e5)).tr (Ex.new hq2)) upd_same⟩
          · refine itF (by simp; omega) ?_
            rw [if_neg (by simp [hq])] at ff
            rw [List.drop_drop] at ff ⊢
            exact ⟨⟨_, rfl⟩, e5, ff⟩
        · rintro σ H5 ⟨⟨c5, rfl⟩, e5, ff⟩
          rw [nV_len, List.drop_of_length_le (Nat.le_refl _)] at ff
          rw [ff] at fr
          exact ⟨⟨_, _, _, rfl⟩, ((e3.tr (Ex.new hT2)).tr e4).tr e5, fr⟩
      · rintro σ H3 ⟨⟨c3, c4, c5, rfl⟩, e3, fr⟩
        rw [nV_len, List.drop_of_length_le (Nat.le_refl _)] at fr
        rw [fr] at fg
        exact ⟨⟨_, _, _, _, _, rfl⟩, (e2.tr (Ex.new hT1)).tr e3, fg⟩
    · rintro σ H2 ⟨⟨c1, c2, c3, c4, c5, rfl⟩, e2, fg⟩
      rw [xl, List.drop_of_length_le (Nat.le_refl _)] at fg
      exact qn fg _ (e1.tr e2)
end
end Onew
end
section
set_option maxRecDepth 100000
set_option maxHeartbeats 4000000
namespace Onew
open PySem PySem.Spec PyProof.Rows L2 G
open Mx (Tab im Rch rl rowF forgF)
/-- the error Forgets(k, a, b) -/
abbrev RaisF (E : XK) (H : Hp) (C : Addr) (k a b : Nat) : Prop := ∀ d H', Ex H H' → H' d = some (.xd [("deed", .int (k : Nat)), ("one", .int (a : Nat)), ("other", .int (b : Nat))]) → E (.ref C) (some d) H'
section
variable {P : Program} {w : World} {K : PySem.W.Frag} {mg : Str → Option Value} {base : Heap} {CM CC CR CN CF CT : Addr}
def spNEx (CM CN CF : Addr) : Sp := fun vs H Q E => ∃ (p : Addr) (v : V) (d : PyData) (ts : Tab), vs = [.ref p, v] ∧ MachAt CM H p ts ∧ Mx.Ok ts ∧ R H v d ∧
  (∀ f : Nat, d = .int (f : Nat) → f < Mx.mst ts → (forgF 0 (rl ts f) ts = none → ∀ H', Ex H H' → Q (.ref p) H') ∧ ∀ k a b, forgF 0 (rl ts f) ts = some (k, a, b) → RaisF E H CF k a b) ∧ (belowD (mst ts) d = false → Rais E H CN "state" v)
abbrev sNEx : Stmt := top 30
theorem scNEx : FnScope ["machine", "first", "paper"] ["machine", "first"] (defScope sNEx) := ⟨rfl, rfl, rfl, by decide +kernel, rfl, by decide +kernel, by decide +kernel⟩
theorem ok_nex {f : Addr} {fd : FuncData} (F : Fun K "need_exchanges" "need_exchanges" sNEx f fd) (T : Txt K mg) (TE : TxE P K mg CR CN CF CT) (D_forgotten : Def P w K mg base 6 "forgotten" ["machine", "first"] (spForg CM CN)) :
    FnOk P w K mg base (L2.CX P w) 7 f fd ["machine", "first"] (spNEx CM CN CF) := by
  obtain ⟨fI, xF⟩ := TE.fo
  refine F.okX scNEx (fun vs H Q E h => ?_) (fun cdv A outer s H vs Q E hr h => ?_)
  · obtain ⟨p, v, d, ts, rfl, _⟩ := h
    rfl
  · obtain ⟨p, v, d, ts, rfl, M, ok, r, q1, q2⟩ := h
    have nd := scNEx.nd
    refine ⟨_, (pss_cons (ps_set (i := 2) nd rfl (Or.inl rfl) (pcallE (E := E) D_forgotten hr (by decide) tk_own (fun _ _ _ _ h => h) (pa_cons (pv 0) (pa_cons (pv 1) pa_nil))))
      (pss_cons (ps_if (pt_cmp (pc_notN (pv 2))) (pss_one (ps_raiseX (W := fun cls d _ H => E cls d H) rfl xF hr tk_own (pa_cons (pe_ix ix_tup (pv 2) pe_int (fun _ _ => rfl)) (pa_cons (pe_ix ix_tup (pv 2) pe_int (fun _ _ => rfl)) (pa_cons (pe_ix ix_tup (pv 2) pe_int (fun _ _ => rfl)) pa_nil))))) pss_nil)
      (pss_one (ps_ret (pv 0))))), ?_⟩
    refine ⟨_, rfl, _, rfl, p, v, d, ts, rfl, M, ok, r, fun f ed hf => ⟨fun hn H1 e1 => ?_, fun k a b hs q H1 e1 h1 => ?_⟩, q2⟩
    · exact ⟨_, rfl, _, rfl, itF rfl ⟨_, rfl, (q1 f ed hf).1 hn _ e1⟩⟩
    · exact ⟨_, rfl, _, rfl, itT rfl ⟨_, rfl, q, _, 0, _, rfl, rfl, SqT.of h1, atI_nat (j := 0) rfl, _, rfl, q, _, 1, _, rfl, rfl, SqT.of h1, atI_nat (j := 1) rfl, _, rfl, q, _, 2, _, rfl, rfl, SqT.of h1, atI_nat (j := 2) rfl, rfl, fun d2 h2 => (q1 f ed hf).2 k a b hs _ _ (e1.tr (Ex.new h2)) upd_same⟩⟩
/-- rounds without a 0, no rests -/
abbrev RouOk (ns es : List Nat) : Prop := 0 ∉ ns ∧ ∀ e ∈ es, e = 0
/-- what need_doings asks and answers -/
structure NeedD (CM CC CR CN CF : Addr) (H : Hp) (p : Addr) (v : V) (d : PyData) (c : Addr) (ts : Tab) (ns es : List Nat) (E : XK) (Q : Hp → Prop) : Prop where
  m : MachAt CM H p ts
  ok : Mx.Ok ts
  r : R H v d
  cn : CounAt CC H c ns es
  l1 : ns.length ≤ 4
  l2 : es.length ≤ 4
  e1 : belowD (mst ts) d = false → Rais E H CN "state" v
  e2 : belowD (mst ts) d = true → ns.length ≠ ts.length → Rais E H CR "at" (.ref c)
  e3 : belowD (mst ts) d = true → ns.length = ts.length → ¬ RouOk ns es → Rais E H CR "at" (.ref c)
  e4 : ∀ f : Nat, d = .int (f : Nat) → f < Mx.mst ts → ns.length = ts.length → RouOk ns es → ∀ k a b, forgF 0 (rl ts f) ts = some (k, a, b) → RaisF E H CF k a b
  q : ∀ f : Nat, d = .int (f : Nat) → f < Mx.mst ts → ns.length = ts.length → RouOk ns es → forgF 0 (rl ts f) ts = none → ∀ H', Ex H H' → Q H'
def spNDo (CM CC CR CN CF : Addr) : Sp := fun vs H Q E => ∃ (p : Addr) (v : V) (c : Addr) (d : PyData) (ts : Tab) (ns es : List Nat), vs = [.ref p, v, .ref c] ∧ NeedD CM CC CR CN CF H p v d c ts ns es E (Q .non)
abbrev sNDo : Stmt := top 33
theorem scNDo : FnScope ["machine", "first", "counters"] ["machine", "first", "counters"] (defScope sNDo) := ⟨rfl, rfl, rfl, by decide +kernel, rfl, by decide +kernel, by decide +kernel⟩
theorem ok_ndo {f : Addr} {fd : FuncData} (F : Fun K "need_doings" "need_doings" sNDo f fd) (D_need_state : Def P w K mg base 4 "need_state" ["machine", "state"] (spNState CM CN)) (D_need_fit : Def P w K mg base 2 "need_fit" ["machine", "counters"] (spNFit CM CC CR))
    (D_need_rounds : Def P w K mg base 2 "need_rounds" ["counters"] (spNRou CC CR)) (D_need_exchanges : Def P w K mg base 7 "need_exchanges" ["machine", "first"] (spNEx CM CN CF)) :
    FnOk P w K mg base (L2.CX P w) 8 f fd ["machine", "first", "counters"] (spNDo CM CC CR CN CF) := by
  refine F.okX scNDo (fun vs H Q E h => ?_) (fun cdv A outer s H vs Q E hr h => ?_)
  · obtain ⟨p, v, c, d, ts, ns, es, rfl, _⟩ := h
    rfl
  · obtain ⟨p, v, c, d, ts, ns, es, rfl, N⟩ := h
    refine ⟨_, (pss_cons (ps_expr (pcallE (E := E) D_need_state hr (by decide) tk_own (fun _ _ _ _ h => h) (pa_cons (pv 0) (pa_cons (pv 1) pa_nil))))
      (pss_cons (ps_expr (pcallE (E := E) D_need_fit hr (by decide) tk_own (fun _ _ _ _ h => h) (pa_cons (pv 0) (pa_cons (pv 2) pa_nil))))
      (pss_cons (ps_expr (pcallE (E := E) D_need_rounds hr (by decide) tk_own (fun _ _ _ _ h => h) (pa_cons (pv 2) pa_nil)))
      (pss_one (ps_expr (pcallE (E := E) D_need_exchanges hr (by decide) tk_own (fun _ _ _ _ h => h) (pa_cons (pv 0) (pa_cons (pv 1) pa_nil)))))))), ?_⟩
    refine ⟨_, rfl, _, rfl, p, v, d, ts, rfl, N.m, N.r, fun hb => ?_, N.e1⟩
    obtain ⟨f, ed, hf⟩ := belowD_of hb
    refine ⟨_, rfl, _, rfl, p, c, ts, ns, es, rfl, N.m, N.cn, fun hl => ?_, N.e2 hb⟩
    refine ⟨_, rfl, c, ns, es, rfl, N.cn, N.l1, N.l2, fun hro H1 e1 => ?_, N.e3 hb hl⟩
    refine ⟨_, rfl, _, rfl, p, v, d, ts, rfl, N.m.ex e1, N.ok, N.r.ex e1, fun f' ed' hf' => ⟨fun hn H2 e2 => N.q f' ed' hf' hl hro hn _ (e1.tr e2), fun k a b hs d2 H2 e2 h2 => N.e4 f' ed' hf' hl hro k a b hs _ _ (e1.tr e2) h2⟩, fun hb' => absurd hb (by rw [hb']; exact Bool.false_ne_true)⟩
/-- a doing: images and counts -/
abbrev Doing := List Nat × List Nat
def dD (x : Doing) : PyData := .tuple [iD x.1, iD x.2]
theorem noL_d (x : Doing) : noL (dD x) = true := by
  show (noL (iD x.1) && (noL (iD x.2) && true)) = true
  rw [noL_i, noL_i]; rfl
theorem r_d {H : Hp} {v : V} {x : Doing} (h : R H v (dD x)) : ∃ a b c, v = .ref a ∧ H a = some (.tup [.ref b, .ref c]) ∧ H b = some (.tup (nV x.1)) ∧ H c = some (.tup (nV x.2)) := by
  cases h with
  | tup h t =>
    cases t with
    | cons r1 t =>
      cases t with
      | cons r2 t =>
        cases t
        obtain ⟨b, rfl, hb⟩ := r_i r1
        obtain ⟨c, rfl, hc⟩ := r_i r2
        exact ⟨_, b, c, rfl, h, hb, hc⟩
theorem r_d_mk {H : Hp} {a b c : Addr} {x : Doing} (h : H a = some (.tup [.ref b, .ref c])) (hb : H b = some (.tup (nV x.1))) (hc : H c = some (.tup (nV x.2))) : R H (.ref a) (dD x) :=
  .tup h (.cons (r_i_mk hb) (.cons (r_i_mk hc) .nil))
def nothing (ts : Tab) (f : Nat) : Doing := (rl ts f, List.replicate ts.length 0)
def spNoth (CM CN : Addr) : Sp := fun vs H Q _ => ∃ (p : Addr) (ts : Tab) (f : Nat), vs = [.ref p, .int (f : Nat)] ∧ MachAt CM H p ts ∧ Mx.Ok ts ∧ f < Mx.mst ts ∧ ∀ v H', Ex H H' → R H' v (dD (nothing ts f)) → Q v H'
abbrev sNoth : Stmt := top 34
theorem scNoth : FnScope ["machine", "first"] ["machine", "first"] (defScope sNoth) := ⟨rfl, rfl, rfl, by decide +kernel, rfl, by decide +kernel, by decide +kernel⟩
/-- (0,) * m, the 1-tuple laid at p -/
theorem rep_zero {K : PySem.W.Frag} {H : Hp} {p : Addr} {m : Nat} {Q : VK} (hp : H p = some (.tup [.int 0])) (h1 : 1 ≤ m) (h4 : m ≤ 4) (q : ∀ r H', Ex H H' → H' r = some (.tup (nV (List.replicate m 0))) → Q (.ref r) H') : rRep1 K (.ref p) (.int (m : Nat)) H Q := by
  refine ⟨p, m, [.int 0], rfl, rfl, SqT.of hp, by simp, by omega, by omega, by simp, fun r H' e sq k1 k2 => q r H' e ?_⟩
  rw [← rep0]
  by_cases hm : (m : Int) = 1
  · obtain ⟨rfl, rfl⟩ := k1 hm
    obtain rfl : m = 1 := by omega
    exact hp
  · obtain ⟨k3, rfl⟩ := k2 (by omega)
    exact upd_same
theorem ok_noth {f : Addr} {fd : FuncData} (F : Fun K "nothing_done" "nothing_done" sNoth f fd) (TC : TxC K mg CM CC) (D_reached : Def P w K mg base 5 "reached" ["machine", "first"] (spReached CM CN)) : FnOk P w K mg base (L2.CX P w) 6 f fd ["machine", "first"] (spNoth CM CN) := by
  refine F.okX scNoth (fun vs H Q E h => ?_) (fun cdv A outer s H vs Q E hr h => ?_)
  · obtain ⟨p, ts, f, rfl, _⟩ := h
    rfl
  · obtain ⟨p, ts, f, rfl, M, ok, hf, q⟩ := h
    refine ⟨_, (pss_one (ps_ret (pe_tup (pa_cons (pcall D_reached hr (by decide) (pa_cons (pv 0) (pa_cons (pv 1) pa_nil))) (pa_cons (pe_op op_repT1 (pe_tup (pa_cons pe_int pa_nil)) (pe_fld (pv 0) rfl)) pa_nil))))), ?_⟩
    refine ⟨_, rfl, _, rfl, p, _, _, ts, rfl, M, ok, .int _, fun f' ed _ v1 H1 e1 r1 => ?_, fun hb => absurd hb (by rw [show belowD (mst ts : Nat) (.int (f : Nat)) = true from belowD_nat hf]; decide)⟩
    have ef : f' = f := by injection ed with z; omega
    subst ef
    obtain ⟨S, rfl, hS⟩ := r_i r1
    obtain ⟨dx, t, hp, rt⟩ := M
    refine ⟨by show 1 ≤ sizeLine; decide, fun z hz => ?_⟩
    have e2 := e1.tr (Ex.new (o := .tup [.int 0]) hz)
    refine ⟨_, rfl, _, _, _, _, _, rfl, e2 _ _ hp, TC.clM, TC.nM _ (by decide), mf_deeds _ _ _, ?_⟩
    refine rep_zero upd_same ok.l1 ok.l4 fun r H3 e3 h3 => ?_
    refine ⟨by show 2 ≤ sizeLine; decide, fun a ha => q _ _ ((e2.tr e3).tr (Ex.new ha)) (r_d_mk upd_same ?_ ?_)⟩
    · exact (Ex.new ha) _ _ (e3 _ _ ((Ex.new hz) _ _ hS))
    · exact (Ex.new ha) _ _ h3
end
end Onew
end
section
set_option maxHeartbeats 4000000
namespace Mx
/-! doings -/
abbrev Doing := List Nat × List Nat
/-- the doing x, then the deed k -/
def doneOn (ts : Tab) (ns : List Nat) (x : Doing) (k : Nat) : Doing := (x.1.map (im (ts.getD k [])), x.2.set k ((x.2.getD k 0 + 1) % ns.getD k 1))
/-- a doing's form -/
structure Fm (ts : Tab) (ns : List Nat) (x : Doing) : Prop where
  im : ∀ s ∈ x.1, s < mst ts
  l8 : x.1.length ≤ 8
  cl : x.2.length = ts.length
theorem set_eq {l : List Nat} {k v : Nat} (h : k < l.length) : l.set k v = l.take k ++ [v] ++ l.drop (k + 1) := by
  rw [List.set_eq_take_append_cons_drop, if_pos h, List.append_assoc]; rfl
theorem Fm.done {ts : Tab} {ns : List Nat} {x : Doing} (o : Ok ts) (h : Fm ts ns x) {k : Nat} (hk : k < ts.length) : Fm ts ns (doneOn ts ns x k) := by
  have e : ts.getD k [] ∈ ts := by
    rw [List.getD_eq_getElem?_getD, List.getElem?_eq_getElem hk]; exact List.getElem_mem _
  refine ⟨fun s hs => ?_, by rw [doneOn, List.length_map]; exact h.l8, by rw [doneOn, List.length_set]; exact h.cl⟩
  obtain ⟨z, hz, rfl⟩ := List.mem_map.mp hs
  exact (o.im e (h.im z hz)).2
end Mx
end
section
set_option maxRecDepth 100000
set_option maxHeartbeats 4000000
namespace Onew
open PySem PySem.Spec PyProof.Rows L2 G
open Mx (Tab im Rch rl rowF forgF doneOn Fm)
section
variable {P : Program} {w : World} {K : PySem.W.Frag} {mg : Str → Option Value} {base : Heap} {CM CC CR CN CF CT : Addr}
theorem tuple_sqR {H : Hp} {a : Addr} {b : Bool} {xs : List V} {ds : List PyData} {Q : VK} (h : H a = some (sqO b xs)) (r : RAll H xs ds) (q : ∀ v H', Ex H H' → R H' v (.tuple ds) → Q v H') : rTup K [.ref a] H Q := tuple_sq h r q
theorem getD_some {α : Type} {l : List α} {k : Nat} {d x : α} (h : l[k]? = some x) : l.getD k d = x := by rw [List.getD_eq_getElem?_getD, h]; rfl
def spDone (CM CC : Addr) : Sp := fun vs H Q _ => ∃ (p c : Addr) (v : V) (x : Doing) (ts : Tab) (ns es : List Nat) (k : Nat), vs = [.ref p, .ref c, v, .int (k : Nat)] ∧ MachAt CM H p ts ∧ Mx.Ok ts ∧ CounAt CC H c ns es ∧ ns.length = ts.length ∧ 0 ∉ ns ∧ R H v (dD x) ∧ Fm ts ns x ∧ k < ts.length ∧
  ∀ v' H', Ex H H' → R H' v' (dD (doneOn ts ns x k)) → Q v' H'
abbrev sDone : Stmt := top 35
theorem scDone : FnScope ["machine", "counters", "doing", "deed", "images", "counts", "later", "more", "state"] ["machine", "counters", "doing", "deed"] (defScope sDone) := ⟨rfl, rfl, rfl, by decide +kernel, rfl, by decide +kernel, by decide +kernel⟩
theorem ok_done {f : Addr} {fd : FuncData} (F : Fun K "done_on" "done_on" sDone f fd) (T : Txt K mg) (TC : TxC K mg CM CC) : FnOk P w K mg base (L2.CX P w) 1 f fd ["machine", "counters", "doing", "deed"] (spDone CM CC) := by
  refine F.okX scDone (fun vs H Q E h => ?_) (fun cdv A outer s H vs Q E hr h => ?_)
  · obtain ⟨p, c, v, x, ts, ns, es, k, rfl, _⟩ := h
    rfl
  · obtain ⟨p, c, v, x, ts, ns, es, k, rfl, ⟨dx, t, hp, rt⟩, ok, ⟨dy, rr, rq, hc, rr1, rq1⟩, hl, h0, r, fm, hk, q⟩ := h
    have nd := scDone.nd
    refine ⟨_, (pss_cons (ps_asg (pv 2) (pg_tup rfl (pgs_cons (pg_name (i := 4) nd rfl (Or.inl rfl)) (pgs_cons (pg_name (i := 5) nd rfl (Or.inl rfl)) pgs_nil))))
      (pss_cons (ps_set (i := 6) nd rfl (Or.inl rfl) (pe_callTy cr_tup (by rfl) (T.no "tuple" (by decide)) boot_tuple (pa_cons (pe_lc (own := [("state", 8)]) (g := gName 8) (tt := tYes) (te := tOp (rIxT K) (tOp (rIxT K) (tFld K (tVar 0) "tables") (tVar 3)) (tVar 8)) rfl nd (pi_tup (pv 4)) (blkOk_by (N := ["machine", "counters", "doing", "deed", "images", "counts", "later", "more", "state"]) (sc := defScope sDone) (by decide +kernel)) (fun _ _ _ _ _ => (pg_name (i := 8) nd rfl (Or.inl rfl))) (fun _ _ _ _ _ => pts_nil) (fun _ _ _ _ _ => (pe_ix ix_tup (pe_ix ix_tup (pe_fld (pv 0) rfl) (pv 3) (fun _ _ => rfl)) (pv 8) (fun _ _ => rfl)))) pa_nil)))
      (pss_cons (ps_set (i := 7) nd rfl (Or.inl rfl) (pe_op op_mod (pe_op op_add (pe_ix ix_tup (pv 5) (pv 3) (fun _ _ => rfl)) pe_int) (pe_ix ix_tup (pe_fld (pv 1) rfl) (pv 3) (fun _ _ => rfl))))
      (pss_one (ps_ret (pe_tup (pa_cons (pv 6) (pa_cons (pe_op op_catA (pe_op op_catA (pe_slice sl_tupA (pv 5) po_none (po_some (pv 3))) (pe_tup (pa_cons (pv 7) pa_nil))) (pe_slice sl_tupA (pv 5) (po_some (pe_op op_add (pv 3) pe_int)) po_none)) pa_nil)))))))), ?_⟩
    obtain ⟨a, b, cc, rfl, ha, hb, hcc⟩ := r_d r
    obtain ⟨r2, er, hr2⟩ := r_i rr1
    cases er
    obtain ⟨xs, htx, xl, rows⟩ := tab_at rt
    obtain ⟨row, hrow⟩ : ∃ row, ts[k]? = some row := ⟨ts[k], List.getElem?_eq_getElem hk⟩
    obtain ⟨ra, hra1, hra⟩ := rows k row hrow
    have hmem : row ∈ ts := List.mem_of_getElem? hrow
    have erow : ts.getD k [] = row := getD_some hrow
    refine ⟨_, rfl, a, _, rfl, SqT.of ha, rfl, _, _, rfl, _, _, rfl, rfl, ?_⟩
    refine ⟨_, rfl, b, rfl, ⟨_, SqT.of hb⟩, fun D hD => ?_⟩
    refine lc_map walk_tup hD (nD (x.1.map (im row))) (by rw [nD_len, List.length_map, nV_len]) (by rw [nV_len, sizeLine_eq]; have := fm.l8; omega) (noL_n _) (fun H' e => SqT.of (e _ _ hb)) ?_ ?_
    · intro i y H2 H2' d Post hi e2 hy hd kk
      obtain ⟨rfl, hx⟩ := hy
      obtain ⟨s, hs, rfl⟩ := nV_get hx
      have hsm := fm.im s (List.mem_of_getElem? hs)
      have i1 := ok.im hmem hsm
      refine ⟨rfl, _, rfl, _, _, _, _, _, rfl, e2 _ _ hp, TC.clM, TC.nM _ (by decide), mf_tables _ _ _, _, rfl, _, _, _, _, rfl, rfl, SqT.of (e2 _ _ htx), atI_nat hra1, _, rfl, _, _, _, _, rfl, rfl, SqT.of (e2 _ _ hra), atI_nat (nV_at i1.1), kk _ _ Ex.rfl' ?_⟩
      obtain ⟨n, hn, rfl⟩ := nD_at hd
      rw [List.getElem?_map, hs] at hn
      cases hn
      exact .int _
    · intro acc H2 e2 h2 r2'
      unfold tNil
      refine tuple_sqR (b := true) h2 r2' fun v1 H3 e3 r3 => ?_
      obtain ⟨la, rfl, hla⟩ := r_i (ns := x.1.map (im row)) r3
      have e23 := e2.tr e3
      obtain ⟨cnt, hcnt⟩ : ∃ n, x.2[k]? = some n := ⟨x.2[k]'(by rw [fm.cl]; exact hk), List.getElem?_eq_getElem (by rw [fm.cl]; exact hk)⟩
      obtain ⟨rn, hrn⟩ : ∃ n, ns[k]? = some n := ⟨ns[k]'(by rw [hl]; exact hk), List.getElem?_eq_getElem (by rw [hl]; exact hk)⟩
      have rpos : 0 < rn := by
        rcases Nat.eq_zero_or_pos rn with z | z
        · exact absurd (by rw [← z]; exact List.mem_of_getElem? hrn) h0
        · exact z
      refine ⟨_, rfl, _, rfl, _, _, _, _, rfl, rfl, SqT.of (e23 _ _ hcc), atI_nat (nV_at hcnt), _, _, rfl, rfl, _, rfl, _, _, _, _, _, rfl, e23 _ _ hc, TC.clC, TC.nC _ (by decide), cf_rounds _ _, _, rfl, _, _, _, _, rfl, rfl, SqT.of (e23 _ _ hr2), atI_nat (nV_at hrn), _, _, rfl, rfl, by show (0 : Int) < (rn : Nat); omega, ?_⟩
      refine ⟨_, rfl, _, rfl, _, rfl, _, rfl, ?_⟩
      refine sl_to (e23 _ _ hcc) fun s1 H4 e4 h4 => ?_
      refine ⟨_, rfl, by show 1 ≤ sizeLine; decide, fun mo hmo => ?_⟩
      have x5 := Ex.new (o := .tup [.int (((cnt : Nat) + 1 : Int) % (rn : Nat))]) hmo
      have e24 := (e23.tr e4).tr x5
      have hmo' : (upd H4 mo (.tup [.int (((cnt : Nat) + 1 : Int) % (rn : Nat))])) mo = some (.tup (nV [(cnt + 1) % rn])) := by
        rw [upd_same]
        show some (HO.tup [V.int (((cnt : Nat) + 1 : Int) % (rn : Nat))]) = some (HO.tup [V.int (((cnt + 1) % rn : Nat) : Int)])
        rw [Int.natCast_emod]; rfl
      have lx : x.2.length ≤ 4 := by rw [fm.cl]; exact ok.l4
      refine cat_tup (x5 _ _ h4) hmo' ?_ fun c1 H5 e5 h5 => ?_
      · rw [List.length_take, nV_len, nV_len, sizeLine_eq]
        show _ + 1 ≤ _
        omega
      refine ⟨_, rfl, _, rfl, _, _, rfl, rfl, _, rfl, ?_⟩
      unfold tNoPart
      rw [show ((k : Nat) : Int) + 1 = ((k + 1 : Nat) : Int) by omega]
      have hc5 := (e24.tr e5) _ _ hcc
      refine sl_from hc5 fun s2 H6 e6 h6 => ?_
      refine cat_tup (e6 _ _ h5) h6 ?_ fun c2 H7 e7 h7 => ?_
      · rw [List.length_append, List.length_take, List.length_drop, nV_len, nV_len, sizeLine_eq]
        show _ + 1 + _ ≤ _
        omega
      refine ⟨by show 2 ≤ sizeLine; decide, fun pr hpr => q _ _ (((e24.tr e5).tr e6).tr (e7.tr (Ex.new hpr))) (r_d_mk upd_same ?_ ?_)⟩
      · show (upd H7 pr _) la = some (.tup (nV (doneOn ts ns x k).1))
        rw [show (doneOn ts ns x k).1 = x.1.map (im row) by unfold doneOn; rw [erow]]
        exact (Ex.new hpr) _ _ (e7 _ _ (e6 _ _ (e5 _ _ (x5 _ _ (e4 _ _ hla)))))
      · show (upd H7 pr _) c2 = some (.tup (nV (doneOn ts ns x k).2))
        rw [show (doneOn ts ns x k).2 = x.2.take k ++ [(cnt + 1) % rn] ++ x.2.drop (k + 1) by unfold doneOn; rw [getD_some hcnt, getD_some hrn]; exact Mx.set_eq (by rw [fm.cl]; exact hk)]
        rw [← nV_app, ← nV_app, ← nV_take, ← nV_drop]
        exact (Ex.new hpr) _ _ h7
end
end Onew
end
section
set_option maxHeartbeats 4000000
namespace Mx
/-! a walk on and on, each found once -/
section
variable {α : Type} [DecidableEq α] (succ : α → List α)
def ins (W : List α) (y : α) : List α := if y ∈ W then W else W ++ [y]
def expand (W : List α) (x : α) : List α := (succ x).foldl ins W
def run : Nat → List α → Nat → List α
  | 0, W, _ => W
  | n + 1, W, i => match W[i]? with
    | none => W
    | some x => run n (expand succ W x) (i + 1)
variable {succ}
theorem ins_pre (W : List α) (y : α) : W <+: ins W y := by
  unfold ins
  split
  · exact List.prefix_refl _
  · exact List.prefix_append _ _
theorem fold_pre : ∀ (l W : List α), W <+: l.foldl ins W
  | [], W => List.prefix_refl _
  | y :: l, W => (ins_pre W y).trans (fold_pre l (ins W y))
theorem expand_pre (W : List α) (x : α) : W <+: expand succ W x := fold_pre _ _
theorem run_pre : ∀ (n : Nat) (W : List α) (i : Nat), W <+: run succ n W i
  | 0, W, _ => List.prefix_refl _
  | n + 1, W, i => by
    unfold run
    split
    · exact List.prefix_refl _
    · exact (expand_pre W _).trans (run_pre n _ _)
theorem memIns {W : List α} {y z : α} : z ∈ ins W y ↔ z ∈ W ∨ z = y := by
  unfold ins
  split
  · rename_i h
    exact ⟨.inl, fun h' => h'.elim id fun e => by rw [e]; exact h⟩
  · rw [List.mem_append, List.mem_singleton]
theorem mem_fold {z : α} : ∀ {l W : List α}, z ∈ l.foldl ins W ↔ z ∈ W ∨ z ∈ l
  | [], W => by simp
  | y :: l, W => by rw [List.foldl_cons, mem_fold, memIns, List.mem_cons, or_assoc]
theorem mem_expand {W : List α} {x z : α} : z ∈ expand succ W x ↔ z ∈ W ∨ z ∈ succ x := mem_fold
theorem ins_nodup {W : List α} {y : α} (h : W.Nodup) : (ins W y).Nodup := by
  unfold ins
  split
  · exact h
  · rename_i n
    rw [List.nodup_append]
    exact ⟨h, by simp, fun a ha b hb e => n (by rw [← List.mem_singleton.mp hb, ← e]; exact ha)⟩
theorem fold_nodup : ∀ {l W : List α}, W.Nodup → (l.foldl ins W).Nodup
  | [], _, h => h
  | y :: l, W, h => fold_nodup (l := l) (ins_nodup h)
theorem run_nodup : ∀ {n : Nat} {W : List α} {i : Nat}, W.Nodup → (run succ n W i).Nodup
  | 0, _, _, h => h
  | n + 1, W, i, h => by
    unfold run
    split
    · exact h
    · exact run_nodup (fold_nodup h)
/-- what all have that the first have, and that goes on -/
theorem run_all {P : α → Prop} (hs : ∀ x, P x → ∀ y ∈ succ x, P y) : ∀ {n : Nat} {W : List α} {i : Nat}, (∀ x ∈ W, P x) → ∀ x ∈ run succ n W i, P x
  | 0, _, _, h => h
  | n + 1, W, i, h => by
    unfold run
    split
    · exact h
    · rename_i x e
      refine run_all hs fun y hy => ?_
      rcases mem_expand.mp hy with hy | hy
      · exact h y hy
      · exact hs x (h x (List.mem_of_getElem? e)) y hy
theorem run_step {n : Nat} {W : List α} {i : Nat} {x : α} (h : W[i]? = some x) : run succ (n + 1) W i = run succ n (expand succ W x) (i + 1) := by
  rw [run, h]
theorem run_stop {n : Nat} {W : List α} {i : Nat} (h : W.length ≤ i) : run succ n W i = W := by
  cases n with
  | zero => rfl
  | succ n => rw [run, List.getElem?_eq_none h]
theorem run_more {m : Nat} : ∀ {n : Nat} {W : List α} {i : Nat}, (run succ n W i).length ≤ i + n → run succ (n + m) W i = run succ n W i
  | 0, W, i, h => by
    have h' : W.length ≤ i := h
    rw [Nat.zero_add, run_stop h', run_stop h']
  | n + 1, W, i, h => by
    rw [show n + 1 + m = (n + m) + 1 by omega]
    cases e : W[i]? with
    | none => rw [run, run, e]
    | some x =>
      rw [run_step e, run_step e]
      rw [run_step e] at h
      exact run_more (by omega)
/-- ended: all that follows is in -/
theorem run_closed : ∀ {n : Nat} {W : List α} {i : Nat}, (run succ n W i).length ≤ i + n → ∀ {j : Nat} {x : α}, i ≤ j → (run succ n W i)[j]? = some x → ∀ y ∈ succ x, y ∈ run succ n W i
  | 0, W, i, h, j, x, hj, hx, y, _ => by
    have h' : W.length ≤ i := h
    have hx' : W[j]? = some x := hx
    rw [List.getElem?_eq_none (by omega)] at hx'
    cases hx'
  | n + 1, W, i, h, j, x, hj, hx, y, hy => by
    cases e : W[i]? with
    | none =>
      have e' : run succ (n + 1) W i = W := by rw [run, e]
      rw [e'] at hx
      have := List.getElem?_eq_none_iff.mp e
      rw [List.getElem?_eq_none (by omega)] at hx
      cases hx
    | some z =>
      rw [run_step e] at h hx ⊢
      rcases Nat.lt_or_ge i j with q | q
      · exact run_closed (by omega) (j := j) (by omega) hx y hy
      · have ej : j = i := by omega
        subst ej
        have pre := run_pre (succ := succ) n (expand succ W z) (j + 1)
        have hz : (run succ n (expand succ W z) (j + 1))[j]? = some z := by
          have lt : j < W.length := by
            rcases Nat.lt_or_ge j W.length with q | q
            · exact q
            · rw [List.getElem?_eq_none q] at e; cases e
          obtain ⟨r, hr⟩ := (expand_pre (succ := succ) W z).trans pre
          rw [← hr, List.getElem?_append_left lt, e]
        rw [hz] at hx
        cases hx
        exact pre.subset (mem_expand.mpr (.inr hy))
/-- within a finite list: ended -/
theorem run_len {U : List α} {n : Nat} {W : List α} {i : Nat} (hw : W.Nodup) (hu : ∀ x ∈ run succ n W i, x ∈ U) : (run succ n W i).length ≤ U.length := len_le_of_sub (run_nodup hw) hu
/-- two walks with the same steps from the same start find the same, whatever the fuel -/
theorem run_eq {n m : Nat} {W : List α} {i : Nat} (h1 : (run succ n W i).length ≤ i + n) (h2 : (run succ m W i).length ≤ i + m) : run succ n W i = run succ m W i := by
  rcases Nat.le_total n m with h | h
  · obtain ⟨k, rfl⟩ := Nat.exists_eq_add_of_le h
    exact (run_more h1).symm
  · obtain ⟨k, rfl⟩ := Nat.exists_eq_add_of_le h
    exact run_more h2
end
/-- the doings that follow x -/
def nextD (ts : Tab) (ns : List Nat) (x : Doing) : List Doing := (List.range ts.length).map (doneOn ts ns x)
/-- .. with where a witness stands -/
def nextP (ts : Tab) (ns : List Nat) (ws : Tab) (x : Doing × Nat) : List (Doing × Nat) := (List.range ts.length).map fun k => (doneOn ts ns x.1 k, im (ws.getD k []) x.2)
end Mx
end
section
set_option maxRecDepth 100000
set_option maxHeartbeats 4000000
namespace Onew
open PySem PySem.Spec PyProof.Rows L2 G
open Mx (Tab im Rch rl rowF forgF doneOn Fm nextD)
/-! ### doings as keys -/
def iK (ns : List Nat) : NestedKey := .tup (ns.map fun n : Nat => .num n)
def kD (x : Doing) : NestedKey := .tup [iK x.1, iK x.2]
def pD (x : Doing × Nat) : PyData := .tuple [dD x.1, .int (x.2 : Nat)]
def kP (x : Doing × Nat) : NestedKey := .tup [kD x.1, .num x.2]
theorem datas_n : ∀ ns : List Nat, NestedKey.datas (ns.map fun n : Nat => NestedKey.num n) = nD ns
  | [] => rfl
  | n :: ns => by rw [List.map_cons, NestedKey.datas, datas_n ns]; rfl
theorem iK_data (ns : List Nat) : (iK ns).data = iD ns := by unfold iK; rw [NestedKey.data, datas_n]; rfl
theorem kD_data (x : Doing) : (kD x).data = dD x := by
  unfold kD; rw [NestedKey.data, NestedKey.datas, NestedKey.datas, NestedKey.datas, iK_data, iK_data]; rfl
theorem kP_data (x : Doing × Nat) : (kP x).data = pD x := by
  unfold kP; rw [NestedKey.data, NestedKey.datas, NestedKey.datas, NestedKey.datas, kD_data, NestedKey.data]; rfl
theorem depthAll_n : ∀ ns : List Nat, NestedKey.depthAll (ns.map fun n : Nat => NestedKey.num n) = 0
  | [] => rfl
  | n :: ns => by rw [List.map_cons, NestedKey.depthAll, depthAll_n ns]; rfl
theorem iK_depth (ns : List Nat) : (iK ns).depth = 1 := by unfold iK; rw [NestedKey.depth, depthAll_n]
theorem kD_depth (x : Doing) : (kD x).depth = 2 := by
  unfold kD; rw [NestedKey.depth, NestedKey.depthAll, NestedKey.depthAll, NestedKey.depthAll, iK_depth, iK_depth]; rfl
theorem kP_depth (x : Doing × Nat) : (kP x).depth = 3 := by
  unfold kP; rw [NestedKey.depth, NestedKey.depthAll, NestedKey.depthAll, NestedKey.depthAll, kD_depth, NestedKey.depth]; rfl
theorem iK_inj {a b : List Nat} (h : iK a = iK b) : a = b := by
  have := NestedKey.tup.inj h
  induction a generalizing b with
  | nil => cases b with
    | nil => rfl
    | cons => cases this
  | cons x a ih => cases b with
    | nil => cases this
    | cons y b =>
      rw [List.map_cons, List.map_cons] at this
      have e := List.cons.inj this
      have e1 := NestedKey.num.inj e.1
      rw [ih (by unfold iK; rw [e.2]) e.2, show x = y by omega]
theorem kD_inj {a b : Doing} (h : kD a = kD b) : a = b := by
  have := NestedKey.tup.inj h
  have e := List.cons.inj this
  have e2 := List.cons.inj e.2
  exact Prod.ext (iK_inj e.1) (iK_inj e2.1)
theorem kP_inj {a b : Doing × Nat} (h : kP a = kP b) : a = b := by
  have := NestedKey.tup.inj h
  have e := List.cons.inj this
  have e2 := List.cons.inj e.2
  have e3 := NestedKey.num.inj e2.1
  exact Prod.ext (kD_inj e.1) (by omega)
/-- a dict of keys, all True -/
def kvK {α : Type} (key : α → NestedKey) (W : List α) : List (NestedKey × V) := W.map fun y => (key y, .bl true)
section
variable {α : Type} [DecidableEq α] {key : α → NestedKey}
theorem valV_kvK (inj : ∀ x y, key x = key y → x = y) {y : α} : ∀ W : List α, valV (kvK key W) (key y) = if y ∈ W then some (.bl true) else none
  | [] => rfl
  | z :: W => by
    show valV ((key z, V.bl true) :: kvK key W) _ = _
    by_cases h : z = y
    · subst h
      rw [valV_pos rfl, if_pos (.head _)]
    · rw [valV_neg (fun e => h (inj _ _ e)), valV_kvK inj W]
      by_cases h2 : y ∈ W
      · rw [if_pos h2, if_pos (.tail _ h2)]
      · rw [if_neg h2, if_neg (fun e => by rcases List.mem_cons.mp e with e | e; exact h e.symm; exact h2 e)]
theorem putK_kvK (inj : ∀ x y, key x = key y → x = y) {y : α} {W : List α} (h : y ∉ W) : putK (kvK key W) (key y) (.bl true) = kvK key (W ++ [y]) := by
  rw [putK_new _ (by rw [valV_kvK inj, if_neg h])]
  unfold kvK; rw [List.map_append]; rfl
end
theorem dm_tx {P : Program} {w : World} {H H' : Hp} {d : Addr} {kvs : List (NestedKey × V)} (x : DM P w H d kvs) (e : Tx H H') (hd : ∀ o, H d = some o → H' d = some o) : DM P w H' d kvs := let ⟨a, b, c, xs, h, k⟩ := x; ⟨a, b, c, xs, hd _ h, k.tx e⟩
theorem dm_nt {P : Program} {w : World} {H : Hp} {d : Addr} {kvs : List (NestedKey × V)} (x : DM P w H d kvs) {u : HO} : Tx H (upd H d u) := by
  obtain ⟨_, _, _, xs, h, _⟩ := x
  exact Tx.put h nd_notup
theorem dm_some {P : Program} {w : World} {H : Hp} {d : Addr} {kvs : List (NestedKey × V)} (x : DM P w H d kvs) : ∃ xs, H d = some (ND P w d xs) := by
  obtain ⟨_, _, _, xs, h, _⟩ := x
  exact ⟨xs, h⟩
/-- the walk's two: found at D, waiting at L -/
structure Bfs {α : Type} (P : Program) (w : World) (key : α → NestedKey) (H0 H : Hp) (D L : Addr) (W : List α) : Prop where
  ex : Ex H0 H
  d0 : H0 D = none
  l0 : H0 L = none
  dm : DM P w H D (kvK key W)
  ls : ∃ vs, H L = some (.lst vs) ∧ RAll H vs (W.map fun y => (key y).data)
section
variable {α : Type} {P : Program} {w : World} {key : α → NestedKey} {H0 H H' : Hp} {D L : Addr} {W : List α}
theorem noL_keysM : ∀ W : List α, noLs (W.map fun y => (key y).data) = true
  | [] => rfl
  | y :: W => by simp only [List.map_cons, noLs, noL_key, Bool.true_and]; exact noL_keysM W
theorem Bfs.up (b : Bfs P w key H0 H D L W) (e : Ex H H') : Bfs P w key H0 H' D L W := ⟨b.ex.tr e, b.d0, b.l0, b.dm.ex e, let ⟨vs, h, r⟩ := b.ls; ⟨vs, e _ _ h, r.ex e⟩⟩
theorem Bfs.ne (b : Bfs P w key H0 H D L W) : D ≠ L := by
  obtain ⟨xs, h⟩ := dm_some b.dm
  obtain ⟨vs, h2, _⟩ := b.ls
  intro e
  rw [e, h2] at h
  unfold ND at h
  cases h
theorem Bfs.len (b : Bfs P w key H0 H D L W) : (kvK key W).length = W.length := List.length_map _
/-- y put into both -/
theorem Bfs.put [DecidableEq α] (inj : ∀ x y, key x = key y → x = y) (b : Bfs P w key H0 H D L W) {y : α} (hy : y ∉ W) {v : V} (hv : R H v (key y).data) {u : HO} (hd : DM P w (upd H D u) D (putK (kvK key W) (key y) (.bl true))) :
    ∃ vs, (upd H D u) L = some (.lst vs) ∧ vs.length = W.length ∧ Bfs P w key H0 (upd (upd H D u) L (.lst (vs ++ [v]))) D L (W ++ [y]) ∧ Tx H (upd (upd H D u) L (.lst (vs ++ [v]))) := by
  obtain ⟨vs, h2, r⟩ := b.ls
  have ne := b.ne
  have t1 : Tx H (upd H D u) := dm_nt b.dm
  have h2' : (upd H D u) L = some (.lst vs) := by rw [upd_ne ne.symm]; exact h2
  have t2 : Tx (upd H D u) (upd (upd H D u) L (.lst (vs ++ [v]))) := Tx.put h2' fun xs z => by cases z
  refine ⟨vs, h2', by rw [r.length, List.length_map], ⟨(b.ex.mut b.d0).mut b.l0, b.d0, b.l0, ?_, vs ++ [v], upd_same, ?_⟩, t1.tr t2⟩
  · rw [← putK_kvK inj hy]
    exact dm_tx hd t2 fun o h => by rw [upd_ne ne]; exact h
  · rw [List.map_append]
    exact RAll.app (RAll.tx (t1.tr t2) _ _ (noL_keysM W) r) (RAll.one (R.tx (t1.tr t2) _ _ (noL_key _) hv))
end
end Onew
end
section
set_option maxRecDepth 100000
set_option maxHeartbeats 4000000
namespace Onew
open PySem PySem.Spec PyProof.Rows L2 G
open Mx (Tab im Rch rl rowF forgF doneOn Fm nextD)
section
variable {P : Program} {w : World} {K : PySem.W.Frag} {mg : Str → Option Value} {base : Heap} {CM CC CR CN CF CT : Addr}
/-- the doings from first on -/
abbrev doings (ts : Tab) (ns : List Nat) (f N : Nat) : List Doing := Mx.run (nextD ts ns) N [nothing ts f] 0
theorem fm_nothing {ts : Tab} {ns : List Nat} (ok : Mx.Ok ts) {f : Nat} (hf : f < Mx.mst ts) : Fm ts ns (nothing ts f) :=
  ⟨fun s hs => Mx.rl_lt ok hf hs, Nat.le_trans (Mx.rl_len ok hf) ok.m8, by unfold nothing; rw [List.length_replicate]⟩
theorem fm_next {ts : Tab} {ns : List Nat} (ok : Mx.Ok ts) {x y : Doing} (h : Fm ts ns x) (hy : y ∈ nextD ts ns x) : Fm ts ns y := by
  obtain ⟨k, hk, rfl⟩ := List.mem_map.mp hy
  exact h.done ok (List.mem_range.mp hk)
def spDFrom (CM CC CT : Addr) (P : Program) (w : World) : Sp := fun vs H Q E => ∃ (p c : Addr) (ts : Tab) (ns es : List Nat) (f most N : Nat), vs = [.ref p, .int (f : Nat), .ref c, .int (most : Nat)] ∧ MachAt CM H p ts ∧ Mx.Ok ts ∧ f < Mx.mst ts ∧ CounAt CC H c ns es ∧ ns.length = ts.length ∧ 0 ∉ ns ∧ 1 ≤ most ∧ N ≤ 10000 ∧
  (doings ts ns f N).length ≤ N ∧ ((doings ts ns f N).length ≤ most → ∀ d H', Ex H H' → DM P w H' d (kvK kD (doings ts ns f N)) → Q (.ref d) H') ∧ (most < (doings ts ns f N).length → Rais E H CT "most" (.int (most : Nat)))
abbrev sDFrom : Stmt := top 36
theorem scDFrom : FnScope ["machine", "first", "counters", "most", "begin", "found", "waiting", "at", "doing", "deed", "after"] ["machine", "first", "counters", "most"] (defScope sDFrom) := ⟨rfl, rfl, rfl, by decide +kernel, rfl, by decide +kernel, by decide +kernel⟩
def muAt (i N : Nat) (σ : L2.St) : Nat := match σ[i]? with
  | some (some (.int a)) => N + 1 - a.toNat
  | _ => 0
theorem drop_cons {α : Type} {l : List α} {j : Nat} {y : α} (h : l[j]? = some y) : l.drop j = y :: l.drop (j + 1) := by
  have hj : j < l.length := by
    rcases Nat.lt_or_ge j l.length with e | e
    · exact e
    · rw [List.getElem?_eq_none e] at h; cases h
  rw [List.drop_eq_getElem_cons hj]
  rw [List.getElem?_eq_getElem hj] at h
  rw [Option.some.inj h]
theorem ok_dfrom {f : Addr} {fd : FuncData} (F : Fun K "doings_from" "doings_from" sDFrom f fd) (T : Txt K mg) (TC : TxC K mg CM CC) (TE : TxE P K mg CR CN CF CT) (D_nothing_done : Def P w K mg base 6 "nothing_done" ["machine", "first"] (spNoth CM CN))
    (D_done_on : Def P w K mg base 1 "done_on" ["machine", "counters", "doing", "deed"] (spDone CM CC)) : FnOk P w K mg base (L2.CX P w) 7 f fd ["machine", "first", "counters", "most"] (spDFrom CM CC CT P w) := by
  obtain ⟨fI, xT⟩ := TE.tg
  refine F.okX scDFrom (fun vs H Q E h => ?_) (fun cdv A outer s H vs Q E hr h => ?_)
  · obtain ⟨p, c, ts, ns, es, f, most, N, rfl, _⟩ := h
    rfl
  · obtain ⟨p, c, ts, ns, es, f, most, N, rfl, M, ok, hf, Cn, hl, h0, hm, hN, hfin, q1, q2⟩ := h
    have nd := scDFrom.nd
    refine ⟨_, (pss_cons (ps_set (i := 4) nd rfl (Or.inl rfl) (pcall D_nothing_done hr (by decide) (pa_cons (pv 0) (pa_cons (pv 1) pa_nil))))
      (pss_cons (ps_set (i := 5) nd rfl (Or.inl rfl) (pe_disp1N (hu64 hr) (pv 4) pe_bl))
      (pss_cons (ps_set (i := 6) nd rfl (Or.inl rfl) (pe_lst (pa_cons (pv 4) pa_nil)))
      (pss_cons (ps_set (i := 7) nd rfl (Or.inl rfl) pe_int)
      (pss_cons (ps_while (passes_of rfl) (pt_cmpR op_lt (pv 7) (pe_callB call_len_seq (by rfl) (T.no "len" (by decide)) boot_len (pa_cons (pv 6) pa_nil)) (nomark _)) (pss_cons (ps_set (i := 8) nd rfl (Or.inl rfl) (pe_ix ix_list (pv 6) (pv 7) (fun _ _ => rfl)))
      (pss_cons (ps_aug (i := 7) nd rfl (Or.inl rfl) pe_int ip_add)
      (pss_one (ps_for (passes_of rfl) rfl (pi_range1 rfl (T.no "range" (by decide)) (pa_cons (pe_fld (pv 0) rfl) pa_nil)) (pg_name (i := 9) nd rfl (Or.inl rfl)) (pss_cons (ps_set (i := 10) nd rfl (Or.inl rfl) (pcall D_done_on hr (by decide) (pa_cons (pv 0) (pa_cons (pv 2) (pa_cons (pv 8) (pa_cons (pv 9) pa_nil))))))
      (pss_one (ps_if (pt_cmpR (op_notInN (hu64 hr)) (pv 10) (pv 5) (by rfl)) (pss_cons (ps_if (pt_cmpR op_eq (pe_callB cr_lenN (by rfl) (T.no "len" (by decide)) boot_len (pa_cons (pv 5) pa_nil)) (pv 3) (nomark _)) (pss_one (ps_raiseX (W := fun cls d _ H => E cls d H) rfl xT hr tk_own (pa_cons (pv 3) pa_nil))) pss_nil)
      (pss_cons (ps_asg pe_bl (pg_sub (pv 5) (pv 10) (set_N (hu64 hr))))
      (pss_one (ps_expr (pe_bm PySem.F.plainAttrs_list PySem.F.slot_list_append PySem.F.type_list_append mt_append (pv 6) (pa_cons (pv 10) pa_nil)))))) pss_nil))))))))
      (pss_one (ps_ret (pv 5)))))))), ?_⟩
    refine ⟨_, rfl, _, rfl, p, ts, f, rfl, M, ok, hf, fun v1 H1 e1 r1 => ?_⟩
    intro D hD
    have eD := Ex.new (o := ND P w D []) hD
    obtain ⟨b1, i1, c1, rfl, hb1, hi1, hc1⟩ := r_d r1
    refine ⟨_, rfl, upd_same, b1, kD (nothing ts f), rfl, by rw [kD_data]; exact r1.ex eD, by rw [kD_depth]; decide, fun u hdm => ?_⟩
    refine ⟨_, rfl, by show 1 ≤ sizeLine; decide, fun L hL => ?_⟩
    have hD0 : H D = none := e1.back hD
    have nLD : L ≠ D := fun z => by rw [z, upd_same] at hL; cases hL
    have hL1 : H1 L = none := by rw [upd_ne nLD, upd_ne nLD] at hL; exact hL
    have hL0 : H L = none := e1.back hL1
    have hra : R (upd (upd (upd H1 D (ND P w D [])) D u) L (.lst [V.ref b1])) (.ref b1) (dD (nothing ts f)) := R.tx (eD.t.tr ((Tx.put upd_same nd_notup).tr (Ex.new hL).t)) _ _ (noL_d _) r1
    have B0 : Bfs P w kD H (upd (upd (upd H1 D (ND P w D [])) D u) L (.lst [V.ref b1])) D L [nothing ts f] :=
      ⟨((e1.tr eD).mut hD0).mut hL0, hD0, hL0, DM.ex hdm (Ex.new hL), [.ref b1], upd_same, .cons (by show R _ _ (kD (nothing ts f)).data; rw [kD_data]; exact hra) .nil⟩
    refine while_by (fun σ H' => ∃ (W : List Doing) (at_ : Nat) (x8 x9 x10 : Option V), σ = [some (.ref p), some (.int (f : Nat)), some (.ref c), some (.int (most : Nat)), some (.ref b1), some (.ref D), some (.ref L), some (.int (at_ : Nat)), x8, x9, x10] ∧ Bfs P w kD H H' D L W ∧ W.Nodup ∧ at_ ≤ N ∧
      Mx.run (nextD ts ns) (N - at_) W at_ = doings ts ns f N ∧ W.length ≤ most ∧ ∀ y ∈ W, Fm ts ns y) (fun σ H' => muAt 7 N σ) ?_ ?_ ?_
    · exact ⟨[nothing ts f], 0, _, _, _, rfl, B0, by simp, Nat.zero_le _, rfl, by simpa using hm, fun y hy => by rw [List.mem_singleton.mp hy]; exact fm_nothing ok hf⟩
    · rintro σ H2 ⟨W, at_, x8, x9, x10, rfl, B, ndW, hat, hrun, hlen, hfm⟩
      obtain ⟨vs, hLv, rv⟩ := B.ls
      have vl : vs.length = W.length := by rw [rv.length, List.length_map]
      refine ⟨_, rfl, _, rfl, _, _, rfl, .inl (SqL.of hLv), _, _, rfl, rfl, _, rfl, ?_⟩
      rw [vl]
      by_cases hlt : at_ < W.length
      · refine itT (dT (by omega)) ?_
        have hx : W[at_]? = some W[at_] := List.getElem?_eq_getElem hlt
        generalize hxe : W[at_] = x at hx
        obtain ⟨v8, hv8, r8⟩ := RAll.at rv (i := at_) (d := (kD x).data) (by rw [List.getElem?_map, hx]; rfl)
        rw [kD_data] at r8
        have hWN : W.length ≤ N := by
          have := (Mx.run_pre (succ := nextD ts ns) (N - at_) W at_).length_le
          rw [hrun] at this
          omega
        have hstep : Mx.run (nextD ts ns) (N - (at_ + 1)) (Mx.expand (nextD ts ns) W x) (at_ + 1) = doings ts ns f N := by
          rw [← hrun, show N - at_ = (N - (at_ + 1)) + 1 by omega, Mx.run_step hx]
        have hpre : (Mx.expand (nextD ts ns) W x) <+: doings ts ns f N := by rw [← hstep]; exact Mx.run_pre _ _ _
        have fmx := hfm x (List.mem_of_getElem? hx)
        refine ⟨_, rfl, _, rfl, _, _, _, _, rfl, rfl, SqL.of hLv, atI_nat hv8, ?_⟩
        refine ⟨_, rfl, _, _, rfl, rfl, ?_⟩
        obtain ⟨dx, t, hp, rt⟩ := id M
        refine ⟨_, rfl, _, _, _, _, _, rfl, B.ex _ _ hp, TC.clM, TC.nM _ (by decide), mf_deeds _ _ _, ?_⟩
        have l4 := ok.l4
        refine ⟨_, rfl, by omega, by omega, ?_⟩
        refine for_it walk_range (fun j σ H' => ∃ (W' : List Doing) (x9 x10 : Option V), σ = [some (.ref p), some (.int (f : Nat)), some (.ref c), some (.int (most : Nat)), some (.ref b1), some (.ref D), some (.ref L), some (.int ((at_ + 1 : Nat) : Int)), some v8, x9, x10] ∧ Bfs P w kD H H' D L W' ∧ W'.Nodup ∧ R H' v8 (dD x) ∧
          ((nextD ts ns x).drop j).foldl Mx.ins W' = Mx.expand (nextD ts ns) W x ∧ W'.length ≤ most ∧ ∀ y ∈ W', Fm ts ns y) ⟨W, _, _, rfl, B, ndW, r8, rfl, hlen, hfm⟩ (fun _ _ _ _ _ => trivial) ?_ ?_
        · rintro j xv σ H3 H3' hj ⟨W', x9', x10', rfl, B3, nd3, r3, hfold, hlen3, hfm3⟩ ⟨rfl, hxv⟩
          have hj' : j < ts.length := by omega
          have hy : (nextD ts ns x)[j]? = some (doneOn ts ns x j) := by
            unfold nextD
            rw [List.getElem?_map, List.getElem?_range hj']; rfl
          have hxv' : xv = .int (j : Nat) := by rw [hxv]; simp
          subst hxv'
          refine ⟨_, rfl, _, rfl, _, rfl, _, rfl, p, c, v8, x, ts, ns, es, j, rfl, M.ex B3.ex, ok, Cn.ex B3.ex, hl, h0, r3, fmx, hj', fun v9 H4 e4 r9 => ?_⟩
          have B4 := B3.up e4
          obtain ⟨a9, i9, c9, rfl, ha9, hi9, hc9⟩ := r_d r9
          rw [drop_cons hy, List.foldl_cons] at hfold
          refine ⟨_, rfl, _, rfl, a9, D, kD (doneOn ts ns x j), _, rfl, rfl, by rw [kD_data]; exact r9, by rw [kD_depth]; decide, B4.dm.dn, _, rfl, ?_⟩
          rw [valV_kvK (fun _ _ => kD_inj)]
          by_cases hin : doneOn ts ns x j ∈ W'
          · rw [if_pos hin]
            refine itF rfl ⟨W', _, _, rfl, B4, nd3, r3.ex e4, ?_, hlen3, hfm3⟩
            rw [← hfold, Mx.ins, if_pos hin]
          · rw [if_neg hin]
            rw [Mx.ins, if_neg hin] at hfold
            refine itT rfl ?_
            have hmore : W'.length + 1 ≤ (doings ts ns f N).length := by
              have := (Mx.fold_pre ((nextD ts ns x).drop (j + 1)) (W' ++ [doneOn ts ns x j])).length_le
              rw [hfold, List.length_append, List.length_singleton] at this
              have := hpre.length_le
              omega
            refine ⟨_, rfl, D, _, rfl, B4.dm.dn, _, rfl, rfl, _, rfl, ?_⟩
            rw [B4.len]
            by_cases hmo : W'.length = most
            · refine itT (by rw [hmo]; simp) ⟨_, rfl, rfl, fun d2 h2 => q2 (by omega) _ _ ((B4.ex).tr (Ex.new h2)) upd_same⟩
            · refine itF (by simp; omega) ?_
              refine ⟨_, rfl, _, rfl, a9, D, kD (doneOn ts ns x j), _, rfl, rfl, by rw [kD_data]; exact r9, by rw [kD_depth]; decide, B4.dm, by rw [B4.len, sizeLine_eq]; omega, fun u hdm => ?_⟩
              obtain ⟨vs5, h5, l5, B5, t5⟩ := B4.put (fun _ _ => kD_inj) hin (v := .ref a9) (by rw [kD_data]; exact r9) hdm
              refine ⟨_, rfl, .inl ⟨rfl, _, SqL.of h5⟩, _, rfl, L, _, _, rfl, rfl, h5, by rw [l5, sizeLine_eq]; omega, ?_⟩
              refine ⟨W' ++ [doneOn ts ns x j], _, _, rfl, B5, ?_, R.tx (e4.t.tr t5) _ _ (noL_d _) r3, hfold, by rw [List.length_append, List.length_singleton]; omega, fun y hy2 => ?_⟩
              · rw [List.nodup_append]
                exact ⟨nd3, by simp, fun a ha b hb e => hin (by rw [← List.mem_singleton.mp hb, ← e]; exact ha)⟩
              · rcases List.mem_append.mp hy2 with h | h
                · exact hfm3 y h
                · rw [List.mem_singleton.mp h]; exact fmx.done ok hj'
        · rintro σ H3 ⟨W', x9', x10', rfl, B3, nd3, r3, hfold, hlen3, hfm3⟩
          have hnil : (nextD ts ns x).drop ((ts.length : Int)).toNat = [] := by
            rw [List.drop_of_length_le]
            unfold nextD
            rw [List.length_map, List.length_range]; omega
          rw [hnil] at hfold
          have hW : W' = Mx.expand (nextD ts ns) W x := hfold
          subst hW
          refine ⟨⟨_, at_ + 1, _, _, _, rfl, B3, nd3, by omega, hstep, hlen3, hfm3⟩, ?_⟩
          show N + 1 - _ < N + 1 - _
          simp only [Int.toNat_natCast]
          omega
      · refine itF (decide_eq_false (by omega)) ?_
        have hW : W = doings ts ns f N := by rw [← hrun, Mx.run_stop (by omega)]
        subst hW
        exact ⟨_, rfl, q1 hlen D H2 B.ex B.dm⟩
    · rintro σ H' Q Q' h ⟨_, a0, _, a1, _, _, a2, a3, _, _, a4, a5, _, a6, q⟩
      exact ⟨_, a0, _, a1, _, _, a2, a3, _, _, a4, a5, _, a6, h _ _ q⟩
end
end Onew
end
section
set_option maxHeartbeats 4000000
namespace Mx
/-! one doing behind another -/
def z3 : List Nat → List Nat → List Nat → List Nat
  | a :: as, b :: bs, n :: ns => (a + b) % n :: z3 as bs ns
  | _, _, _ => []
theorem z3_len : ∀ {as bs ns : List Nat} {k : Nat}, as.length = k → bs.length = k → ns.length = k → (z3 as bs ns).length = k
  | [], _, _, _, h, _, _ => by cases h; rfl
  | a :: as, [], _, _, h, h2, _ => by rw [← h2] at h; cases h
  | a :: as, b :: bs, [], _, h, _, h3 => by rw [← h3] at h; cases h
  | a :: as, b :: bs, n :: ns, 0, h, _, _ => by cases h
  | a :: as, b :: bs, n :: ns, k + 1, h, h2, h3 => by
    simp only [List.length_cons] at h h2 h3
    show (z3 as bs ns).length + 1 = k + 1
    rw [z3_len (k := k) (by omega) (by omega) (by omega)]
theorem z3_at : ∀ {as bs ns : List Nat} {i a b n : Nat}, as[i]? = some a → bs[i]? = some b → ns[i]? = some n → (z3 as bs ns)[i]? = some ((a + b) % n)
  | x :: as, y :: bs, z :: ns, 0, a, b, n, h1, h2, h3 => by cases h1; cases h2; cases h3; rfl
  | x :: as, y :: bs, z :: ns, i + 1, a, b, n, h1, h2, h3 => z3_at (as := as) (bs := bs) (ns := ns) (i := i) h1 h2 h3
/-- x, then y; S the states in order -/
def behind (S ns : List Nat) (x y : Doing) : Doing := (x.1.map fun s => y.1.getD (S.idxOf s) 0, z3 x.2 y.2 ns)
end Mx
end
section
set_option maxRecDepth 100000
set_option maxHeartbeats 4000000
namespace Onew
open PySem PySem.Spec PyProof.Rows L2 G
open Mx (Tab im Rch rl rowF forgF doneOn Fm nextD behind z3)
theorem tnil {σ : L2.St} {H : Hp} {Q : List V → Hp → Prop} (h : Q [] H) : tNil σ H Q := h
theorem tnop {σ : L2.St} {H : Hp} {Q : Option Int → Hp → Prop} (h : Q none H) : tNoPart σ H Q := h
theorem alike_n : ∀ a b : List Nat, PySem.W.alikeAll (nD a) (nD b) = true
  | [], _ => by simp [nD, PySem.W.alikeAll]
  | a :: as, [] => by simp [nD, PySem.W.alikeAll]
  | a :: as, b :: bs => by
    show PySem.W.alikeAll (.int (a : Nat) :: nD as) (.int (b : Nat) :: nD bs) = true
    rw [PySem.W.alikeAll, alike_n as bs]; rfl
theorem alike_d (x y : Doing) : PySem.W.alike (dD x) (dD y) = true := by
  unfold dD
  rw [PySem.W.alike, PySem.W.alikeAll, PySem.W.alikeAll, PySem.W.alikeAll]
  unfold iD
  rw [PySem.W.alike, PySem.W.alike, alike_n, alike_n]; rfl
theorem depth_n : ∀ a : List Nat, PyData.depthAll (nD a) = 0
  | [] => rfl
  | a :: as => by
    show PyData.depthAll (.int (a : Nat) :: nD as) = 0
    rw [PyData.depthAll, depth_n as, PyData.depth]; rfl
theorem depth_d (x : Doing) : (dD x).depth ≤ 2 := by
  unfold dD iD
  rw [PyData.depth, PyData.depthAll, PyData.depthAll, PyData.depthAll, PyData.depth, PyData.depth, depth_n, depth_n]
  decide
/-- the doings in order -/
noncomputable def sortW (W : List Doing) : List Doing := W.mergeSort fun x y => PySem.W.dataLe false (fun d => d) (dD x) (dD y)
theorem sortW_perm (W : List Doing) : (sortW W).Perm W := List.mergeSort_perm _ _
theorem sortW_data (W : List Doing) : (sortW W).map dD = sortD (W.map dD) := PySem.W.sort_maps dD fun _ _ _ _ => rfl
theorem sortW_len (W : List Doing) : (sortW W).length = W.length := (sortW_perm W).length_eq
theorem noLs_d : ∀ W : List Doing, noLs (W.map dD) = true
  | [] => rfl
  | x :: W => by simp only [List.map_cons, noLs, noL_d, Bool.true_and]; exact noLs_d W
theorem kv_data (W : List Doing) : (kvK kD W).map (fun q => q.1.data) = W.map dD := by
  unfold kvK; rw [List.map_map]; exact List.map_congr_left fun x _ => kD_data x
section
variable {P : Program} {w : World} {K : PySem.W.Frag} {mg : Str → Option Value} {base : Heap} {CM CC CR CN CF CT : Addr}
/-- sorted(xs), xs a list of doings -/
theorem sort_d {H : Hp} {a : Addr} {vs : List V} {W : List Doing} {Q : VK} (h : H a = some (.lst vs)) (r : RAll H vs (W.map dD)) (q : ∀ b vs' H', Ex H H' → H' b = some (.lst vs') → RAll H' vs' ((sortW W).map dD) → Q (.ref b) H') : rSortD K [.ref a] H Q := by
  refine ⟨a, vs, W.map dD, rfl, SqL.of h, r, PySem.W.AllAlike.of alike_d, PySem.W.Sortable.tuples fun x => ⟨_, _, rfl⟩, fun d hd => ?_, ?_⟩
  · obtain ⟨x, _, rfl⟩ := List.mem_map.mp hd
    exact Nat.le_trans (depth_d x) (by decide)
  · intro p out hp ro
    exact q p out _ (Ex.new hp) upd_same (by rw [sortW_data]; exact ro.ex (Ex.new hp))
/-- a def with keywords: n values are written, then those of the names ks -/
structure DefK (P : Program) (w : World) (K : PySem.W.Frag) (mg : Str → Option Value) (base : Heap) (k : Nat) (nm : Str) (ps : List Str) (n : Nat) (ks : List Str) (gV : List V → List V → List V) (sp : Sp) : Prop where
  ex : ∃ (f : Addr) (fd : FuncData) (g : List Value → List Value → List Value), FnOk P w K mg base (L2.CX P w) k f fd ps sp ∧ mg nm = some (.ref f) ∧ PySem.W.keepIn K (.ref f) = true ∧ KBn K fd ps n ks g gV
theorem pcallK {X : Cx} {k j n : Nat} {nm : Str} {ps ks : List Str} {gV : List V → List V → List V} {sp : Sp} {e : Expr} {es : List Expr} {kws : List Keyword} {t tk : TA} {p pos : Pos} {W : WX} {E : XK} (D : DefK X.prog X.w X.K X.mg X.base k nm ps n ks gV sp) (hr : Room j X.A) (hk : k ≤ j) (tkk : Takes X W) (hW : ∀ cls d σ H, E cls d H → W cls d σ H) (ha : PA X (e :: es) t) (hkw : PK X kws tk)
    (hg : Gl X nm := by rfl) (hall : (backToKw pos (keywordEach kws X.env)).all (·.1.isSome) = true := by rfl) (hks : (backToKw pos (keywordEach kws X.env)).filterMap (·.1) = ks := by rfl) (hdb : (nm == ("__debug__" : Str)) = false := by decide) (he : starEach (e :: es) X.env = (false, eval e X.env) :: starEach es X.env := by rfl)
    (hpl : ((backTo pos (starEach (e :: es) X.env)).any (·.1) || (backToKw pos (keywordEach kws X.env)).any (·.1.isNone)) = false := by rfl) : PE X (.Call (.Name nm p) (e :: es) kws pos) (tCallN n ks.length sp gV E t tk) := by
  obtain ⟨f, fd, g, F, hm, kp, b⟩ := D.ex
  exact pe_callN F (hr.mono hk) hg hm kp b (passes_call tkk hW) ha hkw hall hks hdb he hpl
/-- all_doings asks what need_doings asks; then the doings in order, if not too many -/
def spAll (CM CC CR CN CF CT : Addr) : Sp := fun vs H Q E => ∃ (p : Addr) (v : V) (c : Addr) (d : PyData) (ts : Tab) (ns es : List Nat) (most N : Nat), vs = [.ref p, v, .ref c, .int (most : Nat)] ∧ 1 ≤ most ∧ N ≤ 10000 ∧
  (∀ f : Nat, d = .int (f : Nat) → f < Mx.mst ts → ns.length = ts.length → RouOk ns es → forgF 0 (rl ts f) ts = none → (doings ts ns f N).length ≤ N ∧
    ((doings ts ns f N).length ≤ most → ∀ v H', Ex H H' → R H' v (.tuple ((sortW (doings ts ns f N)).map dD)) → Q v H') ∧ (most < (doings ts ns f N).length → Rais E H CT "most" (.int (most : Nat)))) ∧
  NeedD CM CC CR CN CF H p v d c ts ns es E (fun _ => True)
abbrev sAll : Stmt := top 37
theorem scAll : FnScope ["machine", "first", "counters", "most"] ["machine", "first", "counters", "most"] (defScope sAll) := ⟨rfl, rfl, rfl, by decide +kernel, rfl, by decide +kernel, by decide +kernel⟩
theorem ok_all {f : Addr} {fd : FuncData} (F : Fun K "all_doings" "all_doings" sAll f fd) (T : Txt K mg) (D_need_doings : Def P w K mg base 8 "need_doings" ["machine", "first", "counters"] (spNDo CM CC CR CN CF)) (D_doings_from : Def P w K mg base 7 "doings_from" ["machine", "first", "counters", "most"] (spDFrom CM CC CT P w)) :
    FnOk P w K mg base (L2.CX P w) 9 f fd ["machine", "first", "counters", "most"] (spAll CM CC CR CN CF CT) := by
  refine F.okX scAll (fun vs H Q E h => ?_) (fun cdv A outer s H vs Q E hr h => ?_)
  · obtain ⟨p, v, c, d, ts, ns, es, most, N, rfl, _⟩ := h
    rfl
  · obtain ⟨p, v, c, d, ts, ns, es, most, N, rfl, hm, hN, q, N'⟩ := h
    refine ⟨_, (pss_cons (ps_expr (pcallE (E := E) D_need_doings hr (by decide) tk_own (fun _ _ _ _ h => h) (pa_cons (pv 0) (pa_cons (pv 1) (pa_cons (pv 2) pa_nil)))))
      (pss_one (ps_ret (pe_callTy cr_tup (by rfl) (T.no "tuple" (by decide)) boot_tuple (pa_cons (pe_callB (cr_sortD (hu64 hr)) (by rfl) (T.no "sorted" (by decide)) boot_sorted (pa_cons (pe_callTy (cr_listN rfl) (by rfl) (T.no "list" (by decide)) boot_list (pa_cons (pcallE (E := E) D_doings_from hr (by decide) tk_own (fun _ _ _ _ h => h) (pa_cons (pv 0) (pa_cons (pv 1) (pa_cons (pv 2) (pa_cons (pv 3) pa_nil))))) pa_nil)) pa_nil)) pa_nil))))), ?_⟩
    refine ⟨_, rfl, _, rfl, _, rfl, p, v, c, d, ts, ns, es, rfl, ⟨N'.m, N'.ok, N'.r, N'.cn, N'.l1, N'.l2, N'.e1, N'.e2, N'.e3, N'.e4, fun f ed hf hl hro hfo H1 e1 => ?_⟩⟩
    obtain ⟨q1, q2, q3⟩ := q f ed hf hl hro hfo
    subst ed
    have rv := N'.r
    cases rv
    refine ⟨_, rfl, _, rfl, _, rfl, _, rfl, p, c, ts, ns, es, f, most, N, rfl, N'.m.ex e1, N'.ok, hf, N'.cn.ex e1, hl, hro.1, hm, hN, q1, fun hle D H2 e2 dm => ?_, fun hlt d2 H2 e2 h2 => q3 hlt d2 H2 (e1.tr e2) h2⟩
    refine ⟨D, _, rfl, dm.dn, fun l out hl2 ro => ?_⟩
    rw [kv_data] at ro
    refine tnil (sort_d upd_same (ro.ex (Ex.new hl2)) fun b vs' H3 e3 h3 r3 => ?_)
    exact tuple_sq (b := true) h3 r3 fun v' H4 e4 r4 => q2 hle v' H4 (e1.tr (e2.tr ((Ex.new hl2).tr (e3.tr e4)))) r4
end
end Onew
end
section
set_option maxRecDepth 100000
set_option maxHeartbeats 4000000
namespace Onew
open PySem PySem.Spec PyProof.Rows L2 G
open Mx (Tab im Rch rl rowF forgF doneOn Fm nextD behind z3)
/-- places: the states' numbers -/
def kF (f : Nat → Nat) (l : List Nat) : List (Key × V) := l.map fun s : Nat => (Sum.inl (s : Int), V.int (f s : Nat))
theorem valV_kF {f : Nat → Nat} {n : Nat} : ∀ l : List Nat, valV (kF f l) (Sum.inl (n : Int)) = if n ∈ l then some (.int (f n : Nat)) else none
  | [] => rfl
  | m :: l => by
    show valV ((Sum.inl (m : Int), V.int (f m : Nat)) :: kF f l) _ = _
    by_cases h : m = n
    · subst h
      rw [valV_pos rfl, if_pos (.head _)]
    · rw [valV_neg (fun e => h (by have := Sum.inl.inj e; omega)), valV_kF l]
      by_cases h2 : n ∈ l
      · rw [if_pos h2, if_pos (.tail _ h2)]
      · rw [if_neg h2, if_neg (fun e => by rcases List.mem_cons.mp e with e | e; exact h e.symm; exact h2 e)]
theorem putK_kF {f : Nat → Nat} {n : Nat} {l : List Nat} (h : n ∉ l) : putK (kF f l) (Sum.inl (n : Int)) (.int (f n : Nat)) = kF f (l ++ [n]) := by
  rw [putK_new _ (by rw [valV_kF, if_neg h])]
  unfold kF; rw [List.map_append]; rfl
/-- a dict comprehension with int keys over any walk -/
theorem dcI_it {J : It} {n : Nat} {C : Hp → Prop} {Y : Nat → Hp → V → Hp → Prop} (W : Walk J n C Y) {g : TG} {tk tv : TE} {vs : List Nat} {σ : L2.St} {H1 : Hp} {D : Addr} {Qd : Hp → Prop} (Pv : Nat → Hp → Prop) (h0 : Pv 0 (upd H1 D (.dK []))) (hC : ∀ i H, i ≤ n → Pv i H → C H)
    (hs : ∀ i x H H', i < n → Pv i H → Y i H x H' → g x (wipe σ vs) H' fun σ2 H2 => wipe σ2 vs = wipe σ vs ∧ tk σ2 H2 fun y H4 => tv σ2 H4 fun z H5 => ∃ kvs k, y = kV k ∧ H5 D = some (.dK kvs) ∧ kvs.length < sizeLine ∧ Pv (i + 1) (upd H5 D (.dK (putK kvs k z))))
    (hd : ∀ H, Pv n H → Qd H) :
    ∃ Wm : Nat → Nat → Hp → Prop, (∃ m, Wm 0 m (upd H1 D (.dK []))) ∧ ∀ i m H, Wm i m H →
      (J.stop i H ∧ Qd H) ∨ (J.go i H ∧ ∃ Nx : Hp → Prop, (∀ H', Nx H' → ∃ m', m' < m ∧ Wm (i + 1) m' H') ∧ ∀ x H', J.yld i H x H' → g x (wipe σ vs) H' fun σ2 H2 => wipe σ2 vs = wipe σ vs ∧ tYes σ2 H2 fun b H3 =>
        if b = true then tk σ2 H3 fun y H4 => tv σ2 H4 fun z H5 => ∃ kvs k, y = kV k ∧ H5 D = some (.dK kvs) ∧ kvs.length < sizeLine ∧ Nx (upd H5 D (.dK (putK kvs k z))) else Nx H3) := by
  refine ⟨fun i m H => m = n - i ∧ i ≤ n ∧ Pv i H, ⟨n, rfl, Nat.zero_le _, h0⟩, ?_⟩
  rintro i m H ⟨rfl, hi, p⟩
  have q := hC i H hi p
  by_cases hlt : i < n
  · exact .inr ⟨W.goes i H hlt q, Pv (i + 1), fun H' p' => ⟨n - (i + 1), by omega, rfl, hlt, p'⟩, fun x H' y => hs i x H H' hlt p (W.yields i H x H' hlt q y)⟩
  · obtain rfl : i = n := by omega
    exact .inl ⟨W.stops H q, hd H p⟩
theorem take_nodup {l : List Nat} (nd : l.Nodup) {i s : Nat} (h : l[i]? = some s) : s ∉ l.take i := by
  intro hm
  obtain ⟨j, hj, e⟩ := List.getElem_of_mem hm
  rw [List.length_take] at hj
  rw [List.getElem_take] at e
  have hi : i < l.length := by
    rcases Nat.lt_or_ge i l.length with q | q
    · exact q
    · rw [List.getElem?_eq_none q] at h; cases h
  rw [List.getElem?_eq_getElem hi] at h
  have := (List.getElem_inj (h₀ := by omega) (h₁ := hi) nd).mp (e.trans (Option.some.inj h).symm)
  omega
theorem idxOf_at {l : List Nat} (nd : l.Nodup) {i s : Nat} (h : l[i]? = some s) : l.idxOf s = i := by
  have hi : i < l.length := by
    rcases Nat.lt_or_ge i l.length with q | q
    · exact q
    · rw [List.getElem?_eq_none q] at h; cases h
  rw [List.getElem?_eq_getElem hi] at h
  rw [← Option.some.inj h]
  exact nd.idxOf_getElem i hi
section
variable {P : Program} {w : World} {K : PySem.W.Frag} {mg : Str → Option Value} {base : Heap} {CM CC CR CN CF CT : Addr}
def spComp : Sp := fun vs H Q _ => ∃ (a b : Addr) (v1 v2 : V) (S ns : List Nat) (x y : Doing), vs = [.ref a, .ref b, v1, v2] ∧ H a = some (.tup (nV S)) ∧ H b = some (.tup (nV ns)) ∧ R H v1 (dD x) ∧ R H v2 (dD y) ∧ S.Nodup ∧ S.length ≤ 8 ∧ x.1.length ≤ 8 ∧ (∀ s ∈ x.1, s ∈ S) ∧ y.1.length = S.length ∧
  x.2.length = ns.length ∧ y.2.length = ns.length ∧ ns.length ≤ 4 ∧ 0 ∉ ns ∧ ∀ v' H', Ex H H' → R H' v' (dD (behind S ns x y)) → Q v' H'
abbrev sComp : Stmt := top 38
theorem scComp : FnScope ["states", "rounds", "one", "other", "places", "images", "here", "there", "many", "state", "place"] ["states", "rounds", "one", "other"] (defScope sComp) := ⟨rfl, rfl, rfl, by decide +kernel, rfl, by decide +kernel, by decide +kernel⟩
theorem ok_comp {f : Addr} {fd : FuncData} (F : Fun K "composed" "composed" sComp f fd) (T : Txt K mg) : FnOk P w K mg base (L2.CX P w) 1 f fd ["states", "rounds", "one", "other"] spComp := by
  refine F.okX scComp (fun vs H Q E h => ?_) (fun cdv A outer s H vs Q E hr h => ?_)
  · obtain ⟨a, b, v1, v2, S, ns, x, y, rfl, _⟩ := h
    rfl
  · obtain ⟨a, b, v1, v2, S, ns, x, y, rfl, ha, hb, r1, r2, ndS, lS, lx, hin, ly, lx2, ly2, ln, h0, q⟩ := h
    have nd := scComp.nd
    refine ⟨_, (pss_cons (ps_set (i := 4) nd rfl (Or.inr rfl) (pe_dc (own := [("place", 10), ("state", 9)]) (tt := tYes) rfl nd (pi_enumT (by rfl) (T.no "enumerate" (by decide)) (pa_cons (pv 0) pa_nil)) (blkOk_by (N := ["states", "rounds", "one", "other", "places", "images", "here", "there", "many", "state", "place"]) (sc := defScope sComp) (by decide +kernel)) (g := gTup K 2 (gCons (gName 10) (gCons (gName 9) gNil))) (fun _ _ _ _ _ => (pg_tup rfl (pgs_cons (pg_name (i := 10) nd rfl (Or.inl rfl)) (pgs_cons (pg_name (i := 9) nd rfl (Or.inl rfl)) pgs_nil)))) (fun _ _ _ _ _ => pts_nil) (fun _ _ _ _ _ => (pv 9)) (fun _ _ _ _ _ => (pv 10))))
      (pss_cons (ps_set (i := 5) nd rfl (Or.inl rfl) (pe_callTy cr_tup (by rfl) (T.no "tuple" (by decide)) boot_tuple (pa_cons (pe_lc (own := [("state", 9)]) (g := gName 9) (tt := tYes) (te := tOp (rIxT K) (tOp (rIxT K) (tVar 3) (tC (.int 0))) (tDGet (tVar 4) (tVar 9))) rfl nd (pi_tup (pe_ix ix_tup (pv 2) pe_int (fun _ _ => rfl))) (blkOk_by (N := ["states", "rounds", "one", "other", "places", "images", "here", "there", "many", "state", "place"]) (sc := defScope sComp) (by decide +kernel)) (fun _ _ _ _ _ => (pg_name (i := 9) nd rfl (Or.inl rfl))) (fun _ _ _ _ _ => pts_nil) (fun _ _ _ _ _ => (pe_ix ix_tup (pe_ix ix_tup (pv 3) pe_int (fun _ _ => rfl)) (pe_dget (hu1 hr) (pv 4) (pv 9) (fun _ _ => rfl)) (fun _ _ => rfl)))) pa_nil)))
      (pss_one (ps_ret (pe_tup (pa_cons (pv 5) (pa_cons (pe_callTy cr_tup (by rfl) (T.no "tuple" (by decide)) boot_tuple (pa_cons (pe_lc (own := [("here", 6), ("there", 7), ("many", 8)]) (tt := tYes) (g := gTup K 3 (gCons (gName 6) (gCons (gName 7) (gCons (gName 8) gNil)))) rfl nd (pi_zip3 (by rfl) (T.no "zip" (by decide)) (pa_cons (pe_ix ix_tup (pv 2) pe_int (fun _ _ => rfl)) (pa_cons (pe_ix ix_tup (pv 3) pe_int (fun _ _ => rfl)) (pa_cons (pv 1) pa_nil)))) (blkOk_by (N := ["states", "rounds", "one", "other", "places", "images", "here", "there", "many", "state", "place"]) (sc := defScope sComp) (by decide +kernel)) (fun _ _ _ _ _ => (pg_tup rfl (pgs_cons (pg_name (i := 6) nd rfl (Or.inl rfl)) (pgs_cons (pg_name (i := 7) nd rfl (Or.inl rfl)) (pgs_cons (pg_name (i := 8) nd rfl (Or.inl rfl)) pgs_nil))))) (fun _ _ _ _ _ => pts_nil) (fun _ _ _ _ _ => (pe_op op_mod (pe_op op_add (pv 6) (pv 7)) (pv 8)))) pa_nil)) pa_nil))))))), ?_⟩
    obtain ⟨o1, im1, c1, rfl, ho1, him1, hc1⟩ := r_d r1
    obtain ⟨o2, im2, c2, rfl, ho2, him2, hc2⟩ := r_d r2
    refine ⟨_, rfl, a, _, rfl, ha, fun D hD => ?_⟩
    refine dcI_it walk_enumT (fun i H' => Ex H H' ∧ H' D = some (.dK (kF S.idxOf (S.take i)))) ⟨Ex.new hD, upd_same⟩ (fun i H' _ h => h.1 _ _ ha) ?_ ?_
    · rintro i xv H2 H2' hi ⟨e2, h2⟩ ⟨T1, z1, z2, rfl, hT1, rfl, ez1, ez2⟩
      cases ez1
      obtain ⟨s, hs, rfl⟩ := nV_get ez2
      have hnin := take_nodup ndS hs
      have eT := Ex.new (o := .tup [.int (i : Nat), .int (s : Nat)]) hT1
      refine ⟨T1, _, rfl, SqT.of upd_same, rfl, _, _, rfl, _, _, rfl, rfl, rfl, ?_⟩
      refine ⟨_, rfl, _, rfl, _, Sum.inl (s : Int), rfl, eT _ _ h2, ?_, (e2.tr eT).mut hD, ?_⟩
      · unfold kF; rw [List.length_map, List.length_take, sizeLine_eq]; omega
      · have e := idxOf_at ndS hs
        rw [upd_same, takeNx hs, show (V.int (i : Nat)) = V.int (S.idxOf s : Nat) by rw [e], putK_kF hnin]
    rintro H1 ⟨e1, h1⟩
    rw [nV_len, List.take_length] at h1
    have hat1 : atI ([V.ref im1, V.ref c1] : List V) 0 = some (.ref im1) := atI_nat (j := 0) rfl
    have hat2 : atI ([V.ref im2, V.ref c2] : List V) 0 = some (.ref im2) := atI_nat (j := 0) rfl
    have hbt1 : atI ([V.ref im1, V.ref c1] : List V) 1 = some (.ref c1) := atI_nat (j := 1) rfl
    have hbt2 : atI ([V.ref im2, V.ref c2] : List V) 1 = some (.ref c2) := atI_nat (j := 1) rfl
    refine ⟨_, rfl, _, _, _, _, rfl, rfl, SqT.of (e1 _ _ ho1), hat1, _, rfl, ⟨_, SqT.of (e1 _ _ him1)⟩, fun D2 hD2 => ?_⟩
    refine lc_map walk_tup hD2 (nD (behind S ns x y).1) (by rw [nD_len, nV_len]; unfold behind; rw [List.length_map]) (by rw [nV_len, sizeLine_eq]; omega) (noL_n _) (fun H' e => SqT.of (e _ _ (e1 _ _ him1))) ?_ ?_
    · intro i xv H2 H2' d Post hi e2 hy hd kk
      obtain ⟨rfl, hx⟩ := hy
      obtain ⟨s, hs, rfl⟩ := nV_get hx
      have hsS := hin s (List.mem_of_getElem? hs)
      have hlt : S.idxOf s < y.1.length := by rw [ly]; exact List.idxOf_lt_length_of_mem hsS
      have hya : y.1[S.idxOf s]? = some (y.1.getD (S.idxOf s) 0) := by rw [List.getD_eq_getElem?_getD, List.getElem?_eq_getElem hlt]; rfl
      have e12 := e1.tr e2
      refine ⟨rfl, _, rfl, _, _, _, _, rfl, rfl, SqT.of (e12 _ _ ho2), hat2, _, rfl, _, rfl, D, .int (S.idxOf s : Nat), rfl, ?_, _, _, _, _, rfl, rfl, SqT.of (e12 _ _ him2), atI_nat (nV_at hya), kk _ _ Ex.rfl' ?_⟩
      · have := DGet.k (k := Sum.inl (s : Int)) (e2 _ _ h1)
        rw [valV_kF, if_pos hsS] at this
        exact this
      · obtain ⟨n, hn, rfl⟩ := nD_at hd
        unfold behind at hn
        rw [List.getElem?_map, hs] at hn
        cases hn
        exact .int _
    · intro acc H2 e2 h2 r2'
      refine tnil (tuple_sqR (b := true) h2 r2' fun v3 H3 e3 r3 => ?_)
      obtain ⟨la, rfl, hla⟩ := r_i (ns := (behind S ns x y).1) r3
      have e13 := e1.tr (e2.tr e3)
      refine ⟨_, rfl, _, rfl, _, _, _, _, rfl, rfl, SqT.of (e13 _ _ ho1), hbt1, _, rfl, _, _, _, _, rfl, rfl, SqT.of (e13 _ _ ho2), hbt2, _, rfl, false, c1, c2, b, _, _, _, ns.length, rfl, e13 _ _ hc1, e13 _ _ hc2, e13 _ _ hb, by rw [nV_len, lx2], by rw [nV_len, ly2], by rw [nV_len], fun D3 hD3 => ?_⟩
      refine lc_map walk_zip3 hD3 (nD (z3 x.2 y.2 ns)) (by rw [nD_len, Mx.z3_len lx2 ly2 rfl]) (by rw [sizeLine_eq]; omega) (noL_n _) (fun H' e => ⟨e _ _ (e13 _ _ hc1), e _ _ (e13 _ _ hc2), e _ _ (e13 _ _ hb)⟩) ?_ ?_
      · intro i xv H4 H4' d Post hi e4 hy hd kk
        obtain ⟨T1, w1, w2, w3, rfl, hT1, rfl, a1, a2, a3⟩ := hy
        obtain ⟨n1, hn1, rfl⟩ := nV_get a1
        obtain ⟨n2, hn2, rfl⟩ := nV_get a2
        obtain ⟨n3, hn3, rfl⟩ := nV_get a3
        have pos : 0 < n3 := by
          rcases Nat.eq_zero_or_pos n3 with z | z
          · exact absurd (by rw [← z]; exact List.mem_of_getElem? hn3) h0
          · exact z
        have eT := Ex.new (o := .tup [V.int (n1 : Nat), .int (n2 : Nat), .int (n3 : Nat)]) hT1
        refine ⟨T1, _, rfl, SqT.of upd_same, rfl, _, _, rfl, _, _, rfl, _, _, rfl, rfl, rfl, ?_⟩
        refine ⟨_, rfl, _, rfl, _, _, rfl, rfl, _, rfl, _, _, rfl, rfl, by show (0 : Int) < (n3 : Nat); omega, kk _ _ eT ?_⟩
        obtain ⟨n, hn, rfl⟩ := nD_at hd
        rw [Mx.z3_at hn1 hn2 hn3] at hn
        cases hn
        have : ((n1 : Int) + (n2 : Nat)) % (n3 : Nat) = (((n1 + n2) % n3 : Nat) : Int) := by rw [Int.natCast_emod]; rfl
        show R _ (.int (((n1 : Int) + (n2 : Nat)) % (n3 : Nat))) _
        rw [this]
        exact .int _
      · intro acc2 H4 e4 h4 r4
        refine tnil (tuple_sqR (b := true) h4 r4 fun v5 H5 e5 r5 => ?_)
        obtain ⟨lb, rfl, hlb⟩ := r_i (ns := z3 x.2 y.2 ns) r5
        refine tnil ⟨by show 2 ≤ sizeLine; decide, fun pr hpr => q _ _ (e13.tr ((e4.tr e5).tr (Ex.new hpr))) (r_d_mk upd_same ?_ ?_)⟩
        · exact (Ex.new hpr) _ _ (e5 _ _ (e4 _ _ hla))
        · exact (Ex.new hpr) _ _ hlb
end
end Onew
end
section
set_option maxRecDepth 100000
set_option maxHeartbeats 4000000
namespace Onew
open PySem PySem.Spec PyProof.Rows L2 G
/-! ### values, told as doings -/
def seqI : PyData → Option (List PyData)
  | .list xs => some xs | .tuple xs => some xs | _ => none
def intsI : List PyData → Option (List Int)
  | [] => some []
  | .int i :: r => (intsI r).map (i :: ·)
  | _ :: _ => none
def kZ (is js : List Int) : NestedKey := .tup [.tup (is.map .num), .tup (js.map .num)]
def twoI (d : PyData) : Option (List PyData × List PyData) := match seqI d with
  | some [a, b] => (match seqI a, seqI b with
    | some x, some y => some (x, y)
    | _, _ => none)
  | _ => none
def toldD (W : List Doing) (d : PyData) : Option Doing := match twoI d with
  | some (x, y) => (match intsI x, intsI y with
    | some is, some js => W.find? fun z => decide (kD z = kZ is js)
    | _, _ => none)
  | none => none
mutual
/-- no list or tuple within has more than 5000 items -/
def smD : PyData → Bool
  | .list xs => decide (xs.length ≤ 5000) && smDs xs
  | .tuple xs => decide (xs.length ≤ 5000) && smDs xs
  | _ => true
def smDs : List PyData → Bool
  | [] => true
  | x :: xs => smD x && smDs xs
end
theorem smDs_mem : ∀ {xs : List PyData} {x : PyData}, smDs xs = true → x ∈ xs → smD x = true
  | y :: ys, x, h, hx => by
    simp only [smDs, Bool.and_eq_true] at h
    rcases List.mem_cons.mp hx with e | e
    · rw [e]; exact h.1
    · exact smDs_mem h.2 e
theorem sm_seq {d : PyData} {xs : List PyData} (h : smD d = true) (e : seqI d = some xs) : xs.length ≤ 5000 ∧ ∀ x ∈ xs, smD x = true := by
  cases d with
  | list ys => cases e; simp only [smD, Bool.and_eq_true, decide_eq_true_eq] at h; exact ⟨h.1, fun x hx => smDs_mem h.2 hx⟩
  | tuple ys => cases e; simp only [smD, Bool.and_eq_true, decide_eq_true_eq] at h; exact ⟨h.1, fun x hx => smDs_mem h.2 hx⟩
  | _ => cases e
theorem tyD_in {H : Hp} {v : V} {d : PyData} (r : R H v d) : tyD d ∈ ["NoneType", "bool", "int", "str", "list", "tuple"] := by
  cases r with
  | non => exact .head _
  | bl => exact .tail _ (.head _)
  | int => exact .tail _ (.tail _ (.head _))
  | str => exact .tail _ (.tail _ (.tail _ (.head _)))
  | lst => exact .tail _ (.tail _ (.tail _ (.tail _ (.head _))))
  | tup => exact .tail _ (.tail _ (.tail _ (.tail _ (.tail _ (.head _)))))
theorem seqI_none {H : Hp} {v : V} {d : PyData} (r : R H v d) (h : seqI d = none) : (tyD d == "list" || tyD d == "tuple") = false := by
  cases r with
  | lst => cases h
  | tup => cases h
  | non => exact (by decide : ("NoneType" == "list" || "NoneType" == "tuple") = false)
  | bl => exact (by decide : ("bool" == "list" || "bool" == "tuple") = false)
  | int => exact (by decide : ("int" == "list" || "int" == "tuple") = false)
  | str => exact (by decide : ("str" == "list" || "str" == "tuple") = false)
theorem seqI_some {H : Hp} {v : V} {d : PyData} {ds : List PyData} (r : R H v d) (h : seqI d = some ds) : (tyD d == "list" || tyD d == "tuple") = true ∧ ∃ a xs b, v = .ref a ∧ H a = some (sqO b xs) ∧ RAll H xs ds := by
  cases r with
  | lst h1 t => cases h; exact ⟨(by decide : ("list" == "list" || "list" == "tuple") = true), _, _, true, rfl, h1, t⟩
  | tup h1 t => cases h; exact ⟨(by decide : ("tuple" == "list" || "tuple" == "tuple") = true), _, _, false, rfl, h1, t⟩
  | _ => cases h
theorem sqO_v {K : PySem.W.Frag} {H : Hp} {a : Addr} {b : Bool} {xs : List V} (h : H a = some (sqO b xs)) : SqV K H a xs := by
  cases b with
  | true => exact .inl (SqL.of h)
  | false => exact .inr (SqT.of h)
theorem ix_sq {K : PySem.W.Frag} {H : Hp} {a : Addr} {xs : List V} {j : Nat} {v : V} {Q : VK} (h : SqV K H a xs) (hj : xs[j]? = some v) (q : Q v H) : rIx K (.ref a) (.int (j : Nat)) H Q :=
  h.elim (fun z => .inl ⟨a, xs, j, v, rfl, rfl, z, atI_nat hj, q⟩) fun z => .inr (.inl ⟨a, xs, j, v, rfl, rfl, z, atI_nat hj, q⟩)
/-- all items are ints -/
def allI (xs : List PyData) : Bool := xs.all isIntD
theorem intsI_none : ∀ {xs : List PyData}, intsI xs = none ↔ allI xs = false
  | [] => by simp [intsI, allI]
  | x :: xs => by
    have ih := intsI_none (xs := xs)
    unfold allI at ih ⊢
    rw [List.all_cons]
    cases x with
    | int i => simp [intsI, isIntD, ih]
    | _ => simp [intsI, isIntD]
theorem intsI_some : ∀ {xs : List PyData} {is : List Int}, intsI xs = some is → xs = is.map PyData.int
  | [], is, h => by cases h; rfl
  | x :: xs, is, h => by
    cases x with
    | int i =>
      simp only [intsI, Option.map_eq_some_iff] at h
      obtain ⟨js, h1, rfl⟩ := h
      rw [intsI_some h1]; rfl
    | _ => simp [intsI] at h
theorem datas_int : ∀ is : List Int, NestedKey.datas (is.map NestedKey.num) = is.map PyData.int
  | [] => rfl
  | i :: is => by rw [List.map_cons, NestedKey.datas, datas_int is]; rfl
theorem kZ_data (is js : List Int) : (kZ is js).data = .tuple [.tuple (is.map PyData.int), .tuple (js.map PyData.int)] := by
  unfold kZ
  rw [NestedKey.data, NestedKey.datas, NestedKey.datas, NestedKey.datas, NestedKey.data, NestedKey.data, datas_int, datas_int]
theorem depthAll_int : ∀ is : List Int, NestedKey.depthAll (is.map NestedKey.num) = 0
  | [] => rfl
  | i :: is => by rw [List.map_cons, NestedKey.depthAll, depthAll_int is]; rfl
theorem kZ_depth (is js : List Int) : (kZ is js).depth ≤ 8 := by
  unfold kZ
  rw [NestedKey.depth, NestedKey.depthAll, NestedKey.depthAll, NestedKey.depthAll, NestedKey.depth, NestedKey.depth, depthAll_int, depthAll_int]
  decide
theorem valV_find {k : NestedKey} : ∀ W : List Doing, valV (kvK kD W) k = (W.find? fun z => decide (kD z = k)).map fun _ => V.bl true
  | [] => rfl
  | z :: W => by
    show valV ((kD z, V.bl true) :: kvK kD W) _ = _
    by_cases h : kD z = k
    · rw [valV_pos h, List.find?_cons, decide_eq_true h]; rfl
    · rw [valV_neg h, valV_find W, List.find?_cons, decide_eq_false h]
section
variable {P : Program} {w : World} {K : PySem.W.Frag} {mg : Str → Option Value} {base : Heap}
def spTold (P : Program) (w : World) : Sp := fun vs H Q _ => ∃ (k : Addr) (v : V) (W : List Doing) (d : PyData), vs = [.ref k, v] ∧ DN P w H k (kvK kD W) ∧ R H v d ∧ smD d = true ∧ (toldD W d = none → ∀ H', Ex H H' → Q .non H') ∧ ∀ x, toldD W d = some x → ∀ v' H', Ex H H' → R H' v' (dD x) → Q v' H'
abbrev sTold : Stmt := top 39
theorem scTold : FnScope ["known", "value", "part", "doing", "one"] ["known", "value"] (defScope sTold) := ⟨rfl, rfl, rfl, by decide +kernel, rfl, by decide +kernel, by decide +kernel⟩
theorem dn_ex {H H' : Hp} {d : Addr} {kvs : List (NestedKey × V)} (x : DN P w H d kvs) (e : Ex H H') : DN P w H' d kvs := let ⟨a, b, c, xs, h, k⟩ := x; ⟨a, b, c, xs, rd_ex h e, k.nx e.n⟩
theorem ok_told {f : Addr} {fd : FuncData} (F : Fun K "told_doing" "told_doing" sTold f fd) (T : Txt K mg) (D_is_sequence : Def P w K mg base 1 "is_sequence" ["value"] (spIsSeq K)) : FnOk P w K mg base (L2.CX P w) 2 f fd ["known", "value"] (spTold P w) := by
  refine F.okX scTold (fun vs H Q E h => ?_) (fun cdv A outer s H vs Q E hr h => ?_)
  · obtain ⟨k, v, W, d, rfl, _⟩ := h
    rfl
  · obtain ⟨k, v, W, d, rfl, dn, r, sm, qn, qs⟩ := h
    have nd := scTold.nd
    refine ⟨_, (pss_cons (ps_if ((pw_or (pt_not (pt_val (pcall D_is_sequence hr (by decide) (pa_cons (pv 1) pa_nil)))) (pw_or (pt_cmpR op_ne (pe_callB call_len_seq (by rfl) (T.no "len" (by decide)) boot_len (pa_cons (pv 1) pa_nil)) pe_int (nomark _)) (pw_or (pt_not (pt_val (pcall D_is_sequence hr (by decide) (pa_cons (pe_ix ix_seq (pv 1) pe_int (fun _ _ => rfl)) pa_nil)))) (pw_or1 (pt_not (pt_val (pcall D_is_sequence hr (by decide) (pa_cons (pe_ix ix_seq (pv 1) pe_int (fun _ _ => rfl)) pa_nil))))))))).pt (pss_one (ps_ret pe_non)) pss_nil)
      (pss_cons (ps_for (passes_of rfl) rfl (pi_tup (pe_tup (pa_cons (pe_ix ix_seq (pv 1) pe_int (fun _ _ => rfl)) (pa_cons (pe_ix ix_seq (pv 1) pe_int (fun _ _ => rfl)) pa_nil)))) (pg_name (i := 2) nd rfl (Or.inl rfl)) (pss_one (ps_if (pt_not (pt_val (pe_callB (cr_all rfl) (by rfl) (T.no "all" (by decide)) boot_all (pa_cons (pe_lc (own := [("one", 4)]) (g := gName 4) (tt := tYes) (te := tAndV (tCB (rIsi K) (tCons (tVar 4) (tCons (tC (.ty "int")) tNil))) (tNotV (tCB (rIsi K) (tCons (tVar 4) (tCons (tC (.ty "bool")) tNil))))) rfl nd (pi_sq (pv 2)) (blkOk_by (N := ["known", "value", "part", "doing", "one"]) (sc := defScope sTold) (by decide +kernel)) (fun _ _ _ _ _ => (pg_name (i := 4) nd rfl (Or.inl rfl))) (fun _ _ _ _ _ => pts_nil) (fun _ _ _ _ _ => (pe_and (pe_callB call_isi (by rfl) (T.no "isinstance" (by decide)) boot_isinstance (pa_cons (pv 4) (pa_cons (pe_bltn (by rfl) (T.no "int" (by decide)) (u := .type "int") (by decide +kernel) (v := .ty "int") rfl) pa_nil))) (pe_one (pe_not (pe_callB call_isi (by rfl) (T.no "isinstance" (by decide)) boot_isinstance (pa_cons (pv 4) (pa_cons (pe_bltn (by rfl) (T.no "bool" (by decide)) (u := .type "bool") (by decide +kernel) (v := .ty "bool") rfl) pa_nil)))))))) pa_nil)))) (pss_one (ps_ret pe_non)) pss_nil)))
      (pss_cons (ps_set (i := 3) nd rfl (Or.inl rfl) (pe_tup (pa_cons (pe_callTy cr_tup (by rfl) (T.no "tuple" (by decide)) boot_tuple (pa_cons (pe_ix ix_seq (pv 1) pe_int (fun _ _ => rfl)) pa_nil)) (pa_cons (pe_callTy cr_tup (by rfl) (T.no "tuple" (by decide)) boot_tuple (pa_cons (pe_ix ix_seq (pv 1) pe_int (fun _ _ => rfl)) pa_nil)) pa_nil))))
      (pss_one (ps_ret (pe_ifExp (pt_cmpR (op_inN (hu64 hr)) (pv 3) (pv 0) (by rfl)) (pv 3) pe_non)))))), ?_⟩
    refine ⟨_, rfl, _, _, rfl, tyx r, tyD_in r, fun H1 e1 => ⟨_, rfl, ?_⟩⟩
    cases e0 : seqI d with
    | none =>
      have en : toldD W d = none := by unfold toldD twoI; rw [e0]
      rw [seqI_none r e0]
      exact itT rfl (qn en _ e1)
    | some ds =>
    obtain ⟨et, a, xs, b, rfl, ha, ra⟩ := seqI_some r e0
    rw [et]
    refine ⟨_, rfl, _, _, rfl, (sqO_v (e1 _ _ ha)), rfl, _, rfl, ?_⟩
    rw [ra.length]
    by_cases hl : ds.length = 2
    rotate_left
    · have en : toldD W d = none := by
        unfold toldD twoI; rw [e0]
        rcases ds with _ | ⟨x, _ | ⟨y, _ | ⟨z, r⟩⟩⟩ <;> first | rfl | exact absurd rfl hl
      exact itT (by simp; omega) (itT rfl (qn en _ e1))
    obtain ⟨d1, d2, rfl⟩ : ∃ d1 d2, ds = [d1, d2] := by
      rcases ds with _ | ⟨x, _ | ⟨y, _ | ⟨z, r⟩⟩⟩ <;> first | exact ⟨_, _, rfl⟩ | (simp at hl)
    obtain ⟨sm5, smx⟩ := sm_seq sm e0
    cases ra with
    | @cons v1 vs1 _ _ r1 ra =>
    cases ra with
    | @cons v2 vs2 _ _ r2 ra =>
    cases ra
    refine itF (by rfl) ⟨_, rfl, ix_sq (j := 0) (sqO_v (e1 _ _ ha)) rfl ?_⟩
    refine ⟨_, _, rfl, tyx (r1.ex e1), tyD_in r1, fun H2 e2 => ⟨_, rfl, ?_⟩⟩
    have e12 := e1.tr e2
    cases e3 : seqI d1 with
    | none =>
      have en : toldD W d = none := by unfold toldD twoI; rw [e0]; simp only [e3]
      rw [seqI_none r1 e3]
      exact itT rfl (itT rfl (qn en _ e12))
    | some as =>
    obtain ⟨et1, a1, xs1, b1, rfl, ha1, ra1⟩ := seqI_some r1 e3
    rw [et1]
    refine itF rfl ⟨_, rfl, ix_sq (j := 1) (sqO_v (e12 _ _ ha)) rfl ?_⟩
    refine ⟨_, _, rfl, tyx (r2.ex e12), tyD_in r2, fun H3 e3' => ⟨_, rfl, ?_⟩⟩
    have e13 := e12.tr e3'
    cases e4 : seqI d2 with
    | none =>
      have en : toldD W d = none := by unfold toldD twoI; rw [e0]; simp only [e3, e4]
      rw [seqI_none r2 e4]
      exact itT rfl (qn en _ e13)
    | some bs =>
    obtain ⟨et2, a2, xs2, b2, rfl, ha2, ra2⟩ := seqI_some r2 e4
    rw [et2]
    have etwo : twoI d = some (as, bs) := by unfold twoI; rw [e0]; simp only [e3, e4]
    have la := (sm_seq (smx d1 (by simp)) e3).1
    have lb := (sm_seq (smx d2 (by simp)) e4).1
    have nA : allI as = false → toldD W d = none := fun h => by
      unfold toldD; rw [etwo]; simp only [intsI_none.mpr h]
    have nB : allI bs = false → toldD W d = none := fun h => by
      unfold toldD; rw [etwo]; simp only [intsI_none.mpr h]
      cases intsI as <;> rfl
    refine itF rfl ⟨_, rfl, ix_sq (j := 0) (sqO_v (e13 _ _ ha)) rfl ⟨_, rfl, ix_sq (j := 1) (sqO_v (e13 _ _ ha)) rfl (tnil ⟨by show 2 ≤ sizeLine; decide, fun p hp => ?_⟩)⟩⟩
    have eP := e13.tr (Ex.new (o := .tup [V.ref a1, .ref a2]) hp)
    refine ⟨p, rfl, ⟨_, SqT.of upd_same⟩, ?_⟩
    refine for_it walk_tup (fun i σ H' => (∃ x2 x3 x4, σ = [some (.ref k), some (.ref a), x2, x3, x4]) ∧ Ex (upd H3 p (.tup [V.ref a1, .ref a2])) H' ∧ (1 ≤ i → allI as = true) ∧ (2 ≤ i → allI bs = true)) ⟨⟨_, _, _, rfl⟩, Ex.rfl', fun h => absurd h (by omega), fun h => absurd h (by omega)⟩ (fun i σ H' _ h => SqT.of (h.2.1 _ _ upd_same)) ?_ ?_
    · rintro i xv σ H4 H4' hi ⟨⟨x2, x3, x4, rfl⟩, e5, c1, c2⟩ ⟨rfl, hx⟩
      have hi2 : i < 2 := hi
      obtain ⟨aa, bb, xx, L, rfl, haa, raa, lL, nL, yL⟩ : ∃ aa bb xx L, xv = .ref aa ∧ H aa = some (sqO bb xx) ∧ RAll H xx L ∧ L.length ≤ 5000 ∧ (allI L = false → toldD W d = none) ∧ (allI L = true → (1 ≤ i + 1 → allI as = true) ∧ (2 ≤ i + 1 → allI bs = true)) := by
        by_cases h0 : i = 0
        · subst h0
          cases hx
          exact ⟨a1, b1, xs1, as, rfl, ha1, ra1, la, nA, fun h => ⟨fun _ => h, fun h2 => absurd h2 (by omega)⟩⟩
        · have h1 : i = 1 := by omega
          subst h1
          cases hx
          exact ⟨a2, b2, xs2, bs, rfl, ha2, ra2, lb, nB, fun h => ⟨fun _ => c1 (by omega), fun _ => h⟩⟩
      have e6 := eP.tr e5
      refine ⟨_, rfl, aa, xx, rfl, sqO_v (e6 _ _ haa), fun J hJ D hD => ?_⟩
      obtain ⟨C, Wk, hC⟩ := hJ _ rfl
      refine lc_map Wk hD ((L.map isIntD).map PyData.bool) (by rw [List.length_map, List.length_map, raa.length]) (by rw [raa.length, sizeLine_eq]; omega) (noLs_bools _) hC ?_ ?_
      · intro j yv H5 H5' d5 Post hj e7 hy hd5 kk
        obtain ⟨rfl, hyx⟩ := hy
        obtain ⟨d0, h0, r0⟩ := RAll.get raa hyx
        have ed : d5 = .bool (isIntD d0) := by
          rw [List.getElem?_map, List.getElem?_map, h0] at hd5
          exact (Option.some.inj hd5).symm
        subst ed
        have r0' := r0.ex (e6.tr e7)
        refine ⟨rfl, _, rfl, _, .ty "int", .type (tyD d0), .type "int", _, rfl, .ty _, tyx r0', kitInt r0', _, rfl, ?_⟩
        cases r0' with
        | int i => exact ⟨_, rfl, _, _, .type "int", .type "bool", _, rfl, .ty _, .base (.int i), kit_ty (r := false) (by decide +kernel), _, rfl, kk _ _ Ex.rfl' (.bl _)⟩
        | bl b => exact ⟨_, rfl, _, _, .type "bool", .type "bool", _, rfl, .ty _, .base (.bl b), kit_ty (r := true) (by decide +kernel), _, rfl, kk _ _ Ex.rfl' (.bl _)⟩
        | non => exact kk _ _ Ex.rfl' (.bl false)
        | str => exact kk _ _ Ex.rfl' (.bl false)
        | lst => exact kk _ _ Ex.rfl' (.bl false)
        | tup => exact kk _ _ Ex.rfl' (.bl false)
      · intro acc H5 e7 h5 r5
        refine ⟨_, _, rfl, SqL.of (by rw [h5, RAll.ofBools r5]), _, rfl, ?_⟩
        have ea : (L.map isIntD).all id = allI L := by unfold allI; rw [List.all_map]; rfl
        rw [ea]
        cases eL : allI L with
        | false => exact itT rfl (qn (nL eL) _ (e6.tr e7))
        | true => exact itF rfl ⟨⟨_, _, _, rfl⟩, e5.tr e7, (yL eL).1, (yL eL).2⟩
    · rintro σ H4 ⟨⟨x2, x3, x4, rfl⟩, e5, c1, c2⟩
      have e6 := eP.tr e5
      obtain ⟨is, hia⟩ : ∃ is, intsI as = some is := by
        cases h : intsI as with
        | some is => exact ⟨is, rfl⟩
        | none => have := intsI_none.mp h; rw [c1 (by show 1 ≤ 2; decide)] at this; cases this
      obtain ⟨js, hjb⟩ : ∃ js, intsI bs = some js := by
        cases h : intsI bs with
        | some is => exact ⟨is, rfl⟩
        | none => have := intsI_none.mp h; rw [c2 (by show 2 ≤ 2; decide)] at this; cases this
      have et : toldD W d = W.find? fun z => decide (kD z = kZ is js) := by
        unfold toldD; rw [etwo]; simp only [hia, hjb]
      refine ⟨_, rfl, ix_sq (j := 0) (sqO_v (e6 _ _ ha)) rfl (tnil (tuple_sqR (e6 _ _ ha1) (ra1.ex e6) fun v5 H5 e7 r5 => ?_))⟩
      have e8 := e6.tr e7
      refine ⟨_, rfl, ix_sq (j := 1) (sqO_v (e8 _ _ ha)) rfl (tnil (tuple_sqR (e8 _ _ ha2) (ra2.ex e8) fun v6 H6 e9 r6 => tnil ⟨by show 2 ≤ sizeLine; decide, fun t ht => ?_⟩))⟩
      have e10 := e8.tr (e9.tr (Ex.new (o := .tup [v5, v6]) ht))
      have rk : R (upd H6 t (.tup [v5, v6])) (.ref t) (kZ is js).data := by
        rw [kZ_data, ← intsI_some hia, ← intsI_some hjb]
        exact .tup upd_same (.cons (r5.ex (e9.tr (Ex.new ht))) (.cons (r6.ex (Ex.new ht)) .nil))
      refine ⟨_, rfl, _, rfl, t, k, kZ is js, kvK kD W, rfl, rfl, rk, kZ_depth _ _, dn_ex dn e10, _, rfl, ?_⟩
      rw [valV_find]
      cases ef : W.find? fun z => decide (kD z = kZ is js) with
      | none => exact itF rfl (qn (by rw [et, ef]) _ e10)
      | some x =>
        have hk : kD x = kZ is js := of_decide_eq_true (by simpa using List.find?_some ef)
        refine itT rfl ⟨_, rfl, qs x (by rw [et, ef]) _ _ e10 ?_⟩
        rw [← kD_data, hk]
        exact rk
end
end Onew
end
section
set_option maxRecDepth 100000
set_option maxHeartbeats 4000000
namespace Onew
open PySem PySem.Spec PyProof.Rows L2 G
open Mx (Tab im Rch rl rowF forgF doneOn Fm nextD nextP)
theorem ex_unlock {H H' : Hp} {d : Addr} {u l : HO} (h : H d = some u) (e : Ex (upd H d l) H') : Ex H (upd H' d u) := fun b o hb => by
  by_cases z : b = d
  · subst z; rw [upd_same, ← hb, h]
  · rw [upd_ne z]; exact e b o (by rw [upd_ne z]; exact hb)
section
variable {P : Program} {w : World} {K : PySem.W.Frag} {mg : Str → Option Value} {base : Heap} {CM CC CR CN CF CT : Addr}
/-- what need_seer asks and answers: the machine's ts, the witness's ws at q -/
structure NeedS (CM CR CN : Addr) (H : Hp) (p q : Addr) (v : V) (d : PyData) (ts ws : Tab) (E : XK) (Q : Hp → Prop) : Prop where
  m : MachAt CM H p ts
  n : MachAt CM H q ws
  ok : Mx.Ok ws
  r : R H v d
  e1 : ws.length ≠ ts.length → Rais E H CR "at" (.ref q)
  e2 : ws.length = ts.length → belowD (mst ws) d = false → Rais E H CN "state" v
  e3 : ∀ s : Nat, d = .int (s : Nat) → s < Mx.mst ws → ws.length = ts.length → forgF 0 (rl ws s) ws ≠ none → Rais E H CR "at" (.ref q)
  q : ∀ s : Nat, d = .int (s : Nat) → s < Mx.mst ws → ws.length = ts.length → forgF 0 (rl ws s) ws = none → ∀ H', Ex H H' → Q H'
def spNSeer (CM CR CN : Addr) : Sp := fun vs H Q E => ∃ (p q : Addr) (v : V) (d : PyData) (ts ws : Tab), vs = [.ref p, .ref q, v] ∧ NeedS CM CR CN H p q v d ts ws E (Q .non)
abbrev sNSeer : Stmt := top 41
theorem scNSeer : FnScope ["machine", "witness", "start"] ["machine", "witness", "start"] (defScope sNSeer) := ⟨rfl, rfl, rfl, by decide +kernel, rfl, by decide +kernel, by decide +kernel⟩
theorem ok_nseer {f : Addr} {fd : FuncData} (F : Fun K "need_seer" "need_seer" sNSeer f fd) (TC : TxC K mg CM CC) (TE : TxE P K mg CR CN CF CT) (D_need_state : Def P w K mg base 4 "need_state" ["machine", "state"] (spNState CM CN)) (D_forgotten : Def P w K mg base 6 "forgotten" ["machine", "first"] (spForg CM CN)) :
    FnOk P w K mg base (L2.CX P w) 7 f fd ["machine", "witness", "start"] (spNSeer CM CR CN) := by
  obtain ⟨fI, xR⟩ := TE.re
  refine F.okX scNSeer (fun vs H Q E h => ?_) (fun cdv A outer s H vs Q E hr h => ?_)
  · obtain ⟨p, q, v, d, ts, ws, rfl, _⟩ := h
    rfl
  · obtain ⟨p, q, v, d, ts, ws, rfl, N⟩ := h
    refine ⟨_, (pss_cons (ps_if (pt_cmpR op_ne (pe_fld (pv 1) rfl) (pe_fld (pv 0) rfl) (nomark _)) (pss_one (ps_raiseX (W := fun cls d _ H => E cls d H) rfl xR hr tk_own (pa_cons (pv 1) pa_nil))) pss_nil)
      (pss_cons (ps_expr (pcallE (E := E) D_need_state hr (by decide) tk_own (fun _ _ _ _ h => h) (pa_cons (pv 1) (pa_cons (pv 2) pa_nil))))
      (pss_one (ps_if (pt_cmp (pc_notN (pcallE (E := E) D_forgotten hr (by decide) tk_own (fun _ _ _ _ h => h) (pa_cons (pv 1) (pa_cons (pv 2) pa_nil))))) (pss_one (ps_raiseX (W := fun cls d _ H => E cls d H) rfl xR hr tk_own (pa_cons (pv 1) pa_nil))) pss_nil)))), ?_⟩
    obtain ⟨dx, t, hp, rt⟩ := id N.m
    obtain ⟨dy, u, hq, ru⟩ := id N.n
    refine ⟨_, rfl, _, _, _, _, _, rfl, hq, TC.clM, TC.nM _ (by decide), mf_deeds _ _ _, _, rfl, _, _, _, _, _, rfl, hp, TC.clM, TC.nM _ (by decide), mf_deeds _ _ _, rfl, _, rfl, ?_⟩
    by_cases hl : ws.length = ts.length
    rotate_left
    · exact itT (by simp; omega) ⟨_, rfl, rfl, fun d2 h2 => N.e1 hl _ _ (Ex.new h2) upd_same⟩
    refine itF (by rw [hl]; simp) ?_
    refine ⟨_, rfl, _, rfl, q, v, d, ws, rfl, N.n, N.r, fun hb => ?_, N.e2 hl⟩
    obtain ⟨s, ed, hs⟩ := belowD_of hb
    refine ⟨_, rfl, _, rfl, q, v, d, ws, rfl, N.n, N.ok, N.r, fun s' ed' hs' => ⟨fun hn H1 e1 => ?_, fun k a b hk z H1 e1 h1 => ?_⟩, fun hb' => absurd hb (by rw [hb']; exact Bool.false_ne_true)⟩
    · exact ⟨_, rfl, itF rfl (N.q s' ed' hs' hl hn _ e1)⟩
    · exact ⟨_, rfl, itT rfl ⟨_, rfl, rfl, fun d2 h2 => N.e3 s' ed' hs' hl (by rw [hk]; exact fun h => by cases h) _ _ (e1.tr (Ex.new h2)) upd_same⟩⟩
end
end Onew
end
section
set_option maxRecDepth 100000
set_option maxHeartbeats 4000000
namespace Onew
open PySem PySem.Spec PyProof.Rows L2 G
open Mx (Tab im Rch rl rowF forgF doneOn Fm nextD nextP)
theorem noL_p (z : Doing × Nat) : noL (pD z) = true := by
  show (noL (dD z.1) && (noL (.int (z.2 : Nat)) && true)) = true
  rw [noL_d]; rfl
theorem r_p {H : Hp} {v : V} {z : Doing × Nat} (h : R H v (pD z)) : ∃ a x, v = .ref a ∧ H a = some (.tup [x, .int (z.2 : Nat)]) ∧ R H x (dD z.1) := by
  cases h with
  | tup h t =>
    cases t with
    | cons r1 t =>
      cases t with
      | cons r2 t =>
        cases t
        cases r2
        exact ⟨_, _, rfl, h, r1⟩
theorem r_p_mk {H : Hp} {a : Addr} {x : V} {z : Doing × Nat} (h : H a = some (.tup [x, .int (z.2 : Nat)])) (r : R H x (dD z.1)) : R H (.ref a) (pD z) := .tup h (.cons r (.cons (.int _) .nil))
/-- the doings, with where the witness stands -/
abbrev pairs (ts : Tab) (ns : List Nat) (ws : Tab) (f s N : Nat) : List (Doing × Nat) := Mx.run (nextP ts ns ws) N [(nothing ts f, s)] 0
/-- the doings that lead back to s -/
def keptL (W : List (Doing × Nat)) (s : Nat) : List Doing := (W.filter fun z => decide (z.2 = s)).map (·.1)
theorem kvp_data (W : List (Doing × Nat)) : (kvK kP W).map (fun q => q.1.data) = W.map pD := by
  unfold kvK; rw [List.map_map]; exact List.map_congr_left fun x _ => kP_data x
section
variable {P : Program} {w : World} {K : PySem.W.Frag} {mg : Str → Option Value} {base : Heap} {CM CC CR CN CF CT : Addr}
/-- a form: of the doing, of the state -/
def Fp (ts : Tab) (ns : List Nat) (ws : Tab) (z : Doing × Nat) : Prop := Fm ts ns z.1 ∧ z.2 < Mx.mst ws
/-- first is good -/
structure GoodF (ts : Tab) (ns es : List Nat) (d : PyData) (f : Nat) : Prop where
  d : d = .int (f : Nat)
  lt : f < Mx.mst ts
  len : ns.length = ts.length
  rou : RouOk ns es
  ex : forgF 0 (rl ts f) ts = none
def spKept (CM CC CR CN CF CT : Addr) : Sp := fun vs H Q E => ∃ (p : Addr) (v : V) (c q : Addr) (u : V) (d du : PyData) (ts : Tab) (ns es : List Nat) (ws : Tab) (most N : Nat), vs = [.ref p, v, .ref c, .ref q, u, .int (most : Nat)] ∧ 1 ≤ most ∧ N ≤ 10000 ∧ NeedD CM CC CR CN CF H p v d c ts ns es E (fun _ => True) ∧
  ∀ f, GoodF ts ns es d f → NeedS CM CR CN H p q u du ts ws E (fun _ => True) ∧ ∀ s : Nat, du = .int (s : Nat) → s < Mx.mst ws → ws.length = ts.length → forgF 0 (rl ws s) ws = none → (pairs ts ns ws f s N).length ≤ N ∧
    ((pairs ts ns ws f s N).length ≤ most → ∀ v H', Ex H H' → R H' v (.tuple ((sortW (keptL (pairs ts ns ws f s N) s)).map dD)) → Q v H') ∧ (most < (pairs ts ns ws f s N).length → Rais E H CT "most" (.int (most : Nat)))
abbrev sKept : Stmt := top 42
theorem scKept : FnScope ["machine", "first", "counters", "witness", "start", "most", "begin", "found", "waiting", "at", "doing", "standing", "deed", "after"] ["machine", "first", "counters", "witness", "start", "most"] (defScope sKept) := ⟨rfl, rfl, rfl, by decide +kernel, rfl, by decide +kernel, by decide +kernel⟩
theorem Rais.up {E : XK} {H H' : Hp} {C : Addr} {f : Str} {v : V} (r : Rais E H C f v) (e : Ex H H') : Rais E H' C f v := fun d H2 e2 h => r d H2 (e.tr e2) h
theorem ok_kept {f : Addr} {fd : FuncData} {dvs : List V} {kws : List (Str × V)} (F : FunD K "kept_doings" "kept_doings" (defArgs sKept) (defBody sKept) (defScope sKept) dvs kws f fd) (T : Txt K mg) (TC : TxC K mg CM CC) (TE : TxE P K mg CR CN CF CT) (D_need_doings : Def P w K mg base 8 "need_doings" ["machine", "first", "counters"] (spNDo CM CC CR CN CF))
    (D_need_seer : Def P w K mg base 7 "need_seer" ["machine", "witness", "start"] (spNSeer CM CR CN)) (D_nothing_done : Def P w K mg base 6 "nothing_done" ["machine", "first"] (spNoth CM CN))
    (D_done_on : Def P w K mg base 1 "done_on" ["machine", "counters", "doing", "deed"] (spDone CM CC)) : FnOk P w K mg base (L2.CX P w) 9 f fd ["machine", "first", "counters", "witness", "start", "most"] (spKept CM CC CR CN CF CT) := by
  obtain ⟨fI, xT⟩ := TE.tg
  refine F.ok scKept (fun vs H Q E h => ?_) (fun cdv A outer s0 H vs Q E hr h => ?_)
  · obtain ⟨p, v, c, q, u, d, du, ts, ns, es, ws, most, N, rfl, _⟩ := h
    rfl
  · obtain ⟨p, v, c, q, u, d, du, ts, ns, es, ws, most, N, rfl, hm, hN, ND', rest⟩ := h
    have nd := scKept.nd
    refine ⟨_, (pss_cons (ps_expr (pcallE (E := E) D_need_doings hr (by decide) tk_own (fun _ _ _ _ h => h) (pa_cons (pv 0) (pa_cons (pv 1) (pa_cons (pv 2) pa_nil)))))
      (pss_cons (ps_expr (pcallE (E := E) D_need_seer hr (by decide) tk_own (fun _ _ _ _ h => h) (pa_cons (pv 0) (pa_cons (pv 3) (pa_cons (pv 4) pa_nil)))))
      (pss_cons (ps_set (i := 6) nd rfl (Or.inl rfl) (pe_tup (pa_cons (pcall D_nothing_done hr (by decide) (pa_cons (pv 0) (pa_cons (pv 1) pa_nil))) (pa_cons (pv 4) pa_nil))))
      (pss_cons (ps_set (i := 7) nd rfl (Or.inl rfl) (pe_disp1N (hu64 hr) (pv 6) pe_bl))
      (pss_cons (ps_set (i := 8) nd rfl (Or.inl rfl) (pe_lst (pa_cons (pv 6) pa_nil)))
      (pss_cons (ps_set (i := 9) nd rfl (Or.inl rfl) pe_int)
      (pss_cons (ps_while (passes_of rfl) (pt_cmpR op_lt (pv 9) (pe_callB call_len_seq (by rfl) (T.no "len" (by decide)) boot_len (pa_cons (pv 8) pa_nil)) (nomark _)) (pss_cons (ps_asg (pe_ix ix_list (pv 8) (pv 9) (fun _ _ => rfl)) (pg_tup rfl (pgs_cons (pg_name (i := 10) nd rfl (Or.inl rfl)) (pgs_cons (pg_name (i := 11) nd rfl (Or.inl rfl)) pgs_nil))))
      (pss_cons (ps_aug (i := 9) nd rfl (Or.inl rfl) pe_int ip_add)
      (pss_one (ps_for (passes_of rfl) rfl (pi_range1 rfl (T.no "range" (by decide)) (pa_cons (pe_fld (pv 0) rfl) pa_nil)) (pg_name (i := 12) nd rfl (Or.inl rfl)) (pss_cons (ps_set (i := 13) nd rfl (Or.inl rfl) (pe_tup (pa_cons (pcall D_done_on hr (by decide) (pa_cons (pv 0) (pa_cons (pv 2) (pa_cons (pv 10) (pa_cons (pv 12) pa_nil))))) (pa_cons (pe_ix ix_tup (pe_ix ix_tup (pe_fld (pv 3) rfl) (pv 12) (fun _ _ => rfl)) (pv 11) (fun _ _ => rfl)) pa_nil))))
      (pss_one (ps_if (pt_cmpR (op_notInN (hu64 hr)) (pv 13) (pv 7) (by rfl)) (pss_cons (ps_if (pt_cmpR op_eq (pe_callB cr_lenN (by rfl) (T.no "len" (by decide)) boot_len (pa_cons (pv 7) pa_nil)) (pv 5) (nomark _)) (pss_one (ps_raiseX (W := fun cls d _ H => E cls d H) rfl xT hr tk_own (pa_cons (pv 5) pa_nil))) pss_nil)
      (pss_cons (ps_asg pe_bl (pg_sub (pv 7) (pv 13) (set_N (hu64 hr))))
      (pss_one (ps_expr (pe_bm PySem.F.plainAttrs_list PySem.F.slot_list_append PySem.F.type_list_append mt_append (pv 8) (pa_cons (pv 13) pa_nil)))))) pss_nil))))))))
      (pss_one (ps_ret (pe_callTy cr_tup (by rfl) (T.no "tuple" (by decide)) boot_tuple (pa_cons (pe_callB (cr_sortD (hu64 hr)) (by rfl) (T.no "sorted" (by decide)) boot_sorted (pa_cons (pe_lock (pe_lc (own := [("doing", 10), ("standing", 11)]) (g := gTup K 2 (gCons (gName 10) (gCons (gName 11) gNil))) (tt := tTest (tOp rEq (tVar 11) (tVar 4))) (te := tVar 10) rfl nd (pi_nd (pv 7)) (blkOk_by (N := ["machine", "first", "counters", "witness", "start", "most", "begin", "found", "waiting", "at", "doing", "standing", "deed", "after"]) (sc := defScope sKept) (by decide +kernel)) (fun _ _ _ _ _ => (pg_tup rfl (pgs_cons (pg_name (i := 10) nd rfl (Or.inl rfl)) (pgs_cons (pg_name (i := 11) nd rfl (Or.inl rfl)) pgs_nil)))) (fun _ _ _ _ _ => (pts_one (pt_cmpR op_eq (pv 11) (pv 4) (nomark _)))) (fun _ _ _ _ _ => (pv 10)))) pa_nil)) pa_nil))))))))))), ?_⟩
    refine ⟨_, rfl, _, rfl, _, rfl, p, v, c, d, ts, ns, es, rfl, ⟨ND'.m, ND'.ok, ND'.r, ND'.cn, ND'.l1, ND'.l2, ND'.e1, ND'.e2, ND'.e3, ND'.e4, fun f ed hf hl hro hfo Ha ea => ?_⟩⟩
    obtain ⟨NS, rest2⟩ := rest f ⟨ed, hf, hl, hro, hfo⟩
    refine ⟨_, rfl, _, rfl, _, rfl, p, q, u, du, ts, ws, rfl, ⟨NS.m.ex ea, NS.n.ex ea, NS.ok, NS.r.ex ea, fun h => (NS.e1 h).up ea, fun h1 h2 => (NS.e2 h1 h2).up ea, fun s h1 h2 h3 h4 => (NS.e3 s h1 h2 h3 h4).up ea, fun s edu hs hlw hfw Hb eb => ?_⟩⟩
    obtain ⟨hfin, q1, q2⟩ := rest2 s edu hs hlw hfw
    subst ed
    subst edu
    have rv0 := ND'.r
    cases rv0
    have ru0 := NS.r
    cases ru0
    have M := ND'.m
    have ok := ND'.ok
    have Cn := ND'.cn
    have h0 := hro.1
    have okw := NS.ok
    have e0 := ea.tr eb
    refine ⟨_, rfl, _, rfl, p, ts, f, rfl, M.ex e0, ok, hf, fun v1 H1' e1' r1' => ?_⟩
    refine ⟨_, rfl, by show 2 ≤ sizeLine; decide, fun b1 hb1' => ?_⟩
    have e1 := e0.tr (e1'.tr (Ex.new (o := .tup [v1, .int (s : Nat)]) hb1'))
    have r1 : R (upd H1' b1 (.tup [v1, .int (s : Nat)])) (.ref b1) (pD (nothing ts f, s)) := r_p_mk upd_same (r1'.ex (Ex.new hb1'))
    generalize hH1 : upd H1' b1 (.tup [v1, .int (s : Nat)]) = H1 at e1 r1
    intro D hD
    have eD := Ex.new (o := ND P w D []) hD
    refine ⟨_, rfl, upd_same, b1, kP (nothing ts f, s), rfl, by rw [kP_data]; exact r1.ex eD, by rw [kP_depth]; decide, fun u hdm => ?_⟩
    refine ⟨_, rfl, by show 1 ≤ sizeLine; decide, fun L hL => ?_⟩
    have hD0 : H D = none := e1.back hD
    have nLD : L ≠ D := fun z => by rw [z, upd_same] at hL; cases hL
    have hL1 : H1 L = none := by rw [upd_ne nLD, upd_ne nLD] at hL; exact hL
    have hL0 : H L = none := e1.back hL1
    have hra : R (upd (upd (upd H1 D (ND P w D [])) D u) L (.lst [V.ref b1])) (.ref b1) (pD (nothing ts f, s)) := R.tx (eD.t.tr ((Tx.put upd_same nd_notup).tr (Ex.new hL).t)) _ _ (noL_p _) r1
    have B0 : Bfs P w kP H (upd (upd (upd H1 D (ND P w D [])) D u) L (.lst [V.ref b1])) D L [(nothing ts f, s)] :=
      ⟨((e1.tr eD).mut hD0).mut hL0, hD0, hL0, DM.ex hdm (Ex.new hL), [.ref b1], upd_same, .cons (by show R _ _ (kP (nothing ts f, s)).data; rw [kP_data]; exact hra) .nil⟩
    refine while_by (fun σ H' => ∃ (W : List (Doing × Nat)) (at_ : Nat) (x8 x8b x9 x10 : Option V), σ = [some (.ref p), some (.int (f : Nat)), some (.ref c), some (.ref q), some (.int (s : Nat)), some (.int (most : Nat)), some (.ref b1), some (.ref D), some (.ref L), some (.int (at_ : Nat)), x8, x8b, x9, x10] ∧ Bfs P w kP H H' D L W ∧ W.Nodup ∧ at_ ≤ N ∧
      Mx.run (nextP ts ns ws) (N - at_) W at_ = pairs ts ns ws f s N ∧ W.length ≤ most ∧ ∀ y ∈ W, Fp ts ns ws y) (fun σ H' => muAt 9 N σ) ?_ ?_ ?_
    · exact ⟨[(nothing ts f, s)], 0, _, _, _, _, rfl, B0, by simp, Nat.zero_le _, rfl, by simpa using hm, fun y hy => by rw [List.mem_singleton.mp hy]; exact ⟨fm_nothing ok hf, hs⟩⟩
    · rintro σ H2 ⟨W, at_, x8, x8b, x9, x10, rfl, B, ndW, hat, hrun, hlen, hfm⟩
      obtain ⟨vs, hLv, rv⟩ := B.ls
      have vl : vs.length = W.length := by rw [rv.length, List.length_map]
      refine ⟨_, rfl, _, rfl, _, _, rfl, .inl (SqL.of hLv), _, _, rfl, rfl, _, rfl, ?_⟩
      rw [vl]
      by_cases hlt : at_ < W.length
      · refine itT (dT (by omega)) ?_
        have hx : W[at_]? = some W[at_] := List.getElem?_eq_getElem hlt
        generalize hxe : W[at_] = x at hx
        obtain ⟨v8', hv8, r8⟩ := RAll.at rv (i := at_) (d := (kP x).data) (by rw [List.getElem?_map, hx]; rfl)
        rw [kP_data] at r8
        have hWN : W.length ≤ N := by
          have := (Mx.run_pre (succ := nextP ts ns ws) (N - at_) W at_).length_le
          rw [hrun] at this
          omega
        have hstep : Mx.run (nextP ts ns ws) (N - (at_ + 1)) (Mx.expand (nextP ts ns ws) W x) (at_ + 1) = pairs ts ns ws f s N := by
          rw [← hrun, show N - at_ = (N - (at_ + 1)) + 1 by omega, Mx.run_step hx]
        have hpre : (Mx.expand (nextP ts ns ws) W x) <+: pairs ts ns ws f s N := by rw [← hstep]; exact Mx.run_pre _ _ _
        have fmx := hfm x (List.mem_of_getElem? hx)
        obtain ⟨a8, v8, rfl, h8, r8⟩ := r_p r8
        refine ⟨_, rfl, _, rfl, _, _, _, _, rfl, rfl, SqL.of hLv, atI_nat hv8, a8, _, rfl, SqT.of h8, rfl, _, _, rfl, _, _, rfl, rfl, ?_⟩
        refine ⟨_, rfl, _, _, rfl, rfl, ?_⟩
        obtain ⟨dx, t, hp, rt⟩ := id M
        refine ⟨_, rfl, _, _, _, _, _, rfl, B.ex _ _ hp, TC.clM, TC.nM _ (by decide), mf_deeds _ _ _, ?_⟩
        have l4 := ok.l4
        refine ⟨_, rfl, by omega, by omega, ?_⟩
        refine for_it walk_range (fun j σ H' => ∃ (W' : List (Doing × Nat)) (x9 x10 : Option V), σ = [some (.ref p), some (.int (f : Nat)), some (.ref c), some (.ref q), some (.int (s : Nat)), some (.int (most : Nat)), some (.ref b1), some (.ref D), some (.ref L), some (.int ((at_ + 1 : Nat) : Int)), some v8, some (.int (x.2 : Nat)), x9, x10] ∧ Bfs P w kP H H' D L W' ∧ W'.Nodup ∧ R H' v8 (dD x.1) ∧
          ((nextP ts ns ws x).drop j).foldl Mx.ins W' = Mx.expand (nextP ts ns ws) W x ∧ W'.length ≤ most ∧ ∀ y ∈ W', Fp ts ns ws y) ⟨W, _, _, rfl, B, ndW, r8, rfl, hlen, hfm⟩ (fun _ _ _ _ _ => trivial) ?_ ?_
        · rintro j xv σ H3 H3' hj ⟨W', x9', x10', rfl, B3, nd3, r3, hfold, hlen3, hfm3⟩ ⟨rfl, hxv⟩
          have hj' : j < ts.length := by omega
          have hy : (nextP ts ns ws x)[j]? = some (doneOn ts ns x.1 j, im (ws.getD j []) x.2) := by
            unfold nextP
            rw [List.getElem?_map, List.getElem?_range hj']; rfl
          have hxv' : xv = .int (j : Nat) := by rw [hxv]; simp
          subst hxv'
          refine ⟨_, rfl, _, rfl, _, rfl, _, rfl, p, c, v8, x.1, ts, ns, es, j, rfl, M.ex B3.ex, ok, Cn.ex B3.ex, hl, h0, r3, fmx.1, hj', fun v9 H4' e4' r9' => ?_⟩
          obtain ⟨dy, tw, hq, rtw⟩ := id (NS.n.ex (B3.ex.tr e4'))
          obtain ⟨xsw, htw, xlw, rowsw⟩ := tab_at rtw
          obtain ⟨roww, hroww⟩ : ∃ row, ws[j]? = some row := ⟨ws[j]'(by omega), List.getElem?_eq_getElem (by omega)⟩
          obtain ⟨aw, haw, hraw⟩ := rowsw j roww hroww
          have imw := okw.im (List.mem_of_getElem? hroww) fmx.2
          have erw : ws.getD j [] = roww := getD_some hroww
          refine ⟨_, rfl, _, _, _, _, _, rfl, hq, TC.clM, TC.nM _ (by decide), mf_tables _ _ _, _, rfl, _, _, _, _, rfl, rfl, SqT.of htw, atI_nat haw, _, rfl, _, _, _, _, rfl, rfl, SqT.of hraw, atI_nat (nV_at imw.1), by show 2 ≤ sizeLine; decide, fun a9 ha9' => ?_⟩
          have e4 : Ex H3' (upd H4' a9 (.tup [v9, .int (im roww x.2 : Nat)])) := e4'.tr (Ex.new ha9')
          have r9 : R (upd H4' a9 (.tup [v9, .int (im roww x.2 : Nat)])) (.ref a9) (pD (doneOn ts ns x.1 j, im (ws.getD j []) x.2)) := by
            refine r_p_mk ?_ (r9'.ex (Ex.new ha9'))
            rw [erw]; exact upd_same
          generalize hH4 : upd H4' a9 (.tup [v9, .int (im roww x.2 : Nat)]) = H4 at e4 r9
          have B4 := B3.up e4
          rw [drop_cons hy, List.foldl_cons] at hfold
          refine ⟨_, rfl, _, rfl, a9, D, kP (doneOn ts ns x.1 j, im (ws.getD j []) x.2), _, rfl, rfl, by rw [kP_data]; exact r9, by rw [kP_depth]; decide, B4.dm.dn, _, rfl, ?_⟩
          rw [valV_kvK (fun _ _ => kP_inj)]
          by_cases hin : (doneOn ts ns x.1 j, im (ws.getD j []) x.2) ∈ W'
          · rw [if_pos hin]
            refine itF rfl ⟨W', _, _, rfl, B4, nd3, r3.ex e4, ?_, hlen3, hfm3⟩
            rw [← hfold, Mx.ins, if_pos hin]
          · rw [if_neg hin]
            rw [Mx.ins, if_neg hin] at hfold
            refine itT rfl ?_
            have hmore : W'.length + 1 ≤ (pairs ts ns ws f s N).length := by
              have := (Mx.fold_pre ((nextP ts ns ws x).drop (j + 1)) (W' ++ [(doneOn ts ns x.1 j, im (ws.getD j []) x.2)])).length_le
              rw [hfold, List.length_append, List.length_singleton] at this
              have := hpre.length_le
              omega
            refine ⟨_, rfl, D, _, rfl, B4.dm.dn, _, rfl, rfl, _, rfl, ?_⟩
            rw [B4.len]
            by_cases hmo : W'.length = most
            · refine itT (by rw [hmo]; simp) ⟨_, rfl, rfl, fun d2 h2 => q2 (by omega) _ _ ((B4.ex).tr (Ex.new h2)) upd_same⟩
            · refine itF (by simp; omega) ?_
              refine ⟨_, rfl, _, rfl, a9, D, kP (doneOn ts ns x.1 j, im (ws.getD j []) x.2), _, rfl, rfl, by rw [kP_data]; exact r9, by rw [kP_depth]; decide, B4.dm, by rw [B4.len, sizeLine_eq]; omega, fun u hdm => ?_⟩
              obtain ⟨vs5, h5, l5, B5, t5⟩ := B4.put (fun _ _ => kP_inj) hin (v := .ref a9) (by rw [kP_data]; exact r9) hdm
              refine ⟨_, rfl, .inl ⟨rfl, _, SqL.of h5⟩, _, rfl, L, _, _, rfl, rfl, h5, by rw [l5, sizeLine_eq]; omega, ?_⟩
              refine ⟨W' ++ [(doneOn ts ns x.1 j, im (ws.getD j []) x.2)], _, _, rfl, B5, ?_, R.tx (e4.t.tr t5) _ _ (noL_d _) r3, hfold, by rw [List.length_append, List.length_singleton]; omega, fun y hy2 => ?_⟩
              · rw [List.nodup_append]
                exact ⟨nd3, by simp, fun a ha b hb e => hin (by rw [← List.mem_singleton.mp hb, ← e]; exact ha)⟩
              · rcases List.mem_append.mp hy2 with h | h
                · exact hfm3 y h
                · rw [List.mem_singleton.mp h]; exact ⟨fmx.1.done ok hj', by rw [erw]; exact imw.2⟩
        · rintro σ H3 ⟨W', x9', x10', rfl, B3, nd3, r3, hfold, hlen3, hfm3⟩
          have hnil : (nextP ts ns ws x).drop ((ts.length : Int)).toNat = [] := by
            rw [List.drop_of_length_le]
            unfold nextP
            rw [List.length_map, List.length_range]; omega
          rw [hnil] at hfold
          have hW : W' = Mx.expand (nextP ts ns ws) W x := hfold
          subst hW
          refine ⟨⟨_, at_ + 1, _, _, _, _, rfl, B3, nd3, by omega, hstep, hlen3, hfm3⟩, ?_⟩
          show N + 1 - _ < N + 1 - _
          simp only [Int.toNat_natCast]
          omega
      · refine itF (decide_eq_false (by omega)) ?_
        have hW : W = pairs ts ns ws f s N := by rw [← hrun, Mx.run_stop (by omega)]
        subst hW
        obtain ⟨lo, _, _, xs, hDm, kn⟩ := id B.dm
        refine ⟨D, _, hDm, nd_mut, fun od => ?_⟩
        have tl : Tx H2 (upd H2 D (.frz od (ND P w D xs))) := Tx.put hDm nd_notup
        have rk := kn.refs
        rw [kvp_data] at rk
        have xl : xs.length = (pairs ts ns ws f s N).length := by
          have := rk.length
          rw [List.length_map, List.length_map] at this; exact this
        refine ⟨_, rfl, D, od, xs, rfl, lo, upd_same, fun D2 hD2 => ?_⟩
        refine lc_filt walk_ndKeys hD2 ((pairs ts ns ws f s N).map pD) (fun d => match d with | .tuple [a, _] => a | _ => .none) (fun d => match d with | .tuple [_, .int i] => decide (i = (s : Int)) | _ => false) (by rw [List.length_map, xl]) (by rw [xl, sizeLine_eq]; omega) (fun d hd => ?_) (fun H' e => e _ _ upd_same) ?_ ?_
        · obtain ⟨z, _, rfl⟩ := List.mem_map.mp hd
          exact noL_d _
        · rintro i xv H3 H3' d3 Post Pf hi e3 ⟨rfl, y, hy, rfl⟩ hd kT kF
          rw [List.getElem?_map] at hd
          cases hz : (pairs ts ns ws f s N)[i]? with
          | none => rw [hz] at hd; cases hd
          | some z =>
          rw [hz] at hd
          cases hd
          obtain ⟨v4, hv4, r4⟩ := RAll.at rk (i := i) (d := pD z) (by rw [List.getElem?_map, hz]; rfl)
          rw [List.getElem?_map, hy] at hv4
          cases hv4
          have r5 := (R.tx tl _ _ (noL_p z) r4).ex e3
          obtain ⟨a5, x5, e5, h5, r6⟩ := r_p r5
          cases e5
          refine ⟨_, _, rfl, SqT.of h5, rfl, _, _, rfl, _, _, rfl, rfl, rfl, ?_⟩
          refine ⟨_, rfl, _, rfl, rfl, _, rfl, ?_⟩
          by_cases hzs : z.2 = s
          · exact itT (by rw [hzs]; simp) ⟨_, rfl, kT (by simp [pD, hzs]) _ _ Ex.rfl' r6⟩
          · exact itF (by simp; omega) (kF (by simp [pD]; omega) _ Ex.rfl')
        · intro acc H3 e3 h3 r3
          have ek : (((pairs ts ns ws f s N).map pD).filter (fun d => match d with | .tuple [_, .int i] => decide (i = (s : Int)) | _ => false)).map (fun d => match d with | .tuple [a, _] => a | _ => .none) = (keptL (pairs ts ns ws f s N) s).map dD := by
            unfold keptL
            rw [List.filter_map, List.map_map, List.map_map]
            have : ((fun d => match d with | .tuple [_, .int i] => decide (i = (s : Int)) | _ => false) ∘ pD) = fun z : Doing × Nat => decide (z.2 = s) := by
              funext z
              simp only [Function.comp, pD]
              exact decide_eq_decide.mpr (by omega)
            rw [this]
            rfl
          rw [ek] at r3
          have e4 : Ex H2 (upd H3 D (ND P w D xs)) := ex_unlock hDm e3
          have n2 : D2 ≠ D := fun z => by rw [z, upd_same] at hD2; cases hD2
          refine ⟨e3 _ _ upd_same, tnil (sort_d (by rw [upd_ne n2]; exact h3) (RAll.tx (Tx.put (e3 _ _ upd_same) fun _ z => by cases z) _ _ (noLs_d _) r3) fun b vs' H5 e5 h5 r5 => ?_)⟩
          exact tnil (tuple_sqR (b := true) h5 r5 fun v' H6 e6 r6 => q1 hlen v' H6 (B.ex.tr (e4.tr (e5.tr e6))) r6)
    · rintro σ H' Q Q' h ⟨_, a0, _, a1, _, _, a2, a3, _, _, a4, a5, _, a6, q⟩
      exact ⟨_, a0, _, a1, _, _, a2, a3, _, _, a4, a5, _, a6, h _ _ q⟩
end
end Onew
end
section
set_option maxRecDepth 100000
set_option maxHeartbeats 4000000
namespace Onew
open PySem PySem.Spec PyProof.Rows L2 G
open Mx (Tab im Rch rl rowF forgF doneOn Fm nextD nextP behind z3)
theorem hu65 {A : Around} {k : Nat} (hr : Room k A) : A.units + 65 < cLine := by have := hr.un; omega
/-! ### groups -/
def toldAll (W : List Doing) : List PyData → Option (List Doing)
  | [] => some []
  | d :: r => match toldD W d, toldAll W r with
    | some x, some xs => some (x :: xs)
    | _, _ => none
/-- T is closed: one behind another is in T -/
abbrev Closed (S ns : List Nat) (T : List Doing) : Prop := ∀ x ∈ T, ∀ y ∈ T, behind S ns x y ∈ T
def closedD (S ns : List Nat) (W : List Doing) (d : PyData) : Option (List Doing) := match seqI d with
  | none => none
  | some [] => none
  | some (e :: ds) => match toldAll W (e :: ds) with
    | none => none
    | some T => if T.Nodup ∧ Closed S ns T then some T else none
/-- told, as data -/
def tdD (W : List Doing) (d : PyData) : PyData := match toldD W d with
  | some x => dD x
  | none => .none
/-- a doing of the right form -/
structure Fd (S ns : List Nat) (x : Doing) : Prop where
  l : x.1.length = S.length
  s : ∀ z ∈ x.1, z ∈ S
  c : x.2.length = ns.length
theorem told_mem {W : List Doing} {d : PyData} {x : Doing} (h : toldD W d = some x) : x ∈ W := by
  unfold toldD at h
  split at h
  · split at h
    · exact List.mem_of_find?_eq_some h
    · cases h
  · cases h
theorem toldAll_some {W : List Doing} : ∀ {ds : List PyData} {T : List Doing}, toldAll W ds = some T → ds.map (tdD W) = T.map dD ∧ (∀ x ∈ T, x ∈ W) ∧ T.length = ds.length
  | [], T, h => by cases h; exact ⟨rfl, fun x hx => absurd hx (by simp), rfl⟩
  | d :: r, T, h => by
    unfold toldAll at h
    cases e1 : toldD W d with
    | none => simp [e1] at h
    | some x =>
      cases e2 : toldAll W r with
      | none => simp [e1, e2] at h
      | some xs =>
        simp only [e1, e2] at h
        cases h
        obtain ⟨a, b, c⟩ := toldAll_some e2
        refine ⟨?_, fun y hy => ?_, by simp [c]⟩
        · rw [List.map_cons, List.map_cons, a]
          unfold tdD; rw [e1]
        · rcases List.mem_cons.mp hy with z | z
          · rw [z]; exact told_mem e1
          · exact b y z
theorem toldAll_none {W : List Doing} : ∀ {ds : List PyData}, (toldAll W ds = none ↔ PyData.none ∈ ds.map (tdD W))
  | [] => by simp [toldAll]
  | d :: r => by
    have ih := toldAll_none (W := W) (ds := r)
    rw [List.map_cons, List.mem_cons, ← ih, show toldAll W (d :: r) = (match toldD W d, toldAll W r with | some x, some xs => some (x :: xs) | _, _ => none) from rfl]
    unfold tdD
    cases e1 : toldD W d with
    | none => simp
    | some x =>
      cases e2 : toldAll W r with
      | none => simp [dD]
      | some xs => simp [dD]
theorem noL_td (W : List Doing) (d : PyData) : noL (tdD W d) = true := by
  unfold tdD
  split
  · exact noL_d _
  · rfl
theorem noLs_td (W : List Doing) : ∀ ds : List PyData, noLs (ds.map (tdD W)) = true
  | [] => rfl
  | d :: ds => by simp only [List.map_cons, noLs, noL_td, Bool.true_and]; exact noLs_td W ds
theorem eqv_none (W : List Doing) : ∀ ds : List PyData, ((ds.map (tdD W)).any fun z => PyData.eqv z .none) = (toldAll W ds).isNone
  | [] => rfl
  | d :: ds => by
    rw [List.map_cons, List.any_cons, eqv_none W ds, show toldAll W (d :: ds) = (match toldD W d, toldAll W ds with | some x, some xs => some (x :: xs) | _, _ => none) from rfl]
    unfold tdD
    cases e : toldD W d with
    | none => simp [PyData.eqv]
    | some x => cases e2 : toldAll W ds <;> simp [PyData.eqv, dD]
theorem canLay_n : ∀ a : List Nat, PyData.canLayAll0 (nD a) = true
  | [] => rfl
  | a :: as => by
    show PyData.canLayAll0 (.int (a : Nat) :: nD as) = true
    rw [PyData.canLayAll0, canLay_n as]; rfl
theorem canLay_d (x : Doing) : PyData.canLay0 (dD x) = true := by
  unfold dD iD
  rw [PyData.canLay0, PyData.canLayAll0, PyData.canLayAll0, PyData.canLayAll0, PyData.canLay0, PyData.canLay0, canLay_n, canLay_n]; rfl
theorem canLay_td (W : List Doing) : ∀ ds : List PyData, PyData.canLayAll0 (ds.map (tdD W)) = true
  | [] => rfl
  | d :: ds => by
    rw [List.map_cons, PyData.canLayAll0, canLay_td W ds, Bool.and_true]
    unfold tdD
    cases toldD W d with
    | none => rfl
    | some x => exact canLay_d x
theorem depth_td (W : List Doing) : ∀ ds : List PyData, PyData.depthAll (ds.map (tdD W)) ≤ 2
  | [] => by show 0 ≤ 2; decide
  | d :: ds => by
    rw [List.map_cons, PyData.depthAll]
    refine Nat.max_le.mpr ⟨?_, depth_td W ds⟩
    unfold tdD
    cases toldD W d with
    | none => decide
    | some x => exact depth_d x
theorem shaped_td (W : List Doing) (ds : List PyData) : SeqAt.shaped (.list (ds.map (tdD W))) = true := by
  unfold SeqAt.shaped
  rw [PyData.canLay0, canLay_td, Bool.true_and, PyData.depth]
  exact decide_eq_true (by have := depth_td W ds; omega)
/-- T's doings, each once -/
def dd (T : List Doing) : List Doing := T.foldl Mx.ins []
theorem putK_ins {W : List Doing} {y : Doing} : putK (kvK kD W) (kD y) (.bl true) = kvK kD (Mx.ins W y) := by
  unfold Mx.ins
  by_cases h : y ∈ W
  · rw [if_pos h]
    unfold putK
    rw [if_pos (by rw [valV_any, valV_kvK (fun _ _ => kD_inj), if_pos h]; rfl)]
    unfold kvK
    rw [List.map_map]
    refine List.map_congr_left fun z _ => ?_
    simp only [Function.comp]
    split <;> rfl
  · rw [if_neg h, putK_kvK (fun _ _ => kD_inj) h]
theorem foldl_snoc (T : List Doing) (x : Doing) : (T ++ [x]).foldl Mx.ins [] = Mx.ins (T.foldl Mx.ins []) x := by rw [List.foldl_append]; rfl
theorem ins_len (W : List Doing) (y : Doing) : (Mx.ins W y).length ≤ W.length + 1 := by
  unfold Mx.ins
  split
  · omega
  · simp
theorem fold_len : ∀ (T W : List Doing), (T.foldl Mx.ins W).length ≤ W.length + T.length
  | [], W => by simp
  | x :: T, W => by
    have a := fold_len T (Mx.ins W x)
    have b := ins_len W x
    rw [List.foldl_cons, List.length_cons]; omega
theorem fold_eq : ∀ (T W : List Doing), (T.foldl Mx.ins W).length = W.length + T.length → T.foldl Mx.ins W = W ++ T ∧ T.Nodup ∧ ∀ x ∈ T, x ∉ W
  | [], W, _ => by simp
  | x :: T, W, h => by
    rw [List.foldl_cons, List.length_cons] at h
    have a := fold_len T (Mx.ins W x)
    have hx : x ∉ W := fun hx => by
      have : Mx.ins W x = W := by unfold Mx.ins; rw [if_pos hx]
      rw [this] at h a; omega
    have e : Mx.ins W x = W ++ [x] := by unfold Mx.ins; rw [if_neg hx]
    rw [e] at h
    obtain ⟨h1, h2, h3⟩ := fold_eq T (W ++ [x]) (by rw [h, List.length_append, List.length_singleton]; omega)
    refine ⟨by rw [List.foldl_cons, e, h1, List.append_assoc]; rfl, List.nodup_cons.mpr ⟨fun hm => h3 x hm (by simp), h2⟩, fun y hy => ?_⟩
    rcases List.mem_cons.mp hy with z | z
    · rw [z]; exact hx
    · exact fun hw => h3 y z (by simp [hw])
theorem fold_nd : ∀ (T W : List Doing), T.Nodup → (∀ x ∈ T, x ∉ W) → T.foldl Mx.ins W = W ++ T
  | [], W, _, _ => by simp
  | x :: T, W, h, h2 => by
    rw [List.nodup_cons] at h
    have e : Mx.ins W x = W ++ [x] := by unfold Mx.ins; rw [if_neg (h2 x (.head _))]
    rw [List.foldl_cons, e, fold_nd T (W ++ [x]) h.2 (fun y hy hm => by
      rcases List.mem_append.mp hm with z | z
      · exact h2 y (.tail _ hy) z
      · rw [List.mem_singleton.mp z] at hy; exact h.1 hy), List.append_assoc]
    rfl
theorem dd_eq {T : List Doing} : (dd T).length = T.length ↔ T.Nodup := by
  constructor
  · intro h
    unfold dd at h
    exact (fold_eq T [] (by simpa using h)).2.1
  · intro h
    unfold dd
    rw [fold_nd T [] h (fun _ _ hm => by simp at hm), List.nil_append]
theorem dd_nd {T : List Doing} (h : T.Nodup) : dd T = T := by
  unfold dd
  rw [fold_nd T [] h (fun _ _ hm => by simp at hm), List.nil_append]
end Onew
end
section
set_option maxRecDepth 100000
set_option maxHeartbeats 4000000
namespace Onew
open PySem PySem.Spec PyProof.Rows L2 G
open Mx (Tab im Rch rl rowF forgF doneOn Fm nextD nextP behind z3)
section
variable {P : Program} {w : World} {K : PySem.W.Frag} {mg : Str → Option Value} {base : Heap} {CM CC CR CN CF CT : Addr}
/-- {one: True for one in told} -/
theorem dict_told {J : It} {H1 : Hp} {D : Addr} {vs : List V} {T : List Doing} {σ : L2.St} {g : TG} {vsl : List Nat} {tk tv : TE} {Qd : Hp → Prop} {C : Hp → Prop} (Wk : Walk J vs.length C (YAt vs)) (hC : ∀ H', Ex H1 H' → C H') (r : RAll H1 vs (T.map dD)) (hz : T.length ≤ 5000) (hD : H1 D = none) (hs : (D == sysModules) = false)
    (hg : ∀ x H' (Q : L2.St → Hp → Prop), (∀ σ2, wipe σ2 vsl = wipe σ vsl → (∀ (Q2 : VK) H2, Q2 x H2 → tk σ2 H2 Q2) → Q σ2 H') → g x (wipe σ vsl) H' Q) (hv : ∀ σ2 H' (Q : VK), Q (.bl true) H' → tv σ2 H' Q) (h0 : DM P w (upd H1 D (ND P w D [])) D [])
    (hd : ∀ H, Ex H1 H → DM P w H D (kvK kD (dd T)) → Qd H) :
    ∃ Go : Nat → Nat → Hp → Prop, (∃ m, Go 0 m (upd H1 D (ND P w D []))) ∧ ∀ i m H, Go i m H → (J.stop i H ∧ Qd H) ∨ (J.go i H ∧ ∃ Af : Hp → Prop, (∀ H', Af H' → ∃ m', m' < m ∧ Go (i + 1) m' H') ∧
      ∀ x H', J.yld i H x H' → g x (wipe σ vsl) H' fun σ2 H2 => wipe σ2 vsl = wipe σ vsl ∧ tk σ2 H2 fun y H4 => tv σ2 H4 fun z H5 =>
        ∃ (a : Addr) (k : NestedKey) (kvs : List (NestedKey × V)), y = .ref a ∧ R H5 (.ref a) k.data ∧ k.depth ≤ 8 ∧ DM P w H5 D kvs ∧ kvs.length < sizeLine ∧ ∀ u, DM P w (upd H5 D u) D (putK kvs k z) → Af (upd H5 D u)) := by
  have vl : vs.length = T.length := by rw [r.length, List.length_map]
  refine dcN_it Wk (fun i H => Ex H1 H ∧ DM P w H D (kvK kD ((T.take i).foldl Mx.ins []))) ⟨Ex.new hD, h0⟩ (fun i H _ h => hC H h.1) ?_ (fun H h => hd H h.1 (by have := h.2; rw [vl, List.take_length] at this; exact this))
  rintro i x H H' hi ⟨e, dm⟩ ⟨rfl, hx⟩
  obtain ⟨d0, hd0, r0⟩ := RAll.get r hx
  rw [List.getElem?_map] at hd0
  cases ht : T[i]? with
  | none => rw [ht] at hd0; cases hd0
  | some y =>
  rw [ht] at hd0
  cases hd0
  refine hg x H' _ fun σ2 hw htk => ⟨hw, htk _ _ (hv _ _ _ ?_)⟩
  obtain ⟨a, b, c, rfl, h1, h2, h3⟩ := r_d r0
  refine ⟨a, kD y, _, rfl, by rw [kD_data]; exact r0.ex e, by rw [kD_depth]; decide, dm, ?_, fun u hdm => ⟨e.mut hD, ?_⟩⟩
  · unfold kvK
    rw [List.length_map]
    have a1 := fold_len (T.take i) []
    rw [List.length_take] at a1
    rw [sizeLine_eq]
    have : ([] : List Doing).length = 0 := rfl
    omega
  · rw [putK_ins] at hdm
    rw [takeNx ht, foldl_snoc]
    exact hdm
theorem dm_nil {H : Hp} {D : Addr} (lo : (D == sysModules) = false) : DM P w (upd H D (ND P w D [])) D [] := ⟨lo, Nat.zero_le _, List.nodup_nil, [], upd_same, .nil⟩
def spClosed (CM CC : Addr) (P : Program) (w : World) : Sp := fun vs H Q _ => ∃ (p c k : Addr) (v : V) (d : PyData) (ts : Tab) (ns es : List Nat) (f : Nat) (W : List Doing), vs = [.ref p, .int (f : Nat), .ref c, .ref k, v] ∧ MachAt CM H p ts ∧ Mx.Ok ts ∧ f < Mx.mst ts ∧ CounAt CC H c ns es ∧ 0 ∉ ns ∧ ns.length ≤ 4 ∧
  DN P w H k (kvK kD W) ∧ (∀ x ∈ W, Fd (rl ts f) ns x) ∧ R H v d ∧ smD d = true ∧ (closedD (rl ts f) ns W d = none → ∀ H', Ex H H' → Q .non H') ∧ ∀ T, closedD (rl ts f) ns W d = some T → ∀ D H', Ex H H' → DM P w H' D (kvK kD T) → Q (.ref D) H'
abbrev sClosed : Stmt := top 43
theorem scClosed : FnScope ["machine", "first", "counters", "known", "value", "one", "told", "found", "states", "other"] ["machine", "first", "counters", "known", "value"] (defScope sClosed) := ⟨rfl, rfl, rfl, by decide +kernel, rfl, by decide +kernel, by decide +kernel⟩
theorem ok_closed {f : Addr} {fd : FuncData} (F : Fun K "closed_group" "closed_group" sClosed f fd) (T : Txt K mg) (TC : TxC K mg CM CC) (D_is_sequence : Def P w K mg base 1 "is_sequence" ["value"] (spIsSeq K)) (D_told_doing : Def P w K mg base 2 "told_doing" ["known", "value"] (spTold P w))
    (D_reached : Def P w K mg base 5 "reached" ["machine", "first"] (spReached CM CN)) (D_composed : Def P w K mg base 1 "composed" ["states", "rounds", "one", "other"] spComp) : FnOk P w K mg base (L2.CX P w) 6 f fd ["machine", "first", "counters", "known", "value"] (spClosed CM CC P w) := by
  refine F.okX scClosed (fun vs H Q E h => ?_) (fun cdv A outer s H vs Q E hr h => ?_)
  · obtain ⟨p, c, k, v, d, ts, ns, es, f, W, rfl, _⟩ := h
    rfl
  · obtain ⟨p, c, k, v, d, ts, ns, es, f, W, rfl, M, ok, hf, Cn, h0, ln, dn, fW, r, sm, qn, qs⟩ := h
    have nd := scClosed.nd
    refine ⟨_, (pss_cons (ps_if ((pw_or (pt_not (pt_val (pcall D_is_sequence hr (by decide) (pa_cons (pv 4) pa_nil)))) (pw_or1 (pt_cmpR op_eq (pe_callB call_len_seq (by rfl) (T.no "len" (by decide)) boot_len (pa_cons (pv 4) pa_nil)) pe_int (nomark _))))).pt (pss_one (ps_ret pe_non)) pss_nil)
      (pss_cons (ps_setLc (i := 6) (own := [("one", 5)]) (g := gName 5) (tt := tYes) rfl nd rfl rfl (sw_true rfl rfl rfl (by decide +kernel)) (pi_sq (pv 4)) (blkOk_by (N := ["machine", "first", "counters", "known", "value", "one", "told", "found", "states", "other"]) (sc := defScope sClosed) (by decide +kernel)) (fun _ _ _ _ _ => (pg_name (i := 5) nd rfl (Or.inl rfl))) (fun _ _ _ _ _ => pts_nil) (fun _ _ _ _ _ => (pcall D_told_doing hr (by decide) (pa_cons (pv 3) (pa_cons (pv 5) pa_nil)))))
      (pss_cons (ps_if ((pw_or (pt_cmpR (op_inD (hu65 hr)) pe_non (pv 6) (by rfl)) (pw_or1 (pt_cmpR op_ne (pe_callB cr_lenN (by rfl) (T.no "len" (by decide)) boot_len (pa_cons (pe_dcN (own := [("one", 5)]) (g := gName 5) (tk := tVar 5) (tv := tC (.bl true)) (hu64 hr) rfl nd (pi_list (pv 6)) (blkOk_by (N := ["machine", "first", "counters", "known", "value", "one", "told", "found", "states", "other"]) (sc := defScope sClosed) (by decide +kernel)) (fun _ _ _ _ _ => (pg_name (i := 5) nd rfl (Or.inl rfl))) (fun _ _ _ _ _ => (pv 5)) (fun _ _ _ _ _ => pe_bl)) pa_nil)) (pe_callB call_len_seq (by rfl) (T.no "len" (by decide)) boot_len (pa_cons (pv 6) pa_nil)) (nomark _))))).pt (pss_one (ps_ret pe_non)) pss_nil)
      (pss_cons (ps_set (i := 7) nd rfl (Or.inr rfl) (pe_dcN (own := [("one", 5)]) (g := gName 5) (tk := tVar 5) (tv := tC (.bl true)) (hu64 hr) rfl nd (pi_list (pv 6)) (blkOk_by (N := ["machine", "first", "counters", "known", "value", "one", "told", "found", "states", "other"]) (sc := defScope sClosed) (by decide +kernel)) (fun _ _ _ _ _ => (pg_name (i := 5) nd rfl (Or.inl rfl))) (fun _ _ _ _ _ => (pv 5)) (fun _ _ _ _ _ => pe_bl)))
      (pss_cons (ps_set (i := 8) nd rfl (Or.inr rfl) (pcall D_reached hr (by decide) (pa_cons (pv 0) (pa_cons (pv 1) pa_nil))))
      (pss_cons (ps_for (passes_of rfl) rfl (pi_list (pv 6)) (pg_name (i := 5) nd rfl (Or.inr rfl)) (pss_one (ps_if (pt_not (pt_val (pe_callB (cr_all rfl) (by rfl) (T.no "all" (by decide)) boot_all (pa_cons (pe_lc (own := [("other", 9)]) (g := gName 9) (tt := tYes) (te := tOp (rInN P w false) (tCall spComp [] (fun _ _ _ => False) (tCons (tVar 8) (tCons (tFld K (tVar 2) "rounds") (tCons (tVar 5) (tCons (tVar 9) tNil))))) (tVar 7)) rfl nd (pi_list (pv 6)) (blkOk_by (N := ["machine", "first", "counters", "known", "value", "one", "told", "found", "states", "other"]) (sc := defScope sClosed) (by decide +kernel)) (fun _ _ _ _ _ => (pg_name (i := 9) nd rfl (Or.inl rfl))) (fun _ _ _ _ _ => pts_nil) (fun _ _ _ _ _ => (pe_cmpR (op_inN (hu64 hr)) (pcall D_composed hr (by decide) (pa_cons (pv 8) (pa_cons (pe_fld (pv 2) rfl) (pa_cons (pv 5) (pa_cons (pv 9) pa_nil))))) (pv 7) (by rfl)))) pa_nil)))) (pss_one (ps_ret pe_non)) pss_nil)))
      (pss_one (ps_ret (pv 7))))))))), ?_⟩
    refine ⟨_, rfl, _, _, rfl, tyx r, tyD_in r, fun H1 e1 => ⟨_, rfl, ?_⟩⟩
    cases e0 : seqI d with
    | none =>
      have en : closedD (rl ts f) ns W d = none := by unfold closedD; rw [e0]
      rw [seqI_none r e0]
      exact itT rfl (qn en _ e1)
    | some ds =>
    obtain ⟨et, a, xs, b, rfl, ha, ra⟩ := seqI_some r e0
    rw [et]
    obtain ⟨sl, _⟩ := sm_seq sm e0
    refine ⟨_, rfl, _, _, rfl, (sqO_v (e1 _ _ ha)), rfl, _, rfl, ?_⟩
    rw [ra.length]
    by_cases hl : ds = []
    · subst hl
      have en : closedD (rl ts f) ns W d = none := by unfold closedD; rw [e0]
      exact itT (by simp) (qn en _ e1)
    obtain ⟨d0, dr, rfl⟩ : ∃ x r, ds = x :: r := by cases ds with
      | nil => exact absurd rfl hl
      | cons x r => exact ⟨x, r, rfl⟩
    refine itF (by simp; omega) ?_
    refine ⟨_, rfl, a, xs, rfl, sqO_v (e1 _ _ ha), fun J hJ L hL => ?_⟩
    obtain ⟨C, Wk, hC⟩ := hJ _ rfl
    refine lc_map Wk hL ((d0 :: dr).map (tdD W)) (by rw [List.length_map, ra.length]) (by rw [ra.length, sizeLine_eq]; omega) (noLs_td W _) hC ?_ ?_
    · intro i xv H2 H2' d2 Post hi e2 hy hd2 kk
      obtain ⟨rfl, hx⟩ := hy
      obtain ⟨d3, h3, r3⟩ := RAll.get ra hx
      have ed : d2 = tdD W d3 := by
        rw [List.getElem?_map, h3] at hd2
        exact (Option.some.inj hd2).symm
      subst ed
      have e12 := e1.tr e2
      refine ⟨rfl, _, rfl, _, rfl, k, xv, W, d3, rfl, dn_ex dn e12, r3.ex e12, (sm_seq sm e0).2 d3 (List.mem_of_getElem? h3), fun hn H3 e3 => kk _ _ e3 ?_, fun y hy2 v' H3 e3 r' => kk _ _ e3 ?_⟩
      · unfold tdD; rw [hn]; exact .non
      · unfold tdD; rw [hy2]; exact r'
    · intro vt H2 e2 h2 r2
      have e12 := e1.tr e2
      have vl : vt.length = (d0 :: dr).length := by rw [r2.length, List.length_map]
      have dpL : Dp K H2 (.ref L) (.list ((d0 :: dr).map (tdD W))) := .lst (SqL.of h2) (RAll.dp _ _ r2)
      refine ⟨_, rfl, .none, _, .non, dpL, by decide, shaped_td W _, _, rfl, ?_⟩
      rw [eqv_none]
      cases eT : toldAll W (d0 :: dr) with
      | none =>
        have en : closedD (rl ts f) ns W d = none := by unfold closedD; rw [e0]; simp only [eT]
        exact itT rfl (itT rfl (qn en _ e12))
      | some T =>
      obtain ⟨mT, wT, lT⟩ := toldAll_some eT
      rw [mT] at r2
      have lT' : T.length ≤ 5000 := by rw [lT]; exact sl
      refine itF rfl ⟨_, rfl, L, rfl, ⟨vt, SqL.of h2⟩, fun D1 hD1 lo1 => ?_⟩
      have vlT : vt.length = T.length := by rw [vl, lT]
      refine dict_told (T := T) walk_list (fun H' e => SqL.of (e _ _ h2)) r2 lT' hD1 lo1 (fun x H' Q h => h _ rfl fun Q2 H2 q => ⟨_, rfl, q⟩) (fun _ _ _ q => q) (dm_nil lo1) fun H3 e3 dm3 => ?_
      have h23 := e3 _ _ h2
      have e13 := e12.tr e3
      refine ⟨D1, _, rfl, dm3.dn, _, rfl, L, _, rfl, .inl (SqL.of h23), rfl, _, rfl, ?_⟩
      rw [show (kvK kD (dd T)).length = (dd T).length from List.length_map _, vlT]
      by_cases hnd : T.Nodup
      rotate_left
      · have en : closedD (rl ts f) ns W d = none := by unfold closedD; rw [e0]; simp only [eT]; rw [if_neg (fun z => hnd z.1)]
        refine itT ?_ (qn en _ e13)
        have : (dd T).length ≠ T.length := fun z => hnd (dd_eq.mp z)
        simp; omega
      refine itF (by rw [dd_eq.mpr hnd]; simp) ?_
      refine ⟨_, rfl, L, rfl, ⟨vt, SqL.of h23⟩, fun D2 hD2 lo2 => ?_⟩
      refine dict_told (T := T) walk_list (fun H' e => SqL.of (e _ _ h23)) (r2.ex e3) lT' hD2 lo2 (fun x H' Q h => h _ rfl fun Q2 H2 q => ⟨_, rfl, q⟩) (fun _ _ _ q => q) (dm_nil lo2) fun H4 e4 dm4 => ?_
      rw [dd_nd hnd] at dm4
      have e14 := e13.tr e4
      refine ⟨_, rfl, _, rfl, p, _, _, ts, rfl, M.ex e14, ok, .int _, fun f' ed _ v5 H5 e5 r5 => ?_, fun hb => absurd hb (by rw [show belowD (mst ts : Nat) (.int (f : Nat)) = true from belowD_nat hf]; decide)⟩
      have ef : f' = f := by injection ed with z; omega
      subst ef
      obtain ⟨S, rfl, hS⟩ := r_i r5
      have e15 := e14.tr e5
      have h25 := e5 _ _ (e4 _ _ h23)
      refine ⟨_, rfl, L, rfl, ⟨vt, SqL.of h25⟩, ?_⟩
      refine for_it walk_list (fun i σ H' => (∃ x9, σ = [some (.ref p), some (.int (f' : Nat)), some (.ref c), some (.ref k), some (.ref a), x9.1, some (.ref L), some (.ref D2), some (.ref S), x9.2]) ∧ Ex H5 H' ∧ ∀ x ∈ T.take i, ∀ y ∈ T, behind (rl ts f') ns x y ∈ T) ⟨⟨(_, _), rfl⟩, Ex.rfl', fun x hx => by simp at hx⟩ (fun i σ H' _ h => SqL.of (h.2.1 _ _ h25)) ?_ ?_
      · rintro i xv σ H6 H6' hi ⟨⟨⟨x5, x9⟩, rfl⟩, e6, hc⟩ ⟨rfl, hx⟩
        have r6 : RAll H6' vt (T.map dD) := r2.ex (e3.tr (e4.tr (e5.tr e6)))
        obtain ⟨d3, h3, r3⟩ := RAll.get r6 hx
        rw [List.getElem?_map] at h3
        cases hxT : T[i]? with
        | none => rw [hxT] at h3; cases h3
        | some x =>
        rw [hxT] at h3
        cases h3
        have xT : x ∈ T := List.mem_of_getElem? hxT
        have e16 := e15.tr e6
        have h26 := e6 _ _ h25
        refine ⟨_, rfl, L, rfl, ⟨vt, SqL.of h26⟩, fun D3 hD3 => ?_⟩
        refine lc_map walk_list hD3 ((T.map fun y => decide (behind (rl ts f') ns x y ∈ T)).map PyData.bool) (by rw [List.length_map, List.length_map, vlT]) (by rw [vlT, sizeLine_eq]; omega) (noLs_bools _) (fun H' e => SqL.of (e _ _ h26)) ?_ ?_
        · intro j yv H7 H7' d7 Post hj e7 hy hd7 kk
          obtain ⟨rfl, hyx⟩ := hy
          obtain ⟨d8, h8, r8⟩ := RAll.get r6 hyx
          rw [List.getElem?_map] at h8
          cases hyT : T[j]? with
          | none => rw [hyT] at h8; cases h8
          | some y =>
          rw [hyT] at h8
          cases h8
          have ed7 : d7 = .bool (decide (behind (rl ts f') ns x y ∈ T)) := by
            rw [List.getElem?_map, List.getElem?_map, hyT] at hd7
            exact (Option.some.inj hd7).symm
          subst ed7
          have e17 := e16.tr e7
          obtain ⟨dx2, rr, qq, hcn, rr1, qq1⟩ := Cn.ex e17
          obtain ⟨rr', err, hrr⟩ := r_i rr1
          cases err
          have fx := fW x (wT x xT)
          have fy := fW y (wT y (List.mem_of_getElem? hyT))
          refine ⟨rfl, _, rfl, _, rfl, _, _, _, _, _, rfl, hcn, TC.clC, TC.nC _ (by decide), cf_rounds _ _, _, rfl, _, rfl, S, rr, _, _, rl ts f', ns, x, y, rfl, (e6.tr e7) _ _ hS, hrr, r3.ex e7, r8.ex e7, Mx.nodup_asc (Mx.rl_sorted ts f'), Nat.le_trans (Mx.rl_len ok hf) ok.m8, by rw [fx.l]; exact Nat.le_trans (Mx.rl_len ok hf) ok.m8, fx.s, fy.l, fx.c, fy.c, ln, h0, fun v8 H8 e8 r9 => ?_⟩
          obtain ⟨a9, b9, c9, rfl, _, _, _⟩ := r_d r9
          refine ⟨_, rfl, a9, D2, kD (behind (rl ts f') ns x y), kvK kD T, rfl, rfl, by rw [kD_data]; exact r9, by rw [kD_depth]; decide, (dm4.ex ((e5.tr e6).tr (e7.tr e8))).dn, kk _ _ e8 ?_⟩
          rw [valV_kvK (fun _ _ => kD_inj)]
          by_cases hb : behind (rl ts f') ns x y ∈ T
          · rw [if_pos hb, decide_eq_true hb]; exact .bl _
          · rw [if_neg hb, decide_eq_false hb]; exact .bl _
        · intro acc H7 e7 h7 r7
          refine ⟨_, _, rfl, SqL.of (by rw [h7, RAll.ofBools r7]), _, rfl, ?_⟩
          by_cases hall : ∀ y ∈ T, behind (rl ts f') ns x y ∈ T
          · have eA : (T.map fun y => decide (behind (rl ts f') ns x y ∈ T)).all id = true := by
              simp only [List.all_map, List.all_eq_true]
              exact fun y hy => decide_eq_true (hall y hy)
            rw [eA]
            refine itF rfl ⟨⟨(_, _), rfl⟩, e6.tr e7, fun z hz => ?_⟩
            rw [takeNx hxT] at hz
            rcases List.mem_append.mp hz with q | q
            · exact hc z q
            · rw [List.mem_singleton.mp q]; exact hall
          · have eA : (T.map fun y => decide (behind (rl ts f') ns x y ∈ T)).all id = false := by
              cases e : (T.map fun y => decide (behind (rl ts f') ns x y ∈ T)).all id with
              | false => rfl
              | true =>
                simp only [List.all_map, List.all_eq_true] at e
                exact absurd (fun y hy => of_decide_eq_true (e y hy)) hall
            rw [eA]
            have en : closedD (rl ts f') ns W d = none := by unfold closedD; rw [e0]; simp only [eT]; rw [if_neg (fun z => hall fun y hy => z.2 x xT y hy)]
            exact itT rfl (qn en _ (e16.tr e7))
      · rintro σ H6 ⟨⟨⟨x5, x9⟩, rfl⟩, e6, hc⟩
        rw [vlT, List.take_length] at hc
        have en : closedD (rl ts f') ns W d = some T := by unfold closedD; rw [e0]; simp only [eT]; rw [if_pos ⟨hnd, hc⟩]
        exact ⟨_, rfl, qs T en D2 H6 (e15.tr e6) (dm4.ex (e5.tr e6))⟩
end
end Onew
end
section
set_option maxRecDepth 100000
set_option maxHeartbeats 4000000
namespace Onew
open PySem PySem.Spec PyProof.Rows L2 G
open Mx (Tab im Rch rl rowF forgF doneOn Fm nextD nextP behind z3)
/-- x is still and does not keep f -/
def movedB (S : List Nat) (f : Nat) (x : Doing) : Bool := x.2.all (fun n => decide (n = 0)) && decide (x.1.getD (S.idxOf f) 0 ≠ f)
def keptD (S ns : List Nat) (W : List Doing) (f : Nat) (d : PyData) : Bool := match closedD S ns W d with
  | none => false
  | some T => (T.filter (movedB S f)).isEmpty
theorem fd_doings {ts : Tab} {ns : List Nat} (ok : Mx.Ok ts) {f : Nat} (hf : f < Mx.mst ts) (hl : ns.length = ts.length) {N : Nat} : ∀ x ∈ doings ts ns f N, Fd (rl ts f) ns x := by
  refine Mx.run_all (P := fun x => Fd (rl ts f) ns x) (fun x hx y hy => ?_) fun x hx => ?_
  · obtain ⟨k, hk, rfl⟩ := List.mem_map.mp hy
    have hk' := List.mem_range.mp hk
    have e : ts.getD k [] ∈ ts := by rw [List.getD_eq_getElem?_getD, List.getElem?_eq_getElem hk']; exact List.getElem_mem _
    refine ⟨by unfold doneOn; rw [List.length_map]; exact hx.l, fun z hz => ?_, by unfold doneOn; rw [List.length_set]; exact hx.c⟩
    obtain ⟨s, hs, rfl⟩ := List.mem_map.mp hz
    exact Mx.rl_im ok hf (hx.s s hs) e
  · rw [List.mem_singleton.mp hx]
    exact ⟨rfl, fun z hz => hz, by unfold nothing; rw [List.length_replicate, hl]⟩
theorem doings_nodup {ts : Tab} {ns : List Nat} {f N : Nat} : (doings ts ns f N).Nodup := Mx.run_nodup (by simp)
theorem any_n (ns : List Nat) : ((ns.map fun n : Nat => (n : Int)).any (· != 0)) = !(ns.all fun n => decide (n = 0)) := by
  induction ns with
  | nil => rfl
  | cons n ns ih =>
    rw [List.map_cons, List.any_cons, ih, List.all_cons]
    by_cases h : n = 0
    · subst h; simp
    · have : ((n : Int) != 0) = true := by simp; omega
      rw [this]; simp [h]
theorem idx_cast {n : Nat} : ∀ l : List Nat, (l.map fun n : Nat => (n : Int)).idxOf (n : Int) = l.idxOf n
  | [] => rfl
  | m :: l => by
    rw [List.map_cons, List.idxOf_cons, List.idxOf_cons, idx_cast l]
    by_cases h : m = n
    · subst h; simp
    · have h2 : ¬ ((m : Int) = (n : Int)) := by omega
      have e1 : ((m : Int) == (n : Int)) = false := by simpa using h2
      have e2 : (m == n) = false := by simpa using h
      rw [e1, e2]
section
variable {P : Program} {w : World} {K : PySem.W.Frag} {mg : Str → Option Value} {base : Heap} {CM CC CR CN CF CT : Addr}
def spKG (CM CC CR CN CF CT : Addr) : Sp := fun vs H Q E => ∃ (p : Addr) (v : V) (c : Addr) (u : V) (d du : PyData) (ts : Tab) (ns es : List Nat) (most N : Nat), vs = [.ref p, v, .ref c, u, .int (most : Nat)] ∧ 1 ≤ most ∧ N ≤ 5000 ∧ NeedD CM CC CR CN CF H p v d c ts ns es E (fun _ => True) ∧ R H u du ∧ smD du = true ∧
  ∀ f, GoodF ts ns es d f → (doings ts ns f N).length ≤ N ∧ ((doings ts ns f N).length ≤ most → (keptD (rl ts f) ns (sortW (doings ts ns f N)) f du = true → ∀ a H', Ex H H' → Q (.ref a) H') ∧ (keptD (rl ts f) ns (sortW (doings ts ns f N)) f du = false → ∀ H', Ex H H' → Q .non H')) ∧ (most < (doings ts ns f N).length → Rais E H CT "most" (.int (most : Nat)))
abbrev sKG : Stmt := top 44
theorem scKG : FnScope ["machine", "first", "counters", "value", "most", "known", "found", "place", "moved", "doing"] ["machine", "first", "counters", "value", "most"] (defScope sKG) := ⟨rfl, rfl, rfl, by decide +kernel, rfl, by decide +kernel, by decide +kernel⟩
theorem ok_kg {f : Addr} {fd : FuncData} (F : Fun K "kept_group" "kept_group" sKG f fd) (T : Txt K mg) (D_all_doings : DefK P w K mg base 9 "all_doings" ["machine", "first", "counters", "most"] 3 ["most"] (fun vs zs => vs ++ zs) (spAll CM CC CR CN CF CT))
    (D_closed_group : Def P w K mg base 6 "closed_group" ["machine", "first", "counters", "known", "value"] (spClosed CM CC P w)) (D_reached : Def P w K mg base 5 "reached" ["machine", "first"] (spReachedX CM)) : FnOk P w K mg base (L2.CX P w) 10 f fd ["machine", "first", "counters", "value", "most"] (spKG CM CC CR CN CF CT) := by
  refine F.okX scKG (fun vs H Q E h => ?_) (fun cdv A outer s H vs Q E hr h => ?_)
  · obtain ⟨p, v, c, u, d, du, ts, ns, es, most, N, rfl, _⟩ := h
    rfl
  · obtain ⟨p, v, c, u, d, du, ts, ns, es, most, N, rfl, hm, hN, ND', ru, sm, rest⟩ := h
    have nd := scKG.nd
    refine ⟨_, (pss_cons (ps_setDcN (i := 5) (own := [("doing", 9)]) (g := gName 9) (tk := tVar 9) (tv := tC (.bl true)) (hu64 hr) rfl nd rfl rfl (swD rfl rfl rfl (by decide +kernel)) (pi_tup (pcallK (E := E) D_all_doings hr (by decide) tk_own (fun _ _ _ _ h => h) (pa_cons (pv 0) (pa_cons (pv 1) (pa_cons (pv 2) pa_nil))) (pk_cons (pv 4) pk_nil))) (blkOk_by (N := ["machine", "first", "counters", "value", "most", "known", "found", "place", "moved", "doing"]) (sc := defScope sKG) (by decide +kernel)) (fun _ _ _ _ _ => (pg_name (i := 9) nd rfl (Or.inl rfl))) (fun _ _ _ _ _ => (pv 9)) (fun _ _ _ _ _ => pe_bl))
      (pss_cons (ps_set (i := 6) nd rfl (Or.inl rfl) (pcall D_closed_group hr (by decide) (pa_cons (pv 0) (pa_cons (pv 1) (pa_cons (pv 2) (pa_cons (pv 5) (pa_cons (pv 3) pa_nil)))))))
      (pss_cons (ps_if (pt_cmp (pc_isN (pv 6))) (pss_one (ps_ret pe_non)) pss_nil)
      (pss_cons (ps_set (i := 7) nd rfl (Or.inr rfl) (pe_idxO (pcall D_reached hr (by decide) (pa_cons (pv 0) (pa_cons (pv 1) pa_nil))) (pa_cons (pv 1) pa_nil)))
      (pss_cons (ps_lock (ps_setLc (i := 8) (own := [("doing", 9)]) (g := gName 9) (tt := tAnd (tNot (tB (tCB (rAnyT K) (tCons (tOp (rIxT K) (tVar 9) (tC (.int 1))) tNil)))) (tTest (tOp rNe (tOp (rIxT K) (tOp (rIxT K) (tVar 9) (tC (.int 0))) (tVar 7)) (tVar 1)))) (te := tVar 9) rfl nd rfl rfl (sw_true rfl rfl rfl (by decide +kernel)) (pi_nd (pv 6)) (blkOk_by (N := ["machine", "first", "counters", "value", "most", "known", "found", "place", "moved", "doing"]) (sc := defScope sKG) (by decide +kernel)) (fun _ _ _ _ _ => (pg_name (i := 9) nd rfl (Or.inl rfl))) (fun _ _ _ _ _ => (pts_one ((pw_and (pt_not (pt_val (pe_callB (cr_anyT rfl) (by rfl) (T.no "any" (by decide)) boot_any (pa_cons (pe_ix ix_tup (pv 9) pe_int (fun _ _ => rfl)) pa_nil)))) (pw_and1 (pt_cmpR op_ne (pe_ix ix_tup (pe_ix ix_tup (pv 9) pe_int (fun _ _ => rfl)) (pv 7) (fun _ _ => rfl)) (pv 1) (nomark _))))).pt)) (fun _ _ _ _ _ => (pv 9))))
      (pss_one (ps_ret (pe_ifExp (pt_cmpR op_eq (pe_callB call_len_seq (by rfl) (T.no "len" (by decide)) boot_len (pa_cons (pv 8) pa_nil)) pe_int (nomark _)) (pv 6) pe_non)))))))), ?_⟩
    refine ⟨_, rfl, _, rfl, _, rfl, _, rfl, rfl, rfl, p, v, c, d, ts, ns, es, most, N, rfl, hm, by omega, fun f ed hf hl hro hfo => ?_, ⟨ND'.m, ND'.ok, ND'.r, ND'.cn, ND'.l1, ND'.l2, ND'.e1, ND'.e2, ND'.e3, ND'.e4, fun _ _ _ _ _ _ _ _ => trivial⟩⟩
    obtain ⟨hfin, hle, hgt⟩ := rest f ⟨ed, hf, hl, hro, hfo⟩
    refine ⟨hfin, fun hlen v1 H1 e1 r1 => ?_, hgt⟩
    obtain ⟨qt, qf⟩ := hle hlen
    have M := ND'.m
    have ok := ND'.ok
    have Cn := ND'.cn
    subst ed
    have rv0 := ND'.r
    cases rv0
    have e1' := e1
    cases hr1 : r1 with
    | @tup ta xs _ hta rta =>
    have lW : (sortW (doings ts ns f N)).length ≤ 5000 := by rw [sortW_len]; omega
    have ndW : (sortW (doings ts ns f N)).Nodup := (sortW_perm _).nodup_iff.mpr doings_nodup
    have xl : xs.length = (sortW (doings ts ns f N)).length := by rw [rta.length, List.length_map]
    refine ⟨ta, rfl, ⟨xs, SqT.of hta⟩, fun Dk hDk lok => ?_⟩
    refine dict_told (T := sortW (doings ts ns f N)) walk_tup (fun H' e => SqT.of (e _ _ hta)) rta lW hDk lok (fun x H' Q h => h _ rfl fun Q2 H2 q => ⟨_, rfl, q⟩) (fun _ _ _ q => q) (dm_nil lok) fun H2 e2 dm2 => ?_
    rw [dd_nd ndW] at dm2
    have e12 := e1.tr e2
    have hfd : ∀ x ∈ sortW (doings ts ns f N), Fd (rl ts f) ns x := fun x hx => fd_doings ok hf hl x ((sortW_perm _).mem_iff.mp hx)
    refine ⟨_, rfl, _, rfl, _, rfl, _, rfl, _, rfl, p, c, Dk, u, du, ts, ns, es, f, _, rfl, M.ex e12, ok, hf, Cn.ex e12, hro.1, ND'.l1, dm2.dn, hfd, ru.ex e12, sm, fun hn H3 e3 => ?_, fun G hG D2 H3 e3 dm3 => ?_⟩
    · have ek : keptD (rl ts f) ns (sortW (doings ts ns f N)) f du = false := by unfold keptD; rw [hn]
      exact ⟨_, rfl, _, rfl, itT rfl (qf ek _ (e12.tr e3))⟩
    have e13 := e12.tr e3
    refine ⟨_, rfl, _, rfl, itF rfl ?_⟩
    refine ⟨_, rfl, _, rfl, p, ts, f, rfl, M.ex e13, ok, hf, fun ra H4 e4 h4 => ?_⟩
    have hlf : f ∈ rl ts f := Mx.rl_first ok hf
    refine ⟨ra, (rl ts f).map (fun n : Nat => (n : Int)), rfl, by rw [← nV_int]; exact h4, _, rfl, _, rfl, List.mem_map_of_mem hlf, by rw [← nV_int]; exact h4, ?_⟩
    have e14 := e13.tr e4
    have dm4 := dm3.ex e4
    have hGW : ∀ x ∈ G, x ∈ sortW (doings ts ns f N) := by
      unfold closedD at hG
      split at hG
      · cases hG
      · cases hG
      · split at hG
        · cases hG
        · rename_i T eT
          split at hG
          · cases hG; exact (toldAll_some eT).2.1
          · cases hG
    obtain ⟨lo, lenG, _, ys, hDm, kn⟩ := id dm4
    have lG : G.length ≤ 16777216 := by
      have : (kvK kD G).length = G.length := List.length_map _
      rw [this, sizeLine_eq] at lenG; exact lenG
    refine ⟨D2, _, hDm, nd_mut, fun od => ?_⟩
    have tl : Tx H4 (upd H4 D2 (.frz od (ND P w D2 ys))) := Tx.put hDm nd_notup
    have rk := kn.refs
    rw [kv_data] at rk
    have yl : ys.length = G.length := by
      have := rk.length
      rw [List.length_map, List.length_map] at this; exact this
    refine ⟨_, rfl, D2, od, ys, rfl, lo, upd_same, fun D3 hD3 => ?_⟩
    refine lc_filtT walk_ndKeys hD3 G dD (movedB (rl ts f) f) yl.symm (by rw [yl, sizeLine_eq]; exact lG) (fun x _ => noL_d x) (fun H' e => e _ _ upd_same) ?_ ?_
    · rintro i xv H5 H5' x Post Pf hi e5 ⟨rfl, y, hy, rfl⟩ hx kT kF
      obtain ⟨v4, hv4, r4⟩ := RAll.at rk (i := i) (d := dD x) (by rw [List.getElem?_map, hx]; rfl)
      rw [List.getElem?_map, hy] at hv4
      cases hv4
      have r5 := (R.tx tl _ _ (noL_d x) r4).ex e5
      obtain ⟨a5, i5, c5, ea5, h5, hi5, hc5⟩ := r_d r5
      cases ea5
      have fx := hfd x (hGW x (List.mem_of_getElem? hx))
      refine ⟨rfl, _, rfl, _, _, _, _, rfl, rfl, SqT.of h5, atI_nat (j := 1) rfl, c5, x.2.map (fun n : Nat => (n : Int)), rfl, SqT.of (by rw [← nV_int]; exact hc5), _, rfl, ?_⟩
      rw [any_n]
      cases ez : x.2.all (fun n => decide (n = 0)) with
      | false => exact itF rfl (kF (by unfold movedB; rw [ez]; rfl) _ Ex.rfl')
      | true =>
        have hlt : (rl ts f).idxOf f < x.1.length := by rw [fx.l]; exact List.idxOf_lt_length_of_mem hlf
        have hxa : x.1[(rl ts f).idxOf f]? = some (x.1.getD ((rl ts f).idxOf f) 0) := by rw [List.getD_eq_getElem?_getD, List.getElem?_eq_getElem hlt]; rfl
        refine itT rfl ⟨_, rfl, _, _, _, _, rfl, rfl, SqT.of h5, atI_nat (j := 0) rfl, _, rfl, _, _, _, .int (x.1.getD ((rl ts f).idxOf f) 0 : Nat), rfl, rfl, SqT.of hi5, by rw [idx_cast]; exact atI_nat (nV_at hxa), _, rfl, rfl, _, rfl, ?_⟩
        by_cases hq : x.1.getD ((rl ts f).idxOf f) 0 = f
        · exact itF (by rw [hq, decide_eq_true rfl]; rfl) (kF (by unfold movedB; rw [ez, hq]; simp) _ Ex.rfl')
        · exact itT (by rw [decide_eq_false (fun e => hq (by have := V.int.inj e; omega))]; rfl) ⟨_, rfl, kT (by unfold movedB; rw [ez, decide_eq_true hq]; rfl) _ _ Ex.rfl' r5⟩
    · intro acc H5 e5 h5 r5
      have e15 : Ex H4 (upd H5 D2 (ND P w D2 ys)) := ex_unlock hDm e5
      have n3 : D3 ≠ D2 := fun z => by rw [z, upd_same] at hD3; cases hD3
      have al : acc.length = (G.filter (movedB (rl ts f) f)).length := by rw [r5.length, List.length_map]
      refine ⟨e5 _ _ upd_same, ⟨_, rfl, _, _, rfl, .inl (SqL.of (by rw [upd_ne n3]; exact h5)), rfl, _, rfl, ?_⟩⟩
      rw [al]
      have ek : keptD (rl ts f) ns (sortW (doings ts ns f N)) f du = (G.filter (movedB (rl ts f) f)).isEmpty := by unfold keptD; rw [hG]
      cases em : G.filter (movedB (rl ts f) f) with
      | nil => exact itT rfl ⟨_, rfl, qt (by rw [ek, em]; rfl) _ _ (e14.tr e15)⟩
      | cons z zs => exact itF (by simp; omega) (qf (by rw [ek, em]; rfl) _ (e14.tr e15))
end
end Onew
end
section
set_option maxRecDepth 100000
set_option maxHeartbeats 4000000
namespace Onew
open PySem PySem.Spec PyProof.Rows L2 G
open Mx (Tab im Rch rl rowF forgF doneOn Fm nextD nextP behind z3)
section
variable {P : Program} {w : World} {K : PySem.W.Frag} {mg : Str → Option Value} {base : Heap} {CM CC CR CN CF CT : Addr}
def spIKG (CM CC CR CN CF CT : Addr) : Sp := fun vs H Q E => ∃ (p : Addr) (v : V) (c : Addr) (u : V) (d du : PyData) (ts : Tab) (ns es : List Nat) (most N : Nat), vs = [.ref p, v, .ref c, u, .int (most : Nat)] ∧ 1 ≤ most ∧ N ≤ 5000 ∧ NeedD CM CC CR CN CF H p v d c ts ns es E (fun _ => True) ∧ R H u du ∧ smD du = true ∧
  ∀ f, GoodF ts ns es d f → (doings ts ns f N).length ≤ N ∧ ((doings ts ns f N).length ≤ most → ∀ H', Ex H H' → Q (.bl (keptD (rl ts f) ns (sortW (doings ts ns f N)) f du)) H') ∧ (most < (doings ts ns f N).length → Rais E H CT "most" (.int (most : Nat)))
abbrev sIKG : Stmt := top 45
theorem scIKG : FnScope ["machine", "first", "counters", "value", "most"] ["machine", "first", "counters", "value", "most"] (defScope sIKG) := ⟨rfl, rfl, rfl, by decide +kernel, rfl, by decide +kernel, by decide +kernel⟩
theorem ok_ikg {f : Addr} {fd : FuncData} (F : Fun K "is_kept_group" "is_kept_group" sIKG f fd) (D_kept_group : Def P w K mg base 10 "kept_group" ["machine", "first", "counters", "value", "most"] (spKG CM CC CR CN CF CT)) : FnOk P w K mg base (L2.CX P w) 11 f fd ["machine", "first", "counters", "value", "most"] (spIKG CM CC CR CN CF CT) := by
  refine F.okX scIKG (fun vs H Q E h => ?_) (fun cdv A outer s H vs Q E hr h => ?_)
  · obtain ⟨p, v, c, u, d, du, ts, ns, es, most, N, rfl, _⟩ := h
    rfl
  · obtain ⟨p, v, c, u, d, du, ts, ns, es, most, N, rfl, hm, hN, ND', ru, sm, rest⟩ := h
    refine ⟨_, (pss_one (ps_ret (pe_cmp (pc_notN (pcallE (E := E) D_kept_group hr (by decide) tk_own (fun _ _ _ _ h => h) (pa_cons (pv 0) (pa_cons (pv 1) (pa_cons (pv 2) (pa_cons (pv 3) (pa_cons (pv 4) pa_nil)))))))))), ?_⟩
    refine ⟨_, rfl, _, rfl, _, rfl, _, rfl, _, rfl, p, v, c, u, d, du, ts, ns, es, most, N, rfl, hm, hN, ND', ru, sm, fun f g => ?_⟩
    obtain ⟨h1, h2, h3⟩ := rest f g
    refine ⟨h1, fun hle => ⟨fun ek a H' e => ?_, fun ek H' e => ?_⟩, h3⟩
    · have := h2 hle H' e
      rw [ek] at this
      exact this
    · have := h2 hle H' e
      rw [ek] at this
      exact this
end
end Onew
end
section
set_option maxRecDepth 100000
set_option maxHeartbeats 8000000
/-! set(xs), xs a list of ints -/
namespace G
open PySem PySem.Spec PyProof.Rows L2
section
variable {P : Program} {w : World} {A : Around} {E : Value → Shared → Prop} {s : Shared}
/-- a set just made, empty -/
abbrev set0 (w : World) : Obj := { cls := .type "set", dict := none, data := .set #[] 0 (.fresh 0 0 (!w.params.followText "set-order")) }
/-- its filling from a list -/
theorem init_list {l : Addr} {items : Array Value} (ns : List Int) (hh : A.handled = none) (hl : s.heap.IsList l items) (hit : IntsAre items.toList ns) (hb : ns.length + 1 < scanBound) {R : Result → Shared → Prop}
    (h : ∀ (h' : Heap) (tk c : Nat), SetR w h' s.heap.objs.size (fun j => decide (j ∈ ns)) c → c ≤ ns.length → (∀ b o, s.heap.get? b = some o → h'.get? b = some o) → R (.ok (.ret .none)) { s with heap := h', toks := tk }) :
    codeAny (model P w) A (.call (.builtin "set.__init__") ⟨[.ref s.heap.objs.size, .ref l], []⟩) R { s with heap := s.heap.push (set0 w) } := by
  obtain ⟨⟨cc, dd, da, sl⟩, hol, c1, n, c3⟩ := hl
  dsimp only at c1 c3
  subst c1; subst c3
  have hlt : l < s.heap.objs.size := Heap.lt_size hol
  have len : items.size = ns.length := by
    have q := IntsAre.length hit
    rw [Array.length_toList] at q; exact q
  have g0 : (s.heap.push (set0 w)).get? s.heap.objs.size = some (set0 w) := Heap.get?_push_size _ rfl
  have tS : Shared.TypeIs { s with heap := s.heap.push (set0 w) } (.ref s.heap.objs.size) "set" := ⟨_, g0, rfl⟩
  have gl : (s.heap.push (set0 w)).get? l = some ⟨.type "list", dd, .seq items n, sl⟩ := Heap.get?_push_of_some _ hol
  have il : (s.heap.push (set0 w)).IsList l items := ⟨_, gl, rfl, n, rfl⟩
  refine codeAny_call_builtin F.called_set.init.plain F.entry_set_init (check_set_init_1 tS ?_)
  have a1 := F.sub_list_set
  have a2 := F.sub_list_frozenset
  have a3 : (Value.type "list" == Value.type "dict") = false := by decide
  unfold Builtin.«set.__init__» noKeywords Builtin.Frozenset.updateFrom
  generalize hPI : pyIter = PI
  wp_walk
  subst hPI
  refine wpAny_pyIter_list il ?_
  refine wpAny_bind (wpAny_runValue ?_)
  have nh : A.in1.in1.handled = none := by simp [hh]
  have nI : l ≠ (s.heap.push (set0 w)).objs.size := by rw [Heap.size_push]; exact Nat.ne_of_lt (Nat.lt_succ_of_lt hlt)
  have nS : s.heap.objs.size ∉ [(s.heap.push (set0 w)).objs.size, l] := by
    rw [Heap.size_push]
    intro z
    rcases List.mem_cons.mp z with z | z
    · exact Nat.ne_of_lt (Nat.lt_succ_self _) z
    · exact Nat.ne_of_gt hlt (List.mem_singleton.mp z)
  have vals : ∀ (i : Nat) (v : Value), items[i]? = some v → ∃ k t, ns[i]? = some k ∧ v = .int k t := fun i v hv => by
    have hi : i < ns.length := by rw [← len]; exact (Array.getElem?_eq_some_iff.mp hv).1
    obtain ⟨t, e⟩ := PyProof.Rows.IntsAre.int_at hit i v (by rw [Array.getElem?_toList]; exact hv)
    exact ⟨ns[i], t, List.getElem?_eq_getElem hi, by rw [e, List.getD_eq_getElem?_getD, List.getElem?_eq_getElem hi] <;> rfl⟩
  refine set_update_ints ((Walks.list nh _ l nI items).toS) s.heap.objs.size nS ns len hb vals (items.size - 0) 0 _ (by omega) (Nat.zero_le _) ⟨⟨_, Heap.get?_push_size _ rfl, rfl, rfl⟩, il.push _⟩ ?first fun s' c' hm hc' hS' => ?_
  case first => exact ⟨0, Nat.le_refl 0, setR_new_at (Heap.get?_push_of_some _ g0)⟩
  obtain ⟨h', g2, d', tk', os'⟩ := s'
  have eg : g2 = s.gens := hm.gens
  have ed : d' = s.drawn := hm.drawn
  have eo : os' = s.os := hm.os
  subst eg ed eo
  show wpAny _ _ _ _ _ _
  refine wpAny_pure ?_
  show wpAny _ _ (ret Value.none) _ _ _
  refine wpAny_pure (h h' tk' c' hS' (by rw [← len]; exact hc') fun b o e => hm.heap b o ?_ (Heap.get?_push_of_some _ (Heap.get?_push_of_some _ e)))
  have b0 : b < s.heap.objs.size := Heap.lt_size e
  intro z
  rcases List.mem_cons.mp z with z | z
  · exact Nat.ne_of_lt b0 z
  · have := List.mem_singleton.mp z
    rw [Heap.size_push] at this
    exact Nat.ne_of_lt (Nat.lt_succ_of_lt b0) this
/-- set(xs) -/
theorem call_set_lst {l : Addr} {items : Array Value} (ns : List Int) (hh : A.handled = none) (hl : s.heap.IsList l items) (hit : IntsAre items.toList ns) (hb : ns.length + 1 < scanBound) {Q : Value → Shared → Prop}
    (h : ∀ (h' : Heap) (tk c : Nat), SetR w h' s.heap.objs.size (fun j => decide (j ∈ ns)) c → c ≤ ns.length → (∀ b o, s.heap.get? b = some o → h'.get? b = some o) → Q (.ref s.heap.objs.size) { s with heap := h', toks := tk }) :
    wpAny (model P w) A (call (.type "set") [.ref l]) Q E s := by
  have ft := F.called_set
  obtain ⟨c, tl, m1⟩ := ft.mro
  have m2 := ft.made
  have m3 := ft.sub
  have m4 := ft.notType
  have m5 := ft.canCreate
  have m6 := F.typeCall_set_1 (.ref l)
  refine wpAny_call (codeAny_of_tree (show wpAny _ _ (callAny (.type "set") _) _ _ _ from wpAny_pure ⟨Code.quiet_builtin _ (by decide +kernel), codeAny_builtin F.entry_type_call ?_⟩))
  rw [Around.under_plain (weight_type_call_type "set" [.ref l] []) rfl]
  repeat (any_goals (first | assumption | wp_step))
  refine codeAny_mono (code_set_led1 (.ref l) (E := E) (Q₁ := fun obj s₁ => obj = .ref s.heap.objs.size ∧ s₁ = { s with heap := s.heap.push (set0 w) }) ⟨rfl, rfl⟩) fun r s₁ z => ?_
  rcases r with e | (o | _ | _ | _) <;> first | exact z | exact z.elim | skip
  obtain ⟨rfl, rfl⟩ := z
  have tS : Shared.TypeIs { s with heap := s.heap.push (set0 w) } (.ref s.heap.objs.size) "set" := ⟨_, Heap.get?_push_size _ rfl, rfl⟩
  have n1 := ft.init.lookup
  have n2 := ft.init.bind (.ref s.heap.objs.size)
  repeat (any_goals (first | assumption | wp_step))
  refine codeAny_mono (init_list (R := wants (fun r s₂ => r = .none ∧ Q (.ref s.heap.objs.size) s₂) E) ns (by simp [hh]) hl hit hb fun h' tk c hs hc hk => ⟨rfl, h h' tk c hs hc hk⟩) fun r s₂ z => ?_
  rcases r with e | (o | _ | _ | _) <;> first | exact z | exact z.elim | skip
  obtain ⟨rfl, q⟩ := z
  repeat (any_goals (first | assumption | wp_step))
end
/-- set(xs), by values -/
def rSetL (K : PySem.W.Frag) (w : World) : List V → Hp → VK → Prop := fun vs H Q => ∃ (a : Addr) (ns : List Int), vs = [.ref a] ∧ SqL K H a (ns.map V.int) ∧ ns.length ≤ 4000 ∧ ∀ p c, H p = none → c ≤ ns.length → Q (.ref p) (upd H p (SetO w p (fun j => decide (j ∈ ns)) c))
theorem cr_setL {X : Cx} (hc : X.calm = true) : CallR X (.type "set") (rSetL X.K X.w) := by
  intro pins s σ H vs us Q I r h
  obtain ⟨a, ns, rfl, hs, hz, q⟩ := h
  obtain ⟨its, rv, hl, _⟩ := I.list hs
  rw [Vals.ref1 r]
  refine call_set_lst ns (I.ok.hd hc) hl.isList rv.ints (by unfold scanBound; omega) fun h' tk c hS hc' hk => ?_
  exact ⟨.ref s.heap.objs.size, _, I.laid (t' := tk) hk (Nat.le_refl _) (setO_new hS), rfl, q _ c (I.hok.fresh (Nat.le_refl _)) hc'⟩
end G
end
section
set_option maxRecDepth 100000
set_option maxHeartbeats 4000000
/-! the box of draws: a list of two ints that nobody looks at -/
namespace G
open PySem PySem.Spec PyProof.Rows L2
def BoxO (b : Addr) : HO := .ext fun h => ∃ (u v : Value) (i j : Int) (n : Nat), h.get? b = some { cls := .type "list", data := .seq #[u, v] n } ∧ RelV (.int i) u ∧ RelV (.int j) v
section
variable {X : Cx} {pins : List (Addr × Obj)} {σ : L2.St} {H : Hp} {s : Shared}
theorem recast {b : Addr} {o u : HO} (I : Inv X pins σ H s) (hb : H b = some o) (mu : Mut (some o)) (he : ∃ w, s.heap.get? b = some w) (new : ObjOk X.prog X.w (upd H b u) s.heap b u) : Inv X pins σ (upd H b u) s := by
  obtain ⟨hp, g, d, t, os⟩ := s
  exact I.write (x := b) (e := b) (t' := t) (by rw [hb]; exact mu) (.inl rfl) (fun _ _ _ e => e) he new
theorem box_open {b : Addr} (I : Inv X pins σ H s) (hb : H b = some (BoxO b)) : ∃ i j, Inv X pins σ (upd H b (.lst [.int i, .int j])) s := by
  obtain ⟨⟨u, v, i, j, n, g, r1, r2⟩, _⟩ := I.hok b _ hb
  refine ⟨i, j, recast I hb trivial ⟨_, g⟩ ⟨by show 2 ≤ sizeLine; decide, [u, v], n, .cons r1 (.cons r2 .nil), g⟩⟩
theorem box_shut {b : Addr} {i j : Int} (I : Inv X pins σ H s) (hb : H b = some (.lst [.int i, .int j])) : Inv X pins σ (upd H b (BoxO b)) s := by
  obtain ⟨_, its, n, rv, g⟩ := (show ObjOk X.prog X.w H s.heap b (.lst [.int i, .int j]) from I.hok b _ hb)
  cases rv with
  | cons r1 rv =>
    cases rv with
    | cons r2 rv =>
      cases rv
      exact recast I hb trivial ⟨_, g⟩ ⟨⟨_, _, i, j, n, g, r1, r2⟩, ⟨_, g⟩, fun h1 h2 ⟨u, v, i, j, n, e, a, b⟩ k => ⟨u, v, i, j, n, k _ e, a, b⟩⟩
/-- a block, the box open within -/
def tBox (t : TS) : TS := fun D σ H => ∃ b, H b = some (BoxO b) ∧ ∀ i j, t ⟨fun σ' H' => ∃ i' j', H' b = some (.lst [.int i', .int j']) ∧ D.nx σ' (upd H' b (BoxO b)), fun v H' => ∃ i' j', H' b = some (.lst [.int i', .int j']) ∧ D.rt v (upd H' b (BoxO b)), fun σ' H' => ∃ i' j', H' b = some (.lst [.int i', .int j']) ∧ D.bk σ' (upd H' b (BoxO b)),
  fun σ' H' => ∃ i' j', H' b = some (.lst [.int i', .int j']) ∧ D.ct σ' (upd H' b (BoxO b))⟩ σ (upd H b (.lst [.int i, .int j]))
theorem pss_box {st : List Stmt} {t : TS} (h : PSs X st t) : PSs X st (tBox t) := by
  refine ⟨fun pins s σ H D I hw => ?_⟩
  obtain ⟨b, hb, hw⟩ := hw
  obtain ⟨i, j, I1⟩ := box_open I hb
  refine thn (h.run pins s σ _ _ I1 (hw i j)) fun f s1 q => ?_
  cases f with
  | next => obtain ⟨σ', H', I2, i', j', e, q⟩ := q; exact ⟨σ', _, box_shut I2 e, q⟩
  | brk => obtain ⟨σ', H', I2, i', j', e, q⟩ := q; exact ⟨σ', _, box_shut I2 e, q⟩
  | cont => obtain ⟨σ', H', I2, i', j', e, q⟩ := q; exact ⟨σ', _, box_shut I2 e, q⟩
  | ret v => obtain ⟨x, σ', H', I2, r, i', j', e, q⟩ := q; exact ⟨x, σ', _, box_shut I2 e, r, q⟩
/-- an expression whose value is a list of two ints, made a box -/
def tShut (t : TE) : TE := fun σ H Q => t σ H fun x H1 => ∃ b i j, x = .ref b ∧ H1 b = some (.lst [.int i, .int j]) ∧ Q x (upd H1 b (BoxO b))
theorem pe_shut {e : Expr} {t : TE} (h : PE X e t) : PE X e (tShut t) := ⟨fun pins s σ H Q I hw => thn (h.run pins s σ H _ I hw) fun v s1 ⟨x, H1, I1, r, b, i, j, _, e, q⟩ => ⟨x, _, box_shut I1 e, r, q⟩⟩
theorem upd_upd {H : Hp} {b : Addr} {o u : HO} (h : H b = some u) : upd (upd H b o) b u = H := by
  funext a
  by_cases e : a = b
  · subst e; rw [upd_same, h]
  · rw [upd_ne e, upd_ne e]
end
end G
end
section
set_option maxRecDepth 100000
set_option maxHeartbeats 4000000
namespace Onew
open PySem PySem.Spec PyProof.Rows L2 G
theorem upd_to {H H' : Hp} {b : Addr} {u : HO} (h : H b = some u) (k : ∀ a, a ≠ b → H' a = H a) : upd H' b u = H := by
  funext a
  by_cases e : a = b
  · subst e; rw [upd_same, h]
  · rw [upd_ne e, k a e]
theorem natOf {i : Int} {m : Nat} (h0 : 0 ≤ i) (h1 : i < (m : Int)) : ∃ r : Nat, r < m ∧ i = (r : Int) := ⟨i.toNat, by omega, by omega⟩
section
variable {P : Program} {w : World} {K : PySem.W.Frag} {mg : Str → Option Value} {base : Heap}
def spTake : Sp := fun vs H Q _ => ∃ (b : Addr) (m : Nat), vs = [.ref b, .int (m : Nat)] ∧ H b = some (BoxO b) ∧ 1 ≤ m ∧ m < 1073741824 ∧ ∀ r : Nat, r < m → Q (.int (r : Nat)) H
abbrev sTake : Stmt := top 48
theorem scTake : FnScope ["_law_box_here", "_law_many", "_law_digit", "_law_raw"] ["_law_box_here", "_law_many"] (defScope sTake) := ⟨rfl, rfl, rfl, by decide +kernel, rfl, by decide +kernel, by decide +kernel⟩
theorem ok_take {f : Addr} {fd : FuncData} (F : Fun K "_law_take" "_law_take" sTake f fd) (T : Txt K mg) : FnOk P w K mg base (L2.CX P w) 1 f fd ["_law_box_here", "_law_many"] spTake := by
  refine F.okX scTake (fun vs H Q E h => ?_) (fun cdv A outer s H vs Q E hr h => ?_)
  · obtain ⟨b, m, rfl, _⟩ := h
    rfl
  · obtain ⟨b, m, rfl, hb, m1, m2, q⟩ := h
    have nd := scTake.nd
    refine ⟨_, pss_box (pss_cons (ps_if (pt_cmpR op_gt (pe_ix ix_list (pv 0) pe_int (fun _ _ => rfl)) pe_int (nomark _)) (pss_cons (ps_set (i := 2) nd rfl (Or.inl rfl) (pe_op op_mod (pe_callTy call_int1 (by rfl) (T.no "int" (by decide)) boot_int (pa_cons (pe_ix ix_list (pv 0) pe_int (fun _ _ => rfl)) pa_nil)) (pv 1)))
      (pss_cons (ps_asg (pe_op op_fdivN (pe_ix ix_list (pv 0) pe_int (fun _ _ => rfl)) (pv 1)) (pg_sub (pv 0) pe_int set_list))
      (pss_one (ps_ret (pv 2))))) pss_nil)
      (pss_cons (ps_set (i := 3) nd rfl (Or.inl rfl) (pe_op op_mod (pe_callTy call_int1 (by rfl) (T.no "int" (by decide)) boot_int (pa_cons (pe_op op_add (pe_op op_mul (pe_ix ix_list (pv 0) pe_int (fun _ _ => rfl)) pe_int) pe_int) pa_nil)) pe_int))
      (pss_cons (ps_asg (pe_op op_add (pe_op op_mod (pe_callTy call_int1 (by rfl) (T.no "int" (by decide)) boot_int (pa_cons (pe_op op_add (pe_op op_mul (pv 3) pe_int) pe_int) pa_nil)) pe_int) pe_int) (pg_sub (pv 0) pe_int set_list))
      (pss_one (ps_ret (pe_op op_mod (pe_callTy call_int1 (by rfl) (T.no "int" (by decide)) boot_int (pa_cons (pe_op op_fdivN (pe_op op_add (pe_op op_mul (pv 3) pe_int) (pe_ix ix_list (pv 0) pe_int (fun _ _ => rfl))) pe_int) pa_nil)) (pv 1))))))), ?_⟩
    refine ⟨b, hb, fun i j => ?_⟩
    have hl : (upd H b (.lst [V.int i, .int j])) b = some (.lst [.int i, .int j]) := upd_same
    have m1' : (0 : Int) < (m : Nat) := by omega
    have qq : ∀ z : Int, Q (.int (z % (m : Nat))) H := fun z => by
      obtain ⟨r, hr1, hr2⟩ := natOf (Int.emod_nonneg z (by omega : (m : Int) ≠ 0)) (Int.emod_lt_of_pos z m1')
      rw [hr2]
      exact q r hr1
    refine ⟨_, rfl, b, _, _, _, rfl, rfl, SqL.of hl, rfl, _, _, rfl, rfl, _, rfl, ?_⟩
    by_cases hi : i > 0
    · refine itT (decide_eq_true hi) ?_
      refine ⟨_, rfl, b, _, _, _, rfl, rfl, SqL.of hl, rfl, .inl ⟨_, rfl, _, rfl, _, _, rfl, rfl, m1', ?_⟩⟩
      refine ⟨_, rfl, b, _, _, _, rfl, rfl, SqL.of hl, rfl, _, rfl, _, _, rfl, rfl, ⟨by omega, by omega⟩, ?_⟩
      refine ⟨_, rfl, b, _, _, 0, rfl, rfl, hl, rfl, ?_⟩
      refine ⟨_, rfl, i.fdiv (m : Nat), j, by rw [upd_same]; rfl, ?_⟩
      rw [upd_to hb fun a ha => by rw [upd_ne ha, upd_ne ha]]
      exact qq i
    · refine itF (decide_eq_false hi) ?_
      refine ⟨_, rfl, b, _, _, _, rfl, rfl, SqL.of hl, rfl, _, _, rfl, rfl, .inr ⟨by decide, by decide⟩, _, _, rfl, rfl, .inl ⟨_, rfl, _, _, rfl, rfl, (by decide : (0 : Int) < 2147483647), ?_⟩⟩
      refine ⟨_, rfl, _, _, rfl, rfl, .inr ⟨by decide, by decide⟩, _, _, rfl, rfl, .inl ⟨_, rfl, _, _, rfl, rfl, (by decide : (0 : Int) < 2147483399), _, _, rfl, rfl, ?_⟩⟩
      refine ⟨_, rfl, b, _, _, 1, rfl, rfl, hl, rfl, ?_⟩
      refine ⟨_, rfl, _, _, rfl, rfl, .inr ⟨by decide, by decide⟩, _, rfl, b, _, _, _, rfl, rfl, SqL.of upd_same, rfl, _, _, rfl, rfl, _, _, rfl, rfl, ⟨by decide, by decide⟩, .inl ⟨_, rfl, _, rfl, _, _, rfl, rfl, m1', ?_⟩⟩
      refine ⟨_, _, by rw [upd_same]; rfl, ?_⟩
      rw [upd_to hb fun a ha => by rw [upd_ne ha, upd_ne ha]]
      exact qq _
def spPick (K : PySem.W.Frag) : Sp := fun vs H Q _ => ∃ (b a : Addr) (xs : List V), vs = [.ref b, .ref a] ∧ H b = some (BoxO b) ∧ SqL K H a xs ∧ xs ≠ [] ∧ xs.length ≤ 100000 ∧ ∀ v ∈ xs, Q v H
abbrev sPick : Stmt := top 49
theorem scPick : FnScope ["_law_box_here", "_law_some"] ["_law_box_here", "_law_some"] (defScope sPick) := ⟨rfl, rfl, rfl, by decide +kernel, rfl, by decide +kernel, by decide +kernel⟩
theorem ok_pick {f : Addr} {fd : FuncData} (F : Fun K "_law_pick" "_law_pick" sPick f fd) (T : Txt K mg) (D__law_take : Def P w K mg base 1 "_law_take" ["_law_box_here", "_law_many"] spTake) : FnOk P w K mg base (L2.CX P w) 2 f fd ["_law_box_here", "_law_some"] (spPick K) := by
  refine F.okX scPick (fun vs H Q E h => ?_) (fun cdv A outer s H vs Q E hr h => ?_)
  · obtain ⟨b, a, xs, rfl, _⟩ := h
    rfl
  · obtain ⟨b, a, xs, rfl, hb, ha, ne, hl, q⟩ := h
    refine ⟨_, (pss_one (ps_ret (pe_ix ix_list (pv 1) (pcall D__law_take hr (by decide) (pa_cons (pv 0) (pa_cons (pe_callB call_len_seq (by rfl) (T.no "len" (by decide)) boot_len (pa_cons (pv 1) pa_nil)) pa_nil))) (fun _ _ => rfl)))), ?_⟩
    have l1 : 1 ≤ xs.length := List.length_pos_iff.mpr ne
    refine ⟨_, rfl, _, rfl, _, rfl, _, _, rfl, .inl ha, b, xs.length, rfl, hb, l1, by omega, fun r hr' => ?_⟩
    exact ⟨a, xs, r, xs[r], rfl, rfl, ha, atI_nat (List.getElem?_eq_getElem hr'), q _ (List.getElem_mem hr')⟩
def spMixed (K : PySem.W.Frag) : Sp := fun vs H Q _ => ∃ (b a : Addr) (xs : List V), vs = [.ref b, .ref a] ∧ H b = some (BoxO b) ∧ (SqL K H a xs ∨ SqT K H a xs) ∧ xs.length ≤ 100000 ∧ ∀ p ys H', Ex H H' → H' p = some (.lst ys) → ys.Perm xs → Q (.ref p) H'
abbrev sMixed : Stmt := top 50
theorem scMixed : FnScope ["_law_box_here", "_law_some", "_law_found", "_law_left", "_law_turn"] ["_law_box_here", "_law_some"] (defScope sMixed) := ⟨rfl, rfl, rfl, by decide +kernel, rfl, by decide +kernel, by decide +kernel⟩
theorem ok_mixed {f : Addr} {fd : FuncData} (F : Fun K "_law_mixed" "_law_mixed" sMixed f fd) (T : Txt K mg) (D__law_take : Def P w K mg base 1 "_law_take" ["_law_box_here", "_law_many"] spTake) : FnOk P w K mg base (L2.CX P w) 2 f fd ["_law_box_here", "_law_some"] (spMixed K) := by
  refine F.okX scMixed (fun vs H Q E h => ?_) (fun cdv A outer s H vs Q E hr h => ?_)
  · obtain ⟨b, a, xs, rfl, _⟩ := h
    rfl
  · obtain ⟨b, a, xs, rfl, hb, ha, hl, q⟩ := h
    have nd := scMixed.nd
    refine ⟨_, (pss_cons (ps_par (i := 2) (j := 3) rfl nd rfl rfl (by decide) rfl rfl (pa_cons (pe_lst pa_nil) (pa_cons (pe_callTy call_list_of (by rfl) (T.no "list" (by decide)) boot_list (pa_cons (pv 1) pa_nil)) pa_nil)) (by rfl))
      (pss_cons (ps_for (passes_of rfl) rfl (pi_range1 (by rfl) (T.no "range" (by decide)) (pa_cons (pe_callB call_len_seq (by rfl) (T.no "len" (by decide)) boot_len (pa_cons (pv 3) pa_nil)) pa_nil)) (pg_name (i := 4) nd rfl (Or.inl rfl)) (pss_one (ps_expr (pe_bm PySem.F.plainAttrs_list PySem.F.slot_list_append PySem.F.type_list_append mt_append (pv 2) (pa_cons (pe_bm PySem.F.plainAttrs_list PySem.F.slot_list_pop PySem.F.type_list_pop mt_popAt (pv 3) (pa_cons (pcall D__law_take hr (by decide) (pa_cons (pv 0) (pa_cons (pe_callB call_len_seq (by rfl) (T.no "len" (by decide)) boot_len (pa_cons (pv 3) pa_nil)) pa_nil))) pa_nil)) pa_nil)))))
      (pss_one (ps_ret (pv 2))))), ?_⟩
    refine ⟨by decide, fun F0 hF0 => ?_⟩
    refine ⟨_, rfl, a, xs, rfl, ?_, fun L0 hL0 => ?_⟩
    · exact ha.imp (fun z => sqL_ex z (Ex.new hF0)) (fun z => sqT_ex z (Ex.new hF0))
    refine ⟨_, _, rfl, ?_⟩
    have nFL : F0 ≠ L0 := fun z => by rw [← z, upd_same] at hL0; cases hL0
    have hL : H L0 = none := by rw [upd_ne nFL.symm] at hL0; exact hL0
    refine ⟨_, rfl, _, _, rfl, .inl (SqL.of upd_same), _, rfl, by omega, by omega, ?_⟩
    refine for_it walk_range (fun i σ H' => ∃ x4 ys zs, σ = [some (.ref b), some (.ref a), some (.ref F0), some (.ref L0), x4] ∧ H' F0 = some (.lst ys) ∧ H' L0 = some (.lst zs) ∧ (ys ++ zs).Perm xs ∧ ys.length = i ∧ Ex H H') ?_ (fun _ _ _ _ _ => trivial) ?_ ?_
    · exact ⟨_, [], xs, rfl, by rw [upd_ne nFL, upd_same], upd_same, List.Perm.refl _, rfl, (Ex.new hF0).tr (Ex.new hL0)⟩
    · rintro i xv σ H2 H2' hi ⟨x4, ys, zs, rfl, hF, hLs, pm, yl, e2⟩ ⟨rfl, hxv⟩
      have hi' : i < xs.length := by omega
      have pl := pm.length_eq
      rw [List.length_append] at pl
      refine ⟨_, rfl, .inl ⟨rfl, _, SqL.of hF⟩, _, rfl, .inl ⟨rfl, _, SqL.of hLs⟩, _, rfl, _, rfl, _, _, rfl, .inl (SqL.of hLs), b, zs.length, rfl, e2 _ _ hb, by omega, by omega, fun r hr' => ?_⟩
      refine ⟨L0, zs, (r : Nat), r, zs[r], rfl, rfl, hLs, by omega, by omega, ?_, List.getElem?_eq_getElem hr', ?_⟩
      · rw [PySem.StrLaws.seqIndex_nonneg (by omega) (by omega)]; rfl
      · refine ⟨F0, ys, _, rfl, rfl, by rw [upd_ne nFL]; exact hF, by rw [sizeLine_eq]; omega, ?_⟩
        refine ⟨_, _, _, rfl, upd_same, by rw [upd_ne nFL.symm, upd_same], ?_, ?_, ?_⟩
        · refine List.Perm.trans ?_ pm
          rw [List.append_assoc]
          refine List.Perm.append_left ys ?_
          have k1 : zs = zs.take r ++ zs[r] :: zs.drop (r + 1) := by rw [List.getElem_cons_drop, List.take_append_drop]
          have k2 : zs.eraseIdx r = zs.take r ++ zs.drop (r + 1) := List.eraseIdx_eq_take_drop_succ zs r
          rw [k2]
          conv => rhs; rw [k1]
          rw [List.singleton_append]
          exact (List.perm_middle).symm
        · rw [List.length_append, yl]; rfl
        · exact (e2.mut hL).mut hF0
    · rintro σ H2 ⟨x4, ys, zs, rfl, hF, hLs, pm, yl, e2⟩
      have pl := pm.length_eq
      rw [List.length_append] at pl
      have : zs = [] := List.eq_nil_of_length_eq_zero (by omega)
      subst this
      rw [List.append_nil] at pm
      exact ⟨_, rfl, q F0 ys H2 e2 hF pm⟩
end
end Onew
end
section
set_option maxRecDepth 100000
set_option maxHeartbeats 4000000
namespace Onew
open PySem PySem.Spec PyProof.Rows L2 G
section
variable {P : Program} {w : World} {K : PySem.W.Frag} {mg : Str → Option Value} {base : Heap}
def spBox (K : PySem.W.Frag) : Sp := fun vs H Q _ => ∃ (a : Addr) (ns : List Int) (k : Nat), vs = [.ref a, .int (k : Nat)] ∧ SqL K H a (ns.map V.int) ∧ ∀ b H', Ex H H' → H b = none → H' b = some (BoxO b) → Q (.ref b) H'
abbrev sBox : Stmt := top 47
theorem scBox : FnScope ["_law_script", "_law_k", "_law_cell", "_law_great"] ["_law_script", "_law_k"] (defScope sBox) := ⟨rfl, rfl, rfl, by decide +kernel, rfl, by decide +kernel, by decide +kernel⟩
theorem int_at {ns : List Int} {i : Nat} (h : i < ns.length) : atI (ns.map V.int) (i : Nat) = some (.int ns[i]) := atI_nat (by rw [List.getElem?_map, List.getElem?_eq_getElem h]; rfl)
theorem ok_box {f : Addr} {fd : FuncData} (F : Fun K "_law_box" "_law_box" sBox f fd) (T : Txt K mg) : FnOk P w K mg base (L2.CX P w) 1 f fd ["_law_script", "_law_k"] (spBox K) := by
  refine F.okX scBox (fun vs H Q E h => ?_) (fun cdv A outer s H vs Q E hr h => ?_)
  · obtain ⟨a, ns, k, rfl, _⟩ := h
    rfl
  · obtain ⟨a, ns, k, rfl, ha, q⟩ := h
    have nd := scBox.nd
    refine ⟨_, (pss_cons (ps_set (i := 2) nd rfl (Or.inl rfl) (pe_op op_add (pe_op op_mul pe_int (pv 1)) pe_int))
      (Evl.pss_cut (ps_if (pt_cmpR op_lt (pv 1) (pe_callB call_len_seq (by rfl) (T.no "len" (by decide)) boot_len (pa_cons (pv 0) pa_nil)) (nomark _)) (pss_one (ps_set (i := 2) nd rfl (Or.inl rfl) (pe_callB call_abs (by rfl) (T.no "abs" (by decide)) boot_abs (pa_cons (pe_callTy call_int1 (by rfl) (T.no "int" (by decide)) boot_int (pa_cons (pe_ix ix_list (pv 0) (pv 1) (fun _ _ => rfl)) pa_nil)) pa_nil)))) (pss_one (ps_if (pt_cmpR op_gt (pe_callB call_len_seq (by rfl) (T.no "len" (by decide)) boot_len (pa_cons (pv 0) pa_nil)) pe_int (nomark _)) (pss_one (ps_set (i := 2) nd rfl (Or.inl rfl) (pe_op op_add (pv 2) (pe_op op_mul (pe_op op_mod (pe_callTy call_int1 (by rfl) (T.no "int" (by decide)) boot_int (pa_cons (pe_callB call_abs (by rfl) (T.no "abs" (by decide)) boot_abs (pa_cons (pe_callTy call_int1 (by rfl) (T.no "int" (by decide)) boot_int (pa_cons (pe_ix ix_list (pv 0) (pe_op op_mod (pe_callTy call_int1 (by rfl) (T.no "int" (by decide)) boot_int (pa_cons (pv 1) pa_nil)) (pe_callB call_len_seq (by rfl) (T.no "len" (by decide)) boot_len (pa_cons (pv 0) pa_nil))) (fun _ _ => rfl)) pa_nil)) pa_nil)) pa_nil)) pe_int) pe_int)))) pss_nil)))
      (Evl.pss_cut (ps_set (i := 3) nd rfl (Or.inl rfl) (pe_ifExp (pt_cmpR op_ge (pv 2) (pe_op op_pow pe_int pe_int) (nomark _)) (pv 2) pe_int))
      (pss_one (ps_ret (pe_shut (pe_lst (pa_cons (pv 3) (pa_cons (pe_op op_add (pe_op op_mod (pe_callTy call_int1 (by rfl) (T.no "int" (by decide)) boot_int (pa_cons (pe_op op_add (pe_op op_mul (pe_op op_mod (pe_callTy call_int1 (by rfl) (T.no "int" (by decide)) boot_int (pa_cons (pv 2) pa_nil)) pe_int) pe_int) (pe_op op_mul pe_int (pv 1))) pa_nil)) pe_int) pe_int) pa_nil))))))))), ?_⟩
    have hk : (-(2 ^ 64) : Int) < 7417 ∧ (7417 : Int) < 2 ^ 64 := by decide
    refine ⟨_, rfl, _, _, rfl, rfl, .inl hk, _, _, rfl, rfl, ?_⟩
    refine ⟨fun σ' H' => H' = H ∧ ∃ c x3, σ' = [some (.ref a), some (.int (k : Nat)), some (.int c), x3], ?_, ?_⟩
    · refine ⟨_, rfl, _, rfl, _, _, rfl, .inl ha, _, _, rfl, rfl, _, rfl, ?_⟩
      by_cases h1 : ((k : Nat) : Int) < ((ns.map V.int).length : Int)
      · have h1' : k < ns.length := by rw [List.length_map] at h1; omega
        refine itT (decide_eq_true h1) ?_
        exact ⟨_, rfl, _, rfl, a, _, _, _, rfl, rfl, ha, int_at h1', .inl ⟨_, rfl, _, rfl, rfl, _, _, rfl⟩⟩
      · refine itF (decide_eq_false h1) ?_
        refine ⟨_, rfl, _, _, rfl, .inl ha, _, _, rfl, rfl, _, rfl, ?_⟩
        by_cases h2 : (((ns.map V.int).length : Nat) : Int) > 0
        · have h2' : 0 < ns.length := by rw [List.length_map] at h2; omega
          refine itT (decide_eq_true h2) ?_
          refine ⟨_, rfl, _, rfl, _, rfl, .inl ⟨_, rfl, _, rfl, _, _, rfl, .inl ha, _, _, rfl, rfl, h2, ?_⟩⟩
          have lt : k % ns.length < ns.length := Nat.mod_lt _ h2'
          have e : ((k : Nat) : Int) % (((ns.map V.int).length : Nat) : Int) = ((k % ns.length : Nat) : Int) := by rw [List.length_map]; omega
          refine ⟨a, _, _, .int (ns[k % ns.length]), rfl, rfl, ha, by rw [e]; exact int_at lt, .inl ⟨_, rfl, _, rfl, .inl ⟨_, rfl, _, _, rfl, rfl, (by decide : (0 : Int) < 2147483563), _, _, rfl, rfl, .inr ⟨by decide, by decide⟩, _, _, rfl, rfl, rfl, _, _, rfl⟩⟩⟩
        · refine itF (decide_eq_false h2) ⟨rfl, _, _, rfl⟩
    · rintro σ' H' ⟨rfl, c, x3, rfl⟩
      refine ⟨fun σ' H1 => H1 = H' ∧ ∃ c g, σ' = [some (.ref a), some (.int (k : Nat)), some (.int c), some (.int g)], ?_, ?_⟩
      · refine ⟨_, rfl, _, _, rfl, rfl, ⟨by decide, by decide, by decide⟩, _, _, rfl, rfl, _, rfl, ?_⟩
        by_cases h3 : c ≥ (10 : Int) ^ (18 : Int).toNat
        · exact itT (decide_eq_true h3) ⟨_, rfl, rfl, _, _, rfl⟩
        · exact itF (decide_eq_false h3) ⟨rfl, _, _, rfl⟩
      · rintro σ' H1 ⟨rfl, c, g, rfl⟩
        refine ⟨_, rfl, _, rfl, .inl ⟨_, rfl, _, _, rfl, rfl, (by decide : (0 : Int) < 2147483563), _, _, rfl, rfl, .inr ⟨by decide, by decide⟩, _, rfl, _, _, rfl, rfl, .inl ⟨by decide, by decide⟩, _, _, rfl, rfl, .inl ⟨_, rfl, _, _, rfl, rfl, (by decide : (0 : Int) < 2147483563), _, _, rfl, rfl, ?_⟩⟩⟩
        refine tnil ⟨by show 2 ≤ sizeLine; decide, fun p hp => ⟨p, _, _, rfl, upd_same, q p _ ?_ hp upd_same⟩⟩
        exact (Ex.new hp).mut hp
end
end Onew
end
section
set_option maxRecDepth 100000
set_option maxHeartbeats 4000000
namespace Onew
open PySem PySem.Spec PyProof.Rows L2 G
open Mx (Tab im Rch rl rowF forgF doneOn Fm nextD nextP behind z3)
/-- the data of a list of rows -/
def lD (ts : Tab) : PyData := .list (ts.map iD)
theorem r_l {H : Hp} {v : V} {ds : List PyData} (h : R H v (.list ds)) : ∃ a xs, v = .ref a ∧ H a = some (.lst xs) ∧ RAll H xs ds := by
  cases h with
  | lst h t => exact ⟨_, _, rfl, h, t⟩
theorem r_ln {H : Hp} {v : V} {ns : List Nat} (h : R H v (.list (nD ns))) : ∃ a, v = .ref a ∧ H a = some (.lst (nV ns)) := by
  obtain ⟨a, xs, rfl, h, t⟩ := r_l h
  cases rall_of t
  exact ⟨a, rfl, h⟩
theorem r_ln_mk {H : Hp} {a : Addr} {ns : List Nat} (h : H a = some (.lst (nV ns))) : R H (.ref a) (.list (nD ns)) := .lst h (rall_n ns)
theorem rows_at {H : Hp} {t : Addr} {ts : Tab} (r : R H (.ref t) (lD ts)) : ∃ xs, H t = some (.lst xs) ∧ xs.length = ts.length ∧ ∀ (i : Nat) (row : List Nat), ts[i]? = some row → ∃ a : Addr, xs[i]? = some (.ref a) ∧ H a = some (.tup (nV row)) := by
  obtain ⟨t', xs, e, h, rt⟩ := r_l r
  cases e
  refine ⟨xs, h, by rw [rt.length, List.length_map], fun i row e => ?_⟩
  obtain ⟨v, hv, rv⟩ := RAll.at rt (i := i) (d := iD row) (by rw [List.getElem?_map, e]; rfl)
  obtain ⟨a, rfl, ha⟩ := r_i rv
  exact ⟨a, hv, ha⟩
theorem nV_set (ns : List Nat) (k v : Nat) : (nV ns).set k (.int (v : Nat)) = nV (ns.set k v) := by unfold nV; rw [List.map_set]
section
variable {P : Program} {w : World} {K : PySem.W.Frag} {mg : Str → Option Value} {base : Heap}
def spOn : Sp := fun vs H Q _ => ∃ (p r : Addr) (v : V) (x : Doing) (ts : Tab) (ns : List Nat) (k : Nat), vs = [.ref p, .ref r, v, .int (k : Nat)] ∧ R H (.ref p) (lD ts) ∧ Mx.Ok ts ∧ R H (.ref r) (.list (nD ns)) ∧ ns.length = ts.length ∧ 0 ∉ ns ∧ R H v (dD x) ∧ Fm ts ns x ∧ k < ts.length ∧
  ∀ v' H', Ex H H' → R H' v' (dD (doneOn ts ns x k)) → Q v' H'
abbrev sOn : Stmt := top 53
theorem scOn : FnScope ["_law_tables_here", "_law_rounds", "_law_doing", "_law_deed", "_law_counts", "_law_state"] ["_law_tables_here", "_law_rounds", "_law_doing", "_law_deed"] (defScope sOn) := ⟨rfl, rfl, rfl, by decide +kernel, rfl, by decide +kernel, by decide +kernel⟩
theorem ok_on {f : Addr} {fd : FuncData} (F : Fun K "_law_on" "_law_on" sOn f fd) (T : Txt K mg) : FnOk P w K mg base (L2.CX P w) 1 f fd ["_law_tables_here", "_law_rounds", "_law_doing", "_law_deed"] spOn := by
  refine F.okX scOn (fun vs H Q E h => ?_) (fun cdv A outer s H vs Q E hr h => ?_)
  · obtain ⟨p, r, v, x, ts, ns, k, rfl, _⟩ := h
    rfl
  · obtain ⟨p, r, v, x, ts, ns, k, rfl, rp, ok, rr, hl, h0, rx, fm, hk, q⟩ := h
    have nd := scOn.nd
    refine ⟨_, (pss_cons (ps_set (i := 4) nd rfl (Or.inl rfl) (pe_callTy call_list_of (by rfl) (T.no "list" (by decide)) boot_list (pa_cons (pe_ix ix_tup (pv 2) pe_int (fun _ _ => rfl)) pa_nil)))
      (pss_cons (ps_asg (pe_op op_mod (pe_callTy call_int1 (by rfl) (T.no "int" (by decide)) boot_int (pa_cons (pe_op op_add (pe_ix ix_list (pv 4) (pv 3) (fun _ _ => rfl)) pe_int) pa_nil)) (pe_ix ix_list (pv 1) (pv 3) (fun _ _ => rfl))) (pg_sub (pv 4) (pv 3) set_list))
      (pss_one (ps_ret (pe_tup (pa_cons (pe_callTy cr_tup (by rfl) (T.no "tuple" (by decide)) boot_tuple (pa_cons (pe_lc (own := [("_law_state", 5)]) (g := gName 5) (tt := tYes) (te := tOp (rIxT K) (tOp (rIxL K) (tVar 0) (tVar 3)) (tVar 5)) rfl nd (pi_tup (pe_ix ix_tup (pv 2) pe_int (fun _ _ => rfl))) (blkOk_by (N := ["_law_tables_here", "_law_rounds", "_law_doing", "_law_deed", "_law_counts", "_law_state"]) (sc := defScope sOn) (by decide +kernel)) (fun _ _ _ _ _ => (pg_name (i := 5) nd rfl (Or.inl rfl))) (fun _ _ _ _ _ => pts_nil) (fun _ _ _ _ _ => (pe_ix ix_tup (pe_ix ix_list (pv 0) (pv 3) (fun _ _ => rfl)) (pv 5) (fun _ _ => rfl)))) pa_nil)) (pa_cons (pe_callTy cr_tup (by rfl) (T.no "tuple" (by decide)) boot_tuple (pa_cons (pv 4) pa_nil)) pa_nil))))))), ?_⟩
    obtain ⟨o1, im1, c1, rfl, ho, hi1, hc1⟩ := r_d rx
    obtain ⟨rows, hrows, lrows, atrow⟩ := rows_at rp
    obtain ⟨r', er, hrn⟩ := r_ln rr
    cases er
    have hat : atI ([V.ref im1, V.ref c1] : List V) 0 = some (.ref im1) := atI_nat (j := 0) rfl
    have hbt : atI ([V.ref im1, V.ref c1] : List V) 1 = some (.ref c1) := atI_nat (j := 1) rfl
    have ck : k < x.2.length := by rw [fm.cl]; exact hk
    obtain ⟨cnt, hcnt⟩ : ∃ c, x.2[k]? = some c := ⟨_, List.getElem?_eq_getElem ck⟩
    obtain ⟨rn, hrnk⟩ : ∃ c, ns[k]? = some c := ⟨_, List.getElem?_eq_getElem (by omega)⟩
    obtain ⟨row, hrow⟩ : ∃ c, ts[k]? = some c := ⟨_, List.getElem?_eq_getElem hk⟩
    have pos : 0 < rn := by
      rcases Nat.eq_zero_or_pos rn with z | z
      · exact absurd (by rw [← z]; exact List.mem_of_getElem? hrnk) h0
      · exact z
    obtain ⟨ra, hra, hrowa⟩ := atrow k row hrow
    have erow : ts.getD k [] = row := getD_some hrow
    refine ⟨_, rfl, _, _, _, _, rfl, rfl, SqT.of ho, hbt, c1, _, rfl, .inr (SqT.of hc1), fun L hL => ?_⟩
    have eL := Ex.new (o := .lst (nV x.2)) hL
    refine ⟨_, rfl, _, rfl, L, _, _, _, rfl, rfl, SqL.of upd_same, atI_nat (nV_at hcnt), _, _, rfl, rfl, .inl ⟨_, rfl, _, rfl, _, rfl, r, _, _, _, rfl, rfl, SqL.of (eL _ _ hrn), atI_nat (nV_at hrnk), _, _, rfl, rfl, (by omega : (0 : Int) < (rn : Nat)), ?_⟩⟩
    refine ⟨_, rfl, _, rfl, L, _, _, k, rfl, rfl, upd_same, Evl.ixN_nat (by rw [nV_len]; exact ck), ?_⟩
    have ev : ((cnt : Nat) + 1 : Int) % (rn : Nat) = (((cnt + 1) % rn : Nat) : Int) := by rw [Int.natCast_emod]; rfl
    have e1 : Ex H (upd (upd H L (.lst (nV x.2))) L (.lst ((nV x.2).set k (.int (((cnt : Nat) + 1 : Int) % (rn : Nat)))))) := eL.mut hL
    have hL1 : (upd (upd H L (.lst (nV x.2))) L (.lst ((nV x.2).set k (.int (((cnt : Nat) + 1 : Int) % (rn : Nat)))))) L = some (.lst (nV (doneOn ts ns x k).2)) := by
      rw [upd_same, ev, nV_set]
      unfold doneOn
      rw [getD_some hcnt, getD_some hrnk]
    generalize hH1 : upd (upd H L (.lst (nV x.2))) L (.lst ((nV x.2).set k (.int (((cnt : Nat) + 1 : Int) % (rn : Nat))))) = H1 at e1 hL1
    refine ⟨_, rfl, _, _, _, _, rfl, rfl, SqT.of (e1 _ _ ho), hat, im1, rfl, ⟨_, SqT.of (e1 _ _ hi1)⟩, fun D hD => ?_⟩
    refine lc_map walk_tup hD (nD (doneOn ts ns x k).1) (by rw [nD_len, nV_len]; unfold doneOn; rw [List.length_map]) (by rw [nV_len, sizeLine_eq]; have := fm.l8; omega) (noL_n _) (fun H' e => SqT.of (e _ _ (e1 _ _ hi1))) ?_ ?_
    · intro i xv H2 H2' d Post hi e2 hy hd kk
      obtain ⟨rfl, hx⟩ := hy
      obtain ⟨st, hst, rfl⟩ := nV_get hx
      have e12 := e1.tr e2
      have him := ok.im (List.mem_of_getElem? hrow) (fm.im st (List.mem_of_getElem? hst))
      refine ⟨rfl, _, rfl, _, rfl, p, _, _, _, rfl, rfl, SqL.of (e12 _ _ hrows), atI_nat hra, _, rfl, _, _, _, _, rfl, rfl, SqT.of (e12 _ _ hrowa), atI_nat (nV_at him.1), kk _ _ Ex.rfl' ?_⟩
      obtain ⟨n, hn, rfl⟩ := nD_at hd
      unfold doneOn at hn
      rw [erow, List.getElem?_map, hst] at hn
      cases hn
      exact .int _
    · intro acc H2 e2 h2 r2'
      refine tnil (tuple_sqR (b := true) h2 r2' fun v3 H3 e3 r3 => ?_)
      obtain ⟨la, rfl, hla⟩ := r_i (ns := (doneOn ts ns x k).1) r3
      have e13 := e1.tr (e2.tr e3)
      have hL3 := e3 _ _ (e2 _ _ hL1)
      refine ⟨_, rfl, tnil (tuple_sqR (b := true) hL3 (rall_n _) fun v5 H5 e5 r5 => ?_)⟩
      obtain ⟨lb, rfl, hlb⟩ := r_i (ns := (doneOn ts ns x k).2) r5
      refine tnil ⟨by show 2 ≤ sizeLine; decide, fun pr hpr => q _ _ (e13.tr (e5.tr (Ex.new hpr))) (r_d_mk upd_same ?_ ?_)⟩
      · exact (Ex.new hpr) _ _ (e5 _ _ hla)
      · exact (Ex.new hpr) _ _ hlb
/-! what is reached, as a list -/
theorem asc_eqZ : ∀ {a b : List Int}, a.Pairwise (· < ·) → b.Pairwise (· < ·) → (∀ x, x ∈ a ↔ x ∈ b) → a = b
  | [], [], _, _, _ => rfl
  | [], y :: b, _, _, h => absurd ((h y).mpr (.head _)) (by simp)
  | x :: a, [], _, _, h => absurd ((h x).mp (.head _)) (by simp)
  | x :: a, y :: b, ha, hb, h => by
    rw [List.pairwise_cons] at ha hb
    have e : x = y := by
      rcases List.mem_cons.mp ((h x).mp (.head _)) with e | e
      · exact e
      rcases List.mem_cons.mp ((h y).mpr (.head _)) with e2 | e2
      · exact e2.symm
      have := hb.1 x e
      have := ha.1 y e2
      omega
    subst e
    rw [asc_eqZ ha.2 hb.2 fun z => ?_]
    constructor
    · intro hz
      rcases List.mem_cons.mp ((h z).mp (.tail _ hz)) with e | e
      · subst e; exact absurd (ha.1 z hz) (Int.lt_irrefl _)
      · exact e
    · intro hz
      rcases List.mem_cons.mp ((h z).mpr (.tail _ hz)) with e | e
      · subst e; exact absurd (hb.1 z hz) (Int.lt_irrefl _)
      · exact e
theorem add_sets {m : Nat} {S row : List Nat} (hS : ∀ s ∈ S, s < m) (hi : ∀ s ∈ S, im row s < m) {ns : List Int} (asc : ns.Pairwise (· < ·)) (h : ∀ k : Int, k ∈ ns ↔ decide (k ∈ (S ++ S.map (im row)).map (fun n : Nat => (n : Int))) = true) : ns.map V.int = nV (Mx.add m S row) := by
  rw [nV_int]
  refine congrArg _ (asc_eqZ asc ?_ fun z => ?_)
  · rw [List.pairwise_map]
    exact (Mx.add_sorted m S row).imp fun h => by omega
  · rw [h z, decide_eq_true_iff]
    simp only [List.mem_map, List.mem_append, Mx.mem_add]
    constructor
    · rintro ⟨n, hn | ⟨s, hs, rfl⟩, rfl⟩
      · exact ⟨n, ⟨hS n hn, .inl hn⟩, rfl⟩
      · exact ⟨_, ⟨hi s hs, .inr ⟨s, hs, rfl⟩⟩, rfl⟩
    · rintro ⟨n, ⟨_, hn | ⟨s, hs, e⟩⟩, rfl⟩
      · exact ⟨n, .inl hn, rfl⟩
      · exact ⟨n, .inr ⟨s, hs, e⟩, rfl⟩
def spReL (K : PySem.W.Frag) : Sp := fun vs H Q _ => ∃ (p : Addr) (ts : Tab) (f : Nat), vs = [.ref p, .int (f : Nat)] ∧ R H (.ref p) (lD ts) ∧ Mx.Ok ts ∧ f < Mx.mst ts ∧ ∀ a H', Ex H H' → H' a = some (.lst (nV (rl ts f))) → Q (.ref a) H'
abbrev sReL : Stmt := top 52
theorem scReL : FnScope ["_law_tables_here", "_law_first", "_law_found", "_law_turn", "_law_table", "_law_state"] ["_law_tables_here", "_law_first"] (defScope sReL) := ⟨rfl, rfl, rfl, by decide +kernel, rfl, by decide +kernel, by decide +kernel⟩
theorem ok_rel {f : Addr} {fd : FuncData} (F : Fun K "_law_reached" "_law_reached" sReL f fd) (T : Txt K mg) : FnOk P w K mg base (L2.CX P w) 1 f fd ["_law_tables_here", "_law_first"] (spReL K) := by
  refine F.okX scReL (fun vs H Q E h => ?_) (fun cdv A outer s H vs Q E hr h => ?_)
  · obtain ⟨p, ts, f, rfl, _⟩ := h
    rfl
  · obtain ⟨p, ts, f, rfl, rp, ok, hf, q⟩ := h
    have nd := scReL.nd
    refine ⟨_, (pss_cons (ps_set (i := 2) nd rfl (Or.inl rfl) (pe_lst (pa_cons (pv 1) pa_nil)))
      (pss_cons (ps_for (passes_of rfl) rfl (pi_range1 (by rfl) (T.no "range" (by decide)) (pa_cons (pe_callB call_len_seq (by rfl) (T.no "len" (by decide)) boot_len (pa_cons (pe_ix ix_list (pv 0) pe_int (fun _ _ => rfl)) pa_nil)) pa_nil)) (pg_name (i := 3) nd rfl (Or.inl rfl)) (pss_one (ps_for (passes_of rfl) rfl (pi_list (pv 0)) (pg_name (i := 4) nd rfl (Or.inr rfl)) (pss_one (ps_set (i := 2) nd rfl (Or.inl rfl) (pe_callB (cr_sortedSet rfl) (by rfl) (T.no "sorted" (by decide)) boot_sorted (pa_cons (pe_callTy (cr_setL rfl) (by rfl) (T.no "set" (by decide)) boot_set (pa_cons (pe_op op_cat (pv 2) (pe_lc (own := [("_law_state", 5)]) (g := gName 5) (tt := tYes) (te := tOp (rIxT K) (tVar 4) (tVar 5)) rfl nd (pi_list (pv 2)) (blkOk_by (N := ["_law_tables_here", "_law_first", "_law_found", "_law_turn", "_law_table", "_law_state"]) (sc := defScope sReL) (by decide +kernel)) (fun _ _ _ _ _ => (pg_name (i := 5) nd rfl (Or.inl rfl))) (fun _ _ _ _ _ => pts_nil) (fun _ _ _ _ _ => (pe_ix ix_tup (pv 4) (pv 5) (fun _ _ => rfl))))) pa_nil)) pa_nil)))))))
      (pss_one (ps_ret (pv 2))))), ?_⟩
    obtain ⟨rows, hrows, lrows, atrow⟩ := rows_at rp
    have l1 := ok.l1
    obtain ⟨r0, hr0⟩ : ∃ c, ts[0]? = some c := ⟨_, List.getElem?_eq_getElem (by omega)⟩
    obtain ⟨a0, ha0, hra0⟩ := atrow 0 r0 hr0
    have lr0 : r0.length = Mx.mst ts := (ok.row r0 (List.mem_of_getElem? hr0)).1
    have m8 := ok.m8
    have l4 := ok.l4
    refine ⟨_, rfl, by show 1 ≤ sizeLine; decide, fun F0 hF0 => ?_⟩
    have eF := Ex.new (o := .lst [V.int (f : Nat)]) hF0
    refine ⟨_, rfl, p, _, _, _, rfl, rfl, SqL.of (eF _ _ hrows), atI_nat (j := 0) ha0, _, _, rfl, .inr (SqT.of (eF _ _ hra0)), _, rfl, by rw [nV_len]; omega, by rw [nV_len]; omega, ?_⟩
    have bnd : ∀ {S : List Nat}, S.Pairwise (· < ·) → (∀ s ∈ S, s < Mx.mst ts) → S.length ≤ 8 := fun {S} a b => by
      have := Mx.len_le_of_sub (b := List.range (Mx.mst ts)) (Mx.nodup_asc a) fun x hx => List.mem_range.mpr (b x hx)
      rw [List.length_range] at this; omega
    have en : (((nV r0).length : Nat) : Int).toNat = Mx.mst ts := by rw [nV_len, lr0]; omega
    rw [en]
    refine for_it walk_range (fun i σ H' => ∃ S A x3 x4 x5, σ = [some (.ref p), some (.int (f : Nat)), some (.ref A), x3, x4, x5] ∧ H' A = some (.lst (nV S)) ∧ Ex H H' ∧ S.Pairwise (· < ·) ∧ (∀ s ∈ S, s < Mx.mst ts) ∧ Mx.iter (Mx.rnd (Mx.mst ts) ts) (Mx.mst ts - i) S = rl ts f) ?_ (fun _ _ _ _ _ => trivial) ?_ ?_
    · exact ⟨[f], F0, _, _, _, rfl, upd_same, eF, by simp, fun s hs => by rw [List.mem_singleton.mp hs]; exact hf, rfl⟩
    · rintro i xv σ H2 H2' hi ⟨S, A0, x3, x4, x5, rfl, hA, e2, asc, lt, it⟩ ⟨rfl, hxv⟩
      rw [show Mx.mst ts - i = (Mx.mst ts - (i + 1)) + 1 by omega] at it
      have it' : Mx.iter (Mx.rnd (Mx.mst ts) ts) (Mx.mst ts - (i + 1)) (Mx.rnd (Mx.mst ts) ts S) = rl ts f := it
      refine ⟨_, rfl, p, rfl, ⟨rows, SqL.of (e2 _ _ hrows)⟩, ?_⟩
      refine for_it walk_list (fun j σ H' => ∃ S' A x4 x5, σ = [some (.ref p), some (.int (f : Nat)), some (.ref A), some xv, x4, x5] ∧ H' A = some (.lst (nV S')) ∧ Ex H H' ∧ S'.Pairwise (· < ·) ∧ (∀ s ∈ S', s < Mx.mst ts) ∧ Mx.rnd (Mx.mst ts) (ts.drop j) S' = Mx.rnd (Mx.mst ts) ts S) ⟨S, A0, _, _, rfl, hA, e2, asc, lt, rfl⟩ (fun _ σ H' _ h => by obtain ⟨_, _, _, _, _, _, e, _⟩ := h; exact SqL.of (e _ _ hrows)) ?_ ?_
      · rintro j yv σ H3 H3' hj ⟨S', A, x4, x5, rfl, hA3, e3, asc3, lt3, rn⟩ ⟨rfl, hy⟩
        have hj' : j < ts.length := by omega
        obtain ⟨row, hrow⟩ : ∃ c, ts[j]? = some c := ⟨_, List.getElem?_eq_getElem hj'⟩
        obtain ⟨ra, hra, hrowa⟩ := atrow j row hrow
        rw [hra] at hy
        cases hy
        have hmem := List.mem_of_getElem? hrow
        have l3 := bnd asc3 lt3
        refine ⟨_, rfl, _, rfl, A, rfl, ⟨_, SqL.of hA3⟩, fun D hD => ?_⟩
        refine lc_map walk_list hD (nD (S'.map (im row))) (by rw [nD_len, nV_len, List.length_map]) (by rw [nV_len, sizeLine_eq]; omega) (noL_n _) (fun H' e => SqL.of (e _ _ hA3)) ?_ ?_
        · intro i2 zv H4 H4' d Post hi2 e4 hz hd kk
          obtain ⟨rfl, hx⟩ := hz
          obtain ⟨st, hst, rfl⟩ := nV_get hx
          have him := ok.im hmem (lt3 st (List.mem_of_getElem? hst))
          refine ⟨rfl, _, rfl, _, rfl, ra, _, _, _, rfl, rfl, SqT.of (e4 _ _ (e3 _ _ hrowa)), atI_nat (nV_at him.1), kk _ _ Ex.rfl' ?_⟩
          obtain ⟨n, hn, rfl⟩ := nD_at hd
          rw [List.getElem?_map, hst] at hn
          cases hn
          exact .int _
        · intro acc H4 e4 h4 r4
          have ea : acc = nV (S'.map (im row)) := rall_of r4
          subst ea
          refine ⟨A, D, _, _, rfl, rfl, e4 _ _ hA3, h4, by rw [nV_len, nV_len, List.length_map, sizeLine_eq]; omega, fun B hB => ?_⟩
          rw [nV_app]
          have eB := Ex.new (o := .lst (nV (S' ++ S'.map (im row)))) hB
          refine tnil ⟨B, (S' ++ S'.map (im row)).map (fun n : Nat => (n : Int)), rfl, SqL.of (by rw [upd_same, nV_int]), by rw [List.length_map, List.length_append, List.length_map]; omega, fun C c hC hc => ?_⟩
          have eC := Ex.new (o := SetO w C (fun j => decide (j ∈ (S' ++ S'.map (im row)).map (fun n : Nat => (n : Int)))) c) hC
          refine tnil ⟨C, _, c, rfl, upd_same, by rw [List.length_map, List.length_append, List.length_map] at hc; omega, fun ns G0 ascn mem ln hG => ?_⟩
          rw [add_sets lt3 (fun s hs => (ok.im hmem (lt3 s hs)).2) ascn mem]
          refine ⟨Mx.add (Mx.mst ts) S' row, G0, _, _, rfl, upd_same, e3.tr (e4.tr (eB.tr (eC.tr (Ex.new hG)))), Mx.add_sorted _ _ _, fun s hs => (Mx.mem_add.mp hs).1, ?_⟩
          rw [← rn, drop_cons hrow]
          rfl
      · rintro σ H3 ⟨S', A, x4, x5, rfl, hA3, e3, asc3, lt3, rn⟩
        rw [List.drop_of_length_le (by omega)] at rn
        have rn' : S' = Mx.rnd (Mx.mst ts) ts S := rn
        exact ⟨S', A, _, _, _, rfl, hA3, e3, asc3, lt3, by rw [rn']; exact it'⟩
    · rintro σ H2 ⟨S, A, x3, x4, x5, rfl, hA, e2, asc, lt, it⟩
      rw [Nat.sub_self] at it
      have it' : S = rl ts f := it
      subst it'
      exact ⟨_, rfl, q A H2 e2 hA⟩
def spNoL : Sp := fun vs H Q _ => ∃ (p : Addr) (ts : Tab) (f : Nat), vs = [.ref p, .int (f : Nat)] ∧ R H (.ref p) (lD ts) ∧ Mx.Ok ts ∧ f < Mx.mst ts ∧ ∀ v H', Ex H H' → R H' v (dD (nothing ts f)) → Q v H'
abbrev sNoL : Stmt := top 54
theorem scNoL : FnScope ["_law_tables_here", "_law_first"] ["_law_tables_here", "_law_first"] (defScope sNoL) := ⟨rfl, rfl, rfl, by decide +kernel, rfl, by decide +kernel, by decide +kernel⟩
theorem ok_nol {f : Addr} {fd : FuncData} (F : Fun K "_law_nothing" "_law_nothing" sNoL f fd) (T : Txt K mg) (D__law_reached : Def P w K mg base 1 "_law_reached" ["_law_tables_here", "_law_first"] (spReL K)) : FnOk P w K mg base (L2.CX P w) 2 f fd ["_law_tables_here", "_law_first"] spNoL := by
  refine F.okX scNoL (fun vs H Q E h => ?_) (fun cdv A outer s H vs Q E hr h => ?_)
  · obtain ⟨p, ts, f, rfl, _⟩ := h
    rfl
  · obtain ⟨p, ts, f, rfl, rp, ok, hf, q⟩ := h
    refine ⟨_, (pss_one (ps_ret (pe_tup (pa_cons (pe_callTy cr_tup (by rfl) (T.no "tuple" (by decide)) boot_tuple (pa_cons (pcall D__law_reached hr (by decide) (pa_cons (pv 0) (pa_cons (pv 1) pa_nil))) pa_nil)) (pa_cons (pe_op op_repT1 (pe_tup (pa_cons pe_int pa_nil)) (pe_callB call_len_seq (by rfl) (T.no "len" (by decide)) boot_len (pa_cons (pv 0) pa_nil))) pa_nil))))), ?_⟩
    obtain ⟨rows, hrows, lrows, atrow⟩ := rows_at rp
    have l1 := ok.l1
    have l4 := ok.l4
    refine ⟨_, rfl, _, rfl, p, ts, f, rfl, rp, ok, hf, fun a H1 e1 h1 => ?_⟩
    refine tnil (tuple_sqR (b := true) h1 (rall_n _) fun v3 H3 e3 r3 => ?_)
    obtain ⟨la, rfl, hla⟩ := r_i (ns := rl ts f) r3
    refine ⟨by show 1 ≤ sizeLine; decide, fun t ht => ?_⟩
    have et := Ex.new (o := .tup [V.int 0]) ht
    have e4 := e1.tr (e3.tr et)
    refine ⟨_, rfl, _, _, rfl, .inl (SqL.of (e4 _ _ hrows)), ?_⟩
    rw [lrows]
    refine rep_zero upd_same l1 l4 fun r H4 e5 h4 => ?_
    refine tnil ⟨by show 2 ≤ sizeLine; decide, fun pr hpr => q _ _ (e4.tr (e5.tr (Ex.new hpr))) (r_d_mk upd_same ?_ ?_)⟩
    · exact (Ex.new hpr) _ _ (e5 _ _ (et _ _ hla))
    · exact (Ex.new hpr) _ _ h4
end
end Onew
end
section
set_option maxHeartbeats 4000000
namespace Mx
/-! the drawn tables -/
/-- a row that exchanges the first m states -/
structure Perm1 (m : Nat) (t : List Nat) : Prop where
  lt : ∀ s < m, im t s < m
  inj : ∀ a < m, ∀ b < m, im t a = im t b → a = b
structure TbOk (ts : Tab) : Prop where
  ok : Ok ts
  sh : ∃ m, 1 ≤ m ∧ m ≤ mst ts ∧ (∀ t ∈ ts, Perm1 m t) ∧ ((ts.length ≤ 2 ∧ m ≤ 4) ∨ m ≤ 3 ∨ (ts.length ≤ 2 ∧ ∀ t ∈ ts, ∃ b, ∀ s < m, im t s = (s + b) % m))
theorem im_app {a b : List Nat} {s : Nat} (h : s < a.length) : im (a ++ b) s = im a s := by
  unfold im
  rw [List.getD_eq_getElem?_getD, List.getD_eq_getElem?_getD, List.getElem?_append_left h]
theorem Perm1.app {m : Nat} {a b : List Nat} (h : Perm1 m a) (hl : m ≤ a.length) : Perm1 m (a ++ b) :=
  ⟨fun s hs => by rw [im_app (by omega)]; exact h.lt s hs, fun x hx y hy e => h.inj x hx y hy (by rwa [im_app (by omega), im_app (by omega)] at e)⟩
theorem perm_of {m : Nat} {a : List Nat} (h : a.Perm (List.range m)) : Perm1 m a := by
  have hl : a.length = m := by rw [h.length_eq, List.length_range]
  have nd : a.Nodup := h.nodup_iff.mpr List.nodup_range
  have at_ : ∀ s, (hs : s < m) → im a s = a[s]'(by omega) := fun s hs => by
    unfold im; rw [List.getD_eq_getElem?_getD, List.getElem?_eq_getElem (by omega)]; rfl
  refine ⟨fun s hs => ?_, fun x hx y hy e => ?_⟩
  · rw [at_ s hs]; exact List.mem_range.mp (h.mem_iff.mp (List.getElem_mem _))
  · rw [at_ x hx, at_ y hy] at e
    exact (List.getElem_inj nd).mp e
theorem rot_of {m b : Nat} (hm : 1 ≤ m) : Perm1 m ((List.range m).map fun s => (s + b) % m) ∧ ∀ s < m, im ((List.range m).map fun s => (s + b) % m) s = (s + b) % m := by
  have at_ : ∀ s < m, im ((List.range m).map fun s => (s + b) % m) s = (s + b) % m := fun s hs => by
    unfold im; rw [List.getD_eq_getElem?_getD, List.getElem?_map, List.getElem?_range hs]; rfl
  refine ⟨⟨fun s hs => ?_, fun x hx y hy e => ?_⟩, at_⟩
  · rw [at_ s hs]; exact Nat.mod_lt _ (by omega)
  · rw [at_ x hx, at_ y hy] at e
    rcases Nat.lt_trichotomy x y with h | h | h
    · exfalso
      have h2 : (y + b - (x + b)) % m = 0 := Nat.sub_mod_eq_zero_of_mod_eq e.symm
      rw [show y + b - (x + b) = y - x by omega, Nat.mod_eq_of_lt (by omega)] at h2
      omega
    · exact h
    · exfalso
      have h2 : (x + b - (y + b)) % m = 0 := Nat.sub_mod_eq_zero_of_mod_eq e
      rw [show x + b - (y + b) = x - y by omega, Nat.mod_eq_of_lt (by omega)] at h2
      omega
theorem swap_of {m k : Nat} (hk : k + 1 < m) : (((List.range m).set k (k + 1)).set (k + 1) k).Perm (List.range m) := by
  have e : List.range m = List.range k ++ k :: (k + 1) :: (List.range (m - k - 2)).map (k + 2 + ·) := by
    have h1 : m = k + (2 + (m - k - 2)) := by omega
    conv => lhs; rw [h1, List.range_add, List.range_add]
    rw [List.map_append, List.map_map]
    have h2 : ((fun x => k + x) ∘ fun x => 2 + x) = fun x => k + 2 + x := by funext x; show k + (2 + x) = k + 2 + x; omega
    rw [h2]
    rfl
  rw [e]
  rw [List.set_append_right _ _ (by simp), List.length_range, Nat.sub_self, List.set_cons_zero]
  rw [List.set_append_right _ _ (by simp), List.length_range, show k + 1 - k = 1 by omega]
  show (List.range k ++ (k + 1) :: k :: _).Perm _
  exact List.Perm.append_left _ (List.Perm.swap _ _ _)
end Mx
end
section
set_option maxRecDepth 100000
set_option maxHeartbeats 4000000
namespace Onew
open PySem PySem.Spec PyProof.Rows L2 G
open Mx (Tab im Rch rl rowF forgF doneOn Fm nextD nextP behind z3 TbOk Perm1)
theorem rgV_nat (m : Nat) : rgV 0 (m : Nat) = nV (List.range m) := by
  unfold rgV nV
  rw [show ((m : Nat) - 0 : Int).toNat = m by omega]
  exact List.map_congr_left fun i _ => by rw [Int.zero_add]
theorem perm_nV {ys : List V} {ns : List Nat} (h : ys.Perm (nV ns)) : ∃ ms : List Nat, ys = nV ms ∧ ms.Perm ns := by
  have h2 : ∀ {ys zs : List V}, ys.Perm zs → ∀ ns : List Nat, zs = nV ns → ∃ ms : List Nat, ys = nV ms ∧ ms.Perm ns := by
    intro ys zs h
    induction h with
    | nil => intro ns e; exact ⟨ns, e, .refl _⟩
    | cons x h ih =>
      intro ns e
      cases ns with
      | nil => cases e
      | cons n ns =>
        have e' := List.cons.inj e
        obtain ⟨ms, rfl, pm⟩ := ih ns e'.2
        exact ⟨n :: ms, by rw [e'.1]; rfl, pm.cons n⟩
    | swap x y l =>
      intro ns e
      cases ns with
      | nil => cases e
      | cons a ns =>
        cases ns with
        | nil => cases e
        | cons b ns =>
          have e' := List.cons.inj e
          have e'' := List.cons.inj e'.2
          exact ⟨b :: a :: ns, by rw [e'.1, e''.1, e''.2]; rfl, .swap _ _ _⟩
    | trans h1 h2 ih1 ih2 =>
      intro ns e
      obtain ⟨ms, rfl, pm⟩ := ih2 ns e
      obtain ⟨ms', rfl, pm'⟩ := ih1 ms rfl
      exact ⟨ms', rfl, pm'.trans pm⟩
  exact h2 h ns rfl
theorem eqT {a b : Int} (h : a = b) : decide (V.int a = V.int b) = true := by rw [h]; exact decide_eq_true rfl
theorem eqF {a b : Int} (h : a ≠ b) : decide (V.int a = V.int b) = false := decide_eq_false fun e => h (V.int.inj e)
theorem ixN_s {n k : Nat} (h : k + 1 < n) : ixN n ((k : Int) + 1) = some (k + 1) := Evl.ixN_nat (j := k + 1) h
theorem addC (a r : Nat) : (a : Int) + (r : Int) = ((r + a : Nat) : Int) := by omega
section
variable {P : Program} {w : World} {K : PySem.W.Frag} {mg : Str → Option Value} {base : Heap}
def spTabs : Sp := fun vs H Q _ => ∃ (b : Addr), vs = [.ref b, .int 4] ∧ H b = some (BoxO b) ∧ ∀ p ts H', Ex H H' → R H' (.ref p) (lD ts) → TbOk ts → Q (.ref p) H'
abbrev sTabs : Stmt := top 51
theorem scTabs : FnScope ["_law_box_here", "_law_most", "_law_many", "_law_found", "_law_more", "_law_style", "_law_deeds", "_law_deed", "_law_row", "_law_by", "_law_one", "_law_state"] ["_law_box_here", "_law_most"] (defScope sTabs) := ⟨rfl, rfl, rfl, by decide +kernel, rfl, by decide +kernel, by decide +kernel⟩
theorem ok_tabs {f : Addr} {fd : FuncData} (F : Fun K "_law_tables" "_law_tables" sTabs f fd) (T : Txt K mg) (D__law_take : Def P w K mg base 1 "_law_take" ["_law_box_here", "_law_many"] spTake)
    (D__law_pick : Def P w K mg base 2 "_law_pick" ["_law_box_here", "_law_some"] (spPick K)) (D__law_mixed : Def P w K mg base 2 "_law_mixed" ["_law_box_here", "_law_some"] (spMixed K)) : FnOk P w K mg base (L2.CX P w) 3 f fd ["_law_box_here", "_law_most"] spTabs := by
  refine F.okX scTabs (fun vs H Q E h => ?_) (fun cdv A outer s H vs Q E hr h => ?_)
  · obtain ⟨b, rfl, _⟩ := h
    rfl
  · obtain ⟨b, rfl, hb, q⟩ := h
    have nd := scTabs.nd
    refine ⟨_, (Evl.pss_cut (ps_asg (pe_tup (pa_cons (pe_op op_add pe_int (pcall D__law_take hr (by decide) (pa_cons (pv 0) (pa_cons (pv 1) pa_nil)))) (pa_cons (pe_lst pa_nil) pa_nil))) (pg_tup rfl (pgs_cons (pg_name (i := 2) nd rfl (Or.inr rfl)) (pgs_cons (pg_name (i := 3) nd rfl (Or.inl rfl)) pgs_nil))))
      (Evl.pss_cut (ps_asg (pe_tup (pa_cons (pcall D__law_pick hr (by decide) (pa_cons (pv 0) (pa_cons (pe_lst (pa_cons pe_int (pa_cons pe_int (pa_cons pe_int (pa_cons pe_int pa_nil))))) pa_nil))) (pa_cons (pcall D__law_take hr (by decide) (pa_cons (pv 0) (pa_cons pe_int pa_nil))) pa_nil))) (pg_tup rfl (pgs_cons (pg_name (i := 4) nd rfl (Or.inr rfl)) (pgs_cons (pg_name (i := 5) nd rfl (Or.inl rfl)) pgs_nil))))
      (Evl.pss_cut (ps_set (i := 6) nd rfl (Or.inl rfl) (pe_op op_add pe_int (pcall D__law_take hr (by decide) (pa_cons (pv 0) (pa_cons pe_int pa_nil)))))
      (Evl.pss_cut (ps_if (pt_cmpR op_eq (pv 5) pe_int (nomark _)) (pss_one (ps_asg (pe_tup (pa_cons (pe_op op_add pe_int (pcall D__law_take hr (by decide) (pa_cons (pv 0) (pa_cons pe_int pa_nil)))) (pa_cons (pe_op op_add pe_int (pcall D__law_take hr (by decide) (pa_cons (pv 0) (pa_cons pe_int pa_nil)))) pa_nil))) (pg_tup rfl (pgs_cons (pg_name (i := 2) nd rfl (Or.inr rfl)) (pgs_cons (pg_name (i := 6) nd rfl (Or.inl rfl)) pgs_nil))))) pss_nil)
      (Evl.pss_cut (ps_if (pt_cmpR op_eq (pv 5) pe_int (nomark _)) (pss_one (ps_asg (pe_tup (pa_cons (pe_op op_add pe_int (pcall D__law_take hr (by decide) (pa_cons (pv 0) (pa_cons pe_int pa_nil)))) (pa_cons pe_int pa_nil))) (pg_tup rfl (pgs_cons (pg_name (i := 2) nd rfl (Or.inr rfl)) (pgs_cons (pg_name (i := 4) nd rfl (Or.inr rfl)) pgs_nil))))) pss_nil)
      (pss_cons (ps_for (passes_of rfl) rfl (pi_range1 (by rfl) (T.no "range" (by decide)) (pa_cons (pv 6) pa_nil)) (pg_name (i := 7) nd rfl (Or.inl rfl)) (Evl.pss_cut (ps_set (i := 8) nd rfl (Or.inl rfl) (pcall D__law_mixed hr (by decide) (pa_cons (pv 0) (pa_cons (pe_listRg rfl (by rfl) (T.no "list" (by decide)) (prg_1 (by rfl) (T.no "range" (by decide)) (pv 2))) pa_nil))))
      (Evl.pss_cut (ps_if ((pw_or (pt_cmpR op_eq (pv 5) pe_int (nomark _)) (pw_or1 (pt_cmpR op_eq (pv 5) pe_int (nomark _))))).pt (pss_cons (ps_set (i := 9) nd rfl (Or.inr rfl) (pcall D__law_take hr (by decide) (pa_cons (pv 0) (pa_cons (pv 2) pa_nil))))
      (pss_one (ps_setLc (i := 8) (own := [("_law_state", 11)]) (g := gName 11) (tt := tYes) rfl nd rfl rfl (sw_true rfl rfl rfl (by decide +kernel)) (pi_range1 (by rfl) (T.no "range" (by decide)) (pa_cons (pv 2) pa_nil)) (blkOk_by (N := ["_law_box_here", "_law_most", "_law_many", "_law_found", "_law_more", "_law_style", "_law_deeds", "_law_deed", "_law_row", "_law_by", "_law_one", "_law_state"]) (sc := defScope sTabs) (by decide +kernel)) (fun _ _ _ _ _ => (pg_name (i := 11) nd rfl (Or.inl rfl))) (fun _ _ _ _ _ => pts_nil) (fun _ _ _ _ _ => (pe_op op_mod (pe_callTy call_int1 (by rfl) (T.no "int" (by decide)) boot_int (pa_cons (pe_op op_add (pv 11) (pv 9)) pa_nil)) (pv 2)))))) pss_nil)
      (Evl.pss_cut (ps_if ((pw_and (pt_cmpR op_eq (pv 5) pe_int (nomark _)) (pw_and1 (pt_cmpR op_gt (pv 2) pe_int (nomark _))))).pt (pss_cons (ps_set (i := 10) nd rfl (Or.inl rfl) (pcall D__law_take hr (by decide) (pa_cons (pv 0) (pa_cons (pe_op op_sub (pv 2) pe_int) pa_nil))))
      (pss_cons (ps_set (i := 8) nd rfl (Or.inl rfl) (pe_listRg rfl (by rfl) (T.no "list" (by decide)) (prg_1 (by rfl) (T.no "range" (by decide)) (pv 2))))
      (pss_one (ps_asg (pe_tup (pa_cons (pe_op op_add (pv 10) pe_int) (pa_cons (pv 10) pa_nil))) (pg_tup rfl (pgs_cons (pg_sub (pv 8) (pv 10) set_list) (pgs_cons (pg_sub (pv 8) (pe_op op_add (pv 10) pe_int) set_list) pgs_nil))))))) pss_nil)
      (pss_one (ps_expr (pe_bm PySem.F.plainAttrs_list PySem.F.slot_list_append PySem.F.type_list_append mt_append (pv 3) (pa_cons (pe_callTy cr_tup (by rfl) (T.no "tuple" (by decide)) boot_tuple (pa_cons (pe_op op_cat (pv 8) (pe_lc (own := [("_law_state", 11)]) (g := gName 11) (tt := tYes) rfl nd (pi_range1 (by rfl) (T.no "range" (by decide)) (pa_cons (pv 4) pa_nil)) (blkOk_by (N := ["_law_box_here", "_law_most", "_law_many", "_law_found", "_law_more", "_law_style", "_law_deeds", "_law_deed", "_law_row", "_law_by", "_law_one", "_law_state"]) (sc := defScope sTabs) (by decide +kernel)) (fun _ _ _ _ _ => (pg_name (i := 11) nd rfl (Or.inl rfl))) (fun _ _ _ _ _ => pts_nil) (fun _ _ _ _ _ => (pcall D__law_take hr (by decide) (pa_cons (pv 0) (pa_cons (pe_op op_add (pv 2) (pv 4)) pa_nil)))))) pa_nil)) pa_nil))))))))
      (pss_one (ps_ret (pv 3))))))))), ?_⟩
    refine ⟨fun σ H' => ∃ (m : Nat) (L : Addr) (x4 x5 x6 x7 x8 x9 x10 x11 : Option V), σ = [some (.ref b), some (.int 4), some (.int (m : Nat)), some (.ref L), x4, x5, x6, x7, x8, x9, x10, x11] ∧ 1 ≤ m ∧ m ≤ 4 ∧ Ex H H' ∧ H L = none ∧ H' L = some (.lst []), ?_, ?_⟩
    · refine ⟨_, rfl, _, rfl, b, 4, rfl, hb, by decide, by decide, fun r hr' => ⟨_, _, rfl, rfl, ?_⟩⟩
      refine ⟨by decide, fun L hL => tnil ?_⟩
      refine ⟨by show 2 ≤ sizeLine; decide, fun t ht => ⟨t, _, rfl, SqT.of upd_same, rfl, _, _, rfl, _, _, rfl, rfl, ?_⟩⟩
      have nL : L ≠ t := fun z => by rw [← z, upd_same] at ht; cases ht
      exact ⟨r + 1, L, none, none, none, none, none, none, none, none, by rw [← addC 1 r]; rfl, by omega, by omega, (Ex.new hL).tr (Ex.new ht), hL, by rw [upd_ne nL, upd_same]⟩
    rintro σ H1 ⟨m, L, x4, x5, x6, x7, x8, x9, x10, x11, rfl, m1, m4, e1, hL0, hL1⟩
    refine ⟨fun σ H' => ∃ (more st : Nat) (x6 x7 x8 x9 x10 x11 : Option V), σ = [some (.ref b), some (.int 4), some (.int (m : Nat)), some (.ref L), some (.int (more : Nat)), some (.int (st : Nat)), x6, x7, x8, x9, x10, x11] ∧ more ≤ 2 ∧ Ex H H' ∧ H' L = some (.lst []), ?_, ?_⟩
    · refine ⟨_, rfl, by show 4 ≤ sizeLine; decide, fun p hp => ⟨b, p, _, rfl, (e1.tr (Ex.new hp)) _ _ hb, SqL.of upd_same, by simp, by show 4 ≤ 100000; decide, fun v hv => ?_⟩⟩
      have hv' : ∃ more : Nat, v = .int (more : Nat) ∧ more ≤ 2 := by
        simp only [List.mem_cons, List.not_mem_nil, or_false] at hv
        rcases hv with rfl | rfl | rfl | rfl
        · exact ⟨0, rfl, by decide⟩
        · exact ⟨0, rfl, by decide⟩
        · exact ⟨1, rfl, by decide⟩
        · exact ⟨2, rfl, by decide⟩
      obtain ⟨more, rfl, hmore⟩ := hv'
      have e2 := e1.tr (Ex.new (o := .lst [V.int 0, .int 0, .int 1, .int 2]) hp)
      refine ⟨_, rfl, b, 6, rfl, e2 _ _ hb, by decide, by decide, fun st _ => tnil ?_⟩
      refine ⟨by show 2 ≤ sizeLine; decide, fun t ht => ⟨t, _, rfl, SqT.of upd_same, rfl, _, _, rfl, _, _, rfl, rfl, ?_⟩⟩
      exact ⟨more, st, _, _, _, _, _, _, rfl, hmore, e2.tr (Ex.new ht), (Ex.new ht) _ _ ((Ex.new hp) _ _ hL1)⟩
    rintro σ H2 ⟨more, st, x6, x7, x8, x9, x10, x11, rfl, hmore, e2, hL2⟩
    refine ⟨fun σ H' => H' = H2 ∧ ∃ (deeds : Nat) (x7 x8 x9 x10 x11 : Option V), σ = [some (.ref b), some (.int 4), some (.int (m : Nat)), some (.ref L), some (.int (more : Nat)), some (.int (st : Nat)), some (.int (deeds : Nat)), x7, x8, x9, x10, x11] ∧ 1 ≤ deeds ∧ deeds ≤ 2, ?_, ?_⟩
    · refine ⟨_, rfl, b, 2, rfl, e2 _ _ hb, by decide, by decide, fun r hr' => ⟨_, _, rfl, rfl, rfl, r + 1, x7, x8, x9, x10, x11, by rw [← addC 1 r]; rfl, by omega, by omega⟩⟩
    rintro σ H3 ⟨rfl, deeds, x7, x8, x9, x10, x11, rfl, d1, d2⟩
    refine ⟨fun σ H' => Ex H3 H' ∧ ∃ (m deeds : Nat), σ = [some (.ref b), some (.int 4), some (.int (m : Nat)), some (.ref L), some (.int (more : Nat)), some (.int (st : Nat)), some (.int (deeds : Nat)), x7, x8, x9, x10, x11] ∧ 1 ≤ deeds ∧ deeds ≤ 4 ∧ 1 ≤ m ∧ m ≤ 4 ∧ (deeds ≤ 2 ∨ (st = 4 ∧ m ≤ 3)), ?_, ?_⟩
    · refine ⟨_, rfl, rfl, _, rfl, ?_⟩
      by_cases h4 : st = 4
      · refine itT (eqT (by omega)) ?_
        refine ⟨_, rfl, b, 3, rfl, e2 _ _ hb, by decide, by decide, fun r hr' => ⟨_, _, rfl, rfl, ?_⟩⟩
        refine ⟨_, rfl, b, 2, rfl, e2 _ _ hb, by decide, by decide, fun r2 hr2 => ⟨_, _, rfl, rfl, tnil ?_⟩⟩
        refine ⟨by show 2 ≤ sizeLine; decide, fun t ht => ⟨t, _, rfl, SqT.of upd_same, rfl, _, _, rfl, _, _, rfl, rfl, ?_⟩⟩
        exact ⟨Ex.new ht, r + 1, r2 + 3, by rw [← addC 1 r, ← addC 3 r2]; rfl, by omega, by omega, by omega, by omega, .inr ⟨h4, by omega⟩⟩
      · refine itF (eqF (by omega)) ⟨Ex.rfl', m, deeds, rfl, d1, by omega, m1, m4, .inl d2⟩
    rintro σ H4 ⟨e4, m', deeds', rfl, d1', d2', m1', m4', dm⟩
    refine ⟨fun σ H' => Ex H4 H' ∧ ∃ (m more : Nat), σ = [some (.ref b), some (.int 4), some (.int (m : Nat)), some (.ref L), some (.int (more : Nat)), some (.int (st : Nat)), some (.int (deeds' : Nat)), x7, x8, x9, x10, x11] ∧ 1 ≤ m ∧ m + more ≤ 8 ∧ ((deeds' ≤ 2 ∧ m ≤ 4) ∨ m ≤ 3 ∨ (deeds' ≤ 2 ∧ st = 5)), ?_, ?_⟩
    · refine ⟨_, rfl, rfl, _, rfl, ?_⟩
      by_cases h5 : st = 5
      · refine itT (eqT (by omega)) ?_
        refine ⟨_, rfl, b, 4, rfl, e4 _ _ (e2 _ _ hb), by decide, by decide, fun r hr' => ⟨_, _, rfl, rfl, ?_⟩⟩
        refine ⟨by show 2 ≤ sizeLine; decide, fun t ht => ⟨t, _, rfl, SqT.of upd_same, rfl, _, _, rfl, _, _, rfl, rfl, ?_⟩⟩
        exact ⟨Ex.new ht, r + 5, 0, by rw [← addC 5 r]; rfl, by omega, by omega, .inr (.inr ⟨by omega, h5⟩)⟩
      · refine itF (eqF (by omega)) ⟨Ex.rfl', m', more, rfl, m1', by omega, ?_⟩
        rcases dm with h | h
        · exact .inl ⟨h, m4'⟩
        · exact .inr (.inl h.2)
    rintro σ H5 ⟨e5, m, more, rfl, m1, m8, dm⟩
    have e05 : Ex H H5 := e2.tr (e4.tr e5)
    have hL5 : H5 L = some (.lst []) := e5 _ _ (e4 _ _ hL2)
    refine ⟨_, rfl, _, rfl, by omega, by omega, ?_⟩
    rw [show ((deeds' : Nat) : Int).toNat = deeds' by omega]
    refine for_it walk_range (fun i σ H' => ∃ (rows : Tab) (vs : List V) (x7 x8 x9 x10 x11 : Option V), σ = [some (.ref b), some (.int 4), some (.int (m : Nat)), some (.ref L), some (.int (more : Nat)), some (.int (st : Nat)), some (.int (deeds' : Nat)), x7, x8, x9, x10, x11] ∧ Ex H H' ∧ H' L = some (.lst vs) ∧ RAll H' vs (rows.map iD) ∧ rows.length = i ∧
      ∀ t ∈ rows, (t.length = m + more ∧ ∀ n ∈ t, n < m + more) ∧ Perm1 m t ∧ (st = 5 → ∃ b, ∀ s < m, im t s = (s + b) % m)) ?_ (fun _ _ _ _ _ => trivial) ?_ ?_
    · exact ⟨[], [], _, _, _, _, _, rfl, e05, hL5, .nil, rfl, fun t ht => absurd ht (by simp)⟩
    · rintro i xv σ H6 H6' hi ⟨rows, vs, x7, x8, x9, x10, x11, rfl, e6, hL6, ra6, lrows, okr⟩ ⟨rfl, hxv⟩
      refine ⟨fun σ H' => ∃ (A : Addr) (row : List Nat), σ = [some (.ref b), some (.int 4), some (.int (m : Nat)), some (.ref L), some (.int (more : Nat)), some (.int (st : Nat)), some (.int (deeds' : Nat)), some xv, some (.ref A), x9, x10, x11] ∧ Ex H6' H' ∧ H' A = some (.lst (nV row)) ∧ row.length = m ∧ (∀ n ∈ row, n < m) ∧ Perm1 m row, ?_, ?_⟩
      · refine ⟨_, rfl, _, rfl, _, rfl, ⟨by omega, by omega, by omega, by omega, by omega⟩, fun q5 hq5 => ⟨b, q5, _, rfl, (e6.tr (Ex.new hq5)) _ _ hb, .inl (SqL.of upd_same), ?_, fun A ys H7 e7 h7 pm => ?_⟩⟩
        · rw [rgV_nat, nV_len, List.length_range]; omega
        · rw [rgV_nat] at pm
          obtain ⟨row, rfl, pr⟩ := perm_nV pm
          exact ⟨A, row, rfl, (Ex.new hq5).tr e7, h7, by rw [pr.length_eq, List.length_range], fun n hn => List.mem_range.mp (pr.mem_iff.mp hn), Mx.perm_of pr⟩
      rintro σ H7 ⟨A, row, rfl, e7, hA7, lr7, ltr7, pm7⟩
      refine ⟨fun σ H' => ∃ (A : Addr) (row : List Nat) (x9 x11 : Option V), σ = [some (.ref b), some (.int 4), some (.int (m : Nat)), some (.ref L), some (.int (more : Nat)), some (.int (st : Nat)), some (.int (deeds' : Nat)), some xv, some (.ref A), x9, x10, x11] ∧ Ex H6' H' ∧ H' A = some (.lst (nV row)) ∧ row.length = m ∧ (∀ n ∈ row, n < m) ∧ Perm1 m row ∧ (st = 5 → ∃ b, ∀ s < m, im row s = (s + b) % m), ?_, ?_⟩
      · refine ⟨_, rfl, rfl, _, rfl, ?_⟩
        have hc : st = 0 ∨ st = 5 ∨ (st ≠ 0 ∧ st ≠ 5) := by omega
        rcases hc with h0 | h0 | h0
        rotate_left 2
        exact itF (eqF (by omega)) ⟨_, rfl, rfl, _, rfl, itF (eqF (by omega)) ⟨A, row, _, _, rfl, e7, hA7, lr7, ltr7, pm7, fun h => absurd h h0.2⟩⟩
        refine itT (eqT (by omega)) (itT rfl ?_)
        rotate_left
        refine itF (eqF (by omega)) ⟨_, rfl, rfl, _, rfl, itT (eqT (by omega)) ?_⟩
        all_goals
          refine ⟨_, rfl, _, rfl, b, m, rfl, e7 _ _ (e6 _ _ hb), m1, by omega, fun by_ hby => ?_⟩
          refine ⟨_, rfl, _, rfl, by omega, by omega, fun D hD => ?_⟩
          rw [show ((m : Nat) : Int).toNat = m by omega]
          refine lc_map walk_range hD (nD ((List.range m).map fun s => (s + by_) % m)) (by rw [nD_len, List.length_map, List.length_range]) (by rw [sizeLine_eq]; omega) (noL_n _) (fun H' e => trivial) ?_ ?_
          · rintro j yv H8 H8' d Post hj e8 ⟨rfl, rfl⟩ hd kk
            refine ⟨rfl, _, rfl, _, rfl, _, _, rfl, rfl, .inl ⟨_, rfl, _, rfl, _, _, rfl, rfl, (by omega : (0 : Int) < (m : Nat)), kk _ _ Ex.rfl' ?_⟩⟩
            obtain ⟨n, hn, rfl⟩ := nD_at hd
            rw [List.getElem?_map, List.getElem?_range hj] at hn
            cases hn
            have ev : ((0 + (j : Nat) : Int) + (by_ : Nat)) % (m : Nat) = (((j + by_) % m : Nat) : Int) := by rw [Int.natCast_emod, Int.zero_add]; rfl
            show R _ (.int (((0 + (j : Nat) : Int) + (by_ : Nat)) % (m : Nat))) _
            rw [ev]
            exact .int _
          · intro acc H8 e8 h8 r8
            have ea : acc = nV _ := rall_of r8
            subst ea
            have rot := Mx.rot_of (b := by_) m1
            exact ⟨D, _, _, _, rfl, e7.tr e8, h8, by rw [List.length_map, List.length_range], fun n hn => by
              obtain ⟨z, _, rfl⟩ := List.mem_map.mp hn
              exact Nat.mod_lt _ (by omega), rot.1, fun _ => ⟨by_, rot.2⟩⟩
      rintro σ H8 ⟨A, row, x9, x11, rfl, e8, hA8, lr8, ltr8, pm8, rot8⟩
      refine ⟨fun σ H' => ∃ (A : Addr) (row : List Nat) (x10 : Option V), σ = [some (.ref b), some (.int 4), some (.int (m : Nat)), some (.ref L), some (.int (more : Nat)), some (.int (st : Nat)), some (.int (deeds' : Nat)), some xv, some (.ref A), x9, x10, x11] ∧ Ex H6' H' ∧ H' A = some (.lst (nV row)) ∧ row.length = m ∧ (∀ n ∈ row, n < m) ∧ Perm1 m row ∧ (st = 5 → ∃ b, ∀ s < m, im row s = (s + b) % m), ?_, ?_⟩
      · refine ⟨_, rfl, rfl, _, rfl, ?_⟩
        by_cases h1 : st = 1
        rotate_left
        · exact itF (eqF (by omega)) (itF rfl ⟨A, row, _, rfl, e8, hA8, lr8, ltr8, pm8, rot8⟩)
        · refine itT (eqT (by omega)) ⟨_, rfl, _, _, rfl, rfl, _, rfl, ?_⟩
          by_cases h2 : ((m : Nat) : Int) > 2
          rotate_left
          · exact itF (decide_eq_false h2) ⟨A, row, _, rfl, e8, hA8, lr8, ltr8, pm8, rot8⟩
          refine itT (decide_eq_true h2) ?_
          have e08 := e6.tr e8
          refine ⟨_, rfl, _, rfl, _, _, rfl, rfl, b, m - 1, ?_, e08 _ _ hb, by omega, by omega, fun k hk => ?_⟩
          · show [V.ref b, V.int (((m : Nat) : Int) - 1)] = [V.ref b, V.int ((m - 1 : Nat) : Int)]
            rw [show ((m : Nat) : Int) - 1 = ((m - 1 : Nat) : Int) by omega]
          refine ⟨_, rfl, _, rfl, ⟨by omega, by omega, by omega, by omega, by omega⟩, fun B hB => ?_⟩
          refine ⟨_, rfl, _, _, rfl, rfl, _, rfl, tnil ⟨by show 2 ≤ sizeLine; decide, fun t ht => ?_⟩⟩
          have nBt : B ≠ t := fun z => by rw [← z, upd_same] at ht; cases ht
          refine ⟨t, _, rfl, SqT.of upd_same, rfl, _, _, rfl, _, rfl, _, rfl, B, _, _, k, rfl, rfl, by rw [upd_ne nBt, upd_same], Evl.ixN_nat (by rw [rgV_nat, nV_len, List.length_range]; omega), ?_⟩
          refine ⟨_, _, rfl, _, rfl, _, rfl, _, _, rfl, rfl, B, _, _, k + 1, rfl, rfl, upd_same, ixN_s (by rw [List.length_set, rgV_nat, nV_len, List.length_range]; omega), ?_⟩
          have sw := Mx.swap_of (m := m) (k := k) (by omega)
          have hrow : (((rgV 0 (m : Nat)).set k (.int ((k : Nat) + 1))).set (k + 1) (.int (k : Nat))) = nV (((List.range m).set k (k + 1)).set (k + 1) k) := by
            rw [rgV_nat, show ((k : Nat) : Int) + 1 = ((k + 1 : Nat) : Int) by omega, nV_set, nV_set]
          refine ⟨rfl, B, ((List.range m).set k (k + 1)).set (k + 1) k, _, rfl, e8.tr ((((Ex.new hB).tr (Ex.new ht)).mut hB).mut hB), ?_, by rw [List.length_set, List.length_set, List.length_range], fun n hn => List.mem_range.mp (sw.mem_iff.mp hn), Mx.perm_of sw, fun h => absurd h (by omega)⟩
          rw [upd_same]
          exact congrArg (fun z => some (HO.lst z)) hrow
      rintro σ H9 ⟨A, row, x10, rfl, e9, hA9, lr9, ltr9, pm9, rot9⟩
      have e09 := e6.tr e9
      have hL9 : H9 L = some (.lst vs) := e9 _ _ hL6
      refine ⟨_, rfl, .inl ⟨rfl, _, SqL.of hL9⟩, _, rfl, _, rfl, _, rfl, by omega, by omega, fun D hD => ?_⟩
      rw [show ((more : Nat) : Int).toNat = more by omega]
      refine lc_grow walk_range hD (fun j acc _ => ∃ ns : List Nat, acc = nV ns ∧ ns.length = j ∧ ∀ n ∈ ns, n < m + more) (fun _ _ _ _ _ h => h) ⟨[], rfl, rfl, fun n hn => absurd hn (by simp)⟩ (fun _ _ => trivial) ?_ ?_
      · rintro j yv H10 H10' acc Nx hj e10 ⟨ns, rfl, ln, hn⟩ ⟨rfl, rfl⟩ k1 k2
        refine ⟨rfl, ?_⟩
        refine ⟨_, rfl, _, rfl, _, rfl, _, _, rfl, rfl, b, m + more, rfl, e10 _ _ (e09 _ _ hb), by omega, by omega, fun r hr' => k1 _ _ Ex.rfl' ?_ ⟨ns ++ [r], by rw [← nV_app]; rfl, by rw [List.length_append, ln]; rfl, fun n h => ?_⟩⟩
        · rw [nV_len, sizeLine_eq]; omega
        · rcases List.mem_append.mp h with h | h
          · exact hn n h
          · rw [List.mem_singleton.mp h]; exact hr'
      · rintro acc H10 e10 hD10 ⟨ns, rfl, ln, hn⟩
        refine ⟨A, D, _, _, rfl, rfl, e10 _ _ hA9, hD10, by rw [nV_len, nV_len, sizeLine_eq]; omega, fun C hC => ?_⟩
        rw [nV_app]
        refine tnil (tuple_sqR (b := true) (upd_same) (rall_n _) fun v11 H11 e11 r11 => tnil ?_)
        have e12 : Ex H9 H11 := e10.tr ((Ex.new hC).tr e11)
        have hL11 := e12 _ _ hL9
        have hL0' : H L = none := hL0
        refine ⟨L, vs, _, rfl, rfl, hL11, by have := ra6.length; rw [List.length_map] at this; rw [sizeLine_eq]; omega, ?_⟩
        have tx : Tx H11 (upd H11 L (.lst (vs ++ [v11]))) := Tx.put hL11 fun xs z => by cases z
        refine ⟨rows ++ [row ++ ns], _, _, _, _, _, _, rfl, (e09.tr e12).mut hL0, upd_same, ?_, by rw [List.length_append, lrows]; rfl, fun t ht => ?_⟩
        · rw [List.map_append]
          exact RAll.app (RAll.tx tx _ _ (noLs_tab rows) (ra6.ex (e9.tr e12))) (RAll.one (R.tx tx _ _ (noL_i _) r11))
        · rcases List.mem_append.mp ht with ht | ht
          · exact okr t ht
          · rw [List.mem_singleton.mp ht]
            refine ⟨⟨by rw [List.length_append, lr9, ln], fun n hn' => ?_⟩, pm9.app (by omega), fun h5 => ?_⟩
            · rcases List.mem_append.mp hn' with h | h
              · have := ltr9 n h; omega
              · exact hn n h
            · obtain ⟨b', hb'⟩ := rot9 h5
              exact ⟨b', fun s hs => by rw [Mx.im_app (by omega)]; exact hb' s hs⟩
    · rintro σ H6 ⟨rows, vs, x7, x8, x9, x10, x11, rfl, e6, hL6, ra6, lrows, okr⟩
      have hd : ∃ t0 r0, rows = t0 :: r0 := by
        cases rows with
        | nil => simp at lrows; omega
        | cons t0 r0 => exact ⟨_, _, rfl⟩
      obtain ⟨t0, r0, er⟩ := hd
      have hm : Mx.mst rows = m + more := by rw [er]; exact (okr t0 (by rw [er]; exact .head _)).1.1
      refine ⟨_, rfl, q L rows H6 e6 (.lst hL6 ra6) ⟨⟨by omega, by omega, by omega, by omega, fun t ht => by rw [hm]; exact (okr t ht).1⟩, m, m1, by omega, fun t ht => (okr t ht).2.1, ?_⟩⟩
      rw [lrows]
      rcases dm with h | h | h
      · exact .inl h
      · exact .inr (.inl h)
      · exact .inr (.inr ⟨h.1, fun t ht => (okr t ht).2.2 h.2⟩)
end
end Onew
end
section
set_option maxRecDepth 100000
set_option maxHeartbeats 4000000
namespace Onew
open PySem PySem.Spec PyProof.Rows L2 G
open Mx (Tab im Rch rl rowF forgF doneOn Fm nextD nextP behind z3 TbOk Perm1)
theorem walk_zip3L {a b c : Addr} {xs ys zs : List V} {n : Nat} : Walk (ItZ true a b c xs ys zs n) n (fun H => H a = some (.tup xs) ∧ H b = some (.tup ys) ∧ H c = some (seqO true zs))
    (fun i H v H' => ∃ T x y z, v = .ref T ∧ H T = none ∧ H' = upd H T (.tup [x, y, z]) ∧ xs[i]? = some x ∧ ys[i]? = some y ∧ zs[i]? = some z) := walk_zip3
section
variable {P : Program} {w : World} {K : PySem.W.Frag} {mg : Str → Option Value} {base : Heap}
def spBeh (K : PySem.W.Frag) : Sp := fun vs H Q _ => ∃ (a b : Addr) (v1 v2 : V) (S ns : List Nat) (x y : Doing), vs = [.ref a, .ref b, v1, v2] ∧ H a = some (.lst (nV S)) ∧ H b = some (.lst (nV ns)) ∧ R H v1 (dD x) ∧ R H v2 (dD y) ∧ x.1.length ≤ 8 ∧ (∀ s ∈ x.1, s ∈ S) ∧ y.1.length = S.length ∧
  x.2.length = ns.length ∧ y.2.length = ns.length ∧ ns.length ≤ 4 ∧ 0 ∉ ns ∧ ∀ v' H', Ex H H' → R H' v' (dD (behind S ns x y)) → Q v' H'
abbrev sBeh : Stmt := top 56
theorem scBeh : FnScope ["_law_states", "_law_rounds", "_law_one", "_law_other", "_law_images", "_law_here", "_law_there", "_law_many", "_law_state"] ["_law_states", "_law_rounds", "_law_one", "_law_other"] (defScope sBeh) := ⟨rfl, rfl, rfl, by decide +kernel, rfl, by decide +kernel, by decide +kernel⟩
theorem ok_beh {f : Addr} {fd : FuncData} (F : Fun K "_law_behind" "_law_behind" sBeh f fd) (T : Txt K mg) : FnOk P w K mg base (L2.CX P w) 1 f fd ["_law_states", "_law_rounds", "_law_one", "_law_other"] (spBeh K) := by
  refine F.okX scBeh (fun vs H Q E h => ?_) (fun cdv A outer s H vs Q E hr h => ?_)
  · obtain ⟨a, b, v1, v2, S, ns, x, y, rfl, _⟩ := h
    rfl
  · obtain ⟨a, b, v1, v2, S, ns, x, y, rfl, ha, hb, r1, r2, lx, hin, ly, lx2, ly2, ln, h0, q⟩ := h
    have nd := scBeh.nd
    refine ⟨_, (pss_cons (ps_set (i := 4) nd rfl (Or.inl rfl) (pe_callTy cr_tup (by rfl) (T.no "tuple" (by decide)) boot_tuple (pa_cons (pe_lc (own := [("_law_state", 8)]) (g := gName 8) (tt := tYes) (te := tOp (rIxT K) (tOp (rIxT K) (tVar 3) (tC (.int 0))) (tBM K "list" (rLIdx K) (tVar 0) (tCons (tVar 8) tNil))) rfl nd (pi_tup (pe_ix ix_tup (pv 2) pe_int (fun _ _ => rfl))) (blkOk_by (N := ["_law_states", "_law_rounds", "_law_one", "_law_other", "_law_images", "_law_here", "_law_there", "_law_many", "_law_state"]) (sc := defScope sBeh) (by decide +kernel)) (fun _ _ _ _ _ => (pg_name (i := 8) nd rfl (Or.inl rfl))) (fun _ _ _ _ _ => pts_nil) (fun _ _ _ _ _ => (pe_ix ix_tup (pe_ix ix_tup (pv 3) pe_int (fun _ _ => rfl)) (pe_bm PySem.F.plainAttrs_list PySem.F.slot_list_index PySem.F.type_list_index mt_lidx (pv 0) (pa_cons (pv 8) pa_nil)) (fun _ _ => rfl)))) pa_nil)))
      (pss_one (ps_ret (pe_tup (pa_cons (pv 4) (pa_cons (pe_callTy cr_tup (by rfl) (T.no "tuple" (by decide)) boot_tuple (pa_cons (pe_lc (own := [("_law_here", 5), ("_law_there", 6), ("_law_many", 7)]) (tt := tYes) (g := gTup K 3 (gCons (gName 5) (gCons (gName 6) (gCons (gName 7) gNil)))) rfl nd (pi_zip3 (by rfl) (T.no "zip" (by decide)) (pa_cons (pe_ix ix_tup (pv 2) pe_int (fun _ _ => rfl)) (pa_cons (pe_ix ix_tup (pv 3) pe_int (fun _ _ => rfl)) (pa_cons (pv 1) pa_nil)))) (blkOk_by (N := ["_law_states", "_law_rounds", "_law_one", "_law_other", "_law_images", "_law_here", "_law_there", "_law_many", "_law_state"]) (sc := defScope sBeh) (by decide +kernel)) (fun _ _ _ _ _ => (pg_tup rfl (pgs_cons (pg_name (i := 5) nd rfl (Or.inl rfl)) (pgs_cons (pg_name (i := 6) nd rfl (Or.inl rfl)) (pgs_cons (pg_name (i := 7) nd rfl (Or.inl rfl)) pgs_nil))))) (fun _ _ _ _ _ => pts_nil) (fun _ _ _ _ _ => (pe_op op_mod (pe_callTy call_int1 (by rfl) (T.no "int" (by decide)) boot_int (pa_cons (pe_op op_add (pv 5) (pv 6)) pa_nil)) (pv 7)))) pa_nil)) pa_nil)))))), ?_⟩
    obtain ⟨o1, im1, c1, rfl, ho1, him1, hc1⟩ := r_d r1
    obtain ⟨o2, im2, c2, rfl, ho2, him2, hc2⟩ := r_d r2
    have hat1 : atI ([V.ref im1, V.ref c1] : List V) 0 = some (.ref im1) := atI_nat (j := 0) rfl
    have hat2 : atI ([V.ref im2, V.ref c2] : List V) 0 = some (.ref im2) := atI_nat (j := 0) rfl
    have hbt1 : atI ([V.ref im1, V.ref c1] : List V) 1 = some (.ref c1) := atI_nat (j := 1) rfl
    have hbt2 : atI ([V.ref im2, V.ref c2] : List V) 1 = some (.ref c2) := atI_nat (j := 1) rfl
    refine ⟨_, rfl, _, _, _, _, rfl, rfl, SqT.of ho1, hat1, _, rfl, ⟨_, SqT.of him1⟩, fun D2 hD2 => ?_⟩
    refine lc_map walk_tup hD2 (nD (behind S ns x y).1) (by rw [nD_len, nV_len]; unfold behind; rw [List.length_map]) (by rw [nV_len, sizeLine_eq]; omega) (noL_n _) (fun H' e => SqT.of (e _ _ him1)) ?_ ?_
    · intro i xv H2 H2' d Post hi e2 hy hd kk
      obtain ⟨rfl, hx⟩ := hy
      obtain ⟨s, hs, rfl⟩ := nV_get hx
      have hsS := hin s (List.mem_of_getElem? hs)
      have hlt : S.idxOf s < y.1.length := by rw [ly]; exact List.idxOf_lt_length_of_mem hsS
      have hya : y.1[S.idxOf s]? = some (y.1.getD (S.idxOf s) 0) := by rw [List.getD_eq_getElem?_getD, List.getElem?_eq_getElem hlt]; rfl
      refine ⟨rfl, _, rfl, _, _, _, _, rfl, rfl, SqT.of (e2 _ _ ho2), hat2, _, rfl, .inl ⟨rfl, _, SqL.of (e2 _ _ ha)⟩, _, rfl, a, S.map (fun n : Nat => (n : Int)), s, rfl, rfl, SqL.of (by rw [← nV_int]; exact e2 _ _ ha), List.mem_map_of_mem hsS, _, _, _, .int (y.1.getD (S.idxOf s) 0 : Nat), rfl, rfl, SqT.of (e2 _ _ him2), by rw [idx_cast]; exact atI_nat (nV_at hya), kk _ _ Ex.rfl' ?_⟩
      obtain ⟨n, hn, rfl⟩ := nD_at hd
      unfold behind at hn
      rw [List.getElem?_map, hs] at hn
      cases hn
      exact .int _
    · intro acc H2 e2 h2 r2'
      refine tnil (tuple_sqR (b := true) h2 r2' fun v3 H3 e3 r3 => ?_)
      obtain ⟨la, rfl, hla⟩ := r_i (ns := (behind S ns x y).1) r3
      have e13 := e2.tr e3
      refine ⟨_, rfl, _, rfl, _, _, _, _, rfl, rfl, SqT.of (e13 _ _ ho1), hbt1, _, rfl, _, _, _, _, rfl, rfl, SqT.of (e13 _ _ ho2), hbt2, _, rfl, true, c1, c2, b, _, _, _, ns.length, rfl, e13 _ _ hc1, e13 _ _ hc2, e13 _ _ hb, by rw [nV_len, lx2], by rw [nV_len, ly2], by rw [nV_len], fun D3 hD3 => ?_⟩
      refine lc_map walk_zip3 hD3 (nD (z3 x.2 y.2 ns)) (by rw [nD_len, Mx.z3_len lx2 ly2 rfl]) (by rw [sizeLine_eq]; omega) (noL_n _) (fun H' e => ⟨e _ _ (e13 _ _ hc1), e _ _ (e13 _ _ hc2), e _ _ (e13 _ _ hb)⟩) ?_ ?_
      · intro i xv H4 H4' d Post hi e4 hy hd kk
        obtain ⟨T1, w1, w2, w3, rfl, hT1, rfl, a1, a2, a3⟩ := hy
        obtain ⟨n1, hn1, rfl⟩ := nV_get a1
        obtain ⟨n2, hn2, rfl⟩ := nV_get a2
        obtain ⟨n3, hn3, rfl⟩ := nV_get a3
        have pos : 0 < n3 := by
          rcases Nat.eq_zero_or_pos n3 with z | z
          · exact absurd (by rw [← z]; exact List.mem_of_getElem? hn3) h0
          · exact z
        have eT := Ex.new (o := .tup [V.int (n1 : Nat), .int (n2 : Nat), .int (n3 : Nat)]) hT1
        refine ⟨T1, _, rfl, SqT.of upd_same, rfl, _, _, rfl, _, _, rfl, _, _, rfl, rfl, rfl, ?_⟩
        refine ⟨_, rfl, _, rfl, _, _, rfl, rfl, .inl ⟨_, rfl, _, rfl, _, _, rfl, rfl, (by omega : (0 : Int) < (n3 : Nat)), kk _ _ eT ?_⟩⟩
        obtain ⟨n, hn, rfl⟩ := nD_at hd
        rw [Mx.z3_at hn1 hn2 hn3] at hn
        cases hn
        have : ((n1 : Int) + (n2 : Nat)) % (n3 : Nat) = (((n1 + n2) % n3 : Nat) : Int) := by rw [Int.natCast_emod]; rfl
        show R _ (.int (((n1 : Int) + (n2 : Nat)) % (n3 : Nat))) _
        rw [this]
        exact .int _
      · intro acc2 H4 e4 h4 r4
        refine tnil (tuple_sqR (b := true) h4 r4 fun v5 H5 e5 r5 => ?_)
        obtain ⟨lb, rfl, hlb⟩ := r_i (ns := z3 x.2 y.2 ns) r5
        refine tnil ⟨by show 2 ≤ sizeLine; decide, fun pr hpr => q _ _ (e13.tr ((e4.tr e5).tr (Ex.new hpr))) (r_d_mk upd_same ?_ ?_)⟩
        · exact (Ex.new hpr) _ _ (e5 _ _ (e4 _ _ hla))
        · exact (Ex.new hpr) _ _ hlb
end
end Onew
end
section
set_option maxRecDepth 100000
set_option maxHeartbeats 4000000
namespace Onew
open PySem PySem.Spec PyProof.Rows L2 G
open Mx (Tab im Rch rl rowF forgF doneOn Fm nextD nextP behind z3 TbOk Perm1)
theorem nextD_len {ts : Tab} {ns : List Nat} {x : Doing} : (nextD ts ns x).length = ts.length := by unfold nextD; rw [List.length_map, List.length_range]
theorem ins_le {α : Type} [DecidableEq α] {W : List α} {y : α} : (Mx.ins W y).length ≤ W.length + 1 := by
  unfold Mx.ins
  split
  · omega
  · rw [List.length_append]; exact Nat.le_refl _
section
variable {P : Program} {w : World} {K : PySem.W.Frag} {mg : Str → Option Value} {base : Heap}
/-- the two as they are laid: the waiting list, then the dict -/
theorem bfs_start {α : Type} {key : α → NestedKey} {H H1 : Hp} {x : V} {y : α} {D L : Addr} (e1 : Ex H H1) (r1 : R H1 x (key y).data) (hL : H1 L = none) (hD : (upd H1 L (.lst [x])) D = none) {u : HO} (dm : DM P w (upd (upd (upd H1 L (.lst [x])) D (ND P w D [])) D u) D [(key y, .bl true)]) :
    Bfs P w key H (upd (upd (upd H1 L (.lst [x])) D (ND P w D [])) D u) D L [y] ∧ Ex H1 (upd (upd (upd H1 L (.lst [x])) D (ND P w D [])) D u) := by
  have nLD : L ≠ D := fun z => by rw [← z, upd_same] at hD; cases hD
  have hD1 : H1 D = none := by rw [upd_ne nLD.symm] at hD; exact hD
  have e2 : Ex H1 (upd (upd (upd H1 L (.lst [x])) D (ND P w D [])) D u) := ((Ex.new hL).tr (Ex.new hD)).mut hD1
  exact ⟨⟨e1.tr e2, e1.back hD1, e1.back hL, dm, [x], by rw [upd_ne nLD, upd_ne nLD, upd_same], .cons (r1.ex e2) .nil⟩, e2⟩
def spDoL (P : Program) (w : World) : Sp := fun vs H Q _ => ∃ (p r : Addr) (ts : Tab) (ns : List Nat) (f : Nat), vs = [.ref p, .int (f : Nat), .ref r] ∧ R H (.ref p) (lD ts) ∧ Mx.Ok ts ∧ f < Mx.mst ts ∧ R H (.ref r) (.list (nD ns)) ∧ ns.length = ts.length ∧ 0 ∉ ns ∧
  ∀ D H', Ex H H' → DM P w H' D (kvK kD (doings ts ns f 3000)) → Q (.ref D) H'
abbrev sDoL : Stmt := top 55
theorem scDoL : FnScope ["_law_tables_here", "_law_first", "_law_rounds", "_law_waiting", "_law_found", "_law_at", "_law_deed", "_law_after"] ["_law_tables_here", "_law_first", "_law_rounds"] (defScope sDoL) := ⟨rfl, rfl, rfl, by decide +kernel, rfl, by decide +kernel, by decide +kernel⟩
theorem ok_dol {f : Addr} {fd : FuncData} (F : Fun K "_law_doings" "_law_doings" sDoL f fd) (T : Txt K mg) (D__law_nothing : Def P w K mg base 2 "_law_nothing" ["_law_tables_here", "_law_first"] spNoL)
    (D__law_on : Def P w K mg base 1 "_law_on" ["_law_tables_here", "_law_rounds", "_law_doing", "_law_deed"] spOn) : FnOk P w K mg base (L2.CX P w) 3 f fd ["_law_tables_here", "_law_first", "_law_rounds"] (spDoL P w) := by
  refine F.okX scDoL (fun vs H Q E h => ?_) (fun cdv A outer s H vs Q E hr h => ?_)
  · obtain ⟨p, r, ts, ns, f, rfl, _⟩ := h
    rfl
  · obtain ⟨p, r, ts, ns, f, rfl, rp, ok, hf, rr, hl, h0, q⟩ := h
    have nd := scDoL.nd
    refine ⟨_, (pss_cons (ps_set (i := 3) nd rfl (Or.inl rfl) (pe_lst (pa_cons (pcall D__law_nothing hr (by decide) (pa_cons (pv 0) (pa_cons (pv 1) pa_nil))) pa_nil)))
      (pss_cons (ps_set (i := 4) nd rfl (Or.inl rfl) (pe_disp1N (hu64 hr) (pe_ix ix_list (pv 3) pe_int (fun _ _ => rfl)) pe_bl))
      (pss_cons (ps_for (passes_of rfl) rfl (pi_range1 (by rfl) (T.no "range" (by decide)) (pa_cons pe_int pa_nil)) (pg_name (i := 5) nd rfl (Or.inl rfl)) (pss_cons (ps_if (pt_cmpR op_eq (pv 5) (pe_callB call_len_seq (by rfl) (T.no "len" (by decide)) boot_len (pa_cons (pv 3) pa_nil)) (nomark _)) (pss_one ps_break) pss_nil)
      (pss_one (ps_for (passes_of rfl) rfl (pi_range1 (by rfl) (T.no "range" (by decide)) (pa_cons (pe_callB call_len_seq (by rfl) (T.no "len" (by decide)) boot_len (pa_cons (pv 0) pa_nil)) pa_nil)) (pg_name (i := 6) nd rfl (Or.inl rfl)) (pss_cons (ps_set (i := 7) nd rfl (Or.inl rfl) (pcall D__law_on hr (by decide) (pa_cons (pv 0) (pa_cons (pv 2) (pa_cons (pe_ix ix_list (pv 3) (pv 5) (fun _ _ => rfl)) (pa_cons (pv 6) pa_nil))))))
      (pss_one (ps_if (pt_cmpR (op_notInN (hu64 hr)) (pv 7) (pv 4) (by rfl)) (pss_cons (ps_asg pe_bl (pg_sub (pv 4) (pv 7) (set_N (hu64 hr))))
      (pss_one (ps_expr (pe_bm PySem.F.plainAttrs_list PySem.F.slot_list_append PySem.F.type_list_append mt_append (pv 3) (pa_cons (pv 7) pa_nil))))) pss_nil)))))))
      (pss_one (ps_ret (pv 4)))))), ?_⟩
    obtain ⟨rows, hrows, lrows, _⟩ := rows_at rp
    have l4 := ok.l4
    refine ⟨_, rfl, _, rfl, p, ts, f, rfl, rp, ok, hf, fun v1 H1 e1 r1 => tnil ⟨by show 1 ≤ sizeLine; decide, fun L hL => ?_⟩⟩
    intro D hD
    obtain ⟨b1, i1, c1, rfl, hb1, hi1, hc1⟩ := r_d r1
    have nLD : L ≠ D := fun z => by rw [← z, upd_same] at hD; cases hD
    refine ⟨_, rfl, L, _, _, _, rfl, rfl, SqL.of (by rw [upd_ne nLD, upd_same]), atI_nat (j := 0) rfl, upd_same, b1, kD (nothing ts f), rfl, by rw [kD_data]; exact r1.ex ((Ex.new hL).tr (Ex.new hD)), by rw [kD_depth]; decide, fun u hdm => ?_⟩
    have B0 := (bfs_start (key := kD) (y := nothing ts f) e1 (by rw [kD_data]; exact r1) hL hD hdm).1
    generalize hH4 : upd (upd (upd H1 L (.lst [V.ref b1])) D (ND P w D [])) D u = H4 at B0
    refine ⟨3000, rfl, by decide, by decide, ?_⟩
    refine for_it walk_range (fun i σ H' => ∃ (W : List Doing) (x5 x6 x7 : Option V), σ = [some (.ref p), some (.int (f : Nat)), some (.ref r), some (.ref L), some (.ref D), x5, x6, x7] ∧ Bfs P w kD H H' D L W ∧ i ≤ W.length ∧ W.length ≤ 1 + 4 * i ∧
      Mx.run (nextD ts ns) (3000 - i) W i = doings ts ns f 3000 ∧ ∀ y ∈ W, Fm ts ns y) ?_ (fun _ _ _ _ _ => trivial) ?_ ?_
    · exact ⟨[nothing ts f], _, _, _, rfl, B0, by simp, by simp, rfl, fun y hy => by rw [List.mem_singleton.mp hy]; exact fm_nothing ok hf⟩
    · rintro at_ xv σ H2 H2' hat ⟨W, x5, x6, x7, rfl, B, hle, hlen, hrun, hfm⟩ ⟨rfl, hx0⟩
      have hat' : at_ < 3000 := hat
      have hx1 : xv = .int (at_ : Nat) := by rw [hx0]; simp
      subst hx1
      obtain ⟨vs, hLv, rv⟩ := B.ls
      have vl : vs.length = W.length := by rw [rv.length, List.length_map]
      refine ⟨_, rfl, _, rfl, _, _, rfl, .inl (SqL.of hLv), rfl, _, rfl, ?_⟩
      rw [vl]
      by_cases hlt : at_ = W.length
      · refine itT (eqT (by omega)) ?_
        have hW : W = doings ts ns f 3000 := by rw [← hrun, Mx.run_stop (by omega)]
        exact ⟨_, rfl, q D _ B.ex (by rw [← hW]; exact B.dm)⟩
      · refine itF (eqF (by omega)) ?_
        have hx : W[at_]? = some W[at_] := List.getElem?_eq_getElem (by omega)
        generalize hxe : W[at_] = x at hx
        have hstep : Mx.run (nextD ts ns) (3000 - (at_ + 1)) (Mx.expand (nextD ts ns) W x) (at_ + 1) = doings ts ns f 3000 := by
          rw [← hrun, show 3000 - at_ = (3000 - (at_ + 1)) + 1 by omega, Mx.run_step hx]
        have fmx := hfm x (List.mem_of_getElem? hx)
        refine ⟨_, rfl, _, _, rfl, .inl (SqL.of (B.ex _ _ hrows)), _, rfl, by omega, by omega, ?_⟩
        rw [lrows, show ((ts.length : Nat) : Int).toNat = ts.length by omega]
        refine for_it walk_range (fun j σ H' => ∃ (W' : List Doing) (x6 x7 : Option V), σ = [some (.ref p), some (.int (f : Nat)), some (.ref r), some (.ref L), some (.ref D), some (.int (at_ : Nat)), x6, x7] ∧ Bfs P w kD H H' D L W' ∧ W'[at_]? = some x ∧ W'.length ≤ W.length + j ∧ W.length ≤ W'.length ∧
          ((nextD ts ns x).drop j).foldl Mx.ins W' = Mx.expand (nextD ts ns) W x ∧ ∀ y ∈ W', Fm ts ns y) ⟨W, _, _, rfl, B, hx, by omega, by omega, rfl, hfm⟩ (fun _ _ _ _ _ => trivial) ?_ ?_
        · rintro j xv σ H3 H3' hj ⟨W', x6', x7', rfl, B3, hx3, hlen3, hge3, hfold, hfm3⟩ ⟨rfl, hxv⟩
          have hj' : j < ts.length := hj
          have hy : (nextD ts ns x)[j]? = some (doneOn ts ns x j) := by
            unfold nextD
            rw [List.getElem?_map, List.getElem?_range hj']; rfl
          have hxv' : xv = .int (j : Nat) := by rw [hxv]; simp
          subst hxv'
          obtain ⟨vs3, hLv3, rv3⟩ := B3.ls
          obtain ⟨v8, hv8, r8⟩ := RAll.at rv3 (i := at_) (d := (kD x).data) (by rw [List.getElem?_map, hx3]; rfl)
          rw [kD_data] at r8
          refine ⟨_, rfl, _, rfl, _, rfl, _, rfl, L, _, _, _, rfl, rfl, SqL.of hLv3, atI_nat hv8, _, rfl, p, r, v8, x, ts, ns, j, rfl, rp.ex B3.ex, ok, rr.ex B3.ex, hl, h0, r8, fmx, hj', fun v9 H4 e4 r9 => ?_⟩
          have B4 := B3.up e4
          obtain ⟨a9, i9, c9, rfl, ha9, hi9, hc9⟩ := r_d r9
          rw [drop_cons hy, List.foldl_cons] at hfold
          refine ⟨_, rfl, _, rfl, a9, D, kD (doneOn ts ns x j), _, rfl, rfl, by rw [kD_data]; exact r9, by rw [kD_depth]; decide, B4.dm.dn, _, rfl, ?_⟩
          rw [valV_kvK (fun _ _ => kD_inj)]
          by_cases hin : doneOn ts ns x j ∈ W'
          · rw [if_pos hin]
            refine itF rfl ⟨W', _, _, rfl, B4, hx3, by omega, hge3, ?_, hfm3⟩
            rw [← hfold, Mx.ins, if_pos hin]
          · rw [if_neg hin]
            rw [Mx.ins, if_neg hin] at hfold
            refine itT rfl ?_
            refine ⟨_, rfl, _, rfl, a9, D, kD (doneOn ts ns x j), _, rfl, rfl, by rw [kD_data]; exact r9, by rw [kD_depth]; decide, B4.dm, by rw [B4.len, sizeLine_eq]; omega, fun u hdm => ?_⟩
            obtain ⟨vs5, h5, l5, B5, t5⟩ := B4.put (fun _ _ => kD_inj) hin (v := .ref a9) (by rw [kD_data]; exact r9) hdm
            refine ⟨_, rfl, .inl ⟨rfl, _, SqL.of h5⟩, _, rfl, L, _, _, rfl, rfl, h5, by rw [l5, sizeLine_eq]; omega, ?_⟩
            refine ⟨W' ++ [doneOn ts ns x j], _, _, rfl, B5, ?_, by rw [List.length_append, List.length_singleton]; omega, by rw [List.length_append]; omega, hfold, fun y hy2 => ?_⟩
            · rw [List.getElem?_append_left (by omega), hx3]
            · rcases List.mem_append.mp hy2 with h | h
              · exact hfm3 y h
              · rw [List.mem_singleton.mp h]; exact fmx.done ok hj'
        · rintro σ H3 ⟨W', x6', x7', rfl, B3, hx3, hlen3, hge3, hfold, hfm3⟩
          rw [List.drop_of_length_le (by rw [nextD_len]; omega)] at hfold
          have hW : W' = Mx.expand (nextD ts ns) W x := hfold
          exact ⟨W', _, _, _, rfl, B3, by omega, by omega, by rw [hW]; exact hstep, hfm3⟩
    · rintro σ H2 ⟨W, x5, x6, x7, rfl, B, hle, hlen, hrun, hfm⟩
      have hW : W = doings ts ns f 3000 := hrun
      exact ⟨_, rfl, q D _ B.ex (by rw [← hW]; exact B.dm)⟩
end
end Onew
end
section
set_option maxRecDepth 100000
set_option maxHeartbeats 4000000
namespace Onew
open PySem PySem.Spec PyProof.Rows L2 G
open Mx (Tab im Rch rl rowF forgF doneOn Fm nextD nextP behind z3 TbOk Perm1)
theorem fd_behind {S ns : List Nat} {x y : Doing} (hx : Fd S ns x) (hy : Fd S ns y) : Fd S ns (behind S ns x y) := by
  refine ⟨?_, fun z hz => ?_, Mx.z3_len hx.c hy.c rfl⟩
  · unfold behind; rw [List.length_map]; exact hx.l
  · unfold behind at hz
    obtain ⟨s, hs, rfl⟩ := List.mem_map.mp hz
    have hlt : S.idxOf s < y.1.length := by rw [hy.l]; exact List.idxOf_lt_length_of_mem (hx.s s hs)
    rw [List.getD_eq_getElem?_getD, List.getElem?_eq_getElem hlt]
    exact hy.s _ (List.getElem_mem hlt)
theorem fd_nothing {ts : Tab} {ns : List Nat} {f : Nat} (hl : ns.length = ts.length) : Fd (rl ts f) ns (nothing ts f) := ⟨rfl, fun _ h => h, by unfold nothing; rw [List.length_replicate, hl]⟩
/-- the group that some doings make -/
abbrev madeL (S ns : List Nat) (some_ : List Doing) (b : Doing) (N : Nat) : List Doing := Mx.run (fun x => some_.map (behind S ns x)) N [b] 0
section
variable {P : Program} {w : World} {K : PySem.W.Frag} {mg : Str → Option Value} {base : Heap}
def spMaL (P : Program) (w : World) : Sp := fun vs H Q _ => ∃ (p r o : Addr) (ts : Tab) (ns : List Nat) (f : Nat) (sm : List Doing), vs = [.ref p, .int (f : Nat), .ref r, .ref o] ∧ R H (.ref p) (lD ts) ∧ Mx.Ok ts ∧ f < Mx.mst ts ∧ R H (.ref r) (.list (nD ns)) ∧ ns.length = ts.length ∧ 0 ∉ ns ∧ R H (.ref o) (.list (sm.map dD)) ∧ sm.length ≤ 4 ∧ (∀ x ∈ sm, Fd (rl ts f) ns x) ∧
  ∀ D H', Ex H H' → DM P w H' D (kvK kD (madeL (rl ts f) ns sm (nothing ts f) 3000)) → Q (.ref D) H'
abbrev sMaL : Stmt := top 57
theorem scMaL : FnScope ["_law_tables_here", "_law_first", "_law_rounds", "_law_some", "_law_states", "_law_waiting", "_law_found", "_law_at", "_law_one", "_law_after"] ["_law_tables_here", "_law_first", "_law_rounds", "_law_some"] (defScope sMaL) := ⟨rfl, rfl, rfl, by decide +kernel, rfl, by decide +kernel, by decide +kernel⟩
theorem ok_mal {f : Addr} {fd : FuncData} (F : Fun K "_law_made" "_law_made" sMaL f fd) (T : Txt K mg) (D__law_nothing : Def P w K mg base 2 "_law_nothing" ["_law_tables_here", "_law_first"] spNoL)
    (D__law_reached : Def P w K mg base 1 "_law_reached" ["_law_tables_here", "_law_first"] (spReL K)) (D__law_behind : Def P w K mg base 1 "_law_behind" ["_law_states", "_law_rounds", "_law_one", "_law_other"] (spBeh K)) : FnOk P w K mg base (L2.CX P w) 3 f fd ["_law_tables_here", "_law_first", "_law_rounds", "_law_some"] (spMaL P w) := by
  refine F.okX scMaL (fun vs H Q E h => ?_) (fun cdv A outer s H vs Q E hr h => ?_)
  · obtain ⟨p, r, o, ts, ns, f, sm, rfl, _⟩ := h
    rfl
  · obtain ⟨p, r, o, ts, ns, f, sm, rfl, rp, ok, hf, rr, hl, h0, ro, lsm, hsm, q⟩ := h
    have nd := scMaL.nd
    refine ⟨_, (pss_cons (ps_par (i := 4) (j := 5) rfl nd rfl rfl (by decide) rfl rfl (pa_cons (pcall D__law_reached hr (by decide) (pa_cons (pv 0) (pa_cons (pv 1) pa_nil))) (pa_cons (pe_lst (pa_cons (pcall D__law_nothing hr (by decide) (pa_cons (pv 0) (pa_cons (pv 1) pa_nil))) pa_nil)) pa_nil)) (by rfl))
      (pss_cons (ps_set (i := 6) nd rfl (Or.inl rfl) (pe_disp1N (hu64 hr) (pe_ix ix_list (pv 5) pe_int (fun _ _ => rfl)) pe_bl))
      (pss_cons (ps_for (passes_of rfl) rfl (pi_range1 (by rfl) (T.no "range" (by decide)) (pa_cons pe_int pa_nil)) (pg_name (i := 7) nd rfl (Or.inl rfl)) (pss_cons (ps_if (pt_cmpR op_eq (pv 7) (pe_callB call_len_seq (by rfl) (T.no "len" (by decide)) boot_len (pa_cons (pv 5) pa_nil)) (nomark _)) (pss_one ps_break) pss_nil)
      (pss_one (ps_for (passes_of rfl) rfl (pi_list (pv 3)) (pg_name (i := 8) nd rfl (Or.inl rfl)) (pss_cons (ps_set (i := 9) nd rfl (Or.inl rfl) (pcall D__law_behind hr (by decide) (pa_cons (pv 4) (pa_cons (pv 2) (pa_cons (pe_ix ix_list (pv 5) (pv 7) (fun _ _ => rfl)) (pa_cons (pv 8) pa_nil))))))
      (pss_one (ps_if (pt_cmpR (op_notInN (hu64 hr)) (pv 9) (pv 6) (by rfl)) (pss_cons (ps_asg pe_bl (pg_sub (pv 6) (pv 9) (set_N (hu64 hr))))
      (pss_one (ps_expr (pe_bm PySem.F.plainAttrs_list PySem.F.slot_list_append PySem.F.type_list_append mt_append (pv 5) (pa_cons (pv 9) pa_nil))))) pss_nil)))))))
      (pss_one (ps_ret (pv 6)))))), ?_⟩
    obtain ⟨o', us, eo, ho, ra⟩ := r_l ro
    cases eo
    obtain ⟨r', er, hrn⟩ := r_ln rr
    cases er
    have lus : us.length = sm.length := by rw [ra.length, List.length_map]
    have m8 := ok.m8
    have lrl := Mx.rl_len ok hf
    refine ⟨_, rfl, _, rfl, p, ts, f, rfl, rp, ok, hf, fun S H0 e0 hS => ?_⟩
    refine ⟨_, rfl, _, rfl, p, ts, f, rfl, rp.ex e0, ok, hf, fun v1 H1 e1' r1 => tnil ⟨by show 1 ≤ sizeLine; decide, fun L hL => ⟨_, _, rfl, ?_⟩⟩⟩
    have e1 := e0.tr e1'
    intro D hD
    obtain ⟨b1, i1, c1, rfl, hb1, hi1, hc1⟩ := r_d r1
    have nLD : L ≠ D := fun z => by rw [← z, upd_same] at hD; cases hD
    refine ⟨_, rfl, L, _, _, _, rfl, rfl, SqL.of (by rw [upd_ne nLD, upd_same]), atI_nat (j := 0) rfl, upd_same, b1, kD (nothing ts f), rfl, by rw [kD_data]; exact r1.ex ((Ex.new hL).tr (Ex.new hD)), by rw [kD_depth]; decide, fun u hdm => ?_⟩
    have BB := bfs_start (key := kD) (y := nothing ts f) e1 (by rw [kD_data]; exact r1) hL hD hdm
    have B0 := BB.1
    have eS := e1'.tr BB.2
    have hS1 := e1' _ _ hS
    have hD1 : H1 D = none := by rw [upd_ne nLD.symm] at hD; exact hD
    have nSL : S ≠ L := fun z => by rw [z, hL] at hS1; cases hS1
    have nSD : S ≠ D := fun z => by rw [z, hD1] at hS1; cases hS1
    have lns : ns.length ≤ 4 := by have := ok.l4; omega
    refine ⟨3000, rfl, by decide, by decide, ?_⟩
    refine for_it walk_range (fun i σ H' => ∃ (W : List Doing) (x7 x8 x9 : Option V), σ = [some (.ref p), some (.int (f : Nat)), some (.ref r), some (.ref o), some (.ref S), some (.ref L), some (.ref D), x7, x8, x9] ∧ Bfs P w kD H H' D L W ∧ H' S = some (.lst (nV (rl ts f))) ∧ i ≤ W.length ∧ W.length ≤ 1 + 4 * i ∧
      Mx.run (fun x => sm.map (behind (rl ts f) ns x)) (3000 - i) W i = madeL (rl ts f) ns sm (nothing ts f) 3000 ∧ ∀ y ∈ W, Fd (rl ts f) ns y) ?_ (fun _ _ _ _ _ => trivial) ?_ ?_
    · exact ⟨[nothing ts f], _, _, _, rfl, B0, eS _ _ hS, by simp, by simp, rfl, fun y hy => by rw [List.mem_singleton.mp hy]; exact fd_nothing hl⟩
    · rintro at_ xv σ H2 H2' hat ⟨W, x7, x8, x9, rfl, B, hS2, hle, hlen, hrun, hfm⟩ ⟨rfl, hx0⟩
      have hat' : at_ < 3000 := hat
      have hx1 : xv = .int (at_ : Nat) := by rw [hx0]; simp
      subst hx1
      obtain ⟨vs, hLv, rv⟩ := B.ls
      have vl : vs.length = W.length := by rw [rv.length, List.length_map]
      refine ⟨_, rfl, _, rfl, _, _, rfl, .inl (SqL.of hLv), rfl, _, rfl, ?_⟩
      rw [vl]
      by_cases hlt : at_ = W.length
      · refine itT (eqT (by omega)) ?_
        have hW : W = madeL (rl ts f) ns sm (nothing ts f) 3000 := by rw [← hrun, Mx.run_stop (by omega)]
        exact ⟨_, rfl, q D _ B.ex (by rw [← hW]; exact B.dm)⟩
      · refine itF (eqF (by omega)) ?_
        have hx : W[at_]? = some W[at_] := List.getElem?_eq_getElem (by omega)
        generalize hxe : W[at_] = x at hx
        have hstep : Mx.run (fun x => sm.map (behind (rl ts f) ns x)) (3000 - (at_ + 1)) (Mx.expand (fun x => sm.map (behind (rl ts f) ns x)) W x) (at_ + 1) = madeL (rl ts f) ns sm (nothing ts f) 3000 := by
          rw [← hrun, show 3000 - at_ = (3000 - (at_ + 1)) + 1 by omega, Mx.run_step hx]
        have fmx := hfm x (List.mem_of_getElem? hx)
        have lx1 : x.1.length ≤ 8 := by rw [fmx.l]; omega
        refine ⟨_, rfl, o, rfl, ⟨us, SqL.of (B.ex _ _ ho)⟩, ?_⟩
        refine for_it walk_list (fun j σ H' => ∃ (W' : List Doing) (x8 x9 : Option V), σ = [some (.ref p), some (.int (f : Nat)), some (.ref r), some (.ref o), some (.ref S), some (.ref L), some (.ref D), some (.int (at_ : Nat)), x8, x9] ∧ Bfs P w kD H H' D L W' ∧ H' S = some (.lst (nV (rl ts f))) ∧ W'[at_]? = some x ∧ W'.length ≤ W.length + j ∧ W.length ≤ W'.length ∧
          ((sm.map (behind (rl ts f) ns x)).drop j).foldl Mx.ins W' = Mx.expand (fun x => sm.map (behind (rl ts f) ns x)) W x ∧ ∀ y ∈ W', Fd (rl ts f) ns y) ⟨W, _, _, rfl, B, hS2, hx, by omega, by omega, rfl, hfm⟩ (fun _ σ H' _ h => by obtain ⟨_, _, _, _, e, _⟩ := h; exact SqL.of (e.ex _ _ ho)) ?_ ?_
        · rintro j xv σ H3 H3' hj ⟨W', x8', x9', rfl, B3, hS3, hx3, hlen3, hge3, hfold, hfm3⟩ ⟨rfl, hxv⟩
          have hj' : j < sm.length := by omega
          obtain ⟨sj, hsj⟩ : ∃ c, sm[j]? = some c := ⟨_, List.getElem?_eq_getElem hj'⟩
          obtain ⟨uj, huj, ruj⟩ := RAll.at ra (i := j) (d := dD sj) (by rw [List.getElem?_map, hsj]; rfl)
          rw [hxv] at huj
          cases huj
          have hy : (sm.map (behind (rl ts f) ns x))[j]? = some (behind (rl ts f) ns x sj) := by rw [List.getElem?_map, hsj]; rfl
          have fsj := hsm sj (List.mem_of_getElem? hsj)
          obtain ⟨vs3, hLv3, rv3⟩ := B3.ls
          obtain ⟨v8, hv8, r8⟩ := RAll.at rv3 (i := at_) (d := (kD x).data) (by rw [List.getElem?_map, hx3]; rfl)
          rw [kD_data] at r8
          refine ⟨_, rfl, _, rfl, _, rfl, _, rfl, L, _, _, _, rfl, rfl, SqL.of hLv3, atI_nat hv8, _, rfl, S, r, v8, xv, rl ts f, ns, x, sj, rfl, hS3, B3.ex _ _ hrn, r8, ruj.ex B3.ex, lx1, fmx.s, fsj.l, fmx.c, fsj.c, lns, h0, fun v9 H4 e4 r9 => ?_⟩
          have B4 := B3.up e4
          obtain ⟨a9, i9, c9, rfl, ha9, hi9, hc9⟩ := r_d r9
          rw [drop_cons hy, List.foldl_cons] at hfold
          refine ⟨_, rfl, _, rfl, a9, D, kD (behind (rl ts f) ns x sj), _, rfl, rfl, by rw [kD_data]; exact r9, by rw [kD_depth]; decide, B4.dm.dn, _, rfl, ?_⟩
          rw [valV_kvK (fun _ _ => kD_inj)]
          by_cases hin : behind (rl ts f) ns x sj ∈ W'
          · rw [if_pos hin]
            refine itF rfl ⟨W', _, _, rfl, B4, e4 _ _ hS3, hx3, by omega, hge3, ?_, hfm3⟩
            rw [← hfold, Mx.ins, if_pos hin]
          · rw [if_neg hin]
            rw [Mx.ins, if_neg hin] at hfold
            refine itT rfl ?_
            refine ⟨_, rfl, _, rfl, a9, D, kD (behind (rl ts f) ns x sj), _, rfl, rfl, by rw [kD_data]; exact r9, by rw [kD_depth]; decide, B4.dm, by rw [B4.len, sizeLine_eq]; omega, fun u hdm => ?_⟩
            obtain ⟨vs5, h5, l5, B5, t5⟩ := B4.put (fun _ _ => kD_inj) hin (v := .ref a9) (by rw [kD_data]; exact r9) hdm
            refine ⟨_, rfl, .inl ⟨rfl, _, SqL.of h5⟩, _, rfl, L, _, _, rfl, rfl, h5, by rw [l5, sizeLine_eq]; omega, ?_⟩
            refine ⟨W' ++ [behind (rl ts f) ns x sj], _, _, rfl, B5, ?_, ?_, by rw [List.length_append, List.length_singleton]; omega, by rw [List.length_append]; omega, hfold, fun y hy2 => ?_⟩
            · rw [upd_ne nSL, upd_ne nSD]; exact e4 _ _ hS3
            · rw [List.getElem?_append_left (by omega), hx3]
            · rcases List.mem_append.mp hy2 with h | h
              · exact hfm3 y h
              · rw [List.mem_singleton.mp h]; exact fd_behind fmx fsj
        · rintro σ H3 ⟨W', x8', x9', rfl, B3, hS3, hx3, hlen3, hge3, hfold, hfm3⟩
          rw [List.drop_of_length_le (by rw [List.length_map]; omega)] at hfold
          have hW : W' = Mx.expand (fun x => sm.map (behind (rl ts f) ns x)) W x := hfold
          exact ⟨W', _, _, _, rfl, B3, hS3, by omega, by omega, by rw [hW]; exact hstep, hfm3⟩
    · rintro σ H2 ⟨W, x7, x8, x9, rfl, B, hS2, hle, hlen, hrun, hfm⟩
      have hW : W = madeL (rl ts f) ns sm (nothing ts f) 3000 := hrun
      exact ⟨_, rfl, q D _ B.ex (by rw [← hW]; exact B.dm)⟩
end
end Onew
end
section
set_option maxRecDepth 100000
set_option maxHeartbeats 4000000
namespace Onew
open PySem PySem.Spec PyProof.Rows L2 G
open Mx (Tab im Rch rl rowF forgF doneOn Fm nextD nextP behind z3 TbOk Perm1)
theorem nextP_len {ts ws : Tab} {ns : List Nat} {x : Doing × Nat} : (nextP ts ns ws x).length = ts.length := by unfold nextP; rw [List.length_map, List.length_range]
section
variable {P : Program} {w : World} {K : PySem.W.Frag} {mg : Str → Option Value} {base : Heap}
def spWaL : Sp := fun vs H Q _ => ∃ (p r o : Addr) (ts ws : Tab) (ns : List Nat) (f st : Nat), vs = [.ref p, .int (f : Nat), .ref r, .ref o, .int (st : Nat)] ∧ R H (.ref o) (lD ws) ∧ Mx.Ok ws ∧ ws.length = ts.length ∧ st < Mx.mst ws ∧ R H (.ref p) (lD ts) ∧ Mx.Ok ts ∧ f < Mx.mst ts ∧ R H (.ref r) (.list (nD ns)) ∧ ns.length = ts.length ∧ 0 ∉ ns ∧
  ∀ L H', Ex H H' → R H' (.ref L) (.list ((pairs ts ns ws f st 6000).map pD)) → Q (.ref L) H'
abbrev sWaL : Stmt := top 62
theorem scWaL : FnScope ["_law_tables_here", "_law_first", "_law_rounds", "_law_witness", "_law_start", "_law_waiting", "_law_found", "_law_at", "_law_doing", "_law_standing", "_law_deed", "_law_after"] ["_law_tables_here", "_law_first", "_law_rounds", "_law_witness", "_law_start"] (defScope sWaL) := ⟨rfl, rfl, rfl, by decide +kernel, rfl, by decide +kernel, by decide +kernel⟩
theorem ok_wal {f : Addr} {fd : FuncData} (F : Fun K "_law_walked" "_law_walked" sWaL f fd) (T : Txt K mg) (D__law_nothing : Def P w K mg base 2 "_law_nothing" ["_law_tables_here", "_law_first"] spNoL)
    (D__law_on : Def P w K mg base 1 "_law_on" ["_law_tables_here", "_law_rounds", "_law_doing", "_law_deed"] spOn) : FnOk P w K mg base (L2.CX P w) 3 f fd ["_law_tables_here", "_law_first", "_law_rounds", "_law_witness", "_law_start"] (spWaL) := by
  refine F.okX scWaL (fun vs H Q E h => ?_) (fun cdv A outer s H vs Q E hr h => ?_)
  · obtain ⟨p, r, o, ts, ws, ns, f, st, rfl, _⟩ := h
    rfl
  · obtain ⟨p, r, o, ts, ws, ns, f, st, rfl, ro, okw, lw, hst, rp, ok, hf, rr, hl, h0, q⟩ := h
    have nd := scWaL.nd
    refine ⟨_, (pss_cons (ps_set (i := 5) nd rfl (Or.inl rfl) (pe_lst (pa_cons (pe_tup (pa_cons (pcall D__law_nothing hr (by decide) (pa_cons (pv 0) (pa_cons (pv 1) pa_nil))) (pa_cons (pv 4) pa_nil))) pa_nil)))
      (pss_cons (ps_set (i := 6) nd rfl (Or.inl rfl) (pe_disp1N (hu64 hr) (pe_ix ix_list (pv 5) pe_int (fun _ _ => rfl)) pe_bl))
      (pss_cons (ps_for (passes_of rfl) rfl (pi_range1 (by rfl) (T.no "range" (by decide)) (pa_cons pe_int pa_nil)) (pg_name (i := 7) nd rfl (Or.inl rfl)) (pss_cons (ps_if (pt_cmpR op_eq (pv 7) (pe_callB call_len_seq (by rfl) (T.no "len" (by decide)) boot_len (pa_cons (pv 5) pa_nil)) (nomark _)) (pss_one ps_break) pss_nil)
      (pss_cons (ps_asg (pe_ix ix_list (pv 5) (pv 7) (fun _ _ => rfl)) (pg_tup rfl (pgs_cons (pg_name (i := 8) nd rfl (Or.inl rfl)) (pgs_cons (pg_name (i := 9) nd rfl (Or.inl rfl)) pgs_nil))))
      (pss_one (ps_for (passes_of rfl) rfl (pi_range1 (by rfl) (T.no "range" (by decide)) (pa_cons (pe_callB call_len_seq (by rfl) (T.no "len" (by decide)) boot_len (pa_cons (pv 0) pa_nil)) pa_nil)) (pg_name (i := 10) nd rfl (Or.inl rfl)) (pss_cons (ps_set (i := 11) nd rfl (Or.inl rfl) (pe_tup (pa_cons (pcall D__law_on hr (by decide) (pa_cons (pv 0) (pa_cons (pv 2) (pa_cons (pv 8) (pa_cons (pv 10) pa_nil))))) (pa_cons (pe_ix ix_tup (pe_ix ix_list (pv 3) (pv 10) (fun _ _ => rfl)) (pv 9) (fun _ _ => rfl)) pa_nil))))
      (pss_one (ps_if (pt_cmpR (op_notInN (hu64 hr)) (pv 11) (pv 6) (by rfl)) (pss_cons (ps_asg pe_bl (pg_sub (pv 6) (pv 11) (set_N (hu64 hr))))
      (pss_one (ps_expr (pe_bm PySem.F.plainAttrs_list PySem.F.slot_list_append PySem.F.type_list_append mt_append (pv 5) (pa_cons (pv 11) pa_nil))))) pss_nil))))))))
      (pss_one (ps_ret (pv 5)))))), ?_⟩
    obtain ⟨rows, hrows, lrows, _⟩ := rows_at rp
    obtain ⟨wrows, hwrows, lwrows, atw⟩ := rows_at ro
    have l4 := ok.l4
    refine ⟨_, rfl, _, rfl, p, ts, f, rfl, rp, ok, hf, fun v1 H1' e1' r1' => ?_⟩
    refine ⟨_, rfl, tnil ⟨by show 2 ≤ sizeLine; decide, fun b1 hb1' => ?_⟩⟩
    have e1 := e1'.tr (Ex.new (o := .tup [v1, .int (st : Nat)]) hb1')
    have r1 : R (upd H1' b1 (.tup [v1, .int (st : Nat)])) (.ref b1) (pD (nothing ts f, st)) := r_p_mk upd_same (r1'.ex (Ex.new hb1'))
    generalize hH1 : upd H1' b1 (.tup [v1, .int (st : Nat)]) = H1 at e1 r1
    refine tnil ⟨by show 1 ≤ sizeLine; decide, fun L hL => ?_⟩
    intro D hD
    have nLD : L ≠ D := fun z => by rw [← z, upd_same] at hD; cases hD
    refine ⟨_, rfl, L, _, _, _, rfl, rfl, SqL.of (by rw [upd_ne nLD, upd_same]), atI_nat (j := 0) rfl, upd_same, b1, kP (nothing ts f, st), rfl, by rw [kP_data]; exact r1.ex ((Ex.new hL).tr (Ex.new hD)), by rw [kP_depth]; decide, fun u hdm => ?_⟩
    have B0 := (bfs_start (key := kP) (y := (nothing ts f, st)) e1 (by rw [kP_data]; exact r1) hL hD hdm).1
    refine ⟨6000, rfl, by decide, by decide, ?_⟩
    refine for_it walk_range (fun i σ H' => ∃ (W : List (Doing × Nat)) (x7 x8 x9 x10 x11 : Option V), σ = [some (.ref p), some (.int (f : Nat)), some (.ref r), some (.ref o), some (.int (st : Nat)), some (.ref L), some (.ref D), x7, x8, x9, x10, x11] ∧ Bfs P w kP H H' D L W ∧ i ≤ W.length ∧ W.length ≤ 1 + 4 * i ∧
      Mx.run (nextP ts ns ws) (6000 - i) W i = pairs ts ns ws f st 6000 ∧ ∀ y ∈ W, Fp ts ns ws y) ?_ (fun _ _ _ _ _ => trivial) ?_ ?_
    · exact ⟨[(nothing ts f, st)], _, _, _, _, _, rfl, B0, by simp, by simp, rfl, fun y hy => by rw [List.mem_singleton.mp hy]; exact ⟨fm_nothing ok hf, hst⟩⟩
    · rintro at_ xv σ H2 H2' hat ⟨W, x7, x8, x9, x10, x11, rfl, B, hle, hlen, hrun, hfm⟩ ⟨rfl, hx0⟩
      have hat' : at_ < 6000 := hat
      have hx1 : xv = .int (at_ : Nat) := by rw [hx0]; simp
      subst hx1
      obtain ⟨vs, hLv, rv⟩ := B.ls
      have rvp : RAll H2' vs (W.map pD) := by
        have e : (W.map fun y => (kP y).data) = W.map pD := List.map_congr_left fun x _ => kP_data x
        rw [← e]; exact rv
      have vl : vs.length = W.length := by rw [rv.length, List.length_map]
      refine ⟨_, rfl, _, rfl, _, _, rfl, .inl (SqL.of hLv), rfl, _, rfl, ?_⟩
      rw [vl]
      by_cases hlt : at_ = W.length
      · refine itT (eqT (by omega)) ?_
        have hW : W = pairs ts ns ws f st 6000 := by rw [← hrun, Mx.run_stop (by omega)]
        exact ⟨_, rfl, q L _ B.ex (by rw [← hW]; exact .lst hLv rvp)⟩
      · refine itF (eqF (by omega)) ?_
        have hx : W[at_]? = some W[at_] := List.getElem?_eq_getElem (by omega)
        generalize hxe : W[at_] = x at hx
        have hstep : Mx.run (nextP ts ns ws) (6000 - (at_ + 1)) (Mx.expand (nextP ts ns ws) W x) (at_ + 1) = pairs ts ns ws f st 6000 := by
          rw [← hrun, show 6000 - at_ = (6000 - (at_ + 1)) + 1 by omega, Mx.run_step hx]
        have fmx := hfm x (List.mem_of_getElem? hx)
        obtain ⟨v8', hv8, r8'⟩ := RAll.at rvp (i := at_) (d := pD x) (by rw [List.getElem?_map, hx]; rfl)
        obtain ⟨a8, v8, rfl, h8, r8⟩ := r_p r8'
        refine ⟨_, rfl, _, rfl, L, _, _, _, rfl, rfl, SqL.of hLv, atI_nat hv8, a8, _, rfl, SqT.of h8, rfl, _, _, rfl, _, _, rfl, rfl, ?_⟩
        refine ⟨_, rfl, _, _, rfl, .inl (SqL.of (B.ex _ _ hrows)), _, rfl, by omega, by omega, ?_⟩
        rw [lrows, show ((ts.length : Nat) : Int).toNat = ts.length by omega]
        refine for_it walk_range (fun j σ H' => ∃ (W' : List (Doing × Nat)) (x10 x11 : Option V), σ = [some (.ref p), some (.int (f : Nat)), some (.ref r), some (.ref o), some (.int (st : Nat)), some (.ref L), some (.ref D), some (.int (at_ : Nat)), some v8, some (.int (x.2 : Nat)), x10, x11] ∧ Bfs P w kP H H' D L W' ∧ R H' v8 (dD x.1) ∧ W'.length ≤ W.length + j ∧ W.length ≤ W'.length ∧
          ((nextP ts ns ws x).drop j).foldl Mx.ins W' = Mx.expand (nextP ts ns ws) W x ∧ ∀ y ∈ W', Fp ts ns ws y) ⟨W, _, _, rfl, B, r8, by omega, by omega, rfl, hfm⟩ (fun _ _ _ _ _ => trivial) ?_ ?_
        · rintro j xv σ H3 H3' hj ⟨W', x10', x11', rfl, B3, r3, hlen3, hge3, hfold, hfm3⟩ ⟨rfl, hxv⟩
          have hj' : j < ts.length := hj
          have hy : (nextP ts ns ws x)[j]? = some (doneOn ts ns x.1 j, im (ws.getD j []) x.2) := by
            unfold nextP
            rw [List.getElem?_map, List.getElem?_range hj']; rfl
          have hxv' : xv = .int (j : Nat) := by rw [hxv]; simp
          subst hxv'
          obtain ⟨roww, hroww⟩ : ∃ row, ws[j]? = some row := ⟨ws[j]'(by omega), List.getElem?_eq_getElem (by omega)⟩
          obtain ⟨aw, haw, hraw⟩ := atw j roww hroww
          have imw := okw.im (List.mem_of_getElem? hroww) fmx.2
          have erw : ws.getD j [] = roww := getD_some hroww
          refine ⟨_, rfl, _, rfl, _, rfl, _, rfl, p, r, v8, x.1, ts, ns, j, rfl, rp.ex B3.ex, ok, rr.ex B3.ex, hl, h0, r3, fmx.1, hj', fun v9 H4' e4' r9' => ?_⟩
          refine ⟨_, rfl, _, rfl, o, _, _, _, rfl, rfl, SqL.of (e4' _ _ (B3.ex _ _ hwrows)), atI_nat haw, _, rfl, _, _, _, _, rfl, rfl, SqT.of (e4' _ _ (B3.ex _ _ hraw)), atI_nat (nV_at imw.1), tnil ⟨by show 2 ≤ sizeLine; decide, fun a9 ha9' => ?_⟩⟩
          have e4 : Ex H3' (upd H4' a9 (.tup [v9, .int (im roww x.2 : Nat)])) := e4'.tr (Ex.new ha9')
          have r9 : R (upd H4' a9 (.tup [v9, .int (im roww x.2 : Nat)])) (.ref a9) (pD (doneOn ts ns x.1 j, im (ws.getD j []) x.2)) := by
            refine r_p_mk ?_ (r9'.ex (Ex.new ha9'))
            rw [erw]; exact upd_same
          generalize hH4 : upd H4' a9 (.tup [v9, .int (im roww x.2 : Nat)]) = H4 at e4 r9
          have B4 := B3.up e4
          rw [drop_cons hy, List.foldl_cons] at hfold
          refine ⟨_, rfl, _, rfl, a9, D, kP (doneOn ts ns x.1 j, im (ws.getD j []) x.2), _, rfl, rfl, by rw [kP_data]; exact r9, by rw [kP_depth]; decide, B4.dm.dn, _, rfl, ?_⟩
          rw [valV_kvK (fun _ _ => kP_inj)]
          by_cases hin : (doneOn ts ns x.1 j, im (ws.getD j []) x.2) ∈ W'
          · rw [if_pos hin]
            refine itF rfl ⟨W', _, _, rfl, B4, r3.ex e4, by omega, hge3, ?_, hfm3⟩
            rw [← hfold, Mx.ins, if_pos hin]
          · rw [if_neg hin]
            rw [Mx.ins, if_neg hin] at hfold
            refine itT rfl ?_
            refine ⟨_, rfl, _, rfl, a9, D, kP (doneOn ts ns x.1 j, im (ws.getD j []) x.2), _, rfl, rfl, by rw [kP_data]; exact r9, by rw [kP_depth]; decide, B4.dm, by rw [B4.len, sizeLine_eq]; omega, fun u hdm => ?_⟩
            obtain ⟨vs5, h5, l5, B5, t5⟩ := B4.put (fun _ _ => kP_inj) hin (v := .ref a9) (by rw [kP_data]; exact r9) hdm
            refine ⟨_, rfl, .inl ⟨rfl, _, SqL.of h5⟩, _, rfl, L, _, _, rfl, rfl, h5, by rw [l5, sizeLine_eq]; omega, ?_⟩
            refine ⟨W' ++ [(doneOn ts ns x.1 j, im (ws.getD j []) x.2)], _, _, rfl, B5, R.tx (e4.t.tr t5) _ _ (noL_d _) r3, by rw [List.length_append, List.length_singleton]; omega, by rw [List.length_append]; omega, hfold, fun y hy2 => ?_⟩
            rcases List.mem_append.mp hy2 with h | h
            · exact hfm3 y h
            · rw [List.mem_singleton.mp h]; exact ⟨fmx.1.done ok hj', by rw [erw]; exact imw.2⟩
        · rintro σ H3 ⟨W', x10', x11', rfl, B3, r3, hlen3, hge3, hfold, hfm3⟩
          rw [List.drop_of_length_le (by rw [nextP_len]; omega)] at hfold
          have hW : W' = Mx.expand (nextP ts ns ws) W x := hfold
          exact ⟨W', _, _, _, _, _, rfl, B3, by omega, by omega, by rw [hW]; exact hstep, hfm3⟩
    · rintro σ H2 ⟨W, x7, x8, x9, x10, x11, rfl, B, hle, hlen, hrun, hfm⟩
      have hW : W = pairs ts ns ws f st 6000 := hrun
      obtain ⟨vs, hLv, rv⟩ := B.ls
      have e : (W.map fun y => (kP y).data) = W.map pD := List.map_congr_left fun x _ => kP_data x
      exact ⟨_, rfl, q L _ B.ex (by rw [← hW]; exact .lst hLv (by rw [← e]; exact rv))⟩
end
end Onew
end
section
set_option maxRecDepth 100000
set_option maxHeartbeats 4000000
namespace Onew
open PySem PySem.Spec PyProof.Rows L2 G
open Mx (Tab im Rch rl rowF forgF doneOn Fm nextD nextP behind z3 TbOk Perm1)
/-- counts and standing, as a key -/
def kC (c : List Nat × Nat) : NestedKey := .tup [iK c.1, .num c.2]
def cD (c : List Nat × Nat) : PyData := .tuple [iD c.1, .int (c.2 : Nat)]
theorem kC_data (c : List Nat × Nat) : (kC c).data = cD c := by
  unfold kC; rw [NestedKey.data, NestedKey.datas, NestedKey.datas, NestedKey.datas, iK_data, NestedKey.data]; rfl
theorem kC_depth (c : List Nat × Nat) : (kC c).depth = 2 := by
  unfold kC; rw [NestedKey.depth, NestedKey.depthAll, NestedKey.depthAll, NestedKey.depthAll, iK_depth, NestedKey.depth]; rfl
theorem kC_inj {a b : List Nat × Nat} (h : kC a = kC b) : a = b := by
  have e := List.cons.inj (NestedKey.tup.inj h)
  have e3 := NestedKey.num.inj (List.cons.inj e.2).1
  exact Prod.ext (iK_inj e.1) (by omega)
/-- where the doing leads f -/
def stOf (S : List Nat) (f : Nat) (z : Doing × Nat) : Nat := z.1.1.getD (S.idxOf f) 0
def keyOf (z : Doing × Nat) : List Nat × Nat := (z.1.2, z.2)
/-- the told ones: of each key the first -/
def tellK (S : List Nat) (f : Nat) (T : List ((List Nat × Nat) × Nat)) : List (NestedKey × V) := T.map fun c => (kC c.1, .int (c.2 : Nat))
theorem valV_tell {S : List Nat} {f : Nat} {c : List Nat × Nat} : ∀ T : List ((List Nat × Nat) × Nat), valV (tellK S f T) (kC c) = (T.lookup c).map fun n : Nat => V.int (n : Nat)
  | [] => rfl
  | (a, n) :: T => by
    show valV ((kC a, V.int (n : Nat)) :: tellK S f T) _ = _
    by_cases h : a = c
    · subst h
      rw [valV_pos rfl]
      simp [List.lookup]
    · rw [valV_neg (fun e => h (kC_inj e)), valV_tell T]
      have e : (c == a) = false := beq_eq_false_iff_ne.mpr fun e => h e.symm
      rw [List.lookup, e]
theorem lookup_snoc {k : List Nat × Nat} {v : Nat} : ∀ (T : List ((List Nat × Nat) × Nat)) (c : List Nat × Nat), (T ++ [(k, v)]).lookup c = (match T.lookup c with | some n => some n | none => if c = k then some v else none)
  | [], c => by
    by_cases e : c = k
    · subst e; simp [List.lookup]
    · have : (c == k) = false := beq_eq_false_iff_ne.mpr e
      simp [List.lookup, this, e]
  | (a, n) :: T, c => by
    rw [List.cons_append, List.lookup, List.lookup]
    cases c == a with
    | true => rfl
    | false => exact lookup_snoc T c
/-- told without a clash -/
def tellsP (S : List Nat) (f : Nat) (W : List (Doing × Nat)) : Prop := ∀ x ∈ W, ∀ y ∈ W, keyOf x = keyOf y → stOf S f x = stOf S f y
/-- {}, to hold nested keys -/
def tNewN (P : Program) (w : World) : TE := fun _ H Q => ∀ p, H p = none → DM P w (upd H p (ND P w p [])) p [] → Q (.ref p) (upd H p (ND P w p []))
theorem pe_dnewN {X : Cx} {pos : Pos} : PE X (.Dict [] [] pos) (tNewN X.prog X.w) := by
  refine ⟨fun pins s σ H Q I h => wpAny_Dict_empty ?_⟩
  have lo : (s.heap.objs.size == sysModules) = false := beq_eq_false_iff_ne.mpr (Nat.ne_of_gt I.big)
  refine ⟨.ref s.heap.objs.size, upd H s.heap.objs.size (ND X.prog X.w s.heap.objs.size []), I.laid (t' := s.toks) (fun _ _ q => Heap.get?_push_of_some _ q) (Nat.le_refl _) ?_, rfl, h _ (I.hok.fresh (Nat.le_refl _)) ⟨lo, Nat.zero_le _, List.nodup_nil, [], upd_same, .nil⟩⟩
  exact nd_mk ⟨_, #[], 0, Heap.get?_push_size _ rfl, ⟨rfl, rfl, rfl⟩, rfl, rfl⟩
/-- d.setdefault(k, v), d a dict of nested keys -/
def tSetd (P : Program) (w : World) (to : TE) (t : TA) : TE := fun σ H Q => to σ H fun x H1 => ∃ (d : Addr) (kvs : List (NestedKey × V)), x = .ref d ∧ DM P w H1 d kvs ∧ t σ H1 fun ys H2 => rSetdN P w (.ref d) ys H2 Q
theorem pe_setd {X : Cx} {o e : Expr} {es : List Expr} {apos cpos : Pos} {to : TE} {t : TA} (hu : X.A.units + 64 < cLine) (ho : PE X o to) (ha : PA X (e :: es) t)
    (hbase : attributeBase o "setdefault" X.env (eval o X.env) = eval o X.env := by rfl)
    (hfew : ((backTo cpos (starEach (e :: es) X.env)).all (fun x => !x.1) && (backToKw cpos (keywordEach [] X.env)).all (fun x => x.1.isSome)
      && decide ((e :: es).length + ([] : List Keyword).length + (if ([] : List Keyword).isEmpty then 0 else 1) < 30)) = true := by rfl)
    (hline : (apos.endLine == cpos.line) = true := by rfl) (hs : starEach (e :: es) X.env = (false, eval e X.env) :: starEach es X.env := by rfl) (hplain : (backTo cpos (starEach es X.env)).any (·.1) = false := by rfl) :
    PE X (.Call (.Attribute o "setdefault" apos) (e :: es) [] cpos) (tSetd X.prog X.w to t) := by
  refine ⟨fun pins s σ H Q I h => ?_⟩
  refine wpAny_Call_method_late hbase hfew hline rfl (thn (ho.run pins s σ H _ I h) fun v s1 ⟨x, H1, I1, r1, d, kvs, ex, dm, q1⟩ => ?_)
  subst ex
  obtain rfl : v = Value.ref d := r1
  obtain ⟨xs, hx⟩ := dm_some dm
  obtain ⟨ob, es', ep, g, ed, _⟩ := nd_ok (I1.hok d _ hx)
  refine ⟨"dict", "dict.setdefault", PySem.F.plainAttrs_dict, PySem.F.slot_dict_setdefault, PySem.F.type_dict_setdefault, ⟨ob, g, ed.1⟩, fun b eb => by cases eb; exact ⟨ob, g, ed.2.1⟩, ?_⟩
  have hA := ha.run cpos pins s1 σ H1 _ I1 q1
  rw [hs] at hA ⊢
  refine Calls.callWith_builtin (by show (false || (backTo cpos (starEach es X.env)).any (·.1)) = false; rw [hplain] <;> rfl) (Calls.evalArgs_plain ?_)
  exact thn hA fun ws s2 ⟨vs, H2, I2, r2, q2⟩ => mt_setdN hu pins s2 σ H2 (.ref d) vs (.ref d) ws Q I2 rfl r2 q2
section
variable {P : Program} {w : World} {K : PySem.W.Frag} {mg : Str → Option Value} {base : Heap}
def spTel (K : PySem.W.Frag) : Sp := fun vs H Q _ => ∃ (a b : Addr) (S ns : List Nat) (f : Nat) (W : List (Doing × Nat)), vs = [.ref a, .int (f : Nat), .ref b] ∧ H a = some (.lst (nV S)) ∧ f ∈ S ∧ R H (.ref b) (.list (W.map pD)) ∧ W.length ≤ 100000 ∧ (∀ z ∈ W, z.1.1.length = S.length) ∧
  (tellsP S f W → ∀ H', Ex H H' → Q (.bl true) H') ∧ (¬ tellsP S f W → ∀ H', Ex H H' → Q (.bl false) H')
abbrev sTel : Stmt := top 63
theorem scTel : FnScope ["_law_states", "_law_first", "_law_walked_here", "_law_told", "_law_doing", "_law_standing", "_law_state"] ["_law_states", "_law_first", "_law_walked_here"] (defScope sTel) := ⟨rfl, rfl, rfl, by decide +kernel, rfl, by decide +kernel, by decide +kernel⟩
theorem ok_tel {f : Addr} {fd : FuncData} (F : Fun K "_law_tells" "_law_tells" sTel f fd) (T : Txt K mg) : FnOk P w K mg base (L2.CX P w) 1 f fd ["_law_states", "_law_first", "_law_walked_here"] (spTel K) := by
  refine F.okX scTel (fun vs H Q E h => ?_) (fun cdv A outer s H vs Q E hr h => ?_)
  · obtain ⟨a, b, S, ns, f, W, rfl, _⟩ := h
    rfl
  · obtain ⟨a, b, S, ns, f, W, rfl, ha, hf, rb, lW, hW, qt, qf⟩ := h
    have nd := scTel.nd
    refine ⟨_, (pss_cons (ps_set (i := 3) nd rfl (Or.inl rfl) pe_dnewN)
      (pss_cons (ps_for (passes_of rfl) rfl (pi_list (pv 2)) (pg_tup rfl (pgs_cons (pg_name (i := 4) nd rfl (Or.inl rfl)) (pgs_cons (pg_name (i := 5) nd rfl (Or.inl rfl)) pgs_nil))) (pss_cons (ps_set (i := 6) nd rfl (Or.inl rfl) (pe_ix ix_tup (pe_ix ix_tup (pv 4) pe_int (fun _ _ => rfl)) (pe_bm PySem.F.plainAttrs_list PySem.F.slot_list_index PySem.F.type_list_index mt_lidx (pv 0) (pa_cons (pv 1) pa_nil)) (fun _ _ => rfl)))
      (pss_one (ps_if (pt_cmpR op_ne (pe_setd (hu64 hr) (pv 3) (pa_cons (pe_tup (pa_cons (pe_ix ix_tup (pv 4) pe_int (fun _ _ => rfl)) (pa_cons (pv 5) pa_nil))) (pa_cons (pv 6) pa_nil))) (pv 6) (nomark _)) (pss_one (ps_ret pe_bl)) pss_nil))))
      (pss_one (ps_ret pe_bl)))), ?_⟩
    intro D hD dm0
    obtain ⟨b', vs, eb, hb, rv⟩ := r_l rb
    cases eb
    have lv : vs.length = W.length := by rw [rv.length, List.length_map]
    have e0 := Ex.new (o := ND P w D []) hD
    have hlt : S.idxOf f < S.length := List.idxOf_lt_length_of_mem hf
    refine ⟨_, rfl, b, rfl, ⟨vs, SqL.of (e0 _ _ hb)⟩, ?_⟩
    refine for_it walk_list (fun i σ H' => ∃ (T : List ((List Nat × Nat) × Nat)) (x4 x5 x6 : Option V), σ = [some (.ref a), some (.int (f : Nat)), some (.ref b), some (.ref D), x4, x5, x6] ∧ Ex H H' ∧ DM P w H' D (tellK S f T) ∧ T.length ≤ i ∧ (∀ z ∈ W.take i, T.lookup (keyOf z) = some (stOf S f z)) ∧ (∀ c n, T.lookup c = some n → ∃ z ∈ W.take i, keyOf z = c ∧ stOf S f z = n)) ?_ (fun _ σ H' _ h => by obtain ⟨_, _, _, _, _, e, _⟩ := h; exact SqL.of (e _ _ hb)) ?_ ?_
    · exact ⟨[], _, _, _, rfl, e0, dm0, Nat.le_refl _, fun z hz => absurd hz (by simp), fun c n h => by cases h⟩
    · rintro i xv σ H2 H2' hi ⟨T', x4, x5, x6, rfl, e2, dm2, lT, h1, h2⟩ ⟨rfl, hxv⟩
      obtain ⟨z, hz⟩ : ∃ z, W[i]? = some z := ⟨_, List.getElem?_eq_getElem (by omega)⟩
      obtain ⟨v, hv, r⟩ := RAll.at rv (i := i) (d := pD z) (by rw [List.getElem?_map, hz]; rfl)
      rw [hxv] at hv
      cases hv
      obtain ⟨pz, dz, rfl, hp, rd⟩ := r_p r
      obtain ⟨o1, im1, c1, rfl, ho, hi1, hc1⟩ := r_d rd
      have hzW := List.mem_of_getElem? hz
      have hst : z.1.1[S.idxOf f]? = some (stOf S f z) := by unfold stOf; rw [List.getD_eq_getElem?_getD, List.getElem?_eq_getElem (by rw [hW z hzW]; exact hlt)]; rfl
      refine ⟨pz, _, rfl, SqT.of (e2 _ _ hp), rfl, _, _, rfl, _, _, rfl, rfl, ?_⟩
      refine ⟨_, rfl, _, _, _, _, rfl, rfl, SqT.of (e2 _ _ ho), atI_nat (j := 0) rfl, _, rfl, .inl ⟨rfl, _, SqL.of (e2 _ _ ha)⟩, _, rfl, a, S.map (fun n : Nat => (n : Int)), f, rfl, rfl, SqL.of (by rw [← nV_int]; exact e2 _ _ ha), List.mem_map_of_mem hf, _, _, _, .int (stOf S f z : Nat), rfl, rfl, SqT.of (e2 _ _ hi1), by rw [idx_cast]; exact atI_nat (nV_at hst), ?_⟩
      refine ⟨_, rfl, D, _, rfl, dm2, ?_⟩
      refine ⟨_, rfl, _, _, _, _, rfl, rfl, SqT.of (e2 _ _ ho), atI_nat (j := 1) rfl, _, rfl, tnil ⟨by show 2 ≤ sizeLine; decide, fun t ht => ?_⟩⟩
      have e3 := e2.tr (Ex.new (o := .tup [V.ref c1, .int (z.2 : Nat)]) ht)
      have dm3 : DM P w (upd H2' t (.tup [V.ref c1, .int (z.2 : Nat)])) D (tellK S f T') := dm2.ex (Ex.new ht)
      have rk : R (upd H2' t (.tup [V.ref c1, .int (z.2 : Nat)])) (.ref t) (kC (keyOf z)).data := by
        rw [kC_data]
        exact .tup upd_same (.cons (r_i_mk (e3 _ _ hc1)) (.cons (.int _) .nil))
      generalize hH3 : upd H2' t (.tup [V.ref c1, .int (z.2 : Nat)]) = H3 at e3 dm3 rk
      refine ⟨_, rfl, tnil ⟨t, D, _, kC (keyOf z), _, rfl, rfl, rk, by rw [kC_depth]; decide, dm3, ?_, fun v hv => ?_, fun hv u dm4 => ?_⟩⟩
      · have : (tellK S f T').length = T'.length := List.length_map _
        rw [this, sizeLine_eq]; omega
      · rw [valV_tell] at hv
        cases hl : T'.lookup (keyOf z) with
        | none => rw [hl] at hv; cases hv
        | some n =>
          rw [hl] at hv
          obtain rfl : V.int (n : Nat) = v := Option.some.inj hv
          refine ⟨_, rfl, rfl, _, rfl, ?_⟩
          by_cases hn : n = stOf S f z
          · refine itF (by rw [eqT (by omega)]; rfl) ⟨T', _, _, _, rfl, e3, dm3, by omega, fun y hy => ?_, fun c m hm => ?_⟩
            · rw [takeNx hz] at hy
              rcases List.mem_append.mp hy with h | h
              · exact h1 y h
              · rw [List.mem_singleton.mp h, hl, hn]
            · obtain ⟨y, hy, k⟩ := h2 c m hm
              exact ⟨y, by rw [takeNx hz]; exact List.mem_append_left _ hy, k⟩
          · refine itT (by rw [eqF (by omega)]; rfl) (qf (fun tp => ?_) _ e3)
            obtain ⟨y, hy, k1, k2⟩ := h2 _ n hl
            exact hn (by rw [← k2]; exact tp y (List.mem_of_mem_take hy) z hzW k1)
      · rw [valV_tell] at hv
        cases hl : T'.lookup (keyOf z) with
        | some n => rw [hl] at hv; cases hv
        | none =>
          refine ⟨_, rfl, rfl, _, rfl, itF (by rw [eqT rfl]; rfl) ?_⟩
          have pk : putK (tellK S f T') (kC (keyOf z)) (.int (stOf S f z : Nat)) = tellK S f (T' ++ [(keyOf z, stOf S f z)]) := by
            rw [putK_new _ (by rw [valV_tell, hl]; rfl)]
            unfold tellK; rw [List.map_append]; rfl
          have lk : ∀ c, (T' ++ [(keyOf z, stOf S f z)]).lookup c = (match T'.lookup c with | some n => some n | none => if c = keyOf z then some (stOf S f z) else none) := fun c => lookup_snoc T' c
          refine ⟨T' ++ [(keyOf z, stOf S f z)], _, _, _, rfl, e3.mut hD, by rw [← pk]; exact dm4, by rw [List.length_append]; show _ + 1 ≤ _; omega, fun y hy => ?_, fun c m hm => ?_⟩
          · rw [lk]
            rw [takeNx hz] at hy
            rcases List.mem_append.mp hy with h | h
            · rw [h1 y h]
            · rw [List.mem_singleton.mp h, hl]; simp
          · rw [lk] at hm
            rw [takeNx hz]
            cases hc : T'.lookup c with
            | some n =>
              rw [hc] at hm
              cases hm
              obtain ⟨y, hy, k⟩ := h2 c m hc
              exact ⟨y, List.mem_append_left _ hy, k⟩
            | none =>
              rw [hc] at hm
              by_cases e : c = keyOf z
              · have hm' : (if c = keyOf z then some (stOf S f z) else none) = some m := hm
                rw [if_pos e] at hm'
                cases hm'
                exact ⟨z, List.mem_append_right _ (.head _), e.symm, rfl⟩
              · have hm' : (if c = keyOf z then some (stOf S f z) else none) = some m := hm
                rw [if_neg e] at hm'
                cases hm'
    · rintro σ H2 ⟨T', x4, x5, x6, rfl, e2, dm2, lT, h1, h2⟩
      rw [lv, List.take_length] at h1
      refine qt (fun x hx y hy e => ?_) _ e2
      have a1 := h1 x hx
      rw [e, h1 y hy] at a1
      exact (Option.some.inj a1).symm
end
end Onew
end
section
set_option maxRecDepth 100000
set_option maxHeartbeats 8000000
/-! sets of nested keys, of fewer than 64: len(set(xs)) -/
namespace G
open PySem PySem.Spec PyProof.Rows L2
open SetTable (bits turns)
mutual
/-- no text within -/
def noX : NestedKey → Bool
  | .none => true
  | .num _ => true
  | .text _ => false
  | .tup ks => noXs ks
def noXs : List NestedKey → Bool
  | [] => true
  | k :: ks => noX k && noXs ks
end
section
variable {P : Program} {w : World}
/-- a question that is answered by b and changes nothing -/
def Ans (P : Program) (w : World) (m : Sem Bool) (b : Bool) (s : Shared) : Prop := ∀ (A : Around) (E : Value → Shared → Prop) (Q : Bool → Shared → Prop), Q b s → wpAny (model P w) A m Q E s
theorem ans_pure {b : Bool} {s : Shared} : Ans P w (pure b) b s := fun _ _ _ h => wpAny_pure h
/-- a loop whose turns all go on -/
theorem loop_on {s : Shared} {R : Type} (f : Value → Option Bool × R → Sem (ForInStep (Option Bool × R))) (vs : List Value) (r0 : Option Bool × R) (h0 : r0.1 = none) {A : Around} {E : Value → Shared → Prop} {Q : Option Bool × R → Shared → Prop}
    (turn : ∀ v ∈ vs, ∀ r, r.1 = none → ∀ (Q' : ForInStep (Option Bool × R) → Shared → Prop), (∀ r', r'.1 = none → Q' (.yield r') s) → wpAny (model P w) A (f v r) Q' E s) (fin : ∀ r, r.1 = none → Q r s) : wpAny (model P w) A (forIn vs r0 f) Q E s := by
  refine wpAny_forIn_list _ (fun left r s' => r.1 = none ∧ s' = s ∧ ∀ v ∈ left, v ∈ vs) _ ?_ ?_ _ _ ⟨h0, rfl, fun _ h => h⟩
  · rintro v left r s' ⟨hr, rfl, hv⟩
    exact turn v (hv v (.head _)) r hr _ fun r' hr' => ⟨hr', rfl, fun y hy => hv y (.tail _ hy)⟩
  · rintro r s' ⟨hr, rfl, _⟩
    exact fin r hr
theorem hashed_tup {n : Nat} {s : Shared} {a : Addr} {o : Obj} {vs : Array Value} {m : Nat} (ho : s.heap.get? a = some o) (hc : o.cls = .type "tuple") (hd : o.data = .seq vs m) (hq : ∀ v ∈ vs.toList, Ans P w (hashByValue n v) true s) : Ans P w (hashByValue (n + 1) (.ref a)) true s := fun A E Q h => by
  have tT : s.TypeIs (.ref a) "tuple" := ⟨o, ho, hc⟩
  unfold hashByValue
  refine wpAny_bind (wpAny_specialOf tT F.slot_tuple_hash.lookup ?_)
  show wpAny _ _ (seqItems? (.ref a) >>= _) _ _ s
  refine wpAny_bind (wpAny_seqItems ho hd (wpAny_bind ?_))
  show wpAny _ _ (forIn vs _ _) _ _ s
  rw [← Array.forIn_toList]
  refine loop_on _ _ _ rfl (fun v hv r hr Q' q => wpAny_bind (hq v hv _ _ _ ?_)) fun r hr => ?_
  · simp only [Bool.not_true, Bool.false_eq_true, if_false]
    exact wpAny_pure (q _ rfl)
  · obtain ⟨r1, r2⟩ := r
    dsimp only at hr
    subst hr
    exact wpAny_pure h
theorem classless_tup {n : Nat} {s : Shared} {a : Addr} {o : Obj} {vs : Array Value} {m : Nat} (ho : s.heap.get? a = some o) (hc : o.cls = .type "tuple") (hd : o.data = .seq vs m) (hq : ∀ v ∈ vs.toList, Ans P w (ofAClassStatement n v) false s) : Ans P w (ofAClassStatement (n + 1) (.ref a)) false s := fun A E Q h => by
  have tT : s.TypeIs (.ref a) "tuple" := ⟨o, ho, hc⟩
  unfold ofAClassStatement
  refine wpAny_bind (wpAny_typeOf tT ?_)
  have e0 : (("tuple" : String) == "tuple") = true := by decide
  dsimp only
  simp only [e0, if_true, Bool.not_true, Bool.false_eq_true, if_false]
  try refine wpAny_bind (wpAny_pure ?_)
  try simp only [Bool.not_true, Bool.false_eq_true, if_false]
  show wpAny _ _ (seqItems? (.ref a) >>= _) _ _ s
  refine wpAny_bind (wpAny_seqItems ho hd ?_)
  dsimp only
  refine wpAny_bind ?_
  show wpAny _ _ (forIn vs _ _) _ _ s
  rw [← Array.forIn_toList]
  refine loop_on _ _ _ rfl (fun v hv r hr Q' q => wpAny_bind (hq v hv _ _ _ ?_)) fun r hr => ?_
  · simp only [Bool.false_eq_true, if_false]
    exact wpAny_pure (q _ rfl)
  · obtain ⟨r1, r2⟩ := r
    dsimp only at hr
    subst hr
    exact wpAny_pure h
mutual
theorem hashed_key : ∀ (k : NestedKey) (v : Value) (n : Nat) (s : Shared), NestedIs s.heap k v → noX k = true → k.depth ≤ n → Ans P w (hashByValue n v) true s
  | .none, _, n, s, x, _, _ => by cases x; cases n <;> exact ans_pure
  | .num i, _, n, s, x, _, _ => by cases x <;> cases n <;> exact ans_pure
  | .text y, _, _, _, _, e, _ => by simp [noX] at e
  | .tup ks, _, n, s, x, e, hn => by
    cases x with
    | tup hg hc hd hk =>
      simp only [NestedKey.depth] at hn
      cases n with
      | zero => omega
      | succ n => exact hashed_tup hg hc hd (hashed_keys ks _ n s hk (by simpa [noX] using e) (by omega))
theorem hashed_keys : ∀ (ks : List NestedKey) (vs : List Value) (n : Nat) (s : Shared), NestedAll s.heap ks vs → noXs ks = true → NestedKey.depthAll ks ≤ n → ∀ v ∈ vs, Ans P w (hashByValue n v) true s
  | [], _, n, s, x, _, _, v, hv => by cases x; cases hv
  | k :: ks, _, n, s, x, e, hn, v, hv => by
    cases x with
    | cons x1 x2 =>
      simp only [NestedKey.depthAll] at hn
      simp only [noXs, Bool.and_eq_true] at e
      rcases List.mem_cons.mp hv with z | hv
      · rw [z]; exact hashed_key k _ n s x1 e.1 (by omega)
      · exact hashed_keys ks _ n s x2 e.2 (by omega) v hv
end
mutual
theorem classless_key : ∀ (k : NestedKey) (v : Value) (n : Nat) (s : Shared), NestedIs s.heap k v → k.depth ≤ n → Ans P w (ofAClassStatement n v) false s
  | .none, _, n, s, x, _ => by cases x; cases n <;> exact ans_pure
  | .num i, _, n, s, x, _ => by cases x <;> cases n <;> exact ans_pure
  | .text y, _, n, s, x, _ => by cases x; cases n <;> exact ans_pure
  | .tup ks, _, n, s, x, hn => by
    cases x with
    | tup hg hc hd hk =>
      simp only [NestedKey.depth] at hn
      cases n with
      | zero => omega
      | succ n => exact classless_tup hg hc hd (classless_keys ks _ n s hk (by omega))
theorem classless_keys : ∀ (ks : List NestedKey) (vs : List Value) (n : Nat) (s : Shared), NestedAll s.heap ks vs → NestedKey.depthAll ks ≤ n → ∀ v ∈ vs, Ans P w (ofAClassStatement n v) false s
  | [], _, n, s, x, _, v, hv => by cases x; cases hv
  | k :: ks, _, n, s, x, hn, v, hv => by
    cases x with
    | cons x1 x2 =>
      simp only [NestedKey.depthAll] at hn
      rcases List.mem_cons.mp hv with z | hv
      · rw [z]; exact classless_key k _ n s x1 (by omega)
      · exact classless_keys ks _ n s x2 (by omega) v hv
end
/-- the key k stands at b -/
structure Nk (h : Heap) (k : NestedKey) (b : Addr) : Prop where
  at_ : NestedIs h k (.ref b)
  low : k.depth ≤ 8
  nox : noX k = true
theorem Nk.is {h : Heap} {k : NestedKey} {b : Addr} (x : Nk h k b) : (nestedKind P w).is h k b := ⟨x.at_, x.low⟩
theorem Nk.keep {h h' : Heap} {k : NestedKey} {b : Addr} (x : Nk h k b) (hk : ∀ c o, h.get? c = some o → h'.get? c = some o) : Nk h' k b := ⟨NestedIs.at (fun c o _ _ e _ => hk c o e) _ _ x.at_, x.low, x.nox⟩
theorem Nk.but {h h' : Heap} {k : NestedKey} {a b : Addr} {o : Obj} {es : Array (Int × Value)} {ep : Nat} {t : SetTable} (x : Nk h k b) (ho : h.get? a = some o) (hd : o.data = .set es ep t) (hs : Heap.SameBut a h h') : Nk h' k b :=
  ⟨NestedIs.at (fun c ob vs n e hc => (hs.2 c fun z => by subst z; rw [ho] at e; cases e; rw [hd] at hc; cases hc).trans e) _ _ x.at_, x.low, x.nox⟩
theorem unseen {s : Shared} {k : NestedKey} {b : Addr} (hk : Nk s.heap k b) {ys : List Value} (hy : ∀ y ∈ ys, ∃ k' c, y = .ref c ∧ Nk s.heap k' c) : Ans P w (searchCouldBeSeen (.ref b) ys) false s := fun A E Q h => by
  unfold searchCouldBeSeen
  refine wpAny_bind ?_
  refine loop_on _ _ _ rfl (fun v hv r hr Q' q => ?_) fun r hr => ?_
  · obtain ⟨k', c, rfl, hc⟩ := hy v hv
    dsimp only
    by_cases e : (b == c || (carriedByValue (.ref b) && carriedByValue (.ref c))) = true
    · exact wp_if_pos e (wpAny_pure (q _ rfl))
    · refine wp_if_neg e ?_
      refine wpAny_bind ((nestedKind P w).quiet hk.is ?_)
      simp only [Bool.not_true, Bool.false_eq_true, if_false]
      refine wpAny_bind ((nestedKind P w).quiet hc.is ?_)
      simp only [Bool.not_true, Bool.false_eq_true, if_false]
      refine wpAny_bind (classless_key _ _ 8 s hk.at_ hk.low _ _ _ ?_)
      simp only [Bool.false_eq_true, if_false]
      refine wpAny_bind (classless_key _ _ 8 s hc.at_ hc.low _ _ _ ?_)
      simp only [Bool.false_eq_true, if_false]
      exact wpAny_pure (q _ rfl)
  · obtain ⟨r1, r2⟩ := r
    dsimp only at hr
    subst hr
    exact wpAny_pure h
end
/-! ### the table -/
abbrev hsK (w : World) (L : List (Addr × NestedKey)) : List Int := L.map fun p => p.2.hash w
abbrev esK (w : World) (L : List (Addr × NestedKey)) : List (Int × Value) := L.map fun p => (p.2.hash w, Value.ref p.1)
abbrev ksK (L : List (Addr × NestedKey)) : List NestedKey := L.map (·.2)
structure SetN (w : World) (h : Heap) (a : Addr) (L : List (Addr × NestedKey)) (es : Array (Int × Value)) (ep : Nat) (t : SetTable) : Prop where
  ob : ∃ o, h.get? a = some o ∧ o.ExactSet ∧ o.data = .set es ep t
  rows : es.toList = esK w L
  tab : L2.TabOk t (hsK w L)
  nd : (ksK L).Nodup
  room : L.length * 5 < t.mask * 3
  few : L.length < 64
section
variable {w : World} {h : Heap} {a : Addr} {L : List (Addr × NestedKey)} {es : Array (Int × Value)} {ep : Nat} {t : SetTable}
theorem SetN.size (R : SetN w h a L es ep t) : es.size = L.length := by
  rw [← Array.length_toList, R.rows, List.length_map]
theorem SetN.psize (R : SetN w h a L es ep t) : t.place.size = L.length := by
  rw [R.tab.sz, List.length_map]
theorem SetN.fits (R : SetN w h a L es ep t) : t.fits es.size = true := by
  have h1 := R.psize
  have h2 := R.size
  have h3 := R.room
  simp only [SetTable.fits, SetTable.fill, R.tab.dm, Bool.and_eq_true, beq_iff_eq, decide_eq_true_eq]
  refine ⟨by omega, ?_⟩
  show t.place.size + 0 ≤ t.mask
  omega
theorem SetN.odd (R : SetN w h a L es ep t) : ¬ t.gaveWay = true := by
  unfold SetTable.gaveWay
  rw [mask_odd R.tab.mok]
  decide
theorem SetN.row (R : SetN w h a L es ep t) {i : Nat} {p : Addr × NestedKey} (e : L[i]? = some p) : es[i]? = some (p.2.hash w, Value.ref p.1) := by
  rw [← Array.getElem?_toList, R.rows, List.getElem?_map, e]; rfl
/-- a probe, from the c-th step on: the next of this hash, or the first empty slot -/
theorem SetN.probe (R : SetN w h a L es ep t) {x : Int} {K c : Nat} (hKf : K < 10 * turns t.mask) (hK : way t.mask x K ∉ t.place.toList) (hb : ∀ q, q < K → way t.mask x q ∈ t.place.toList) (hc : c ≤ K) :
    (∃ (q i : Nat) (p : Addr × NestedKey), c ≤ q ∧ q < K ∧ L[i]? = some p ∧ t.place.toList[i]? = some (way t.mask x q) ∧ p.2.hash w = x ∧ (∀ (q' i' : Nat) (p' : Addr × NestedKey), c ≤ q' → q' < q → L[i']? = some p' → t.place.toList[i']? = some (way t.mask x q') → p'.2.hash w ≠ x) ∧
      t.probe (fun i => (es[i]?.map (·.1)).getD 0) x (nth t.mask (runAt t.mask (bits x % (t.mask + 1)) (bits x)) c) = some (.candidate (way t.mask x q) i (nth t.mask (runAt t.mask (bits x % (t.mask + 1)) (bits x)) (q + 1)))) ∨
    ((∀ (q' i' : Nat) (p' : Addr × NestedKey), c ≤ q' → q' < K → L[i']? = some p' → t.place.toList[i']? = some (way t.mask x q') → p'.2.hash w ≠ x) ∧
      t.probe (fun i => (es[i]?.map (·.1)).getD 0) x (nth t.mask (runAt t.mask (bits x % (t.mask + 1)) (bits x)) c) = some (.empty (way t.mask x K) none)) := by
  have nodum : ∀ (n : Nat) (p : SetTable.Probe), p.dummy = none → (nth t.mask p n).dummy = none := fun n => by
    induction n with
    | zero => exact fun p z => z
    | succ n ih => exact fun p z => ih (adv t.mask p) (by unfold adv; split <;> exact z)
  have off : ∀ q, nth t.mask (nth t.mask (runAt t.mask (bits x % (t.mask + 1)) (bits x)) c) q = nth t.mask (runAt t.mask (bits x % (t.mask + 1)) (bits x)) (c + q) := fun q => (nth_add t.mask c _ q).symm
  have ha : ∀ (i : Nat) p, L[i]? = some p → (es[i]?.map (·.1)).getD 0 = p.2.hash w := fun i p hp => by rw [R.row hp]; rfl
  rcases go_spec t R.tab.ris R.tab.dm (fun i => (es[i]?.map (·.1)).getD 0) x (10 * turns t.mask) (K - c) _ (nodum c _ rfl) (by omega) (fun q hq => by rw [off]; exact hb (c + q) (by omega)) (by rw [off, show c + (K - c) = K by omega]; exact hK) with ⟨q, i, hq, hi, hh, hno, hpr⟩ | ⟨hno, hpr⟩
  · rw [off] at hi
    have il : i < L.length := by
      have z := (List.getElem?_eq_some_iff.mp hi).1
      rw [Array.length_toList, R.psize] at z
      exact z
    have hp : L[i]? = some L[i] := List.getElem?_eq_getElem il
    refine .inl ⟨c + q, i, L[i], by omega, by omega, hp, hi, (ha i _ hp).symm.trans hh, fun q' i' p' h1 h2 h3 h4 h5 => ?_, ?_⟩
    · exact hno (q' - c) i' (by omega) (by rw [off, show c + (q' - c) = q' by omega]; exact h4) ((ha i' p' h3).trans h5)
    · refine Eq.trans hpr ?_
      rw [off, off, Nat.add_assoc]
  · refine .inr ⟨fun q' i' p' h1 h2 h3 h4 h5 => ?_, ?_⟩
    · exact hno (q' - c) i' (by omega) (by rw [off, show c + (q' - c) = q' by omega]; exact h4) ((ha i' p' h3).trans h5)
    · refine Eq.trans hpr ?_
      rw [off, show c + (K - c) = K by omega]
end
section
variable {P : Program} {w : World} {A : Around} {E : Value → Shared → Prop} {s : Shared} {a : Addr} {L : List (Addr × NestedKey)} {es : Array (Int × Value)} {ep : Nat} {t : SetTable}
/-- the search, from the c-th step on -/
theorem seek (R : SetN w s.heap a L es ep t) (tp : ∀ p ∈ L, Nk s.heap p.2 p.1) {x : Addr} {k : NestedKey} (hx : Nk s.heap k x) (hu : A.units + 8 < cLine) {K : Nat} (hKf : K < 10 * turns t.mask)
    (hK : way t.mask (k.hash w) K ∉ t.place.toList) (hb : ∀ q, q < K → way t.mask (k.hash w) q ∈ t.place.toList) {Q : SetFound → Shared → Prop} (hin : k ∈ ksK L → Q (.there none) s) (hout : k ∉ ksK L → Q (.free (way t.mask (k.hash w) K) false) s) :
    ∀ (f c : Nat) (stand : Option SetTable.Probe), stand.getD (t.probeStart (k.hash w)) = nth t.mask (runAt t.mask (bits (k.hash w) % (t.mask + 1)) (bits (k.hash w))) c → c ≤ K → K - c < f →
      (∀ (i : Nat) p, L[i]? = some p → p.2 = k → ∃ q, c ≤ q ∧ q < K ∧ t.place.toList[i]? = some (way t.mask (k.hash w) q)) →
      wpAny (model P w) A (setSearchFrom a (.ref x) (k.hash w) true f stand) Q E s := by
  obtain ⟨o, ho, hex, hd⟩ := R.ob
  intro f
  induction f with
  | zero => exact fun c _ _ _ hf => absurd hf (Nat.not_lt_zero _)
  | succ f ih =>
    intro c stand hst hc hf hre
    rw [setSearchFrom_succ]
    refine wpAny_bind (wpAny_setState_of ho hd R.fits ?_)
    dsimp only
    refine wp_if_neg R.odd ?_
    try refine wpAny_bind (wpAny_pure ?_)
    rw [hst]
    rcases R.probe hKf hK hb hc with ⟨q, i, p, cq, qK, hp, hi, hh, hno, hpr⟩ | ⟨hno, hpr⟩
    · rw [hpr]
      dsimp only
      have hm := List.mem_of_getElem? hp
      have rest : wpAny (model P w) A (searchRest a (.ref x) (k.hash w) true f es t (way t.mask (k.hash w) q) i (nth t.mask (runAt t.mask (bits (k.hash w) % (t.mask + 1)) (bits (k.hash w))) (q + 1))) Q E s := by
        unfold searchRest
        rw [R.row hp]
        dsimp only
        refine wpAny_bind (wpAny_holding ((nestedKind P w).eqBool hu (tp p hm).is hx.is ?_))
        refine wpAny_bind (wpAny_setState_of ho hd R.fits ?_)
        dsimp only
        by_cases hk : p.2 = k
        · exact wp_if_pos (by simp [hk]) (wpAny_pure (hin (List.mem_map.mpr ⟨p, hm, hk⟩)))
        · refine wp_if_neg (by simp [hk]) ?_
          try refine wpAny_bind (wpAny_pure ?_)
          rw [sameMem]
          dsimp only
          have hs := slot_live R.tab.ris hi
          simp only [if_true, hs, R.row hp]
          refine wpAny_bind (wpAny_isSame_ref_self (wpAny_bind (wpAny_pure ?_)))
          simp only [if_true]
          refine wp_if_neg (by simp [hk]) ?_
          refine ih (q + 1) _ rfl (by omega) (by omega) fun i0 p0 h0 hk0 => ?_
          obtain ⟨c', a1, a2, a3⟩ := hre i0 p0 h0 hk0
          refine ⟨c', ?_, a2, a3⟩
          rcases Nat.lt_trichotomy c' q with z | z | z
          · exact absurd (congrArg (NestedKey.hash w) hk0) (hno c' i0 p0 a1 z h0 a3)
          · subst z
            have h1 := slot_live R.tab.ris a3
            rw [hs] at h1
            injection h1 with h1
            subst h1
            rw [hp] at h0
            cases h0
            exact absurd hk0 hk
          · omega
      by_cases hl : t.led = true
      · refine wp_if_neg (by simp [hl]) ?_
        try refine wpAny_bind (wpAny_pure ?_)
        exact rest
      · refine wp_if_pos (by simp [hl]) ?_
        refine wpAny_bind (unseen hx (fun y hy => ?_) _ _ _ ?_)
        · obtain ⟨e, he, rfl⟩ := List.mem_map.mp hy
          have he1 : e ∈ es ∧ e.1 = k.hash w := by simpa using he
          have he2 : e ∈ es.toList := by simpa using he1.1
          rw [R.rows] at he2
          obtain ⟨p2, hp2, rfl⟩ := List.mem_map.mp he2
          exact ⟨p2.2, p2.1, rfl, tp p2 hp2⟩
        · refine wp_if_neg (by decide) ?_
          try refine wpAny_bind (wpAny_pure ?_)
          exact rest
    · rw [hpr]
      dsimp only
      refine wpAny_pure (hout fun hm => ?_)
      obtain ⟨p0, h0, hk0⟩ := List.mem_map.mp hm
      obtain ⟨i0, hi0⟩ := List.getElem?_of_mem h0
      obtain ⟨c', a1, a2, a3⟩ := hre i0 p0 hi0 hk0
      exact hno c' i0 p0 a1 a2 hi0 a3 (congrArg (NestedKey.hash w) hk0)
/-- the search as adding asks for it -/
theorem seek_all (R : SetN w s.heap a L es ep t) (tp : ∀ p ∈ L, Nk s.heap p.2 p.1) {x : Addr} {k : NestedKey} (hx : Nk s.heap k x) (hu : A.units + 8 < cLine) {Q : SetFound → Shared → Prop} (hin : k ∈ ksK L → Q (.there none) s)
    (hout : ∀ K, k ∉ ksK L → way t.mask (k.hash w) K ∉ t.place.toList → (∀ q, q < K → way t.mask (k.hash w) q ∈ t.place.toList) → Q (.free (way t.mask (k.hash w) K) false) s) : wpAny (model P w) A (setSearch a (.ref x) (k.hash w) true) Q E s := by
  have h1 := R.room
  obtain ⟨K, hKf, hK, hb⟩ := R.tab.first (by rw [List.length_map]; omega) (k.hash w)
  have hbig : 10 * turns t.mask ≤ 1420 := by
    unfold turns
    rcases R.tab.mok with e | e | e <;> omega
  unfold setSearch
  refine seek R tp hx hu hKf hK hb hin (fun hn => hout K hn hK hb) 100000 0 none rfl (Nat.zero_le _) (by omega) fun i p hp hk => ?_
  have hi : (hsK w L)[i]? = some (k.hash w) := by rw [List.getElem?_map, hp, ← hk]; rfl
  have il : i < t.place.toList.length := by
    rw [Array.length_toList, R.psize]
    exact (List.getElem?_eq_some_iff.mp hp).1
  have hj := List.getElem?_eq_getElem il
  obtain ⟨c, hc, e⟩ := R.tab.before hK hi hj
  exact ⟨c, Nat.zero_le _, hc, by rw [hj, e]⟩
/-- rows in a new order -/
theorem in_order (L : List (Addr × NestedKey)) (es : Array (Int × Value)) (order : Array Nat) (hr : es.toList = esK w L) (hp : order.toList.Perm (List.range L.length)) :
    ∃ L2, (order.filterMap (es[·]?)).toList = esK w L2 ∧ L2.Perm L ∧ hsK w L2 = order.toList.map fun i => (es.map (·.1)).getD i 0 := by
  have row : ∀ i : Nat, es[i]? = (L[i]?).map fun p : Addr × NestedKey => (p.2.hash w, Value.ref p.1) := fun i => by rw [← Array.getElem?_toList, hr, List.getElem?_map]
  have all : ∀ l : List Nat, (∀ i ∈ l, i < L.length) → l.filterMap (fun i => es[i]?) = esK w (l.filterMap fun i => L[i]?) ∧ hsK w (l.filterMap fun i => L[i]?) = l.map fun i => (es.map (·.1)).getD i 0 := by
    intro l hl
    induction l with
    | nil => exact ⟨rfl, rfl⟩
    | cons i l ih =>
      obtain ⟨e1, e2⟩ := ih fun j hj => hl j (.tail _ hj)
      have hi := List.getElem?_eq_getElem (hl i (.head _))
      have h1 := row i
      rw [hi] at h1
      have h2 : (es.map (·.1)).getD i 0 = (L[i]'(hl i (.head _))).2.hash w := by
        rw [Array.getD_eq_getD_getElem?, Array.getElem?_map, h1]; rfl
      rw [List.filterMap_cons_some h1, List.filterMap_cons_some hi, e1, List.map_cons, h2]
      exact ⟨rfl, by rw [hsK, List.map_cons, ← e2]⟩
  obtain ⟨e1, e2⟩ := all order.toList fun i hi => List.mem_range.mp (hp.mem_iff.mp hi)
  refine ⟨_, by rw [Array.toList_filterMap]; exact e1, ?_, e2⟩
  have z : ∀ M : List (Addr × NestedKey), (List.range M.length).filterMap (fun i => M[i]?) = M := fun M => by
    induction M with
    | nil => rfl
    | cons x M ih =>
      rw [List.length_cons, List.range_succ_eq_map, List.filterMap_cons, List.filterMap_map]
      exact congrArg (x :: ·) ih
  have z1 := hp.filterMap (fun i => L[i]?)
  rw [z L] at z1
  exact z1
end
end G
end
section
set_option maxRecDepth 100000
set_option maxHeartbeats 8000000
namespace G
open PySem PySem.Spec PyProof.Rows L2
open SetTable (bits turns)
section
variable {P : Program} {w : World} {A : Around} {E : Value → Shared → Prop} {s : Shared} {a : Addr} {L : List (Addr × NestedKey)} {es : Array (Int × Value)} {ep : Nat} {t : SetTable}
/-- the table laid anew, larger -/
theorem relay {o : Obj} (ho : s.heap.get? a = some o) (hex : o.ExactSet) (hd : o.data = .set es ep t) (hrows : es.toList = esK w L) (hsz : t.place.size = es.size) (hdm : t.dummies = #[]) (hfl : es.size ≤ t.mask) (nd : (ksK L).Nodup) (few : L.length < 64) {wanted M : Nat}
    (hw : SetTable.sizeAbove wanted - 1 = M) (hM : MaskOk M) (hw2 : SetTable.sizeAbove wanted ≤ 128) (hn : L.length * 5 < M * 3) {Q : Unit → Shared → Prop}
    (hQ : ∀ h' L' es' ep' t', Heap.SameBut a s.heap h' → SetN w h' a L' es' ep' t' → L'.Perm L → Q () { s with heap := h' }) : wpAny (model P w) A (setRelay a wanted) Q E s := by
  have hl : es.size = L.length := by rw [← Array.length_toList, hrows, List.length_map]
  have hfits : t.fits es.size = true := by
    simp only [SetTable.fits, SetTable.fill, hdm, Bool.and_eq_true, beq_iff_eq, decide_eq_true_eq]
    exact ⟨hsz, by show t.place.size + 0 ≤ t.mask; omega⟩
  obtain ⟨t', order, e, hp, T, em, el, ep', ed⟩ := relaid_ok t (hs := es.map (·.1)) (wanted := wanted) hw hM (by rw [Array.size_map]; omega)
  rw [Array.size_map, hl] at hp
  obtain ⟨L2, r1, r2, r3⟩ := in_order L es order hrows hp
  rw [← r3] at T
  have h2 : (order.filterMap (es[·]?)).size = es.size := by rw [← Array.length_toList, r1, List.length_map, r2.length_eq, hl]
  rw [setRelay_eq]
  refine wpAny_bind (wpAny_setState_of ho hd hfits ?_)
  dsimp only
  refine wp_if_neg (by rw [sizeLine_eq]; omega) ?_
  try refine wpAny_bind (wpAny_pure ?_)
  rw [e]
  dsimp only
  refine wpAny_bind (wp_if_neg (by rw [h2]; simp) ?_)
  try refine wpAny_bind (wpAny_pure ?_)
  refine wpAny_pure ?_
  dsimp only
  have sb : Heap.SameBut a s.heap (s.heap.update a (Obj.putSet (order.filterMap (es[·]?)) t')) := Heap.SameBut.update ..
  refine wpAny_storeSet_of ho hd (hQ _ L2 (order.filterMap (es[·]?)) (ep + 1) t' sb ⟨⟨_, store_at ho hd, ⟨hex.1, hex.2.1, hex.2.2⟩, rfl⟩, r1, T, (r2.map (·.2)).nodup_iff.mpr nd, by rw [r2.length_eq, em]; exact hn, by rw [r2.length_eq]; exact few⟩ r2) (by rw [h2, hl, sizeLine_eq]; omega)
theorem perm_in {α : Type} (L : List α) (p : Nat) (x : α) : (L.take p ++ x :: L.drop p).Perm (x :: L) := by
  have h := List.perm_middle (a := x) (l₁ := L.take p) (l₂ := L.drop p)
  rwa [List.take_append_drop] at h
/-- one added -/
theorem added (R : SetN w s.heap a L es ep t) (tp : ∀ p ∈ L, Nk s.heap p.2 p.1) {x : Addr} {k : NestedKey} (hx : Nk s.heap k x) (hu : A.units + 8 < cLine) (hfew : L.length + 1 < 64) {Q : Bool → Shared → Prop}
    (hQ : ∀ b h' L' es' ep' t', Heap.SameBut a s.heap h' → SetN w h' a L' es' ep' t' → (k ∈ ksK L → L' = L) → (k ∉ ksK L → L'.Perm ((x, k) :: L)) → Q b { s with heap := h' }) :
    wpAny (model P w) A (setAddHashed a (.ref x) (k.hash w)) Q E s := by
  obtain ⟨o, ho, hex, hd⟩ := R.ob
  have hl := R.size
  have hroom := R.room
  unfold setAddHashed
  refine wpAny_holding ?_
  rw [show (100000 : Nat) = 99999 + 1 from rfl, setAddHashedIn_succ]
  refine wpAny_bind (wpAny_setState_of ho hd R.fits ?_)
  dsimp only
  refine wp_if_neg (by simp [byScan, Value.scannable]) ?_
  try refine wpAny_bind (wpAny_pure ?_)
  refine wpAny_bind (seek_all R tp hx hu (fun hm => wpAny_pure (hQ false s.heap L es ep t (Heap.SameBut.refl a s.heap) R (fun _ => rfl) fun z => absurd hm z)) fun K hm hK hb => ?_)
  dsimp only
  refine wpAny_bind (wpAny_setState_of ho hd R.fits ?_)
  dsimp only
  obtain ⟨q1, q2, q3, q4, q5, q6, q7, q8, q9⟩ := R.tab.put hK hb
  generalize hpt : t.put (way t.mask (k.hash w) K) = pt at q1 q3 q4 q5 q6 q7 q8 q9 ⊢
  obtain ⟨t1, p⟩ := pt
  dsimp only at q1 q3 q4 q5 q6 q7 q8 q9 ⊢
  subst q1
  have hrow : (SetTable.insertAt es (SetTable.below t.place (way t.mask (k.hash w) K)) (k.hash w, Value.ref x)).toList = esK w (L.take (SetTable.below t.place (way t.mask (k.hash w) K)) ++ (x, k) :: L.drop (SetTable.below t.place (way t.mask (k.hash w) K))) := by
    rw [SetTable.toList_insertAt, R.rows]
    unfold esK
    rw [List.map_append, List.map_cons, List.map_take, List.map_drop]
  generalize SetTable.below t.place (way t.mask (k.hash w) K) = p at q2 q3 hrow ⊢
  have pm := perm_in L p (x, k)
  have hlen : (L.take p ++ (x, k) :: L.drop p).length = L.length + 1 := pm.length_eq
  have hhs : hsK w (L.take p ++ (x, k) :: L.drop p) = (hsK w L).take p ++ k.hash w :: (hsK w L).drop p := by
    unfold hsK
    rw [List.map_append, List.map_cons, List.map_take, List.map_drop]
  rw [← hhs] at q3
  have nd1 : (ksK (L.take p ++ (x, k) :: L.drop p)).Nodup := (pm.map (·.2)).nodup_iff.mpr (List.nodup_cons.mpr ⟨hm, R.nd⟩)
  have hes : (SetTable.insertAt es p (k.hash w, Value.ref x)).size = L.length + 1 := by rw [← Array.length_toList, hrow, List.length_map, hlen]
  generalize SetTable.insertAt es p (k.hash w, Value.ref x) = es1 at hrow hes ⊢
  generalize L.take p ++ (x, k) :: L.drop p = L1 at pm hlen q3 nd1 hrow
  -- what follows, whatever the answer by value
  have go : ∀ t2 : SetTable, t2.mask = t1.mask → t2.place = t1.place → t2.dummies = t1.dummies → wpAny (model P w) A (storeSet a es1 t2) (fun _ s' => wpAny (model P w) A (if (!false && t2.tooFull) = true then (do setRelay a (SetTable.grown (es.size + 1)); pure true) else pure true) Q E s') E s := by
    intro t2 g1 g2 g3
    have hfi : t2.fill = L.length + 1 := by
      have : t1.fill = t2.fill := by unfold SetTable.fill; rw [g2, g3]
      rw [← this, q9, List.length_map]
    have T2 : L2.TabOk t2 (hsK w L1) := ⟨by rw [g2]; exact q3.ris, by rw [g3]; exact q3.dm, by rw [g2]; exact q3.sz, by rw [g1]; exact q3.mok, by rw [g1, g2]; exact q3.bd, by rw [g1, g2]; exact q3.reach⟩
    refine wpAny_storeSet_of ho hd ?_ (by rw [hes, sizeLine_eq]; omega)
    have sb : Heap.SameBut a s.heap (s.heap.update a (Obj.putSet es1 t2)) := Heap.SameBut.update ..
    have ho1 := store_at (es' := es1) (t' := t2) ho hd
    generalize s.heap.update a (Obj.putSet es1 t2) = h1 at sb ho1 ⊢
    by_cases hf : t2.tooFull = true
    · refine wp_if_pos (by simp [hf]) (wpAny_bind ?_)
      have hfull : (L.length + 1) * 5 ≥ t2.mask * 3 := by
        unfold SetTable.tooFull at hf
        rwa [decide_eq_true_eq, hfi] at hf
      have m2 : t2.mask = t.mask := by rw [g1, q4]
      rw [hl]
      have sz1 : t2.place.size = es1.size := by rw [T2.sz, List.length_map, hlen, hes]
      have fin : ∀ M, SetTable.sizeAbove (SetTable.grown (L.length + 1)) - 1 = M → MaskOk M → SetTable.sizeAbove (SetTable.grown (L.length + 1)) ≤ 128 → (L.length + 1) * 5 < M * 3 → es1.size ≤ t2.mask →
          wpAny (model P w) A (setRelay a (SetTable.grown (L.length + 1))) (fun _ s' => wpAny (model P w) A (pure true) Q E s') E { s with heap := h1 } := fun M c1 c2 c3 c4 c5 =>
        relay (s := { s with heap := h1 }) ho1 ⟨hex.1, hex.2.1, hex.2.2⟩ rfl hrow sz1 T2.dm c5 nd1 (by rw [hlen]; exact hfew) c1 c2 c3 (by rw [hlen]; exact c4) fun h2 L2 es2 ep2 t3 sb2 R2 pm2 =>
          wpAny_pure (hQ true h2 L2 es2 ep2 t3 (sb.trans sb2) R2 (fun z => absurd z hm) fun _ => pm2.trans pm)
      rcases R.tab.mok with e | e | e
      · have e2 : L.length = 4 := by rw [m2, e] at hfull; rw [e] at hroom; omega
        exact fin 31 (by rw [e2, size_20]) (.inr (.inl rfl)) (by rw [e2, size_20]; decide) (by omega) (by omega)
      · have e2 : L.length = 18 := by rw [m2, e] at hfull; rw [e] at hroom; omega
        exact fin 127 (by rw [e2, size_76]) (.inr (.inr rfl)) (by rw [e2, size_76]; decide) (by omega) (by omega)
      · exfalso; rw [m2, e] at hfull; omega
    · refine wp_if_neg (by simp [hf]) (wpAny_pure (hQ true h1 L1 es1 (ep + 1) t2 sb ⟨⟨_, ho1, ⟨hex.1, hex.2.1, hex.2.2⟩, rfl⟩, hrow, T2, nd1, ?_, by rw [hlen]; exact hfew⟩ (fun z => absurd z hm) fun _ => pm))
      unfold SetTable.tooFull at hf
      rw [decide_eq_true_eq, hfi] at hf
      rw [hlen]
      omega
  by_cases hpl : t1.plain = true
  · refine wp_if_pos hpl (wpAny_bind (hashed_key k _ 8 s hx.at_ hx.nox hx.low _ _ _ ?_))
    simp only [if_true]
    exact wpAny_bind (go t1 rfl rfl rfl)
  · refine wp_if_neg hpl (wpAny_bind (wpAny_pure ?_))
    simp only [if_true]
    exact wpAny_bind (go t1 rfl rfl rfl)
end
/-- what the set has got from the first i items -/
structure Has (ks : List (Addr × NestedKey)) (i : Nat) (L : List (Addr × NestedKey)) : Prop where
  sub : ∀ p ∈ L, p ∈ ks.take i
  all : ∀ p ∈ ks.take i, p.2 ∈ ksK L
  len : L.length ≤ i
theorem Has.start (ks : List (Addr × NestedKey)) : Has ks 0 [] := ⟨fun _ h => absurd h (by simp), fun _ h => absurd h (by simp), Nat.le_refl _⟩
theorem Has.old {ks L : List (Addr × NestedKey)} {i : Nat} {x : Addr × NestedKey} (g : Has ks i L) (h : ks[i]? = some x) (hm : x.2 ∈ ksK L) : Has ks (i + 1) L := by
  have e := G.takeNx h
  refine ⟨fun p hp => by rw [e]; exact List.mem_append_left _ (g.sub p hp), fun p hp => ?_, by have := g.len; omega⟩
  rw [e] at hp
  rcases List.mem_append.mp hp with z | z
  · exact g.all p z
  · rw [List.mem_singleton.mp z]; exact hm
theorem Has.new {ks L L' : List (Addr × NestedKey)} {i : Nat} {x : Addr × NestedKey} (g : Has ks i L) (h : ks[i]? = some x) (pm : L'.Perm (x :: L)) : Has ks (i + 1) L' := by
  have e := G.takeNx h
  refine ⟨fun p hp => ?_, fun p hp => ?_, by have := g.len; rw [pm.length_eq, List.length_cons]; omega⟩
  · rw [e]
    rcases List.mem_cons.mp (pm.mem_iff.mp hp) with z | z
    · rw [z]; exact List.mem_append_right _ (.head _)
    · exact List.mem_append_left _ (g.sub p z)
  · refine (pm.map (·.2)).mem_iff.mpr ?_
    rw [e] at hp
    rcases List.mem_append.mp hp with z | z
    · exact .tail _ (g.all p z)
    · rw [List.mem_singleton.mp z]; exact .head _
theorem nodup_le {α : Type} [DecidableEq α] : ∀ (l D : List α), l.Nodup → (∀ x ∈ l, x ∈ D) → l.length ≤ D.length
  | [], _, _, _ => Nat.zero_le _
  | x :: l, D, hn, hs => by
    obtain ⟨h1, h2⟩ := List.nodup_cons.mp hn
    have hx := hs x (.head _)
    have ih := nodup_le l (D.erase x) h2 fun y hy => (List.mem_erase_of_ne (fun e : y = x => h1 (by rw [← e]; exact hy))).2 (hs y (.tail _ hy))
    rw [List.length_erase_of_mem hx] at ih
    have := List.length_pos_of_mem hx
    rw [List.length_cons]
    omega
theorem shorter {α : Type} [DecidableEq α] : ∀ ks : List α, ¬ ks.Nodup → ∃ D : List α, D.length < ks.length ∧ ∀ x ∈ ks, x ∈ D
  | [], h => absurd List.nodup_nil h
  | k :: ks, h => by
    by_cases hk : k ∈ ks
    · exact ⟨ks, Nat.lt_succ_self _, fun x hx => (List.mem_cons.mp hx).elim (fun e => e ▸ hk) id⟩
    · obtain ⟨D, h1, h2⟩ := shorter ks fun z => h (List.nodup_cons.mpr ⟨hk, z⟩)
      exact ⟨k :: D, Nat.succ_lt_succ h1, fun x hx => (List.mem_cons.mp hx).elim (fun e => e ▸ .head _) fun y => .tail _ (h2 x y)⟩
/-- the set is as long as the list just if no key comes twice -/
theorem len_iff {ks L : List (Addr × NestedKey)} (nd : (ksK L).Nodup) (g : Has ks ks.length L) : L.length = ks.length ↔ (ksK ks).Nodup := by
  have sub : ∀ k ∈ ksK L, k ∈ ksK ks := fun k hk => by
    obtain ⟨p, hp, rfl⟩ := List.mem_map.mp hk
    exact List.mem_map_of_mem (List.mem_of_mem_take (g.sub p hp))
  have sup : ∀ k ∈ ksK ks, k ∈ ksK L := fun k hk => by
    obtain ⟨p, hp, rfl⟩ := List.mem_map.mp hk
    exact g.all p (by rw [List.take_length]; exact hp)
  constructor
  · intro e
    by_cases n : (ksK ks).Nodup
    · exact n
    · exfalso
      obtain ⟨D, h1, h2⟩ := shorter _ n
      have h3 := nodup_le _ D nd fun k hk => h2 k (sub k hk)
      rw [List.length_map] at h1 h3
      omega
  · intro n
    have h1 := nodup_le _ _ n sup
    rw [List.length_map, List.length_map] at h1
    have := g.len
    omega
end G
end
section
set_option maxRecDepth 100000
set_option maxHeartbeats 8000000
namespace G
open PySem PySem.Spec PyProof.Rows L2
section
variable {P : Program} {w : World} {A : Around} {E : Value → Shared → Prop} {s : Shared}
theorem SetN.keep {h h' : Heap} {a : Addr} {L : List (Addr × NestedKey)} {es : Array (Int × Value)} {ep : Nat} {t : SetTable} (R : SetN w h a L es ep t) (ha : ∀ o, h.get? a = some o → h'.get? a = some o) : SetN w h' a L es ep t := by
  obtain ⟨o, ho, r⟩ := R.ob
  exact ⟨⟨o, ha o ho, r⟩, R.rows, R.tab, R.nd, R.room, R.few⟩
theorem setN_empty {h : Heap} {a : Addr} (ho : h.get? a = some (set0 w)) : SetN w h a [] #[] 0 (.fresh 0 0 (!w.params.followText "set-order")) where
  ob := ⟨_, ho, ⟨rfl, rfl, rfl⟩, rfl⟩
  rows := rfl
  tab := ⟨List.Pairwise.nil, rfl, rfl, .inl rfl, fun x hx => (nomatch hx), fun i h j hi => absurd hi (by simp)⟩
  nd := List.nodup_nil
  room := by show 0 * 5 < 7 * 3; decide
  few := by show 0 < 64; decide
/-- the filling's loop -/
theorem fill_loop {I : Addr} {fp wr : List Addr} {G : Array GenState → Array GenState → Prop} {n : Nat} {Pv : Nat → Value → Prop} {St : Nat → Shared → Prop} {R : Result → Shared → Prop} (W : WalksS P w A.in1 I fp wr G n Pv St) (S : Addr) (hSf : S ∉ fp) (ks : List (Addr × NestedKey))
    (hn : n = ks.length) (hfew : ks.length < 64) (hval : ∀ i v, Pv i v → ∃ p, ks[i]? = some p ∧ v = .ref p.1) (h0 : Heap) (hk : ∀ p ∈ ks, Nk h0 p.2 p.1) (hS0 : h0.get? S = none) (hw0 : ∀ b ∈ wr, h0.get? b = none) (hu : A.in1.units + 8 < cLine) :
    ∀ (k i : Nat) (s : Shared), n - i = k → i ≤ n → St i s → (∀ b o, h0.get? b = some o → s.heap.get? b = some o) → (∃ L es ep t, SetN w s.heap S L es ep t ∧ Has ks i L) →
      (∀ s' L es ep t, Moved (S :: wr) G s s' → SetN w s'.heap S L es ep t → Has ks n L → (∀ b o, h0.get? b = some o → s'.heap.get? b = some o) → R (.ok (.ret .none)) s') →
      codeAny (model P w) A (.builtin "set.update.loop" ⟨[.ref S, .ref I], []⟩) R s := by
  have nSw : S ∉ wr := fun h => hSf (W.sub _ h)
  have sub1 : ∀ b ∈ wr, b ∈ S :: wr := fun b hb => .tail _ hb
  have kept : ∀ {s s' : Shared}, Moved wr G s s' → (∀ b o, h0.get? b = some o → s.heap.get? b = some o) → ∀ b o, h0.get? b = some o → s'.heap.get? b = some o := fun hm hk b o e =>
    hm.heap b o (fun hb => by rw [hw0 b hb] at e; cases e) (hk b o e)
  have nkL : ∀ {h : Heap} {L : List (Addr × NestedKey)} {i : Nat}, Has ks i L → (∀ b o, h0.get? b = some o → h.get? b = some o) → ∀ p ∈ L, Nk h p.2 p.1 := fun g hh p hp => (hk p (List.mem_of_mem_take (g.sub p hp))).keep hh
  intro k
  induction k with
  | zero =>
    intro i s hk' hi hst hkp ⟨L, es, ep, t, hS, g⟩ hR
    obtain rfl : i = n := by omega
    refine codeAny_builtin F.entry_set_update_loop ?_
    rw [Around.under_plainId F.plain_set_update_loop _]
    show wpAny _ A.in1 (pyNext (.ref I) >>= _) _ _ s
    refine wpAny_bind (W.done s _ _ hst fun s' hm => ?_)
    have hkp' := kept hm hkp
    show wpAny _ A.in1 (ret Value.none) _ _ s'
    exact wpAny_pure (hR s' L es ep t (hm.mono sub1) (hS.keep fun o e => hm.heap S o nSw e) g hkp')
  | succ k ih =>
    intro i s hk' hi hst hkp ⟨L, es, ep, t, hS, g⟩ hR
    have hlt : i < n := by omega
    refine codeAny_builtin F.entry_set_update_loop ?_
    rw [Around.under_plainId F.plain_set_update_loop _]
    show wpAny _ A.in1 (pyNext (.ref I) >>= _) _ _ s
    refine wpAny_bind (W.item i s _ _ hlt hst fun v s' hP hst' hm => ?_)
    obtain ⟨p, hp, rfl⟩ := hval i v hP
    have hkp' := kept hm hkp
    have hS' : SetN w s'.heap S L es ep t := hS.keep fun o e => hm.heap S o nSw e
    have hx : Nk s'.heap p.2 p.1 := (hk p (List.mem_of_getElem? hp)).keep hkp'
    show wpAny _ A.in1 (holding [Value.ref p.1] (setAdd S (.ref p.1)) >>= _) _ _ s'
    refine wpAny_bind (wpAny_holding ?_)
    unfold setAdd
    refine wpAny_holding (wpAny_bind ((nestedKind P w).pyHash hu hx.is ?_))
    refine added (s := { s' with toks := s'.toks + p.2.draws }) hS' (nkL g hkp') hx hu (by have := g.len; omega) fun b h' L' es' ep' t' hsb hS2 c1 c2 => ?_
    have g' : Has ks (i + 1) L' := by
      by_cases c : p.2 ∈ ksK L
      · rw [c1 c]; exact g.old hp c
      · exact g.new hp (c2 c)
    have hkp2 : ∀ b o, h0.get? b = some o → h'.get? b = some o := fun b o e => (hsb.2 b fun z => by rw [z, hS0] at e; cases e).trans (hkp' b o e)
    refine wpAny_pure ⟨plainId_quiet F.plain_set_update_loop _, ih (i + 1) _ (by omega) hlt (W.frame _ s' _ _ hst' (Nat.le_add_right _ _) fun b hb o e => ?_) hkp2 ⟨L', es', ep', t', hS2, g'⟩ fun s'' L2 es2 ep2 t2 hm'' hS'' g'' hkp'' => ?_⟩
    · rw [hsb.2 b fun h : b = S => hSf (by rw [← h]; exact hb)]; exact e
    · refine hR s'' L2 es2 ep2 t2 (Moved.trans W.gtrans ((hm.mono sub1).then_heap (Nat.le_add_right _ _) fun b o hb e => ?_) hm'') hS'' g'' hkp''
      rw [hsb.2 b fun h : b = S => hb (by rw [h]; exact .head _)]; exact e
theorem init_keys {l : Addr} {items : Array Value} (ks : List (Addr × NestedKey)) (hh : A.handled = none) (hl : s.heap.IsList l items) (hit : items.toList = ks.map fun p => Value.ref p.1) (hk : ∀ p ∈ ks, Nk s.heap p.2 p.1) (hfew : ks.length < 64) (hu : A.units + 16 < cLine) {R : Result → Shared → Prop}
    (h : ∀ (h' : Heap) (tk : Nat) L es ep t, SetN w h' s.heap.objs.size L es ep t → Has ks ks.length L → (∀ b o, s.heap.get? b = some o → h'.get? b = some o) → R (.ok (.ret .none)) { s with heap := h', toks := tk }) :
    codeAny (model P w) A (.call (.builtin "set.__init__") ⟨[.ref s.heap.objs.size, .ref l], []⟩) R { s with heap := s.heap.push (set0 w) } := by
  obtain ⟨⟨cc, dd, da, sl⟩, hol, c1, n, c3⟩ := hl
  dsimp only at c1 c3
  subst c1; subst c3
  have hlt : l < s.heap.objs.size := Heap.lt_size hol
  have len : items.size = ks.length := by rw [← Array.length_toList, hit, List.length_map]
  have g0 : (s.heap.push (set0 w)).get? s.heap.objs.size = some (set0 w) := Heap.get?_push_size _ rfl
  have tS : Shared.TypeIs { s with heap := s.heap.push (set0 w) } (.ref s.heap.objs.size) "set" := ⟨_, g0, rfl⟩
  have gl : (s.heap.push (set0 w)).get? l = some ⟨.type "list", dd, .seq items n, sl⟩ := Heap.get?_push_of_some _ hol
  have il : (s.heap.push (set0 w)).IsList l items := ⟨_, gl, rfl, n, rfl⟩
  refine codeAny_call_builtin F.called_set.init.plain F.entry_set_init (check_set_init_1 tS ?_)
  have a1 := F.sub_list_set
  have a2 := F.sub_list_frozenset
  have a3 : (Value.type "list" == Value.type "dict") = false := by decide
  unfold Builtin.«set.__init__» noKeywords Builtin.Frozenset.updateFrom
  generalize hPI : pyIter = PI
  wp_walk
  subst hPI
  refine wpAny_pyIter_list il ?_
  refine wpAny_bind (wpAny_runValue ?_)
  have nh : A.in1.in1.handled = none := by simp [hh]
  have nI : l ≠ (s.heap.push (set0 w)).objs.size := by rw [Heap.size_push]; exact Nat.ne_of_lt (Nat.lt_succ_of_lt hlt)
  have nS : s.heap.objs.size ∉ [(s.heap.push (set0 w)).objs.size, l] := by
    rw [Heap.size_push]
    intro z
    rcases List.mem_cons.mp z with z | z
    · exact Nat.ne_of_lt (Nat.lt_succ_self _) z
    · exact Nat.ne_of_gt hlt (List.mem_singleton.mp z)
  have vals : ∀ (i : Nat) (v : Value), items[i]? = some v → ∃ p, ks[i]? = some p ∧ v = .ref p.1 := fun i v hv => by
    rw [← Array.getElem?_toList, hit, List.getElem?_map] at hv
    cases hq : ks[i]? with
    | none => rw [hq] at hv; cases hv
    | some p => rw [hq] at hv; exact ⟨p, rfl, (Option.some.inj hv).symm⟩
  have no : ∀ b, s.heap.objs.size ≤ b → s.heap.get? b = none := fun b hb => by
    cases q : s.heap.get? b with
    | none => rfl
    | some o => exact absurd (Nat.lt_of_lt_of_le (Heap.lt_size q) hb) (Nat.lt_irrefl _)
  refine fill_loop ((Walks.list nh _ l nI items).toS) s.heap.objs.size nS ks len hfew vals s.heap hk (no _ (Nat.le_refl _)) (fun b hb => no b (by rw [List.mem_singleton.mp hb, Heap.size_push]; exact Nat.le_succ _)) ?room (items.size - 0) 0 _ (by omega) (Nat.zero_le _) ⟨⟨_, Heap.get?_push_size _ rfl, rfl, rfl⟩, il.push _⟩
    (fun b o e => Heap.get?_push_of_some _ (Heap.get?_push_of_some _ e)) ?first fun s' L es ep t hm hS' g' hkp => ?_
  case room =>
    simp only [Around.in1_units]
    omega
  case first => exact ⟨[], #[], 0, _, setN_empty (Heap.get?_push_of_some _ g0), Has.start ks⟩
  obtain ⟨h', g2, d', tk', os'⟩ := s'
  have eg : g2 = s.gens := hm.gens
  have ed : d' = s.drawn := hm.drawn
  have eo : os' = s.os := hm.os
  subst eg ed eo
  show wpAny _ _ _ _ _ _
  refine wpAny_pure ?_
  show wpAny _ _ (ret Value.none) _ _ _
  rw [len] at g'
  exact wpAny_pure (h h' tk' L es ep t hS' g' hkp)
/-- set(xs) -/
theorem call_set_keys {l : Addr} {items : Array Value} (ks : List (Addr × NestedKey)) (hh : A.handled = none) (hl : s.heap.IsList l items) (hit : items.toList = ks.map fun p => Value.ref p.1) (hk : ∀ p ∈ ks, Nk s.heap p.2 p.1) (hfew : ks.length < 64) (hu : A.units + 20 < cLine) {Q : Value → Shared → Prop}
    (h : ∀ (h' : Heap) (tk : Nat) L es ep t, SetN w h' s.heap.objs.size L es ep t → Has ks ks.length L → (∀ b o, s.heap.get? b = some o → h'.get? b = some o) → Q (.ref s.heap.objs.size) { s with heap := h', toks := tk }) :
    wpAny (model P w) A (call (.type "set") [.ref l]) Q E s := by
  have ft := F.called_set
  obtain ⟨c, tl, m1⟩ := ft.mro
  have m2 := ft.made
  have m3 := ft.sub
  have m4 := ft.notType
  have m5 := ft.canCreate
  have m6 := F.typeCall_set_1 (.ref l)
  refine wpAny_call (codeAny_of_tree (show wpAny _ _ (callAny (.type "set") _) _ _ _ from wpAny_pure ⟨Code.quiet_builtin _ (by decide +kernel), codeAny_builtin F.entry_type_call ?_⟩))
  rw [Around.under_plain (weight_type_call_type "set" [.ref l] []) rfl]
  repeat (any_goals (first | assumption | wp_step))
  refine codeAny_mono (code_set_led1 (.ref l) (E := E) (Q₁ := fun obj s₁ => obj = .ref s.heap.objs.size ∧ s₁ = { s with heap := s.heap.push (set0 w) }) ⟨rfl, rfl⟩) fun r s₁ z => ?_
  rcases r with e | (o | _ | _ | _) <;> first | exact z | exact z.elim | skip
  obtain ⟨rfl, rfl⟩ := z
  have tS : Shared.TypeIs { s with heap := s.heap.push (set0 w) } (.ref s.heap.objs.size) "set" := ⟨_, Heap.get?_push_size _ rfl, rfl⟩
  have n1 := ft.init.lookup
  have n2 := ft.init.bind (.ref s.heap.objs.size)
  repeat (any_goals (first | assumption | wp_step))
  refine codeAny_mono (init_keys (R := wants (fun r s₂ => r = .none ∧ Q (.ref s.heap.objs.size) s₂) E) ks (by simp [hh]) hl hit hk hfew (by simp only [Around.in1_units]; omega) fun h' tk L es ep t hs g hkp => ⟨rfl, h h' tk L es ep t hs g hkp⟩) fun r s₂ z => ?_
  rcases r with e | (o | _ | _ | _) <;> first | exact z | exact z.elim | skip
  obtain ⟨rfl, q⟩ := z
  repeat (any_goals (first | assumption | wp_step))
end
section
variable {X : Cx}
theorem keys_at {H : Hp} {s : Shared} (ok : HOk X.prog X.w H s.heap) : ∀ (ks : List NestedKey) (vs : List V) (us : List Value), RAll H vs (ks.map NestedKey.data) → Vals vs us → (∀ k ∈ ks, k.depth ≤ 8 ∧ noX k = true ∧ 1 ≤ k.depth) →
    ∃ ps : List (Addr × NestedKey), us = ps.map (fun p => Value.ref p.1) ∧ ksK ps = ks ∧ ∀ p ∈ ps, Nk s.heap p.2 p.1
  | [], _, _, r, ru, _ => by
    cases r; cases ru
    exact ⟨[], rfl, rfl, fun p hp => nomatch hp⟩
  | k :: ks, _, _, r, ru, hk => by
    rw [List.map_cons] at r
    cases r with
    | cons r1 r2 =>
      cases ru with
      | cons u1 u2 =>
        obtain ⟨ps, e1, e2, e3⟩ := keys_at ok ks _ _ r2 u2 fun y hy => hk y (.tail _ hy)
        obtain ⟨d8, nx, d1⟩ := hk k (.head _)
        have n := R.nested ok k _ _ r1 u1
        cases n with
        | none => simp [NestedKey.depth] at d1
        | bool _ => simp [NestedKey.depth] at d1
        | int _ _ => simp [NestedKey.depth] at d1
        | text _ _ => simp [NestedKey.depth] at d1
        | @tup b o vs n kk h1 h2 h3 h4 =>
          refine ⟨(b, .tup kk) :: ps, by rw [e1]; rfl, by rw [ksK, List.map_cons, ← e2], fun p hp => ?_⟩
          rcases List.mem_cons.mp hp with e | hp
          · subst e; exact ⟨.tup h1 h2 h3 h4, d8, nx⟩
          · exact e3 p hp
/-- len(set(xs)), xs a list of fewer than 64 nested tuples -/
def tLenSetN (K : PySem.W.Frag) (ta : TE) : TE := fun σ H Q => ta σ H fun x H1 => ∃ (l : Addr) (vs : List V) (ks : List NestedKey), x = .ref l ∧ SqL K H1 l vs ∧ RAll H1 vs (ks.map NestedKey.data) ∧ (∀ k ∈ ks, k.depth ≤ 8 ∧ noX k = true ∧ 1 ≤ k.depth) ∧ ks.length < 64 ∧ ∀ m : Nat, m < 64 → (m = ks.length ↔ ks.Nodup) → Q (.int (m : Nat)) H1
theorem pe_lenSetN {a : Expr} {ta : TE} {p p2 q pos : Pos} (hu : X.A.units + 64 < cLine) (hg : Gl X "len") (hm : X.mg "len" = none) (hg2 : Gl X "set") (hm2 : X.mg "set" = none) (ha : PE X a ta) (hc : X.calm = true := by rfl)
    (na : starEach [a] X.env = (false, eval a X.env) :: starEach [] X.env := by rfl) : PE X (.Call (.Name "len" p) [.Call (.Name "set" p2) [a] [] q] [] pos) (tLenSetN X.K ta) := by
  refine ⟨fun pins s σ H Q I h => Call_ (ld_blt I hg hm PySem.boot_len ?_)⟩
  refine callWith_builtin1 (args_cons ?_ rfl) rfl rfl
  refine Call_ (ld_blt I hg2 hm2 boot_set ?_)
  refine callWith_type1 (args_cons (thn (ha.run pins s σ H _ I h) fun v s1 ⟨x, H1, I1, r1, q1⟩ => args_nil ?_) na) na rfl
  obtain ⟨l, vs, ks, rfl, hq, rv, hks, hfew, q1⟩ := q1
  cases r1
  obtain ⟨its, ru, pl, hz⟩ := I1.list hq
  obtain ⟨ps, e1, e2, e3⟩ := keys_at I1.hok ks vs its rv ru hks
  have hpl : ps.length = ks.length := by rw [← e2, List.length_map]
  refine call_set_keys ps (I1.ok.hd hc) pl.isList (by simpa using e1) e3 (by omega) (by omega) fun h' tk L es ep t R g hkp => args_nil ?_
  obtain ⟨o, ho, hex, hd⟩ := R.ob
  have I2 : Inv X pins σ H1 { s1 with heap := h', toks := tk } := I1.kept fun b o e => hkp b o e
  have hf := R.few
  have hs := R.size
  have li := len_iff R.nd g
  rw [hpl, e2] at li
  refine call_len_set ho hex hd R.fits (by rw [hs]; omega) ⟨.int (L.length : Nat), H1, I2.tok _, ⟨_, by rw [hs]⟩, q1 L.length hf li⟩
end
end G
end
section
set_option maxRecDepth 100000
set_option maxHeartbeats 4000000
namespace Onew
open PySem PySem.Spec PyProof.Rows L2 G
open Mx (Tab im Rch rl rowF forgF doneOn Fm nextD nextP behind z3)
/-! ### a value as a kept group: the plain part -/
def pI (d : PyData) : Option (List Int) := match seqI d with
  | some x => intsI x
  | none => none
/-- a value, told as two lists of ints -/
def twoZ (d : PyData) : Option (List Int × List Int) := match twoI d with
  | some (x, y) => (match intsI x, intsI y with
    | some is, some js => some (is, js)
    | _, _ => none)
  | none => none
abbrev kzz (z : List Int × List Int) : NestedKey := kZ z.1 z.2
def zD (z : List Int × List Int) : PyData := .tuple [.tuple (z.1.map PyData.int), .tuple (z.2.map PyData.int)]
theorem kzz_data (z : List Int × List Int) : (kzz z).data = zD z := kZ_data _ _
theorem toldD_two (W : List Doing) (d : PyData) : toldD W d = (twoZ d).bind fun z => W.find? fun y => decide (kD y = kzz z) := by
  unfold toldD twoZ
  cases twoI d with
  | none => rfl
  | some p =>
    obtain ⟨x, y⟩ := p
    dsimp only
    cases intsI x <;> cases intsI y <;> rfl
theorem twoZ_pair {d u1 u2 : PyData} (h : seqI d = some [u1, u2]) : twoZ d = (match pI u1, pI u2 with | some is, some js => some (is, js) | _, _ => none) := by
  unfold twoZ twoI pI
  rw [h]
  dsimp only
  cases seqI u1 with
  | none => rfl
  | some x =>
    cases seqI u2 with
    | none => dsimp only; cases intsI x <;> rfl
    | some y => rfl
theorem twoZ_len {d : PyData} {ds : List PyData} (h : seqI d = some ds) (hl : ds.length ≠ 2) : twoZ d = none := by
  unfold twoZ twoI
  rw [h]
  rcases ds with _ | ⟨x, _ | ⟨y, _ | ⟨z, r⟩⟩⟩ <;> first | rfl | exact absurd rfl hl
theorem twoZ_seq {d : PyData} (h : seqI d = none) : twoZ d = none := by unfold twoZ twoI; rw [h]
theorem told_bad {W : List Doing} {ds : List PyData} {d : PyData} (hm : d ∈ ds) (h : twoZ d = none) : toldAll W ds = none := by
  refine toldAll_none.mpr ?_
  have : tdD W d = .none := by unfold tdD; rw [toldD_two, h]; rfl
  rw [← this]
  exact List.mem_map_of_mem hm
/-- all are known, or one is not -/
theorem told_zz {W : List Doing} : ∀ {ds : List PyData} {ZZ : List (List Int × List Int)}, ds.map twoZ = ZZ.map some → (∀ z ∈ ZZ, ∃ y ∈ W, kD y = kzz z) → ∃ T, toldAll W ds = some T ∧ T.map kD = ZZ.map kzz
  | [], ZZ, e, _ => by
    cases ZZ with
    | nil => exact ⟨[], rfl, rfl⟩
    | cons z ZZ => simp at e
  | d :: ds, ZZ, e, h => by
    cases ZZ with
    | nil => simp at e
    | cons z ZZ =>
      rw [List.map_cons, List.map_cons] at e
      obtain ⟨e1, e2⟩ := List.cons.inj e
      obtain ⟨T, t1, t2⟩ := told_zz e2 fun y hy => h y (.tail _ hy)
      obtain ⟨y, hy, ky⟩ := h z (.head _)
      have hf : (W.find? fun y => decide (kD y = kzz z)) = some y := by
        cases hf : W.find? fun y => decide (kD y = kzz z) with
        | none => exact absurd (decide_eq_true ky) (by have := List.find?_eq_none.mp hf y hy; simpa using this)
        | some y' =>
          have k' : kD y' = kzz z := of_decide_eq_true (by simpa using List.find?_some hf)
          rw [kD_inj (k'.trans ky.symm)]
      refine ⟨y :: T, ?_, by rw [List.map_cons, List.map_cons, t2, ky]⟩
      rw [show toldAll W (d :: ds) = (match toldD W d, toldAll W ds with | some x, some xs => some (x :: xs) | _, _ => none) from rfl, toldD_two, e1, t1]
      show (match (W.find? fun y => decide (kD y = kzz z)), some T with | some x, some xs => some (x :: xs) | _, _ => none) = _
      rw [hf]
theorem told_out {W : List Doing} {ds : List PyData} {ZZ : List (List Int × List Int)} {z : List Int × List Int} (e : ds.map twoZ = ZZ.map some) (hz : z ∈ ZZ) (h : ∀ y ∈ W, kD y ≠ kzz z) : toldAll W ds = none := by
  refine toldAll_none.mpr ?_
  have h1 : some z ∈ ds.map twoZ := by rw [e]; exact List.mem_map_of_mem hz
  obtain ⟨d, hd, e1⟩ := List.mem_map.mp h1
  have : tdD W d = .none := by
    unfold tdD; rw [toldD_two, e1]
    show (match (W.find? fun y => decide (kD y = kzz z)) with | some x => dD x | none => PyData.none) = _
    rw [List.find?_eq_none.mpr fun y hy => by simp [h y hy]]
  rw [← this]
  exact List.mem_map_of_mem hd
theorem kept_none {S ns : List Nat} {W : List Doing} {f : Nat} {d : PyData} {ds : List PyData} (e : seqI d = some ds) (h : toldAll W ds = none) : keptD S ns W f d = false := by
  unfold keptD closedD
  rw [e]
  cases ds with
  | nil => rfl
  | cons x r => simp only [h]
theorem kept_no {S ns : List Nat} {W : List Doing} {f : Nat} {d : PyData} {ds : List PyData} {T : List Doing} (e : seqI d = some ds) (h : toldAll W ds = some T) (hn : ¬ (T.Nodup ∧ Closed S ns T)) : keptD S ns W f d = false := by
  unfold keptD closedD
  rw [e]
  cases ds with
  | nil => rfl
  | cons x r => simp only [h, if_neg hn]
theorem kept_yes {S ns : List Nat} {W : List Doing} {f : Nat} {d : PyData} {ds : List PyData} {T : List Doing} (e : seqI d = some ds) (ne : ds ≠ []) (h : toldAll W ds = some T) (hn : T.Nodup ∧ Closed S ns T) : keptD S ns W f d = (T.filter (movedB S f)).isEmpty := by
  unfold keptD closedD
  rw [e]
  cases ds with
  | nil => exact absurd rfl ne
  | cons x r => simp only [h, if_pos hn]
theorem nodup_inj {α β : Type} {g : α → β} (hg : ∀ a b, g a = g b → a = b) {l : List α} : (l.map g).Nodup ↔ l.Nodup := by
  unfold List.Nodup
  rw [List.pairwise_map]
  exact ⟨fun h => h.imp fun hne e => hne (congrArg g e), fun h => h.imp fun hne e => hne (hg _ _ e)⟩
theorem lay_mem : ∀ {xs : List PyData} {x : PyData}, PyData.canLayAll0 xs = true → x ∈ xs → x.canLay0 = true
  | y :: ys, x, h, hx => by
    rw [PyData.canLayAll0, Bool.and_eq_true] at h
    rcases List.mem_cons.mp hx with e | e
    · rw [e]; exact h.1
    · exact lay_mem h.2 e
theorem lay_all : ∀ {xs : List PyData}, (∀ x ∈ xs, x.canLay0 = true) → PyData.canLayAll0 xs = true
  | [], _ => rfl
  | y :: ys, h => by rw [PyData.canLayAll0, h y (.head _), lay_all fun x hx => h x (.tail _ hx)]; rfl
theorem dep_mem : ∀ {xs : List PyData} {x : PyData}, x ∈ xs → x.depth ≤ PyData.depthAll xs
  | y :: ys, x, hx => by
    rw [PyData.depthAll]
    rcases List.mem_cons.mp hx with e | e
    · rw [e]; exact Nat.le_max_left _ _
    · exact Nat.le_trans (dep_mem e) (Nat.le_max_right _ _)
theorem dep_all {n : Nat} : ∀ {xs : List PyData}, (∀ x ∈ xs, x.depth ≤ n) → PyData.depthAll xs ≤ n
  | [], _ => Nat.zero_le _
  | y :: ys, h => by rw [PyData.depthAll]; exact Nat.max_le.mpr ⟨h y (.head _), dep_all fun x hx => h x (.tail _ hx)⟩
/-- of a form that can be compared -/
structure Fit (n : Nat) (d : PyData) : Prop where
  lay : d.canLay0 = true
  dep : d.depth ≤ n
theorem Fit.seq {n : Nat} {d : PyData} {xs : List PyData} (h : Fit (n + 1) d) (e : seqI d = some xs) : ∀ x ∈ xs, Fit n x := by
  have h1 := h.lay
  have h2 := h.dep
  cases d with
  | list ys =>
    cases e
    rw [PyData.canLay0] at h1
    rw [PyData.depth] at h2
    exact fun x hx => ⟨lay_mem h1 hx, by have := dep_mem hx; omega⟩
  | tuple ys =>
    cases e
    rw [PyData.canLay0] at h1
    rw [PyData.depth] at h2
    exact fun x hx => ⟨lay_mem h1 hx, by have := dep_mem hx; omega⟩
  | _ => cases e
theorem Fit.list {n : Nat} {xs : List PyData} (h : ∀ x ∈ xs, Fit n x) (hn : n < 64) : SeqAt.shaped (.list xs) = true := by
  unfold SeqAt.shaped
  rw [PyData.canLay0, lay_all fun x hx => (h x hx).lay, PyData.depth, Bool.true_and]
  exact decide_eq_true (by have := dep_all fun x hx => (h x hx).dep; omega)
theorem fit_d (x : Doing) : Fit 2 (dD x) := ⟨canLay_d x, depth_d x⟩
theorem layAll_int : ∀ is : List Int, PyData.canLayAll0 (is.map PyData.int) = true
  | [] => rfl
  | i :: is => by rw [List.map_cons, PyData.canLayAll0, layAll_int is]; rfl
theorem depAll_int : ∀ is : List Int, PyData.depthAll (is.map PyData.int) = 0
  | [] => rfl
  | i :: is => by rw [List.map_cons, PyData.depthAll, depAll_int is]; rfl
theorem fit_z (z : List Int × List Int) : Fit 2 (zD z) := by
  unfold zD
  constructor
  · simp only [PyData.canLay0, PyData.canLayAll0, layAll_int, Bool.and_true, Bool.true_and]
  · simp only [PyData.depth, PyData.depthAll, depAll_int]; decide
theorem eqv_nil (xs : List PyData) : PyData.eqv (.list xs) (.list []) = xs.isEmpty := by cases xs <;> simp [PyData.eqv, PyData.eqvAll]
theorem eqvAll_n : ∀ a b : List Nat, PyData.eqvAll (nD a) (nD b) = decide (a = b)
  | [], [] => by simp [nD, PyData.eqvAll]
  | [], _ :: _ => by simp [nD, PyData.eqvAll]
  | _ :: _, [] => by simp [nD, PyData.eqvAll]
  | x :: a, y :: b => by
    show (PyData.eqv (.int (x : Nat)) (.int (y : Nat)) && PyData.eqvAll (nD a) (nD b)) = _
    rw [eqvAll_n a b, PyData.eqv]
    by_cases h : x = y
    · subst h; simp
    · have : (((x : Int)) == (y : Int)) = false := by simpa using fun e => h (by omega)
      rw [this]; simp [h]
theorem eqv_d (x y : Doing) : PyData.eqv (dD x) (dD y) = decide (x = y) := by
  unfold dD iD
  rw [PyData.eqv, PyData.eqvAll, PyData.eqvAll, PyData.eqvAll, PyData.eqv, PyData.eqv, eqvAll_n, eqvAll_n, Bool.and_true]
  obtain ⟨a, b⟩ := x
  obtain ⟨c, d⟩ := y
  by_cases h1 : a = c <;> by_cases h2 : b = d <;> simp [h1, h2]
theorem any_d (T : List Doing) (y : Doing) : ((T.map dD).any fun z => PyData.eqv z (dD y)) = decide (y ∈ T) := by
  rw [List.any_map]
  by_cases h : y ∈ T
  · rw [decide_eq_true h, List.any_eq_true]
    exact ⟨y, h, by simp [eqv_d]⟩
  · rw [decide_eq_false h, List.any_eq_false]
    intro z hz
    simp only [Function.comp, eqv_d, decide_eq_true_eq]
    exact fun e => h (e ▸ hz)
theorem sum_n : ∀ c : List Nat, decide ((c.map fun n : Nat => (n : Int)).sum = 0) = c.all fun n => decide (n = 0)
  | [] => rfl
  | n :: c => by
    have pos : ∀ c : List Nat, 0 ≤ (c.map fun n : Nat => (n : Int)).sum := fun c => by
      induction c with
      | nil => exact Int.le_refl _
      | cons n c ih => rw [List.map_cons, List.sum_cons]; omega
    have := pos c
    rw [List.map_cons, List.sum_cons, List.all_cons, ← sum_n c]
    by_cases h : n = 0
    · subst h; simp
    · rw [decide_eq_false h, Bool.false_and]
      exact decide_eq_false (by omega)
/-- [x for x in xs if p(x)], the items as they stand -/
theorem lc_pick {α : Type} {J : It} {n : Nat} {C : Hp → Prop} {xs : List V} (Wk : Walk J n C (YAt xs)) {g : TG} {tt : TT} {te : TE} {vs : List Nat} {σ : L2.St} {H1 : Hp} {D : Addr} {Qd : Hp → Prop} (hD : H1 D = none) (W : List α) (out : α → PyData) (pr : α → Bool) (r : RAll H1 xs (W.map out)) (hn : W.length = n) (hz : n ≤ sizeLine) (hC : ∀ H, Ex H1 H → C H)
    (step : ∀ i x H d (Post : VK) (Pf : Hp → Prop), i < n → Ex H1 H → xs[i]? = some x → W[i]? = some d → R H x (out d) → (pr d = true → ∀ H4, Ex H H4 → Post x H4) → (pr d = false → ∀ H3, Ex H H3 → Pf H3) → g x (wipe σ vs) H fun σ2 H2 => wipe σ2 vs = wipe σ vs ∧ tt σ2 H2 fun b H3 => if b = true then te σ2 H3 Post else Pf H3)
    (done : ∀ acc H, Ex H1 H → H D = some (.lst acc) → RAll H acc ((W.filter pr).map out) → Qd H) :
    ∃ Wm : Nat → Nat → Hp → Prop, (∃ m, Wm 0 m (upd H1 D (.lst []))) ∧ ∀ i m H, Wm i m H →
      (J.stop i H ∧ Qd H) ∨ (J.go i H ∧ ∃ Nx : Hp → Prop, (∀ H', Nx H' → ∃ m', m' < m ∧ Wm (i + 1) m' H') ∧ ∀ x H', J.yld i H x H' → g x (wipe σ vs) H' fun σ2 H2 => wipe σ2 vs = wipe σ vs ∧ tt σ2 H2 fun b H3 =>
        if b = true then te σ2 H3 fun y H4 => ∃ acc, H4 D = some (.lst acc) ∧ acc.length < sizeLine ∧ Nx (upd H4 D (.lst (acc ++ [y]))) else Nx H3) := by
  refine lc_grow Wk hD (fun i acc _ => RAll H1 acc (((W.take i).filter pr).map out)) (fun _ _ _ _ _ p => p) .nil hC ?_ (fun acc H e hd p => done acc H e hd ((by rw [← hn, List.take_length] at p; exact p : RAll H1 acc _).ex e))
  rintro i x H H' acc Nx hi e p ⟨rfl, hx⟩ k1 k2
  obtain ⟨d, hd⟩ : ∃ d, W[i]? = some d := ⟨W[i]'(by omega), List.getElem?_eq_getElem (by omega)⟩
  obtain ⟨v, hv, rv⟩ := RAll.at r (i := i) (d := out d) (by rw [List.getElem?_map, hd]; rfl)
  rw [hx] at hv
  cases hv
  refine step i x H' d _ Nx hi e hx hd (rv.ex e) ?_ ?_
  · intro hp H4 e4
    refine k1 x H4 e4 ?_ ?_
    · rw [p.length, List.length_map]
      have a1 := List.length_filter_le pr (W.take i)
      rw [List.length_take] at a1; omega
    · rw [takeNx hd, List.filter_append, List.filter_cons, if_pos hp, List.filter_nil, List.map_append]
      exact RAll.app p (RAll.one rv)
  · intro hp H3 e3
    refine k2 H3 e3 ?_
    rw [takeNx hd, List.filter_append, List.filter_cons, if_neg (by rw [hp]; exact Bool.false_ne_true), List.filter_nil, List.append_nil]
    exact p
/-- the test «xs != []» of a list that was just made -/
theorem ne_nil {K : PySem.W.Frag} {H : Hp} {D p : Addr} {acc : List V} {ds : List PyData} {n : Nat} (hD : H D = some (.lst acc)) (r : RAll H acc ds) (hp : H p = none) (hf : ∀ x ∈ ds, Fit n x) (hn : n < 64) {Q : VK} (q : Q (.bl (!ds.isEmpty)) (upd H p (.lst []))) : rNeD K (.ref D) (.ref p) (upd H p (.lst [])) Q :=
  ⟨.list ds, .list [], .lst (SqL.of ((Ex.new hp) _ _ hD)) (RAll.dp _ _ (r.ex (Ex.new hp))), .lst (SqL.of upd_same) .nil, Fit.list hf hn, rfl, by rw [eqv_nil]; exact q⟩
theorem eq_nil {K : PySem.W.Frag} {H : Hp} {D p : Addr} {acc : List V} {ds : List PyData} {n : Nat} (hD : H D = some (.lst acc)) (r : RAll H acc ds) (hp : H p = none) (hf : ∀ x ∈ ds, Fit n x) (hn : n < 64) {Q : VK} (q : Q (.bl ds.isEmpty) (upd H p (.lst []))) : rEqD K (.ref D) (.ref p) (upd H p (.lst [])) Q :=
  ⟨.list ds, .list [], .lst (SqL.of ((Ex.new hp) _ _ hD)) (RAll.dp _ _ (r.ex (Ex.new hp))), .lst (SqL.of upd_same) .nil, Fit.list hf hn, rfl, by rw [eqv_nil]; exact q⟩
/-! ### a walk over a list or a tuple, that stays while others change -/
theorem sqL_at {K : PySem.W.Frag} {H H' : Hp} {a : Addr} {xs : List V} (h : SqL K H a xs) (e : ∀ o, H a = some o → H' a = some o) : SqL K H' a xs := h.elim (fun h => .inl (h.elim (fun h => .inl (e _ h)) fun ⟨u, h⟩ => .inr ⟨u, e _ h⟩)) .inr
theorem sqT_at {K : PySem.W.Frag} {H H' : Hp} {a : Addr} {xs : List V} (h : SqT K H a xs) (e : ∀ o, H a = some o → H' a = some o) : SqT K H' a xs := h.elim (fun h => .inl (h.elim (fun h => .inl (e _ h)) fun ⟨u, h⟩ => .inr ⟨u, e _ h⟩)) .inr
def iSqA (K : PySem.W.Frag) (tl : TE) : TI := fun σ H R => tl σ H fun x H1 => ∃ a xs, x = .ref a ∧ SqV K H1 a xs ∧ ∀ J, (∀ n, n = xs.length → ∃ C : Hp → Prop, Walk J n C (YAt xs) ∧ ∀ H', (∀ o, H1 a = some o → H' a = some o) → C H') → R J H1
theorem pi_sqA {X : Cx} {tg l : Expr} {tl : TE} (hl : PE X l tl) : PI X tg l (iSqA X.K tl) := by
  refine ⟨fun pins s σ H R I h => thn (hl.run pins s σ H _ I h) fun v s1 ⟨x, H1, I1, r1, a, xs, ex, sq, q⟩ => ?_⟩
  subst ex
  cases r1
  have fp : ∀ b ∈ [s1.heap.objs.size], _ := fun b hb => by
    have e : b = s1.heap.objs.size := by simpa using hb
    subst e
    exact I1.fpOk (Nat.le_refl _) (I1.hok.fresh (Nat.le_refl _))
  rcases sq with sl | st
  · obtain ⟨its, rv, p, hz⟩ := I1.list sl
    exact wpAny_pyIter_list p.isList ⟨s1.heap.objs.size, [s1.heap.objs.size], _, _, H1, rfl, I1.kept (t' := s1.toks) fun b o e => Heap.get?_push_of_some _ e, turn_list a _, ⟨_, Heap.get?_push_size _ rfl, rfl, rfl⟩, fp, q _ fun n hn => ⟨_, by rw [hn]; exact walk_list, fun H' e => sqL_at sl e⟩⟩
  · obtain ⟨its, rv, p, hz⟩ := I1.tuple st
    exact wpAny_pyIter_tuple (show s1.heap.IsTuple a its.toArray from p) ⟨s1.heap.objs.size, [s1.heap.objs.size], _, _, H1, rfl, I1.kept (t' := s1.toks) fun b o e => Heap.get?_push_of_some _ e, turn_tuple a _, ⟨_, Heap.get?_push_size _ rfl, rfl, rfl⟩, fp, q _ fun n hn => ⟨_, by rw [hn]; exact walk_tup, fun H' e => sqT_at st e⟩⟩
end Onew
end
section
set_option maxRecDepth 100000
set_option maxHeartbeats 8000000
namespace Onew
open PySem PySem.Spec PyProof.Rows L2 G
open Mx (Tab im Rch rl rowF forgF doneOn Fm nextD nextP behind z3)
section
variable {P : Program} {w : World} {K : PySem.W.Frag} {mg : Str → Option Value} {base : Heap}
/-- a value that _law_due may look at -/
structure DueOk (d : PyData) : Prop where
  sm : smD d = true
  fit : Fit 9 d
  few : ∀ ds, seqI d = some ds → ds.length < 64
def spDue (P : Program) (w : World) : Sp := fun vs H Q _ => ∃ (p r k : Addr) (v : V) (d : PyData) (ts : Tab) (ns : List Nat) (f : Nat) (W : List Doing), vs = [.ref p, .int (f : Nat), .ref r, .ref k, v] ∧ R H (.ref p) (lD ts) ∧ Mx.Ok ts ∧ f < Mx.mst ts ∧ R H (.ref r) (.list (nD ns)) ∧ ns.length ≤ 4 ∧ 0 ∉ ns ∧ DN P w H k (kvK kD W) ∧ (∀ x ∈ W, Fd (rl ts f) ns x) ∧
  R H v d ∧ DueOk d ∧ ∀ H', Ex H H' → Q (.bl (keptD (rl ts f) ns W f d)) H'
abbrev sDue : Stmt := top 60
theorem scDue : FnScope ["_law_tables_here", "_law_first", "_law_rounds", "_law_known", "_law_value", "_law_some", "_law_one", "_law_part", "_law_states", "_law_other", "_law_number"] ["_law_tables_here", "_law_first", "_law_rounds", "_law_known", "_law_value"] (defScope sDue) := ⟨rfl, rfl, rfl, by decide +kernel, rfl, by decide +kernel, by decide +kernel⟩
theorem noLs_z : ∀ ZZ : List (List Int × List Int), noLs (ZZ.map zD) = true
  | [] => rfl
  | z :: ZZ => by
    rw [List.map_cons, noLs, noLs_z ZZ, Bool.and_true]
    show (noLs (z.1.map PyData.int) && (noLs (z.2.map PyData.int) && true)) = true
    rw [noLs_ints, noLs_ints]; rfl
theorem noX_z (z : List Int × List Int) : noX (kzz z) = true := by
  have h : ∀ is : List Int, noXs (is.map NestedKey.num) = true := fun is => by
    induction is with
    | nil => rfl
    | cons i is ih => rw [List.map_cons, noXs, ih]; rfl
  unfold kzz kZ
  simp only [noX, noXs, h, Bool.and_true]
theorem bad_none : ∀ ys : List PyData, (ys.filter fun y => !isIntD y).isEmpty = allI ys
  | [] => rfl
  | y :: ys => by
    have ih := bad_none ys
    unfold allI at ih ⊢
    rw [List.filter_cons, List.all_cons, ← ih]
    cases isIntD y <;> rfl
theorem ok_due {f : Addr} {fd : FuncData} (F : Fun K "_law_due" "_law_due" sDue f fd) (T : Txt K mg) (D__law_reached : Def P w K mg base 1 "_law_reached" ["_law_tables_here", "_law_first"] (spReL K))
    (D__law_behind : Def P w K mg base 1 "_law_behind" ["_law_states", "_law_rounds", "_law_one", "_law_other"] (spBeh K)) : FnOk P w K mg base (L2.CX P w) 2 f fd ["_law_tables_here", "_law_first", "_law_rounds", "_law_known", "_law_value"] (spDue P w) := by
  refine F.okX scDue (fun vs H Q E h => ?_) (fun cdv A outer s H vs Q E hr h => ?_)
  · obtain ⟨p, r, k, v, d, ts, ns, f, W, rfl, _⟩ := h
    rfl
  · obtain ⟨p, r, k, v, d, ts, ns, f, W, rfl, rp, ok, hf, rr, ln, h0, dn, fW, rv, ⟨sm, fit, few⟩, q⟩ := h
    have nd := scDue.nd
    refine ⟨_, (pss_cons (ps_if ((pw_or (pt_not (pt_val (pe_callB call_isiT (by rfl) (T.no "isinstance" (by decide)) boot_isinstance (pa_cons (pv 4) (pa_cons (pe_tup (pa_cons (pe_bltn (by rfl) (T.no "list" (by decide)) (u := .type "list") (by decide +kernel) (v := .ty "list") rfl) (pa_cons (pe_bltn (by rfl) (T.no "tuple" (by decide)) (u := .type "tuple") (by decide +kernel) (v := .ty "tuple") rfl) pa_nil))) pa_nil))))) (pw_or1 (pt_cmpR op_eq (pe_callB call_len_seq (by rfl) (T.no "len" (by decide)) boot_len (pa_cons (pv 4) pa_nil)) pe_int (nomark _))))).pt (pss_one (ps_ret pe_bl)) pss_nil)
      (pss_cons (ps_set (i := 5) nd rfl (Or.inr rfl) (pe_lst pa_nil))
      (pss_cons (ps_for (passes_of rfl) rfl (pi_sqA (pv 4)) (pg_name (i := 6) nd rfl (Or.inr rfl)) (pss_cons (ps_if ((pw_or (pt_not (pt_val (pe_callB call_isiT (by rfl) (T.no "isinstance" (by decide)) boot_isinstance (pa_cons (pv 6) (pa_cons (pe_tup (pa_cons (pe_bltn (by rfl) (T.no "list" (by decide)) (u := .type "list") (by decide +kernel) (v := .ty "list") rfl) (pa_cons (pe_bltn (by rfl) (T.no "tuple" (by decide)) (u := .type "tuple") (by decide +kernel) (v := .ty "tuple") rfl) pa_nil))) pa_nil))))) (pw_or1 (pt_cmpR op_ne (pe_callB call_len_seq (by rfl) (T.no "len" (by decide)) boot_len (pa_cons (pv 6) pa_nil)) pe_int (nomark _))))).pt (pss_one (ps_ret pe_bl)) pss_nil)
      (pss_cons (ps_for (passes_of rfl) rfl (pi_sq (pv 6)) (pg_name (i := 7) nd rfl (Or.inl rfl)) (pss_one (ps_if ((pw_or (pt_not (pt_val (pe_callB call_isiT (by rfl) (T.no "isinstance" (by decide)) boot_isinstance (pa_cons (pv 7) (pa_cons (pe_tup (pa_cons (pe_bltn (by rfl) (T.no "list" (by decide)) (u := .type "list") (by decide +kernel) (v := .ty "list") rfl) (pa_cons (pe_bltn (by rfl) (T.no "tuple" (by decide)) (u := .type "tuple") (by decide +kernel) (v := .ty "tuple") rfl) pa_nil))) pa_nil))))) (pw_or1 (pt_cmpR (op_neD (hu64 hr)) (pe_lc (own := [("_law_number", 10)]) (g := gName 10) (tt := tOr (tNot (tB (tCB (rIsi K) (tCons (tVar 10) (tCons (tC (.ty "int")) tNil))))) (tB (tCB (rIsi K) (tCons (tVar 10) (tCons (tC (.ty "bool")) tNil))))) (te := tVar 10) rfl nd (pi_sq (pv 7)) (blkOk_by (N := ["_law_tables_here", "_law_first", "_law_rounds", "_law_known", "_law_value", "_law_some", "_law_one", "_law_part", "_law_states", "_law_other", "_law_number"]) (sc := defScope sDue) (by decide +kernel)) (fun _ _ _ _ _ => (pg_name (i := 10) nd rfl (Or.inl rfl))) (fun _ _ _ _ _ => (pts_one ((pw_or (pt_not (pt_val (pe_callB call_isi (by rfl) (T.no "isinstance" (by decide)) boot_isinstance (pa_cons (pv 10) (pa_cons (pe_bltn (by rfl) (T.no "int" (by decide)) (u := .type "int") (by decide +kernel) (v := .ty "int") rfl) pa_nil))))) (pw_or1 (pt_val (pe_callB call_isi (by rfl) (T.no "isinstance" (by decide)) boot_isinstance (pa_cons (pv 10) (pa_cons (pe_bltn (by rfl) (T.no "bool" (by decide)) (u := .type "bool") (by decide +kernel) (v := .ty "bool") rfl) pa_nil))))))).pt)) (fun _ _ _ _ _ => (pv 10))) (pe_lst pa_nil) (nomark _))))).pt (pss_one (ps_ret pe_bl)) pss_nil)))
      (pss_one (ps_expr (pe_bm PySem.F.plainAttrs_list PySem.F.slot_list_append PySem.F.type_list_append mt_append (pv 5) (pa_cons (pe_tup (pa_cons (pe_callTy cr_tup (by rfl) (T.no "tuple" (by decide)) boot_tuple (pa_cons (pe_ix ix_seq (pv 6) pe_int (fun _ _ => rfl)) pa_nil)) (pa_cons (pe_callTy cr_tup (by rfl) (T.no "tuple" (by decide)) boot_tuple (pa_cons (pe_ix ix_seq (pv 6) pe_int (fun _ _ => rfl)) pa_nil)) pa_nil))) pa_nil)))))))
      (pss_cons (ps_if ((pw_or (pt_cmpR op_ne (pe_lenSetN (hu64 hr) (by rfl) (T.no "len" (by decide)) (by rfl) (T.no "set" (by decide)) (pv 5)) (pe_callB call_len_seq (by rfl) (T.no "len" (by decide)) boot_len (pa_cons (pv 5) pa_nil)) (nomark _)) (pw_or1 (pt_cmpR (op_neD (hu64 hr)) (pe_lc (own := [("_law_one", 6)]) (g := gName 6) (tt := tTest (tOp (rInN P w true) (tVar 6) (tVar 3))) (te := tVar 6) rfl nd (pi_list (pv 5)) (blkOk_by (N := ["_law_tables_here", "_law_first", "_law_rounds", "_law_known", "_law_value", "_law_some", "_law_one", "_law_part", "_law_states", "_law_other", "_law_number"]) (sc := defScope sDue) (by decide +kernel)) (fun _ _ _ _ _ => (pg_name (i := 6) nd rfl (Or.inl rfl))) (fun _ _ _ _ _ => (pts_one (pt_cmpR (op_notInN (hu64 hr)) (pv 6) (pv 3) (by rfl)))) (fun _ _ _ _ _ => (pv 6))) (pe_lst pa_nil) (nomark _))))).pt (pss_one (ps_ret pe_bl)) pss_nil)
      (pss_cons (ps_set (i := 8) nd rfl (Or.inr rfl) (pcall D__law_reached hr (by decide) (pa_cons (pv 0) (pa_cons (pv 1) pa_nil))))
      (pss_cons (ps_for (passes_of rfl) rfl (pi_list (pv 5)) (pg_name (i := 6) nd rfl (Or.inr rfl)) (pss_one (ps_if (pt_cmpR (op_neD (hu64 hr)) (pe_lc (own := [("_law_other", 9)]) (g := gName 9) (tt := tTest (tOp (rNotInD K) (tCall (spBeh K) [] (fun _ _ _ => False) (tCons (tVar 8) (tCons (tVar 2) (tCons (tVar 6) (tCons (tVar 9) tNil))))) (tVar 5))) (te := tVar 9) rfl nd (pi_list (pv 5)) (blkOk_by (N := ["_law_tables_here", "_law_first", "_law_rounds", "_law_known", "_law_value", "_law_some", "_law_one", "_law_part", "_law_states", "_law_other", "_law_number"]) (sc := defScope sDue) (by decide +kernel)) (fun _ _ _ _ _ => (pg_name (i := 9) nd rfl (Or.inl rfl))) (fun _ _ _ _ _ => (pts_one (pt_cmpR (op_notInD (hu65 hr)) (pcall D__law_behind hr (by decide) (pa_cons (pv 8) (pa_cons (pv 2) (pa_cons (pv 6) (pa_cons (pv 9) pa_nil))))) (pv 5) (by rfl)))) (fun _ _ _ _ _ => (pv 9))) (pe_lst pa_nil) (nomark _)) (pss_one (ps_ret pe_bl)) pss_nil)))
      (pss_one (ps_ret (pe_cmpR (op_eqD (hu64 hr)) (pe_lc (own := [("_law_one", 6)]) (g := gName 6) (tt := tAnd (tTest (tOp rEq (tCB (rSumT K) (tCons (tOp (rIxT K) (tVar 6) (tC (.int 1))) tNil)) (tC (.int 0)))) (tTest (tOp rNe (tOp (rIxT K) (tOp (rIxT K) (tVar 6) (tC (.int 0))) (tBM K "list" (rLIdx K) (tVar 8) (tCons (tVar 1) tNil))) (tVar 1)))) (te := tVar 6) rfl nd (pi_list (pv 5)) (blkOk_by (N := ["_law_tables_here", "_law_first", "_law_rounds", "_law_known", "_law_value", "_law_some", "_law_one", "_law_part", "_law_states", "_law_other", "_law_number"]) (sc := defScope sDue) (by decide +kernel)) (fun _ _ _ _ _ => (pg_name (i := 6) nd rfl (Or.inl rfl))) (fun _ _ _ _ _ => (pts_one ((pw_and (pt_cmpR op_eq (pe_callB (cr_sumT rfl) (by rfl) (T.no "sum" (by decide)) boot_sum (pa_cons (pe_ix ix_tup (pv 6) pe_int (fun _ _ => rfl)) pa_nil)) pe_int (nomark _)) (pw_and1 (pt_cmpR op_ne (pe_ix ix_tup (pe_ix ix_tup (pv 6) pe_int (fun _ _ => rfl)) (pe_bm PySem.F.plainAttrs_list PySem.F.slot_list_index PySem.F.type_list_index mt_lidx (pv 8) (pa_cons (pv 1) pa_nil)) (fun _ _ => rfl)) (pv 1) (nomark _))))).pt)) (fun _ _ _ _ _ => (pv 6))) (pe_lst pa_nil) (nomark _)))))))))), ?_⟩
    have qf : keptD (rl ts f) ns W f d = false → ∀ H', Ex H H' → Q (.bl false) H' := fun e H' h => by
      have := q H' h
      rw [e] at this
      exact this
    refine ⟨_, rfl, by show 2 ≤ sizeLine; decide, fun t ht => ⟨v, t, _, _, _, _, rfl, upd_same, .cons (.ty _) (.cons (.ty _) .nil), TyX.up (tyx rv) ht, kitSeq (tyD_in rv), _, rfl, ?_⟩⟩
    have e1 := Ex.new (o := .tup [V.ty "list", .ty "tuple"]) ht
    generalize upd H t (.tup [V.ty "list", .ty "tuple"]) = H1 at e1
    cases e0 : seqI d with
    | none =>
      have en : keptD (rl ts f) ns W f d = false := by unfold keptD closedD; rw [e0]
      rw [seqI_none rv e0]
      exact itT rfl (itT rfl (qf en _ e1))
    | some ds =>
    obtain ⟨et, a, xs, b, rfl, ha, ra⟩ := seqI_some rv e0
    rw [et]
    have few' := few ds e0
    have fitds := fit.seq e0
    have smds := (sm_seq sm e0).2
    refine itF rfl ⟨_, rfl, _, _, rfl, sqO_v (e1 _ _ ha), rfl, _, rfl, ?_⟩
    rw [ra.length]
    by_cases hl : ds = []
    · subst hl
      have en : keptD (rl ts f) ns W f d = false := by unfold keptD closedD; rw [e0]
      exact itT (by simp) (qf en _ e1)
    have hlp : 0 < ds.length := List.length_pos_iff.mpr hl
    refine itF (eqF (by omega)) ?_
    refine ⟨by decide, fun L hL => ?_⟩
    have e2 := e1.tr (Ex.new (o := .lst []) hL)
    have hL0 : H L = none := e1.back hL
    refine ⟨_, rfl, a, xs, rfl, sqO_v (e2 _ _ ha), fun J hJ => ?_⟩
    obtain ⟨C, Wk, hC⟩ := hJ _ rfl
    have badF : ∀ {d1 : PyData}, d1 ∈ ds → twoZ d1 = none → ∀ H', Ex H H' → Q (.bl false) H' := fun hm h => qf (kept_none e0 (told_bad hm h))
    refine for_it Wk (fun i σ H' => ∃ (vs : List V) (ZZ : List (List Int × List Int)) (x6 x7 x8 x9 x10 : Option V), σ = [some (.ref p), some (.int (f : Nat)), some (.ref r), some (.ref k), some (.ref a), some (.ref L), x6, x7, x8, x9, x10] ∧ Ex H H' ∧ H' L = some (.lst vs) ∧ RAll H' vs (ZZ.map zD) ∧ (ds.take i).map twoZ = ZZ.map some) ?_ (fun i σ H' _ h => ?_) ?_ ?_
    · exact ⟨[], [], _, _, _, _, _, rfl, e2, upd_same, .nil, by simp⟩
    · obtain ⟨vs, ZZ, x6, x7, x8, x9, x10, rfl, e3, _⟩ := h
      exact hC H' fun o e => by rw [← e, e2 _ _ ha]; exact e3 _ _ ha
    · rintro i xv σ H2 H2' hi ⟨vs, ZZ, x6, x7, x8, x9, x10, rfl, e3, hL3, rz, hz⟩ ⟨rfl, hx⟩
      obtain ⟨d1, h1, r1⟩ := RAll.get ra hx
      have d1m := List.mem_of_getElem? h1
      have r1' := r1.ex e3
      refine ⟨_, rfl, by show 2 ≤ sizeLine; decide, fun t ht => ⟨xv, t, _, _, _, _, rfl, upd_same, .cons (.ty _) (.cons (.ty _) .nil), TyX.up (tyx r1') ht, kitSeq (tyD_in r1'), _, rfl, ?_⟩⟩
      have e4 := Ex.new (o := .tup [V.ty "list", .ty "tuple"]) ht
      generalize upd H2' t (.tup [V.ty "list", .ty "tuple"]) = H4 at e4
      cases eq1 : seqI d1 with
      | none =>
        rw [seqI_none r1 eq1]
        exact itT rfl (itT rfl (badF d1m (twoZ_seq eq1) _ (e3.tr e4)))
      | some es =>
      obtain ⟨et1, a1, xs1, b1, rfl, ha1, ra1⟩ := seqI_some r1 eq1
      rw [et1]
      refine itF rfl ⟨_, rfl, _, _, rfl, sqO_v (e4 _ _ (e3 _ _ ha1)), rfl, _, rfl, ?_⟩
      rw [ra1.length]
      by_cases hl2 : es.length = 2
      rotate_left
      · exact itT (by simp; omega) (badF d1m (twoZ_len eq1 hl2) _ (e3.tr e4))
      obtain ⟨u1, u2, rfl⟩ : ∃ u1 u2, es = [u1, u2] := by
        rcases es with _ | ⟨x, _ | ⟨y, _ | ⟨z, r⟩⟩⟩ <;> first | exact ⟨_, _, rfl⟩ | (simp at hl2)
      refine itF (by rfl) ?_
      have fit1 := (fitds d1 d1m).seq eq1
      have sm1 := (sm_seq (smds d1 d1m) eq1).2
      have e34 := e3.tr e4
      have tz := twoZ_pair eq1
      have badU : ∀ u ∈ [u1, u2], pI u = none → ∀ H', Ex H H' → Q (.bl false) H' := fun u hu hn => badF d1m (by
        rw [tz]
        rcases List.mem_cons.mp hu with e | hu
        · subst e; rw [hn]
        · rw [← List.mem_singleton.mp hu, hn]; cases pI u1 <;> rfl)
      refine ⟨_, rfl, a1, xs1, rfl, sqO_v (e34 _ _ ha1), fun J1 hJ1 => ?_⟩
      obtain ⟨C1, Wk1, hC1⟩ := hJ1 _ rfl
      refine for_it Wk1 (fun j σ H' => (∃ x7 x8 x9 x10, σ = [some (.ref p), some (.int (f : Nat)), some (.ref r), some (.ref k), some (.ref a), some (.ref L), some (.ref a1), x7, x8, x9, x10]) ∧ Ex H4 H' ∧ ∀ u ∈ [u1, u2].take j, pI u ≠ none) ⟨⟨_, _, _, _, rfl⟩, Ex.rfl', fun u hu => by simp at hu⟩ (fun j σ H' _ h => hC1 H' h.2.1) ?_ ?_
      · rintro j yv σ H5 H5' hj ⟨⟨x7, x8, x9, x10, rfl⟩, e5, hall⟩ ⟨rfl, hy⟩
        obtain ⟨u, hu, ru⟩ := RAll.get ra1 hy
        have um := List.mem_of_getElem? hu
        have e35 := e34.tr e5
        have ru' := ru.ex e35
        refine ⟨_, rfl, by show 2 ≤ sizeLine; decide, fun t ht => ⟨yv, t, _, _, _, _, rfl, upd_same, .cons (.ty _) (.cons (.ty _) .nil), TyX.up (tyx ru') ht, kitSeq (tyD_in ru'), _, rfl, ?_⟩⟩
        have e6 := Ex.new (o := .tup [V.ty "list", .ty "tuple"]) ht
        generalize upd H5' t (.tup [V.ty "list", .ty "tuple"]) = H6 at e6
        have e36 := e35.tr e6
        cases equ : seqI u with
        | none =>
          rw [seqI_none ru equ]
          exact itT rfl (itT rfl (badU u um (by unfold pI; rw [equ]) _ e36))
        | some ys =>
        obtain ⟨etu, aa, xx, bb, rfl, haa, raa⟩ := seqI_some ru equ
        rw [etu]
        have pu : pI u = intsI ys := by unfold pI; rw [equ]
        have ly := (sm_seq (sm1 u um) equ).1
        refine itF rfl ⟨_, rfl, aa, xx, rfl, sqO_v (e36 _ _ haa), fun J2 hJ2 D hD => ?_⟩
        obtain ⟨C2, Wk2, hC2⟩ := hJ2 _ rfl
        refine lc_pick Wk2 hD ys id (fun y => !isIntD y) (by rw [List.map_id]; exact raa.ex e36) raa.length.symm (by rw [raa.length, sizeLine_eq]; omega) hC2 ?_ ?_
        · intro q zv H7 dz Post Pf hq e7 hz hdz rz kT kF
          have rz' : R H7 zv dz := rz
          refine ⟨rfl, _, rfl, zv, .ty "int", .type (tyD dz), .type "int", _, rfl, .ty _, tyx rz', kitInt rz', _, rfl, ?_⟩
          cases rz' with
          | int i => exact itF rfl ⟨_, rfl, _, _, .type "int", .type "bool", _, rfl, .ty _, .base (.int i), kit_ty (r := false) (by decide +kernel), _, rfl, itF rfl (kF rfl _ Ex.rfl')⟩
          | bl b => exact itF rfl ⟨_, rfl, _, _, .type "bool", .type "bool", _, rfl, .ty _, .base (.bl b), kit_ty (r := true) (by decide +kernel), _, rfl, itT rfl ⟨_, rfl, kT rfl _ Ex.rfl'⟩⟩
          | non => exact itT rfl (itT rfl ⟨_, rfl, kT rfl _ Ex.rfl'⟩)
          | str => exact itT rfl (itT rfl ⟨_, rfl, kT rfl _ Ex.rfl'⟩)
          | lst => exact itT rfl (itT rfl ⟨_, rfl, kT rfl _ Ex.rfl'⟩)
          | tup => exact itT rfl (itT rfl ⟨_, rfl, kT rfl _ Ex.rfl'⟩)
        · intro acc H7 e7 hD7 racc
          rw [List.map_id] at racc
          refine ⟨by decide, fun p5 hp5 => ne_nil (n := 8) hD7 racc hp5 (fun x hx => ?_) (by decide) ⟨_, rfl, ?_⟩⟩
          · exact ⟨((fit1 u um).seq equ x ((List.mem_filter.mp hx).1)).lay, Nat.le_trans ((fit1 u um).seq equ x ((List.mem_filter.mp hx).1)).dep (by decide)⟩
          have e37 := e36.tr (e7.tr (Ex.new (o := .lst []) hp5))
          have em : (ys.filter fun y => !isIntD y).isEmpty = allI ys := by
            exact bad_none ys
          rw [em]
          cases eA : allI ys with
          | false => exact itT rfl (badU u um (by rw [pu]; exact intsI_none.mpr eA) _ e37)
          | true =>
            refine itF rfl ⟨⟨_, _, _, _, rfl⟩, e5.tr (e6.tr (e7.tr (Ex.new hp5))), fun z hz => ?_⟩
            rw [takeNx hu] at hz
            rcases List.mem_append.mp hz with h | h
            · exact hall z h
            · rw [List.mem_singleton.mp h, pu]
              intro hn
              rw [intsI_none.mp hn] at eA
              cases eA
      · rintro σ H5 ⟨⟨x7, x8, x9, x10, rfl⟩, e5, hall⟩
        rw [show xs1.length = 2 from ra1.length] at hall
        have p1 := hall u1 (by simp)
        have p2 := hall u2 (by simp)
        obtain ⟨is, his⟩ : ∃ is, pI u1 = some is := Option.ne_none_iff_exists'.mp p1
        obtain ⟨js, hjs⟩ : ∃ js, pI u2 = some js := Option.ne_none_iff_exists'.mp p2
        rw [his, hjs] at tz
        have e35 := e34.tr e5
        cases ra1 with
        | @cons v1 vs1 _ _ ru1 ra1 =>
        cases ra1 with
        | @cons v2 vs2 _ _ ru2 ra1 =>
        cases ra1
        have part : ∀ {u : PyData} {z : V} {is : List Int}, R H z u → pI u = some is → ∃ aa bb xx, z = .ref aa ∧ H aa = some (sqO bb xx) ∧ RAll H xx (is.map PyData.int) := fun {u z is} ru hi => by
          unfold pI at hi
          cases equ : seqI u with
          | none => rw [equ] at hi; cases hi
          | some ys =>
            rw [equ] at hi
            obtain ⟨_, aa, xx, bb, e, haa, raa⟩ := seqI_some ru equ
            rw [intsI_some hi] at raa
            exact ⟨aa, bb, xx, e, haa, raa⟩
        obtain ⟨c1, bb1, cx1, rfl, hc1, rc1⟩ := part ru1 his
        obtain ⟨c2, bb2, cx2, rfl, hc2, rc2⟩ := part ru2 hjs
        have hL5 : H5 L = some (.lst vs) := e5 _ _ (e4 _ _ hL3)
        refine ⟨_, rfl, .inl ⟨rfl, _, SqL.of hL5⟩, ?_⟩
        refine ⟨_, rfl, ix_sq (j := 0) (sqO_v (e35 _ _ ha1)) rfl (tnil (tuple_sqR (e35 _ _ hc1) (rc1.ex e35) fun v5 H6 e6 r5 => ?_))⟩
        have e36 := e35.tr e6
        refine ⟨_, rfl, ix_sq (j := 1) (sqO_v (e36 _ _ ha1)) rfl (tnil (tuple_sqR (e36 _ _ hc2) (rc2.ex e36) fun v6 H7 e7 r6 => tnil ⟨by show 2 ≤ sizeLine; decide, fun t ht => ?_⟩))⟩
        have e58 : Ex H5 (upd H7 t (.tup [v5, v6])) := e6.tr (e7.tr (Ex.new ht))
        have rt : R (upd H7 t (.tup [v5, v6])) (.ref t) (zD (is, js)) := .tup upd_same (.cons (r5.ex (e7.tr (Ex.new ht))) (.cons (r6.ex (Ex.new ht)) .nil))
        generalize upd H7 t (.tup [v5, v6]) = H8 at e58 rt
        have hL8 := e58 _ _ hL5
        have lz : ZZ.length = i := by
          have := congrArg List.length hz
          rw [List.length_map, List.length_map, List.length_take] at this
          have := (List.getElem?_eq_some_iff.mp h1).1
          omega
        have il := (List.getElem?_eq_some_iff.mp h1).1
        have lv : vs.length = i := by rw [rz.length, List.length_map, lz]
        refine ⟨L, vs, _, rfl, rfl, hL8, by rw [lv, sizeLine_eq]; omega, ?_⟩
        have tx : Tx H8 (upd H8 L (.lst (vs ++ [.ref t]))) := Tx.put hL8 fun xs z => by cases z
        have rz8 : RAll H8 vs (ZZ.map zD) := rz.ex (e4.tr (e5.tr e58))
        refine ⟨vs ++ [.ref t], ZZ ++ [(is, js)], _, _, _, _, _, rfl, (e35.tr e58).mut hL0, upd_same, ?_, ?_⟩
        · rw [List.map_append]
          exact RAll.app (RAll.tx tx _ _ (noLs_z ZZ) rz8) (RAll.one (R.tx tx _ _ (by have := noLs_z [(is, js)]; simpa [noLs] using this) rt))
        · rw [takeNx h1, List.map_append, List.map_append, hz, List.map_cons, tz]; rfl
    · rintro σ H2 ⟨vs, ZZ, x6, x7, x8, x9, x10, rfl, e3, hL3, rz, hz⟩
      rw [ra.length, List.take_length] at hz
      have lZ : ZZ.length = ds.length := by have := congrArg List.length hz; rw [List.length_map, List.length_map] at this; exact this.symm
      have lv : vs.length = ZZ.length := by rw [rz.length, List.length_map]
      have rk : RAll H2 vs ((ZZ.map kzz).map NestedKey.data) := by
        rw [List.map_map, show (NestedKey.data ∘ kzz) = zD from funext kzz_data]
        exact rz
      have nokept : (¬ (ZZ.map kzz).Nodup ∨ ∃ z ∈ ZZ, ∀ y ∈ W, kD y ≠ kzz z) → keptD (rl ts f) ns W f d = false := fun h => by
        by_cases hall : ∃ z ∈ ZZ, ∀ y ∈ W, kD y ≠ kzz z
        · obtain ⟨z, h1, h2⟩ := hall
          exact kept_none e0 (told_out hz h1 h2)
        · obtain ⟨T, t1, t2⟩ := told_zz (W := W) hz fun z hzz => Classical.byContradiction fun hn => hall ⟨z, hzz, fun y hy e => hn ⟨y, hy, e⟩⟩
          refine kept_no e0 t1 fun hn => ?_
          rcases h with h | h
          · exact h (by rw [← t2]; exact (nodup_inj fun _ _ => kD_inj).mpr hn.1)
          · exact hall h
      refine ⟨_, rfl, L, vs, ZZ.map kzz, rfl, SqL.of hL3, rk, fun kk hk => ?_, by rw [List.length_map]; omega, fun m hm64 hm => ?_⟩
      · obtain ⟨z, _, rfl⟩ := List.mem_map.mp hk
        exact ⟨kZ_depth _ _, noX_z z, by show 1 ≤ NestedKey.depth (.tup _); rw [NestedKey.depth]; omega⟩
      rw [List.length_map] at hm
      refine ⟨_, rfl, L, vs, rfl, .inl (SqL.of hL3), rfl, _, rfl, ?_⟩
      rw [lv]
      by_cases hnd : (ZZ.map kzz).Nodup
      rotate_left
      · refine itT ?_ (itT rfl (qf (nokept (.inl hnd)) _ e3))
        have : m ≠ ZZ.length := fun z => hnd (hm.mp z)
        simp; omega
      have hmZ := hm.mpr hnd
      subst hmZ
      refine itF (by simp) ?_
      refine ⟨_, rfl, L, rfl, ⟨vs, SqL.of hL3⟩, fun D hD => ?_⟩
      refine lc_pick walk_list hD ZZ zD (fun z => decide (∀ y ∈ W, kD y ≠ kzz z)) rz lv.symm (by rw [lv, sizeLine_eq]; omega) (fun H' e => SqL.of (e _ _ hL3)) ?_ ?_
      · intro i zv H4 z Post Pf hi e4 hzv hzz rzz kT kF
        have ez : ∃ az, zv = .ref az := by unfold zD at rzz; cases rzz; exact ⟨_, rfl⟩
        obtain ⟨az, rfl⟩ := ez
        refine ⟨rfl, _, rfl, _, rfl, az, k, kzz z, kvK kD W, rfl, rfl, by rw [kzz_data]; exact rzz, kZ_depth _ _, dn_ex dn (e3.tr e4), _, rfl, ?_⟩
        rw [valV_find]
        cases ef : W.find? fun y => decide (kD y = kzz z) with
        | none => exact itT rfl ⟨_, rfl, kT (decide_eq_true fun y hy e => by have := List.find?_eq_none.mp ef y hy; simp [e] at this) _ Ex.rfl'⟩
        | some y => exact itF rfl (kF (decide_eq_false fun h => h y (List.mem_of_find?_eq_some ef) (of_decide_eq_true (by simpa using List.find?_some ef))) _ Ex.rfl')
      intro acc H4 e4 hD4 racc
      refine ⟨by decide, fun p5 hp5 => ne_nil (n := 2) hD4 racc hp5 (fun x hx => ?_) (by decide) ⟨_, rfl, ?_⟩⟩
      · obtain ⟨z, _, rfl⟩ := List.mem_map.mp hx
        exact fit_z z
      have e5 := e3.tr (e4.tr (Ex.new (o := .lst []) hp5))
      have hL5 : (upd H4 p5 (.lst [])) L = some (.lst vs) := (Ex.new hp5) _ _ (e4 _ _ hL3)
      have rz5 : RAll (upd H4 p5 (.lst [])) vs (ZZ.map zD) := rz.ex (e4.tr (Ex.new hp5))
      generalize upd H4 p5 (.lst []) = H5 at e5 hL5 rz5
      by_cases hall : ∃ z ∈ ZZ, ∀ y ∈ W, kD y ≠ kzz z
      · refine itT ?_ (qf (nokept (.inr hall)) _ e5)
        obtain ⟨z, h1, h2⟩ := hall
        have hm0 : z ∈ ZZ.filter (fun z => decide (∀ y ∈ W, kD y ≠ kzz z)) := List.mem_filter.mpr ⟨h1, decide_eq_true h2⟩
        have hm := List.mem_map_of_mem (f := zD) hm0
        cases hq : (ZZ.filter fun z => decide (∀ y ∈ W, kD y ≠ kzz z)).map zD with
        | nil => rw [hq] at hm; cases hm
        | cons _ _ => rfl
      refine itF ?_ ?_
      · have : (ZZ.filter fun z => decide (∀ y ∈ W, kD y ≠ kzz z)) = [] := List.filter_eq_nil_iff.mpr fun z h1 h2 => hall ⟨z, h1, of_decide_eq_true h2⟩
        rw [this]; rfl
      obtain ⟨TT, t1, t2⟩ := told_zz (W := W) hz fun z hzz => Classical.byContradiction fun hn => hall ⟨z, hzz, fun y hy e => hn ⟨y, hy, e⟩⟩
      have ndT : TT.Nodup := (nodup_inj fun _ _ => kD_inj).mp (by rw [t2]; exact hnd)
      have wT := (toldAll_some t1).2.1
      have lT := (toldAll_some t1).2.2
      have ezz : ZZ.map zD = TT.map dD := by
        have := congrArg (List.map NestedKey.data) t2
        rw [List.map_map, List.map_map, show (NestedKey.data ∘ kzz) = zD from funext kzz_data, show (NestedKey.data ∘ kD) = dD from funext kD_data] at this
        exact this.symm
      rw [ezz] at rz5
      have vlT : vs.length = TT.length := by rw [lT, lv, lZ]
      refine ⟨_, rfl, _, rfl, p, ts, f, rfl, rp.ex e5, ok, hf, fun S H6 e6 hS => ?_⟩
      have e36 := e5.tr e6
      have hL6 := e6 _ _ hL5
      have r6 := rz5.ex e6
      obtain ⟨r', er, hrn⟩ := r_ln rr
      cases er
      have m8 := ok.m8
      have lrl := Mx.rl_len ok hf
      refine ⟨_, rfl, L, rfl, ⟨vs, SqL.of hL6⟩, ?_⟩
      refine for_it walk_list (fun i σ H' => (∃ y6 y7 y9 y10, σ = [some (.ref p), some (.int (f : Nat)), some (.ref r), some (.ref k), some (.ref a), some (.ref L), y6, y7, some (.ref S), y9, y10]) ∧ Ex H6 H' ∧ ∀ x ∈ TT.take i, ∀ y ∈ TT, behind (rl ts f) ns x y ∈ TT) ⟨⟨_, _, _, _, rfl⟩, Ex.rfl', fun x hx => by simp at hx⟩ (fun i σ H' _ h => SqL.of (h.2.1 _ _ hL6)) ?_ ?_
      · rintro i xv σ H7 H7' hi ⟨⟨y6, y7, y9, y10, rfl⟩, e7, hc⟩ ⟨rfl, hx⟩
        obtain ⟨d3, h3, r3⟩ := RAll.get (r6.ex e7) hx
        rw [List.getElem?_map] at h3
        cases hxT : TT[i]? with
        | none => rw [hxT] at h3; cases h3
        | some x =>
        rw [hxT] at h3
        cases h3
        have xT := List.mem_of_getElem? hxT
        have hL7 := e7 _ _ hL6
        have e37 := e36.tr e7
        refine ⟨_, rfl, L, rfl, ⟨vs, SqL.of hL7⟩, fun D2 hD2 => ?_⟩
        refine lc_pick walk_list hD2 TT dD (fun y => decide (behind (rl ts f) ns x y ∉ TT)) (r6.ex e7) vlT.symm (by rw [vlT, lT, sizeLine_eq]; omega) (fun H' e => SqL.of (e _ _ hL7)) ?_ ?_
        · intro j yv H8 y Post Pf hj e8 hyv hyT ry kT kF
          have fx := fW x (wT x xT)
          have fy := fW y (wT y (List.mem_of_getElem? hyT))
          have e38 := e37.tr e8
          refine ⟨rfl, _, rfl, _, rfl, _, rfl, _, rfl, S, r, _, _, rl ts f, ns, x, y, rfl, e8 _ _ (e7 _ _ hS), e38 _ _ hrn, r3.ex e8, ry, by rw [fx.l]; omega, fx.s, fy.l, fx.c, fy.c, ln, h0, fun v9 H9 e9 r9 => ?_⟩
          have hL9 := e9 _ _ (e8 _ _ hL7)
          refine ⟨_, rfl, dD (behind (rl ts f) ns x y), TT.map dD, r9.dp _ _, .lst (SqL.of hL9) (RAll.dp _ _ (r6.ex (e7.tr (e8.tr e9)))), ?_, Fit.list (n := 2) (fun z hz => ?_) (by decide), _, rfl, ?_⟩
          · unfold SeqAt.shaped
            rw [(fit_d _).lay, Bool.true_and]
            exact decide_eq_true (Nat.le_trans (fit_d _).dep (by decide))
          · obtain ⟨z', _, rfl⟩ := List.mem_map.mp hz
            exact fit_d z'
          rw [any_d]
          by_cases hb : behind (rl ts f) ns x y ∈ TT
          · exact itF (by rw [decide_eq_true hb]; rfl) (kF (decide_eq_false fun h => h hb) _ e9)
          · exact itT (by rw [decide_eq_false hb]; rfl) ⟨_, rfl, kT (decide_eq_true hb) _ e9⟩
        · intro acc2 H8 e8 hD8 racc2
          refine ⟨by decide, fun p9 hp9 => ne_nil (n := 2) hD8 racc2 hp9 (fun z hz => ?_) (by decide) ⟨_, rfl, ?_⟩⟩
          · obtain ⟨z', _, rfl⟩ := List.mem_map.mp hz
            exact fit_d z'
          have e39 := e37.tr (e8.tr (Ex.new (o := .lst []) hp9))
          by_cases hcl : ∀ y ∈ TT, behind (rl ts f) ns x y ∈ TT
          · refine itF ?_ ⟨⟨_, _, _, _, rfl⟩, e7.tr (e8.tr (Ex.new hp9)), fun z hz => ?_⟩
            · have : (TT.filter fun y => decide (behind (rl ts f) ns x y ∉ TT)) = [] := List.filter_eq_nil_iff.mpr fun z h1 h2 => (of_decide_eq_true h2) (hcl z h1)
              rw [this]; rfl
            · rw [takeNx hxT] at hz
              rcases List.mem_append.mp hz with h | h
              · exact hc z h
              · rw [List.mem_singleton.mp h]; exact hcl
          · refine itT ?_ (qf (kept_no e0 t1 fun hn => hcl (hn.2 x xT)) _ e39)
            obtain ⟨y, hy⟩ := Classical.not_forall.mp hcl
            obtain ⟨hy1, hy2⟩ := Classical.not_imp.mp hy
            have hm0 : y ∈ TT.filter (fun y => decide (behind (rl ts f) ns x y ∉ TT)) := List.mem_filter.mpr ⟨hy1, decide_eq_true hy2⟩
            have hm := List.mem_map_of_mem (f := dD) hm0
            cases hq : (TT.filter fun y => decide (behind (rl ts f) ns x y ∉ TT)).map dD with
            | nil => rw [hq] at hm; cases hm
            | cons _ _ => rfl
      · rintro σ H7 ⟨⟨y6, y7, y9, y10, rfl⟩, e7, hc⟩
        rw [vlT, List.take_length] at hc
        have e37 := e36.tr e7
        have hL7 := e7 _ _ hL6
        have hS7 := e7 _ _ hS
        have hlf : f ∈ rl ts f := Mx.rl_first ok hf
        refine ⟨_, rfl, L, rfl, ⟨vs, SqL.of hL7⟩, fun D2 hD2 => ?_⟩
        refine lc_pick walk_list hD2 TT dD (movedB (rl ts f) f) (r6.ex e7) vlT.symm (by rw [vlT, lT, sizeLine_eq]; omega) (fun H' e => SqL.of (e _ _ hL7)) ?_ ?_
        · intro j yv H8 x Post Pf hj e8 hyv hxT rx kT kF
          have fx := fW x (wT x (List.mem_of_getElem? hxT))
          obtain ⟨a5, i5, c5, rfl, h5, hi5, hc5⟩ := r_d rx
          refine ⟨rfl, _, rfl, _, _, _, _, rfl, rfl, SqT.of h5, atI_nat (j := 1) rfl, c5, x.2.map (fun n : Nat => (n : Int)), rfl, SqT.of (by rw [← nV_int]; exact hc5), rfl, _, rfl, ?_⟩
          have es := sum_n x.2
          cases ez : x.2.all (fun n => decide (n = 0)) with
          | false =>
            rw [ez] at es
            exact itF (by have := of_decide_eq_false es; simpa using this) (itF rfl (kF (by unfold movedB; rw [ez]; rfl) _ Ex.rfl'))
          | true =>
            rw [ez] at es
            have hlt : (rl ts f).idxOf f < x.1.length := by rw [fx.l]; exact List.idxOf_lt_length_of_mem hlf
            have hxa : x.1[(rl ts f).idxOf f]? = some (x.1.getD ((rl ts f).idxOf f) 0) := by rw [List.getD_eq_getElem?_getD, List.getElem?_eq_getElem hlt]; rfl
            refine itT (by have := of_decide_eq_true es; simpa using this) ⟨_, rfl, _, _, _, _, rfl, rfl, SqT.of h5, atI_nat (j := 0) rfl, _, rfl, .inl ⟨rfl, _, SqL.of (e8 _ _ hS7)⟩, _, rfl, S, (rl ts f).map (fun n : Nat => (n : Int)), f, rfl, rfl, SqL.of (by rw [← nV_int]; exact e8 _ _ hS7), List.mem_map_of_mem hlf, _, _, _, .int (x.1.getD ((rl ts f).idxOf f) 0 : Nat), rfl, rfl, SqT.of hi5, by rw [idx_cast]; exact atI_nat (nV_at hxa), _, rfl, rfl, _, rfl, ?_⟩
            by_cases hq : x.1.getD ((rl ts f).idxOf f) 0 = f
            · exact itF (by rw [hq]; simp) (kF (by unfold movedB; rw [ez, hq]; simp) _ Ex.rfl')
            · exact itT (by rw [decide_eq_false (fun e => hq (by have := V.int.inj e; omega))]; rfl) ⟨_, rfl, kT (by unfold movedB; rw [ez, decide_eq_true hq]; rfl) _ Ex.rfl'⟩
        · intro acc2 H8 e8 hD8 racc2
          refine ⟨by decide, fun p9 hp9 => eq_nil (n := 2) hD8 racc2 hp9 (fun z hz => ?_) (by decide) ?_⟩
          · obtain ⟨z', _, rfl⟩ := List.mem_map.mp hz
            exact fit_d z'
          have ek := kept_yes e0 hl t1 ⟨ndT, hc⟩ (f := f)
          have em : ((TT.filter (movedB (rl ts f) f)).map dD).isEmpty = (TT.filter (movedB (rl ts f) f)).isEmpty := by cases TT.filter (movedB (rl ts f) f) <;> rfl
          rw [em, ← ek]
          exact q _ (e37.tr (e8.tr (Ex.new hp9)))
end
end Onew
end
section
set_option maxRecDepth 100000
set_option maxHeartbeats 8000000
namespace Onew
open PySem PySem.Spec PyProof.Rows L2 G
open Mx (Tab im Rch rl rowF forgF doneOn Fm nextD nextP behind z3)
/-! ### values that are made of doings -/
def Sm (d : PyData) : Prop := smD d = true ∧ Fit 8 d
def SmV (H : Hp) (v : V) : Prop := ∃ d, R H v d ∧ Sm d
theorem SmV.ex {H H' : Hp} {v : V} (h : SmV H v) (e : Ex H H') : SmV H' v := let ⟨d, r, s⟩ := h; ⟨d, r.ex e, s⟩
theorem smDs_all : ∀ {ds : List PyData}, (∀ d ∈ ds, smD d = true) → smDs ds = true
  | [], _ => rfl
  | d :: ds, h => by rw [smDs, h d (.head _), smDs_all fun x hx => h x (.tail _ hx)]; rfl
theorem sm_pick {H : Hp} : ∀ {ys : List V}, (∀ y ∈ ys, SmV H y) → ∃ ds, RAll H ys ds ∧ ds.length = ys.length ∧ ∀ d ∈ ds, Sm d
  | [], _ => ⟨[], .nil, rfl, fun _ h => absurd h (by simp)⟩
  | y :: ys, h => by
    obtain ⟨d, r, s⟩ := h y (.head _)
    obtain ⟨ds, a, b, c⟩ := sm_pick fun z hz => h z (.tail _ hz)
    exact ⟨d :: ds, .cons r a, by simp [b], fun z hz => (List.mem_cons.mp hz).elim (fun e => e ▸ s) (c z)⟩
theorem sqD_seq (b : Bool) (ds : List PyData) : seqI (sqD b ds) = some ds := by cases b <;> rfl
theorem due_seq (b : Bool) {ds : List PyData} (hl : ds.length < 64) (h : ∀ d ∈ ds, Sm d) : DueOk (sqD b ds) := by
  have h1 := smDs_all fun d hd => (h d hd).1
  have h2 := lay_all fun d hd => (h d hd).2.lay
  have h3 := dep_all fun d hd => (h d hd).2.dep
  refine ⟨?_, ⟨?_, ?_⟩, fun xs e => ?_⟩
  · cases b <;> (show (decide (ds.length ≤ 5000) && smDs ds) = true; rw [h1, decide_eq_true (by omega)]; rfl)
  · cases b <;> (show PyData.canLay0 _ = true; unfold sqD; simp only [if_true, if_false, Bool.false_eq_true]; rw [PyData.canLay0]; exact h2)
  · cases b <;> (show PyData.depth _ ≤ 9; unfold sqD; simp only [if_true, if_false, Bool.false_eq_true]; rw [PyData.depth]; omega)
  · rw [sqD_seq] at e
    cases e
    exact hl
theorem due_at {H : Hp} {p : Addr} {b : Bool} {ys : List V} (hp : H p = some (sqO b ys)) (hl : ys.length < 64) (h : ∀ y ∈ ys, SmV H y) : ∃ d, R H (.ref p) d ∧ DueOk d := by
  obtain ⟨ds, a, l, c⟩ := sm_pick h
  refine ⟨sqD b ds, ?_, due_seq b (by omega) c⟩
  cases b with
  | true => exact .lst hp a
  | false => exact .tup hp a
/-- a doing of few states and kinds -/
abbrev Few (x : Doing) : Prop := 1 ≤ x.1.length ∧ x.1.length ≤ 8 ∧ x.2.length ≤ 4
theorem smDs_n : ∀ ns : List Nat, smDs (nD ns) = true
  | [] => rfl
  | n :: ns => by
    show (smD (.int (n : Nat)) && smDs (nD ns)) = true
    rw [smDs_n ns]; rfl
theorem sm_d {x : Doing} (h : Few x) : Sm (dD x) := by
  refine ⟨?_, (fit_d x).lay, Nat.le_trans (fit_d x).dep (by decide)⟩
  show (decide (2 ≤ 5000) && (smD (iD x.1) && (smD (iD x.2) && true))) = true
  have i : ∀ ns : List Nat, ns.length ≤ 5000 → smD (iD ns) = true := fun ns hn => by
    show (decide ((nD ns).length ≤ 5000) && smDs (nD ns)) = true
    rw [nD_len, smDs_n, decide_eq_true hn]; rfl
  rw [i x.1 (by omega), i x.2 (by omega)]
  decide
theorem few_depAll (ns : List Nat) : PyData.depthAll (nD ns) = 0 := by
  induction ns with
  | nil => rfl
  | cons n ns ih => show PyData.depthAll (.int (n : Nat) :: nD ns) = 0; rw [PyData.depthAll, ih]; rfl
/-- a tuple or list of ints -/
theorem sm_seqn (b : Bool) {ns : List Nat} (h : ns.length ≤ 5000) : smD (sqD b (nD ns)) = true ∧ Fit 1 (sqD b (nD ns)) := by
  have hd : decide ((nD ns).length ≤ 5000) = true := decide_eq_true (by rw [nD_len]; exact h)
  cases b with
  | true =>
    refine ⟨?_, ?_, ?_⟩
    · show (decide ((nD ns).length ≤ 5000) && smDs (nD ns)) = true; rw [smDs_n, hd]; rfl
    · show PyData.canLay0 (.list (nD ns)) = true; rw [PyData.canLay0]; exact canLay_n ns
    · show PyData.depth (.list (nD ns)) ≤ 1; rw [PyData.depth, few_depAll]; decide
  | false =>
    refine ⟨?_, ?_, ?_⟩
    · show (decide ((nD ns).length ≤ 5000) && smDs (nD ns)) = true; rw [smDs_n, hd]; rfl
    · show PyData.canLay0 (.tuple (nD ns)) = true; rw [PyData.canLay0]; exact canLay_n ns
    · show PyData.depth (.tuple (nD ns)) ≤ 1; rw [PyData.depth, few_depAll]; decide
/-- a pair (or two) of such -/
theorem sm_two {b : Bool} {d1 d2 : PyData} (h1 : smD d1 = true) (h2 : smD d2 = true) (f1 : Fit 4 d1) (f2 : Fit 4 d2) : Sm (sqD b [d1, d2]) := by
  have e1 := f1.lay; have e2 := f2.lay; have e3 := f1.dep; have e4 := f2.dep
  cases b with
  | true =>
    refine ⟨?_, ?_, ?_⟩
    · show (decide (2 ≤ 5000) && (smD d1 && (smD d2 && true))) = true; rw [h1, h2]; decide
    · show PyData.canLay0 (.list [d1, d2]) = true; simp only [PyData.canLay0, PyData.canLayAll0, e1, e2, Bool.and_true]
    · show PyData.depth (.list [d1, d2]) ≤ 8; simp only [PyData.depth, PyData.depthAll]; omega
  | false =>
    refine ⟨?_, ?_, ?_⟩
    · show (decide (2 ≤ 5000) && (smD d1 && (smD d2 && true))) = true; rw [h1, h2]; decide
    · show PyData.canLay0 (.tuple [d1, d2]) = true; simp only [PyData.canLay0, PyData.canLayAll0, e1, e2, Bool.and_true]
    · show PyData.depth (.tuple [d1, d2]) ≤ 8; simp only [PyData.depth, PyData.depthAll]; omega
theorem Fit.up {n m : Nat} {d : PyData} (h : Fit n d) (hm : n ≤ m) : Fit m d := ⟨h.lay, Nat.le_trans h.dep hm⟩
/-- the heap without what stands at D -/
def less (D : Addr) (H : Hp) : Hp := fun b => if b = D then none else H b
theorem less_ex {D : Addr} {H : Hp} : Ex (less D H) H := fun b o e => by
  unfold less at e
  by_cases h : b = D
  · rw [if_pos h] at e; cases e
  · rw [if_neg h] at e; exact e
theorem ex_less {D : Addr} {H H' : Hp} (h : H D = none) (e : Ex H H') : Ex H (less D H') := fun b o hb => by
  unfold less
  rw [if_neg (fun z => by rw [z, h] at hb; cases hb)]
  exact e b o hb
theorem less_upd {D : Addr} {H : Hp} {o : HO} : less D (upd H D o) = less D H := by
  funext b
  unfold less
  by_cases h : b = D
  · rw [if_pos h, if_pos h]
  · rw [if_neg h, if_neg h, upd_ne h]
theorem less_mono {D : Addr} {H H' : Hp} (e : Ex H H') : Ex (less D H) (less D H') := fun b o hb => by
  unfold less at hb ⊢
  by_cases h : b = D
  · rw [if_pos h] at hb; cases hb
  · rw [if_neg h] at hb ⊢; exact e b o hb
theorem less_at {D b : Addr} {H : Hp} (h : b ≠ D) : less D H b = H b := by unfold less; rw [if_neg h]
/-- a comprehension whose items may be new lists: what is said of them is said without the list that grows -/
theorem lc_growD {J : It} {n : Nat} {C : Hp → Prop} {Y : Nat → Hp → V → Hp → Prop} (W : Walk J n C Y) {g : TG} {te : TE} {vs : List Nat} {σ : L2.St} {H1 : Hp} {D : Addr} {Qd : Hp → Prop} (hD : H1 D = none) (hz : n ≤ sizeLine) (hC : ∀ H, Ex H1 H → C H) (Pe : Hp → V → Prop) (mono : ∀ H H' v, Ex H H' → Pe H v → Pe H' v)
    (step : ∀ i x H H' (Post : VK), i < n → Ex H1 H → H D ≠ none → Y i H x H' → (∀ y H4, Ex H H4 → Pe (less D H4) y → Post y H4) → g x (wipe σ vs) H' fun σ2 H2 => wipe σ2 vs = wipe σ vs ∧ te σ2 H2 Post)
    (done : ∀ acc H, Ex H1 H → H D = some (.lst acc) → acc.length = n → (∀ v ∈ acc, Pe (less D H) v) → Qd H) :
    ∃ Wm : Nat → Nat → Hp → Prop, (∃ m, Wm 0 m (upd H1 D (.lst []))) ∧ ∀ i m H, Wm i m H →
      (J.stop i H ∧ Qd H) ∨ (J.go i H ∧ ∃ Nx : Hp → Prop, (∀ H', Nx H' → ∃ m', m' < m ∧ Wm (i + 1) m' H') ∧ ∀ x H', J.yld i H x H' → g x (wipe σ vs) H' fun σ2 H2 => wipe σ2 vs = wipe σ vs ∧ tYes σ2 H2 fun b H3 =>
        if b = true then te σ2 H3 fun y H4 => ∃ acc, H4 D = some (.lst acc) ∧ acc.length < sizeLine ∧ Nx (upd H4 D (.lst (acc ++ [y]))) else Nx H3) := by
  refine lc_it W (fun i H => ∃ acc, H D = some (.lst acc) ∧ Ex H1 H ∧ acc.length = i ∧ ∀ v ∈ acc, Pe (less D H) v) ⟨[], upd_same, Ex.new hD, rfl, fun v hv => absurd hv (by simp)⟩ (fun i H _ ⟨acc, _, e, _⟩ => hC H e) ?_ (fun H ⟨acc, a, b, c, d⟩ => done acc H b a c d)
  rintro i x H H' hi ⟨acc, hd, e, la, p⟩ y
  have q := step i x H H' (fun y H4 => ∃ acc, H4 D = some (.lst acc) ∧ acc.length < sizeLine ∧ ∃ acc', upd H4 D (.lst (acc ++ [y])) D = some (.lst acc') ∧ Ex H1 (upd H4 D (.lst (acc ++ [y]))) ∧ acc'.length = i + 1 ∧ ∀ v ∈ acc', Pe (less D (upd H4 D (.lst (acc ++ [y])))) v) hi e (by rw [hd]; simp) y fun y H4 e4 py =>
    ⟨acc, e4 _ _ hd, by omega, acc ++ [y], upd_same, (e.tr e4).mut hD, by rw [List.length_append, la]; rfl, fun v hv => by
      rw [less_upd]
      rcases List.mem_append.mp hv with h | h
      · exact mono _ _ _ (less_mono e4) (p v h)
      · rw [List.mem_singleton.mp h]; exact py⟩
  exact q
end Onew
end
section
set_option maxRecDepth 100000
set_option maxHeartbeats 8000000
namespace Onew
open PySem PySem.Spec PyProof.Rows L2 G
open Mx (Tab im Rch rl rowF forgF doneOn Fm nextD nextP behind z3)
def rLst (K : PySem.W.Frag) : List V → Hp → VK → Prop := fun xs H Q => ∃ p ys, xs = [.ref p] ∧ (SqL K H p ys ∨ SqT K H p ys) ∧ ∀ l, H l = none → Q (.ref l) (upd H l (.lst ys))
theorem cr_lst {X : Cx} : CallR X (.type "list") (rLst X.K) := call_list_of
/-- two new lists of ints in a list -/
def LL (H : Hp) (v : V) : Prop := ∃ (p a1 a2 : Addr) (n1 n2 : List Nat), v = .ref p ∧ H p = some (.lst [.ref a1, .ref a2]) ∧ H a1 = some (.lst (nV n1)) ∧ H a2 = some (.lst (nV n2)) ∧ n1.length ≤ 8 ∧ n2.length ≤ 4
theorem LL.ex {H H' : Hp} {v : V} (e : Ex H H') (h : LL H v) : LL H' v := let ⟨p, a1, a2, n1, n2, a, b, c, d, x, y⟩ := h; ⟨p, a1, a2, n1, n2, a, e _ _ b, e _ _ c, e _ _ d, x, y⟩
theorem LL.sm {H : Hp} {v : V} (h : LL H v) : SmV H v := by
  obtain ⟨p, a1, a2, n1, n2, rfl, b, c, d, x, y⟩ := h
  have s1 := sm_seqn true (ns := n1) (by omega)
  have s2 := sm_seqn true (ns := n2) (by omega)
  exact ⟨_, .lst b (.cons (.lst c (rall_n _)) (.cons (.lst d (rall_n _)) .nil)), sm_two (b := true) s1.1 s2.1 (s1.2.up (by decide)) (s2.2.up (by decide))⟩
theorem rall_true (H : Hp) : ∀ k, RAll H (List.replicate k [V.bl true]).flatten (List.replicate k (PyData.bool true))
  | 0 => .nil
  | k + 1 => by
    rw [List.replicate_succ, List.replicate_succ, List.flatten_cons]
    exact .cons (.bl true) (rall_true H k)
theorem sm_true {k : Nat} (h : k ≤ 5000) : smD (.list (List.replicate k (PyData.bool true))) = true ∧ Fit 1 (.list (List.replicate k (PyData.bool true))) := by
  have m : ∀ d ∈ List.replicate k (PyData.bool true), d = .bool true := fun d hd => (List.mem_replicate.mp hd).2
  refine ⟨?_, ?_, ?_⟩
  · show (decide ((List.replicate k (PyData.bool true)).length ≤ 5000) && smDs _) = true
    rw [smDs_all fun d hd => by rw [m d hd]; rfl, List.length_replicate, decide_eq_true h]; rfl
  · rw [PyData.canLay0, lay_all fun d hd => by rw [m d hd]; rfl]
  · rw [PyData.depth]
    have := dep_all (n := 0) fun d (hd : d ∈ List.replicate k (PyData.bool true)) => by rw [m d hd]; decide
    omega
theorem due_sm {d : PyData} (h : Sm d) (hf : ∀ ds, seqI d = some ds → ds.length < 64) : DueOk d := ⟨h.1, h.2.up (by decide), hf⟩
section
variable {P : Program} {w : World} {K : PySem.W.Frag} {mg : Str → Option Value} {base : Heap}
def spBent : Sp := fun vs H Q _ => ∃ (b g l : Addr) (G L : List Doing), vs = [.ref b, .ref g, .ref l] ∧ H b = some (BoxO b) ∧ R H (.ref g) (.list (G.map dD)) ∧ R H (.ref l) (.list (L.map dD)) ∧ G ≠ [] ∧ L ≠ [] ∧ G.length < 63 ∧ L.length ≤ 100000 ∧ (∀ x ∈ G, Few x) ∧ (∀ x ∈ L, Few x) ∧
  ∀ v d H', Ex H H' → R H' v d → DueOk d → Q v H'
abbrev sBent : Stmt := top 61
theorem scBent : FnScope ["_law_box_here", "_law_group", "_law_known", "_law_found", "_law_way", "_law_one", "_law_map_part"] ["_law_box_here", "_law_group", "_law_known"] (defScope sBent) := ⟨rfl, rfl, rfl, by decide +kernel, rfl, by decide +kernel, by decide +kernel⟩
theorem ok_bent {f : Addr} {fd : FuncData} (F : Fun K "_law_bent" "_law_bent" sBent f fd) (T : Txt K mg) (D__law_take : Def P w K mg base 1 "_law_take" ["_law_box_here", "_law_many"] spTake) (D__law_pick : Def P w K mg base 2 "_law_pick" ["_law_box_here", "_law_some"] (spPick K))
    (D__law_mixed : Def P w K mg base 2 "_law_mixed" ["_law_box_here", "_law_some"] (spMixed K)) : FnOk P w K mg base (L2.CX P w) 3 f fd ["_law_box_here", "_law_group", "_law_known"] spBent := by
  refine F.okX scBent (fun vs H Q E h => ?_) (fun cdv A outer s H vs Q E hr h => ?_)
  · obtain ⟨b, g, l, G, L, rfl, _⟩ := h
    rfl
  · obtain ⟨b, g, l, G, L, rfl, hb, rg, rl', neG, neL, lG, lL, fG, fL, q⟩ := h
    have nd := scBent.nd
    refine ⟨_, (pss_cons (ps_par (i := 3) (j := 4) rfl nd rfl rfl (by decide) rfl rfl (pa_cons (pe_callTy call_list_of (by rfl) (T.no "list" (by decide)) boot_list (pa_cons (pv 1) pa_nil)) (pa_cons (pcall D__law_take hr (by decide) (pa_cons (pv 0) (pa_cons pe_int pa_nil))) pa_nil)) (by rfl))
      (pss_cons (ps_if (pt_cmpR op_eq (pv 4) pe_int (nomark _)) (pss_one (ps_ret (pe_op op_cat (pv 3) (pe_lst (pa_cons (pcall D__law_pick hr (by decide) (pa_cons (pv 0) (pa_cons (pv 2) pa_nil))) pa_nil))))) pss_nil)
      (pss_cons (ps_if (pt_cmpR op_eq (pv 4) pe_int (nomark _)) (pss_cons (ps_expr (pe_bm PySem.F.plainAttrs_list PySem.F.slot_list_pop PySem.F.type_list_pop mt_popAt (pv 3) (pa_cons (pcall D__law_take hr (by decide) (pa_cons (pv 0) (pa_cons (pe_callB call_len_seq (by rfl) (T.no "len" (by decide)) boot_len (pa_cons (pv 3) pa_nil)) pa_nil))) pa_nil)))
      (pss_one (ps_ret (pv 3)))) pss_nil)
      (pss_cons (ps_if (pt_cmpR op_eq (pv 4) pe_int (nomark _)) (pss_one (ps_ret (pe_op op_cat (pv 3) (pe_lst (pa_cons (pe_ix ix_list (pv 3) pe_int (fun _ _ => rfl)) pa_nil))))) pss_nil)
      (pss_cons (ps_if (pt_cmpR op_eq (pv 4) pe_int (nomark _)) (pss_one (ps_ret (pe_lc (own := [("_law_map_part", 6)]) (g := gName 6) (tt := tYes) (te := tCB (rLst K) (tCons (tVar 6) tNil)) rfl nd (pi_list (pe_lc (own := [("_law_one", 5)]) (g := gName 5) (tt := tYes) (te := tLst (tCons (tCB (rLst K) (tCons (tOp (rIxT K) (tVar 5) (tC (.int 0))) tNil)) (tCons (tCB (rLst K) (tCons (tOp (rIxT K) (tVar 5) (tC (.int 1))) tNil)) tNil))) rfl nd (pi_list (pv 3)) (blkOk_by (N := ["_law_box_here", "_law_group", "_law_known", "_law_found", "_law_way", "_law_one", "_law_map_part"]) (sc := defScope sBent) (by decide +kernel)) (fun _ _ _ _ _ => (pg_name (i := 5) nd rfl (Or.inl rfl))) (fun _ _ _ _ _ => pts_nil) (fun _ _ _ _ _ => (pe_lst (pa_cons (pe_callTy cr_lst (by rfl) (T.no "list" (by decide)) boot_list (pa_cons (pe_ix ix_tup (pv 5) pe_int (fun _ _ => rfl)) pa_nil)) (pa_cons (pe_callTy cr_lst (by rfl) (T.no "list" (by decide)) boot_list (pa_cons (pe_ix ix_tup (pv 5) pe_int (fun _ _ => rfl)) pa_nil)) pa_nil)))))) (blkOk_by (N := ["_law_box_here", "_law_group", "_law_known", "_law_found", "_law_way", "_law_one", "_law_map_part"]) (sc := defScope sBent) (by decide +kernel)) (fun _ _ _ _ _ => (pg_name (i := 6) nd rfl (Or.inl rfl))) (fun _ _ _ _ _ => pts_nil) (fun _ _ _ _ _ => (pe_callTy cr_lst (by rfl) (T.no "list" (by decide)) boot_list (pa_cons (pv 6) pa_nil)))))) pss_nil)
      (pss_cons (ps_if (pt_cmpR op_eq (pv 4) pe_int (nomark _)) (pss_one (ps_ret (pcall D__law_pick hr (by decide) (pa_cons (pv 0) (pa_cons (pe_lst (pa_cons pe_non (pa_cons (pe_tup pa_nil) (pa_cons pe_int (pa_cons pe_str (pa_cons (pe_lst (pa_cons pe_non pa_nil)) (pa_cons (pe_lst (pa_cons (pe_tup pa_nil) pa_nil)) (pa_cons (pe_lst (pa_cons (pe_tup (pa_cons (pe_ix ix_tup (pe_ix ix_list (pv 3) pe_int (fun _ _ => rfl)) pe_int (fun _ _ => rfl)) pa_nil)) pa_nil)) (pa_cons (pe_ix ix_list (pv 3) pe_int (fun _ _ => rfl)) pa_nil))))))))) pa_nil))))) pss_nil)
      (pss_cons (ps_if (pt_cmpR op_eq (pv 4) pe_int (nomark _)) (pss_cons (ps_set (i := 5) nd rfl (Or.inl rfl) (pe_bm0 PySem.F.plainAttrs_list PySem.F.slot_list_pop PySem.F.type_list_pop mt_pop (pv 3)))
      (pss_one (ps_ret (pe_op op_cat (pv 3) (pe_lst (pa_cons (pcall D__law_pick hr (by decide) (pa_cons (pv 0) (pa_cons (pe_lst (pa_cons (pe_tup (pa_cons (pe_ix ix_tup (pv 5) pe_int (fun _ _ => rfl)) (pa_cons (pe_op op_catA (pe_ix ix_tup (pv 5) pe_int (fun _ _ => rfl)) (pe_tup (pa_cons pe_int pa_nil))) pa_nil))) (pa_cons (pe_tup (pa_cons (pe_slice sl_tupA (pe_ix ix_tup (pv 5) pe_int (fun _ _ => rfl)) (po_some pe_int) po_none) (pa_cons (pe_ix ix_tup (pv 5) pe_int (fun _ _ => rfl)) pa_nil))) (pa_cons (pe_tup (pa_cons pe_non (pa_cons (pe_ix ix_tup (pv 5) pe_int (fun _ _ => rfl)) pa_nil))) (pa_cons (pe_tup (pa_cons (pe_ix ix_tup (pv 5) pe_int (fun _ _ => rfl)) (pa_cons (pe_op op_rep (pe_lst (pa_cons pe_bl pa_nil)) (pe_callB call_len_seq (by rfl) (T.no "len" (by decide)) boot_len (pa_cons (pe_ix ix_tup (pv 5) pe_int (fun _ _ => rfl)) pa_nil))) pa_nil))) pa_nil))))) pa_nil))) pa_nil)))))) pss_nil)
      (pss_one (ps_ret (pe_callTy cr_tup (by rfl) (T.no "tuple" (by decide)) boot_tuple (pa_cons (pcall D__law_mixed hr (by decide) (pa_cons (pv 0) (pa_cons (pv 3) pa_nil))) pa_nil))))))))))), ?_⟩
    obtain ⟨g', vs, eg, hg, rag⟩ := r_l rg
    cases eg
    obtain ⟨l', us, el, hl, ral⟩ := r_l rl'
    cases el
    have lvs : vs.length = G.length := by rw [rag.length, List.length_map]
    have lus : us.length = L.length := by rw [ral.length, List.length_map]
    have pG : 0 < G.length := List.length_pos_iff.mpr neG
    have pL : 0 < L.length := List.length_pos_iff.mpr neL
    have smW : ∀ {W : List Doing} {ws : List V}, RAll H ws (W.map dD) → (∀ x ∈ W, Few x) → ∀ v ∈ ws, ∃ x, x ∈ W ∧ R H v (dD x) ∧ Few x := fun {W ws} r fw v hv => by
      obtain ⟨i, hi⟩ := List.getElem?_of_mem hv
      obtain ⟨d, h1, h2⟩ := RAll.get r hi
      rw [List.getElem?_map] at h1
      cases hx : W[i]? with
      | none => rw [hx] at h1; cases h1
      | some x => rw [hx] at h1; cases h1; exact ⟨x, List.mem_of_getElem? hx, h2, fw x (List.mem_of_getElem? hx)⟩
    have vG := smW rag fG
    have vL := smW ral fL
    have sG : ∀ v ∈ vs, SmV H v := fun v hv => let ⟨x, _, r, f⟩ := vG v hv; ⟨_, r, sm_d f⟩
    have sL : ∀ v ∈ us, SmV H v := fun v hv => let ⟨x, _, r, f⟩ := vL v hv; ⟨_, r, sm_d f⟩
    refine ⟨_, rfl, g, vs, rfl, .inl (SqL.of hg), fun F0 hF0 => ?_⟩
    refine ⟨_, rfl, b, 8, rfl, (Ex.new hF0) _ _ hb, by decide, by decide, fun way hway => ⟨_, _, rfl, ?_⟩⟩
    have e1 : Ex H (upd H F0 (.lst vs)) := Ex.new hF0
    have hF : (upd H F0 (.lst vs)) F0 = some (.lst vs) := upd_same
    generalize upd H F0 (.lst vs) = H1 at e1 hF
    have hb1 := e1 _ _ hb
    have fin : ∀ {b : Bool} {p : Addr} {ys : List V} {H' : Hp}, Ex H H' → H' p = some (sqO b ys) → ys.length < 64 → (∀ y ∈ ys, SmV H' y) → Q (.ref p) H' := fun e hp hl h => by
      obtain ⟨d, rd, dd⟩ := due_at hp hl h
      exact q _ d _ e rd dd
    refine ⟨_, rfl, rfl, _, rfl, ?_⟩
    by_cases h0 : way = 0
    · refine itT (eqT (by omega)) ⟨_, rfl, _, rfl, _, rfl, b, l, us, rfl, hb1, SqL.of (e1 _ _ hl), fun z => by rw [z] at lus; simp at lus; omega, by omega, fun v hv => tnil ⟨by show 1 ≤ sizeLine; decide, fun p hp => ?_⟩⟩
      refine ⟨F0, p, vs, [v], rfl, rfl, (Ex.new hp) _ _ hF, upd_same, by rw [List.length_singleton, sizeLine_eq]; omega, fun r hr => ?_⟩
      have e2 := e1.tr ((Ex.new hp).tr (Ex.new (o := .lst (vs ++ [v])) hr))
      refine fin (b := true) e2 upd_same (by rw [List.length_append, List.length_singleton]; omega) fun y hy => ?_
      rcases List.mem_append.mp hy with h | h
      · exact (sG y h).ex e2
      · rw [List.mem_singleton.mp h]; exact (sL v hv).ex e2
    refine itF (eqF (by omega)) ⟨_, rfl, rfl, _, rfl, ?_⟩
    by_cases h1 : way = 1
    · refine itT (eqT (by omega)) ⟨_, rfl, .inl ⟨rfl, _, SqL.of hF⟩, _, rfl, _, rfl, _, _, rfl, .inl (SqL.of hF), b, vs.length, rfl, hb1, by omega, by omega, fun r hr' => ?_⟩
      refine ⟨F0, vs, (r : Nat), r, vs[r], rfl, rfl, hF, by omega, by omega, ?_, List.getElem?_eq_getElem hr', ?_⟩
      · rw [PySem.StrLaws.seqIndex_nonneg (by omega) (by omega)]; rfl
      · have e2 := e1.mut (o := .lst (vs.eraseIdx r)) hF0
        refine ⟨_, rfl, fin (b := true) e2 upd_same (by rw [List.length_eraseIdx]; split <;> omega) fun y hy => (sG y (List.mem_of_mem_eraseIdx hy)).ex e2⟩
    refine itF (eqF (by omega)) ⟨_, rfl, rfl, _, rfl, ?_⟩
    have v0 : vs[0]? = some (vs[0]'(by omega)) := List.getElem?_eq_getElem (by omega)
    have v0m := List.mem_of_getElem? v0
    by_cases h2 : way = 2
    · refine itT (eqT (by omega)) ⟨_, rfl, _, rfl, F0, vs, _, _, rfl, rfl, SqL.of hF, atI_nat (j := 0) v0, tnil ⟨by show 1 ≤ sizeLine; decide, fun p hp => ?_⟩⟩
      refine ⟨F0, p, vs, [_], rfl, rfl, (Ex.new hp) _ _ hF, upd_same, by rw [List.length_singleton, sizeLine_eq]; omega, fun r hr => ?_⟩
      have e2 := e1.tr ((Ex.new hp).tr (Ex.new (o := .lst (vs ++ [vs[0]'(by omega)])) hr))
      refine fin (b := true) e2 upd_same (by rw [List.length_append, List.length_singleton]; omega) fun y hy => ?_
      rcases List.mem_append.mp hy with h | h
      · exact (sG y h).ex e2
      · rw [List.mem_singleton.mp h]; exact (sG _ v0m).ex e2
    refine itF (eqF (by omega)) ⟨_, rfl, rfl, _, rfl, ?_⟩
    by_cases h3 : way = 3
    · refine itT (eqT (by omega)) ⟨_, rfl, F0, rfl, ⟨vs, SqL.of hF⟩, fun D1 hD1 => ?_⟩
      refine lc_growD walk_list hD1 (by rw [lvs, sizeLine_eq]; omega) (fun H' e => SqL.of (e _ _ hF)) LL (fun _ _ _ e h => h.ex e) ?_ ?_
      · rintro i xv H2 H2' Post hi e2 hD2 ⟨rfl, hx⟩ kk
        obtain ⟨x, hxG, rx, fx⟩ := vG xv (List.mem_of_getElem? hx)
        obtain ⟨a5, i5, c5, rfl, h5, hi5, hc5⟩ := r_d (rx.ex (e1.tr e2))
        refine ⟨rfl, _, rfl, _, _, _, _, rfl, rfl, SqT.of h5, atI_nat (j := 0) rfl, i5, _, rfl, .inr (SqT.of hi5), fun p1 hp1 => ?_⟩
        have ee1 := Ex.new (o := .lst (nV x.1)) hp1
        refine ⟨_, rfl, _, _, _, _, rfl, rfl, SqT.of (ee1 _ _ h5), atI_nat (j := 1) rfl, c5, _, rfl, .inr (SqT.of (ee1 _ _ hc5)), fun p2 hp2 => tnil ⟨by show 2 ≤ sizeLine; decide, fun p3 hp3 => ?_⟩⟩
        have n1 : p1 ≠ D1 := fun z => hD2 (by rw [← z]; exact hp1)
        have n2 : p2 ≠ D1 := fun z => hD2 (by rw [← z]; exact (Ex.new hp1).back hp2)
        have ee3 := (Ex.new (o := .lst (nV x.1)) hp1).tr (Ex.new (o := .lst (nV x.2)) hp2)
        have n3 : p3 ≠ D1 := fun z => hD2 (by rw [← z]; exact ee3.back hp3)
        refine kk _ _ (ee3.tr (Ex.new hp3)) ⟨p3, p1, p2, x.1, x.2, rfl, by rw [less_at n3]; exact upd_same, ?_, ?_, fx.2.1, fx.2.2⟩
        · rw [less_at n1]; exact (Ex.new hp3) _ _ ((Ex.new hp2) _ _ upd_same)
        · rw [less_at n2]; exact (Ex.new hp3) _ _ upd_same
      · intro acc H2 e2 hD la hacc
        refine ⟨D1, rfl, ⟨acc, SqL.of hD⟩, fun D2 hD2 => ?_⟩
        have lacc : ∀ v ∈ acc, LL H2 v := fun v hv => (hacc v hv).ex less_ex
        refine lc_growD walk_list hD2 (by rw [la, lvs, sizeLine_eq]; omega) (fun H' e => SqL.of (e _ _ hD)) LL (fun _ _ _ e h => h.ex e) ?_ ?_
        · rintro i xv H3 H3' Post hi e3 hD3 ⟨rfl, hx⟩ kk
          obtain ⟨p, a1, a2, n1, n2, rfl, h1, h2, h3, l1, l2⟩ := lacc xv (List.mem_of_getElem? hx)
          refine ⟨rfl, _, rfl, p, _, rfl, .inl (SqL.of (e3 _ _ h1)), fun p3 hp3 => kk _ _ (Ex.new hp3) ?_⟩
          have n3 : p3 ≠ D2 := fun z => hD3 (by rw [← z]; exact hp3)
          have el := ex_less hD2 (e3.tr (Ex.new (o := .lst [V.ref a1, .ref a2]) hp3))
          exact ⟨p3, a1, a2, n1, n2, rfl, by rw [less_at n3]; exact upd_same, el _ _ h2, el _ _ h3, l1, l2⟩
        · intro acc2 H3 e3 hD3 la2 hacc2
          exact fin (b := true) (e1.tr (e2.tr e3)) hD3 (by omega) fun y hy => (LL.ex less_ex (hacc2 y hy)).sm
    refine itF (eqF (by omega)) ⟨_, rfl, rfl, _, rfl, ?_⟩
    obtain ⟨x0, x0G, rx0, fx0⟩ := vG _ v0m
    obtain ⟨a5, i5, c5, ev5, h5, hi5, hc5⟩ := r_d rx0
    by_cases h4 : way = 4
    · rw [ev5] at v0
      refine itT (eqT (by omega)) ⟨_, rfl, by decide, fun t1 ht1 => ?_⟩
      have x1 := Ex.new (o := .tup []) ht1
      have g1 : (upd H1 t1 (.tup [])) t1 = some (.tup []) := upd_same
      generalize upd H1 t1 (.tup []) = H2 at x1 g1
      refine ⟨by show 1 ≤ sizeLine; decide, fun p1 hp1 => ?_⟩
      have x2 := Ex.new (o := .lst [V.non]) hp1
      have g2 : (upd H2 p1 (.lst [V.non])) p1 = some (.lst [V.non]) := upd_same
      generalize upd H2 p1 (.lst [V.non]) = H3 at x2 g2
      refine ⟨by decide, fun t2 ht2 => tnil ⟨by show 1 ≤ sizeLine; decide, fun p2 hp2 => ?_⟩⟩
      have x3 := (Ex.new (o := .tup []) ht2).tr (Ex.new (o := .lst [V.ref t2]) hp2)
      have g3 : (upd (upd H3 t2 (.tup [])) p2 (.lst [V.ref t2])) p2 = some (.lst [V.ref t2]) := upd_same
      have g3' : (upd (upd H3 t2 (.tup [])) p2 (.lst [V.ref t2])) t2 = some (.tup []) := (Ex.new hp2) _ _ upd_same
      generalize upd (upd H3 t2 (.tup [])) p2 (.lst [V.ref t2]) = H4 at x3 g3 g3'
      have x14 := x1.tr (x2.tr x3)
      refine ⟨_, rfl, F0, vs, _, _, rfl, rfl, SqL.of (x14 _ _ hF), atI_nat (j := 0) v0, _, _, _, _, rfl, rfl, SqT.of (x14 _ _ (e1 _ _ h5)), atI_nat (j := 0) rfl, tnil ⟨by show 1 ≤ sizeLine; decide, fun t3 ht3 => tnil ⟨by show 1 ≤ sizeLine; decide, fun p3 hp3 => ?_⟩⟩⟩
      have x4 := (Ex.new (o := .tup [V.ref i5]) ht3).tr (Ex.new (o := .lst [V.ref t3]) hp3)
      have g4 : (upd (upd H4 t3 (.tup [V.ref i5])) p3 (.lst [V.ref t3])) p3 = some (.lst [V.ref t3]) := upd_same
      have g4' : (upd (upd H4 t3 (.tup [V.ref i5])) p3 (.lst [V.ref t3])) t3 = some (.tup [V.ref i5]) := (Ex.new hp3) _ _ upd_same
      generalize upd (upd H4 t3 (.tup [V.ref i5])) p3 (.lst [V.ref t3]) = H5 at x4 g4 g4'
      have x15 := x14.tr x4
      refine ⟨_, rfl, F0, vs, _, _, rfl, rfl, SqL.of (x15 _ _ hF), atI_nat (j := 0) v0, tnil ⟨by show 8 ≤ sizeLine; decide, fun L8 hL8 => ?_⟩⟩
      have x16 := x15.tr (Ex.new (o := .lst [V.non, .ref t1, .int 5, .str "group", .ref p1, .ref p2, .ref p3, .ref a5]) hL8)
      have x56 := Ex.new (o := .lst [V.non, .ref t1, .int 5, .str "group", .ref p1, .ref p2, .ref p3, .ref a5]) hL8
      refine tnil ⟨b, L8, _, rfl, x16 _ _ hb1, SqL.of upd_same, by simp, by show 8 ≤ 100000; decide, fun v hv => ?_⟩
      have e2 := e1.tr x16
      generalize upd H5 L8 (.lst [V.non, .ref t1, .int 5, .str "group", .ref p1, .ref p2, .ref p3, .ref a5]) = H6 at x16 x56 e2
      have noseq : ∀ {d : PyData}, seqI d = none → ∀ ds, seqI d = some ds → ds.length < 64 := fun h ds e => by rw [h] at e; cases e
      simp only [List.mem_cons, List.not_mem_nil, or_false] at hv
      rcases hv with rfl | rfl | rfl | rfl | rfl | rfl | rfl | rfl
      · exact q _ .none _ e2 .non ⟨rfl, ⟨rfl, by decide⟩, noseq rfl⟩
      · exact q _ (.tuple []) _ e2 (.tup (x56 _ _ (x4 _ _ (x3 _ _ (x2 _ _ g1)))) .nil) (due_seq false (by decide) fun d h => absurd h (by simp))
      · exact q _ (.int 5) _ e2 (.int 5) ⟨rfl, ⟨rfl, by decide⟩, noseq rfl⟩
      · exact q _ (.str "group") _ e2 (.str _) ⟨rfl, ⟨by decide +kernel, by decide⟩, noseq rfl⟩
      · exact q _ (.list [.none]) _ e2 (.lst (x56 _ _ (x4 _ _ (x3 _ _ g2))) (.cons .non .nil)) (due_seq true (by decide) fun d h => by rw [List.mem_singleton.mp h]; exact ⟨rfl, rfl, by decide⟩)
      · exact q _ (.list [.tuple []]) _ e2 (.lst (x56 _ _ (x4 _ _ g3)) (.cons (.tup (x56 _ _ (x4 _ _ g3')) .nil) .nil)) (due_seq true (by decide) fun d h => by rw [List.mem_singleton.mp h]; exact ⟨rfl, rfl, by decide⟩)
      · have s1 := sm_seqn false (ns := x0.1) (by have := fx0.2.1; omega)
        have s2 : Sm (.tuple [iD x0.1]) := by
          refine ⟨?_, ?_, ?_⟩
          · show (decide (1 ≤ 5000) && (smD (iD x0.1) && true)) = true
            rw [show smD (iD x0.1) = true from s1.1]; decide
          · show PyData.canLay0 (.tuple [iD x0.1]) = true
            rw [PyData.canLay0, PyData.canLayAll0, show (iD x0.1).canLay0 = true from s1.2.lay]; rfl
          · show PyData.depth (.tuple [iD x0.1]) ≤ 8
            have := s1.2.dep
            have e : (iD x0.1).depth ≤ 1 := this
            rw [PyData.depth, PyData.depthAll, PyData.depthAll]; omega
        exact q _ (.list [.tuple [iD x0.1]]) _ e2 (.lst (x56 _ _ g4) (.cons (.tup (x56 _ _ g4') (.cons (.tup (e2 _ _ hi5) (rall_n _)) .nil)) .nil)) (due_seq true (by show 1 < 64; omega) fun d h => by rw [List.mem_singleton.mp h]; exact s2)
      · rw [ev5] at rx0
        exact q _ (dD x0) _ e2 (rx0.ex e2) (due_sm (sm_d fx0) fun ds e => by cases e; show 2 < 64; decide)
    refine itF (eqF (by omega)) ⟨_, rfl, rfl, _, rfl, ?_⟩
    by_cases h5' : way = 5
    · have hla : vs[vs.length - 1]? = some (vs[vs.length - 1]'(by omega)) := List.getElem?_eq_getElem (by omega)
      obtain ⟨x1, x1G, rx1, fx1⟩ := vG _ (List.mem_of_getElem? hla)
      obtain ⟨a6, i6, c6, ev6, h6, hi6, hc6⟩ := r_d rx1
      rw [ev6] at hla rx1
      refine itT (eqT (by omega)) ⟨_, rfl, .inl ⟨rfl, _, SqL.of hF⟩, F0, vs, _, rfl, rfl, hF, hla, ?_⟩
      have y1 : Ex H (upd H1 F0 (.lst vs.dropLast)) := e1.mut hF0
      have hF2 : (upd H1 F0 (.lst vs.dropLast)) F0 = some (.lst vs.dropLast) := upd_same
      generalize upd H1 F0 (.lst vs.dropLast) = H2 at y1 hF2
      refine ⟨_, rfl, _, rfl, ?_⟩
      -- (one[0], one[1] + (0,))
      refine ⟨_, rfl, _, _, _, _, rfl, rfl, SqT.of (y1 _ _ h6), atI_nat (j := 0) rfl, _, rfl, _, _, _, _, rfl, rfl, SqT.of (y1 _ _ h6), atI_nat (j := 1) rfl, by show 1 ≤ sizeLine; decide, fun z hz => ?_⟩
      refine cat_tup (ys := nV [0]) ((Ex.new hz) _ _ (y1 _ _ hc6)) upd_same (by rw [nV_len, nV_len, sizeLine_eq]; have := fx1.2.2; show _ + 1 ≤ _; omega) fun ca Ha ea hca => tnil ⟨by show 2 ≤ sizeLine; decide, fun t1 ht1 => ?_⟩
      have y2 := y1.tr ((Ex.new (o := .tup [V.int 0]) hz).tr (ea.tr (Ex.new (o := .tup [V.ref i6, .ref ca]) ht1)))
      have yF2 := ((Ex.new (o := .tup [V.int 0]) hz).tr (ea.tr (Ex.new (o := .tup [V.ref i6, .ref ca]) ht1))) _ _ hF2
      have g1 : (upd Ha t1 (.tup [V.ref i6, .ref ca])) t1 = some (.tup [V.ref i6, .ref ca]) := upd_same
      have g1c : (upd Ha t1 (.tup [V.ref i6, .ref ca])) ca = some (.tup (nV x1.2 ++ nV [0])) := (Ex.new ht1) _ _ hca
      generalize upd Ha t1 (.tup [V.ref i6, .ref ca]) = H3 at y2 yF2 g1 g1c
      -- (one[0][1:], one[1])
      refine ⟨_, rfl, _, _, _, _, rfl, rfl, SqT.of (y2 _ _ h6), atI_nat (j := 0) rfl, _, rfl, ?_⟩
      unfold tNoPart
      refine sl_from (lo := 1) (y2 _ _ hi6) fun sa Hb eb hsa => ?_
      have y2b := y2.tr eb
      refine ⟨_, rfl, _, _, _, _, rfl, rfl, SqT.of (y2b _ _ h6), atI_nat (j := 1) rfl, tnil ⟨by show 2 ≤ sizeLine; decide, fun t2 ht2 => ?_⟩⟩
      have y3 := y2b.tr (Ex.new (o := .tup [V.ref sa, .ref c6]) ht2)
      have z3 := eb.tr (Ex.new (o := .tup [V.ref sa, .ref c6]) ht2)
      have g2 : (upd Hb t2 (.tup [V.ref sa, .ref c6])) t2 = some (.tup [V.ref sa, .ref c6]) := upd_same
      have g2c : (upd Hb t2 (.tup [V.ref sa, .ref c6])) sa = some (.tup ((nV x1.1).drop 1)) := (Ex.new ht2) _ _ hsa
      generalize upd Hb t2 (.tup [V.ref sa, .ref c6]) = H4 at y3 z3 g2 g2c
      -- (None, one[1])
      refine ⟨_, rfl, _, _, _, _, rfl, rfl, SqT.of (y3 _ _ h6), atI_nat (j := 1) rfl, tnil ⟨by show 2 ≤ sizeLine; decide, fun t3 ht3 => ?_⟩⟩
      have y4 := y3.tr (Ex.new (o := .tup [V.non, .ref c6]) ht3)
      have z4 := Ex.new (o := .tup [V.non, .ref c6]) ht3
      have g3 : (upd H4 t3 (.tup [V.non, .ref c6])) t3 = some (.tup [V.non, .ref c6]) := upd_same
      generalize upd H4 t3 (.tup [V.non, .ref c6]) = H5 at y4 z4 g3
      -- (one[0], [True] * len(one[1]))
      refine ⟨_, rfl, _, _, _, _, rfl, rfl, SqT.of (y4 _ _ h6), atI_nat (j := 0) rfl, by show 1 ≤ sizeLine; decide, fun u hu => ?_⟩
      have eu := Ex.new (o := .lst [V.bl true]) hu
      refine ⟨_, rfl, _, _, _, _, rfl, rfl, SqT.of ((y4.tr eu) _ _ h6), atI_nat (j := 1) rfl, c6, _, rfl, .inr (SqT.of ((y4.tr eu) _ _ hc6)), u, _, [V.bl true], rfl, rfl, upd_same, by omega, ?_, ?_, fun r hr => tnil ⟨by show 2 ≤ sizeLine; decide, fun t4 ht4 => ?_⟩⟩
      · rw [nV_len]; have := fx1.2.2; omega
      · rw [nV_len, sizeLine_eq]; have := fx1.2.2; show 1 * _ ≤ _; omega
      rw [nV_len, show ((x1.2.length : Nat) : Int).toNat = x1.2.length by omega] at ht4 ⊢
      have l12 : x1.2.length ≤ 4 := fx1.2.2
      have l11 : x1.1.length ≤ 8 := fx1.2.1
      have y5 := y4.tr (eu.tr ((Ex.new (o := .lst (List.replicate x1.2.length [V.bl true]).flatten) hr).tr (Ex.new (o := .tup [V.ref i6, .ref r]) ht4)))
      have z5 := eu.tr ((Ex.new (o := .lst (List.replicate x1.2.length [V.bl true]).flatten) hr).tr (Ex.new (o := .tup [V.ref i6, .ref r]) ht4))
      have g4 : (upd (upd (upd H5 u (.lst [V.bl true])) r (.lst (List.replicate x1.2.length [V.bl true]).flatten)) t4 (.tup [V.ref i6, .ref r])) t4 = some (.tup [V.ref i6, .ref r]) := upd_same
      have g4c : (upd (upd (upd H5 u (.lst [V.bl true])) r (.lst (List.replicate x1.2.length [V.bl true]).flatten)) t4 (.tup [V.ref i6, .ref r])) r = some (.lst (List.replicate x1.2.length [V.bl true]).flatten) := (Ex.new ht4) _ _ upd_same
      generalize upd (upd (upd H5 u (.lst [V.bl true])) r (.lst (List.replicate x1.2.length [V.bl true]).flatten)) t4 (.tup [V.ref i6, .ref r]) = H6 at y5 z5 g4 g4c
      refine tnil ⟨by show 4 ≤ sizeLine; decide, fun L4 hL4 => ?_⟩
      have z6 := Ex.new (o := .lst [V.ref t1, .ref t2, .ref t3, .ref t4]) hL4
      have y6 := y5.tr z6
      refine tnil ⟨b, L4, _, rfl, y6 _ _ hb, SqL.of upd_same, by simp, by show 4 ≤ 100000; decide, fun v hv => tnil ⟨by show 1 ≤ sizeLine; decide, fun p hp => ?_⟩⟩
      have yF3 := z6 _ _ (z5 _ _ (z4 _ _ (z3 _ _ yF2)))
      refine ⟨F0, p, vs.dropLast, [v], rfl, rfl, (Ex.new hp) _ _ yF3, upd_same, by rw [List.length_dropLast, List.length_singleton, sizeLine_eq]; omega, fun rr hrr => ?_⟩
      have z7 := (Ex.new (o := .lst [v]) hp).tr (Ex.new (o := .lst (vs.dropLast ++ [v])) hrr)
      have y7 := y6.tr z7
      refine fin (b := true) y7 upd_same (by rw [List.length_append, List.length_dropLast, List.length_singleton]; omega) fun y hy => ?_
      rcases List.mem_append.mp hy with h | h
      · exact (sG y ((List.dropLast_sublist vs).subset h)).ex y7
      rw [List.mem_singleton.mp h]
      refine SmV.ex ?_ z7
      have ri : R (upd H6 L4 (.lst [V.ref t1, .ref t2, .ref t3, .ref t4])) (.ref i6) (sqD false (nD x1.1)) := .tup (y6 _ _ hi6) (rall_n _)
      have rc : R (upd H6 L4 (.lst [V.ref t1, .ref t2, .ref t3, .ref t4])) (.ref c6) (sqD false (nD x1.2)) := .tup (y6 _ _ hc6) (rall_n _)
      have si := sm_seqn false (ns := x1.1) (by omega)
      have sc := sm_seqn false (ns := x1.2) (by omega)
      simp only [List.mem_cons, List.not_mem_nil, or_false] at hv
      rcases hv with rfl | rfl | rfl | rfl
      · have sc' := sm_seqn false (ns := x1.2 ++ [0]) (by rw [List.length_append, List.length_singleton]; omega)
        have g := z6 _ _ (z5 _ _ (z4 _ _ (z3 _ _ g1c)))
        rw [nV_app] at g
        exact ⟨_, .tup (z6 _ _ (z5 _ _ (z4 _ _ (z3 _ _ g1)))) (.cons ri (.cons (.tup g (rall_n _)) .nil)), sm_two (b := false) si.1 sc'.1 (si.2.up (by decide)) (sc'.2.up (by decide))⟩
      · have si' := sm_seqn false (ns := x1.1.drop 1) (by rw [List.length_drop]; omega)
        have g := z6 _ _ (z5 _ _ (z4 _ _ g2c))
        have ed : (nV x1.1).drop 1 = nV (x1.1.drop 1) := by unfold nV; rw [List.map_drop]
        rw [ed] at g
        exact ⟨_, .tup (z6 _ _ (z5 _ _ (z4 _ _ g2))) (.cons (.tup g (rall_n _)) (.cons rc .nil)), sm_two (b := false) si'.1 sc.1 (si'.2.up (by decide)) (sc.2.up (by decide))⟩
      · exact ⟨_, .tup (z6 _ _ (z5 _ _ g3)) (.cons .non (.cons rc .nil)), sm_two (b := false) rfl sc.1 ⟨rfl, by decide⟩ (sc.2.up (by decide))⟩
      · have st := sm_true (k := x1.2.length) (by omega)
        exact ⟨_, .tup (z6 _ _ g4) (.cons ri (.cons (.lst (z6 _ _ g4c) (rall_true _ _)) .nil)), sm_two (b := false) si.1 st.1 (si.2.up (by decide)) (st.2.up (by decide))⟩
    refine itF (eqF (by omega)) ⟨_, rfl, _, rfl, b, F0, vs, rfl, hb1, .inl (SqL.of hF), by omega, fun p ys H2 e2 hp pm => ?_⟩
    refine tnil ⟨p, ys, rfl, .inl ⟨SqL.of hp, fun t ht => ?_⟩⟩
    have e3 := e1.tr (e2.tr (Ex.new (o := .tup ys) ht))
    exact fin (b := false) e3 upd_same (by rw [pm.length_eq]; omega) fun y hy => (sG y (pm.mem_iff.mp hy)).ex e3
end
end Onew
end
section
set_option maxRecDepth 100000
set_option maxHeartbeats 4000000
/-! lambdas with parameters: made, kept, called later -/
namespace G
open PySem PySem.Spec PyProof.Rows L2
open LamX (CodeO TabS Tabs ExtN TabB inv_table among_app codeO_ne)
/-- at f: a lambda without captured names, its code object at c -/
def LamO (f c : Addr) (q : Str) (pa : Arguments) (b : Expr) (sc : Scope) : HO := .ext fun h => ∃ pm ctv, h.get? f = some (PySem.W.kla_obj "<lambda>" q pa b sc [] pm c ctv)
def LamAt (H : Hp) (f : Addr) (q : Str) (pa : Arguments) (b : Expr) (sc : Scope) : Prop := ∃ c, H f = some (LamO f c q pa b sc) ∧ H c = some (CodeO c q)
theorem lamO_ne {f c : Addr} {q : Str} {pa : Arguments} {b : Expr} {sc : Scope} (ps : Array Value) : LamO f c q pa b sc ≠ .tbl ps := fun z => by unfold LamO at z; cases z
theorem LamAt.nx {H H' : Hp} {f : Addr} {q : Str} {pa : Arguments} {b : Expr} {sc : Scope} (h : LamAt H f q pa b sc) (e : Nx H H') : LamAt H' f q pa b sc := let ⟨c, h1, h2⟩ := h; ⟨c, e _ _ h1 lamO_ne, e _ _ h2 codeO_ne⟩
theorem extN_nx {H H' : Hp} (e : ExtN H H') : Nx H H' := fun b o h n => e b o h n
section
variable {X : Cx} {pins : List (Addr × Obj)} {σ : L2.St} {H : Hp} {s : Shared}
theorem lam_obj {H : Hp} {h : Heap} {P : Program} {w : World} {f c : Addr} {q : Str} {pa : Arguments} {b : Expr} {sc : Scope} {pm ctv : Value} (e : h.get? f = some (PySem.W.kla_obj "<lambda>" q pa b sc [] pm c ctv)) : ObjOk P w H h f (LamO f c q pa b sc) :=
  ⟨⟨pm, ctv, e⟩, ⟨_, e⟩, fun h1 h2 ⟨pm, ctv, z⟩ k => ⟨pm, ctv, k _ z⟩⟩
/-- it is made; from then on it is known -/
theorem lam_made {T : List (Addr × Str)} {c P : Addr} {params : Arguments} {body : Expr} {scope : Scope} {pos : Pos} {E : Value → Shared → Prop} {Q : Value → Shared → Prop} (I : Inv X pins σ H s) (TB : TabB X.base X.mg c P) (hcode : X.env.code = .ref c)
    (hm : (P, X.env.qual ++ "<lambda>") ∈ T) (hu : ∀ p ∈ T, p.1 = P → p.2 = X.env.qual ++ "<lambda>") (hT : Tabs T H) (hdef : defaultsOf params X.env = ([], [])) (hfree : ∀ y ∈ scope.names, y.2 = .free → ∃ c, X.env.cells.lookup y.1 = some c) (hcl : cloFrom X.env.cells scope.names [] = [])
    (h : ∀ (f : Addr) (H1 : Hp) (s' : Shared), Inv X pins σ H1 s' → ExtN H H1 → Tabs T H1 → LamAt H1 f (X.env.qual ++ "<lambda>") params body scope → Q (.ref f) s') :
    wpAny (model X.prog X.w) X.A (eval (.Lambda params body scope pos) X.env) Q E s := by
  obtain ⟨ps, hP, ht, ha⟩ := hT _ hm
  refine PySem.W.kla_eval hdef ?_
  have bP : s.heap.BuiltinsAt X.mg P := TB.bm.keeps I.bk
  have hP' : s.heap.get? P = some { cls := .none, data := .fields ps } := I.hok P _ hP
  have clo := closure_ok hfree
  rw [hcl] at clo
  cases hc : codeAmong pos ps.toList with
  | some cv =>
    obtain ⟨c', rfl, hco⟩ := ha pos cv hc
    refine PySem.W.kla_makeFunctionHit (mg := X.mg) (c := c) (P := P) (ps := ps) clo I.ok.glob (I.mod.glob.keeps I.bk) hcode (TB.code.keeps I.bk) hP' ht hc bP fun ctv h' tk hx hsz => ?_
    have nf : H h'.objs.size = none := I.hok.fresh hsz
    have hg := Heap.get?_push_size h' (o := PySem.W.kla_obj "<lambda>" (X.env.qual ++ "<lambda>") params body scope [] ((X.mg "__name__").getD .none) c' ctv) rfl
    have I1 := I.laid (t' := tk) (h' := h'.push (PySem.W.kla_obj "<lambda>" (X.env.qual ++ "<lambda>") params body scope [] ((X.mg "__name__").getD .none) c' ctv)) (fun b o e => Heap.get?_push_of_some _ (hx b o e)) hsz (lam_obj hg)
    have hE := Ex.new (o := LamO h'.objs.size c' (X.env.qual ++ "<lambda>") params body scope) nf
    exact h _ _ _ I1 (ExtN.of hE) (hT.ext hE) ⟨c', upd_same, hE _ _ hco⟩
  | none =>
    refine PySem.W.kla_makeFunction (mg := X.mg) (c := c) (P := P) (ps := ps) clo I.ok.glob (I.mod.glob.keeps I.bk) hcode (TB.code.keeps I.bk) hP' ht hc TB.gP bP fun c' ctv h' tk hx hge hlt hrec htb => ?_
    obtain ⟨c2, oc, vs, t, e2, hoc, hd, hv⟩ := hrec
    cases e2
    have nC : H c' = none := I.hok.fresh hge
    have I1 := inv_table (t' := tk) (more := #[rawInt pos.line, rawInt pos.col, .ref c']) I hP (fun b o hb e => hx b o hb e) htb hge ⟨oc, vs, t, hoc, hd, hv⟩
    have hE : ExtN H (upd (upd H P (.tbl (ps ++ #[rawInt pos.line, rawInt pos.col, .ref c']))) c' (CodeO c' (X.env.qual ++ "<lambda>"))) := fun b o e n => by
      rw [upd_ne (ne_of_none e nC), upd_ne (fun z => n ps (Option.some.inj (e.symm.trans (by rw [z]; exact hP))))]
      exact e
    have hCO : (upd (upd H P (.tbl (ps ++ #[rawInt pos.line, rawInt pos.col, .ref c']))) c' (CodeO c' (X.env.qual ++ "<lambda>"))) c' = some (CodeO c' (X.env.qual ++ "<lambda>")) := upd_same
    have eL : (ps ++ #[rawInt pos.line, rawInt pos.col, .ref c']).toList = ps.toList ++ [rawInt pos.line, rawInt pos.col, .ref c'] := by simp
    have hT1 : Tabs T (upd (upd H P (.tbl (ps ++ #[rawInt pos.line, rawInt pos.col, .ref c']))) c' (CodeO c' (X.env.qual ++ "<lambda>"))) := fun p hp => by
      by_cases hb : p.1 = P
      · rw [hu p hp hb, hb]
        refine ⟨_, by rw [upd_ne (ne_of_none hP nC), upd_same], by rw [eL]; exact PySem.TriplesOk_snoc _ _ _ _ ht, fun p' cv hcv => ?_⟩
        rw [eL] at hcv
        rcases among_app _ ht hcv with z | z
        · obtain ⟨c0, e1, e2⟩ := ha p' cv z
          exact ⟨c0, e1, hE _ _ e2 codeO_ne⟩
        · exact ⟨c', z, hCO⟩
      · obtain ⟨ps', a1, a2, a3⟩ := hT p hp
        refine ⟨ps', by rw [upd_ne (ne_of_none a1 nC), upd_ne hb]; exact a1, a2, fun p' cv hcv => ?_⟩
        obtain ⟨c0, e1, e2⟩ := a3 p' cv hcv
        exact ⟨c0, e1, hE _ _ e2 codeO_ne⟩
    generalize upd (upd H P (.tbl (ps ++ #[rawInt pos.line, rawInt pos.col, .ref c']))) c' (CodeO c' (X.env.qual ++ "<lambda>")) = H2 at I1 hE hCO hT1
    have nf : H2 h'.objs.size = none := I1.hok.fresh (Nat.le_refl _)
    have hg := Heap.get?_push_size h' (o := PySem.W.kla_obj "<lambda>" (X.env.qual ++ "<lambda>") params body scope [] ((X.mg "__name__").getD .none) c' ctv) rfl
    have I2 := I1.laid (t' := tk) (h' := h'.push (PySem.W.kla_obj "<lambda>" (X.env.qual ++ "<lambda>") params body scope [] ((X.mg "__name__").getD .none) c' ctv)) (fun b o e => Heap.get?_push_of_some _ e) (Nat.le_refl _) (lam_obj hg)
    have hE2 := Ex.new (o := LamO h'.objs.size c' (X.env.qual ++ "<lambda>") params body scope) nf
    exact h _ _ _ I2 (hE.trans (ExtN.of hE2)) (hT1.ext hE2) ⟨c', upd_same, hE2 _ _ hCO⟩
/-- lambda a, b: body -/
def tMk (T : List (Addr × Str)) (q : Str) (pa : Arguments) (b : Expr) (sc : Scope) : TE := fun _ H Q => Tabs T H ∧ ∀ f H1, ExtN H H1 → Tabs T H1 → LamAt H1 f q pa b sc → Q (.ref f) H1
theorem pe_mk {T : List (Addr × Str)} {c P : Addr} {params : Arguments} {body : Expr} {scope : Scope} {pos : Pos} (TB : TabB X.base X.mg c P) (hcode : X.env.code = .ref c) (hm : (P, X.env.qual ++ "<lambda>") ∈ T) (hu : ∀ p ∈ T, p.1 = P → p.2 = X.env.qual ++ "<lambda>")
    (hdef : defaultsOf params X.env = ([], []) := by rfl) (hfree : ∀ y ∈ scope.names, y.2 ≠ .free := by decide +kernel) (hcl : cloFrom X.env.cells scope.names [] = [] := by rfl) : PE X (.Lambda params body scope pos) (tMk T (X.env.qual ++ "<lambda>") params body scope) :=
  ⟨fun pins s σ H Q I h => lam_made I TB hcode hm hu h.1 hdef (fun y hy e => absurd e (hfree y hy)) hcl fun f H1 s' I1 e1 t1 l1 => ⟨.ref f, H1, I1, rfl, h.2 f H1 e1 t1 l1⟩⟩
end
/-- a lambda of this text keeps the promise sp, at level k -/
structure LamOk (P : Program) (w : World) (K : PySem.W.Frag) (mg : Str → Option Value) (base : Heap) (k : Nat) (q : Str) (pa : Arguments) (b : Expr) (sc : Scope) (ps : List Str) (sp : Sp) : Prop where
  len : ∀ vs H Q E, sp vs H Q E → vs.length = ps.length
  bind : ∀ (pm ctv : Value) (c : Addr) (us : List Value), us.length = ps.length → bindArgs (PySem.W.kla_fn "<lambda>" q pa b sc [] pm (.ref c) ctv) ⟨us, []⟩ = pure (ps.zip us)
  run : ∃ N, FnScope N ps sc ∧ ∀ (A : Around) (outer : List Env) (s : Shared) (H : Hp) (f c : Addr) (vs : List V) (Q : VK) (E : XK), Room k (A.deeper (envOfC q sc s.heap.objs.size f (.ref c))) → sp vs H Q E →
    ∃ t, PE (cxOf (L2.CX P w) P w K mg base N q sc f (.ref c) A outer s H E) b t ∧ t (start N vs) H Q
section
variable {P : Program} {w : World} {K : PySem.W.Frag} {mg : Str → Option Value} {base : Heap} {k : Nat} {q : Str} {pa : Arguments} {b : Expr} {sc : Scope} {ps : List Str} {sp : Sp}
theorem LamOk.call (F : LamOk P w K mg base k q pa b sc ps sp) {A : Around} {outer : List Env} {s : Shared} {H : Hp} {f : Addr} {us : List Value} {vs : List V} {Q : VK} {E : XK} (hr : Room (k + 1) A) (e0 : Env0 P w K mg base A outer s H) (hf : LamAt H f q pa b sc) (r : Vals vs us) (h : sp vs H Q E) :
    codeAny (model P w) A (.call (.ref f) ⟨us, []⟩) (CR (L2.CX P w) outer P w H s Q E) s := by
  obtain ⟨N, S, run⟩ := F.run
  have hl := F.len _ _ _ _ h
  obtain ⟨c, h1, h2⟩ := hf
  obtain ⟨⟨pm, ctv, hobj⟩, _⟩ := (show ObjOk P w H s.heap f (LamO f c q pa b sc) from e0.hok f _ h1)
  obtain ⟨⟨oc, vc, t, e1, e2, e3⟩, _⟩ := (show ObjOk P w H s.heap c (CodeO c q) from e0.hok c _ h2)
  have hkind : ∀ y ∈ ps.zip us, sc.names.lookup y.1 = some .local ∨ (sc.names.lookup y.1 = some .cell ∧ ((cellsFrom (s.heap.objs.size + 1) sc.names []).lookup y.1).isSome = true) := fun ⟨n, v⟩ hy => by
    rcases S.par n (List.of_mem_zip hy).1 with z | z
    · exact .inl z
    · exact .inr ⟨z, PySem.W.cellsFrom_some _ _ _ (.inl z)⟩
  refine PySem.W.kla_callFunE hr.depth hobj rfl S.co S.gen rfl ⟨c, oc, vc, t, rfl, e1, e2, e3⟩ ?_
  rw [F.bind pm ctv c us (by rw [← r.length]; exact hl)]
  refine wpAny_pure (wpAny_newFunctionEnv_cells S.kind hkind fun env he s1 x => ?_)
  subst he
  have lim : s.heap.NoLimit := e0.mod.nolimit.keeps fun b o e => (e0.bs b o e).1
  refine ⟨lim.keeps x.toInCall.keep, PySem.W.kla_codeExpr ?_⟩
  obtain ⟨te, ht, hq⟩ := run A outer s H f c vs Q E (hr.deeper _) h
  have I : Inv (cxOf (L2.CX P w) P w K mg base N q sc f (.ref c) A outer s H E) [] (start N vs) H s1 := inv_start S hr.hd e0 hl r x
  refine wpAny_mono (ht.run [] s1 (start N vs) H _ I hq) (fun v s' hs => ?_) fun e s' hs => hs
  obtain ⟨u, H', J, rv, z⟩ := hs
  exact ⟨u, H', J.os, J.bare, J.base, J.hok, rv, z⟩
end
section
variable {X : Cx} {k i : Nat} {E : XK} {W : WX} {x : Str} {p pos : Pos} {e : Expr} {es : List Expr} {t : TA} {sp : Sp}
/-- f(..), f in the i-th slot: some lambda that is kept -/
def tCallM (Ok : Str → Arguments → Expr → Scope → Prop) (i : Nat) (sp : Sp) (E : XK) (t : TA) : TE := fun σ H Q => ∃ f q pa b sc, σ[i]? = some (some (.ref f)) ∧ Ok q pa b sc ∧ LamAt H f q pa b sc ∧ t σ H fun vs H1 => LamAt H1 f q pa b sc ∧ sp vs H1 Q E
theorem pe_callM {Ok : Str → Arguments → Expr → Scope → Prop} (F : ∀ q pa b sc, Ok q pa b sc → ∃ ps, LamOk X.prog X.w X.K X.mg X.base k q pa b sc ps sp) (hr : Room (k + 1) X.A) (tk : Takes X W) (hW : ∀ cls d σ H, E cls d H → W cls d σ H) (hN : X.N[i]? = some x) (hv : Vis X.env.scope x) (ha : PA X (e :: es) t)
    (hdb : (x == ("__debug__" : Str)) = false := by decide) (hcd : (x == ("__classdict__" : Str)) = false := by decide)
    (he : starEach (e :: es) X.env = (false, eval e X.env) :: starEach es X.env := by rfl) (hpl : (backTo pos (starEach es X.env)).any (·.1) = false := by rfl) : PE X (.Call (.Name x p) (e :: es) [] pos) (tCallM Ok i sp E t) := by
  refine ⟨fun pins s σ H Q I h => ?_⟩
  obtain ⟨f, q, pa, b, sc, hs, hok, hl, ht⟩ := h
  obtain ⟨ps, L⟩ := F q pa b sc hok
  refine wpAny_Call_Name_kw (thn ((pe_var (pos := p) hN hv hdb hcd).run pins s σ H (fun v H1 => v = .ref f ∧ H1 = H) I ⟨.ref f, hs, rfl, rfl⟩) fun u s1 ⟨v, H1, I1, r1, q1⟩ => ?_)
  obtain ⟨rfl, rfl⟩ := q1
  cases r1
  obtain ⟨c, h1, h2⟩ := hl
  obtain ⟨⟨pm, ctv, hobj⟩, _⟩ := (show ObjOk X.prog X.w H1 s1.heap f (LamO f c q pa b sc) from I1.hok f _ h1)
  refine PySem.W.callWith_F ⟨_, _, _, _, hobj⟩ (thn (ha.run pos pins s1 σ _ _ I1 ht) fun us s2 ⟨vs, H2, I2, r, z⟩ => ?_) he hpl
  obtain ⟨l2, z⟩ := z
  obtain ⟨c2, g1, g2⟩ := id l2
  obtain ⟨⟨pm2, ctv2, hobj2⟩, _⟩ := (show ObjOk X.prog X.w H2 s2.heap f (LamO f c2 q pa b sc) from I2.hok f _ g1)
  refine ⟨⟨_, _, _, _, hobj2⟩, ?_⟩
  have hx : Passes (L2.CX X.prog X.w) X E := passes_call tk hW
  refine wpAny_call (codeAny_mono (L.call hr I2.env0 l2 r z) fun rr s' hq => ?_)
  cases rr with
  | error e => exact hx pins σ H2 s2 e s' I2 hq
  | ok fl =>
    cases fl with
    | ret u => exact I2.after hq
    | next => exact False.elim hq
    | brk => exact False.elim hq
    | cont => exact False.elim hq
end
end G
end
section
set_option maxRecDepth 100000
set_option maxHeartbeats 4000000
/-! several except clauses with a name; what their suites say; repr of single values; two tuples of the same things -/
namespace G
open PySem PySem.Spec PyProof.Rows L2
/-- what the clauses wish, one behind another; slot i is the name's -/
def wMA (K : PySem.W.Frag) (Wout : WX) (i : Nat) (D : Ends) : List (Value × (Addr → Value → Option Addr → TS)) → WX
  | [] => Wout
  | (c, ts) :: r => fun cls d σ H => ∃ b, PySem.W.exmOne K cls c = some b ∧ (b = true → ∀ a, H a = none → i < σ.length → ts a cls d { nx := fun σ' H' => D.nx (σ'.set i none) H', rt := D.rt, bk := fun σ' H' => D.bk (σ'.set i none) H', ct := fun σ' H' => D.ct (σ'.set i none) H' } (σ.set i (some (.ref a))) H) ∧
    (b = false → wMA K Wout i D r cls d σ H)
inductive HdsA (X : Cx) (n : Str) : List ExceptHandler → List (Value × (Addr → Value → Option Addr → TS)) → Prop
  | nil : HdsA X n [] []
  | cons {x : Str} {c : Value} {ts : Addr → Value → Option Addr → TS} {b₀ : Stmt} {suite : List Stmt} {np pos' : Pos} {hds : List ExceptHandler} {l : List (Value × (Addr → Value → Option Addr → TS))} (hc : Names X x c)
      (hsu : ∀ (a : Addr) (oe : Obj) (cls : Value) (d : Option Addr) (pn : List (Addr × Obj)), Zc cls d oe → (∃ vs, oe.data = .fields vs) → PSs (X.suite a ((a, oe) :: pn)) (b₀ :: suite) (ts a cls d)) (r : HdsA X n hds l) :
      HdsA X n (.ExceptHandler (some (.Name x np)) (some n) (b₀ :: suite) pos' :: hds) ((c, ts) :: l)
section
variable {X : Cx} {n : Str} {i : Nat} {body : List Stmt} {h₀ : ExceptHandler} {hds : List ExceptHandler} {l : List (Value × (Addr → Value → Option Addr → TS))} {pos : Pos} {tb : WX → TS} {Wout : WX}
theorem ps_try_manyA (hs : X.stack = X.env :: X.outer) (hf : X.env.frame = some X.env.locals) (hN : X.N.Nodup) (hi : X.N[i]? = some n) (hln : X.env.kindOf n = some .local) (tk : Takes X Wout)
    (hb : ∀ (W : WX) (pn : List (Addr × Obj)) (xe : Value → Shared → Prop), Takes (X.tr pn xe) W → PassesOwn (model X.prog X.w) X.A X.env xe → PSs (X.tr pn xe) body (tb W)) (hh : HdsA X n (h₀ :: hds) l) :
    PS X (.Try body (h₀ :: hds) [] [] pos) (fun D σ H => tb (wMA X.K Wout i D l) D σ H) := by
  refine ⟨fun pins s σ H D I h => ?_⟩
  have ok := I.ok
  have hfr : X.A.frames = some (X.env :: X.outer) := by rw [ok.frames, hs]
  have hloc : Loc X.env.scope n := .inl hln
  refine wpAny_Try_except ?_
  refine wpAny_mono ((hb (wMA X.K Wout i D l) (X.pn ++ pins) (fun e s₁ => wpAny (model X.prog X.w) X.A (noteFrame e X.env) (fun _ s₂ => wpAny (model X.prog X.w) X.A (setFlight e none) (fun _ s₃ =>
    wpAny (model X.prog X.w) X.A (handleBy e X.env (h₀ :: hds)) (SP X pins D) X.xe s₃) X.xe s₂) X.xe s₁) (fun u s' xx => ?_) PassesOwn.looking).run [] s σ H D (I.toTry _) h) (fun f s1 hsp => ?_) (fun e s1 he => he)
  rotate_left
  · cases f with
    | next => obtain ⟨σ', H', J', q⟩ := hsp; exact wpAny_execs_nil ⟨σ', H', J'.ofTry ok, q⟩
    | brk => obtain ⟨σ', H', J', q⟩ := hsp; exact ⟨σ', H', J'.ofTry ok, q⟩
    | cont => obtain ⟨σ', H', J', q⟩ := hsp; exact ⟨σ', H', J'.ofTry ok, q⟩
    | ret u => obtain ⟨v, σ', H', J', r, q⟩ := hsp; exact ⟨v, σ', H', J'.ofTry ok, r, q⟩
  obtain ⟨a, B, sI, pins', σ', H', cls, d, rfl, J', nb, up, sky, na, os, ag, w⟩ := xx
  have J : Inv X pins σ' H' sI := J'.ofTry ok
  have sky' : Sky B (X.env :: X.outer) a (Zc cls d) X.env.locals s'.heap := by rw [← hs]; exact sky
  show wpAny (model X.prog X.w) X.A (noteFrame (.ref a) X.env) _ _ _
  refine Sky.land Zc.steady hfr hf sky' fun h3 fl3 up3 => ?_
  have J3 : Inv X pins σ' H' { s' with heap := h3 } := J.landed nb fl3.1 (up.trans up3) os ag
  obtain ⟨oe3, vs3, he3, hz3, hd3⟩ := fl3.there
  have nfr : a ∉ frs (X.env :: X.outer) := fun hm => by
    obtain ⟨_, o', e', hnf⟩ := fl3.2.2.1.mem hm
    rw [he3] at e'
    cases e'
    exact hnf _ hd3
  have nL : a ≠ X.env.locals := fun z => nfr (List.mem_filterMap.mpr ⟨X.env, .head _, by rw [hf, z]⟩)
  have nF : a ∉ X.fs := fun hm => by
    obtain ⟨e, he, q⟩ := List.mem_filterMap.mp hm
    exact nfr (List.mem_filterMap.mpr ⟨e, .tail _ he, q⟩)
  have S3 := J3.suite he3 hd3 na nL nF
  have each : ∀ {hds' : List ExceptHandler} {l' : List (Value × (Addr → Value → Option Addr → TS))}, HdsA X n hds' l' → wMA X.K Wout i D l' cls d σ' H' → wpAny (model X.prog X.w) X.A (handleBy (.ref a) X.env hds') (SP X pins D) X.xe { s' with heap := h3 } := by
    intro hds' l' hk
    induction hk with
    | nil =>
      intro w
      refine wpAny_handleBy_nil ?_
      obtain ⟨k1, k2, k3, oe, vs, T, oT, ts', he, hz, hd, h1, hr⟩ := id fl3
      unfold PySem.passOn
      refine wpAny_bind (wpAny_field he hd h1 ?_)
      rw [if_neg (show ¬ ((Value.ref T == Value.none) = true) from by simp)]
      have fin : wpAny (model X.prog X.w) X.A (setFlight (.ref a) X.env.frame) (fun _ s4 => wpAny (model X.prog X.w) X.A (throw (.ref a) : Sem Flow) (SP X pins D) X.xe s4) X.xe { s' with heap := h3 } := by
        rw [hf]
        exact HandSPX.setFlight_upZ fl3 fun h4 hh4 up4 => wpAny_throw (tk _ _ ⟨a, B, sI, pins, σ', H', cls, d, rfl, J, nb, (up.trans up3).trans up4, .inr (.inr (by rw [hs]; exact hh4)), na, os, ag, w⟩)
      first
        | exact wpAny_bind (wpAny_pure (wpAny_bind fin))
        | exact wpAny_bind fin
    | @cons x c ts b₀ suite np pos' hds2 l2 hc hsu r ih =>
      intro w
      obtain ⟨b, hb1, hyes, hno⟩ := w
      refine wpAny_handleBy_cons (codeAny_handlers_test ?_) (by intro q; cases q)
      have LT : PySem.W.Looks (model X.prog X.w) h3 (typeOf (.ref a)) cls := fun A Q E s k q => wpAny_typeOf_ref (k _ _ he3) (by rw [hz3.1]; exact q)
      have LM := PySem.W.exm_one (M := model X.prog X.w) (J3.kIn) LT hb1
      have test : ∀ {Q : Value → Shared → Prop} {E : Value → Shared → Prop}, Q c { s' with heap := h3 } → wpAny (model X.prog X.w) (X.A.mark (some (.ref a))) (eval (.Name x np) X.env) Q E { s' with heap := h3 } := fun {Q E} q => by
        obtain ⟨hg, hdbg, hm | ⟨hm, hv, hnn⟩⟩ := hc
        · exact ld_glob (X := X.suite a ((a, oe3) :: (X.pn ++ pins))) S3 hg hm q hdbg
        · exact ld_blt (X := X.suite a ((a, oe3) :: (X.pn ++ pins))) S3 hg hm hv q hnn hdbg
      refine test (LM.here ?_)
      cases b with
      | false => exact ih (hno rfl)
      | true =>
        refine codeAny_handlers_suite_as ?_
        refine HandSPX.lands_againZ fl3 fun h4 fl4 up4 => ?_
        have J4 : Inv X pins σ' H' { s' with heap := h4 } := J.landed nb fl4.1 ((up.trans up3).trans up4) os ag
        obtain ⟨oe4, vs4, he4, hz4, hd4⟩ := fl4.there
        have S4 := J4.suite he4 hd4 na nL nF
        refine store_ok (X := X.suite a ((a, oe4) :: (X.pn ++ pins))) (v := .ref a) S4 hN hi hloc rfl (fun s5 S5 => ?_) (.inr hln)
        refine wpAny_mono ((hsu a oe4 cls d (X.pn ++ pins) hz4 ⟨_, hd4⟩).run [] s5 _ H' _ S5 (hyes rfl a na (by rw [J.len]; exact (List.getElem?_eq_some_iff.mp hi).1))) (fun f s6 hsp => ?_) (fun _ _ z => False.elim z)
        have gone : ∀ {σ6 : L2.St} {H6 : Hp} {Q : Shared → Prop}, Inv (X.suite a ((a, oe4) :: (X.pn ++ pins))) [] σ6 H6 s6 → (∀ s7, Inv X pins (σ6.set i none) H6 s7 → Q s7) →
            wpAny (model X.prog X.w) X.A (do bindName X.env n .none; unbindBehindTheSuite X.env n pos') (fun _ s7 => Q s7) X.xe s6 := fun S6 hq => gone_ok (S6.unsuite ok) hN hi hln hq
        cases f with
        | next => obtain ⟨σ6, H6, S6, q6⟩ := hsp; exact gone S6 fun s7 J7 => ⟨_, _, J7, q6⟩
        | brk => obtain ⟨σ6, H6, S6, q6⟩ := hsp; exact gone S6 fun s7 J7 => ⟨_, _, J7, q6⟩
        | cont => obtain ⟨σ6, H6, S6, q6⟩ := hsp; exact gone S6 fun s7 J7 => ⟨_, _, J7, q6⟩
        | ret u => obtain ⟨v6, σ6, H6, S6, r6, q6⟩ := hsp; exact gone S6 fun s7 J7 => ⟨_, _, _, J7, r6, q6⟩
  exact each hh w
end
/-! ### isinstance(e, C) in a suite -/
def rIsX (K : PySem.W.Frag) (D a : Addr) (cls : Value) (d : Option Addr) : List V → Hp → VK → Prop := fun xs H Q => ∃ (c : V) (cv : Value) (b : Bool) (dd : Addr) (l : List (Str × V)), xs = [.ref a, c] ∧ cls = .ref D ∧ ClsV c cv ∧ d = some dd ∧ H dd = some (.xd l) ∧ PySem.W.kitOne K (.ref D) cv = some b ∧ Q (.bl b) H
theorem call_isX {X : Cx} {a D : Addr} {oe : Obj} {cls : Value} {d : Option Addr} {pn : List (Addr × Obj)} (C : ExcC X.K D) (hz : Zc cls d oe) (hf : ∃ vs, oe.data = .fields vs) : CallR (X.suite a ((a, oe) :: pn)) (.builtin "isinstance") (rIsX X.K D a cls d) := by
  intro pins s σ H xs us Q I r h
  obtain ⟨c, cv, b, dd, l, rfl, rfl, hcv, rfl, hdd, e, q⟩ := h
  cases r with
  | cons rx rr =>
    cases rr with
    | cons rt rr =>
      cases rr
      cases rx
      have ec := hcv.eq rt
      subst ec
      obtain ⟨hget, _⟩ := I.pin (a, oe) (List.mem_append.mpr (.inl List.mem_cons_self))
      obtain ⟨vs, hv⟩ := hf
      obtain ⟨mA, hns, _⟩ := (show ObjOk X.prog X.w H s.heap dd (.xd l) from I.hok dd _ hdd)
      obtain ⟨od, ho, _⟩ := lookIn_ns hns
      have J : PySem.W.InstAt s.heap a oe D (some od) := by
        obtain ⟨oc, od', oda, osl⟩ := oe
        obtain ⟨h1, h2⟩ := hz
        dsimp only at h1 h2 hv
        subst h1 h2 hv
        exact ⟨hget, rfl, rfl, ho⟩
      have hcl : (PySem.W.clsIn X.K D).isSome = true := by
        obtain ⟨cd, hc, _⟩ := PySem.W.any_some C.hd
        rw [hc]; rfl
      exact PySem.W.kia_one (PySem.W.kitx_exc hcl C.hg C.hk C.hs C.ha C.hn C.ht C.hm) I.kIn J e (fun z => nomatch z) fun tk => ⟨.bl b, H, I.kept (t' := tk) fun _ _ z => z, rfl, q⟩
/-! ### repr of a single value -/
def reprV : V → Str
  | .non => "None"
  | .bl b => if b then "True" else "False"
  | .int i => toString i
  | .str x => reprText x
  | _ => ""
/-- short enough -/
def Shortv : V → Prop
  | .non => True
  | .bl _ => True
  | .int i => i.natAbs.log2 < 1920
  | .str x => (reprText x).length ≤ sizeLine
  | _ => False
def rRepr1 : List V → Hp → VK → Prop := fun xs H Q => ∃ v, xs = [v] ∧ Shortv v ∧ Q (.str (reprV v)) H
theorem cr_repr1 {X : Cx} : CallR X (.builtin "repr") rRepr1 := by
  intro pins s σ H xs us Q I r h
  obtain ⟨v, rfl, hs, q⟩ := h
  obtain ⟨u, rfl, rx⟩ := vals1 r
  cases v with
  | non => cases (show u = Value.none from rx); exact PySem.P.repr_of_none ⟨.str _, H, I.tok _, ⟨_, rfl⟩, q⟩
  | bl b => cases (show u = Value.bool b from rx); exact PySem.P.repr_of_bool ⟨.str _, H, I.tok _, ⟨_, rfl⟩, q⟩
  | int i => obtain ⟨t, rfl⟩ := rx; exact PySem.P.repr_of_int hs ⟨.str _, H, I.tok _, ⟨_, rfl⟩, q⟩
  | str x => obtain ⟨t, rfl⟩ := rx; exact PySem.P.repr_of_str (hsz := hs) ⟨.str _, H, I.tok _, ⟨_, rfl⟩, q⟩
  | _ => exact hs.elim
/-! ### two tuples of the same things -/
def rNeSame (K : PySem.W.Frag) : R2 := fun x y H Q => ∃ a b xs, x = .ref a ∧ y = .ref b ∧ SqT K H a xs ∧ SqT K H b xs ∧ (∀ v ∈ xs, (∃ p, v = .ref p) ∨ flatV v = true) ∧ Q (.bl false) H
def rEqSame (K : PySem.W.Frag) : R2 := fun x y H Q => ∃ a b xs, x = .ref a ∧ y = .ref b ∧ SqT K H a xs ∧ SqT K H b xs ∧ (∀ v ∈ xs, (∃ p, v = .ref p) ∨ flatV v = true) ∧ Q (.bl true) H
theorem same_tup {X : Cx} {pins : List (Addr × Obj)} {σ : L2.St} {H : Hp} {s : Shared} (I : Inv X pins σ H s) {a b : Addr} {xs : List V} (ha : SqT X.K H a xs) (hb : SqT X.K H b xs) (hf : ∀ v ∈ xs, (∃ p, v = .ref p) ∨ flatV v = true) :
    ∃ i1 i2 : Array Value, s.heap.IsTuple a i1 ∧ s.heap.IsTuple b i2 ∧ i1.size = i2.size ∧ ∀ (A : Around) (j : Nat) (h1 : j < i1.size) (h2 : j < i2.size), SeqAt.EqAt A s i1[j] i2[j] true := by
  obtain ⟨its, r1, p1, _⟩ := I.tuple ha
  obtain ⟨jts, r2, p2, _⟩ := I.tuple hb
  have l1 := r1.length
  have l2 := r2.length
  refine ⟨its.toArray, jts.toArray, p1, p2, by rw [List.size_toArray, List.size_toArray, ← l1, ← l2], fun A j h1 h2 => ?_⟩
  have hj : j < xs.length := by rw [List.size_toArray, ← l1] at h1; exact h1
  obtain ⟨u, hu, ru⟩ := r1.get (List.getElem?_eq_getElem hj)
  obtain ⟨u', hu', ru'⟩ := r2.get (List.getElem?_eq_getElem hj)
  have e1 : its.toArray[j] = u := by
    have : its[j]? = some its.toArray[j] := by rw [← List.getElem?_toArray]; exact Array.getElem?_eq_getElem h1
    rw [hu] at this
    exact (Option.some.inj this).symm
  have e2 : jts.toArray[j] = u' := by
    have : jts[j]? = some jts.toArray[j] := by rw [← List.getElem?_toArray]; exact Array.getElem?_eq_getElem h2
    rw [hu'] at this
    exact (Option.some.inj this).symm
  rw [e1, e2]
  rcases hf _ (List.getElem_mem hj) with ⟨p, e⟩ | h
  · rw [e] at ru ru'
    cases ru
    cases ru'
    exact SeqAt.EqAt.same _
  · refine eqAt_same ru ru' ?_
    generalize xs[j] = v at h
    cases v <;> first | rfl | cases h
theorem op_neSame {X : Cx} (hu : X.A.units + 64 < cLine) : OpR X (compareOp .NotEq) (rNeSame X.K) := by
  intro pins s σ H x y v u Q I rx ry h
  obtain ⟨a, b, xs, rfl, rfl, ha, hb, hf, q⟩ := h
  cases rx
  cases ry
  obtain ⟨i1, i2, t1, t2, sz, he⟩ := same_tup I ha hb hf
  have r := SeqAt.RcNeAt.tuples (A := X.A) (e := fun _ => true) t1 t2 (by omega) fun j h1 h2 => he X.A.in1 j h1 h2
  have e : (!((List.range (min i1.size i2.size)).all (fun _ => true) && i1.size == i2.size)) = false := by rw [sz]; simp
  rw [e] at r
  exact r X.prog X.w X.xe _ ⟨.bl false, H, I, rfl, q⟩
theorem op_eqSame {X : Cx} (hu : X.A.units + 64 < cLine) : OpR X (compareOp .Eq) (rEqSame X.K) := by
  intro pins s σ H x y v u Q I rx ry h
  obtain ⟨a, b, xs, rfl, rfl, ha, hb, hf, q⟩ := h
  cases rx
  cases ry
  obtain ⟨i1, i2, t1, t2, sz, he⟩ := same_tup I ha hb hf
  have r := SeqAt.RcAt.tuples (A := X.A) (e := fun _ => true) t1 t2 (by omega) fun j h1 h2 => he X.A.in1 j h1 h2
  have e : ((List.range (min i1.size i2.size)).all (fun _ => true) && i1.size == i2.size) = true := by rw [sz]; simp
  rw [e] at r
  exact r X.prog X.w X.xe _ ⟨.bl true, H, I, rfl, q⟩
end G
end
section
set_option maxRecDepth 100000
set_option maxHeartbeats 4000000
namespace Onew
open PySem PySem.Spec PyProof.Rows L2 G
open LamX (CodeO TabS Tabs ExtN TabB GivesTo)
/-- an own class, asked by isinstance -/
structure OwnC (K : PySem.W.Frag) (D : Addr) : Prop where
  cl : Cls K D
  ha : PySem.W.findIn K (.ref D) "__class__" = some (some (.builtin "object.__class__"))
  hn : PySem.W.specialIn K (.builtin "object.__class__") "__get__" = some (some (.builtin "getset_descriptor.__get__"))
  htk : PySem.W.takesIn K (.builtin "object.__class__") = some true
  hm : PySem.W.mroIn K D (.type "object") = some true
/-- what _law_heard asks of the text -/
structure TxH (K : PySem.W.Frag) (mg : Str → Option Value) (CM CC CR CN CF CT CB CW : Addr) : Prop where
  mB : mg "BadRow" = some (.ref CB)
  mW : mg "WitnessError" = some (.ref CW)
  cN : ExcC K CN
  cF : ExcC K CF
  cT : ExcC K CT
  cR : ExcC K CR
  nb : PySem.W.exmOne K (.ref CN) (.ref CB) = some false
  nn : PySem.W.exmOne K (.ref CN) (.ref CN) = some true
  fb : PySem.W.exmOne K (.ref CF) (.ref CB) = some false
  fn : PySem.W.exmOne K (.ref CF) (.ref CN) = some false
  ff : PySem.W.exmOne K (.ref CF) (.ref CF) = some true
  tb : PySem.W.exmOne K (.ref CT) (.ref CB) = some false
  tn : PySem.W.exmOne K (.ref CT) (.ref CN) = some false
  tf : PySem.W.exmOne K (.ref CT) (.ref CF) = some false
  tt : PySem.W.exmOne K (.ref CT) (.ref CT) = some true
  rb : PySem.W.exmOne K (.ref CR) (.ref CB) = some false
  rn : PySem.W.exmOne K (.ref CR) (.ref CN) = some false
  rf : PySem.W.exmOne K (.ref CR) (.ref CF) = some false
  rt : PySem.W.exmOne K (.ref CR) (.ref CT) = some false
  rr : PySem.W.exmOne K (.ref CR) (.ref CR) = some true
  kN : PySem.W.kitOne K (.ref CN) (.type "KeyError") = some true
  kF : PySem.W.kitOne K (.ref CF) (.ref CW) = some true
  kT : PySem.W.kitOne K (.ref CT) (.ref CW) = some true
  kR : PySem.W.kitOne K (.ref CR) (.ref CW) = some true
  oM : OwnC K CM
  oC : OwnC K CC
  aM : PySem.W.kitAny K (.ref CM) [.ref CM, .ref CC] = some true
  aC : PySem.W.kitAny K (.ref CC) [.ref CM, .ref CC] = some true
theorem call_isiS {X : Cx} {a : Addr} {oe : Obj} {pn : List (Addr × Obj)} : CallR (X.suite a ((a, oe) :: pn)) (.builtin "isinstance") (rIsiT X.K) := call_isiT
/-- it answers with a tuple of xs -/
abbrev Ans3 (Q : VK) (xs : List V) (H : Hp) : Prop := ∀ t H', Ex H H' → H' t = some (.tup xs) → Q (.ref t) H'
/-- what _law_heard makes of what leaves the asked one -/
inductive HeardE (CM CC CR CN CF CT : Addr) (Q : VK) : XK
  | state {d : Addr} {v : V} {H : Hp} : H d = some (.xd [("state", v)]) → Shortv v → Ans3 Q [.str "state", .str (reprV v), .bl true] H → HeardE CM CC CR CN CF CT Q (.ref CN) (some d) H
  | forgets {d : Addr} {a b c : V} {H : Hp} : H d = some (.xd [("deed", a), ("one", b), ("other", c)]) → (∀ t1 t H', Ex H H' → H' t1 = some (.tup [a, b, c]) → H' t = some (.tup [.str "forgets", .ref t1, .bl true]) → Q (.ref t) H') → HeardE CM CC CR CN CF CT Q (.ref CF) (some d) H
  | great {d : Addr} {v : V} {H : Hp} : H d = some (.xd [("most", v)]) → Ans3 Q [.str "great", v, .bl true] H → HeardE CM CC CR CN CF CT Q (.ref CT) (some d) H
  | refused {d p D dx : Addr} {fs : List (Str × V)} {H : Hp} : H d = some (.xd [("at", .ref p)]) → H p = some (.ins D dx fs) → (D = CM ∨ D = CC) → Ans3 Q [.str "refused", .ref p, .bl true] H → HeardE CM CC CR CN CF CT Q (.ref CR) (some d) H
/-- .. and of its answer -/
def HeardQ (Q : VK) : VK := fun v H => [V.str "told", v].length ≤ sizeLine ∧ ∀ p, H p = none → Q (.ref p) (upd H p (.tup [.str "told", v]))
abbrev THeard (CM CC CR CN CF CT : Addr) : (XK → Hp → VK → Prop) → Hp → VK → Prop := fun tl H Q => tl (HeardE CM CC CR CN CF CT Q) H (HeardQ Q)
abbrev sHeard : Stmt := top 58
theorem scHeard : FnScope ["_law_ask", "fault"] ["_law_ask"] (defScope sHeard) := ⟨rfl, rfl, rfl, by decide +kernel, rfl, by decide +kernel, by decide +kernel⟩
theorem heard_gives {X : Cx} {CM CC CR CN CF CT CB CW : Addr} (T : Txt X.K X.mg) (TC : TxC X.K X.mg CM CC) (TE : TxE X.prog X.K X.mg CR CN CF CT) (TH : TxH X.K X.mg CM CC CR CN CF CT CB CW) {g : Addr} {cdg : Value} {q : Str} :
    GivesTo X ["_law_ask", "fault"] "_law_heard" (defScope sHeard) g cdg (defBody sHeard) "_law_ask" q (THeard CM CC CR CN CF CT) := by
  intro f c' s H Q tl act hc h
  obtain ⟨_, xR⟩ := TE.re
  obtain ⟨_, xN⟩ := TE.no
  obtain ⟨_, xF⟩ := TE.fo
  obtain ⟨_, xT⟩ := TE.tg
  have nd := scHeard.nd
  refine ⟨_, pss_one (ps_try_manyA (X := (cxOf C8.CX0 X.prog X.w X.K X.mg X.base ["_law_ask", "fault"] "_law_heard" (defScope sHeard) g cdg X.A X.stack s H C8.E0).nox) (i := 1) (n := "fault")
      (tb := fun W D σ H => ∃ Ech : XK, (∀ cls d σ' H', Ech cls d H' → W cls d σ' H') ∧ σ[0]? = some (some (.ref f)) ∧ H c' = some (CodeO c' q) ∧ tl Ech H (HeardQ D.rt))
      rfl rfl nd rfl rfl LamX.takes0 (fun W pn xe tk _ => ?_)
      (.cons (c := .ref CB) ⟨by rfl, by decide, .inl TH.mB⟩ (fun a oe cls d pn hz hf => pss_dead)
      (.cons (c := .ref CN) ⟨by rfl, by decide, .inl xN.gC⟩ (fun a oe cls d pn hz hf => pss_one (ps_ret (pe_tup (pa_cons pe_str (pa_cons (pe_callB cr_repr1 (by rfl) (T.no "repr" (by decide)) boot_repr (pa_cons (pe_byX xN (by decide) hz hf (pv 1)) pa_nil)) (pa_cons (pe_callB (call_isX TH.cN hz hf) (by rfl) (T.no "isinstance" (by decide)) boot_isinstance (pa_cons (pv 1) (pa_cons (pe_bltn (by rfl) (T.no "KeyError" (by decide)) (u := .type "KeyError") (by decide +kernel) (v := .ty "KeyError") rfl) pa_nil))) pa_nil))))))
      (.cons (c := .ref CF) ⟨by rfl, by decide, .inl xF.gC⟩ (fun a oe cls d pn hz hf => pss_one (ps_ret (pe_tup (pa_cons pe_str (pa_cons (pe_tup (pa_cons (pe_byX xF (by decide) hz hf (pv 1)) (pa_cons (pe_byX xF (by decide) hz hf (pv 1)) (pa_cons (pe_byX xF (by decide) hz hf (pv 1)) pa_nil)))) (pa_cons (pe_callB (call_isX TH.cF hz hf) (by rfl) (T.no "isinstance" (by decide)) boot_isinstance (pa_cons (pv 1) (pa_cons (pe_glob (by rfl) TH.mW (v := .ref CW) rfl) pa_nil))) pa_nil))))))
      (.cons (c := .ref CT) ⟨by rfl, by decide, .inl xT.gC⟩ (fun a oe cls d pn hz hf => pss_one (ps_ret (pe_tup (pa_cons pe_str (pa_cons (pe_byX xT (by decide) hz hf (pv 1)) (pa_cons (pe_callB (call_isX TH.cT hz hf) (by rfl) (T.no "isinstance" (by decide)) boot_isinstance (pa_cons (pv 1) (pa_cons (pe_glob (by rfl) TH.mW (v := .ref CW) rfl) pa_nil))) pa_nil))))))
      (.cons (c := .ref CR) ⟨by rfl, by decide, .inl xR.gC⟩ (fun a oe cls d pn hz hf => pss_one (ps_ret (pe_tup (pa_cons pe_str (pa_cons (pe_ifExp (pt_val (pe_callB call_isiS (by rfl) (T.no "isinstance" (by decide)) boot_isinstance (pa_cons (pe_byX xR (by decide) hz hf (pv 1)) (pa_cons (pe_tup (pa_cons (pe_glob (by rfl) TC.mM (v := .ref CM) rfl) (pa_cons (pe_glob (by rfl) TC.mC (v := .ref CC) rfl) pa_nil))) pa_nil)))) (pe_byX xR (by decide) hz hf (pv 1)) (pe_callB cr_repr1 (by rfl) (T.no "repr" (by decide)) boot_repr (pa_cons (pe_byX xR (by decide) hz hf (pv 1)) pa_nil))) (pa_cons (pe_callB (call_isX TH.cR hz hf) (by rfl) (T.no "isinstance" (by decide)) boot_isinstance (pa_cons (pv 1) (pa_cons (pe_glob (by rfl) TH.mW (v := .ref CW) rfl) pa_nil))) pa_nil))))))
      .nil)))))), ?_⟩
  · refine ⟨fun pins s' σ H' D I h' => ?_⟩
    obtain ⟨Ech, hW, h1, h2, h3⟩ := h'
    have hp : ∀ p1 p2, _ := fun p1 p2 => act W pn xe Ech p1 p2 tk hW
    exact (pss_one (ps_ret (pe_tup (pa_cons pe_str (pa_cons (hp _ _) pa_nil))))).run pins s' σ H' D I ⟨h1, h2, h3⟩
  · refine ⟨HeardE CM CC CR CN CF CT Q, fun cls d σ' H' he => ?_, rfl, hc, h⟩
    cases he with
    | @state d v _ hd hs ha =>
      refine ⟨false, TH.nb, fun z => (nomatch z), fun _ => ⟨true, TH.nn, fun _ a na hl => ?_, fun z => (nomatch z)⟩⟩
      have sl := List.getElem?_set_self (a := some (V.ref a)) hl
      refine ⟨_, sl, rfl, rfl, d, _, v, rfl, hd, rfl, v, rfl, hs, ?_⟩
      refine ⟨_, sl, .ty "KeyError", .type "KeyError", true, d, _, rfl, rfl, .ty _, rfl, hd, TH.kN, tnil ⟨by show 3 ≤ sizeLine; decide, fun t ht => ha t _ (Ex.new ht) upd_same⟩⟩
    | @forgets d a b c _ hd ha =>
      refine ⟨false, TH.fb, fun z => (nomatch z), fun _ => ⟨false, TH.fn, fun z => (nomatch z), fun _ => ⟨true, TH.ff, fun _ a0 na hl => ?_, fun z => (nomatch z)⟩⟩⟩
      have sl := List.getElem?_set_self (a := some (V.ref a0)) hl
      refine ⟨_, sl, rfl, rfl, d, _, a, rfl, hd, rfl, _, sl, rfl, rfl, d, _, b, rfl, hd, rfl, _, sl, rfl, rfl, d, _, c, rfl, hd, rfl, tnil ⟨by show 3 ≤ sizeLine; decide, fun t1 ht1 => ?_⟩⟩
      refine ⟨_, sl, .ref CW, .ref CW, true, d, _, rfl, rfl, .own _, rfl, (Ex.new ht1) _ _ hd, TH.kF, tnil ⟨by show 3 ≤ sizeLine; decide, fun t ht => ha t1 t _ ((Ex.new ht1).tr (Ex.new ht)) ((Ex.new ht) _ _ upd_same) upd_same⟩⟩
    | @great d v _ hd ha =>
      refine ⟨false, TH.tb, fun z => (nomatch z), fun _ => ⟨false, TH.tn, fun z => (nomatch z), fun _ => ⟨false, TH.tf, fun z => (nomatch z), fun _ => ⟨true, TH.tt, fun _ a0 na hl => ?_, fun z => (nomatch z)⟩⟩⟩⟩
      have sl := List.getElem?_set_self (a := some (V.ref a0)) hl
      refine ⟨_, sl, rfl, rfl, d, _, v, rfl, hd, rfl, ?_⟩
      refine ⟨_, sl, .ref CW, .ref CW, true, d, _, rfl, rfl, .own _, rfl, hd, TH.kT, tnil ⟨by show 3 ≤ sizeLine; decide, fun t ht => ha t _ (Ex.new ht) upd_same⟩⟩
    | @refused d p D dx fs _ hd hp hD ha =>
      refine ⟨false, TH.rb, fun z => (nomatch z), fun _ => ⟨false, TH.rn, fun z => (nomatch z), fun _ => ⟨false, TH.rf, fun z => (nomatch z), fun _ => ⟨false, TH.rt, fun z => (nomatch z), fun _ => ⟨true, TH.rr, fun _ a0 na hl => ?_, fun z => (nomatch z)⟩⟩⟩⟩⟩
      have sl := List.getElem?_set_self (a := some (V.ref a0)) hl
      refine ⟨_, sl, rfl, rfl, d, _, _, rfl, hd, rfl, by show 2 ≤ sizeLine; decide, fun t0 ht0 => ?_⟩
      have e0 := Ex.new (o := .tup [V.ref CM, .ref CC]) ht0
      have own : OwnC X.K D ∧ PySem.W.kitAny X.K (.ref D) [.ref CM, .ref CC] = some true := by
        rcases hD with e | e
        · rw [e]; exact ⟨TH.oM, TH.aM⟩
        · rw [e]; exact ⟨TH.oC, TH.aC⟩
      refine ⟨.ref p, t0, _, .ref D, _, true, rfl, upd_same, .cons (.own _) (.cons (.own _) .nil), .base (.ins (e0 _ _ hp) own.1.cl own.1.ha own.1.hn own.1.htk own.1.hm), own.2, _, rfl, ?_⟩
      refine itT rfl ⟨_, sl, rfl, rfl, d, _, _, rfl, e0 _ _ hd, rfl, ?_⟩
      refine ⟨_, sl, .ref CW, .ref CW, true, d, _, rfl, rfl, .own _, rfl, e0 _ _ hd, TH.kR, tnil ⟨by show 3 ≤ sizeLine; decide, fun t ht => ha t _ (e0.tr (Ex.new ht)) upd_same⟩⟩
end Onew
end
section
set_option maxRecDepth 100000
set_option maxHeartbeats 4000000
namespace Onew
open PySem PySem.Spec PyProof.Rows L2 G
open LamX (CodeO TabS Tabs ExtN TabB GivesTo)
open Mx (Tab im Rch rl rowF forgF doneOn Fm nextD nextP)
/-- f(k = v, ..), keywords alone -/
theorem pcallK0 {X : Cx} {k j : Nat} {nm : Str} {ps ks : List Str} {gV : List V → List V → List V} {sp : Sp} {kws : List Keyword} {tk : TA} {p pos : Pos} {W : WX} {E : XK} (D : DefK X.prog X.w X.K X.mg X.base k nm ps 0 ks gV sp) (hr : Room j X.A) (hk : k ≤ j) (tkk : Takes X W) (hW : ∀ cls d σ H, E cls d H → W cls d σ H) (hkw : PK X kws tk)
    (hg : Gl X nm := by rfl) (hall : (backToKw pos (keywordEach kws X.env)).all (·.1.isSome) = true := by rfl) (hks : (backToKw pos (keywordEach kws X.env)).filterMap (·.1) = ks := by rfl) (hdb : (nm == ("__debug__" : Str)) = false := by decide)
    (hpl : ((backTo pos (starEach [] X.env)).any (·.1) || (backToKw pos (keywordEach kws X.env)).any (·.1.isNone)) = false := by rfl) : PE X (.Call (.Name nm p) [] kws pos) (tCallN 0 ks.length sp gV E tNil tk) := by
  obtain ⟨f, fd, g, F, hm, kp, b⟩ := D.ex
  refine ⟨fun pins s σ H Q I h => wpAny_Call_Name_kw (ld_glob I hg hm ?_ hdb)⟩
  refine PySem.W.callWith_KW0 (h₀ := X.base) I.ok.mod.kin kp hall (thn (hkw.run pos pins s σ H _ I h) fun ws s2 ⟨zs, H2, I2, rz, l1, l2, q2⟩ => ⟨I2.kIn, ?_⟩) hpl
  rw [hks]
  exact run_fnN F (hr.mono hk) b (passes_call tkk hW) I2 .nil rz l1 l2 q2
theorem NeedD.up {CM CC CR CN CF : Addr} {H H' : Hp} {p : Addr} {v : V} {d : PyData} {c : Addr} {ts : Tab} {ns es : List Nat} {E : XK} {Q : Hp → Prop} (N : NeedD CM CC CR CN CF H p v d c ts ns es E Q) (e : Ex H H') : NeedD CM CC CR CN CF H' p v d c ts ns es E Q where
  m := N.m.ex e
  ok := N.ok
  r := N.r.ex e
  cn := N.cn.ex e
  l1 := N.l1
  l2 := N.l2
  e1 := fun h => (N.e1 h).up e
  e2 := fun h1 h2 => (N.e2 h1 h2).up e
  e3 := fun h1 h2 h3 => (N.e3 h1 h2 h3).up e
  e4 := fun f a b c d k x y z d2 H2 e2 h2 => N.e4 f a b c d k x y z d2 H2 (e.tr e2) h2
  q := fun f a b c d h H2 e2 => N.q f a b c d h H2 (e.tr e2)
/-! ### objects made -/
structure MkM (P : Program) (w : World) (K : PySem.W.Frag) (mg : Str → Option Value) (base : Heap) (CM : Addr) : Prop where
  ex : ∃ (f : Addr) (fd : FuncData), Mk K CM f ∧ FnOk P w K mg base (L2.CX P w) 6 f fd ["self", "tables"] (spMIni CM) ∧ Binds K fd ["self", "tables"] []
structure MkC (P : Program) (w : World) (K : PySem.W.Frag) (mg : Str → Option Value) (base : Heap) (CC eA : Addr) (c : Bool) : Prop where
  ex : ∃ (f : Addr) (fd : FuncData), Mk K CC f ∧ FnOk P w K mg base (L2.CX P w) 4 f fd ["self", "rounds", "rests"] (spCIni K CC) ∧ Binds K fd ["self", "rounds", "rests"] [] ∧ Binds K fd ["self", "rounds", "rests"] [.ref eA]
  em : ∀ H, SqV K H eA [] ∧ TyX K H (.ref eA) (.type (tyL c))
section
variable {X : Cx} {CM CC eA : Addr} {cb : Bool} {j : Nat} {e : Expr} {es : List Expr} {t : TA} {p pos : Pos}
theorem pe_mach (M : MkM X.prog X.w X.K X.mg X.base CM) (hr : Room j X.A) (hj : 7 ≤ j) (hm : X.mg "Machine" = some (.ref CM)) (ha : PA X (e :: es) t) (hg : Gl X "Machine" := by rfl) (he : starEach (e :: es) X.env = (false, eval e X.env) :: starEach es X.env := by rfl) (hpl : (backTo pos (starEach es X.env)).any (·.1) = false := by rfl) :
    PE X (.Call (.Name "Machine" p) (e :: es) [] pos) (tMake CM (spMIni CM) [] (fun _ _ _ => False) t) := by
  obtain ⟨f, fd, mk, F, b⟩ := M.ex
  exact pe_make (p := p) (pos := pos) mk F (hr.mono hj) hg hm b .nil passF ha (by decide) he hpl
theorem pe_coun2 (M : MkC X.prog X.w X.K X.mg X.base CC eA cb) (hr : Room j X.A) (hj : 5 ≤ j) (hm : X.mg "Counters" = some (.ref CC)) (ha : PA X (e :: es) t) (hg : Gl X "Counters" := by rfl) (he : starEach (e :: es) X.env = (false, eval e X.env) :: starEach es X.env := by rfl) (hpl : (backTo pos (starEach es X.env)).any (·.1) = false := by rfl) :
    PE X (.Call (.Name "Counters" p) (e :: es) [] pos) (tMake CC (spCIni X.K CC) [] (fun _ _ _ => False) t) := by
  obtain ⟨f, fd, mk, F, b, _⟩ := M.ex
  exact pe_make (p := p) (pos := pos) mk F (hr.mono hj) hg hm b .nil passF ha (by decide) he hpl
/-- Counters(rounds): its rests are the empty tuple eA -/
theorem pe_coun1 (M : MkC X.prog X.w X.K X.mg X.base CC eA cb) (hr : Room j X.A) (hj : 5 ≤ j) (hm : X.mg "Counters" = some (.ref CC)) (ha : PA X (e :: es) t) (hg : Gl X "Counters" := by rfl) (he : starEach (e :: es) X.env = (false, eval e X.env) :: starEach es X.env := by rfl) (hpl : (backTo pos (starEach es X.env)).any (·.1) = false := by rfl) :
    PE X (.Call (.Name "Counters" p) (e :: es) [] pos) (tMake CC (spCIni X.K CC) [.ref eA] (fun _ _ _ => False) t) := by
  obtain ⟨f, fd, mk, F, _, b⟩ := M.ex
  exact pe_make (p := p) (pos := pos) mk F (hr.mono hj) hg hm b (.cons rfl .nil) passF ha (by decide) he hpl
end
theorem made_ex {H1 H' : Hp} {x dx C : Addr} (hx : H1 x = none) (hdx : H1 dx = none) (b : But x (upd (upd H1 dx (.own x)) x (.ins C dx [])) H') : Ex H1 H' := fun a o h => by
  refine b a o (ne_of_none h hx) ?_
  rw [upd_ne (ne_of_none h hx), upd_ne (ne_of_none h hdx)]
  exact h
theorem made_r {H1 : Hp} {x dx C : Addr} (hx : H1 x = none) (hdx : H1 dx = none) (ne : dx ≠ x) : Ex H1 (upd (upd H1 dx (.own x)) x (.ins C dx [])) := (Ex.new hdx).tr (Ex.new (by rw [upd_ne ne.symm]; exact hx))
theorem made_mach {CM : Addr} {H1 : Hp} {v : V} {rs : List (Bool × List Nat)} {m : Nat} {G : Addr → Hp → Prop} {E : XK} (r : R H1 v (.list (rowsD rs))) (l1 : 1 ≤ rs.length) (l4 : rs.length ≤ 4) (m1 : 1 ≤ m) (m8 : m ≤ 8) (hb : ∀ p ∈ rs, p.2.length = m ∧ ∀ n ∈ p.2, n < m)
    (q : ∀ x H', Ex H1 H' → H1 x = none → MachAt CM H' x (rs.map (·.2)) → G x H') : ∀ x dx, H1 x = none → H1 dx = none → dx ≠ x → spMIni CM (.ref x :: ([v] ++ [])) (upd (upd H1 dx (.own x)) x (.ins CM dx [])) (fun v H2 => v = .non ∧ G x H2) E :=
  fun x dx hx hdx ne => ⟨x, dx, v, rs, m, rfl, upd_same, r.ex (made_r hx hdx ne), l1, l4, m1, m8, hb, fun H' b hm => ⟨rfl, q x H' (made_ex hx hdx b) hx hm⟩⟩
theorem made_coun {K : PySem.W.Frag} {CC : Addr} {H1 : Hp} {v : V} {b : Bool} {ns : List Nat} {eA : Addr} {c : Bool} {G : Addr → Hp → Prop} {E : XK} (he : ∀ H, SqV K H eA [] ∧ TyX K H (.ref eA) (.type (tyL c))) (r : R H1 v (sqD b (nD ns))) (l1 : 1 ≤ ns.length) (l4 : ns.length ≤ 4) (hb : ∀ n ∈ ns, n ≤ 60)
    (q : ∀ x H', Ex H1 H' → H1 x = none → CounAt CC H' x ns (List.replicate ns.length 0) → G x H') : ∀ x dx, H1 x = none → H1 dx = none → dx ≠ x → spCIni K CC (.ref x :: ([v] ++ [.ref eA])) (upd (upd H1 dx (.own x)) x (.ins CC dx [])) (fun v H2 => v = .non ∧ G x H2) E :=
  fun x dx hx hdx ne => ⟨x, dx, v, b, ns, eA, c, [], rfl, upd_same, r.ex (made_r hx hdx ne), l1, l4, hb, .inl ⟨rfl, he⟩, fun n h => absurd h (by simp), fun H' bu hm => ⟨rfl, q x H' (made_ex hx hdx bu) hx hm⟩⟩
theorem made_coun2 {K : PySem.W.Frag} {CC : Addr} {H1 : Hp} {v : V} {b : Bool} {ns : List Nat} {a : Addr} {c : Bool} {es : List Nat} {G : Addr → Hp → Prop} {E : XK} (r : R H1 v (sqD b (nD ns))) (l1 : 1 ≤ ns.length) (l4 : ns.length ≤ 4) (hb : ∀ n ∈ ns, n ≤ 60) (re : R H1 (.ref a) (sqD c (nD es))) (le : es.length = ns.length) (hes : ∀ n ∈ es, n ≤ 6)
    (q : ∀ x H', Ex H1 H' → H1 x = none → CounAt CC H' x ns (restsOf ns.length es) → G x H') : ∀ x dx, H1 x = none → H1 dx = none → dx ≠ x → spCIni K CC (.ref x :: ([v, .ref a] ++ [])) (upd (upd H1 dx (.own x)) x (.ins CC dx [])) (fun v H2 => v = .non ∧ G x H2) E :=
  fun x dx hx hdx ne => ⟨x, dx, v, b, ns, a, c, es, rfl, upd_same, r.ex (made_r hx hdx ne), l1, l4, hb, .inr ⟨re.ex (made_r hx hdx ne), le⟩, hes, fun H' bu hm => ⟨rfl, q x H' (made_ex hx hdx bu) hx hm⟩⟩
/-! ### the two asked ones -/
/-- an asked one that must refuse: need_doings finds nothing good -/
def spAsk (CM CC CR CN CF : Addr) : Sp := fun vs H Q E => ∃ (p : Addr) (v : V) (c : Addr) (d : PyData) (ts : Tab) (ns es : List Nat), vs = [.ref p, v, .ref c] ∧ NeedD CM CC CR CN CF H p v d c ts ns es E (fun _ => True) ∧ ∀ f, ¬ GoodF ts ns es d f
def lamPa : Expr → Arguments
  | .Lambda pa _ _ _ => pa
  | _ => { posonlyargs := [], args := [], vararg := none, kwonlyargs := [], kw_defaults := [], kwarg := none, defaults := [] }
def lamB : Expr → Expr
  | .Lambda _ b _ _ => b
  | e => e
def lamSc : Expr → Scope
  | .Lambda _ _ sc _ => sc
  | _ => { kind := .function, names := [], isGenerator := false, isCoroutine := false }
abbrev sRef : Stmt := top 64
def ask1 : Expr := match (defBody sRef).getD 1 (.Pass ⟨0, 0, 0, 0⟩) with
  | .Assign _ (.List (e :: _) _) _ => e
  | _ => .Constant .none 0 ⟨0, 0, 0, 0⟩
def ask2 : Expr := match (defBody sRef).getD 2 (.Pass ⟨0, 0, 0, 0⟩) with
  | .Expr (.Call _ (e :: _) _ _) _ => e
  | _ => .Constant .none 0 ⟨0, 0, 0, 0⟩
abbrev askN : List Str := ["_law_one", "_law_other", "_law_more"]
theorem scAsk1 : FnScope askN askN (lamSc ask1) := ⟨rfl, rfl, rfl, by decide +kernel, rfl, by decide +kernel, by decide +kernel⟩
theorem scAsk2 : FnScope askN askN (lamSc ask2) := ⟨rfl, rfl, rfl, by decide +kernel, rfl, by decide +kernel, by decide +kernel⟩
section
variable {P : Program} {w : World} {K : PySem.W.Frag} {mg : Str → Option Value} {base : Heap} {CM CC CR CN CF CT : Addr}
abbrev kepN : List Str := ["machine", "first", "counters", "witness", "start", "most"]
abbrev ikgN : List Str := ["machine", "first", "counters", "value", "most"]
theorem ok_ask1 {q : Str} (TC : TxC K mg CM CC) (M : MkM P w K mg base CM) (D_kept : DefK P w K mg base 9 "kept_doings" kepN 5 ["most"] (fun vs zs => vs ++ zs) (spKept CM CC CR CN CF CT)) : LamOk P w K mg base 12 q (lamPa ask1) (lamB ask1) (lamSc ask1) askN (spAsk CM CC CR CN CF) := by
  refine ⟨fun vs H Q E h => ?_, fun pm ctv c us hl => match us, hl with | [_, _, _], _ => rfl, askN, scAsk1, fun A outer s H f c vs Q E hr h => ?_⟩
  · obtain ⟨p, v, c, d, ts, ns, es, rfl, _⟩ := h
    rfl
  · obtain ⟨p, v, c, d, ts, ns, es, rfl, N, bad⟩ := h
    refine ⟨_, pcallK (E := E) D_kept hr (by decide) tk_own (fun _ _ _ _ h => h) (pa_cons (pv 0) (pa_cons (pv 1) (pa_cons (pv 2) (pa_cons (pe_mach M hr (by decide) TC.mM (pa_cons (pe_op op_rep (pe_lst (pa_cons (pe_lst (pa_cons pe_int pa_nil)) pa_nil)) pe_int) pa_nil)) (pa_cons pe_non pa_nil))))) (pk_cons pe_int pk_nil), ?_⟩
    refine ⟨_, rfl, _, rfl, _, rfl, by show 1 ≤ sizeLine; decide, fun l0 hl0 => tnil ⟨by show 1 ≤ sizeLine; decide, fun l1 hl1 => ⟨l1, 4, _, rfl, rfl, upd_same, by decide, by decide, by show 1 * 4 ≤ sizeLine; decide, fun l2 hl2 => tnil ?_⟩⟩⟩
    have e1 := (Ex.new (o := .lst [V.int 0]) hl0).tr ((Ex.new (o := .lst [V.ref l0]) hl1).tr (Ex.new (o := .lst (List.replicate (4 : Int).toNat [V.ref l0]).flatten) hl2))
    have h0 := (Ex.new (o := .lst (List.replicate (4 : Int).toNat [V.ref l0]).flatten) hl2) _ _ ((Ex.new (o := .lst [V.ref l0]) hl1) _ _ (upd_same (H := H) (a := l0) (o := .lst [V.int 0])))
    have h2 : (upd (upd (upd H l0 (.lst [V.int 0])) l1 (.lst [V.ref l0])) l2 (.lst (List.replicate (4 : Int).toNat [V.ref l0]).flatten)) l2 = some (.lst [.ref l0, .ref l0, .ref l0, .ref l0]) := upd_same
    generalize upd (upd (upd H l0 (.lst [V.int 0])) l1 (.lst [V.ref l0])) l2 (.lst (List.replicate (4 : Int).toNat [V.ref l0]).flatten) = H1 at e1 h0 h2
    have r0 : R H1 (.ref l0) (.list (nD [0])) := .lst h0 (rall_n [0])
    refine made_mach (rs := List.replicate 4 (true, [0])) (m := 1) (.lst h2 (.cons r0 (.cons r0 (.cons r0 (.cons r0 .nil))))) (by decide) (by decide) (by decide) (by decide) (by decide) fun x H' e2 nx hm => ?_
    have e3 := e1.tr e2
    exact ⟨rfl, rfl, p, v, c, x, .non, d, .none, ts, ns, es, [[0]], 9, 0, rfl, by decide, by decide, N.up e3, fun f g => absurd g (bad f)⟩
theorem ok_ask2 {q : Str} (D_ikg : DefK P w K mg base 11 "is_kept_group" ikgN 4 ["most"] (fun vs zs => vs ++ zs) (spIKG CM CC CR CN CF CT)) : LamOk P w K mg base 12 q (lamPa ask2) (lamB ask2) (lamSc ask2) askN (spAsk CM CC CR CN CF) := by
  refine ⟨fun vs H Q E h => ?_, fun pm ctv c us hl => match us, hl with | [_, _, _], _ => rfl, askN, scAsk2, fun A outer s H f c vs Q E hr h => ?_⟩
  · obtain ⟨p, v, c, d, ts, ns, es, rfl, _⟩ := h
    rfl
  · obtain ⟨p, v, c, d, ts, ns, es, rfl, N, bad⟩ := h
    refine ⟨_, pcallK (E := E) D_ikg hr (by decide) tk_own (fun _ _ _ _ h => h) (pa_cons (pv 0) (pa_cons (pv 1) (pa_cons (pv 2) (pa_cons pe_non pa_nil)))) (pk_cons pe_int pk_nil), ?_⟩
    exact ⟨_, rfl, _, rfl, _, rfl, rfl, rfl, p, v, c, .non, d, .none, ts, ns, es, 9, 0, rfl, by decide, by decide, N, .non, rfl, fun f g => absurd g (bad f)⟩
end
end Onew
end
section
set_option maxRecDepth 100000
set_option maxHeartbeats 8000000
namespace Onew
open PySem PySem.Spec PyProof.Rows L2 G
open LamX (CodeO TabS Tabs ExtN TabB GivesTo LamS lamCx lamEnv tLam)
open Mx (Tab im Rch rl rowF forgF doneOn Fm nextD nextP)
/-- the def _law_heard as it stands -/
structure HeardD (K : PySem.W.Frag) (mg : Str → Option Value) : Prop where
  ex : ∃ (g : Addr) (fd : FuncData), Fun K "_law_heard" "_law_heard" sHeard g fd ∧ mg "_law_heard" = some (.ref g) ∧ Binds K fd ["_law_ask"] []
/-- the text's facts, together -/
structure Facts (P : Program) (w : World) (K : PySem.W.Frag) (mg : Str → Option Value) (base : Heap) (CM CC CR CN CF CT CB CW eA : Addr) (cb : Bool) : Prop where
  T : Txt K mg
  C : TxC K mg CM CC
  E : TxE P K mg CR CN CF CT
  H : TxH K mg CM CC CR CN CF CT CB CW
  D : HeardD K mg
  M : MkM P w K mg base CM
  N : MkC P w K mg base CC eA cb
section
variable {X : Cx} {CM CC CR CN CF CT CB CW eA : Addr} {cb : Bool}
/-- _law_heard(lambda: body) -/
theorem pe_heard (F : Facts X.prog X.w X.K X.mg X.base CM CC CR CN CF CT CB CW eA cb) {Tb : List (Addr × Str)} {c Pt : Addr} {k j : Nat} {params : Arguments} {body : Expr} {scope : Scope} {t : XK → TE} {p lpos pos : Pos} (TB : TabB X.base X.mg c Pt) (hcode : X.env.code = .ref c) (hmT : (Pt, X.env.qual ++ "<lambda>") ∈ Tb) (hu : ∀ p ∈ Tb, p.1 = Pt → p.2 = X.env.qual ++ "<lambda>") (hr : Room j X.A) (hj : k + 2 ≤ j) (L : LamS X.env.scope scope)
    (hbody : ∀ (A : Around) (outer : List Env) (s : Shared) (H : Hp) (E : XK) (f c' : Addr), Room k (A.deeper (lamEnv X scope s.heap.objs.size f c')) → PE (lamCx X A outer s H E scope f c') body (t E)) (hg : Gl X "_law_heard" := by rfl) (hdef : defaultsOf params X.env = ([], []) := by rfl)
    (hbind : ∀ (q : Str) (cl : List (Str × Addr)) (pm cv ctv : Value), bindArgs (PySem.W.kla_fn "<lambda>" q params body scope cl pm cv ctv) ⟨[], []⟩ = pure [] := by intros; rfl) : PE X (.Call (.Name "_law_heard" p) [.Lambda params body scope lpos] [] pos) (tLam Tb (THeard CM CC CR CN CF CT) t) := by
  obtain ⟨g, fd, Fh, hm, hb⟩ := F.D.ex
  obtain ⟨oc, od, kV, doc, pm, an, cdv, ct, osl, rfl, lk, hcd⟩ := Fh.ex
  exact LamX.pe_lamcall (a := "_law_ask") (Ng := ["_law_ask", "fault"]) hg hm Fh.kp lk hcd hb scHeard rfl (.inl rfl) (heard_gives F.T F.C F.E F.H) TB hcode hmT hu (hr.mono hj) L hdef hbind hbody
end
/-- asked lambdas -/
abbrev OkAsk (P : Program) (w : World) (K : PySem.W.Frag) (mg : Str → Option Value) (base : Heap) (CM CC CR CN CF : Addr) : Str → Arguments → Expr → Scope → Prop := fun q pa b sc => ∃ ps, LamOk P w K mg base 12 q pa b sc ps (spAsk CM CC CR CN CF)
theorem tk_lam {X : Cx} {A : Around} {outer : List Env} {s : Shared} {H : Hp} {E : XK} {scope : Scope} {f c : Addr} : Takes (lamCx X A outer s H E scope f c) (fun cls d _ H => E cls d H) := takes_of rfl rfl rfl rfl
/-- odd counters: not fit, or not all going round -/
structure OddAt (CC : Addr) (n : Nat) (H : Hp) (v : V) : Prop where
  ex : ∃ (c : Addr) (ns es : List Nat), v = .ref c ∧ CounAt CC H c ns es ∧ ns.length ≤ 4 ∧ es.length ≤ 4 ∧ ¬ (ns.length = n ∧ RouOk ns es)
theorem OddAt.nx {CC : Addr} {n : Nat} {H H' : Hp} {v : V} (h : OddAt CC n H v) (e : Nx H H') : OddAt CC n H' v := by
  obtain ⟨c, ns, es, a, b, d⟩ := h.ex
  exact ⟨c, ns, es, a, b.nx e, d⟩
/-- no state: what it is -/
structure BadS (m : Nat) (v : V) (d : PyData) : Prop where
  r : ∀ H, R H v d
  no : belowD (m : Nat) d = false
  short : Shortv v
  flat : flatV v = true
theorem rows_d (ts : Tab) : lD ts = .list (rowsD (ts.map fun t => (false, t))) := by
  unfold lD rowsD
  rw [List.map_map]; rfl
section
variable {P : Program} {w : World} {K : PySem.W.Frag} {mg : Str → Option Value} {base : Heap} {CM CC CR CN CF CT CB CW eA : Addr} {cb : Bool}
/-- the three refusals -/
theorem ask_bad {H : Hp} {p c : Addr} {v : V} {d : PyData} {ts : Tab} {ns es : List Nat} {Q : VK} (m : MachAt CM H p ts) (ok : Mx.Ok ts) (b : BadS (mst ts) v d) (cn : CounAt CC H c ns es) (l1 : ns.length ≤ 4) (l2 : es.length ≤ 4) (q : ∀ H', Ex H H' → Ans3 Q [.str "state", .str (reprV v), .bl true] H') :
    spAsk CM CC CR CN CF [.ref p, v, .ref c] H (HeardQ Q) (HeardE CM CC CR CN CF CT Q) := by
  refine ⟨p, v, c, d, ts, ns, es, rfl, ⟨m, ok, b.r H, cn, l1, l2, fun _ dd H' e h => .state h b.short (q H' e), fun h => ?_, fun h => ?_, fun f ed hf => ?_, fun f ed hf => ?_⟩, fun f g => ?_⟩
  · rw [b.no] at h; cases h
  · rw [b.no] at h; cases h
  · have := b.no; rw [ed, belowD_nat (m := mst ts) (f := f) hf] at this; cases this
  · have := b.no; rw [ed, belowD_nat (m := mst ts) (f := f) hf] at this; cases this
  · have := b.no; rw [g.d, belowD_nat (m := mst ts) (f := f) g.lt] at this; cases this
theorem ask_odd {H : Hp} {p c : Addr} {f : Nat} {ts : Tab} {ns es : List Nat} {Q : VK} (m : MachAt CM H p ts) (ok : Mx.Ok ts) (hf : f < mst ts) (cn : CounAt CC H c ns es) (l1 : ns.length ≤ 4) (l2 : es.length ≤ 4) (odd : ¬ (ns.length = ts.length ∧ RouOk ns es)) (q : ∀ H', Ex H H' → Ans3 Q [.str "refused", .ref c, .bl true] H') :
    spAsk CM CC CR CN CF [.ref p, .int (f : Nat), .ref c] H (HeardQ Q) (HeardE CM CC CR CN CF CT Q) := by
  obtain ⟨dx, rr, rq, hc, _⟩ := id cn
  have ref : Rais (HeardE CM CC CR CN CF CT Q) H CR "at" (.ref c) := fun dd H' e h => .refused h (e _ _ hc) (.inr rfl) (q H' e)
  refine ⟨p, _, c, .int (f : Nat), ts, ns, es, rfl, ⟨m, ok, .int _, cn, l1, l2, fun h => ?_, fun _ _ => ref, fun _ _ _ => ref, fun f' _ _ hl hr => absurd ⟨hl, hr⟩ odd, fun f' _ _ hl hr => absurd ⟨hl, hr⟩ odd⟩, fun f' g => odd ⟨g.len, g.rou⟩⟩
  rw [belowD_nat hf] at h; cases h
/-- a machine that forgets -/
abbrev clashT (n : Nat) : Tab := [1, 1, 0] :: List.replicate (n - 1) [0, 1, 2]
theorem clash_ok {n : Nat} (h1 : 1 ≤ n) (h4 : n ≤ 4) : Mx.Ok (clashT n) ∧ forgF 0 (rl (clashT n) 0) (clashT n) = some (0, 0, 1) ∧ (clashT n).length = n ∧ Mx.mst (clashT n) = 3 := by
  obtain rfl | rfl | rfl | rfl : n = 1 ∨ n = 2 ∨ n = 3 ∨ n = 4 := by omega
  all_goals exact ⟨⟨by decide, by decide, by decide, by decide, by decide⟩, by decide +kernel, by decide, by decide⟩
theorem ask_clash {H : Hp} {p c : Addr} {n : Nat} {ns es : List Nat} {Q : VK} (m : MachAt CM H p (clashT n)) (h1 : 1 ≤ n) (h4 : n ≤ 4) (cn : CounAt CC H c ns es) (l1 : ns.length = n) (l2 : es.length ≤ 4) (rou : RouOk ns es)
    (q : ∀ H' t1 t H2, Ex H H' → Ex H' H2 → H2 t1 = some (.tup [.int ((0 : Nat) : Int), .int ((0 : Nat) : Int), .int ((1 : Nat) : Int)]) → H2 t = some (.tup [.str "forgets", .ref t1, .bl true]) → Q (.ref t) H2) : spAsk CM CC CR CN CF [.ref p, .int 0, .ref c] H (HeardQ Q) (HeardE CM CC CR CN CF CT Q) := by
  obtain ⟨ok, hf, hl, hm⟩ := clash_ok h1 h4
  have h3 : (0 : Nat) < Mx.mst (clashT n) := by rw [hm]; decide
  have z : belowD (mst (clashT n)) (.int ((0 : Nat) : Int)) = true := belowD_nat (m := mst (clashT n)) (f := 0) h3
  refine ⟨p, _, c, .int ((0 : Nat) : Int), clashT n, ns, es, rfl, ⟨m, ok, .int _, cn, by omega, l2, fun h => ?_, fun _ h => absurd (l1.trans hl.symm) h, fun _ _ h => absurd rou h, fun f ed hlt _ _ k a b e dd H' ee h => ?_, fun f ed hlt _ _ e => ?_⟩, fun f g => ?_⟩
  · rw [z] at h; cases h
  · have ef : f = 0 := by injection ed with z; omega
    subst ef
    rw [hf] at e
    cases e
    exact .forgets h fun t1 t H2 e2 a1 a2 => q H' t1 t H2 ee e2 a1 a2
  · have ef : f = 0 := by injection ed with z; omega
    subst ef
    rw [hf] at e
    cases e
  · have ef : f = 0 := by injection g.d with z; omega
    subst ef
    have := g.ex
    rw [hf] at this
    cases this
end
end Onew
end
section
set_option maxRecDepth 100000
set_option maxHeartbeats 8000000
namespace Onew
open PySem PySem.Spec PyProof.Rows L2 G
open LamX (CodeO TabS Tabs ExtN TabB GivesTo LamS lamCx lamEnv tLam)
open Mx (Tab im Rch rl rowF forgF doneOn Fm nextD nextP)
/-- a def of the text, its code object known -/
structure FunC (K : PySem.W.Frag) (x qual : Str) (st : Stmt) (f c : Addr) (fd : FuncData) : Prop where
  ex : ∃ (oc : Value) (od : Option Addr) (kV doc pm : Value) (an : Option Addr) (ct : Value) (osl : Array (Option Value)),
    fd = PySem.W.fnOf x qual (defArgs st) (defBody st) (defScope st) .none kV doc pm an (.ref c) ct ∧ K.lookup f = some ⟨oc, od, .func fd, osl⟩ ∧ PySem.W.codeIn K (.ref c) qual = true
  kp : PySem.W.keepIn K (.ref f) = true
theorem FunC.toFun {K : PySem.W.Frag} {x qual : Str} {st : Stmt} {f c : Addr} {fd : FuncData} (F : FunC K x qual st f c fd) : Fun K x qual st f fd := by
  obtain ⟨oc, od, kV, doc, pm, an, ct, osl, h⟩ := F.ex
  exact ⟨⟨oc, od, kV, doc, pm, an, _, ct, osl, h⟩, F.kp⟩
theorem FunC.okX {P : Program} {w : World} {K : PySem.W.Frag} {mg : Str → Option Value} {base : Heap} {x qual : Str} {st : Stmt} {f c : Addr} {fd : FuncData} {N ps : List Str} {k : Nat} {sp : Sp} (F : FunC K x qual st f c fd) (S : FnScope N ps (defScope st)) (len : ∀ vs H Q E, sp vs H Q E → vs.length = ps.length)
    (hbody : ∀ (A : Around) (outer : List Env) (s : Shared) (H : Hp) (vs : List V) (Q : VK) (E : XK), Room k (A.deeper (envOfC qual (defScope st) s.heap.objs.size f (.ref c))) → sp vs H Q E →
      ∃ t, PSs (cxOf (L2.CX P w) P w K mg base N qual (defScope st) f (.ref c) A outer s H E) (defBody st) t ∧ t { nx := fun _ H' => Q .non H', rt := Q } (start N vs) H) : FnOk P w K mg base (L2.CX P w) (k + 1) f fd ps sp := by
  obtain ⟨oc, od, kV, doc, pm, an, ct, osl, rfl, lk, hcd⟩ := F.ex
  exact fn_of lk hcd S len fun A outer s H vs Q E hr hsp => hbody A outer s H vs Q E hr hsp
/-- what is none: the choices -/
theorem bad_all {m : Nat} {v : V} (h : v ∈ [V.int (m : Nat), .int (0 - 1), .non, .bl true, .str "0"]) (hm : m ≤ 8) : ∃ d, BadS m v d := by
  simp only [List.mem_cons, List.not_mem_nil, or_false] at h
  rcases h with rfl | rfl | rfl | rfl | rfl
  · refine ⟨.int (m : Nat), fun H => .int _, ?_, ?_, rfl⟩
    · show (decide (0 ≤ (m : Int)) && decide ((m : Int) < (m : Int))) = false
      rw [show decide ((m : Int) < (m : Int)) = false from decide_eq_false (by omega), Bool.and_false]
    · show (m : Int).natAbs.log2 < 1920
      rw [show (m : Int).natAbs = m by omega]
      have : m.log2 ≤ m := Nat.log2_le_self m
      omega
  · exact ⟨.int (0 - 1), fun H => .int _, rfl, by show Nat.log2 1 < 1920; decide, rfl⟩
  · exact ⟨.none, fun H => .non, rfl, trivial, rfl⟩
  · exact ⟨.bool true, fun H => .bl true, rfl, trivial, rfl⟩
  · exact ⟨.str "0", fun H => .str _, rfl, by show (reprText "0").length ≤ sizeLine; decide +kernel, rfl⟩
theorem cut1 (xs : List V) : cutV xs (some 1) none = xs.drop 1 := by
  unfold cutV
  rw [show HT.sIx xs.length 0 (some 1) = min 1 xs.length from HT.sIx_nat .., show HT.sIx xs.length xs.length none = xs.length from rfl]
  rw [List.take_of_length_le (by rw [List.length_drop]; exact Nat.le_refl _)]
  cases xs with
  | nil => rfl
  | cons x l => rw [show min 1 (x :: l).length = 1 by rw [List.length_cons]; omega]
theorem made_odd {K : PySem.W.Frag} {CC : Addr} {H1 : Hp} {v : V} {ns : List Nat} {n : Nat} {eA : Addr} {c : Bool} {G : Addr → Hp → Prop} {E : XK} (he : ∀ H, SqV K H eA [] ∧ TyX K H (.ref eA) (.type (tyL c))) (r : R H1 v (sqD true (nD ns))) (l1 : 1 ≤ ns.length) (l4 : ns.length ≤ 4) (hb : ∀ n ∈ ns, n ≤ 60) (odd : ¬ (ns.length = n ∧ 0 ∉ ns))
    (q : ∀ x H', Ex H1 H' → H1 x = none → OddAt CC n H' (.ref x) → G x H') : ∀ x dx, H1 x = none → H1 dx = none → dx ≠ x → spCIni K CC (.ref x :: ([v] ++ [.ref eA])) (upd (upd H1 dx (.own x)) x (.ins CC dx [])) (fun v H2 => v = .non ∧ G x H2) E :=
  made_coun he r l1 l4 hb fun x H' e nx cn => q x H' e nx ⟨x, _, _, rfl, cn, l4, by rw [List.length_replicate]; exact l4, fun g => odd ⟨g.1, g.2.1⟩⟩
theorem tIf_by {c : Bool} {ta tb : TE} {σ : L2.St} {H : Hp} {Q : VK} (Pp : V → Hp → Prop) (h1 : c = true → ∀ Q, (∀ v H', Pp v H' → Q v H') → ta σ H Q) (h2 : c = false → ∀ Q, (∀ v H', Pp v H' → Q v H') → tb σ H Q) (k : ∀ v H', Pp v H' → Q v H') : if c = true then ta σ H Q else tb σ H Q := by
  cases c with
  | true => exact itT rfl (h1 rfl _ k)
  | false => exact itF rfl (h2 rfl _ k)
abbrev sStr : Stmt := top 59
abbrev strN : List Str := ["_law_box_here", "_law_tables_here", "_law_first", "_law_rounds", "_law_asks", "_law_many", "_law_ask", "_law_bad", "_law_clash", "_law_machine", "_law_odd"]
theorem scStr : FnScope strN ["_law_box_here", "_law_tables_here", "_law_first", "_law_rounds", "_law_asks"] (defScope sStr) := ⟨rfl, rfl, rfl, by decide +kernel, rfl, by decide +kernel, by decide +kernel⟩
section
variable {P : Program} {w : World} {K : PySem.W.Frag} {mg : Str → Option Value} {base : Heap} {CM CC CR CN CF CT CB CW eA : Addr} {cb : Bool}
def spStr (P : Program) (w : World) (K : PySem.W.Frag) (mg : Str → Option Value) (base : Heap) (CM CC CR CN CF : Addr) (Tb : List (Addr × Str)) : Sp := fun vs H Q _ => ∃ (b t r a : Addr) (f : Nat) (ts : Tab) (ns : List Nat) (av : List V), vs = [.ref b, .ref t, .int (f : Nat), .ref r, .ref a] ∧ H b = some (BoxO b) ∧ R H (.ref t) (lD ts) ∧ Mx.Ok ts ∧ f < mst ts ∧
  H r = some (.lst (nV ns)) ∧ ns.length = ts.length ∧ (∀ n ∈ ns, 1 ≤ n ∧ n ≤ 3) ∧ H a = some (.lst av) ∧ (∀ v ∈ av, ∃ f q pa b sc, v = .ref f ∧ OkAsk P w K mg base CM CC CR CN CF q pa b sc ∧ LamAt H f q pa b sc) ∧ Tabs Tb H ∧ ∀ H', Nx H H' → Tabs Tb H' → Q (.bl true) H'
theorem ok_str {f c Pt : Addr} {fd : FuncData} {Tb : List (Addr × Str)} (Fd : FunC K "_law_strangers_right" "_law_strangers_right" sStr f c fd) (F : Facts P w K mg base CM CC CR CN CF CT CB CW eA cb) (TB : TabB base mg c Pt) (hmT : (Pt, ("_law_strangers_right.<locals>.<lambda>" : Str)) ∈ Tb) (hu : ∀ p ∈ Tb, p.1 = Pt → p.2 = "_law_strangers_right.<locals>.<lambda>")
    (D__law_pick : Def P w K mg base 2 "_law_pick" ["_law_box_here", "_law_some"] (spPick K)) : FnOk P w K mg base (L2.CX P w) 16 f fd ["_law_box_here", "_law_tables_here", "_law_first", "_law_rounds", "_law_asks"] (spStr P w K mg base CM CC CR CN CF Tb) := by
  have T := F.T
  refine Fd.okX scStr (fun vs H Q E h => ?_) (fun A outer s H vs Q E hr h => ?_)
  · obtain ⟨b, t, r, a, f, ts, ns, av, rfl, _⟩ := h
    rfl
  · obtain ⟨b, t, r, a, f, ts, ns, av, rfl, hb, rt, ok, hf, hrr, lr, br, ha, hav, hT, q⟩ := h
    have nd := scStr.nd
    refine ⟨_, (pss_cons (ps_asg (pe_tup (pa_cons (pe_mach F.M hr (by decide) F.C.mM (pa_cons (pv 1) pa_nil)) (pa_cons (pe_callB call_len_seq (by rfl) (T.no "len" (by decide)) boot_len (pa_cons (pv 1) pa_nil)) pa_nil))) (pg_tup rfl (pgs_cons (pg_name (i := 9) nd rfl (Or.inr rfl)) (pgs_cons (pg_name (i := 5) nd rfl (Or.inl rfl)) pgs_nil))))
      (pss_cons (ps_set (i := 7) nd rfl (Or.inr rfl) (pcall D__law_pick hr (by decide) (pa_cons (pv 0) (pa_cons (pe_lst (pa_cons (pe_callB call_len_seq (by rfl) (T.no "len" (by decide)) boot_len (pa_cons (pe_ix ix_list (pv 1) pe_int (fun _ _ => rfl)) pa_nil)) (pa_cons (pe_op op_sub pe_int pe_int) (pa_cons pe_non (pa_cons pe_bl (pa_cons pe_str pa_nil)))))) pa_nil))))
      (pss_cons (ps_set (i := 10) nd rfl (Or.inr rfl) (pcall D__law_pick hr (by decide) (pa_cons (pv 0) (pa_cons (pe_lst (pa_cons (pe_ifExp (pt_cmpR op_lt (pv 5) pe_int (nomark _)) (pe_coun1 F.N hr (by decide) F.C.mC (pa_cons (pe_op op_cat (pv 3) (pe_lst (pa_cons pe_int pa_nil))) pa_nil)) (pe_coun1 F.N hr (by decide) F.C.mC (pa_cons (pe_slice sl_list (pv 3) (po_some pe_int) po_none) pa_nil))) (pa_cons (pe_coun1 F.N hr (by decide) F.C.mC (pa_cons (pe_op op_cat (pe_lst (pa_cons pe_int pa_nil)) (pe_slice sl_list (pv 3) (po_some pe_int) po_none)) pa_nil)) (pa_cons (pe_coun2 F.N hr (by decide) F.C.mC (pa_cons (pv 3) (pa_cons (pe_op op_cat (pe_lst (pa_cons pe_int pa_nil)) (pe_op op_rep (pe_lst (pa_cons pe_int pa_nil)) (pe_op op_sub (pv 5) pe_int))) pa_nil))) pa_nil)))) pa_nil))))
      (pss_cons (ps_set (i := 8) nd rfl (Or.inr rfl) (pe_mach F.M hr (by decide) F.C.mM (pa_cons (pe_op op_cat (pe_lst (pa_cons (pe_lst (pa_cons pe_int (pa_cons pe_int (pa_cons pe_int pa_nil)))) pa_nil)) (pe_op op_rep (pe_lst (pa_cons (pe_lst (pa_cons pe_int (pa_cons pe_int (pa_cons pe_int pa_nil)))) pa_nil)) (pe_op op_sub (pv 5) pe_int))) pa_nil)))
      (pss_cons (ps_for (passes_of rfl) rfl (pi_list (pv 4)) (pg_name (i := 6) nd rfl (Or.inr rfl)) 
      (pss_cons (ps_if (pt_cmpR (op_neSame (hu64 hr)) (pe_heard (k := 13) (t := fun E => tCallM (OkAsk P w K mg base CM CC CR CN CF) 6 (spAsk CM CC CR CN CF) E (tCons (tVar 9) (tCons (tVar 7) (tCons (tVar 10) tNil)))) F TB rfl hmT hu hr (by decide) (LamX.lamS_by (sc := defScope sStr) (by decide +kernel)) (fun A o s' H' E f' c' hr' => pe_callM (fun q pa b sc h => h) hr' tk_lam (fun _ _ _ _ h => h) rfl (Or.inr (Or.inr rfl)) (pa_cons (pv 9) (pa_cons (pv 7) (pa_cons (pv 10) pa_nil))))) (pe_tup (pa_cons pe_str (pa_cons (pe_callB cr_repr1 (by rfl) (T.no "repr" (by decide)) boot_repr (pa_cons (pv 7) pa_nil)) (pa_cons pe_bl pa_nil)))) (nomark _)) (pss_one (ps_ret pe_bl)) pss_nil)
      (pss_cons (ps_if (pt_cmpR (op_neSame (hu64 hr)) (pe_heard (k := 13) (t := fun E => tCallM (OkAsk P w K mg base CM CC CR CN CF) 6 (spAsk CM CC CR CN CF) E (tCons (tVar 9) (tCons (tVar 2) (tCons (tVar 10) tNil)))) F TB rfl hmT hu hr (by decide) (LamX.lamS_by (sc := defScope sStr) (by decide +kernel)) (fun A o s' H' E f' c' hr' => pe_callM (fun q pa b sc h => h) hr' tk_lam (fun _ _ _ _ h => h) rfl (Or.inr (Or.inr rfl)) (pa_cons (pv 9) (pa_cons (pv 2) (pa_cons (pv 10) pa_nil))))) (pe_tup (pa_cons pe_str (pa_cons (pv 10) (pa_cons pe_bl pa_nil)))) (nomark _)) (pss_one (ps_ret pe_bl)) pss_nil)
      (pss_one (ps_if (pt_cmpR (op_neD (hu64 hr)) (pe_heard (k := 13) (t := fun E => tCallM (OkAsk P w K mg base CM CC CR CN CF) 6 (spAsk CM CC CR CN CF) E (tCons (tVar 8) (tCons (tC (.int 0)) (tCons (tMake CC (spCIni K CC) [.ref eA] (fun _ _ _ => False) (tCons (tVar 3) tNil)) tNil)))) F TB rfl hmT hu hr (by decide) (LamX.lamS_by (sc := defScope sStr) (by decide +kernel)) (fun A o s' H' E f' c' hr' => pe_callM (fun q pa b sc h => h) hr' tk_lam (fun _ _ _ _ h => h) rfl (Or.inr (Or.inr rfl)) (pa_cons (pv 8) (pa_cons pe_int (pa_cons (pe_coun1 F.N hr' (by decide) F.C.mC (pa_cons (pv 3) pa_nil)) pa_nil))))) (pe_tup (pa_cons pe_str (pa_cons (pe_tup (pa_cons pe_int (pa_cons pe_int (pa_cons pe_int pa_nil)))) (pa_cons pe_bl pa_nil)))) (nomark _)) (pss_one (ps_ret pe_bl)) pss_nil)))))
      (pss_one (ps_ret pe_bl))))))), ?_⟩
    obtain ⟨t', vs, et, ht, rvs⟩ := r_l rt
    cases et
    have lvs : vs.length = ts.length := by rw [rvs.length, List.length_map]
    have h1 := ok.l1
    have h4 := ok.l4
    -- Machine(tables), len(tables)
    refine ⟨_, rfl, ?_⟩
    refine made_mach (rs := ts.map fun t => (false, t)) (m := mst ts) (by rw [← rows_d]; exact .lst ht rvs) (by rw [List.length_map]; exact h1) (by rw [List.length_map]; exact h4) ok.m1 ok.m8 (fun p hp => by obtain ⟨t, h, rfl⟩ := List.mem_map.mp hp; exact ok.row t h) fun mA H1 e1 nx1 hm => ?_
    rw [List.map_map, show ((fun p : Bool × List Nat => p.2) ∘ fun t => (false, t)) = id from rfl, List.map_id] at hm
    refine ⟨_, rfl, t, vs, rfl, .inl (SqL.of (e1 _ _ ht)), tnil ⟨by show 2 ≤ sizeLine; decide, fun p hp => ?_⟩⟩
    have e2 := e1.tr (Ex.new (o := .tup [V.ref mA, .int (vs.length : Nat)]) hp)
    have hm2 := hm.ex (Ex.new (o := .tup [V.ref mA, .int (vs.length : Nat)]) hp)
    refine ⟨p, _, rfl, SqT.of upd_same, rfl, _, _, rfl, _, _, rfl, rfl, ?_⟩
    generalize upd H1 p (.tup [V.ref mA, .int (vs.length : Nat)]) = H2 at e2 hm2
    rw [lvs]
    -- bad
    have v0 : vs[0]? = some (vs[0]'(by omega)) := List.getElem?_eq_getElem (by omega)
    obtain ⟨r0, er0, hr0⟩ : ∃ r0, vs[0]'(by omega) = .ref r0 ∧ ∃ ns0 : List Nat, H r0 = some (.tup (nV ns0)) ∧ ns0.length = mst ts := by
      obtain ⟨d, g1, g2⟩ := RAll.get rvs v0
      obtain ⟨x, hx⟩ : ∃ x, ts[0]? = some x := ⟨_, List.getElem?_eq_getElem (by omega)⟩
      rw [List.getElem?_map, hx] at g1
      cases g1
      obtain ⟨r0, a1, a2⟩ := r_i g2
      exact ⟨r0, a1, x, a2, (ok.row x (List.mem_of_getElem? hx)).1⟩
    rw [er0] at v0
    obtain ⟨ns0, hr0, l0⟩ := hr0
    refine ⟨_, rfl, _, rfl, t, vs, _, _, rfl, rfl, SqL.of (e2 _ _ ht), atI_nat (j := 0) v0, _, _, rfl, .inr (SqT.of (e2 _ _ hr0)), ?_⟩
    rw [nV_len, l0]
    refine ⟨_, _, rfl, rfl, by show 5 ≤ sizeLine; decide, fun l5 hl5 => tnil ?_⟩
    have e3 := e2.tr (Ex.new (o := .lst [V.int (mst ts : Nat), .int (0 - 1), .non, .bl true, .str "0"]) hl5)
    have hm3 := hm2.ex (Ex.new (o := .lst [V.int (mst ts : Nat), .int (0 - 1), .non, .bl true, .str "0"]) hl5)
    refine ⟨b, l5, _, rfl, e3 _ _ hb, SqL.of upd_same, by simp, by show 5 ≤ 100000; decide, fun bad hbad => ?_⟩
    obtain ⟨bd, bs⟩ := bad_all hbad ok.m8
    generalize upd H2 l5 (.lst [V.int (mst ts : Nat), .int (0 - 1), .non, .bl true, .str "0"]) = H3 at e3 hm3
    -- odd
    refine ⟨_, rfl, ?_⟩
    have hlt : decide ((ts.length : Int) < 4) = decide (ts.length < 4) := by congr 1; exact propext ⟨fun h => by omega, fun h => by omega⟩
    refine ⟨_, rfl, _, _, rfl, rfl, _, rfl, ?_⟩
    have hr3 := e3 _ _ hrr
    refine tIf_by (fun v H' => ∃ x, v = .ref x ∧ Ex H3 H' ∧ OddAt CC ts.length H' v) (fun hc Q kk => ?_) (fun hc Q kk => ?_) ?_
    · have hl : ts.length < 4 := by have := of_decide_eq_true hc; omega
      refine ⟨_, rfl, by show 1 ≤ sizeLine; decide, fun z hz => ?_⟩
      refine ⟨r, z, _, [.int 2], rfl, rfl, (Ex.new hz) _ _ hr3, upd_same, ?_, fun y hy => ?_⟩
      · rw [nV_len, sizeLine_eq]; show _ + 1 ≤ _; omega
      · refine made_odd (ns := ns ++ [2]) F.N.em (.lst upd_same (by rw [show nV ns ++ [V.int 2] = nV (ns ++ [2]) from (nV_app ns [2])]; exact rall_n _)) ?_ ?_ ?_ ?_ fun x H' e nx o => kk _ _ ⟨x, rfl, ((Ex.new hz).tr (Ex.new hy)).tr e, o⟩
        · rw [List.length_append]; show 1 ≤ _ + 1; omega
        · rw [List.length_append]; show _ + 1 ≤ 4; omega
        · intro n hn
          rcases List.mem_append.mp hn with h | h
          · have := br n h; omega
          · rw [List.mem_singleton.mp h]; decide
        · rintro ⟨g, _⟩
          rw [List.length_append] at g
          have g : ns.length + 1 = ts.length := g
          omega
    · have hl : ¬ ts.length < 4 := by have := of_decide_eq_false hc; omega
      refine ⟨_, rfl, _, rfl, ?_⟩
      unfold tNoPart
      refine ⟨r, _, rfl, SqL.of hr3, fun y hy => ?_⟩
      rw [cut1, nV_drop]
      refine made_odd (ns := ns.drop 1) F.N.em (.lst upd_same (rall_n _)) ?_ ?_ ?_ ?_ fun x H' e nx o => kk _ _ ⟨x, rfl, (Ex.new hy).tr e, o⟩
      · rw [List.length_drop]; omega
      · rw [List.length_drop]; omega
      · intro n hn
        have := br n (List.mem_of_mem_drop hn); omega
      · rintro ⟨g, _⟩
        rw [List.length_drop] at g; omega
    rintro _ H4 ⟨x1, rfl, e4, o1⟩
    have hr4 := e4 _ _ hr3
    have hb4 := e4 _ _ (e3 _ _ hb)
    refine ⟨by show 1 ≤ sizeLine; decide, fun z hz => ?_⟩
    refine ⟨_, rfl, _, rfl, ?_⟩
    unfold tNoPart
    refine ⟨r, _, rfl, SqL.of ((Ex.new hz) _ _ hr4), fun y hy => ?_⟩
    rw [cut1, nV_drop]
    have hz' : (upd (upd H4 z (.lst [V.int 0])) y (.lst (nV (ns.drop 1)))) z = some (.lst [V.int 0]) := (Ex.new hy) _ _ upd_same
    refine ⟨z, y, _, _, rfl, rfl, hz', upd_same, ?_, fun u hu => ?_⟩
    · rw [nV_len, List.length_drop, sizeLine_eq]; show 1 + _ ≤ _; omega
    refine made_odd (n := ts.length) (ns := 0 :: ns.drop 1) F.N.em (.lst upd_same (rall_n (0 :: ns.drop 1))) ?_ ?_ ?_ (fun g => g.2 (by simp)) fun x2 H5 e5 nx5 o2 => ?_
    · rw [List.length_cons]; omega
    · rw [List.length_cons, List.length_drop]; omega
    · intro n hn
      rcases List.mem_cons.mp hn with h | h
      · rw [h]; decide
      · have := br n (List.mem_of_mem_drop h); omega
    have e5' := ((Ex.new hz).tr ((Ex.new hy).tr (Ex.new hu))).tr e5
    have e45 := e4.tr e5'
    generalize upd (upd (upd H4 z (.lst [V.int 0])) y (.lst (nV (ns.drop 1)))) u (.lst ([V.int 0] ++ nV (ns.drop 1))) = H4' at e5
    have hr5 := e5' _ _ hr4
    have o15 := o1.nx (Ex.n e5')
    clear hz hy hu hz'
    -- Counters(rounds, [1] + [0] * (many - 1))
    refine ⟨_, rfl, by show 1 ≤ sizeLine; decide, fun z hz => ⟨by show 1 ≤ sizeLine; decide, fun y hy => ?_⟩⟩
    have hry := (Ex.new (o := .lst [V.int 0]) hy) _ _ ((Ex.new (o := .lst [V.int 1]) hz) _ _ hr5)
    have hzy : (upd (upd H5 z (.lst [V.int 1])) y (.lst [V.int 0])) z = some (.lst [V.int 1]) := (Ex.new hy) _ _ upd_same
    refine ⟨_, rfl, _, _, rfl, rfl, y, _, [V.int 0], rfl, rfl, upd_same, by omega, by omega, ?_, fun u hu => ?_⟩
    · rw [sizeLine_eq]; show 1 * _ ≤ _; omega
    have en : ((ts.length : Int) - 1).toNat = ts.length - 1 := by omega
    rw [en]
    have efl : (List.replicate (ts.length - 1) [V.int 0]).flatten = nV (List.replicate (ts.length - 1) 0) := by
      generalize ts.length - 1 = k
      induction k with
      | zero => rfl
      | succ k ih => rw [List.replicate_succ, List.flatten_cons, ih, List.replicate_succ]; rfl
    rw [efl]
    refine ⟨z, u, _, _, rfl, rfl, (Ex.new hu) _ _ hzy, upd_same, ?_, fun q' hq' => ?_⟩
    · rw [nV_len, List.length_replicate, sizeLine_eq]; show 1 + _ ≤ _; omega
    have ev := ((Ex.new (o := .lst [V.int 1]) hz).tr ((Ex.new (o := .lst [V.int 0]) hy).tr (Ex.new (o := .lst (nV (List.replicate (ts.length - 1) 0))) hu))).tr (Ex.new (o := .lst ([V.int 1] ++ nV (List.replicate (ts.length - 1) 0))) hq')
    have ls : (1 :: List.replicate (ts.length - 1) 0).length = ns.length := by rw [List.length_cons, List.length_replicate]; omega
    refine made_coun2 (b := true) (c := true) (ns := ns) (es := 1 :: List.replicate (ts.length - 1) 0) (.lst (ev _ _ hr5) (rall_n _)) (by omega) (by omega) (fun n hn => by have := br n hn; omega) (.lst upd_same (rall_n (1 :: List.replicate (ts.length - 1) 0))) ls (fun n hn => ?_) fun x3 H6 e6 nx6 cn3 => ?_
    · rcases List.mem_cons.mp hn with h | h
      · rw [h]; decide
      · rw [(List.mem_replicate.mp h).2]; decide
    have o3 : OddAt CC ts.length H6 (.ref x3) := by
      have er : restsOf ns.length (1 :: List.replicate (ts.length - 1) 0) = 1 :: List.replicate (ts.length - 1) 0 := by unfold restsOf; rw [if_neg (by rw [List.length_cons]; omega)]
      rw [er] at cn3
      refine ⟨x3, ns, _, rfl, cn3, by omega, by omega, fun g => ?_⟩
      have := g.2.2 1 (by simp)
      omega
    have e56 := ev.tr e6
    have e06 := e3.tr (e45.tr e56)
    have hm6 := hm3.ex (e45.tr e56)
    have o1' := o15.nx (Ex.n e56)
    have o2' := o2.nx (Ex.n e56)
    clear hu hz hy hq' hzy hry ev e6 cn3
    refine tnil ⟨by show 3 ≤ sizeLine; decide, fun l hl => tnil ?_⟩
    have e7 := Ex.new (o := .lst [V.ref x1, .ref x2, .ref x3]) hl
    refine ⟨b, l, _, rfl, e7 _ _ (e06 _ _ hb), SqL.of upd_same, by simp, by show 3 ≤ 100000; decide, fun odd hodd => ?_⟩
    have oo : OddAt CC ts.length (upd H6 l (.lst [V.ref x1, .ref x2, .ref x3])) odd := by
      simp only [List.mem_cons, List.not_mem_nil, or_false] at hodd
      rcases hodd with rfl | rfl | rfl
      · exact o1'.nx (Ex.n e7)
      · exact o2'.nx (Ex.n e7)
      · exact o3.nx (Ex.n e7)
    have hm7 := hm6.ex e7
    have e07 := e06.tr e7
    generalize upd H6 l (.lst [V.ref x1, .ref x2, .ref x3]) = H7 at oo hm7 e07
    -- clash
    refine ⟨by show 3 ≤ sizeLine; decide, fun a1 ha1 => ⟨by show 1 ≤ sizeLine; decide, fun a2 ha2 => ⟨by show 3 ≤ sizeLine; decide, fun a3 ha3 => ⟨by show 1 ≤ sizeLine; decide, fun a4 ha4 => ?_⟩⟩⟩⟩
    have x1 := Ex.new (o := .lst [V.int 1, .int 1, .int 0]) ha1
    have x2 := Ex.new (o := .lst [V.ref a1]) ha2
    have x3 := Ex.new (o := .lst [V.int 0, .int 1, .int 2]) ha3
    have x4 := Ex.new (o := .lst [V.ref a3]) ha4
    refine ⟨_, rfl, _, _, rfl, rfl, a4, _, [V.ref a3], rfl, rfl, upd_same, by omega, by omega, ?_, fun a5 ha5 => ?_⟩
    · rw [sizeLine_eq]; show 1 * _ ≤ _; omega
    rw [en]
    have x5 := Ex.new (o := .lst (List.replicate (ts.length - 1) [V.ref a3]).flatten) ha5
    have lfl : (List.replicate (ts.length - 1) [V.ref a3]).flatten.length = ts.length - 1 := by simp
    refine ⟨a2, a5, _, _, rfl, rfl, x5 _ _ (x4 _ _ (x3 _ _ upd_same)), upd_same, ?_, fun a6 ha6 => ?_⟩
    · rw [lfl, sizeLine_eq]; show 1 + _ ≤ _; omega
    have x6 := Ex.new (o := .lst ([V.ref a1] ++ (List.replicate (ts.length - 1) [V.ref a3]).flatten)) ha6
    have x16 := x1.tr (x2.tr (x3.tr (x4.tr (x5.tr x6))))
    have g1 := x6 _ _ (x5 _ _ (x4 _ _ (x3 _ _ (x2 _ _ (upd_same (H := H7) (a := a1) (o := .lst [V.int 1, .int 1, .int 0]))))))
    have g3 := x6 _ _ (x5 _ _ (x4 _ _ (upd_same (H := upd (upd H7 a1 (.lst [V.int 1, .int 1, .int 0])) a2 (.lst [V.ref a1])) (a := a3) (o := .lst [V.int 0, .int 1, .int 2]))))
    have g6 := upd_same (H := upd (upd (upd (upd (upd H7 a1 (.lst [V.int 1, .int 1, .int 0])) a2 (.lst [V.ref a1])) a3 (.lst [V.int 0, .int 1, .int 2])) a4 (.lst [V.ref a3])) a5 (.lst (List.replicate (ts.length - 1) [V.ref a3]).flatten)) (a := a6) (o := .lst ([V.ref a1] ++ (List.replicate (ts.length - 1) [V.ref a3]).flatten))
    generalize upd (upd (upd (upd (upd (upd H7 a1 (.lst [V.int 1, .int 1, .int 0])) a2 (.lst [V.ref a1])) a3 (.lst [V.int 0, .int 1, .int 2])) a4 (.lst [V.ref a3])) a5 (.lst (List.replicate (ts.length - 1) [V.ref a3]).flatten)) a6 (.lst ([V.ref a1] ++ (List.replicate (ts.length - 1) [V.ref a3]).flatten)) = H8 at x16 g1 g3 g6
    have rr3 : ∀ k, RAll H8 (List.replicate k [V.ref a3]).flatten (rowsD (List.replicate k (true, [0, 1, 2]))) := fun k => by
      induction k with
      | zero => exact .nil
      | succ k ih => rw [List.replicate_succ, List.replicate_succ, List.flatten_cons]; exact .cons (.lst g3 (rall_n [0, 1, 2])) ih
    refine made_mach (rs := (true, [1, 1, 0]) :: List.replicate (ts.length - 1) (true, [0, 1, 2])) (m := 3) (.lst g6 (.cons (.lst g1 (rall_n [1, 1, 0])) (rr3 _))) (by simp) (by rw [List.length_cons, List.length_replicate]; omega) (by decide) (by decide) (fun p hp => ?_) fun mC H9 e9 nx9 hmc => ?_
    · rcases List.mem_cons.mp hp with h | h
      · rw [h]; decide
      · rw [(List.mem_replicate.mp h).2]; decide
    rw [List.map_cons, List.map_replicate] at hmc
    have e09 := e07.tr (x16.tr e9)
    have hm9 := hm7.ex (x16.tr e9)
    have oo9 := oo.nx (Ex.n (x16.tr e9))
    clear x1 x2 x3 x4 x5 x6 g1 g3 g6 rr3 ha1 ha2 ha3 ha4 ha5 ha6
    obtain ⟨cO, oN, oE, rfl, cnO, lO, lE, odd⟩ := oo9.ex
    refine ⟨_, rfl, a, rfl, ⟨av, SqL.of (e09 _ _ ha)⟩, ?_⟩
    refine for_list (xs := av) (fun i σ H' => ∃ x6 : Option V, σ = [some (.ref b), some (.ref t), some (.int (f : Nat)), some (.ref r), some (.ref a), some (.int (ts.length : Nat)), x6, some bad, some (.ref mC), some (.ref mA), some (.ref cO)] ∧ Nx H9 H' ∧ Tabs Tb H') ?_ (fun _ σ H' _ h => ?_) ?_ ?_
    · exact ⟨_, rfl, Nx.rfl', hT.ext e09⟩
    · obtain ⟨_, _, e, _⟩ := h
      exact SqL.of (e _ _ (e09 _ _ ha) (fun _ z => by cases z))
    · rintro i v σ H' hv ⟨x6, rfl, en', hT'⟩
      obtain ⟨lf, lq, lpa, lb, lsc, rfl, lok, lat⟩ := hav v (List.mem_of_getElem? hv)
      have latN : ∀ {H'' : Hp}, Nx H' H'' → LamAt H'' lf lq lpa lb lsc := fun e => lat.nx ((Ex.n e09).tr (en'.tr e))
      refine ⟨hT', fun J1 f1 T1 => ?_⟩
      have m1 := hm9.nx (en'.tr (extN_nx f1))
      have c1 := cnO.nx (en'.tr (extN_nx f1))
      refine ⟨lf, lq, lpa, lb, lsc, rfl, lok, latN (extN_nx f1), _, rfl, _, rfl, _, rfl, tnil ⟨latN (extN_nx f1), ?_⟩⟩
      refine ask_bad m1 ok bs c1 lO lE fun J2 f2 t1 J3 f3 ht1 => ?_
      refine ⟨_, rfl, _, rfl, bs.short, by show 3 ≤ sizeLine; decide, fun t2 ht2 => ?_⟩
      refine ⟨t1, t2, _, rfl, rfl, SqT.of ((Ex.new ht2) _ _ ht1), SqT.of upd_same, ?_, _, rfl, itF rfl ?_⟩
      · intro z hz
        simp only [List.mem_cons, List.not_mem_nil, or_false] at hz
        rcases hz with rfl | rfl | rfl
        · exact .inr rfl
        · exact .inr rfl
        · exact .inr rfl
      have f4 := f2.tr (f3.tr (Ex.new (o := .tup [V.str "state", .str (reprV bad), .bl true]) ht2))
      have T2 := T1.ext f4
      have N2 := (extN_nx f1).tr (Ex.n f4)
      generalize upd J3 t2 (.tup [V.str "state", .str (reprV bad), .bl true]) = J4 at f4 T2 N2
      clear f2 f3 f4 ht1 ht2 T1 f1 m1 c1
      -- the odd counters
      refine ⟨T2, fun J5 f5 T5 => ?_⟩
      have N5 := N2.tr (extN_nx f5)
      have m1 := hm9.nx (en'.tr N5)
      have c1 := cnO.nx (en'.tr N5)
      refine ⟨lf, lq, lpa, lb, lsc, rfl, lok, latN N5, _, rfl, _, rfl, _, rfl, tnil ⟨latN N5, ?_⟩⟩
      refine ask_odd m1 ok hf c1 lO lE odd fun J2 f2 t1 J3 f3 ht1 => ?_
      refine ⟨_, rfl, by show 3 ≤ sizeLine; decide, fun t2 ht2 => ?_⟩
      refine ⟨t1, t2, _, rfl, rfl, SqT.of ((Ex.new ht2) _ _ ht1), SqT.of upd_same, ?_, _, rfl, itF rfl ?_⟩
      · intro z hz
        simp only [List.mem_cons, List.not_mem_nil, or_false] at hz
        rcases hz with rfl | rfl | rfl
        · exact .inr rfl
        · exact .inl ⟨_, rfl⟩
        · exact .inr rfl
      have f4 := f2.tr (f3.tr (Ex.new (o := .tup [V.str "refused", .ref cO, .bl true]) ht2))
      have T2 := T5.ext f4
      have N2 := N5.tr (Ex.n f4)
      generalize upd J3 t2 (.tup [V.str "refused", .ref cO, .bl true]) = J4 at f4 T2 N2
      clear f2 f3 f4 ht1 ht2 T5 f5 m1 c1 N5
      -- one that forgets
      refine ⟨T2, fun J5 f5 T5 => ?_⟩
      have N5 := N2.tr (extN_nx f5)
      have m1 := hmc.nx (en'.tr N5)
      have r1 : J5 r = some (.lst (nV ns)) := N5 _ _ (en' _ _ (e09 _ _ hrr) (fun _ z => by cases z)) (fun _ z => by cases z)
      refine ⟨lf, lq, lpa, lb, lsc, rfl, lok, latN N5, _, rfl, _, rfl, made_coun (b := true) (ns := ns) F.N.em (.lst r1 (rall_n _)) (by omega) (by omega) (fun n hn => by have := br n hn; omega) fun x J6 e6 nx6 cn => tnil ?_⟩
      refine ⟨latN (N5.tr (Ex.n e6)), ask_clash (n := ts.length) ?_ h1 h4 cn lr (by rw [List.length_replicate]; omega) ⟨fun z => by have := br 0 z; omega, fun e he => (List.mem_replicate.mp he).2⟩ fun J2 t1 t J3 f2 f3 g1 g2 => ?_⟩
      · exact m1.ex e6
      refine ⟨by show 3 ≤ sizeLine; decide, fun t2 ht2 => ⟨by show 3 ≤ sizeLine; decide, fun t3 ht3 => ?_⟩⟩
      have f5 := Ex.new (o := .tup [V.int 0, .int 0, .int 1]) ht2
      have f6 := Ex.new (o := .tup [V.str "forgets", .ref t2, .bl true]) ht3
      have ra : R (upd (upd J3 t2 (.tup [V.int 0, .int 0, .int 1])) t3 (.tup [V.str "forgets", .ref t2, .bl true])) (.ref t) (.tuple [.str "forgets", iD [0, 0, 1], .bool true]) := .tup (f6 _ _ (f5 _ _ g2)) (.cons (.str _) (.cons (.tup (f6 _ _ (f5 _ _ g1)) (rall_n [0, 0, 1])) (.cons (.bl true) .nil)))
      have rb : R (upd (upd J3 t2 (.tup [V.int 0, .int 0, .int 1])) t3 (.tup [V.str "forgets", .ref t2, .bl true])) (.ref t3) (.tuple [.str "forgets", iD [0, 0, 1], .bool true]) := .tup upd_same (.cons (.str _) (.cons (.tup (f6 _ _ upd_same) (rall_n [0, 0, 1])) (.cons (.bl true) .nil)))
      refine ⟨_, _, R.dp _ _ ra, R.dp _ _ rb, by decide +kernel, by decide +kernel, _, rfl, itF (by decide +kernel) ?_⟩
      have f7 := e6.tr (f2.tr (f3.tr (f5.tr f6)))
      exact ⟨_, rfl, en'.tr (N5.tr (Ex.n f7)), T5.ext f7⟩
    · rintro σ H' ⟨x6, rfl, en', hT'⟩
      exact q H' ((Ex.n e09).tr en') hT'
end
end Onew
end
section
set_option maxRecDepth 100000
set_option maxHeartbeats 8000000
namespace Onew
open PySem PySem.Spec PyProof.Rows L2 G
open LamX (CodeO TabS Tabs ExtN TabB GivesTo LamS lamCx lamEnv tLam)
open Mx (Tab im Rch rl rowF forgF doneOn Fm nextD nextP)
abbrev refN : List Str := ["_law_box_here", "_law_tables_here", "_law_first", "_law_rounds", "_law_witness", "_law_many", "_law_asks", "_law_bad", "_law_counters", "_law_gone", "_law_machine", "_law_odd"]
abbrev refP : List Str := ["_law_box_here", "_law_tables_here", "_law_first", "_law_rounds", "_law_witness", "_law_many"]
abbrev strP : List Str := ["_law_box_here", "_law_tables_here", "_law_first", "_law_rounds", "_law_asks"]
theorem scRef : FnScope refN refP (defScope sRef) := ⟨rfl, rfl, rfl, by decide +kernel, rfl, by decide +kernel, by decide +kernel⟩
/-- all is good: need_doings says nothing -/
theorem need_good {CM CC CR CN CF : Addr} {H : Hp} {p c : Addr} {f : Nat} {ts : Tab} {ns es : List Nat} {E : XK} (m : MachAt CM H p ts) (ok : Mx.Ok ts) (cn : CounAt CC H c ns es) (l2 : es.length ≤ 4) (g : GoodF ts ns es (.int (f : Nat)) f) : NeedD CM CC CR CN CF H p (.int (f : Nat)) (.int (f : Nat)) c ts ns es E (fun _ => True) := by
  refine ⟨m, ok, .int _, cn, by rw [g.len]; exact ok.l4, l2, fun h => ?_, fun _ h => absurd g.len h, fun _ _ h => absurd g.rou h, fun f' ed hlt _ _ k a b e => ?_, fun _ _ _ _ _ _ _ _ => trivial⟩
  · rw [belowD_nat (m := mst ts) (f := f) g.lt] at h; cases h
  · have ef : f' = f := by injection ed with z; omega
    subst ef
    rw [g.ex] at e; cases e
theorem Nx.mut2 {H H3 H5 : Hp} {l : Addr} {o : HO} (a : Nx H H3) (b : Nx H3 H5) (n : H3 l = none) : Nx H (upd H5 l o) := fun c o' h hn => by
  have h3 := a c o' h hn
  rw [upd_ne (ne_of_none h3 n)]
  exact b c o' h3 hn
theorem tabs_lst {T : List (Addr × Str)} {H : Hp} {l : Addr} {xs ys : List V} (t : Tabs T H) (hl : H l = some (.lst xs)) : Tabs T (upd H l (.lst ys)) := fun p hp => by
  obtain ⟨ps, h1, h2, h3⟩ := t p hp
  have k : ∀ b o, H b = some o → o ≠ .lst xs → (upd H l (.lst ys)) b = some o := fun b o h n => by
    rw [upd_ne (fun z => n (Option.some.inj (h.symm.trans (by rw [z]; exact hl))))]
    exact h
  exact ⟨ps, k _ _ h1 (fun z => by cases z), h2, fun pos cv hc => let ⟨c, e1, e2⟩ := h3 pos cv hc; ⟨c, e1, k _ _ e2 (fun z => by unfold CodeO at z; cases z)⟩⟩
theorem lamAt_lst {H : Hp} {l f : Addr} {xs ys : List V} {q : Str} {pa : Arguments} {b : Expr} {sc : Scope} (h : LamAt H f q pa b sc) (hl : H l = some (.lst xs)) : LamAt (upd H l (.lst ys)) f q pa b sc := by
  obtain ⟨c, h1, h2⟩ := h
  have k : ∀ b o, H b = some o → o ≠ .lst xs → (upd H l (.lst ys)) b = some o := fun b o h n => by
    rw [upd_ne (fun z => n (Option.some.inj (h.symm.trans (by rw [z]; exact hl))))]
    exact h
  exact ⟨c, k _ _ h1 (fun z => by unfold LamO at z; cases z), k _ _ h2 (fun z => by unfold CodeO at z; cases z)⟩
theorem rep_flat (k : Nat) (v : V) : (List.replicate k [v]).flatten = List.replicate k v := by
  induction k with
  | zero => rfl
  | succ k ih => rw [List.replicate_succ, List.flatten_cons, ih, List.replicate_succ]; rfl
/-- a list of the same row -/
theorem r_same {H : Hp} {l a : Addr} {k : Nat} {ns : List Nat} (hl : H l = some (.lst (List.replicate k (V.ref a)))) (ha : H a = some (.lst (nV ns))) : R H (.ref l) (.list (rowsD (List.replicate k (true, ns)))) := by
  refine .lst hl ?_
  clear hl
  induction k with
  | zero => exact .nil
  | succ k ih => rw [List.replicate_succ, List.replicate_succ]; exact .cons (.lst ha (rall_n _)) ih
theorem same_ok {k m : Nat} {ns : List Nat} (h1 : 1 ≤ k) (h4 : k ≤ 4) (hm : ns.length = m) (m1 : 1 ≤ m) (m8 : m ≤ 8) (hb : ∀ n ∈ ns, n < m) : Mx.Ok (List.replicate k ns) ∧ Mx.mst (List.replicate k ns) = m := by
  have e : Mx.mst (List.replicate k ns) = m := by
    cases k with
    | zero => omega
    | succ k => rw [List.replicate_succ]; exact hm
  refine ⟨⟨by simpa using h1, by simpa using h4, by omega, by omega, fun t ht => ?_⟩, e⟩
  rw [(List.mem_replicate.mp ht).2, e]
  exact ⟨hm, hb⟩
theorem gone_forg {n : Nat} (h1 : 1 ≤ n) (h4 : n ≤ 4) : forgF 0 (rl (List.replicate n [1, 1]) 0) (List.replicate n [1, 1]) ≠ none := by
  obtain rfl | rfl | rfl | rfl : n = 1 ∨ n = 2 ∨ n = 3 ∨ n = 4 := by omega
  all_goals decide +kernel
theorem flat3 {s : Str} {v : V} {b : Bool} (h : (∃ p, v = .ref p) ∨ flatV v = true) : ∀ z ∈ [V.str s, v, .bl b], (∃ p, z = .ref p) ∨ flatV z = true := fun z hz => by
  simp only [List.mem_cons, List.not_mem_nil, or_false] at hz
  rcases hz with rfl | rfl | rfl
  · exact .inr rfl
  · exact h
  · exact .inr rfl
section
variable {P : Program} {w : World} {K : PySem.W.Frag} {mg : Str → Option Value} {base : Heap} {CM CC CR CN CF CT CB CW eA : Addr} {cb : Bool}
def spRef (Tb : List (Addr × Str)) : Sp := fun vs H Q _ => ∃ (b t r wl : Addr) (f many : Nat) (ts ws : Tab) (ns : List Nat), vs = [.ref b, .ref t, .int (f : Nat), .ref r, .ref wl, .int (many : Nat)] ∧ H b = some (BoxO b) ∧ R H (.ref t) (lD ts) ∧ Mx.Ok ts ∧ f < mst ts ∧ forgF 0 (rl ts f) ts = none ∧
  H r = some (.lst (nV ns)) ∧ ns.length = ts.length ∧ (∀ n ∈ ns, 1 ≤ n ∧ n ≤ 3) ∧ R H (.ref wl) (lD ws) ∧ Mx.Ok ws ∧ ws.length = ts.length ∧ mst ws = many + 1 ∧ Tabs Tb H ∧ ∀ H', Nx H H' → Tabs Tb H' → Q (.bl true) H'
abbrev tKept (CM CC CR CN CF CT : Addr) (t : TA) : XK → TE := fun E => tCallN 5 1 (spKept CM CC CR CN CF CT) (fun vs zs => vs ++ zs) E t (tCons (tC (.int 9)) tNil)
theorem ok_ref {fa c Pt : Addr} {fd : FuncData} {Tb : List (Addr × Str)} (Fd : FunC K "_law_refused_right" "_law_refused_right" sRef fa c fd) (F : Facts P w K mg base CM CC CR CN CF CT CB CW eA cb) (TB : TabB base mg c Pt) (hmT : (Pt, ("_law_refused_right.<locals>.<lambda>" : Str)) ∈ Tb) (hu : ∀ p ∈ Tb, p.1 = Pt → p.2 = "_law_refused_right.<locals>.<lambda>")
    (D__law_pick : Def P w K mg base 2 "_law_pick" ["_law_box_here", "_law_some"] (spPick K)) (D_str : Def P w K mg base 16 "_law_strangers_right" strP (spStr P w K mg base CM CC CR CN CF Tb))
    (D_kept : DefK P w K mg base 9 "kept_doings" kepN 5 ["most"] (fun vs zs => vs ++ zs) (spKept CM CC CR CN CF CT)) (D_ikg : DefK P w K mg base 11 "is_kept_group" ikgN 4 ["most"] (fun vs zs => vs ++ zs) (spIKG CM CC CR CN CF CT)) : FnOk P w K mg base (L2.CX P w) 17 fa fd refP (spRef Tb) := by
  have T := F.T
  refine Fd.okX scRef (fun vs H Q E h => ?_) (fun A outer s H vs Q E hr h => ?_)
  · obtain ⟨b, t, r, wl, f, many, ts, ws, ns, rfl, _⟩ := h
    rfl
  · obtain ⟨b, t, r, wl, f, many, ts, ws, ns, rfl, hb, rt, ok, hf, hx, hrr, lr, br, rw', okw, lw, mw, hT, q⟩ := h
    have nd := scRef.nd
    refine ⟨_, (pss_cons (ps_asg (pe_tup (pa_cons (pe_mach F.M hr (by decide) F.C.mM (pa_cons (pv 1) pa_nil)) (pa_cons (pe_coun1 F.N hr (by decide) F.C.mC (pa_cons (pv 3) pa_nil)) pa_nil))) (pg_tup rfl (pgs_cons (pg_name (i := 10) nd rfl (Or.inr rfl)) (pgs_cons (pg_name (i := 8) nd rfl (Or.inr rfl)) pgs_nil))))
      (pss_cons (ps_set (i := 6) nd rfl (Or.inl rfl) (pe_lst (pa_cons (pe_mk TB rfl hmT hu) pa_nil)))
      (pss_cons (ps_expr (pe_bm PySem.F.plainAttrs_list PySem.F.slot_list_append PySem.F.type_list_append mt_append (pv 6) (pa_cons (pe_mk TB rfl hmT hu) pa_nil)))
      (pss_cons (ps_if (pt_not (pt_val (pcall D_str hr (by decide) (pa_cons (pv 0) (pa_cons (pv 1) (pa_cons (pv 2) (pa_cons (pv 3) (pa_cons (pv 6) pa_nil)))))))) (pss_one (ps_ret pe_bl)) pss_nil)
      (pss_cons (ps_set (i := 11) nd rfl (Or.inr rfl) (pe_mach F.M hr (by decide) F.C.mM (pa_cons (pe_op op_rep (pe_lst (pa_cons (pe_lst (pa_cons pe_int pa_nil)) pa_nil)) (pe_ifExp (pt_cmpR op_lt (pe_callB call_len_seq (by rfl) (T.no "len" (by decide)) boot_len (pa_cons (pv 1) pa_nil)) pe_int (nomark _)) (pe_op op_add (pe_callB call_len_seq (by rfl) (T.no "len" (by decide)) boot_len (pa_cons (pv 1) pa_nil)) pe_int) pe_int)) pa_nil)))
      (pss_cons (ps_if (pt_cmpR (op_neSame (hu64 hr)) (pe_heard (k := 13) (t := tKept CM CC CR CN CF CT (tCons (tVar 10) (tCons (tVar 2) (tCons (tVar 8) (tCons (tVar 11) (tCons (tC .non) tNil)))))) F TB rfl hmT hu hr (by decide) (LamX.lamS_by (sc := defScope sRef) (by decide +kernel)) (fun A' o s' H' E' f' c' hr' => pcallK (X := lamCx (cxOf (L2.CX P w) P w K mg base refN "_law_refused_right" (defScope sRef) fa (.ref c) A outer s H E) A' o s' H' E' _ f' c') (E := E') D_kept hr' (by decide) tk_lam (fun _ _ _ _ h => h) (pa_cons (pv 10) (pa_cons (pv 2) (pa_cons (pv 8) (pa_cons (pv 11) (pa_cons pe_non pa_nil))))) (pk_cons pe_int pk_nil))) (pe_tup (pa_cons pe_str (pa_cons (pv 11) (pa_cons pe_bl pa_nil)))) (nomark _)) (pss_one (ps_ret pe_bl)) pss_nil)
      (pss_cons (ps_set (i := 7) nd rfl (Or.inr rfl) (pcall D__law_pick hr (by decide) (pa_cons (pv 0) (pa_cons (pe_lst (pa_cons (pe_op op_add (pv 5) pe_int) (pa_cons (pe_op op_sub pe_int pe_int) (pa_cons pe_non (pa_cons pe_bl (pa_cons pe_str pa_nil)))))) pa_nil))))
      (pss_cons (ps_if (pt_cmpR (op_neSame (hu64 hr)) (pe_heard (k := 13) (t := tKept CM CC CR CN CF CT (tCons (tVar 10) (tCons (tVar 2) (tCons (tVar 8) (tCons (tMake CM (spMIni CM) [] (fun _ _ _ => False) (tCons (tVar 4) tNil)) (tCons (tVar 7) tNil)))))) F TB rfl hmT hu hr (by decide) (LamX.lamS_by (sc := defScope sRef) (by decide +kernel)) (fun A' o s' H' E' f' c' hr' => pcallK (X := lamCx (cxOf (L2.CX P w) P w K mg base refN "_law_refused_right" (defScope sRef) fa (.ref c) A outer s H E) A' o s' H' E' _ f' c') (E := E') D_kept hr' (by decide) tk_lam (fun _ _ _ _ h => h) (pa_cons (pv 10) (pa_cons (pv 2) (pa_cons (pv 8) (pa_cons (pe_mach F.M hr' (by decide) F.C.mM (pa_cons (pv 4) pa_nil)) (pa_cons (pv 7) pa_nil))))) (pk_cons pe_int pk_nil))) (pe_tup (pa_cons pe_str (pa_cons (pe_callB cr_repr1 (by rfl) (T.no "repr" (by decide)) boot_repr (pa_cons (pv 7) pa_nil)) (pa_cons pe_bl pa_nil)))) (nomark _)) (pss_one (ps_ret pe_bl)) pss_nil)
      (pss_cons (ps_set (i := 9) nd rfl (Or.inr rfl) (pe_mach F.M hr (by decide) F.C.mM (pa_cons (pe_op op_rep (pe_lst (pa_cons (pe_lst (pa_cons pe_int (pa_cons pe_int pa_nil))) pa_nil)) (pe_callB call_len_seq (by rfl) (T.no "len" (by decide)) boot_len (pa_cons (pv 1) pa_nil))) pa_nil)))
      (pss_one (ps_ret (pe_cmpR (op_eqSame (hu64 hr)) (pe_heard (k := 13) (t := tKept CM CC CR CN CF CT (tCons (tVar 10) (tCons (tVar 2) (tCons (tVar 8) (tCons (tVar 9) (tCons (tC (.int 0)) tNil)))))) F TB rfl hmT hu hr (by decide) (LamX.lamS_by (sc := defScope sRef) (by decide +kernel)) (fun A' o s' H' E' f' c' hr' => pcallK (X := lamCx (cxOf (L2.CX P w) P w K mg base refN "_law_refused_right" (defScope sRef) fa (.ref c) A outer s H E) A' o s' H' E' _ f' c') (E := E') D_kept hr' (by decide) tk_lam (fun _ _ _ _ h => h) (pa_cons (pv 10) (pa_cons (pv 2) (pa_cons (pv 8) (pa_cons (pv 9) (pa_cons pe_int pa_nil))))) (pk_cons pe_int pk_nil))) (pe_tup (pa_cons pe_str (pa_cons (pv 9) (pa_cons pe_bl pa_nil)))) (nomark _))))))))))))), ?_⟩
    obtain ⟨t', vs, et, ht, rvs⟩ := r_l rt
    cases et
    have lvs : vs.length = ts.length := by rw [rvs.length, List.length_map]
    have h1 := ok.l1
    have h4 := ok.l4
    refine ⟨_, rfl, ?_⟩
    refine made_mach (rs := ts.map fun t => (false, t)) (m := mst ts) (by rw [← rows_d]; exact .lst ht rvs) (by rw [List.length_map]; exact h1) (by rw [List.length_map]; exact h4) ok.m1 ok.m8 (fun p hp => by obtain ⟨t, h, rfl⟩ := List.mem_map.mp hp; exact ok.row t h) fun mA H1 e1 nx1 hm => ?_
    rw [List.map_map, show ((fun p : Bool × List Nat => p.2) ∘ fun t => (false, t)) = id from rfl, List.map_id] at hm
    refine ⟨_, rfl, made_coun (b := true) (ns := ns) F.N.em (.lst (e1 _ _ hrr) (rall_n _)) (by omega) (by omega) (fun n hn => by have := br n hn; omega) fun cA H2 e2 nx2 cn => tnil ⟨by show 2 ≤ sizeLine; decide, fun p hp => ?_⟩⟩
    have e3 := e1.tr (e2.tr (Ex.new (o := .tup [V.ref mA, .ref cA]) hp))
    have hm3 := hm.ex (e2.tr (Ex.new (o := .tup [V.ref mA, .ref cA]) hp))
    have cn3 := cn.ex (Ex.new (o := .tup [V.ref mA, .ref cA]) hp)
    refine ⟨p, _, rfl, SqT.of upd_same, rfl, _, _, rfl, _, _, rfl, rfl, ?_⟩
    generalize upd H2 p (.tup [V.ref mA, .ref cA]) = H3 at e3 hm3 cn3
    have T3 := hT.ext e3
    -- the asked ones
    refine ⟨T3, fun f1 H4 x4 T4 L4 => ⟨by show 1 ≤ sizeLine; decide, fun l hl => ?_⟩⟩
    have T5 : Tabs Tb (upd H4 l (.lst [V.ref f1])) := T4.ext (Ex.new hl)
    have L5 := L4.nx (Ex.n (Ex.new (o := .lst [V.ref f1]) hl))
    refine ⟨_, rfl, .inl ⟨rfl, _, SqL.of upd_same⟩, T5, fun f2 H6 x6 T6 L6 => ⟨l, [.ref f1], .ref f2, rfl, rfl, x6 _ _ upd_same (fun _ z => by cases z), by show 1 < sizeLine; decide, ?_⟩⟩
    have hl6 := x6 _ _ (upd_same (H := H4) (a := l) (o := .lst [V.ref f1])) (fun _ z => by cases z)
    have T7 : Tabs Tb (upd H6 l (.lst [V.ref f1, .ref f2])) := tabs_lst T6 hl6
    have La := lamAt_lst (ys := [V.ref f1, .ref f2]) (L5.nx (extN_nx x6)) hl6
    have Lb := lamAt_lst (ys := [V.ref f1, .ref f2]) L6 hl6
    have N7 : Nx H3 (upd H6 l (.lst [V.ref f1, .ref f2])) := Nx.mut2 (extN_nx x4) ((Ex.n (Ex.new (o := .lst [V.ref f1]) hl)).tr (extN_nx x6)) hl
    have hl7 : (upd H6 l (.lst [V.ref f1, .ref f2])) l = some (.lst [V.ref f1, .ref f2]) := upd_same
    show tSeq _ _ _ _ (upd H6 l (.lst [V.ref f1, .ref f2]))
    generalize upd H6 l (.lst [V.ref f1, .ref f2]) = H7 at T7 La Lb N7 hl7
    have N07 := (Ex.n e3).tr N7
    have gd : GoodF ts ns (List.replicate ns.length 0) (.int (f : Nat)) f := ⟨rfl, hf, lr, ⟨fun z => by have := br 0 z; omega, fun e he => (List.mem_replicate.mp he).2⟩, hx⟩
    have les : (List.replicate ns.length 0).length ≤ 4 := by rw [List.length_replicate]; omega
    have hb7 : H7 b = some (BoxO b) := N07 _ _ hb (fun _ z => by unfold BoxO at z; cases z)
    refine ⟨_, rfl, _, rfl, _, rfl, _, rfl, _, rfl, tnil ⟨b, t, r, l, f, ts, ns, [.ref f1, .ref f2], rfl, hb7, rt.nx N07, ok, hf, N07 _ _ hrr (fun _ z => by cases z), lr, br, hl7, fun v hv => ?_, T7, fun H8 n8 T8 => ?_⟩⟩
    · simp only [List.mem_cons, List.not_mem_nil, or_false] at hv
      rcases hv with rfl | rfl
      · exact ⟨f1, _, _, _, _, rfl, ⟨_, ok_ask1 F.C F.M D_kept⟩, La⟩
      · exact ⟨f2, _, _, _, _, rfl, ⟨_, ok_ask2 D_ikg⟩, Lb⟩
    refine ⟨_, rfl, itF rfl ?_⟩
    have N08 := N07.tr n8
    have hm8 := hm3.nx (N7.tr n8)
    have cn8 := cn3.nx (N7.tr n8)
    clear La Lb L4 L5 L6 x4 x6 T4 T5 T6 hl6 hl7 hl nx1 nx2 hm cn hp
    -- a witness of other deeds
    have ht8 : H8 t = some (.lst vs) := N08 _ _ ht (fun _ z => by cases z)
    refine ⟨by show 1 ≤ sizeLine; decide, fun l0 hl0 => ⟨by show 1 ≤ sizeLine; decide, fun l1 hl1 => ?_⟩⟩
    have x0 := Ex.new (o := .lst [V.int 0]) hl0
    have x1 := Ex.new (o := .lst [V.ref l0]) hl1
    refine ⟨_, rfl, t, vs, rfl, .inl (SqL.of ((x0.tr x1) _ _ ht8)), _, _, rfl, rfl, _, rfl, ?_⟩
    refine tIf_by (fun v H' => H' = upd (upd H8 l0 (.lst [V.int 0])) l1 (.lst [V.ref l0]) ∧ ∃ k : Nat, v = .int (k : Nat) ∧ 1 ≤ k ∧ k ≤ 4 ∧ k ≠ ts.length) (fun hc Q kk => ?_) (fun hc Q kk => ?_) ?_
    · have hl : vs.length < 4 := by have := of_decide_eq_true hc; omega
      refine ⟨_, rfl, t, vs, rfl, .inl (SqL.of ((x0.tr x1) _ _ ht8)), _, _, rfl, rfl, kk _ _ ⟨rfl, vs.length + 1, ?_, by omega, by omega, by omega⟩⟩
      rw [Int.natCast_add]; rfl
    · have hl : ¬ vs.length < 4 := by have := of_decide_eq_false hc; omega
      exact kk _ _ ⟨rfl, 1, rfl, by decide, by decide, by omega⟩
    rintro _ _ ⟨rfl, k, rfl, k1, k4, kn⟩
    refine ⟨l1, k, [.ref l0], rfl, rfl, upd_same, by omega, by omega, ?_, fun p hp => ?_⟩
    · rw [sizeLine_eq]; show 1 * _ ≤ _; omega
    rw [rep_flat, show ((k : Int)).toNat = k by omega]
    have x2 := Ex.new (o := .lst (List.replicate k (V.ref l0))) hp
    have g0 := x2 _ _ (x1 _ _ (upd_same (H := H8) (a := l0) (o := .lst [V.int 0])))
    obtain ⟨okO, mO⟩ := same_ok (k := k) (m := 1) (ns := [0]) k1 k4 rfl (by decide) (by decide) (by decide)
    refine made_mach (rs := List.replicate k (true, [0])) (m := 1) (r_same (ns := [0]) upd_same g0) (by simpa using k1) (by simpa using k4) (by decide) (by decide) (fun p hp => by rw [(List.mem_replicate.mp hp).2]; decide) fun oA H9 e9 nx9 ho => ?_
    rw [List.map_replicate] at ho
    have e89 := (x0.tr (x1.tr x2)).tr e9
    have T9 := T8.ext e89
    have N09 := N08.tr (Ex.n e89)
    have hm9 := hm8.ex e89
    have cn9 := cn8.ex e89
    clear x0 x1 x2 g0 hl0 hl1 hp e9 nx9
    refine ⟨T9, fun J1 y1 U1 => ?_⟩
    have ho1 := ho.nx (extN_nx y1)
    have hm1 := hm9.nx (extN_nx y1)
    refine ⟨_, rfl, _, rfl, _, rfl, _, rfl, rfl, rfl, mA, .int (f : Nat), cA, oA, .non, .int (f : Nat), .none, ts, ns, _, _, 9, 0, rfl, by decide, by decide, need_good hm1 ok (cn9.nx (extN_nx y1)) les gd, fun f' g => ⟨⟨hm1, ho1, okO, .non, fun _ dd H' e h => ?_, fun h => ?_, fun s es => (nomatch es), fun s es => (nomatch es)⟩, fun s es => by cases es⟩⟩
    rotate_left
    · rw [List.length_replicate] at h; exact absurd h kn
    obtain ⟨dx, tt, hd1, _⟩ := id ho1
    refine .refused h (e _ _ hd1) (.inl rfl) fun t1 J3 f3 ht1 => ?_
    refine ⟨_, rfl, by show 3 ≤ sizeLine; decide, fun t2 ht2 => ?_⟩
    refine ⟨t1, t2, _, rfl, rfl, SqT.of ((Ex.new ht2) _ _ ht1), SqT.of upd_same, flat3 (.inl ⟨_, rfl⟩), _, rfl, itF rfl ?_⟩
    have y2 := e.tr (f3.tr (Ex.new (o := .tup [V.str "refused", .ref oA, .bl true]) ht2))
    have U2 := U1.ext y2
    have N2 := N09.tr ((extN_nx y1).tr (Ex.n y2))
    have hm10 := hm1.ex y2
    have cn10 := (cn9.nx (extN_nx y1)).ex y2
    generalize upd J3 t2 (.tup [V.str "refused", .ref oA, .bl true]) = J4 at y2 U2 N2 hm10 cn10
    clear f3 ht1 ht2 e h hd1 y1 y2 U1 hm1 ho1 T9 e89
    -- a start that is none
    have hb10 : J4 b = some (BoxO b) := N2 _ _ hb (fun _ z => by unfold BoxO at z; cases z)
    refine ⟨_, rfl, _, rfl, _, _, rfl, rfl, _, _, rfl, rfl, by show 5 ≤ sizeLine; decide, fun l5 hl5 => tnil ?_⟩
    have em : V.int ((many : Int) + 1) = V.int (mst ws : Nat) := by rw [mw, Int.natCast_add]; rfl
    have y3 := Ex.new (o := .lst [V.int ((many : Int) + 1), .int (0 - 1), .non, .bl true, .str "0"]) hl5
    refine ⟨b, l5, _, rfl, y3 _ _ hb10, SqL.of upd_same, by simp, by show 5 ≤ 100000; decide, fun bad hbad => ?_⟩
    have hbad : bad ∈ [V.int (mst ws : Nat), .int (0 - 1), .non, .bl true, .str "0"] := by rw [← em]; exact hbad
    obtain ⟨bd, bs⟩ := bad_all hbad okw.m8
    have U3 := U2.ext y3
    have N3 := N2.tr (Ex.n y3)
    have hm11 := hm10.ex y3
    have cn11 := cn10.ex y3
    generalize upd J4 l5 (.lst [V.int ((many : Int) + 1), .int (0 - 1), .non, .bl true, .str "0"]) = J5 at U3 N3 hm11 cn11
    clear y3 hl5 hm10 cn10 hb10 U2
    refine ⟨U3, fun J1 y1 U1 => ?_⟩
    have N4 := N3.tr (extN_nx y1)
    have rw1 := rw'.nx N4
    obtain ⟨w', us, ew, hw, rus⟩ := r_l rw1
    cases ew
    refine ⟨_, rfl, _, rfl, _, rfl, _, rfl, ?_⟩
    refine made_mach (rs := ws.map fun t => (false, t)) (m := mst ws) (by rw [← rows_d]; exact .lst hw rus) (by rw [List.length_map]; exact okw.l1) (by rw [List.length_map]; exact okw.l4) okw.m1 okw.m8 (fun p hp => by obtain ⟨t, h, rfl⟩ := List.mem_map.mp hp; exact okw.row t h) fun mW J2 y2 nx2 hmw => ?_
    rw [List.map_map, show ((fun p : Bool × List Nat => p.2) ∘ fun t => (false, t)) = id from rfl, List.map_id] at hmw
    have hm12 := (hm11.nx (extN_nx y1)).ex y2
    have cn12 := (cn11.nx (extN_nx y1)).ex y2
    refine ⟨_, rfl, rfl, rfl, mA, .int (f : Nat), cA, mW, bad, .int (f : Nat), bd, ts, ns, _, ws, 9, 0, rfl, by decide, by decide, need_good hm12 ok cn12 les gd, fun f' g => ⟨⟨hm12, hmw, okw, bs.r _, fun h => absurd lw h, fun _ _ dd H' e h => ?_, fun s es hs => ?_, fun s es hs => ?_⟩, fun s es hs => ?_⟩⟩
    rotate_left
    · exfalso
      have z := bs.no
      rw [es, belowD_nat (m := mst ws) (f := s) hs] at z; cases z
    · exfalso
      have z := bs.no
      rw [es, belowD_nat (m := mst ws) (f := s) hs] at z; cases z
    · exfalso
      have z := bs.no
      rw [es, belowD_nat (m := mst ws) (f := s) hs] at z; cases z
    refine .state h bs.short fun t1 J3 f3 ht1 => ?_
    refine ⟨_, rfl, _, rfl, bs.short, by show 3 ≤ sizeLine; decide, fun t2 ht2 => ?_⟩
    refine ⟨t1, t2, _, rfl, rfl, SqT.of ((Ex.new ht2) _ _ ht1), SqT.of upd_same, flat3 (.inr rfl), _, rfl, itF rfl ?_⟩
    have y4 := y2.tr (e.tr (f3.tr (Ex.new (o := .tup [V.str "state", .str (reprV bad), .bl true]) ht2)))
    have U2 := U1.ext y4
    have N2 := N4.tr (Ex.n y4)
    have hm13 := (hm11.nx (extN_nx y1)).ex y4
    have cn13 := (cn11.nx (extN_nx y1)).ex y4
    generalize upd J3 t2 (.tup [V.str "state", .str (reprV bad), .bl true]) = J4 at y4 U2 N2 hm13 cn13
    clear f3 ht1 ht2 e h y1 y2 y4 U1 hm12 cn12 hmw nx2 hw rus rw1 N4 hm11 cn11
    -- one that forgets
    refine ⟨by show 2 ≤ sizeLine; decide, fun a1 ha1 => ⟨by show 1 ≤ sizeLine; decide, fun a2 ha2 => ?_⟩⟩
    have x1 := Ex.new (o := .lst [V.int 1, .int 1]) ha1
    have x2 := Ex.new (o := .lst [V.ref a1]) ha2
    have htJ : J4 t = some (.lst vs) := N2 _ _ ht (fun _ z => by cases z)
    refine ⟨_, rfl, t, vs, rfl, .inl (SqL.of ((x1.tr x2) _ _ htJ)), a2, _, [V.ref a1], rfl, rfl, upd_same, by omega, by omega, ?_, fun a3 ha3 => ?_⟩
    · rw [sizeLine_eq]; show 1 * _ ≤ _; omega
    rw [lvs, rep_flat, show ((ts.length : Int)).toNat = ts.length by omega] at *
    have x3 := Ex.new (o := .lst (List.replicate ts.length (V.ref a1))) ha3
    have g1 := x3 _ _ (x2 _ _ (upd_same (H := J4) (a := a1) (o := .lst [V.int 1, .int 1])))
    obtain ⟨okG, mG⟩ := same_ok (k := ts.length) (m := 2) (ns := [1, 1]) h1 h4 rfl (by decide) (by decide) (by decide)
    refine made_mach (rs := List.replicate ts.length (true, [1, 1])) (m := 2) (r_same (ns := [1, 1]) upd_same g1) (by simpa using h1) (by simpa using h4) (by decide) (by decide) (fun p hp => by rw [(List.mem_replicate.mp hp).2]; decide) fun gA J5 e5 nx5 hg => ?_
    rw [List.map_replicate] at hg
    have e45 := (x1.tr (x2.tr x3)).tr e5
    have U4 := U2.ext e45
    have N5 := N2.tr (Ex.n e45)
    have hm14 := hm13.ex e45
    have cn14 := cn13.ex e45
    refine ⟨U4, fun J6 y1 U5 => ?_⟩
    have hg1 := hg.nx (extN_nx y1)
    have hm1 := hm14.nx (extN_nx y1)
    have hg0 : (0 : Nat) < Mx.mst (List.replicate ts.length [1, 1]) := by rw [mG]; decide
    have z0 : belowD (mst (List.replicate ts.length [1, 1])) (.int ((0 : Nat) : Int)) = true := belowD_nat (f := 0) hg0
    refine ⟨_, rfl, _, rfl, _, rfl, _, rfl, rfl, rfl, mA, .int (f : Nat), cA, gA, .int 0, .int (f : Nat), .int ((0 : Nat) : Int), ts, ns, _, List.replicate ts.length [1, 1], 9, 0, rfl, by decide, by decide, need_good hm1 ok (cn14.nx (extN_nx y1)) les gd, fun f' g => ⟨⟨hm1, hg1, okG, .int _, fun h => absurd (List.length_replicate ..) h, fun _ h => absurd (z0.symm.trans h) (by decide), fun s es hs _ _ dd H' e h => ?_, fun s es hs _ hn => ?_⟩, fun s es hs _ hn => ?_⟩⟩
    rotate_left
    · have es : s = 0 := by injection es with z; omega
      subst es
      exact absurd hn (gone_forg h1 h4)
    · have es : s = 0 := by injection es with z; omega
      subst es
      exact absurd hn (gone_forg h1 h4)
    obtain ⟨dx, tt, hd1, _⟩ := id hg1
    refine .refused h (e _ _ hd1) (.inl rfl) fun t1 J3 f3 ht1 => ?_
    refine ⟨_, rfl, by show 3 ≤ sizeLine; decide, fun t2 ht2 => ?_⟩
    refine ⟨t1, t2, _, rfl, rfl, SqT.of ((Ex.new ht2) _ _ ht1), SqT.of upd_same, flat3 (.inl ⟨_, rfl⟩), ?_⟩
    have y6 := e.tr (f3.tr (Ex.new (o := .tup [V.str "refused", .ref gA, .bl true]) ht2))
    exact q _ (N5.tr ((extN_nx y1).tr (Ex.n y6))) (U5.ext y6)
end
end Onew
end
section
set_option maxRecDepth 100000
set_option maxHeartbeats 4000000
namespace Onew
open PySem PySem.Spec PyProof.Rows L2 G
open Mx (Tab im Rch rl rowF forgF doneOn Fm nextD nextP behind z3)
/-! ### the group of any value: the order of the known ones is the same -/
theorem find_perm {W W' : List Doing} (h : W.Perm W') (k : NestedKey) : (W.find? fun z => decide (kD z = k)) = W'.find? fun z => decide (kD z = k) := by
  cases e : W.find? fun z => decide (kD z = k) with
  | none =>
    symm
    rw [List.find?_eq_none] at e ⊢
    exact fun x hx => e x (h.mem_iff.mpr hx)
  | some x =>
    have hx : kD x = k := of_decide_eq_true (by simpa using List.find?_some e)
    have mx : x ∈ W' := h.mem_iff.mp (List.mem_of_find?_eq_some e)
    cases e' : W'.find? fun z => decide (kD z = k) with
    | none =>
      rw [List.find?_eq_none] at e'
      exact absurd (decide_eq_true hx) (e' x mx)
    | some y =>
      have hy : kD y = k := of_decide_eq_true (by simpa using List.find?_some e')
      rw [kD_inj (hx.trans hy.symm)]
theorem told_perm {W W' : List Doing} (h : W.Perm W') (d : PyData) : toldD W d = toldD W' d := by
  unfold toldD
  split
  · split
    · exact find_perm h _
    · rfl
  · rfl
theorem toldAll_perm {W W' : List Doing} (h : W.Perm W') : ∀ ds : List PyData, toldAll W ds = toldAll W' ds
  | [] => rfl
  | d :: ds => by unfold toldAll; rw [told_perm h, toldAll_perm h ds]
theorem keptD_perm {S ns : List Nat} {W W' : List Doing} {f : Nat} {d : PyData} (h : W.Perm W') : keptD S ns W f d = keptD S ns W' f d := by
  have e : closedD S ns W d = closedD S ns W' d := by
    unfold closedD
    split
    · rfl
    · rfl
    · rw [toldAll_perm h]
  unfold keptD
  rw [e]
theorem keptD_sort {S ns : List Nat} {W : List Doing} {f : Nat} {d : PyData} : keptD S ns (sortW W) f d = keptD S ns W f d := keptD_perm (sortW_perm W)
/-! ### told doings -/
theorem intsI_n : ∀ ns : List Nat, intsI (nD ns) = some (ns.map fun n : Nat => (n : Int))
  | [] => rfl
  | n :: ns => by
    show (intsI (nD ns)).map _ = _
    rw [intsI_n ns]; rfl
theorem kD_kZ (x : Doing) : kD x = kZ (x.1.map fun n : Nat => (n : Int)) (x.2.map fun n : Nat => (n : Int)) := by
  have e : ∀ l : List Nat, iK l = .tup ((l.map fun n : Nat => (n : Int)).map .num) := fun l => by
    unfold iK
    rw [List.map_map]; rfl
  unfold kD kZ
  rw [e, e]
theorem told_of {W : List Doing} {x : Doing} (h : x ∈ W) : toldD W (dD x) = some x := by
  have e : toldD W (dD x) = W.find? fun z => decide (kD z = kD x) := by
    rw [kD_kZ x]
    unfold toldD
    show (match intsI (nD x.1), intsI (nD x.2) with
      | some is, some js => W.find? fun z => decide (kD z = kZ is js)
      | _, _ => none) = _
    rw [intsI_n, intsI_n]
  rw [e]
  cases q : W.find? fun z => decide (kD z = kD x) with
  | none =>
    rw [List.find?_eq_none] at q
    exact absurd (decide_eq_true rfl) (q x h)
  | some y =>
    have hy : kD y = kD x := of_decide_eq_true (by simpa using List.find?_some q)
    rw [kD_inj hy]
theorem toldAll_of {W : List Doing} : ∀ {T : List Doing}, (∀ x ∈ T, x ∈ W) → toldAll W (T.map dD) = some T
  | [], _ => rfl
  | x :: T, h => by
    rw [List.map_cons]
    unfold toldAll
    rw [told_of (h x (by simp)), toldAll_of fun y hy => h y (by simp [hy])]
/-- a group of doings -/
theorem keptD_of {S ns : List Nat} {W T : List Doing} {f : Nat} {d : PyData} (hd : seqI d = some (T.map dD)) (n0 : T ≠ []) (nd : T.Nodup) (sub : ∀ x ∈ T, x ∈ W) (cl : Closed S ns T) : keptD S ns W f d = (T.filter (movedB S f)).isEmpty := by
  have e : closedD S ns W d = some T := by
    unfold closedD
    rw [hd]
    cases T with
    | nil => exact absurd rfl n0
    | cons x T =>
      show (match toldAll W ((x :: T).map dD) with
        | none => none
        | some T => if T.Nodup ∧ Closed S ns T then some T else none) = _
      rw [toldAll_of sub]
      exact if_pos ⟨nd, cl⟩
  unfold keptD
  rw [e]
end Onew
end
section
set_option maxRecDepth 100000
set_option maxHeartbeats 8000000
namespace Onew
open PySem PySem.Spec PyProof.Rows L2 G
open Mx (Tab im Rch rl rowF forgF doneOn Fm nextD nextP)
abbrev sOth : Stmt := top 65
abbrev othN : List Str := ["_law_swaps", "_law_ones", "_law_value", "_law_first"]
theorem scOth : FnScope othN [] (defScope sOth) := ⟨rfl, rfl, rfl, by decide +kernel, rfl, by decide +kernel, by decide +kernel⟩
abbrev othT : Tab := [[1, 0, 2], [0, 2, 1]]
abbrev othV : List Doing := [([0, 1, 2], [0, 0]), ([1, 0, 2], [0, 0])]
theorem oth_ok : Mx.Ok othT := ⟨by decide, by decide, by decide, by decide, by decide⟩
theorem oth_ans {f : Nat} (h : f < 3) : (doings othT [1, 1] f 9).length ≤ 9 ∧ forgF 0 (rl othT f) othT = none ∧ keptD (rl othT f) [1, 1] (sortW (doings othT [1, 1] f 9)) f (.list (othV.map dD)) = decide (f = 2) := by
  obtain rfl | rfl | rfl : f = 0 ∨ f = 1 ∨ f = 2 := by omega
  all_goals
    refine ⟨by decide +kernel, by decide +kernel, ?_⟩
    rw [keptD_sort, keptD_of rfl (by decide) (by decide) (by decide +kernel) (by decide +kernel)]
    decide +kernel
section
variable {P : Program} {w : World} {K : PySem.W.Frag} {mg : Str → Option Value} {base : Heap} {CM CC CR CN CF CT CB CW eA : Addr} {cb : Bool}
def spOth : Sp := fun vs H Q _ => vs = [] ∧ ∀ H', Ex H H' → Q (.bl true) H'
theorem ok_oth {fa : Addr} {fd : FuncData} (Fd : Fun K "_law_other_right" "_law_other_right" sOth fa fd) (F : Facts P w K mg base CM CC CR CN CF CT CB CW eA cb) (D_ikg : DefK P w K mg base 11 "is_kept_group" ikgN 4 ["most"] (fun vs zs => vs ++ zs) (spIKG CM CC CR CN CF CT)) : FnOk P w K mg base (L2.CX P w) 12 fa fd [] spOth := by
  have T := F.T
  refine Fd.okX scOth (fun vs H Q E h => ?_) (fun cdv A outer s H vs Q E hr h => ?_)
  · obtain ⟨rfl, _⟩ := h
    rfl
  · obtain ⟨rfl, q⟩ := h
    have nd := scOth.nd
    refine ⟨_, (pss_cons (ps_asg (pe_tup (pa_cons (pe_mach F.M hr (by decide) F.C.mM (pa_cons (pe_lst (pa_cons (pe_tup (pa_cons pe_int (pa_cons pe_int (pa_cons pe_int pa_nil)))) (pa_cons (pe_tup (pa_cons pe_int (pa_cons pe_int (pa_cons pe_int pa_nil)))) pa_nil))) pa_nil)) (pa_cons (pe_coun1 F.N hr (by decide) F.C.mC (pa_cons (pe_tup (pa_cons pe_int (pa_cons pe_int pa_nil))) pa_nil)) (pa_cons (pe_lst (pa_cons (pe_tup (pa_cons (pe_tup (pa_cons pe_int (pa_cons pe_int (pa_cons pe_int pa_nil)))) (pa_cons (pe_tup (pa_cons pe_int (pa_cons pe_int pa_nil))) pa_nil))) (pa_cons (pe_tup (pa_cons (pe_tup (pa_cons pe_int (pa_cons pe_int (pa_cons pe_int pa_nil)))) (pa_cons (pe_tup (pa_cons pe_int (pa_cons pe_int pa_nil))) pa_nil))) pa_nil))) pa_nil)))) (pg_tup rfl (pgs_cons (pg_name (i := 0) nd rfl (Or.inr rfl)) (pgs_cons (pg_name (i := 1) nd rfl (Or.inr rfl)) (pgs_cons (pg_name (i := 2) nd rfl (Or.inr rfl)) pgs_nil)))))
      (pss_one (ps_ret (pe_cmpR (op_eqD (hu64 hr)) (pe_lc (own := [("_law_first", 3)]) (g := gName 3) (tt := tYes) (te := tCallN 4 (["most"] : List Str).length (spIKG CM CC CR CN CF CT) (fun vs zs => vs ++ zs) (fun _ _ _ => False) (tCons (tVar 0) (tCons (tVar 3) (tCons (tVar 1) (tCons (tVar 2) tNil)))) (tCons (tC (.int 9)) tNil)) rfl nd (pi_tup (pe_tup (pa_cons pe_int (pa_cons pe_int (pa_cons pe_int pa_nil))))) (blkOk_by (N := othN) (sc := defScope sOth) (by decide +kernel)) (fun _ _ _ _ _ => (pg_name (i := 3) nd rfl (Or.inl rfl))) (fun _ _ _ _ _ => pts_nil) (fun _ _ _ _ _ => (pcallK (E := fun _ _ _ => False) D_ikg hr (by decide) L2.takes0 (fun _ _ _ _ h => h) (pa_cons (pv 0) (pa_cons (pv 3) (pa_cons (pv 1) (pa_cons (pv 2) pa_nil)))) (pk_cons pe_int pk_nil)))) (pe_lst (pa_cons pe_bl (pa_cons pe_bl (pa_cons pe_bl pa_nil)))) (nomark _))))), ?_⟩
    refine ⟨by show 3 ≤ sizeLine; decide, fun a1 ha1 => ⟨by show 3 ≤ sizeLine; decide, fun a2 ha2 => ⟨by show 2 ≤ sizeLine; decide, fun a3 ha3 => ?_⟩⟩⟩
    have x1 := Ex.new (o := .tup [V.int 1, .int 0, .int 2]) ha1
    have x2 := Ex.new (o := .tup [V.int 0, .int 2, .int 1]) ha2
    have x3 := Ex.new (o := .lst [V.ref a1, .ref a2]) ha3
    have g1 := x3 _ _ (x2 _ _ (upd_same (H := H) (a := a1) (o := .tup [V.int 1, .int 0, .int 2])))
    have g2 := x3 _ _ (upd_same (H := upd H a1 (.tup [V.int 1, .int 0, .int 2])) (a := a2) (o := .tup [V.int 0, .int 2, .int 1]))
    have x13 := x1.tr (x2.tr x3)
    refine made_mach (rs := [(false, [1, 0, 2]), (false, [0, 2, 1])]) (m := 3) (.lst upd_same (.cons (.tup g1 (rall_n [1, 0, 2])) (.cons (.tup g2 (rall_n [0, 2, 1])) .nil))) (by decide) (by decide) (by decide) (by decide) (by decide) fun mA H1 e1 nx1 hm => ?_
    have e1 := x13.tr e1
    refine ⟨by show 2 ≤ sizeLine; decide, fun a4 ha4 => ?_⟩
    have x4 := Ex.new (o := .tup [V.int 1, .int 1]) ha4
    refine made_coun (b := false) (ns := [1, 1]) F.N.em (.tup upd_same (rall_n [1, 1])) (by decide) (by decide) (by decide) fun cA H2 e2 nx2 cn => ?_
    have hm2 : MachAt CM H2 mA othT := hm.ex (x4.tr e2)
    have e02 := e1.tr (x4.tr e2)
    clear x1 x2 x3 g1 g2 x13 x4 ha1 ha2 ha3 ha4 nx1 nx2 e1 e2 hm
    refine ⟨by show 3 ≤ sizeLine; decide, fun b1 hb1 => ⟨by show 2 ≤ sizeLine; decide, fun b2 hb2 => ⟨by show 2 ≤ sizeLine; decide, fun b3 hb3 => ⟨by show 3 ≤ sizeLine; decide, fun b4 hb4 => ⟨by show 2 ≤ sizeLine; decide, fun b5 hb5 => ⟨by show 2 ≤ sizeLine; decide, fun b6 hb6 => ⟨by show 2 ≤ sizeLine; decide, fun b7 hb7 => tnil ⟨by show 3 ≤ sizeLine; decide, fun p hp => ?_⟩⟩⟩⟩⟩⟩⟩⟩
    have y1 := Ex.new (o := .tup [V.int 0, .int 1, .int 2]) hb1
    have y2 := Ex.new (o := .tup [V.int 0, .int 0]) hb2
    have y3 := Ex.new (o := .tup [V.ref b1, .ref b2]) hb3
    have y4 := Ex.new (o := .tup [V.int 1, .int 0, .int 2]) hb4
    have y5 := Ex.new (o := .tup [V.int 0, .int 0]) hb5
    have y6 := Ex.new (o := .tup [V.ref b4, .ref b5]) hb6
    have y7 := Ex.new (o := .lst [V.ref b3, .ref b6]) hb7
    have y8 := Ex.new (o := .tup [V.ref mA, .ref cA, .ref b7]) hp
    have k1 := y3 _ _ (y2 _ _ (upd_same (H := H2) (a := b1) (o := .tup [V.int 0, .int 1, .int 2])))
    have k2 := y3 _ _ (upd_same (H := upd H2 b1 (.tup [V.int 0, .int 1, .int 2])) (a := b2) (o := .tup [V.int 0, .int 0]))
    have k3 := upd_same (H := upd (upd H2 b1 (.tup [V.int 0, .int 1, .int 2])) b2 (.tup [V.int 0, .int 0])) (a := b3) (o := .tup [V.ref b1, .ref b2])
    have y48 := y4.tr (y5.tr (y6.tr (y7.tr y8)))
    have y18 := y1.tr (y2.tr (y3.tr y48))
    have k1 := y48 _ _ k1
    have k2 := y48 _ _ k2
    have k3 := y48 _ _ k3
    have r1 : R _ (.ref b3) (dD ([0, 1, 2], [0, 0])) := .tup k3 (.cons (.tup k1 (rall_n [0, 1, 2])) (.cons (.tup k2 (rall_n [0, 0])) .nil))
    generalize upd (upd (upd H2 b1 (.tup [V.int 0, .int 1, .int 2])) b2 (.tup [V.int 0, .int 0])) b3 (.tup [V.ref b1, .ref b2]) = H3 at *
    have k4 := y8 _ _ (y7 _ _ (y6 _ _ (y5 _ _ (upd_same (H := H3) (a := b4) (o := .tup [V.int 1, .int 0, .int 2])))))
    have k5 := y8 _ _ (y7 _ _ (y6 _ _ (upd_same (H := upd H3 b4 (.tup [V.int 1, .int 0, .int 2])) (a := b5) (o := .tup [V.int 0, .int 0]))))
    have k6 := y8 _ _ (y7 _ _ (upd_same (H := upd (upd H3 b4 (.tup [V.int 1, .int 0, .int 2])) b5 (.tup [V.int 0, .int 0])) (a := b6) (o := .tup [V.ref b4, .ref b5])))
    have k7 := y8 _ _ (upd_same (H := upd (upd (upd H3 b4 (.tup [V.int 1, .int 0, .int 2])) b5 (.tup [V.int 0, .int 0])) b6 (.tup [V.ref b4, .ref b5])) (a := b7) (o := .lst [V.ref b3, .ref b6]))
    have rv : R _ (.ref b7) (.list (othV.map dD)) := .lst k7 (.cons r1 (.cons (.tup k6 (.cons (.tup k4 (rall_n [1, 0, 2])) (.cons (.tup k5 (rall_n [0, 0])) .nil))) .nil))
    have k8 := upd_same (H := upd (upd (upd (upd H3 b4 (.tup [V.int 1, .int 0, .int 2])) b5 (.tup [V.int 0, .int 0])) b6 (.tup [V.ref b4, .ref b5])) b7 (.lst [V.ref b3, .ref b6])) (a := p) (o := .tup [V.ref mA, .ref cA, .ref b7])
    have hm3 := hm2.ex y18
    have cn3 := cn.ex y18
    have e03 := e02.tr y18
    refine ⟨p, _, rfl, SqT.of k8, rfl, _, _, rfl, _, _, rfl, _, _, rfl, rfl, ?_⟩
    generalize upd (upd (upd (upd (upd H3 b4 (.tup [V.int 1, .int 0, .int 2])) b5 (.tup [V.int 0, .int 0])) b6 (.tup [V.ref b4, .ref b5])) b7 (.lst [V.ref b3, .ref b6])) p (.tup [V.ref mA, .ref cA, .ref b7]) = H4 at rv hm3 cn3 e03
    refine ⟨by show 3 ≤ sizeLine; decide, fun q' hq' => ?_⟩
    refine ⟨q', rfl, ⟨_, SqT.of upd_same⟩, fun D hD => ?_⟩
    have z1 := Ex.new (o := .tup [V.int 0, .int 1, .int 2]) hq'
    refine lc_map walk_tup hD [.bool false, .bool false, .bool true] rfl (by show 3 ≤ sizeLine; decide) rfl (fun H' e => SqT.of (e _ _ upd_same)) ?_ ?_
    · rintro i x H5 H5' d Post hi e5 ⟨rfl, hx⟩ hd kk
      have z2 := z1.tr e5
      obtain ⟨f, rfl, hf, rfl⟩ : ∃ f : Nat, x = .int (f : Nat) ∧ f < 3 ∧ d = .bool (decide (f = 2)) := by
        obtain rfl | rfl | rfl : i = 0 ∨ i = 1 ∨ i = 2 := by have : i < 3 := hi; omega
        · cases hx; cases hd; exact ⟨0, rfl, by decide, rfl⟩
        · cases hx; cases hd; exact ⟨1, rfl, by decide, rfl⟩
        · cases hx; cases hd; exact ⟨2, rfl, by decide, rfl⟩
      obtain ⟨a1, a2, a3⟩ := oth_ans hf
      have gd : GoodF othT [1, 1] [0, 0] (.int (f : Nat)) f := ⟨rfl, hf, rfl, ⟨by decide, by decide⟩, a2⟩
      refine ⟨rfl, _, rfl, _, rfl, _, rfl, _, rfl, rfl, rfl, mA, .int (f : Nat), cA, .ref b7, .int (f : Nat), _, othT, [1, 1], [0, 0], 9, 9, rfl, by decide, by decide, need_good (hm3.ex z2) oth_ok (cn3.ex z2) (by decide) gd, rv.ex z2, by decide +kernel, fun f' g => ?_⟩
      have ef : f' = f := by have := g.d; injection this with z; omega
      subst ef
      refine ⟨a1, fun _ H' e => ?_, fun h => absurd a1 (by omega)⟩
      rw [a3]
      exact kk _ _ e (.bl _)
    · intro acc H5 e5 hD5 r5
      refine ⟨by show 3 ≤ sizeLine; decide, fun l hl => ?_⟩
      have z3 := Ex.new (o := .lst [V.bl false, .bl false, .bl true]) hl
      exact ⟨.list [.bool false, .bool false, .bool true], .list [.bool false, .bool false, .bool true], R.dp _ _ (.lst (z3 _ _ hD5) (r5.ex z3)), R.dp _ _ (.lst upd_same (.cons (.bl _) (.cons (.bl _) (.cons (.bl _) .nil)))), by decide +kernel, by decide +kernel, q _ (e03.tr (z1.tr (e5.tr z3)))⟩
end
end Onew
end
section
set_option maxRecDepth 100000
set_option maxHeartbeats 4000000
namespace Onew
open Mx (Tab im Rch rl rowF forgF doneOn Fm nextD nextP behind z3 TbOk Perm1)
/-! ### how many doings there are -/
theorem flat_le {α β : Type} {g : α → List β} {k : Nat} : ∀ {l : List α}, (∀ c ∈ l, (g c).length ≤ k) → (l.flatMap g).length ≤ l.length * k
  | [], _ => by simp
  | c :: l, h => by
    rw [List.flatMap_cons, List.length_append, List.length_cons, Nat.succ_mul]
    have h1 := h c (by simp)
    have h2 := flat_le (l := l) fun x hx => h x (by simp [hx])
    omega
/-- counts below ns -/
def Cn : List Nat → List Nat → Prop
  | [], [] => True
  | c :: cs, n :: ns => c < n ∧ Cn cs ns
  | _, _ => False
def cnt : List Nat → List (List Nat)
  | [] => [[]]
  | n :: ns => (List.range n).flatMap fun c => (cnt ns).map (c :: ·)
def pr : List Nat → Nat
  | [] => 1
  | n :: ns => n * pr ns
theorem mem_cnt : ∀ {cs ns : List Nat}, Cn cs ns → cs ∈ cnt ns
  | [], [], _ => by simp [cnt]
  | c :: cs, n :: ns, h => by
    unfold cnt
    exact List.mem_flatMap.mpr ⟨c, List.mem_range.mpr h.1, List.mem_map.mpr ⟨cs, mem_cnt h.2, rfl⟩⟩
theorem cnt_len : ∀ ns : List Nat, (cnt ns).length ≤ pr ns
  | [] => by simp [cnt, pr]
  | n :: ns => by
    unfold cnt pr
    have := flat_le (l := List.range n) (g := fun c => (cnt ns).map (c :: ·)) (k := pr ns) fun c _ => by rw [List.length_map]; exact cnt_len ns
    rw [List.length_range] at this
    exact this
theorem pr_le {q : Nat} : ∀ {ns : List Nat}, (∀ n ∈ ns, n ≤ q) → pr ns ≤ q ^ ns.length
  | [], _ => by simp [pr]
  | n :: ns, h => by
    unfold pr
    rw [List.length_cons, Nat.pow_succ, Nat.mul_comm]
    exact Nat.mul_le_mul (pr_le fun x hx => h x (by simp [hx])) (h n (by simp))
theorem Cn.set : ∀ {cs ns : List Nat} {k : Nat}, Cn cs ns → Cn (cs.set k ((cs.getD k 0 + 1) % ns.getD k 1)) ns
  | [], [], k, _ => by rw [List.set_nil]; exact True.intro
  | c :: cs, n :: ns, 0, h => ⟨Nat.mod_lt _ (by have := h.1; show 0 < n; omega), h.2⟩
  | c :: cs, n :: ns, k + 1, h => ⟨h.1, Cn.set (k := k) h.2⟩
theorem Cn.zero : ∀ {ns : List Nat}, 0 ∉ ns → Cn (List.replicate ns.length 0) ns
  | [], _ => trivial
  | n :: ns, h => by
    rw [List.length_cons, List.replicate_succ]
    exact ⟨by have : n ≠ 0 := fun z => h (by simp [z]); omega, Cn.zero fun z => h (by simp [z])⟩
/-- words over S, each letter once -/
def wd : Nat → List Nat → List (List Nat)
  | 0, _ => [[]]
  | k + 1, S => S.flatMap fun s => (wd k (S.erase s)).map (s :: ·)
def fac : Nat → Nat
  | 0 => 1
  | k + 1 => (k + 1) * fac k
theorem mem_wd : ∀ {k : Nat} {l S : List Nat}, S.length = k → l.Perm S → l ∈ wd k S
  | 0, l, S, hk, h => by
    have e : l = [] := List.eq_nil_of_length_eq_zero (by rw [h.length_eq, hk])
    rw [e]; simp [wd]
  | k + 1, [], S, hk, h => by have := h.length_eq; rw [hk] at this; cases this
  | k + 1, s :: l, S, hk, h => by
    obtain ⟨hm, hp⟩ := List.cons_perm_iff_perm_erase.mp h
    unfold wd
    exact List.mem_flatMap.mpr ⟨s, hm, List.mem_map.mpr ⟨l, mem_wd (by rw [List.length_erase_of_mem hm, hk]; rfl) hp, rfl⟩⟩
theorem wd_len : ∀ {k : Nat} {S : List Nat}, S.length = k → (wd k S).length ≤ fac k
  | 0, _, _ => by simp [wd, fac]
  | k + 1, S, hk => by
    unfold wd fac
    have := flat_le (l := S) (g := fun s => (wd k (S.erase s)).map (s :: ·)) (k := fac k) fun s hs => by
      rw [List.length_map]
      exact wd_len (by rw [List.length_erase_of_mem hs, hk]; rfl)
    rw [hk] at this
    exact this
structure Good (ts : Tab) (ns : List Nat) : Prop where
  tb : TbOk ts
  len : ns.length = ts.length
  rng : ∀ n ∈ ns, 1 ≤ n ∧ n ≤ 3
  two : 3 < (rl ts 0).length ∨ 2 < ts.length → ∀ n ∈ ns, n ≤ 2
section
variable {ts : Tab} {ns : List Nat}
theorem Good.z (g : Good ts ns) : 0 ∉ ns := fun h => by have := g.rng 0 h; omega
theorem Good.f0 (g : Good ts ns) : 0 < Mx.mst ts := g.tb.ok.m1
theorem sub_m {m : Nat} (ok : Mx.Ok ts) (hm : 1 ≤ m) (hp : ∀ t ∈ ts, Perm1 m t) (h0 : 0 < Mx.mst ts) : ∀ s ∈ rl ts 0, s < m := fun s hs => by
  have r := (Mx.mem_rl ok h0).mp hs
  clear hs
  induction r with
  | base => exact hm
  | step r ht ih => exact (hp _ ht).lt _ ih
theorem perm_step {S l : List Nat} {g : Nat → Nat} (hS : S.Nodup) (hl : l.Perm S) (hi : ∀ x ∈ S, ∀ y ∈ S, g x = g y → x = y) (hc : ∀ x ∈ S, g x ∈ S) : (l.map g).Perm S := by
  have nd : (l.map g).Nodup := by
    have hn : l.Nodup := hl.nodup_iff.mpr hS
    unfold List.Nodup at hn ⊢
    rw [List.pairwise_map]
    exact hn.imp_of_mem fun ha hb h e => h (hi _ (hl.mem_iff.mp ha) _ (hl.mem_iff.mp hb) e)
  have sub : ∀ x ∈ l.map g, x ∈ S := fun x hx => by
    obtain ⟨y, hy, rfl⟩ := List.mem_map.mp hx
    exact hc y (hl.mem_iff.mp hy)
  have all := Mx.sub_of_len nd sub (by rw [List.length_map, hl.length_eq]; exact Nat.le_refl _) hS
  exact (List.perm_ext_iff_of_nodup nd hS).mpr fun a => ⟨sub a, all a⟩
/-- rows are one to one on the states that come -/
theorem Good.inj (g : Good ts ns) : ∀ t ∈ ts, ∀ x ∈ rl ts 0, ∀ y ∈ rl ts 0, im t x = im t y → x = y := by
  obtain ⟨m, m1, mm, hp, _⟩ := g.tb.sh
  have sm := sub_m g.tb.ok m1 hp g.f0
  exact fun t ht x hx y hy e => (hp t ht).inj x (sm x hx) y (sm y hy) e
theorem Good.keep (g : Good ts ns) : forgF 0 (rl ts 0) ts = none := by
  rw [Mx.forgF_none]
  intro row hr
  rw [Mx.rowF_none]
  have nd := Mx.nodup_asc (Mx.rl_sorted ts 0)
  exact nd.imp_of_mem fun ha hb h e => h (g.inj row hr _ ha _ hb e)
theorem Good.perm (g : Good ts ns) {N : Nat} : ∀ x ∈ doings ts ns 0 N, x.1.Perm (rl ts 0) ∧ Cn x.2 ns := by
  refine Mx.run_all (P := fun x : Doing => x.1.Perm (rl ts 0) ∧ Cn x.2 ns) (fun x hx y hy => ?_) fun x hx => ?_
  · obtain ⟨k, hk, rfl⟩ := List.mem_map.mp hy
    have hk' := List.mem_range.mp hk
    have e : ts.getD k [] ∈ ts := by rw [List.getD_eq_getElem?_getD, List.getElem?_eq_getElem hk']; exact List.getElem_mem _
    exact ⟨perm_step (Mx.nodup_asc (Mx.rl_sorted ts 0)) hx.1 (g.inj _ e) fun s hs => Mx.rl_im g.tb.ok g.f0 hs e, hx.2.set⟩
  · rw [List.mem_singleton.mp hx]
    exact ⟨List.Perm.refl _, by show Cn (List.replicate ts.length 0) ns; rw [← g.len]; exact Cn.zero g.z⟩
/-! the sign -/
def sg : List Nat → Bool
  | [] => false
  | a :: l => xor ((l.filter fun b => decide (b < a)).length % 2 == 1) (sg l)
def gS : Tab → List Nat → Bool
  | t :: ts, c :: cs => xor (c == 1 && sg t) (gS ts cs)
  | _, _ => false
theorem gS_set : ∀ {ts : Tab} {cs ns : List Nat} {k : Nat}, Cn cs ns → (∀ n ∈ ns, n = 2) → ts.length = ns.length → k < ts.length → gS ts (cs.set k ((cs.getD k 0 + 1) % ns.getD k 1)) = xor (sg (ts.getD k [])) (gS ts cs)
  | t :: ts, c :: cs, n :: ns, 0, h, h2, hl, hk => by
    have e : n = 2 := h2 n (by simp)
    subst e
    have hc := h.1
    obtain rfl | rfl : c = 0 ∨ c = 1 := by omega
    · show xor (((0 + 1) % 2 == 1) && sg t) (gS ts cs) = xor (sg t) (xor ((0 == 1) && sg t) (gS ts cs))
      cases sg t <;> cases gS ts cs <;> rfl
    · show xor (((1 + 1) % 2 == 1) && sg t) (gS ts cs) = xor (sg t) (xor ((1 == 1) && sg t) (gS ts cs))
      cases sg t <;> cases gS ts cs <;> rfl
  | t :: ts, c :: cs, n :: ns, k + 1, h, h2, hl, hk => by
    have ih := gS_set (ts := ts) (k := k) h.2 (fun x hx => h2 x (by simp [hx])) (by simpa using hl) (by simpa using hk)
    show xor (c == 1 && sg t) (gS ts (cs.set k ((cs.getD k 0 + 1) % ns.getD k 1))) = xor (sg (ts.getD k [])) (xor (c == 1 && sg t) (gS ts cs))
    rw [ih]
    cases sg (ts.getD k []) <;> cases (c == 1 && sg t) <;> cases gS ts cs <;> rfl
  | [], _, _, _, _, _, _, hk => absurd hk (by simp)
  | t :: ts, [], n :: ns, k, h, _, _, _ => h.elim
theorem gS_zero : ∀ (ts : Tab) (n : Nat), gS ts (List.replicate n 0) = false
  | [], n => by cases n <;> rfl
  | t :: ts, 0 => rfl
  | t :: ts, n + 1 => by
    rw [List.replicate_succ]
    show xor ((0 : Nat) == 1 && sg t) (gS ts (List.replicate n 0)) = false
    rw [gS_zero ts n]; rfl
theorem sg3 : ∀ t ∈ wd 3 [0, 1, 2], ∀ l ∈ wd 3 [0, 1, 2], sg (l.map (im t)) = xor (sg t) (sg l) := by decide +kernel
theorem sg4 : ∀ t ∈ wd 4 [0, 1, 2, 3], ∀ l ∈ wd 4 [0, 1, 2, 3], sg (l.map (im t)) = xor (sg t) (sg l) := by decide +kernel
theorem half3 (b : Bool) : ((wd 3 [0, 1, 2]).filter fun l => sg l == b).length ≤ 3 := by cases b <;> decide +kernel
theorem half4 (b : Bool) : ((wd 4 [0, 1, 2, 3]).filter fun l => sg l == b).length ≤ 12 := by cases b <;> decide +kernel
theorem Good.sign (g : Good ts ns) {r h N : Nat} (hS : rl ts 0 = List.range r) (h2 : ∀ n ∈ ns, n = 2) (hsg : ∀ t ∈ wd r (List.range r), ∀ l ∈ wd r (List.range r), sg (l.map (im t)) = xor (sg t) (sg l)) (h0 : sg (List.range r) = false)
    (half : ∀ b : Bool, ((wd r (List.range r)).filter fun l => sg l == b).length ≤ h) : (doings ts ns 0 N).length ≤ pr ns * h := by
  have at_ : ∀ t ∈ ts, (rl ts 0).map (im t) ∈ wd r (List.range r) := fun t ht => by
    refine mem_wd (List.length_range ..) ?_
    rw [← hS]
    exact perm_step (Mx.nodup_asc (Mx.rl_sorted ts 0)) (List.Perm.refl _) (g.inj _ ht) fun s hs => Mx.rl_im g.tb.ok g.f0 hs ht
  have im_ : ∀ t : List Nat, ∀ s < r, im ((rl ts 0).map (im t)) s = im t s := fun t s hs => by
    rw [hS]
    show ((List.range r).map (im t)).getD s 0 = im t s
    rw [List.getD_eq_getElem?_getD, List.getElem?_map, List.getElem?_range hs]; rfl
  have inv : ∀ x ∈ doings ts ns 0 N, (x.1.Perm (rl ts 0) ∧ Cn x.2 ns) ∧ sg x.1 = gS (ts.map fun t => (rl ts 0).map (im t)) x.2 := by
    refine Mx.run_all (P := fun x : Doing => (x.1.Perm (rl ts 0) ∧ Cn x.2 ns) ∧ sg x.1 = gS (ts.map fun t => (rl ts 0).map (im t)) x.2) (fun x hx y hy => ?_) fun x hx => ?_
    · obtain ⟨k, hk, rfl⟩ := List.mem_map.mp hy
      have hk' := List.mem_range.mp hk
      have e : ts.getD k [] ∈ ts := by rw [List.getD_eq_getElem?_getD, List.getElem?_eq_getElem hk']; exact List.getElem_mem _
      refine ⟨⟨perm_step (Mx.nodup_asc (Mx.rl_sorted ts 0)) hx.1.1 (g.inj _ e) fun s hs => Mx.rl_im g.tb.ok g.f0 hs e, hx.1.2.set⟩, ?_⟩
      have hx1 : x.1 ∈ wd r (List.range r) := mem_wd (List.length_range ..) (by rw [← hS]; exact hx.1.1)
      have e1 : (doneOn ts ns x k).1 = x.1.map (im ((rl ts 0).map (im (ts.getD k [])))) := by
        unfold doneOn
        refine List.map_congr_left fun s hs => (im_ _ s ?_).symm
        have := hx.1.1.mem_iff.mp hs
        rw [hS] at this
        exact List.mem_range.mp this
      rw [e1, hsg _ (at_ _ e) _ hx1]
      show _ = gS _ (x.2.set k ((x.2.getD k 0 + 1) % ns.getD k 1))
      rw [gS_set hx.1.2 h2 (by rw [List.length_map]; exact g.len.symm) (by rw [List.length_map]; exact hk'), hx.2]
      have ek : (ts.map fun t => (rl ts 0).map (im t)).getD k [] = (rl ts 0).map (im (ts.getD k [])) := by
        rw [List.getD_eq_getElem?_getD (l := ts.map _), List.getElem?_map, List.getD_eq_getElem?_getD, List.getElem?_eq_getElem hk']; rfl
      rw [ek]
    · rw [List.mem_singleton.mp hx]
      refine ⟨⟨List.Perm.refl _, by show Cn (List.replicate ts.length 0) ns; rw [← g.len]; exact Cn.zero g.z⟩, ?_⟩
      show sg (rl ts 0) = gS _ (List.replicate ts.length 0)
      rw [gS_zero, hS, h0]
  refine Nat.le_trans (Mx.len_le_of_sub (b := (cnt ns).flatMap fun c => ((wd r (List.range r)).filter fun l => sg l == gS (ts.map fun t => (rl ts 0).map (im t)) c).map fun l => (l, c)) (Mx.run_nodup (by simp)) fun x hx => ?_) (Nat.le_trans (flat_le (k := h) fun c _ => ?_) (Nat.mul_le_mul_right _ (cnt_len ns)))
  · obtain ⟨⟨h1, h3⟩, h4⟩ := inv x hx
    refine List.mem_flatMap.mpr ⟨x.2, mem_cnt h3, List.mem_map.mpr ⟨x.1, List.mem_filter.mpr ⟨mem_wd (List.length_range ..) (by rw [← hS]; exact h1), ?_⟩, rfl⟩⟩
    rw [h4]; exact beq_self_eq_true _
  · rw [List.length_map]; exact half _
theorem Good.plain (g : Good ts ns) {N : Nat} : (doings ts ns 0 N).length ≤ pr ns * fac (rl ts 0).length := by
  refine Nat.le_trans (Mx.len_le_of_sub (b := (cnt ns).flatMap fun c => (wd (rl ts 0).length (rl ts 0)).map fun l => (l, c)) (Mx.run_nodup (by simp)) fun x hx => ?_) (Nat.le_trans (flat_le (k := fac (rl ts 0).length) fun c _ => ?_) (Nat.mul_le_mul_right _ (cnt_len ns)))
  · obtain ⟨h1, h3⟩ := g.perm x hx
    exact List.mem_flatMap.mpr ⟨x.2, mem_cnt h3, List.mem_map.mpr ⟨x.1, mem_wd rfl h1, rfl⟩⟩
  · rw [List.length_map]; exact wd_len rfl
theorem Good.turns (g : Good ts ns) {N m : Nat} (hr : ∀ t ∈ ts, ∃ b, ∀ s < m, im t s = (s + b) % m) (hm : 1 ≤ m) (hsm : ∀ s ∈ rl ts 0, s < m) : (doings ts ns 0 N).length ≤ pr ns * m := by
  have inv : ∀ x ∈ doings ts ns 0 N, Cn x.2 ns ∧ ∃ b, b < m ∧ x.1 = (rl ts 0).map fun s => (s + b) % m := by
    refine Mx.run_all (P := fun x : Doing => Cn x.2 ns ∧ ∃ b, b < m ∧ x.1 = (rl ts 0).map fun s => (s + b) % m) (fun x hx y hy => ?_) fun x hx => ?_
    · obtain ⟨k, hk, rfl⟩ := List.mem_map.mp hy
      have hk' := List.mem_range.mp hk
      have e : ts.getD k [] ∈ ts := by rw [List.getD_eq_getElem?_getD, List.getElem?_eq_getElem hk']; exact List.getElem_mem _
      obtain ⟨c, b, hb, ex⟩ := hx
      obtain ⟨b', hb'⟩ := hr _ e
      refine ⟨c.set, (b + b') % m, Nat.mod_lt _ hm, ?_⟩
      unfold doneOn
      rw [ex, List.map_map]
      refine List.map_congr_left fun s hs => ?_
      show im _ ((s + b) % m) = (s + (b + b') % m) % m
      rw [hb' _ (Nat.mod_lt _ hm), Nat.mod_add_mod, Nat.add_mod_mod, Nat.add_assoc]
    · rw [List.mem_singleton.mp hx]
      refine ⟨by show Cn (List.replicate ts.length 0) ns; rw [← g.len]; exact Cn.zero g.z, 0, hm, ?_⟩
      show rl ts 0 = _
      conv => lhs; rw [← List.map_id (rl ts 0)]
      refine List.map_congr_left fun s hs => ?_
      rw [Nat.add_zero, Nat.mod_eq_of_lt (hsm s hs)]; rfl
  refine Nat.le_trans (Mx.len_le_of_sub (b := (cnt ns).flatMap fun c => (List.range m).map fun b => (((rl ts 0).map fun s => (s + b) % m), c)) (Mx.run_nodup (by simp)) fun x hx => ?_) (Nat.le_trans (flat_le (k := m) fun c _ => ?_) (Nat.mul_le_mul_right _ (cnt_len ns)))
  · obtain ⟨h3, b, hb, e⟩ := inv x hx
    exact List.mem_flatMap.mpr ⟨x.2, mem_cnt h3, List.mem_map.mpr ⟨b, List.mem_range.mpr hb, Prod.ext e.symm rfl⟩⟩
  · rw [List.length_map, List.length_range]; exact Nat.le_refl _
theorem pr_two : ∀ {ns : List Nat}, (∀ n ∈ ns, 1 ≤ n ∧ n ≤ 2) → (∀ n ∈ ns, n = 2) ∨ pr ns * 2 ≤ 2 ^ ns.length
  | [], _ => .inl fun n h => absurd h (by simp)
  | n :: ns, h => by
    have hn := h n (by simp)
    have hp := pr_le (q := 2) (ns := ns) fun x hx => (h x (by simp [hx])).2
    rw [List.length_cons, Nat.pow_succ]
    rcases pr_two (ns := ns) fun x hx => h x (by simp [hx]) with i | i
    · obtain e | e : n = 1 ∨ n = 2 := by omega
      · right; rw [e]; unfold pr; omega
      · left; intro x hx
        rcases List.mem_cons.mp hx with z | z
        · rw [z, e]
        · exact i x z
    · right
      unfold pr
      have : n * pr ns ≤ 2 * pr ns := Nat.mul_le_mul_right _ hn.2
      omega
theorem Good.le54 (g : Good ts ns) {N : Nat} : (doings ts ns 0 N).length ≤ 54 := by
  obtain ⟨m, m1, mm, hp, hc⟩ := g.tb.sh
  have hl := g.len
  have l4 := g.tb.ok.l4
  have sm := sub_m g.tb.ok m1 hp g.f0
  have nd := Mx.nodup_asc (Mx.rl_sorted ts 0)
  have lm : (rl ts 0).length ≤ m := by
    have := Mx.len_le_of_sub (b := List.range m) nd fun x hx => List.mem_range.mpr (sm x hx)
    rwa [List.length_range] at this
  have eqr : (rl ts 0).length = m → rl ts 0 = List.range m := fun e => Mx.asc_len_eq (Mx.rl_sorted ts 0) List.pairwise_lt_range (fun x hx => List.mem_range.mpr (sm x hx)) (by rw [List.length_range, e]; exact Nat.le_refl _)
  have pl := g.plain (N := N)
  have l1 : 1 ≤ (rl ts 0).length := List.length_pos_iff.mpr fun z => by have := Mx.rl_first g.tb.ok g.f0; rw [z] at this; cases this
  have facs : ∀ {r : Nat}, 1 ≤ r → r ≤ 3 → fac r ≤ 6 := fun {r} a b => by
    obtain rfl | rfl | rfl : r = 1 ∨ r = 2 ∨ r = 3 := by omega
    all_goals decide
  by_cases hd : 2 < ts.length
  · have n2 := g.two (.inr hd)
    have m3 : m ≤ 3 := by rcases hc with h | h | h; omega; exact h; omega
    have p16 : pr ns ≤ 2 ^ ns.length := pr_le n2
    by_cases r3 : (rl ts 0).length = 3
    · have e3 : m = 3 := by omega
      subst e3
      have hS := eqr r3
      rcases pr_two (ns := ns) fun n hn => ⟨(g.rng n hn).1, n2 n hn⟩ with h2 | h2
      · have := g.sign (N := N) (r := 3) (h := 3) hS h2 sg3 (by decide) half3
        obtain e | e : ns.length = 3 ∨ ns.length = 4 := by omega
        · rw [e] at p16; have : pr ns ≤ 8 := p16; omega
        · rw [e] at p16; have : pr ns ≤ 16 := p16; omega
      · rw [r3] at pl
        have pl : _ ≤ pr ns * 6 := pl
        obtain e | e : ns.length = 3 ∨ ns.length = 4 := by omega
        · rw [e] at h2; have : pr ns * 2 ≤ 8 := h2; omega
        · rw [e] at h2; have : pr ns * 2 ≤ 16 := h2; omega
    · have f2 : fac (rl ts 0).length ≤ 2 := by
        obtain e | e : (rl ts 0).length = 1 ∨ (rl ts 0).length = 2 := by omega
        · rw [e]; decide
        · rw [e]; decide
      have := Nat.mul_le_mul_left (pr ns) f2
      obtain e | e : ns.length = 3 ∨ ns.length = 4 := by omega
      · rw [e] at p16; have : pr ns ≤ 8 := p16; omega
      · rw [e] at p16; have : pr ns ≤ 16 := p16; omega
  · by_cases r3 : (rl ts 0).length ≤ 3
    · have p9 : pr ns ≤ 3 ^ ns.length := pr_le fun n hn => (g.rng n hn).2
      have := Nat.mul_le_mul_left (pr ns) (facs l1 r3)
      obtain e | e | e : ns.length = 0 ∨ ns.length = 1 ∨ ns.length = 2 := by omega
      · rw [e] at p9; have : pr ns ≤ 1 := p9; omega
      · rw [e] at p9; have : pr ns ≤ 3 := p9; omega
      · rw [e] at p9; have : pr ns ≤ 9 := p9; omega
    · have n2 := g.two (.inl (by omega))
      have p4 : pr ns ≤ 2 ^ ns.length := pr_le n2
      have p4' : pr ns ≤ 4 := by
        obtain e | e | e : ns.length = 0 ∨ ns.length = 1 ∨ ns.length = 2 := by omega
        · rw [e] at p4; have : pr ns ≤ 1 := p4; omega
        · rw [e] at p4; have : pr ns ≤ 2 := p4; omega
        · rw [e] at p4; exact p4
      rcases hc with h | h | h
      · have e4 : m = 4 := by omega
        subst e4
        have r4 : (rl ts 0).length = 4 := by omega
        have hS := eqr r4
        rw [r4] at pl
        have pl : _ ≤ pr ns * 24 := pl
        rcases pr_two (ns := ns) fun n hn => ⟨(g.rng n hn).1, n2 n hn⟩ with h2 | h2
        · have := g.sign (N := N) (r := 4) (h := 12) hS h2 sg4 (by decide) half4
          omega
        · obtain e | e | e : ns.length = 0 ∨ ns.length = 1 ∨ ns.length = 2 := by omega
          · rw [e] at h2; have : pr ns * 2 ≤ 1 := h2; omega
          · rw [e] at h2; have : pr ns * 2 ≤ 2 := h2; omega
          · rw [e] at h2; have : pr ns * 2 ≤ 4 := h2; omega
      · omega
      · have mm8 := g.tb.ok.m8
        have := g.turns (N := N) h.2 m1 sm
        have : pr ns * m ≤ 4 * 8 := Nat.mul_le_mul p4' (by omega)
        omega
end
end Onew
end
section
set_option maxRecDepth 100000
set_option maxHeartbeats 4000000
namespace Onew
open PySem PySem.Spec PyProof.Rows L2 G
open Mx (Tab im Rch rl rowF forgF doneOn Fm nextD nextP behind z3 TbOk Perm1)
/-! ### groups of doings -/
theorem z3_set : ∀ {as bs ns : List Nat} {k : Nat}, z3 as (bs.set k ((bs.getD k 0 + 1) % ns.getD k 1)) ns = (z3 as bs ns).set k (((z3 as bs ns).getD k 0 + 1) % ns.getD k 1)
  | [], bs, ns, k => rfl
  | a :: as, [], ns, k => by
    rw [List.set_nil]
    show ([] : List Nat) = ([] : List Nat).set _ _
    rw [List.set_nil]
  | a :: as, b :: bs, [], 0 => rfl
  | a :: as, b :: bs, [], k + 1 => rfl
  | a :: as, b :: bs, n :: ns, 0 => by
    show (a + (b + 1) % n) % n :: z3 as bs ns = ((a + b) % n + 1) % n :: z3 as bs ns
    rw [Nat.add_mod_mod, Nat.mod_add_mod, Nat.add_assoc]
  | a :: as, b :: bs, n :: ns, k + 1 => by
    show (a + b) % n :: z3 as (bs.set k ((bs.getD k 0 + 1) % ns.getD k 1)) ns = (a + b) % n :: (z3 as bs ns).set k (((z3 as bs ns).getD k 0 + 1) % ns.getD k 1)
    rw [z3_set]
theorem z3_zero : ∀ {as ns : List Nat}, Cn as ns → z3 as (List.replicate ns.length 0) ns = as
  | [], [], _ => rfl
  | a :: as, n :: ns, h => by
    rw [List.length_cons, List.replicate_succ]
    show (a + 0) % n :: z3 as (List.replicate ns.length 0) ns = _
    rw [z3_zero h.2, Nat.add_zero, Nat.mod_eq_of_lt h.1]
structure Wit (ts ws : Tab) (many st : Nat) : Prop where
  len : ws.length = ts.length
  ok : Mx.Ok ws
  m : Mx.mst ws = many + 1
  p : ∀ t ∈ ws, Perm1 many t
  s : st < many
  m4 : many ≤ 4
section
variable {ts ws : Tab} {ns : List Nat} {many st : Nat}
/-- as a doing of these tables is -/
structure Dg (ts : Tab) (ns : List Nat) (x : Doing) : Prop where
  p : x.1.Perm (rl ts 0)
  c : Cn x.2 ns
theorem Cn.len : ∀ {a b : List Nat}, Cn a b → a.length = b.length
  | [], [], _ => rfl
  | a :: as, b :: bs, h => by rw [List.length_cons, List.length_cons, Cn.len h.2]
theorem Dg.fd {x : Doing} (h : Dg ts ns x) : Fd (rl ts 0) ns x := ⟨h.p.length_eq, fun z hz => h.p.mem_iff.mp hz, h.c.len⟩
theorem beh_done {S : List Nat} {x y : Doing} {k : Nat} (hx : ∀ z ∈ x.1, z ∈ S) (hy : y.1.length = S.length) : behind S ns x (doneOn ts ns y k) = doneOn ts ns (behind S ns x y) k := by
  refine Prod.ext ?_ z3_set
  show x.1.map (fun s => (y.1.map (im (ts.getD k []))).getD (S.idxOf s) 0) = (x.1.map fun s => y.1.getD (S.idxOf s) 0).map (im (ts.getD k []))
  rw [List.map_map]
  refine List.map_congr_left fun s hs => ?_
  have hlt : S.idxOf s < y.1.length := by rw [hy]; exact List.idxOf_lt_length_of_mem (hx s hs)
  show (y.1.map (im (ts.getD k []))).getD (S.idxOf s) 0 = im (ts.getD k []) (y.1.getD (S.idxOf s) 0)
  rw [List.getD_eq_getElem?_getD (l := y.1.map _), List.getElem?_map, List.getD_eq_getElem?_getD (l := y.1), List.getElem?_eq_getElem hlt]; rfl
theorem beh_no (g : Good ts ns) {x : Doing} (h : Dg ts ns x) : behind (rl ts 0) ns x (nothing ts 0) = x := by
  refine Prod.ext ?_ ?_
  · show x.1.map (fun s => (rl ts 0).getD ((rl ts 0).idxOf s) 0) = x.1
    conv => rhs; rw [← List.map_id x.1]
    refine List.map_congr_left fun s hs => ?_
    have hm := h.p.mem_iff.mp hs
    rw [List.getD_eq_getElem?_getD, List.getElem?_eq_getElem (List.idxOf_lt_length_of_mem hm), Option.getD_some, List.getElem_idxOf]; rfl
  · show z3 x.2 (List.replicate ts.length 0) ns = x.2
    rw [← g.len]
    exact z3_zero h.c
theorem getD_mem {ts : Tab} {k : Nat} (h : k < ts.length) : ts.getD k [] ∈ ts := by rw [List.getD_eq_getElem?_getD, List.getElem?_eq_getElem h]; exact List.getElem_mem _
theorem Good.dg (g : Good ts ns) {N : Nat} {x : Doing} (h : x ∈ doings ts ns 0 N) : Dg ts ns x := ⟨(g.perm x h).1, (g.perm x h).2⟩
theorem Good.dgNo (g : Good ts ns) : Dg ts ns (nothing ts 0) := ⟨List.Perm.refl _, by show Cn (List.replicate ts.length 0) ns; rw [← g.len]; exact Cn.zero g.z⟩
theorem Dg.done (g : Good ts ns) {x : Doing} (h : Dg ts ns x) {k : Nat} (hk : k < ts.length) : Dg ts ns (doneOn ts ns x k) :=
  ⟨perm_step (Mx.nodup_asc (Mx.rl_sorted ts 0)) h.p (g.inj _ (getD_mem hk)) fun s hs => Mx.rl_im g.tb.ok g.f0 hs (getD_mem hk), h.c.set⟩
theorem Good.no_mem (g : Good ts ns) {N : Nat} : nothing ts 0 ∈ doings ts ns 0 N := (Mx.run_pre (succ := nextD ts ns) N [nothing ts 0] 0).subset (by simp)
theorem Good.step (g : Good ts ns) {N : Nat} (hN : 54 ≤ N) {x : Doing} (h : x ∈ doings ts ns 0 N) {k : Nat} (hk : k < ts.length) : doneOn ts ns x k ∈ doings ts ns 0 N := by
  obtain ⟨j, hj⟩ := List.getElem?_of_mem h
  exact Mx.run_closed (by have h54 : (Mx.run (nextD ts ns) N [nothing ts 0] 0).length ≤ 54 := g.le54; omega) (Nat.zero_le j) hj _ (List.mem_map.mpr ⟨k, List.mem_range.mpr hk, rfl⟩)
/-- one behind another is a doing -/
theorem Good.beh (g : Good ts ns) {N : Nat} (hN : 54 ≤ N) {x : Doing} (hx : x ∈ doings ts ns 0 N) {y : Doing} (hy : y ∈ doings ts ns 0 N) : behind (rl ts 0) ns x y ∈ doings ts ns 0 N := by
  have dx := g.dg hx
  have all : ∀ y ∈ doings ts ns 0 N, Dg ts ns y ∧ behind (rl ts 0) ns x y ∈ doings ts ns 0 N := by
    refine Mx.run_all (P := fun y : Doing => Dg ts ns y ∧ behind (rl ts 0) ns x y ∈ doings ts ns 0 N) (fun y hy z hz => ?_) fun y hy => ?_
    · obtain ⟨k, hk, rfl⟩ := List.mem_map.mp hz
      have hk' := List.mem_range.mp hk
      refine ⟨hy.1.done g hk', ?_⟩
      rw [beh_done dx.fd.s hy.1.fd.l]
      exact g.step hN hy.2 hk'
    · rw [List.mem_singleton.mp hy]
      exact ⟨g.dgNo, by rw [beh_no g dx]; exact hx⟩
  exact (all y hy).2
/-- the group that some make -/
theorem Good.made (g : Good ts ns) {N M : Nat} (hN : 54 ≤ N) {sm : List Doing} (hs : ∀ x ∈ sm, x ∈ doings ts ns 0 N) : (∀ x ∈ madeL (rl ts 0) ns sm (nothing ts 0) M, x ∈ doings ts ns 0 N) ∧ (madeL (rl ts 0) ns sm (nothing ts 0) M).Nodup ∧ madeL (rl ts 0) ns sm (nothing ts 0) M ≠ [] ∧ (madeL (rl ts 0) ns sm (nothing ts 0) M).length ≤ 54 := by
  have sub : ∀ x ∈ madeL (rl ts 0) ns sm (nothing ts 0) M, x ∈ doings ts ns 0 N := by
    refine Mx.run_all (P := fun y : Doing => y ∈ doings ts ns 0 N) (fun y hy z hz => ?_) fun y hy => ?_
    · obtain ⟨k, hk, rfl⟩ := List.mem_map.mp hz
      exact g.beh hN hy (hs k hk)
    · rw [List.mem_singleton.mp hy]; exact g.no_mem
  have nd : (madeL (rl ts 0) ns sm (nothing ts 0) M).Nodup := Mx.run_nodup (by simp)
  refine ⟨sub, nd, fun z => ?_, Nat.le_trans (Mx.len_le_of_sub nd sub) g.le54⟩
  have := (Mx.run_pre (succ := fun x => sm.map (behind (rl ts 0) ns x)) M [nothing ts 0] 0).subset (List.mem_singleton.mpr rfl)
  rw [show Mx.run (fun x => sm.map (behind (rl ts 0) ns x)) M [nothing ts 0] 0 = [] from z] at this
  cases this
theorem Dg.few (g : Good ts ns) {x : Doing} (h : Dg ts ns x) : 1 ≤ x.1.length ∧ x.1.length ≤ 8 ∧ x.2.length ≤ 4 := by
  refine ⟨?_, ?_, ?_⟩
  · rw [h.p.length_eq]
    exact List.length_pos_iff.mpr fun z => by have := Mx.rl_first g.tb.ok g.f0; rw [z] at this; cases this
  · rw [h.p.length_eq]
    exact Nat.le_trans (Mx.rl_len g.tb.ok g.f0) g.tb.ok.m8
  · rw [h.c.len, g.len]; exact g.tb.ok.l4
/-! walked with a witness -/
theorem prs_all (g : Good ts ns) (w : Wit ts ws many st) {N M : Nat} (hN : 54 ≤ N) : ∀ z ∈ pairs ts ns ws 0 st M, z.1 ∈ doings ts ns 0 N ∧ z.2 < many := by
  refine Mx.run_all (P := fun z : Doing × Nat => z.1 ∈ doings ts ns 0 N ∧ z.2 < many) (fun z hz y hy => ?_) fun z hz => ?_
  · obtain ⟨k, hk, rfl⟩ := List.mem_map.mp hy
    have hk' := List.mem_range.mp hk
    exact ⟨g.step hN hz.1 hk', (w.p _ (getD_mem (by rw [w.len]; exact hk'))).lt _ hz.2⟩
  · rw [List.mem_singleton.mp hz]; exact ⟨g.no_mem, w.s⟩
theorem prs_nd {M : Nat} : (pairs ts ns ws 0 st M).Nodup := Mx.run_nodup (by simp)
theorem prs_len (g : Good ts ns) (w : Wit ts ws many st) {M : Nat} : (pairs ts ns ws 0 st M).length ≤ 216 := by
  refine Nat.le_trans (Mx.len_le_of_sub (b := (doings ts ns 0 54).flatMap fun x => (List.range many).map fun s => (x, s)) prs_nd fun z hz => ?_) (Nat.le_trans (flat_le (k := 4) fun c _ => ?_) (Nat.mul_le_mul_right 4 (g.le54 (N := 54))))
  · obtain ⟨h1, h2⟩ := prs_all g w (Nat.le_refl 54) z hz
    exact List.mem_flatMap.mpr ⟨z.1, h1, List.mem_map.mpr ⟨z.2, List.mem_range.mpr h2, rfl⟩⟩
  · rw [List.length_map, List.length_range]; exact w.m4
theorem prs_no {M : Nat} : (nothing ts 0, st) ∈ pairs ts ns ws 0 st M := (Mx.run_pre (succ := nextP ts ns ws) M [(nothing ts 0, st)] 0).subset (by simp)
theorem prs_step (g : Good ts ns) (w : Wit ts ws many st) {M : Nat} (hM : 216 ≤ M) {z : Doing × Nat} (h : z ∈ pairs ts ns ws 0 st M) {k : Nat} (hk : k < ts.length) : (doneOn ts ns z.1 k, im (ws.getD k []) z.2) ∈ pairs ts ns ws 0 st M := by
  obtain ⟨j, hj⟩ := List.getElem?_of_mem h
  exact Mx.run_closed (by have h54 : (Mx.run (nextP ts ns ws) M [(nothing ts 0, st)] 0).length ≤ 216 := prs_len g w; omega) (Nat.zero_le j) hj _ (List.mem_map.mpr ⟨k, List.mem_range.mpr hk, rfl⟩)
theorem mem_kept {W : List (Doing × Nat)} {s : Nat} {x : Doing} : x ∈ keptL W s ↔ (x, s) ∈ W := by
  unfold keptL
  rw [List.mem_map]
  constructor
  · rintro ⟨z, hz, rfl⟩
    obtain ⟨h1, h2⟩ := List.mem_filter.mp hz
    have e : z.2 = s := of_decide_eq_true h2
    rw [← e]; exact h1
  · exact fun h => ⟨(x, s), List.mem_filter.mpr ⟨h, decide_eq_true rfl⟩, rfl⟩
theorem kept_nd {W : List (Doing × Nat)} {s : Nat} (h : W.Nodup) : (keptL W s).Nodup := by
  unfold keptL List.Nodup
  rw [List.pairwise_map]
  have h2 := List.Pairwise.filter (fun z : Doing × Nat => decide (z.2 = s)) h
  refine h2.imp_of_mem fun {a b} ha hb ne e => ne (Prod.ext e ?_)
  have e1 : a.2 = s := of_decide_eq_true (List.mem_filter.mp ha).2
  have e2 : b.2 = s := of_decide_eq_true (List.mem_filter.mp hb).2
  rw [e1, e2]
/-- those that lead the witness back are a group -/
theorem kept_closed (g : Good ts ns) (w : Wit ts ws many st) {M : Nat} (hM : 216 ≤ M) : Closed (rl ts 0) ns (keptL (pairs ts ns ws 0 st M) st) := fun x hx y hy => by
  rw [mem_kept] at hx hy ⊢
  have dx := g.dg (prs_all g w (Nat.le_refl 54) _ hx).1
  have all : ∀ z ∈ pairs ts ns ws 0 st M, Dg ts ns z.1 ∧ (behind (rl ts 0) ns x z.1, z.2) ∈ pairs ts ns ws 0 st M := by
    refine Mx.run_all (P := fun z : Doing × Nat => Dg ts ns z.1 ∧ (behind (rl ts 0) ns x z.1, z.2) ∈ pairs ts ns ws 0 st M) (fun z hz y hy => ?_) fun z hz => ?_
    · obtain ⟨k, hk, rfl⟩ := List.mem_map.mp hy
      have hk' := List.mem_range.mp hk
      refine ⟨hz.1.done g hk', ?_⟩
      show (behind (rl ts 0) ns x (doneOn ts ns z.1 k), im (ws.getD k []) z.2) ∈ _
      rw [beh_done dx.fd.s hz.1.fd.l]
      exact prs_step g w hM hz.2 hk'
    · rw [List.mem_singleton.mp hz]
      refine ⟨g.dgNo, ?_⟩
      show (behind (rl ts 0) ns x (nothing ts 0), st) ∈ _
      rw [beh_no g dx]; exact hx
  exact (all _ hy).2
theorem allz_rep : ∀ l : List Nat, (l.all fun n => decide (n = 0)) = true → l = List.replicate l.length 0
  | [], _ => rfl
  | n :: l, h => by
    rw [List.all_cons, Bool.and_eq_true] at h
    have e : n = 0 := of_decide_eq_true h.1
    rw [List.length_cons, List.replicate_succ, e, ← allz_rep l h.2]
/-- .. kept, if the witness tells -/
theorem kept_due (g : Good ts ns) (w : Wit ts ws many st) {N M : Nat} (hN : 54 ≤ N) (hM : 216 ≤ M) (tl : tellsP (rl ts 0) 0 (pairs ts ns ws 0 st M)) : keptD (rl ts 0) ns (doings ts ns 0 N) 0 (.tuple ((sortW (keptL (pairs ts ns ws 0 st M) st)).map dD)) = true := by
  have pm := sortW_perm (keptL (pairs ts ns ws 0 st M) st)
  rw [keptD_of rfl (fun z => ?_) (pm.nodup_iff.mpr (kept_nd prs_nd)) (fun x hx => ?_) (fun x hx y hy => ?_)]
  · rw [List.isEmpty_iff, List.filter_eq_nil_iff]
    intro x hx hm
    have hx' := mem_kept.mp (pm.mem_iff.mp hx)
    unfold movedB at hm
    rw [Bool.and_eq_true] at hm
    have ez := allz_rep x.2 hm.1
    have hl : x.2.length = ts.length := by rw [(g.dg (prs_all g w (Nat.le_refl 54) _ hx').1).c.len, g.len]
    have ek : keyOf (x, st) = keyOf (nothing ts 0, st) := by
      unfold keyOf
      show (x.2, st) = (List.replicate ts.length 0, st)
      rw [ez, hl]
    have es := tl _ hx' _ prs_no ek
    refine of_decide_eq_true hm.2 ?_
    show stOf (rl ts 0) 0 (x, st) = 0
    rw [es]
    show (rl ts 0).getD ((rl ts 0).idxOf 0) 0 = 0
    have hm := Mx.rl_first g.tb.ok g.f0
    rw [List.getD_eq_getElem?_getD, List.getElem?_eq_getElem (List.idxOf_lt_length_of_mem hm), Option.getD_some, List.getElem_idxOf]
  · have : nothing ts 0 ∈ sortW (keptL (pairs ts ns ws 0 st M) st) := pm.mem_iff.mpr (mem_kept.mpr prs_no)
    rw [z] at this; cases this
  · exact (prs_all g w hN _ (mem_kept.mp (pm.mem_iff.mp hx))).1
  · exact pm.mem_iff.mpr (kept_closed g w hM x (pm.mem_iff.mp hx) y (pm.mem_iff.mp hy))
/-! at least as many standings as doings, divided by the group's size -/
theorem doneOn_inj (g : Good ts ns) {x y : Doing} (hx : Dg ts ns x) (hy : Dg ts ns y) {k : Nat} (hk : k < ts.length) (e : doneOn ts ns x k = doneOn ts ns y k) : x = y := by
  have e1 : x.1.map (im (ts.getD k [])) = y.1.map (im (ts.getD k [])) := congrArg Prod.fst e
  have e2 : x.2.set k ((x.2.getD k 0 + 1) % ns.getD k 1) = y.2.set k ((y.2.getD k 0 + 1) % ns.getD k 1) := congrArg Prod.snd e
  refine Prod.ext ?_ ?_
  · have i := g.inj _ (getD_mem hk)
    have a := hx.fd.s
    have b := hy.fd.s
    generalize x.1 = l at e1 a
    generalize y.1 = m at e1 b
    clear e e2 hx hy
    induction l generalizing m with
    | nil => cases m with
      | nil => rfl
      | cons c m => cases e1
    | cons c l ih => cases m with
      | nil => cases e1
      | cons d m =>
        rw [List.map_cons, List.map_cons] at e1
        injection e1 with h1 h2
        rw [i c (a c (by simp)) d (b d (by simp)) h1, ih (fun z hz => a z (by simp [hz])) m h2 fun z hz => b z (by simp [hz])]
  · have a := hx.c
    have b := hy.c
    clear hk
    generalize x.2 = l at e2 a
    generalize y.2 = m at e2 b
    clear e e1 hx hy g
    induction l generalizing m ns k with
    | nil => cases ns with
      | nil => cases m with
        | nil => rfl
        | cons d m => exact b.elim
      | cons n ns => exact a.elim
    | cons c l ih => cases ns with
      | nil => exact a.elim
      | cons n ns => cases m with
        | nil => exact b.elim
        | cons d m => cases k with
          | zero =>
            have e2 : (c + 1) % n :: l = (d + 1) % n :: m := e2
            injection e2 with h1 h2
            have h1 : (c + 1) % n = (d + 1) % n := h1
            have hc := a.1
            have hd := b.1
            have ec : c = d := by
              by_cases q1 : c + 1 = n
              · by_cases q2 : d + 1 = n
                · omega
                · rw [q1, Nat.mod_self, Nat.mod_eq_of_lt (by omega)] at h1; omega
              · by_cases q2 : d + 1 = n
                · rw [q2, Nat.mod_self, Nat.mod_eq_of_lt (by omega)] at h1; omega
                · rw [Nat.mod_eq_of_lt (by omega), Nat.mod_eq_of_lt (by omega)] at h1; omega
            rw [ec, h2]
          | succ k =>
            have e2 : c :: l.set k ((l.getD k 0 + 1) % ns.getD k 1) = d :: m.set k ((m.getD k 0 + 1) % ns.getD k 1) := e2
            injection e2 with h1 h2
            rw [h1, ih a.2 m h2 b.2]
theorem fib_step (g : Good ts ns) (w : Wit ts ws many st) {M : Nat} (hM : 216 ≤ M) {k s : Nat} (hk : k < ts.length) : (keptL (pairs ts ns ws 0 st M) s).length ≤ (keptL (pairs ts ns ws 0 st M) (im (ws.getD k []) s)).length := by
  have hd : ∀ x ∈ keptL (pairs ts ns ws 0 st M) s, Dg ts ns x := fun x hx => g.dg (prs_all g w (Nat.le_refl 54) _ (mem_kept.mp hx)).1
  rw [← List.length_map (f := fun x => doneOn ts ns x k)]
  refine Mx.len_le_of_sub ?_ fun y hy => ?_
  · have nd := kept_nd (s := s) (prs_nd (ts := ts) (ws := ws) (ns := ns) (st := st) (M := M))
    unfold List.Nodup
    rw [List.pairwise_map]
    exact nd.imp_of_mem fun ha hb ne e => ne (doneOn_inj g (hd _ ha) (hd _ hb) hk e)
  · obtain ⟨x, hx, rfl⟩ := List.mem_map.mp hy
    exact mem_kept.mpr (prs_step g w hM (mem_kept.mp hx) hk)
/-- a row goes round -/
def itn (t : List Nat) : Nat → Nat → Nat
  | 0, s => s
  | n + 1, s => itn t n (im t s)
theorem itn_add (t : List Nat) : ∀ (a b s : Nat), itn t (a + b) s = itn t b (itn t a s)
  | 0, b, s => by rw [Nat.zero_add]; rfl
  | a + 1, b, s => by rw [Nat.succ_add]; exact itn_add t a b (im t s)
theorem itn_lt {m : Nat} {t : List Nat} (p : Perm1 m t) : ∀ {n s : Nat}, s < m → itn t n s < m
  | 0, _, h => h
  | n + 1, _, h => itn_lt (n := n) p (p.lt _ h)
theorem itn_inj {m : Nat} {t : List Nat} (p : Perm1 m t) : ∀ {n a b : Nat}, a < m → b < m → itn t n a = itn t n b → a = b
  | 0, _, _, _, _, e => e
  | n + 1, a, b, ha, hb, e => p.inj a ha b hb (itn_inj (n := n) p (p.lt _ ha) (p.lt _ hb) e)
theorem nd_lt {m : Nat} {h : Nat → Nat} (hl : ∀ i, h i < m) : ∃ i j, i < j ∧ h i = h j := by
  by_cases q : ((List.range (m + 1)).map h).Nodup
  · have := Mx.len_le_of_sub (b := List.range m) q fun x hx => by
      obtain ⟨i, _, rfl⟩ := List.mem_map.mp hx
      exact List.mem_range.mpr (hl i)
    rw [List.length_map, List.length_range, List.length_range] at this
    omega
  · unfold List.Nodup at q
    rw [List.pairwise_map] at q
    refine Classical.byContradiction fun z => q ?_
    exact List.pairwise_lt_range.imp fun {i j} hij e => z ⟨i, j, hij, e⟩
theorem itn_back {m : Nat} {t : List Nat} (p : Perm1 m t) {s : Nat} (hs : s < m) : ∃ n, itn t (n + 1) s = s := by
  obtain ⟨i, j, hij, e⟩ := nd_lt (h := fun n => itn t n s) (m := m) fun n => itn_lt p hs
  refine ⟨j - i - 1, ?_⟩
  have e2 : itn t i (itn t (j - i) s) = itn t i s := by
    rw [← itn_add, show j - i + i = j by omega]; exact e.symm
  rw [show j - i - 1 + 1 = j - i by omega]
  exact itn_inj p (itn_lt p hs) hs e2
theorem fib_itn (g : Good ts ns) (w : Wit ts ws many st) {M : Nat} (hM : 216 ≤ M) {k : Nat} (hk : k < ts.length) : ∀ (n s : Nat), (keptL (pairs ts ns ws 0 st M) s).length ≤ (keptL (pairs ts ns ws 0 st M) (itn (ws.getD k []) n s)).length
  | 0, s => Nat.le_refl _
  | n + 1, s => Nat.le_trans (fib_step g w hM hk) (fib_itn g w hM hk n _)
theorem fib_back (g : Good ts ns) (w : Wit ts ws many st) {M : Nat} (hM : 216 ≤ M) {k s : Nat} (hk : k < ts.length) (hs : s < many) : (keptL (pairs ts ns ws 0 st M) (im (ws.getD k []) s)).length ≤ (keptL (pairs ts ns ws 0 st M) s).length := by
  obtain ⟨n, hn⟩ := itn_back (w.p _ (getD_mem (by rw [w.len]; exact hk))) hs
  have := fib_itn g w hM hk n (im (ws.getD k []) s)
  rw [show itn (ws.getD k []) n (im (ws.getD k []) s) = itn (ws.getD k []) (n + 1) s from rfl, hn] at this
  exact this
theorem fib_le (g : Good ts ns) (w : Wit ts ws many st) {M : Nat} (hM : 216 ≤ M) : ∀ z ∈ pairs ts ns ws 0 st M, z.2 < many ∧ (keptL (pairs ts ns ws 0 st M) z.2).length ≤ (keptL (pairs ts ns ws 0 st M) st).length := by
  refine Mx.run_all (P := fun z : Doing × Nat => z.2 < many ∧ (keptL (pairs ts ns ws 0 st M) z.2).length ≤ (keptL (pairs ts ns ws 0 st M) st).length) (fun z hz y hy => ?_) fun z hz => ?_
  · obtain ⟨k, hk, rfl⟩ := List.mem_map.mp hy
    have hk' := List.mem_range.mp hk
    exact ⟨(w.p _ (getD_mem (by rw [w.len]; exact hk'))).lt _ hz.1, Nat.le_trans (fib_back g w hM hk' hz.1) hz.2⟩
  · rw [List.mem_singleton.mp hz]; exact ⟨w.s, Nat.le_refl _⟩
theorem sum_fib {t : Nat} : ∀ {C : List Nat} {W : List (Doing × Nat)}, (∀ z ∈ W, z.2 ∈ C) → (∀ s ∈ C, (W.filter fun z => decide (z.2 = s)).length ≤ t) → W.length ≤ C.length * t
  | [], W, h, _ => by
    cases W with
    | nil => simp
    | cons z W => exact absurd (h z (by simp)) (by simp)
  | s :: C, W, h, h2 => by
    have e : W.length = (W.filter fun z => decide (z.2 = s)).length + (W.filter fun z => !decide (z.2 = s)).length := by
      clear h h2
      induction W with
      | nil => rfl
      | cons z W ih =>
        rw [List.filter_cons, List.filter_cons, List.length_cons, ih]
        cases decide (z.2 = s) with
        | true => simp only [if_true, Bool.not_true, Bool.false_eq_true, if_false, List.length_cons]; omega
        | false => simp only [if_true, Bool.not_false, Bool.false_eq_true, if_false, List.length_cons]; omega
    have ih := sum_fib (t := t) (C := C) (W := W.filter fun z => !decide (z.2 = s)) (fun z hz => by
      obtain ⟨h3, h4⟩ := List.mem_filter.mp hz
      rcases List.mem_cons.mp (h z h3) with q | q
      · rw [decide_eq_true q] at h4; cases h4
      · exact q) fun s' hs' => by
        refine Nat.le_trans ?_ (h2 s' (by simp [hs']))
        rw [List.filter_filter]
        have : ((W.filter fun a => decide (a.2 = s') && !decide (a.2 = s)).Sublist (W.filter fun z => decide (z.2 = s'))) := by
          rw [← List.filter_filter]
          have e : (W.filter fun a => !decide (a.2 = s)).filter (fun a => decide (a.2 = s')) = (W.filter fun a => decide (a.2 = s')).filter fun a => !decide (a.2 = s) := by
            rw [List.filter_filter, List.filter_filter]
            congr 1; funext a; rw [Bool.and_comm]
          rw [e]
          exact List.filter_sublist
        exact this.length_le
    have h1 := h2 s (by simp)
    rw [List.length_cons, Nat.succ_mul]
    omega
theorem come_le (g : Good ts ns) (w : Wit ts ws many st) {N M : Nat} (hM : 216 ≤ M) {C : List Nat} (hC : ∀ z ∈ pairs ts ns ws 0 st M, z.2 ∈ C) : (doings ts ns 0 N).length ≤ C.length * (keptL (pairs ts ns ws 0 st M) st).length := by
  have h1 : (pairs ts ns ws 0 st M).length ≤ C.length * (keptL (pairs ts ns ws 0 st M) st).length := by
    refine sum_fib hC fun s _ => ?_
    have e : ((pairs ts ns ws 0 st M).filter fun z => decide (z.2 = s)).length = (keptL (pairs ts ns ws 0 st M) s).length := by unfold keptL; rw [List.length_map]
    rw [e]
    by_cases q : ∃ x, x ∈ keptL (pairs ts ns ws 0 st M) s
    · obtain ⟨x, hx⟩ := q
      exact (fib_le g w hM _ (mem_kept.mp hx)).2
    · have : keptL (pairs ts ns ws 0 st M) s = [] := List.eq_nil_iff_forall_not_mem.mpr fun x hx => q ⟨x, hx⟩
      rw [this]; exact Nat.zero_le _
  refine Nat.le_trans ?_ h1
  rw [← List.length_map (as := pairs ts ns ws 0 st M) (f := Prod.fst)]
  refine Mx.len_le_of_sub (Mx.run_nodup (by simp)) ?_
  refine Mx.run_all (P := fun x : Doing => x ∈ (pairs ts ns ws 0 st M).map Prod.fst) (fun x hx y hy => ?_) fun x hx => ?_
  · obtain ⟨k, hk, rfl⟩ := List.mem_map.mp hy
    obtain ⟨z, hz, rfl⟩ := List.mem_map.mp hx
    exact List.mem_map.mpr ⟨_, prs_step g w hM hz (List.mem_range.mp hk), rfl⟩
  · rw [List.mem_singleton.mp hx]
    exact List.mem_map.mpr ⟨_, prs_no, rfl⟩
end
end Onew
end
section
set_option maxRecDepth 100000
set_option maxHeartbeats 4000000
namespace Onew
open PySem PySem.Spec PyProof.Rows L2 G
open Mx (Tab im Rch rl rowF forgF doneOn Fm nextD nextP)
/-! ### repr of a list or tuple: nothing is being told above -/
def rReprG (K : PySem.W.Frag) : List V → Hp → VK → Prop := fun xs H Q => ∃ (p : Addr) (d : PyData), xs = [.ref p] ∧ Dp K H (.ref p) d ∧ d.showable = true ∧ d.hasDict = false ∧ d.shown.length ≤ sizeLine ∧ d.depth ≤ 8 ∧ Q (.str d.shown) H
theorem cr_reprG {X : Cx} (hg : X.A.guards = some []) (hu : X.A.units + 64 < cLine) : CallR X (.builtin "repr") (rReprG X.K) := by
  intro pins s σ H xs us Q I r h
  obtain ⟨p, d, rfl, hd, hs, hn, hz, hp, q⟩ := h
  obtain ⟨u, rfl, rx⟩ := vals1 r
  obtain ⟨as, rd⟩ := Dp.reads I d (.ref p) u hd rx
  cases rx
  exact repr_of_reads' rd hs (fun e => by rw [hn] at e; cases e) hg (by omega) (fun _ _ e => e) (fun h' u tk hk => ⟨.str d.shown, H, I.kept (t' := tk) hk, ⟨_, rfl⟩, q⟩) hz
/-! ### len(set(xs)), xs ints -/
theorem first_all {val : Nat → Int} : ∀ {n i : Nat}, i < n → val i ∈ PyProof.Rows.firstMet val n
  | 0, _, h => absurd h (by omega)
  | n + 1, i, h => by
    rw [PyProof.Rows.firstMet_succ]
    unfold PyProof.Rows.step_dedup
    by_cases e : i = n
    · subst e
      split
      · rename_i h2
        obtain ⟨x, hx, ex⟩ := List.any_eq_true.mp h2
        rw [← eq_of_beq ex]; exact hx
      · exact List.mem_append.mpr (.inr (List.mem_singleton.mpr rfl))
    · have ih := first_all (val := val) (n := n) (i := i) (by omega)
      split
      · exact ih
      · exact List.mem_append.mpr (.inl ih)
def tLenSetZ (K : PySem.W.Frag) (ta : TE) : TE := fun σ H Q => ta σ H fun x H1 => ∃ (l : Addr) (ns : List Int), x = .ref l ∧ SqL K H1 l (ns.map V.int) ∧ ns.length ≤ 4000 ∧ ∀ C : List Int, (∀ n ∈ ns, n ∈ C) → C.length ≤ ns.length → Q (.int (C.length : Nat)) H1
theorem pe_lenSetZ {X : Cx} {a : Expr} {ta : TE} {p p2 q pos : Pos} (hc : X.calm = true) (hg : Gl X "len") (hm : X.mg "len" = none) (hg2 : Gl X "set") (hm2 : X.mg "set" = none) (ha : PE X a ta)
    (na : starEach [a] X.env = (false, eval a X.env) :: starEach [] X.env := by rfl) : PE X (.Call (.Name "len" p) [.Call (.Name "set" p2) [a] [] q] [] pos) (tLenSetZ X.K ta) := by
  refine ⟨fun pins s σ H Q I h => ?_⟩
  refine Call_ (ld_blt I hg hm PySem.boot_len ?_)
  refine PyProof.Rows.callWith_builtin1 (PyProof.Rows.args_cons ?_ rfl) rfl rfl
  refine Call_ (ld_blt I hg2 hm2 PyProof.Rows.boot_set ?_)
  refine PyProof.Rows.callWith_type1 (PyProof.Rows.args_cons (thn (ha.run pins s σ H _ I h) fun v s1 ⟨x, H1, I1, r1, q1⟩ => PyProof.Rows.args_nil ?_) na) na rfl
  obtain ⟨l, ns, rfl, hq, hl, q1⟩ := q1
  cases r1
  obtain ⟨its, r, pl, hz⟩ := I1.list hq
  have hlen : its.toArray.size = ns.length := by rw [List.size_toArray, ← r.length, List.length_map]
  refine call_set_list (I1.ok.hd hc) pl.isList (ns := ns) (by simpa using r.ints) (by rw [hlen]; unfold scanBound; omega) fun h' tk hS hk => ?_
  refine PyProof.Rows.args_nil ?_
  rw [hlen] at hS
  have hle := PyProof.Rows.firstMet_length_le (fun i => ns.getD i 0) ns.length
  have hall : ∀ n ∈ ns, n ∈ PyProof.Rows.firstMet (fun i => ns.getD i 0) ns.length := fun n hn => by
    obtain ⟨i, hi, e⟩ := List.getElem_of_mem hn
    have := first_all (val := fun i => ns.getD i 0) hi
    have e2 : ns.getD i 0 = n := by rw [List.getD_eq_getElem?_getD, List.getElem?_eq_getElem hi]; exact e
    rw [← e2]; exact this
  obtain ⟨o, es, ep, t, ho, hex, hd, _, _, _, hf, hn⟩ := hS
  have I2 : Inv X pins σ H1 { s1 with heap := h', toks := tk } := I1.kept fun b o e => hk b o (Heap.lt_size e) e
  exact call_len_set ho hex hd hf (by rw [hn]; omega) ⟨.int _, H1, I2.tok _, ⟨_, by rw [hn]⟩, q1 _ hall hle⟩
/-! ### what is told of doings is short -/
theorem n_short {n : Nat} (h : n ≤ 8) : (PyData.shown (.int (n : Nat))).length ≤ 8 ∧ PyData.weight (.int (n : Nat)) ≤ 4 ∧ PyData.showable (.int (n : Nat)) = true := by
  obtain rfl | rfl | rfl | rfl | rfl | rfl | rfl | rfl | rfl : n = 0 ∨ n = 1 ∨ n = 2 ∨ n = 3 ∨ n = 4 ∨ n = 5 ∨ n = 6 ∨ n = 7 ∨ n = 8 := by omega
  all_goals decide +kernel
theorem nD_short : ∀ {l : List Nat}, (∀ n ∈ l, n ≤ 8) → PyData.leavesShortAll 8 (nD l) = true ∧ PyData.weightAll (nD l) ≤ 5 * l.length ∧ PyData.showableAll (nD l) = true
  | [], _ => ⟨rfl, Nat.zero_le _, rfl⟩
  | n :: l, h => by
    obtain ⟨a, b, c⟩ := n_short (h n (by simp))
    obtain ⟨d, e, f⟩ := nD_short (l := l) fun m hm => h m (by simp [hm])
    refine ⟨?_, ?_, ?_⟩
    · show (decide (_ ≤ 8) && PyData.leavesShortAll 8 (nD l)) = true
      rw [d, decide_eq_true a]; rfl
    · show PyData.weight (.int (n : Nat)) + 1 + PyData.weightAll (nD l) ≤ _
      rw [List.length_cons]; omega
    · show (PyData.showable (.int (n : Nat)) && PyData.showableAll (nD l)) = true
      rw [c, f]; rfl
structure Sh (x : Doing) : Prop where
  l1 : x.1.length ≤ 8
  l2 : x.2.length ≤ 4
  b1 : ∀ n ∈ x.1, n ≤ 8
  b2 : ∀ n ∈ x.2, n ≤ 8
theorem dD_short {x : Doing} (h : Sh x) : PyData.leavesShort 8 (dD x) = true ∧ PyData.weight (dD x) ≤ 62 ∧ PyData.showable (dD x) = true := by
  obtain ⟨a, b, c⟩ := nD_short h.b1
  obtain ⟨d, e, f⟩ := nD_short h.b2
  have l1 := h.l1
  have l2 := h.l2
  refine ⟨?_, ?_, ?_⟩
  · show (PyData.leavesShortAll 8 (nD x.1) && (PyData.leavesShortAll 8 (nD x.2) && true)) = true
    rw [a, d]; rfl
  · show PyData.weightAll (nD x.1) + 1 + (PyData.weightAll (nD x.2) + 1 + 0) ≤ 62
    omega
  · show (PyData.showableAll (nD x.1) && (PyData.showableAll (nD x.2) && true)) = true
    rw [c, f]; rfl
theorem ds_short : ∀ {W : List Doing}, (∀ x ∈ W, Sh x) → PyData.leavesShortAll 8 (W.map dD) = true ∧ PyData.weightAll (W.map dD) ≤ 63 * W.length ∧ PyData.showableAll (W.map dD) = true ∧ PyData.depthAll (W.map dD) ≤ 2
  | [], _ => ⟨rfl, Nat.zero_le _, rfl, Nat.zero_le _⟩
  | x :: W, h => by
    obtain ⟨a, b, c⟩ := dD_short (h x (by simp))
    obtain ⟨d, e, f, g⟩ := ds_short (W := W) fun m hm => h m (by simp [hm])
    refine ⟨?_, ?_, ?_, ?_⟩
    · show (PyData.leavesShort 8 (dD x) && PyData.leavesShortAll 8 (W.map dD)) = true
      rw [a, d]; rfl
    · show PyData.weight (dD x) + 1 + PyData.weightAll (W.map dD) ≤ _
      rw [List.length_cons]; omega
    · show (PyData.showable (dD x) && PyData.showableAll (W.map dD)) = true
      rw [c, f]; rfl
    · rw [List.map_cons, PyData.depthAll]
      have h1 := depth_d x
      omega
theorem noDict_n : ∀ l : List Nat, PyData.hasDictAll (nD l) = false
  | [] => rfl
  | n :: l => by show (PyData.hasDict (.int _) || PyData.hasDictAll (nD l)) = false; rw [noDict_n l]; rfl
theorem noDict_d : ∀ W : List Doing, PyData.hasDictAll (W.map dD) = false
  | [] => rfl
  | x :: W => by
    show (PyData.hasDict (dD x) || PyData.hasDictAll (W.map dD)) = false
    rw [noDict_d W]
    show ((PyData.hasDictAll (nD x.1) || (PyData.hasDictAll (nD x.2) || false)) || false) = false
    rw [noDict_n, noDict_n]; rfl
/-- repr of a tuple of doings -/
theorem repr_ds {K : PySem.W.Frag} {H : Hp} {p : Addr} {W : List Doing} {Q : VK} (r : R H (.ref p) (.tuple (W.map dD))) (h : ∀ x ∈ W, Sh x) (hl : W.length ≤ 1000) (q : Q (.str (PyData.shown (.tuple (W.map dD)))) H) : rReprG K [.ref p] H Q := by
  obtain ⟨a, b, c, d⟩ := ds_short h
  refine ⟨p, .tuple (W.map dD), rfl, R.dp _ _ r, c, noDict_d W, ?_, ?_, q⟩
  · exact PyData.shown_fits (B := 8) (Nat.le_refl _) (by decide) a (by show PyData.weightAll (W.map dD) ≤ 2 ^ 20; omega)
  · rw [PyData.depth]; omega
/-- .. of two bools -/
theorem repr_bb {K : PySem.W.Frag} {H : Hp} {p : Addr} {b : Bool} {Q : VK} (h : H p = some (.lst [.bl b, .bl b])) (q : Q (.str (PyData.shown (.list [.bool b, .bool b]))) H) : rReprG K [.ref p] H Q := by
  refine ⟨p, .list [.bool b, .bool b], rfl, R.dp _ _ (.lst h (.cons (.bl b) (.cons (.bl b) .nil))), rfl, rfl, ?_, by cases b <;> decide, q⟩
  exact PyData.shown_fits (B := 8) (Nat.le_refl _) (by decide) rfl (by cases b <;> decide)
/-- sorted(d), d a dict of doings -/
theorem sort_k {P : Program} {w : World} {H : Hp} {d : Addr} {W : List Doing} {Q : VK} (h : DN P w H d (kvK kD W)) (q : ∀ b vs' H', Ex H H' → H' b = some (.lst vs') → RAll H' vs' ((sortW W).map dD) → Q (.ref b) H') : rSortN P w [.ref d] H Q := by
  refine ⟨d, kvK kD W, rfl, h, by rw [kv_data]; exact PySem.W.AllAlike.of alike_d, by rw [kv_data]; exact PySem.W.Sortable.tuples fun x => ⟨_, _, rfl⟩, fun z hz => ?_, ?_⟩
  · unfold kvK at hz
    obtain ⟨x, _, rfl⟩ := List.mem_map.mp hz
    show (kD x).data.depth ≤ 50
    rw [kD_data]
    exact Nat.le_trans (depth_d x) (by decide)
  · intro p out hp ro
    rw [kv_data] at ro
    exact q p out _ (Ex.new hp) upd_same (by rw [sortW_data]; exact ro.ex (Ex.new hp))
end Onew
end
section
set_option maxRecDepth 100000
set_option maxHeartbeats 8000000
namespace Onew
open PySem PySem.Spec PyProof.Rows L2 G
open LamX (CodeO TabS Tabs ExtN TabB GivesTo LamS lamCx lamEnv tLam)
open Mx (Tab im Rch rl rowF forgF doneOn Fm nextD nextP TbOk Perm1)
abbrev sLaw : Stmt := top 66
abbrev lawN : List Str := ["_law_script", "_law_k", "_law_box_here", "_law_tables_here", "_law_rounds", "_law_states", "_law_known", "_law_turn", "_law_some", "_law_group", "_law_value", "_law_due_here", "_law_many", "_law_walked_here", "_law_come", "_law_heard_here", "_law_counters", "_law_first", "_law_machine", "_law_most", "_law_start", "_law_witness", "_law_doing", "_law_standing", "_law_table", "_law_number"]
theorem scLaw : FnScope lawN ["_law_script"] (defScope sLaw) := ⟨rfl, rfl, rfl, by decide +kernel, rfl, by decide +kernel, by decide +kernel⟩
def forB : List Stmt := match (defBody sLaw).getD 1 (.Pass ⟨0, 0, 0, 0⟩) with
  | .For _ _ b _ _ => b
  | _ => []
abbrev lst (i : Nat) : Stmt := forB.getD i (.Pass ⟨0, 0, 0, 0⟩)
abbrev XL (P : Program) (w : World) (K : PySem.W.Frag) (mg : Str → Option Value) (base : Heap) (fa c : Addr) (A : Around) (outer : List Env) (s : Shared) (H : Hp) (E : XK) : Cx := cxOf (L2.CX P w) P w K mg base lawN "law" (defScope sLaw) fa (.ref c) A outer s H E
/-- from Pre to Post -/
def tPP (Pre Post : L2.St → Hp → Prop) : TS := fun D σ H => Pre σ H ∧ ∀ σ' H', Post σ' H' → D.nx σ' H'
theorem ps_pp {X : Cx} {st : Stmt} {t : TS} {Pre Post : L2.St → Hp → Prop} (h : PS X st t) (q : ∀ D σ H, Pre σ H → (∀ σ' H', Post σ' H' → D.nx σ' H') → t D σ H) : PS X st (tPP Pre Post) := ⟨fun pins s σ H D I hh => h.run pins s σ H D I (q D σ H hh.1 hh.2)⟩
def fr (f : Nat → Option V) : L2.St := [f 0, f 1, f 2, f 3, f 4, f 5, f 6, f 7, f 8, f 9, f 10, f 11, f 12, f 13, f 14, f 15, f 16, f 17, f 18, f 19, f 20, f 21, f 22, f 23, f 24, f 25]
def pt (f : Nat → Option V) (i : Nat) (v : V) : Nat → Option V := fun j => if j = i then some v else f j
theorem at_ {o : Option V} {v : V} (h : o = some v) : some o = some (some v) := congrArg some h
/-- the script and the tables of code objects -/
structure B0 (K : PySem.W.Frag) (a : Addr) (zs : List Int) (Tb : List (Addr × Str)) (H : Hp) : Prop where
  sc : SqL K H a (zs.map V.int)
  tb : Tabs Tb H
theorem sqL_nx {K : PySem.W.Frag} {H H' : Hp} {a : Addr} {xs : List V} (h : SqL K H a xs) (e : Nx H H') : SqL K H' a xs := h.elim (fun h => .inl (h.elim (fun h => .inl (e _ _ h (fun _ z => by cases z))) fun ⟨u, h⟩ => .inr ⟨u, e _ _ h (fun _ z => by cases z)⟩)) .inr
theorem B0.nx {K : PySem.W.Frag} {a : Addr} {zs : List Int} {Tb : List (Addr × Str)} {H H' : Hp} (h : B0 K a zs Tb H) (e : Nx H H') (t : Tabs Tb H') : B0 K a zs Tb H' := ⟨sqL_nx h.sc e, t⟩
theorem B0.ex {K : PySem.W.Frag} {a : Addr} {zs : List Int} {Tb : List (Addr × Str)} {H H' : Hp} (h : B0 K a zs Tb H) (e : Ex H H') : B0 K a zs Tb H' := ⟨sqL_nx h.sc (Ex.n e), h.tb.ext e⟩
structure Da where
  b : Addr
  p : Addr
  r : Addr
  mA : Addr
  cA : Addr
  sA : Addr
  kA : Addr
  ts : Tab
  ns : List Nat
section
variable (P : Program) (w : World) (K : PySem.W.Frag) (CM CC : Addr) (a : Addr) (zs : List Int) (Tb : List (Addr × Str))
/-- what is known from the known doings on -/
structure Kn (d : Da) (f : Nat → Option V) (H : Hp) : Prop where
  f0 : f 0 = some (.ref a)
  f2 : f 2 = some (.ref d.b)
  f3 : f 3 = some (.ref d.p)
  f4 : f 4 = some (.ref d.r)
  f5 : f 5 = some (.ref d.sA)
  f6 : f 6 = some (.ref d.kA)
  f16 : f 16 = some (.ref d.cA)
  f17 : f 17 = some (.int ((0 : Nat) : Int))
  f18 : f 18 = some (.ref d.mA)
  b0 : B0 K a zs Tb H
  box : H d.b = some (BoxO d.b)
  tab : R H (.ref d.p) (lD d.ts)
  rr : H d.r = some (.lst (nV d.ns))
  g : Good d.ts d.ns
  mach : MachAt CM H d.mA d.ts
  coun : CounAt CC H d.cA d.ns (List.replicate d.ns.length 0)
  stat : H d.sA = some (.lst (nV (rl d.ts 0)))
  know : DM P w H d.kA (kvK kD (doings d.ts d.ns 0 3000))
def J0 : L2.St → Hp → Prop := fun σ H => ∃ (f : Nat → Option V) (k : Nat), σ = fr f ∧ f 0 = some (.ref a) ∧ f 1 = some (.int (k : Nat)) ∧ B0 K a zs Tb H
def J1 : L2.St → Hp → Prop := fun σ H => ∃ (f : Nat → Option V) (b : Addr), σ = fr f ∧ f 0 = some (.ref a) ∧ f 2 = some (.ref b) ∧ B0 K a zs Tb H ∧ H b = some (BoxO b)
def J2 : L2.St → Hp → Prop := fun σ H => ∃ (f : Nat → Option V) (b p : Addr) (ts : Tab), σ = fr f ∧ f 0 = some (.ref a) ∧ f 2 = some (.ref b) ∧ f 3 = some (.ref p) ∧ B0 K a zs Tb H ∧ H b = some (BoxO b) ∧ R H (.ref p) (lD ts) ∧ TbOk ts
def J3 : L2.St → Hp → Prop := fun σ H => ∃ (f : Nat → Option V) (b p r : Addr) (ts : Tab) (ns : List Nat), σ = fr f ∧ f 0 = some (.ref a) ∧ f 2 = some (.ref b) ∧ f 3 = some (.ref p) ∧ f 4 = some (.ref r) ∧ f 17 = some (.int ((0 : Nat) : Int)) ∧ B0 K a zs Tb H ∧ H b = some (BoxO b) ∧ R H (.ref p) (lD ts) ∧ TbOk ts ∧ H r = some (.lst (nV ns)) ∧ ns.length = ts.length ∧ ∀ n ∈ ns, 1 ≤ n ∧ n ≤ 3
def J4 : L2.St → Hp → Prop := fun σ H => ∃ (f : Nat → Option V) (b p r : Addr) (ts : Tab) (ns : List Nat), σ = fr f ∧ f 0 = some (.ref a) ∧ f 2 = some (.ref b) ∧ f 3 = some (.ref p) ∧ f 4 = some (.ref r) ∧ f 17 = some (.int ((0 : Nat) : Int)) ∧ B0 K a zs Tb H ∧ H b = some (BoxO b) ∧ R H (.ref p) (lD ts) ∧ H r = some (.lst (nV ns)) ∧ Good ts ns
def J5 : L2.St → Hp → Prop := fun σ H => ∃ (f : Nat → Option V) (b p r mA cA sA : Addr) (ts : Tab) (ns : List Nat), σ = fr f ∧ f 0 = some (.ref a) ∧ f 2 = some (.ref b) ∧ f 3 = some (.ref p) ∧ f 4 = some (.ref r) ∧ f 17 = some (.int ((0 : Nat) : Int)) ∧ f 18 = some (.ref mA) ∧ f 16 = some (.ref cA) ∧ f 5 = some (.ref sA) ∧ B0 K a zs Tb H ∧ H b = some (BoxO b) ∧ R H (.ref p) (lD ts) ∧ H r = some (.lst (nV ns)) ∧ Good ts ns ∧ MachAt CM H mA ts ∧ CounAt CC H cA ns (List.replicate ns.length 0) ∧ H sA = some (.lst (nV (rl ts 0)))
def J6 : L2.St → Hp → Prop := fun σ H => ∃ f d, σ = fr f ∧ Kn P w K CM CC a zs Tb d f H
end
section
variable {P : Program} {w : World} {K : PySem.W.Frag} {mg : Str → Option Value} {base : Heap} {CM CC CR CN CF CT CB CW eA : Addr} {cb : Bool} {fa c : Addr} {A : Around} {outer : List Env} {s : Shared} {H0 : Hp} {E0 : XK} {a : Addr} {zs : List Int} {Tb : List (Addr × Str)}
theorem Kn.nx {d : Da} {f : Nat → Option V} {H H' : Hp} (h : Kn P w K CM CC a zs Tb d f H) (e : Nx H H') (t : Tabs Tb H') : Kn P w K CM CC a zs Tb d f H' :=
  ⟨h.f0, h.f2, h.f3, h.f4, h.f5, h.f6, h.f16, h.f17, h.f18, h.b0.nx e t, e _ _ h.box (fun _ z => by unfold BoxO at z; cases z), h.tab.nx e, e _ _ h.rr (fun _ z => by cases z), h.g, h.mach.nx e, h.coun.nx e, e _ _ h.stat (fun _ z => by cases z), h.know.nx e⟩
theorem Kn.ex {d : Da} {f : Nat → Option V} {H H' : Hp} (h : Kn P w K CM CC a zs Tb d f H) (e : Ex H H') : Kn P w K CM CC a zs Tb d f H' := h.nx (Ex.n e) (h.b0.tb.ext e)
/-- the room of the law's body -/
abbrev RoomL (fa c : Addr) (A : Around) (s : Shared) : Prop := Room 17 (A.deeper (envOfC "law" (defScope sLaw) s.heap.objs.size fa (.ref c)))
theorem lawS0 (hr : RoomL fa c A s) (D__law_box : Def P w K mg base 1 "_law_box" ["_law_script", "_law_k"] (spBox K)) : PS (XL P w K mg base fa c A outer s H0 E0) (lst 0) (tPP (J0 K a zs Tb) (J1 K a zs Tb)) := by
  have nd := scLaw.nd
  refine ps_pp (ps_set (i := 2) nd rfl (Or.inr rfl) (pcall D__law_box hr (by decide) (pa_cons (pv 0) (pa_cons (pv 1) pa_nil)))) ?_
  rintro D σ H ⟨f, k, rfl, h0, h1, b0⟩ q
  exact ⟨_, at_ h0, _, at_ h1, a, zs, k, rfl, b0.sc, fun b H' e _ hb => q _ _ ⟨pt f 2 (.ref b), b, rfl, h0, rfl, b0.ex e, hb⟩⟩
theorem lawS1 (hr : RoomL fa c A s) (D__law_tables : Def P w K mg base 3 "_law_tables" ["_law_box_here", "_law_most"] spTabs) : PS (XL P w K mg base fa c A outer s H0 E0) (lst 1) (tPP (J1 K a zs Tb) (J2 K a zs Tb)) := by
  have nd := scLaw.nd
  refine ps_pp (ps_set (i := 3) nd rfl (Or.inl rfl) (pcall D__law_tables hr (by decide) (pa_cons (pv 2) (pa_cons pe_int pa_nil)))) ?_
  rintro D σ H ⟨f, b, rfl, h0, h2, b0, hb⟩ q
  exact ⟨_, at_ h2, b, rfl, hb, fun p ts H' e r t => q _ _ ⟨pt f 3 (.ref p), b, p, ts, rfl, h0, h2, rfl, b0.ex e, e _ _ hb, r, t⟩⟩
end
end Onew
end
section
set_option maxRecDepth 100000
set_option maxHeartbeats 8000000
namespace Onew
open PySem PySem.Spec PyProof.Rows L2 G
open LamX (CodeO TabS Tabs ExtN TabB GivesTo LamS lamCx lamEnv tLam)
open Mx (Tab im Rch rl rowF forgF doneOn Fm nextD nextP TbOk Perm1)
theorem nats_of {q : Nat → Prop} : ∀ {acc : List V}, (∀ v ∈ acc, ∃ n : Nat, v = .int (n : Nat) ∧ q n) → ∃ ns : List Nat, acc = nV ns ∧ ∀ n ∈ ns, q n
  | [], _ => ⟨[], rfl, fun n h => absurd h (by simp)⟩
  | v :: acc, h => by
    obtain ⟨n, rfl, hn⟩ := h v (by simp)
    obtain ⟨ns, rfl, hs⟩ := nats_of (acc := acc) fun x hx => h x (by simp [hx])
    refine ⟨n :: ns, rfl, fun m hm => ?_⟩
    rcases List.mem_cons.mp hm with e | e
    · rw [e]; exact hn
    · exact hs m e
section
variable {P : Program} {w : World} {K : PySem.W.Frag} {mg : Str → Option Value} {base : Heap} {CM CC CR CN CF CT CB CW eA : Addr} {cb : Bool} {fa c : Addr} {A : Around} {outer : List Env} {s : Shared} {H0 : Hp} {E0 : XK} {a : Addr} {zs : List Int} {Tb : List (Addr × Str)}
theorem lawS2 (hr : RoomL fa c A s) (D__law_take : Def P w K mg base 1 "_law_take" ["_law_box_here", "_law_many"] spTake) : PS (XL P w K mg base fa c A outer s H0 E0) (lst 2) (tPP (J2 K a zs Tb) (J3 K a zs Tb)) := by
  have nd := scLaw.nd
  refine ps_pp (ps_asg (pe_tup (pa_cons (pe_lc (own := [("_law_table", 24)]) (g := gName 24) (tt := tYes) rfl nd (pi_list (pv 3)) (blkOk_by (N := lawN) (sc := defScope sLaw) (by decide +kernel)) (fun _ _ _ _ _ => (pg_name (i := 24) nd rfl (Or.inl rfl))) (fun _ _ _ _ _ => pts_nil) (fun _ _ _ _ _ => (pe_op op_add pe_int (pcall D__law_take hr (by decide) (pa_cons (pv 2) (pa_cons pe_int pa_nil)))))) (pa_cons pe_int pa_nil))) (pg_tup rfl (pgs_cons (pg_name (i := 4) nd rfl (Or.inl rfl)) (pgs_cons (pg_name (i := 17) nd rfl (Or.inr rfl)) pgs_nil)))) ?_
  rintro D σ H ⟨f, b, p, ts, rfl, h0, h2, h3, b0, hb, rt, tok⟩ q
  obtain ⟨t', vs, et, ht, rvs⟩ := r_l rt
  cases et
  have lvs : vs.length = ts.length := by rw [rvs.length, List.length_map]
  have l4 := tok.ok.l4
  refine ⟨_, at_ h3, p, rfl, ⟨vs, SqL.of ht⟩, fun D1 hD1 => ?_⟩
  refine lc_growD walk_list hD1 (by rw [lvs, sizeLine_eq]; omega) (fun H' e => SqL.of (e _ _ ht)) (fun _ v => ∃ n : Nat, v = .int (n : Nat) ∧ 1 ≤ n ∧ n ≤ 3) (fun _ _ _ _ h => h) ?_ ?_
  · rintro i xv H2 H2' Post hi e2 hD2 ⟨rfl, hx⟩ kk
    refine ⟨rfl, _, at_ h2, b, 3, rfl, e2 _ _ hb, by decide, by decide, fun r hr => ⟨_, _, rfl, rfl, ?_⟩⟩
    exact kk _ _ Ex.rfl' ⟨1 + r, by rw [Int.natCast_add]; rfl, by omega, by omega⟩
  · intro acc H2 e2 hD la hacc
    obtain ⟨ns, rfl, hns⟩ := nats_of hacc
    refine ⟨by show 2 ≤ sizeLine; decide, fun p1 hp1 => ?_⟩
    have e3 := Ex.new (o := .tup [V.ref D1, .int 0]) hp1
    refine ⟨p1, _, rfl, SqT.of upd_same, rfl, _, _, rfl, _, _, rfl, rfl, q _ _ ?_⟩
    rw [nV_len] at la
    exact ⟨pt (pt f 4 (.ref D1)) 17 (.int 0), b, p, D1, ts, ns, rfl, h0, h2, h3, rfl, rfl, b0.ex (e2.tr e3), e3 _ _ (e2 _ _ hb), rt.ex (e2.tr e3), tok, e3 _ _ hD, by omega, hns⟩
theorem lawS3 (hr : RoomL fa c A s) (T : Txt K mg) (D__law_reached : Def P w K mg base 1 "_law_reached" ["_law_tables_here", "_law_first"] (spReL K)) : PS (XL P w K mg base fa c A outer s H0 E0) (lst 3) (tPP (J3 K a zs Tb) (J4 K a zs Tb)) := by
  have nd := scLaw.nd
  refine ps_pp (ps_if ((pw_or (pt_cmpR op_gt (pe_callB call_len_seq (by rfl) (T.no "len" (by decide)) boot_len (pa_cons (pcall D__law_reached hr (by decide) (pa_cons (pv 3) (pa_cons (pv 17) pa_nil))) pa_nil)) pe_int (nomark _)) (pw_or1 (pt_cmpR op_gt (pe_callB call_len_seq (by rfl) (T.no "len" (by decide)) boot_len (pa_cons (pv 3) pa_nil)) pe_int (nomark _))))).pt (pss_one (ps_setLc (i := 4) (own := [("_law_number", 25)]) (g := gName 25) (tt := tYes) rfl nd rfl rfl (sw_true rfl rfl rfl (by decide +kernel)) (pi_list (pv 4)) (blkOk_by (N := lawN) (sc := defScope sLaw) (by decide +kernel)) (fun _ _ _ _ _ => (pg_name (i := 25) nd rfl (Or.inl rfl))) (fun _ _ _ _ _ => pts_nil) (fun _ _ _ _ _ => (pe_callB (call_min2 rfl) (by rfl) (T.no "min" (by decide)) boot_min (pa_cons pe_int (pa_cons (pv 25) pa_nil)))))) pss_nil) ?_
  rintro D σ H ⟨f, b, p, r, ts, ns, rfl, h0, h2, h3, h4, h17, b0, hb, rt, tok, hr', lr, br⟩ q
  refine ⟨_, at_ h3, _, at_ h17, p, ts, 0, rfl, rt, tok.ok, tok.ok.m1, fun sA H' e hs => ?_⟩
  refine ⟨_, _, rfl, .inl (SqL.of hs), _, _, rfl, rfl, _, rfl, ?_⟩
  have l4 := tok.ok.l4
  rw [nV_len]
  by_cases c1 : 3 < (rl ts 0).length
  · refine itT (decide_eq_true (by omega)) (itT rfl ?_)
    refine ⟨_, at_ h4, r, rfl, ⟨_, SqL.of (e _ _ hr')⟩, fun D1 hD1 => ?_⟩
    refine lc_growD walk_list hD1 (by rw [nV_len, sizeLine_eq]; omega) (fun H' e2 => SqL.of (e2 _ _ (e _ _ hr'))) (fun _ v => ∃ n : Nat, v = .int (n : Nat) ∧ 1 ≤ n ∧ n ≤ 2) (fun _ _ _ _ h => h) ?_ ?_
    · rintro i xv H2 H2' Post hi e2 hD2 ⟨rfl, hx⟩ kk
      obtain ⟨n, rfl, hn⟩ : ∃ n : Nat, xv = .int (n : Nat) ∧ n ∈ ns := by
        unfold nV at hx
        rw [List.getElem?_map] at hx
        cases en : ns[i]? with
        | none => rw [en] at hx; cases hx
        | some n => rw [en] at hx; cases hx; exact ⟨n, rfl, List.mem_of_getElem? en⟩
      have bn := br n hn
      refine ⟨rfl, _, rfl, 2, _, rfl, kk _ _ Ex.rfl' ?_⟩
      by_cases n2 : (n : Int) < 2
      · exact ⟨n, by rw [if_pos n2], by omega, by omega⟩
      · exact ⟨2, by rw [if_neg n2]; rfl, by decide, by decide⟩
    · intro acc H2 e2 hD la hacc
      obtain ⟨ns2, rfl, hns⟩ := nats_of hacc
      rw [nV_len, nV_len] at la
      exact q _ _ ⟨pt f 4 (.ref D1), b, p, D1, ts, ns2, rfl, h0, h2, h3, rfl, h17, b0.ex (e.tr e2), e2 _ _ (e _ _ hb), rt.ex (e.tr e2), hD, ⟨tok, by omega, fun n hn => by have := hns n hn; omega, fun _ n hn => (hns n hn).2⟩⟩
  · obtain ⟨t', vs, et, ht, rvs⟩ := r_l rt
    cases et
    have lvs : vs.length = ts.length := by rw [rvs.length, List.length_map]
    refine itF (decide_eq_false (by omega)) ⟨_, at_ h3, p, vs, rfl, .inl (SqL.of (e _ _ ht)), _, _, rfl, rfl, _, rfl, ?_⟩
    by_cases c2 : 2 < ts.length
    · refine itT (decide_eq_true (by omega)) ?_
      refine ⟨_, at_ h4, r, rfl, ⟨_, SqL.of (e _ _ hr')⟩, fun D1 hD1 => ?_⟩
      refine lc_growD walk_list hD1 (by rw [nV_len, sizeLine_eq]; omega) (fun H' e2 => SqL.of (e2 _ _ (e _ _ hr'))) (fun _ v => ∃ n : Nat, v = .int (n : Nat) ∧ 1 ≤ n ∧ n ≤ 2) (fun _ _ _ _ h => h) ?_ ?_
      · rintro i xv H2 H2' Post hi e2 hD2 ⟨rfl, hx⟩ kk
        obtain ⟨n, rfl, hn⟩ : ∃ n : Nat, xv = .int (n : Nat) ∧ n ∈ ns := by
          unfold nV at hx
          rw [List.getElem?_map] at hx
          cases en : ns[i]? with
          | none => rw [en] at hx; cases hx
          | some n => rw [en] at hx; cases hx; exact ⟨n, rfl, List.mem_of_getElem? en⟩
        have bn := br n hn
        refine ⟨rfl, _, rfl, 2, _, rfl, kk _ _ Ex.rfl' ?_⟩
        by_cases n2 : (n : Int) < 2
        · exact ⟨n, by rw [if_pos n2], by omega, by omega⟩
        · exact ⟨2, by rw [if_neg n2]; rfl, by decide, by decide⟩
      · intro acc H2 e2 hD la hacc
        obtain ⟨ns2, rfl, hns⟩ := nats_of hacc
        rw [nV_len, nV_len] at la
        exact q _ _ ⟨pt f 4 (.ref D1), b, p, D1, ts, ns2, rfl, h0, h2, h3, rfl, h17, b0.ex (e.tr e2), e2 _ _ (e _ _ hb), rt.ex (e.tr e2), hD, ⟨tok, by omega, fun n hn => by have := hns n hn; omega, fun _ n hn => (hns n hn).2⟩⟩
    · refine itF (decide_eq_false (by omega)) (q _ _ ⟨f, b, p, r, ts, ns, rfl, h0, h2, h3, h4, h17, b0.ex e, e _ _ hb, rt.ex e, e _ _ hr', ⟨tok, lr, br, fun h => ?_⟩⟩)
      rcases h with h | h
      · exact absurd h c1
      · exact absurd h c2
theorem lawS5 (hr : RoomL fa c A s) (D__law_doings : Def P w K mg base 3 "_law_doings" ["_law_tables_here", "_law_first", "_law_rounds"] (spDoL P w)) : PS (XL P w K mg base fa c A outer s H0 E0) (lst 5) (tPP (J5 K CM CC a zs Tb) (J6 P w K CM CC a zs Tb)) := by
  have nd := scLaw.nd
  refine ps_pp (ps_set (i := 6) nd rfl (Or.inr rfl) (pcall D__law_doings hr (by decide) (pa_cons (pv 3) (pa_cons (pv 17) (pa_cons (pv 4) pa_nil))))) ?_
  rintro D σ H ⟨f, b, p, r, mA, cA, sA, ts, ns, rfl, h0, h2, h3, h4, h17, h18, h16, h5, b0, hb, rt, hr', g, m, cn, st⟩ q
  exact ⟨_, at_ h3, _, at_ h17, _, at_ h4, p, r, ts, ns, 0, rfl, rt, g.tb.ok, g.f0, .lst hr' (rall_n _), g.len, g.z, fun kA H' e dm => q _ _ ⟨pt f 6 (.ref kA), ⟨b, p, r, mA, cA, sA, kA, ts, ns⟩, rfl, h0, h2, h3, h4, h5, rfl, h16, h17, h18, b0.ex e, e _ _ hb, rt.ex e, e _ _ hr', g, m.ex e, cn.ex e, e _ _ st, dm⟩⟩
theorem lawS4 (hr : RoomL fa c A s) (F : Facts P w K mg base CM CC CR CN CF CT CB CW eA cb) (D__law_reached : Def P w K mg base 1 "_law_reached" ["_law_tables_here", "_law_first"] (spReL K)) : PS (XL P w K mg base fa c A outer s H0 E0) (lst 4) (tPP (J4 K a zs Tb) (J5 K CM CC a zs Tb)) := by
  have nd := scLaw.nd
  refine ps_pp (ps_asg (pe_tup (pa_cons (pe_mach F.M hr (by decide) F.C.mM (pa_cons (pv 3) pa_nil)) (pa_cons (pe_coun1 F.N hr (by decide) F.C.mC (pa_cons (pv 4) pa_nil)) (pa_cons (pcall D__law_reached hr (by decide) (pa_cons (pv 3) (pa_cons (pv 17) pa_nil))) pa_nil)))) (pg_tup rfl (pgs_cons (pg_name (i := 18) nd rfl (Or.inr rfl)) (pgs_cons (pg_name (i := 16) nd rfl (Or.inr rfl)) (pgs_cons (pg_name (i := 5) nd rfl (Or.inl rfl)) pgs_nil))))) ?_
  rintro D σ H ⟨f, b, p, r, ts, ns, rfl, h0, h2, h3, h4, h17, b0, hb, rt, hr', g⟩ q
  obtain ⟨t', vs, et, ht, rvs⟩ := r_l rt
  cases et
  have ok := g.tb.ok
  refine ⟨_, at_ h3, ?_⟩
  refine made_mach (rs := ts.map fun t => (false, t)) (m := mst ts) (by rw [← rows_d]; exact .lst ht rvs) (by rw [List.length_map]; exact ok.l1) (by rw [List.length_map]; exact ok.l4) ok.m1 ok.m8 (fun p hp => by obtain ⟨t, h, rfl⟩ := List.mem_map.mp hp; exact ok.row t h) fun mA H1 e1 nx1 hm => ?_
  rw [List.map_map, show ((fun p : Bool × List Nat => p.2) ∘ fun t => (false, t)) = id from rfl, List.map_id] at hm
  have l1 := ok.l1
  have l4 := ok.l4
  have ln := g.len
  refine ⟨_, at_ h4, made_coun (b := true) (ns := ns) F.N.em (.lst (e1 _ _ hr') (rall_n _)) (by omega) (by omega) (fun n hn => by have := g.rng n hn; omega) fun cA H2 e2 nx2 cn => ?_⟩
  have e12 := e1.tr e2
  refine ⟨_, at_ h3, _, at_ h17, p, ts, 0, rfl, rt.ex e12, ok, g.f0, fun sA H3 e3 hs => tnil ⟨by show 3 ≤ sizeLine; decide, fun p1 hp1 => ?_⟩⟩
  have e4 := e3.tr (Ex.new (o := .tup [V.ref mA, .ref cA, .ref sA]) hp1)
  have e14 := e12.tr e4
  refine ⟨p1, _, rfl, SqT.of upd_same, rfl, _, _, rfl, _, _, rfl, _, _, rfl, rfl, q _ _ ?_⟩
  exact ⟨pt (pt (pt f 18 (.ref mA)) 16 (.ref cA)) 5 (.ref sA), b, p, r, mA, cA, sA, ts, ns, rfl, h0, h2, h3, h4, h17, rfl, rfl, rfl, b0.ex e14, e14 _ _ hb, rt.ex e14, e14 _ _ hr', g, hm.ex (e2.tr e4), cn.ex e4, (Ex.new hp1) _ _ hs⟩
end
end Onew
end
section
set_option maxRecDepth 100000
set_option maxHeartbeats 8000000
namespace Onew
open PySem PySem.Spec PyProof.Rows L2 G
open LamX (CodeO TabS Tabs ExtN TabB GivesTo LamS lamCx lamEnv tLam)
open Mx (Tab im Rch rl rowF forgF doneOn Fm nextD nextP TbOk Perm1)
/-- some doings in a list, each as it comes -/
theorem lc_ds {J : It} {n : Nat} {C : Hp → Prop} {Y : Nat → Hp → V → Hp → Prop} (Wk : Walk J n C Y) {g : TG} {te : TE} {vs : List Nat} {σ : L2.St} {H1 : Hp} {D : Addr} {Qd : Hp → Prop} (hD : H1 D = none) (hz : n ≤ sizeLine) (hC : ∀ H, Ex H1 H → C H) (good : Doing → Prop)
    (step : ∀ i x H H' (Post : VK), i < n → Ex H1 H → Y i H x H' → (∀ y H4 z, Ex H H4 → good z → R H4 y (dD z) → Post y H4) → g x (wipe σ vs) H' fun σ2 H2 => wipe σ2 vs = wipe σ vs ∧ te σ2 H2 Post)
    (done : ∀ (acc : List V) (l : List Doing) H, Ex H1 H → H D = some (.lst acc) → l.length = n → (∀ z ∈ l, good z) → RAll H acc (l.map dD) → Qd H) :
    ∃ Wm : Nat → Nat → Hp → Prop, (∃ m, Wm 0 m (upd H1 D (.lst []))) ∧ ∀ i m H, Wm i m H →
      (J.stop i H ∧ Qd H) ∨ (J.go i H ∧ ∃ Nx : Hp → Prop, (∀ H', Nx H' → ∃ m', m' < m ∧ Wm (i + 1) m' H') ∧ ∀ x H', J.yld i H x H' → g x (wipe σ vs) H' fun σ2 H2 => wipe σ2 vs = wipe σ vs ∧ tYes σ2 H2 fun b H3 =>
        if b = true then te σ2 H3 fun y H4 => ∃ acc, H4 D = some (.lst acc) ∧ acc.length < sizeLine ∧ Nx (upd H4 D (.lst (acc ++ [y]))) else Nx H3) := by
  refine lc_it Wk (fun i H => ∃ acc l, H D = some (.lst acc) ∧ Ex H1 H ∧ l.length = i ∧ (∀ z ∈ l, good z) ∧ RAll H acc (l.map dD)) ⟨[], [], upd_same, Ex.new hD, rfl, fun z hz => absurd hz (by simp), .nil⟩ (fun i H _ ⟨acc, l, _, e, _⟩ => hC H e) ?_ (fun H ⟨acc, l, h1, h2, h3, h4, h5⟩ => done acc l H h2 h1 h3 h4 h5)
  rintro i x H H' hi ⟨acc, l, h1, h2, h3, h4, h5⟩ y
  have hlen : acc.length = i := by rw [h5.length, List.length_map, h3]
  have q := step i x H H' (fun y H4 => ∃ acc, H4 D = some (.lst acc) ∧ acc.length < sizeLine ∧ ∃ (acc' : List V) (l' : List Doing), upd H4 D (.lst (acc ++ [y])) D = some (.lst acc') ∧ Ex H1 (upd H4 D (.lst (acc ++ [y]))) ∧ l'.length = i + 1 ∧ (∀ z ∈ l', good z) ∧ RAll (upd H4 D (.lst (acc ++ [y]))) acc' (l'.map dD)) hi h2 y fun y H4 z e4 gz rz => by
    refine ⟨acc, e4 _ _ h1, by omega, acc ++ [y], l ++ [z], upd_same, (h2.tr e4).mut hD, by rw [List.length_append, h3]; rfl, fun z' hz' => ?_, ?_⟩
    · rcases List.mem_append.mp hz' with h | h
      · exact h4 z' h
      · rw [List.mem_singleton.mp h]; exact gz
    · have tx : Tx H4 (upd H4 D (.lst (acc ++ [y]))) := Tx.put (e4 _ _ h1) (fun xs z => by cases z)
      rw [List.map_append]
      exact RAll.app (RAll.tx tx _ _ (noLs_d l) (h5.ex e4)) (RAll.one (R.tx tx _ _ (noL_d z) rz))
  exact q
section
variable {P : Program} {w : World} {K : PySem.W.Frag} {mg : Str → Option Value} {base : Heap} {CM CC CR CN CF CT CB CW eA : Addr} {cb : Bool} {fa c : Addr} {A : Around} {outer : List Env} {s : Shared} {H0 : Hp} {E0 : XK} {a : Addr} {zs : List Int} {Tb : List (Addr × Str)}
def J7 (P : Program) (w : World) (K : PySem.W.Frag) (CM CC a : Addr) (zs : List Int) (Tb : List (Addr × Str)) : L2.St → Hp → Prop := fun σ H => ∃ (f : Nat → Option V) (d : Da) (sm : Addr) (l : List Doing), σ = fr f ∧ Kn P w K CM CC a zs Tb d f H ∧ f 8 = some (.ref sm) ∧ R H (.ref sm) (.list (l.map dD)) ∧ l.length ≤ 4 ∧ ∀ x ∈ l, x ∈ doings d.ts d.ns 0 3000
structure Gr (d : Da) (f : Nat → Option V) (H : Hp) (gA : Addr) (G : List Doing) : Prop where
  f9 : f 9 = some (.ref gA)
  r : R H (.ref gA) (.list (G.map dD))
  ne : G ≠ []
  le : G.length ≤ 54
  sub : ∀ x ∈ G, x ∈ doings d.ts d.ns 0 3000
def J8 (P : Program) (w : World) (K : PySem.W.Frag) (CM CC a : Addr) (zs : List Int) (Tb : List (Addr × Str)) : L2.St → Hp → Prop := fun σ H => ∃ f d gA G, σ = fr f ∧ Kn P w K CM CC a zs Tb d f H ∧ Gr d f H gA G
def J9 (P : Program) (w : World) (K : PySem.W.Frag) (CM CC a : Addr) (zs : List Int) (Tb : List (Addr × Str)) : L2.St → Hp → Prop := fun σ H => ∃ f d gA G v dd, σ = fr f ∧ Kn P w K CM CC a zs Tb d f H ∧ Gr d f H gA G ∧ f 10 = some v ∧ R H v dd ∧ DueOk dd
theorem Kn.few {d : Da} {f : Nat → Option V} {H : Hp} (h : Kn P w K CM CC a zs Tb d f H) {x : Doing} (hx : x ∈ doings d.ts d.ns 0 3000) : Few x := (h.g.dg hx).few h.g
theorem Gr.due {d : Da} {f : Nat → Option V} {H : Hp} {gA : Addr} {G : List Doing} (g : Gr d f H gA G) (h : Kn P w K CM CC a zs Tb d f H) : DueOk (.list (G.map dD)) := due_seq true (by rw [List.length_map]; have := g.le; omega) fun dd hd => by
  obtain ⟨x, hx, rfl⟩ := List.mem_map.mp hd
  exact sm_d (h.few (g.sub x hx))
theorem lawS6 (hr : RoomL fa c A s) (T : Txt K mg) (D__law_take : Def P w K mg base 1 "_law_take" ["_law_box_here", "_law_many"] spTake) (D__law_pick : Def P w K mg base 2 "_law_pick" ["_law_box_here", "_law_some"] (spPick K)) : PS (XL P w K mg base fa c A outer s H0 E0) (lst 6) (tPP (J6 P w K CM CC a zs Tb) (J7 P w K CM CC a zs Tb)) := by
  have nd := scLaw.nd
  refine ps_pp (ps_setLc (i := 8) (own := [("_law_turn", 7)]) (g := gName 7) (tt := tYes) (te := tCall (spPick K) [] (fun _ _ _ => False) (tCons (tVar 2) (tCons (tCB (rSortN P w) (tCons (tVar 6) tNil)) tNil))) rfl nd rfl rfl (sw_true rfl rfl rfl (by decide +kernel)) (pi_range1 (by rfl) (T.no "range" (by decide)) (pa_cons (pcall D__law_take hr (by decide) (pa_cons (pv 2) (pa_cons pe_int pa_nil))) pa_nil)) (blkOk_by (N := lawN) (sc := defScope sLaw) (by decide +kernel)) (fun _ _ _ _ _ => (pg_name (i := 7) nd rfl (Or.inl rfl))) (fun _ _ _ _ _ => pts_nil) (fun _ _ _ _ _ => (pcall D__law_pick hr (by decide) (pa_cons (pv 2) (pa_cons (pe_callB (cr_sortN rfl (hu64 hr)) (by rfl) (T.no "sorted" (by decide)) boot_sorted (pa_cons (pv 6) pa_nil)) pa_nil))))) ?_
  rintro D σ H ⟨f, d, rfl, kn⟩ q
  refine ⟨_, at_ kn.f2, d.b, 3, rfl, kn.box, by decide, by decide, fun n hn => ⟨_, rfl, by omega, by omega, fun D1 hD1 => ?_⟩⟩
  refine lc_ds walk_range hD1 (by rw [sizeLine_eq]; omega) (fun H' e => trivial) (fun x => x ∈ doings d.ts d.ns 0 3000) ?_ ?_
  · rintro i xv H2 H2' Post hi e2 ⟨rfl, hx⟩ kk
    have kn2 := kn.ex e2
    refine ⟨rfl, _, at_ kn.f2, _, at_ kn.f6, tnil (sort_k kn2.know.dn fun l vs' H3 e3 hl rv => tnil ⟨d.b, l, vs', rfl, e3 _ _ kn2.box, SqL.of hl, fun z => ?_, ?_, fun v hv => ?_⟩)⟩
    · have := rv.length
      rw [z, List.length_map, sortW_len] at this
      have h0 := kn.g.no_mem (N := 3000)
      rw [List.eq_nil_of_length_eq_zero this.symm] at h0
      cases h0
    · rw [rv.length, List.length_map, sortW_len]
      have := kn.g.le54 (N := 3000); omega
    · obtain ⟨j, hj⟩ := List.getElem?_of_mem hv
      obtain ⟨dd, h1, h2⟩ := RAll.get rv hj
      rw [List.getElem?_map] at h1
      cases hz : (sortW (doings d.ts d.ns 0 3000))[j]? with
      | none => rw [hz] at h1; cases h1
      | some z =>
        rw [hz] at h1; cases h1
        exact kk _ _ z e3 ((sortW_perm _).mem_iff.mp (List.mem_of_getElem? hz)) h2
  · intro acc l H2 e2 hD ll hl rv
    exact q _ _ ⟨pt f 8 (.ref D1), d, D1, l, rfl, (show Kn P w K CM CC a zs Tb d (pt f 8 (.ref D1)) H from ⟨kn.f0, kn.f2, kn.f3, kn.f4, kn.f5, kn.f6, kn.f16, kn.f17, kn.f18, kn.b0, kn.box, kn.tab, kn.rr, kn.g, kn.mach, kn.coun, kn.stat, kn.know⟩).ex e2, rfl, .lst hD rv, by omega, hl⟩
theorem Kn.put {d : Da} {f : Nat → Option V} {H : Hp} (kn : Kn P w K CM CC a zs Tb d f H) {i : Nat} {v : V} (h : i ∉ [0, 2, 3, 4, 5, 6, 16, 17, 18]) : Kn P w K CM CC a zs Tb d (pt f i v) H := by
  have n : ∀ j, j ∈ [0, 2, 3, 4, 5, 6, 16, 17, 18] → pt f i v j = f j := fun j hj => by unfold pt; exact if_neg fun z => h (by rw [← z]; exact hj)
  exact ⟨(n 0 (by simp)).trans kn.f0, (n 2 (by simp)).trans kn.f2, (n 3 (by simp)).trans kn.f3, (n 4 (by simp)).trans kn.f4, (n 5 (by simp)).trans kn.f5, (n 6 (by simp)).trans kn.f6, (n 16 (by simp)).trans kn.f16, (n 17 (by simp)).trans kn.f17, (n 18 (by simp)).trans kn.f18, kn.b0, kn.box, kn.tab, kn.rr, kn.g, kn.mach, kn.coun, kn.stat, kn.know⟩
theorem lawS7 (hr : RoomL fa c A s) (T : Txt K mg) (D__law_made : Def P w K mg base 3 "_law_made" ["_law_tables_here", "_law_first", "_law_rounds", "_law_some"] (spMaL P w)) : PS (XL P w K mg base fa c A outer s H0 E0) (lst 7) (tPP (J7 P w K CM CC a zs Tb) (J8 P w K CM CC a zs Tb)) := by
  have nd := scLaw.nd
  refine ps_pp (ps_set (i := 9) nd rfl (Or.inl rfl) (pe_callB (cr_sortN rfl (hu64 hr)) (by rfl) (T.no "sorted" (by decide)) boot_sorted (pa_cons (pcall D__law_made hr (by decide) (pa_cons (pv 3) (pa_cons (pv 17) (pa_cons (pv 4) (pa_cons (pv 8) pa_nil))))) pa_nil))) ?_
  rintro D σ H ⟨f, d, sm, l, rfl, kn, f8, rl', ll, hl⟩ q
  have g := kn.g
  refine ⟨_, at_ kn.f3, _, at_ kn.f17, _, at_ kn.f4, _, at_ f8, tnil ⟨d.p, d.r, sm, d.ts, d.ns, 0, l, rfl, kn.tab, g.tb.ok, g.f0, .lst kn.rr (rall_n _), g.len, g.z, rl', ll, fun x hx => (g.dg (hl x hx)).fd, fun D1 H1 e1 dm => tnil (sort_k dm.dn fun gA vs' H2 e2 hg rv => q _ _ ?_)⟩⟩
  obtain ⟨m1, m2, m3, m4⟩ := g.made (N := 3000) (M := 3000) (by decide) hl
  have pm := sortW_perm (madeL (rl d.ts 0) d.ns l (nothing d.ts 0) 3000)
  refine ⟨pt f 9 (.ref gA), d, gA, sortW (madeL (rl d.ts 0) d.ns l (nothing d.ts 0) 3000), rfl, (kn.put (by decide)).ex (e1.tr e2), rfl, .lst hg rv, fun z => ?_, ?_, fun x hx => m1 x (pm.mem_iff.mp hx)⟩
  · have := pm.length_eq
    rw [z] at this
    exact m3 (List.eq_nil_of_length_eq_zero this.symm)
  · rw [pm.length_eq]; exact m4
theorem lawS8 : PS (XL P w K mg base fa c A outer s H0 E0) (lst 8) (tPP (J8 P w K CM CC a zs Tb) (J9 P w K CM CC a zs Tb)) := by
  have nd := scLaw.nd
  refine ps_pp (ps_set (i := 10) nd rfl (Or.inl rfl) (pv 9)) ?_
  rintro D σ H ⟨f, d, gA, G, rfl, kn, gr⟩ q
  exact ⟨_, at_ gr.f9, q _ _ ⟨pt f 10 (.ref gA), d, gA, G, .ref gA, _, rfl, kn.put (by decide), ⟨gr.f9, gr.r, gr.ne, gr.le, gr.sub⟩, rfl, gr.r, gr.due kn⟩⟩
end
end Onew
end
section
set_option maxRecDepth 100000
set_option maxHeartbeats 8000000
namespace Onew
open PySem PySem.Spec PyProof.Rows L2 G
open LamX (CodeO TabS Tabs ExtN TabB GivesTo LamS lamCx lamEnv tLam)
open Mx (Tab im Rch rl rowF forgF doneOn Fm nextD nextP TbOk Perm1)
abbrev ikgK : List Str := ["most", "value", "counters", "first", "machine"]
abbrev kepK : List Str := ["most", "start", "witness", "counters", "first", "machine"]
section
variable {P : Program} {w : World} {K : PySem.W.Frag} {mg : Str → Option Value} {base : Heap} {CM CC CR CN CF CT CB CW eA : Addr} {cb : Bool} {fa c : Addr} {A : Around} {outer : List Env} {s : Shared} {H0 : Hp} {E0 : XK} {a : Addr} {zs : List Int} {Tb : List (Addr × Str)}
theorem Kn.gd {d : Da} {f : Nat → Option V} {H : Hp} (kn : Kn P w K CM CC a zs Tb d f H) : GoodF d.ts d.ns (List.replicate d.ns.length 0) (.int ((0 : Nat) : Int)) 0 := ⟨rfl, kn.g.f0, kn.g.len, ⟨kn.g.z, fun e he => (List.mem_replicate.mp he).2⟩, kn.g.keep⟩
theorem Kn.need {d : Da} {f : Nat → Option V} {H : Hp} (kn : Kn P w K CM CC a zs Tb d f H) {E : XK} : NeedD CM CC CR CN CF H d.mA (.int ((0 : Nat) : Int)) (.int ((0 : Nat) : Int)) d.cA d.ts d.ns (List.replicate d.ns.length 0) E (fun _ => True) :=
  need_good kn.mach kn.g.tb.ok kn.coun (by rw [List.length_replicate, kn.g.len]; exact kn.g.tb.ok.l4) kn.gd
/-- is_kept_group answers as due is -/
theorem Kn.ikg {d : Da} {f : Nat → Option V} {H : Hp} (kn : Kn P w K CM CC a zs Tb d f H) {v : V} {dd : PyData} (r : R H v dd) (ok : DueOk dd) {Q : VK} {E : XK} (q : ∀ H', Ex H H' → Q (.bl (keptD (rl d.ts 0) d.ns (doings d.ts d.ns 0 3000) 0 dd)) H') : spIKG CM CC CR CN CF CT [.ref d.mA, .int ((0 : Nat) : Int), .ref d.cA, v, .int ((3000 : Nat) : Int)] H Q E := by
  refine ⟨d.mA, _, d.cA, v, _, dd, d.ts, d.ns, _, 3000, 3000, rfl, by decide, by decide, kn.need, r, ok.sm, fun f' g => ?_⟩
  have ef : f' = 0 := by have := g.d; injection this with z; omega
  subst ef
  have l54 := kn.g.le54 (N := 3000)
  refine ⟨by omega, fun _ H' e => ?_, fun h => absurd h (by omega)⟩
  rw [keptD_sort]
  exact q H' e
theorem lawS9 (hr : RoomL fa c A s) (hg : A.guards = some []) (T : Txt K mg) (D__law_due : Def P w K mg base 2 "_law_due" ["_law_tables_here", "_law_first", "_law_rounds", "_law_known", "_law_value"] (spDue P w)) (D__law_bent : Def P w K mg base 3 "_law_bent" ["_law_box_here", "_law_group", "_law_known"] spBent)
    (D_ikg : DefK P w K mg base 11 "is_kept_group" ikgN 4 ["most"] (fun vs zs => vs ++ zs) (spIKG CM CC CR CN CF CT)) (D_ikg0 : DefK P w K mg base 11 "is_kept_group" ikgN 0 ikgK (fun _ zs => zs.reverse) (spIKG CM CC CR CN CF CT)) : PS (XL P w K mg base fa c A outer s H0 E0) (lst 9) (tPP (J9 P w K CM CC a zs Tb) (J8 P w K CM CC a zs Tb)) := by
  have nd := scLaw.nd
  refine ps_pp (ps_for (passes_of rfl) rfl (pi_range1 (by rfl) (T.no "range" (by decide)) (pa_cons pe_int pa_nil)) (pg_name (i := 7) nd rfl (Or.inl rfl)) (pss_cons (ps_set (i := 11) nd rfl (Or.inl rfl) (pcall D__law_due hr (by decide) (pa_cons (pv 3) (pa_cons (pv 17) (pa_cons (pv 4) (pa_cons (pv 6) (pa_cons (pv 10) pa_nil)))))))
      (pss_cons (ps_if (pt_cmpR op_ne (pe_callB (cr_reprG hg (hu64 hr)) (by rfl) (T.no "repr" (by decide)) boot_repr (pa_cons (pe_lst (pa_cons (pcallK (X := XL P w K mg base fa c A outer s H0 E0) (E := fun _ _ _ => False) D_ikg hr (by decide) L2.takes0 (fun _ _ _ _ h => h) (pa_cons (pv 18) (pa_cons (pv 17) (pa_cons (pv 16) (pa_cons (pv 10) pa_nil)))) (pk_cons pe_int pk_nil)) (pa_cons (pcallK0 (X := XL P w K mg base fa c A outer s H0 E0) (E := fun _ _ _ => False) D_ikg0 hr (by decide) L2.takes0 (fun _ _ _ _ h => h) (pk_cons pe_int (pk_cons (pv 10) (pk_cons (pv 16) (pk_cons (pv 17) (pk_cons (pv 18) pk_nil)))))) pa_nil))) pa_nil)) (pe_callB (cr_reprG hg (hu64 hr)) (by rfl) (T.no "repr" (by decide)) boot_repr (pa_cons (pe_lst (pa_cons (pv 11) (pa_cons (pv 11) pa_nil))) pa_nil)) (nomark _)) (pss_one (ps_ret pe_bl)) pss_nil)
      (pss_one (ps_set (i := 10) nd rfl (Or.inl rfl) (pcall D__law_bent hr (by decide) (pa_cons (pv 2) (pa_cons (pv 9) (pa_cons (pe_callB (cr_sortN rfl (hu64 hr)) (by rfl) (T.no "sorted" (by decide)) boot_sorted (pa_cons (pv 6) pa_nil)) pa_nil))))))))) ?_
  rintro D σ H ⟨f, d, gA, G, v, dd, rfl, kn, gr, f10, rv, du⟩ q
  refine ⟨7, rfl, by decide, by decide, ?_⟩
  refine for_it walk_range (fun i σ H' => ∃ (f : Nat → Option V) (v : V) (dd : PyData), σ = fr f ∧ Kn P w K CM CC a zs Tb d f H' ∧ Gr d f H' gA G ∧ f 10 = some v ∧ R H' v dd ∧ DueOk dd) ⟨f, v, dd, rfl, kn, gr, f10, rv, du⟩ (fun _ _ _ _ _ => trivial) ?_ ?_
  · clear kn gr f10 rv du
    rintro i xv σ H2 H2' hi ⟨f, v, dd, rfl, kn, gr, f10, rv, du⟩ ⟨rfl, hx⟩
    have g := kn.g
    refine ⟨_, at_ kn.f3, _, at_ kn.f17, _, at_ kn.f4, _, at_ kn.f6, _, at_ f10, tnil ⟨d.p, d.r, d.kA, v, dd, d.ts, d.ns, 0, doings d.ts d.ns 0 3000, rfl, kn.tab, g.tb.ok, g.f0, .lst kn.rr (rall_n _), by rw [g.len]; exact g.tb.ok.l4, g.z, kn.know.dn, fun x hx => (g.dg hx).fd, rv, du, fun H3 e3 => ?_⟩⟩
    generalize hB : keptD (rl d.ts 0) d.ns (doings d.ts d.ns 0 3000) 0 dd = B
    have kn3 := kn.ex e3
    refine ⟨_, at_ kn.f18, _, at_ kn.f17, _, at_ kn.f16, _, at_ f10, rfl, rfl, kn3.ikg (rv.ex e3) du fun H4 e4 => ?_⟩
    rw [hB]
    have kn4 := kn3.ex e4
    refine ⟨_, at_ f10, _, at_ kn.f16, _, at_ kn.f17, _, at_ kn.f18, rfl, rfl, kn4.ikg (rv.ex (e3.tr e4)) du fun H5 e5 => ?_⟩
    rw [hB]
    refine tnil ⟨by show 2 ≤ sizeLine; decide, fun l hl => tnil (repr_bb upd_same ?_)⟩
    have e6 := Ex.new (o := .lst [V.bl B, .bl B]) hl
    refine ⟨_, rfl, _, rfl, by show 2 ≤ sizeLine; decide, fun l2 hl2 => tnil (repr_bb upd_same ⟨rfl, _, rfl, ?_⟩)⟩
    have e7 := Ex.new (o := .lst [V.bl B, .bl B]) hl2
    have e37 := e3.tr (e4.tr (e5.tr (e6.tr e7)))
    have kn7 := kn.ex e37
    refine itF (by simp) ⟨_, at_ kn.f2, _, at_ gr.f9, _, at_ kn.f6, tnil (sort_k kn7.know.dn fun l3 vs' H8 e8 hl3 rv3 => tnil ⟨d.b, gA, l3, G, sortW (doings d.ts d.ns 0 3000), rfl, e8 _ _ kn7.box, gr.r.ex (e37.tr e8), .lst hl3 rv3, gr.ne, fun z => ?_, by have := gr.le; omega, ?_, fun x hx => kn.few (gr.sub x hx), fun x hx => kn.few ((sortW_perm _).mem_iff.mp hx), fun v' d' H9 e9 r9 du9 => ?_⟩)⟩
    · have h0 := (sortW_perm (doings d.ts d.ns 0 3000)).mem_iff.mpr (g.no_mem (N := 3000))
      rw [z] at h0; cases h0
    · rw [sortW_len]; have := g.le54 (N := 3000); omega
    · have e39 := e37.tr (e8.tr e9)
      exact ⟨_, v', d', rfl, ((kn.put (i := 7) (v := xv) (by decide)).put (i := 11) (v := .bl B) (by decide) |>.put (i := 10) (v := v') (by decide)).ex e39, ⟨gr.f9, gr.r.ex e39, gr.ne, gr.le, gr.sub⟩, rfl, r9, du9⟩
  · rintro σ H2 ⟨f, v, dd, rfl, kn, gr, f10, rv, du⟩
    exact q _ _ ⟨f, d, gA, G, rfl, kn, gr⟩
end
end Onew
end
section
set_option maxRecDepth 100000
set_option maxHeartbeats 8000000
namespace Onew
open PySem PySem.Spec PyProof.Rows L2 G
open LamX (CodeO TabS Tabs ExtN TabB GivesTo LamS lamCx lamEnv tLam)
open Mx (Tab im Rch rl rowF forgF doneOn Fm nextD nextP TbOk Perm1)
/-- things in a list, each as it comes -/
theorem lc_any {α : Type} {J : It} {n : Nat} {C : Hp → Prop} {Y : Nat → Hp → V → Hp → Prop} (Wk : Walk J n C Y) {g : TG} {te : TE} {vs : List Nat} {σ : L2.St} {H1 : Hp} {D : Addr} {Qd : Hp → Prop} (hD : H1 D = none) (hz : n ≤ sizeLine) (hC : ∀ H, Ex H1 H → C H) (out : α → PyData) (hno : ∀ z, noL (out z) = true) (good : α → Prop)
    (step : ∀ i x H H' (Post : VK), i < n → Ex H1 H → Y i H x H' → (∀ y H4 z, Ex H H4 → good z → R H4 y (out z) → Post y H4) → g x (wipe σ vs) H' fun σ2 H2 => wipe σ2 vs = wipe σ vs ∧ te σ2 H2 Post)
    (done : ∀ (acc : List V) (l : List α) H, Ex H1 H → H D = some (.lst acc) → l.length = n → (∀ z ∈ l, good z) → RAll H acc (l.map out) → Qd H) :
    ∃ Wm : Nat → Nat → Hp → Prop, (∃ m, Wm 0 m (upd H1 D (.lst []))) ∧ ∀ i m H, Wm i m H →
      (J.stop i H ∧ Qd H) ∨ (J.go i H ∧ ∃ Nx : Hp → Prop, (∀ H', Nx H' → ∃ m', m' < m ∧ Wm (i + 1) m' H') ∧ ∀ x H', J.yld i H x H' → g x (wipe σ vs) H' fun σ2 H2 => wipe σ2 vs = wipe σ vs ∧ tYes σ2 H2 fun b H3 =>
        if b = true then te σ2 H3 fun y H4 => ∃ acc, H4 D = some (.lst acc) ∧ acc.length < sizeLine ∧ Nx (upd H4 D (.lst (acc ++ [y]))) else Nx H3) := by
  have nls : ∀ l : List α, noLs (l.map out) = true := fun l => by
    induction l with
    | nil => rfl
    | cons z l ih => rw [List.map_cons, noLs, hno, ih]; rfl
  refine lc_it Wk (fun i H => ∃ (acc : List V) (l : List α), H D = some (.lst acc) ∧ Ex H1 H ∧ l.length = i ∧ (∀ z ∈ l, good z) ∧ RAll H acc (l.map out)) ⟨[], [], upd_same, Ex.new hD, rfl, fun z hz => absurd hz (by simp), .nil⟩ (fun i H _ ⟨acc, l, _, e, _⟩ => hC H e) ?_ (fun H ⟨acc, l, h1, h2, h3, h4, h5⟩ => done acc l H h2 h1 h3 h4 h5)
  rintro i x H H' hi ⟨acc, l, h1, h2, h3, h4, h5⟩ y
  have hlen : acc.length = i := by rw [h5.length, List.length_map, h3]
  have q := step i x H H' (fun y H4 => ∃ acc, H4 D = some (.lst acc) ∧ acc.length < sizeLine ∧ ∃ (acc' : List V) (l' : List α), upd H4 D (.lst (acc ++ [y])) D = some (.lst acc') ∧ Ex H1 (upd H4 D (.lst (acc ++ [y]))) ∧ l'.length = i + 1 ∧ (∀ z ∈ l', good z) ∧ RAll (upd H4 D (.lst (acc ++ [y]))) acc' (l'.map out)) hi h2 y fun y H4 z e4 gz rz => by
    refine ⟨acc, e4 _ _ h1, by omega, acc ++ [y], l ++ [z], upd_same, (h2.tr e4).mut hD, by rw [List.length_append, h3]; rfl, fun z' hz' => ?_, ?_⟩
    · rcases List.mem_append.mp hz' with h | h
      · exact h4 z' h
      · rw [List.mem_singleton.mp h]; exact gz
    · have tx : Tx H4 (upd H4 D (.lst (acc ++ [y]))) := Tx.put (e4 _ _ h1) (fun xs z => by cases z)
      rw [List.map_append]
      exact RAll.app (RAll.tx tx _ _ (nls l) (h5.ex e4)) (RAll.one (R.tx tx _ _ (hno z) rz))
  exact q
section
variable {P : Program} {w : World} {K : PySem.W.Frag} {mg : Str → Option Value} {base : Heap} {CM CC CR CN CF CT CB CW eA : Addr} {cb : Bool} {fa c : Addr} {A : Around} {outer : List Env} {s : Shared} {H0 : Hp} {E0 : XK} {a : Addr} {zs : List Int} {Tb : List (Addr × Str)}
def J11 (P : Program) (w : World) (K : PySem.W.Frag) (CM CC a : Addr) (zs : List Int) (Tb : List (Addr × Str)) : L2.St → Hp → Prop := fun σ H => ∃ (f : Nat → Option V) (d : Da) (many : Nat), σ = fr f ∧ Kn P w K CM CC a zs Tb d f H ∧ f 12 = some (.int (many : Nat)) ∧ 1 ≤ many ∧ many ≤ 4
/-- rows of a witness -/
structure RowW (many : Nat) (t : List Nat) : Prop where
  l : t.length = many + 1
  p : Perm1 many t
  lt : ∀ n ∈ t, n < many + 1
def J12 (P : Program) (w : World) (K : PySem.W.Frag) (CM CC a : Addr) (zs : List Int) (Tb : List (Addr × Str)) : L2.St → Hp → Prop := fun σ H => ∃ (f : Nat → Option V) (d : Da) (many : Nat) (wA : Addr) (ws : Tab), σ = fr f ∧ Kn P w K CM CC a zs Tb d f H ∧ f 12 = some (.int (many : Nat)) ∧ 1 ≤ many ∧ many ≤ 4 ∧ f 21 = some (.ref wA) ∧ R H (.ref wA) (lD ws) ∧ ws.length = d.ts.length ∧ ∀ t ∈ ws, RowW many t
structure Wt (d : Da) (f : Nat → Option V) (H : Hp) (wA : Addr) (ws : Tab) (many st : Nat) : Prop where
  f12 : f 12 = some (.int (many : Nat))
  f20 : f 20 = some (.int (st : Nat))
  f21 : f 21 = some (.ref wA)
  r : R H (.ref wA) (lD ws)
  w : Wit d.ts ws many st
theorem Wt.nx {d : Da} {f : Nat → Option V} {H H' : Hp} {wA : Addr} {ws : Tab} {many st : Nat} (h : Wt d f H wA ws many st) (e : Nx H H') : Wt d f H' wA ws many st := ⟨h.f12, h.f20, h.f21, h.r.nx e, h.w⟩
theorem Wt.ex {d : Da} {f : Nat → Option V} {H H' : Hp} {wA : Addr} {ws : Tab} {many st : Nat} (h : Wt d f H wA ws many st) (e : Ex H H') : Wt d f H' wA ws many st := h.nx (Ex.n e)
def J13 (P : Program) (w : World) (K : PySem.W.Frag) (CM CC a : Addr) (zs : List Int) (Tb : List (Addr × Str)) : L2.St → Hp → Prop := fun σ H => ∃ (f : Nat → Option V) (d : Da) (wA : Addr) (ws : Tab) (many st : Nat), σ = fr f ∧ Kn P w K CM CC a zs Tb d f H ∧ Wt d f H wA ws many st
def J14 (P : Program) (w : World) (K : PySem.W.Frag) (CM CC a : Addr) (zs : List Int) (Tb : List (Addr × Str)) : L2.St → Hp → Prop := fun σ H => ∃ (f : Nat → Option V) (d : Da) (wA : Addr) (ws : Tab) (many st : Nat) (oA : Addr), σ = fr f ∧ Kn P w K CM CC a zs Tb d f H ∧ Wt d f H wA ws many st ∧ f 13 = some (.ref oA) ∧ R H (.ref oA) (.list ((pairs d.ts d.ns ws 0 st 6000).map pD))
theorem lawS10 (hr : RoomL fa c A s) (D__law_take : Def P w K mg base 1 "_law_take" ["_law_box_here", "_law_many"] spTake) : PS (XL P w K mg base fa c A outer s H0 E0) (lst 10) (tPP (J8 P w K CM CC a zs Tb) (J11 P w K CM CC a zs Tb)) := by
  have nd := scLaw.nd
  refine ps_pp (ps_set (i := 12) nd rfl (Or.inr rfl) (pe_op op_add pe_int (pcall D__law_take hr (by decide) (pa_cons (pv 2) (pa_cons pe_int pa_nil))))) ?_
  rintro D σ H ⟨f, d, gA, G, rfl, kn, gr⟩ q
  refine ⟨_, at_ kn.f2, d.b, 4, rfl, kn.box, by decide, by decide, fun n hn => ⟨_, _, rfl, rfl, q _ _ ⟨pt f 12 (.int (1 + (n : Int))), d, 1 + n, rfl, kn.put (by decide), ?_, by omega, by omega⟩⟩⟩
  show some (V.int (1 + (n : Int))) = some (.int ((1 + n : Nat) : Int))
  rw [Int.natCast_add]; rfl
theorem lawS11 (hr : RoomL fa c A s) (T : Txt K mg) (D__law_mixed : Def P w K mg base 2 "_law_mixed" ["_law_box_here", "_law_some"] (spMixed K)) : PS (XL P w K mg base fa c A outer s H0 E0) (lst 11) (tPP (J11 P w K CM CC a zs Tb) (J12 P w K CM CC a zs Tb)) := by
  have nd := scLaw.nd
  refine ps_pp (ps_set (i := 21) nd rfl (Or.inr rfl) (pe_lc (own := [("_law_table", 24)]) (g := gName 24) (tt := tYes) (te := tCB (rTup K) (tCons (tOp rCat (tCall (spMixed K) [] (fun _ _ _ => False) (tCons (tVar 2) (tCons (tLstRg (tRg1 (tVar 12))) tNil))) (tLst (tCons (tC (.int 0)) tNil))) tNil)) rfl nd (pi_list (pv 3)) (blkOk_by (N := lawN) (sc := defScope sLaw) (by decide +kernel)) (fun _ _ _ _ _ => (pg_name (i := 24) nd rfl (Or.inl rfl))) (fun _ _ _ _ _ => pts_nil) (fun _ _ _ _ _ => (pe_callTy cr_tup (by rfl) (T.no "tuple" (by decide)) boot_tuple (pa_cons (pe_op op_cat (pcall D__law_mixed hr (by decide) (pa_cons (pv 2) (pa_cons (pe_listRg rfl (by rfl) (T.no "list" (by decide)) (prg_1 (by rfl) (T.no "range" (by decide)) (pv 12))) pa_nil))) (pe_lst (pa_cons pe_int pa_nil))) pa_nil))))) ?_
  rintro D σ H ⟨f, d, many, rfl, kn, f12, m1, m4⟩ q
  obtain ⟨t', vs, et, ht, rvs⟩ := r_l kn.tab
  cases et
  have lvs : vs.length = d.ts.length := by rw [rvs.length, List.length_map]
  have l4 := kn.g.tb.ok.l4
  refine ⟨_, at_ kn.f3, d.p, rfl, ⟨vs, SqL.of ht⟩, fun D1 hD1 => ?_⟩
  refine lc_any walk_list hD1 (by rw [lvs, sizeLine_eq]; omega) (fun H' e => SqL.of (e _ _ ht)) iD (fun z => noL_n z) (RowW many) ?_ ?_
  · rintro i xv H2 H2' Post hi e2 ⟨rfl, hx⟩ kk
    have er : rgV 0 (many : Nat) = nV (List.range many) := by
      unfold rgV nV
      rw [show ((many : Nat) - 0 : Int).toNat = many by omega]
      exact List.map_congr_left fun i _ => by rw [Int.zero_add]
    refine ⟨rfl, _, at_ kn.f2, _, at_ f12, _, rfl, RgOk.of_le (by omega) (by omega) (by omega) (by omega), fun l hl => ?_⟩
    rw [er]
    have e3 := Ex.new (o := .lst (nV (List.range many))) hl
    refine tnil ⟨d.b, l, nV (List.range many), rfl, e3 _ _ (e2 _ _ kn.box), .inl (SqL.of upd_same), by rw [nV_len, List.length_range]; omega, fun p ys H3 e4 hp pm => ?_⟩
    obtain ⟨ys', rfl, pm'⟩ := perm_nV pm
    refine ⟨by show 1 ≤ sizeLine; decide, fun z hz => ⟨p, z, nV ys', [.int 0], rfl, rfl, (Ex.new hz) _ _ hp, upd_same, ?_, fun y hy => tnil ⟨y, nV ys' ++ [.int 0], rfl, .inl ⟨SqL.of upd_same, fun t ht => ?_⟩⟩⟩⟩
    · rw [nV_len, pm'.length_eq, List.length_range, sizeLine_eq]; show many + 1 ≤ _; omega
    have e5 := e3.tr (e4.tr ((Ex.new (o := .lst [V.int 0]) hz).tr ((Ex.new (o := .lst (nV ys' ++ [V.int 0])) hy).tr (Ex.new (o := .tup (nV ys' ++ [V.int 0])) ht))))
    have ly : ys'.length = many := by rw [pm'.length_eq, List.length_range]
    refine kk _ _ (ys' ++ [0]) e5 ⟨by rw [List.length_append, ly]; rfl, (Mx.perm_of pm').app (by omega), fun n hn => ?_⟩ (.tup upd_same (by rw [show nV ys' ++ [V.int 0] = nV (ys' ++ [0]) from nV_app ys' [0]]; exact rall_n _))
    rcases List.mem_append.mp hn with h | h
    · have := List.mem_range.mp (pm'.mem_iff.mp h); omega
    · rw [List.mem_singleton.mp h]; omega
  · intro acc l H2 e2 hD ll hl rv
    exact q _ _ ⟨pt f 21 (.ref D1), d, many, D1, l, rfl, (kn.put (by decide)).ex e2, f12, m1, m4, rfl, .lst hD rv, by omega, hl⟩
theorem lawS12 (hr : RoomL fa c A s) (D__law_take : Def P w K mg base 1 "_law_take" ["_law_box_here", "_law_many"] spTake) : PS (XL P w K mg base fa c A outer s H0 E0) (lst 12) (tPP (J12 P w K CM CC a zs Tb) (J13 P w K CM CC a zs Tb)) := by
  have nd := scLaw.nd
  refine ps_pp (ps_set (i := 20) nd rfl (Or.inr rfl) (pcall D__law_take hr (by decide) (pa_cons (pv 2) (pa_cons (pv 12) pa_nil)))) ?_
  rintro D σ H ⟨f, d, many, wA, ws, rfl, kn, f12, m1, m4, f21, rw', lw, hw⟩ q
  refine ⟨_, at_ kn.f2, _, at_ f12, d.b, many, rfl, kn.box, m1, by omega, fun n hn => q _ _ ⟨pt f 20 (.int (n : Nat)), d, wA, ws, many, n, rfl, kn.put (by decide), f12, rfl, f21, rw', ?_⟩⟩
  have l1 := kn.g.tb.ok.l1
  have l4 := kn.g.tb.ok.l4
  have em : Mx.mst ws = many + 1 := by
    cases ws with
    | nil => rw [← lw] at l1; exact absurd l1 (by simp)
    | cons t ws => exact (hw t (by simp)).l
  exact ⟨lw, ⟨by omega, by omega, by omega, by omega, fun t ht => ⟨by rw [em]; exact (hw t ht).l, by rw [em]; exact (hw t ht).lt⟩⟩, em, fun t ht => (hw t ht).p, hn, m4⟩
theorem lawS13 (hr : RoomL fa c A s) (D__law_walked : Def P w K mg base 3 "_law_walked" ["_law_tables_here", "_law_first", "_law_rounds", "_law_witness", "_law_start"] spWaL) : PS (XL P w K mg base fa c A outer s H0 E0) (lst 13) (tPP (J13 P w K CM CC a zs Tb) (J14 P w K CM CC a zs Tb)) := by
  have nd := scLaw.nd
  refine ps_pp (ps_set (i := 13) nd rfl (Or.inl rfl) (pcall D__law_walked hr (by decide) (pa_cons (pv 3) (pa_cons (pv 17) (pa_cons (pv 4) (pa_cons (pv 21) (pa_cons (pv 20) pa_nil))))))) ?_
  rintro D σ H ⟨f, d, wA, ws, many, st, rfl, kn, wt⟩ q
  have g := kn.g
  have ww := wt.w
  exact ⟨_, at_ kn.f3, _, at_ kn.f17, _, at_ kn.f4, _, at_ wt.f21, _, at_ wt.f20, tnil ⟨d.p, d.r, wA, d.ts, ws, d.ns, 0, st, rfl, wt.r, ww.ok, ww.len, by have := ww.m; have := ww.s; omega, kn.tab, g.tb.ok, g.f0, .lst kn.rr (rall_n _), g.len, g.z, fun oA H1 e1 r1 => q _ _ ⟨pt f 13 (.ref oA), d, wA, ws, many, st, oA, rfl, (kn.put (by decide)).ex e1, ⟨wt.f12, wt.f20, wt.f21, wt.r.ex e1, ww⟩, rfl, r1⟩⟩⟩
end
end Onew
end
section
set_option maxRecDepth 100000
set_option maxHeartbeats 8000000
namespace Onew
open PySem PySem.Spec PyProof.Rows L2 G
open LamX (CodeO TabS Tabs ExtN TabB GivesTo LamS lamCx lamEnv tLam)
open Mx (Tab im Rch rl rowF forgF doneOn Fm nextD nextP TbOk Perm1)
/-- the doings that lead the witness back, in order -/
noncomputable abbrev dueL (d : Da) (ws : Tab) (st : Nat) : List Doing := sortW (keptL (pairs d.ts d.ns ws 0 st 6000) st)
theorem wit_keep {ts ws : Tab} {many st : Nat} (w : Wit ts ws many st) : forgF 0 (rl ws st) ws = none := by
  have hs : st < Mx.mst ws := by have := w.m; have := w.s; omega
  have lt : ∀ s ∈ rl ws st, s < many := fun s hm => by
    have r := (Mx.mem_rl w.ok hs).mp hm
    clear hm
    induction r with
    | base => exact w.s
    | step r ht ih => exact (w.p _ ht).lt _ ih
  rw [Mx.forgF_none]
  intro row hr
  rw [Mx.rowF_none]
  exact (Mx.nodup_asc (Mx.rl_sorted ws st)).imp_of_mem fun ha hb h e => h ((w.p _ hr).inj _ (lt _ ha) _ (lt _ hb) e)
theorem cn_le : ∀ {cs ns : List Nat}, Cn cs ns → (∀ n ∈ ns, n ≤ 3) → ∀ c ∈ cs, c ≤ 8
  | [], [], _, _ => fun c h => absurd h (by simp)
  | c :: cs, n :: ns, h, hn => fun x hx => by
    rcases List.mem_cons.mp hx with e | e
    · have := h.1; have := hn n (by simp); omega
    · exact cn_le h.2 (fun m hm => hn m (by simp [hm])) x e
theorem Dg.sh {ts : Tab} {ns : List Nat} (g : Good ts ns) {x : Doing} (h : Dg ts ns x) : Sh x := by
  obtain ⟨h1, h2, h3⟩ := h.few g
  refine ⟨h2, h3, fun n hn => ?_, cn_le h.c fun n hn => (g.rng n hn).2⟩
  have := Mx.rl_lt g.tb.ok g.f0 (h.p.mem_iff.mp hn)
  have := g.tb.ok.m8
  omega
theorem shaped_tds (W : List Doing) : SeqAt.shaped (.tuple (W.map dD)) = true := by
  have h1 : ∀ x ∈ W.map dD, x.canLay0 = true := fun x hx => by
    obtain ⟨y, _, rfl⟩ := List.mem_map.mp hx
    exact canLay_d y
  unfold SeqAt.shaped
  rw [PyData.canLay0, lay_all h1, PyData.depth, Bool.true_and]
  have := dep_all (n := 2) fun x (hx : x ∈ W.map dD) => by
    obtain ⟨y, _, rfl⟩ := List.mem_map.mp hx
    exact depth_d y
  exact decide_eq_true (by omega)
theorem lay_tds (W : List Doing) : PyData.canLay0 (.tuple (W.map dD)) = true := by
  have h1 : ∀ x ∈ W.map dD, x.canLay0 = true := fun x hx => by
    obtain ⟨y, _, rfl⟩ := List.mem_map.mp hx
    exact canLay_d y
  rw [PyData.canLay0, lay_all h1]
theorem r_tl {H : Hp} {v : V} {ds : List PyData} (h : R H v (.tuple ds)) : ∃ a xs, v = .ref a ∧ H a = some (.tup xs) ∧ RAll H xs ds := by
  cases h with
  | tup h r => exact ⟨_, _, rfl, h, r⟩
section
variable {P : Program} {w : World} {K : PySem.W.Frag} {mg : Str → Option Value} {base : Heap} {CM CC CR CN CF CT CB CW eA : Addr} {cb : Bool} {fa c : Addr} {A : Around} {outer : List Env} {s : Shared} {H0 : Hp} {E0 : XK} {a : Addr} {zs : List Int} {Tb : List (Addr × Str)}
/-- two tuples of the same doings -/
theorem ne_tds {K : PySem.W.Frag} {H : Hp} {v u : V} {W : List Doing} {Q : VK} (rv : R H v (.tuple (W.map dD))) (ru : R H u (.tuple (W.map dD))) (q : Q (.bl false) H) : rNeD K v u H Q :=
  ⟨_, _, R.dp _ _ rv, R.dp _ _ ru, shaped_tds W, shaped_tds W, by rw [SeqAt.eqv_refl _ (lay_tds W)]; exact q⟩
structure Du (d : Da) (f : Nat → Option V) (H : Hp) (ws : Tab) (st : Nat) (oA dA : Addr) : Prop where
  f13 : f 13 = some (.ref oA)
  f11 : f 11 = some (.ref dA)
  ro : R H (.ref oA) (.list ((pairs d.ts d.ns ws 0 st 6000).map pD))
  rd : R H (.ref dA) (.tuple ((dueL d ws st).map dD))
theorem Du.nx {d : Da} {f : Nat → Option V} {H H' : Hp} {ws : Tab} {st : Nat} {oA dA : Addr} (h : Du d f H ws st oA dA) (e : Nx H H') : Du d f H' ws st oA dA := ⟨h.f13, h.f11, h.ro.nx e, h.rd.nx e⟩
theorem Du.ex {d : Da} {f : Nat → Option V} {H H' : Hp} {ws : Tab} {st : Nat} {oA dA : Addr} (h : Du d f H ws st oA dA) (e : Ex H H') : Du d f H' ws st oA dA := h.nx (Ex.n e)
def J15 (P : Program) (w : World) (K : PySem.W.Frag) (CM CC a : Addr) (zs : List Int) (Tb : List (Addr × Str)) : L2.St → Hp → Prop := fun σ H => ∃ (f : Nat → Option V) (d : Da) (wA : Addr) (ws : Tab) (many st : Nat) (oA dA : Addr), σ = fr f ∧ Kn P w K CM CC a zs Tb d f H ∧ Wt d f H wA ws many st ∧ Du d f H ws st oA dA
theorem Kn.pl {d : Da} {f : Nat → Option V} {H : Hp} (kn : Kn P w K CM CC a zs Tb d f H) {wA : Addr} {ws : Tab} {many st : Nat} (wt : Wt d f H wA ws many st) : (pairs d.ts d.ns ws 0 st 6000).length ≤ 216 ∧ 1 ≤ (pairs d.ts d.ns ws 0 st 6000).length := by
  refine ⟨prs_len kn.g wt.w, List.length_pos_iff.mpr fun z => ?_⟩
  have := prs_no (ts := d.ts) (ns := d.ns) (ws := ws) (st := st) (M := 6000)
  rw [z] at this; cases this
/-- kept_doings answers as due is -/
theorem Kn.kept {d : Da} {f : Nat → Option V} {H : Hp} (kn : Kn P w K CM CC a zs Tb d f H) {wA mW : Addr} {ws : Tab} {many st most : Nat} (ww : Wit d.ts ws many st) (hm : MachAt CM H mW ws) (h1 : 1 ≤ most) {Q : VK} {E : XK} (q : (pairs d.ts d.ns ws 0 st 6000).length ≤ most → ∀ v H', Ex H H' → R H' v (.tuple ((dueL d ws st).map dD)) → Q v H') (q2 : most < (pairs d.ts d.ns ws 0 st 6000).length → Rais E H CT "most" (.int (most : Nat))) :
    spKept CM CC CR CN CF CT [.ref d.mA, .int ((0 : Nat) : Int), .ref d.cA, .ref mW, .int (st : Nat), .int (most : Nat)] H Q E := by
  have hs : st < Mx.mst ws := by have := ww.m; have := ww.s; omega
  refine ⟨d.mA, _, d.cA, mW, .int (st : Nat), _, .int (st : Nat), d.ts, d.ns, _, ws, most, 6000, rfl, h1, by decide, kn.need, fun f' g => ?_⟩
  have ef : f' = 0 := by have := g.d; injection this with z; omega
  subst ef
  refine ⟨⟨kn.mach, hm, ww.ok, .int _, fun h => absurd ww.len h, fun _ h => ?_, fun s' es _ _ hn => ?_, fun _ _ _ _ _ _ _ => trivial⟩, fun s' es _ _ _ => ?_⟩
  · rw [belowD_nat (m := mst ws) (f := st) hs] at h; cases h
  · have e : s' = st := by injection es with z; omega
    subst e
    exact absurd (wit_keep ww) hn
  · have e : s' = st := by injection es with z; omega
    subst e
    have := prs_len kn.g ww (M := 6000)
    exact ⟨by omega, q, q2⟩
theorem Kn.dueSh {d : Da} {f : Nat → Option V} {H : Hp} (kn : Kn P w K CM CC a zs Tb d f H) {ws : Tab} {many st : Nat} (ww : Wit d.ts ws many st) : (∀ x ∈ dueL d ws st, x ∈ doings d.ts d.ns 0 3000) ∧ (dueL d ws st).length ≤ 54 := by
  have pm := sortW_perm (keptL (pairs d.ts d.ns ws 0 st 6000) st)
  have sub : ∀ x ∈ dueL d ws st, x ∈ doings d.ts d.ns 0 3000 := fun x hx => (prs_all kn.g ww (by decide) _ (mem_kept.mp (pm.mem_iff.mp hx))).1
  exact ⟨sub, Nat.le_trans (Mx.len_le_of_sub (pm.nodup_iff.mpr (kept_nd prs_nd)) sub) kn.g.le54⟩
theorem lawS14 (hr : RoomL fa c A s) (T : Txt K mg) : PS (XL P w K mg base fa c A outer s H0 E0) (lst 14) (tPP (J14 P w K CM CC a zs Tb) (J15 P w K CM CC a zs Tb)) := by
  have nd := scLaw.nd
  refine ps_pp (ps_set (i := 11) nd rfl (Or.inl rfl) (pe_callTy cr_tup (by rfl) (T.no "tuple" (by decide)) boot_tuple (pa_cons (pe_callB (cr_sortD (hu64 hr)) (by rfl) (T.no "sorted" (by decide)) boot_sorted (pa_cons (pe_lc (own := [("_law_doing", 22), ("_law_standing", 23)]) (g := gTup K 2 (gCons (gName 22) (gCons (gName 23) gNil))) (tt := tTest (tOp rEq (tVar 23) (tVar 20))) (te := tVar 22) rfl nd (pi_list (pv 13)) (blkOk_by (N := lawN) (sc := defScope sLaw) (by decide +kernel)) (fun _ _ _ _ _ => (pg_tup rfl (pgs_cons (pg_name (i := 22) nd rfl (Or.inl rfl)) (pgs_cons (pg_name (i := 23) nd rfl (Or.inl rfl)) pgs_nil)))) (fun _ _ _ _ _ => (pts_one (pt_cmpR op_eq (pv 23) (pv 20) (nomark _)))) (fun _ _ _ _ _ => (pv 22))) pa_nil)) pa_nil))) ?_
  rintro D σ H ⟨f, d, wA, ws, many, st, oA, rfl, kn, wt, f13, ro⟩ q
  obtain ⟨o', vs, eo, ho, rvs⟩ := r_l ro
  cases eo
  have pl := kn.pl wt
  have lvs : vs.length = (pairs d.ts d.ns ws 0 st 6000).length := by rw [rvs.length, List.length_map]
  refine ⟨_, at_ f13, oA, rfl, ⟨vs, SqL.of ho⟩, fun D1 hD1 => ?_⟩
  refine lc_filtT walk_list hD1 (pairs d.ts d.ns ws 0 st 6000) (fun z => dD z.1) (fun z => decide (z.2 = st)) lvs.symm (by rw [lvs, sizeLine_eq]; omega) (fun z _ => noL_d z.1) (fun H' e => SqL.of (e _ _ ho)) ?_ ?_
  · rintro i xv H2 H2' z Post Pf hi e2 ⟨rfl, hx⟩ hz kT kF
    obtain ⟨v, hv, r⟩ := RAll.at rvs (i := i) (d := pD z) (by rw [List.getElem?_map, hz]; rfl)
    rw [hx] at hv
    cases hv
    obtain ⟨pz, dz, rfl, hp, rd⟩ := r_p r
    refine ⟨pz, _, rfl, SqT.of (e2 _ _ hp), rfl, _, _, rfl, _, _, rfl, rfl, rfl, ?_⟩
    refine ⟨_, rfl, _, at_ wt.f20, rfl, _, rfl, ?_⟩
    by_cases e : z.2 = st
    · exact itT (eqT (by omega)) ⟨_, rfl, kT (decide_eq_true e) _ _ Ex.rfl' (rd.ex e2)⟩
    · exact itF (eqF (by omega)) (kF (decide_eq_false e) _ Ex.rfl')
  · intro acc H2 e2 hD rv
    have em : ((pairs d.ts d.ns ws 0 st 6000).filter fun z => decide (z.2 = st)).map (fun z => dD z.1) = (keptL (pairs d.ts d.ns ws 0 st 6000) st).map dD := by unfold keptL; rw [List.map_map]; rfl
    rw [em] at rv
    refine tnil (sort_d hD rv fun b vs' H3 e3 hb rb => tnil ⟨b, vs', rfl, .inl ⟨SqL.of hb, fun t ht => q _ _ ?_⟩⟩)
    have e4 := Ex.new (o := .tup vs') ht
    have e24 := e2.tr (e3.tr e4)
    exact ⟨pt f 11 (.ref t), d, wA, ws, many, st, oA, t, rfl, (kn.put (by decide)).ex e24, ⟨wt.f12, wt.f20, wt.f21, wt.r.ex e24, wt.w⟩, ⟨f13, rfl, ro.ex e24, .tup upd_same (rb.ex e4)⟩⟩
end
end Onew
end
section
set_option maxRecDepth 100000
set_option maxHeartbeats 8000000
namespace Onew
open PySem PySem.Spec PyProof.Rows L2 G
open LamX (CodeO TabS Tabs ExtN TabB GivesTo LamS lamCx lamEnv tLam)
open Mx (Tab im Rch rl rowF forgF doneOn Fm nextD nextP TbOk Perm1)
section
variable {P : Program} {w : World} {K : PySem.W.Frag} {mg : Str → Option Value} {base : Heap} {CM CC CR CN CF CT CB CW eA : Addr} {cb : Bool} {fa c : Addr} {A : Around} {outer : List Env} {s : Shared} {H0 : Hp} {E0 : XK} {a : Addr} {zs : List Int} {Tb : List (Addr × Str)}
/-- Machine(witness) -/
theorem made_wit {d : Da} {f : Nat → Option V} {H : Hp} {wA : Addr} {ws : Tab} {many st : Nat} {G : Addr → Hp → Prop} {E : XK} (wt : Wt d f H wA ws many st) (q : ∀ x H', Ex H H' → MachAt CM H' x ws → G x H') : ∀ x dx, H x = none → H dx = none → dx ≠ x → spMIni CM (.ref x :: ([.ref wA] ++ [])) (upd (upd H dx (.own x)) x (.ins CM dx [])) (fun v H2 => v = .non ∧ G x H2) E := by
  obtain ⟨t', vs, et, ht, rvs⟩ := r_l wt.r
  cases et
  have ok := wt.w.ok
  refine made_mach (rs := ws.map fun t => (false, t)) (m := mst ws) (by rw [← rows_d]; exact .lst ht rvs) (by rw [List.length_map]; exact ok.l1) (by rw [List.length_map]; exact ok.l4) ok.m1 ok.m8 (fun p hp => by obtain ⟨t, h, rfl⟩ := List.mem_map.mp hp; exact ok.row t h) fun x H1 e1 nx1 hm => ?_
  rw [List.map_map, show ((fun p : Bool × List Nat => p.2) ∘ fun t => (false, t)) = id from rfl, List.map_id] at hm
  exact q x H1 e1 hm
theorem lawS15 (hr : RoomL fa c A s) (hg : A.guards = some []) (F : Facts P w K mg base CM CC CR CN CF CT CB CW eA cb) (D_kept : DefK P w K mg base 9 "kept_doings" kepN 5 ["most"] (fun vs zs => vs ++ zs) (spKept CM CC CR CN CF CT)) : PS (XL P w K mg base fa c A outer s H0 E0) (lst 15) (tPP (J15 P w K CM CC a zs Tb) (J15 P w K CM CC a zs Tb)) := by
  have nd := scLaw.nd
  have T := F.T
  refine ps_pp (ps_if (pt_cmpR op_ne (pe_callB (cr_reprG hg (hu64 hr)) (by rfl) (T.no "repr" (by decide)) boot_repr (pa_cons (pcallK (X := XL P w K mg base fa c A outer s H0 E0) (E := fun _ _ _ => False) D_kept hr (by decide) L2.takes0 (fun _ _ _ _ h => h) (pa_cons (pv 18) (pa_cons (pv 17) (pa_cons (pv 16) (pa_cons (pe_mach F.M hr (by decide) F.C.mM (pa_cons (pv 21) pa_nil)) (pa_cons (pv 20) pa_nil))))) (pk_cons (pe_callB call_len_seq (by rfl) (T.no "len" (by decide)) boot_len (pa_cons (pv 13) pa_nil)) pk_nil)) pa_nil)) (pe_callB (cr_reprG hg (hu64 hr)) (by rfl) (T.no "repr" (by decide)) boot_repr (pa_cons (pv 11) pa_nil)) (nomark _)) (pss_one (ps_ret pe_bl)) pss_nil) ?_
  rintro D σ H ⟨f, d, wA, ws, many, st, oA, dA, rfl, kn, wt, du⟩ q
  have pl := kn.pl wt
  obtain ⟨sb, l54⟩ := kn.dueSh wt.w
  have shs : ∀ x ∈ dueL d ws st, Sh x := fun x hx => (kn.g.dg (sb x hx)).sh kn.g
  refine ⟨_, at_ kn.f18, _, at_ kn.f17, _, at_ kn.f16, _, at_ wt.f21, made_wit wt fun mW H1 e1 hm => ⟨_, at_ wt.f20, _, at_ du.f13, ?_⟩⟩
  obtain ⟨o', vs, eo, ho, rvs⟩ := r_l (du.ro.ex e1)
  cases eo
  have lvs : vs.length = (pairs d.ts d.ns ws 0 st 6000).length := by rw [rvs.length, List.length_map]
  refine ⟨oA, vs, rfl, .inl (SqL.of ho), rfl, rfl, ?_⟩
  rw [lvs]
  refine (kn.ex e1).kept (wA := wA) wt.w hm pl.2 (fun _ v H2 e2 rv => ?_) fun h => absurd h (by omega)
  obtain ⟨va, xs, rfl, _, _⟩ := r_tl rv
  refine tnil (repr_ds rv shs (by omega) ?_)
  have e12 := e1.tr e2
  exact ⟨_, at_ du.f11, tnil (repr_ds (du.rd.ex e12) shs (by omega) ⟨rfl, _, rfl, itF (by simp) (q _ _ ⟨f, d, wA, ws, many, st, oA, dA, rfl, kn.ex e12, wt.ex e12, du.ex e12⟩)⟩)⟩
theorem lawS16 (hr : RoomL fa c A s) (F : Facts P w K mg base CM CC CR CN CF CT CB CW eA cb) (D_kept0 : DefK P w K mg base 9 "kept_doings" kepN 0 kepK (fun _ zs => zs.reverse) (spKept CM CC CR CN CF CT)) : PS (XL P w K mg base fa c A outer s H0 E0) (lst 16) (tPP (J15 P w K CM CC a zs Tb) (J15 P w K CM CC a zs Tb)) := by
  have nd := scLaw.nd
  refine ps_pp (ps_if (pt_cmpR (op_neD (hu64 hr)) (pcallK0 (X := XL P w K mg base fa c A outer s H0 E0) (E := fun _ _ _ => False) D_kept0 hr (by decide) L2.takes0 (fun _ _ _ _ h => h) (pk_cons pe_int (pk_cons (pv 20) (pk_cons (pe_mach F.M hr (by decide) F.C.mM (pa_cons (pv 21) pa_nil)) (pk_cons (pv 16) (pk_cons (pv 17) (pk_cons (pv 18) pk_nil))))))) (pv 11) (nomark _)) (pss_one (ps_ret pe_bl)) pss_nil) ?_
  rintro D σ H ⟨f, d, wA, ws, many, st, oA, dA, rfl, kn, wt, du⟩ q
  have pl := kn.pl wt
  refine ⟨_, at_ wt.f20, _, at_ wt.f21, made_wit wt fun mW H1 e1 hm => ⟨_, at_ kn.f16, _, at_ kn.f17, _, at_ kn.f18, rfl, rfl, ?_⟩⟩
  refine (kn.ex e1).kept (wA := wA) (most := 6000) wt.w hm (by decide) (fun _ v H2 e2 rv => ?_) fun h => absurd h (by omega)
  have e12 := e1.tr e2
  exact ⟨_, at_ du.f11, ne_tds rv (du.rd.ex e12) ⟨_, rfl, itF rfl (q _ _ ⟨f, d, wA, ws, many, st, oA, dA, rfl, kn.ex e12, wt.ex e12, du.ex e12⟩)⟩⟩
theorem lawS17 (hr : RoomL fa c A s) (F : Facts P w K mg base CM CC CR CN CF CT CB CW eA cb) (D_kept4 : DefK P w K mg base 9 "kept_doings" kepN 4 ["most"] (fun vs zs => vs ++ ([V.int 0] ++ zs)) (spKept CM CC CR CN CF CT)) : PS (XL P w K mg base fa c A outer s H0 E0) (lst 17) (tPP (J15 P w K CM CC a zs Tb) (J15 P w K CM CC a zs Tb)) := by
  have nd := scLaw.nd
  refine ps_pp (ps_if ((pw_and (pt_cmpR op_eq (pv 20) pe_int (nomark _)) (pw_and1 (pt_cmpR (op_neD (hu64 hr)) (pcallK (X := XL P w K mg base fa c A outer s H0 E0) (E := fun _ _ _ => False) D_kept4 hr (by decide) L2.takes0 (fun _ _ _ _ h => h) (pa_cons (pv 18) (pa_cons (pv 17) (pa_cons (pv 16) (pa_cons (pe_mach F.M hr (by decide) F.C.mM (pa_cons (pv 21) pa_nil)) pa_nil)))) (pk_cons pe_int pk_nil)) (pv 11) (nomark _))))).pt (pss_one (ps_ret pe_bl)) pss_nil) ?_
  rintro D σ H ⟨f, d, wA, ws, many, st, oA, dA, rfl, kn, wt, du⟩ q
  have pl := kn.pl wt
  refine ⟨_, at_ wt.f20, rfl, _, rfl, ?_⟩
  by_cases e0 : st = 0
  · subst e0
    refine itT (eqT rfl) ⟨_, at_ kn.f18, _, at_ kn.f17, _, at_ kn.f16, _, at_ wt.f21, made_wit wt fun mW H1 e1 hm => ⟨rfl, rfl, ?_⟩⟩
    refine (kn.ex e1).kept (wA := wA) (most := 6000) wt.w hm (by decide) (fun _ v H2 e2 rv => ?_) fun h => absurd h (by omega)
    have e12 := e1.tr e2
    exact ⟨_, at_ du.f11, ne_tds rv (du.rd.ex e12) ⟨_, rfl, itF rfl (q _ _ ⟨f, d, wA, ws, many, 0, oA, dA, rfl, kn.ex e12, wt.ex e12, du.ex e12⟩)⟩⟩
  · exact itF (eqF (by omega)) (itF rfl (q _ _ ⟨f, d, wA, ws, many, st, oA, dA, rfl, kn, wt, du⟩))
def J18 (P : Program) (w : World) (K : PySem.W.Frag) (CM CC a : Addr) (zs : List Int) (Tb : List (Addr × Str)) : L2.St → Hp → Prop := fun σ H => ∃ (f : Nat → Option V) (d : Da) (wA : Addr) (ws : Tab) (many st : Nat) (oA dA : Addr) (C : List Int), σ = fr f ∧ Kn P w K CM CC a zs Tb d f H ∧ Wt d f H wA ws many st ∧ Du d f H ws st oA dA ∧ f 14 = some (.int (C.length : Nat)) ∧ C.length ≤ 216 ∧ ∀ z ∈ pairs d.ts d.ns ws 0 st 6000, (z.2 : Int) ∈ C
theorem lawS18 (hr : RoomL fa c A s) (T : Txt K mg) : PS (XL P w K mg base fa c A outer s H0 E0) (lst 18) (tPP (J15 P w K CM CC a zs Tb) (J18 P w K CM CC a zs Tb)) := by
  have nd := scLaw.nd
  refine ps_pp (ps_set (i := 14) nd rfl (Or.inl rfl) (pe_lenSetZ rfl (by rfl) (T.no "len" (by decide)) (by rfl) (T.no "set" (by decide)) (pe_lc (own := [("_law_doing", 22), ("_law_standing", 23)]) (g := gTup K 2 (gCons (gName 22) (gCons (gName 23) gNil))) (tt := tYes) (te := tVar 23) rfl nd (pi_list (pv 13)) (blkOk_by (N := lawN) (sc := defScope sLaw) (by decide +kernel)) (fun _ _ _ _ _ => (pg_tup rfl (pgs_cons (pg_name (i := 22) nd rfl (Or.inl rfl)) (pgs_cons (pg_name (i := 23) nd rfl (Or.inl rfl)) pgs_nil)))) (fun _ _ _ _ _ => pts_nil) (fun _ _ _ _ _ => (pv 23))))) ?_
  rintro D σ H ⟨f, d, wA, ws, many, st, oA, dA, rfl, kn, wt, du⟩ q
  obtain ⟨o', vs, eo, ho, rvs⟩ := r_l du.ro
  cases eo
  have pl := kn.pl wt
  have lvs : vs.length = (pairs d.ts d.ns ws 0 st 6000).length := by rw [rvs.length, List.length_map]
  refine ⟨_, at_ du.f13, oA, rfl, ⟨vs, SqL.of ho⟩, fun D1 hD1 => ?_⟩
  refine lc_map walk_list hD1 (nD ((pairs d.ts d.ns ws 0 st 6000).map (·.2))) (by rw [nD_len, List.length_map, lvs]) (by rw [lvs, sizeLine_eq]; omega) (noL_n _) (fun H' e => SqL.of (e _ _ ho)) ?_ ?_
  · rintro i xv H2 H2' dd Post hi e2 ⟨rfl, hx⟩ hdd kk
    obtain ⟨n, hn, rfl⟩ := nD_at hdd |>.imp fun _ h => h
    rw [List.getElem?_map] at hn
    cases hz : (pairs d.ts d.ns ws 0 st 6000)[i]? with
    | none => rw [hz] at hn; cases hn
    | some z =>
      rw [hz] at hn; cases hn
      obtain ⟨v, hv, r⟩ := RAll.at rvs (i := i) (d := pD z) (by rw [List.getElem?_map, hz]; rfl)
      rw [hx] at hv
      cases hv
      obtain ⟨pz, dz, rfl, hp, rd⟩ := r_p r
      exact ⟨pz, _, rfl, SqT.of (e2 _ _ hp), rfl, _, _, rfl, _, _, rfl, rfl, rfl, _, rfl, kk _ _ Ex.rfl' (.int _)⟩
  · intro acc H2 e2 hD rv
    have ea := rall_of rv
    subst ea
    have en : nV ((pairs d.ts d.ns ws 0 st 6000).map (·.2)) = ((pairs d.ts d.ns ws 0 st 6000).map fun z => (z.2 : Int)).map V.int := by unfold nV; rw [List.map_map, List.map_map]; rfl
    rw [en] at hD
    refine ⟨D1, _, rfl, SqL.of hD, by rw [List.length_map]; omega, fun C hC lC => q _ _ ⟨pt f 14 (.int (C.length : Nat)), d, wA, ws, many, st, oA, dA, C, rfl, (kn.put (by decide)).ex e2, ⟨wt.f12, wt.f20, wt.f21, wt.r.ex e2, wt.w⟩, ⟨du.f13, du.f11, du.ro.ex e2, du.rd.ex e2⟩, rfl, by rw [List.length_map] at lC; omega, fun z hz => hC _ (List.mem_map.mpr ⟨z, hz, rfl⟩)⟩⟩
theorem lawS19 (hr : RoomL fa c A s) (T : Txt K mg) (D__law_tells : Def P w K mg base 1 "_law_tells" ["_law_states", "_law_first", "_law_walked_here"] (spTel K)) (D__law_due : Def P w K mg base 2 "_law_due" ["_law_tables_here", "_law_first", "_law_rounds", "_law_known", "_law_value"] (spDue P w)) : PS (XL P w K mg base fa c A outer s H0 E0) (lst 19) (tPP (J18 P w K CM CC a zs Tb) (J15 P w K CM CC a zs Tb)) := by
  have nd := scLaw.nd
  refine ps_pp (ps_if ((pw_and (pt_val (pcall D__law_tells hr (by decide) (pa_cons (pv 5) (pa_cons (pv 17) (pa_cons (pv 13) pa_nil))))) (pw_and1 ((pw_or (pt_not (pt_val (pcall D__law_due hr (by decide) (pa_cons (pv 3) (pa_cons (pv 17) (pa_cons (pv 4) (pa_cons (pv 6) (pa_cons (pv 11) pa_nil)))))))) (pw_or1 (pt_cmpR op_lt (pe_op op_mul (pv 14) (pe_callB call_len_seq (by rfl) (T.no "len" (by decide)) boot_len (pa_cons (pv 11) pa_nil))) (pe_callB cr_lenN (by rfl) (T.no "len" (by decide)) boot_len (pa_cons (pv 6) pa_nil)) (nomark _))))).pt))).pt (pss_one (ps_ret pe_bl)) pss_nil) ?_
  rintro D σ H ⟨f, d, wA, ws, many, st, oA, dA, C, rfl, kn, wt, du, f14, lC, hC⟩ q
  have g := kn.g
  have pl := kn.pl wt
  refine ⟨_, at_ kn.f5, _, at_ kn.f17, _, at_ du.f13, tnil ⟨d.sA, oA, rl d.ts 0, d.ns, 0, pairs d.ts d.ns ws 0 st 6000, rfl, kn.stat, Mx.rl_first g.tb.ok g.f0, du.ro, by omega, fun z hz => (g.dg (prs_all g wt.w (Nat.le_refl 54) z hz).1).p.length_eq, fun tl H1 e1 => ?_, fun _ H1 e1 => ?_⟩⟩
  · refine ⟨_, rfl, itT rfl ?_⟩
    have kn1 := kn.ex e1
    obtain ⟨sb, l54⟩ := kn.dueSh wt.w
    have dok : DueOk (.tuple ((dueL d ws st).map dD)) := due_seq false (by rw [List.length_map]; omega) fun dd hd => by
      obtain ⟨x, hx, rfl⟩ := List.mem_map.mp hd
      exact sm_d (kn.few (sb x hx))
    refine ⟨_, at_ kn.f3, _, at_ kn.f17, _, at_ kn.f4, _, at_ kn.f6, _, at_ du.f11, tnil ⟨d.p, d.r, d.kA, _, _, d.ts, d.ns, 0, doings d.ts d.ns 0 3000, rfl, kn1.tab, g.tb.ok, g.f0, .lst kn1.rr (rall_n _), by rw [g.len]; exact g.tb.ok.l4, g.z, kn1.know.dn, fun x hx => (g.dg hx).fd, du.rd.ex e1, dok, fun H2 e2 => ?_⟩⟩
    rw [kept_due g wt.w (by decide) (by decide) tl]
    have e12 := e1.tr e2
    obtain ⟨da', xs, ed, hd, rxs⟩ := r_tl (du.rd.ex e12)
    cases ed
    have lxs : xs.length = (dueL d ws st).length := by rw [rxs.length, List.length_map]
    refine ⟨_, rfl, itF rfl ⟨_, at_ f14, _, at_ du.f11, dA, xs, rfl, .inr (SqT.of hd), _, _, rfl, rfl, .inl ⟨by omega, by omega⟩, _, at_ kn.f6, tnil ⟨d.kA, _, rfl, (kn.ex e12).know.dn, _, _, rfl, rfl, _, rfl, itF (decide_eq_false ?_) (q _ _ ⟨f, d, wA, ws, many, st, oA, dA, rfl, kn.ex e12, wt.ex e12, du.ex e12⟩)⟩⟩⟩
    have cl := come_le g wt.w (N := 3000) (M := 6000) (by decide) (C := C.map Int.toNat) fun z hz => List.mem_map.mpr ⟨_, hC z hz, by omega⟩
    rw [List.length_map] at cl
    have lk : (kvK kD (doings d.ts d.ns 0 3000)).length = (doings d.ts d.ns 0 3000).length := List.length_map _
    have ld : (dueL d ws st).length = (keptL (pairs d.ts d.ns ws 0 st 6000) st).length := sortW_len _
    rw [lk, lxs, ld, ← Int.natCast_mul]
    omega
  · exact ⟨_, rfl, itF rfl (itF rfl (q _ _ ⟨f, d, wA, ws, many, st, oA, dA, rfl, kn.ex e1, wt.ex e1, du.ex e1⟩))⟩
end
end Onew
end
section
set_option maxRecDepth 100000
set_option maxHeartbeats 8000000
namespace Onew
open PySem PySem.Spec PyProof.Rows L2 G
open LamX (CodeO TabS Tabs ExtN TabB GivesTo LamS lamCx lamEnv tLam)
open Mx (Tab im Rch rl rowF forgF doneOn Fm nextD nextP TbOk Perm1)
section
variable {P : Program} {w : World} {K : PySem.W.Frag} {mg : Str → Option Value} {base : Heap} {CM CC CR CN CF CT CB CW eA : Addr} {cb : Bool} {fa c Pt : Addr} {A : Around} {outer : List Env} {s : Shared} {H0 : Hp} {E0 : XK} {a : Addr} {zs : List Int} {Tb : List (Addr × Str)}
def J20 (P : Program) (w : World) (K : PySem.W.Frag) (CM CC a : Addr) (zs : List Int) (Tb : List (Addr × Str)) : L2.St → Hp → Prop := fun σ H => ∃ (f : Nat → Option V) (d : Da) (wA : Addr) (ws : Tab) (many st : Nat) (oA dA : Addr) (m : Nat), σ = fr f ∧ Kn P w K CM CC a zs Tb d f H ∧ Wt d f H wA ws many st ∧ Du d f H ws st oA dA ∧ f 19 = some (.int (m : Nat)) ∧ 1 ≤ m ∧ m ≤ 12
/-- what the try has heard -/
def HeardW (d : Da) (ws : Tab) (st m : Nat) (H : Hp) (h : Addr) : Prop :=
  (∃ x, H h = some (.tup [.str "told", x]) ∧ R H x (.tuple ((dueL d ws st).map dD))) ∨ (m < (pairs d.ts d.ns ws 0 st 6000).length ∧ H h = some (.tup [.str "great", .int (m : Nat), .bl true]))
def J21 (P : Program) (w : World) (K : PySem.W.Frag) (CM CC a : Addr) (zs : List Int) (Tb : List (Addr × Str)) : L2.St → Hp → Prop := fun σ H => ∃ (f : Nat → Option V) (d : Da) (wA : Addr) (ws : Tab) (many st : Nat) (oA dA : Addr) (m : Nat) (h : Addr), σ = fr f ∧ Kn P w K CM CC a zs Tb d f H ∧ Wt d f H wA ws many st ∧ Du d f H ws st oA dA ∧ f 19 = some (.int (m : Nat)) ∧ f 15 = some (.ref h) ∧ HeardW d ws st m H h
def JE (K : PySem.W.Frag) (a : Addr) (zs : List Int) (Tb : List (Addr × Str)) : L2.St → Hp → Prop := fun σ H => ∃ f : Nat → Option V, σ = fr f ∧ f 0 = some (.ref a) ∧ B0 K a zs Tb H
theorem lawS20 (hr : RoomL fa c A s) (D__law_take : Def P w K mg base 1 "_law_take" ["_law_box_here", "_law_many"] spTake) : PS (XL P w K mg base fa c A outer s H0 E0) (lst 20) (tPP (J15 P w K CM CC a zs Tb) (J20 P w K CM CC a zs Tb)) := by
  have nd := scLaw.nd
  refine ps_pp (ps_set (i := 19) nd rfl (Or.inr rfl) (pe_op op_add pe_int (pcall D__law_take hr (by decide) (pa_cons (pv 2) (pa_cons pe_int pa_nil))))) ?_
  rintro D σ H ⟨f, d, wA, ws, many, st, oA, dA, rfl, kn, wt, du⟩ q
  refine ⟨_, at_ kn.f2, d.b, 12, rfl, kn.box, by decide, by decide, fun n hn => ⟨_, _, rfl, rfl, q _ _ ⟨pt f 19 (.int (1 + (n : Int))), d, wA, ws, many, st, oA, dA, 1 + n, rfl, kn.put (by decide), ⟨wt.f12, wt.f20, wt.f21, wt.r, wt.w⟩, ⟨du.f13, du.f11, du.ro, du.rd⟩, ?_, by omega, by omega⟩⟩⟩
  show some (V.int (1 + (n : Int))) = some (.int ((1 + n : Nat) : Int))
  rw [Int.natCast_add]; rfl
theorem lawS21 (hr : RoomL fa c A s) (F : Facts P w K mg base CM CC CR CN CF CT CB CW eA cb) (TB : TabB base mg c Pt) (hmT : (Pt, ("law.<locals>.<lambda>" : Str)) ∈ Tb) (hu : ∀ p ∈ Tb, p.1 = Pt → p.2 = "law.<locals>.<lambda>") (D_kept : DefK P w K mg base 9 "kept_doings" kepN 5 ["most"] (fun vs zs => vs ++ zs) (spKept CM CC CR CN CF CT)) : PS (XL P w K mg base fa c A outer s H0 E0) (lst 21) (tPP (J20 P w K CM CC a zs Tb) (J21 P w K CM CC a zs Tb)) := by
  have nd := scLaw.nd
  have T := F.T
  refine ps_pp (ps_set (i := 15) nd rfl (Or.inl rfl) (pe_heard (X := XL P w K mg base fa c A outer s H0 E0) (k := 13) (t := fun E => tCallN 5 1 (spKept CM CC CR CN CF CT) (fun vs zs => vs ++ zs) E (tCons (tVar 18) (tCons (tVar 17) (tCons (tVar 16) (tCons (tMake CM (spMIni CM) [] (fun _ _ _ => False) (tCons (tVar 21) tNil)) (tCons (tVar 20) tNil))))) (tCons (tVar 19) tNil)) F TB rfl hmT hu hr (by decide) (LamX.lamS_by (sc := defScope sLaw) (by decide +kernel)) (fun A' o s' H' E' f' c' hr' => pcallK (X := lamCx (XL P w K mg base fa c A outer s H0 E0) A' o s' H' E' _ f' c') (E := E') D_kept hr' (by decide) tk_lam (fun _ _ _ _ h => h) (pa_cons (pv 18) (pa_cons (pv 17) (pa_cons (pv 16) (pa_cons (pe_mach F.M hr' (by decide) F.C.mM (pa_cons (pv 21) pa_nil)) (pa_cons (pv 20) pa_nil))))) (pk_cons (pv 19) pk_nil)))) ?_
  rintro D σ H ⟨f, d, wA, ws, many, st, oA, dA, m, rfl, kn, wt, du, f19, m1, m12⟩ q
  refine ⟨kn.b0.tb, fun H1 x1 T1 => ?_⟩
  have n1 := extN_nx x1
  have kn1 := kn.nx n1 T1
  have wt1 := wt.nx n1
  refine ⟨_, at_ kn.f18, _, at_ kn.f17, _, at_ kn.f16, _, at_ wt.f21, made_wit wt1 fun mW H2 e2 hm => ⟨_, at_ wt.f20, _, at_ f19, rfl, rfl, ?_⟩⟩
  have fin : ∀ h H', Ex H2 H' → HeardW d ws st m H' h → D.nx ((fr f).set 15 (some (.ref h))) H' := fun h H' e hw => q _ _ ⟨pt f 15 (.ref h), d, wA, ws, many, st, oA, dA, m, h, rfl, (kn1.put (by decide)).ex (e2.tr e), ⟨wt.f12, wt.f20, wt.f21, (wt1.ex (e2.tr e)).r, wt.w⟩, ⟨du.f13, du.f11, ((du.nx n1).ex (e2.tr e)).ro, ((du.nx n1).ex (e2.tr e)).rd⟩, f19, rfl, hw⟩
  refine (kn1.ex e2).kept (wA := wA) wt.w hm m1 (fun _ v H3 e3 rv => ?_) fun hlt dd H3 e3 h3 => ?_
  · refine ⟨by show 2 ≤ sizeLine; decide, fun p hp => fin p _ (e3.tr (Ex.new hp)) (.inl ⟨v, upd_same, rv.ex (Ex.new hp)⟩)⟩
  · exact .great h3 fun t H4 e4 ht => fin t _ (e3.tr e4) (.inr ⟨hlt, ht⟩)
theorem told_shaped (W : List Doing) : SeqAt.shaped (.tuple [.str "told", .tuple (W.map dD)]) = true := by
  have h1 := lay_tds W
  have h2 : (PyData.tuple (W.map dD)).depth ≤ 3 := by
    rw [PyData.depth]
    have := dep_all (n := 2) fun x (hx : x ∈ W.map dD) => by
      obtain ⟨y, _, rfl⟩ := List.mem_map.mp hx
      exact depth_d y
    omega
  unfold SeqAt.shaped
  rw [PyData.canLay0, PyData.canLayAll0, PyData.canLayAll0, PyData.canLayAll0, h1]
  rw [PyData.depth, PyData.depthAll, PyData.depthAll, PyData.depthAll]
  have h3 : (PyData.str "told").depth = 0 := rfl
  rw [h3]
  have h4 : (PyData.str "told").canLay0 = true := by decide +kernel
  rw [h4]
  simp only [Bool.and_self, Bool.true_and, Bool.and_true]
  exact decide_eq_true (by omega)
theorem told_lay (W : List Doing) : PyData.canLay0 (.tuple [.str "told", .tuple (W.map dD)]) = true := by
  have h1 := lay_tds W
  have h4 : (PyData.str "told").canLay0 = true := by decide +kernel
  rw [PyData.canLay0, PyData.canLayAll0, PyData.canLayAll0, PyData.canLayAll0, h1, h4]; rfl
theorem great_shaped (m : Nat) : SeqAt.shaped (.tuple [.str "great", .int (m : Nat), .bool true]) = true ∧ PyData.canLay0 (.tuple [.str "great", .int (m : Nat), .bool true]) = true := by
  have h4 : (PyData.str "great").canLay0 = true := by decide +kernel
  have h : PyData.canLay0 (.tuple [.str "great", .int (m : Nat), .bool true]) = true := by
    rw [PyData.canLay0, PyData.canLayAll0, PyData.canLayAll0, PyData.canLayAll0, PyData.canLayAll0, h4]; rfl
  refine ⟨?_, h⟩
  unfold SeqAt.shaped
  rw [h, Bool.true_and]
  refine decide_eq_true ?_
  rw [PyData.depth, PyData.depthAll, PyData.depthAll, PyData.depthAll, PyData.depthAll]
  show max 0 (max 0 (max 0 0)) + 1 ≤ _
  decide
theorem lawS22 (hr : RoomL fa c A s) (T : Txt K mg) : PS (XL P w K mg base fa c A outer s H0 E0) (lst 22) (tPP (J21 P w K CM CC a zs Tb) (J15 P w K CM CC a zs Tb)) := by
  have nd := scLaw.nd
  refine ps_pp (ps_if ((pw_and (pt_cmpR (op_neD (hu64 hr)) (pv 15) (pe_tup (pa_cons pe_str (pa_cons (pv 11) pa_nil))) (nomark _)) (pw_and1 ((pw_or (pt_cmpR (op_neD (hu64 hr)) (pv 15) (pe_tup (pa_cons pe_str (pa_cons (pv 19) (pa_cons pe_bl pa_nil)))) (nomark _)) (pw_or1 (pt_cmpR op_le (pe_callB call_len_seq (by rfl) (T.no "len" (by decide)) boot_len (pa_cons (pv 13) pa_nil)) (pv 19) (nomark _))))).pt))).pt (pss_one (ps_ret pe_bl)) pss_nil) ?_
  rintro D σ H ⟨f, d, wA, ws, many, st, oA, dA, m, h, rfl, kn, wt, du, f19, f15, hw⟩ q
  refine ⟨_, at_ f15, _, at_ du.f11, tnil ⟨by show 2 ≤ sizeLine; decide, fun t ht => ?_⟩⟩
  have e1 := Ex.new (o := .tup [V.str "told", .ref dA]) ht
  have rt : R (upd H t (.tup [V.str "told", .ref dA])) (.ref t) (.tuple [.str "told", .tuple ((dueL d ws st).map dD)]) := .tup upd_same (.cons (.str _) (.cons (du.rd.ex e1) .nil))
  rcases hw with ⟨x, hh, rx⟩ | ⟨hlt, hh⟩
  · have rh : R (upd H t (.tup [V.str "told", .ref dA])) (.ref h) (.tuple [.str "told", .tuple ((dueL d ws st).map dD)]) := .tup (e1 _ _ hh) (.cons (.str _) (.cons (rx.ex e1) .nil))
    refine ⟨_, _, R.dp _ _ rh, R.dp _ _ rt, told_shaped _, told_shaped _, _, rfl, ?_⟩
    rw [SeqAt.eqv_refl _ (told_lay _)]
    exact itF rfl (itF rfl (q _ _ ⟨f, d, wA, ws, many, st, oA, dA, rfl, kn.ex e1, wt.ex e1, du.ex e1⟩))
  · have rh : R (upd H t (.tup [V.str "told", .ref dA])) (.ref h) (.tuple [.str "great", .int (m : Nat), .bool true]) := .tup (e1 _ _ hh) (.cons (.str _) (.cons (.int _) (.cons (.bl _) .nil)))
    have en : PyData.eqv (.tuple [.str "great", .int (m : Nat), .bool true]) (.tuple [.str "told", .tuple ((dueL d ws st).map dD)]) = false := by
      rw [PyData.eqv, PyData.eqvAll, show PyData.eqv (.str "great") (.str "told") = false by decide +kernel, Bool.false_and]
    refine ⟨_, _, R.dp _ _ rh, R.dp _ _ rt, (great_shaped m).1, told_shaped _, _, rfl, ?_⟩
    rw [en]
    refine itT rfl ⟨_, at_ f15, _, at_ f19, by show 3 ≤ sizeLine; decide, fun t2 ht2 => ?_⟩
    have e2 := Ex.new (o := .tup [V.str "great", .int (m : Nat), .bl true]) ht2
    have r2 : R _ (.ref t2) (.tuple [.str "great", .int (m : Nat), .bool true]) := .tup (upd_same (H := upd H t (.tup [V.str "told", .ref dA])) (a := t2) (o := .tup [V.str "great", .int (m : Nat), .bl true])) (.cons (.str _) (.cons (.int _) (.cons (.bl _) .nil)))
    have e12 := e1.tr e2
    refine ⟨_, _, R.dp _ _ (rh.ex e2), R.dp _ _ r2, (great_shaped m).1, (great_shaped m).1, _, rfl, ?_⟩
    rw [SeqAt.eqv_refl _ (great_shaped m).2]
    obtain ⟨o', vs, eo, ho, rvs⟩ := r_l (du.ro.ex e12)
    cases eo
    have lvs : vs.length = (pairs d.ts d.ns ws 0 st 6000).length := by rw [rvs.length, List.length_map]
    refine itF rfl ⟨_, at_ du.f13, oA, vs, rfl, .inl (SqL.of ho), _, at_ f19, _, _, rfl, rfl, _, rfl, itF (decide_eq_false (by omega)) (q _ _ ⟨f, d, wA, ws, many, st, oA, dA, rfl, kn.ex e12, wt.ex e12, du.ex e12⟩)⟩
theorem lawS23 (hr : RoomL fa c A s) (D_ref : Def P w K mg base 17 "_law_refused_right" refP (spRef Tb)) : PS (XL P w K mg base fa c A outer s H0 E0) (lst 23) (tPP (J15 P w K CM CC a zs Tb) (JE K a zs Tb)) := by
  have nd := scLaw.nd
  refine ps_pp (ps_if (pt_not (pt_val (pcall D_ref hr (by decide) (pa_cons (pv 2) (pa_cons (pv 3) (pa_cons (pv 17) (pa_cons (pv 4) (pa_cons (pv 21) (pa_cons (pv 12) pa_nil))))))))) (pss_one (ps_ret pe_bl)) pss_nil) ?_
  rintro D σ H ⟨f, d, wA, ws, many, st, oA, dA, rfl, kn, wt, du⟩ q
  have g := kn.g
  exact ⟨_, at_ kn.f2, _, at_ kn.f3, _, at_ kn.f17, _, at_ kn.f4, _, at_ wt.f21, _, at_ wt.f12, tnil ⟨d.b, d.p, d.r, wA, 0, many, d.ts, ws, d.ns, rfl, kn.box, kn.tab, g.tb.ok, g.f0, g.keep, kn.rr, g.len, g.rng, wt.r, wt.w.ok, wt.w.len, wt.w.m, kn.b0.tb, fun H1 n1 T1 => ⟨_, rfl, itF rfl (q _ _ ⟨f, rfl, kn.f0, kn.b0.nx n1 T1⟩)⟩⟩⟩
end
end Onew
end
section
set_option maxRecDepth 100000
set_option maxHeartbeats 8000000
namespace Onew
open PySem PySem.Spec PyProof.Rows L2 G
open LamX (CodeO TabS Tabs ExtN TabB GivesTo LamS lamCx lamEnv tLam)
open Mx (Tab im Rch rl rowF forgF doneOn Fm nextD nextP TbOk Perm1)
/-- all that the law calls -/
structure DefsL (P : Program) (w : World) (K : PySem.W.Frag) (mg : Str → Option Value) (base : Heap) (CM CC CR CN CF CT : Addr) (Tb : List (Addr × Str)) : Prop where
  take : Def P w K mg base 1 "_law_take" ["_law_box_here", "_law_many"] spTake
  pick : Def P w K mg base 2 "_law_pick" ["_law_box_here", "_law_some"] (spPick K)
  mixed : Def P w K mg base 2 "_law_mixed" ["_law_box_here", "_law_some"] (spMixed K)
  box : Def P w K mg base 1 "_law_box" ["_law_script", "_law_k"] (spBox K)
  tabs : Def P w K mg base 3 "_law_tables" ["_law_box_here", "_law_most"] spTabs
  rel : Def P w K mg base 1 "_law_reached" ["_law_tables_here", "_law_first"] (spReL K)
  doings : Def P w K mg base 3 "_law_doings" ["_law_tables_here", "_law_first", "_law_rounds"] (spDoL P w)
  made : Def P w K mg base 3 "_law_made" ["_law_tables_here", "_law_first", "_law_rounds", "_law_some"] (spMaL P w)
  due : Def P w K mg base 2 "_law_due" ["_law_tables_here", "_law_first", "_law_rounds", "_law_known", "_law_value"] (spDue P w)
  bent : Def P w K mg base 3 "_law_bent" ["_law_box_here", "_law_group", "_law_known"] spBent
  walked : Def P w K mg base 3 "_law_walked" ["_law_tables_here", "_law_first", "_law_rounds", "_law_witness", "_law_start"] spWaL
  tells : Def P w K mg base 1 "_law_tells" ["_law_states", "_law_first", "_law_walked_here"] (spTel K)
  ref : Def P w K mg base 17 "_law_refused_right" refP (spRef Tb)
  oth : Def P w K mg base 12 "_law_other_right" [] spOth
  kept : DefK P w K mg base 9 "kept_doings" kepN 5 ["most"] (fun vs zs => vs ++ zs) (spKept CM CC CR CN CF CT)
  kept0 : DefK P w K mg base 9 "kept_doings" kepN 0 kepK (fun _ zs => zs.reverse) (spKept CM CC CR CN CF CT)
  kept4 : DefK P w K mg base 9 "kept_doings" kepN 4 ["most"] (fun vs zs => vs ++ ([V.int 0] ++ zs)) (spKept CM CC CR CN CF CT)
  ikg : DefK P w K mg base 11 "is_kept_group" ikgN 4 ["most"] (fun vs zs => vs ++ zs) (spIKG CM CC CR CN CF CT)
  ikg0 : DefK P w K mg base 11 "is_kept_group" ikgN 0 ikgK (fun _ zs => zs.reverse) (spIKG CM CC CR CN CF CT)
theorem forB_eq : forB = [lst 0, lst 1, lst 2, lst 3, lst 4, lst 5, lst 6, lst 7, lst 8, lst 9, lst 10, lst 11, lst 12, lst 13, lst 14, lst 15, lst 16, lst 17, lst 18, lst 19, lst 20, lst 21, lst 22, lst 23] := rfl
section
variable {P : Program} {w : World} {K : PySem.W.Frag} {mg : Str → Option Value} {base : Heap} {CM CC CR CN CF CT CB CW eA : Addr} {cb : Bool} {fa c Pt : Addr} {A : Around} {outer : List Env} {s : Shared} {H0 : Hp} {E0 : XK} {a : Addr} {zs : List Int} {Tb : List (Addr × Str)}
theorem pss_pp {X : Cx} {st : Stmt} {rest : List Stmt} {I J L : L2.St → Hp → Prop} (h1 : PS X st (tPP I J)) (h2 : PSs X rest (tPP J L)) : PSs X (st :: rest) (tPP I L) := ⟨fun pins s σ H D I' h => (pss_cons h1 h2).run pins s σ H D I' ⟨h.1, fun σ' H' j => ⟨j, h.2⟩⟩⟩
theorem pss_pp1 {X : Cx} {st : Stmt} {I J : L2.St → Hp → Prop} (h1 : PS X st (tPP I J)) : PSs X [st] (tPP I J) := ⟨fun pins s σ H D I' h => (pss_one h1).run pins s σ H D I' h⟩
theorem law_for (hr : RoomL fa c A s) (hg : A.guards = some []) (F : Facts P w K mg base CM CC CR CN CF CT CB CW eA cb) (TB : TabB base mg c Pt) (hmT : (Pt, ("law.<locals>.<lambda>" : Str)) ∈ Tb) (hu : ∀ p ∈ Tb, p.1 = Pt → p.2 = "law.<locals>.<lambda>") (D : DefsL P w K mg base CM CC CR CN CF CT Tb) :
    PSs (XL P w K mg base fa c A outer s H0 E0) forB (tPP (J0 K a zs Tb) (JE K a zs Tb)) := by
  rw [forB_eq]
  exact pss_pp (lawS0 hr D.box) (pss_pp (lawS1 hr D.tabs) (pss_pp (lawS2 hr D.take) (pss_pp (lawS3 hr F.T D.rel) (pss_pp (lawS4 hr F D.rel) (pss_pp (lawS5 hr D.doings) (pss_pp (lawS6 hr F.T D.take D.pick) (pss_pp (lawS7 hr F.T D.made) (pss_pp lawS8 (pss_pp (lawS9 hr hg F.T D.due D.bent D.ikg D.ikg0) (pss_pp (lawS10 hr D.take) (pss_pp (lawS11 hr F.T D.mixed) (pss_pp (lawS12 hr D.take) (pss_pp (lawS13 hr D.walked) (pss_pp (lawS14 hr F.T) (pss_pp (lawS15 hr hg F D.kept) (pss_pp (lawS16 hr F D.kept0) (pss_pp (lawS17 hr F D.kept4) (pss_pp (lawS18 hr F.T) (pss_pp (lawS19 hr F.T D.tells D.due) (pss_pp (lawS20 hr D.take) (pss_pp (lawS21 hr F TB hmT hu D.kept) (pss_pp (lawS22 hr F.T) (pss_pp1 (lawS23 hr D.ref))))))))))))))))))))))))
theorem law_body (hr : RoomL fa c A s) (hg : A.guards = some []) (F : Facts P w K mg base CM CC CR CN CF CT CB CW eA cb) (TB : TabB base mg c Pt) (hmT : (Pt, ("law.<locals>.<lambda>" : Str)) ∈ Tb) (hu : ∀ p ∈ Tb, p.1 = Pt → p.2 = "law.<locals>.<lambda>") (D : DefsL P w K mg base CM CC CR CN CF CT Tb) {H : Hp} {Q : VK} (b0 : B0 K a zs Tb H) (q : ∀ H', Q (.bl true) H') :
    ∃ t, PSs (XL P w K mg base fa c A outer s H0 E0) (defBody sLaw) t ∧ t { nx := fun _ H' => Q .non H', rt := Q } (L2.start lawN [.ref a]) H := by
  have nd := scLaw.nd
  have T := F.T
  obtain ⟨of, ofd, oF, om, okp, ob⟩ := D.oth.ex
  refine ⟨_, pss_cons (ps_if (pt_not (pt_val (pe_call0 (X := XL P w K mg base fa c A outer s H0 E0) oF (hr.mono (by decide)) (by rfl) om okp ob .nil passF))) (pss_one (ps_ret pe_bl)) pss_nil)
    (pss_cons (ps_for (passes_of rfl) rfl (pi_range1 (by rfl) (T.no "range" (by decide)) (pa_cons pe_int pa_nil)) (pg_name (i := 1) nd rfl (Or.inl rfl)) (law_for (a := a) (zs := zs) hr hg F TB hmT hu D))
    (pss_one (ps_ret pe_bl))), ?_⟩
  refine ⟨rfl, fun H1 e1 => ⟨_, rfl, itF rfl ?_⟩⟩
  refine ⟨2, rfl, by decide, by decide, ?_⟩
  refine for_it walk_range (fun i σ H' => ∃ f : Nat → Option V, σ = fr f ∧ f 0 = some (.ref a) ∧ B0 K a zs Tb H') ⟨fun i => if i = 0 then some (.ref a) else none, rfl, rfl, b0.ex e1⟩ (fun _ _ _ _ _ => trivial) ?_ ?_
  · rintro i xv σ H2 H2' hi ⟨f, rfl, f0, b2⟩ ⟨rfl, hx⟩
    refine ⟨⟨pt f 1 xv, i, rfl, f0, ?_, b2⟩, fun σ' H' h => h⟩
    show some xv = _
    rw [hx]
    show some (V.int (0 + (i : Int))) = _
    rw [Int.zero_add]
  · rintro σ H2 ⟨f, rfl, f0, b2⟩
    exact q _
end
end Onew
end
section
set_option maxRecDepth 100000
set_option maxHeartbeats 8000000
namespace Onew
open PySem PySem.Spec PyProof.Rows L2 G
open LamX (CodeO TabS Tabs ExtN TabB GivesTo LamS lamCx lamEnv tLam)
open Mx (Tab im Rch rl rowF forgF doneOn Fm nextD nextP TbOk Perm1)
/-- a def of the module, as the top leaves it -/
structure RawDef (K : PySem.W.Frag) (x : Str) (st : Stmt) : Prop where
  ex : ∃ (f : Addr) (fd : FuncData), Fun K x x st f fd ∧ PySem.W.nsIn K mainGlobals x = some (some (.ref f))
theorem raw_mk {K : PySem.W.Frag} {x : Str} {st : Stmt} {f : Addr} {oc : Value} {od an : Option Addr} {osl : Array (Option Value)} {kV doc pm cdv ct : Value} (g : PySem.W.nsIn K mainGlobals x = some (some (.ref f))) (l : K.lookup f = some ⟨oc, od, .func (PySem.W.fnOf x x (defArgs st) (defBody st) (defScope st) .none kV doc pm an cdv ct), osl⟩)
    (c : PySem.W.codeIn K cdv x = true) (k : PySem.W.keepIn K (.ref f) = true) : RawDef K x st := ⟨f, _, fun_mk l c k, g⟩
theorem RawDef.def_ {P : Program} {w : World} {K : PySem.W.Frag} {mg : Str → Option Value} {base h : Heap} {x : Str} {st : Stmt} {k : Nat} {ps : List Str} {sp : Sp} (r : RawDef K x st) (X : K.In h) (G : h.Ns mainGlobals mg) (ok : ∀ f fd, Fun K x x st f fd → FnOk P w K mg base (L2.CX P w) k f fd ps sp)
    (b : ∀ (kV doc pm : Value) (an : Option Addr) (cdv ct : Value) (us : List Value), us.length = ps.length → bindArgs (PySem.W.fnOf x x (defArgs st) (defBody st) (defScope st) .none kV doc pm an cdv ct) ⟨us, []⟩ = pure (ps.zip us)) : Def P w K mg base k x ps sp := by
  obtain ⟨f, fd, F, g⟩ := r.ex
  exact ⟨f, fd, ok f fd F, PySem.W.mg_of X G g, F.kp, F.binds b⟩
/-- keywords at a def without defaults -/
theorem kbnF {K : PySem.W.Frag} {x qual : Str} {st : Stmt} {f : Addr} {fd : FuncData} {ps : List Str} (F : Fun K x qual st f fd) (n : Nat) (ks : List Str) (g : List Value → List Value → List Value) (gV : List V → List V → List V)
    (hb : ∀ (kV doc pm : Value) (an : Option Addr) (cdv ct : Value) (us ws : List Value), us.length = n → ws.length = ks.length → bindArgs (PySem.W.fnOf x qual (defArgs st) (defBody st) (defScope st) .none kV doc pm an cdv ct) ⟨us, ks.zip ws⟩ = pure (ps.zip (g us ws)))
    (hr : ∀ {vs : List V} {us : List Value} {zs : List V} {ws : List Value}, Vals vs us → Vals zs ws → Vals (gV vs zs) (g us ws)) : KBn K fd ps n ks g gV := by
  obtain ⟨oc, od, kV, doc, pm, an, cdv, ct, osl, rfl, lk, hcd⟩ := F.ex
  exact ⟨fun s us ws X l1 l2 => .of_eq (hb kV doc pm an cdv ct us ws l1 l2), hr⟩
/-- keywords at a def with defaults, none of them keyword-only -/
theorem kbn1F {K : PySem.W.Frag} {x qual : Str} {params : Arguments} {body : List Stmt} {scope : Scope} {dvs : List V} {f : Addr} {fd : FuncData} {ps : List Str} (F : FunD K x qual params body scope dvs [] f fd) (hd : dvs ≠ []) (n : Nat) (ks : List Str) (g : {α : Type} → List α → List α → List α → List α)
    (hrel : ∀ {vs ds zs : List V} {us its ws : List Value}, Vals vs us → Vals ds its → Vals zs ws → Vals (g vs ds zs) (g us its ws))
    (hb : ∀ (T : Addr) (kV doc pm : Value) (an : Option Addr) (cdv ct : Value) (us its ws : List Value), us.length = n → its.length = dvs.length → ws.length = ks.length → ∃ k, bindArgs (PySem.W.fnOf x qual params body scope (.ref T) kV doc pm an cdv ct) ⟨us, ks.zip ws⟩ = seqItems? (.ref T) >>= k ∧ k (some its.toArray) = pure (ps.zip (g us its ws))) :
    ∃ its : List Value, KBn K fd ps n ks (fun us ws => g us its ws) (fun vs zs => g vs dvs zs) := by
  obtain ⟨oc, od, dV, kV, doc, pm, an, cdv, ct, osl, rfl, lk, hcd, hD, hK⟩ := F.ex
  rcases hD with ⟨e, _⟩ | ⟨_, T, o, its, m, rfl, lT, oT, rT⟩
  · exact absurd e hd
  · refine ⟨its, ⟨fun s us ws X l1 l2 => ?_, fun r1 r2 => hrel r1 rT r2⟩⟩
    obtain ⟨k, e1, e2⟩ := hb T kV doc pm an cdv ct us its ws l1 rT.length.symm l2
    refine BindsTo.of_looks fun M => ?_
    rw [e1]
    exact looks_items X lT oT (.of_pure e2)
theorem vals_rev : ∀ {vs : List V} {us : List Value}, Vals vs us → Vals vs.reverse us.reverse
  | _, _, .nil => .nil
  | _, _, .cons r t => by
    rw [List.reverse_cons, List.reverse_cons]
    exact (vals_rev t).append (.cons r .nil)
/-- the law's makers: code object and table -/
structure RawC (K : PySem.W.Frag) (x : Str) (st : Stmt) (c P : Addr) : Prop where
  ex : ∃ (f : Addr) (fd : FuncData), FunC K x x st f c fd ∧ PySem.W.nsIn K mainGlobals x = some (some (.ref f))
  hd : PySem.W.codeHdIn K c P = true
theorem rawC_mk {K : PySem.W.Frag} {x : Str} {st : Stmt} {f c P : Addr} {oc : Value} {od an : Option Addr} {osl : Array (Option Value)} {kV doc pm ct : Value} {ccl : Value} {cdd : Option Addr} {vs : Array Value} {ccs : Array (Option Value)} (g : PySem.W.nsIn K mainGlobals x = some (some (.ref f))) (l : K.lookup f = some ⟨oc, od, .func (PySem.W.fnOf x x (defArgs st) (defBody st) (defScope st) .none kV doc pm an (.ref c) ct), osl⟩)
    (cI : PySem.W.codeIn K (.ref c) x = true) (k : PySem.W.keepIn K (.ref f) = true) (lo : K.lookup c = some ⟨ccl, cdd, .fields vs, ccs⟩) (hP : vs[11]? = some (.ref P)) (hd : PySem.W.codeHdIn K c P = true) : RawC K x st c P := ⟨⟨f, _, ⟨⟨oc, od, kV, doc, pm, an, ct, osl, rfl, l, cI⟩, k⟩, g⟩, hd⟩
/-- what the top leaves: the plain defs -/
structure RawD (K : PySem.W.Frag) : Prop where
  d_is_integer : RawDef K "is_integer" sIsInt
  d_is_number : RawDef K "is_number" sIsNum
  d_is_below : RawDef K "is_below" sIsBel
  d_is_within : RawDef K "is_within" sIsWit
  d_is_sequence : RawDef K "is_sequence" sIsSeq
  d_check_rounds : RawDef K "check_rounds" sChk
  d_check_rests : RawDef K "check_rests" sChkE
  d_is_table : RawDef K "is_table" sIsTab
  d_check_tables : RawDef K "check_tables" sChkT
  d_need_state : RawDef K "need_state" sNState
  d_need_fit : RawDef K "need_fit" sNFit
  d_need_rounds : RawDef K "need_rounds" sNRou
  d_forgotten : RawDef K "forgotten" sForg
  d_need_exchanges : RawDef K "need_exchanges" sNEx
  d_need_doings : RawDef K "need_doings" sNDo
  d_nothing_done : RawDef K "nothing_done" sNoth
  d_done_on : RawDef K "done_on" sDone
  d_doings_from : RawDef K "doings_from" sDFrom
  d_all_doings : RawDef K "all_doings" sAll
  d_composed : RawDef K "composed" sComp
  d_told_doing : RawDef K "told_doing" sTold
  d_need_seer : RawDef K "need_seer" sNSeer
  d_closed_group : RawDef K "closed_group" sClosed
  d_kept_group : RawDef K "kept_group" sKG
  d_is_kept_group : RawDef K "is_kept_group" sIKG
  d__law_take : RawDef K "_law_take" sTake
  d__law_pick : RawDef K "_law_pick" sPick
  d__law_mixed : RawDef K "_law_mixed" sMixed
  d__law_box : RawDef K "_law_box" sBox
  d__law_on : RawDef K "_law_on" sOn
  d__law_reached : RawDef K "_law_reached" sReL
  d__law_nothing : RawDef K "_law_nothing" sNoL
  d__law_tables : RawDef K "_law_tables" sTabs
  d__law_behind : RawDef K "_law_behind" sBeh
  d__law_doings : RawDef K "_law_doings" sDoL
  d__law_made : RawDef K "_law_made" sMaL
  d__law_walked : RawDef K "_law_walked" sWaL
  d__law_tells : RawDef K "_law_tells" sTel
  d__law_due : RawDef K "_law_due" sDue
  d__law_bent : RawDef K "_law_bent" sBent
  d_reached : RawDef K "reached" sReached
  d__law_heard : RawDef K "_law_heard" sHeard
  d__law_other_right : RawDef K "_law_other_right" sOth
/-- a class of the text without bases -/
structure RawO (K : PySem.W.Frag) (x : Str) (C : Addr) : Prop where
  g : PySem.W.nsIn K mainGlobals x = some (some (.ref C))
  pg : PySem.W.plainGet K C Str.empty = true
  hd : PySem.W.hasDictIn K C = true
  po : PySem.W.plainOver K C = true
  sa : PySem.W.findIn K (.ref C) "__setattr__" = some (some (.builtin "object.__setattr__"))
  ha : PySem.W.findIn K (.ref C) "__class__" = some (some (.builtin "object.__class__"))
  hn : PySem.W.specialIn K (.builtin "object.__class__") "__get__" = some (some (.builtin "getset_descriptor.__get__"))
  htk : PySem.W.takesIn K (.builtin "object.__class__") = some true
  hm : PySem.W.mroIn K C (.type "object") = some true
  mks : PySem.W.makesIn K C = true
  kp : PySem.W.keepIn K (.ref C) = true
theorem RawO.cls {K : PySem.W.Frag} {x : Str} {C : Addr} (r : RawO K x C) : Cls K C := ⟨r.pg, r.hd, r.po, r.sa⟩
theorem RawO.own {K : PySem.W.Frag} {x : Str} {C : Addr} (r : RawO K x C) : OwnC K C := ⟨r.cls, r.ha, r.hn, r.htk, r.hm⟩
/-- the two made classes' own __init__ -/
structure RawM (K : PySem.W.Frag) (CM : Addr) : Prop where
  ex : ∃ (f : Addr) (fd : FuncData), Fun K "__init__" "Machine.__init__" sMIni f fd ∧ PySem.W.findIn K (.ref CM) "__init__" = some (some (.ref f)) ∧ PySem.W.isFn K (.ref f) = true
theorem rawM_mk {K : PySem.W.Frag} {CM f : Addr} {oc : Value} {od an : Option Addr} {osl : Array (Option Value)} {kV doc pm cdv ct : Value} (i : PySem.W.findIn K (.ref CM) "__init__" = some (some (.ref f))) (l : K.lookup f = some ⟨oc, od, .func (PySem.W.fnOf "__init__" "Machine.__init__" (defArgs sMIni) (defBody sMIni) (defScope sMIni) .none kV doc pm an cdv ct), osl⟩)
    (c : PySem.W.codeIn K cdv "Machine.__init__" = true) (k : PySem.W.keepIn K (.ref f) = true) (n : PySem.W.isFn K (.ref f) = true) : RawM K CM := ⟨f, _, fun_mk l c k, i, n⟩
structure RawCo (K : PySem.W.Frag) (CC eA : Addr) : Prop where
  ex : ∃ (f : Addr) (fd : FuncData), FunD K "__init__" "Counters.__init__" (defArgs sCIni) (defBody sCIni) (defScope sCIni) [.ref eA] [] f fd ∧ PySem.W.findIn K (.ref CC) "__init__" = some (some (.ref f)) ∧ PySem.W.isFn K (.ref f) = true
  em : ∃ (o : Obj) (n : Nat), K.lookup eA = some o ∧ o.cls = .type "tuple" ∧ o.data = .seq #[] n
theorem rawCo_mk {K : PySem.W.Frag} {CC eA f T : Addr} {oc : Value} {od an : Option Addr} {osl : Array (Option Value)} {kV doc pm cdv ct tc : Value} {td : Option Addr} {its : Array Value} {tn : Nat} {tsl esl : Array (Option Value)} {ed : Option Addr} {en : Nat} (i : PySem.W.findIn K (.ref CC) "__init__" = some (some (.ref f))) (l : K.lookup f = some ⟨oc, od, .func (PySem.W.fnOf "__init__" "Counters.__init__" (defArgs sCIni) (defBody sCIni) (defScope sCIni) (.ref T) kV doc pm an cdv ct), osl⟩)
    (c : PySem.W.codeIn K cdv "Counters.__init__" = true) (k : PySem.W.keepIn K (.ref f) = true) (n : PySem.W.isFn K (.ref f) = true) (lT : K.lookup T = some ⟨tc, td, .seq its tn, tsl⟩) (hi : its = #[.ref eA]) (le : K.lookup eA = some ⟨.type "tuple", ed, .seq #[] en, esl⟩) : RawCo K CC eA :=
  ⟨⟨f, _, ⟨⟨oc, od, .ref T, kV, doc, pm, an, cdv, ct, osl, rfl, l, c, .inr ⟨by simp, T, _, [.ref eA], tn, rfl, lT, by rw [hi], .cons rfl .nil⟩, .inl rfl⟩, k⟩, i, n⟩, ⟨_, en, le, rfl, rfl⟩⟩
structure RawK (K : PySem.W.Frag) : Prop where
  ex : ∃ (f : Addr) (fd : FuncData), FunD K "kept_doings" "kept_doings" (defArgs sKept) (defBody sKept) (defScope sKept) [V.int 0] [] f fd ∧ PySem.W.nsIn K mainGlobals "kept_doings" = some (some (.ref f))
theorem rawK_mk {K : PySem.W.Frag} {f T : Addr} {oc : Value} {od an : Option Addr} {osl : Array (Option Value)} {kV doc pm cdv ct tc : Value} {td : Option Addr} {its : Array Value} {tn : Nat} {tsl : Array (Option Value)} {tk : Tok} (g : PySem.W.nsIn K mainGlobals "kept_doings" = some (some (.ref f))) (l : K.lookup f = some ⟨oc, od, .func (PySem.W.fnOf "kept_doings" "kept_doings" (defArgs sKept) (defBody sKept) (defScope sKept) (.ref T) kV doc pm an cdv ct), osl⟩)
    (c : PySem.W.codeIn K cdv "kept_doings" = true) (k : PySem.W.keepIn K (.ref f) = true) (lT : K.lookup T = some ⟨tc, td, .seq its tn, tsl⟩) (hi : its = #[.int 0 tk]) : RawK K :=
  ⟨⟨f, _, ⟨⟨oc, od, .ref T, kV, doc, pm, an, cdv, ct, osl, rfl, l, c, .inr ⟨by simp, T, _, [.int 0 tk], tn, rfl, lT, by rw [hi], .cons ⟨tk, rfl⟩ .nil⟩, .inl rfl⟩, k⟩, g⟩⟩
/-- names the module does not bind -/
def NoAll (K : PySem.W.Frag) : List Str → Prop
  | [] => True
  | x :: l => PySem.W.nsIn K mainGlobals x = some none ∧ NoAll K l
theorem NoAll.get {K : PySem.W.Frag} : ∀ {l : List Str}, NoAll K l → ∀ x ∈ l, PySem.W.nsIn K mainGlobals x = some none
  | y :: l, h, x, hx => by
    rcases List.mem_cons.mp hx with e | e
    · rw [e]; exact h.1
    · exact NoAll.get h.2 x e
def NoIn (K : PySem.W.Frag) (C : Addr) : List Str → Prop
  | [] => True
  | x :: l => PySem.W.findIn K (.ref C) x = some none ∧ NoIn K C l
theorem NoIn.get {K : PySem.W.Frag} {C : Addr} : ∀ {l : List Str}, NoIn K C l → ∀ x ∈ l, NoAttr K C x
  | y :: l, h, x, hx => by
    rcases List.mem_cons.mp hx with e | e
    · rw [e]; exact h.1
    · exact NoIn.get h.2 x e
abbrev noNames : List Str := ["isinstance", "len", "range", "all", "any", "tuple", "list", "sorted", "enumerate", "zip", "min", "abs", "int", "set", "sum", "repr", "bool", "KeyError"]
theorem cst_mk {K : PySem.W.Frag} {x : Str} {n : Int} {t : Tok} (h : PySem.W.nsIn K mainGlobals x = some (some (.int n t))) : ∃ t, PySem.W.nsIn K mainGlobals x = some (some (.int n t)) := ⟨t, h⟩
structure RawT (K : PySem.W.Frag) (CM CC : Addr) : Prop where
  no : NoAll K noNames
  cD : ∃ t, PySem.W.nsIn K mainGlobals "MOST_DEEDS" = some (some (.int 4 t))
  cS : ∃ t, PySem.W.nsIn K mainGlobals "MOST_STATES" = some (some (.int 8 t))
  cR : ∃ t, PySem.W.nsIn K mainGlobals "MOST_ROUND" = some (some (.int 60 t))
  cE : ∃ t, PySem.W.nsIn K mainGlobals "MOST_REST" = some (some (.int 6 t))
  nM : NoIn K CM ["tables", "deeds", "states"]
  nC : NoIn K CC ["rounds", "rests"]
/-- who is caught where -/
structure RawH (K : PySem.W.Frag) (CM CC CR CN CF CT CB CW : Addr) : Prop where
  mB : PySem.W.nsIn K mainGlobals "BadRow" = some (some (.ref CB))
  mW : PySem.W.nsIn K mainGlobals "WitnessError" = some (some (.ref CW))
  cN : ExcC K CN
  cF : ExcC K CF
  cT : ExcC K CT
  cR : ExcC K CR
  nb : PySem.W.exmOne K (.ref CN) (.ref CB) = some false
  nn : PySem.W.exmOne K (.ref CN) (.ref CN) = some true
  fb : PySem.W.exmOne K (.ref CF) (.ref CB) = some false
  fn : PySem.W.exmOne K (.ref CF) (.ref CN) = some false
  ff : PySem.W.exmOne K (.ref CF) (.ref CF) = some true
  tb : PySem.W.exmOne K (.ref CT) (.ref CB) = some false
  tn : PySem.W.exmOne K (.ref CT) (.ref CN) = some false
  tf : PySem.W.exmOne K (.ref CT) (.ref CF) = some false
  tt : PySem.W.exmOne K (.ref CT) (.ref CT) = some true
  rb : PySem.W.exmOne K (.ref CR) (.ref CB) = some false
  rn : PySem.W.exmOne K (.ref CR) (.ref CN) = some false
  rf : PySem.W.exmOne K (.ref CR) (.ref CF) = some false
  rt : PySem.W.exmOne K (.ref CR) (.ref CT) = some false
  rr : PySem.W.exmOne K (.ref CR) (.ref CR) = some true
  kN : PySem.W.kitOne K (.ref CN) (.type "KeyError") = some true
  kF : PySem.W.kitOne K (.ref CF) (.ref CW) = some true
  kT : PySem.W.kitOne K (.ref CT) (.ref CW) = some true
  kR : PySem.W.kitOne K (.ref CR) (.ref CW) = some true
  aM : PySem.W.kitAny K (.ref CM) [.ref CM, .ref CC] = some true
  aC : PySem.W.kitAny K (.ref CC) [.ref CM, .ref CC] = some true
section
variable {P : Program} {w : World} {K : PySem.W.Frag} {mg : Str → Option Value} {base : Heap} {h : Heap} {CM CC CR CN CF CT CB CW eA : Addr} {cb : Bool}
/-- every plain def keeps its promise -/
structure AllD (P : Program) (w : World) (K : PySem.W.Frag) (mg : Str → Option Value) (base : Heap) (CM CC CR CN CF CT : Addr) : Prop where
  is_integer : Def P w K mg base 1 "is_integer" ["value"] spIsInt
  is_number : Def P w K mg base 2 "is_number" ["value"] spIsNum
  is_below : Def P w K mg base 3 "is_below" ["value", "most"] spIsBel
  is_within : Def P w K mg base 2 "is_within" ["value", "least", "most"] spIsWit
  is_sequence : Def P w K mg base 1 "is_sequence" ["value"] (spIsSeq K)
  check_rounds : Def P w K mg base 3 "check_rounds" ["value"] spChk
  check_rests : Def P w K mg base 3 "check_rests" ["value", "many"] (spChkE K)
  is_table : Def P w K mg base 4 "is_table" ["value", "states"] spIsTab
  check_tables : Def P w K mg base 5 "check_tables" ["value"] spChkT
  need_state : Def P w K mg base 4 "need_state" ["machine", "state"] (spNState CM CN)
  need_fit : Def P w K mg base 2 "need_fit" ["machine", "counters"] (spNFit CM CC CR)
  need_rounds : Def P w K mg base 2 "need_rounds" ["counters"] (spNRou CC CR)
  reached : Def P w K mg base 5 "reached" ["machine", "first"] (spReached CM CN)
  reachedX : Def P w K mg base 5 "reached" ["machine", "first"] (spReachedX CM)
  forgotten : Def P w K mg base 6 "forgotten" ["machine", "first"] (spForg CM CN)
  need_exchanges : Def P w K mg base 7 "need_exchanges" ["machine", "first"] (spNEx CM CN CF)
  need_doings : Def P w K mg base 8 "need_doings" ["machine", "first", "counters"] (spNDo CM CC CR CN CF)
  nothing_done : Def P w K mg base 6 "nothing_done" ["machine", "first"] (spNoth CM CN)
  done_on : Def P w K mg base 1 "done_on" ["machine", "counters", "doing", "deed"] (spDone CM CC)
  doings_from : Def P w K mg base 7 "doings_from" ["machine", "first", "counters", "most"] (spDFrom CM CC CT P w)
  composed : Def P w K mg base 1 "composed" ["states", "rounds", "one", "other"] spComp
  told_doing : Def P w K mg base 2 "told_doing" ["known", "value"] (spTold P w)
  need_seer : Def P w K mg base 7 "need_seer" ["machine", "witness", "start"] (spNSeer CM CR CN)
  closed_group : Def P w K mg base 6 "closed_group" ["machine", "first", "counters", "known", "value"] (spClosed CM CC P w)
  _law_take : Def P w K mg base 1 "_law_take" ["_law_box_here", "_law_many"] spTake
  _law_pick : Def P w K mg base 2 "_law_pick" ["_law_box_here", "_law_some"] (spPick K)
  _law_mixed : Def P w K mg base 2 "_law_mixed" ["_law_box_here", "_law_some"] (spMixed K)
  _law_box : Def P w K mg base 1 "_law_box" ["_law_script", "_law_k"] (spBox K)
  _law_on : Def P w K mg base 1 "_law_on" ["_law_tables_here", "_law_rounds", "_law_doing", "_law_deed"] spOn
  _law_reached : Def P w K mg base 1 "_law_reached" ["_law_tables_here", "_law_first"] (spReL K)
  _law_nothing : Def P w K mg base 2 "_law_nothing" ["_law_tables_here", "_law_first"] spNoL
  _law_tables : Def P w K mg base 3 "_law_tables" ["_law_box_here", "_law_most"] spTabs
  _law_behind : Def P w K mg base 1 "_law_behind" ["_law_states", "_law_rounds", "_law_one", "_law_other"] (spBeh K)
  _law_doings : Def P w K mg base 3 "_law_doings" ["_law_tables_here", "_law_first", "_law_rounds"] (spDoL P w)
  _law_made : Def P w K mg base 3 "_law_made" ["_law_tables_here", "_law_first", "_law_rounds", "_law_some"] (spMaL P w)
  _law_walked : Def P w K mg base 3 "_law_walked" ["_law_tables_here", "_law_first", "_law_rounds", "_law_witness", "_law_start"] (spWaL)
  _law_tells : Def P w K mg base 1 "_law_tells" ["_law_states", "_law_first", "_law_walked_here"] (spTel K)
  _law_due : Def P w K mg base 2 "_law_due" ["_law_tables_here", "_law_first", "_law_rounds", "_law_known", "_law_value"] (spDue P w)
  _law_bent : Def P w K mg base 3 "_law_bent" ["_law_box_here", "_law_group", "_law_known"] spBent
theorem allD (X : K.In h) (G : h.Ns mainGlobals mg) (R : RawD K) (T : Txt K mg) (TC : TxC K mg CM CC) (TE : TxE P K mg CR CN CF CT) : AllD P w K mg base CM CC CR CN CF CT := by
  have D_is_integer : Def P w K mg base 1 "is_integer" ["value"] spIsInt := R.d_is_integer.def_ X G (fun f fd F => ok_isint F T) (fun _ _ _ _ _ _ us hl => match us, hl with | [_], _ => rfl)
  have D_is_number : Def P w K mg base 2 "is_number" ["value"] spIsNum := R.d_is_number.def_ X G (fun f fd F => ok_isnum F T D_is_integer) (fun _ _ _ _ _ _ us hl => match us, hl with | [_], _ => rfl)
  have D_is_below : Def P w K mg base 3 "is_below" ["value", "most"] spIsBel := R.d_is_below.def_ X G (fun f fd F => ok_isbel F T D_is_number) (fun _ _ _ _ _ _ us hl => match us, hl with | [_, _], _ => rfl)
  have D_is_within : Def P w K mg base 2 "is_within" ["value", "least", "most"] spIsWit := R.d_is_within.def_ X G (fun f fd F => ok_iswit F T D_is_integer) (fun _ _ _ _ _ _ us hl => match us, hl with | [_, _, _], _ => rfl)
  have D_is_sequence : Def P w K mg base 1 "is_sequence" ["value"] (spIsSeq K) := R.d_is_sequence.def_ X G (fun f fd F => ok_isseq F T) (fun _ _ _ _ _ _ us hl => match us, hl with | [_], _ => rfl)
  have D_check_rounds : Def P w K mg base 3 "check_rounds" ["value"] spChk := R.d_check_rounds.def_ X G (fun f fd F => ok_chk F T D_is_sequence D_is_within) (fun _ _ _ _ _ _ us hl => match us, hl with | [_], _ => rfl)
  have D_check_rests : Def P w K mg base 3 "check_rests" ["value", "many"] (spChkE K) := R.d_check_rests.def_ X G (fun f fd F => ok_chkE F T D_is_sequence D_is_within) (fun _ _ _ _ _ _ us hl => match us, hl with | [_, _], _ => rfl)
  have D_is_table : Def P w K mg base 4 "is_table" ["value", "states"] spIsTab := R.d_is_table.def_ X G (fun f fd F => ok_istab F T D_is_sequence D_is_below) (fun _ _ _ _ _ _ us hl => match us, hl with | [_, _], _ => rfl)
  have D_check_tables : Def P w K mg base 5 "check_tables" ["value"] spChkT := R.d_check_tables.def_ X G (fun f fd F => ok_chkT F T D_is_sequence D_is_table) (fun _ _ _ _ _ _ us hl => match us, hl with | [_], _ => rfl)
  have D_need_state : Def P w K mg base 4 "need_state" ["machine", "state"] (spNState CM CN) := R.d_need_state.def_ X G (fun f fd F => ok_nstate F T TC TE D_is_below) (fun _ _ _ _ _ _ us hl => match us, hl with | [_, _], _ => rfl)
  have D_need_fit : Def P w K mg base 2 "need_fit" ["machine", "counters"] (spNFit CM CC CR) := R.d_need_fit.def_ X G (fun f fd F => ok_nfit F T TC TE) (fun _ _ _ _ _ _ us hl => match us, hl with | [_, _], _ => rfl)
  have D_need_rounds : Def P w K mg base 2 "need_rounds" ["counters"] (spNRou CC CR) := R.d_need_rounds.def_ X G (fun f fd F => ok_nrou F T TC TE) (fun _ _ _ _ _ _ us hl => match us, hl with | [_], _ => rfl)
  have D_reached : Def P w K mg base 5 "reached" ["machine", "first"] (spReached CM CN) := R.d_reached.def_ X G (fun f fd F => ok_reached F T TC D_need_state) (fun _ _ _ _ _ _ us hl => match us, hl with | [_, _], _ => rfl)
  have D_reachedX : Def P w K mg base 5 "reached" ["machine", "first"] (spReachedX CM) := R.d_reached.def_ X G (fun f fd F => ok_reachedX F T TC D_need_state) (fun _ _ _ _ _ _ us hl => match us, hl with | [_, _], _ => rfl)
  have D_forgotten : Def P w K mg base 6 "forgotten" ["machine", "first"] (spForg CM CN) := R.d_forgotten.def_ X G (fun f fd F => ok_forg F T TC D_reached) (fun _ _ _ _ _ _ us hl => match us, hl with | [_, _], _ => rfl)
  have D_need_exchanges : Def P w K mg base 7 "need_exchanges" ["machine", "first"] (spNEx CM CN CF) := R.d_need_exchanges.def_ X G (fun f fd F => ok_nex F T TE D_forgotten) (fun _ _ _ _ _ _ us hl => match us, hl with | [_, _], _ => rfl)
  have D_need_doings : Def P w K mg base 8 "need_doings" ["machine", "first", "counters"] (spNDo CM CC CR CN CF) := R.d_need_doings.def_ X G (fun f fd F => ok_ndo F D_need_state D_need_fit D_need_rounds D_need_exchanges) (fun _ _ _ _ _ _ us hl => match us, hl with | [_, _, _], _ => rfl)
  have D_nothing_done : Def P w K mg base 6 "nothing_done" ["machine", "first"] (spNoth CM CN) := R.d_nothing_done.def_ X G (fun f fd F => ok_noth F TC D_reached) (fun _ _ _ _ _ _ us hl => match us, hl with | [_, _], _ => rfl)
  have D_done_on : Def P w K mg base 1 "done_on" ["machine", "counters", "doing", "deed"] (spDone CM CC) := R.d_done_on.def_ X G (fun f fd F => ok_done F T TC) (fun _ _ _ _ _ _ us hl => match us, hl with | [_, _, _, _], _ => rfl)
  have D_doings_from : Def P w K mg base 7 "doings_from" ["machine", "first", "counters", "most"] (spDFrom CM CC CT P w) := R.d_doings_from.def_ X G (fun f fd F => ok_dfrom F T TC TE D_nothing_done D_done_on) (fun _ _ _ _ _ _ us hl => match us, hl with | [_, _, _, _], _ => rfl)
  have D_composed : Def P w K mg base 1 "composed" ["states", "rounds", "one", "other"] spComp := R.d_composed.def_ X G (fun f fd F => ok_comp F T) (fun _ _ _ _ _ _ us hl => match us, hl with | [_, _, _, _], _ => rfl)
  have D_told_doing : Def P w K mg base 2 "told_doing" ["known", "value"] (spTold P w) := R.d_told_doing.def_ X G (fun f fd F => ok_told F T D_is_sequence) (fun _ _ _ _ _ _ us hl => match us, hl with | [_, _], _ => rfl)
  have D_need_seer : Def P w K mg base 7 "need_seer" ["machine", "witness", "start"] (spNSeer CM CR CN) := R.d_need_seer.def_ X G (fun f fd F => ok_nseer F TC TE D_need_state D_forgotten) (fun _ _ _ _ _ _ us hl => match us, hl with | [_, _, _], _ => rfl)
  have D_closed_group : Def P w K mg base 6 "closed_group" ["machine", "first", "counters", "known", "value"] (spClosed CM CC P w) := R.d_closed_group.def_ X G (fun f fd F => ok_closed F T TC D_is_sequence D_told_doing D_reached D_composed) (fun _ _ _ _ _ _ us hl => match us, hl with | [_, _, _, _, _], _ => rfl)
  have D__law_take : Def P w K mg base 1 "_law_take" ["_law_box_here", "_law_many"] spTake := R.d__law_take.def_ X G (fun f fd F => ok_take F T) (fun _ _ _ _ _ _ us hl => match us, hl with | [_, _], _ => rfl)
  have D__law_pick : Def P w K mg base 2 "_law_pick" ["_law_box_here", "_law_some"] (spPick K) := R.d__law_pick.def_ X G (fun f fd F => ok_pick F T D__law_take) (fun _ _ _ _ _ _ us hl => match us, hl with | [_, _], _ => rfl)
  have D__law_mixed : Def P w K mg base 2 "_law_mixed" ["_law_box_here", "_law_some"] (spMixed K) := R.d__law_mixed.def_ X G (fun f fd F => ok_mixed F T D__law_take) (fun _ _ _ _ _ _ us hl => match us, hl with | [_, _], _ => rfl)
  have D__law_box : Def P w K mg base 1 "_law_box" ["_law_script", "_law_k"] (spBox K) := R.d__law_box.def_ X G (fun f fd F => ok_box F T) (fun _ _ _ _ _ _ us hl => match us, hl with | [_, _], _ => rfl)
  have D__law_on : Def P w K mg base 1 "_law_on" ["_law_tables_here", "_law_rounds", "_law_doing", "_law_deed"] spOn := R.d__law_on.def_ X G (fun f fd F => ok_on F T) (fun _ _ _ _ _ _ us hl => match us, hl with | [_, _, _, _], _ => rfl)
  have D__law_reached : Def P w K mg base 1 "_law_reached" ["_law_tables_here", "_law_first"] (spReL K) := R.d__law_reached.def_ X G (fun f fd F => ok_rel F T) (fun _ _ _ _ _ _ us hl => match us, hl with | [_, _], _ => rfl)
  have D__law_nothing : Def P w K mg base 2 "_law_nothing" ["_law_tables_here", "_law_first"] spNoL := R.d__law_nothing.def_ X G (fun f fd F => ok_nol F T D__law_reached) (fun _ _ _ _ _ _ us hl => match us, hl with | [_, _], _ => rfl)
  have D__law_tables : Def P w K mg base 3 "_law_tables" ["_law_box_here", "_law_most"] spTabs := R.d__law_tables.def_ X G (fun f fd F => ok_tabs F T D__law_take D__law_pick D__law_mixed) (fun _ _ _ _ _ _ us hl => match us, hl with | [_, _], _ => rfl)
  have D__law_behind : Def P w K mg base 1 "_law_behind" ["_law_states", "_law_rounds", "_law_one", "_law_other"] (spBeh K) := R.d__law_behind.def_ X G (fun f fd F => ok_beh F T) (fun _ _ _ _ _ _ us hl => match us, hl with | [_, _, _, _], _ => rfl)
  have D__law_doings : Def P w K mg base 3 "_law_doings" ["_law_tables_here", "_law_first", "_law_rounds"] (spDoL P w) := R.d__law_doings.def_ X G (fun f fd F => ok_dol F T D__law_nothing D__law_on) (fun _ _ _ _ _ _ us hl => match us, hl with | [_, _, _], _ => rfl)
  have D__law_made : Def P w K mg base 3 "_law_made" ["_law_tables_here", "_law_first", "_law_rounds", "_law_some"] (spMaL P w) := R.d__law_made.def_ X G (fun f fd F => ok_mal F T D__law_nothing D__law_reached D__law_behind) (fun _ _ _ _ _ _ us hl => match us, hl with | [_, _, _, _], _ => rfl)
  have D__law_walked : Def P w K mg base 3 "_law_walked" ["_law_tables_here", "_law_first", "_law_rounds", "_law_witness", "_law_start"] (spWaL) := R.d__law_walked.def_ X G (fun f fd F => ok_wal F T D__law_nothing D__law_on) (fun _ _ _ _ _ _ us hl => match us, hl with | [_, _, _, _, _], _ => rfl)
  have D__law_tells : Def P w K mg base 1 "_law_tells" ["_law_states", "_law_first", "_law_walked_here"] (spTel K) := R.d__law_tells.def_ X G (fun f fd F => ok_tel F T) (fun _ _ _ _ _ _ us hl => match us, hl with | [_, _, _], _ => rfl)
  have D__law_due : Def P w K mg base 2 "_law_due" ["_law_tables_here", "_law_first", "_law_rounds", "_law_known", "_law_value"] (spDue P w) := R.d__law_due.def_ X G (fun f fd F => ok_due F T D__law_reached D__law_behind) (fun _ _ _ _ _ _ us hl => match us, hl with | [_, _, _, _, _], _ => rfl)
  have D__law_bent : Def P w K mg base 3 "_law_bent" ["_law_box_here", "_law_group", "_law_known"] spBent := R.d__law_bent.def_ X G (fun f fd F => ok_bent F T D__law_take D__law_pick D__law_mixed) (fun _ _ _ _ _ _ us hl => match us, hl with | [_, _, _], _ => rfl)
  exact ⟨D_is_integer, D_is_number, D_is_below, D_is_within, D_is_sequence, D_check_rounds, D_check_rests, D_is_table, D_check_tables, D_need_state, D_need_fit, D_need_rounds, D_reached, D_reachedX, D_forgotten, D_need_exchanges, D_need_doings, D_nothing_done, D_done_on, D_doings_from, D_composed, D_told_doing, D_need_seer, D_closed_group, D__law_take, D__law_pick, D__law_mixed, D__law_box, D__law_on, D__law_reached, D__law_nothing, D__law_tables, D__law_behind, D__law_doings, D__law_made, D__law_walked, D__law_tells, D__law_due, D__law_bent⟩
/-- all that the top leaves -/
structure Raw (P : Program) (K : PySem.W.Frag) (mg : Str → Option Value) (CM CC CR CN CF CT CB CW eA c1 P1 c2 P2 c3 P3 : Addr) : Prop where
  d : RawD K
  m : RawO K "Machine" CM
  c : RawO K "Counters" CC
  mi : RawM K CM
  ci : RawCo K CC eA
  k : RawK K
  t : RawT K CM CC
  h : RawH K CM CC CR CN CF CT CB CW
  e : TxE P K mg CR CN CF CT
  s : RawC K "_law_strangers_right" sStr c1 P1
  r : RawC K "_law_refused_right" sRef c2 P2
  l : RawC K "law" sLaw c3 P3
abbrev tbOf (P1 P2 P3 : Addr) : List (Addr × Str) := [(P1, "_law_strangers_right.<locals>.<lambda>"), (P2, "_law_refused_right.<locals>.<lambda>"), (P3, "law.<locals>.<lambda>")]
theorem vals_sing {v : V} {ds : List Value} (r : Vals [v] ds) : ∃ u, ds = [u] ∧ RelV v u := by
  cases r with
  | cons r t => cases t; exact ⟨_, rfl, r⟩
/-- the facts and the promises -/
theorem ofRaw {c1 P1 c2 P2 c3 P3 : Addr} (X : K.In h) (G : h.Ns mainGlobals mg) (R : Raw P K mg CM CC CR CN CF CT CB CW eA c1 P1 c2 P2 c3 P3) (n12 : P1 ≠ P2) (n13 : P1 ≠ P3) (n23 : P2 ≠ P3) (B1 : TabB base mg c1 P1) (B2 : TabB base mg c2 P2) :
    Facts P w K mg base CM CC CR CN CF CT CB CW eA false ∧ DefsL P w K mg base CM CC CR CN CF CT (tbOf P1 P2 P3) := by
  have T : Txt K mg := ⟨fun x hx => PySem.W.mg_none_of X G (R.t.no.get x hx), R.t.cD.imp fun t h => PySem.W.mg_of X G h, R.t.cS.imp fun t h => PySem.W.mg_of X G h, R.t.cR.imp fun t h => PySem.W.mg_of X G h, R.t.cE.imp fun t h => PySem.W.mg_of X G h⟩
  have TC : TxC K mg CM CC := ⟨R.m.cls, R.c.cls, R.t.nM.get, R.t.nC.get, PySem.W.mg_of X G R.m.g, PySem.W.mg_of X G R.c.g⟩
  have TE := R.e
  have TH : TxH K mg CM CC CR CN CF CT CB CW := ⟨PySem.W.mg_of X G R.h.mB, PySem.W.mg_of X G R.h.mW, R.h.cN, R.h.cF, R.h.cT, R.h.cR, R.h.nb, R.h.nn, R.h.fb, R.h.fn, R.h.ff, R.h.tb, R.h.tn, R.h.tf, R.h.tt, R.h.rb, R.h.rn, R.h.rf, R.h.rt, R.h.rr, R.h.kN, R.h.kF, R.h.kT, R.h.kR, R.m.own, R.c.own, R.h.aM, R.h.aC⟩
  have D := allD (P := P) (w := w) (base := base) X G R.d T TC TE
  have HD : HeardD K mg := by
    obtain ⟨f, fd, F, g⟩ := R.d.d__law_heard.ex
    exact ⟨f, fd, F, PySem.W.mg_of X G g, F.binds fun _ _ _ _ _ _ us hl => match us, hl with | [_], _ => rfl⟩
  have M : MkM P w K mg base CM := by
    obtain ⟨f, fd, F, i, n⟩ := R.mi.ex
    exact ⟨f, fd, ⟨R.m.mks, i, n, R.m.kp⟩, ok_mini F T TC D.check_tables, F.binds fun _ _ _ _ _ _ us hl => match us, hl with | [_, _], _ => rfl⟩
  have N : MkC P w K mg base CC eA false := by
    obtain ⟨f, fd, F, i, n⟩ := R.ci.ex
    obtain ⟨o, en, le, oc, od⟩ := R.ci.em
    obtain ⟨ds0, v0, b0⟩ := F.binds1 (ps := ["self", "rounds", "rests"]) 3 1 (by simp) rfl fun T kV doc pm an cdv ct us its h1 h2 => match us, its, h1, h2 with | [_, _, _], [_], _, _ => ⟨_, rfl, rfl⟩
    obtain ⟨ds1, v1, b1⟩ := F.binds1 (ps := ["self", "rounds", "rests"]) 2 0 (by simp) rfl fun T kV doc pm an cdv ct us its h1 h2 => match us, its, h1, h2 with | [_, _], [_], _, _ => ⟨_, rfl, rfl⟩
    have e0 : ds0 = [] := by cases v0; rfl
    obtain ⟨u1, e1, r1⟩ := vals_sing v1
    cases r1
    subst e0 e1
    refine ⟨⟨f, fd, ⟨R.c.mks, i, n, R.c.kp⟩, ok_cini F T TC D.check_rounds D.check_rests, b0, b1⟩, fun H => ⟨.inr (.inr ⟨o, #[], en, le, oc, od, by decide, .nil⟩), .kTuple le oc⟩⟩
  have F : Facts P w K mg base CM CC CR CN CF CT CB CW eA false := ⟨T, TC, TE, TH, HD, M, N⟩
  -- all_doings, kept_group, is_kept_group
  have D_all : DefK P w K mg base 9 "all_doings" ["machine", "first", "counters", "most"] 3 ["most"] (fun vs zs => vs ++ zs) (spAll CM CC CR CN CF CT) := by
    obtain ⟨f, fd, Fa, g⟩ := R.d.d_all_doings.ex
    exact ⟨f, fd, _, ok_all Fa T D.need_doings D.doings_from, PySem.W.mg_of X G g, Fa.kp, kbnF Fa 3 ["most"] (fun us ws => us ++ ws) _ (fun kV doc pm an cdv ct us ws h1 h2 => match us, ws, h1, h2 with | [_, _, _], [_], _, _ => rfl) fun r1 r2 => r1.append r2⟩
  have D_kg : Def P w K mg base 10 "kept_group" ["machine", "first", "counters", "value", "most"] (spKG CM CC CR CN CF CT) := R.d.d_kept_group.def_ X G (fun f fd F => ok_kg F T D_all D.closed_group D.reachedX) (fun _ _ _ _ _ _ us hl => match us, hl with | [_, _, _, _, _], _ => rfl)
  have D_ikg : DefK P w K mg base 11 "is_kept_group" ikgN 4 ["most"] (fun vs zs => vs ++ zs) (spIKG CM CC CR CN CF CT) := by
    obtain ⟨f, fd, Fa, g⟩ := R.d.d_is_kept_group.ex
    exact ⟨f, fd, _, ok_ikg Fa D_kg, PySem.W.mg_of X G g, Fa.kp, kbnF Fa 4 ["most"] (fun us ws => us ++ ws) _ (fun kV doc pm an cdv ct us ws h1 h2 => match us, ws, h1, h2 with | [_, _, _, _], [_], _, _ => rfl) fun r1 r2 => r1.append r2⟩
  have D_ikg0 : DefK P w K mg base 11 "is_kept_group" ikgN 0 ikgK (fun _ zs => zs.reverse) (spIKG CM CC CR CN CF CT) := by
    obtain ⟨f, fd, Fa, g⟩ := R.d.d_is_kept_group.ex
    exact ⟨f, fd, _, ok_ikg Fa D_kg, PySem.W.mg_of X G g, Fa.kp, kbnF Fa 0 ikgK (fun _ ws => ws.reverse) _ (fun kV doc pm an cdv ct us ws h1 h2 => match us, ws, h1, h2 with | [], [_, _, _, _, _], _, _ => rfl) fun _ r2 => vals_rev r2⟩
  obtain ⟨kf, kfd, Fk, kg⟩ := R.k.ex
  have okk := ok_kept Fk T TC TE D.need_doings D.need_seer D.nothing_done D.done_on
  have D_kept : DefK P w K mg base 9 "kept_doings" kepN 5 ["most"] (fun vs zs => vs ++ zs) (spKept CM CC CR CN CF CT) := by
    obtain ⟨its, b⟩ := kbn1F (ps := kepN) Fk (by simp) 5 ["most"] (fun us _ ws => us ++ ws) (fun r1 _ r3 => r1.append r3) fun T kV doc pm an cdv ct us its ws h1 h2 h3 => match us, its, ws, h1, h2, h3 with | [_, _, _, _, _], [_], [_], _, _, _ => ⟨_, rfl, rfl⟩
    exact ⟨kf, kfd, _, okk, PySem.W.mg_of X G kg, Fk.kp, b⟩
  have D_kept0 : DefK P w K mg base 9 "kept_doings" kepN 0 kepK (fun _ zs => zs.reverse) (spKept CM CC CR CN CF CT) := by
    obtain ⟨its, b⟩ := kbn1F (ps := kepN) Fk (by simp) 0 kepK (fun _ _ ws => ws.reverse) (fun _ _ r3 => vals_rev r3) fun T kV doc pm an cdv ct us its ws h1 h2 h3 => match us, its, ws, h1, h2, h3 with | [], [_], [_, _, _, _, _, _], _, _, _ => ⟨_, rfl, rfl⟩
    exact ⟨kf, kfd, _, okk, PySem.W.mg_of X G kg, Fk.kp, b⟩
  have D_kept4 : DefK P w K mg base 9 "kept_doings" kepN 4 ["most"] (fun vs zs => vs ++ ([V.int 0] ++ zs)) (spKept CM CC CR CN CF CT) := by
    obtain ⟨its, b⟩ := kbn1F (ps := kepN) Fk (by simp) 4 ["most"] (fun us its ws => us ++ (its ++ ws)) (fun r1 r2 r3 => r1.append (r2.append r3)) fun T kV doc pm an cdv ct us its ws h1 h2 h3 => match us, its, ws, h1, h2, h3 with | [_, _, _, _], [_], [_], _, _, _ => ⟨_, rfl, rfl⟩
    exact ⟨kf, kfd, _, okk, PySem.W.mg_of X G kg, Fk.kp, b⟩
  have D_str : Def P w K mg base 16 "_law_strangers_right" strP (spStr P w K mg base CM CC CR CN CF (tbOf P1 P2 P3)) := by
    obtain ⟨f, fd, Fs, g⟩ := R.s.ex
    exact ⟨f, fd, ok_str Fs F B1 (by simp) (fun p hp e => by
      simp only [List.mem_cons, List.not_mem_nil, or_false] at hp
      rcases hp with rfl | rfl | rfl
      · rfl
      · exact absurd e.symm n12
      · exact absurd e.symm n13) D._law_pick, PySem.W.mg_of X G g, Fs.kp, Fs.toFun.binds fun _ _ _ _ _ _ us hl => match us, hl with | [_, _, _, _, _], _ => rfl⟩
  have D_ref : Def P w K mg base 17 "_law_refused_right" refP (spRef (tbOf P1 P2 P3)) := by
    obtain ⟨f, fd, Fs, g⟩ := R.r.ex
    exact ⟨f, fd, ok_ref Fs F B2 (by simp) (fun p hp e => by
      simp only [List.mem_cons, List.not_mem_nil, or_false] at hp
      rcases hp with rfl | rfl | rfl
      · exact absurd e n12
      · rfl
      · exact absurd e.symm n23) D._law_pick D_str D_kept D_ikg, PySem.W.mg_of X G g, Fs.kp, Fs.toFun.binds fun _ _ _ _ _ _ us hl => match us, hl with | [_, _, _, _, _, _], _ => rfl⟩
  have D_oth : Def P w K mg base 12 "_law_other_right" [] spOth := R.d.d__law_other_right.def_ X G (fun f fd Fo => ok_oth Fo F D_ikg) (fun _ _ _ _ _ _ us hl => match us, hl with | [], _ => rfl)
  exact ⟨F, ⟨D._law_take, D._law_pick, D._law_mixed, D._law_box, D._law_tables, D._law_reached, D._law_doings, D._law_made, D._law_due, D._law_bent, D._law_walked, D._law_tells, D_ref, D_oth, D_kept, D_kept0, D_kept4, D_ikg, D_ikg0⟩⟩
end
end Onew
end
section
set_option maxRecDepth 100000
set_option maxHeartbeats 4000000
namespace Onew
open PySem PySem.Spec PyProof.Rows L2 G
open LamX (CodeO TabS Tabs ExtN TabB)
/-- the law is called once, from nothing: there the law's def may be shown at that very place -/
abbrev Goes (P : Program) (w : World) (K : PySem.W.Frag) (mg : Str → Option Value) (cs : List (Addr × Addr)) (fa : Addr) : Prop := ∀ (base : Heap) (H : Hp) (s : Shared) (a : Addr) (ns : List Int), (∀ p ∈ cs, TabB base mg p.1 p.2) → Env0 P w K mg base callerA [] s H → (∀ p ∈ cs, H p.2 = some (.tbl #[])) → SqL K H a (ns.map V.int) →
  codeAny (model P w) callerA (.call (.ref fa) ⟨[.ref a], []⟩) (CR (L2.CX P w) [] P w H s (fun v _ => v = .bl true) fun _ _ _ => False) s
/-- the script and the tables, as they are tracked -/
noncomputable def HpAt (K : PySem.W.Frag) (tb : List Addr) (a : Addr) (ob : Obj) (xs : List V) : Hp := fun b => if b = a then (if (K.lookup a).isNone then some (.frz ob (.lst xs)) else none) else if b ∈ tb then some (.tbl #[]) else none
section
variable {K : PySem.W.Frag} {tb : List Addr} {a b : Addr} {ob : Obj} {xs : List V} {u : HO}
theorem hpAt_tb (na : a ∉ tb) (h : b ∈ tb) : HpAt K tb a ob xs b = some (.tbl #[]) := by unfold HpAt; rw [if_neg (fun z : b = a => na (by rw [← z]; exact h)), if_pos h]
theorem hpAt_some (h : HpAt K tb a ob xs b = some u) : (b = a ∧ K.lookup a = none ∧ u = .frz ob (.lst xs)) ∨ (b ∈ tb ∧ u = .tbl #[]) := by
  unfold HpAt at h
  by_cases q : b = a
  · rw [if_pos q] at h
    cases k : K.lookup a with
    | none => rw [k] at h; exact .inl ⟨q, rfl, (Option.some.inj h).symm⟩
    | some o => rw [k] at h; cases h
  · rw [if_neg q] at h
    by_cases r : b ∈ tb
    · rw [if_pos r] at h; exact .inr ⟨r, (Option.some.inj h).symm⟩
    · rw [if_neg r] at h; cases h
end
theorem law_once {P : Program} {w : World} {K : PySem.W.Frag} {mg mb : Str → Option Value} {fa a : Addr} {cs : List (Addr × Addr)} {s1 : Shared} {vs : List Value} {ns : List Int} (KX : K.In s1.heap) (hgl : s1.heap.Ns mainGlobals mg) (hbl : s1.heap.Ns builtinsNs mb) (hbb : ∀ x : Str, x ≠ "__name__" → mb x = bootBuiltins x) (hno : s1.heap.NoLimit) (hge : s1.gens = #[])
    (tabs : ∀ p ∈ cs, s1.heap.get? p.2 = some { cls := .none, data := .fields #[] }) (tabK : ∀ p ∈ cs, K.lookup p.2 = none) (hds : ∀ p ∈ cs, PySem.W.CodeHd s1.heap p.1 p.2) (hbm : ∃ (bm : Addr) (ob : Obj), mg "__builtins__" = some (.ref bm) ∧ bm ≠ builtinsNs ∧ s1.heap.get? bm = some ob ∧ ob.cls = .type "module" ∧ ob.dict = some builtinsNs ∧ ob.data = .plain)
    (sc : s1.heap.get? a = some { cls := .type "list", data := .seq vs.toArray }) (hin : IntsAre vs ns) (few : ns.length ≤ sizeLine) (go : Goes P w K mg cs fa) :
    codeAny (model P w) callerA (.call (.ref fa) ⟨[.ref a], []⟩) (fun r s' => r = .ok (.ret (.bool true)) ∧ OldK s1.heap s'.heap ∧ s'.os = s1.os ∧ AllBare s'.gens) s1 := by
  have rv := vals_ints hin
  have at1 : ∀ b ∈ cs.map (·.2), s1.heap.get? b = some { cls := .none, data := .fields #[] } := fun b hb => by obtain ⟨p, hp, rfl⟩ := List.mem_map.mp hb; exact tabs p hp
  have inT : ∀ p ∈ cs, p.2 ∈ cs.map (·.2) := fun p hp => List.mem_map.mpr ⟨p, hp, rfl⟩
  have na : a ∉ cs.map (·.2) := fun z => by have q := (at1 a z).symm.trans sc; cases q
  generalize hH : HpAt K (cs.map (·.2)) a { cls := .type "list", data := .seq vs.toArray } (ns.map V.int) = H
  have some_ : ∀ {b u}, H b = some u → (b = a ∧ K.lookup a = none ∧ u = .frz { cls := .type "list", data := .seq vs.toArray } (.lst (ns.map V.int))) ∨ (b ∈ cs.map (·.2) ∧ u = .tbl #[]) := fun h => by rw [← hH] at h; exact hpAt_some h
  have tr : ∀ p ∈ cs, H p.2 = some (.tbl #[]) := fun p hp => by rw [← hH]; exact hpAt_tb na (inT p hp)
  have sq : SqL K H a (ns.map V.int) := by
    cases k : K.lookup a with
    | none => exact .inl (.inr ⟨{ cls := .type "list", data := .seq vs.toArray }, by rw [← hH]; unfold HpAt; rw [if_pos rfl, k]; rfl⟩)
    | some o => have e := (KX a o k).symm.trans sc; cases e; exact .inr ⟨_, vs.toArray, _, k, rfl, rfl, rfl, by rw [List.size_toArray, hin.length]; exact few, by simpa using rv⟩
  have ok : HOk P w H s1.heap := fun b u h => by
    rcases some_ h with ⟨rfl, _, rfl⟩ | ⟨h1, rfl⟩
    · exact ⟨sc, by rw [List.length_map]; exact few, vs, _, rv, sc⟩
    · exact at1 b h1
  -- what is no list and no table is not tracked
  have free : ∀ {b : Addr} {o : Obj}, s1.heap.get? b = some o → (∀ ws n, o.data ≠ .seq ws n) → o.data ≠ .fields #[] → H b = none := fun {b o} e n1 n2 => by
    cases q : H b with
    | none => rfl
    | some u => rcases some_ q with ⟨rfl, _, _⟩ | ⟨h1, _⟩
                · have z := e.symm.trans sc; cases z; exact absurd rfl (n1 _ _)
                · have z := e.symm.trans (at1 b h1); cases z; exact absurd rfl n2
  have in0 : ∀ {b : Addr} {o : Obj}, s1.heap.get? b = some o → H b = none → (hidT s1.heap H).get? b = some o := fun e n => hidT_get e n
  have ns0 : ∀ {b : Addr} {m : Str → Option Value}, s1.heap.Ns b m → (hidT s1.heap H).Ns b m := fun ⟨o, es, ep, e, d, r⟩ => ⟨o, es, ep, in0 e (free e (fun _ _ z => by rw [d] at z; cases z) fun z => by rw [d] at z; cases z), d, r⟩
  have kin : K.In (hidT s1.heap H) := fun b o e => in0 (KX b o e) (by
    cases q : H b with
    | none => rfl
    | some u => rcases some_ q with ⟨rfl, k, _⟩ | ⟨h1, _⟩
                · rw [k] at e; cases e
                · obtain ⟨p, hp, rfl⟩ := List.mem_map.mp h1; rw [tabK p hp] at e; cases e)
  have tB : ∀ p ∈ cs, TabB (hidT s1.heap H) mg p.1 p.2 := fun p hp => by
    have tp := tabs p hp
    refine ⟨?_, ?_, fun z => ?_⟩
    · obtain ⟨o, us, file, tf, flags, tg, inF, text, tt, e, r1, r2, r3, rest⟩ := hds p hp
      refine ⟨o, us, file, tf, flags, tg, inF, text, tt, in0 e (free e (fun _ _ z => by rw [r2] at z; cases z) fun z => ?_), r1, r2, r3, rest⟩
      rw [r2] at z; cases z; simp at r3
    · obtain ⟨bm, ob, b1, b2, b3, b4, b5, b6⟩ := hbm
      refine ⟨bm, ob, b1, b2, fun q => ?_, fun q => ?_, in0 b3 (free b3 (fun _ _ z => by rw [b6] at z; cases z) fun z => by rw [b6] at z; cases z), b4, b5, b6⟩
      · obtain ⟨o, es, ep, e, d, _⟩ := hgl
        rw [q, e] at b3; cases b3; rw [d] at b6; cases b6
      · rw [q, tp] at b3; cases b3; cases b6
    · obtain ⟨o, es, ep, e, d, _⟩ := hgl
      rw [z, tp] at e; cases e; cases d
  have env : Env0 P w K mg (hidT s1.heap H) callerA [] s1 H := { frames := rfl, mod := ⟨kin, ns0 hgl, ⟨mb, ns0 hbl, hbb⟩, let ⟨mc, h1, h2⟩ := hno; ⟨mc, ns0 h1, h2⟩⟩, bs := fun b o e => of_hidT e, bsz := Nat.le_of_eq (hidT_size _ _), funs := trivial, frf := fun b hb => (List.not_mem_nil hb).elim, hok := ok, bare := .of_eq hge }
  refine codeAny_mono (go _ H s1 a ns tB env tr sq) fun r s' h => ?_
  cases r with
  | error e => obtain ⟨_, _, _, _, _, _, _, _, _, _, _, _, z⟩ := h; exact z.elim
  | ok fl => cases fl with
    | next => exact h.elim
    | brk => exact h.elim
    | cont => exact h.elim
    | ret u =>
      obtain ⟨v, H', os, bare, un, ok', rel, rfl⟩ := h
      obtain rfl : u = Value.bool true := rel
      have stay : ∀ b o, b ∉ cs.map (·.2) → s1.heap.get? b = some o → s'.heap.get? b = some o := fun b o nb e => by
        cases q : H b with
        | none => exact un.keep b o e q (fun z => (List.not_mem_nil z).elim) (by simp)
        | some u => rcases some_ q with ⟨rfl, k, rfl⟩ | ⟨h1, _⟩
                    · have z := un.frzs _ _ _ q; obtain ⟨e1, _⟩ := ok _ _ q; obtain ⟨e2, _⟩ := ok' _ _ z; rw [e] at e1; cases e1; exact e2
                    · exact absurd h1 nb
      have grow : ∀ p ∈ cs, ∃ more : Array Value, s'.heap.get? p.2 = some { cls := .none, data := .fields more } := fun p hp => by obtain ⟨more, z⟩ := un.tbls p.2 #[] (tr p hp); exact ⟨_, ok' p.2 _ z⟩
      refine ⟨rfl, ⟨fun b o e => ?_, fun b o e => ?_⟩, os, bare⟩
      · by_cases hb : b ∈ cs.map (·.2)
        · obtain ⟨p, hp, rfl⟩ := List.mem_map.mp hb
          obtain ⟨more, hm⟩ := grow p hp
          have z := e.symm.trans (tabs p hp); cases z
          exact .inr (.inl ⟨((hds p hp).tab (tabs p hp)).isCodeTable, rfl, #[], more, rfl, by rw [Array.empty_append]; exact hm⟩)
        · exact .inl (stay b o hb e)
      · by_cases hb : b ∈ cs.map (·.2)
        · obtain ⟨p, hp, rfl⟩ := List.mem_map.mp hb; obtain ⟨more, hm⟩ := grow p hp; exact ⟨_, hm⟩
        · exact ⟨o, stay b o hb e⟩
/-- what must be known of the law at the head's heap -/
def KnownAt (P : Program) (w : World) (K : PySem.W.Frag) (mg : Str → Option Value) (fa : Addr) (h : Heap) : Prop := ∃ cs : List (Addr × Addr), (∀ p ∈ cs, h.get? p.2 = some { cls := .none, data := .fields #[] }) ∧ (∀ p ∈ cs, K.lookup p.2 = none) ∧ (∀ p ∈ cs, PySem.W.CodeHd h p.1 p.2) ∧ Goes P w K mg cs fa
theorem walk_once {l : PySem.W.OpenLaw} {n : Nat} {q : Program} {loose : List Str} {XP : (Str → Option Value) → Heap → Prop} {YP : World → Heap → Prop} {d : DefRec} {K : Params → PySem.W.Frag} (hn : l.most = some n) (hn2 : n ≤ sizeLine) (hdf : d.params.defaults = []) (hY : ∀ (w : World) (h : Heap), YP w h → (K w.params).In h)
    (F : ∀ (w : World) (mg : Str → Option Value) (fa : Addr) (h : Heap), YP w h → (K w.params).In h → h.Ns mainGlobals mg → mg d.name = some (.ref fa) → KnownAt l.prog w (K w.params) mg fa h) : PySem.W.WalkO q loose XP YP l.row.toRowW d [] (fun f vs => PySem.call f vs) := by
  refine Att.attach_callB hn hdf fun w s0 s1 mg mb fa o pm cd doc a vs ns TT Y ho hd hcd hmg hobj hints hlen hbits hge => ?_
  have KX := hY w _ Y
  obtain ⟨cs, h1, h2, h3, h4⟩ := F w mg fa _ Y KX TT.T.g hmg
  exact law_once KX TT.T.g TT.T.b TT.T.builtins TT.T.nolimit hge h1 h2 h3 TT.T.bmain hobj hints (Nat.le_trans hlen hn2) h4
/-- from the raw facts -/
theorem known_of {P : Program} {w : World} {K : PySem.W.Frag} {mg : Str → Option Value} {fa : Addr} {h : Heap} {CM CC CR CN CF CT CB CW eA c1 P1 c2 P2 c3 P3 : Addr} (X : K.In h) (G : h.Ns mainGlobals mg) (hfa : mg "law" = some (.ref fa)) (n12 : P1 ≠ P2) (n13 : P1 ≠ P3) (n23 : P2 ≠ P3) (R : Raw P K mg CM CC CR CN CF CT CB CW eA c1 P1 c2 P2 c3 P3)
    (t1 : h.get? P1 = some { cls := .none, data := .fields #[] }) (t2 : h.get? P2 = some { cls := .none, data := .fields #[] }) (t3 : h.get? P3 = some { cls := .none, data := .fields #[] }) (k1 : K.lookup P1 = none) (k2 : K.lookup P2 = none) (k3 : K.lookup P3 = none) : KnownAt P w K mg fa h := by
  have all3 : ∀ {q : Addr × Addr → Prop}, q (c1, P1) → q (c2, P2) → q (c3, P3) → ∀ p ∈ [(c1, P1), (c2, P2), (c3, P3)], q p := fun a b c p hp => by
    simp only [List.mem_cons, List.not_mem_nil, or_false] at hp
    rcases hp with rfl | rfl | rfl
    · exact a
    · exact b
    · exact c
  refine ⟨[(c1, P1), (c2, P2), (c3, P3)], all3 t1 t2 t3, all3 k1 k2 k3, all3 (PySem.W.codeHd_of_K X R.s.hd) (PySem.W.codeHd_of_K X R.r.hd) (PySem.W.codeHd_of_K X R.l.hd), fun base H s a ns TB e0 hT hS => ?_⟩
  have B1 : TabB base mg c1 P1 := TB (c1, P1) (by simp)
  have B2 : TabB base mg c2 P2 := TB (c2, P2) (by simp)
  have B3 : TabB base mg c3 P3 := TB (c3, P3) (by simp)
  obtain ⟨F, D⟩ := ofRaw (P := P) (w := w) (base := base) X G R n12 n13 n23 B1 B2
  obtain ⟨f, fd, Fl, g⟩ := R.l.ex
  have e : fa = f := by
    have := hfa.symm.trans (PySem.W.mg_of X G g)
    cases this; rfl
  subst e
  obtain ⟨oc, od, kV, doc, pm, an, ct, osl, rfl, lk, hcd⟩ := Fl.ex
  have tb : Tabs (tbOf P1 P2 P3) H := fun p hp => by
    simp only [List.mem_cons, List.not_mem_nil, or_false] at hp
    rcases hp with rfl | rfl | rfl
    · exact TabS.nil (hT (c1, P1) (by simp))
    · exact TabS.nil (hT (c2, P2) (by simp))
    · exact TabS.nil (hT (c3, P3) (by simp))
  exact LamX.run_ofS (k := 17) (N := lawN) (ps := ["_law_script"]) (us := [.ref a]) (vs := [.ref a]) lk hcd scLaw ⟨rfl, by decide, by decide⟩ e0 (.of_eq rfl) (.cons rfl .nil) rfl fun hr' => law_body (Q := fun v _ => v = .bl true) (H0 := H) (E0 := fun _ _ _ => False) (outer := []) hr' rfl F B3 (by simp) (fun p hp e => by
    simp only [List.mem_cons, List.not_mem_nil, or_false] at hp
    rcases hp with rfl | rfl | rfl
    · exact absurd e n13
    · exact absurd e n23
    · rfl) D ⟨hS, tb⟩ fun _ => rfl
end Onew
end
section
set_option maxRecDepth 100000
set_option maxHeartbeats 0
open PySem PySem.W PyProof.Rows
theorem onew_thing : PySem.Challenge.rw_onewitness_k25_whole_groups_that_keep.Holds := head (by
  k_fill
  refine Onew.walk_once (l := PySem.Challenge.rw_onewitness_k25_whole_groups_that_keep) (n := 63) rfl (by decide) rfl (fun w h Y => PySem.W.km_in_of Y) ?F
  case F =>
    intro w mg fa h Y KX G hmg
    refine' Onew.known_of (P := PySem.Challenge.pw_onewitness_k25_whole_groups_that_keep) KX G hmg ?n12 ?n13 ?n23 (Onew.Raw.mk ?d ?m ?c ?mi ?ci ?k ?t ?h ?e ?s ?r ?l) ?t1 ?t2 ?t3 ?k1 ?k2 ?k3
    (case m => (refine' Onew.RawO.mk ?m_g ?m_pg ?m_hd ?m_po ?m_sa ?m_ha ?m_hn ?m_htk ?m_hm ?m_mks ?m_kp); (case m_g => k_is); (case m_pg => k_is); (case m_hd => k_is); (case m_po => k_is); (case m_sa => k_is); (case m_ha => k_is); (case m_hn => k_is); (case m_htk => k_is); (case m_hm => k_is); (case m_mks => k_is); (case m_kp => k_is))
    (case c => (refine' Onew.RawO.mk ?c_g ?c_pg ?c_hd ?c_po ?c_sa ?c_ha ?c_hn ?c_htk ?c_hm ?c_mks ?c_kp); (case c_g => k_is); (case c_pg => k_is); (case c_hd => k_is); (case c_po => k_is); (case c_sa => k_is); (case c_ha => k_is); (case c_hn => k_is); (case c_htk => k_is); (case c_hm => k_is); (case c_mks => k_is); (case c_kp => k_is))
    (case mi => (refine' Onew.rawM_mk ?mi_i ?mi_l ?mi_c ?mi_k ?mi_n); (case mi_i => k_is); (case mi_l => k_is); (case mi_c => k_is); (case mi_k => k_is); (case mi_n => k_is))
    (case ci => (refine' Onew.rawCo_mk ?ci_i ?ci_l ?ci_c ?ci_k ?ci_n ?ci_lT ?ci_hi ?ci_le); (case ci_i => k_is); (case ci_l => k_is); (case ci_c => k_is); (case ci_k => k_is); (case ci_n => k_is); (case ci_lT => k_is); (case ci_hi => rfl); (case ci_le => k_is))
    (case k => (refine' Onew.rawK_mk ?k_g ?k_l ?k_c ?k_k ?k_lT ?k_hi); (case k_g => k_is); (case k_l => k_is); (case k_c => k_is); (case k_k => k_is); (case k_lT => k_is); (case k_hi => rfl))
    (case s => (refine' Onew.rawC_mk ?s_g ?s_l ?s_cI ?s_k ?s_lo ?s_hP ?s_hd); (case s_g => k_is); (case s_l => k_is); (case s_cI => k_is); (case s_k => k_is); (case s_lo => k_is); (case s_hP => rfl); (case s_hd => kernel_rfl))
    (case r => (refine' Onew.rawC_mk ?r_g ?r_l ?r_cI ?r_k ?r_lo ?r_hP ?r_hd); (case r_g => k_is); (case r_l => k_is); (case r_cI => k_is); (case r_k => k_is); (case r_lo => k_is); (case r_hP => rfl); (case r_hd => kernel_rfl))
    (case l => (refine' Onew.rawC_mk ?l_g ?l_l ?l_cI ?l_k ?l_lo ?l_hP ?l_hd); (case l_g => k_is); (case l_l => k_is); (case l_cI => k_is); (case l_k => k_is); (case l_lo => k_is); (case l_hP => rfl); (case l_hd => kernel_rfl))
    (case e =>
      refine' Onew.TxE.mk ⟨_, ?e1⟩ ⟨_, ?e2⟩ ⟨_, ?e3⟩ ⟨_, ?e4⟩
      (case e1 =>
        (refine' Onew.exc_mk (P := PySem.Challenge.pw_onewitness_k25_whole_groups_that_keep) (nm := "Refused") (flds := [("at" : Str)]) (st := Onew.sRefused) (BI := "ValueError") (initId := "ValueError.__init__") KX G ?e1_gC ?e1_xC ?e1_sa ?e1_ga ?e1_gg ?e1_iC ?e1_tI ?e1_kC ?e1_eC ?e1_tC ?e1_hC ?e1_sp ?e1_sB ?e1_sC ?e1_oq ?e1_s0 ?e1_lI ?e1_cI ?e1_lc ?e1_lo ?e1_lf ?e1_lp ?e1_no ?e1_tp ?e1_NF ?e1_MF ?e1_IF ?e1_hb ?e1_hf ?e1_hs ?e1_ht ?e1_hp ?e1_ha ?e1_h0 ?e1_hbind);
        (case e1_gC => k_is); (case e1_xC => k_is); (case e1_sa => k_is); (case e1_ga => k_is); (case e1_gg => k_is); (case e1_iC => k_is); (case e1_tI => k_is); (case e1_kC => k_is); (case e1_eC => k_is); (case e1_tC => k_is); (case e1_hC => k_is); (case e1_sp => kernel_rfl); (case e1_sB => k_is); (case e1_sC => k_is); (case e1_oq => k_is); (case e1_s0 => k_is); (case e1_lI => k_is); (case e1_cI => k_is); (case e1_lc => k_is); (case e1_lo => k_is); (case e1_lf => rfl); (case e1_lp => rfl);
        (case e1_no => intro f hf; rcases List.mem_singleton.mp hf with rfl; k_is); (case e1_tp => rfl); (case e1_NF => exact Onew.new_VE (by decide +kernel) (by decide +kernel) (by decide +kernel)); (case e1_hb => rfl);
        (case e1_hf => exact .cons .nil); (case e1_hs => exact ⟨rfl, rfl, rfl, by decide +kernel, by decide +kernel, by decide +kernel, by decide +kernel, by decide +kernel⟩); (case e1_ht => decide +kernel); (case e1_hp => rfl); (case e1_ha => rfl); (case e1_h0 => rfl);
        (case e1_IF => exact PySem.GX.init_VE); (case e1_hbind => exact fun _ _ _ _ _ _ x us hl => match us, hl with | [_], _ => rfl); (case e1_MF => exact fun C => Onew.mroVE C _))
      (case e2 =>
        (refine' Onew.exc_mk (P := PySem.Challenge.pw_onewitness_k25_whole_groups_that_keep) (nm := "NoState") (flds := [("state" : Str)]) (st := Onew.sNoState) (BI := "KeyError") (initId := "KeyError.__init__") KX G ?e2_gC ?e2_xC ?e2_sa ?e2_ga ?e2_gg ?e2_iC ?e2_tI ?e2_kC ?e2_eC ?e2_tC ?e2_hC ?e2_sp ?e2_sB ?e2_sC ?e2_oq ?e2_s0 ?e2_lI ?e2_cI ?e2_lc ?e2_lo ?e2_lf ?e2_lp ?e2_no ?e2_tp ?e2_NF ?e2_MF ?e2_IF ?e2_hb ?e2_hf ?e2_hs ?e2_ht ?e2_hp ?e2_ha ?e2_h0 ?e2_hbind);
        (case e2_gC => k_is); (case e2_xC => k_is); (case e2_sa => k_is); (case e2_ga => k_is); (case e2_gg => k_is); (case e2_iC => k_is); (case e2_tI => k_is); (case e2_kC => k_is); (case e2_eC => k_is); (case e2_tC => k_is); (case e2_hC => k_is); (case e2_sp => kernel_rfl); (case e2_sB => k_is); (case e2_sC => k_is); (case e2_oq => k_is); (case e2_s0 => k_is); (case e2_lI => k_is); (case e2_cI => k_is); (case e2_lc => k_is); (case e2_lo => k_is); (case e2_lf => rfl); (case e2_lp => rfl);
        (case e2_no => intro f hf; rcases List.mem_singleton.mp hf with rfl; k_is); (case e2_tp => rfl); (case e2_NF => exact Onew.new_LE (by decide +kernel) (by decide +kernel) (by decide +kernel)); (case e2_hb => rfl);
        (case e2_hf => exact .cons .nil); (case e2_hs => exact ⟨rfl, rfl, rfl, by decide +kernel, by decide +kernel, by decide +kernel, by decide +kernel, by decide +kernel⟩); (case e2_ht => decide +kernel); (case e2_hp => rfl); (case e2_ha => rfl); (case e2_h0 => rfl);
        (case e2_IF => exact PySem.GX.init_KE); (case e2_hbind => exact fun _ _ _ _ _ _ x us hl => match us, hl with | [_], _ => rfl); (case e2_MF => exact fun C => Onew.mroKE C))
      (case e3 =>
        (refine' Onew.exc_mk (P := PySem.Challenge.pw_onewitness_k25_whole_groups_that_keep) (nm := "Forgets") (flds := [("deed" : Str), ("one" : Str), ("other" : Str)]) (st := L2.inClass (Onew.top 6) 0) (BI := "ValueError") (initId := "ValueError.__init__") KX G ?e3_gC ?e3_xC ?e3_sa ?e3_ga ?e3_gg ?e3_iC ?e3_tI ?e3_kC ?e3_eC ?e3_tC ?e3_hC ?e3_sp ?e3_sB ?e3_sC ?e3_oq ?e3_s0 ?e3_lI ?e3_cI ?e3_lc ?e3_lo ?e3_lf ?e3_lp ?e3_no ?e3_tp ?e3_NF ?e3_MF ?e3_IF ?e3_hb ?e3_hf ?e3_hs ?e3_ht ?e3_hp ?e3_ha ?e3_h0 ?e3_hbind);
        (case e3_gC => k_is); (case e3_xC => k_is); (case e3_sa => k_is); (case e3_ga => k_is); (case e3_gg => k_is); (case e3_iC => k_is); (case e3_tI => k_is); (case e3_kC => k_is); (case e3_eC => k_is); (case e3_tC => k_is); (case e3_hC => k_is); (case e3_sp => kernel_rfl); (case e3_sB => k_is); (case e3_sC => k_is); (case e3_oq => k_is); (case e3_s0 => k_is); (case e3_lI => k_is); (case e3_cI => k_is); (case e3_lc => k_is); (case e3_lo => k_is); (case e3_lf => rfl); (case e3_lp => rfl);
        (case e3_no => intro f hf; simp only [List.mem_cons, List.not_mem_nil, or_false] at hf; rcases hf with rfl | rfl | rfl; all_goals k_is); (case e3_tp => rfl); (case e3_NF => exact Onew.new_VE (by decide +kernel) (by decide +kernel) (by decide +kernel)); (case e3_hb => rfl);
        (case e3_hf => exact .cons (.cons (.cons .nil))); (case e3_hs => exact ⟨rfl, rfl, rfl, by decide +kernel, by decide +kernel, by decide +kernel, by decide +kernel, by decide +kernel⟩); (case e3_ht => decide +kernel); (case e3_hp => rfl); (case e3_ha => rfl); (case e3_h0 => rfl);
        (case e3_IF => exact PySem.GX.init_VE); (case e3_hbind => exact fun _ _ _ _ _ _ x us hl => match us, hl with | [_, _, _], _ => rfl); (case e3_MF => exact fun C => Onew.mroVE C _))
      (case e4 =>
        (refine' Onew.exc_mk (P := PySem.Challenge.pw_onewitness_k25_whole_groups_that_keep) (nm := "TooGreat") (flds := [("most" : Str)]) (st := L2.inClass (Onew.top 5) 0) (BI := "ValueError") (initId := "ValueError.__init__") KX G ?e4_gC ?e4_xC ?e4_sa ?e4_ga ?e4_gg ?e4_iC ?e4_tI ?e4_kC ?e4_eC ?e4_tC ?e4_hC ?e4_sp ?e4_sB ?e4_sC ?e4_oq ?e4_s0 ?e4_lI ?e4_cI ?e4_lc ?e4_lo ?e4_lf ?e4_lp ?e4_no ?e4_tp ?e4_NF ?e4_MF ?e4_IF ?e4_hb ?e4_hf ?e4_hs ?e4_ht ?e4_hp ?e4_ha ?e4_h0 ?e4_hbind);
        (case e4_gC => k_is); (case e4_xC => k_is); (case e4_sa => k_is); (case e4_ga => k_is); (case e4_gg => k_is); (case e4_iC => k_is); (case e4_tI => k_is); (case e4_kC => k_is); (case e4_eC => k_is); (case e4_tC => k_is); (case e4_hC => k_is); (case e4_sp => kernel_rfl); (case e4_sB => k_is); (case e4_sC => k_is); (case e4_oq => k_is); (case e4_s0 => k_is); (case e4_lI => k_is); (case e4_cI => k_is); (case e4_lc => k_is); (case e4_lo => k_is); (case e4_lf => rfl); (case e4_lp => rfl);
        (case e4_no => intro f hf; rcases List.mem_singleton.mp hf with rfl; k_is); (case e4_tp => rfl); (case e4_NF => exact Onew.new_VE (by decide +kernel) (by decide +kernel) (by decide +kernel)); (case e4_hb => rfl);
        (case e4_hf => exact .cons .nil); (case e4_hs => exact ⟨rfl, rfl, rfl, by decide +kernel, by decide +kernel, by decide +kernel, by decide +kernel, by decide +kernel⟩); (case e4_ht => decide +kernel); (case e4_hp => rfl); (case e4_ha => rfl); (case e4_h0 => rfl);
        (case e4_IF => exact PySem.GX.init_VE); (case e4_hbind => exact fun _ _ _ _ _ _ x us hl => match us, hl with | [_], _ => rfl); (case e4_MF => exact fun C => Onew.mroVE C _)))
    (case h =>
      refine' Onew.RawH.mk ?h_mB ?h_mW ?h_cN ?h_cF ?h_cT ?h_cR ?h_nb ?h_nn ?h_fb ?h_fn ?h_ff ?h_tb ?h_tn ?h_tf ?h_tt ?h_rb ?h_rn ?h_rf ?h_rt ?h_rr ?h_kN ?h_kF ?h_kT ?h_kR ?h_aM ?h_aC
      (case h_mB => k_is)
      (case h_mW => k_is)
      (case h_cN => exact ⟨by k_is, by k_is, by k_is, by k_is, by k_is, by k_is, by k_is, by k_is⟩)
      (case h_cF => exact ⟨by k_is, by k_is, by k_is, by k_is, by k_is, by k_is, by k_is, by k_is⟩)
      (case h_cT => exact ⟨by k_is, by k_is, by k_is, by k_is, by k_is, by k_is, by k_is, by k_is⟩)
      (case h_cR => exact ⟨by k_is, by k_is, by k_is, by k_is, by k_is, by k_is, by k_is, by k_is⟩)
      (case h_nb => kernel_rfl)
      (case h_nn => kernel_rfl)
      (case h_fb => kernel_rfl)
      (case h_fn => kernel_rfl)
      (case h_ff => kernel_rfl)
      (case h_tb => kernel_rfl)
      (case h_tn => kernel_rfl)
      (case h_tf => kernel_rfl)
      (case h_tt => kernel_rfl)
      (case h_rb => kernel_rfl)
      (case h_rn => kernel_rfl)
      (case h_rf => kernel_rfl)
      (case h_rt => kernel_rfl)
      (case h_rr => kernel_rfl)
      (case h_kN => kernel_rfl)
      (case h_kF => kernel_rfl)
      (case h_kT => kernel_rfl)
      (case h_kR => kernel_rfl)
      (case h_aM => kernel_rfl)
      (case h_aC => kernel_rfl))
    (case t =>
      refine' Onew.RawT.mk ?t_no ?t_cD ?t_cS ?t_cR ?t_cE ?t_nM ?t_nC
      (case t_no => exact And.intro (by k_is) (And.intro (by k_is) (And.intro (by k_is) (And.intro (by k_is) (And.intro (by k_is) (And.intro (by k_is) (And.intro (by k_is) (And.intro (by k_is) (And.intro (by k_is) (And.intro (by k_is) (And.intro (by k_is) (And.intro (by k_is) (And.intro (by k_is) (And.intro (by k_is) (And.intro (by k_is) (And.intro (by k_is) (And.intro (by k_is) (And.intro (by k_is) (True.intro)))))))))))))))))))
      (case t_cD => refine' Onew.cst_mk ?t_cDz; (case t_cDz => k_is))
      (case t_cS => refine' Onew.cst_mk ?t_cSz; (case t_cSz => k_is))
      (case t_cR => refine' Onew.cst_mk ?t_cRz; (case t_cRz => k_is))
      (case t_cE => refine' Onew.cst_mk ?t_cEz; (case t_cEz => k_is))
      (case t_nM => exact And.intro (by k_is) (And.intro (by k_is) (And.intro (by k_is) (True.intro))))
      (case t_nC => exact And.intro (by k_is) (And.intro (by k_is) (True.intro))))
    (case d =>
      refine' Onew.RawD.mk ?d_is_integer ?d_is_number ?d_is_below ?d_is_within ?d_is_sequence ?d_check_rounds ?d_check_rests ?d_is_table ?d_check_tables ?d_need_state ?d_need_fit ?d_need_rounds ?d_forgotten ?d_need_exchanges ?d_need_doings ?d_nothing_done ?d_done_on ?d_doings_from ?d_all_doings ?d_composed ?d_told_doing ?d_need_seer ?d_closed_group ?d_kept_group ?d_is_kept_group ?d__law_take ?d__law_pick ?d__law_mixed ?d__law_box ?d__law_on ?d__law_reached ?d__law_nothing ?d__law_tables ?d__law_behind ?d__law_doings ?d__law_made ?d__law_walked ?d__law_tells ?d__law_due ?d__law_bent ?d_reached ?d__law_heard ?d__law_other_right
      (case d_is_integer => (refine' Onew.raw_mk ?g_is_integer ?l_is_integer ?c_is_integer ?k_is_integer); (case g_is_integer => k_is); (case l_is_integer => k_is); (case c_is_integer => k_is); (case k_is_integer => k_is))
      (case d_is_number => (refine' Onew.raw_mk ?g_is_number ?l_is_number ?c_is_number ?k_is_number); (case g_is_number => k_is); (case l_is_number => k_is); (case c_is_number => k_is); (case k_is_number => k_is))
      (case d_is_below => (refine' Onew.raw_mk ?g_is_below ?l_is_below ?c_is_below ?k_is_below); (case g_is_below => k_is); (case l_is_below => k_is); (case c_is_below => k_is); (case k_is_below => k_is))
      (case d_is_within => (refine' Onew.raw_mk ?g_is_within ?l_is_within ?c_is_within ?k_is_within); (case g_is_within => k_is); (case l_is_within => k_is); (case c_is_within => k_is); (case k_is_within => k_is))
      (case d_is_sequence => (refine' Onew.raw_mk ?g_is_sequence ?l_is_sequence ?c_is_sequence ?k_is_sequence); (case g_is_sequence => k_is); (case l_is_sequence => k_is); (case c_is_sequence => k_is); (case k_is_sequence => k_is))
      (case d_check_rounds => (refine' Onew.raw_mk ?g_check_rounds ?l_check_rounds ?c_check_rounds ?k_check_rounds); (case g_check_rounds => k_is); (case l_check_rounds => k_is); (case c_check_rounds => k_is); (case k_check_rounds => k_is))
      (case d_check_rests => (refine' Onew.raw_mk ?g_check_rests ?l_check_rests ?c_check_rests ?k_check_rests); (case g_check_rests => k_is); (case l_check_rests => k_is); (case c_check_rests => k_is); (case k_check_rests => k_is))
      (case d_is_table => (refine' Onew.raw_mk ?g_is_table ?l_is_table ?c_is_table ?k_is_table); (case g_is_table => k_is); (case l_is_table => k_is); (case c_is_table => k_is); (case k_is_table => k_is))
      (case d_check_tables => (refine' Onew.raw_mk ?g_check_tables ?l_check_tables ?c_check_tables ?k_check_tables); (case g_check_tables => k_is); (case l_check_tables => k_is); (case c_check_tables => k_is); (case k_check_tables => k_is))
      (case d_need_state => (refine' Onew.raw_mk ?g_need_state ?l_need_state ?c_need_state ?k_need_state); (case g_need_state => k_is); (case l_need_state => k_is); (case c_need_state => k_is); (case k_need_state => k_is))
      (case d_need_fit => (refine' Onew.raw_mk ?g_need_fit ?l_need_fit ?c_need_fit ?k_need_fit); (case g_need_fit => k_is); (case l_need_fit => k_is); (case c_need_fit => k_is); (case k_need_fit => k_is))
      (case d_need_rounds => (refine' Onew.raw_mk ?g_need_rounds ?l_need_rounds ?c_need_rounds ?k_need_rounds); (case g_need_rounds => k_is); (case l_need_rounds => k_is); (case c_need_rounds => k_is); (case k_need_rounds => k_is))
      (case d_forgotten => (refine' Onew.raw_mk ?g_forgotten ?l_forgotten ?c_forgotten ?k_forgotten); (case g_forgotten => k_is); (case l_forgotten => k_is); (case c_forgotten => k_is); (case k_forgotten => k_is))
      (case d_need_exchanges => (refine' Onew.raw_mk ?g_need_exchanges ?l_need_exchanges ?c_need_exchanges ?k_need_exchanges); (case g_need_exchanges => k_is); (case l_need_exchanges => k_is); (case c_need_exchanges => k_is); (case k_need_exchanges => k_is))
      (case d_need_doings => (refine' Onew.raw_mk ?g_need_doings ?l_need_doings ?c_need_doings ?k_need_doings); (case g_need_doings => k_is); (case l_need_doings => k_is); (case c_need_doings => k_is); (case k_need_doings => k_is))
      (case d_nothing_done => (refine' Onew.raw_mk ?g_nothing_done ?l_nothing_done ?c_nothing_done ?k_nothing_done); (case g_nothing_done => k_is); (case l_nothing_done => k_is); (case c_nothing_done => k_is); (case k_nothing_done => k_is))
      (case d_done_on => (refine' Onew.raw_mk ?g_done_on ?l_done_on ?c_done_on ?k_done_on); (case g_done_on => k_is); (case l_done_on => k_is); (case c_done_on => k_is); (case k_done_on => k_is))
      (case d_doings_from => (refine' Onew.raw_mk ?g_doings_from ?l_doings_from ?c_doings_from ?k_doings_from); (case g_doings_from => k_is); (case l_doings_from => k_is); (case c_doings_from => k_is); (case k_doings_from => k_is))
      (case d_all_doings => (refine' Onew.raw_mk ?g_all_doings ?l_all_doings ?c_all_doings ?k_all_doings); (case g_all_doings => k_is); (case l_all_doings => k_is); (case c_all_doings => k_is); (case k_all_doings => k_is))
      (case d_composed => (refine' Onew.raw_mk ?g_composed ?l_composed ?c_composed ?k_composed); (case g_composed => k_is); (case l_composed => k_is); (case c_composed => k_is); (case k_composed => k_is))
      (case d_told_doing => (refine' Onew.raw_mk ?g_told_doing ?l_told_doing ?c_told_doing ?k_told_doing); (case g_told_doing => k_is); (case l_told_doing => k_is); (case c_told_doing => k_is); (case k_told_doing => k_is))
      (case d_need_seer => (refine' Onew.raw_mk ?g_need_seer ?l_need_seer ?c_need_seer ?k_need_seer); (case g_need_seer => k_is); (case l_need_seer => k_is); (case c_need_seer => k_is); (case k_need_seer => k_is))
      (case d_closed_group => (refine' Onew.raw_mk ?g_closed_group ?l_closed_group ?c_closed_group ?k_closed_group); (case g_closed_group => k_is); (case l_closed_group => k_is); (case c_closed_group => k_is); (case k_closed_group => k_is))
      (case d_kept_group => (refine' Onew.raw_mk ?g_kept_group ?l_kept_group ?c_kept_group ?k_kept_group); (case g_kept_group => k_is); (case l_kept_group => k_is); (case c_kept_group => k_is); (case k_kept_group => k_is))
      (case d_is_kept_group => (refine' Onew.raw_mk ?g_is_kept_group ?l_is_kept_group ?c_is_kept_group ?k_is_kept_group); (case g_is_kept_group => k_is); (case l_is_kept_group => k_is); (case c_is_kept_group => k_is); (case k_is_kept_group => k_is))
      (case d__law_take => (refine' Onew.raw_mk ?g__law_take ?l__law_take ?c__law_take ?k__law_take); (case g__law_take => k_is); (case l__law_take => k_is); (case c__law_take => k_is); (case k__law_take => k_is))
      (case d__law_pick => (refine' Onew.raw_mk ?g__law_pick ?l__law_pick ?c__law_pick ?k__law_pick); (case g__law_pick => k_is); (case l__law_pick => k_is); (case c__law_pick => k_is); (case k__law_pick => k_is))
      (case d__law_mixed => (refine' Onew.raw_mk ?g__law_mixed ?l__law_mixed ?c__law_mixed ?k__law_mixed); (case g__law_mixed => k_is); (case l__law_mixed => k_is); (case c__law_mixed => k_is); (case k__law_mixed => k_is))
      (case d__law_box => (refine' Onew.raw_mk ?g__law_box ?l__law_box ?c__law_box ?k__law_box); (case g__law_box => k_is); (case l__law_box => k_is); (case c__law_box => k_is); (case k__law_box => k_is))
      (case d__law_on => (refine' Onew.raw_mk ?g__law_on ?l__law_on ?c__law_on ?k__law_on); (case g__law_on => k_is); (case l__law_on => k_is); (case c__law_on => k_is); (case k__law_on => k_is))
      (case d__law_reached => (refine' Onew.raw_mk ?g__law_reached ?l__law_reached ?c__law_reached ?k__law_reached); (case g__law_reached => k_is); (case l__law_reached => k_is); (case c__law_reached => k_is); (case k__law_reached => k_is))
      (case d__law_nothing => (refine' Onew.raw_mk ?g__law_nothing ?l__law_nothing ?c__law_nothing ?k__law_nothing); (case g__law_nothing => k_is); (case l__law_nothing => k_is); (case c__law_nothing => k_is); (case k__law_nothing => k_is))
      (case d__law_tables => (refine' Onew.raw_mk ?g__law_tables ?l__law_tables ?c__law_tables ?k__law_tables); (case g__law_tables => k_is); (case l__law_tables => k_is); (case c__law_tables => k_is); (case k__law_tables => k_is))
      (case d__law_behind => (refine' Onew.raw_mk ?g__law_behind ?l__law_behind ?c__law_behind ?k__law_behind); (case g__law_behind => k_is); (case l__law_behind => k_is); (case c__law_behind => k_is); (case k__law_behind => k_is))
      (case d__law_doings => (refine' Onew.raw_mk ?g__law_doings ?l__law_doings ?c__law_doings ?k__law_doings); (case g__law_doings => k_is); (case l__law_doings => k_is); (case c__law_doings => k_is); (case k__law_doings => k_is))
      (case d__law_made => (refine' Onew.raw_mk ?g__law_made ?l__law_made ?c__law_made ?k__law_made); (case g__law_made => k_is); (case l__law_made => k_is); (case c__law_made => k_is); (case k__law_made => k_is))
      (case d__law_walked => (refine' Onew.raw_mk ?g__law_walked ?l__law_walked ?c__law_walked ?k__law_walked); (case g__law_walked => k_is); (case l__law_walked => k_is); (case c__law_walked => k_is); (case k__law_walked => k_is))
      (case d__law_tells => (refine' Onew.raw_mk ?g__law_tells ?l__law_tells ?c__law_tells ?k__law_tells); (case g__law_tells => k_is); (case l__law_tells => k_is); (case c__law_tells => k_is); (case k__law_tells => k_is))
      (case d__law_due => (refine' Onew.raw_mk ?g__law_due ?l__law_due ?c__law_due ?k__law_due); (case g__law_due => k_is); (case l__law_due => k_is); (case c__law_due => k_is); (case k__law_due => k_is))
      (case d__law_bent => (refine' Onew.raw_mk ?g__law_bent ?l__law_bent ?c__law_bent ?k__law_bent); (case g__law_bent => k_is); (case l__law_bent => k_is); (case c__law_bent => k_is); (case k__law_bent => k_is))
      (case d_reached => (refine' Onew.raw_mk ?g_reached ?l_reached ?c_reached ?k_reached); (case g_reached => k_is); (case l_reached => k_is); (case c_reached => k_is); (case k_reached => k_is))
      (case d__law_heard => (refine' Onew.raw_mk ?g__law_heard ?l__law_heard ?c__law_heard ?k__law_heard); (case g__law_heard => k_is); (case l__law_heard => k_is); (case c__law_heard => k_is); (case k__law_heard => k_is))
      (case d__law_other_right => (refine' Onew.raw_mk ?g__law_other_right ?l__law_other_right ?c__law_other_right ?k__law_other_right); (case g__law_other_right => k_is); (case l__law_other_right => k_is); (case c__law_other_right => k_is); (case k__law_other_right => k_is)))
    (case n12 => decide)
    (case n13 => decide)
    (case n23 => decide)
    (case t1 => exact PySem.W.km_tabs_of Y _ (by k_mem))
    (case t2 => exact PySem.W.km_tabs_of Y _ (by k_mem))
    (case t3 => exact PySem.W.km_tabs_of Y _ (by k_mem))
    (case k1 => kernel_rfl)
    (case k2 => kernel_rfl)
    (case k3 => kernel_rfl))
end
theorem PySem.Challenge.cw_onewitness_k25_whole_groups_that_keep_holds : PySem.Challenge.rw_onewitness_k25_whole_groups_that_keep.Holds := by
  exact onew_thing
