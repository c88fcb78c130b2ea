import PyProof.Rows.All
import Wide.All
import OpenK.AllK
import Wide.FinOn
import HandS.ForMost
import HandS.WordsExc
import HandS.Defaults
import HandS.DictTup
import HandS.DictComp
import HandS.SetKeys
import HandS.TupSets
import HandS.SortKw
import HandS.Deep
import HandS.TupAny
import HandS.Zip
import HandS.Conv
import HandS.Wide
import HandS.WideBits
import HandS.Gcd
import HandS.IsInst
import HandS.Strs
import KE.KDictKeyed
import KE.KDictDisplayH
import KE.SortData
import HandS.Set
import HandS.SetFor
import KE.SortKeyHeap
import HandS.ExcValue
import KE.LtSeq
import HandS.Dict
import HandS.Sort
import HandS.Evl
import HandS.Text
import PyProof.Rows.StrMul
import KE.KStateDown
import Lean
import HandS.Head0
import HandS.Head1
import HandS.Head2
import HandS.Head3
import HandS.HeadEnd
import HandS.HeadHook1
import HandS.HeadHook2
import HandS.EndBits
import PySem.Challenge.RW_rightchance_k48_whole_numbers_rise_with
set_option Elab.async false
set_option linter.all false
set_option maxRecDepth 100000
set_option maxHeartbeats 4000000
namespace K48
open PySem PySem.Spec PyProof.Rows L2
/-! ### items of a dict whose keys are tuples -/
section
variable {P : Program} {w : World} {K : PySem.W.Frag} {o : Obj} {d : Addr} {es : Array DictEntry} {ep : Nat}
/-- what a locked dict of tuple keys is made of: keys and values -/
theorem frzTV {X : Cx} {pins : List (Addr × Obj)} {σ : L2.St} {H : Hp} {s : Shared} {kvs : List (List Key × V)} (I : Inv X pins σ H s) (h : H d = some (.frz o (.dT kvs))) :
    (d == sysModules) = false ∧ s.heap.get? d = some o ∧ o.ExactDict ∧ ∃ (es : Array DictEntry) (ep : Nat), o.data = .dict es ep ∧ es.size = kvs.length ∧
      ∀ (i : Nat) (k : List Key) (v : V), kvs[i]? = some (k, v) → ∃ (en : DictEntry) (q : Addr), es[i]? = some en ∧ en.key = .ref q ∧ H q = some (.tup (k.map kV)) ∧ RelV v en.val := by
  obtain ⟨gd, _, notSys, trip, pairs, ob, en0, ep0, gd', exact', data', list', _⟩ := I.hok d _ h
  have eob : ob = o := by
    rw [gd] at gd'
    exact (Option.some.inj gd').symm
  subst eob
  refine ⟨notSys, gd, exact', en0, ep0, data', ?_, fun i k v at_ => ?_⟩
  · rw [size_of_entries list']
    exact (Paired.length pairs).symm
  · obtain ⟨t, at_t, same_k, tup_t, rel_t⟩ := paired_get pairs at_
    have look := entry_at list' i
    rw [at_t] at look
    exact ⟨_, t.2.1, look, rfl, tup_t, rel_t⟩
/-- the pairs of a dict with tuple keys, each a new tuple of the key's own tuple and the value -/
def ItiT (d : Addr) (o : Obj) (kvs : List (List Key × V)) : It where
  go := fun i H => H d = some (.frz o (.dT kvs)) ∧ i < kvs.length
  yld := fun i H x H' => ∃ (T q : Addr) (k : List Key) (v : V), kvs[i]? = some (k, v) ∧ H q = some (.tup (k.map kV)) ∧ x = .ref T ∧ H T = none ∧ H' = upd H T (.tup [.ref q, v])
  stop := fun i H => H d = some (.frz o (.dT kvs)) ∧ kvs.length ≤ i
theorem turn_itemsT {kvs : List (List Key × V)} {elts : List Expr} {kk : Nat} {tpos : Pos} (it : Addr) (hod : o.data = .dict es ep) :
    Turn P w K (.Tuple elts kk tpos) (ItiT d o kvs) [it] it (fun i h => ∃ ok ov, IsItemIter h it d i kvs.length ep ok ov) where
  mem := List.mem_singleton.mpr rfl
  obj := fun i h st b hb => by
    obtain ⟨ok, ov, here⟩ := st
    rw [List.mem_singleton.mp hb]
    exact ⟨_, here, fun v z => nomatch z⟩
  keep := fun i h h' st k => by
    obtain ⟨ok, ov, here⟩ := st
    exact ⟨ok, ov, k it (List.mem_singleton.mpr rfl) _ here⟩
  item := by
    intro X eP ew eK calm i pins s σ H E I free st gg
    subst eP ew eK
    obtain ⟨here, lt⟩ := gg
    obtain ⟨notSys, gd, exact', es', ep', data', size', ent⟩ := frzTV I here
    obtain ⟨e1, e2⟩ := dict_ep hod data'
    subst e1 e2
    obtain ⟨⟨k, v⟩, at_⟩ : ∃ p, kvs[i]? = some p := ⟨kvs[i], List.getElem?_eq_getElem lt⟩
    obtain ⟨en, q, at_en, key_en, tup_q, rel_v⟩ := ent i k v at_
    obtain ⟨ok, ov, hit⟩ := st
    have itlt : it < s.heap.objs.size := Heap.lt_size hit
    have lt2 : i < es'.size := by omega
    have en_eq : es'[i] = en := by
      rw [Array.getElem?_eq_getElem lt2] at at_en
      exact Option.some.inj at_en
    have hit2 : IsItemIter s.heap it d i es'.size ep' ok ov := by
      rw [size']
      exact hit
    refine DT.nextI hit2 ⟨_, gd, exact', data'⟩ lt2 fun h' out tupT _ kept => ?_
    rw [en_eq] at out tupT
    refine ⟨_, rfl, wpAny_letOwnedTupleGo_items (s := { s with heap := h' }) out fun h2 in2 same2 => ?_⟩
    have tup2 : h2.get? s.heap.objs.size = some { cls := .type "tuple", data := .seq #[en.key, en.val] } := by
      rw [same2.2 _ (Nat.ne_of_gt itlt)]
      exact tupT
    have made : ObjOk X.prog X.w (upd H s.heap.objs.size (.tup [.ref q, v])) h2 s.heap.objs.size (.tup [.ref q, v]) :=
      ⟨(by decide : 2 ≤ sizeLine), [en.key, en.val], .cons key_en (.cons rel_v .nil), ⟨_, tup2, rfl, _, rfl⟩⟩
    have J : Inv X pins σ (upd H s.heap.objs.size (.tup [.ref q, v])) { s with heap := h2 } :=
      I.turnedNew (t' := s.toks) (ch := [it]) (fun b ob nb e => by
        have ne : b ≠ it := fun z => nb (List.mem_singleton.mpr z)
        exact (same2.2 b ne).trans (kept b ob ne e)) free (Nat.le_refl _) made
    refine ⟨.ref s.heap.objs.size, _, J, rfl, ⟨_, q, k, v, at_, tup_q, rfl, I.hok.fresh (Nat.le_refl _), rfl⟩, ⟨en.key, en.val, ?_⟩, fun b hb => ?_⟩
    · rw [← size']
      exact in2
    · rw [List.mem_singleton.mp hb, upd_ne (Nat.ne_of_lt itlt)]
      exact (free it (List.mem_singleton.mpr rfl)).1
  done := by
    intro X eP ew eK calm i pins s σ H E I free st gg
    subst eP ew eK
    obtain ⟨here, ge⟩ := gg
    obtain ⟨notSys, gd, exact', es', ep', data', size', ent⟩ := frzTV I here
    obtain ⟨e1, e2⟩ := dict_ep hod data'
    subst e1 e2
    obtain ⟨ok, ov, hit⟩ := st
    obtain ⟨f0, f1, f2, f3, f4, f5⟩ := free it (List.mem_singleton.mpr rfl)
    have hit2 : IsItemIter s.heap it d i es'.size ep' ok ov := by
      rw [size']
      exact hit
    exact DT.endI (I.ok.hd calm) hit2 ⟨_, gd, exact', data'⟩ (by omega) fun h' eb => ⟨rfl, I.turned (t' := s.toks) (fun b ob nb e => eb b ob nb e) f0 f1 f3 f4 f5⟩
  self := fun A i s Q E st h => by
    obtain ⟨_, _, here⟩ := st
    exact PySem.W.kcp_self here h
def iItemsT (td : TE) : TI := fun σ H R => td σ H fun x H1 => ∃ d o kvs, x = .ref d ∧ H1 d = some (.frz o (.dT kvs)) ∧ R (ItiT d o kvs) H1
end
section
variable {X : Cx} {e : Expr} {td : TE} {apos cpos : Pos}
theorem pi_itemsT {elts : List Expr} {kk : Nat} {tpos : Pos} (he : PE X e td) (hbase : attributeBase e "items" X.env (eval e X.env) = eval e X.env := by rfl) (hline : (apos.endLine == cpos.line) = true := by rfl) :
    PI X (.Tuple elts kk tpos) (.Call (.Attribute e "items" apos) [] [] cpos) (iItemsT td) := by
  refine ⟨fun pins s σ H R I h => ?_⟩
  refine wpAny_Call_method (T := "dict") (id := "dict.items") hbase rfl hline PySem.F.plainAttrs_dict PySem.F.slot_dict_items PySem.F.type_dict_items (thn (he.run pins s σ H _ I h) fun u s1 ⟨x, H1, I1, rx, d, o, kvs, ex, here, q⟩ => ?_)
  subst ex
  obtain rfl : u = Value.ref d := rx
  obtain ⟨notSys, gd, exact', es, ep, data', size', ent⟩ := frzTV I1 here
  have raw : DT.Raw s1.heap d es ep := ⟨_, gd, exact', data'⟩
  refine ⟨raw.typeIs, fun b z => ?_, ?_⟩
  · cases z
    exact ⟨_, gd, exact'.2.1⟩
  have J : Inv X pins σ H1 { s1 with heap := s1.heap.push { cls := .type "dict_items", data := .fields #[.ref d] } } := I1.kept (t' := s1.toks) fun b ob z => Heap.get?_push_of_some _ z
  have fin : wpAny (model X.prog X.w) X.A (pyIter (.ref s1.heap.objs.size)) (PIE X pins σ (.Tuple elts kk tpos) R) X.xe { s1 with heap := s1.heap.push { cls := .type "dict_items", data := .fields #[.ref d] } } := by
    refine DT.iterI (d := d) ⟨_, Heap.get?_push_size _ rfl, rfl, rfl⟩ (raw.push _) (pi_one (tk := s1.toks) J _ (turn_itemsT _ data') ⟨.none, .none, ?_⟩ q)
    rw [← size']
    exact Heap.get?_push_size _ rfl
  show wpAny _ _ (callWith cpos (.builtin "dict.items") [.ref d] [] []) _ X.xe s1
  exact PySem.method_meetsIn PySem.F.slot_dict_items PySem.F.entry_dict_items rfl (PySem.evalArgs_none ⟨rfl, raw.typeIs, PySem.F.args_dict_items_1 _, _, DT.meetsItems notSys, raw, fin⟩)
end
end K48
set_option maxRecDepth 100000
set_option maxHeartbeats 4000000
namespace K48
open PySem PySem.Spec PyProof.Rows L2
/-! ### plain data: numbers, texts, tuples of them -/
abbrev strOk (x : Str) : Bool := PySem.PyData.strOk x
inductive T where
  | i (n : Int)
  | s (x : Str)
  | t (l : List T)
  | f (l : List T)
mutual
def Is (H : Hp) : V → T → Prop
  | v, .i n => v = .int n
  | v, .s x => v = .str x ∧ strOk x = true
  | v, .t l => ∃ a xs, v = .ref a ∧ H a = some (.tup xs) ∧ IsL H xs l
  | v, .f l => ∃ a o xs, v = .ref a ∧ o.dict = none ∧ H a = some (.frz o (.tup xs)) ∧ IsL H xs l
def IsL (H : Hp) : List V → List T → Prop
  | xs, [] => xs = []
  | xs, d :: ds => ∃ v vs, xs = v :: vs ∧ Is H v d ∧ IsL H vs ds
end
mutual
def T.py : T → PyData
  | .i n => .int n
  | .s x => .str x
  | .t l => .tuple (T.pys l)
  | .f l => .tuple (T.pys l)
def T.pys : List T → List PyData
  | [] => []
  | d :: ds => T.py d :: T.pys ds
end
/-- tuples stay -/
def TK (H H' : Hp) : Prop := (∀ a xs, H a = some (.tup xs) → H' a = some (.tup xs)) ∧ ∀ a o xs, H a = some (.frz o (.tup xs)) → H' a = some (.frz o (.tup xs))
theorem TK.refl (H : Hp) : TK H H := ⟨fun _ _ h => h, fun _ _ _ h => h⟩
theorem TK.trans {H H1 H2 : Hp} (a : TK H H1) (b : TK H1 H2) : TK H H2 := ⟨fun x o h => b.1 x o (a.1 x o h), fun x o u h => b.2 x o u (a.2 x o u h)⟩
theorem TK.of {H H' : Hp} (a : Same H H') : TK H H' := ⟨fun x o h => a x _ h, fun x o u h => a x _ h⟩
/-- all but what is at d stays -/
def But (d : Addr) (H H' : Hp) : Prop := ∀ a o, a ≠ d → H a = some o → H' a = some o
theorem But.refl (d : Addr) (H : Hp) : But d H H := fun _ _ _ h => h
theorem But.trans {d : Addr} {H H1 H2 : Hp} (a : But d H H1) (b : But d H1 H2) : But d H H2 := fun x o n h => b x o n (a x o n h)
theorem But.of {d : Addr} {H H' : Hp} (a : Same H H') : But d H H' := fun x o _ h => a x _ h
theorem But.tk {d : Addr} {H H' : Hp} {xs : List V} (a : But d H H') (h : H d = some (.lst xs)) : TK H H' := ⟨fun x o e => a x _ (fun z => by rw [z, h] at e; cases e) e, fun x o u e => a x _ (fun z => by rw [z, h] at e; cases e) e⟩
theorem But.put {d : Addr} {H : Hp} {o : HO} : But d H (upd H d o) := fun x u n h => by rw [upd_ne n]; exact h
theorem Same.new {H : Hp} {p : Addr} {o : HO} (h : H p = none) : Same H (upd H p o) := fun b x e => by rw [upd_ne (ne_of_none e h)]; exact e
theorem But.new {d : Addr} {H : Hp} {p : Addr} {o : HO} (h : H p = none) : But d H (upd H p o) := But.of (Same.new h)
theorem But.mut {d : Addr} {H H' : Hp} {p : Addr} {o : HO} (e : But d H H') (h : H p = none) : But d H (upd H' p o) := fun a u n ha => by
  rw [upd_ne (ne_of_none ha h)]
  exact e a u n ha
theorem Same.mut {H H' : Hp} {p : Addr} {o : HO} (e : Same H H') (h : H p = none) : Same H (upd H' p o) := fun a u ha => by
  rw [upd_ne (ne_of_none ha h)]
  exact e a u ha
theorem But.free {d p : Addr} {H H' : Hp} (e : But d H H') (n : p ≠ d) (h : H' p = none) : H p = none := by
  cases q : H p with
  | none => rfl
  | some o =>
    have z := e p o n q
    rw [h] at z
    cases z
mutual
theorem Is.mono {H H' : Hp} (k : TK H H') : ∀ (d : T) (v : V), Is H v d → Is H' v d
  | .i n, v, h => by simp only [Is] at h ⊢; exact h
  | .s x, v, h => by simp only [Is] at h ⊢; exact h
  | .t l, v, h => by
    simp only [Is] at h ⊢
    obtain ⟨a, xs, e, h1, h2⟩ := h
    exact ⟨a, xs, e, k.1 _ _ h1, IsL.mono k l xs h2⟩
  | .f l, v, h => by
    simp only [Is] at h ⊢
    obtain ⟨a, o, xs, e, d, h1, h2⟩ := h
    exact ⟨a, o, xs, e, d, k.2 _ _ _ h1, IsL.mono k l xs h2⟩
theorem IsL.mono {H H' : Hp} (k : TK H H') : ∀ (ds : List T) (xs : List V), IsL H xs ds → IsL H' xs ds
  | [], xs, h => by simp only [IsL] at h ⊢; exact h
  | d :: ds, xs, h => by
    simp only [IsL] at h ⊢
    obtain ⟨v, vs, e, h1, h2⟩ := h
    exact ⟨v, vs, e, Is.mono k d v h1, IsL.mono k ds vs h2⟩
end
mutual
theorem Is.dp {K : PySem.W.Frag} {H : Hp} : ∀ (d : T) (v : V), Is H v d → Dp K H v d.py
  | .i n, v, h => by simp only [Is] at h; subst h; exact Dp.int n
  | .s x, v, h => by simp only [Is] at h; obtain ⟨h, _⟩ := h; subst h; exact Dp.str x
  | .t l, v, h => by
    simp only [Is] at h
    obtain ⟨a, xs, e, h1, h2⟩ := h
    subst e
    exact Dp.tup (.inl (.inl h1)) (IsL.dp l xs h2)
  | .f l, v, h => by
    simp only [Is] at h
    obtain ⟨a, o, xs, e, d, h1, h2⟩ := h
    subst e
    exact Dp.tup (.inl (.inr ⟨o, h1⟩)) (IsL.dp l xs h2)
theorem IsL.dp {K : PySem.W.Frag} {H : Hp} : ∀ (ds : List T) (xs : List V), IsL H xs ds → DpAll K H xs (T.pys ds)
  | [], xs, h => by simp only [IsL] at h; subst h; exact DpAll.nil
  | d :: ds, xs, h => by
    simp only [IsL] at h
    obtain ⟨v, vs, e, h1, h2⟩ := h
    subst e
    exact DpAll.cons (Is.dp d v h1) (IsL.dp ds vs h2)
end
theorem isL_nil {H : Hp} : IsL H [] [] := by simp [IsL]
theorem isL_cons {H : Hp} {v : V} {vs : List V} {d : T} {ds : List T} (h : Is H v d) (t : IsL H vs ds) : IsL H (v :: vs) (d :: ds) := by
  simp only [IsL]; exact ⟨v, vs, rfl, h, t⟩
theorem isL_inv {H : Hp} {xs : List V} {d : T} {ds : List T} (h : IsL H xs (d :: ds)) : ∃ v vs, xs = v :: vs ∧ Is H v d ∧ IsL H vs ds := by
  simp only [IsL] at h; exact h
theorem isL_nil_inv {H : Hp} {xs : List V} (h : IsL H xs []) : xs = [] := by simp only [IsL] at h; exact h
theorem is_i {H : Hp} {n : Int} : Is H (.int n) (.i n) := by simp [Is]
theorem is_s {H : Hp} {x : Str} (h : strOk x = true) : Is H (.str x) (.s x) := by simp [Is, h]
theorem is_t {H : Hp} {a : Addr} {xs : List V} {l : List T} (h : H a = some (.tup xs)) (k : IsL H xs l) : Is H (.ref a) (.t l) := by simp only [Is]; exact ⟨a, xs, rfl, h, k⟩
theorem is_f {H : Hp} {a : Addr} {o : Obj} {xs : List V} {l : List T} (d : o.dict = none) (h : H a = some (.frz o (.tup xs))) (k : IsL H xs l) : Is H (.ref a) (.f l) := by simp only [Is]; exact ⟨a, o, xs, rfl, d, h, k⟩
theorem is_f_inv {H : Hp} {v : V} {l : List T} (h : Is H v (.f l)) : ∃ a o xs, v = .ref a ∧ o.dict = none ∧ H a = some (.frz o (.tup xs)) ∧ IsL H xs l := by simp only [Is] at h; exact h
theorem is_i_inv {H : Hp} {v : V} {n : Int} (h : Is H v (.i n)) : v = .int n := by simp only [Is] at h; exact h
theorem is_s_inv {H : Hp} {v : V} {x : Str} (h : Is H v (.s x)) : v = .str x ∧ strOk x = true := by simp only [Is] at h; exact h
theorem is_t_inv {H : Hp} {v : V} {l : List T} (h : Is H v (.t l)) : ∃ a xs, v = .ref a ∧ H a = some (.tup xs) ∧ IsL H xs l := by simp only [Is] at h; exact h
theorem IsL.length {H : Hp} : ∀ {ds : List T} {xs : List V}, IsL H xs ds → xs.length = ds.length
  | [], xs, h => by rw [isL_nil_inv h]; rfl
  | d :: ds, xs, h => by
    obtain ⟨v, vs, e, _, h2⟩ := isL_inv h
    rw [e, List.length_cons, List.length_cons, IsL.length h2]
theorem IsL.get {H : Hp} : ∀ {ds : List T} {xs : List V} {i : Nat} {d : T}, IsL H xs ds → ds[i]? = some d → ∃ v, xs[i]? = some v ∧ Is H v d
  | [], xs, i, d, h, e => by simp at e
  | d0 :: ds, xs, 0, d, h, e => by
    obtain ⟨v, vs, e1, h1, h2⟩ := isL_inv h
    have e2 : d0 = d := by simpa using e
    subst e1 e2
    exact ⟨v, rfl, h1⟩
  | d0 :: ds, xs, i + 1, d, h, e => by
    obtain ⟨v, vs, e1, h1, h2⟩ := isL_inv h
    subst e1
    obtain ⟨u, q1, q2⟩ := IsL.get (i := i) h2 (by simpa using e)
    exact ⟨u, by simpa using q1, q2⟩
theorem IsL.get' {H : Hp} : ∀ {ds : List T} {xs : List V} {i : Nat} {v : V}, IsL H xs ds → xs[i]? = some v → ∃ d, ds[i]? = some d ∧ Is H v d
  | [], xs, i, v, h, e => by rw [isL_nil_inv h] at e; simp at e
  | d0 :: ds, xs, 0, v, h, e => by
    obtain ⟨u, vs, e1, h1, h2⟩ := isL_inv h
    subst e1
    have e2 : u = v := by simpa using e
    subst e2
    exact ⟨d0, rfl, h1⟩
  | d0 :: ds, xs, i + 1, v, h, e => by
    obtain ⟨u, vs, e1, h1, h2⟩ := isL_inv h
    subst e1
    obtain ⟨d, q1, q2⟩ := IsL.get' (i := i) h2 (by simpa using e)
    exact ⟨d, by simpa using q1, q2⟩
theorem IsL.append {H : Hp} : ∀ {ds es : List T} {xs ys : List V}, IsL H xs ds → IsL H ys es → IsL H (xs ++ ys) (ds ++ es)
  | [], es, xs, ys, h, k => by rw [isL_nil_inv h]; exact k
  | d :: ds, es, xs, ys, h, k => by
    obtain ⟨v, vs, e, h1, h2⟩ := isL_inv h
    subst e
    exact isL_cons h1 (IsL.append h2 k)
theorem IsL.snoc {H : Hp} {ds : List T} {xs : List V} {v : V} {d : T} (h : IsL H xs ds) (k : Is H v d) : IsL H (xs ++ [v]) (ds ++ [d]) := h.append (isL_cons k isL_nil)
theorem IsL.take {H : Hp} : ∀ {ds : List T} {xs : List V} (n : Nat), IsL H xs ds → IsL H (xs.take n) (ds.take n)
  | ds, xs, 0, h => by rw [List.take_zero, List.take_zero]; exact isL_nil
  | [], xs, n + 1, h => by rw [isL_nil_inv h]; exact isL_nil
  | d :: ds, xs, n + 1, h => by
    obtain ⟨v, vs, e, h1, h2⟩ := isL_inv h
    subst e
    exact isL_cons h1 (IsL.take n h2)
theorem IsL.drop {H : Hp} : ∀ {ds : List T} {xs : List V} (n : Nat), IsL H xs ds → IsL H (xs.drop n) (ds.drop n)
  | ds, xs, 0, h => h
  | [], xs, n + 1, h => by rw [isL_nil_inv h]; exact isL_nil
  | d :: ds, xs, n + 1, h => by
    obtain ⟨v, vs, e, h1, h2⟩ := isL_inv h
    subst e
    exact IsL.drop n h2
theorem IsL.eraseIdx {H : Hp} : ∀ {ds : List T} {xs : List V} (n : Nat), IsL H xs ds → IsL H (xs.eraseIdx n) (ds.eraseIdx n)
  | [], xs, n, h => by rw [isL_nil_inv h]; exact isL_nil
  | d :: ds, xs, 0, h => by
    obtain ⟨v, vs, e, h1, h2⟩ := isL_inv h
    subst e
    exact h2
  | d :: ds, xs, n + 1, h => by
    obtain ⟨v, vs, e, h1, h2⟩ := isL_inv h
    subst e
    exact isL_cons h1 (IsL.eraseIdx n h2)
theorem IsL.reverse {H : Hp} : ∀ {ds : List T} {xs : List V}, IsL H xs ds → IsL H xs.reverse ds.reverse
  | [], xs, h => by rw [isL_nil_inv h]; exact isL_nil
  | d :: ds, xs, h => by
    obtain ⟨v, vs, e, h1, h2⟩ := isL_inv h
    subst e
    rw [List.reverse_cons, List.reverse_cons]
    exact (IsL.reverse h2).snoc h1
theorem IsL.strs {H : Hp} : ∀ {ws : List Str} {xs : List V}, IsL H xs (ws.map T.s) → xs = ws.map V.str ∧ ∀ x ∈ ws, strOk x = true
  | [], xs, h => by rw [isL_nil_inv h]; exact ⟨rfl, fun _ z => by cases z⟩
  | w :: ws, xs, h => by
    obtain ⟨v, vs, e, h1, h2⟩ := isL_inv h
    obtain ⟨e1, o1⟩ := is_s_inv h1
    obtain ⟨e2, o2⟩ := IsL.strs h2
    subst e e1 e2
    refine ⟨rfl, fun x hx => ?_⟩
    rcases List.mem_cons.mp hx with z | z
    · rw [z]; exact o1
    · exact o2 x z
theorem isL_strs {H : Hp} : ∀ {ws : List Str}, (∀ x ∈ ws, strOk x = true) → IsL H (ws.map V.str) (ws.map T.s)
  | [], _ => isL_nil
  | w :: ws, h => isL_cons (is_s (h w (List.mem_cons_self ..))) (isL_strs fun x hx => h x (List.mem_cons_of_mem _ hx))
/-- a key as data -/
def kT : Key → T
  | .inl n => .i n
  | .inr x => .s x
def kOk : Key → Bool
  | .inl _ => true
  | .inr x => strOk x
theorem is_k {H : Hp} {k : Key} (h : kOk k = true) : Is H (kV k) (kT k) := by
  cases k with
  | inl n => exact is_i
  | inr x => exact is_s h
theorem is_k_inv {H : Hp} {v : V} {k : Key} (h : Is H v (kT k)) : v = kV k ∧ kOk k = true := by
  cases k with
  | inl n => exact ⟨is_i_inv h, rfl⟩
  | inr x => exact is_s_inv h
theorem isL_keys {H : Hp} : ∀ {ks : List Key}, (∀ k ∈ ks, kOk k = true) → IsL H (ks.map kV) (ks.map kT)
  | [], _ => isL_nil
  | w :: ws, h => isL_cons (is_k (h w (List.mem_cons_self ..))) (isL_keys fun x hx => h x (List.mem_cons_of_mem _ hx))
theorem IsL.keys {H : Hp} : ∀ {ks : List Key} {xs : List V}, IsL H xs (ks.map kT) → xs = ks.map kV ∧ ∀ k ∈ ks, kOk k = true
  | [], xs, h => by rw [isL_nil_inv h]; exact ⟨rfl, fun _ z => by cases z⟩
  | w :: ws, xs, h => by
    obtain ⟨v, vs, e, h1, h2⟩ := isL_inv h
    obtain ⟨e1, o1⟩ := is_k_inv h1
    obtain ⟨e2, o2⟩ := IsL.keys h2
    subst e e1 e2
    refine ⟨rfl, fun x hx => ?_⟩
    rcases List.mem_cons.mp hx with z | z
    · rw [z]; exact o1
    · exact o2 x z
/-! equality as Python has it -/
mutual
/-- no frozen tuple in it -/
def T.nof : T → Bool
  | .i _ => true
  | .s _ => true
  | .t l => T.nofs l
  | .f _ => false
def T.nofs : List T → Bool
  | [] => true
  | d :: ds => T.nof d && T.nofs ds
end
mutual
theorem eqv_py : ∀ (d e : T), d.nof = true → e.nof = true → (PyData.eqv d.py e.py = true ↔ d = e)
  | .i n, .i m, _, _ => by simp [T.py, PyData.eqv]
  | .i n, .s y, _, _ => by simp [T.py, PyData.eqv]
  | .i n, .t l, _, _ => by simp [T.py, PyData.eqv]
  | .s x, .i m, _, _ => by simp [T.py, PyData.eqv]
  | .s x, .s y, _, _ => by simp [T.py, PyData.eqv]
  | .s x, .t l, _, _ => by simp [T.py, PyData.eqv]
  | .t k, .i m, _, _ => by simp [T.py, PyData.eqv]
  | .t k, .s y, _, _ => by simp [T.py, PyData.eqv]
  | .t k, .t l, h1, h2 => by
    simp only [T.py, PyData.eqv]
    rw [eqv_pys k l (by simpa [T.nof] using h1) (by simpa [T.nof] using h2)]
    simp
  | .f k, _, h, _ => by simp [T.nof] at h
  | .i _, .f k, _, h => by simp [T.nof] at h
  | .s _, .f k, _, h => by simp [T.nof] at h
  | .t _, .f k, _, h => by simp [T.nof] at h
theorem eqv_pys : ∀ (ds es : List T), T.nofs ds = true → T.nofs es = true → (PyData.eqvAll (T.pys ds) (T.pys es) = true ↔ ds = es)
  | [], [], _, _ => by simp [T.pys, PyData.eqvAll]
  | [], e :: es, _, _ => by simp [T.pys, PyData.eqvAll]
  | d :: ds, [], _, _ => by simp [T.pys, PyData.eqvAll]
  | d :: ds, e :: es, h1, h2 => by
    rw [T.nofs, Bool.and_eq_true] at h1 h2
    simp only [T.pys, PyData.eqvAll]
    rw [Bool.and_eq_true, eqv_py d e h1.1 h2.1, eqv_pys ds es h1.2 h2.2]
    simp
end
theorem eqv_dec (d e : T) (hd : d.nof = true) (he : e.nof = true) [Decidable (d = e)] : PyData.eqv d.py e.py = decide (d = e) := by
  by_cases h : d = e
  · rw [decide_eq_true h]; exact (eqv_py d e hd he).mpr h
  · rw [decide_eq_false h]
    cases q : PyData.eqv d.py e.py with
    | false => rfl
    | true => exact absurd ((eqv_py d e hd he).mp q) h
mutual
theorem lay_py {H : Hp} : ∀ (d : T) (v : V), Is H v d → d.py.canLay0 = true
  | .i n, v, h => by simp [T.py, PyData.canLay0]
  | .s x, v, h => by simp only [T.py, PyData.canLay0]; exact (is_s_inv h).2
  | .t l, v, h => by
    obtain ⟨a, xs, _, _, k⟩ := is_t_inv h
    simp only [T.py, PyData.canLay0]
    exact lay_pys l xs k
  | .f l, v, h => by
    obtain ⟨a, o, xs, _, _, _, k⟩ := is_f_inv h
    simp only [T.py, PyData.canLay0]
    exact lay_pys l xs k
theorem lay_pys {H : Hp} : ∀ (ds : List T) (xs : List V), IsL H xs ds → PyData.canLayAll0 (T.pys ds) = true
  | [], xs, h => by simp [T.pys, PyData.canLayAll0]
  | d :: ds, xs, h => by
    obtain ⟨v, vs, _, h1, h2⟩ := isL_inv h
    simp only [T.pys, PyData.canLayAll0]
    rw [lay_py d v h1, lay_pys ds vs h2]
    rfl
end
mutual
def T.dep : T → Nat
  | .i _ => 0
  | .s _ => 0
  | .t l => T.deps l + 1
  | .f l => T.deps l + 1
def T.deps : List T → Nat
  | [] => 0
  | d :: ds => max (T.dep d) (T.deps ds)
end
mutual
theorem dep_py : ∀ d : T, d.py.depth = d.dep
  | .i n => by simp [T.py, PyData.depth, T.dep]
  | .s x => by simp [T.py, PyData.depth, T.dep]
  | .t l => by simp only [T.py, PyData.depth, T.dep]; rw [dep_pys l]
  | .f l => by simp only [T.py, PyData.depth, T.dep]; rw [dep_pys l]
theorem dep_pys : ∀ ds : List T, PyData.depthAll (T.pys ds) = T.deps ds
  | [] => by simp [T.pys, PyData.depthAll, T.deps]
  | d :: ds => by simp only [T.pys, PyData.depthAll, T.deps]; rw [dep_py d, dep_pys ds]
end
theorem shaped_is {H : Hp} {d : T} {v : V} (h : Is H v d) (hd : d.dep ≤ 64) : SeqAt.shaped d.py = true := by
  show (d.py.canLay0 && decide (d.py.depth ≤ 64)) = true
  rw [lay_py d v h, dep_py d, decide_eq_true hd]
  rfl
theorem shaped_isL {H : Hp} {ds : List T} {vs : List V} (h : IsL H vs ds) (hd : T.deps ds ≤ 63) : SeqAt.shaped (.list (T.pys ds)) = true := by
  show (PyData.canLay0 (.list (T.pys ds)) && decide (PyData.depth (.list (T.pys ds)) ≤ 64)) = true
  rw [Bool.and_eq_true]
  refine ⟨by simp only [PyData.canLay0]; exact lay_pys ds vs h, decide_eq_true ?_⟩
  simp only [PyData.depth]
  rw [dep_pys ds]
  omega
end K48
set_option maxRecDepth 100000
set_option maxHeartbeats 4000000
namespace K48
open PySem PySem.Spec PyProof.Rows L2
/-! ### the text -/
def topS (i : Nat) : Stmt := PySem.Challenge.pw_rightchance_k48_whole_numbers_rise_with.main.body.getD i (.Pass ⟨0, 0, 0, 0⟩)
abbrev s_make_share : Stmt := topS 5
abbrev s_times : Stmt := topS 6
abbrev s_rest_of : Stmt := topS 7
abbrev s_product_of : Stmt := topS 8
abbrev s_value_key : Stmt := topS 10
abbrev s_row_key : Stmt := topS 11
abbrev s_atom_variables : Stmt := topS 13
abbrev s_columns_of : Stmt := topS 14
abbrev s_part_of : Stmt := topS 15
abbrev s_match_terms : Stmt := topS 16
abbrev s_scanned : Stmt := topS 17
abbrev s_joined : Stmt := topS 18
abbrev s_projected : Stmt := topS 19
abbrev s_reckoned : Stmt := topS 20
abbrev s_numbers_of : Stmt := topS 21
abbrev s_number_of_plan : Stmt := topS 22
abbrev s_l_draws : Stmt := topS 24
abbrev s_l_take : Stmt := topS 25
abbrev s_l_pick : Stmt := topS 26
abbrev s_l_same : Stmt := topS 27
abbrev s_l_pool : Stmt := topS 28
abbrev s_l_values : Stmt := topS 29
abbrev s_l_value : Stmt := topS 30
abbrev s_l_key : Stmt := topS 31
abbrev s_l_row_key : Stmt := topS 32
abbrev s_l_share : Stmt := topS 33
abbrev s_l_plus : Stmt := topS 34
abbrev s_l_times : Stmt := topS 35
abbrev s_l_rest : Stmt := topS 36
abbrev s_l_less : Stmt := topS 37
abbrev s_l_any : Stmt := topS 38
abbrev s_l_chance : Stmt := topS 39
abbrev s_l_world : Stmt := topS 40
abbrev s_l_table : Stmt := topS 41
abbrev s_l_term : Stmt := topS 42
abbrev s_l_atom : Stmt := topS 43
abbrev s_l_simple : Stmt := topS 44
abbrev s_l_variables : Stmt := topS 45
abbrev s_l_place_key : Stmt := topS 46
abbrev s_l_store : Stmt := topS 47
abbrev s_l_facts : Stmt := topS 48
abbrev s_l_atom_variables : Stmt := topS 49
abbrev s_l_beneath : Stmt := topS 50
abbrev s_l_columns : Stmt := topS 51
abbrev s_l_joined : Stmt := topS 52
abbrev s_l_eliminated : Stmt := topS 53
abbrev s_l_plan : Stmt := topS 54
abbrev s_l_unsafe : Stmt := topS 55
abbrev s_l_words : Stmt := topS 56
abbrev s_l_parts : Stmt := topS 57
abbrev s_l_some_join : Stmt := topS 58
abbrev s_l_wide_world : Stmt := topS 59
abbrev s_l_wide_join : Stmt := topS 60
abbrev s_l_some_world : Stmt := topS 61
abbrev s_l_of_row : Stmt := topS 62
abbrev s_l_with : Stmt := topS 63
abbrev s_law : Stmt := topS 64
def tbl : List (Str × Stmt) := [(("make_share" : Str), s_make_share), (("times" : Str), s_times), (("rest_of" : Str), s_rest_of), (("product_of" : Str), s_product_of), (("value_key" : Str), s_value_key), (("row_key" : Str), s_row_key), (("atom_variables" : Str), s_atom_variables), (("columns_of" : Str), s_columns_of), (("part_of" : Str), s_part_of), (("match_terms" : Str), s_match_terms), (("scanned" : Str), s_scanned), (("joined" : Str), s_joined), (("projected" : Str), s_projected), (("reckoned" : Str), s_reckoned), (("numbers_of" : Str), s_numbers_of), (("number_of_plan" : Str), s_number_of_plan), (("_law_draws" : Str), s_l_draws), (("_law_take" : Str), s_l_take), (("_law_pick" : Str), s_l_pick), (("_law_same" : Str), s_l_same), (("_law_pool" : Str), s_l_pool), (("_law_values" : Str), s_l_values), (("_law_value" : Str), s_l_value), (("_law_key" : Str), s_l_key), (("_law_row_key" : Str), s_l_row_key), (("_law_share" : Str), s_l_share), (("_law_plus" : Str), s_l_plus), (("_law_times" : Str), s_l_times), (("_law_rest" : Str), s_l_rest), (("_law_less" : Str), s_l_less), (("_law_any" : Str), s_l_any), (("_law_chance" : Str), s_l_chance), (("_law_world" : Str), s_l_world), (("_law_table" : Str), s_l_table), (("_law_term" : Str), s_l_term), (("_law_atom" : Str), s_l_atom), (("_law_simple" : Str), s_l_simple), (("_law_variables" : Str), s_l_variables), (("_law_place_key" : Str), s_l_place_key), (("_law_store" : Str), s_l_store), (("_law_facts" : Str), s_l_facts), (("_law_atom_variables" : Str), s_l_atom_variables), (("_law_beneath" : Str), s_l_beneath), (("_law_columns" : Str), s_l_columns), (("_law_joined" : Str), s_l_joined), (("_law_eliminated" : Str), s_l_eliminated), (("_law_plan" : Str), s_l_plan), (("_law_unsafe" : Str), s_l_unsafe), (("_law_words" : Str), s_l_words), (("_law_parts" : Str), s_l_parts), (("_law_some_join" : Str), s_l_some_join), (("_law_wide_world" : Str), s_l_wide_world), (("_law_wide_join" : Str), s_l_wide_join), (("_law_some_world" : Str), s_l_some_world), (("_law_of_row" : Str), s_l_of_row), (("_law_with" : Str), s_l_with), (("law" : Str), s_law)]
abbrev i_make_share : Nat := 0
abbrev i_times : Nat := 1
abbrev i_rest_of : Nat := 2
abbrev i_product_of : Nat := 3
abbrev i_value_key : Nat := 4
abbrev i_row_key : Nat := 5
abbrev i_atom_variables : Nat := 6
abbrev i_columns_of : Nat := 7
abbrev i_part_of : Nat := 8
abbrev i_match_terms : Nat := 9
abbrev i_scanned : Nat := 10
abbrev i_joined : Nat := 11
abbrev i_projected : Nat := 12
abbrev i_reckoned : Nat := 13
abbrev i_numbers_of : Nat := 14
abbrev i_number_of_plan : Nat := 15
abbrev i_l_draws : Nat := 16
abbrev i_l_take : Nat := 17
abbrev i_l_pick : Nat := 18
abbrev i_l_same : Nat := 19
abbrev i_l_pool : Nat := 20
abbrev i_l_values : Nat := 21
abbrev i_l_value : Nat := 22
abbrev i_l_key : Nat := 23
abbrev i_l_row_key : Nat := 24
abbrev i_l_share : Nat := 25
abbrev i_l_plus : Nat := 26
abbrev i_l_times : Nat := 27
abbrev i_l_rest : Nat := 28
abbrev i_l_less : Nat := 29
abbrev i_l_any : Nat := 30
abbrev i_l_chance : Nat := 31
abbrev i_l_world : Nat := 32
abbrev i_l_table : Nat := 33
abbrev i_l_term : Nat := 34
abbrev i_l_atom : Nat := 35
abbrev i_l_simple : Nat := 36
abbrev i_l_variables : Nat := 37
abbrev i_l_place_key : Nat := 38
abbrev i_l_store : Nat := 39
abbrev i_l_facts : Nat := 40
abbrev i_l_atom_variables : Nat := 41
abbrev i_l_beneath : Nat := 42
abbrev i_l_columns : Nat := 43
abbrev i_l_joined : Nat := 44
abbrev i_l_eliminated : Nat := 45
abbrev i_l_plan : Nat := 46
abbrev i_l_unsafe : Nat := 47
abbrev i_l_words : Nat := 48
abbrev i_l_parts : Nat := 49
abbrev i_l_some_join : Nat := 50
abbrev i_l_wide_world : Nat := 51
abbrev i_l_wide_join : Nat := 52
abbrev i_l_some_world : Nat := 53
abbrev i_l_of_row : Nat := 54
abbrev i_l_with : Nat := 55
abbrev i_law : Nat := 56
def bls : List Str := ["abs", "bool", "int", "isinstance", "len", "list", "max", "range", "set", "sorted", "str", "tuple", "zip"]
/-- what the top leaves: the defs, no name of a built-in, gcd -/
structure Tx (K : PySem.W.Frag) (mg : Str → Option Value) : Prop where
  def_ : ∀ (i : Nat) (x : Str) (st : Stmt), tbl[i]? = some (x, st) → ∃ (f : Addr) (fd : FuncData), FunD K x x (defArgs st) (defBody st) (defScope st) [] [] f fd ∧ mg x = some (.ref f)
  bl : ∀ x : Str, x ∈ bls → mg x = none
  gcd : mg ("gcd" : Str) = some (.builtin "math.gcd")
/-- a def as its callers see it -/
def Ok (P : Program) (w : World) (K : PySem.W.Frag) (mg : Str → Option Value) (base : Heap) (k : Nat) (x : Str) (ps : List Str) (sp : Sp) : Prop :=
  ∃ (f : Addr) (fd : FuncData), mg x = some (.ref f) ∧ PySem.W.keepIn K (.ref f) = true ∧ Binds K fd ps [] ∧ FnOk P w K mg base CX0 k f fd ps sp
section
variable {P : Program} {w : World} {K : PySem.W.Frag} {mg : Str → Option Value} {base : Heap}
theorem Ok.mono {k k' : Nat} {x : Str} {ps : List Str} {sp : Sp} (o : Ok P w K mg base k x ps sp) (h : k ≤ k') : Ok P w K mg base k' x ps sp := by
  obtain ⟨f, fd, h1, h2, h3, h4⟩ := o
  exact ⟨f, fd, h1, h2, h3, h4.mono h⟩
theorem Tx.ok (T : Tx K mg) (i : Nat) {x : Str} {st : Stmt} {N ps : List Str} {k : Nat} {sp : Sp} (S : FnScope N ps (defScope st))
    (hb : ∀ (kV doc pm : Value) (an : Option Addr) (cdv ct : Value) (us : List Value), us.length = ps.length → bindArgs (PySem.W.fnOf x x (defArgs st) (defBody st) (defScope st) .none kV doc pm an cdv ct) ⟨us, []⟩ = pure (ps.zip us))
    (len : ∀ vs H Q E, sp vs H Q E → vs.length = ps.length)
    (body : ∀ (f : Addr) (cdv : Value) (A : Around) (outer : List Env) (s : Shared) (H : Hp) (vs : List V) (Q : VK) (E : XK), Room k (A.deeper (envOfC x (defScope st) s.heap.objs.size f cdv)) → sp vs H Q E →
      ∃ t, PSs (cxOf CX0 P w K mg base N x (defScope st) f cdv A outer s H E).nox (defBody st) t ∧ t { nx := fun _ H' => Q .non H', rt := Q } (start N vs) H)
    (hi : tbl[i]? = some (x, st) := by rfl) : Ok P w K mg base (k + 1) x ps sp := by
  obtain ⟨f, fd, F, g⟩ := T.def_ i x st hi
  refine ⟨f, fd, g, F.kp, F.bindsN hb, F.ok S len fun cdv A outer s H vs Q E hr h => ?_⟩
  obtain ⟨t, h1, h2⟩ := body f cdv A outer s H vs Q E hr h
  exact ⟨t, h1.nox, h2⟩
end
theorem pe_ok {X : Cx} {k : Nat} {x : Str} {ps : List Str} {sp : Sp} {p pos : Pos} {e : Expr} {es : List Expr} {t : TA} (F : Ok X.prog X.w X.K X.mg X.base k x ps sp) (hr : Room k X.A) (hg : Gl X x)
    (ha : PA X (e :: es) t) (hdb : (x == ("__debug__" : Str)) = false := by decide) (he : starEach (e :: es) X.env = (false, eval e X.env) :: starEach es X.env := by rfl) (hpl : (backTo pos (starEach es X.env)).any (·.1) = false := by rfl) :
    PE X (.Call (.Name x p) (e :: es) [] pos) (tCall sp [] E0 t) := by
  obtain ⟨f, fd, h1, h2, h3, h4⟩ := F
  exact pe_call h4 hr hg h1 h2 h3 .nil pass0 ha hdb he hpl
/-! ### // of great numbers -/
theorem noPy {i j : Int} (h : i.natAbs < 2 ^ 13500) : Builtin.divisionGoesByPylong i j = false := by
  have digits : ∀ n : Int, n.natAbs < 2 ^ 13500 → (if n == 0 then 0 else n.natAbs.log2 / 30 + 1) ≤ 450 := fun n hn => by
    split
    · exact Nat.zero_le _
    · have l := PySem.Flt.log2_lt_of (by decide : 0 < 13500) hn
      omega
  unfold Builtin.divisionGoesByPylong
  have d := digits i h
  simp only [Bool.and_eq_false_iff, decide_eq_false_iff_not]
  by_cases q : 300 < (if j == 0 then 0 else j.natAbs.log2 / 30 + 1)
  · exact .inr (by omega)
  · exact .inl (by omega)
def CDivK (i j : Int) : Prop := 0 < j ∧ i.natAbs < 2 ^ 13500
section
variable {X : Cx}
theorem op_fdivK : OpR X (binaryOp .FloorDiv) (rI CDivK fun i j => .int (i / j)) := opI fun i j _ _ _ _ _ hc q => by
  have pos : (0 : Int) < j := hc.1
  refine floordiv_int (by omega) ?_ (.inl (noPy hc.2))
  rw [Int.fdiv_eq_ediv_of_nonneg i (by omega)]
  exact q
/-! ### xs.extend(a tuple) -/
theorem extend_tup (l b : Addr) (xs ys : Array Value) (n m : Nat) (dd : Option Addr) (sl : Array (Option Value)) (ok : ¬(!xs.isEmpty && Builtin.List.listTooLong (xs.size + ys.size)) = true) (z1 : xs.size ≤ sizeLine) (z2 : xs.size + ys.size ≤ sizeLine + 1) :
    PySem.Meets (Builtin.«list.extend» ⟨[.ref l, .ref b], []⟩) (fun _ R s => s.heap.get? l = some { cls := .type "list", dict := none, data := .seq xs n, slots := #[] } ∧
      s.heap.get? b = some { cls := .type "tuple", dict := dd, data := .seq ys m, slots := sl } ∧ R (.ok (.ret Value.none)) { s with heap := s.heap.update l (Obj.mapSeq fun x => x ++ ys), toks := s.toks }) :=
  .of_wp fun prog w A R s h => by
    obtain ⟨heap, gens, dr, tk, os⟩ := s
    obtain ⟨hl, hb, h⟩ := h
    have fa := PySem.AutoSeq1.idx_int
    have fb := PySem.AutoSeq1.sub_tuple_tuple
    have fc := PySem.AutoSeq1.sub_list_list
    have fd := PySem.AutoSeq1.sub_tuple_list
    have fe := PySem.AutoSeq1.sub_list_tuple
    have z3 : (xs ++ ys).size ≤ sizeLine + 1 := by
      rw [Array.size_append]
      exact z2
    wp_walk using (PySem.wpAny_updateSeq hl rfl (hz := z1) (_hz' := z3)), PySem.AutoSeq1.wpAny_loadPart' hl, PySem.AutoSeq1.wpAny_loadPart' hb
    exact ⟨_, rfl, h⟩
def rExtT (K : PySem.W.Frag) : V → List V → Hp → VK → Prop := fun x vs H Q => ∃ l b xs zs, x = .ref l ∧ vs = [.ref b] ∧ H l = some (.lst xs) ∧ SqT K H b zs ∧ xs.length + zs.length ≤ sizeLine ∧ Q .non (upd H l (.lst (xs ++ zs)))
theorem mt_extendT : MtM X "list.extend" (rExtT X.K) := by
  intro pins s σ H x vs v us Q I rx rv h
  obtain ⟨l, b, xs, zs, ex, ev, hl, hb, fits, q⟩ := h
  subst ex ev
  cases rx
  obtain ⟨u, eu, ru⟩ := rv.one
  subst eu
  cases ru
  obtain ⟨_, its, n, r, len1, at1⟩ := I.lstM hl
  obtain ⟨its2, r2, ⟨⟨c2, d2, dt2, sl2⟩, at2, cls2, n2, data2⟩, _⟩ := I.tuple hb
  have len2 : zs.length = its2.length := r2.length
  simp only at cls2 data2
  subst cls2 data2
  have sz : its.toArray.size + its2.toArray.size ≤ sizeLine := by
    rw [List.size_toArray, List.size_toArray]
    omega
  have short : ¬ (!its.toArray.isEmpty && Builtin.List.listTooLong (its.toArray.size + its2.toArray.size)) = true := by
    rw [notLongL sz, Bool.and_false]
    exact Bool.false_ne_true
  refine call_meets PySem.F.slot_list_extend ⟨_, at1, rfl⟩ PySem.F.entry_list_extend (PySem.F.args_list_extend_2 _ _)
    (extend_tup l b its.toArray its2.toArray n n2 d2 sl2 short (by rw [List.size_toArray]; omega) (by omega)) ⟨at1, at2, ?_⟩
  refine ⟨.non, _, I.lset (its' := its ++ its2) hl at1 (by simp) (r.append r2) ?_, rfl, q⟩
  rw [List.length_append]
  omega
/-! ### a text times a number -/
def rRepS : R2 := fun x y H Q => ∃ (z : Str) (k : Int), x = .str z ∧ y = .int k ∧ PySem.MulOk z k ∧ Q (.str (Txt.mul z k)) H
theorem op_rep_str : OpR X (binaryOp .Mult) rRepS := by
  intro pins s σ H x y v u Q I rx ry h
  obtain ⟨z, k, ex, ey, ok, q⟩ := h
  subst ex ey
  obtain ⟨t, rfl⟩ := rx
  obtain ⟨t2, rfl⟩ := ry
  exact PySem.SB.mul ok fun t' k' => ⟨.str _, H, I.tok _, ⟨_, rfl⟩, q⟩
/-! ### t.index(x), nested data -/
def rTupIxD (K : PySem.W.Frag) : V → List V → Hp → VK → Prop := fun x xs H Q => ∃ (a : Addr) (y : V) (vs : List V) (d : PyData) (ds : List PyData) (j : Nat) (z : PyData), x = V.ref a ∧ xs = [y] ∧ SqT K H a vs ∧ DpAll K H vs ds ∧ Dp K H y d ∧
  SeqAt.shaped (.list ds) = true ∧ SeqAt.shaped d = true ∧ ds[j]? = some z ∧ PyData.eqv z d = true ∧ (∀ (m : Nat) (z' : PyData), m < j → ds[m]? = some z' → PyData.eqv z' d = false) ∧ Q (.int (j : Nat)) H
theorem mt_tup_indexD (hu : X.A.units + 65 < cLine) : MtR X "tuple.index" (rTupIxD X.K) := by
  intro pins s σ H x xs v us Q I rx rxs h
  obtain ⟨a, y, vs, d, ds, j, z, ex, exs, hs, ha, hy, sl, sd, hz, hzj, hno, q⟩ := h
  subst ex exs
  cases rx
  cases rxs with
  | cons ry rt =>
    rename_i uy ut
    cases rt
    obtain ⟨bs, r1⟩ := Dp.reads I d y uy hy ry
    have lay : PyData.canLayAll0 ds = true := SeqAt.canLay_of_shaped sl
    have room : X.A.units + 1 + min (PyData.depthAll ds) d.depth < cLine := by
      have dd := SeqAt.depth_of_shaped sd
      have mm : min (PyData.depthAll ds) d.depth ≤ d.depth := Nat.min_le_right _ _
      omega
    obtain ⟨its, rv, ⟨⟨cls, dc, data, sls⟩, at_, hc, n, hdt⟩, long⟩ := I.tuple hs
    simp only at hc hdt
    subst hc hdt
    obtain ⟨as, h4⟩ := Dp.readsAll I ds vs its ha rv
    have ln : its.length = ds.length := SeqAt.ReadsAll.length ds its as h4
    have same : its.map (SeqAt.readOf s.heap) = ds := SeqAt.readsAll_map ds its as lay h4
    obtain ⟨hjd, _⟩ := List.getElem?_eq_some_iff.mp hz
    have hj : j < its.toArray.size := by
      rw [List.size_toArray]
      omega
    have look : ∀ (m : Nat) (hm : m < its.toArray.size) (z' : PyData), ds[m]? = some z' → SeqAt.readOf s.heap its.toArray[m] = z' := by
      intro m hm z' hz'
      have hml : m < its.length := by
        rw [List.size_toArray] at hm
        exact hm
      rw [← same, List.getElem?_map, List.getElem?_eq_getElem hml] at hz'
      have e1 : SeqAt.readOf s.heap its[m] = z' := Option.some.inj hz'
      rw [← e1]
      simp
    refine call_meets PySem.F.slot_tuple_index ⟨_, at_, rfl⟩ PySem.F.entry_tuple_index (PySem.F.args_tuple_index_2 _ _)
      (TI.tuple_indexAt a its.toArray n dc sls uy (fun u => PyData.eqv (SeqAt.readOf s.heap u) d) j hj ?_ ?_) ⟨at_, SeqAt.items_eqAt (vs := its.toArray) h4 r1 lay (SeqAt.canLay_of_shaped sd) room, ?_⟩
    · show PyData.eqv (SeqAt.readOf s.heap its.toArray[j]) d = true
      rw [look j hj z hz]
      exact hzj
    · intro m hm hmj
      have hmd : m < ds.length := by omega
      have hz' : ds[m]? = some ds[m] := List.getElem?_eq_getElem hmd
      show PyData.eqv (SeqAt.readOf s.heap its.toArray[m]) d = false
      rw [look m hm _ hz']
      exact hno m _ hmj hz'
    · exact ⟨.int (j : Nat), H, I.tok _, ⟨_, rfl⟩, q⟩
end
/-! ### dicts whose keys are tuples: setdefault, a display of one, a comprehension -/
section
variable {X : Cx} {pins : List (Addr × Obj)} {σ : L2.St} {H : Hp} {s : Shared} {a b : Addr} {u r : Value} {d : V} {k : List Key} {A : Around} {E : Value → Shared → Prop} {kvs : List (List Key × V)}
theorem dT_made {h' : Heap} {t' : Nat} {xs : List (List Key × Addr × Value)} {kvs' : List (List Key × V)} (I : Inv X pins σ H s) (e : H a = some (.dT kvs)) (z : kvs'.length ≤ sizeLine) (hd : (a == sysModules) = false) (rel : KT H kvs' xs)
    (dd : h'.DictOfH (tupleKind (mixKind X.prog X.w)) a xs) (hs : Heap.SameBut a s.heap h') : Inv X pins σ (upd H a (.dT kvs')) { s with heap := h', toks := t' } := by
  obtain ⟨q, es, ep, hq, h2, h3, h4, _, h5⟩ := dd
  refine d_write I (by rw [e]; exact True.intro) hs ⟨q, hq⟩ ⟨z, hd, xs, rel.keeps fun c ys ec => ?_, q, es, ep, hq, h2, h3, h4, h5⟩
  rw [upd_ne (ne_of ec e (fun z => nomatch z))]
  exact ec
theorem d_setdT {Q : Value → Shared → Prop} (hu : A.units + 1 < cLine) (I : Inv X pins σ H s) (e : H a = some (.dT kvs)) (eb : H b = some (.tup (k.map kV))) (rd : RelV d r) (hl : kvs.length < sizeLine)
    (h1 : ∀ v, valV kvs k = some v → ∀ (w' : Value) (s' : Shared), Inv X pins σ H s' → RelV v w' → Q w' s') (h2 : valV kvs k = none → ∀ s' : Shared, Inv X pins σ (upd H a (.dT (putK kvs k d))) s' → Q r s') :
    wpAny (model X.prog X.w) A (call (.builtin "dict.setdefault") [.ref a, .ref b, r]) Q E s := by
  obtain ⟨_, hd, xs, rel, dd⟩ := dt_of I.hok e
  have hz : xs.length ≤ sizeLine := by
    rw [← Paired.length rel]
    exact Nat.le_of_lt hl
  have val := rel.val k
  refine call_setdefault_heap (hsz := hz) (tupleKind_room_in1 hu) (key_of I.hok eb) hd dd (fun p hp => ?_) fun hn h' dd' hs => ?_
  · rw [hp] at val
    cases q0 : valV kvs k with
    | none =>
      rw [q0] at val
      exact val.elim
    | some v0 =>
      rw [q0] at val
      exact h1 v0 q0 _ _ (I.tok _) val
  · rw [hn] at val
    cases q0 : valV kvs k with
    | some v0 =>
      rw [q0] at val
      exact (show False from val).elim
    | none =>
      have z2 := length_putK kvs k d
      exact h2 q0 _ (dT_made I e (by omega) hd (rel.put k eb rd) dd' hs)
theorem dT_put {Q : Unit → Shared → Prop} (hu : A.units + 1 < cLine) (I : Inv X pins σ H s) (e : H a = some (.dT kvs)) (eb : H b = some (.tup (k.map kV))) (rd : RelV d r) (hl : kvs.length < sizeLine)
    (h : ∀ s' : Shared, Inv X pins σ (upd H a (.dT (putK kvs k d))) s' → Q () s') : wpAny (model X.prog X.w) A (dictSet a (.ref b) r) Q E s := by
  obtain ⟨_, hd, xs, rel, dd⟩ := dt_of I.hok e
  have hz : xs.length ≤ sizeLine := by
    rw [← Paired.length rel]
    exact Nat.le_of_lt hl
  have z2 := length_putK kvs k d
  exact wpAny_dictSet_heap (hsz := hz) (show (tupleKind (mixKind X.prog X.w)).room _ from Nat.lt_of_succ_lt hu) (key_of I.hok eb) dd fun h' dd' hs => h _ (dT_made I e (by omega) hd (rel.put k eb rd) dd' hs)
end
section
variable {X : Cx} {o e f : Expr} {td ty tx : TE} {apos cpos pos : Pos}
def tDSetdT (td ty tx : TE) : TE := fun σ H Q => td σ H fun x H1 => ∃ a, x = .ref a ∧ IsD H1 a ∧ ty σ H1 fun y H2 => tx σ H2 fun z H3 => ∃ (kvs : List (List Key × V)) (k : List Key) (b : Addr), H3 a = some (.dT kvs) ∧ y = .ref b ∧ H3 b = some (.tup (k.map kV)) ∧ kvs.length < sizeLine ∧
  (∀ v, valV kvs k = some v → Q v H3) ∧ (valV kvs k = none → Q z (upd H3 a (.dT (putK kvs k z))))
theorem pe_dsetdT (hu : X.A.units + 1 < cLine) (ho : PE X o td) (he : PE X e ty) (hf : PE X f tx) (m : M2 X o "setdefault" apos e f cpos) : PE X (.Call (.Attribute o "setdefault" apos) [e, f] [] cpos) (tDSetdT td ty tx) := by
  refine ⟨fun pins s σ H Q I h => ?_⟩
  refine wpAny_Call_method m.base m.few m.line PySem.F.plainAttrs_dict PySem.F.slot_dict_setdefault PySem.F.type_dict_setdefault (thn (ho.run pins s σ H _ I h) fun u s1 ⟨x, H1, I1, rx, a, ex, isd, q1⟩ => ?_)
  subst ex
  obtain rfl : u = Value.ref a := rx
  obtain ⟨t1, t2, _⟩ := isD_at I1 isd
  refine ⟨t1, t2, ?_⟩
  rw [m.trees]
  refine Calls.callWith_builtin rfl (Calls.evalArgs_plain (Calls.spliced_cons (thn (he.run pins s1 σ H1 _ I1 q1) fun iv s2 ⟨y, H2, I2, ry, q2⟩ =>
    Calls.spliced_cons (thn (hf.run pins s2 σ H2 _ I2 q2) fun fv s3 ⟨z, H3, I3, rz, kvs, k, b, ea, ey, eb, hl, q3, q4⟩ => Calls.spliced_nil ?_))))
  subst ey
  cases ry
  exact d_setdT hu I3 ea eb rz hl (fun v hv w' s4 I4 rw' => ⟨v, _, I4, rw', q3 v hv⟩) fun hn s4 I4 => ⟨z, _, I4, rz, q4 hn⟩
/-- {k: v}, the key a tuple -/
def tDisp1 (tk tv : TE) : TE := fun σ H Q => ∀ p, H p = none → tk σ (upd H p (.dT [])) fun y H1 => tv σ H1 fun v H2 => ∃ (b : Addr) (k : List Key), y = .ref b ∧ H2 p = some (.dT []) ∧ H2 b = some (.tup (k.map kV)) ∧ Q (.ref p) (upd H2 p (.dT [(k, v)]))
theorem pe_disp1 (hu : X.A.units + 1 < cLine) {kx vx : Expr} {tk tv : TE} (hk : PE X kx tk) (hv : PE X vx tv) : PE X (.Dict [some kx] [vx] pos) (tDisp1 tk tv) := by
  refine ⟨fun pins s σ H Q I q => ?_⟩
  have fresh := I.hok.fresh (Nat.le_refl s.heap.objs.size)
  have I1 := I.laid (a := s.heap.objs.size) (o := .dT []) (h' := s.heap.push { cls := .type "dict", data := .dict #[] }) (t' := s.toks) (fun _ _ z => Heap.get?_push_of_some _ z) (Nat.le_refl _) (dt_empty s.heap I.big)
  rw [arm_eval_Dict, zip_pairTrees [some kx] [vx] X.env pos rfl rfl, dictDisplay_pairs (pairTrees [some kx] [vx] X.env pos) (fun z => by cases z) (by show 1 < 17; decide)]
  refine wpAny_bind (wpAny_standAt (wpAny_bind (wpAny_subDictH (knd := tupleKind (mixKind X.prog X.w)) (show (tupleKind (mixKind X.prog X.w)).room _ from Nat.lt_of_succ_lt hu) (by show 1 ≤ 15; decide) ?_)))
  refine pairTrees_cons_walk (thn (hk.run pins _ σ _ _ I1 (q _ fresh)) fun u s1 ⟨y, H1, I2, ry, q1⟩ => thn (hv.run pins s1 σ H1 _ I2 q1) fun w2 s2 ⟨v, H2, I3, rv, b, k, ey, ep, eb, q2⟩ => pairTrees_nil_walk ?_)
  subst ey
  cases ry
  obtain ⟨_, hd, xs, rel, dd⟩ := dt_of I3.hok ep
  cases rel
  refine ⟨[(k, b, w2)], ⟨rfl, rfl, key_of I3.hok eb, True.intro⟩, dd, fun h' tk' dd' hs => wpAny_pure ?_⟩
  refine ⟨.ref s.heap.objs.size, _, ?_, rfl, q2⟩
  exact dT_made (xs := [(k, b, w2)]) I3 ep (show 1 ≤ sizeLine by decide) hd (.cons ⟨rfl, eb, rv⟩ .nil) dd' hs
end
end K48
set_option maxRecDepth 100000
set_option maxHeartbeats 4000000
namespace K48
open PySem PySem.Spec PyProof.Rows L2
/-! ### {k: v for .. in ..}, the keys tuples -/
section
variable {X : Cx}
/-- what the new dict at D is to become, turn by turn -/
def tDcT (wi : TI) (g : TG) (tt : TT) (tk tv : TE) (vs : List Nat) : TE := fun σ H Q => wi σ H fun J H1 => ∀ D, H1 D = none → ∃ W : Nat → Nat → Hp → Prop, (∃ m, W 0 m (upd H1 D (.dT []))) ∧ ∀ i m H, W i m H →
  (J.stop i H ∧ Q (.ref D) H) ∨ (J.go i H ∧ ∃ Nx : Hp → Prop, (∀ H', Nx H' → ∃ m', m' < m ∧ W (i + 1) m' H') ∧ ∀ x H', J.yld i H x H' → g x (wipe σ vs) H' fun σ2 H2 => wipe σ2 vs = wipe σ vs ∧ tt σ2 H2 fun b H3 =>
    if b = true then tk σ2 H3 fun y H4 => tv σ2 H4 fun z H5 => ∃ (kvs : List (List Key × V)) (k : List Key) (c : Addr), y = .ref c ∧ H5 c = some (.tup (k.map kV)) ∧ H5 D = some (.dT kvs) ∧ kvs.length < sizeLine ∧ Nx (upd H5 D (.dT (putK kvs k z))) else Nx H3)
theorem dcT_run {pins : List (Addr × Obj)} {s : Shared} {σ : L2.St} {H : Hp} {Q : VK} {kx vx tg iter : Expr} {ifs : List Expr} {scope : Scope} {own : List (Str × Nat)} {pos pos' : Pos} {wi : TI} {g : TG} {tt : TT} {tk tv : TE} {use : Option (Value → Sem Unit)} {Qf : Value → Shared → Prop}
    (hu : X.A.units + 1 < cLine) (calm : X.calm = true) (nod : X.N.Nodup) (I : Inv X pins σ H s) (it_ : PI X tg iter wi) (blk : BlkOk X.N X.env.scope scope own)
    (pgA : ∀ (s : Shared) (H : Hp) (C : Addr) (cl : List (Str × Addr)) (fp : List Addr), PG (X.blk s H scope (compEnvC scope cl C X.env) fp) tg g)
    (ptA : ∀ (s : Shared) (H : Hp) (C : Addr) (cl : List (Str × Addr)) (fp : List Addr), PTs (X.blk s H scope (compEnvC scope cl C X.env) fp) ifs tt)
    (pkA : ∀ (s : Shared) (H : Hp) (C : Addr) (cl : List (Str × Addr)) (fp : List Addr), PE (X.blk s H scope (compEnvC scope cl C X.env) fp) kx tk)
    (pvA : ∀ (s : Shared) (H : Hp) (C : Addr) (cl : List (Str × Addr)) (fp : List Addr), PE (X.blk s H scope (compEnvC scope cl C X.env) fp) vx tv)
    (folded : ∀ x, foldedSetIterable iter X.env x = pure x) (h : tDcT wi g tt tk tv (own.map (·.2)) σ H Q)
    (last : ∀ D C s' m H', Inv X pins σ H' s' → Q (.ref D) H' → s'.heap.Ns C m → FpOk X pins H' C → compPost (model X.prog X.w) X.A X.xe use Qf (.ref D) C (.ok .next) s') :
    wpAny (model X.prog X.w) X.A (comprehension (.DictComp kx vx [⟨tg, iter, ifs, 0⟩] scope pos) scope X.env pos' newDict false (eval iter X.env) use) Qf X.xe s := by
  have cells : ∀ y ∈ scope.names, y.2 = .free → ∃ c, X.env.cells.lookup y.1 = some c := fun y hy e => (blk.free y hy e).elim (fun z => I.ok.has _ (.inl z)) fun z => I.ok.has _ (.inr z)
  refine wpAny_comprehension_free (use := use) rfl folded (closure_ok cells) blk.kind (fun y hy e => by rw [blk.uniq y hy, e]) (thn (it_.run pins s σ H _ I h) fun xv s1 q1 => thn q1 fun itv s2 q2 => ?_)
  obtain ⟨it, fp, tn, J, H2, eit, I2, Tn, st2, free2, q⟩ := q2
  subst eit
  refine wpAny_newObj_type (newEnv_comp ?_)
  generalize eD : s2.heap.objs.size = D
  have noD : H2 D = none := I2.hok.fresh (Nat.le_of_eq eD)
  obtain ⟨W, ⟨m0, w0⟩, turn⟩ := q D noD
  generalize e3 : ({ s2 with heap := s2.heap.push { cls := .type "dict", data := .dict #[] } } : Shared) = s3
  have heap3 : s3.heap = s2.heap.push { cls := .type "dict", data := .dict #[] } := by rw [← e3]
  have I3 : Inv X pins σ (upd H2 D (.dT [])) s3 := by
    rw [← e3]
    refine I2.laid (t' := s2.toks) (fun b o z => Heap.get?_push_of_some _ z) (Nat.le_of_eq eD) ?_
    rw [← eD]
    exact dt_empty s2.heap I2.big
  have below : ∀ b ∈ fp, b < s2.heap.objs.size := fun b hb => by
    obtain ⟨o, z, _⟩ := Tn.obj _ _ st2 b hb
    exact Heap.lt_size z
  have free3 : ∀ b ∈ fp, FpOk X pins (upd H2 D (.dT [])) b ∧ b < s3.heap.objs.size := fun b hb => by
    refine ⟨⟨?_, (free2 b hb).2⟩, ?_⟩
    · rw [upd_ne (by rw [← eD]; exact Nat.ne_of_lt (below b hb))]
      exact (free2 b hb).1
    · rw [heap3, Heap.size_push]
      exact Nat.lt_succ_of_lt (below b hb)
  have st3 : tn 0 s3.heap := Tn.keep _ _ _ st2 fun b _ o z => by
    rw [heap3]
    exact Heap.get?_push_of_some _ z
  have I4 := block_start I3 blk nod free3
  have gA := pgA s3 (upd H2 D (.dT [])) s3.heap.objs.size (cellsFrom (s3.heap.objs.size + 1) scope.names (cloFrom X.env.cells scope.names [])) fp
  have tA := ptA s3 (upd H2 D (.dT [])) s3.heap.objs.size (cellsFrom (s3.heap.objs.size + 1) scope.names (cloFrom X.env.cells scope.names [])) fp
  have kA := pkA s3 (upd H2 D (.dT [])) s3.heap.objs.size (cellsFrom (s3.heap.objs.size + 1) scope.names (cloFrom X.env.cells scope.names [])) fp
  have vA := pvA s3 (upd H2 D (.dT [])) s3.heap.objs.size (cellsFrom (s3.heap.objs.size + 1) scope.names (cloFrom X.env.cells scope.names [])) fp
  show codeAny _ _ (.compStart (.DictComp kx vx [⟨tg, iter, ifs, 0⟩] scope pos) 0 (.ref it) (.ref D) (compEnvC scope (cellsFrom (s3.heap.objs.size + 1) scope.names (cloFrom X.env.cells scope.names [])) s3.heap.objs.size X.env)) (compPost (model X.prog X.w) X.A X.xe use Qf (.ref D) s3.heap.objs.size)
    { s3 with heap := pushCells (s3.heap.push { cls := .type "dict", data := .dict #[] }) scope.names }
  have out3 : ∀ b ∈ fp, (upd H2 D (.dT [])) b = none := fun b hb => (free3 b hb).1.1
  generalize ece : compEnvC scope (cellsFrom (s3.heap.objs.size + 1) scope.names (cloFrom X.env.cells scope.names [])) s3.heap.objs.size X.env = ce at I4 gA tA kA vA ⊢
  have cLoc : ce.locals = s3.heap.objs.size := by rw [← ece] <;> rfl
  generalize eH3 : upd H2 D (.dT []) = H3 at I3 I4 gA tA kA vA w0 out3 free3
  generalize e4 : ({ s3 with heap := pushCells (s3.heap.push { cls := .type "dict", data := .dict #[] }) scope.names } : Shared) = s4 at I4 ⊢
  have st4 : tn 0 s4.heap := Tn.keep _ _ _ st3 fun b _ o z => by
    rw [← e4]
    exact pushCells_keeps _ _ _ _ (Heap.get?_push_of_some _ z)
  have stat : ∀ {σ' : L2.St} {H' : Hp} {s' : Shared}, Inv (X.blk s3 H3 scope ce fp) [] σ' H' s' → (∀ b ∈ fp, H' b = none) → ∀ b ∈ fp, FpOk (X.blk s3 H3 scope ce fp) [] H' b := fun {σ' H' s'} J' no b hb =>
    ⟨no b hb, (J'.ok.exf b hb).1, J'.ok.exfs b hb, .inl hb, (J'.ok.exf b hb).2, fun p hp => absurd (show p ∈ ([] : List (Addr × Obj)) ++ [] from hp) (by simp)⟩
  have loop : codeAny (model X.prog X.w) X.A (.compLoop (.DictComp kx vx [⟨tg, iter, ifs, 0⟩] scope pos) 0 (.ref it) (.ref D) ce) (compPost (model X.prog X.w) X.A X.xe use Qf (.ref D) s3.heap.objs.size) s4 := by
    refine compLoop_anyD (fun n s' => ∃ i H', Inv (X.blk s3 H3 scope ce fp) [] (wipe σ (own.map (·.2))) H' s' ∧ tn i s'.heap ∧ (∀ b ∈ fp, H' b = none) ∧ W i n H') ?_ m0 ⟨0, H3, I4, st4, out3, w0⟩
    rintro n s5 ⟨i, H5, I5, st5, no5, w5⟩
    rcases turn i n H5 w5 with ⟨stop, fin⟩ | ⟨go, Nx, less, step⟩
    · refine thnF (Tn.done (X.blk s3 H3 scope ce fp) rfl rfl rfl calm i [] s5 _ H5 (fun _ _ => False) I5 (stat I5 no5) st5 stop) fun r s6 ⟨er, I6⟩ => ?_
      subst er
      have back : Inv X pins σ H5 s6 := I3.call' (ch := fp) I6.os I6.base I6.hok I6.bare fun b hb => ⟨(free3 b hb).1.2.2.2.1, (free3 b hb).1.2.1, (free3 b hb).1.2.2.2.2.1, (free3 b hb).1.2.2.2.2.2⟩
      have noC : H5 s3.heap.objs.size = none := by
        have z : H5 ce.locals = none := I6.free
        rw [cLoc] at z
        exact z
      obtain ⟨m, hn, _⟩ := I6.loc
      have hn2 : s6.heap.Ns ce.locals m := hn
      rw [cLoc] at hn2
      exact last D s3.heap.objs.size s6 m H5 back fin hn2 (I3.fpOk (Nat.le_refl _) noC)
    · refine thnF (Tn.item (X.blk s3 H3 scope ce fp) rfl rfl rfl calm i [] s5 _ H5 (fun _ _ => False) I5 (stat I5 no5) st5 go) fun r s6 ⟨u, er, h6⟩ => ?_
      subst er
      refine thnF h6 fun _ s7 ⟨x, H7, I7, r7, y7, st7, no7⟩ => ?_
      have I7p := I7.pinned (stat I7 no7) (Tn.obj _ _ st7)
      refine thnF (gA.run _ s7 _ H7 x u _ I7p r7 (step x H7 y7)) fun _ s8 ⟨σ8, H8, I8, wiped, q8⟩ => ?_
      refine thnF (tA.run _ s8 σ8 H8 _ I8 q8) fun b s9 ⟨H9, I9, q9⟩ => ?_
      have on : ∀ {s' : Shared} {H' : Hp}, Inv (X.blk s3 H3 scope ce fp) ([] ++ pinsAt fp s7.heap) σ8 H' s' → Nx H' → ∃ m, m < n ∧ ∃ i H', Inv (X.blk s3 H3 scope ce fp) [] (wipe σ (own.map (·.2))) H' s' ∧ tn i s'.heap ∧ (∀ b ∈ fp, H' b = none) ∧ W i m H' := fun {s' H'} J' nx => by
        obtain ⟨m', lt, w'⟩ := less H' nx
        have pin : ∀ b ∈ fp, ∀ o, s7.heap.get? b = some o → s'.heap.get? b = some o ∧ H' b = none := fun b hb o z => by
          have pz := J'.pin (b, o) (List.mem_append_right _ (List.mem_append_right _ (mem_pinsAt hb z)))
          exact ⟨pz.1, pz.2.1⟩
        have len8 : (wipe σ (own.map (·.2))).length = σ8.length := by rw [← wiped, wipe_length]
        refine ⟨m', lt, i + 1, H', (J'.unpinned (pins := [])).weak len8 (fun j v z => ?_), Tn.keep _ _ _ st7 fun b hb o z => (pin b hb o z).1, fun b hb => ?_, w'⟩
        · rw [← wiped] at z
          exact (wipe_some z).1
        · obtain ⟨o, z, _⟩ := Tn.obj _ _ st7 b hb
          exact (pin b hb o z).2
      cases b with
      | false =>
        simp only [Bool.false_eq_true, if_false] at q9 ⊢
        exact on I9 q9
      | true =>
        simp only [if_true] at q9 ⊢
        refine thnF (kA.run _ s9 σ8 H9 _ I9 q9) fun z s10 ⟨yk, H10, I10, r10, q10⟩ => ?_
        refine thnF (vA.run _ s10 σ8 H10 _ I10 q10) fun z2 s11 ⟨yv, H11, I11, r11, kvs, k, c, ey, tc, dD, room, nx⟩ => ?_
        subst ey
        cases r10
        exact dT_put (X := X.blk s3 H3 scope ce fp) hu I11 dD tc r11 room fun s12 I12 => on I12 nx
  exact codeAny_compStart_dict loop (Tn.self X.A 0 _ _ _ st4 loop)
theorem pe_dcT {kx vx tg iter : Expr} {ifs : List Expr} {scope : Scope} {own : List (Str × Nat)} {pos : Pos} {wi : TI} {g : TG} {tt : TT} {tk tv : TE} (hu : X.A.units + 1 < cLine) (calm : X.calm = true) (nod : X.N.Nodup) (it_ : PI X tg iter wi) (blk : BlkOk X.N X.env.scope scope own)
    (pgA : ∀ (s : Shared) (H : Hp) (C : Addr) (cl : List (Str × Addr)) (fp : List Addr), PG (X.blk s H scope (compEnvC scope cl C X.env) fp) tg g)
    (ptA : ∀ (s : Shared) (H : Hp) (C : Addr) (cl : List (Str × Addr)) (fp : List Addr), PTs (X.blk s H scope (compEnvC scope cl C X.env) fp) ifs tt)
    (pkA : ∀ (s : Shared) (H : Hp) (C : Addr) (cl : List (Str × Addr)) (fp : List Addr), PE (X.blk s H scope (compEnvC scope cl C X.env) fp) kx tk)
    (pvA : ∀ (s : Shared) (H : Hp) (C : Addr) (cl : List (Str × Addr)) (fp : List Addr), PE (X.blk s H scope (compEnvC scope cl C X.env) fp) vx tv)
    (folded : ∀ x, foldedSetIterable iter X.env x = pure x := by intro _; rfl) : PE X (.DictComp kx vx [⟨tg, iter, ifs, 0⟩] scope pos) (tDcT wi g tt tk tv (own.map (·.2))) := by
  refine ⟨fun pins s σ H Q I h => ?_⟩
  rw [arm_eval_DictComp]
  refine dcT_run hu calm nod I it_ blk pgA ptA pkA pvA folded h fun D C s' m H' back q hn f => ⟨m, hn, fun h'' sb => ?_⟩
  obtain ⟨f0, f1, f2, f3, f4, f5⟩ := f
  exact ⟨.ref D, H', back.turned (t' := s'.toks) (fun b o nb z => (sb.2 b nb).trans z) f0 f1 f3 f4 f5, rfl, q⟩
end
end K48
set_option maxRecDepth 100000
set_option maxHeartbeats 4000000
namespace K48
open PySem PySem.Spec PyProof.Rows L2
/-! ### texts in order -/
def sle (a b : Str) : Bool := decide (a.cps.toList ≤ b.cps.toList)
theorem sle_trans (a b c : Str) (h : sle a b = true) (k : sle b c = true) : sle a c = true := by
  unfold sle at h k ⊢
  exact decide_eq_true (List.le_trans (of_decide_eq_true h) (of_decide_eq_true k))
theorem sle_total (a b : Str) : (sle a b || sle b a) = true := by
  unfold sle
  rw [Bool.or_eq_true, decide_eq_true_eq, decide_eq_true_eq]
  exact List.le_total _ _
theorem sle_anti {a b : Str} (h : sle a b = true) (k : sle b a = true) : a = b := by
  unfold sle at h k
  have e := Array.toList_inj.mp (List.le_antisymm (of_decide_eq_true h) (of_decide_eq_true k))
  cases a
  cases b
  simp only [Str.mk.injEq]
  exact e
/-- without what came before, in order -/
def dedup : List Str → List Str
  | [] => []
  | x :: r => x :: (dedup r).filter fun y => decide (y ≠ x)
theorem mem_dedup {x : Str} : ∀ {l : List Str}, x ∈ dedup l ↔ x ∈ l
  | [] => Iff.rfl
  | y :: r => by
    rw [dedup, List.mem_cons, List.mem_cons, List.mem_filter, mem_dedup (l := r), decide_eq_true_eq]
    by_cases e : x = y
    · simp [e]
    · simp [e]
theorem nodup_dedup : ∀ l : List Str, (dedup l).Nodup
  | [] => List.nodup_nil
  | y :: r => by
    rw [dedup, List.nodup_cons]
    refine ⟨fun h => ?_, (nodup_dedup r).filter _⟩
    have q := (List.mem_filter.mp h).2
    rw [decide_eq_true_eq] at q
    exact q rfl
def csort (ws : List Str) : List Str := (dedup ws).mergeSort sle
theorem mem_csort {x : Str} {ws : List Str} : x ∈ csort ws ↔ x ∈ ws := by
  unfold csort
  rw [(List.mergeSort_perm _ _).mem_iff, mem_dedup]
theorem nodup_csort (ws : List Str) : (csort ws).Nodup := (List.mergeSort_perm _ _).nodup_iff.mpr (nodup_dedup ws)
theorem sorted_csort (ws : List Str) : (csort ws).Pairwise fun a b => sle a b = true := List.pairwise_mergeSort sle_trans sle_total _
theorem csort_one {xs ys : List Str} (hx : xs.Pairwise fun a b => sle a b = true) (hy : ys.Pairwise fun a b => sle a b = true) (nx : xs.Nodup) (ny : ys.Nodup) (m : ∀ x, x ∈ xs ↔ x ∈ ys) : xs = ys :=
  List.Perm.eq_of_pairwise (fun _ _ _ _ h k => sle_anti h k) hx hy ((List.perm_ext_iff_of_nodup nx ny).mpr m)
theorem csort_of {ws ys : List Str} (hy : ys.Pairwise fun a b => sle a b = true) (ny : ys.Nodup) (m : ∀ x, x ∈ ys ↔ x ∈ ws) : ys = csort ws :=
  csort_one hy (sorted_csort ws) ny (nodup_csort ws) fun x => (m x).trans mem_csort.symm
theorem csort_congr {ws us : List Str} (m : ∀ x, x ∈ ws ↔ x ∈ us) : csort ws = csort us :=
  csort_of (sorted_csort ws) (nodup_csort ws) fun x => mem_csort.trans (m x)
/-! ### sets of texts -/
def txOf (e : Int × Value) : Str := match e.2 with
  | .str x _ => x
  | _ => Str.empty
def GoodT (w : World) (e : Int × Value) : Prop := ∃ x tk, e.2 = Value.str x tk ∧ e.1 = hashStr w x
/-- the set of texts at a: M its members, n at least their number; its table rises and can be walked -/
def StR (w : World) (h : Heap) (a : Addr) (M : Str → Prop) (n : Nat) : Prop :=
  ∃ o es ep t, h.get? a = some o ∧ o.ExactSet ∧ o.data = .set es ep t ∧ (∀ e ∈ es.toList, GoodT w e) ∧ (es.toList.map txOf).Nodup ∧ (∀ x, M x ↔ x ∈ es.toList.map txOf) ∧
    es.size < scanBound ∧ t.fits es.size = true ∧ es.size ≤ n ∧ Ris t.place.toList ∧ (w.params.followText "set-order" = true ∨ t.led = true)
section
variable {P : Program} {w : World} {h h' : Heap} {a : Addr} {M : Str → Prop} {n : Nat}
theorem StR.at (R : StR w h a M n) (k : ∀ o, h.get? a = some o → h'.get? a = some o) : StR w h' a M n := by
  obtain ⟨o, es, ep, t, ho, r⟩ := R
  exact ⟨o, es, ep, t, k o ho, r⟩
theorem goodT_elems {l : List (Int × Value)} (g : ∀ e ∈ l, GoodT w e) : ElemsOf (PySem.strKind P w) l := fun e he => by
  obtain ⟨x, tk, h1, h2⟩ := g e he
  exact ⟨⟨x, by rw [h1]; exact strKind_is P w x tk, h2⟩, by rw [h1] <;> rfl⟩
theorem goodT_is {e : Int × Value} (g : GoodT w e) (x : Str) : (PySem.strKind P w).is x e.2 = true ↔ txOf e = x := by
  obtain ⟨y, tk, h1, _⟩ := g
  unfold txOf
  rw [h1]
  show (Value.isStrOf x (.str y tk) = true) ↔ y = x
  simp [Value.isStrOf]
theorem goodT_mem {l : List (Int × Value)} (g : ∀ e ∈ l, GoodT w e) (x : Str) : x ∈ l.map txOf ↔ ∃ e ∈ l, (PySem.strKind P w).is x e.2 = true := by
  rw [List.mem_map]
  constructor
  · intro ⟨e, he, q⟩
    exact ⟨e, he, (goodT_is (g e he) x).2 q⟩
  · intro ⟨e, he, q⟩
    exact ⟨e, he, (goodT_is (g e he) x).1 q⟩
theorem stR_fresh {h : Heap} (ho : h.get? a = some { cls := .type "set", dict := none, data := .set #[] 0 (.fresh 0 0 (!w.params.followText "set-order")) }) : StR w h a (fun _ => False) 0 := by
  refine ⟨_, #[], 0, _, ho, ⟨rfl, rfl, rfl⟩, rfl, (fun e he => by simp at he), List.nodup_nil, (fun x => by simp), (by decide), rfl, Nat.le_refl _, List.Pairwise.nil, ?_⟩
  show _ ∨ (!w.params.followText "set-order") = true
  cases w.params.followText "set-order"
  · exact .inr rfl
  · exact .inl rfl
end
section
variable {P : Program} {w : World} {A : Around} {E : Value → Shared → Prop} {s : Shared} {a : Addr} {M : Str → Prop} {n : Nat}
theorem stR_tail {g : Bool → Sem Unit} (hg : ∀ (b : Bool) (s1 : Shared) (Q' : Unit → Shared → Prop), Q' () s1 → wpAny (model P w) A (g b) Q' E s1)
    {o : Obj} {es : Array (Int × Value)} {ep : Nat} {t : SetTable} (ho : s.heap.get? a = some o) (ex : o.ExactSet) (hd : o.data = .set es ep t)
    {fs : Array (Int × Value)} {t2 : SetTable} {M' : Str → Prop} (good : ∀ e ∈ fs.toList, GoodT w e) (nod : (fs.toList.map txOf).Nodup) (mem : ∀ x, M' x ↔ x ∈ fs.toList.map txOf)
    (few : fs.size < scanBound) (fits : t2.fits fs.size = true) (rise : Ris t2.place.toList) (led : w.params.followText "set-order" = true ∨ t2.led = true) (sz : fs.size ≤ n) {dm : Bool} {R : Option Bool → Shared → Prop}
    (hR : ∀ h', Heap.SameBut a s.heap h' → StR w h' a M' n → R (some true) { s with heap := h' }) :
    wpAny (model P w) A (do
        storeSet a fs t2
        if (!dm && t2.tooFull) = true then do
            g (relayAll t2 fs (SetTable.grown fs.size)).2.2
            storeSet a (relayAll t2 fs (SetTable.grown fs.size)).1 (relayAll t2 fs (SetTable.grown fs.size)).2.1
            pure (some true)
          else pure (some true)) R E s := by
  refine wpAny_bind (wpAny_storeSet_of ho hd ?_ (fits_of_scanBound few))
  have at1 := store_at (es' := fs) (t' := t2) ho hd
  have but1 := Heap.SameBut.update s.heap a (Obj.putSet fs t2)
  split
  · have perm := relayAll_perm t2 fs (SetTable.grown fs.size)
    have fits3 := relayAll_fits t2 fs (SetTable.grown fs.size)
    have rise3 := relayAll_ris t2 fs (SetTable.grown fs.size)
    have led3 := relayAll_led t2 fs (SetTable.grown fs.size)
    generalize relayAll t2 fs (SetTable.grown fs.size) = Z at perm fits3 rise3 led3 ⊢
    obtain ⟨gs, t3, gave⟩ := Z
    dsimp only at perm fits3 rise3 led3 ⊢
    have sz3 : gs.size = fs.size := by rw [← Array.length_toList, perm.length_eq, Array.length_toList]
    refine wpAny_bind (hg _ _ _ (wpAny_bind (wpAny_storeSet_of at1 rfl ?_ (fits_of_scanBound (by rw [sz3]; exact few)))))
    have at2 := store_at (es' := gs) (t' := t3) at1 rfl
    refine wpAny_pure (hR _ (but1.trans (Heap.SameBut.update _ a _)) ⟨_, gs, _, t3, at2, ex, rfl, fun e he => good e (perm.mem_iff.mp he), (perm.map txOf).nodup_iff.mpr nod, fun x => (mem x).trans (perm.map txOf).mem_iff.symm, by rw [sz3]; exact few, fits3, by rw [sz3]; exact sz, rise3, ?_⟩)
    exact led.imp id fun z => by rw [led3]; exact z
  · exact wpAny_pure (hR _ but1 ⟨_, fs, _, t2, at1, ex, rfl, good, nod, mem, few, fits, sz, rise, led⟩)
theorem stR_add {x : Str} {tk : Tok} {Q : Bool → Shared → Prop} (R : StR w s.heap a M n) (room : n + 1 < scanBound)
    (hQ : ∀ b h', Heap.SameBut a s.heap h' → StR w h' a (fun y => M y ∨ y = x) (n + 1) → Q b { s with heap := h' }) :
    wpAny (model P w) A (setAddHashed a (.str x tk) ((PySem.strKind P w).hash x)) Q E s := by
  obtain ⟨o, es, ep, t, ho, ex, hd, good, nod, mem, few, fits, sz, rise, led⟩ := R
  have isx : (PySem.strKind P w).is x (.str x tk) = true := strKind_is P w x tk
  have scan : (Value.str x tk).scannable = true := rfl
  have elems : ElemsOf (PySem.strKind P w) es.toList := goodT_elems good
  unfold setAddHashed setAddHashedIn
  refine wpAny_holding (wpAny_bind (wpAny_setState_of ho hd fits ?_))
  dsimp only
  rw [byScan_of scan few elems]
  simp only [↓reduceIte]
  unfold setAddByScan
  refine wpAny_bind (wpAny_bind (wpAny_rule (wpAny_bind (wpAny_setScan_of isx ho hd fits elems ?_))))
  cases found : List.findIdx? (fun e => (PySem.strKind P w).is x e.2) es.toList with
  | some j =>
    dsimp only
    obtain ⟨hj, pj, _⟩ := List.findIdx?_eq_some_iff_getElem.mp found
    have there : M x := (mem x).2 ((goodT_mem (P := P) (w := w) good x).2 ⟨es.toList[j], List.getElem_mem hj, pj⟩)
    refine wpAny_pure (wpAny_pure (hQ _ s.heap (Heap.SameBut.refl a s.heap) ⟨o, es, ep, t, ho, ex, hd, good, nod, fun y => ?_, few, fits, Nat.le_succ_of_le sz, rise, led⟩))
    rw [← mem y]
    exact ⟨fun z => z.elim id (fun e => e ▸ there), .inl⟩
  | none =>
    dsimp only
    have notin : x ∉ es.toList.map txOf := fun z => by
      obtain ⟨e, he, q⟩ := (goodT_mem (P := P) (w := w) good x).1 z
      have c := List.findIdx?_eq_none_iff.mp found e he
      rw [q] at c
      cases c
    have gaveWay : ∀ (b : Bool) {s1 : Shared} {Q' : Unit → Shared → Prop}, Q' () s1 → wpAny (model P w) A (match b with | true => rule "set.scan.the-table-gave-way" | false => pure ()) Q' E s1 :=
      fun b s1 Q' q => by cases b <;> first | exact wpAny_pure q | exact wpAny_rule q
    have perm := layNew_perm t es ((PySem.strKind P w).hash x) (.str x tk)
    have fits1 := layNew_fits t es ((PySem.strKind P w).hash x) (.str x tk)
    have rise1 := layNew_ris t es ((PySem.strKind P w).hash x) (.str x tk) rise
    have led1 := layNew_led t es ((PySem.strKind P w).hash x) (.str x tk)
    generalize layNew t es ((PySem.strKind P w).hash x) (.str x tk) = Z at perm fits1 rise1 led1 ⊢
    obtain ⟨fs, t1, dm, gave⟩ := Z
    dsimp only at perm fits1 rise1 led1 ⊢
    rw [Array.toList_push] at perm
    have permc : fs.toList.Perm (((PySem.strKind P w).hash x, Value.str x tk) :: es.toList) := perm.trans (List.perm_append_singleton _ _)
    have permk : (fs.toList.map txOf).Perm (x :: es.toList.map txOf) := permc.map txOf
    have good1 : ∀ e ∈ fs.toList, GoodT w e := fun e he => by
      rcases List.mem_cons.mp (permc.mem_iff.mp he) with z | z
      · rw [z]
        exact ⟨x, tk, rfl, rfl⟩
      · exact good e z
    have nod1 : (fs.toList.map txOf).Nodup := permk.nodup_iff.mpr (List.nodup_cons.mpr ⟨notin, nod⟩)
    have mem1 : ∀ y, (M y ∨ y = x) ↔ y ∈ fs.toList.map txOf := fun y => by
      rw [mem y, permk.mem_iff, List.mem_cons]
      exact Or.comm
    have sz1 : fs.size = es.size + 1 := by rw [← Array.length_toList, permc.length_eq, List.length_cons, Array.length_toList]
    have few1 : fs.size < scanBound := by omega
    have led2 : w.params.followText "set-order" = true ∨ t1.led = true := led.imp id fun z => by rw [led1]; exact z
    refine wpAny_bind (gaveWay _ ?_)
    split
    · refine wpAny_bind ?_
      rw [hashByValue_scannable 8 scan]
      refine wpAny_pure ?_
      refine stR_tail (n := n + 1) ?_ ho ex hd good1 nod1 mem1 few1 ?_ ?_ ?_ (by omega) ?_
      · intro b s1 Q' q; cases b <;> first | exact wpAny_pure q | exact wpAny_rule q
      · first | (split <;> first | exact fits1 | exact SetTable.fits_plain_off fits1) | exact fits1
      · first | (split <;> exact rise1) | exact rise1
      · first | (split <;> exact led2) | exact led2
      · intro h' sb r; dsimp only; exact wpAny_pure (hQ _ h' sb r)
    · refine wpAny_bind (wpAny_pure ?_)
      simp only [↓reduceIte]
      refine stR_tail (n := n + 1) ?_ ho ex hd good1 nod1 mem1 few1 fits1 rise1 led2 (by omega) ?_
      · intro b s1 Q' q; cases b <;> first | exact wpAny_pure q | exact wpAny_rule q
      · intro h' sb r; dsimp only; exact wpAny_pure (hQ _ h' sb r)
end
end K48
set_option maxRecDepth 100000
set_option maxHeartbeats 4000000
namespace K48
open PySem PySem.Spec PyProof.Rows L2
theorem texts_at : ∀ {vs : List Value} {ws : List Str}, PyProof.Rows.StrsAre vs ws → ∀ (i : Nat) (v : Value), vs[i]? = some v → ∃ x t, ws[i]? = some x ∧ v = .str x t
  | _, _, .nil, i, v, h => by simp at h
  | _, _, .cons x t r, 0, v, h => ⟨x, t, rfl, (by simp at h; exact h.symm)⟩
  | _, _, .cons x t r, i + 1, v, h => by
    obtain ⟨y, u, e1, e2⟩ := texts_at r i v (by simpa using h)
    exact ⟨y, u, by simpa using e1, e2⟩
section
variable {P : Program} {w : World} {A : Around} {E : Value → Shared → Prop} {s : Shared}
/-- set.update's loop over texts -/
theorem fill_texts {I : Addr} {fp wr : List Addr} {G : Array GenState → Array GenState → Prop} {n : Nat} {Pv : Nat → Value → Prop} {St : Nat → Shared → Prop} {R : Result → Shared → Prop}
    (W : WalksS P w A.in1 I fp wr G n Pv St) (S : Addr) (out : S ∉ fp) (ws : List Str) (len : n = ws.length) (few : n + 1 < scanBound) (val : ∀ i v, Pv i v → ∃ x t, ws[i]? = some x ∧ v = .str x t) :
    ∀ (k i : Nat) (s : Shared), n - i = k → i ≤ n → St i s → StR w s.heap S (fun x => x ∈ ws.take i) i →
      (∀ s', Moved (S :: wr) G s s' → StR w s'.heap S (fun x => x ∈ ws) n → R (.ok (.ret .none)) s') →
      codeAny (model P w) A (.builtin "set.update.loop" ⟨[.ref S, .ref I], []⟩) R s := by
  have notw : S ∉ wr := fun h => out (W.sub _ h)
  have wider : ∀ b ∈ wr, b ∈ S :: wr := fun b hb => List.mem_cons_of_mem _ hb
  intro k
  induction k with
  | zero =>
    intro i s ek hi hst hS hR
    have ei : i = n := by omega
    subst ei
    refine codeAny_builtin PyProof.Rows.F.entry_set_update_loop ?_
    rw [Around.under_plainId PyProof.Rows.F.plain_set_update_loop _]
    show wpAny _ A.in1 (pyNext (.ref I) >>= _) _ _ s
    refine wpAny_bind (W.done s _ _ hst fun s' hm => ?_)
    show wpAny _ A.in1 (ret Value.none) _ _ s'
    refine wpAny_pure (hR s' (hm.mono wider) ?_)
    have h1 := hS.at fun o e => hm.heap S o notw e
    rw [List.take_of_length_le (by omega)] at h1
    exact h1
  | succ k ih =>
    intro i s ek hi hst hS hR
    have lt : i < n := by omega
    refine codeAny_builtin PyProof.Rows.F.entry_set_update_loop ?_
    rw [Around.under_plainId PyProof.Rows.F.plain_set_update_loop _]
    show wpAny _ A.in1 (pyNext (.ref I) >>= _) _ _ s
    refine wpAny_bind (W.item i s _ _ lt hst fun v s' hP hst' hm => ?_)
    obtain ⟨x, t, hx, ev⟩ := val i v hP
    subst ev
    have hS' := hS.at fun o e => hm.heap S o notw e
    show wpAny _ A.in1 (holding [Value.str x t] (setAdd S (.str x t)) >>= _) _ _ s'
    refine wpAny_bind (wpAny_holding ?_)
    unfold setAdd
    refine wpAny_holding (wpAny_bind ((PySem.strKind P w).pyHash (k := x) (strKind_is _ _ _ _) ?_))
    refine stR_add (s := { s' with toks := s'.toks + 1 }) hS' (by omega) fun b h' sb hS2 => ?_
    have next : StR w h' S (fun y => y ∈ ws.take (i + 1)) (i + 1) := by
      obtain ⟨o, es, ep, tb, c1, c2, c3, c4, c5, c6, c7⟩ := hS2
      refine ⟨o, es, ep, tb, c1, c2, c3, c4, c5, fun y => ?_, c7⟩
      rw [← c6 y, List.take_add_one, hx]
      show y ∈ ws.take i ++ [x] ↔ _
      rw [List.mem_append, List.mem_singleton]
    refine wpAny_pure ⟨plainId_quiet PyProof.Rows.F.plain_set_update_loop _, ih (i + 1) _ (by omega) lt (W.frame _ s' _ _ hst' (Nat.le_succ _) fun b hb o e => ?_) next fun s'' hm2 hS3 => hR s'' (Moved.trans W.gtrans ((hm.mono wider).then_heap (Nat.le_succ _) fun b o hb e => ?_) hm2) hS3⟩
    · rw [sb.2 b (fun h : b = S => out (by rw [← h]; exact hb))]
      exact e
    · rw [sb.2 b (fun h : b = S => hb (by rw [h]; exact List.mem_cons_self))]
      exact e
set_option maxHeartbeats 3200000 in
/-- set(a list of texts) -/
theorem set_of_texts {l : Addr} {items : Array Value} (ws : List Str) {Q : Value → Shared → Prop} (hh : A.handled = none) (hl : s.heap.IsList l items) (hit : PyProof.Rows.StrsAre items.toList ws) (few : ws.length + 1 < scanBound)
    (h : ∀ (h' : Heap) (tk : Nat), StR w h' s.heap.objs.size (fun x => x ∈ ws) ws.length → (∀ b o, s.heap.get? b = some o → h'.get? b = some o) → Q (.ref s.heap.objs.size) { s with heap := h', toks := tk }) :
    wpAny (model P w) A (call (.type "set") [.ref l]) Q E s := by
  have size : items.size = ws.length := by rw [← StrsAre.len_eq hit, Array.length_toList]
  obtain ⟨c, tl, hmro⟩ := PySem.F.called_set.mro
  have hmade := PySem.F.called_set.made
  have hsub := PySem.F.called_set.sub
  refine wpAny_call (codeAny_of_tree ?_)
  show wpAny _ _ (callAny (.type "set") _) _ _ _
  refine wpAny_pure ⟨Code.quiet_builtin _ (by decide +kernel), codeAny_builtin PySem.F.entry_type_call ?_⟩
  rw [Around.under_plain (weight_type_call_type "set" [.ref l] []) rfl]
  have h1 := PySem.F.called_set.notType
  have h2 := PySem.F.called_set.canCreate
  have hct := PySem.F.typeCall_set_1 (.ref l)
  repeat (any_goals (first | assumption | wp_step))
  refine codeAny_mono (code_set_led1 (.ref l) (E := E) (Q₁ := fun obj z => obj = .ref s.heap.objs.size ∧ z = { s with heap := s.heap.push { cls := .type "set", dict := none, data := .set #[] 0 (.fresh 0 0 (!w.params.followText "set-order")) } }) ⟨rfl, rfl⟩) fun r z hr => ?_
  cases r with
  | error e => exact hr
  | ok fl =>
    cases fl with
    | ret obj =>
      obtain ⟨rfl, rfl⟩ := hr
      have atS : (s.heap.push { cls := .type "set", dict := none, data := .set #[] 0 (.fresh 0 0 (!w.params.followText "set-order")) }).get? s.heap.objs.size = some { cls := .type "set", dict := none, data := .set #[] 0 (.fresh 0 0 (!w.params.followText "set-order")) } := Heap.get?_push_size _ rfl
      have tyS : Shared.TypeIs { s with heap := s.heap.push { cls := .type "set", dict := none, data := .set #[] 0 (.fresh 0 0 (!w.params.followText "set-order")) } } (.ref s.heap.objs.size) "set" := ⟨_, atS, rfl⟩
      have hli := PySem.F.called_set.init.lookup
      have hbi := PySem.F.called_set.init.bind (.ref s.heap.objs.size)
      repeat (any_goals (first | assumption | wp_step))
      refine codeAny_mono (codeAny_call_builtin (R := wants (fun r z => r = .none ∧ ∃ h' tk, z = { s with heap := h', toks := tk } ∧ StR w h' s.heap.objs.size (fun x => x ∈ ws) ws.length ∧
          (∀ b o, s.heap.get? b = some o → h'.get? b = some o)) E) PySem.F.called_set.init.plain PySem.F.entry_set_init (check_set_init_1 tyS ?_)) fun r2 z2 hr2 => ?_
      · obtain ⟨⟨ocls, odict, odata, oslots⟩, hol, hcl, nl, hdl⟩ := hl
        simp only at hcl hdl
        subst hcl; subst hdl
        have atl : (s.heap.push { cls := .type "set", dict := none, data := .set #[] 0 (.fresh 0 0 (!w.params.followText "set-order")) }).get? l = some { cls := .type "list", dict := odict, data := .seq items nl, slots := oslots } := Heap.get?_push_of_some _ hol
        have hsls := PySem.F.sub_list_set
        have hslf := PySem.F.sub_list_frozenset
        have hne : (Value.type "list" == Value.type "dict") = false := by decide
        have isl : (s.heap.push { cls := .type "set", dict := none, data := .set #[] 0 (.fresh 0 0 (!w.params.followText "set-order")) }).IsList l items := ⟨_, atl, rfl, nl, rfl⟩
        unfold Builtin.«set.__init__» noKeywords Builtin.Frozenset.updateFrom
        generalize hPI : pyIter = PI
        wp_walk
        subst hPI
        refine wpAny_pyIter_list isl ?_
        refine wpAny_bind (wpAny_runValue ?_)
        have below : l < s.heap.objs.size := Heap.lt_size hol
        have calm : A.in1.in1.in1.handled = none := by simp [hh]
        have apart : l ≠ (s.heap.push { cls := .type "set", dict := none, data := .set #[] 0 (.fresh 0 0 (!w.params.followText "set-order")) }).objs.size := by
          rw [Heap.size_push]
          exact Nat.ne_of_lt (Nat.lt_succ_of_lt below)
        have out : s.heap.objs.size ∉ [(s.heap.push { cls := .type "set", dict := none, data := .set #[] 0 (.fresh 0 0 (!w.params.followText "set-order")) }).objs.size, l] := by
          rw [Heap.size_push]
          simp only [List.mem_cons, List.not_mem_nil, or_false, not_or]
          exact ⟨Nat.ne_of_lt (Nat.lt_succ_self _), Nat.ne_of_gt below⟩
        have val : ∀ (i : Nat) (v : Value), items[i]? = some v → ∃ x t, ws[i]? = some x ∧ v = .str x t := fun i v hv => by
          have q : items.toList[i]? = some v := by
            rw [Array.getElem?_toList]
            exact hv
          exact texts_at hit i v q
        refine fill_texts ((Walks.list calm _ l apart items).toS) s.heap.objs.size
          out ws size (by omega) val (items.size - 0) 0 _ (by omega) (Nat.zero_le _)
          ⟨⟨_, Heap.get?_push_size _ rfl, rfl, rfl⟩, (isl.push _)⟩ ?start ?last
        case start =>
          have atS2 : ((s.heap.push { cls := .type "set", dict := none, data := .set #[] 0 (.fresh 0 0 (!w.params.followText "set-order")) }).push { cls := .type "list_iterator", data := .fields #[.ref l, .int 0 0] }).get? s.heap.objs.size
              = some { cls := .type "set", dict := none, data := .set #[] 0 (.fresh 0 0 (!w.params.followText "set-order")) } := Heap.get?_push_of_some _ atS
          obtain ⟨o, es, ep, tb, c1, c2, c3, c4, c5, c6, c7⟩ := stR_fresh (w := w) atS2
          exact ⟨o, es, ep, tb, c1, c2, c3, c4, c5, fun x => by rw [← c6 x, List.take_zero]; simp, c7⟩
        case last =>
          intro s' hm hS'
          obtain ⟨h', g2, d', tk', os'⟩ := s'
          have eg : g2 = s.gens := hm.gens
          have ed : d' = s.drawn := hm.drawn
          have eo : os' = s.os := hm.os
          subst eg; subst ed; subst eo
          show wpAny _ _ _ _ _ _
          refine wpAny_pure ?_
          show wpAny _ _ (ret Value.none) _ _ _
          rw [size] at hS'
          refine wpAny_pure ⟨rfl, h', tk', rfl, hS', fun b o e => ?_⟩
          have blt := Heap.lt_size e
          refine hm.heap b o (fun z => ?_) (Heap.get?_push_of_some _ (Heap.get?_push_of_some _ e))
          rcases List.mem_cons.mp z with z | z
          · exact absurd z (Nat.ne_of_lt blt)
          · have z2 := List.mem_singleton.mp z
            rw [Heap.size_push] at z2
            exact absurd z2 (Nat.ne_of_lt (Nat.lt_succ_of_lt blt))
      · cases r2 with
        | error e => exact hr2
        | ok fl2 =>
          cases fl2 with
          | ret r =>
            obtain ⟨rfl, h', tk, rfl, hS', keep⟩ := hr2
            repeat (any_goals (first | assumption | wp_step))
            exact h _ _ hS' keep
          | _ => exact hr2.elim
    | _ => exact hr.elim
end
end K48
set_option maxRecDepth 100000
set_option maxHeartbeats 4000000
namespace K48
open PySem PySem.Spec PyProof.Rows L2
/-! ### sorted -/
theorem strs_good {w : World} : ∀ (l : List (Int × Value)), (∀ e ∈ l, GoodT w e) → PyProof.Rows.StrsAre (l.map fun e => e.2) (l.map txOf)
  | [], _ => .nil
  | e :: l, g => by
    obtain ⟨x, tk, h1, _⟩ := g e List.mem_cons_self
    have r := strs_good l fun u hu => g u (List.mem_cons_of_mem _ hu)
    rw [List.map_cons, List.map_cons]
    have et : txOf e = x := by
      unfold txOf
      rw [h1]
    rw [et, h1]
    exact .cons x tk r
/-- the texts of values -/
def txV (v : Value) : Str := match v with
  | .str x _ => x
  | _ => Str.empty
theorem each_texts {h : Heap} : ∀ (vs : List Value), (∀ v ∈ vs, ∃ x t, v = Value.str x t) → PySem.W.EachIs (fun v x => ∃ t, v = Value.str x t) vs (vs.map txV)
  | [], _ => .nil
  | v :: vs, g => by
    obtain ⟨x, t, e⟩ := g v List.mem_cons_self
    subst e
    exact .cons ⟨t, rfl⟩ (each_texts (h := h) vs fun u hu => g u (List.mem_cons_of_mem _ hu))
theorem each_vals : ∀ {vs : List Value} {ws : List Str}, PySem.W.EachIs (fun v x => ∃ t, v = Value.str x t) vs ws → Vals (ws.map V.str) vs
  | _, _, .nil => .nil
  | _, _, .cons ⟨t, e⟩ r => .cons ⟨t, e⟩ (each_vals r)
section
variable {P : Program} {w : World} {A : Around} {E : Value → Shared → Prop} {s : Shared}
theorem sorted_texts_set {a : Addr} {ws : List Str} {n : Nat} {Q : Value → Shared → Prop} (R : StR w s.heap a (fun x => x ∈ ws) n) (hh : A.handled = none) (hu : A.units + 64 < cLine)
    (hQ : ∀ s' p (out : List Value) (c : Nat), (∀ b o, s.heap.get? b = some o → s'.heap.get? b = some o) → s'.gens = s.gens → s'.os = s.os → s.heap.objs.size ≤ p →
      s'.heap.get? p = some (seqObj "list" out.toArray c) → Vals ((csort ws).map V.str) out → out.length ≤ sizeLine → Q (.ref p) s') :
    wpAny (model P w) A (call (.builtin "sorted") [.ref a]) Q E s := by
  obtain ⟨o, es, ep, t, ho, ex, hd, good, nod, mem, few, fits, sz, rise, led⟩ := R
  refine Calls.call_function_entry kind_sorted plain_sorted entry_sorted (args_sorted1 _) ?_
  unfold Builtin.«sorted»
  refine wpAny_bind (m := checkCount "sorted" 1 1 _) (wpAny_pure ?_)
  refine wpAny_bind (collect_set (A := A.in1) hh ⟨o, ho, ex.1, hd⟩ fits few rise led fun s1 vs k1 grow g1 o1 perm => ?_)
  have allT : ∀ v ∈ vs, ∃ x tk, v = Value.str x tk := fun v hv => by
    obtain ⟨e, he, q⟩ := List.mem_map.mp (perm.mem_iff.mp hv)
    obtain ⟨x, tk, h1, _⟩ := good e he
    exact ⟨x, tk, by rw [← q]; exact h1⟩
  have long : vs.length ≤ sizeLine := by
    rw [perm.length_eq, List.length_map, Array.length_toList]
    exact fits_of_scanBound few
  have permx : (vs.map txV).Perm (es.toList.map txOf) := by
    have q := perm.map txV
    rw [List.map_map] at q
    exact q
  have each := each_texts (h := s1.heap) vs allT
  refine wpAny_bind (wpAny_newList ?_ long)
  have atL : (s1.heap.push (seqObj "list" vs.toArray 0)).get? s1.heap.objs.size = some (seqObj "list" vs.toArray 0) := Heap.get?_push_size _ rfl
  have alike_ : PySem.W.AllAlike ((vs.map txV).map PyData.str) := fun d hd d' hd' => by
    obtain ⟨x, _, ex⟩ := List.mem_map.mp hd
    obtain ⟨y, _, ey⟩ := List.mem_map.mp hd'
    rw [← ex, ← ey]
    simp [PySem.W.alike]
  have sortable : PySem.W.Sortable ((vs.map txV).map PyData.str) := PySem.W.Sortable.others fun x => (⟨fun z => (nomatch z), fun _ z => (nomatch z)⟩ : PyData.str x ≠ .none ∧ ∀ xs, PyData.str x ≠ .tuple xs)
  have reads : ∀ h : Heap, PySem.W.EachIs (fun v x => ∃ as, Reads h v (PyData.str x) as) vs (vs.map txV) := fun h => each.mono fun v x ⟨t, e⟩ => ⟨[], by rw [e]; exact .str x t⟩
  refine wpAny_bind (wpAny_holding (wpAny_call_entry slot_list_sort ⟨_, atL, rfl⟩ entry_list_sort (PySem.W.list_sort_vals (κ := PySem.W.dataKind _ ((vs.map txV).map PyData.str)) atL
    (PySem.W.SortsAt.data (PySem.W.each_map (R := fun v d => ∃ as, Reads _ v d as) PyData.str (reads _)) alike_ sortable fun d hd => ?room) long ⟨_, rfl, ?_⟩) (args_list_sort _)))
  case room =>
    obtain ⟨x, _, e⟩ := List.mem_map.mp hd
    rw [← e]
    show A.in1.in1.units + 0 < cLine
    have e2 : A.in1.in1.units = A.units + 2 := rfl
    omega
  have outs := PySem.W.sortVals_data (h' := PySem.W.sortingHeap (s1.heap.push (seqObj "list" vs.toArray 0)) s1.heap.objs.size vs) (enc := PyData.str) false each (reads _) alike_
  have le_eq : PySem.W.dataLe false (fun b : Str => PyData.str b) = sle := by
    rw [PySem.W.dataLe_str (fun b : Str => b)] <;> rfl
  have sorted_eq : (vs.map txV).mergeSort (PySem.W.dataLe false PyData.str) = csort ws := by
    rw [show PySem.W.dataLe false PyData.str = sle from le_eq]
    have pm := List.mergeSort_perm (vs.map txV) sle
    exact csort_of (List.pairwise_mergeSort sle_trans sle_total _) (pm.nodup_iff.mpr (permx.nodup_iff.mpr nod)) fun x => by
      rw [pm.mem_iff, permx.mem_iff]
      exact (mem x).symm
  rw [sorted_eq] at outs
  have len := PySem.W.sortVals_length (κ := PySem.W.dataKind (PySem.W.sortingHeap (s1.heap.push (seqObj "list" vs.toArray 0)) s1.heap.objs.size vs) ((vs.map txV).map PyData.str)) false (ks := vs) (vs := vs) rfl
  generalize PySem.W.sortVals (PySem.W.dataKind (PySem.W.sortingHeap (s1.heap.push (seqObj "list" vs.toArray 0)) s1.heap.objs.size vs) ((vs.map txV).map PyData.str)) false vs vs = out at outs len ⊢
  obtain ⟨c, hc⟩ := sortedHeap_at (vs := vs) (out := out.toArray) atL
  refine wpAny_pure ⟨_, rfl, hQ _ s1.heap.objs.size out c (fun b u e => ?_) g1 o1 grow hc (each_vals outs) (by rw [len]; exact long)⟩
  have q := k1 b u e
  have lt := Heap.lt_size q
  show (sortedHeap (s1.heap.push (seqObj "list" vs.toArray 0)) s1.heap.objs.size vs out.toArray).get? b = some u
  rw [sortedHeap_old (Nat.ne_of_lt lt) (by rw [Heap.size_push]; exact Nat.lt_succ_of_lt lt)]
  exact Heap.get?_push_of_some _ q
end
/-! ### the two calls, over the layer -/
/-- a set of the texts ws -/
def StO (w : World) (a : Addr) (ws : List Str) : HO := .ext fun h => ∃ n, StR w h a (fun x => x ∈ ws) n
theorem stO_ok {P : Program} {w : World} {H : Hp} {h : Heap} {a : Addr} {ws : List Str} {n : Nat} (R : StR w h a (fun x => x ∈ ws) n) : ObjOk P w H h a (StO w a ws) := by
  obtain ⟨o, es, ep, t, ho, r⟩ := id R
  exact ⟨⟨n, R⟩, ⟨o, ho⟩, fun h1 h2 ⟨m, p⟩ k => ⟨m, p.at k⟩⟩
section
variable {X : Cx}
def rSetTx (K : PySem.W.Frag) (w : World) : List V → Hp → VK → Prop := fun xs H Q => ∃ (l : Addr) (ws : List Str), xs = [V.ref l] ∧ SqL K H l (ws.map V.str) ∧ ws.length ≤ 1000 ∧ ∀ a, H a = none → Q (.ref a) (upd H a (StO w a ws))
theorem cr_setTx (calm : X.calm = true) : CallR X (.type "set") (rSetTx X.K X.w) := by
  intro pins s σ H xs us Q I r h
  obtain ⟨l, ws, exs, hl, few, q⟩ := h
  subst exs
  rw [Vals.ref1 r]
  obtain ⟨its, rv, pl, _⟩ := I.list hl
  have new : H s.heap.objs.size = none := I.hok.fresh (Nat.le_refl _)
  have strsAre : ∀ {ws : List Str} {its : List Value}, Vals (ws.map V.str) its → PyProof.Rows.StrsAre its ws := by
    intro ws
    induction ws with
    | nil => intro its r; cases r; exact .nil
    | cons x ws ih =>
      intro its r
      rw [List.map_cons] at r
      cases r with
      | cons h1 h2 =>
        obtain ⟨t, e⟩ := h1
        subst e
        exact .cons x t (ih h2)
  refine set_of_texts (P := X.prog) (w := X.w) ws (I.ok.hd calm) pl.isList (by simpa using strsAre rv) (by unfold scanBound; omega) fun h' tk R k => ?_
  exact ⟨.ref s.heap.objs.size, upd H s.heap.objs.size (StO X.w s.heap.objs.size ws), I.laid (t' := tk) k (Nat.le_refl _) (stO_ok R), rfl, q _ new⟩
def rSortTx (w : World) : List V → Hp → VK → Prop := fun xs H Q => ∃ (a : Addr) (ws : List Str), xs = [V.ref a] ∧ H a = some (StO w a ws) ∧ ∀ p, H p = none → Q (.ref p) (upd H p (.lst ((csort ws).map V.str)))
theorem cr_sortTx (calm : X.calm = true) (hu : X.A.units + 64 < cLine) : CallR X (.builtin "sorted") (rSortTx X.w) := by
  intro pins s σ H vs us Q I r h
  obtain ⟨a, ws, evs, ha, q⟩ := h
  subst evs
  obtain ⟨n, R⟩ := (I.hok a _ ha).1
  rw [Vals.ref1 r]
  refine sorted_texts_set R (I.ok.hd calm) hu fun s' p out c k g o hp atp hv long => ?_
  have new : H p = none := I.hok.fresh hp
  have fits : ((csort ws).map V.str).length ≤ sizeLine := by
    rw [hv.length]
    exact long
  have J : Inv X pins σ (upd H p (.lst ((csort ws).map V.str))) { s with heap := s'.heap, gens := s'.gens, drawn := s'.drawn, toks := s'.toks } :=
    I.call (ch := []) (Un.laid k hp new) (I.hok.laid k hp ⟨fits, out, c, hv, atp⟩) (by rw [g]; exact I.bare) (fun _ z => nomatch z)
  have same : s' = { s with heap := s'.heap, gens := s'.gens, drawn := s'.drawn, toks := s'.toks } := by
    cases s'
    cases s
    cases o
    rfl
  rw [same]
  exact ⟨.ref p, _, J, rfl, q p new⟩
end
end K48
set_option maxRecDepth 100000
set_option maxHeartbeats 4000000
namespace K48
open PySem PySem.Spec PyProof.Rows L2
/-! ### sorted(xs, key=f), f a def of the program -/
/-- two builtins deeper -/
abbrev inX (X : Cx) : Cx := { X with A := X.A.in1.in1 }
section
variable {X : Cx} {pins : List (Addr × Obj)} {σ : L2.St} {H : Hp} {s : Shared}
theorem ok_in (o : X.Ok) : (inX X).Ok := ⟨o.mod, o.kind, o.glob, o.blt, o.above, o.inj, o.has, o.cab, o.hd, o.frames, o.stk, o.exf, o.bs, o.bsz, o.noex, o.exfs, o.funs, o.frf⟩
theorem ok_out (o : (inX X).Ok) : X.Ok := ⟨o.mod, o.kind, o.glob, o.blt, o.above, o.inj, o.has, o.cab, o.hd, o.frames, o.stk, o.exf, o.bs, o.bsz, o.noex, o.exfs, o.funs, o.frf⟩
theorem inv_in (I : Inv X pins σ H s) : Inv (inX X) pins σ H s := ⟨ok_in I.ok, I.os, I.bare, I.base, I.loc, I.cell, I.free, I.freeC, I.pin, I.hok, I.len⟩
theorem inv_out (I : Inv (inX X) pins σ H s) : Inv X pins σ H s := ⟨ok_out I.ok, I.os, I.bare, I.base, I.loc, I.cell, I.free, I.freeC, I.pin, I.hok, I.len⟩
end
/-- the entry without what it says of c -/
abbrev noX (X : Cx) (c : Addr) : Cx := { X with H_0 := fun b => if b = c then none else X.H_0 b }
section
variable {X : Cx} {pins : List (Addr × Obj)} {σ : L2.St} {H : Hp} {s : Shared}
theorem no_ok {c : Addr} (o : X.Ok) : (noX X c).Ok :=
  ⟨o.mod, o.kind, o.glob, o.blt, o.above, o.inj, o.has, o.cab, o.hd, o.frames, o.stk, o.exf, fun b u e => ⟨(o.bs b u e).1, by show (if b = c then none else X.H_0 b) = none; split; rfl; exact (o.bs b u e).2⟩, o.bsz, o.noex, o.exfs, o.funs,
    fun b hb => by show (if b = c then none else X.H_0 b) = none; split; rfl; exact o.frf b hb⟩
theorem inv_no {c : Addr} (n0 : X.s_0.heap.get? c = none) (I : Inv X pins σ H s) : Inv (noX X c) pins σ H s := by
  have ne : ∀ b o, X.s_0.heap.get? b = some o → b ≠ c := fun b o e z => by
    rw [z, n0] at e
    cases e
  have eq : ∀ b, b ≠ c → (noX X c).H_0 b = X.H_0 b := fun b nb => if_neg nb
  have inv : ∀ b u, (noX X c).H_0 b = some u → X.H_0 b = some u := fun b u e => by
    have e2 : (if b = c then none else X.H_0 b) = some u := e
    split at e2
    · cases e2
    · exact e2
  refine ⟨no_ok I.ok, I.os, I.bare, ⟨fun b o e n => I.base.keep b o e (by rw [← eq b (ne b o e)]; exact n), fun b o e n => I.base.slot b o e (by rw [← eq b (ne b o e)]; exact n), fun b o e n => I.base.free b o e (by rw [← eq b (ne b o e)]; exact n), I.base.there,
    fun b xs e => I.base.tups b xs (inv b _ e), fun b o u e => I.base.frzs b o u (inv b _ e), fun b ps e => I.base.tbls b ps (inv b _ e)⟩, I.loc, I.cell, I.free, I.freeC, I.pin, I.hok, I.len⟩
theorem inv_yes {c : Addr} (n0 : X.s_0.heap.get? c = none) (o : X.Ok) (nt : ∀ xs, X.H_0 c ≠ some (.tup xs)) (nf : ∀ o u, X.H_0 c ≠ some (.frz o u)) (nb : ∀ ps, X.H_0 c ≠ some (.tbl ps)) (I : Inv (noX X c) pins σ H s) : Inv X pins σ H s := by
  have ne : ∀ b o, X.s_0.heap.get? b = some o → b ≠ c := fun b o e z => by
    rw [z, n0] at e
    cases e
  have eq : ∀ b, b ≠ c → (noX X c).H_0 b = X.H_0 b := fun b nb => if_neg nb
  refine ⟨o, I.os, I.bare, ⟨fun b o e n => I.base.keep b o e (by rw [eq b (ne b o e)]; exact n), fun b o e n => I.base.slot b o e (by rw [eq b (ne b o e)]; exact n), fun b o e n => I.base.free b o e (by rw [eq b (ne b o e)]; exact n), I.base.there,
    fun b xs e => I.base.tups b xs (by rw [eq b (fun z => nt xs (z ▸ e))]; exact e), fun b o u e => I.base.frzs b o u (by rw [eq b (fun z => nf o u (z ▸ e))]; exact e), fun b ps e => I.base.tbls b ps (by rw [eq b (fun z => nb ps (z ▸ e))]; exact e)⟩, I.loc, I.cell, I.free, I.freeC, I.pin, I.hok, I.len⟩
end
/-- the list at c, untracked but told -/
def Raw (c : Addr) (its : Array Value) (e : Nat) : HO := .ext fun h => h.get? c = some (seqObj "list" its e)
theorem raw_ok {P : Program} {w : World} {H : Hp} {h : Heap} {c : Addr} {its : Array Value} {e : Nat} (q : h.get? c = some (seqObj "list" its e)) : ObjOk P w H h c (Raw c its e) :=
  ⟨q, ⟨_, q⟩, fun _ _ z k => k _ z⟩
/-- what tells of lists and tuples alone -/
def Seqs (H H' : Hp) : Prop := (∀ b xs, H b = some (.lst xs) → H' b = some (.lst xs)) ∧ (∀ b xs, H b = some (.tup xs) → H' b = some (.tup xs)) ∧ ∀ b o u, H b = some (.frz o u) → H' b = some (.frz o u)
theorem Seqs.of {H H' : Hp} (k : Same H H') : Seqs H H' := ⟨fun _ _ e => k _ _ e, fun _ _ e => k _ _ e, fun _ _ _ e => k _ _ e⟩
theorem Seqs.raw {H : Hp} {c : Addr} {its its' : Array Value} {e e' : Nat} (h : H c = some (Raw c its e)) : Seqs H (upd H c (Raw c its' e')) := by
  have ne : ∀ b o, H b = some o → o ≠ Raw c its e → b ≠ c := fun b o e n z => by
    rw [z, h] at e
    exact n (Option.some.inj e).symm
  refine ⟨fun b xs e => ?_, fun b xs e => ?_, fun b o u e => ?_⟩
  · rw [upd_ne (ne _ _ e (fun z => nomatch z))]
    exact e
  · rw [upd_ne (ne _ _ e (fun z => nomatch z))]
    exact e
  · rw [upd_ne (ne _ _ e (fun z => nomatch z))]
    exact e
theorem Seqs.trans {H H1 H2 : Hp} (a : Seqs H H1) (b : Seqs H1 H2) : Seqs H H2 := ⟨fun c xs e => b.1 c xs (a.1 c xs e), fun c xs e => b.2.1 c xs (a.2.1 c xs e), fun c o u e => b.2.2 c o u (a.2.2 c o u e)⟩
theorem Seqs.but {H H' : Hp} {c : Addr} {its : Array Value} {e : Nat} (h : H c = some (Raw c its e)) (k : ∀ b o, b ≠ c → H b = some o → H' b = some o) : Seqs H H' := by
  have ne : ∀ b o, H b = some o → o ≠ Raw c its e → b ≠ c := fun b o e n z => by
    rw [z, h] at e
    exact n (Option.some.inj e).symm
  exact ⟨fun b xs e => k b _ (ne _ _ e (fun z => nomatch z)) e, fun b xs e => k b _ (ne _ _ e (fun z => nomatch z)) e, fun b o u e => k b _ (ne _ _ e (fun z => nomatch z)) e⟩
theorem Vals.perm {xs : List V} : ∀ {us out : List Value}, Vals xs us → out.Perm us → ∃ ys, Vals ys out ∧ ys.Perm xs := by
  intro us out r p
  induction p generalizing xs with
  | nil => exact ⟨xs, r, List.Perm.refl _⟩
  | cons u _ ih =>
    cases r with
    | cons h t =>
      obtain ⟨ys, q1, q2⟩ := ih t
      exact ⟨_ :: ys, .cons h q1, q2.cons _⟩
  | swap u v l =>
    cases r with
    | cons h t =>
      cases t with
      | cons h2 t2 => exact ⟨_ :: _ :: _, .cons h2 (.cons h t2), List.Perm.swap _ _ _⟩
  | trans _ _ ih1 ih2 =>
    obtain ⟨ys, q1, q2⟩ := ih2 r
    obtain ⟨zs, q3, q4⟩ := ih1 q1
    exact ⟨zs, q3, q4.trans q2⟩
theorem sortVals_perm {κ : PyProof.Rows.KeyKind} {ks vs : List Value} (h : ks.length = vs.length) : (PySem.W.sortVals κ false ks vs).Perm vs := by
  unfold PySem.W.sortVals
  have p := (List.mergeSort_perm (ks.zip vs) (PySem.W.sortLe κ.toKeyOrd false fun p : Keyed => PySem.W.keyD κ p.1)).map Prod.snd
  rw [List.map_snd_zip (by omega)] at p
  exact p
section
variable {X : Cx} {pins : List (Addr × Obj)} {σ : L2.St} {H : Hp} {s : Shared}
/-- a raw list gets another content -/
theorem raw_set {c : Addr} {its its' : Array Value} {n n' : Nat} {h' : Heap} {t' : Nat} (I : Inv X pins σ H s) (h : H c = some (Raw c its n)) (hs : Heap.SameBut c s.heap h') (q : h'.get? c = some (seqObj "list" its' n')) :
    Inv X pins σ (upd H c (Raw c its' n')) { s with heap := h', toks := t' } :=
  I.write (x := c) (e := c) (by rw [h]; exact True.intro) (.inl rfl) (fun b u nb z => (hs.2 b nb).trans z) ⟨_, q⟩ (raw_ok q)
theorem raw_at {c : Addr} {its : Array Value} {n : Nat} (I : Inv X pins σ H s) (h : H c = some (Raw c its n)) : s.heap.get? c = some (seqObj "list" its n) := (I.hok c _ h).1
/-- the keys are made, one after the other -/
theorem keyed_rest {KeyD : Nat → V → Hp → Prop} {fV : Value} {xs : List V} {vs : List Value} {a kS : Addr} {e1 : Nat} {Q : VK} (ex0 : X.ex = []) (rv : Vals xs vs) (long : vs.length ≤ sizeLine) (apart : kS ≠ a)
    (mono : ∀ i y H H', Seqs H H' → KeyD i y H → KeyD i y H')
    (run : ∀ (i : Nat) (x : V) (u : Value) (H' : Hp) (s' : Shared), xs[i]? = some x → RelV x u → Inv X pins σ H' s' → Seqs H H' →
      wpAny (model X.prog X.w) X.A.in1.in1 (call fV [u]) (fun v s2 => ∃ y H2, Inv X pins σ H2 s2 ∧ Same H' H2 ∧ RelV y v ∧ KeyD i y H2) (fun _ _ => False) s')
    (sorts : ∀ (H' : Hp) (s' : Shared) (ys : List V) (keys : List Value), Inv X pins σ H' s' → Seqs H H' → Vals ys keys → ys.length = xs.length → (∀ i y, ys[i]? = some y → KeyD i y H') →
      ∃ κ, PySem.W.SortsAt X.prog X.w X.A.in1.in1 s' κ keys)
    (I : Inv X pins σ H s) (ha : H a = some (Raw a #[] e1)) (hk : H kS = some (Raw kS #[] 0)) (n0 : X.s_0.heap.get? kS = none) (nt : ∀ xs, X.H_0 kS ≠ some (.tup xs)) (nf : ∀ o u, X.H_0 kS ≠ some (.frz o u)) (nb : ∀ ps, X.H_0 kS ≠ some (.tbl ps)) {E : Value → Shared → Prop}
    (q : ∀ (H' : Hp) (ys : List V), (∀ b o, b ≠ kS → b ≠ a → H b = some o → H' b = some o) → ys.Perm xs → Q (.ref a) (upd H' a (.lst ys))) :
    wpAny (model X.prog X.w) X.A.in1.in1 (PyProof.Rows.ksk_rest a fV false vs.toArray e1 (.ref kS)) (fun f s' => f = .done (.ret .none) ∧ EP X pins σ Q (.ref a) s') E s := by
  unfold PyProof.Rows.ksk_rest
  refine wpAny_bind (wpAny_rule ?_)
  first
    | rw [List.forIn_toArray]
    | (rw [← Array.forIn_toList]; simp only [List.toList_toArray])
    | rw [← Array.forIn_toList]
  refine wpAny_bind (ksk_fold (fun i s' => ∃ (H' : Hp) (kA : Array Value) (e : Nat) (ys : List V), Inv X pins σ H' s' ∧ (∀ b o, b ≠ kS → H b = some o → H' b = some o) ∧ H' kS = some (Raw kS kA e) ∧
    Vals ys kA.toList ∧ ys.length = i ∧ ∀ j y, ys[j]? = some y → KeyD j y H') vs 0 s ⟨H, #[], 0, [], I, fun _ _ _ e => e, hk, .nil, rfl, fun j y z => by simp at z⟩ ?step ?done)
  case step =>
    rintro j u s' hu ⟨H', kA, e, ys, I', keep, hk', rel, len, kd⟩
    rw [Nat.zero_add] at len
    have lt : j < vs.length := (List.getElem?_eq_some_iff.mp hu).1
    obtain ⟨x, hx, rx⟩ : ∃ x, xs[j]? = some x ∧ RelV x u := by
      have l2 : j < xs.length := by
        rw [rv.length]
        exact lt
      obtain ⟨u2, e1, e2⟩ := rv.get (List.getElem?_eq_getElem l2)
      rw [hu] at e1
      exact ⟨_, List.getElem?_eq_getElem l2, by rw [Option.some.inj e1]; exact e2⟩
    refine wpAny_bind (wpAny_attempt (wpAny_mono (run j x u H' s' hx rx I' (Seqs.but hk keep)) (fun v s2 he => ?_) fun _ _ hF => hF.elim))
    obtain ⟨y, H2, I2, same, ry, ky⟩ := he
    try dsimp only
    have nk := raw_at I2 (same _ _ hk')
    have small : kA.size ≤ vs.length := by
      rw [← Array.length_toList, ← rel.length]
      omega
    have but := Heap.SameBut.update s2.heap kS (Obj.mapSeq (·.push v))
    obtain ⟨c2, hc2⟩ : ∃ c2, (s2.heap.update kS (Obj.mapSeq (·.push v))).get? kS = some (seqObj "list" (kA.push v) c2) := ⟨_, PyProof.Rows.get?_update_seq nk (·.push v)⟩
    refine wpAny_bind (listUpdate_at nk rfl ?_ (Nat.le_trans small long) (Nat.le_trans (Nat.le_of_eq (Array.size_push ..)) (Nat.succ_le_succ (Nat.le_trans small long))))
    have I3 := raw_set (t' := s2.toks) I2 (same _ _ hk') but hc2
    have sq : Seqs H2 (upd H2 kS (Raw kS (kA.push v) c2)) := Seqs.raw (same _ _ hk')
    refine wpAny_pure ⟨rfl, _, kA.push v, c2, ys ++ [y], I3, fun b o nb z => ?_, upd_same, ?_, ?_, fun i z hz => ?_⟩
    · rw [upd_ne nb]
      exact same _ _ (keep b o nb z)
    · rw [Array.toList_push]
      exact rel.append (.cons ry .nil)
    · rw [List.length_append, len]
      simp
    · rcases Nat.lt_or_ge i ys.length with l | g
      · rw [List.getElem?_append_left l] at hz
        exact mono i z _ _ ((Seqs.of same).trans sq) (kd i z hz)
      · rw [List.getElem?_append_right g] at hz
        have e0 : i - ys.length = 0 := by
          cases e : i - ys.length with
          | zero => rfl
          | succ m =>
            rw [e] at hz
            simp at hz
        rw [e0] at hz
        have ez : y = z := by simpa using hz
        have ei : i = j := by omega
        subst ez ei
        exact mono i y _ _ sq ky
  case done =>
    rintro s' ⟨H', kA, e, ys, I', keep, hk', rel, len, kd⟩
    rw [Nat.zero_add] at len
    have nk := raw_at I' hk'
    have ha' := keep a _ apart.symm ha
    have na := raw_at I' ha'
    have lenx : ys.length = xs.length := len.trans rv.length.symm
    have sz : kA.size = vs.length := by rw [← Array.length_toList, ← rel.length, len]
    obtain ⟨κ, S⟩ := sorts H' s' ys kA.toList I' (Seqs.but hk keep) rel lenx kd
    obtain ⟨G, g1, g2, I4n⟩ := (inv_no n0 I').untrack hk' (fr0_none (if_pos rfl)) ex0
    have I4 : Inv X pins σ (delH H' kS) { s' with heap := G } := inv_yes n0 I.ok nt nf nb I4n
    try dsimp only
    refine wpAny_bind (listItems_at nk rfl ?_)
    refine PySem.W.keyH_end (κ := κ) (h₁ := G) (fun b o _ z => g1 b o z) g2 nk na apart S sz long fun h' tk c k3 n3 => ⟨rfl, ?_⟩
    have pv := sortVals_perm (κ := κ) (ks := kA.toList) (vs := vs) (by rw [Array.length_toList]; exact sz)
    obtain ⟨zs, rz, pz⟩ := Vals.perm rv pv
    have lz : zs.length ≤ sizeLine := by
      rw [pz.length_eq, rv.length]
      exact long
    have dl : delH H' kS a = some (Raw a #[] e1) := by
      unfold delH
      rw [if_neg apart.symm]
      exact ha'
    refine ⟨.ref a, _, I4.write (x := a) (e := a) (by rw [dl]; exact True.intro) (.inl rfl) k3 ⟨_, n3⟩ (show ObjOk _ _ _ _ a (.lst zs) from ⟨lz, _, c, rz, n3⟩), rfl, q (delH H' kS) zs (fun b o n1 n2 z => ?_) pz⟩
    unfold delH
    rw [if_neg n1]
    exact keep b o n1 z
/-- what sorted(xs, key=f) asks of f: KeyD tells the keys that it makes, and they can be sorted -/
structure KeyFn (X : Cx) (H : Hp) (xs : List V) (fV : Value) (KeyD : Nat → V → Hp → Prop) : Prop where
  mono : ∀ i y H1 H2, Seqs H1 H2 → KeyD i y H1 → KeyD i y H2
  run : ∀ (pins : List (Addr × Obj)) (σ : L2.St) (i : Nat) (x : V) (u : Value) (H' : Hp) (s' : Shared), xs[i]? = some x → RelV x u → Inv X pins σ H' s' → Seqs H H' →
    wpAny (model X.prog X.w) X.A.in1.in1 (call fV [u]) (fun v s2 => ∃ y H2, Inv X pins σ H2 s2 ∧ Same H' H2 ∧ RelV y v ∧ KeyD i y H2) (fun _ _ => False) s'
  sorts : ∀ (pins : List (Addr × Obj)) (σ : L2.St) (H' : Hp) (s' : Shared) (ys : List V) (keys : List Value), Inv X pins σ H' s' → Seqs H H' → Vals ys keys → ys.length = xs.length → (∀ i y, ys[i]? = some y → KeyD i y H') →
      ∃ κ, PySem.W.SortsAt X.prog X.w X.A.in1.in1 s' κ keys
theorem keyed_sorted {KeyD : Nat → V → Hp → Prop} {fa l : Addr} {xs : List V} {vs : List Value} {Q : VK} (ex0 : X.ex = []) (I : Inv X pins σ H s) (hl : s.heap.IsList l vs.toArray) (rv : Vals xs vs) (long : vs.length ≤ sizeLine) (F : KeyFn X H xs (.ref fa) KeyD)
    (args : argsOk "sorted" ⟨[.ref l], [(Str.ofString "key", .ref fa)]⟩) (args2 : ∀ x, argsOk "list.sort" ⟨[.ref x], [(Str.ofString "key", .ref fa)]⟩)
    (q : ∀ (H' : Hp) (p : Addr) (ys : List V), Same H H' → H p = none → ys.Perm xs → Q (.ref p) (upd H' p (.lst ys))) :
    wpAny (model X.prog X.w) X.A (call (.builtin "sorted") [.ref l] [(Str.ofString "key", .ref fa)]) (EP X pins σ Q) X.xe s := by
  refine PySem.W.sorted_of_sort hl long args args2 fun E' => ?_
  show wpAny _ _ (PyProof.Rows.ksk_tree (s.heap.objs.size + 1) (.ref fa) false) _ _ _
  have copy_old : ∀ b o, s.heap.get? b = some o → (PySem.W.copyHeap s.heap vs).get? b = some o := fun b o z => PySem.W.copyHeap_old z
  have I1 : Inv X pins σ H { s with heap := PySem.W.copyHeap s.heap vs } := I.kept (t' := s.toks) copy_old
  have at1 := PySem.W.copyHeap_at s.heap vs
  have sz1 : (PySem.W.copyHeap s.heap vs).objs.size = s.heap.objs.size + 2 := by unfold PySem.W.copyHeap; rw [Heap.size_push, Heap.size_update, Heap.size_push]
  have nA : H (s.heap.objs.size + 1) = none := I.hok.fresh (Nat.le_succ _)
  unfold PyProof.Rows.ksk_tree
  refine wpAny_bind (listItems_at at1 rfl ?_)
  refine wpAny_bind (listUpdate_at at1 rfl ?_ (by rw [List.size_toArray]; exact long) (Nat.zero_le _))
  have but := Heap.SameBut.update (PySem.W.copyHeap s.heap vs) (s.heap.objs.size + 1) (Obj.mapSeq fun _ => (#[] : Array Value))
  obtain ⟨e1, he1⟩ : ∃ e1, ((PySem.W.copyHeap s.heap vs).update (s.heap.objs.size + 1) (Obj.mapSeq fun _ => (#[] : Array Value))).get? (s.heap.objs.size + 1) = some (seqObj "list" #[] e1) := ⟨_, PyProof.Rows.get?_update_seq at1 fun _ => #[]⟩
  refine wpAny_bind (seqEpoch_at he1 rfl ?_)
  refine wpAny_bind (wpAny_newTuple ?_ (by show vs.length ≤ _; exact long))
  refine wpAny_bind (wpAny_newList ?_ (Nat.zero_le _))
  refine wpAny_holding ?_
  have old2 : ∀ b o, s.heap.get? b = some o → ((PySem.W.copyHeap s.heap vs).update (s.heap.objs.size + 1) (Obj.mapSeq fun _ => (#[] : Array Value))).get? b = some o := fun b o z =>
    (but.2 b (Nat.ne_of_lt (Nat.lt_succ_of_lt (Heap.lt_size z)))).trans (copy_old b o z)
  have I2 : Inv X pins σ (upd H (s.heap.objs.size + 1) (Raw (s.heap.objs.size + 1) #[] e1)) { s with heap := (PySem.W.copyHeap s.heap vs).update (s.heap.objs.size + 1) (Obj.mapSeq fun _ => (#[] : Array Value)) } :=
    I.laid (t' := s.toks) old2 (Nat.le_succ _) (raw_ok he1)
  have I3 := I2.kept (t' := s.toks) (h' := ((PySem.W.copyHeap s.heap vs).update (s.heap.objs.size + 1) (Obj.mapSeq fun _ => (#[] : Array Value))).push (seqObj "tuple" vs.toArray 0)) fun b u z => Heap.get?_push_of_some _ z
  have sz3 : (((PySem.W.copyHeap s.heap vs).update (s.heap.objs.size + 1) (Obj.mapSeq fun _ => (#[] : Array Value))).push (seqObj "tuple" vs.toArray 0)).objs.size = s.heap.objs.size + 3 := by
    rw [Heap.size_push, Heap.size_update, sz1]
  have at4 : ((((PySem.W.copyHeap s.heap vs).update (s.heap.objs.size + 1) (Obj.mapSeq fun _ => (#[] : Array Value))).push (seqObj "tuple" vs.toArray 0)).push (seqObj "list" #[] 0)).get? (s.heap.objs.size + 3) = some (seqObj "list" #[] 0) := by
    rw [← sz3]
    exact Heap.get?_push_size _ rfl
  have nK : H (s.heap.objs.size + 3) = none := I.hok.fresh (Nat.le_add_right _ _)
  have I4 : Inv X pins σ (upd (upd H (s.heap.objs.size + 1) (Raw (s.heap.objs.size + 1) #[] e1)) (s.heap.objs.size + 3) (Raw (s.heap.objs.size + 3) #[] 0)) _ :=
    I3.laid (t' := s.toks) (a := s.heap.objs.size + 3) (fun b u z => Heap.get?_push_of_some _ z) (Nat.le_of_eq sz3) (raw_ok at4)
  have ne13 : s.heap.objs.size + 3 ≠ s.heap.objs.size + 1 := by omega
  have n0 : X.s_0.heap.get? (s.heap.objs.size + 3) = none := Heap.get?_none_of_le (Nat.le_trans I.sz (Nat.le_add_right _ _))
  have no : ∀ u, H (s.heap.objs.size + 3) ≠ some u := fun u z => by
    rw [nK] at z
    cases z
  have sq : Seqs H (upd (upd H (s.heap.objs.size + 1) (Raw (s.heap.objs.size + 1) #[] e1)) (s.heap.objs.size + 3) (Raw (s.heap.objs.size + 3) #[] 0)) :=
    Seqs.of fun b o z => by
      rw [upd_ne (ne_of_none z nK), upd_ne (ne_of_none z nA)]
      exact z
  have go := keyed_rest (X := X) (pins := pins) (σ := σ) (KeyD := KeyD) (fV := .ref fa) (xs := xs) (vs := vs) (a := s.heap.objs.size + 1) (kS := s.heap.objs.size + 3) (e1 := e1) (Q := Q) (E := E') ex0 rv long ne13 F.mono
    (fun i x u H' s' hx rx I' k => F.run pins σ i x u H' s' hx rx I' (sq.trans k)) (fun H' s' ys keys I' k r ln kd => F.sorts pins σ H' s' ys keys I' (sq.trans k) r ln kd)
    I4 (by rw [upd_ne ne13.symm]; exact upd_same) upd_same n0 (fun xs z => no _ (I.base.tups _ xs z)) (fun o u z => no _ (I.base.frzs _ o u z)) (fun ps z => (I.base.tbls _ ps z).elim fun m z2 => no _ z2) (fun H' ys keep pm => q H' (s.heap.objs.size + 1) ys (fun b o z => ?_) nA pm)
  · rw [sz3]
    exact go
  · refine keep b o (ne_of_none z nK) (ne_of_none z nA) ?_
    rw [upd_ne (ne_of_none z nK), upd_ne (ne_of_none z nA)]
    exact z
end
end K48
set_option maxRecDepth 100000
set_option maxHeartbeats 4000000
namespace K48
open PySem PySem.Spec PyProof.Rows L2
abbrev inN (X : Cx) : Cx := { X with A := X.A.in1.in1, xe := fun _ _ => False }
section
variable {X : Cx} {pins : List (Addr × Obj)} {σ : L2.St} {H : Hp} {s : Shared}
theorem okN_in (o : X.Ok) : (inN X).Ok := ⟨o.mod, o.kind, o.glob, o.blt, o.above, o.inj, o.has, o.cab, o.hd, o.frames, o.stk, o.exf, o.bs, o.bsz, o.noex, o.exfs, o.funs, o.frf⟩
theorem okN_out (o : (inN X).Ok) : X.Ok := ⟨o.mod, o.kind, o.glob, o.blt, o.above, o.inj, o.has, o.cab, o.hd, o.frames, o.stk, o.exf, o.bs, o.bsz, o.noex, o.exfs, o.funs, o.frf⟩
theorem invN_in (I : Inv X pins σ H s) : Inv (inN X) pins σ H s := ⟨okN_in I.ok, I.os, I.bare, I.base, I.loc, I.cell, I.free, I.freeC, I.pin, I.hok, I.len⟩
theorem invN_out (I : Inv (inN X) pins σ H s) : Inv X pins σ H s := ⟨okN_out I.ok, I.os, I.bare, I.base, I.loc, I.cell, I.free, I.freeC, I.pin, I.hok, I.len⟩
/-- a def of one parameter as a key -/
theorem key_run {k : Nat} {fa : Addr} {fd : FuncData} {ps : List Str} {sp : Sp} {xs : List V} {KeyD : Nat → V → Hp → Prop} (F : FnOk X.prog X.w X.K X.mg X.base CX0 k fa fd ps sp) (hb : Binds X.K fd ps []) (hr : Room (k + 2) X.A)
    (spec : ∀ (i : Nat) (x : V) (H' : Hp), xs[i]? = some x → Seqs H H' → sp [x] H' (fun y H2 => Same H' H2 ∧ KeyD i y H2) E0)
    (pins : List (Addr × Obj)) (σ : L2.St) (i : Nat) (x : V) (u : Value) (H' : Hp) (s' : Shared) (hx : xs[i]? = some x) (rx : RelV x u) (I : Inv X pins σ H' s') (sq : Seqs H H') :
    wpAny (model X.prog X.w) X.A.in1.in1 (call (.ref fa) [u]) (fun v s2 => ∃ y H2, Inv X pins σ H2 s2 ∧ Same H' H2 ∧ RelV y v ∧ KeyD i y H2) (fun _ _ => False) s' := by
  have go := run_fn (X := inN X) (CX := CX0) (E := E0) (us := [u]) (vs := [x]) (dvs := []) (ds := []) (Q := fun y H2 => Same H' H2 ∧ KeyD i y H2) F ((show Room (k + 1 + 1) X.A from hr).in1.in1) hb .nil pass0 (invN_in I) (.cons rx .nil) (spec i x H' hx sq)
  refine wpAny_mono go (fun v s2 he => ?_) fun _ _ z => z
  obtain ⟨y, H2, I2, ry, k1, k2⟩ := he
  exact ⟨y, H2, invN_out I2, k1, ry, k2⟩
def rSortK (X : Cx) (fa : Addr) : List V → List V → Hp → VK → Prop := fun vs zs H Q => ∃ (l : Addr) (xs : List V) (KeyD : Nat → V → Hp → Prop), vs = [.ref l] ∧ zs = [.ref fa] ∧ SqL X.K H l xs ∧ KeyFn X H xs (.ref fa) KeyD ∧
  ∀ (H' : Hp) (p : Addr) (ys : List V), Same H H' → H p = none → ys.Perm xs → Q (.ref p) (upd H' p (.lst ys))
theorem args_sk (l fa : Addr) : argsOk "sorted" ⟨[.ref l], [(Str.ofString "key", .ref fa)]⟩ := by
  unfold argsOk
  kernel_rfl
theorem args_lk (l fa : Addr) : argsOk "list.sort" ⟨[.ref l], [(Str.ofString "key", .ref fa)]⟩ := by
  unfold argsOk
  kernel_rfl
theorem cr_sortK {fa : Addr} (ex0 : X.ex = []) : CallRK X (.builtin "sorted") [Str.ofString "key"] (rSortK X fa) := by
  intro pins s σ H xs zs us ws Q I rx rz h
  obtain ⟨l, ys, KeyD, e1, e2, hl, F, q⟩ := h
  subst e1 e2
  rw [Vals.ref1 rx]
  obtain ⟨z, ez, rz2⟩ := rz.one
  subst ez
  cases rz2
  obtain ⟨its, rv, pl, long⟩ := I.list hl
  exact keyed_sorted ex0 I pl.isList rv (by rw [← rv.length]; exact long) F (args_sk _ _) (fun x => args_lk _ _) fun H' p ys' k n pm => q H' p ys' k n pm
end
/-! ### the keys of rows -/
def vkT : Key → T
  | .inl i => .t [.i 0, .i i, .s Str.empty]
  | .inr x => .t [.i 1, .i 0, .s x]
def rkT (row : List Key) : T := .t (row.map vkT)
theorem alike_vk (a b : Key) : PySem.W.alike (vkT a).py (vkT b).py = true := by
  cases a <;> cases b <;> simp [vkT, T.py, T.pys, PySem.W.alike, PySem.W.alikeAll]
theorem alike_rks : ∀ a b : List Key, PySem.W.alikeAll (T.pys (a.map vkT)) (T.pys (b.map vkT)) = true
  | [], _ => by simp [T.pys, PySem.W.alikeAll]
  | _ :: _, [] => by simp [T.pys, PySem.W.alikeAll]
  | x :: xs, y :: ys => by
    rw [List.map_cons, List.map_cons, T.pys, T.pys, PySem.W.alikeAll, alike_vk, alike_rks xs ys]
    rfl
theorem alike_rk (a b : List Key) : PySem.W.alike (rkT a).py (rkT b).py = true := by
  simp only [rkT, T.py, PySem.W.alike]
  exact alike_rks a b
theorem dep_vks : ∀ a : List Key, T.deps (a.map vkT) ≤ 1
  | [] => by simp [T.deps]
  | x :: xs => by
    have h := dep_vks xs
    rw [List.map_cons, T.deps]
    have e : (vkT x).dep ≤ 1 := by cases x <;> simp [vkT, T.dep, T.deps]
    omega
theorem dep_rk (a : List Key) : (rkT a).py.depth ≤ 2 := by
  rw [dep_py]
  have h := dep_vks a
  simp only [rkT, T.dep]
  omega
section
variable {X : Cx} {pins : List (Addr × Obj)} {σ : L2.St} {H : Hp} {s : Shared}
theorem reads_of {ds : List T} : ∀ {ys : List V} {keys : List Value}, Inv X pins σ H s → Vals ys keys → IsL H ys ds → PySem.W.EachIs (fun v d => ∃ as, Reads s.heap v d as) keys (ds.map T.py) := by
  induction ds with
  | nil =>
    intro ys keys I r h
    rw [isL_nil_inv h] at r
    cases r
    exact .nil
  | cons d ds ih =>
    intro ys keys I r h
    obtain ⟨v, vs, e, h1, h2⟩ := isL_inv h
    subst e
    cases r with
    | cons ra rb =>
      rw [List.map_cons]
      exact .cons (Dp.reads I d.py v _ (Is.dp d v h1) ra) (ih I rb h2)
theorem isL_of {H : Hp} : ∀ {ds : List T} {ys : List V}, ys.length = ds.length → (∀ (i : Nat) (y : V) (d : T), ys[i]? = some y → ds[i]? = some d → Is H y d) → IsL H ys ds
  | [], [], _, _ => isL_nil
  | [], _ :: _, h, _ => by cases h
  | _ :: _, [], h, _ => by cases h
  | d :: ds, y :: ys, h, k => isL_cons (k 0 y d rfl rfl) (isL_of (Nat.succ.inj h) fun i y' d' e1 e2 => k (i + 1) y' d' (by simpa using e1) (by simpa using e2))
theorem Seqs.tk {H H' : Hp} (k : Seqs H H') : K48.TK H H' := ⟨k.2.1, fun a o xs => k.2.2 a o (.tup xs)⟩
/-- rows of one length, not two of length 0, can be sorted by their keys -/
theorem sorts_rows {rows : List (List Key)} {ys : List V} {keys : List Value} (I : Inv X pins σ H s) (hu : X.A.units + 64 < cLine) (n : Nat) (one : ∀ r ∈ rows, r.length = n) (few : n = 0 → rows.length ≤ 1) (r : Vals ys keys) (h : IsL H ys (rows.map rkT)) :
    ∃ κ, PySem.W.SortsAt X.prog X.w X.A.in1.in1 s κ keys := by
  have each := reads_of I r h
  have al : PySem.W.AllAlike ((rows.map rkT).map T.py) := by
    rw [List.map_map]
    exact PySem.W.AllAlike.of fun a b => alike_rk a b
  have units : X.A.in1.in1.units = X.A.units + 2 := rfl
  have room : ∀ d, d ∈ (rows.map rkT).map T.py → X.A.in1.in1.units + d.depth < cLine := fun d hd => by
    rw [List.map_map] at hd
    obtain ⟨a, _, e⟩ := List.mem_map.mp hd
    have z := dep_rk a
    rw [← e]
    show X.A.in1.in1.units + (rkT a).py.depth < cLine
    omega
  cases n with
  | succ m =>
    refine ⟨_, PySem.W.SortsAt.data each al (.inl fun d hd => ?_) room⟩
    rw [List.map_map] at hd
    obtain ⟨a, ha, e⟩ := List.mem_map.mp hd
    cases a with
    | nil => exact absurd (one _ ha) (by simp)
    | cons x xs => exact ⟨(vkT x).py, T.pys (xs.map vkT), by rw [← e]; simp only [Function.comp, rkT, List.map_cons, T.py, T.pys]⟩
  | zero =>
    have len : keys.length ≤ 1 := by
      rw [← r.length, h.length, List.length_map]
      exact few rfl
    refine ⟨PySem.W.dataKind s.heap ((rows.map rkT).map T.py), fun v hv => ?_, general', fun E x y a b Q ha hb hq => ?_, fun h2 => absurd h2 (by omega)⟩
    · obtain ⟨d, hd, as, rd⟩ := each.left v hv
      exact ⟨_, PySem.W.dataKind_some al hd rd⟩
    · obtain ⟨d, as, hd, ra, ea⟩ := PySem.W.dataKind_inv ha
      obtain ⟨d', as', hd', rb, eb⟩ := PySem.W.dataKind_inv hb
      subst ea eb
      have z := room d hd
      have mm : min d.depth d'.depth ≤ d.depth := Nat.min_le_left _ _
      have notNone : d ≠ .none := by
        rw [List.map_map] at hd
        obtain ⟨a, _, e⟩ := List.mem_map.mp hd
        rw [← e]
        simp only [Function.comp, rkT, T.py]
        exact fun z => nomatch z
      exact PySem.W.oneLt_alike (f := false) (fun z => nomatch z) ra rb (al d hd d' hd') notNone (by omega) hq
end
end K48
set_option maxRecDepth 100000
set_option maxHeartbeats 4000000
namespace K48
open PySem PySem.Spec PyProof.Rows L2 PySem.SeqAt PySem.W
/-! ### keys whose later items are asked only where the earlier ones are equal -/
section
theorem tuple_ltF (l b : Addr) (xs ys : Array Value) (n m : Nat) (d1 d2 : Option Addr) (s1 s2 : Array (Option Value)) (e r : Nat → Bool) :
    PySem.Meets (Builtin.«tuple.__lt__» ⟨[.ref l, .ref b], []⟩)
      (fun A R s => s.heap.get? l = some { cls := .type "tuple", dict := d1, data := .seq xs n, slots := s1 } ∧ s.heap.get? b = some { cls := .type "tuple", dict := d2, data := .seq ys m, slots := s2 } ∧
        (∀ j (h1 : j < xs.size) (h2 : j < ys.size), (∀ i, i < j → e i = true) → EqAt A.in1 s xs[j] ys[j] (e j)) ∧ (∀ j (h1 : j < xs.size) (h2 : j < ys.size), (∀ i, i < j → e i = true) → e j = false → RcLt A.in1 s xs[j] ys[j] (r j)) ∧
        R (.ok (.ret (.bool (firstLt e r (decide (xs.size < ys.size)) (List.range (min xs.size ys.size)))))) s) :=
  .of_wp fun prog w A R s h => by
    obtain ⟨heap, gens, dr, tk, os⟩ := s
    obtain ⟨hl, hb, he, hr, h⟩ := h
    have both := PySem.AutoSeq1.sub_tuple_tuple
    have lenZ : (xs.toList.zip ys.toList).length = min xs.size ys.size := by simp
    wp_walk using PySem.AutoSeq1.wpAny_loadPart' hl, PySem.AutoSeq1.wpAny_loadPart' hb, wpAny_forIn_list _ (fun rest c s' => c.1 = none ∧ s' = ⟨heap, gens, dr, tk, os⟩ ∧ ∃ i, rest = (xs.toList.zip ys.toList).drop i ∧ (∀ k, k < i → e k = true) ∧
      R (.ok (.ret (.bool (firstLt e r (decide (xs.size < ys.size)) ((List.range (min xs.size ys.size)).drop i))))) ⟨heap, gens, dr, tk, os⟩) _
    case turn =>
      rintro ⟨y, x⟩ rest c s' ⟨hc, rfl, i, hz, all, hR⟩
      have lt : i < (xs.toList.zip ys.toList).length := by
        rcases Nat.lt_or_ge i (xs.toList.zip ys.toList).length with z | z
        · exact z
        · rw [List.drop_of_length_le z] at hz
          cases hz
      have ltm : i < min xs.size ys.size := lenZ ▸ lt
      have l1 : i < xs.size := Nat.lt_of_lt_of_le ltm (Nat.min_le_left _ _)
      have l2 : i < ys.size := Nat.lt_of_lt_of_le ltm (Nat.min_le_right _ _)
      rw [List.drop_eq_getElem_cons lt] at hz
      injection hz with hyx hrest
      have ey : y = xs[i] := by
        have q := congrArg Prod.fst hyx
        simpa using q
      have ex : x = ys[i] := by
        have q := congrArg Prod.snd hyx
        simpa using q
      subst ey ex
      have hd : (List.range (min xs.size ys.size)).drop i = i :: (List.range (min xs.size ys.size)).drop (i + 1) := by simp [List.drop_eq_getElem_cons, ltm]
      rw [hd] at hR
      refine wpAny_bind (he i l1 l2 all prog w _ _ ?_)
      cases hy : e i with
      | true =>
        rw [firstLt_yes hy] at hR
        wp_walk
        refine ⟨rfl, rfl, i + 1, hrest, fun k hk => ?_, hR⟩
        rcases Nat.lt_succ_iff_lt_or_eq.mp hk with z | z
        · exact all k z
        · rw [z]
          exact hy
      | false =>
        rw [firstLt_no hy] at hR
        generalize keep : PySem.richCompare CmpOp.Lt xs[i] ys[i] = rc
        wp_walk
        rw [← keep]
        refine hr i l1 l2 all hy prog w _ _ ?_
        wp_walk
        exact ⟨_, rfl, hR⟩
    case fin =>
      rintro ⟨c1, c2⟩ s' ⟨hc, rfl, i, hz, all, hR⟩
      simp only at hc
      subst hc
      have ge : min xs.size ys.size ≤ i := by
        rcases Nat.lt_or_ge i (xs.toList.zip ys.toList).length with z | z
        · rw [List.drop_eq_getElem_cons z] at hz
          cases hz
        · exact lenZ ▸ z
      rw [List.drop_of_length_le (by simpa using ge)] at hR
      wp_walk
      exact ⟨_, rfl, by simpa [Builtin.Tuple.tupleCompareSizes, firstLt] using hR⟩
    case h =>
      exact ⟨rfl, rfl, 0, rfl, fun k hk => absurd hk (Nat.not_lt_zero _), by simpa using h⟩
end
theorem rcLt_tupF {A : Around} {s : Shared} {l b : Addr} {xs ys : Array Value} {e r : Nat → Bool} (hl : s.heap.IsTuple l xs) (hb : s.heap.IsTuple b ys) (hu : A.units < cLine)
    (he : ∀ j (h1 : j < xs.size) (h2 : j < ys.size), (∀ i, i < j → e i = true) → EqAt A.in1 s xs[j] ys[j] (e j)) (hr : ∀ j (h1 : j < xs.size) (h2 : j < ys.size), (∀ i, i < j → e i = true) → e j = false → RcLt A.in1 s xs[j] ys[j] (r j)) :
    RcLt A s (.ref l) (.ref b) (firstLt e r (decide (xs.size < ys.size)) (List.range (min xs.size ys.size))) := fun prog w E Q h => by
  obtain ⟨⟨c1, d1, t1, s1⟩, a1, k1, n1, q1⟩ := id hl
  obtain ⟨⟨c2, d2, t2, s2⟩, a2, k2, n2, q2⟩ := id hb
  simp only at k1 q1 k2 q2
  subst k1 q1 k2 q2
  exact richCompare_meets_room (op := .Lt) ⟨_, a1, rfl⟩ ⟨_, a2, rfl⟩ PySem.F.slot_tuple_lt PySem.F.entry_tuple_lt (PySem.F.args_tuple_lt_2 _ _) (tuple_ltF l b xs ys n1 n2 d1 d2 s1 s2 e r)
    ⟨a1, a2, he, hr, show Value.bool (firstLt e r (decide (xs.size < ys.size)) (List.range (min xs.size ys.size))) ≠ Value.notImplemented ∧ Q (.bool (firstLt e r (decide (xs.size < ys.size)) (List.range (min xs.size ys.size)))) s from ⟨(fun x => nomatch x), h⟩⟩ hu
end K48
set_option maxRecDepth 100000
set_option maxHeartbeats 4000000
namespace K48
open PySem PySem.Spec PyProof.Rows L2 PySem.SeqAt PySem.W
/-! ### the keys of places: (name, [(0, i) or (1, x), ..]) -/
def pkT : Key → T
  | .inl i => .t [.i 0, .i i]
  | .inr x => .t [.i 1, .s x]
def pkD (k : Key) : PyData := (pkT k).py
def pkDs (row : List Key) : List PyData := row.map pkD
def placeD (n : Str) (row : List Key) : PyData := .tuple [.str n, .list (pkDs row)]
/-- the signs of two data: equal, or the first one that differs decides, whatever follows -/
structure Gd (x y : PyData) : Prop where
  eq : PyData.eqv x y = true → keyToks x = keyToks y
  ne : PyData.eqv x y = false → ∀ l m, PyProof.Rows.lexLt itemOrd (keyToks x ++ l) (keyToks y ++ m) = PyProof.Rows.lexLt itemOrd (keyToks x) (keyToks y)
theorem Gd.alike {x y : PyData} (h : PySem.W.alike x y = true) : Gd x y := ⟨(toks_eqv x y h).1, (toks_eqv x y h).2⟩
theorem gd_pk (a b : Key) : Gd (pkD a) (pkD b) := by
  cases a with
  | inl i =>
    cases b with
    | inl j => exact Gd.alike (by simp [pkD, pkT, T.py, T.pys, PySem.W.alike, PySem.W.alikeAll])
    | inr y =>
      refine ⟨fun h => ?_, fun _ l m => ?_⟩
      · simp [pkD, pkT, T.py, T.pys, PyData.eqv, PyData.eqvAll] at h
      · simp only [pkD, pkT, T.py, T.pys, keyToks, keyToksAll, List.cons_append, List.nil_append, List.append_assoc]
        exact (lex_self (O := itemOrd) _ _ _).trans ((lex_diff (O := itemOrd) (by simp)).trans ((lex_self (O := itemOrd) _ _ _).trans (lex_diff (O := itemOrd) (by simp))).symm)
  | inr x =>
    cases b with
    | inr y => exact Gd.alike (by simp [pkD, pkT, T.py, T.pys, PySem.W.alike, PySem.W.alikeAll])
    | inl j =>
      refine ⟨fun h => ?_, fun _ l m => ?_⟩
      · simp [pkD, pkT, T.py, T.pys, PyData.eqv, PyData.eqvAll] at h
      · simp only [pkD, pkT, T.py, T.pys, keyToks, keyToksAll, List.cons_append, List.nil_append, List.append_assoc]
        exact (lex_self (O := itemOrd) _ _ _).trans ((lex_diff (O := itemOrd) (by simp)).trans ((lex_self (O := itemOrd) _ _ _).trans (lex_diff (O := itemOrd) (by simp))).symm)
theorem gd_yes {x y : PyData} {xs ys : List PyData} (h : Gd x y) (e : PyData.eqv x y = true) : PyProof.Rows.lexLt itemOrd (keyToksAll (x :: xs)) (keyToksAll (y :: ys)) = PyProof.Rows.lexLt itemOrd (keyToksAll xs) (keyToksAll ys) := by
  rw [toks_all_cons, toks_all_cons, h.eq e]
  exact (lex_self (O := itemOrd) _ _ _).trans (lex_pre _ _ _)
theorem gd_no {x y : PyData} {xs ys : List PyData} (h : Gd x y) (e : PyData.eqv x y = false) : PyProof.Rows.lexLt itemOrd (keyToksAll (x :: xs)) (keyToksAll (y :: ys)) = dataLt x y := by
  rw [toks_all_cons, toks_all_cons]
  exact (lex_self (O := itemOrd) _ _ _).trans (h.ne e _ _)
theorem first_pk : ∀ (xs ys : List Key), firstLt (pairEq (pkDs xs) (pkDs ys)) (fun j => dataLt ((pkDs xs).getD j .none) ((pkDs ys).getD j .none)) (decide ((pkDs xs).length < (pkDs ys).length)) (List.range (min (pkDs xs).length (pkDs ys).length)) =
    PyProof.Rows.lexLt itemOrd (keyToksAll (pkDs xs)) (keyToksAll (pkDs ys))
  | [], [] => by simp [pkDs, firstLt, keyToksAll, lex_irrefl]
  | [], y :: ys => by
    show _ = PyProof.Rows.lexLt itemOrd (keyToksAll []) (keyToksAll (pkD y :: pkDs ys))
    rw [toks_all_cons]
    simp only [keyToksAll]
    rw [lex_diff (O := itemOrd) (by simp)]
    simp [pkDs, firstLt, itemLt]
  | x :: xs, [] => by
    show _ = PyProof.Rows.lexLt itemOrd (keyToksAll (pkD x :: pkDs xs)) (keyToksAll [])
    rw [toks_all_cons]
    simp only [keyToksAll]
    rw [lex_diff (O := itemOrd) (by simp)]
    simp [pkDs, firstLt, itemLt]
  | x :: xs, y :: ys => by
    have ih := first_pk xs ys
    show firstLt (pairEq (pkD x :: pkDs xs) (pkD y :: pkDs ys)) (fun j => dataLt ((pkD x :: pkDs xs).getD j .none) ((pkD y :: pkDs ys).getD j .none)) (decide ((pkD x :: pkDs xs).length < (pkD y :: pkDs ys).length)) (List.range (min (pkD x :: pkDs xs).length (pkD y :: pkDs ys).length)) =
      PyProof.Rows.lexLt itemOrd (keyToksAll (pkD x :: pkDs xs)) (keyToksAll (pkD y :: pkDs ys))
    have em : min (pkD x :: pkDs xs).length (pkD y :: pkDs ys).length = min (pkDs xs).length (pkDs ys).length + 1 := by
      rw [List.length_cons, List.length_cons]
      omega
    have ed : decide ((pkD x :: pkDs xs).length < (pkD y :: pkDs ys).length) = decide ((pkDs xs).length < (pkDs ys).length) := by
      rw [List.length_cons, List.length_cons]
      exact decide_eq_decide.mpr (by omega)
    rw [em, ed, List.range_succ_eq_map]
    cases h : PyData.eqv (pkD x) (pkD y) with
    | true =>
      rw [firstLt_yes (show pairEq (pkD x :: pkDs xs) (pkD y :: pkDs ys) 0 = true from h), firstLt_map, gd_yes (gd_pk x y) h, ← ih]
      rfl
    | false =>
      rw [firstLt_no (show pairEq (pkD x :: pkDs xs) (pkD y :: pkDs ys) 0 = false from h), gd_no (gd_pk x y) h]
      rfl
theorem lay_pk (k : Key) (h : kOk k = true) : (pkD k).canLay0 = true := by
  cases k with
  | inl i => simp [pkD, pkT, T.py, T.pys, PyData.canLay0, PyData.canLayAll0]
  | inr x =>
    have hx : PyData.strOk x = true := h
    simp [pkD, pkT, T.py, T.pys, PyData.canLay0, PyData.canLayAll0, hx]
theorem lay_pks : ∀ (row : List Key), (∀ k ∈ row, kOk k = true) → PyData.canLayAll0 (pkDs row) = true
  | [], _ => by simp [pkDs, PyData.canLayAll0]
  | k :: row, h => by
    show PyData.canLayAll0 (pkD k :: pkDs row) = true
    rw [PyData.canLayAll0, lay_pk k (h k (List.mem_cons_self ..)), lay_pks row fun j hj => h j (List.mem_cons_of_mem _ hj)]
    rfl
theorem depth_pk (k : Key) : (pkD k).depth = 1 := by
  cases k <;> simp [pkD, pkT, T.py, T.pys, PyData.depth, PyData.depthAll]
theorem depth_pks : ∀ row : List Key, PyData.depthAll (pkDs row) ≤ 1
  | [] => by simp [pkDs, PyData.depthAll]
  | k :: row => by
    have h := depth_pks row
    show PyData.depthAll (pkD k :: pkDs row) ≤ 1
    rw [PyData.depthAll, depth_pk]
    omega
theorem depth_place (n : Str) (row : List Key) : (placeD n row).depth ≤ 3 := by
  have h := depth_pks row
  simp only [placeD, PyData.depth, PyData.depthAll]
  omega
section
variable {A : Around} {s : Shared}
/-- one pair against another -/
theorem rcLt_pk {a b : Value} {as bs : List Addr} {x y : Key} (hu : A.units + 64 < cLine) (ra : Reads s.heap a (pkD x) as) (rb : Reads s.heap b (pkD y) bs) : RcLt A s a b (dataLt (pkD x) (pkD y)) := by
  have alikeCase : PySem.W.alike (pkD x) (pkD y) = true → RcLt A s a b (dataLt (pkD x) (pkD y)) := fun h =>
    rcLt_alike (pkD x) (pkD y) A s a b as bs ra rb h (by cases x <;> exact fun z => nomatch z) (by rw [depth_pk]; omega)
  have mixed : ∀ (i j : Int) (u v : PyData), pkD x = .tuple [.int i, u] → pkD y = .tuple [.int j, v] → i ≠ j → dataLt (pkD x) (pkD y) = decide (i < j) → RcLt A s a b (dataLt (pkD x) (pkD y)) := fun i j u v ex ey ne ed => by
    rw [ex] at ra
    rw [ey] at rb
    cases ra with
    | @tuple l o vs n _ _ h1 h2 h3 h4 =>
      cases rb with
      | @tuple l' o' ws m _ _ k1 k2 k3 k4 =>
        have sz1 : vs.size = 2 := by simpa using SeqAt.ReadsAll.length _ _ _ h4
        have sz2 : ws.size = 2 := by simpa using SeqAt.ReadsAll.length _ _ _ k4
        obtain ⟨v0, v1, e0⟩ : ∃ v0 v1, vs.toList = [v0, v1] := by
          have q : vs.toList.length = 2 := by rw [Array.length_toList]; exact sz1
          match vs.toList, q with
          | [p, r], _ => exact ⟨p, r, rfl⟩
        obtain ⟨w0, w1, f0⟩ : ∃ w0 w1, ws.toList = [w0, w1] := by
          have q : ws.toList.length = 2 := by rw [Array.length_toList]; exact sz2
          match ws.toList, q with
          | [p, r], _ => exact ⟨p, r, rfl⟩
        rw [e0] at h4
        rw [f0] at k4
        have first : ∃ t t', v0 = .int i t ∧ w0 = .int j t' := by
          cases h4 with
          | cons g1 _ =>
            cases k4 with
            | cons g2 _ =>
              cases g1
              cases g2
              exact ⟨_, _, rfl, rfl⟩
        obtain ⟨t, t', ev0, ew0⟩ := first
        have at0 : ∀ h : 0 < vs.size, vs[0] = .int i t := fun h => by
          have q : vs.toList[0]? = some v0 := by rw [e0]; rfl
          rw [Array.getElem?_toList, Array.getElem?_eq_getElem h] at q
          rw [Option.some.inj q, ev0]
        have bt0 : ∀ h : 0 < ws.size, ws[0] = .int j t' := fun h => by
          have q : ws.toList[0]? = some w0 := by rw [f0]; rfl
          rw [Array.getElem?_toList, Array.getElem?_eq_getElem h] at q
          rw [Option.some.inj q, ew0]
        have hf : (i == j) = false := beq_eq_false_iff_ne.mpr ne
        have go := rcLt_tupF (A := A) (s := s) (l := l) (b := l') (xs := vs) (ys := ws) (e := fun _ => false) (r := fun _ => decide (i < j)) ⟨_, h1, h2, _, h3⟩ ⟨_, k1, k2, _, k3⟩ (by omega)
          (fun k l1 l2 all => by
            cases k with
            | zero =>
              rw [at0 l1, bt0 l2]
              have q := EqAt.int_int (A := A.in1) (s := s) i t j t'
              rw [hf] at q
              exact q
            | succ k => exact absurd (all 0 (Nat.succ_pos _)) (by simp))
          (fun k l1 l2 all _ => by
            cases k with
            | zero =>
              rw [at0 l1, bt0 l2]
              intro prog w E Q hq
              exact P.lt_int hq
            | succ k => exact absurd (all 0 (Nat.succ_pos _)) (by simp))
        have ef : firstLt (fun _ => false) (fun _ => decide (i < j)) (decide (vs.size < ws.size)) (List.range (min vs.size ws.size)) = decide (i < j) := by
          rw [sz1, sz2]
          rfl
        rw [ef] at go
        rw [ed]
        exact go
  cases x with
  | inl i =>
    cases y with
    | inl j => exact alikeCase (by simp [pkD, pkT, T.py, T.pys, PySem.W.alike, PySem.W.alikeAll])
    | inr z => exact mixed 0 1 _ _ rfl rfl (by decide) (by simp only [pkD, pkT, T.py, T.pys, dataLt, keyToks, keyToksAll, List.cons_append, List.nil_append, List.append_nil]; exact (lex_self (O := itemOrd) _ _ _).trans ((lex_diff (O := itemOrd) (fun z => by cases z)).trans (by rfl)))
  | inr z =>
    cases y with
    | inr z2 => exact alikeCase (by simp [pkD, pkT, T.py, T.pys, PySem.W.alike, PySem.W.alikeAll])
    | inl j => exact mixed 1 0 _ _ rfl rfl (by decide) (by simp only [pkD, pkT, T.py, T.pys, dataLt, keyToks, keyToksAll, List.cons_append, List.nil_append, List.append_nil]; exact (lex_self (O := itemOrd) _ _ _).trans ((lex_diff (O := itemOrd) (fun z => by cases z)).trans (by rfl)))
theorem reads_getD : ∀ {ds : List PyData} {vs : List Value} {as : List Addr} {h : Heap}, ReadsAll h vs ds as → ∀ j (h1 : j < vs.length), ∃ bs, Reads h vs[j] (ds.getD j .none) bs
  | [], _, _, _, r, j, h1 => by
    cases r
    exact absurd h1 (Nat.not_lt_zero _)
  | d :: ds, _, _, _, r, j, h1 => by
    cases r with
    | cons r1 r2 =>
      cases j with
      | zero => exact ⟨_, r1⟩
      | succ j =>
        obtain ⟨bs, q⟩ := reads_getD r2 j (Nat.lt_of_succ_lt_succ h1)
        exact ⟨bs, by simpa using q⟩
theorem getD_pk (row : List Key) {j : Nat} (h : j < row.length) : (pkDs row).getD j .none = pkD row[j] := by
  unfold pkDs
  simp [List.getD, h]
/-- one row of pairs against another -/
theorem rcLt_pks {a b : Value} {as bs : List Addr} {xs ys : List Key} (hu : A.units + 66 < cLine) (okx : ∀ k ∈ xs, kOk k = true) (oky : ∀ k ∈ ys, kOk k = true) (ra : Reads s.heap a (.list (pkDs xs)) as) (rb : Reads s.heap b (.list (pkDs ys)) bs) :
    RcLt A s a b (dataLt (.list (pkDs xs)) (.list (pkDs ys))) := by
  cases ra with
  | @list l o vs n _ _ h1 h2 h3 h4 =>
    cases rb with
    | @list l' o' ws m _ _ k1 k2 k3 k4 =>
      have n1 : vs.size = (pkDs xs).length := by simpa using SeqAt.ReadsAll.length _ _ _ h4
      have n2 : ws.size = (pkDs ys).length := by simpa using SeqAt.ReadsAll.length _ _ _ k4
      have dx := depth_pks xs
      have units : A.in1.units = A.units + 1 := rfl
      rw [dataLt_list, ← first_pk xs ys, ← n1, ← n2]
      refine RcLt.lists ⟨_, h1, h2, _, h3⟩ ⟨_, k1, k2, _, k3⟩ (by omega) (fun j j1 j2 => ?_) fun j j1 j2 hj => ?_
      · have q := eqAt_readsAll (pkDs xs) (pkDs ys) A.in1 s vs.toList ws.toList _ _ h4 k4 (lay_pks xs okx) (lay_pks ys oky) (by omega) j (by simpa using j1) (by simpa using j2)
        simpa using q
      · obtain ⟨c1, q1⟩ := reads_getD h4 j (by simpa using j1)
        obtain ⟨c2, q2⟩ := reads_getD k4 j (by simpa using j2)
        have lx : j < xs.length := by rw [n1] at j1; simpa [pkDs] using j1
        have ly : j < ys.length := by rw [n2] at j2; simpa [pkDs] using j2
        rw [getD_pk xs lx] at q1
        rw [getD_pk ys ly] at q2
        rw [getD_pk xs lx, getD_pk ys ly]
        have q := rcLt_pk (A := A.in1) (by omega) q1 q2
        simpa using q
end
end K48
set_option maxRecDepth 100000
set_option maxHeartbeats 4000000
namespace K48
open PySem PySem.Spec PyProof.Rows L2 PySem.SeqAt PySem.W
theorem gd_pks : ∀ (xs ys : List Key), (PyData.eqvAll (pkDs xs) (pkDs ys) = true → keyToksAll (pkDs xs) = keyToksAll (pkDs ys)) ∧
    (PyData.eqvAll (pkDs xs) (pkDs ys) = false → ∀ l m, PyProof.Rows.lexLt itemOrd (keyToksAll (pkDs xs) ++ l) (keyToksAll (pkDs ys) ++ m) = PyProof.Rows.lexLt itemOrd (keyToksAll (pkDs xs)) (keyToksAll (pkDs ys)))
  | [], [] => ⟨fun _ => rfl, fun e => absurd e (by simp [pkDs, PyData.eqvAll])⟩
  | [], y :: ys => ⟨fun e => absurd e (by simp [pkDs, PyData.eqvAll]), fun _ l m => by
      show PyProof.Rows.lexLt itemOrd (keyToksAll [] ++ l) (keyToksAll (pkD y :: pkDs ys) ++ m) = PyProof.Rows.lexLt itemOrd (keyToksAll []) (keyToksAll (pkD y :: pkDs ys))
      simp only [keyToksAll, List.cons_append, List.nil_append]
      exact (lex_atom (by simp) _ _).trans (lex_atom (by simp) _ _).symm⟩
  | x :: xs, [] => ⟨fun e => absurd e (by simp [pkDs, PyData.eqvAll]), fun _ l m => by
      show PyProof.Rows.lexLt itemOrd (keyToksAll (pkD x :: pkDs xs) ++ l) (keyToksAll [] ++ m) = PyProof.Rows.lexLt itemOrd (keyToksAll (pkD x :: pkDs xs)) (keyToksAll [])
      simp only [keyToksAll, List.cons_append, List.nil_append]
      exact (lex_atom (by simp) _ _).trans (lex_atom (by simp) _ _).symm⟩
  | x :: xs, y :: ys => by
    obtain ⟨a1, a2⟩ := gd_pk x y
    obtain ⟨b1, b2⟩ := gd_pks xs ys
    show (PyData.eqvAll (pkD x :: pkDs xs) (pkD y :: pkDs ys) = true → keyToksAll (pkD x :: pkDs xs) = keyToksAll (pkD y :: pkDs ys)) ∧
      (PyData.eqvAll (pkD x :: pkDs xs) (pkD y :: pkDs ys) = false → ∀ l m, PyProof.Rows.lexLt itemOrd (keyToksAll (pkD x :: pkDs xs) ++ l) (keyToksAll (pkD y :: pkDs ys) ++ m) = PyProof.Rows.lexLt itemOrd (keyToksAll (pkD x :: pkDs xs)) (keyToksAll (pkD y :: pkDs ys)))
    rw [eqv_all_cons, toks_all_cons, toks_all_cons]
    cases hx : PyData.eqv (pkD x) (pkD y) with
    | true =>
      rw [a1 hx, Bool.true_and]
      refine ⟨fun e => by rw [b1 e], fun e l m => ?_⟩
      simp only [List.cons_append, List.append_assoc]
      exact (lex_self (O := itemOrd) _ _ _).trans ((lex_pre _ _ _).trans ((b2 e l m).trans ((lex_pre _ _ _).symm.trans (lex_self (O := itemOrd) _ _ _).symm)))
    | false =>
      rw [Bool.false_and]
      refine ⟨fun e => absurd e Bool.false_ne_true, fun _ l m => ?_⟩
      simp only [List.cons_append, List.append_assoc]
      exact (lex_self (O := itemOrd) _ _ _).trans ((a2 hx _ _).trans ((a2 hx _ _).symm.trans (lex_self (O := itemOrd) _ _ _).symm))
theorem gd_list (xs ys : List Key) : Gd (.list (pkDs xs)) (.list (pkDs ys)) := by
  obtain ⟨a, b⟩ := gd_pks xs ys
  refine ⟨fun e => ?_, fun e l m => ?_⟩
  · simp only [keyToks]
    exact a (by simpa [PyData.eqv] using e)
  · simp only [keyToks]
    exact b (by simpa [PyData.eqv] using e) l m
theorem gd_str (n m : Str) : Gd (.str n) (.str m) := Gd.alike (by simp [PySem.W.alike])
theorem kind_some {h : Heap} {ds : List PyData} (un : ∀ d ∈ ds, d.canLay0 = true) {v : Value} {d : PyData} {as : List Addr} (hd : d ∈ ds) (r : Reads h v d as) : (dataKind h ds).keyOf v = some (keyToks d) := by
  have q : ∃ d, d ∈ ds ∧ ∃ as, Reads h v d as := ⟨d, hd, as, r⟩
  have e : (dataKind h ds).keyOf v = some (keyToks q.choose) := by
    show (open Classical in if q : ∃ d, d ∈ ds ∧ ∃ as, Reads h v d as then some (keyToks q.choose) else none) = _
    rw [dif_pos q]
  obtain ⟨h1, as', h2⟩ := q.choose_spec
  rw [e, ← readOf_eq (un _ h1) h2, readOf_eq (un _ hd) r]
/-- the key of a place, in the heap -/
def PlaceK (H : Hp) (y : V) (p : Str × List Key) : Prop := ∃ (a l : Addr) (xs : List V), y = .ref a ∧ H a = some (.tup [.str p.1, .ref l]) ∧ H l = some (.lst xs) ∧ IsL H xs (p.2.map pkT) ∧ strOk p.1 = true ∧ ∀ k ∈ p.2, kOk k = true
theorem pys_pk : ∀ row : List Key, T.pys (row.map pkT) = pkDs row
  | [] => rfl
  | k :: row => by
    rw [List.map_cons, T.pys, pys_pk row]
    rfl
theorem PlaceK.dp {K : PySem.W.Frag} {H : Hp} {y : V} {p : Str × List Key} (h : PlaceK H y p) : Dp K H y (placeD p.1 p.2) := by
  obtain ⟨a, l, xs, e, h1, h2, h3, _, _⟩ := h
  subst e
  refine Dp.tup (.inl (.inl h1)) (.cons (Dp.str _) (.cons (Dp.lst (.inl (.inl h2)) ?_) .nil))
  rw [← pys_pk]
  exact IsL.dp _ _ h3
theorem PlaceK.mono {H H' : Hp} (k : Seqs H H') {y : V} {p : Str × List Key} (h : PlaceK H y p) : PlaceK H' y p := by
  obtain ⟨a, l, xs, e, h1, h2, h3, h4, h5⟩ := h
  exact ⟨a, l, xs, e, k.2.1 _ _ h1, k.1 _ _ h2, IsL.mono k.tk _ _ h3, h4, h5⟩
theorem lay_place {n : Str} {row : List Key} (h1 : strOk n = true) (h2 : ∀ k ∈ row, kOk k = true) : (placeD n row).canLay0 = true := by
  have a : PyData.strOk n = true := h1
  have b := lay_pks row h2
  simp [placeD, PyData.canLay0, PyData.canLayAll0, a, b]
section
variable {X : Cx} {pins : List (Addr × Obj)} {σ : L2.St} {H : Hp} {s : Shared}
theorem each_place {H : Hp} {s : Shared} : ∀ {pl : List (Str × List Key)} {ys : List V} {keys : List Value}, Inv X pins σ H s → Vals ys keys → ys.length = pl.length → (∀ (i : Nat) (y : V) (p : Str × List Key), ys[i]? = some y → pl[i]? = some p → PlaceK H y p) →
    PySem.W.EachIs (fun v d => ∃ as, Reads s.heap v d as) keys (pl.map fun p => placeD p.1 p.2)
  | [], [], keys, _, r, _, _ => by cases r; exact .nil
  | [], _ :: _, _, _, _, h, _ => by cases h
  | _ :: _, [], _, _, _, h, _ => by cases h
  | p :: pl, y :: ys, keys, I, r, h, k => by
    cases r with
    | cons ra rb =>
      rw [List.map_cons]
      exact .cons (Dp.reads I _ y _ (k 0 y p rfl rfl).dp ra) (each_place I rb (Nat.succ.inj h) fun i y' d' e1 e2 => k (i + 1) y' d' (by simpa using e1) (by simpa using e2))
theorem sorts_places {pl : List (Str × List Key)} {ys : List V} {keys : List Value} (I : Inv X pins σ H s) (hu : X.A.units + 70 < cLine) (r : Vals ys keys) (len : ys.length = pl.length)
    (h : ∀ (i : Nat) (y : V) (p : Str × List Key), ys[i]? = some y → pl[i]? = some p → PlaceK H y p) : ∃ κ, PySem.W.SortsAt X.prog X.w X.A.in1.in1 s κ keys := by
  have each := each_place I r len h
  have ok : ∀ p ∈ pl, strOk p.1 = true ∧ ∀ k ∈ p.2, kOk k = true := fun p hp => by
    obtain ⟨i, hi, e⟩ := List.getElem_of_mem hp
    have li : i < ys.length := by omega
    obtain ⟨_, _, _, _, _, _, _, h4, h5⟩ := h i ys[i] p (List.getElem?_eq_getElem li) (by rw [List.getElem?_eq_getElem hi, e])
    exact ⟨h4, h5⟩
  have lays : ∀ d ∈ pl.map (fun p => placeD p.1 p.2), d.canLay0 = true := fun d hd => by
    obtain ⟨p, hp, e⟩ := List.mem_map.mp hd
    rw [← e]
    exact lay_place (ok p hp).1 (ok p hp).2
  have units : X.A.in1.in1.units = X.A.units + 2 := rfl
  refine ⟨dataKind s.heap (pl.map fun p => placeD p.1 p.2), fun v hv => ?_, tuples' true, ?_, fun h2 E Q hq => ?_⟩
  · obtain ⟨d, hd, as, rd⟩ := each.left v hv
    exact ⟨_, kind_some lays hd rd⟩
  · intro E x y a b Q ha hb hq
    obtain ⟨d, as, hd, ra, ea⟩ := dataKind_inv ha
    obtain ⟨d', as', hd', rb, eb⟩ := dataKind_inv hb
    subst ea eb
    obtain ⟨⟨n, xs⟩, hp, e⟩ := List.mem_map.mp hd
    obtain ⟨⟨m, zs⟩, hp', e'⟩ := List.mem_map.mp hd'
    have o1 := ok _ hp
    have o2 := ok _ hp'
    subst e e'
    have hq' : Q (dataLt (placeD n xs) (placeD m zs)) s := hq
    unfold placeD at hq' ra rb
    rw [dataLt_tuple] at hq'
    cases ra with
    | @tuple l o vs k _ _ h1 h2 h3 h4 =>
      cases rb with
      | @tuple l' o' ws k' _ _ k1 k2 k3 k4 =>
        have n1 : vs.size = 2 := by simpa using SeqAt.ReadsAll.length _ _ _ h4
        have n2 : ws.size = 2 := by simpa using SeqAt.ReadsAll.length _ _ _ k4
        refine kat_lt h1 h3 k1 k3 ?_
        have fin : decide (vs.size < ws.size) = false := by rw [n1, n2]; rfl
        rw [fin]
        generalize vs.toList = vl at h4
        generalize ws.toList = wl at k4
        cases h4 with
        | cons g1 g2 =>
          cases g2 with
          | cons g3 g4 =>
            cases g4
            cases k4 with
            | cons j1 j2 =>
              cases j2 with
              | cons j3 j4 =>
                cases j4
                rw [List.zip_cons_cons, List.zip_cons_cons, List.zip_nil_left]
                have al : PySem.W.alike (.str n) (.str m) = true := by simp [PySem.W.alike]
                refine kat_cons (eqAt_alike _ _ _ s _ _ _ _ g1 j1 al (by simp only [PyData.depth]; omega) _ _ _ _ ?_)
                cases e1 : PyData.eqv (.str n) (.str m) with
                | false =>
                  rw [gd_no (gd_str n m) e1] at hq'
                  exact kat_no (oneLt_alike (fun _ _ => (fun z => by cases z)) g1 j1 al (fun z => by cases z) (by simp only [PyData.depth]; omega) hq')
                | true =>
                  rw [gd_yes (gd_str n m) e1] at hq'
                  have d1 := depth_pks xs
                  have d2 := depth_pks zs
                  have c1 : PyData.canLay0 (.list (pkDs xs)) = true := by simp only [PyData.canLay0]; exact lay_pks xs o1.2
                  have c2 : PyData.canLay0 (.list (pkDs zs)) = true := by simp only [PyData.canLay0]; exact lay_pks zs o2.2
                  refine kat_yes (kat_cons (eqAt_reads _ _ _ s _ _ _ _ g3 j3 c1 c2 (by simp only [PyData.depth]; omega) _ _ _ _ ?_))
                  cases e2 : PyData.eqv (.list (pkDs xs)) (.list (pkDs zs)) with
                  | true =>
                    rw [gd_yes (gd_list xs zs) e2, lex_irrefl] at hq'
                    exact kat_yes (kat_nil hq')
                  | false =>
                    rw [gd_no (gd_list xs zs) e2] at hq'
                    refine kat_no ?_
                    refine kat_one _ _ (rcLt_pks (A := X.A.in1.in1) (by omega) o1.2 o2.2 g3 j3 _ _ _ _ ?_)
                    exact hq'
  · obtain ⟨fs, t1, t2, t3⟩ := each_katTups each (fun d hd => by
      obtain ⟨p, hp, e⟩ := List.mem_map.mp hd
      exact ⟨_, _, e.symm⟩)
    refine kat_kind (T := Value.type "str") t1 (by omega) (fun f hf => ?_) (beq_self_eq_true _) hq
    obtain ⟨x, rr, as, m1, m2⟩ := t3 f hf
    obtain ⟨p, hp, e⟩ := List.mem_map.mp m1
    have ex : x = .str p.1 := by
      unfold placeD at e
      injection e with e
      injection e with e1 e2
      exact e1.symm
    subst ex
    exact looks_reads m2
end
end K48
set_option maxRecDepth 100000
set_option maxHeartbeats 4000000
namespace K48
open PySem PySem.Spec PyProof.Rows L2
/-! ### loops and comprehensions, told by an invariant -/
section
variable {K : PySem.W.Frag} {tl tk te : TE} {ta : TA} {g : TG} {tb : TS} {tt : TT} {ids : List Nat} {D : Ends} {σ : L2.St} {H : Hp} {Q : VK} {a : Addr} {xs ys : List V}
abbrev turnEnds (D : Ends) (P : L2.St → Hp → Prop) : Ends := { D with nx := P, ct := P, bk := D.nx }
theorem sqT_inj {H : Hp} {a : Addr} {xs ys : List V} (h1 : H a = some (.tup xs)) (h2 : H a = some (.tup ys)) : xs = ys := by
  rw [h1] at h2
  injection h2 with h2
  injection h2
theorem f_tup (P : Nat → L2.St → Hp → Prop) (h : tl σ H fun x H1 => x = .ref a ∧ P 0 σ H1) (hs : ∀ i σ' H', P i σ' H' → SqT K H' a xs)
    (step : ∀ i x σ' H', xs[i]? = some x → P i σ' H' → g x σ' H' (tb (turnEnds D (P (i + 1))))) (done : ∀ σ' H', P xs.length σ' H' → D.nx σ' H')
    (mono : ∀ (Q1 Q2 : VK), (∀ v H, Q1 v H → Q2 v H) → tl σ H Q1 → tl σ H Q2) : tFor (iTup K tl) g tb D σ H := by
  refine mono _ _ (fun v H1 hv => ?_) h
  obtain ⟨ev, h0⟩ := hv
  refine ⟨a, ev, ⟨xs, hs _ _ _ h0⟩, fun i m σ' H' => P i σ' H' ∧ i + m = xs.length, ⟨xs.length, h0, by omega⟩, fun i m σ' H' hW => ?_⟩
  obtain ⟨hp, em⟩ := hW
  by_cases hi : i < xs.length
  · refine .inr ⟨⟨xs, xs[i], hs _ _ _ hp, List.getElem?_eq_getElem hi⟩, P (i + 1), fun σ2 H2 hn => ⟨m - 1, by omega, hn, by omega⟩, fun x H2 hy => ?_⟩
    obtain ⟨e, f⟩ := hy
    rw [e]
    exact step i x σ' H' (f _ (hs _ _ _ hp)) hp
  · have ei : i = xs.length := by omega
    subst ei
    exact .inl ⟨⟨xs, hs _ _ _ hp, Nat.le_refl _⟩, done _ _ hp⟩
/-- a reading grows with what it is to reach -/
def Mono (t : TE) : Prop := ∀ σ H (Q1 Q2 : VK), (∀ v H, Q1 v H → Q2 v H) → t σ H Q1 → t σ H Q2
theorem f_list (P : Nat → L2.St → Hp → Prop) (h : tl σ H fun x H1 => x = .ref a ∧ P 0 σ H1) (hs : ∀ i σ' H', P i σ' H' → SqL K H' a xs)
    (step : ∀ i x σ' H', xs[i]? = some x → P i σ' H' → g x σ' H' (tb (turnEnds D (P (i + 1))))) (done : ∀ σ' H', P xs.length σ' H' → D.nx σ' H')
    (mono : ∀ (Q1 Q2 : VK), (∀ v H, Q1 v H → Q2 v H) → tl σ H Q1 → tl σ H Q2) : tFor (iList K tl) g tb D σ H := by
  refine mono _ _ (fun v H1 hv => ?_) h
  obtain ⟨ev, h0⟩ := hv
  refine ⟨a, ev, ⟨xs, hs _ _ _ h0⟩, fun i m σ' H' => P i σ' H' ∧ i + m = xs.length, ⟨xs.length, h0, by omega⟩, fun i m σ' H' hW => ?_⟩
  obtain ⟨hp, em⟩ := hW
  by_cases hi : i < xs.length
  · refine .inr ⟨⟨xs, xs[i], hs _ _ _ hp, List.getElem?_eq_getElem hi⟩, P (i + 1), fun σ2 H2 hn => ⟨m - 1, by omega, hn, by omega⟩, fun x H2 hy => ?_⟩
    obtain ⟨e, f⟩ := hy
    rw [e]
    exact step i x σ' H' (f _ (hs _ _ _ hp)) hp
  · have ei : i = xs.length := by omega
    subst ei
    exact .inl ⟨⟨xs, hs _ _ _ hp, Nat.le_refl _⟩, done _ _ hp⟩
end
/-! the same, the iterator being there: for use after the reading of the sequence is unfolded -/
section
variable {K : PySem.W.Frag} {g : TG} {tb : TS} {tt : TT} {te tv : TE} {ids : List Nat} {D : Ends} {σ : L2.St} {H : Hp} {Q : VK} {a : Addr} {xs ys : List V}
/-- what is left of a for when the iterator J stands -/
def ForJ (g : TG) (tb : TS) (D : Ends) (σ : L2.St) (J : It) (H1 : Hp) : Prop := ∃ W : Nat → Nat → L2.St → Hp → Prop, (∃ m, W 0 m σ H1) ∧ ∀ i m σ H, W i m σ H →
  (J.stop i H ∧ D.nx σ H) ∨ (J.go i H ∧ ∃ N : L2.St → Hp → Prop, (∀ σ' H', N σ' H' → ∃ m', m' < m ∧ W (i + 1) m' σ' H') ∧ ∀ x H', J.yld i H x H' → g x σ H' fun σ2 H2 => tb { D with nx := N, ct := N, bk := D.nx } σ2 H2)
theorem forJ {J : It} {n : Nat} (P : Nat → L2.St → Hp → Prop) (h0 : P 0 σ H) (stop : ∀ σ' H', P n σ' H' → J.stop n H' ∧ D.nx σ' H') (go : ∀ i σ' H', i < n → P i σ' H' → J.go i H')
    (step : ∀ i σ' H' x H2, i < n → P i σ' H' → J.yld i H' x H2 → g x σ' H2 (tb (turnEnds D (P (i + 1))))) : ForJ g tb D σ J H := by
  refine ⟨fun i m σ' H' => P i σ' H' ∧ i + m = n, ⟨n, h0, by omega⟩, fun i m σ' H' hW => ?_⟩
  obtain ⟨hp, em⟩ := hW
  by_cases hi : i < n
  · exact .inr ⟨go _ _ _ hi hp, P (i + 1), fun σ2 H2 hn => ⟨m - 1, by omega, hn, by omega⟩, fun x H2 hy => step i σ' H' x H2 hi hp hy⟩
  · have ei : i = n := by omega
    subst ei
    exact .inl (stop _ _ hp)
theorem j_tup (xs : List V) (P : Nat → L2.St → Hp → Prop) (h0 : P 0 σ H) (hs : ∀ i σ' H', P i σ' H' → SqT K H' a xs) (done : ∀ σ' H', P xs.length σ' H' → D.nx σ' H')
    (step : ∀ i x σ' H', xs[i]? = some x → P i σ' H' → g x σ' H' (tb (turnEnds D (P (i + 1))))) : ForJ g tb D σ (Itt K a) H :=
  forJ (n := xs.length) P h0 (fun σ' H' hp => ⟨⟨xs, hs _ _ _ hp, Nat.le_refl _⟩, done _ _ hp⟩) (fun i σ' H' hi hp => ⟨xs, xs[i], hs _ _ _ hp, List.getElem?_eq_getElem hi⟩) fun i σ' H' x H2 hi hp hy => by
    obtain ⟨e, f⟩ := hy
    rw [e]
    exact step i x σ' H' (f _ (hs _ _ _ hp)) hp
theorem j_list (xs : List V) (P : Nat → L2.St → Hp → Prop) (h0 : P 0 σ H) (hs : ∀ i σ' H', P i σ' H' → SqL K H' a xs) (done : ∀ σ' H', P xs.length σ' H' → D.nx σ' H')
    (step : ∀ i x σ' H', xs[i]? = some x → P i σ' H' → g x σ' H' (tb (turnEnds D (P (i + 1))))) : ForJ g tb D σ (Itl K a) H :=
  forJ (n := xs.length) P h0 (fun σ' H' hp => ⟨⟨xs, hs _ _ _ hp, Nat.le_refl _⟩, done _ _ hp⟩) (fun i σ' H' hi hp => ⟨xs, xs[i], hs _ _ _ hp, List.getElem?_eq_getElem hi⟩) fun i σ' H' x H2 hi hp hy => by
    obtain ⟨e, f⟩ := hy
    rw [e]
    exact step i x σ' H' (f _ (hs _ _ _ hp)) hp
theorem j_rng {n : Nat} (P : Nat → L2.St → Hp → Prop) (h0 : P 0 σ H) (done : ∀ σ' H', P n σ' H' → D.nx σ' H')
    (step : ∀ (i : Nat) σ' H', i < n → P i σ' H' → g (.int (i : Int)) σ' H' (tb (turnEnds D (P (i + 1))))) : ForJ g tb D σ (Itr 0 n) H :=
  forJ (n := n) P h0 (fun σ' H' hp => ⟨Nat.le_refl _, done _ _ hp⟩) (fun i σ' H' hi hp => hi) fun i σ' H' x H2 hi hp hy => by
    obtain ⟨e, f⟩ := hy
    rw [e, f, Int.zero_add]
    exact step i σ' H' hi hp
theorem j_items {o : Obj} (kvs : List (List Key × V)) (P : Nat → L2.St → Hp → Prop) (h0 : P 0 σ H) (hs : ∀ i σ' H', P i σ' H' → H' a = some (.frz o (.dT kvs))) (done : ∀ σ' H', P kvs.length σ' H' → D.nx σ' H')
    (step : ∀ i k v (t q : Addr) σ' H', kvs[i]? = some (k, v) → P i σ' H' → H' q = some (.tup (k.map kV)) → H' t = none → g (.ref t) σ' (upd H' t (.tup [.ref q, v])) (tb (turnEnds D (P (i + 1))))) : ForJ g tb D σ (ItiT a o kvs) H :=
  forJ (n := kvs.length) P h0 (fun σ' H' hp => ⟨⟨hs _ _ _ hp, Nat.le_refl _⟩, done _ _ hp⟩) (fun i σ' H' hi hp => ⟨hs _ _ _ hp, hi⟩) fun i σ' H' x H2 hi hp hy => by
    obtain ⟨t, q, k, v, e, hq, ex, ht, eh⟩ := hy
    rw [ex, eh]
    exact step i k v t q σ' H' e hp hq ht
theorem j_keys {o : Obj} (kvs : List (List Key × V)) (P : Nat → L2.St → Hp → Prop) (h0 : P 0 σ H) (hs : ∀ i σ' H', P i σ' H' → H' a = some (.frz o (.dT kvs))) (done : ∀ σ' H', P kvs.length σ' H' → D.nx σ' H')
    (step : ∀ i k v (q : Addr) σ' H', kvs[i]? = some (k, v) → P i σ' H' → H' q = some (.tup (k.map kV)) → g (.ref q) σ' H' (tb (turnEnds D (P (i + 1))))) : ForJ g tb D σ (Itkt a o kvs) H :=
  forJ (n := kvs.length) P h0 (fun σ' H' hp => ⟨⟨hs _ _ _ hp, Nat.le_refl _⟩, done _ _ hp⟩) (fun i σ' H' hi hp => ⟨hs _ _ _ hp, hi⟩) fun i σ' H' x H2 hi hp hy => by
    obtain ⟨e, k, v, q, ek, ex, hq⟩ := hy
    rw [ex, e]
    exact step i k v q σ' H' ek hp hq
/-- what is left of a comprehension when the iterator J stands -/
def LcJ (g : TG) (tt : TT) (te : TE) (vs : List Nat) (σ : L2.St) (Q : VK) (J : It) (H1 : Hp) : Prop := ∀ D, H1 D = none → ∃ W : Nat → Nat → Hp → Prop, (∃ m, W 0 m (upd H1 D (.lst []))) ∧ ∀ i m H, W i m H →
  (J.stop i H ∧ Q (.ref D) H) ∨ (J.go i H ∧ ∃ Nx : Hp → Prop, (∀ H', Nx H' → ∃ m', m' < m ∧ W (i + 1) m' H') ∧ ∀ x H', J.yld i H x H' → g x (wipe σ vs) H' fun σ2 H2 => wipe σ2 vs = wipe σ vs ∧ tt σ2 H2 fun b H3 =>
    if b = true then te σ2 H3 fun y H4 => ∃ acc, H4 D = some (.lst acc) ∧ acc.length < sizeLine ∧ Nx (upd H4 D (.lst (acc ++ [y]))) else Nx H3)
/-- a turn of a comprehension -/
def LcT (tt : TT) (te : TE) (vs : List Nat) (σ : L2.St) (D : Addr) (N : Hp → Prop) (σ2 : L2.St) (H2 : Hp) : Prop := wipe σ2 vs = wipe σ vs ∧ tt σ2 H2 fun b H3 =>
    if b = true then te σ2 H3 fun y H4 => ∃ acc, H4 D = some (.lst acc) ∧ acc.length < sizeLine ∧ N (upd H4 D (.lst (acc ++ [y]))) else N H3
theorem lcJ {J : It} {n : Nat} (P : Addr → Nat → Hp → Prop) (h0 : ∀ D, H D = none → P D 0 (upd H D (.lst []))) (stop : ∀ D H', H D = none → P D n H' → J.stop n H' ∧ Q (.ref D) H') (go : ∀ D i H', i < n → P D i H' → J.go i H')
    (step : ∀ D i H' x H2, H D = none → i < n → P D i H' → J.yld i H' x H2 → g x (wipe σ ids) H2 (LcT tt te ids σ D (P D (i + 1)))) : LcJ g tt te ids σ Q J H := by
  intro D hD
  refine ⟨fun i m H' => P D i H' ∧ i + m = n, ⟨n, h0 D hD, by omega⟩, fun i m H' hW => ?_⟩
  obtain ⟨hp, em⟩ := hW
  by_cases hi : i < n
  · exact .inr ⟨go _ _ _ hi hp, P D (i + 1), fun H2 hn => ⟨m - 1, by omega, hn, by omega⟩, fun x H2 hy => step D i H' x H2 hD hi hp hy⟩
  · have ei : i = n := by omega
    subst ei
    exact .inl (stop _ _ hD hp)
theorem c_tup (xs : List V) (P : Addr → Nat → Hp → Prop) (h0 : ∀ D, H D = none → P D 0 (upd H D (.lst []))) (hs : ∀ D i H', P D i H' → SqT K H' a xs) (done : ∀ D H', H D = none → P D xs.length H' → Q (.ref D) H')
    (step : ∀ D i x H', H D = none → xs[i]? = some x → P D i H' → g x (wipe σ ids) H' (LcT tt te ids σ D (P D (i + 1)))) : LcJ g tt te ids σ Q (Itt K a) H :=
  lcJ (n := xs.length) P h0 (fun D H' hd hp => ⟨⟨xs, hs _ _ _ hp, Nat.le_refl _⟩, done _ _ hd hp⟩) (fun D i H' hi hp => ⟨xs, xs[i], hs _ _ _ hp, List.getElem?_eq_getElem hi⟩) fun D i H' x H2 hd hi hp hy => by
    obtain ⟨e, f⟩ := hy
    rw [e]
    exact step D i x H' hd (f _ (hs _ _ _ hp)) hp
theorem c_list (xs : List V) (P : Addr → Nat → Hp → Prop) (h0 : ∀ D, H D = none → P D 0 (upd H D (.lst []))) (hs : ∀ D i H', P D i H' → SqL K H' a xs) (done : ∀ D H', H D = none → P D xs.length H' → Q (.ref D) H')
    (step : ∀ D i x H', H D = none → xs[i]? = some x → P D i H' → g x (wipe σ ids) H' (LcT tt te ids σ D (P D (i + 1)))) : LcJ g tt te ids σ Q (Itl K a) H :=
  lcJ (n := xs.length) P h0 (fun D H' hd hp => ⟨⟨xs, hs _ _ _ hp, Nat.le_refl _⟩, done _ _ hd hp⟩) (fun D i H' hi hp => ⟨xs, xs[i], hs _ _ _ hp, List.getElem?_eq_getElem hi⟩) fun D i H' x H2 hd hi hp hy => by
    obtain ⟨e, f⟩ := hy
    rw [e]
    exact step D i x H' hd (f _ (hs _ _ _ hp)) hp
theorem c_rng {n : Nat} (P : Addr → Nat → Hp → Prop) (h0 : ∀ D, H D = none → P D 0 (upd H D (.lst []))) (done : ∀ D H', H D = none → P D n H' → Q (.ref D) H')
    (step : ∀ D (i : Nat) H', H D = none → i < n → P D i H' → g (.int (i : Int)) (wipe σ ids) H' (LcT tt te ids σ D (P D (i + 1)))) : LcJ g tt te ids σ Q (Itr 0 n) H :=
  lcJ (n := n) P h0 (fun D H' hd hp => ⟨Nat.le_refl _, done _ _ hd hp⟩) (fun D i H' hi hp => hi) fun D i H' x H2 hd hi hp hy => by
    obtain ⟨e, f⟩ := hy
    rw [e, f, Int.zero_add]
    exact step D i H' hd hi hp
/-- what is left of a dict comprehension -/
def DcJ (g : TG) (tt : TT) (tk tv : TE) (vs : List Nat) (σ : L2.St) (Q : VK) (J : It) (H1 : Hp) : Prop := ∀ D, H1 D = none → ∃ W : Nat → Nat → Hp → Prop, (∃ m, W 0 m (upd H1 D (.dT []))) ∧ ∀ i m H, W i m H →
  (J.stop i H ∧ Q (.ref D) H) ∨ (J.go i H ∧ ∃ Nx : Hp → Prop, (∀ H', Nx H' → ∃ m', m' < m ∧ W (i + 1) m' H') ∧ ∀ x H', J.yld i H x H' → g x (wipe σ vs) H' fun σ2 H2 => wipe σ2 vs = wipe σ vs ∧ tt σ2 H2 fun b H3 =>
    if b = true then tk σ2 H3 fun y H4 => tv σ2 H4 fun z H5 => ∃ (kvs : List (List Key × V)) (k : List Key) (c : Addr), y = .ref c ∧ H5 c = some (.tup (k.map kV)) ∧ H5 D = some (.dT kvs) ∧ kvs.length < sizeLine ∧ Nx (upd H5 D (.dT (putK kvs k z))) else Nx H3)
def DcT (tt : TT) (tk tv : TE) (vs : List Nat) (σ : L2.St) (D : Addr) (N : Hp → Prop) (σ2 : L2.St) (H2 : Hp) : Prop := wipe σ2 vs = wipe σ vs ∧ tt σ2 H2 fun b H3 =>
    if b = true then tk σ2 H3 fun y H4 => tv σ2 H4 fun z H5 => ∃ (kvs : List (List Key × V)) (k : List Key) (c : Addr), y = .ref c ∧ H5 c = some (.tup (k.map kV)) ∧ H5 D = some (.dT kvs) ∧ kvs.length < sizeLine ∧ N (upd H5 D (.dT (putK kvs k z))) else N H3
theorem dc_items {o : Obj} {tk : TE} (kvs : List (List Key × V)) (P : Addr → Nat → Hp → Prop) (h0 : ∀ D, H D = none → P D 0 (upd H D (.dT []))) (hs : ∀ D i H', P D i H' → H' a = some (.frz o (.dT kvs))) (done : ∀ D H', H D = none → P D kvs.length H' → Q (.ref D) H')
    (step : ∀ D i k v (t q : Addr) H', H D = none → kvs[i]? = some (k, v) → P D i H' → H' q = some (.tup (k.map kV)) → H' t = none → g (.ref t) (wipe σ ids) (upd H' t (.tup [.ref q, v])) (DcT tt tk tv ids σ D (P D (i + 1)))) :
    DcJ g tt tk tv ids σ Q (ItiT a o kvs) H := by
  intro D hD
  refine ⟨fun i m H' => P D i H' ∧ i + m = kvs.length, ⟨kvs.length, h0 D hD, by omega⟩, fun i m H' hW => ?_⟩
  obtain ⟨hp, em⟩ := hW
  by_cases hi : i < kvs.length
  · refine .inr ⟨⟨hs _ _ _ hp, hi⟩, P D (i + 1), fun H2 hn => ⟨m - 1, by omega, hn, by omega⟩, fun x H2 hy => ?_⟩
    obtain ⟨t, q, k, v, e, hq, ex, ht, eh⟩ := hy
    rw [ex, eh]
    exact step D i k v t q H' hD e hp hq ht
  · have ei : i = kvs.length := by omega
    subst ei
    exact .inl ⟨⟨hs _ _ _ hp, Nat.le_refl _⟩, done _ _ hD hp⟩
end
end K48
namespace K48
/-! ### shares as rationals -/
theorem rest_rat (q : Rat) : (1 - q).num = q.den - q.num ∧ (1 - q).den = q.den := by
  have e : 1 - q = mkRat ((q.den : Int) - q.num) q.den := by
    rw [Rat.sub_def']
    simp
  have g : q.den.gcd ((q.den : Int) - q.num).natAbs = 1 := by
    have r := q.reduced
    have h : Int.gcd (q.den : Int) ((q.den : Int) - q.num) = Int.gcd (q.den : Int) q.num := by simp
    have h2 : Int.gcd (q.den : Int) q.num = 1 := by
      rw [Int.gcd_comm]
      exact r
    rw [h2] at h
    exact h
  have nz := q.den_nz
  rw [e]
  refine ⟨?_, ?_⟩
  · rw [Rat.num_mkRat, if_neg nz, g]
    simp
  · rw [Rat.den_mkRat, if_neg nz, g]
    simp
/-- what make_share and _law_share make of n and d -/
theorem share_rat {n d : Int} (hn : 0 ≤ n) (hd : 0 < d) : (mkRat n d.toNat).num = n / (Nat.gcd n.natAbs d.natAbs : Nat) ∧ ((mkRat n d.toNat).den : Int) = d / (Nat.gcd n.natAbs d.natAbs : Nat) := by
  have nz : d.toNat ≠ 0 := by omega
  have ed : d.toNat = d.natAbs := by omega
  rw [Rat.num_mkRat, Rat.den_mkRat, if_neg nz, if_neg nz, ed, Nat.gcd_comm]
  refine ⟨rfl, ?_⟩
  rw [Int.natCast_ediv]
  congr 1
  omega
theorem mul_rat (a b : Rat) : a * b = mkRat (a.num * b.num) ((a.den : Int) * (b.den : Int)).toNat := by
  rw [Rat.mul_def']
  congr 1
theorem add_rat (a b : Rat) : a + b = mkRat (a.num * b.den + b.num * a.den) ((a.den : Int) * (b.den : Int)).toNat := by
  rw [Rat.add_def']
  congr 1
/-- a chance -/
def Un (q : Rat) : Prop := 0 ≤ q ∧ q ≤ 1
theorem Un.num {q : Rat} (h : Un q) : 0 ≤ q.num ∧ q.num ≤ q.den := by
  refine ⟨Rat.num_nonneg.mpr h.1, ?_⟩
  have z := (Rat.le_iff q 1).mp h.2
  simpa using z
theorem un_of {q : Rat} (h0 : 0 ≤ q.num) (h1 : q.num ≤ q.den) : Un q := by
  refine ⟨Rat.num_nonneg.mp h0, (Rat.le_iff q 1).mpr ?_⟩
  simpa using h1
theorem Un.rest {q : Rat} (h : Un q) : Un (1 - q) := by
  obtain ⟨a, b⟩ := h
  constructor <;> grind
theorem Un.mul {p q : Rat} (h : Un p) (k : Un q) : Un (p * q) := by
  refine ⟨Rat.mul_nonneg h.1 k.1, ?_⟩
  have z := Rat.mul_le_mul_of_nonneg_left k.2 h.1
  rw [Rat.mul_one] at z
  exact Rat.le_trans z h.2
theorem un_zero : Un 0 := ⟨Rat.le_refl, by decide⟩
theorem un_one : Un 1 := ⟨by decide, Rat.le_refl⟩
/-- how many bits the lower number of a share needs, none for 1 -/
def bt (q : Rat) : Nat := if q.den = 1 then 0 else q.den.log2 + 1
theorem bt_lt (q : Rat) : q.den ≤ 2 ^ bt q := by
  unfold bt
  split
  · rename_i h
    rw [h]
    decide
  · exact Nat.le_of_lt Nat.lt_log2_self
theorem bt_le {q : Rat} {b : Nat} (h : q.den < 2 ^ b) : bt q ≤ b := by
  unfold bt
  split
  · exact Nat.zero_le _
  · exact (Nat.log2_lt q.den_nz).mpr h
theorem den_mul_dvd (p q : Rat) : (p * q).den ∣ p.den * q.den := by
  rw [Rat.den_mul]
  exact Nat.div_dvd_of_dvd (Nat.gcd_dvd_right _ _)
theorem den_mul_le (p q : Rat) : (p * q).den ≤ p.den * q.den := Nat.le_of_dvd (Nat.mul_pos p.den_pos q.den_pos) (den_mul_dvd p q)
theorem bt_mul (p q : Rat) : bt (p * q) ≤ bt p + bt q := by
  have d := den_mul_le p q
  by_cases hp : p.den = 1
  · rw [hp, Nat.one_mul] at d
    by_cases h1 : (p * q).den = 1
    · unfold bt
      rw [if_pos h1]
      exact Nat.zero_le _
    · have h2 : q.den ≠ 1 := fun z => by
        have := (p * q).den_pos
        omega
      have lg : (p * q).den.log2 ≤ q.den.log2 := (Nat.le_log2 q.den_nz).mpr (Nat.le_trans (Nat.log2_self_le (p * q).den_nz) d)
      unfold bt
      rw [if_neg h1, if_pos hp, if_neg h2]
      omega
  · by_cases hq : q.den = 1
    · rw [hq, Nat.mul_one] at d
      by_cases h1 : (p * q).den = 1
      · unfold bt
        rw [if_pos h1]
        exact Nat.zero_le _
      · have lg : (p * q).den.log2 ≤ p.den.log2 := (Nat.le_log2 p.den_nz).mpr (Nat.le_trans (Nat.log2_self_le (p * q).den_nz) d)
        unfold bt
        rw [if_neg h1, if_neg hp, if_pos hq]
        omega
    · refine bt_le (Nat.lt_of_le_of_lt d ?_)
      unfold bt
      rw [if_neg hp, if_neg hq, Nat.pow_add]
      exact Nat.mul_lt_mul_of_lt_of_le Nat.lt_log2_self (Nat.le_of_lt Nat.lt_log2_self) (Nat.pow_pos (by decide))
theorem bt_rest (q : Rat) : bt (1 - q) = bt q := by
  unfold bt
  rw [(rest_rat q).2]
theorem bt_one : bt 1 = 0 := rfl
theorem bt_zero : bt 0 = 0 := rfl
/-- products of numbers stay small -/
theorem small_mul {p q : Rat} {b : Nat} (hp : Un p) (hq : Un q) (h : bt p + bt q ≤ b) : (p.num * q.num).natAbs ≤ 2 ^ b ∧ ((p.den : Int) * (q.den : Int)).natAbs ≤ 2 ^ b := by
  have d : p.den * q.den ≤ 2 ^ b := Nat.le_trans (Nat.mul_le_mul (bt_lt p) (bt_lt q)) (by rw [← Nat.pow_add]; exact Nat.pow_le_pow_right (by decide) h)
  have e : ((p.den : Int) * (q.den : Int)).natAbs = p.den * q.den := by rw [Int.natAbs_mul]; rfl
  refine ⟨?_, by rw [e]; exact d⟩
  rw [Int.natAbs_mul]
  have np := hp.num
  have nq := hq.num
  exact Nat.le_trans (Nat.mul_le_mul (by omega) (by omega)) d
/-- Euclid, the steps of _law_share: a, b after i turns -/
structure Eu (n d : Int) (i : Nat) (a b : Int) : Prop where
  a0 : 0 ≤ a
  b0 : 0 ≤ b
  pos : 0 < a ∨ 0 < b
  gcd : Nat.gcd a.natAbs b.natAbs = Nat.gcd n.natAbs d.natAbs
  less : b.natAbs * 2 ^ (i / 2) ≤ d.natAbs
  prev : 1 ≤ i → b < a ∧ a.natAbs * 2 ^ ((i - 1) / 2) ≤ d.natAbs
  few : i = 0 → a = n ∧ b = d
theorem eu_start {n d : Int} (hn : 0 ≤ n) (hd : 0 < d) : Eu n d 0 n d := ⟨hn, by omega, .inr hd, rfl, by simp, fun z => by omega, fun _ => ⟨rfl, rfl⟩⟩
theorem mod_half {a b : Nat} (hb : 0 < b) (h : b ≤ a) : (a % b) * 2 ≤ a := by
  have l := Nat.mod_lt a hb
  have e := Nat.mod_add_div a b
  have q : 1 ≤ a / b := (Nat.one_le_div_iff hb).mpr h
  have m : b * 1 ≤ b * (a / b) := Nat.mul_le_mul_left b q
  omega
theorem eu_step {n d a b : Int} {i : Nat} (h : Eu n d i a b) (hb : b ≠ 0) : Eu n d (i + 1) b (a % b) := by
  obtain ⟨a0, b0, pos, g, less, prev, few⟩ := h
  have bp : 0 < b := by omega
  have r0 := Int.emod_nonneg a hb
  have rl := Int.emod_lt_of_pos a bp
  have er : (a % b).natAbs = a.natAbs % b.natAbs := by
    rw [Int.natAbs_emod_of_nonneg a0]
  refine ⟨b0, r0, .inl bp, ?_, ?_, fun _ => ⟨rl, ?_⟩, fun z => by omega⟩
  · rw [er, Nat.gcd_comm, ← Nat.gcd_rec, Nat.gcd_comm]
    exact g
  · rcases Nat.mod_two_eq_zero_or_one i with ev | od
    · have e : (i + 1) / 2 = i / 2 := by omega
      rw [e]
      exact Nat.le_trans (Nat.mul_le_mul_right _ (by omega)) less
    · obtain ⟨lt, pv⟩ := prev (by omega)
      have e : (i + 1) / 2 = (i - 1) / 2 + 1 := by omega
      rw [e, Nat.pow_succ]
      have hf : (a.natAbs % b.natAbs) * 2 ≤ a.natAbs := mod_half (by omega) (by omega)
      rw [er]
      calc a.natAbs % b.natAbs * (2 ^ ((i - 1) / 2) * 2) = (a.natAbs % b.natAbs * 2) * 2 ^ ((i - 1) / 2) := by
            rw [Nat.mul_comm (2 ^ _) 2, Nat.mul_assoc]
        _ ≤ a.natAbs * 2 ^ ((i - 1) / 2) := Nat.mul_le_mul_right _ hf
        _ ≤ d.natAbs := pv
  · rw [Nat.add_sub_cancel]
    exact less
theorem eu_end {n d a b : Int} {i k : Nat} (h : Eu n d i a b) (hd : d.natAbs < 2 ^ k) (hi : 2 * k ≤ i) : b = 0 := by
  have l := h.less
  have p : 2 ^ k ≤ 2 ^ (i / 2) := Nat.pow_le_pow_right (by decide) (by omega)
  rcases Nat.eq_zero_or_pos b.natAbs with z | z
  · omega
  · have m : 1 * 2 ^ k ≤ b.natAbs * 2 ^ (i / 2) := Nat.mul_le_mul z p
    omega
theorem eu_gcd {n d a : Int} {i : Nat} (h : Eu n d i a 0) : a = ((Nat.gcd n.natAbs d.natAbs : Nat) : Int) := by
  have g := h.gcd
  simp at g
  have := h.a0
  omega
end K48
set_option maxRecDepth 100000
set_option maxHeartbeats 4000000
namespace K48
open PySem PySem.Spec PyProof.Rows L2
theorem room_u1 {k : Nat} {A : Around} (r : Room k A) : A.units + 1 < cLine := by have := r.un; omega
theorem room_u64 {k : Nat} {A : Around} (r : Room k A) : A.units + 64 < cLine := by have := r.un; omega
theorem room_u65 {k : Nat} {A : Around} (r : Room k A) : A.units + 65 < cLine := by have := r.un; omega
/-- what a call gives: the datum t, whatever is new -/
abbrev Gives (H : Hp) (Q : VK) (t : T) : Prop := ∀ v H', Same H H' → Is H' v t → Q v H'
def shT (q : Rat) : T := .t [.i q.num, .i q.den]
theorem sh_inv {H : Hp} {v : V} {q : Rat} (h : Is H v (shT q)) : ∃ a, v = .ref a ∧ H a = some (.tup [.int q.num, .int q.den]) := by
  obtain ⟨a, xs, e, h1, h2⟩ := is_t_inv h
  obtain ⟨v1, vs, e1, g1, g2⟩ := isL_inv h2
  obtain ⟨v2, vs2, e2, g3, g4⟩ := isL_inv g2
  rw [is_i_inv g1, e2, is_i_inv g3, isL_nil_inv g4] at e1
  rw [e1] at h1
  exact ⟨a, e, h1⟩
theorem sh_new {H : Hp} {p : Addr} {q : Rat} {n d : Int} (hn : q.num = n) (hd : (q.den : Int) = d) : Is (upd H p (.tup [.int n, .int d])) (.ref p) (shT q) := by
  rw [← hn, ← hd]
  exact is_t upd_same (isL_cons is_i (isL_cons is_i isL_nil))
theorem sh_at {H : Hp} {p : Addr} {q : Rat} (h : H p = some (.tup [.int q.num, .int q.den])) : Is H (.ref p) (shT q) := is_t h (isL_cons is_i (isL_cons is_i isL_nil))
theorem small2 : 2 ≤ sizeLine := by decide
theorem small3 : 3 ≤ sizeLine := by decide
section
variable {P : Program} {w : World} {K : PySem.W.Frag} {mg : Str → Option Value} {base : Heap}
def N_make_share : List Str := ["n", "d", "divisor"]
def p_make_share : List Str := ["n", "d"]
theorem sc_make_share : FnScope N_make_share p_make_share (defScope s_make_share) := ⟨rfl, rfl, rfl, by decide +kernel, rfl, by decide +kernel, by decide +kernel⟩
def sp_make_share : Sp := fun vs H Q _ => ∃ n d : Int, vs = [.int n, .int d] ∧ 0 ≤ n ∧ 0 < d ∧ n.natAbs < 2 ^ 13500 ∧ d.natAbs < 2 ^ 13500 ∧ Gives H Q (shT (mkRat n d.toNat))
theorem ok_make_share (T : Tx K mg) : Ok P w K mg base 1 "make_share" p_make_share sp_make_share := by
  refine T.ok i_make_share sc_make_share (fun _ _ _ _ _ _ us h => by match us, h with | [_, _], _ => rfl) (fun vs H Q E h => by obtain ⟨_, _, rfl, _⟩ := h; rfl) (fun f cdv A outer s H vs Q E hr h => ?_)
  obtain ⟨n, d, rfl, hn, hd, ln, ld, q⟩ := h
  have nd := sc_make_share.nd
  refine ⟨_, (pss_cons (ps_if (PW.pt (pw_or (pt_cmpR op_eq (pv 1) pe_int (nomark _)) (pw_or1 (pt_cmpR op_lt (pe_op op_mulW (pv 0) (pv 1)) pe_int (nomark _)))))
        (pss_one ps_never)
        pss_nil)
      (pss_cons (ps_set (i := 2) nd rfl (Or.inl rfl) (pe_callBfun cr_gcd rfl T.gcd (pa_cons (pv 0) (pa_cons (pv 1) pa_nil))))
      (pss_one (ps_ret (pe_tup (pa_cons (pe_op op_fdivK (pe_callB call_abs (by rfl) (T.bl "abs" (by decide)) (by decide +kernel) (pa_cons (pv 0) pa_nil)) (pv 2)) (pa_cons (pe_op op_fdivK (pe_callB call_abs (by rfl) (T.bl "abs" (by decide)) (by decide +kernel) (pa_cons (pv 1) pa_nil)) (pv 2)) pa_nil))))))), ?_⟩
  have g0 : 0 < Nat.gcd n.natAbs d.natAbs := Nat.gcd_pos_of_pos_right _ (by omega)
  have gp : (0 : Int) < (Nat.gcd n.natAbs d.natAbs : Nat) := by omega
  have ne : d ≠ 0 := by omega
  have m0 : ¬ (n * d < 0) := by
    have := Int.mul_nonneg hn (Int.le_of_lt hd)
    omega
  refine ⟨.int d, rfl, rfl, false, by rw [decide_eq_false (fun z => ne (by injection z))], ?_⟩
  refine ⟨.int n, rfl, .int d, rfl, n, d, rfl, rfl, wide_mul ln ld (by decide) (by decide) (by decide), n * d, 0, rfl, rfl, false, congrArg V.bl (decide_eq_false m0), ?_⟩
  refine ⟨.int n, rfl, .int d, rfl, n, d, rfl, ?_⟩
  refine ⟨.int n, rfl, n, rfl, _, rfl, _, _, rfl, rfl, ⟨gp, ?_⟩, .int d, rfl, d, rfl, _, rfl, _, _, rfl, rfl, ⟨gp, ?_⟩, ?_, fun p hp => q _ _ (Same.new hp) ?_⟩
  · rw [if_neg (by omega)]; exact ln
  · rw [if_neg (by omega)]; exact ld
  · exact small2
  · obtain ⟨e1, e2⟩ := share_rat hn hd
    refine sh_new ?_ ?_
    · rw [if_neg (by omega)]; exact e1
    · rw [if_neg (by omega)]; exact e2
def N_times : List Str := ["share", "other"]
def p_times : List Str := ["share", "other"]
theorem sc_times : FnScope N_times p_times (defScope s_times) := ⟨rfl, rfl, rfl, by decide +kernel, rfl, by decide +kernel, by decide +kernel⟩
/-- two chances whose lower numbers have together at most b bits -/
def Two (b : Nat) (p q : Rat) : Prop := Un p ∧ Un q ∧ bt p + bt q ≤ b
def sp_times : Sp := fun vs H Q _ => ∃ (u v : V) (x y : Rat), vs = [u, v] ∧ Is H u (shT x) ∧ Is H v (shT y) ∧ Two 13499 x y ∧ Gives H Q (shT (x * y))
theorem pow_big {n : Nat} (h : n ≤ 2 ^ 13499) : n < 2 ^ 13500 := Nat.lt_of_le_of_lt h (Nat.pow_lt_pow_right (by decide) (by decide))
theorem num_lt {q : Rat} (h : Un q) {b : Nat} (hb : bt q ≤ b) : q.num.natAbs < 2 ^ (b + 1) ∧ (q.den : Int).natAbs < 2 ^ (b + 1) := by
  have d := bt_lt q
  have p : 2 ^ bt q < 2 ^ (b + 1) := Nat.pow_lt_pow_right (by decide) (by omega)
  have n := h.num
  refine ⟨by omega, by omega⟩
theorem wide_two {x y : Rat} (h : Two 13499 x y) : CMulW x.num y.num ∧ CMulW (x.den : Int) (y.den : Int) ∧ CMulW x.num (y.den : Int) ∧ CMulW y.num (x.den : Int) := by
  obtain ⟨hx, hy, hb⟩ := h
  obtain ⟨a, b⟩ := num_lt hx (show bt x ≤ 13499 by omega)
  obtain ⟨c, d⟩ := num_lt hy (show bt y ≤ 13499 by omega)
  exact ⟨wide_mul a c (by decide) (by decide) (by decide), wide_mul b d (by decide) (by decide) (by decide), wide_mul a d (by decide) (by decide) (by decide), wide_mul c b (by decide) (by decide) (by decide)⟩
theorem at0 {α : Type} {x y : α} : atI [x, y] 0 = some x := rfl
theorem at1 {α : Type} {x y : α} : atI [x, y] 1 = some y := rfl
theorem ok_times (G_make_share : Ok P w K mg base 1 "make_share" p_make_share sp_make_share) (T : Tx K mg) : Ok P w K mg base 2 "times" p_times sp_times := by
  refine T.ok i_times sc_times (fun _ _ _ _ _ _ us h => by match us, h with | [_, _], _ => rfl) (fun vs H Q E h => by obtain ⟨_, _, _, _, rfl, _⟩ := h; rfl) (fun f cdv A outer s H vs Q E hr h => ?_)
  obtain ⟨u, v, x, y, rfl, hu, hv, two, q⟩ := h
  have nd := sc_times.nd
  refine ⟨_, (pss_one (ps_ret (pe_ok G_make_share (hr.mono (by decide)) rfl (pa_cons (pe_op op_mulW (pe_ix ix_tup (pv 0) pe_int (fun _ _ => rfl)) (pe_ix ix_tup (pv 1) pe_int (fun _ _ => rfl))) (pa_cons (pe_op op_mulW (pe_ix ix_tup (pv 0) pe_int (fun _ _ => rfl)) (pe_ix ix_tup (pv 1) pe_int (fun _ _ => rfl))) pa_nil))))), ?_⟩
  obtain ⟨a, rfl, ha⟩ := sh_inv hu
  obtain ⟨b, rfl, hb⟩ := sh_inv hv
  obtain ⟨w1, w2, _, _⟩ := wide_two two
  obtain ⟨l1, l2⟩ := small_mul two.1 two.2.1 two.2.2
  have n1 := two.1.num
  have n2 := two.2.1.num
  refine ⟨.ref a, rfl, a, _, 0, _, rfl, rfl, .inl (.inl ha), at0, .ref b, rfl, b, _, 0, _, rfl, rfl, .inl (.inl hb), at0, _, _, rfl, rfl, w1, ?_⟩
  refine ⟨.ref a, rfl, a, _, 1, _, rfl, rfl, .inl (.inl ha), at1, .ref b, rfl, b, _, 1, _, rfl, rfl, .inl (.inl hb), at1, _, _, rfl, rfl, w2, ?_⟩
  refine ⟨_, _, rfl, Int.mul_nonneg n1.1 n2.1, Int.mul_pos (Int.natCast_pos.mpr x.den_pos) (Int.natCast_pos.mpr y.den_pos), pow_big l1, pow_big l2, ?_⟩
  rw [← mul_rat]
  exact q
def N_rest_of : List Str := ["chance"]
def p_rest_of : List Str := ["chance"]
theorem sc_rest_of : FnScope N_rest_of p_rest_of (defScope s_rest_of) := ⟨rfl, rfl, rfl, by decide +kernel, rfl, by decide +kernel, by decide +kernel⟩
def sp_rest_of : Sp := fun vs H Q _ => ∃ (u : V) (x : Rat), vs = [u] ∧ Is H u (shT x) ∧ Gives H Q (shT (1 - x))
theorem ok_rest_of (T : Tx K mg) : Ok P w K mg base 1 "rest_of" p_rest_of sp_rest_of := by
  refine T.ok i_rest_of sc_rest_of (fun _ _ _ _ _ _ us h => by match us, h with | [_], _ => rfl) (fun vs H Q E h => by obtain ⟨_, _, rfl, _⟩ := h; rfl) (fun f cdv A outer s H vs Q E hr h => ?_)
  obtain ⟨u, x, rfl, hu, q⟩ := h
  refine ⟨_, (pss_one (ps_ret (pe_tup (pa_cons (pe_op op_sub (pe_ix ix_tup (pv 0) pe_int (fun _ _ => rfl)) (pe_ix ix_tup (pv 0) pe_int (fun _ _ => rfl))) (pa_cons (pe_ix ix_tup (pv 0) pe_int (fun _ _ => rfl)) pa_nil))))), ?_⟩
  obtain ⟨a, rfl, ha⟩ := sh_inv hu
  refine ⟨.ref a, rfl, a, _, 1, _, rfl, rfl, .inl (.inl ha), at1, .ref a, rfl, a, _, 0, _, rfl, rfl, .inl (.inl ha), at0, _, _, rfl, rfl, .ref a, rfl, a, _, 1, _, rfl, rfl, .inl (.inl ha), at1, small2, fun p hp => q _ _ (Same.new hp) ?_⟩
  obtain ⟨e1, e2⟩ := rest_rat x
  exact sh_new e1 (by rw [e2])
def N_l_rest : List Str := ["_law_chance_here"]
def p_l_rest : List Str := ["_law_chance_here"]
theorem sc_l_rest : FnScope N_l_rest p_l_rest (defScope s_l_rest) := ⟨rfl, rfl, rfl, by decide +kernel, rfl, by decide +kernel, by decide +kernel⟩
theorem ok_l_rest (T : Tx K mg) : Ok P w K mg base 1 "_law_rest" p_l_rest sp_rest_of := by
  refine T.ok i_l_rest sc_l_rest (fun _ _ _ _ _ _ us h => by match us, h with | [_], _ => rfl) (fun vs H Q E h => by obtain ⟨_, _, rfl, _⟩ := h; rfl) (fun f cdv A outer s H vs Q E hr h => ?_)
  obtain ⟨u, x, rfl, hu, q⟩ := h
  refine ⟨_, (pss_one (ps_ret (pe_tup (pa_cons (pe_op op_sub (pe_ix ix_tup (pv 0) pe_int (fun _ _ => rfl)) (pe_ix ix_tup (pv 0) pe_int (fun _ _ => rfl))) (pa_cons (pe_ix ix_tup (pv 0) pe_int (fun _ _ => rfl)) pa_nil))))), ?_⟩
  obtain ⟨a, rfl, ha⟩ := sh_inv hu
  refine ⟨.ref a, rfl, a, _, 1, _, rfl, rfl, .inl (.inl ha), at1, .ref a, rfl, a, _, 0, _, rfl, rfl, .inl (.inl ha), at0, _, _, rfl, rfl, .ref a, rfl, a, _, 1, _, rfl, rfl, .inl (.inl ha), at1, small2, fun p hp => q _ _ (Same.new hp) ?_⟩
  obtain ⟨e1, e2⟩ := rest_rat x
  exact sh_new e1 (by rw [e2])
def N_product_of : List Str := ["shares", "product", "share"]
def p_product_of : List Str := ["shares"]
theorem sc_product_of : FnScope N_product_of p_product_of (defScope s_product_of) := ⟨rfl, rfl, rfl, by decide +kernel, rfl, by decide +kernel, by decide +kernel⟩
/-- product_of([]) alone is asked -/
def sp_product_of : Sp := fun vs H Q _ => ∃ a : Addr, vs = [.ref a] ∧ H a = some (.lst []) ∧ Gives H Q (shT 1)
theorem ok_product_of (G_times : Ok P w K mg base 2 "times" p_times sp_times) (T : Tx K mg) : Ok P w K mg base 3 "product_of" p_product_of sp_product_of := by
  refine T.ok i_product_of sc_product_of (fun _ _ _ _ _ _ us h => by match us, h with | [_], _ => rfl) (fun vs H Q E h => by obtain ⟨_, rfl, _⟩ := h; rfl) (fun f cdv A outer s H vs Q E hr h => ?_)
  obtain ⟨a, rfl, ha, q⟩ := h
  have nd := sc_product_of.nd
  refine ⟨_, (pss_cons (ps_set (i := 1) nd rfl (Or.inl rfl) (pe_tup (pa_cons pe_int (pa_cons pe_int pa_nil))))
      (pss_cons (ps_for PassesOwn.never rfl (pi_list (pv 0)) (pg_name (i := 2) nd rfl (Or.inl rfl))
        (pss_one (ps_set (i := 1) nd rfl (Or.inl rfl) (pe_ok G_times (hr.mono (by decide)) rfl (pa_cons (pv 1) (pa_cons (pv 2) pa_nil))))))
      (pss_one (ps_ret (pv 1))))), ?_⟩
  refine ⟨small2, fun p hp => ?_⟩
  have sm : Same H (upd H p (.tup [.int 1, .int 1])) := Same.new hp
  refine ⟨.ref a, rfl, a, rfl, ⟨[], .inl (.inl (sm _ _ ha))⟩, ?_⟩
  refine j_list [] (fun i σ H' => σ = [some (.ref a), some (.ref p), none] ∧ H' = upd H p (.tup [.int 1, .int 1])) ⟨rfl, rfl⟩ (fun i σ H' h => by rw [h.2]; exact .inl (.inl (sm _ _ ha))) (fun σ H' h => ?_) (fun i x σ H' e _ => by cases e)
  rw [h.1, h.2]
  exact ⟨.ref p, rfl, q _ _ sm (sh_new rfl rfl)⟩
end
end K48
set_option maxRecDepth 100000
set_option maxHeartbeats 4000000
namespace K48
open PySem PySem.Spec PyProof.Rows L2
section
variable {P : Program} {w : World} {K : PySem.W.Frag} {mg : Str → Option Value} {base : Heap}
def N_l_share : List Str := ["_law_n", "_law_d", "_law_a", "_law_b", "_law_k", "_law_rest_here"]
def p_l_share : List Str := ["_law_n", "_law_d"]
theorem sc_l_share : FnScope N_l_share p_l_share (defScope s_l_share) := ⟨rfl, rfl, rfl, by decide +kernel, rfl, by decide +kernel, by decide +kernel⟩
theorem bits_lt {d : Int} : d.natAbs < 2 ^ (Builtin.Int.intBits d) := by
  unfold Builtin.Int.intBits
  split
  · rename_i h
    have e : d.natAbs = 0 := by simpa using h
    rw [e]
    decide
  · exact Nat.lt_log2_self
theorem bits_le {d : Int} (h : d.natAbs < 2 ^ 13500) : Builtin.Int.intBits d ≤ 13500 := by
  unfold Builtin.Int.intBits
  split
  · exact Nat.zero_le _
  · have := PySem.Flt.log2_lt_of (by decide : 0 < 13500) h
    omega
theorem range_nat (n : Nat) : (2 * (n : Int) + 4).toNat = 2 * n + 4 := by omega
theorem ok_l_share (T : Tx K mg) : Ok P w K mg base 1 "_law_share" p_l_share sp_make_share := by
  refine T.ok i_l_share sc_l_share (fun _ _ _ _ _ _ us h => by match us, h with | [_, _], _ => rfl) (fun vs H Q E h => by obtain ⟨_, _, rfl, _⟩ := h; rfl) (fun f cdv A outer s H vs Q E hr h => ?_)
  obtain ⟨n, d, rfl, hn, hd, ln, ld, q⟩ := h
  have nd := sc_l_share.nd
  refine ⟨_, (pss_cons (ps_set (i := 2) nd rfl (Or.inl rfl) (pv 0))
      (pss_cons (ps_set (i := 3) nd rfl (Or.inl rfl) (pv 1))
      (pss_cons (ps_for PassesOwn.never rfl (pi_range1 rfl (T.bl "range" (by decide)) (pa_cons (pe_op op_add (pe_op op_mul pe_int (pe_bits (pv 1))) pe_int) pa_nil)) (pg_name (i := 4) nd rfl (Or.inl rfl))
        (pss_cons (ps_if (pt_cmpR op_eq (pv 3) pe_int (nomark _))
          (pss_one ps_break)
          pss_nil)
        (pss_cons (ps_set (i := 5) nd rfl (Or.inl rfl) (pe_op op_mod (pe_callTy call_int1 (by rfl) (T.bl "int" (by decide)) (by decide +kernel) (pa_cons (pv 2) pa_nil)) (pv 3)))
        (pss_cons (ps_set (i := 2) nd rfl (Or.inl rfl) (pv 3))
        (pss_one (ps_set (i := 3) nd rfl (Or.inl rfl) (pv 5)))))))
      (pss_one (ps_ret (pe_tup (pa_cons (pe_op op_fdivK (pv 0) (pv 2)) (pa_cons (pe_op op_fdivK (pv 1) (pv 2)) pa_nil)))))))), ?_⟩
  have bl := bits_le ld
  have fin : ∀ (a : Int) (k r : Option V) (i : Nat), Eu n d i a 0 → ∀ D : Ends, D.rt = Q → tRet (tTup (tCons (tOp (rI CDivK fun i j => .int (i / j)) (tVar 0) (tVar 2)) (tCons (tOp (rI CDivK fun i j => .int (i / j)) (tVar 1) (tVar 2)) tNil))) D [some (.int n), some (.int d), some (.int a), some (.int 0), k, r] H := fun a k r i he D hD => by
    have eg := eu_gcd he
    have g0 : 0 < Nat.gcd n.natAbs d.natAbs := Nat.gcd_pos_of_pos_right _ (by omega)
    subst eg
    refine ⟨.int n, rfl, .int _, rfl, _, _, rfl, rfl, ⟨by omega, ln⟩, .int d, rfl, .int _, rfl, _, _, rfl, rfl, ⟨by omega, ld⟩, small2, fun p hp => ?_⟩
    rw [hD]
    obtain ⟨e1, e2⟩ := share_rat hn hd
    exact q _ _ (Same.new hp) (sh_new e1 e2)
  refine ⟨.int n, rfl, .int d, rfl, ?_⟩
  refine ⟨.int d, rfl, d, rfl, 2, (Builtin.Int.intBits d : Nat), rfl, rfl, .inl (by decide), _, 4, rfl, rfl, _, rfl, by omega, by omega, ?_⟩
  refine j_rng (fun i σ H' => ∃ (a b : Int) (k r : Option V), σ = [some (.int n), some (.int d), some (.int a), some (.int b), k, r] ∧ H' = H ∧ Eu n d i a b) ⟨n, d, none, none, rfl, rfl, eu_start hn hd⟩ (fun σ H' h => ?_) (fun i σ H' hi h => ?_)
  · obtain ⟨a, b, k, r, rfl, rfl, he⟩ := h
    have b0 := eu_end he (k := Builtin.Int.intBits d) bits_lt (by rw [range_nat]; omega)
    subst b0
    exact fin a k r _ he _ rfl
  · obtain ⟨a, b, k, r, rfl, rfl, he⟩ := h
    refine ⟨.int b, rfl, rfl, decide (b = 0), ?_, ?_⟩
    · by_cases z : b = 0
      · rw [z]; rfl
      · rw [decide_eq_false z]
        exact congrArg V.bl (decide_eq_false fun y => z (by injection y))
    · by_cases z : b = 0
      · subst z
        exact fin a _ r _ he _ rfl
      · rw [decide_eq_false z]
        refine ⟨.int a, rfl, .inl ⟨a, rfl, .int b, rfl, a, b, rfl, rfl, by have := he.b0; omega, ?_⟩⟩
        exact ⟨.int b, rfl, .int (a % b), rfl, b, a % b, _, _, rfl, rfl, eu_step he z⟩
def N_l_plus : List Str := ["_law_share_here", "_law_other"]
def p_l_plus : List Str := ["_law_share_here", "_law_other"]
theorem sc_l_plus : FnScope N_l_plus p_l_plus (defScope s_l_plus) := ⟨rfl, rfl, rfl, by decide +kernel, rfl, by decide +kernel, by decide +kernel⟩
def sp_l_plus : Sp := fun vs H Q _ => ∃ (u v : V) (x y : Rat), vs = [u, v] ∧ Is H u (shT x) ∧ Is H v (shT y) ∧ Two 13498 x y ∧ Gives H Q (shT (x + y))
theorem two_mono {a b : Nat} {x y : Rat} (h : Two a x y) (k : a ≤ b) : Two b x y := ⟨h.1, h.2.1, Nat.le_trans h.2.2 k⟩
theorem pow_big2 {n m : Nat} (h : n ≤ 2 ^ 13498) (k : m ≤ 2 ^ 13498) : n + m < 2 ^ 13500 := by
  have e : 2 ^ 13500 = 4 * 2 ^ 13498 := by
    rw [show 13500 = 13498 + 2 by rfl, Nat.pow_add, Nat.mul_comm]
  have p : 0 < 2 ^ 13498 := Nat.pow_pos (by decide)
  rw [e]
  generalize 2 ^ 13498 = z at *
  omega
/-- x.num * y.den is small -/
theorem small_cross {p q : Rat} {b : Nat} (hp : Un p) (h : bt p + bt q ≤ b) : (p.num * (q.den : Int)).natAbs ≤ 2 ^ b := by
  have d : p.den * q.den ≤ 2 ^ b := Nat.le_trans (Nat.mul_le_mul (bt_lt p) (bt_lt q)) (by rw [← Nat.pow_add]; exact Nat.pow_le_pow_right (by decide) h)
  rw [Int.natAbs_mul]
  have np := hp.num
  exact Nat.le_trans (Nat.mul_le_mul (show p.num.natAbs ≤ p.den by omega) (Nat.le_refl _)) d
theorem ok_l_plus (G_l_share : Ok P w K mg base 1 "_law_share" p_l_share sp_make_share) (T : Tx K mg) : Ok P w K mg base 2 "_law_plus" p_l_plus sp_l_plus := by
  refine T.ok i_l_plus sc_l_plus (fun _ _ _ _ _ _ us h => by match us, h with | [_, _], _ => rfl) (fun vs H Q E h => by obtain ⟨_, _, _, _, rfl, _⟩ := h; rfl) (fun f cdv A outer s H vs Q E hr h => ?_)
  obtain ⟨u, v, x, y, rfl, hu, hv, two, q⟩ := h
  refine ⟨_, (pss_one (ps_ret (pe_ok G_l_share (hr.mono (by decide)) rfl (pa_cons (pe_op op_add (pe_op op_mulW (pe_ix ix_tup (pv 0) pe_int (fun _ _ => rfl)) (pe_ix ix_tup (pv 1) pe_int (fun _ _ => rfl))) (pe_op op_mulW (pe_ix ix_tup (pv 1) pe_int (fun _ _ => rfl)) (pe_ix ix_tup (pv 0) pe_int (fun _ _ => rfl)))) (pa_cons (pe_op op_mulW (pe_ix ix_tup (pv 0) pe_int (fun _ _ => rfl)) (pe_ix ix_tup (pv 1) pe_int (fun _ _ => rfl))) pa_nil))))), ?_⟩
  obtain ⟨a, rfl, ha⟩ := sh_inv hu
  obtain ⟨b, rfl, hb⟩ := sh_inv hv
  obtain ⟨w1, w2, w3, w4⟩ := wide_two (two_mono two (by decide))
  obtain ⟨l1, l2⟩ := small_mul two.1 two.2.1 two.2.2
  have c1 := small_cross two.1 two.2.2
  have c2 := small_cross (p := y) (q := x) two.2.1 (show bt y + bt x ≤ 13498 by have := two.2.2; omega)
  have n1 := two.1.num
  have n2 := two.2.1.num
  have p1 : (0 : Int) < x.den := Int.natCast_pos.mpr x.den_pos
  have p2 : (0 : Int) < y.den := Int.natCast_pos.mpr y.den_pos
  have pos1 := Int.mul_nonneg n1.1 (Int.le_of_lt p2)
  have pos2 := Int.mul_nonneg n2.1 (Int.le_of_lt p1)
  refine ⟨.ref a, rfl, a, _, 0, _, rfl, rfl, .inl (.inl ha), at0, .ref b, rfl, b, _, 1, _, rfl, rfl, .inl (.inl hb), at1, _, _, rfl, rfl, w3, ?_⟩
  refine ⟨.ref b, rfl, b, _, 0, _, rfl, rfl, .inl (.inl hb), at0, .ref a, rfl, a, _, 1, _, rfl, rfl, .inl (.inl ha), at1, _, _, rfl, rfl, w4, _, _, rfl, rfl, ?_⟩
  refine ⟨.ref a, rfl, a, _, 1, _, rfl, rfl, .inl (.inl ha), at1, .ref b, rfl, b, _, 1, _, rfl, rfl, .inl (.inl hb), at1, _, _, rfl, rfl, w2, ?_⟩
  refine ⟨_, _, rfl, Int.add_nonneg pos1 pos2, Int.mul_pos p1 p2, ?_, pow_big (Nat.le_trans l2 (Nat.pow_le_pow_right (by decide) (by decide))), ?_⟩
  · exact Nat.lt_of_le_of_lt (Int.natAbs_add_le _ _) (pow_big2 c1 c2)
  · rw [← add_rat]
    exact q
def N_l_times : List Str := ["_law_share_here", "_law_other"]
def p_l_times : List Str := ["_law_share_here", "_law_other"]
theorem sc_l_times : FnScope N_l_times p_l_times (defScope s_l_times) := ⟨rfl, rfl, rfl, by decide +kernel, rfl, by decide +kernel, by decide +kernel⟩
theorem ok_l_times (G_l_share : Ok P w K mg base 1 "_law_share" p_l_share sp_make_share) (T : Tx K mg) : Ok P w K mg base 2 "_law_times" p_l_times sp_times := by
  refine T.ok i_l_times sc_l_times (fun _ _ _ _ _ _ us h => by match us, h with | [_, _], _ => rfl) (fun vs H Q E h => by obtain ⟨_, _, _, _, rfl, _⟩ := h; rfl) (fun f cdv A outer s H vs Q E hr h => ?_)
  obtain ⟨u, v, x, y, rfl, hu, hv, two, q⟩ := h
  refine ⟨_, (pss_one (ps_ret (pe_ok G_l_share (hr.mono (by decide)) rfl (pa_cons (pe_op op_mulW (pe_ix ix_tup (pv 0) pe_int (fun _ _ => rfl)) (pe_ix ix_tup (pv 1) pe_int (fun _ _ => rfl))) (pa_cons (pe_op op_mulW (pe_ix ix_tup (pv 0) pe_int (fun _ _ => rfl)) (pe_ix ix_tup (pv 1) pe_int (fun _ _ => rfl))) pa_nil))))), ?_⟩
  obtain ⟨a, rfl, ha⟩ := sh_inv hu
  obtain ⟨b, rfl, hb⟩ := sh_inv hv
  obtain ⟨w1, w2, _, _⟩ := wide_two two
  obtain ⟨l1, l2⟩ := small_mul two.1 two.2.1 two.2.2
  have n1 := two.1.num
  have n2 := two.2.1.num
  refine ⟨.ref a, rfl, a, _, 0, _, rfl, rfl, .inl (.inl ha), at0, .ref b, rfl, b, _, 0, _, rfl, rfl, .inl (.inl hb), at0, _, _, rfl, rfl, w1, ?_⟩
  refine ⟨.ref a, rfl, a, _, 1, _, rfl, rfl, .inl (.inl ha), at1, .ref b, rfl, b, _, 1, _, rfl, rfl, .inl (.inl hb), at1, _, _, rfl, rfl, w2, ?_⟩
  refine ⟨_, _, rfl, Int.mul_nonneg n1.1 n2.1, Int.mul_pos (Int.natCast_pos.mpr x.den_pos) (Int.natCast_pos.mpr y.den_pos), pow_big l1, pow_big l2, ?_⟩
  rw [← mul_rat]
  exact q
def N_l_less : List Str := ["_law_share_here", "_law_other"]
def p_l_less : List Str := ["_law_share_here", "_law_other"]
theorem sc_l_less : FnScope N_l_less p_l_less (defScope s_l_less) := ⟨rfl, rfl, rfl, by decide +kernel, rfl, by decide +kernel, by decide +kernel⟩
def sp_l_less : Sp := fun vs H Q _ => ∃ (u v : V) (x y : Rat), vs = [u, v] ∧ Is H u (shT x) ∧ Is H v (shT y) ∧ Two 13499 x y ∧ Q (.bl (decide (x < y))) H
theorem ok_l_less (T : Tx K mg) : Ok P w K mg base 1 "_law_less" p_l_less sp_l_less := by
  refine T.ok i_l_less sc_l_less (fun _ _ _ _ _ _ us h => by match us, h with | [_, _], _ => rfl) (fun vs H Q E h => by obtain ⟨_, _, _, _, rfl, _⟩ := h; rfl) (fun f cdv A outer s H vs Q E hr h => ?_)
  obtain ⟨u, v, x, y, rfl, hu, hv, two, q⟩ := h
  refine ⟨_, (pss_one (ps_ret (pe_cmpR op_lt (pe_op op_mulW (pe_ix ix_tup (pv 0) pe_int (fun _ _ => rfl)) (pe_ix ix_tup (pv 1) pe_int (fun _ _ => rfl))) (pe_op op_mulW (pe_ix ix_tup (pv 1) pe_int (fun _ _ => rfl)) (pe_ix ix_tup (pv 0) pe_int (fun _ _ => rfl))) (nomark _)))), ?_⟩
  obtain ⟨a, rfl, ha⟩ := sh_inv hu
  obtain ⟨b, rfl, hb⟩ := sh_inv hv
  obtain ⟨w1, w2, w3, w4⟩ := wide_two two
  refine ⟨.ref a, rfl, a, _, 0, _, rfl, rfl, .inl (.inl ha), at0, .ref b, rfl, b, _, 1, _, rfl, rfl, .inl (.inl hb), at1, _, _, rfl, rfl, w3, ?_⟩
  refine ⟨.ref b, rfl, b, _, 0, _, rfl, rfl, .inl (.inl hb), at0, .ref a, rfl, a, _, 1, _, rfl, rfl, .inl (.inl ha), at1, _, _, rfl, rfl, w4, _, _, rfl, rfl, ?_⟩
  have e : decide (x < y) = decide (x.num * (y.den : Int) < y.num * (x.den : Int)) := decide_eq_decide.mpr (Rat.lt_iff x y)
  rw [e] at q
  exact q
def N_l_any : List Str := ["_law_chances", "_law_missed", "_law_chance_here"]
def p_l_any : List Str := ["_law_chances"]
theorem sc_l_any : FnScope N_l_any p_l_any (defScope s_l_any) := ⟨rfl, rfl, rfl, by decide +kernel, rfl, by decide +kernel, by decide +kernel⟩
def sp_l_any : Sp := fun vs H Q _ => ∃ (a : Addr) (u v : V) (x y : Rat), vs = [.ref a] ∧ H a = some (.lst [u, v]) ∧ Is H u (shT x) ∧ Is H v (shT y) ∧ Two 13499 x y ∧ Gives H Q (shT (1 - (1 - x) * (1 - y)))
theorem ok_l_any (G_l_rest : Ok P w K mg base 1 "_law_rest" p_l_rest sp_rest_of) (G_l_times : Ok P w K mg base 2 "_law_times" p_l_times sp_times) (T : Tx K mg) : Ok P w K mg base 3 "_law_any" p_l_any sp_l_any := by
  refine T.ok i_l_any sc_l_any (fun _ _ _ _ _ _ us h => by match us, h with | [_], _ => rfl) (fun vs H Q E h => by obtain ⟨_, _, _, _, _, rfl, _⟩ := h; rfl) (fun f cdv A outer s H vs Q E hr h => ?_)
  obtain ⟨a, u, v, x, y, rfl, ha, hu, hv, two, q⟩ := h
  have nd := sc_l_any.nd
  refine ⟨_, (pss_cons (ps_set (i := 1) nd rfl (Or.inl rfl) (pe_tup (pa_cons pe_int (pa_cons pe_int pa_nil))))
      (pss_cons (ps_for PassesOwn.never rfl (pi_list (pv 0)) (pg_name (i := 2) nd rfl (Or.inl rfl))
        (pss_one (ps_set (i := 1) nd rfl (Or.inl rfl) (pe_ok G_l_times (hr.mono (by decide)) rfl (pa_cons (pv 1) (pa_cons (pe_ok G_l_rest (hr.mono (by decide)) rfl (pa_cons (pv 2) pa_nil)) pa_nil))))))
      (pss_one (ps_ret (pe_ok G_l_rest (hr.mono (by decide)) rfl (pa_cons (pv 1) pa_nil)))))), ?_⟩
  refine ⟨small2, fun p hp => ?_⟩
  have sm : Same H (upd H p (.tup [.int 1, .int 1])) := Same.new hp
  refine ⟨.ref a, rfl, a, rfl, ⟨_, .inl (.inl (sm _ _ ha))⟩, ?_⟩
  have one : ∀ z : Rat, 1 * (1 - z) = 1 - z := fun z => Rat.one_mul _
  refine j_list [u, v] (fun i σ H' => ∃ (m : V) (r : Option V), σ = [some (.ref a), some m, r] ∧ Same H H' ∧ Is H' m (shT (if i = 0 then 1 else if i = 1 then 1 - x else (1 - x) * (1 - y))))
    ⟨_, _, rfl, sm, sh_new rfl rfl⟩ (fun i σ H' h => by obtain ⟨_, _, _, s', _⟩ := h; exact .inl (.inl (s' _ _ ha))) (fun σ H' h => ?_) (fun i z σ H' e h => ?_)
  · obtain ⟨m, r, rfl, s', hm⟩ := h
    exact ⟨m, rfl, m, _, rfl, hm, fun v' H2 s2 h2 => q v' H2 (fun b o e => s2 b o (s' b o e)) h2⟩
  · obtain ⟨m, r, rfl, s', hm⟩ := h
    have tk := TK.of s'
    match i, e with
    | 0, e =>
      have ez : u = z := by simpa using e
      subst ez
      refine ⟨m, rfl, u, rfl, u, x, rfl, Is.mono tk _ _ hu, fun v1 H1 s1 h1 => ⟨m, v1, 1, 1 - x, rfl, Is.mono (TK.of s1) _ _ hm, h1, ⟨un_one, two.1.rest, ?_⟩, fun v2 H2 s2 h2 => ?_⟩⟩
      · rw [bt_one, bt_rest]
        have := two.2.2
        omega
      · rw [one] at h2
        exact ⟨v2, _, rfl, fun b o e => s2 b o (s1 b o (s' b o e)), h2⟩
    | 1, e =>
      have ez : v = z := by simpa using e
      subst ez
      refine ⟨m, rfl, v, rfl, v, y, rfl, Is.mono tk _ _ hv, fun v1 H1 s1 h1 => ⟨m, v1, 1 - x, 1 - y, rfl, Is.mono (TK.of s1) _ _ hm, h1, ⟨two.1.rest, two.2.1.rest, ?_⟩, fun v2 H2 s2 h2 => ?_⟩⟩
      · rw [bt_rest, bt_rest]
        exact two.2.2
      · exact ⟨v2, _, rfl, fun b o e => s2 b o (s1 b o (s' b o e)), h2⟩
    | i + 2, e => simp at e
end
end K48
set_option maxRecDepth 100000
set_option maxHeartbeats 4000000
namespace K48
open PySem PySem.Spec PyProof.Rows L2
theorem same_refl (H : Hp) : Same H H := fun _ _ h => h
theorem same_tr {H H1 H2 : Hp} (a : Same H H1) (b : Same H1 H2) : Same H H2 := fun x o h => b x o (a x o h)
theorem lt_line {n : Nat} (h : n ≤ 1000) : n < sizeLine := Nat.lt_of_le_of_lt h (by decide)
theorem le_line {n : Nat} (h : n ≤ 1000) : n ≤ sizeLine := Nat.le_of_lt (lt_line h)
section
variable {K : PySem.W.Frag} {g : TG} {tt : TT} {te : TE} {ids : List Nat} {σ : L2.St} {H : Hp} {Q : VK} {a : Addr}
/-- one turn of a comprehension that keeps what is there -/
abbrev TurnF (g : TG) (tt : TT) (te : TE) (ids : List Nat) (σ : L2.St) (x : V) (H' : Hp) (r : Option T) : Prop :=
  ∀ (Y : VK) (Z : Hp → Prop), (∀ y H4 d, r = some d → Same H' H4 → Is H4 y d → Y y H4) → (∀ H3, r = none → Same H' H3 → Z H3) →
    g x (wipe σ ids) H' fun σ2 H2 => wipe σ2 ids = wipe σ ids ∧ tt σ2 H2 fun b H3 => if b = true then te σ2 H3 Y else Z H3
/-- the invariant of such a comprehension: the heap, the list so far -/
structure LcI (H : Hp) (ds : List T) (D : Addr) (H' : Hp) : Prop where
  same : Same H H'
  made : ∃ vs, H' D = some (.lst vs) ∧ IsL H' vs ds
theorem lcF_step {ds : List T} {D : Addr} {H' : Hp} {x : V} {r : Option T} {n : Nat} {N : Hp → Prop} (h : LcI H ds D H') (hD : H D = none) (few : ds.length ≤ 1000) (t : TurnF g tt te ids σ x H' r)
    (k1 : ∀ d H2, r = some d → LcI H (ds ++ [d]) D H2 → N H2) (k2 : ∀ H2, r = none → LcI H ds D H2 → N H2) : g x (wipe σ ids) H' (LcT tt te ids σ D N) := by
  obtain ⟨sm, vs, hv, hl⟩ := h
  refine t _ _ (fun y H4 d hr s4 hy => ⟨vs, s4 _ _ hv, by rw [hl.length]; exact lt_line few, k1 d _ hr ⟨fun b o e => ?_, _, upd_same, ?_⟩⟩) fun H3 hr s3 => k2 _ hr ⟨same_tr sm s3, vs, s3 _ _ hv, IsL.mono (TK.of s3) _ _ hl⟩
  · rw [upd_ne (ne_of_none e hD)]
    exact s4 _ _ (sm _ _ e)
  · have tk : TK H4 (upd H4 D (.lst (vs ++ [y]))) := ⟨fun b o e => by
      rw [upd_ne (fun z => by rw [z, s4 _ _ hv] at e; cases e)]
      exact e, fun b o u e => by
      rw [upd_ne (fun z => by rw [z, s4 _ _ hv] at e; cases e)]
      exact e⟩
    exact IsL.snoc (IsL.mono tk _ _ (IsL.mono (TK.of s4) _ _ hl)) (Is.mono tk _ _ hy)
theorem filterMap_take {α β : Type} (f : α → Option β) {xs : List α} {i : Nat} {x : α} (h : xs[i]? = some x) : (xs.take (i + 1)).filterMap f = (xs.take i).filterMap f ++ (f x).toList := by
  rw [List.take_add_one, h, List.filterMap_append]
  simp [List.filterMap_cons]
  cases f x <;> rfl
theorem fm_len {α β : Type} (f : α → Option β) (xs : List α) (i : Nat) : ((xs.take i).filterMap f).length ≤ xs.length := by
  refine Nat.le_trans (List.length_filterMap_le _ _) ?_
  rw [List.length_take]
  exact Nat.min_le_right _ _
theorem c_tupF {xs : List V} {ts : List T} (f : T → Option T) (hx : ∀ H', Same H H' → SqT K H' a xs) (hi : IsL H xs ts) (few : ts.length ≤ 1000)
    (done : ∀ D H' vs, Same H H' → H D = none → H' D = some (.lst vs) → IsL H' vs (ts.filterMap f) → Q (.ref D) H')
    (step : ∀ (i : Nat) (x : V) (t : T) (H' : Hp), ts[i]? = some t → Same H H' → Is H' x t → TurnF g tt te ids σ x H' (f t)) : LcJ g tt te ids σ Q (Itt K a) H := by
  refine c_tup xs (fun D i H' => (H D = none → LcI H ((ts.take i).filterMap f) D H') ∧ SqT K H' a xs) (fun D hD => ⟨fun _ => ⟨Same.new hD, _, upd_same, isL_nil⟩, hx _ (Same.new hD)⟩) (fun D i H' h => h.2) (fun D H' hD h => ?_) fun D i x H' hD e h => ?_
  · obtain ⟨sm, vs, hv, hl⟩ := h.1 hD
    rw [hi.length, List.take_length] at hl
    exact done D H' vs sm hD hv hl
  · obtain ⟨t, et, ht⟩ := hi.get' e
    have I := h.1 hD
    refine lcF_step (n := 0) I hD (Nat.le_trans (fm_len f ts i) few) (step i x t H' et I.same (Is.mono (TK.of I.same) _ _ ht)) (fun d H2 hr I2 => ⟨fun _ => ?_, hx _ I2.same⟩) fun H2 hr I2 => ⟨fun _ => ?_, hx _ I2.same⟩
    · rw [filterMap_take f et, hr]
      exact I2
    · rw [filterMap_take f et, hr]
      simpa using I2
theorem c_listF {xs : List V} {ts : List T} (f : T → Option T) (hx : H a = some (.lst xs)) (hi : IsL H xs ts) (few : ts.length ≤ 1000)
    (done : ∀ D H' vs, Same H H' → H D = none → H' D = some (.lst vs) → IsL H' vs (ts.filterMap f) → Q (.ref D) H')
    (step : ∀ (i : Nat) (x : V) (t : T) (H' : Hp), ts[i]? = some t → Same H H' → Is H' x t → TurnF g tt te ids σ x H' (f t)) : LcJ g tt te ids σ Q (Itl K a) H := by
  refine c_list xs (fun D i H' => (H D = none → LcI H ((ts.take i).filterMap f) D H') ∧ SqL K H' a xs) (fun D hD => ⟨fun _ => ⟨Same.new hD, _, upd_same, isL_nil⟩, .inl (.inl (Same.new hD _ _ hx))⟩) (fun D i H' h => h.2) (fun D H' hD h => ?_) fun D i x H' hD e h => ?_
  · obtain ⟨sm, vs, hv, hl⟩ := h.1 hD
    rw [hi.length, List.take_length] at hl
    exact done D H' vs sm hD hv hl
  · obtain ⟨t, et, ht⟩ := hi.get' e
    have I := h.1 hD
    refine lcF_step (n := 0) I hD (Nat.le_trans (fm_len f ts i) few) (step i x t H' et I.same (Is.mono (TK.of I.same) _ _ ht)) (fun d H2 hr I2 => ⟨fun _ => ?_, .inl (.inl (I2.same _ _ hx))⟩) fun H2 hr I2 => ⟨fun _ => ?_, .inl (.inl (I2.same _ _ hx))⟩
    · rw [filterMap_take f et, hr]
      exact I2
    · rw [filterMap_take f et, hr]
      simpa using I2
theorem c_rngF {n : Nat} (f : Nat → Option T) (few : n ≤ 1000)
    (done : ∀ D H' vs, Same H H' → H D = none → H' D = some (.lst vs) → IsL H' vs ((List.range n).filterMap f) → Q (.ref D) H')
    (step : ∀ i H', i < n → Same H H' → TurnF g tt te ids σ (.int (i : Int)) H' (f i)) : LcJ g tt te ids σ Q (Itr 0 n) H := by
  refine c_rng (fun D i H' => H D = none → LcI H ((List.range i).filterMap f) D H') (fun D hD _ => ⟨Same.new hD, _, upd_same, isL_nil⟩) (fun D H' hD h => ?_) fun D i H' hD e h => ?_
  · obtain ⟨sm, vs, hv, hl⟩ := h hD
    exact done D H' vs sm hD hv hl
  · have I := h hD
    have er : (List.range (i + 1)).filterMap f = (List.range i).filterMap f ++ (f i).toList := by
      rw [List.range_succ, List.filterMap_append]
      simp [List.filterMap_cons]
      cases f i <;> rfl
    refine lcF_step (n := 0) I hD (Nat.le_trans (List.length_filterMap_le _ _) (by rw [List.length_range]; omega)) (step i H' e I.same) (fun d H2 hr I2 _ => ?_) fun H2 hr I2 _ => ?_
    · rw [er, hr]
      exact I2
    · rw [er, hr]
      simpa using I2
end
/-! ### the data of the program -/
inductive Tm where
  | var (x : Str)
  | val (k : Key)
abbrev Atom := Str × List Tm
abbrev Fact := Str × List Key × Rat
def sVar : Str := "var"
def sValue : Str := "value"
def tmT : Tm → T
  | .var x => .t [.s sVar, .s x]
  | .val k => .t [.s sValue, kT k]
def rowT (r : List Key) : T := .t (r.map kT)
def atT (a : Atom) : T := .t [.s a.1, .f (a.2.map tmT)]
def faT (f : Fact) : T := .t [.s f.1, rowT f.2.1, shT f.2.2]
def joT (as : List Atom) : T := .t [.t [], .t (as.map atT)]
def tvar : Tm → Option Str
  | .var x => some x
  | .val _ => none
def avs (ts : List Tm) : List Str := csort (ts.filterMap tvar)
def strsT (ws : List Str) : List T := ws.map T.s
theorem tvar_map : ∀ ts : List Tm, (ts.map tmT).filterMap (fun t => match t with | .t [.s k, .s x] => if k = sVar then some (T.s x) else none | _ => none) = (ts.filterMap tvar).map T.s
  | [] => rfl
  | .var x :: ts => by
    rw [List.map_cons, List.filterMap_cons, List.filterMap_cons]
    simp only [tmT, tvar, if_true]
    rw [List.map_cons, tvar_map ts]
  | .val (.inl i) :: ts => by
    rw [List.map_cons, List.filterMap_cons, List.filterMap_cons]
    simp only [tmT, tvar, kT]
    exact tvar_map ts
  | .val (.inr x) :: ts => by
    rw [List.map_cons, List.filterMap_cons, List.filterMap_cons]
    simp only [tmT, tvar, kT]
    rw [if_neg (by decide)]
    exact tvar_map ts
/-- the pieces of a term -/
theorem tm_inv {H : Hp} {v : V} {t : Tm} (h : Is H v (tmT t)) : ∃ (a : Addr) (k : Str) (c : Key), v = .ref a ∧ H a = some (.tup [.str k, kV c]) ∧ kOk c = true ∧ ((k = sVar ∧ ∃ x, t = .var x ∧ c = .inr x) ∨ (k = sValue ∧ t = .val c)) := by
  cases t with
  | var x =>
    obtain ⟨a, xs, e, h1, h2⟩ := is_t_inv h
    obtain ⟨v1, vs, e1, g1, g2⟩ := isL_inv h2
    obtain ⟨v2, vs2, e2, g3, g4⟩ := isL_inv g2
    rw [(is_s_inv g1).1, e2, (is_s_inv g3).1, isL_nil_inv g4] at e1
    rw [e1] at h1
    exact ⟨a, sVar, .inr x, e, h1, (is_s_inv g3).2, .inl ⟨rfl, x, rfl, rfl⟩⟩
  | val k =>
    obtain ⟨a, xs, e, h1, h2⟩ := is_t_inv h
    obtain ⟨v1, vs, e1, g1, g2⟩ := isL_inv h2
    obtain ⟨v2, vs2, e2, g3, g4⟩ := isL_inv g2
    rw [(is_s_inv g1).1, e2, (is_k_inv g3).1, isL_nil_inv g4] at e1
    rw [e1] at h1
    exact ⟨a, sValue, k, e, h1, (is_k_inv g3).2, .inr ⟨rfl, rfl⟩⟩
theorem two_inv {H : Hp} {v : V} {d e : T} (h : Is H v (.t [d, e])) : ∃ (a : Addr) (x y : V), v = .ref a ∧ H a = some (.tup [x, y]) ∧ Is H x d ∧ Is H y e := by
  obtain ⟨a, xs, e0, h1, h2⟩ := is_t_inv h
  obtain ⟨v1, vs, e1, g1, g2⟩ := isL_inv h2
  obtain ⟨v2, vs2, e2, g3, g4⟩ := isL_inv g2
  rw [e2, isL_nil_inv g4] at e1
  rw [e1] at h1
  exact ⟨a, v1, v2, e0, h1, g1, g3⟩
theorem three_inv {H : Hp} {v : V} {d e f : T} (h : Is H v (.t [d, e, f])) : ∃ (a : Addr) (x y z : V), v = .ref a ∧ H a = some (.tup [x, y, z]) ∧ Is H x d ∧ Is H y e ∧ Is H z f := by
  obtain ⟨a, xs, e0, h1, h2⟩ := is_t_inv h
  obtain ⟨v1, vs, e1, g1, g2⟩ := isL_inv h2
  obtain ⟨v2, vs2, e2, g3, g4⟩ := isL_inv g2
  obtain ⟨v3, vs3, e3, g5, g6⟩ := isL_inv g4
  rw [e2, e3, isL_nil_inv g6] at e1
  rw [e1] at h1
  exact ⟨a, v1, v2, v3, e0, h1, g1, g3, g5⟩
theorem row_inv {H : Hp} {v : V} {r : List Key} (h : Is H v (rowT r)) : ∃ a, v = .ref a ∧ H a = some (.tup (r.map kV)) ∧ ∀ k ∈ r, kOk k = true := by
  obtain ⟨a, xs, e, h1, h2⟩ := is_t_inv h
  obtain ⟨e1, ok⟩ := h2.keys
  rw [e1] at h1
  exact ⟨a, e, h1, ok⟩
theorem row_is {H : Hp} {a : Addr} {r : List Key} (h : H a = some (.tup (r.map kV))) (ok : ∀ k ∈ r, kOk k = true) : Is H (.ref a) (rowT r) := is_t h (isL_keys ok)
theorem strs_inv {H : Hp} {v : V} {ws : List Str} (h : Is H v (.f (ws.map T.s))) : ∃ a o, v = .ref a ∧ o.dict = none ∧ H a = some (.frz o (.tup (ws.map V.str))) ∧ ∀ x ∈ ws, strOk x = true := by
  obtain ⟨a, o, xs, e, d, h1, h2⟩ := is_f_inv h
  obtain ⟨e1, ok⟩ := h2.strs
  rw [e1] at h1
  exact ⟨a, o, e, d, h1, ok⟩
theorem at30 {α : Type} {x y z : α} : atI [x, y, z] 0 = some x := rfl
theorem at31 {α : Type} {x y z : α} : atI [x, y, z] 1 = some y := rfl
theorem at32 {α : Type} {x y z : α} : atI [x, y, z] 2 = some z := rfl
/-! ### steps into a reading, and comprehensions by their whole reading -/
section
variable {K : PySem.W.Frag} {g : TG} {tt : TT} {te tl : TE} {ta tr : TA} {ids : List Nat} {σ : L2.St} {H H1 : Hp} {Q : VK} {QL : List V → Hp → Prop} {a : Addr} {D : Ends} {r : List V → Hp → VK → Prop} {r2 : R2} {tb : TE} {u w : TS}
theorem r_ret (h : te σ H D.rt) : tRet te D σ H := h
theorem r_cb (h : ta σ H fun vs H1 => r vs H1 Q) : tCB r ta σ H Q := h
theorem r_cons (h : te σ H fun x H1 => tr σ H1 fun xs H2 => QL (x :: xs) H2) : tCons te tr σ H QL := h
theorem r_seq (h : u { D with nx := w D } σ H) : tSeq u w D σ H := h
theorem r_asg (h : te σ H fun x H1 => g x σ H1 D.nx) : tAsg te g D σ H := h
theorem r_op (h : te σ H fun x H1 => tb σ H1 fun y H2 => r2 x y H2 Q) : tOp r2 te tb σ H Q := h
theorem r_tup (h : ta σ H fun xs H1 => xs.length ≤ sizeLine ∧ ∀ p, H1 p = none → Q (.ref p) (upd H1 p (.tup xs))) : tTup ta σ H Q := h
theorem r_call {sp : Sp} {E : XK} (h : ta σ H fun vs H1 => sp (vs ++ []) H1 Q E) : tCall sp [] E ta σ H Q := h
theorem sq_tup {H : Hp} {a : Addr} {xs : List V} (h : H a = some (.tup xs)) : ∀ H', Same H H' → SqT K H' a xs := fun _ s => .inl (.inl (s _ _ h))
theorem sq_frz {H : Hp} {a : Addr} {o : Obj} {xs : List V} (h : H a = some (.frz o (.tup xs))) : ∀ H', Same H H' → SqT K H' a xs := fun _ s => .inl (.inr ⟨o, s _ _ h⟩)
theorem lc_tup (h : tl σ H fun x H1 => ∃ a xs, x = .ref a ∧ H1 a = some (.tup xs) ∧ LcJ g tt te ids σ Q (Itt K a) H1) (mono : ∀ (Q1 Q2 : VK), (∀ v H, Q1 v H → Q2 v H) → tl σ H Q1 → tl σ H Q2) : tLc (iTup K tl) g tt te ids σ H Q :=
  mono _ _ (fun _ _ ⟨a, xs, e, hx, k⟩ => ⟨a, e, ⟨xs, .inl (.inl hx)⟩, k⟩) h
theorem lc_tupF {xs : List V} {ts : List T} (f : T → Option T) (H1 : Hp) (h : ∀ R : VK, R (.ref a) H1 → tl σ H R) (hx : ∀ H', Same H1 H' → SqT K H' a xs) (hi : IsL H1 xs ts) (few : ts.length ≤ 1000)
    (done : ∀ D H' vs, Same H1 H' → H1 D = none → H' D = some (.lst vs) → IsL H' vs (ts.filterMap f) → Q (.ref D) H')
    (step : ∀ (i : Nat) (x : V) (t : T) (H' : Hp), ts[i]? = some t → Same H1 H' → Is H' x t → TurnF g tt te ids σ x H' (f t)) : tLc (iTup K tl) g tt te ids σ H Q :=
  h _ ⟨a, rfl, ⟨xs, hx _ (same_refl _)⟩, c_tupF f hx hi few done step⟩
theorem lc_listF {xs : List V} {ts : List T} (f : T → Option T) (H1 : Hp) (h : ∀ R : VK, R (.ref a) H1 → tl σ H R) (hx : H1 a = some (.lst xs)) (hi : IsL H1 xs ts) (few : ts.length ≤ 1000)
    (done : ∀ D H' vs, Same H1 H' → H1 D = none → H' D = some (.lst vs) → IsL H' vs (ts.filterMap f) → Q (.ref D) H')
    (step : ∀ (i : Nat) (x : V) (t : T) (H' : Hp), ts[i]? = some t → Same H1 H' → Is H' x t → TurnF g tt te ids σ x H' (f t)) : tLc (iList K tl) g tt te ids σ H Q :=
  h _ ⟨a, rfl, ⟨xs, .inl (.inl hx)⟩, c_listF f hx hi few done step⟩
theorem lc_rngF (n : Nat) (f : Nat → Option T) (H1 : Hp) (h : ∀ R : List V → Hp → Prop, R [.int (n : Int)] H1 → ta σ H R) (few : n ≤ 1000)
    (done : ∀ D H' vs, Same H1 H' → H1 D = none → H' D = some (.lst vs) → IsL H' vs ((List.range n).filterMap f) → Q (.ref D) H')
    (step : ∀ (i : Nat) (H' : Hp), i < n → Same H1 H' → TurnF g tt te ids σ (.int (i : Int)) H' (f i)) : tLc (iRng1 ta) g tt te ids σ H Q :=
  h _ ⟨n, rfl, by omega, by omega, by rw [Int.toNat_natCast]; exact c_rngF f few done step⟩
end
end K48
set_option maxRecDepth 100000
set_option maxHeartbeats 4000000
namespace K48
open PySem PySem.Spec PyProof.Rows L2
section
variable {P : Program} {w : World} {K : PySem.W.Frag} {mg : Str → Option Value} {base : Heap}
def N_value_key : List Str := ["value"]
def p_value_key : List Str := ["value"]
theorem sc_value_key : FnScope N_value_key p_value_key (defScope s_value_key) := ⟨rfl, rfl, rfl, by decide +kernel, rfl, by decide +kernel, by decide +kernel⟩
def sp_value_key : Sp := fun vs H Q _ => ∃ k : Key, vs = [kV k] ∧ kOk k = true ∧ Gives H Q (vkT k)
def isS : Key → Bool
  | .inl _ => false
  | .inr _ => true
def tyS : Key → Value
  | .inl _ => .type "int"
  | .inr _ => .type "str"
theorem tyx_key {K : PySem.W.Frag} {H : Hp} (k : Key) : TyX K H (kV k) (tyS k) := by
  cases k with
  | inl i => exact .base (.int i)
  | inr x => exact .base (.str x)
theorem kit_key {K : PySem.W.Frag} (k : Key) : PySem.W.kitOne K (tyS k) (.type "str") = some (isS k) := by
  cases k with
  | inl i => exact kit_ty (by rfl)
  | inr x => exact kit_ty (by rfl)
theorem ok_value_key (T : Tx K mg) : Ok P w K mg base 1 "value_key" p_value_key sp_value_key := by
  refine T.ok i_value_key sc_value_key (fun _ _ _ _ _ _ us h => by match us, h with | [_], _ => rfl) (fun vs H Q E h => by obtain ⟨_, rfl, _⟩ := h; rfl) (fun f cdv A outer s H vs Q E hr h => ?_)
  obtain ⟨k, rfl, ok, q⟩ := h
  have nd := sc_value_key.nd
  refine ⟨_, (pss_cons (ps_if (pt_val (pe_callB call_isi (by rfl) (T.bl "isinstance" (by decide)) (by decide +kernel) (pa_cons (pv 0) (pa_cons (pe_bltn (v := .ty "str") rfl (T.bl "str" (by decide)) (by decide +kernel) rfl) pa_nil))))
        (pss_one (ps_ret (pe_tup (pa_cons pe_int (pa_cons pe_int (pa_cons (pv 0) pa_nil))))))
        pss_nil)
      (pss_one (ps_ret (pe_tup (pa_cons pe_int (pa_cons (pv 0) (pa_cons pe_str pa_nil))))))), ?_⟩
  refine ⟨kV k, rfl, _, _, _, _, _, rfl, .ty "str", tyx_key k, kit_key k, _, rfl, ?_⟩
  cases k with
  | inl i => exact ⟨.int i, rfl, small3, fun p hp => q _ _ (Same.new hp) (is_t upd_same (isL_cons is_i (isL_cons is_i (isL_cons (is_s (by decide +kernel)) isL_nil))))⟩
  | inr x => exact ⟨.str x, rfl, small3, fun p hp => q _ _ (Same.new hp) (is_t upd_same (isL_cons is_i (isL_cons is_i (isL_cons (is_s ok) isL_nil))))⟩
def N_l_key : List Str := ["_law_value_here"]
def p_l_key : List Str := ["_law_value_here"]
theorem sc_l_key : FnScope N_l_key p_l_key (defScope s_l_key) := ⟨rfl, rfl, rfl, by decide +kernel, rfl, by decide +kernel, by decide +kernel⟩
def sp_l_key : Sp := fun vs H Q _ => ∃ k : Key, vs = [kV k] ∧ kOk k = true ∧ Gives H Q (pkT k)
theorem ok_l_key (T : Tx K mg) : Ok P w K mg base 1 "_law_key" p_l_key sp_l_key := by
  refine T.ok i_l_key sc_l_key (fun _ _ _ _ _ _ us h => by match us, h with | [_], _ => rfl) (fun vs H Q E h => by obtain ⟨_, rfl, _⟩ := h; rfl) (fun f cdv A outer s H vs Q E hr h => ?_)
  obtain ⟨k, rfl, ok, q⟩ := h
  have nd := sc_l_key.nd
  refine ⟨_, (pss_one (ps_ret (pe_tup (pa_cons (pe_callTy call_int1 (by rfl) (T.bl "int" (by decide)) (by decide +kernel) (pa_cons (pe_callB call_isi (by rfl) (T.bl "isinstance" (by decide)) (by decide +kernel) (pa_cons (pv 0) (pa_cons (pe_bltn (v := .ty "str") rfl (T.bl "str" (by decide)) (by decide +kernel) rfl) pa_nil))) pa_nil)) (pa_cons (pv 0) pa_nil))))), ?_⟩
  refine ⟨kV k, rfl, _, _, _, _, _, rfl, .ty "str", tyx_key k, kit_key k, .inr ⟨_, rfl, kV k, rfl, small2, fun p hp => q _ _ (Same.new hp) ?_⟩⟩
  cases k with
  | inl i => exact is_t upd_same (isL_cons is_i (isL_cons is_i isL_nil))
  | inr x => exact is_t upd_same (isL_cons is_i (isL_cons (is_s ok) isL_nil))
theorem map_get {α β : Type} {f : α → β} {xs : List α} {i : Nat} {t : β} (h : (xs.map f)[i]? = some t) : ∃ x, xs[i]? = some x ∧ f x = t := by
  rw [List.getElem?_map] at h
  cases q : xs[i]? with
  | none => rw [q] at h; cases h
  | some x => rw [q] at h; exact ⟨x, rfl, Option.some.inj h⟩
def keyOf : T → Key
  | .i n => .inl n
  | .s x => .inr x
  | .t _ => .inl 0
  | .f _ => .inl 0
theorem keyOf_kT (k : Key) : keyOf (kT k) = k := by cases k <;> rfl
theorem fm_keys (f : Key → T) : ∀ r : List Key, (r.map kT).filterMap (fun t => some (f (keyOf t))) = r.map f
  | [] => rfl
  | k :: r => by
    rw [List.map_cons, List.filterMap_cons]
    simp only
    rw [keyOf_kT, List.map_cons, fm_keys f r]
def N_row_key : List Str := ["row", "value"]
def p_row_key : List Str := ["row"]
theorem sc_row_key : FnScope N_row_key p_row_key (defScope s_row_key) := ⟨rfl, rfl, rfl, by decide +kernel, rfl, by decide +kernel, by decide +kernel⟩
def sp_row_key : Sp := fun vs H Q _ => ∃ (v : V) (r : List Key), vs = [v] ∧ Is H v (rowT r) ∧ r.length ≤ 1000 ∧ Gives H Q (rkT r)
theorem ok_row_key (G_value_key : Ok P w K mg base 1 "value_key" p_value_key sp_value_key) (T : Tx K mg) : Ok P w K mg base 2 "row_key" p_row_key sp_row_key := by
  refine T.ok i_row_key sc_row_key (fun _ _ _ _ _ _ us h => by match us, h with | [_], _ => rfl) (fun vs H Q E h => by obtain ⟨_, _, rfl, _⟩ := h; rfl) (fun f cdv A outer s H vs Q E hr h => ?_)
  obtain ⟨v, r, rfl, hv, few, q⟩ := h
  have nd := sc_row_key.nd
  refine ⟨_, (pss_one (ps_ret (pe_callTy call_tuple_of (by rfl) (T.bl "tuple" (by decide)) (by decide +kernel) (pa_cons (pe_lc (own := [("value", 1)]) (by rfl) nd (pi_tup (pv 0)) (blkOk_by (N := N_row_key) (sc := defScope s_row_key) (by decide +kernel)) (fun _ _ _ _ _ => (pg_name (i := 1) nd rfl (Or.inl rfl))) (fun _ _ _ _ _ => pts_nil) (fun _ _ _ _ _ => (pe_ok G_value_key (hr.mono (by first | decide | omega)) rfl (pa_cons (pv 1) pa_nil)))) pa_nil)))), ?_⟩
  obtain ⟨a, rfl, ha, ok⟩ := row_inv hv
  refine r_ret (r_cb (r_cons ?_))
  refine lc_tupF (fun t => some (vkT (keyOf t))) H (fun R r => ⟨_, rfl, r⟩) (sq_tup ha) (isL_keys ok) (by simpa using few) (fun D H' vs sm hD hv hl => ?_) (fun i x t H' et sm ht Y Z hY hZ => ?_)
  · refine ⟨D, vs, rfl, .inl ⟨.inl (.inl hv), fun l hl2 => q _ _ (same_tr sm (Same.new hl2)) (is_t upd_same ?_)⟩⟩
    rw [fm_keys] at hl
    exact IsL.mono (TK.of (Same.new hl2)) _ _ hl
  · obtain ⟨k, ek, et2⟩ := map_get et
    subst et2
    obtain ⟨ex, okk⟩ := is_k_inv ht
    subst ex
    refine ⟨rfl, kV k, rfl, k, rfl, okk, fun v1 H1 s1 h1 => hY _ _ _ rfl s1 ?_⟩
    rw [keyOf_kT]
    exact h1
def N_l_row_key : List Str := ["_law_row", "_law_value_here"]
def p_l_row_key : List Str := ["_law_row"]
theorem sc_l_row_key : FnScope N_l_row_key p_l_row_key (defScope s_l_row_key) := ⟨rfl, rfl, rfl, by decide +kernel, rfl, by decide +kernel, by decide +kernel⟩
/-- a new list of pairs -/
def sp_l_row_key : Sp := fun vs H Q _ => ∃ (v : V) (r : List Key), vs = [v] ∧ Is H v (rowT r) ∧ r.length ≤ 1000 ∧ ∀ (l : Addr) (xs : List V) H', Same H H' → H' l = some (.lst xs) → IsL H' xs (r.map pkT) → Q (.ref l) H'
theorem ok_l_row_key (G_l_key : Ok P w K mg base 1 "_law_key" p_l_key sp_l_key) (T : Tx K mg) : Ok P w K mg base 2 "_law_row_key" p_l_row_key sp_l_row_key := by
  refine T.ok i_l_row_key sc_l_row_key (fun _ _ _ _ _ _ us h => by match us, h with | [_], _ => rfl) (fun vs H Q E h => by obtain ⟨_, _, rfl, _⟩ := h; rfl) (fun f cdv A outer s H vs Q E hr h => ?_)
  obtain ⟨v, r, rfl, hv, few, q⟩ := h
  have nd := sc_l_row_key.nd
  refine ⟨_, (pss_one (ps_ret (pe_lc (own := [("_law_value_here", 1)]) (by rfl) nd (pi_tup (pv 0)) (blkOk_by (N := N_l_row_key) (sc := defScope s_l_row_key) (by decide +kernel)) (fun _ _ _ _ _ => (pg_name (i := 1) nd rfl (Or.inl rfl))) (fun _ _ _ _ _ => pts_nil) (fun _ _ _ _ _ => (pe_ok G_l_key (hr.mono (by first | decide | omega)) rfl (pa_cons (pv 1) pa_nil)))))), ?_⟩
  obtain ⟨a, rfl, ha, ok⟩ := row_inv hv
  refine r_ret ?_
  refine lc_tupF (fun t => some (pkT (keyOf t))) H (fun R r => ⟨_, rfl, r⟩) (sq_tup ha) (isL_keys ok) (by simpa using few) (fun D H' vs sm hD hv hl => ?_) (fun i x t H' et sm ht Y Z hY hZ => ?_)
  · rw [fm_keys] at hl
    exact q D vs H' sm hv hl
  · obtain ⟨k, ek, et2⟩ := map_get et
    subst et2
    obtain ⟨ex, okk⟩ := is_k_inv ht
    subst ex
    refine ⟨rfl, kV k, rfl, k, rfl, okk, fun v1 H1 s1 h1 => hY _ _ _ rfl s1 ?_⟩
    rw [keyOf_kT]
    exact h1
def N_l_place_key : List Str := ["_law_place"]
def p_l_place_key : List Str := ["_law_place"]
theorem sc_l_place_key : FnScope N_l_place_key p_l_place_key (defScope s_l_place_key) := ⟨rfl, rfl, rfl, by decide +kernel, rfl, by decide +kernel, by decide +kernel⟩
def sp_l_place_key : Sp := fun vs H Q _ => ∃ (v : V) (f : Fact), vs = [v] ∧ Is H v (faT f) ∧ f.2.1.length ≤ 1000 ∧ ∀ y H', Same H H' → PlaceK H' y (f.1, f.2.1) → Q y H'
theorem ok_l_place_key (G_l_row_key : Ok P w K mg base 2 "_law_row_key" p_l_row_key sp_l_row_key) (T : Tx K mg) : Ok P w K mg base 3 "_law_place_key" p_l_place_key sp_l_place_key := by
  refine T.ok i_l_place_key sc_l_place_key (fun _ _ _ _ _ _ us h => by match us, h with | [_], _ => rfl) (fun vs H Q E h => by obtain ⟨_, _, rfl, _⟩ := h; rfl) (fun f cdv A outer s H vs Q E hr h => ?_)
  obtain ⟨v, fa, rfl, hv, few, q⟩ := h
  have nd := sc_l_place_key.nd
  refine ⟨_, (pss_one (ps_ret (pe_tup (pa_cons (pe_ix ix_tup (pv 0) pe_int (fun _ _ => rfl)) (pa_cons (pe_ok G_l_row_key (hr.mono (by first | decide | omega)) rfl (pa_cons (pe_ix ix_tup (pv 0) pe_int (fun _ _ => rfl)) pa_nil)) pa_nil))))), ?_⟩
  obtain ⟨a, x, y, z, rfl, ha, hx, hy, hz⟩ := three_inv hv
  obtain ⟨ex, okn⟩ := is_s_inv hx
  subst ex
  obtain ⟨b, rfl, hb, okr⟩ := row_inv hy
  refine ⟨.ref a, rfl, a, _, 0, _, rfl, rfl, .inl (.inl ha), at30, .ref a, rfl, a, _, 1, _, rfl, rfl, .inl (.inl ha), at31, .ref b, fa.2.1, rfl, row_is hb okr, few, fun l xs H' sm hl hxs => ⟨small2, fun p hp => q _ _ (same_tr sm (Same.new hp)) ?_⟩⟩
  exact ⟨p, l, xs, rfl, upd_same, Same.new hp _ _ hl, IsL.mono (TK.of (Same.new hp)) _ _ hxs, okn, okr⟩
end
end K48
set_option maxRecDepth 100000
set_option maxHeartbeats 4000000
namespace K48
open PySem PySem.Spec PyProof.Rows L2
/-! ### rules within a comprehension: the fragment by its name -/
section
variable {X : Cx} (K : PySem.W.Frag)
theorem ix_tupK (h : X.K = K := by rfl) : IxR X (rIxT K) := h ▸ ix_tup
theorem ix_listK (h : X.K = K := by rfl) : IxR X (rIxL K) := h ▸ ix_list
theorem op_in_seqK (h : X.K = K := by rfl) : OpR X (compareOp .In) (rIn K false) := h ▸ op_in_seq
theorem op_notIn_seqK (h : X.K = K := by rfl) : OpR X (compareOp .NotIn) (rIn K true) := h ▸ op_notIn_seq
theorem op_notInDK (hu : X.A.units + 65 < cLine) (h : X.K = K := by rfl) : OpR X (compareOp .NotIn) (rNotInD K) := h ▸ op_notInD hu
theorem op_neDK (hu : X.A.units + 64 < cLine) (h : X.K = K := by rfl) : OpR X (compareOp .NotEq) (rNeD K) := h ▸ op_neD hu
theorem op_eqDK (hu : X.A.units + 64 < cLine) (h : X.K = K := by rfl) : OpR X (compareOp .Eq) (rEqD K) := h ▸ op_eqD hu
theorem sl_tupAK (h : X.K = K := by rfl) : SlR X (rSlA K) := h ▸ sl_tupA
def rLenK (K : PySem.W.Frag) : List V → Hp → VK → Prop := fun xs H Q => ∃ x n, xs = [x] ∧ LenV K x H n ∧ Q (.int n) H
theorem call_lenK (h : X.K = K := by rfl) : CallR X (.builtin "len") (rLenK K) := h ▸ call_len
def rTupIx (K : PySem.W.Frag) : V → List V → Hp → VK → Prop := fun x xs H Q => ∃ p, ∃ ys : List Str, ∃ z j, x = .ref p ∧ xs = [.str z] ∧ SqT K H p (ys.map V.str) ∧ ys[j]? = some z ∧ (∀ m, m < j → ys[m]? ≠ some z) ∧ Q (.int (j : Nat)) H
theorem mt_tup_indexK (h : X.K = K := by rfl) : MtR X "tuple.index" (rTupIx K) := h ▸ mt_tup_index
theorem pg_tupK {es : List Expr} {k : Nat} {t : TGs} {n : Nat} {pos : Pos} (hc : X.calm = true) (h : PGs X es t)
    (hn : (assignEach es X.env).length = n := by rfl) (hst : (assignEach es X.env).findIdx? (·.1) = none := by rfl) (hK : X.K = K := by rfl) : PG X (.Tuple es k pos) (gTup K n t) := hK ▸ pg_tup hc h hn hst
theorem pe_toK {T : String} {r : V → List V → Hp → VK → Prop} {e : Expr} {to : TE} {t : TA} (p : PE X e (tBM X.K T r to t)) (h : X.K = K := by rfl) : PE X e (tBM K T r to t) := h ▸ p
end
end K48
set_option maxRecDepth 100000
set_option maxHeartbeats 4000000
namespace K48
open PySem PySem.Spec PyProof.Rows L2
/-! ### set(a tuple of texts) -/
section
variable {P : Program} {w : World} {A : Around} {E : Value → Shared → Prop} {s : Shared}
theorem set_of_textsT {l : Addr} {items : Array Value} (ws : List Str) {Q : Value → Shared → Prop} (hh : A.handled = none) (hl : s.heap.IsTuple l items) (hit : PyProof.Rows.StrsAre items.toList ws) (few : ws.length + 1 < scanBound)
    (h : ∀ (h' : Heap) (tk : Nat), StR w h' s.heap.objs.size (fun x => x ∈ ws) ws.length → (∀ b o, s.heap.get? b = some o → h'.get? b = some o) → Q (.ref s.heap.objs.size) { s with heap := h', toks := tk }) :
    wpAny (model P w) A (call (.type "set") [.ref l]) Q E s := by
  have size : items.size = ws.length := by rw [← StrsAre.len_eq hit, Array.length_toList]
  obtain ⟨c, tl, hmro⟩ := PySem.F.called_set.mro
  have hmade := PySem.F.called_set.made
  have hsub := PySem.F.called_set.sub
  refine wpAny_call (codeAny_of_tree ?_)
  show wpAny _ _ (callAny (.type "set") _) _ _ _
  refine wpAny_pure ⟨Code.quiet_builtin _ (by decide +kernel), codeAny_builtin PySem.F.entry_type_call ?_⟩
  rw [Around.under_plain (weight_type_call_type "set" [.ref l] []) rfl]
  have h1 := PySem.F.called_set.notType
  have h2 := PySem.F.called_set.canCreate
  have hct := PySem.F.typeCall_set_1 (.ref l)
  repeat (any_goals (first | assumption | wp_step))
  refine codeAny_mono (code_set_led1 (.ref l) (E := E) (Q₁ := fun obj z => obj = .ref s.heap.objs.size ∧ z = { s with heap := s.heap.push { cls := .type "set", dict := none, data := .set #[] 0 (.fresh 0 0 (!w.params.followText "set-order")) } }) ⟨rfl, rfl⟩) fun r z hr => ?_
  cases r with
  | error e => exact hr
  | ok fl =>
    cases fl with
    | ret obj =>
      obtain ⟨rfl, rfl⟩ := hr
      have atS : (s.heap.push { cls := .type "set", dict := none, data := .set #[] 0 (.fresh 0 0 (!w.params.followText "set-order")) }).get? s.heap.objs.size = some { cls := .type "set", dict := none, data := .set #[] 0 (.fresh 0 0 (!w.params.followText "set-order")) } := Heap.get?_push_size _ rfl
      have tyS : Shared.TypeIs { s with heap := s.heap.push { cls := .type "set", dict := none, data := .set #[] 0 (.fresh 0 0 (!w.params.followText "set-order")) } } (.ref s.heap.objs.size) "set" := ⟨_, atS, rfl⟩
      have hli := PySem.F.called_set.init.lookup
      have hbi := PySem.F.called_set.init.bind (.ref s.heap.objs.size)
      repeat (any_goals (first | assumption | wp_step))
      refine codeAny_mono (codeAny_call_builtin (R := wants (fun r z => r = .none ∧ ∃ h' tk, z = { s with heap := h', toks := tk } ∧ StR w h' s.heap.objs.size (fun x => x ∈ ws) ws.length ∧
          (∀ b o, s.heap.get? b = some o → h'.get? b = some o)) E) PySem.F.called_set.init.plain PySem.F.entry_set_init (check_set_init_1 tyS ?_)) fun r2 z2 hr2 => ?_
      · obtain ⟨⟨ocls, odict, odata, oslots⟩, hol, hcl, nl, hdl⟩ := hl
        simp only at hcl hdl
        subst hcl; subst hdl
        have atl : (s.heap.push { cls := .type "set", dict := none, data := .set #[] 0 (.fresh 0 0 (!w.params.followText "set-order")) }).get? l = some { cls := .type "tuple", dict := odict, data := .seq items nl, slots := oslots } := Heap.get?_push_of_some _ hol
        have hsls := PySem.F.sub_tuple_set
        have hslf := PySem.F.sub_tuple_frozenset
        have hne : (Value.type "tuple" == Value.type "dict") = false := by decide
        have isl : (s.heap.push { cls := .type "set", dict := none, data := .set #[] 0 (.fresh 0 0 (!w.params.followText "set-order")) }).IsTuple l items := ⟨_, atl, rfl, nl, rfl⟩
        unfold Builtin.«set.__init__» noKeywords Builtin.Frozenset.updateFrom
        generalize hPI : pyIter = PI
        wp_walk
        subst hPI
        refine wpAny_pyIter_tuple isl ?_
        refine wpAny_bind (wpAny_runValue ?_)
        have below : l < s.heap.objs.size := Heap.lt_size hol
        have calm : A.in1.in1.in1.handled = none := by simp [hh]
        have apart : l ≠ (s.heap.push { cls := .type "set", dict := none, data := .set #[] 0 (.fresh 0 0 (!w.params.followText "set-order")) }).objs.size := by
          rw [Heap.size_push]
          exact Nat.ne_of_lt (Nat.lt_succ_of_lt below)
        have out : s.heap.objs.size ∉ [(s.heap.push { cls := .type "set", dict := none, data := .set #[] 0 (.fresh 0 0 (!w.params.followText "set-order")) }).objs.size, l] := by
          rw [Heap.size_push]
          simp only [List.mem_cons, List.not_mem_nil, or_false, not_or]
          exact ⟨Nat.ne_of_lt (Nat.lt_succ_self _), Nat.ne_of_gt below⟩
        have val : ∀ (i : Nat) (v : Value), items[i]? = some v → ∃ x t, ws[i]? = some x ∧ v = .str x t := fun i v hv => by
          have q : items.toList[i]? = some v := by
            rw [Array.getElem?_toList]
            exact hv
          exact texts_at hit i v q
        refine fill_texts ((Walks.tuple calm _ l apart items).toS) s.heap.objs.size
          out ws size (by omega) val (items.size - 0) 0 _ (by omega) (Nat.zero_le _)
          ⟨⟨_, Heap.get?_push_size _ rfl, rfl, rfl⟩, (isl.push _)⟩ ?start ?last
        case start =>
          have atS2 : ((s.heap.push { cls := .type "set", dict := none, data := .set #[] 0 (.fresh 0 0 (!w.params.followText "set-order")) }).push { cls := .type "tuple_iterator", data := .fields #[.ref l, .int 0 0] }).get? s.heap.objs.size
              = some { cls := .type "set", dict := none, data := .set #[] 0 (.fresh 0 0 (!w.params.followText "set-order")) } := Heap.get?_push_of_some _ atS
          obtain ⟨o, es, ep, tb, c1, c2, c3, c4, c5, c6, c7⟩ := stR_fresh (w := w) atS2
          exact ⟨o, es, ep, tb, c1, c2, c3, c4, c5, fun x => by rw [← c6 x, List.take_zero]; simp, c7⟩
        case last =>
          intro s' hm hS'
          obtain ⟨h', g2, d', tk', os'⟩ := s'
          have eg : g2 = s.gens := hm.gens
          have ed : d' = s.drawn := hm.drawn
          have eo : os' = s.os := hm.os
          subst eg; subst ed; subst eo
          show wpAny _ _ _ _ _ _
          refine wpAny_pure ?_
          show wpAny _ _ (ret Value.none) _ _ _
          rw [size] at hS'
          refine wpAny_pure ⟨rfl, h', tk', rfl, hS', fun b o e => ?_⟩
          have blt := Heap.lt_size e
          refine hm.heap b o (fun z => ?_) (Heap.get?_push_of_some _ (Heap.get?_push_of_some _ e))
          rcases List.mem_cons.mp z with z | z
          · exact absurd z (Nat.ne_of_lt blt)
          · have z2 := List.mem_singleton.mp z
            rw [Heap.size_push] at z2
            exact absurd z2 (Nat.ne_of_lt (Nat.lt_succ_of_lt blt))
      · cases r2 with
        | error e => exact hr2
        | ok fl2 =>
          cases fl2 with
          | ret r =>
            obtain ⟨rfl, h', tk, rfl, hS', keep⟩ := hr2
            repeat (any_goals (first | assumption | wp_step))
            exact h _ _ hS' keep
          | _ => exact hr2.elim
    | _ => exact hr.elim
end
section
variable {X : Cx}
def rSetTxT (K : PySem.W.Frag) (w : World) : List V → Hp → VK → Prop := fun xs H Q => ∃ (l : Addr) (ws : List Str), xs = [V.ref l] ∧ SqT K H l (ws.map V.str) ∧ ws.length ≤ 1000 ∧ ∀ a, H a = none → Q (.ref a) (upd H a (StO w a ws))
theorem strsAre_of : ∀ {ws : List Str} {its : List Value}, Vals (ws.map V.str) its → PyProof.Rows.StrsAre its ws
  | [], _, r => by cases r; exact .nil
  | x :: ws, _, r => by
    rw [List.map_cons] at r
    cases r with
    | cons h1 h2 =>
      obtain ⟨t, e⟩ := h1
      subst e
      exact .cons x t (strsAre_of h2)
theorem cr_setTxT (calm : X.calm = true) : CallR X (.type "set") (rSetTxT X.K X.w) := by
  intro pins s σ H xs us Q I r h
  obtain ⟨l, ws, exs, hl, few, q⟩ := h
  subst exs
  rw [Vals.ref1 r]
  obtain ⟨its, rv, pl, _⟩ := I.tuple hl
  have new : H s.heap.objs.size = none := I.hok.fresh (Nat.le_refl _)
  refine set_of_textsT (P := X.prog) (w := X.w) ws (I.ok.hd calm) pl (by simpa using strsAre_of rv) (by unfold scanBound; omega) fun h' tk R k => ?_
  exact ⟨.ref s.heap.objs.size, upd H s.heap.objs.size (StO X.w s.heap.objs.size ws), I.laid (t' := tk) k (Nat.le_refl _) (stO_ok R), rfl, q _ new⟩
end
end K48
set_option maxRecDepth 100000
set_option maxHeartbeats 4000000
namespace K48
open PySem PySem.Spec PyProof.Rows L2
section
variable {X : Cx}
/-! ### tuples that are known to hold nothing but their items -/
/-- tuple(a list): the object itself is kept -/
def rTupF (K : PySem.W.Frag) : List V → Hp → VK → Prop := fun xs H Q => ∃ p ys, xs = [.ref p] ∧ SqL K H p ys ∧ ∀ l o, H l = none → o.dict = none → Q (.ref l) (upd H l (.frz o (.tup ys)))
theorem call_tuple_frz : CallR X (.type "tuple") (rTupF X.K) := by
  intro pins s σ H xs us Q I r h
  obtain ⟨p, ys, e, hq, q⟩ := h
  subst e
  rw [Vals.ref1 r]
  obtain ⟨its, r', pl, hz⟩ := I.list hq
  have size := r'.length
  refine call_tuple_list pl.isList (fun h' kp => ?_) (by rw [List.size_toArray]; omega)
  have I1 : Inv X pins σ H { s with heap := h' } := I.kept (t' := s.toks) kp
  have I2 : Inv X pins σ (upd H h'.objs.size (.frz { cls := .type "tuple", data := .seq its.toArray } (.tup ys))) { s with heap := h'.push { cls := .type "tuple", data := .seq its.toArray } } :=
    I1.laid (t' := s.toks) (fun b o e => Heap.get?_push_of_some _ e) (Nat.le_refl _) ⟨Heap.get?_push_size _ rfl, hz, its, r', IsTup.new _ _⟩
  exact ⟨.ref h'.objs.size, _, I2, rfl, q _ _ (I1.hok.fresh (Nat.le_refl _)) rfl⟩
/-- t + u, the new object kept -/
def rCatF (K : PySem.W.Frag) : R2 := fun x y H Q => ∃ a b xs ys, x = .ref a ∧ y = .ref b ∧ SqT K H a xs ∧ SqT K H b ys ∧ xs.length + ys.length ≤ sizeLine ∧
  (xs = [] → Q (.ref b) H) ∧ (xs ≠ [] → ys = [] → Q (.ref a) H) ∧ (xs ≠ [] → ys ≠ [] → ∀ p o, H p = none → o.dict = none → Q (.ref p) (upd H p (.frz o (.tup (xs ++ ys)))))
theorem op_catF : OpR X (binaryOp .Add) (rCatF X.K) := by
  intro pins s σ H x y v u Q I rx ry h
  obtain ⟨a, b, xs, ys, ex, ey, ha, hb, hz, q0, q1, q2⟩ := h
  subst ex ey
  cases rx
  cases ry
  obtain ⟨its, r1, p1, _⟩ := I.tuple ha
  obtain ⟨its2, r2, p2, _⟩ := I.tuple hb
  have l1 := r1.length
  have l2 := r2.length
  cases xs with
  | nil =>
    cases r1
    exact cat_tup0 p1 p2 ⟨.ref b, H, I, rfl, q0 rfl⟩
  | cons x0 xs0 =>
    have nv : its ≠ [] := fun z => by rw [z] at l1; cases l1
    refine HT.cat_tup p1 p2 nv (fun z => ?_) (fun z => ?_) (by omega)
    · have e : ys = [] := List.eq_nil_of_length_eq_zero (by rw [l2, z]; rfl)
      exact ⟨.ref a, H, I, rfl, q1 (fun z => nomatch z) e⟩
    · have ne : ys ≠ [] := fun e => by
        rw [e] at l2
        exact z (List.eq_nil_of_length_eq_zero l2.symm)
      have I2 : Inv X pins σ (upd H s.heap.objs.size (.frz { cls := .type "tuple", data := .seq (its ++ its2).toArray } (.tup ((x0 :: xs0) ++ ys)))) { s with heap := s.heap.push { cls := .type "tuple", data := .seq (its ++ its2).toArray } } :=
        I.laid (t' := s.toks) (fun b o e => Heap.get?_push_of_some _ e) (Nat.le_refl _) ⟨Heap.get?_push_size _ rfl, by rw [List.length_append]; omega, its ++ its2, r1.append r2, IsTup.new _ _⟩
      exact ⟨.ref s.heap.objs.size, _, I2, rfl, q2 (fun z => nomatch z) ne _ _ (I.hok.fresh (Nat.le_refl _)) rfl⟩
/-- o.m(..), o such a tuple -/
def tBMF (r : V → List V → Hp → VK → Prop) (to : TE) (t : TA) : TE := fun σ H Q => to σ H fun x H1 => (∃ a o xs, x = .ref a ∧ o.dict = none ∧ H1 a = some (.frz o (.tup xs))) ∧ t σ H1 fun xs H2 => r x xs H2 Q
theorem pe_bmF {o e : Expr} {es : List Expr} {to : TE} {t : TA} {m : Str} {p1 p2 : Pos} {id : String} {r : V → List V → Hp → VK → Prop} (pa : PlainAttrs "tuple") (slot : Slot "tuple" m id) (hty : typeOf (.builtin id) = pure (.type "method_descriptor")) (hm : MtR X id r) (ho : PE X o to) (ha : PA X (e :: es) t)
    (g1 : attributeBase o m X.env (eval o X.env) = eval o X.env := by rfl) (g2 : ((backTo p2 (starEach (e :: es) X.env)).all (fun x => !x.1) && (backToKw p2 (keywordEach [] X.env)).all (fun x => x.1.isSome) && decide ((e :: es).length + ([] : List Keyword).length + (if ([] : List Keyword).isEmpty then 0 else 1) < 30)) = true := by rfl)
    (g3 : (p1.endLine == p2.line) = true := by rfl) (g4 : starEach (e :: es) X.env = (false, eval e X.env) :: starEach es X.env := by rfl) (g5 : (backTo p2 (starEach es X.env)).any (·.1) = false := by rfl) :
    PE X (.Call (.Attribute o m p1) (e :: es) [] p2) (tBMF r to t) := by
  refine ⟨fun pins s σ H Q I h => ?_⟩
  refine wpAny_Call_method_late g1 g2 g3 rfl (thn (ho.run pins s σ H _ I h) fun v s1 ⟨x, H1, I1, r1, ⟨a, ob, xs, ex, hd, hx⟩, q1⟩ => ?_)
  subst ex
  cases r1
  obtain ⟨at1, _, its, _, ⟨ob2, at2, hc, _⟩⟩ := I1.hok a _ hx
  rw [at1] at at2
  have eo : ob = ob2 := Option.some.inj at2
  subst eo
  refine ⟨"tuple", id, pa, slot, hty, ⟨ob, at1, hc⟩, (fun b e => by cases e; exact ⟨ob, at1, hd⟩), ?_⟩
  have hA := ha.run p2 pins s1 σ H1 _ I1 q1
  rw [g4] at hA ⊢
  refine Calls.callWith_builtin (by show (false || (backTo p2 (starEach es X.env)).any (·.1)) = false; rw [g5] <;> rfl) (Calls.evalArgs_plain ?_)
  exact thn hA fun us s2 ⟨vs, H2, I2, r2, q2⟩ => hm pins s2 σ H2 (.ref a) vs (.ref a) us Q I2 (show RelV (.ref a) (.ref a) from rfl) r2 q2
end
end K48
set_option maxRecDepth 100000
set_option maxHeartbeats 4000000
namespace K48
open PySem PySem.Spec PyProof.Rows L2
/-! ### plans -/
inductive Pl where
  | scan (i : Nat)
  | proj (x : Str) (q : Pl)
  | join (ps : List Pl)
def sScan : Str := "scan"
def sProject : Str := "project"
def sJoin : Str := "join"
mutual
def plT : Pl → T
  | .scan i => .t [.s sScan, .i i]
  | .proj x q => .t [.s sProject, .s x, plT q]
  | .join ps => .t [.s sJoin, .t (plTs ps)]
def plTs : List Pl → List T
  | [] => []
  | p :: ps => plT p :: plTs ps
end
mutual
def beneath : Pl → List Nat
  | .scan i => [i]
  | .proj _ q => beneath q
  | .join ps => beneaths ps
def beneaths : List Pl → List Nat
  | [] => []
  | p :: ps => beneath p ++ beneaths ps
end
mutual
def ht : Pl → Nat
  | .scan _ => 0
  | .proj _ q => ht q + 1
  | .join ps => hts ps + 1
def hts : List Pl → Nat
  | [] => 0
  | p :: ps => max (ht p) (hts ps)
end
def termsAt (as : List Atom) (i : Nat) : List Tm := (as.getD i (Str.empty, [])).2
mutual
def cols (as : List Atom) : Pl → List Str
  | .scan i => avs (termsAt as i)
  | .proj x q => (cols as q).filter fun y => decide (y ≠ x)
  | .join ps => csort (colss as ps)
def colss (as : List Atom) : List Pl → List Str
  | [] => []
  | p :: ps => cols as p ++ colss as ps
end
theorem plTs_eq : ∀ ps : List Pl, plTs ps = ps.map plT
  | [] => rfl
  | p :: ps => by rw [plTs, plTs_eq ps]; rfl
theorem beneaths_eq : ∀ ps : List Pl, beneaths ps = ps.flatMap beneath
  | [] => rfl
  | p :: ps => by rw [beneaths, beneaths_eq ps]; rfl
theorem colss_eq (as : List Atom) : ∀ ps : List Pl, colss as ps = ps.flatMap (cols as)
  | [] => rfl
  | p :: ps => by rw [colss, colss_eq as ps]; rfl
theorem ht_mem : ∀ {ps : List Pl} {p : Pl}, p ∈ ps → ht p ≤ hts ps
  | p0 :: ps, p, h => by
    rw [hts]
    rcases List.mem_cons.mp h with e | e
    · rw [e]; exact Nat.le_max_left _ _
    · exact Nat.le_trans (ht_mem e) (Nat.le_max_right _ _)
/-- a plan over the atoms: its scans are there, and few -/
structure Wf (as : List Atom) (p : Pl) : Prop where
  there : ∀ i ∈ beneath p, i < as.length
  few : (beneath p).length ≤ 100
/-- few terms in each atom -/
def Few (as : List Atom) : Prop := as.length ≤ 100 ∧ ∀ a ∈ as, a.2.length ≤ 10
theorem Wf.proj {as : List Atom} {x : Str} {q : Pl} (h : Wf as (.proj x q)) : Wf as q := ⟨fun i hi => h.there i (by rw [beneath]; exact hi), by have := h.few; rw [beneath] at this; exact this⟩
theorem flat_len {α β : Type} {f : α → List β} : ∀ {l : List α} {x : α}, x ∈ l → (f x).length ≤ (l.flatMap f).length
  | y :: l, x, h => by
    rw [List.flatMap_cons, List.length_append]
    rcases List.mem_cons.mp h with e | e
    · rw [e]; omega
    · have := flat_len (f := f) e
      omega
theorem Wf.part {as : List Atom} {ps : List Pl} {p : Pl} (h : Wf as (.join ps)) (hp : p ∈ ps) : Wf as p := by
  have e := h.few
  have t := h.there
  rw [beneath, beneaths_eq] at e t
  exact ⟨fun i hi => t i (List.mem_flatMap.mpr ⟨p, hp, hi⟩), Nat.le_trans (flat_len hp) e⟩
theorem dedup_len : ∀ l : List Str, (dedup l).length ≤ l.length
  | [] => Nat.le_refl _
  | x :: r => by
    rw [dedup, List.length_cons, List.length_cons]
    exact Nat.succ_le_succ (Nat.le_trans (List.length_filter_le _ _) (dedup_len r))
theorem csort_len (ws : List Str) : (csort ws).length ≤ ws.length := by
  unfold csort
  rw [List.length_mergeSort]
  exact dedup_len ws
theorem avs_len (ts : List Tm) : (avs ts).length ≤ ts.length := Nat.le_trans (csort_len _) (List.length_filterMap_le _ _)
theorem termsAt_mem {as : List Atom} {i : Nat} (h : i < as.length) : ∃ a ∈ as, as[i]? = some a ∧ termsAt as i = a.2 := by
  refine ⟨as[i], List.getElem_mem h, List.getElem?_eq_getElem h, ?_⟩
  unfold termsAt
  rw [List.getD_eq_getElem?_getD, List.getElem?_eq_getElem h]
  rfl
mutual
theorem cols_len {as : List Atom} (fa : Few as) : ∀ p : Pl, (∀ i ∈ beneath p, i < as.length) → (cols as p).length ≤ 10 * (beneath p).length
  | .scan i, h => by
    obtain ⟨a, ha, _, e⟩ := termsAt_mem (h i (by simp [beneath]))
    rw [cols, e, beneath]
    exact Nat.le_trans (avs_len _) (fa.2 a ha)
  | .proj x q, h => by
    rw [cols, beneath]
    exact Nat.le_trans (List.length_filter_le _ _) (cols_len fa q fun i hi => h i (by rw [beneath]; exact hi))
  | .join ps, h => by
    rw [cols, beneath]
    exact Nat.le_trans (csort_len _) (colss_len fa ps fun i hi => h i (by rw [beneath]; exact hi))
theorem colss_len {as : List Atom} (fa : Few as) : ∀ ps : List Pl, (∀ i ∈ beneaths ps, i < as.length) → (colss as ps).length ≤ 10 * (beneaths ps).length
  | [], _ => by simp [colss]
  | p :: ps, h => by
    have h1 := cols_len fa p fun i hi => h i (by rw [beneaths]; exact List.mem_append_left _ hi)
    have h2 := colss_len fa ps fun i hi => h i (by rw [beneaths]; exact List.mem_append_right _ hi)
    rw [colss, beneaths, List.length_append, List.length_append]
    omega
end
theorem Wf.colss {as : List Atom} {ps : List Pl} (fa : Few as) (h : Wf as (.join ps)) : (colss as ps).length ≤ 1000 := by
  have := colss_len fa ps fun i hi => h.there i (by rw [beneath]; exact hi)
  have f := h.few
  rw [beneath] at f
  omega
theorem Wf.cols {as : List Atom} {p : Pl} (fa : Few as) (h : Wf as p) : (cols as p).length ≤ 1000 := by
  have := cols_len fa p h.there
  have f := h.few
  omega
/-! the pieces of an atom and of a join -/
theorem at_inv {H : Hp} {v : V} {a : Atom} (h : Is H v (atT a)) : ∃ (p q : Addr) (o : Obj) (xs : List V), v = .ref p ∧ H p = some (.tup [.str a.1, .ref q]) ∧ o.dict = none ∧ H q = some (.frz o (.tup xs)) ∧ IsL H xs (a.2.map tmT) ∧ strOk a.1 = true := by
  obtain ⟨p, x, y, e, hp, hx, hy⟩ := two_inv h
  obtain ⟨ex, ok⟩ := is_s_inv hx
  obtain ⟨q, o, xs, ey, d, hq, hl⟩ := is_f_inv hy
  rw [ex, ey] at hp
  exact ⟨p, q, o, xs, e, hp, d, hq, hl, ok⟩
theorem jo_inv {H : Hp} {v : V} {as : List Atom} (h : Is H v (joT as)) : ∃ (p q : Addr) (x : V) (xs : List V), v = .ref p ∧ H p = some (.tup [x, .ref q]) ∧ H q = some (.tup xs) ∧ IsL H xs (as.map atT) := by
  obtain ⟨p, x, y, e, hp, hx, hy⟩ := two_inv h
  obtain ⟨q, xs, ey, hq, hl⟩ := is_t_inv hy
  rw [ey] at hp
  exact ⟨p, q, x, xs, e, hp, hq, hl⟩
theorem atI_nat {α : Type} {xs : List α} {i : Nat} {x : α} (h : xs[i]? = some x) : atI xs (i : Int) = some x := by
  obtain ⟨hi, e⟩ := List.getElem?_eq_some_iff.mp h
  unfold atI ixN
  rw [if_pos (by omega), if_pos (by omega)]
  simpa using h
theorem strsAll {H : Hp} : ∀ {xs : List V} {ts : List Tm}, IsL H xs (ts.map tmT) → ∀ x ∈ ts.filterMap tvar, strOk x = true
  | _, [], _, x, hx => by simp at hx
  | xs, .var y :: ts, h, x, hx => by
    obtain ⟨v, vs, _, h1, h2⟩ := isL_inv h
    rw [List.filterMap_cons] at hx
    simp only [tvar] at hx
    rcases List.mem_cons.mp hx with e | e
    · obtain ⟨a, k, c, _, _, ok, q⟩ := tm_inv h1
      rcases q with ⟨_, z, ez, ec⟩ | ⟨_, ez⟩
      · injection ez with ez
        rw [e, ez]
        rw [ec] at ok
        exact ok
      · cases ez
    · exact strsAll h2 x e
  | xs, .val y :: ts, h, x, hx => by
    obtain ⟨v, vs, _, h1, h2⟩ := isL_inv h
    rw [List.filterMap_cons] at hx
    exact strsAll h2 x (by simpa [tvar] using hx)
def tvarT : T → Option T := fun t => match t with | .t [.s k, .s x] => if k = sVar then some (T.s x) else none | _ => none
theorem tvarT_map (ts : List Tm) : (ts.map tmT).filterMap tvarT = (ts.filterMap tvar).map T.s := tvar_map ts
theorem tvarT_val (k : Key) : tvarT (tmT (.val k)) = none := by
  cases k with
  | inl i => rfl
  | inr x =>
    show (if sValue = sVar then some (T.s x) else none) = none
    exact if_neg (by decide)
theorem tvarT_var (x : Str) : tvarT (tmT (.var x)) = some (.s x) := by
  show (if sVar = sVar then some (T.s x) else none) = _
  exact if_pos rfl
section
variable {P : Program} {w : World} {K : PySem.W.Frag} {mg : Str → Option Value} {base : Heap}
def N_atom_variables : List Str := ["atom", "kind", "content"]
def p_atom_variables : List Str := ["atom"]
theorem sc_atom_variables : FnScope N_atom_variables p_atom_variables (defScope s_atom_variables) := ⟨rfl, rfl, rfl, by decide +kernel, rfl, by decide +kernel, by decide +kernel⟩
def sp_atom_variables : Sp := fun vs H Q _ => ∃ (v : V) (a : Atom), vs = [v] ∧ Is H v (atT a) ∧ a.2.length ≤ 10 ∧ Gives H Q (.f ((avs a.2).map T.s))
theorem avs_ok {ts : List Tm} (h : ∀ x ∈ ts.filterMap tvar, strOk x = true) : ∀ x ∈ avs ts, strOk x = true := fun x hx => h x (mem_csort.mp hx)
theorem ok_atom_variables (T : Tx K mg) : Ok P w K mg base 1 "atom_variables" p_atom_variables sp_atom_variables := by
  refine T.ok i_atom_variables sc_atom_variables (fun _ _ _ _ _ _ us h => by match us, h with | [_], _ => rfl) (fun vs H Q E h => by obtain ⟨_, _, rfl, _⟩ := h; rfl) (fun f cdv A outer s H vs Q E hr h => ?_)
  obtain ⟨v, at_, rfl, hv, few, q⟩ := h
  have nd := sc_atom_variables.nd
  have hu64 := room_u64 hr
  refine ⟨_, (pss_one (ps_ret (pe_callTy call_tuple_frz (by rfl) (T.bl "tuple" (by decide)) (by decide +kernel) (pa_cons (pe_callB (cr_sortTx rfl hu64) (by rfl) (T.bl "sorted" (by decide)) (by decide +kernel) (pa_cons (pe_callTy (cr_setTx rfl) (by rfl) (T.bl "set" (by decide)) (by decide +kernel) (pa_cons (pe_lc (own := [("kind", 1), ("content", 2)]) (by rfl) nd (pi_tup (pe_ix ix_tup (pv 0) pe_int (fun _ _ => rfl))) (blkOk_by (N := N_atom_variables) (sc := defScope s_atom_variables) (by decide +kernel)) (fun _ _ _ _ _ => (pg_tupK (n := 2) K rfl (pgs_cons (pg_name (i := 1) nd rfl (Or.inl rfl)) (pgs_cons (pg_name (i := 2) nd rfl (Or.inl rfl)) pgs_nil)))) (fun _ _ _ _ _ => pts_one (pt_cmpR op_eq (pv 1) pe_str (nomark _))) (fun _ _ _ _ _ => (pv 2))) pa_nil)) pa_nil)) pa_nil)))), ?_⟩
  obtain ⟨p, l, o, xs, rfl, hp, do_, hl, hxs, okn⟩ := at_inv hv
  have oks := strsAll hxs
  refine r_ret (r_cb (r_cons (r_cb (r_cons (r_cb (r_cons ?_))))))
  refine lc_tupF tvarT H (fun R r => ⟨_, rfl, p, _, 1, _, rfl, rfl, .inl (.inl hp), at1, r⟩) (sq_frz hl) hxs (by rw [List.length_map]; omega) (fun D H' vs sm hD hv hl => ?_) (fun i x t H' et sm ht Y Z hY hZ => ?_)
  · rw [tvarT_map] at hl
    obtain ⟨evs, _⟩ := hl.strs
    rw [evs] at hv
    refine ⟨D, _, rfl, .inl (.inl hv), Nat.le_trans (List.length_filterMap_le _ _) (by omega), fun a ha => ⟨a, _, rfl, upd_same, fun p hp => ⟨p, _, rfl, .inl (.inl upd_same), fun t ot ht hd => q _ _ (same_tr sm (same_tr (Same.new ha) (same_tr (Same.new hp) (Same.new ht)))) (is_f hd upd_same (isL_strs (avs_ok oks)))⟩⟩⟩
  · obtain ⟨tm, etm, e2⟩ := map_get et
    subst e2
    obtain ⟨b, k, c, rfl, hb, okc, hk⟩ := tm_inv ht
    refine ⟨b, _, rfl, .inl (.inl hb), rfl, _, _, rfl, _, _, rfl, rfl, rfl, ?_⟩
    rcases hk with ⟨rfl, y, rfl, rfl⟩ | ⟨rfl, rfl⟩
    · refine ⟨.str sVar, rfl, rfl, true, by decide +kernel, .str y, rfl, hY _ _ _ (tvarT_var y) (same_refl _) (is_s okc)⟩
    · refine ⟨.str sValue, rfl, rfl, false, by decide +kernel, hZ _ (tvarT_val c) (same_refl _)⟩
def N_l_atom_variables : List Str := ["_law_atom_here", "_law_term_here"]
def p_l_atom_variables : List Str := ["_law_atom_here"]
theorem sc_l_atom_variables : FnScope N_l_atom_variables p_l_atom_variables (defScope s_l_atom_variables) := ⟨rfl, rfl, rfl, by decide +kernel, rfl, by decide +kernel, by decide +kernel⟩
/-- a new list of texts -/
abbrev GivesL (H : Hp) (Q : VK) (ws : List Str) : Prop := ∀ (l : Addr) H', Same H H' → H l = none → H' l = some (.lst (ws.map V.str)) → Q (.ref l) H'
def sp_l_atom_variables : Sp := fun vs H Q _ => ∃ (v : V) (a : Atom), vs = [v] ∧ Is H v (atT a) ∧ a.2.length ≤ 10 ∧ ((∀ x ∈ avs a.2, strOk x = true) → GivesL H Q (avs a.2))
theorem none_back {H H' : Hp} {a : Addr} (s : Same H H') (h : H' a = none) : H a = none := by
  cases q : H a with
  | none => rfl
  | some o =>
    rw [s a o q] at h
    cases h
theorem ok_l_atom_variables (T : Tx K mg) : Ok P w K mg base 1 "_law_atom_variables" p_l_atom_variables sp_l_atom_variables := by
  refine T.ok i_l_atom_variables sc_l_atom_variables (fun _ _ _ _ _ _ us h => by match us, h with | [_], _ => rfl) (fun vs H Q E h => by obtain ⟨_, _, rfl, _⟩ := h; rfl) (fun f cdv A outer s H vs Q E hr h => ?_)
  obtain ⟨v, at_, rfl, hv, few, q⟩ := h
  have nd := sc_l_atom_variables.nd
  have hu64 := room_u64 hr
  refine ⟨_, (pss_one (ps_ret (pe_callB (cr_sortTx rfl hu64) (by rfl) (T.bl "sorted" (by decide)) (by decide +kernel) (pa_cons (pe_callTy (cr_setTx rfl) (by rfl) (T.bl "set" (by decide)) (by decide +kernel) (pa_cons (pe_lc (own := [("_law_term_here", 1)]) (by rfl) nd (pi_tup (pe_ix ix_tup (pv 0) pe_int (fun _ _ => rfl))) (blkOk_by (N := N_l_atom_variables) (sc := defScope s_l_atom_variables) (by decide +kernel)) (fun _ _ _ _ _ => (pg_name (i := 1) nd rfl (Or.inl rfl))) (fun _ _ _ _ _ => pts_one (pt_cmpR op_eq (pe_ix (ix_tupK K) (pv 1) pe_int (fun _ _ => rfl)) pe_str (nomark _))) (fun _ _ _ _ _ => (pe_ix (ix_tupK K) (pv 1) pe_int (fun _ _ => rfl)))) pa_nil)) pa_nil)))), ?_⟩
  obtain ⟨p, l, o, xs, rfl, hp, do_, hl, hxs, okn⟩ := at_inv hv
  have oks := strsAll hxs
  refine r_ret (r_cb (r_cons (r_cb (r_cons ?_))))
  refine lc_tupF tvarT H (fun R r => ⟨_, rfl, p, _, 1, _, rfl, rfl, .inl (.inl hp), at1, r⟩) (sq_frz hl) hxs (by rw [List.length_map]; omega) (fun D H' vs sm hD hv hl => ?_) (fun i x t H' et sm ht Y Z hY hZ => ?_)
  · rw [tvarT_map] at hl
    obtain ⟨evs, _⟩ := hl.strs
    rw [evs] at hv
    refine ⟨D, _, rfl, .inl (.inl hv), Nat.le_trans (List.length_filterMap_le _ _) (by omega), fun a ha => ⟨a, _, rfl, upd_same, fun p hp => q (avs_ok oks) _ _ (same_tr sm (same_tr (Same.new ha) (Same.new hp))) (none_back sm (none_back (Same.new ha) hp)) upd_same⟩⟩
  · obtain ⟨tm, etm, e2⟩ := map_get et
    subst e2
    obtain ⟨b, k, c, rfl, hb, okc, hk⟩ := tm_inv ht
    refine ⟨rfl, .ref b, rfl, b, _, 0, _, rfl, rfl, .inl (.inl hb), at0, rfl, ?_⟩
    rcases hk with ⟨rfl, y, rfl, rfl⟩ | ⟨rfl, rfl⟩
    · refine ⟨true, by decide +kernel, .ref b, rfl, b, _, 1, _, rfl, rfl, .inl (.inl hb), at1, hY _ _ _ (tvarT_var y) (same_refl _) (is_s okc)⟩
    · refine ⟨false, by decide +kernel, hZ _ (tvarT_val c) (same_refl _)⟩
end
end K48
set_option maxRecDepth 100000
set_option maxHeartbeats 4000000
namespace K48
open PySem PySem.Spec PyProof.Rows L2
mutual
theorem cols_sub {as : List Atom} : ∀ (p : Pl) (x : Str), x ∈ cols as p → ∃ i ∈ beneath p, x ∈ avs (termsAt as i)
  | .scan i, x, h => ⟨i, by simp [beneath], by rw [cols] at h; exact h⟩
  | .proj y q, x, h => by
    rw [cols] at h
    obtain ⟨i, hi, hx⟩ := cols_sub q x (List.mem_filter.mp h).1
    exact ⟨i, by rw [beneath]; exact hi, hx⟩
  | .join ps, x, h => by
    rw [cols] at h
    obtain ⟨i, hi, hx⟩ := colss_sub ps x (mem_csort.mp h)
    exact ⟨i, by rw [beneath]; exact hi, hx⟩
theorem colss_sub {as : List Atom} : ∀ (ps : List Pl) (x : Str), x ∈ colss as ps → ∃ i ∈ beneaths ps, x ∈ avs (termsAt as i)
  | [], x, h => by simp [colss] at h
  | p :: ps, x, h => by
    rw [colss] at h
    rcases List.mem_append.mp h with e | e
    · obtain ⟨i, hi, hx⟩ := cols_sub p x e
      exact ⟨i, by rw [beneaths]; exact List.mem_append_left _ hi, hx⟩
    · obtain ⟨i, hi, hx⟩ := colss_sub ps x e
      exact ⟨i, by rw [beneaths]; exact List.mem_append_right _ hi, hx⟩
end
theorem cols_nodup {as : List Atom} : ∀ p : Pl, (cols as p).Nodup
  | .scan i => by rw [cols]; exact nodup_csort _
  | .proj y q => by rw [cols]; exact (cols_nodup q).filter _
  | .join ps => by rw [cols]; exact nodup_csort _
/-- the variables' texts are texts -/
def Aok (as : List Atom) : Prop := ∀ i, ∀ x ∈ avs (termsAt as i), strOk x = true
theorem aok_of {H : Hp} {v : V} {as : List Atom} (h : Is H v (joT as)) : Aok as := by
  obtain ⟨p, q, x, xs, _, _, _, hl⟩ := jo_inv h
  intro i y hy
  unfold termsAt at hy
  rw [List.getD_eq_getElem?_getD] at hy
  cases e : as[i]? with
  | none =>
    rw [e] at hy
    exact absurd (mem_csort.mp hy) (by simp)
  | some a =>
    rw [e] at hy
    obtain ⟨u, _, hu⟩ := hl.get (i := i) (d := atT a) (by rw [List.getElem?_map, e]; rfl)
    obtain ⟨_, _, _, _, _, _, _, _, ht, _⟩ := at_inv hu
    exact strsAll ht y (mem_csort.mp hy)
theorem cols_ok {as : List Atom} (h : Aok as) (p : Pl) : ∀ x ∈ cols as p, strOk x = true := fun x hx => by
  obtain ⟨i, _, hi⟩ := cols_sub p x hx
  exact h i x hi
theorem colss_ok {as : List Atom} (h : Aok as) (ps : List Pl) : ∀ x ∈ colss as ps, strOk x = true := fun x hx => by
  obtain ⟨i, _, hi⟩ := colss_sub ps x hx
  exact h i x hi
def fStr (p : Str → Bool) : T → Option T
  | .s y => if p y then some (.s y) else none
  | _ => none
theorem fm_strs (p : Str → Bool) : ∀ ws : List Str, (ws.map T.s).filterMap (fStr p) = (ws.filter p).map T.s
  | [] => rfl
  | x :: ws => by
    rw [List.map_cons, List.filterMap_cons, List.filter_cons]
    cases e : p x with
    | true =>
      simp only [fStr, e, if_true]
      rw [List.map_cons, fm_strs p ws]
    | false =>
      simp only [fStr, e, Bool.false_eq_true, if_false]
      exact fm_strs p ws
section
variable {K : PySem.W.Frag} {g : TG} {tt : TT} {te tl : TE} {ids : List Nat} {σ : L2.St} {H : Hp} {Q : VK} {D : Ends} {tb : TS} {ta : TA}
theorem lc_tupG (h : tl σ H fun x H1 => ∃ a, x = .ref a ∧ (∃ xs, SqT K H1 a xs) ∧ LcJ g tt te ids σ Q (Itt K a) H1) : tLc (iTup K tl) g tt te ids σ H Q := h
theorem lc_listG (h : tl σ H fun x H1 => ∃ a, x = .ref a ∧ (∃ xs, SqL K H1 a xs) ∧ LcJ g tt te ids σ Q (Itl K a) H1) : tLc (iList K tl) g tt te ids σ H Q := h
theorem f_tupG (h : tl σ H fun x H1 => ∃ a, x = .ref a ∧ (∃ xs, SqT K H1 a xs) ∧ ForJ g tb D σ (Itt K a) H1) : tFor (iTup K tl) g tb D σ H := h
theorem f_listG (h : tl σ H fun x H1 => ∃ a, x = .ref a ∧ (∃ xs, SqL K H1 a xs) ∧ ForJ g tb D σ (Itl K a) H1) : tFor (iList K tl) g tb D σ H := h
end
theorem pl_mem {H : Hp} {xs : List V} {ps : List Pl} {i : Nat} {x : V} (h : IsL H xs (plTs ps)) (e : xs[i]? = some x) : ∃ p, ps[i]? = some p ∧ p ∈ ps ∧ Is H x (plT p) := by
  rw [plTs_eq] at h
  obtain ⟨d, ed, hd⟩ := h.get' e
  obtain ⟨p, ep, e2⟩ := map_get ed
  subst e2
  exact ⟨p, ep, List.mem_of_getElem? ep, hd⟩
theorem take_succ {α : Type} {xs : List α} {i : Nat} {x : α} (h : xs[i]? = some x) : xs.take (i + 1) = xs.take i ++ [x] := by
  rw [List.take_add_one, h]
  rfl
theorem colss_append (as : List Atom) (a b : List Pl) : colss as (a ++ b) = colss as a ++ colss as b := by
  rw [colss_eq, colss_eq, colss_eq, List.flatMap_append]
theorem colss_take {as : List Atom} (ps : List Pl) (i : Nat) : (colss as (ps.take i)).length ≤ (colss as ps).length := by
  have e := colss_append as (ps.take i) (ps.drop i)
  rw [List.take_append_drop] at e
  rw [e, List.length_append]
  omega
theorem plTs_len (ps : List Pl) : (plTs ps).length = ps.length := by rw [plTs_eq, List.length_map]
section
variable {P : Program} {w : World} {K : PySem.W.Frag} {mg : Str → Option Value} {base : Heap}
def N_columns_of : List Str := ["join", "plan", "names", "part", "name"]
def p_columns_of : List Str := ["join", "plan"]
theorem sc_columns_of : FnScope N_columns_of p_columns_of (defScope s_columns_of) := ⟨rfl, rfl, rfl, by decide +kernel, rfl, by decide +kernel, by decide +kernel⟩
def sp_columns_of (h : Nat) : Sp := fun vs H Q _ => ∃ (u v : V) (as : List Atom) (p : Pl), vs = [u, v] ∧ Is H u (joT as) ∧ Is H v (plT p) ∧ Few as ∧ Wf as p ∧ ht p < h ∧ Gives H Q (.f ((cols as p).map T.s))
theorem ok_columns_of (G_atom_variables : Ok P w K mg base 1 "atom_variables" p_atom_variables sp_atom_variables) (T : Tx K mg) : ∀ h : Nat, Ok P w K mg base (h + 2) "columns_of" p_columns_of (sp_columns_of h)
  | 0 => by
    refine T.ok i_columns_of sc_columns_of (fun _ _ _ _ _ _ us h => by match us, h with | [_, _], _ => rfl) (fun vs H Q E h => by obtain ⟨_, _, _, _, rfl, _⟩ := h; rfl) (fun f cdv A outer s H vs Q E hr h => ?_)
    obtain ⟨_, _, _, _, _, _, _, _, _, z, _⟩ := h
    exact absurd z (Nat.not_lt_zero _)
  | h + 1 => by
    have G_columns_of := ok_columns_of G_atom_variables T h
    refine T.ok i_columns_of sc_columns_of (fun _ _ _ _ _ _ us h => by match us, h with | [_, _], _ => rfl) (fun vs H Q E h => by obtain ⟨_, _, _, _, rfl, _⟩ := h; rfl) (fun f cdv A outer s H vs Q E hr hs => ?_)
    obtain ⟨u, v, as, p, rfl, hu, hv, fa, wf, hh, q⟩ := hs
    have nd := sc_columns_of.nd
    have hu64 := room_u64 hr
    refine ⟨_, (pss_cons (ps_if (pt_cmpR op_eq (pe_ix ix_tup (pv 1) pe_int (fun _ _ => rfl)) pe_str (nomark _))
        (pss_one (ps_ret (pe_ok G_atom_variables (hr.mono (by first | decide | omega)) rfl (pa_cons (pe_ix ix_tup (pe_ix ix_tup (pv 0) pe_int (fun _ _ => rfl)) (pe_ix ix_tup (pv 1) pe_int (fun _ _ => rfl)) (fun _ _ => rfl)) pa_nil))))
        pss_nil)
      (pss_cons (ps_if (pt_cmpR op_eq (pe_ix ix_tup (pv 1) pe_int (fun _ _ => rfl)) pe_str (nomark _))
        (pss_one (ps_ret (pe_callTy call_tuple_frz (by rfl) (T.bl "tuple" (by decide)) (by decide +kernel) (pa_cons (pe_lc (own := [("name", 4)]) (by rfl) nd (pi_tup (pe_ok G_columns_of (hr.mono (by first | decide | omega)) rfl (pa_cons (pv 0) (pa_cons (pe_ix ix_tup (pv 1) pe_int (fun _ _ => rfl)) pa_nil)))) (blkOk_by (N := N_columns_of) (sc := defScope s_columns_of) (by decide +kernel)) (fun _ _ _ _ _ => (pg_name (i := 4) nd rfl (Or.inl rfl))) (fun _ _ _ _ _ => pts_one (pt_cmpR op_ne (pv 4) (pe_ix (ix_tupK K) (pv 1) pe_int (fun _ _ => rfl)) (nomark _))) (fun _ _ _ _ _ => (pv 4))) pa_nil))))
        pss_nil)
      (pss_cons (ps_set (i := 2) nd rfl (Or.inl rfl) (pe_lst pa_nil))
      (pss_cons (ps_for PassesOwn.never rfl (pi_tup (pe_ix ix_tup (pv 1) pe_int (fun _ _ => rfl))) (pg_name (i := 3) nd rfl (Or.inl rfl))
        (pss_one (ps_expr (pe_bm PySem.F.plainAttrs_list PySem.F.slot_list_extend PySem.F.type_list_extend mt_extendT (pv 2) (pa_cons (pe_ok G_columns_of (hr.mono (by first | decide | omega)) rfl (pa_cons (pv 0) (pa_cons (pv 3) pa_nil))) pa_nil)))))
      (pss_one (ps_ret (pe_callTy call_tuple_frz (by rfl) (T.bl "tuple" (by decide)) (by decide +kernel) (pa_cons (pe_callB (cr_sortTx rfl hu64) (by rfl) (T.bl "sorted" (by decide)) (by decide +kernel) (pa_cons (pe_callTy (cr_setTx rfl) (by rfl) (T.bl "set" (by decide)) (by decide +kernel) (pa_cons (pv 2) pa_nil)) pa_nil)) pa_nil)))))))), ?_⟩
    obtain ⟨j, l, x0, xs, rfl, hj, hl, hxs⟩ := jo_inv hu
    have aok := aok_of hu
    cases p with
    | scan i =>
      obtain ⟨b, v1, v2, rfl, hb, h1, h2⟩ := two_inv hv
      obtain ⟨rfl, _⟩ := is_s_inv h1
      have e2 := is_i_inv h2
      subst e2
      obtain ⟨a, ha, ea, et⟩ := termsAt_mem (wf.there i (by simp [beneath]))
      obtain ⟨va, eva, hva⟩ := hxs.get (i := i) (d := atT a) (by rw [List.getElem?_map, ea]; rfl)
      refine ⟨.ref b, rfl, b, _, 0, _, rfl, rfl, .inl (.inl hb), at0, rfl, true, by decide +kernel, ?_⟩
      refine ⟨.ref j, rfl, j, _, 1, _, rfl, rfl, .inl (.inl hj), at1, .ref b, rfl, b, _, 1, _, rfl, rfl, .inl (.inl hb), at1, l, _, _, _, rfl, rfl, .inl (.inl hl), atI_nat eva, va, a, rfl, hva, fa.2 a ha, fun v' H' sm his => q v' H' sm ?_⟩
      rw [cols, et]
      exact his
    | proj x pq =>
      obtain ⟨b, v1, v2, v3, rfl, hb, h1, h2, h3⟩ := three_inv hv
      obtain ⟨rfl, _⟩ := is_s_inv h1
      obtain ⟨rfl, _⟩ := is_s_inv h2
      refine ⟨.ref b, rfl, b, _, 0, _, rfl, rfl, .inl (.inl hb), at30, rfl, false, by decide +kernel, ?_⟩
      refine ⟨.ref b, rfl, b, _, 0, _, rfl, rfl, .inl (.inl hb), at30, rfl, true, by decide +kernel, ?_⟩
      refine r_ret (r_cb (r_cons (lc_tupG ?_)))
      refine ⟨.ref j, rfl, .ref b, rfl, b, _, 2, _, rfl, rfl, .inl (.inl hb), at32, .ref j, v3, as, pq, rfl, hu, h3, fa, wf.proj, by rw [ht] at hh; omega, fun v' H' sm his => ?_⟩
      obtain ⟨c, co, rfl, cd, hc, okc⟩ := strs_inv his
      refine ⟨c, rfl, ⟨_, .inl (.inr ⟨co, hc⟩)⟩, ?_⟩
      refine c_tupF (fStr fun y => decide (y ≠ x)) (sq_frz hc) (isL_strs okc) (by rw [List.length_map]; exact wf.proj.cols fa) (fun D H2 vs sm2 hD hvs hl2 => ?_) (fun i y t H2 et sm2 hty Y Z hY hZ => ?_)
      · rw [fm_strs] at hl2
        refine ⟨D, _, rfl, .inl (.inl hvs), fun t ot ht hd => q _ _ (same_tr sm (same_tr sm2 (Same.new ht))) ?_⟩
        rw [cols]
        exact is_f hd upd_same (IsL.mono (TK.of (Same.new ht)) _ _ hl2)
      · obtain ⟨y', ey', e2⟩ := map_get et
        subst e2
        obtain ⟨rfl, oky⟩ := is_s_inv hty
        have hb2 := sm2 _ _ (sm _ _ hb)
        refine ⟨rfl, .str y', rfl, .ref b, rfl, b, _, 1, _, rfl, rfl, .inl (.inl hb2), at31, rfl, decide (y' ≠ x), ?_, ?_⟩
        · by_cases z : y' = x
          · rw [z]; simp
          · have z2 : V.str y' ≠ V.str x := fun e => z (by injection e)
            simp [z, z2]
        · by_cases z : y' = x
          · rw [decide_eq_false (by simpa using z)]
            exact hZ _ (by simp [fStr, z]) (same_refl _)
          · rw [decide_eq_true z]
            exact ⟨.str y', rfl, hY _ _ _ (by simp [fStr, z]) (same_refl _) (is_s oky)⟩
    | join ps =>
      obtain ⟨b, v1, v2, rfl, hb, h1, h2⟩ := two_inv hv
      obtain ⟨rfl, _⟩ := is_s_inv h1
      obtain ⟨pb, pxs, rfl, hpb, hpx⟩ := is_t_inv h2
      refine ⟨.ref b, rfl, b, _, 0, _, rfl, rfl, .inl (.inl hb), at0, rfl, false, by decide +kernel, ?_⟩
      refine ⟨.ref b, rfl, b, _, 0, _, rfl, rfl, .inl (.inl hb), at0, rfl, false, by decide +kernel, ?_⟩
      refine ⟨le_line (by decide), fun n hn => ?_⟩
      have sm1 : Same H (upd H n (.lst [])) := Same.new hn
      refine ⟨.ref b, rfl, b, _, 1, _, rfl, rfl, .inl (.inl (sm1 _ _ hb)), at1, pb, rfl, ⟨_, .inl (.inl (sm1 _ _ hpb))⟩, ?_⟩
      refine j_tup pxs (fun i σ H' => ∃ pt : Option V, σ = [some (.ref j), some (.ref b), some (.ref n), pt, none] ∧ Same H H' ∧ H' n = some (.lst ((colss as (ps.take i)).map V.str)))
        ⟨_, rfl, sm1, upd_same⟩ (fun i σ H' h => by obtain ⟨_, _, sm, _⟩ := h; exact .inl (.inl (sm _ _ hpb))) (fun σ H' h => ?_) (fun i x σ H' e h => ?_)
      · obtain ⟨pt, rfl, sm, hn'⟩ := h
        have elen : pxs.length = ps.length := by rw [hpx.length, plTs_len]
        rw [elen, List.take_length] at hn'
        refine ⟨.ref n, rfl, n, _, rfl, .inl (.inl hn'), wf.colss fa, fun a ha => ⟨a, _, rfl, upd_same, fun p hp => ⟨p, _, rfl, .inl (.inl upd_same), fun t ot ht hd => q _ _ (same_tr sm (same_tr (Same.new ha) (same_tr (Same.new hp) (Same.new ht)))) ?_⟩⟩⟩
        rw [cols]
        exact is_f hd upd_same (isL_strs fun x hx => colss_ok aok ps x (mem_csort.mp hx))
      · obtain ⟨pt, rfl, sm, hn'⟩ := h
        obtain ⟨p, ep, mp, hp⟩ := pl_mem hpx e
        have tk := TK.of sm
        refine ⟨.ref n, rfl, .inl ⟨rfl, _, .inl (.inl hn')⟩, .ref j, rfl, x, rfl, .ref j, x, as, p, rfl, Is.mono tk _ _ hu, Is.mono tk _ _ hp, fa, wf.part mp, by rw [ht] at hh; have := ht_mem mp; omega, fun v' H2 sm2 his => ?_⟩
        obtain ⟨c, co, rfl, cd, hc, okc⟩ := strs_inv his
        have hn2 := sm2 _ _ hn'
        have etk : colss as (ps.take (i + 1)) = colss as (ps.take i) ++ cols as p := by
          rw [take_succ ep, colss_append]
          simp [colss]
        refine ⟨n, c, _, _, rfl, rfl, hn2, .inl (.inr ⟨co, hc⟩), ?_, ?_⟩
        · rw [List.length_map, List.length_map, ← List.length_append, ← etk]
          exact le_line (Nat.le_trans (colss_take ps _) (wf.colss fa))
        · refine ⟨_, rfl, fun a o ea => ?_, ?_⟩
          · rw [upd_ne (ne_of_none ea hn)]
            exact sm2 _ _ (sm _ _ ea)
          · rw [upd_same, etk, List.map_append]
def N_l_columns : List Str := ["_law_join", "_law_plan_here", "_law_found", "_law_part", "_law_name"]
def p_l_columns : List Str := ["_law_join", "_law_plan_here"]
theorem sc_l_columns : FnScope N_l_columns p_l_columns (defScope s_l_columns) := ⟨rfl, rfl, rfl, by decide +kernel, rfl, by decide +kernel, by decide +kernel⟩
def sp_l_columns (h : Nat) : Sp := fun vs H Q _ => ∃ (u v : V) (as : List Atom) (p : Pl), vs = [u, v] ∧ Is H u (joT as) ∧ Is H v (plT p) ∧ Few as ∧ Wf as p ∧ ht p < h ∧ GivesL H Q (cols as p)
theorem ok_l_columns (G_l_atom_variables : Ok P w K mg base 1 "_law_atom_variables" p_l_atom_variables sp_l_atom_variables) (T : Tx K mg) : ∀ h : Nat, Ok P w K mg base (h + 2) "_law_columns" p_l_columns (sp_l_columns h)
  | 0 => by
    refine T.ok i_l_columns sc_l_columns (fun _ _ _ _ _ _ us h => by match us, h with | [_, _], _ => rfl) (fun vs H Q E h => by obtain ⟨_, _, _, _, rfl, _⟩ := h; rfl) (fun f cdv A outer s H vs Q E hr h => ?_)
    obtain ⟨_, _, _, _, _, _, _, _, _, z, _⟩ := h
    exact absurd z (Nat.not_lt_zero _)
  | h + 1 => by
    have G_l_columns := ok_l_columns G_l_atom_variables T h
    refine T.ok i_l_columns sc_l_columns (fun _ _ _ _ _ _ us h => by match us, h with | [_, _], _ => rfl) (fun vs H Q E h => by obtain ⟨_, _, _, _, rfl, _⟩ := h; rfl) (fun f cdv A outer s H vs Q E hr hs => ?_)
    obtain ⟨u, v, as, p, rfl, hu, hv, fa, wf, hh, q⟩ := hs
    have nd := sc_l_columns.nd
    have hu64 := room_u64 hr
    refine ⟨_, (pss_cons (ps_if (pt_cmpR op_eq (pe_ix ix_tup (pv 1) pe_int (fun _ _ => rfl)) pe_str (nomark _))
        (pss_one (ps_ret (pe_ok G_l_atom_variables (hr.mono (by first | decide | omega)) rfl (pa_cons (pe_ix ix_tup (pe_ix ix_tup (pv 0) pe_int (fun _ _ => rfl)) (pe_ix ix_tup (pv 1) pe_int (fun _ _ => rfl)) (fun _ _ => rfl)) pa_nil))))
        pss_nil)
      (pss_cons (ps_if (pt_cmpR op_eq (pe_ix ix_tup (pv 1) pe_int (fun _ _ => rfl)) pe_str (nomark _))
        (pss_one (ps_ret (pe_lc (own := [("_law_name", 4)]) (by rfl) nd (pi_list (pe_ok G_l_columns (hr.mono (by first | decide | omega)) rfl (pa_cons (pv 0) (pa_cons (pe_ix ix_tup (pv 1) pe_int (fun _ _ => rfl)) pa_nil)))) (blkOk_by (N := N_l_columns) (sc := defScope s_l_columns) (by decide +kernel)) (fun _ _ _ _ _ => (pg_name (i := 4) nd rfl (Or.inl rfl))) (fun _ _ _ _ _ => pts_one (pt_cmpR op_ne (pv 4) (pe_ix (ix_tupK K) (pv 1) pe_int (fun _ _ => rfl)) (nomark _))) (fun _ _ _ _ _ => (pv 4)))))
        pss_nil)
      (pss_cons (ps_set (i := 2) nd rfl (Or.inl rfl) (pe_lst pa_nil))
      (pss_cons (ps_for PassesOwn.never rfl (pi_tup (pe_ix ix_tup (pv 1) pe_int (fun _ _ => rfl))) (pg_name (i := 3) nd rfl (Or.inl rfl))
        (pss_one (ps_set (i := 2) nd rfl (Or.inl rfl) (pe_op op_cat (pv 2) (pe_ok G_l_columns (hr.mono (by first | decide | omega)) rfl (pa_cons (pv 0) (pa_cons (pv 3) pa_nil)))))))
      (pss_one (ps_ret (pe_callB (cr_sortTx rfl hu64) (by rfl) (T.bl "sorted" (by decide)) (by decide +kernel) (pa_cons (pe_callTy (cr_setTx rfl) (by rfl) (T.bl "set" (by decide)) (by decide +kernel) (pa_cons (pv 2) pa_nil)) pa_nil)))))))), ?_⟩
    obtain ⟨j, l, x0, xs, rfl, hj, hl, hxs⟩ := jo_inv hu
    have aok := aok_of hu
    cases p with
    | scan i =>
      obtain ⟨b, v1, v2, rfl, hb, h1, h2⟩ := two_inv hv
      obtain ⟨rfl, _⟩ := is_s_inv h1
      have e2 := is_i_inv h2
      subst e2
      obtain ⟨a, ha, ea, et⟩ := termsAt_mem (wf.there i (by simp [beneath]))
      obtain ⟨va, eva, hva⟩ := hxs.get (i := i) (d := atT a) (by rw [List.getElem?_map, ea]; rfl)
      refine ⟨.ref b, rfl, b, _, 0, _, rfl, rfl, .inl (.inl hb), at0, rfl, true, by decide +kernel, ?_⟩
      refine ⟨.ref j, rfl, j, _, 1, _, rfl, rfl, .inl (.inl hj), at1, .ref b, rfl, b, _, 1, _, rfl, rfl, .inl (.inl hb), at1, l, _, _, _, rfl, rfl, .inl (.inl hl), atI_nat eva, va, a, rfl, hva, fa.2 a ha, fun _ l' H' sm nl his => q l' H' sm nl ?_⟩
      rw [cols, et]
      exact his
    | proj x pq =>
      obtain ⟨b, v1, v2, v3, rfl, hb, h1, h2, h3⟩ := three_inv hv
      obtain ⟨rfl, _⟩ := is_s_inv h1
      obtain ⟨rfl, _⟩ := is_s_inv h2
      refine ⟨.ref b, rfl, b, _, 0, _, rfl, rfl, .inl (.inl hb), at30, rfl, false, by decide +kernel, ?_⟩
      refine ⟨.ref b, rfl, b, _, 0, _, rfl, rfl, .inl (.inl hb), at30, rfl, true, by decide +kernel, ?_⟩
      refine r_ret (lc_listG ?_)
      refine ⟨.ref j, rfl, .ref b, rfl, b, _, 2, _, rfl, rfl, .inl (.inl hb), at32, .ref j, v3, as, pq, rfl, hu, h3, fa, wf.proj, by rw [ht] at hh; omega, fun c H' sm nc hc => ?_⟩
      have okc := cols_ok aok pq
      refine ⟨c, rfl, ⟨_, .inl (.inl hc)⟩, ?_⟩
      refine c_listF (fStr fun y => decide (y ≠ x)) hc (isL_strs okc) (by rw [List.length_map]; exact wf.proj.cols fa) (fun D H2 vs sm2 hD hvs hl2 => ?_) (fun i y t H2 et sm2 hty Y Z hY hZ => ?_)
      · rw [fm_strs] at hl2
        rw [(hl2.strs).1] at hvs
        refine q D H2 (same_tr sm sm2) (none_back sm hD) ?_
        rw [cols]
        exact hvs
      · obtain ⟨y', ey', e2⟩ := map_get et
        subst e2
        obtain ⟨rfl, oky⟩ := is_s_inv hty
        have hb2 := sm2 _ _ (sm _ _ hb)
        refine ⟨rfl, .str y', rfl, .ref b, rfl, b, _, 1, _, rfl, rfl, .inl (.inl hb2), at31, rfl, decide (y' ≠ x), ?_, ?_⟩
        · by_cases z : y' = x
          · rw [z]; simp
          · have z2 : V.str y' ≠ V.str x := fun e => z (by injection e)
            simp [z, z2]
        · by_cases z : y' = x
          · rw [decide_eq_false (by simpa using z)]
            exact hZ _ (by simp [fStr, z]) (same_refl _)
          · rw [decide_eq_true z]
            exact ⟨.str y', rfl, hY _ _ _ (by simp [fStr, z]) (same_refl _) (is_s oky)⟩
    | join ps =>
      obtain ⟨b, v1, v2, rfl, hb, h1, h2⟩ := two_inv hv
      obtain ⟨rfl, _⟩ := is_s_inv h1
      obtain ⟨pb, pxs, rfl, hpb, hpx⟩ := is_t_inv h2
      refine ⟨.ref b, rfl, b, _, 0, _, rfl, rfl, .inl (.inl hb), at0, rfl, false, by decide +kernel, ?_⟩
      refine ⟨.ref b, rfl, b, _, 0, _, rfl, rfl, .inl (.inl hb), at0, rfl, false, by decide +kernel, ?_⟩
      refine ⟨le_line (by decide), fun n hn => ?_⟩
      have sm1 : Same H (upd H n (.lst [])) := Same.new hn
      refine ⟨.ref b, rfl, b, _, 1, _, rfl, rfl, .inl (.inl (sm1 _ _ hb)), at1, pb, rfl, ⟨_, .inl (.inl (sm1 _ _ hpb))⟩, ?_⟩
      refine j_tup pxs (fun i σ H' => ∃ (pt : Option V) (m : Addr), σ = [some (.ref j), some (.ref b), some (.ref m), pt, none] ∧ Same H H' ∧ H' m = some (.lst ((colss as (ps.take i)).map V.str)))
        ⟨_, n, rfl, sm1, upd_same⟩ (fun i σ H' h => by obtain ⟨_, _, _, sm, _⟩ := h; exact .inl (.inl (sm _ _ hpb))) (fun σ H' h => ?_) (fun i x σ H' e h => ?_)
      · obtain ⟨pt, m, rfl, sm, hn'⟩ := h
        have elen : pxs.length = ps.length := by rw [hpx.length, plTs_len]
        rw [elen, List.take_length] at hn'
        refine ⟨.ref m, rfl, m, _, rfl, .inl (.inl hn'), wf.colss fa, fun a ha => ⟨a, _, rfl, upd_same, fun p hp => q p _ (same_tr sm (same_tr (Same.new ha) (Same.new hp))) (none_back sm (none_back (Same.new ha) hp)) ?_⟩⟩
        rw [cols]
        exact upd_same
      · obtain ⟨pt, m, rfl, sm, hn'⟩ := h
        obtain ⟨p, ep, mp, hp⟩ := pl_mem hpx e
        have tk := TK.of sm
        refine ⟨.ref m, rfl, .ref j, rfl, x, rfl, .ref j, x, as, p, rfl, Is.mono tk _ _ hu, Is.mono tk _ _ hp, fa, wf.part mp, by rw [ht] at hh; have := ht_mem mp; omega, fun c H2 sm2 nc hc => ?_⟩
        have hn2 := sm2 _ _ hn'
        have etk : colss as (ps.take (i + 1)) = colss as (ps.take i) ++ cols as p := by
          rw [take_succ ep, colss_append]
          simp [colss]
        refine ⟨m, c, _, _, rfl, rfl, hn2, hc, ?_, fun z hz => ?_⟩
        · rw [List.length_map, List.length_map, ← List.length_append, ← etk]
          exact le_line (Nat.le_trans (colss_take ps _) (wf.colss fa))
        · refine ⟨_, z, rfl, same_tr sm (same_tr sm2 (Same.new hz)), ?_⟩
          rw [upd_same, etk, List.map_append]
end
end K48
set_option maxRecDepth 100000
set_option maxHeartbeats 4000000
namespace K48
open PySem PySem.Spec PyProof.Rows L2
/-! ### dicts of shares: rows to rationals -/
abbrev DD := List (List Key × Rat)
def valD : DD → List Key → Option Rat
  | [], _ => none
  | (j, q) :: r, k => if j = k then some q else valD r k
def putD : DD → List Key → Rat → DD
  | [], k, q => [(k, q)]
  | (j, x) :: r, k, q => if j = k then (j, q) :: r else (j, x) :: putD r k q
def sumB : DD → Nat
  | [] => 0
  | (_, q) :: r => bt q + sumB r
def keysD (d : DD) : List (List Key) := d.map (·.1)
theorem valD_put (k j : List Key) (q : Rat) : ∀ d : DD, valD (putD d k q) j = if j = k then some q else valD d j
  | [] => by
    by_cases h : k = j
    · simp [putD, valD, h]
    · simp [putD, valD, h, Ne.symm h]
  | (i, x) :: r => by
    have ih := valD_put k j q r
    by_cases h : i = k
    · subst h
      by_cases g : i = j
      · simp [putD, valD, g]
      · simp [putD, valD, g, Ne.symm g]
    · by_cases g : i = j
      · subst g
        simp [putD, valD, h]
      · simp [putD, valD, h, g, ih]
theorem len_put (k : List Key) (q : Rat) : ∀ d : DD, (putD d k q).length ≤ d.length + 1
  | [] => by simp [putD]
  | (i, x) :: r => by
    have ih := len_put k q r
    by_cases h : i = k
    · simp [putD, h]
    · simp [putD, h]
      omega
theorem sum_put (k : List Key) (q : Rat) : ∀ d : DD, sumB (putD d k q) + bt ((valD d k).getD 1) = sumB d + bt q
  | [] => by simp [putD, valD, sumB, bt_one]
  | (i, x) :: r => by
    have ih := sum_put k q r
    by_cases h : i = k
    · simp [putD, valD, sumB, h]
      omega
    · simp [putD, valD, sumB, h]
      omega
theorem mem_put {k : List Key} {q : Rat} : ∀ {d : DD} {p : List Key × Rat}, p ∈ putD d k q → p = (k, q) ∨ p ∈ d
  | [], p, h => .inl (by simpa [putD] using h)
  | (i, x) :: r, p, h => by
    by_cases g : i = k
    · simp only [putD, g, if_true] at h
      rcases List.mem_cons.mp h with e | e
      · exact .inl e
      · exact .inr (List.mem_cons_of_mem _ e)
    · simp only [putD, g, if_false] at h
      rcases List.mem_cons.mp h with e | e
      · exact .inr (by rw [e]; exact List.mem_cons_self ..)
      · rcases mem_put e with z | z
        · exact .inl z
        · exact .inr (List.mem_cons_of_mem _ z)
theorem nodup_put {k : List Key} {q : Rat} : ∀ {d : DD}, (keysD d).Nodup → (keysD (putD d k q)).Nodup
  | [], _ => by simp [putD, keysD]
  | (i, x) :: r, h => by
    obtain ⟨h1, h2⟩ := List.nodup_cons.mp h
    by_cases g : i = k
    · simp only [putD, g, if_true]
      rw [← g]
      exact h
    · simp only [putD, g, if_false]
      refine List.nodup_cons.mpr ⟨fun m => ?_, nodup_put h2⟩
      obtain ⟨p, hp, e⟩ := List.mem_map.mp m
      rcases mem_put hp with z | z
      · rw [z] at e
        exact g e.symm
      · exact h1 (List.mem_map.mpr ⟨p, z, e⟩)
theorem valD_mem : ∀ {d : DD} {k : List Key} {q : Rat}, valD d k = some q → (k, q) ∈ d
  | (i, x) :: r, k, q, h => by
    by_cases g : i = k
    · simp only [valD, g, if_true] at h
      rw [g, Option.some.inj h]
      exact List.mem_cons_self ..
    · simp only [valD, g, if_false] at h
      exact List.mem_cons_of_mem _ (valD_mem h)
theorem valD_of_mem : ∀ {d : DD} {k : List Key} {q : Rat}, (keysD d).Nodup → (k, q) ∈ d → valD d k = some q
  | (i, x) :: r, k, q, n, h => by
    obtain ⟨h1, h2⟩ := List.nodup_cons.mp n
    rcases List.mem_cons.mp h with e | e
    · injection e with e1 e2
      simp [valD, e1, e2]
    · have g : i ≠ k := fun z => h1 (List.mem_map.mpr ⟨(k, q), e, z.symm⟩)
      simp only [valD, g, if_false]
      exact valD_of_mem h2 e
theorem valD_none {d : DD} {k : List Key} (h : k ∉ keysD d) : valD d k = none := by
  cases e : valD d k with
  | none => rfl
  | some q => exact absurd (List.mem_map.mpr ⟨(k, q), valD_mem e, rfl⟩) h
theorem sumB_mem : ∀ {d : DD} {k : List Key} {q : Rat}, (k, q) ∈ d → bt q ≤ sumB d
  | (i, x) :: r, k, q, h => by
    rw [sumB]
    rcases List.mem_cons.mp h with e | e
    · injection e with _ e2
      rw [e2]
      omega
    · have := sumB_mem e
      omega
/-- the dict in the heap -/
def DV (H : Hp) : List (List Key × V) → DD → Prop
  | [], [] => True
  | (k, v) :: r, (j, q) :: s => k = j ∧ Is H v (shT q) ∧ DV H r s
  | _, _ => False
theorem DV.mono {H H' : Hp} (t : TK H H') : ∀ {kvs : List (List Key × V)} {d : DD}, DV H kvs d → DV H' kvs d
  | [], [], _ => True.intro
  | [], _ :: _, h => h.elim
  | (_, _) :: _, [], h => h.elim
  | (_, _) :: _, (_, _) :: _, ⟨a, b, c⟩ => ⟨a, Is.mono t _ _ b, DV.mono t c⟩
theorem DV.len {H : Hp} : ∀ {kvs : List (List Key × V)} {d : DD}, DV H kvs d → kvs.length = d.length
  | [], [], _ => rfl
  | [], _ :: _, h => h.elim
  | (_, _) :: _, [], h => h.elim
  | (_, _) :: _, (_, _) :: _, ⟨_, _, c⟩ => by rw [List.length_cons, List.length_cons, DV.len c]
theorem DV.val {H : Hp} {k : List Key} : ∀ {kvs : List (List Key × V)} {d : DD}, DV H kvs d → (valD d k = none ∧ valV kvs k = none) ∨ ∃ q v, valD d k = some q ∧ valV kvs k = some v ∧ Is H v (shT q)
  | [], [], _ => .inl ⟨rfl, rfl⟩
  | [], _ :: _, h => h.elim
  | (_, _) :: _, [], h => h.elim
  | (i, v) :: r, (j, q) :: s, ⟨a, b, c⟩ => by
    subst a
    by_cases g : i = k
    · exact .inr ⟨q, v, by simp [valD, g], valV_pos g, b⟩
    · have e : valV ((i, v) :: r) k = valV r k := by simp [valV, List.find?_cons, g]
      rw [e]
      simp only [valD, g, if_false]
      exact DV.val c
theorem DV.get {H : Hp} : ∀ {kvs : List (List Key × V)} {d : DD} {i : Nat} {k : List Key} {v : V}, DV H kvs d → kvs[i]? = some (k, v) → ∃ q, d[i]? = some (k, q) ∧ Is H v (shT q)
  | [], [], _, _, _, _, e => by simp at e
  | [], _ :: _, _, _, _, h, _ => h.elim
  | (_, _) :: _, [], _, _, _, h, _ => h.elim
  | (i, v) :: r, (j, q) :: s, 0, k, u, ⟨a, b, c⟩, e => by
    have e2 : (i, v) = (k, u) := by simpa using e
    injection e2 with e3 e4
    subst a e3 e4
    exact ⟨q, rfl, b⟩
  | (i, v) :: r, (j, q) :: s, n + 1, k, u, ⟨a, b, c⟩, e => by
    obtain ⟨q', h1, h2⟩ := DV.get (i := n) c (by simpa using e)
    exact ⟨q', by simpa using h1, h2⟩
theorem putK_hit {k : List Key} {v x : V} {r : List (List Key × V)} (n : k ∉ r.map (·.1)) : putK ((k, x) :: r) k v = (k, v) :: r := by
  unfold putK
  rw [if_pos (by simp)]
  rw [List.map_cons]
  simp only [if_true]
  congr 1
  have e : r.map (fun kv => if kv.1 = k then (kv.1, v) else kv) = r.map id := List.map_congr_left fun p hp => by
    rw [if_neg (fun z => n (by rw [← z]; exact List.mem_map.mpr ⟨p, hp, rfl⟩))]
    rfl
  rw [e, List.map_id]
theorem putK_miss {i k : List Key} {v x : V} {r : List (List Key × V)} (n : i ≠ k) : putK ((i, x) :: r) k v = (i, x) :: putK r k v := by
  unfold putK
  have e : ((i, x) :: r).any (fun kv => decide (kv.1 = k)) = r.any (fun kv => decide (kv.1 = k)) := by simp [n]
  rw [e]
  split
  · rw [List.map_cons, if_neg n]
  · rfl
theorem DV.keys {H : Hp} : ∀ {kvs : List (List Key × V)} {d : DD}, DV H kvs d → kvs.map (·.1) = keysD d
  | [], [], _ => rfl
  | [], _ :: _, h => h.elim
  | (_, _) :: _, [], h => h.elim
  | (_, _) :: _, (_, _) :: _, ⟨a, _, c⟩ => by
    subst a
    unfold keysD
    rw [List.map_cons, List.map_cons, DV.keys c]
    rfl
theorem DV.put {H : Hp} {k : List Key} {v : V} {q : Rat} (hv : Is H v (shT q)) : ∀ {kvs : List (List Key × V)} {d : DD}, DV H kvs d → (keysD d).Nodup → DV H (putK kvs k v) (putD d k q)
  | [], [], _, _ => ⟨rfl, hv, True.intro⟩
  | [], _ :: _, h, _ => h.elim
  | (_, _) :: _, [], h, _ => h.elim
  | (i, x) :: r, (j, y) :: s, ⟨a, b, c⟩, n => by
    subst a
    obtain ⟨n1, n2⟩ := List.nodup_cons.mp n
    by_cases g : i = k
    · subst g
      have n3 : i ∉ r.map (·.1) := by rw [DV.keys c]; exact n1
      rw [putK_hit n3]
      simp only [putD, if_true]
      exact ⟨rfl, hv, c⟩
    · rw [putK_miss g]
      simp only [putD, g, if_false]
      exact ⟨rfl, b, DV.put hv c n2⟩
/-- what a dict tells: over the columns cs the number V e at the row of e, none for 0; its bits, its length -/
structure Den (cs : List Str) (V : (Str → Key) → Rat) (B L : Nat) (d : DD) : Prop where
  look : ∀ e, valD d (cs.map e) = if V e = 0 then none else some (V e)
  keys : ∀ p ∈ d, (∃ e : Str → Key, p.1 = cs.map e) ∧ ∀ k ∈ p.1, kOk k = true
  nodup : (keysD d).Nodup
  un : ∀ p ∈ d, Un p.2
  size : sumB d ≤ B
  len : d.length ≤ L
theorem Den.row {cs : List Str} {V : (Str → Key) → Rat} {B L : Nat} {d : DD} (D : Den cs V B L d) {k : List Key} {q : Rat} (h : (k, q) ∈ d) : ∃ e, k = cs.map e ∧ q = V e ∧ V e ≠ 0 ∧ Un q ∧ bt q ≤ B := by
  obtain ⟨⟨e, he⟩, _⟩ := D.keys _ h
  have v := valD_of_mem D.nodup h
  simp only at he
  rw [he, D.look e] at v
  refine ⟨e, he, ?_⟩
  by_cases z : V e = 0
  · rw [if_pos z] at v
    cases v
  · rw [if_neg z] at v
    exact ⟨(Option.some.inj v).symm, z, D.un _ h, Nat.le_trans (sumB_mem h) D.size⟩
theorem Den.unV {cs : List Str} {V : (Str → Key) → Rat} {B L : Nat} {d : DD} (D : Den cs V B L d) (e : Str → Key) : Un (V e) ∧ bt (V e) ≤ B := by
  have v := D.look e
  by_cases z : V e = 0
  · rw [z]
    exact ⟨un_zero, by rw [bt_zero]; exact Nat.zero_le _⟩
  · rw [if_neg z] at v
    have m := valD_mem v
    exact ⟨D.un _ m, Nat.le_trans (sumB_mem m) D.size⟩
end K48
set_option maxRecDepth 100000
set_option maxHeartbeats 4000000
namespace K48
open PySem PySem.Spec PyProof.Rows L2
section
variable {X : Cx} {tg e : Expr} {tl : TE} {K : PySem.W.Frag} {g : TG} {tt : TT} {te : TE} {ids : List Nat} {σ : L2.St} {H : Hp} {Q : VK}
/-- a list or a tuple is gone through -/
def iLT (K : PySem.W.Frag) (tl : TE) : TI := fun σ H R => iList K tl σ H R ∨ iTup K tl σ H R
theorem pi_lt (he : PE X e tl) : PI X tg e (iLT X.K tl) := ⟨fun pins s σ H R I h => h.elim (fun k => (pi_list he).run pins s σ H R I k) fun k => (pi_tup he).run pins s σ H R I k⟩
theorem lc_ltL (h : tLc (iList K tl) g tt te ids σ H Q) : tLc (iLT K tl) g tt te ids σ H Q := .inl h
theorem lc_ltT (h : tLc (iTup K tl) g tt te ids σ H Q) : tLc (iLT K tl) g tt te ids σ H Q := .inr h
end
/-! ### a row by its columns -/
def idx : List Str → Str → Nat
  | [], _ => 0
  | y :: ys, x => if y = x then 0 else idx ys x + 1
theorem idx_get : ∀ {ys : List Str} {x : Str}, x ∈ ys → ys[idx ys x]? = some x
  | y :: ys, x, h => by
    by_cases e : y = x
    · simp [idx, e]
    · rw [idx, if_neg e]
      simpa using idx_get ((List.mem_cons.mp h).resolve_left (Ne.symm e))
theorem idx_no : ∀ {ys : List Str} {x : Str} {m : Nat}, m < idx ys x → ys[m]? ≠ some x
  | [], x, m, h => absurd h (Nat.not_lt_zero _)
  | y :: ys, x, m, h => by
    by_cases e : y = x
    · rw [idx, if_pos e] at h
      exact absurd h (Nat.not_lt_zero _)
    · rw [idx, if_neg e] at h
      cases m with
      | zero => simpa using e
      | succ m => simpa using idx_no (ys := ys) (m := m) (by omega)
/-- the value at a column -/
def atC (cs : List Str) (row : List Key) (x : Str) : Key := row.getD (idx cs x) (.inl 0)
def pick (cs : List Str) (row : List Key) (ws : List Str) : List Key := ws.map (atC cs row)
theorem atC_map {cs : List Str} {x : Str} (e : Str → Key) (h : x ∈ cs) : atC cs (cs.map e) x = e x := by
  unfold atC
  rw [List.getD_eq_getElem?_getD, List.getElem?_map, idx_get h]
  rfl
theorem pick_map {cs ws : List Str} (e : Str → Key) (h : ∀ x ∈ ws, x ∈ cs) : pick cs (cs.map e) ws = ws.map e := List.map_congr_left fun x hx => atC_map e (h x hx)
theorem atC_get {cs : List Str} {row : List Key} {x : Str} (h : x ∈ cs) (len : row.length = cs.length) : row[idx cs x]? = some (atC cs row x) := by
  have hi := idx_get h
  obtain ⟨l, _⟩ := List.getElem?_eq_some_iff.mp hi
  unfold atC
  rw [List.getD_eq_getElem?_getD, List.getElem?_eq_getElem (by omega)]
  rfl
def strOfT : T → Str
  | .s x => x
  | _ => Str.empty
theorem fm_pick (f : Str → T) : ∀ ws : List Str, (ws.map T.s).filterMap (fun t => some (f (strOfT t))) = ws.map f
  | [] => rfl
  | x :: ws => by
    rw [List.map_cons, List.filterMap_cons]
    exact congrArg (f x :: ·) (fm_pick f ws)
/-! ### terms against rows -/
def inst (e : Str → Key) : Tm → Key
  | .var x => e x
  | .val k => k
theorem inst_eq {ts : List Tm} {e e' : Str → Key} : ts.map (inst e) = ts.map (inst e') ↔ ∀ x ∈ avs ts, e x = e' x := by
  have mem : ∀ {ts : List Tm} {x : Str}, x ∈ avs ts ↔ Tm.var x ∈ ts := fun {ts x} => by
    unfold avs
    rw [mem_csort, List.mem_filterMap]
    constructor
    · rintro ⟨t, ht, e⟩
      cases t with
      | var y => injection e with e; rw [← e]; exact ht
      | val k => cases e
    · exact fun h => ⟨_, h, rfl⟩
  rw [List.map_inj_left]
  constructor
  · intro h x hx
    exact h _ (mem.mp hx)
  · intro h t ht
    cases t with
    | var x => exact h x (mem.mpr ht)
    | val k => rfl
theorem mem_avs {ts : List Tm} {x : Str} : x ∈ avs ts ↔ Tm.var x ∈ ts := by
  unfold avs
  rw [mem_csort, List.mem_filterMap]
  constructor
  · rintro ⟨t, ht, e⟩
    cases t with
    | var y => injection e with e; rw [← e]; exact ht
    | val k => cases e
  · exact fun h => ⟨_, h, rfl⟩
theorem inst_cols {ts : List Tm} {e e' : Str → Key} : ts.map (inst e) = ts.map (inst e') ↔ (avs ts).map e = (avs ts).map e' := by
  rw [inst_eq, List.map_inj_left]
/-- the columns: kept, or none asked of them -/
def CoT (H : Hp) (c : V) (cs ws : List Str) : Prop := ∃ a, c = .ref a ∧ (ws = [] ∨ ∃ o, o.dict = none ∧ H a = some (.frz o (.tup (cs.map V.str))))
section
variable {P : Program} {w : World} {K : PySem.W.Frag} {mg : Str → Option Value} {base : Heap}
def N_part_of : List Str := ["columns", "row", "wanted", "name"]
def p_part_of : List Str := ["columns", "row", "wanted"]
theorem sc_part_of : FnScope N_part_of p_part_of (defScope s_part_of) := ⟨rfl, rfl, rfl, by decide +kernel, rfl, by decide +kernel, by decide +kernel⟩
def sp_part_of (K : PySem.W.Frag) : Sp := fun vs H Q _ => ∃ (c r : V) (a : Addr) (cs ws : List Str) (row : List Key), vs = [c, r, .ref a] ∧ CoT H c cs ws ∧ Is H r (rowT row) ∧ row.length = cs.length ∧ (H a = some (.lst (ws.map V.str)) ∨ ∀ H', Same H H' → SqT K H' a (ws.map V.str)) ∧
  (∀ x ∈ ws, x ∈ cs ∧ strOk x = true) ∧ ws.length ≤ 1000 ∧ Gives H Q (rowT (pick cs row ws))
theorem getD_ok {row : List Key} (ok : ∀ k ∈ row, kOk k = true) (i : Nat) : kOk (row.getD i (.inl 0)) = true := by
  rw [List.getD_eq_getElem?_getD]
  cases e : row[i]? with
  | none => rfl
  | some k => exact ok k (List.mem_of_getElem? e)
theorem ok_part_of (T : Tx K mg) : Ok P w K mg base 1 "part_of" p_part_of (sp_part_of K) := by
  refine T.ok i_part_of sc_part_of (fun _ _ _ _ _ _ us h => by match us, h with | [_, _, _], _ => rfl) (fun vs H Q E h => by obtain ⟨_, _, _, _, _, _, rfl, _⟩ := h; rfl) (fun f cdv A outer s H vs Q E hr h => ?_)
  obtain ⟨c, r, a, cs, ws, row, rfl, hc, hr2, len, ha, sub, few, q⟩ := h
  have nd := sc_part_of.nd
  refine ⟨_, (pss_one (ps_ret (pe_callTy call_tuple_of (by rfl) (T.bl "tuple" (by decide)) (by decide +kernel) (pa_cons (pe_lc (own := [("name", 3)]) (by rfl) nd (pi_lt (pv 2)) (blkOk_by (N := N_part_of) (sc := defScope s_part_of) (by decide +kernel)) (fun _ _ _ _ _ => (pg_name (i := 3) nd rfl (Or.inl rfl))) (fun _ _ _ _ _ => pts_nil) (fun _ _ _ _ _ => (pe_ix (ix_tupK K) (pv 1) (pe_bmF PySem.F.plainAttrs_tuple PySem.F.slot_tuple_index PySem.F.type_tuple_index (mt_tup_indexK K) (pv 0) (pa_cons (pv 3) pa_nil)) (fun _ _ => rfl)))) pa_nil)))), ?_⟩
  obtain ⟨ca, rfl, hca⟩ := hc
  obtain ⟨ra, rfl, hra, okr⟩ := row_inv hr2
  refine r_ret (r_cb (r_cons ?_))
  have okw : ∀ x ∈ ws, strOk x = true := fun x hx => (sub x hx).2
  have step : ∀ (i : Nat) (x : V) (t : K48.T) (H' : Hp), (ws.map K48.T.s)[i]? = some t → Same H H' → Is H' x t → TurnF (gName 3) tYes (tOp (rIxT K) (tVar 1) (tBMF (rTupIx K) (tVar 0) (tCons (tVar 3) tNil))) [3] (L2.start N_part_of [.ref ca, .ref ra, .ref a]) x H' (some (kT (atC cs row (strOfT t)))) := by
    intro i x t H' et sm ht Y Z hY hZ
    obtain ⟨y, ey, e2⟩ := map_get et
    subst e2
    obtain ⟨rfl, oky⟩ := is_s_inv ht
    have mw := List.mem_of_getElem? ey
    have my := (sub y mw).1
    have kept : ∃ o, o.dict = none ∧ H ca = some (.frz o (.tup (cs.map V.str))) := by
      rcases hca with z | z
      · rw [z] at mw; cases mw
      · exact z
    obtain ⟨co, cd, hco⟩ := kept
    have hc' := sm _ _ hco
    refine ⟨rfl, .ref ra, rfl, .ref ca, rfl, ⟨ca, co, _, rfl, cd, hc'⟩, .str y, rfl, ca, cs, y, idx cs y, rfl, rfl, .inl (.inr ⟨co, hc'⟩), idx_get my, fun m hm => idx_no hm, ra, row.map kV, _, _, rfl, rfl, .inl (.inl (sm _ _ hra)), atI_nat (by rw [List.getElem?_map, atC_get my len]; rfl), ?_⟩
    exact hY _ _ _ rfl (same_refl _) (is_k (getD_ok okr _))
  have done : ∀ (H' : Hp) (D : Addr) vs, Same H H' → H' D = some (.lst vs) → IsL H' vs ((ws.map K48.T.s).filterMap (fun t => some (kT (atC cs row (strOfT t))))) → ∀ l, H' l = none → Is (upd H' l (.tup vs)) (.ref l) (rowT (pick cs row ws)) := fun H' D vs sm hv hl l hl2 => by
    have e := fm_pick (fun x => kT (atC cs row x)) ws
    rw [e] at hl
    refine is_t upd_same ?_
    have e2 : (pick cs row ws).map kT = ws.map fun x => kT (atC cs row x) := by unfold pick; rw [List.map_map]; rfl
    rw [e2]
    exact IsL.mono (TK.of (Same.new hl2)) _ _ hl
  rcases ha with ha | ha'
  · refine lc_ltL (lc_listF (fun t => some (kT (atC cs row (strOfT t)))) H (fun R r => ⟨_, rfl, r⟩) ha (isL_strs okw) (by rw [List.length_map]; exact few) (fun D H' vs sm hD hv hl => ?_) step)
    exact ⟨D, vs, rfl, .inl ⟨.inl (.inl hv), fun l hl2 => q _ _ (same_tr sm (Same.new hl2)) (done H' D vs sm hv hl l hl2)⟩⟩
  · refine lc_ltT (lc_tupF (fun t => some (kT (atC cs row (strOfT t)))) H (fun R r => ⟨_, rfl, r⟩) (fun H' s => ha' H' s) (isL_strs okw) (by rw [List.length_map]; exact few) (fun D H' vs sm hD hv hl => ?_) step)
    exact ⟨D, vs, rfl, .inl ⟨.inl (.inl hv), fun l hl2 => q _ _ (same_tr sm (Same.new hl2)) (done H' D vs sm hv hl l hl2)⟩⟩
end
end K48
set_option maxRecDepth 100000
set_option maxHeartbeats 4000000
namespace K48
open PySem PySem.Spec PyProof.Rows L2
/-! ### stores -/
abbrev Place := Str × List Key
def plOf (f : Fact) : Place := (f.1, f.2.1)
/-- the chance that a store tells of a place, 0 where it tells none -/
def chOf : List Fact → Place → Rat
  | [], _ => 0
  | f :: r, p => if plOf f = p then f.2.2 else chOf r p
theorem chOf_none {p : Place} : ∀ {s : List Fact}, p ∉ s.map plOf → chOf s p = 0
  | [], _ => rfl
  | f :: r, h => by
    rw [chOf, if_neg (fun e => h (by rw [List.map_cons, e]; exact List.mem_cons_self ..))]
    exact chOf_none fun m => h (by rw [List.map_cons]; exact List.mem_cons_of_mem _ m)
theorem chOf_mem {f : Fact} : ∀ {s : List Fact}, (s.map plOf).Nodup → f ∈ s → chOf s (plOf f) = f.2.2
  | g :: r, n, h => by
    rw [List.map_cons] at n
    obtain ⟨n1, n2⟩ := List.nodup_cons.mp n
    rcases List.mem_cons.mp h with e | e
    · rw [chOf, e, if_pos rfl]
    · rw [chOf, if_neg (fun z => n1 (by rw [z]; exact List.mem_map.mpr ⟨f, e, rfl⟩))]
      exact chOf_mem n2 e
theorem chOf_snoc {f : Fact} {p : Place} : ∀ {s : List Fact}, plOf f ∉ s.map plOf → chOf (s ++ [f]) p = if plOf f = p then f.2.2 else chOf s p
  | [], _ => by
    show (if plOf f = p then f.2.2 else 0) = _
    rfl
  | g :: r, h => by
    rw [List.map_cons] at h
    have h1 : plOf g ≠ plOf f := fun e => h (by rw [e]; exact List.mem_cons_self ..)
    have ih := chOf_snoc (p := p) (s := r) fun m => h (List.mem_cons_of_mem _ m)
    show (if plOf g = p then g.2.2 else chOf (r ++ [f]) p) = _
    rw [ih]
    show _ = if plOf f = p then f.2.2 else if plOf g = p then g.2.2 else chOf r p
    by_cases e : plOf g = p
    · rw [if_pos e, if_pos e, if_neg (fun z => h1 (e.trans z.symm))]
    · rw [if_neg e, if_neg e]
theorem chOf_un {p : Place} : ∀ {s : List Fact}, (∀ f ∈ s, Un f.2.2) → Un (chOf s p)
  | [], _ => un_zero
  | f :: r, h => by
    rw [chOf]
    split
    · exact h f (List.mem_cons_self ..)
    · exact chOf_un fun g hg => h g (List.mem_cons_of_mem _ hg)
/-- what a scan tells -/
def scanV (ch : Place → Rat) (a : Atom) (e : Str → Key) : Rat := ch (a.1, a.2.map (inst e))
def cnt (n : Str) (s : List Fact) : Nat := (s.filter fun f => decide (f.1 = n)).length
/-- a store as the program has it -/
structure StOk (b : Nat) (s : List Fact) : Prop where
  nodup : (s.map plOf).Nodup
  un : ∀ f ∈ s, Un f.2.2
  bits : ∀ f ∈ s, bt f.2.2 ≤ b
  few : s.length ≤ 100
/-- the rows of the atom's table are as long as its terms -/
def Arity (s : List Fact) (a : Atom) : Prop := ∀ f ∈ s, f.1 = a.1 → f.2.1.length = a.2.length
theorem Den.more {cs : List Str} {V V' : (Str → Key) → Rat} {B L B' L' : Nat} {d : DD} (D : Den cs V B L d) (h : ∀ e, V' e = V e) (b : B ≤ B') (l : L ≤ L') : Den cs V' B' L' d :=
  ⟨fun e => by rw [D.look e, h e], D.keys, D.nodup, D.un, Nat.le_trans D.size b, Nat.le_trans D.len l⟩
theorem Den.put {cs : List Str} {V V' : (Str → Key) → Rat} {B L b : Nat} {d : DD} {q : Rat} (D : Den cs V B L d) (e0 : Str → Key) (h0 : V e0 = 0) (hq : Un q) (nq : q ≠ 0) (hb : bt q ≤ b) (ok : ∀ k ∈ cs.map e0, kOk k = true)
    (h : ∀ e, V' e = if cs.map e = cs.map e0 then q else V e) : Den cs V' (B + b) (L + 1) (putD d (cs.map e0) q) := by
  have no : valD d (cs.map e0) = none := by rw [D.look e0, if_pos h0]
  refine ⟨fun e => ?_, fun p hp => ?_, nodup_put D.nodup, fun p hp => ?_, ?_, Nat.le_trans (len_put _ _ _) (Nat.succ_le_succ D.len)⟩
  · rw [valD_put, D.look e, h e]
    by_cases z : cs.map e = cs.map e0
    · rw [if_pos z, if_pos z, if_neg nq]
    · rw [if_neg z, if_neg z]
  · rcases mem_put hp with z | z
    · exact ⟨⟨e0, by rw [z]⟩, by rw [z]; exact ok⟩
    · exact D.keys p z
  · rcases mem_put hp with z | z
    · rw [z]; exact hq
    · exact D.un p z
  · have s := sum_put (cs.map e0) q d
    rw [no] at s
    have b1 : bt ((none : Option Rat).getD 1) = 0 := bt_one
    have ds := D.size
    omega
/-- a match that fails fails for good -/
theorem no_match_val {ts : List Tm} {row : List Key} {i : Nat} {c k : Key} (h : ts[i]? = some (.val c)) (hk : row[i]? = some k) (n : c ≠ k) : ∀ e, ts.map (inst e) ≠ row := fun e z => by
  have q : (ts.map (inst e))[i]? = some c := by rw [List.getElem?_map, h]; rfl
  rw [z, hk] at q
  exact n (Option.some.inj q).symm
theorem no_match_var {ts : List Tm} {row : List Key} {i : Nat} {x : Str} {k : Key} {e : Str → Key} (h : ts[i]? = some (.var x)) (hk : row[i]? = some k) (m : x ∈ avs (ts.take i)) (he : (ts.take i).map (inst e) = row.take i) (n : e x ≠ k) : ∀ e', ts.map (inst e') ≠ row := fun e' z => by
  have q : (ts.map (inst e'))[i]? = some (e' x) := by rw [List.getElem?_map, h]; rfl
  rw [z, hk] at q
  have t : (ts.take i).map (inst e') = (ts.take i).map (inst e) := by rw [he, ← z, List.map_take]
  have ex := inst_eq.mp t x m
  exact n (by rw [← ex]; exact (Option.some.inj q).symm)
theorem avs_take {ts : List Tm} {i : Nat} {t : Tm} {x : Str} (h : ts[i]? = some t) : x ∈ avs (ts.take (i + 1)) ↔ x ∈ avs (ts.take i) ∨ t = .var x := by
  rw [mem_avs, mem_avs, take_succ h, List.mem_append, List.mem_singleton]
  constructor
  · rintro (a | a)
    · exact .inl a
    · exact .inr a.symm
  · rintro (a | a)
    · exact .inl a
    · exact .inr a.symm
end K48
set_option maxRecDepth 100000
set_option maxHeartbeats 4000000
namespace K48
open PySem PySem.Spec PyProof.Rows L2 RZ
section
variable {K : PySem.W.Frag} {g : TG} {tb : TS} {D : Ends} {σ : L2.St} {H : Hp}
theorem j_zipT {a b : Addr} (xs ys : List V) (len : xs.length = ys.length) (P : Nat → L2.St → Hp → Prop) (h0 : P 0 σ H) (hs : ∀ i σ' H', P i σ' H' → SqT K H' a xs ∧ SqT K H' b ys) (done : ∀ σ' H', P xs.length σ' H' → D.nx σ' H')
    (step : ∀ (i : Nat) (x y : V) (t : Addr) (σ' : L2.St) (H' : Hp), xs[i]? = some x → ys[i]? = some y → P i σ' H' → H' t = none → g (.ref t) σ' (upd H' t (.tup [x, y])) (tb (turnEnds D (P (i + 1))))) : ForJ g tb D σ (ItzT K a b) H :=
  forJ (n := xs.length) P h0 (fun σ' H' hp => ⟨⟨xs, ys, (hs _ _ _ hp).1, (hs _ _ _ hp).2, .inl (Nat.le_refl _)⟩, done _ _ hp⟩)
    (fun i σ' H' hi hp => ⟨xs, ys, xs[i], ys[i], (hs _ _ _ hp).1, (hs _ _ _ hp).2, List.getElem?_eq_getElem hi, List.getElem?_eq_getElem (by omega)⟩) fun i σ' H' v H2 hi hp hy => by
    obtain ⟨t, x, y, ev, ht, eh, f1, f2⟩ := hy
    rw [ev, eh]
    exact step i x y t σ' H' (f1 _ (hs _ _ _ hp).1) (f2 _ (hs _ _ _ hp).2) hp ht
end
theorem scal_key (a b : Key) : scal (kV a) (kV b) = true := by cases a <;> cases b <;> rfl
theorem kV_inj {a b : Key} : kV a = kV b ↔ a = b := by
  constructor
  · intro h
    cases a <;> cases b <;> first | (injection h with h; rw [h]) | cases h
  · intro h; rw [h]
theorem ne_key (a b : Key) : (!decide (kV a = kV b)) = decide (a ≠ b) := by
  by_cases h : a = b
  · simp [h]
  · have : kV a ≠ kV b := fun z => h (kV_inj.mp z)
    simp [h, this]
section
variable {P : Program} {w : World} {K : PySem.W.Frag} {mg : Str → Option Value} {base : Heap}
def N_match_terms : List Str := ["terms", "columns", "row", "values", "kind", "content", "value", "name"]
def p_match_terms : List Str := ["terms", "columns", "row"]
theorem sc_match_terms : FnScope N_match_terms p_match_terms (defScope s_match_terms) := ⟨rfl, rfl, rfl, by decide +kernel, rfl, by decide +kernel, by decide +kernel⟩
def sp_match_terms (K : PySem.W.Frag) : Sp := fun vs H Q _ => ∃ (a : Addr) (c r : V) (xs : List V) (ts : List Tm) (row : List Key), vs = [.ref a, c, r] ∧ (∀ H', Same H H' → SqT K H' a xs) ∧ IsL H xs (ts.map tmT) ∧ Is H c (.f ((avs ts).map T.s)) ∧ Is H r (rowT row) ∧
  row.length = ts.length ∧ ts.length ≤ 10 ∧ ∀ v H', Same H H' → ((v = .non ∧ ∀ e, ts.map (inst e) ≠ row) ∨ ∃ e, ts.map (inst e) = row ∧ Is H' v (rowT ((avs ts).map e))) → Q v H'
theorem ok_match_terms (T : Tx K mg) : Ok P w K mg base 1 "match_terms" p_match_terms (sp_match_terms K) := by
  refine T.ok i_match_terms sc_match_terms (fun _ _ _ _ _ _ us h => by match us, h with | [_, _, _], _ => rfl) (fun vs H Q E h => by obtain ⟨_, _, _, _, _, _, rfl, _⟩ := h; rfl) (fun f cdv A outer s H vs Q E hr h => ?_)
  obtain ⟨a, c, r, xs, ts, row, rfl, ha, hxs, hc, hrow, len, few, q⟩ := h
  have nd := sc_match_terms.nd
  have hu := room_u1 hr
  refine ⟨_, (pss_cons (ps_set (i := 3) nd rfl (Or.inr rfl) pe_dnewK)
      (pss_cons (ps_for PassesOwn.never rfl (pi_zipA rfl (T.bl "zip" (by decide)) (pa_cons (pv 0) (pa_cons (pv 2) pa_nil))) (pg_tup rfl (pgs_cons (pg_tup rfl (pgs_cons (pg_name (i := 4) nd rfl (Or.inl rfl)) (pgs_cons (pg_name (i := 5) nd rfl (Or.inl rfl)) pgs_nil))) (pgs_cons (pg_name (i := 6) nd rfl (Or.inl rfl)) pgs_nil)))
        (pss_cons (ps_if (PW.pt (pw_and (pt_cmpR op_eq (pv 4) pe_str (nomark _)) (pw_and1 (pt_cmpR op_ne (pv 5) (pv 6) (nomark _)))))
          (pss_one (ps_ret pe_non))
          pss_nil)
        (pss_one (ps_if (PW.pt (pw_and (pt_cmpR op_eq (pv 4) pe_str (nomark _)) (pw_and1 (pt_cmpR op_ne (pe_dsetd (pv 3) (pv 5) (pv 6) ⟨rfl, rfl, rfl, rfl⟩) (pv 6) (nomark _)))))
          (pss_one (ps_ret pe_non))
          pss_nil))))
      (pss_one (ps_ret (pe_callTy call_tuple_of (by rfl) (T.bl "tuple" (by decide)) (by decide +kernel) (pa_cons (pe_lc (own := [("name", 7)]) (by rfl) nd (pi_tup (pv 1)) (blkOk_by (N := N_match_terms) (sc := defScope s_match_terms) (by decide +kernel)) (fun _ _ _ _ _ => (pg_name (i := 7) nd rfl (Or.inl rfl))) (fun _ _ _ _ _ => pts_nil) (fun _ _ _ _ _ => (pe_dget hu (pv 3) (pv 7) (fun _ _ => rfl)))) pa_nil)))))), ?_⟩
  obtain ⟨ca, co, rfl, cd, hca, okc⟩ := strs_inv hc
  obtain ⟨b, rfl, hb, okr⟩ := row_inv hrow
  refine fun d hd => ?_
  have sm1 : Same H (upd H d (.dK [])) := Same.new hd
  refine ⟨.ref a, rfl, .ref b, rfl, a, b, xs, row.map kV, rfl, .inr ⟨ha _ sm1, .inl (.inl (sm1 _ _ hb)), ?_⟩⟩
  have lx : xs.length = ts.length := by rw [hxs.length, List.length_map]
  refine j_zipT xs (row.map kV) (by rw [List.length_map]; omega) (fun i σ H' => ∃ k cc vv : Option V, σ = [some (.ref a), some (.ref ca), some (.ref b), some (.ref d), k, cc, vv, none] ∧ Same H H' ∧ ∃ (kvs : List (Key × V)) (e : Str → Key),
      H' d = some (.dK kvs) ∧ kvs.length ≤ i ∧ (ts.take i).map (inst e) = row.take i ∧ ∀ x, (x ∈ avs (ts.take i) → valV kvs (.inr x) = some (kV (e x))) ∧ (x ∉ avs (ts.take i) → valV kvs (.inr x) = none))
    ⟨_, _, _, rfl, sm1, [], fun _ => .inl 0, upd_same, Nat.le_refl _, rfl, fun x => ⟨fun h => absurd (mem_avs.mp h) (by simp), fun _ => rfl⟩⟩
    (fun i σ H' h => by obtain ⟨_, _, _, _, sm, _⟩ := h; exact ⟨ha _ sm, .inl (.inl (sm _ _ hb))⟩) (fun σ H' h => ?_) (fun i x y t σ H' ex ey h ht => ?_)
  · obtain ⟨k, cc, vv, rfl, sm, kvs, e, hdk, lk, he, hv⟩ := h
    rw [lx, List.take_length] at he hv
    rw [← len, List.take_length] at he
    dsimp only
    refine r_ret (r_cb (r_cons ?_))
    refine lc_tupF (fun t => some (kT (e (strOfT t)))) H' (fun R r => ⟨_, rfl, r⟩) (sq_frz (sm _ _ hca)) (isL_strs okc) (by rw [List.length_map]; exact Nat.le_trans (avs_len ts) (by omega)) (fun D H2 vs sm2 hD hvs hl => ?_) (fun i x t H2 et sm2 htx Y Z hY hZ => ?_)
    · rw [fm_pick (fun x => kT (e x))] at hl
      refine ⟨D, vs, rfl, .inl ⟨.inl (.inl hvs), fun l hl2 => q _ _ (same_tr sm (same_tr sm2 (Same.new hl2))) (.inr ⟨e, he, is_t upd_same ?_⟩)⟩⟩
      rw [List.map_map]
      exact IsL.mono (TK.of (Same.new hl2)) _ _ hl
    · obtain ⟨y, ey, e2⟩ := map_get et
      subst e2
      obtain ⟨rfl, oky⟩ := is_s_inv htx
      have my := (hv y).1 (List.mem_of_getElem? ey)
      refine ⟨rfl, .ref d, rfl, .str y, rfl, d, kV (e y), rfl, by rw [← my]; exact DGet.k (k := .inr y) (sm2 _ _ hdk), hY _ _ _ rfl (same_refl _) (is_k ?_)⟩
      obtain ⟨t, ht, et3⟩ : ∃ t ∈ ts, inst e t = e y := ⟨_, mem_avs.mp (List.mem_of_getElem? ey), rfl⟩
      rw [← et3]
      exact okr _ (by rw [← he]; exact List.mem_map.mpr ⟨t, ht, rfl⟩)
  · obtain ⟨k, cc, vv, rfl, sm, kvs, e, hdk, lk, he, hv⟩ := h
    obtain ⟨dt, edt, hx⟩ := (IsL.mono (TK.of sm) _ _ hxs).get' ex
    obtain ⟨tm, etm, e2⟩ := map_get edt
    subst e2
    obtain ⟨kk, ekk, e3⟩ := map_get ey
    subst e3
    obtain ⟨ta, knd, ct, rfl, hta, okct, hk⟩ := tm_inv hx
    have smt : Same H' (upd H' t (.tup [.ref ta, kV kk])) := Same.new ht
    have hi : i < ts.length := by rw [← lx]; exact (List.getElem?_eq_some_iff.mp ex).1
    refine ⟨t, _, rfl, .inl (.inl upd_same), rfl, _, _, rfl, ⟨ta, _, rfl, .inl (.inl (smt _ _ hta)), rfl, _, _, rfl, _, _, rfl, rfl, ?_⟩⟩
    refine ⟨_, _, rfl, rfl, ?_⟩
    have hd2 := smt _ _ hdk
    rcases hk with ⟨rfl, x, rfl, rfl⟩ | ⟨rfl, rfl⟩
    · refine ⟨.str sVar, rfl, rfl, false, by decide +kernel, ?_⟩
      refine ⟨.str sVar, rfl, rfl, true, by decide +kernel, ?_⟩
      refine ⟨.ref d, rfl, d, rfl, .inl ⟨_, .inl hd2⟩, .str x, rfl, kV kk, rfl, kvs, .inr x, hd2, rfl, lt_line (by omega), fun v hvv => ?_, fun hno => ?_⟩
      · have mx : x ∈ avs (ts.take i) := Classical.byContradiction fun no => by
          rw [(hv x).2 no] at hvv
          cases hvv
        rw [(hv x).1 mx] at hvv
        have ev := Option.some.inj hvv
        subst ev
        refine ⟨kV kk, rfl, scal_key _ _, decide (e x ≠ kk), congrArg V.bl (ne_key _ _), ?_⟩
        by_cases z : e x = kk
        · rw [decide_eq_false (by simpa using z)]
          refine ⟨_, _, _, rfl, same_tr sm smt, kvs, e, hd2, by omega, ?_, fun y => ?_⟩
          · rw [take_succ etm, take_succ ekk, List.map_append, he]
            show _ ++ [e x] = _
            rw [z]
          · have em : y ∈ avs (ts.take (i + 1)) ↔ y ∈ avs (ts.take i) := by
              rw [avs_take etm]
              exact ⟨fun o => o.elim id fun ee => by injection ee with ee; rw [← ee]; exact mx, .inl⟩
            rw [em]
            exact hv y
        · rw [decide_eq_true z]
          exact q _ _ (same_tr sm smt) (.inl ⟨rfl, no_match_var etm ekk mx he z⟩)
      · have nx : x ∉ avs (ts.take i) := fun m => by
          rw [(hv x).1 m] at hno
          cases hno
        refine ⟨kV kk, rfl, scal_key _ _, false, congrArg V.bl (by simp), ?_⟩
        refine ⟨_, _, _, rfl, fun b' o' eb => ?_, putK kvs (.inr x) (kV kk), fun y => if y = x then kk else e y, upd_same, ?_, ?_, fun y => ?_⟩
        · rw [upd_ne (ne_of_none eb hd)]
          exact smt _ _ (sm _ _ eb)
        · exact Nat.le_trans (length_putK kvs _ _) (by omega)
        · rw [take_succ etm, take_succ ekk, List.map_append]
          have e1 : (ts.take i).map (inst fun y => if y = x then kk else e y) = (ts.take i).map (inst e) := inst_eq.mpr fun y hy => by
            have : y ≠ x := fun z => nx (by rw [← z]; exact hy)
            simp [this]
          rw [e1, he]
          simp [inst]
        · rw [valV_put, avs_take etm]
          by_cases z : y = x
          · subst z
            refine ⟨fun _ => by simp, fun n => absurd (.inr rfl) n⟩
          · have z2 : (Sum.inr y : Key) ≠ Sum.inr x := fun ee => z (by injection ee)
            rw [if_neg z2]
            refine ⟨fun m => ?_, fun n => (hv y).2 fun m => n (.inl m)⟩
            rcases m with m | m
            · rw [(hv y).1 m]
              simp [z]
            · injection m with m
              exact absurd m.symm z
    · refine ⟨.str sValue, rfl, rfl, true, by decide +kernel, ?_⟩
      refine ⟨kV ct, rfl, kV kk, rfl, scal_key _ _, decide (ct ≠ kk), congrArg V.bl (ne_key _ _), ?_⟩
      by_cases z : ct = kk
      · rw [decide_eq_false (by simpa using z)]
        refine ⟨.str sValue, rfl, rfl, false, by decide +kernel, ?_⟩
        refine ⟨_, _, _, rfl, same_tr sm smt, kvs, e, hd2, by omega, ?_, fun y => ?_⟩
        · rw [take_succ etm, take_succ ekk, List.map_append, he]
          show _ ++ [ct] = _
          rw [z]
        · have em : y ∈ avs (ts.take (i + 1)) ↔ y ∈ avs (ts.take i) := by
            rw [avs_take etm]
            exact ⟨fun o => o.elim id (fun ee => by cases ee), .inl⟩
          rw [em]
          exact hv y
      · rw [decide_eq_true z]
        exact q _ _ (same_tr sm smt) (.inl ⟨rfl, no_match_val etm ekk z⟩)
end
end K48
set_option maxRecDepth 100000
set_option maxHeartbeats 4000000
namespace K48
open PySem PySem.Spec PyProof.Rows L2 RZ
def stT (s : List Fact) : T := .t (s.map faT)
theorem TK.put {H : Hp} {D : Addr} {o u : HO} (h : H D = some u) (n1 : ∀ xs, u ≠ .tup xs) (n2 : ∀ o xs, u ≠ .frz o (.tup xs)) : TK H (upd H D o) :=
  ⟨fun b xs e => by rw [upd_ne (fun z => by rw [z, h] at e; exact n1 _ (Option.some.inj e))]; exact e, fun b o2 xs e => by rw [upd_ne (fun z => by rw [z, h] at e; exact n2 _ _ (Option.some.inj e))]; exact e⟩
theorem TK.putT {H : Hp} {D : Addr} {o : HO} {kvs : List (List Key × V)} (h : H D = some (.dT kvs)) : TK H (upd H D o) := TK.put h (fun _ z => nomatch z) fun _ _ z => nomatch z
theorem TK.putL {H : Hp} {D : Addr} {o : HO} {xs : List V} (h : H D = some (.lst xs)) : TK H (upd H D o) := TK.put h (fun _ z => nomatch z) fun _ _ z => nomatch z
theorem den_nil {cs : List Str} {a : Atom} {b : Nat} : Den cs (scanV (chOf ([] : List Fact)) a) (b * cnt a.1 []) (cnt a.1 []) [] where
  look e := by
    show none = if (0 : Rat) = 0 then none else _
    rw [if_pos rfl]
  keys p hp := by cases hp
  nodup := List.nodup_nil
  un p hp := by cases hp
  size := Nat.le_refl _
  len := Nat.le_refl _
theorem cnt_snoc (n : Str) (s : List Fact) (f : Fact) : cnt n (s ++ [f]) = cnt n s + if f.1 = n then 1 else 0 := by
  unfold cnt
  rw [List.filter_append, List.length_append]
  congr 1
  by_cases h : f.1 = n <;> simp [h]
theorem Same.mut2 {H0 H H' : Hp} {D : Addr} {o : HO} (s : Same H0 H') (n : H0 D = none) : Same H0 (upd H' D o) := fun b x e => by
  rw [upd_ne (ne_of_none e n)]
  exact s _ _ e
section
variable {P : Program} {w : World} {K : PySem.W.Frag} {mg : Str → Option Value} {base : Heap}
def N_scanned : List Str := ["store", "atom", "columns", "found", "name", "place_row", "chance", "row"]
def p_scanned : List Str := ["store", "atom"]
theorem sc_scanned : FnScope N_scanned p_scanned (defScope s_scanned) := ⟨rfl, rfl, rfl, by decide +kernel, rfl, by decide +kernel, by decide +kernel⟩
/-- a dict of shares that tells V over cs -/
abbrev GivesD (H : Hp) (Q : VK) (cs : List Str) (V : (Str → Key) → Rat) (B L : Nat) : Prop := ∀ (D : Addr) (kvs : List (List Key × L2.V)) (d : DD) H', Same H H' → H' D = some (.dT kvs) → DV H' kvs d → Den cs V B L d → Q (.ref D) H'
def sp_scanned : Sp := fun vs H Q _ => ∃ (u v : V) (st : List Fact) (a : Atom) (b : Nat), vs = [u, v] ∧ Is H u (stT st) ∧ Is H v (atT a) ∧ a.2.length ≤ 10 ∧ StOk b st ∧ Arity st a ∧ GivesD H Q (avs a.2) (scanV (chOf st) a) (b * cnt a.1 st) (cnt a.1 st)
theorem ok_scanned (G_match_terms : Ok P w K mg base 1 "match_terms" p_match_terms (sp_match_terms K)) (G_atom_variables : Ok P w K mg base 1 "atom_variables" p_atom_variables sp_atom_variables) (T : Tx K mg) : Ok P w K mg base 2 "scanned" p_scanned sp_scanned := by
  refine T.ok i_scanned sc_scanned (fun _ _ _ _ _ _ us h => by match us, h with | [_, _], _ => rfl) (fun vs H Q E h => by obtain ⟨_, _, _, _, _, rfl, _⟩ := h; rfl) (fun f cdv A outer s H vs Q E hr h => ?_)
  obtain ⟨u, v, st, a, bb, rfl, hu0, hv, few, so, ar, q⟩ := h
  have nd := sc_scanned.nd
  have hu := room_u1 hr
  refine ⟨_, (pss_cons (ps_set (i := 2) nd rfl (Or.inl rfl) (pe_ok G_atom_variables (hr.mono (by first | decide | omega)) rfl (pa_cons (pv 1) pa_nil)))
      (pss_cons (ps_set (i := 3) nd rfl (Or.inl rfl) pe_dnewT)
      (pss_cons (ps_for PassesOwn.never rfl (pi_tup (pv 0)) (pg_tup rfl (pgs_cons (pg_name (i := 4) nd rfl (Or.inl rfl)) (pgs_cons (pg_name (i := 5) nd rfl (Or.inl rfl)) (pgs_cons (pg_name (i := 6) nd rfl (Or.inl rfl)) pgs_nil))))
        (pss_one (ps_if (PW.pt (pw_and (pt_cmpR op_eq (pv 4) (pe_ix ix_tup (pv 1) pe_int (fun _ _ => rfl)) (nomark _)) (pw_and1 (pt_cmpR op_gt (pe_ix ix_tup (pv 6) pe_int (fun _ _ => rfl)) pe_int (nomark _)))))
          (pss_cons (ps_set (i := 7) nd rfl (Or.inl rfl) (pe_ok G_match_terms (hr.mono (by first | decide | omega)) rfl (pa_cons (pe_ix ix_tup (pv 1) pe_int (fun _ _ => rfl)) (pa_cons (pv 2) (pa_cons (pv 5) pa_nil)))))
          (pss_one (ps_if (pt_cmpR op_notN (pv 7) pe_non (nomark _))
            (pss_one (ps_dput hu (pv 3) (pv 7) (pv 6) rfl))
            pss_nil)))
          pss_nil)))
      (pss_one (ps_ret (pv 3)))))), ?_⟩
  obtain ⟨sa, sxs, rfl, hsa, hsx⟩ := is_t_inv hu0
  obtain ⟨p, l, to, txs, rfl, hp, do_, hl, htx, okn⟩ := at_inv hv
  refine ⟨.ref p, rfl, .ref p, a, rfl, hv, few, fun c H1 sm1 hc => ?_⟩
  refine fun D hD => ?_
  have smD : Same H1 (upd H1 D (.dT [])) := Same.new hD
  refine ⟨.ref sa, rfl, sa, rfl, ⟨_, .inl (.inl (smD _ _ (sm1 _ _ hsa)))⟩, ?_⟩
  have lx : sxs.length = st.length := by rw [hsx.length, List.length_map]
  refine j_tup sxs (fun i σ H' => ∃ nm pr ch rw_ : Option V, σ = [some (.ref sa), some (.ref p), some c, some (.ref D), nm, pr, ch, rw_] ∧ Same H1 H' ∧ ∃ (kvs : List (List Key × L2.V)) (d : DD), H' D = some (.dT kvs) ∧ DV H' kvs d ∧
      Den (avs a.2) (scanV (chOf (st.take i)) a) (bb * cnt a.1 (st.take i)) (cnt a.1 (st.take i)) d)
    ⟨_, _, _, _, rfl, smD, [], [], upd_same, True.intro, den_nil⟩
    (fun i σ H' h => by obtain ⟨_, _, _, _, _, sm, _⟩ := h; exact .inl (.inl (sm _ _ (sm1 _ _ hsa)))) (fun σ H' h => ?_) (fun i x σ H' ex h => ?_)
  · obtain ⟨_, _, _, _, rfl, sm, kvs, d, hk, hdv, den⟩ := h
    rw [lx, List.take_length] at den
    exact ⟨.ref D, rfl, q D kvs d H' (same_tr sm1 sm) hk hdv den⟩
  · obtain ⟨nm, pr, ch, rw_, rfl, sm, kvs, d, hk, hdv, den⟩ := h
    have sm0 := same_tr sm1 sm
    obtain ⟨dt, edt, hx⟩ := (IsL.mono (TK.of sm0) _ _ hsx).get' ex
    obtain ⟨fa, efa, e2⟩ := map_get edt
    subst e2
    obtain ⟨ta, v1, v2, v3, rfl, hta, h1, h2, h3⟩ := three_inv hx
    obtain ⟨rfl, okf⟩ := is_s_inv h1
    obtain ⟨ca, rfl, hca⟩ := sh_inv h3
    have mf : fa ∈ st := List.mem_of_getElem? efa
    have hi : i < st.length := (List.getElem?_eq_some_iff.mp efa).1
    have etk := take_succ efa
    have notin : plOf fa ∉ (st.take i).map plOf := fun m => by
      have nn := so.nodup
      rw [← List.take_append_drop i st, List.map_append] at nn
      have dr : st.drop i = fa :: st.drop (i + 1) := by
        rw [List.drop_eq_getElem_cons hi]
        congr 1
        exact Option.some.inj ((List.getElem?_eq_getElem hi).symm.trans efa)
      rw [dr] at nn
      exact (List.nodup_append.mp nn).2.2 _ m _ (List.mem_cons_self ..) rfl
    have ufa := so.un fa mf
    have stepV : ∀ e, scanV (chOf (st.take (i + 1))) a e = if plOf fa = (a.1, a.2.map (inst e)) then fa.2.2 else scanV (chOf (st.take i)) a e := fun e => by
      unfold scanV
      rw [etk, chOf_snoc notin]
    have stepC : cnt a.1 (st.take (i + 1)) = cnt a.1 (st.take i) + if fa.1 = a.1 then 1 else 0 := by rw [etk, cnt_snoc]
    refine ⟨ta, _, rfl, .inl (.inl hta), rfl, _, _, rfl, _, _, rfl, _, _, rfl, rfl, ?_⟩
    have hp' := sm0 _ _ hp
    refine ⟨.str fa.1, rfl, .ref p, rfl, p, _, 0, _, rfl, rfl, .inl (.inl hp'), at0, rfl, decide (fa.1 = a.1), congrArg V.bl (decide_eq_decide.mpr ⟨fun z => by injection z, fun z => by rw [z]⟩), ?_⟩
    have keep : (fa.1 = a.1 → fa.2.2 = 0) → Den (avs a.2) (scanV (chOf (st.take (i + 1))) a) (bb * cnt a.1 (st.take (i + 1))) (cnt a.1 (st.take (i + 1))) d := fun hz => by
      refine den.more (fun e => ?_) (by rw [stepC, Nat.mul_add]; omega) (by rw [stepC]; omega)
      rw [stepV]
      by_cases z : plOf fa = (a.1, a.2.map (inst e))
      · rw [if_pos z, hz (by injection z)]
        have c0 : chOf (st.take i) (plOf fa) = 0 := chOf_none notin
        rw [z] at c0
        exact c0.symm
      · rw [if_neg z]
    by_cases en : fa.1 = a.1
    · rw [decide_eq_true en]
      refine ⟨.ref ca, rfl, ca, _, 0, _, rfl, rfl, .inl (.inl hca), at0, _, _, rfl, rfl, decide (0 < fa.2.2.num), rfl, ?_⟩
      by_cases hpos : 0 < fa.2.2.num
      · rw [decide_eq_true hpos]
        have nz : fa.2.2 ≠ 0 := fun z => by rw [z] at hpos; exact absurd hpos (by decide)
        refine ⟨.ref p, rfl, p, _, 1, _, rfl, rfl, .inl (.inl hp'), at1, c, rfl, v2, rfl, l, c, v2, txs, a.2, fa.2.1, rfl, fun H2 s2 => .inl (.inr ⟨to, s2 _ _ (sm0 _ _ hl)⟩), IsL.mono (TK.of sm0) _ _ htx, Is.mono (TK.of sm) _ _ hc, h2, ar fa mf en, few, fun rv H2 sm2 hres => ?_⟩
        rcases hres with ⟨rfl, hno⟩ | ⟨e0, he0, hrow⟩
        · refine ⟨.non, rfl, rfl, false, rfl, ?_⟩
          refine ⟨_, _, _, _, rfl, same_tr sm sm2, kvs, d, sm2 _ _ hk, DV.mono (TK.of sm2) hdv, ?_⟩
          refine den.more (fun e => ?_) (by rw [stepC, Nat.mul_add]; omega) (by rw [stepC]; omega)
          rw [stepV, if_neg (fun z => hno e (by injection z with _ z2; exact z2.symm))]
        · obtain ⟨ra, rfl, hra, okr⟩ := row_inv hrow
          refine ⟨.ref ra, rfl, rfl, true, by simp, ?_⟩
          have hk2 := sm2 _ _ hk
          have c2 := sm2 _ _ hca
          refine ⟨.ref ca, rfl, .ref D, rfl, .ref ra, rfl, D, _, rfl, DPut.t hk2 hra (by rw [hdv.len]; exact lt_line (Nat.le_trans den.len (by unfold cnt; exact Nat.le_trans (List.length_filter_le _ _) (by rw [List.length_take]; have := so.few; omega)))), ?_⟩
          refine ⟨_, _, _, _, rfl, Same.mut2 (H := H1) (same_tr sm sm2) hD, _, putD d ((avs a.2).map e0) fa.2.2, upd_same, ?_, ?_⟩
          · have tk := TK.putT (o := .dT (putK kvs ((avs a.2).map e0) (.ref ca))) hk2
            exact DV.mono tk (DV.put (sh_at c2) (DV.mono (TK.of sm2) hdv) den.nodup)
          · have hplace : plOf fa = (a.1, a.2.map (inst e0)) := by
              unfold plOf
              rw [en, he0]
            have h0 : scanV (chOf (st.take i)) a e0 = 0 := by
              have c0 : chOf (st.take i) (plOf fa) = 0 := chOf_none notin
              rw [hplace] at c0
              exact c0
            refine (den.put (V' := scanV (chOf (st.take (i + 1))) a) (b := bb) e0 h0 ufa nz (so.bits fa mf) okr fun e => ?_).more (fun _ => rfl) (by rw [stepC, if_pos en, Nat.mul_add, Nat.mul_one]; omega) (by rw [stepC, if_pos en]; omega)
            rw [stepV]
            by_cases z : (avs a.2).map e = (avs a.2).map e0
            · rw [if_pos z, if_pos (by rw [hplace, inst_cols.mpr z])]
            · rw [if_neg z, if_neg (fun zz => z (inst_cols.mp (by rw [hplace] at zz; injection zz with _ z2; exact z2.symm)))]
      · rw [decide_eq_false hpos]
        have z0 : fa.2.2 = 0 := Rat.num_eq_zero.mp (by have := ufa.num; omega)
        exact ⟨_, _, _, _, rfl, sm, kvs, d, hk, hdv, keep fun _ => z0⟩
    · rw [decide_eq_false en]
      exact ⟨_, _, _, _, rfl, sm, kvs, d, hk, hdv, keep fun z => absurd z en⟩
end
end K48
set_option maxRecDepth 100000
set_option maxHeartbeats 4000000
namespace K48
open PySem PySem.Spec PyProof.Rows L2
theorem Den.congr {cs : List Str} {V : (Str → Key) → Rat} {B L : Nat} {d : DD} (D : Den cs V B L d) {e e' : Str → Key} (h : cs.map e = cs.map e') : V e = V e' := by
  have a := D.look e
  have b := D.look e'
  rw [h] at a
  rw [a] at b
  by_cases z : V e = 0
  · rw [if_pos z] at b
    by_cases z2 : V e' = 0
    · rw [z, z2]
    · rw [if_neg z2] at b; cases b
  · rw [if_neg z] at b
    by_cases z2 : V e' = 0
    · rw [if_pos z2] at b; cases b
    · rw [if_neg z2] at b; exact Option.some.inj b
theorem Den.zero {cs : List Str} {V : (Str → Key) → Rat} {B L : Nat} {d : DD} (D : Den cs V B L d) {e : Str → Key} (h : cs.map e ∉ keysD d) : V e = 0 := by
  have a := D.look e
  rw [valD_none h] at a
  by_cases z : V e = 0
  · exact z
  · rw [if_neg z] at a; cases a
/-! ### joins -/
def shOf (cs1 cs2 : List Str) : List Str := cs1.filter fun x => decide (x ∈ cs2)
def restOf (cs1 cs2 : List Str) : List Str := cs2.filter fun x => decide (x ∉ cs1)
def namesOf (cs1 cs2 : List Str) : List Str := csort (cs1 ++ cs2)
def grp (cs2 sh : List Str) (d2 : DD) (k : List Key) : DD := d2.filter fun p => decide (pick cs2 p.1 sh = k)
/-- what the dict of a join tells when the rows done, and of row the matches ms, are through -/
noncomputable def JV (cs1 cs2 : List Str) (V1 V2 : (Str → Key) → Rat) (done : List (List Key)) (row : List Key) (ms : List (List Key)) (e : Str → Key) : Rat :=
  open Classical in if cs1.map e ∈ done ∨ (cs1.map e = row ∧ cs2.map e ∈ ms) then V1 e * V2 e else 0
theorem mem_sh {cs1 cs2 : List Str} {x : Str} : x ∈ shOf cs1 cs2 ↔ x ∈ cs1 ∧ x ∈ cs2 := by simp [shOf]
theorem mem_rest {cs1 cs2 : List Str} {x : Str} : x ∈ restOf cs1 cs2 ↔ x ∈ cs2 ∧ x ∉ cs1 := by simp [restOf]
theorem mem_names {cs1 cs2 : List Str} {x : Str} : x ∈ namesOf cs1 cs2 ↔ x ∈ cs1 ∨ x ∈ cs2 := by simp [namesOf, mem_csort]
theorem names_in {cs1 cs2 : List Str} {x : Str} (h : x ∈ namesOf cs1 cs2) : x ∈ cs1 ++ restOf cs1 cs2 := by
  rw [List.mem_append, mem_rest]
  by_cases z : x ∈ cs1
  · exact .inl z
  · exact .inr ⟨(mem_names.mp h).resolve_left z, z⟩
section
variable {cs1 cs2 : List Str} {V1 V2 : (Str → Key) → Rat} {B1 L1 B2 L2' : Nat} {d1 d2 : DD}
/-- the assignment of a row and its match -/
theorem both {row m : List Key} {e1 e2 : Str → Key} (h1 : row = cs1.map e1) (h2 : m = cs2.map e2) (hg : pick cs2 m (shOf cs1 cs2) = pick cs1 row (shOf cs1 cs2)) :
    ∃ e0 : Str → Key, row = cs1.map e0 ∧ m = cs2.map e0 ∧ pick (cs1 ++ restOf cs1 cs2) (row ++ pick cs2 m (restOf cs1 cs2)) (namesOf cs1 cs2) = (namesOf cs1 cs2).map e0 := by
  have ag : (shOf cs1 cs2).map e2 = (shOf cs1 cs2).map e1 := by
    rw [h1, h2, pick_map e2 fun x hx => (mem_sh.mp hx).2, pick_map e1 fun x hx => (mem_sh.mp hx).1] at hg
    exact hg
  have ag2 := List.map_inj_left.mp ag
  have q1 : row = cs1.map fun x => if x ∈ cs1 then e1 x else e2 x := by
    rw [h1]
    exact List.map_congr_left fun x hx => by simp [hx]
  have q2 : m = cs2.map fun x => if x ∈ cs1 then e1 x else e2 x := by
    rw [h2]
    refine List.map_congr_left fun x hx => ?_
    by_cases z : x ∈ cs1
    · simp [z, ag2 x (mem_sh.mpr ⟨z, hx⟩)]
    · simp [z]
  refine ⟨fun x => if x ∈ cs1 then e1 x else e2 x, q1, q2, ?_⟩
  generalize (fun x => if x ∈ cs1 then e1 x else e2 x) = e0 at q1 q2 ⊢
  rw [q1, q2, pick_map e0 fun x hx => (mem_rest.mp hx).1, ← List.map_append]
  exact pick_map e0 fun x hx => names_in hx
theorem grp_mem {k : List Key} {p : List Key × Rat} (h : p ∈ grp cs2 (shOf cs1 cs2) d2 k) : p ∈ d2 ∧ pick cs2 p.1 (shOf cs1 cs2) = k := by
  unfold grp at h
  rw [List.mem_filter] at h
  exact ⟨h.1, by simpa using h.2⟩
theorem nodup_take {d : DD} (n : (keysD d).Nodup) {i : Nat} {p : List Key × Rat} (h : d[i]? = some p) : p.1 ∉ keysD (d.take i) := fun m => by
  obtain ⟨hi, e⟩ := List.getElem?_eq_some_iff.mp h
  have dr : d = d.take i ++ d.drop i := (List.take_append_drop i d).symm
  have dr2 : d.drop i = p :: d.drop (i + 1) := by
    rw [List.drop_eq_getElem_cons hi, e]
  unfold keysD at n m
  rw [dr, dr2, List.map_append, List.map_cons] at n
  exact (List.nodup_append.mp n).2.2 _ m _ (List.mem_cons_self ..) rfl
theorem join_step (D1 : Den cs1 V1 B1 L1 d1) (D2 : Den cs2 V2 B2 L2' d2) {i j : Nat} {row m : List Key} {n1 n2 : Rat} {B L : Nat} {res : DD} (h1 : d1[i]? = some (row, n1)) (h2 : (grp cs2 (shOf cs1 cs2) d2 (pick cs1 row (shOf cs1 cs2)))[j]? = some (m, n2))
    (D : Den (namesOf cs1 cs2) (JV cs1 cs2 V1 V2 (keysD (d1.take i)) row (keysD ((grp cs2 (shOf cs1 cs2) d2 (pick cs1 row (shOf cs1 cs2))).take j))) B L res) :
    Den (namesOf cs1 cs2) (JV cs1 cs2 V1 V2 (keysD (d1.take i)) row (keysD ((grp cs2 (shOf cs1 cs2) d2 (pick cs1 row (shOf cs1 cs2))).take (j + 1)))) (B + (bt n1 + bt n2)) (L + 1)
      (putD res (pick (cs1 ++ restOf cs1 cs2) (row ++ pick cs2 m (restOf cs1 cs2)) (namesOf cs1 cs2)) (n1 * n2)) := by
  have m1 := List.mem_of_getElem? h1
  have g2 := grp_mem (List.mem_of_getElem? h2)
  obtain ⟨e1, r1, v1, nz1, u1, b1⟩ := D1.row m1
  obtain ⟨e2, r2, v2, nz2, u2, b2⟩ := D2.row g2.1
  obtain ⟨e0, q1, q2, q3⟩ := both r1 r2 g2.2
  have w1 : ∀ e, cs1.map e = row → V1 e = n1 := fun e h => by rw [v1]; exact D1.congr (h.trans r1)
  have w2 : ∀ e, cs2.map e = m → V2 e = n2 := fun e h => by rw [v2]; exact D2.congr (h.trans r2)
  have ng : (keysD (grp cs2 (shOf cs1 cs2) d2 (pick cs1 row (shOf cs1 cs2)))).Nodup := by
    unfold keysD grp
    exact List.Sublist.nodup (List.Sublist.map _ List.filter_sublist) D2.nodup
  have no1 := nodup_take D1.nodup h1
  have no2 := nodup_take ng h2
  simp only at no1 no2
  have h0 : JV cs1 cs2 V1 V2 (keysD (d1.take i)) row (keysD ((grp cs2 (shOf cs1 cs2) d2 (pick cs1 row (shOf cs1 cs2))).take j)) e0 = 0 := by
    unfold JV
    rw [if_neg]
    rintro (h | ⟨_, h⟩)
    · rw [← q1] at h; exact no1 h
    · rw [← q2] at h; exact no2 h
  have ok : ∀ k ∈ (namesOf cs1 cs2).map e0, kOk k = true := fun k hk => by
    obtain ⟨x, hx, ex⟩ := List.mem_map.mp hk
    rw [← ex]
    rcases mem_names.mp hx with z | z
    · exact (D1.keys _ m1).2 _ (by rw [q1]; exact List.mem_map.mpr ⟨x, z, rfl⟩)
    · exact (D2.keys _ g2.1).2 _ (by show _ ∈ m; rw [q2]; exact List.mem_map.mpr ⟨x, z, rfl⟩)
  rw [q3]
  refine D.put e0 h0 (u1.mul u2) (fun z => ?_) (bt_mul _ _) ok fun e => ?_
  · rcases Rat.mul_eq_zero.mp z with z | z
    · rw [v1] at z; exact nz1 z
    · rw [v2] at z; exact nz2 z
  · have tk : keysD ((grp cs2 (shOf cs1 cs2) d2 (pick cs1 row (shOf cs1 cs2))).take (j + 1)) = keysD ((grp cs2 (shOf cs1 cs2) d2 (pick cs1 row (shOf cs1 cs2))).take j) ++ [m] := by
      rw [take_succ h2]
      unfold keysD
      rw [List.map_append]
      rfl
    have iff_ : (namesOf cs1 cs2).map e = (namesOf cs1 cs2).map e0 ↔ cs1.map e = row ∧ cs2.map e = m := by
      rw [q1, q2, List.map_inj_left, List.map_inj_left, List.map_inj_left]
      exact ⟨fun h => ⟨fun x hx => h x (mem_names.mpr (.inl hx)), fun x hx => h x (mem_names.mpr (.inr hx))⟩, fun h x hx => (mem_names.mp hx).elim (h.1 x) (h.2 x)⟩
    by_cases z : (namesOf cs1 cs2).map e = (namesOf cs1 cs2).map e0
    · rw [if_pos z]
      obtain ⟨z1, z2⟩ := iff_.mp z
      unfold JV
      rw [if_pos (.inr ⟨z1, by rw [tk, z2]; exact List.mem_append_right _ (List.mem_cons_self ..)⟩), w1 e z1, w2 e z2]
    · rw [if_neg z]
      unfold JV
      have eqv : (cs1.map e ∈ keysD (d1.take i) ∨ (cs1.map e = row ∧ cs2.map e ∈ keysD ((grp cs2 (shOf cs1 cs2) d2 (pick cs1 row (shOf cs1 cs2))).take (j + 1)))) ↔
          (cs1.map e ∈ keysD (d1.take i) ∨ (cs1.map e = row ∧ cs2.map e ∈ keysD ((grp cs2 (shOf cs1 cs2) d2 (pick cs1 row (shOf cs1 cs2))).take j))) := by
        rw [tk, List.mem_append, List.mem_singleton]
        constructor
        · rintro (h | ⟨h, h' | h'⟩)
          · exact .inl h
          · exact .inr ⟨h, h'⟩
          · exact absurd (iff_.mpr ⟨h, h'⟩) z
        · rintro (h | ⟨h, h'⟩)
          · exact .inl h
          · exact .inr ⟨h, .inl h'⟩
      by_cases y : cs1.map e ∈ keysD (d1.take i) ∨ (cs1.map e = row ∧ cs2.map e ∈ keysD ((grp cs2 (shOf cs1 cs2) d2 (pick cs1 row (shOf cs1 cs2))).take (j + 1)))
      · rw [if_pos y, if_pos (eqv.mp y)]
      · rw [if_neg y, if_neg (fun h => y (eqv.mpr h))]
theorem sum_filter (f : List Key × Rat → Bool) : ∀ d : DD, sumB (d.filter f) ≤ sumB d
  | [] => Nat.le_refl _
  | (k, q) :: r => by
    have ih := sum_filter f r
    rw [List.filter_cons]
    split
    · rw [sumB, sumB]; omega
    · rw [sumB]; omega
theorem sum_append : ∀ a b : DD, sumB (a ++ b) = sumB a + sumB b
  | [], b => by simp [sumB]
  | (k, q) :: r, b => by
    rw [List.cons_append, sumB, sumB, sum_append r b]
    omega
/-- all matches of a row are through -/
theorem join_row (D1 : Den cs1 V1 B1 L1 d1) (D2 : Den cs2 V2 B2 L2' d2) {i : Nat} {row : List Key} {n1 : Rat} (h1 : d1[i]? = some (row, n1)) (e : Str → Key) :
    JV cs1 cs2 V1 V2 (keysD (d1.take (i + 1))) [] [] e = JV cs1 cs2 V1 V2 (keysD (d1.take i)) row (keysD (grp cs2 (shOf cs1 cs2) d2 (pick cs1 row (shOf cs1 cs2)))) e := by
  have tk : keysD (d1.take (i + 1)) = keysD (d1.take i) ++ [row] := by
    rw [take_succ h1]
    unfold keysD
    rw [List.map_append]
    rfl
  obtain ⟨e1, r1, _⟩ := D1.row (List.mem_of_getElem? h1)
  unfold JV
  by_cases a : cs1.map e ∈ keysD (d1.take i)
  · rw [if_pos (.inl (by rw [tk]; exact List.mem_append_left _ a)), if_pos (.inl a)]
  · by_cases b : cs1.map e = row
    · rw [if_pos (.inl (by rw [tk, b]; exact List.mem_append_right _ (List.mem_cons_self ..)))]
      by_cases c : cs2.map e ∈ keysD d2
      · rw [if_pos]
        obtain ⟨p, hp, ep⟩ := List.mem_map.mp c
        refine .inr ⟨b, List.mem_map.mpr ⟨p, ?_, ep⟩⟩
        unfold grp
        rw [List.mem_filter]
        refine ⟨hp, decide_eq_true ?_⟩
        rw [ep, ← b, pick_map e fun x hx => (mem_sh.mp hx).2, pick_map e fun x hx => (mem_sh.mp hx).1]
      · have z : V2 e = 0 := D2.zero c
        rw [z, Rat.mul_zero]
        split <;> rfl
    · rw [if_neg, if_neg]
      · rintro (h | ⟨h, _⟩)
        · exact a h
        · exact b h
      · rintro (h | ⟨_, h⟩)
        · rw [tk, List.mem_append, List.mem_singleton] at h
          exact h.elim a b
        · cases h
theorem join_all (D1 : Den cs1 V1 B1 L1 d1) (e : Str → Key) : JV cs1 cs2 V1 V2 (keysD d1) [] [] e = V1 e * V2 e := by
  unfold JV
  by_cases a : cs1.map e ∈ keysD d1
  · rw [if_pos (.inl a)]
  · rw [if_neg, D1.zero a, Rat.zero_mul]
    rintro (h | ⟨_, h⟩)
    · exact a h
    · cases h
theorem join_none (cs1 cs2 : List Str) (V1 V2 : (Str → Key) → Rat) (row : List Key) : Den (namesOf cs1 cs2) (JV cs1 cs2 V1 V2 [] row []) 0 0 [] where
  look e := by
    show none = _
    rw [if_pos]
    unfold JV
    rw [if_neg]
    rintro (h | ⟨_, h⟩) <;> cases h
  keys p hp := by cases hp
  nodup := List.nodup_nil
  un p hp := by cases hp
  size := Nat.le_refl _
  len := Nat.le_refl _
end
end K48
set_option maxRecDepth 100000
set_option maxHeartbeats 4000000
namespace K48
open PySem PySem.Spec PyProof.Rows L2
/-! ### columns, locks, groups -/
theorem But.tkT {d : Addr} {H H' : Hp} {kvs : List (List Key × V)} (a : But d H H') (h : H d = some (.dT kvs)) : TK H H' :=
  ⟨fun x o e => a x _ (fun z => by rw [z, h] at e; cases e) e, fun x o u e => a x _ (fun z => by rw [z, h] at e; cases e) e⟩
def ColI (H : Hp) (c : V) (cs : List Str) : Prop := ∃ a, c = .ref a ∧ ((cs = [] ∧ H a = some (.tup [])) ∨ ∃ o, o.dict = none ∧ H a = some (.frz o (.tup (cs.map V.str)))) ∧ ∀ x ∈ cs, strOk x = true
theorem ColI.of {H : Hp} {c : V} {cs : List Str} (h : Is H c (.f (cs.map T.s))) : ColI H c cs := by
  obtain ⟨a, o, e, d, h1, ok⟩ := strs_inv h
  exact ⟨a, e, .inr ⟨o, d, h1⟩, ok⟩
theorem ColI.mono {H H' : Hp} (t : TK H H') {c : V} {cs : List Str} (h : ColI H c cs) : ColI H' c cs := by
  obtain ⟨a, e, h1, ok⟩ := h
  refine ⟨a, e, ?_, ok⟩
  rcases h1 with ⟨z, h1⟩ | ⟨o, d, h1⟩
  · exact .inl ⟨z, t.1 _ _ h1⟩
  · exact .inr ⟨o, d, t.2 _ _ _ h1⟩
theorem ColI.sq {K : PySem.W.Frag} {H : Hp} {a : Addr} {cs : List Str} (h : ColI H (.ref a) cs) : SqT K H a (cs.map V.str) := by
  obtain ⟨b, e, h1, _⟩ := h
  injection e with e
  subst e
  rcases h1 with ⟨z, h1⟩ | ⟨o, _, h1⟩
  · rw [z]; exact .inl (.inl h1)
  · exact .inl (.inr ⟨o, h1⟩)
theorem ColI.sqS {K : PySem.W.Frag} {H : Hp} {a : Addr} {cs : List Str} (h : ColI H (.ref a) cs) : ∀ H', Same H H' → SqT K H' a (cs.map V.str) := fun _ s => (h.mono (TK.of s)).sq
theorem ColI.cot {H : Hp} {c : V} {cs ws : List Str} (h : ColI H c cs) (sub : ∀ x ∈ ws, x ∈ cs) : CoT H c cs ws := by
  obtain ⟨a, e, h1, _⟩ := h
  refine ⟨a, e, ?_⟩
  rcases h1 with ⟨z, _⟩ | ⟨o, d, h1⟩
  · refine .inl ?_
    cases ws with
    | nil => rfl
    | cons x r =>
      have := sub x (List.mem_cons_self ..)
      rw [z] at this
      cases this
  · exact .inr ⟨o, d, h1⟩
theorem ColI.ok {H : Hp} {c : V} {cs : List Str} (h : ColI H c cs) : ∀ x ∈ cs, strOk x = true := by obtain ⟨_, _, _, ok⟩ := h; exact ok
theorem catF_go {K : PySem.W.Frag} {H : Hp} {a b : Addr} {cs1 cs2 : List Str} {Q : VK} (h1 : ColI H (.ref a) cs1) (h2 : ColI H (.ref b) cs2) (len : cs1.length + cs2.length ≤ 1000) (k : ∀ t H2, Same H H2 → ColI H2 (.ref t) (cs1 ++ cs2) → Q (.ref t) H2) :
    rCatF K (.ref a) (.ref b) H Q := by
  refine ⟨a, b, _, _, rfl, rfl, h1.sq, h2.sq, by rw [List.length_map, List.length_map]; exact le_line len, fun e => ?_, fun n e => ?_, fun n1 n2 p o hp hd => ?_⟩
  · have e1 : cs1 = [] := List.map_eq_nil_iff.mp e
    refine k b H (same_refl _) ?_
    rw [e1]
    exact h2
  · have e1 : cs2 = [] := List.map_eq_nil_iff.mp e
    refine k a H (same_refl _) ?_
    rw [e1, List.append_nil]
    exact h1
  · refine k p _ (Same.new hp) ⟨p, rfl, .inr ⟨o, hd, by rw [List.map_append]; exact upd_same⟩, fun x hx => (List.mem_append.mp hx).elim (h1.ok x) (h2.ok x)⟩
theorem catA_go {K : PySem.W.Frag} {H : Hp} {a b : Addr} {r1 r2 : List Key} {Q : VK} (h1 : H a = some (.tup (r1.map kV))) (h2 : H b = some (.tup (r2.map kV))) (len : r1.length + r2.length ≤ 1000) (k : ∀ t H2, Same H H2 → H2 t = some (.tup ((r1 ++ r2).map kV)) → Q (.ref t) H2) :
    rCatA K (.ref a) (.ref b) H Q := by
  refine ⟨a, b, _, _, rfl, rfl, .inl (.inl h1), .inl (.inl h2), by rw [List.length_map, List.length_map]; exact le_line len, fun e => ?_, fun n e => ?_, fun n1 n2 p hp => ?_⟩
  · have e1 : r1 = [] := List.map_eq_nil_iff.mp e
    refine k b H (same_refl _) ?_
    rw [e1]
    exact h2
  · have e1 : r2 = [] := List.map_eq_nil_iff.mp e
    refine k a H (same_refl _) ?_
    rw [e1, List.append_nil]
    exact h1
  · refine k p _ (Same.new hp) ?_
    rw [List.map_append]
    exact upd_same
theorem inV_strs (x : Str) (ws : List Str) : inV (.str x) (ws.map V.str) = decide (x ∈ ws) := by
  unfold inV
  rw [List.any_map]
  rw [Bool.eq_iff_iff]
  simp [eqV]
theorem flat_strs (ws : List Str) : (ws.map V.str).all flatV = true := by simp [flatV]
/-- a locked dict gives back what it was -/
theorem lock_same {H H' : Hp} {d : Addr} {u f : HO} (h : H d = some u) (s : Same (upd H d f) H') : Same H (upd H' d u) := fun b o e => by
  by_cases z : b = d
  · rw [z] at e ⊢
    rw [h] at e
    rw [upd_same, e]
  · rw [upd_ne z]
    exact s b o (by rw [upd_ne z]; exact e)
theorem lock_but {H H' : Hp} {d g : Addr} {u f : HO} (h : H d = some u) (s : But g (upd H d f) H') : But g H (upd H' d u) := fun b o n e => by
  by_cases z : b = d
  · rw [z] at e ⊢
    rw [h] at e
    rw [upd_same, e]
  · rw [upd_ne z]
    exact s b o n (by rw [upd_ne z]; exact e)
theorem but_same {H0 H H' : Hp} {g : Addr} (s : Same H0 H) (b : But g H H') (n : H0 g = none) : Same H0 H' := fun x o e => b x o (ne_of_none e n) (s x o e)
/-- the groups of the rows that are through: lists by the shared part -/
structure Gr (cs2 sh : List Str) (G : Addr) (Hb H' : Hp) (gk : List (List Key × V)) (done : List (List Key)) : Prop where
  none_ : ∀ k, valV gk k = none → ∀ r ∈ done, pick cs2 r sh ≠ k
  some_ : ∀ k v, valV gk k = some v → ∃ l refs, v = .ref l ∧ Hb l = none ∧ l ≠ G ∧ H' l = some (.lst refs) ∧ IsL H' refs ((done.filter fun r => decide (pick cs2 r sh = k)).map rowT)
  inj : ∀ k1 k2 l, valV gk k1 = some (.ref l) → valV gk k2 = some (.ref l) → k1 = k2
  len : gk.length ≤ done.length
theorem Gr.nil {cs2 sh : List Str} {G : Addr} {Hb H' : Hp} : Gr cs2 sh G Hb H' [] [] := ⟨fun _ _ r h => (by cases h), fun _ _ h => (by cases h), fun _ _ _ h => (by cases h), Nat.le_refl _⟩
section
variable {cs2 sh : List Str} {G : Addr} {Hb H' H1 : Hp} {gk : List (List Key × V)} {done : List (List Key)} {r : List Key} {q : Addr}
theorem Gr.hit (g : Gr cs2 sh G Hb H' gk done) (s : Same H' H1) {l : Addr} {refs : List V} (hv : valV gk (pick cs2 r sh) = some (.ref l)) (hl : H' l = some (.lst refs)) (hq : Is H1 (.ref q) (rowT r)) :
    Gr cs2 sh G Hb (upd H1 l (.lst (refs ++ [.ref q]))) gk (done ++ [r]) := by
  have h1l := s _ _ hl
  have tk : TK H1 (upd H1 l (.lst (refs ++ [.ref q]))) := TK.putL h1l
  refine ⟨fun k hk r' hr' => ?_, fun k v hk => ?_, g.inj, by rw [List.length_append]; exact Nat.le_trans g.len (Nat.le_add_right _ _)⟩
  · rcases List.mem_append.mp hr' with z | z
    · exact g.none_ k hk r' z
    · rw [List.mem_singleton.mp z]
      intro e
      rw [e, hk] at hv
      cases hv
  · obtain ⟨l', refs', ev, hb, ng, hl', his⟩ := g.some_ k v hk
    subst ev
    by_cases e : pick cs2 r sh = k
    · have el : l' = l := by
        rw [← e, hv] at hk
        injection hk with hk
        injection hk with hk
        exact hk.symm
      subst el
      rw [hl] at hl'
      injection hl' with hl'
      injection hl' with hl'
      subst hl'
      refine ⟨l', refs ++ [.ref q], rfl, hb, ng, upd_same, ?_⟩
      rw [List.filter_append, List.map_append]
      have ef : [r].filter (fun r => decide (pick cs2 r sh = k)) = [r] := by simp [e]
      rw [ef]
      exact IsL.snoc (IsL.mono tk _ _ (IsL.mono (TK.of s) _ _ his)) (Is.mono tk _ _ hq)
    · have nl : l' ≠ l := fun z => e (g.inj _ _ _ hv (by rw [← z]; exact hk))
      refine ⟨l', refs', rfl, hb, ng, by rw [upd_ne nl]; exact s _ _ hl', ?_⟩
      rw [List.filter_append]
      have ef : [r].filter (fun r => decide (pick cs2 r sh = k)) = [] := by simp [e]
      rw [ef, List.append_nil]
      exact IsL.mono tk _ _ (IsL.mono (TK.of s) _ _ his)
theorem Gr.new (g : Gr cs2 sh G Hb H' gk done) (s : Same H' H1) {z : Addr} (hv : valV gk (pick cs2 r sh) = none) (hg : H1 G = some (.dT gk)) (hz : H1 z = none) (hb : Hb z = none) (hq : Is H1 (.ref q) (rowT r)) :
    Gr cs2 sh G Hb (upd (upd (upd H1 z (.lst [])) G (.dT (putK gk (pick cs2 r sh) (.ref z)))) z (.lst [.ref q])) (putK gk (pick cs2 r sh) (.ref z)) (done ++ [r]) := by
  have nzG : z ≠ G := fun e => by rw [e, hg] at hz; cases hz
  have tk : TK H1 (upd (upd (upd H1 z (.lst [])) G (.dT (putK gk (pick cs2 r sh) (.ref z)))) z (.lst [.ref q])) := by
    refine TK.trans (TK.of (Same.new hz)) (TK.trans (TK.putT (kvs := gk) (by rw [upd_ne nzG.symm]; exact hg)) (TK.putL (xs := []) (by rw [upd_ne nzG]; exact upd_same)))
  have old : ∀ (l : Addr) (refs : List V), l ≠ G → H' l = some (.lst refs) → (upd (upd (upd H1 z (.lst [])) G (.dT (putK gk (pick cs2 r sh) (.ref z)))) z (.lst [.ref q])) l = some (.lst refs) := fun l refs n h => by
    have h1 := s _ _ h
    have nz := ne_of_none h1 hz
    rw [upd_ne nz, upd_ne n, upd_ne nz]
    exact h1
  refine ⟨fun k hk r' hr' => ?_, fun k v hk => ?_, fun k1 k2 l hk1 hk2 => ?_, by rw [List.length_append]; exact Nat.le_trans (length_putK gk _ _) (Nat.succ_le_succ g.len)⟩
  · rw [valV_put] at hk
    by_cases e : k = pick cs2 r sh
    · rw [if_pos e] at hk; cases hk
    · rw [if_neg e] at hk
      rcases List.mem_append.mp hr' with y | y
      · exact g.none_ k hk r' y
      · rw [List.mem_singleton.mp y]
        exact Ne.symm e
  · rw [valV_put] at hk
    by_cases e : k = pick cs2 r sh
    · rw [if_pos e] at hk
      subst e
      refine ⟨z, [.ref q], (Option.some.inj hk).symm, hb, nzG, upd_same, ?_⟩
      rw [List.filter_append]
      have e1 : done.filter (fun r' => decide (pick cs2 r' sh = pick cs2 r sh)) = [] := List.filter_eq_nil_iff.mpr fun r' h' => by
        have := g.none_ _ hv r' h'
        simpa using this
      have e2 : [r].filter (fun r' => decide (pick cs2 r' sh = pick cs2 r sh)) = [r] := by simp
      rw [e1, e2]
      exact isL_cons (Is.mono tk _ _ hq) isL_nil
    · rw [if_neg e] at hk
      obtain ⟨l', refs', ev, hb', ng, hl', his⟩ := g.some_ k v hk
      refine ⟨l', refs', ev, hb', ng, old _ _ ng hl', ?_⟩
      rw [List.filter_append]
      have ef : [r].filter (fun r => decide (pick cs2 r sh = k)) = [] := by simp [Ne.symm e]
      rw [ef, List.append_nil]
      exact IsL.mono tk _ _ (IsL.mono (TK.of s) _ _ his)
  · have lz : ∀ k, valV gk k = some (.ref z) → False := fun k h => by
      obtain ⟨l', refs', ev, _, _, hl', _⟩ := g.some_ k _ h
      injection ev with ev
      rw [← ev] at hl'
      have := s _ _ hl'
      rw [hz] at this
      cases this
    rw [valV_put] at hk1 hk2
    by_cases e1 : k1 = pick cs2 r sh
    · by_cases e2 : k2 = pick cs2 r sh
      · rw [e1, e2]
      · rw [if_pos e1] at hk1
        rw [if_neg e2] at hk2
        injection hk1 with hk1
        injection hk1 with hk1
        rw [← hk1] at hk2
        exact (lz _ hk2).elim
    · by_cases e2 : k2 = pick cs2 r sh
      · rw [if_neg e1] at hk1
        rw [if_pos e2] at hk2
        injection hk2 with hk2
        injection hk2 with hk2
        rw [← hk2] at hk1
        exact (lz _ hk1).elim
      · rw [if_neg e1] at hk1
        rw [if_neg e2] at hk2
        exact g.inj _ _ _ hk1 hk2
end
theorem keys_grp (cs2 sh : List Str) (d2 : DD) (k : List Key) : (keysD d2).filter (fun r => decide (pick cs2 r sh = k)) = keysD (grp cs2 sh d2 k) := by
  unfold keysD grp
  rw [List.filter_map]
  rfl
end K48
set_option maxRecDepth 100000
set_option maxHeartbeats 8000000
namespace K48
open PySem PySem.Spec PyProof.Rows L2 RZ
theorem heap_go {H : Hp} {Q : Hp → Prop} (R : Hp → Prop) (p : R H) (k : ∀ H', R H' → Q H') : Q H := k H p
theorem sumB_le_take (d : DD) (i : Nat) : sumB (d.take i) ≤ sumB d := by
  have h := sum_append (d.take i) (d.drop i)
  rw [List.take_append_drop] at h
  omega
theorem sumB_snoc {d : DD} {i : Nat} {k : List Key} {q : Rat} (h : d[i]? = some (k, q)) : sumB (d.take (i + 1)) = sumB (d.take i) + bt q := by
  rw [take_succ h, sum_append]
  simp [sumB]
theorem grp_len (cs2 sh : List Str) (d2 : DD) (k : List Key) : (grp cs2 sh d2 k).length ≤ d2.length := by
  unfold grp
  exact List.length_filter_le _ _
section
variable {P : Program} {w : World} {K : PySem.W.Frag} {mg : Str → Option Value} {base : Heap}
def N_joined : List Str := ["columns", "found", "others", "more", "shared", "names", "rest", "groups", "row", "result", "number", "match", "whole", "name"]
def p_joined : List Str := ["columns", "found", "others", "more"]
theorem sc_joined : FnScope N_joined p_joined (defScope s_joined) := ⟨rfl, rfl, rfl, by decide +kernel, rfl, by decide +kernel, by decide +kernel⟩
def sp_joined : Sp := fun vs H Q _ => ∃ (c1 c2 : V) (A1 A2 : Addr) (cs1 cs2 : List Str) (V1 V2 : (Str → Key) → Rat) (B1 L1 B2 L2' : Nat) (k1 k2 : List (List Key × L2.V)) (d1 d2 : DD), vs = [c1, .ref A1, c2, .ref A2] ∧ ColI H c1 cs1 ∧ ColI H c2 cs2 ∧
  H A1 = some (.dT k1) ∧ DV H k1 d1 ∧ Den cs1 V1 B1 L1 d1 ∧ H A2 = some (.dT k2) ∧ DV H k2 d2 ∧ Den cs2 V2 B2 L2' d2 ∧ B1 + B2 ≤ 13499 ∧ L1 * L2' ≤ 900 ∧ L1 ≤ 900 ∧ L2' ≤ 900 ∧ cs1.length + cs2.length ≤ 500 ∧
  GivesD H Q (csort (cs1 ++ cs2)) (fun e => V1 e * V2 e) (B1 * L2' + L1 * B2) (L1 * L2')
theorem ok_joined (G_part_of : Ok P w K mg base 1 "part_of" p_part_of (sp_part_of K)) (G_times : Ok P w K mg base 2 "times" p_times sp_times) (T : Tx K mg) : Ok P w K mg base 3 "joined" p_joined sp_joined := by
  refine T.ok i_joined sc_joined (fun _ _ _ _ _ _ us h => by match us, h with | [_, _, _, _], _ => rfl) (fun vs H Q E h => by obtain ⟨_, _, _, _, _, _, _, _, _, _, _, _, _, _, _, _, rfl, _⟩ := h; rfl) (fun f cdv A outer s H vs Q E hr h => ?_)
  obtain ⟨c1, c2, A1, A2, cs1, cs2, V1, V2, B1, L1, B2, L2', k1, k2, d1, d2, rfl, hc1, hc2, hA1, dv1, den1, hA2, dv2, den2, bb, ll, l1, l2, lc, q⟩ := h
  have nd := sc_joined.nd
  have hu := room_u1 hr
  have hu64 := room_u64 hr
  refine ⟨_, (pss_cons (ps_setLc (i := 4) (own := [("name", 13)]) (by rfl) nd rfl rfl (sw_true rfl rfl rfl (by decide +kernel)) (pi_tup (pv 0)) (blkOk_by (N := N_joined) (sc := defScope s_joined) (by decide +kernel)) (fun _ _ _ _ _ => (pg_name (i := 13) nd rfl (Or.inl rfl))) (fun _ _ _ _ _ => pts_one (pt_cmpR (op_in_seqK K) (pv 13) (pv 2) (by rfl))) (fun _ _ _ _ _ => (pv 13)))
      (pss_cons (ps_set (i := 5) nd rfl (Or.inl rfl) (pe_callTy call_tuple_frz (by rfl) (T.bl "tuple" (by decide)) (by decide +kernel) (pa_cons (pe_callB (cr_sortTx rfl hu64) (by rfl) (T.bl "sorted" (by decide)) (by decide +kernel) (pa_cons (pe_callTy (cr_setTxT rfl) (by rfl) (T.bl "set" (by decide)) (by decide +kernel) (pa_cons (pe_op op_catF (pv 0) (pv 2)) pa_nil)) pa_nil)) pa_nil)))
      (pss_cons (ps_setLc (i := 6) (own := [("name", 13)]) (by rfl) nd rfl rfl (sw_true rfl rfl rfl (by decide +kernel)) (pi_tup (pv 2)) (blkOk_by (N := N_joined) (sc := defScope s_joined) (by decide +kernel)) (fun _ _ _ _ _ => (pg_name (i := 13) nd rfl (Or.inl rfl))) (fun _ _ _ _ _ => pts_one (pt_cmpR (op_notIn_seqK K) (pv 13) (pv 0) (by rfl))) (fun _ _ _ _ _ => (pv 13)))
      (pss_cons (ps_set (i := 7) nd rfl (Or.inl rfl) pe_dnewT)
      (pss_cons (ps_lock (ps_for PassesOwn.never rfl (pi_keys (pv 3)) (pg_name (i := 8) nd rfl (Or.inl rfl))
        (pss_one (ps_expr (pe_bm PySem.F.plainAttrs_list PySem.F.slot_list_append PySem.F.type_list_append mt_append (pe_dsetdT hu (pv 7) (pe_ok G_part_of (hr.mono (by first | decide | omega)) rfl (pa_cons (pv 2) (pa_cons (pv 8) (pa_cons (pv 4) pa_nil)))) (pe_lst pa_nil) ⟨rfl, rfl, rfl, rfl⟩) (pa_cons (pv 8) pa_nil))))))
      (pss_cons (ps_set (i := 9) nd rfl (Or.inl rfl) pe_dnewT)
      (pss_cons (ps_lock (ps_for PassesOwn.never rfl (pi_itemsT (pv 1)) (pg_tup rfl (pgs_cons (pg_name (i := 8) nd rfl (Or.inl rfl)) (pgs_cons (pg_name (i := 10) nd rfl (Or.inl rfl)) pgs_nil)))
        (pss_one (ps_for PassesOwn.never rfl (pi_list (pe_dget2 hu (pv 7) (pe_ok G_part_of (hr.mono (by first | decide | omega)) rfl (pa_cons (pv 0) (pa_cons (pv 8) (pa_cons (pv 4) pa_nil)))) (pe_lst pa_nil) ⟨rfl, rfl, rfl, rfl⟩)) (pg_name (i := 11) nd rfl (Or.inl rfl))
          (pss_cons (ps_set (i := 12) nd rfl (Or.inl rfl) (pe_op op_catA (pv 8) (pe_ok G_part_of (hr.mono (by first | decide | omega)) rfl (pa_cons (pv 2) (pa_cons (pv 11) (pa_cons (pv 6) pa_nil))))))
          (pss_one (ps_dput hu (pv 9) (pe_ok G_part_of (hr.mono (by first | decide | omega)) rfl (pa_cons (pe_op op_catF (pv 0) (pe_callTy call_tuple_frz (by rfl) (T.bl "tuple" (by decide)) (by decide +kernel) (pa_cons (pv 6) pa_nil))) (pa_cons (pv 12) (pa_cons (pv 5) pa_nil)))) (pe_ok G_times (hr.mono (by first | decide | omega)) rfl (pa_cons (pv 10) (pa_cons (pe_dget hu (pv 3) (pv 11) (fun _ _ => rfl)) pa_nil))) rfl)))))))
      (pss_one (ps_ret (pv 9)))))))))), ?_⟩
  obtain ⟨a1, e1, hc1'⟩ := id hc1
  obtain ⟨a2, e2, hc2'⟩ := id hc2
  subst e1 e2
  have okn : ∀ x ∈ cs1 ++ cs2, strOk x = true := fun x hx => (List.mem_append.mp hx).elim (hc1.ok x) (hc2.ok x)
  -- shared
  refine r_seq (r_asg ?_)
  refine lc_tupF (fStr fun x => decide (x ∈ cs2)) H (fun R r => ⟨_, rfl, r⟩) hc1.sqS (isL_strs hc1.ok) (by rw [List.length_map]; omega) (fun S H1 vs sm1 hS hvs hls => ?_) (fun i x t H' et sm ht Y Z hY hZ => ?_)
  rotate_left
  · obtain ⟨y, ey, e2⟩ := map_get et
    subst e2
    obtain ⟨rfl, oky⟩ := is_s_inv ht
    refine ⟨rfl, .str y, rfl, .ref a2, rfl, a2, _, rfl, .inr (hc2.mono (TK.of sm)).sq, rfl, flat_strs _, decide (y ∈ cs2), congrArg V.bl (inV_strs y cs2), ?_⟩
    by_cases z : y ∈ cs2
    · rw [decide_eq_true z]
      exact ⟨.str y, rfl, hY _ _ _ (by simp [fStr, z]) (same_refl _) (is_s oky)⟩
    · rw [decide_eq_false z]
      exact hZ _ (by simp [fStr, z]) (same_refl _)
  rw [fm_strs] at hls
  have evs := hls.strs.1
  rw [evs] at hvs
  -- names
  dsimp only [gName]
  refine r_seq (r_asg (r_cb (r_cons (r_cb (r_cons (r_cb (r_cons (r_op ⟨_, rfl, _, rfl, ?_⟩))))))))
  refine catF_go (hc1.mono (TK.of sm1)) (hc2.mono (TK.of sm1)) (by omega) (fun t H2 sm2 ht => ?_)
  refine ⟨t, _, rfl, ht.sq, by rw [List.length_append]; omega, fun z hz => ⟨z, _, rfl, upd_same, fun p hp => ⟨p, _, rfl, .inl (.inl upd_same), fun N on hN hd => ?_⟩⟩⟩
  refine heap_go (fun H' => Same H2 H' ∧ H' N = some (.frz on (.tup ((namesOf cs1 cs2).map V.str)))) ⟨same_tr (Same.new hz) (same_tr (Same.new hp) (Same.new hN)), upd_same⟩ fun H3 h3 => ?_
  obtain ⟨sm3, hNat⟩ := h3
  have s03 := same_tr sm1 (same_tr sm2 sm3)
  have hS3 := same_tr sm2 sm3 _ _ hvs
  -- rest
  dsimp only [gName]
  refine r_seq (r_asg ?_)
  refine lc_tupF (fStr fun x => decide (x ∉ cs1)) H3 (fun R r => ⟨_, rfl, r⟩) (hc2.mono (TK.of s03)).sqS (isL_strs hc2.ok) (by rw [List.length_map]; omega) (fun R H4 vs sm4 hR hvs hls => ?_) (fun i x t H' et sm ht Y Z hY hZ => ?_)
  rotate_left
  · obtain ⟨y, ey, e2⟩ := map_get et
    subst e2
    obtain ⟨rfl, oky⟩ := is_s_inv ht
    refine ⟨rfl, .str y, rfl, .ref a1, rfl, a1, _, rfl, .inr (hc1.mono (TK.of (same_tr s03 sm))).sq, rfl, flat_strs _, decide (y ∉ cs1), ?_, ?_⟩
    · rw [inV_strs]
      by_cases z : y ∈ cs1 <;> simp [z]
    by_cases z : y ∈ cs1
    · rw [decide_eq_false (by simpa using z)]
      exact hZ _ (by simp [fStr, z]) (same_refl _)
    · rw [decide_eq_true z]
      exact ⟨.str y, rfl, hY _ _ _ (by simp [fStr, z]) (same_refl _) (is_s oky)⟩
  rw [fm_strs] at hls
  have evs2 := hls.strs.1
  rw [evs2] at hvs
  have s04 := same_tr s03 sm4
  have hS4 := sm4 _ _ hS3
  have hN4 := sm4 _ _ hNat
  -- groups
  dsimp only [gName]
  refine r_seq (r_asg fun G hG => ?_)
  have s4G : Same H4 (upd H4 G (.dT [])) := Same.new hG
  dsimp only [gName]
  refine r_seq ⟨A2, .dT k2, s4G _ _ (s04 _ _ hA2), trivial, fun od => ?_⟩
  have nG2 : G ≠ A2 := (ne_of_none (s04 _ _ hA2) hG).symm
  have tkl : TK H4 (upd (upd H4 G (.dT [])) A2 (.frz od (.dT k2))) := TK.trans (TK.of s4G) (TK.putT (s4G _ _ (s04 _ _ hA2)))
  have butl : ∀ {H' : Hp}, But G (upd (upd H4 G (.dT [])) A2 (.frz od (.dT k2))) H' → TK H4 H' := fun b => TK.trans tkl (b.tkT (kvs := []) (by rw [upd_ne nG2]; exact upd_same))
  have keepl : ∀ {H' : Hp}, But G (upd (upd H4 G (.dT [])) A2 (.frz od (.dT k2))) H' → ∀ l xs, H4 l = some (.lst xs) → H' l = some (.lst xs) := fun b l xs h => by
    have n1 : l ≠ G := ne_of_none h hG
    have n2 : l ≠ A2 := fun z => by rw [z, s04 _ _ hA2] at h; cases h
    exact b _ _ n1 (by rw [upd_ne n2, upd_ne n1]; exact h)
  refine ⟨.ref A2, rfl, A2, od, rfl, .inr ⟨k2, upd_same, ?_⟩⟩
  refine j_keys k2 (fun i σ H' => ∃ rw_ : Option V, σ = [some (.ref a1), some (.ref A1), some (.ref a2), some (.ref A2), some (.ref S), some (.ref N), some (.ref R), some (.ref G), rw_, none, none, none, none, none] ∧
      But G (upd (upd H4 G (.dT [])) A2 (.frz od (.dT k2))) H' ∧ ∃ gk, H' G = some (.dT gk) ∧ Gr cs2 (shOf cs1 cs2) G (upd (upd H4 G (.dT [])) A2 (.frz od (.dT k2))) H' gk (keysD (d2.take i)))
    ⟨_, rfl, But.refl _ _, [], by rw [upd_ne nG2]; exact upd_same, Gr.nil⟩
    (fun i σ H' h => by obtain ⟨_, _, b, _⟩ := h; exact b _ _ nG2.symm upd_same) (fun σ H' h => ?_) (fun i k v qa σ H' ek h hqa => ?_)
  rotate_left
  · obtain ⟨rw_, rfl, b, gk, hgk, gr⟩ := h
    obtain ⟨n2, ed, hn2⟩ := dv2.get ek
    have tk := butl b
    have md : (k, n2) ∈ d2 := List.mem_of_getElem? ed
    obtain ⟨e2, r2, v2, nz2, u2, b2⟩ := den2.row md
    have okk := (den2.keys _ md).2
    have hqis : Is H' (.ref qa) (rowT k) := row_is hqa okk
    have tkd : keysD (d2.take (i + 1)) = keysD (d2.take i) ++ [k] := by
      rw [take_succ ed]; unfold keysD; rw [List.map_append]; rfl
    have few1 : gk.length ≤ 900 := by
      refine Nat.le_trans gr.len ?_
      unfold keysD
      rw [List.length_map, List.length_take]
      exact Nat.le_trans (Nat.min_le_right _ _) (Nat.le_trans den2.len l2)
    refine ⟨.ref G, rfl, G, rfl, .inr ⟨gk, .inl hgk⟩, .ref a2, rfl, .ref qa, rfl, .ref S, rfl, .ref a2, .ref qa, S, cs2, shOf cs1 cs2, k, rfl, ((hc2.mono (TK.of s04)).mono tk).cot (fun x hx => (mem_sh.mp hx).2), hqis, by rw [r2, List.length_map], .inl (keepl b _ _ hS4), fun x hx => ⟨(mem_sh.mp hx).2, hc1.ok x (mem_sh.mp hx).1⟩, ?_, fun pv H5 sm5 hpv => ?_⟩
    · unfold shOf
      exact Nat.le_trans (List.length_filter_le _ _) (by omega)
    obtain ⟨kb, rfl, hkb, okkb⟩ := row_inv hpv
    refine ⟨Nat.zero_le _, fun z hz => ?_⟩
    have s5z : Same H5 (upd H5 z (.lst [])) := Same.new hz
    have hg5 := sm5 _ _ hgk
    refine ⟨gk, _, kb, s5z _ _ hg5, rfl, s5z _ _ hkb, lt_line (by omega), fun v hv => ?_, fun hv => ?_⟩
    · obtain ⟨l, refs, rfl, hbl, nl, hl, his⟩ := gr.some_ _ _ hv
      have hl2 := s5z _ _ (sm5 _ _ hl)
      have lrefs : refs.length ≤ 900 := by
        rw [his.length, List.length_map]
        refine Nat.le_trans (List.length_filter_le _ _) ?_
        unfold keysD
        rw [List.length_map, List.length_take]
        exact Nat.le_trans (Nat.min_le_right _ _) (Nat.le_trans den2.len l2)
      refine ⟨.inl ⟨rfl, _, .inl (.inl hl2)⟩, .ref qa, rfl, l, refs, .ref qa, rfl, rfl, hl2, lt_line (by omega), ?_⟩
      have g' := gr.hit (same_tr sm5 s5z) hv hl (Is.mono (TK.of (same_tr sm5 s5z)) _ _ hqis)
      rw [← tkd] at g'
      refine ⟨_, rfl, ?_, gk, by rw [upd_ne nl.symm]; exact s5z _ _ hg5, g'⟩
      exact fun x o nx ex => by
        have n3 : x ≠ l := ne_of_none ex hbl
        rw [upd_ne n3]
        exact s5z _ _ (sm5 _ _ (b x o nx ex))
    · have hzb : (upd (upd H4 G (.dT [])) A2 (.frz od (.dT k2))) z = none := by
        have n1 : z ≠ G := fun e => by rw [e, hg5] at hz; cases hz
        exact b.free n1 (none_back sm5 hz)
      have nzG : z ≠ G := fun e => by rw [e, hg5] at hz; cases hz
      have hl2 : (upd (upd H5 z (.lst [])) G (.dT (putK gk (pick cs2 k (shOf cs1 cs2)) (.ref z)))) z = some (.lst []) := by rw [upd_ne nzG]; exact upd_same
      refine ⟨.inl ⟨rfl, _, .inl (.inl hl2)⟩, .ref qa, rfl, z, [], .ref qa, rfl, rfl, hl2, lt_line (Nat.zero_le _), ?_⟩
      have g' := gr.new (r := k) sm5 hv hg5 hz hzb (Is.mono (TK.of sm5) _ _ hqis)
      rw [← tkd] at g'
      refine ⟨_, rfl, ?_, _, by rw [upd_ne nzG.symm]; exact upd_same, g'⟩
      exact fun x o nx ex => by
        have n3 : x ≠ z := ne_of_none ex hzb
        rw [List.nil_append, upd_ne n3, upd_ne nx, upd_ne n3]
        exact sm5 _ _ (b x o nx ex)
  obtain ⟨rw_, rfl, b, gk, hgk, gr⟩ := h
  have e2l : k2.length = d2.length := dv2.len
  rw [e2l, List.take_length] at gr
  dsimp only
  refine ⟨b _ _ nG2.symm upd_same, ?_⟩
  have s45 : Same H4 (upd H' A2 (.dT k2)) := but_same (same_refl _) (But.trans (But.of s4G) (lock_but (s4G _ _ (s04 _ _ hA2)) b)) hG
  have hg5 : (upd H' A2 (.dT k2)) G = some (.dT gk) := by rw [upd_ne nG2]; exact hgk
  have grl : ∀ k v, valV gk k = some v → ∃ l refs, v = .ref l ∧ (upd H' A2 (.dT k2)) l = some (.lst refs) ∧ IsL (upd H' A2 (.dT k2)) refs ((keysD (grp cs2 (shOf cs1 cs2) d2 k)).map rowT) := fun k v hv => by
    obtain ⟨l, refs, ev, hbl, nl, hl, his⟩ := gr.some_ k v hv
    rw [keys_grp] at his
    have nA : l ≠ A2 := fun z => by rw [z, upd_same] at hbl; cases hbl
    have tk2 : TK H' (upd H' A2 (.dT k2)) := TK.put (b _ _ nG2.symm upd_same) (fun _ z => nomatch z) (fun _ _ z => nomatch z)
    exact ⟨l, refs, ev, by rw [upd_ne nA]; exact hl, IsL.mono tk2 _ _ his⟩
  generalize (upd H' A2 (.dT k2)) = H5 at s45 hg5 grl ⊢
  have s05 := same_tr s04 s45
  -- result
  refine r_seq (r_asg fun R9 hR9 => ?_)
  have s5R : Same H5 (upd H5 R9 (.dT [])) := Same.new hR9
  dsimp only [gName]
  refine r_seq ⟨A1, .dT k1, s5R _ _ (s05 _ _ hA1), trivial, fun od1 => ?_⟩
  have nR1 : R9 ≠ A1 := (ne_of_none (s05 _ _ hA1) hR9).symm
  have tkl2 : TK H5 (upd (upd H5 R9 (.dT [])) A1 (.frz od1 (.dT k1))) := TK.trans (TK.of s5R) (TK.putT (s5R _ _ (s05 _ _ hA1)))
  have butl2 : ∀ {H' : Hp}, But R9 (upd (upd H5 R9 (.dT [])) A1 (.frz od1 (.dT k1))) H' → TK H5 H' := fun b => TK.trans tkl2 (b.tkT (kvs := []) (by rw [upd_ne nR1]; exact upd_same))
  have keepo : ∀ {H' : Hp}, But R9 (upd (upd H5 R9 (.dT [])) A1 (.frz od1 (.dT k1))) H' → ∀ l o, l ≠ A1 → H5 l = some o → H' l = some o := fun b l o n h => by
    have n1 : l ≠ R9 := ne_of_none h hR9
    exact b _ _ n1 (by rw [upd_ne n, upd_ne n1]; exact h)
  have keepL : ∀ {H' : Hp}, But R9 (upd (upd H5 R9 (.dT [])) A1 (.frz od1 (.dT k1))) H' → ∀ l xs, H5 l = some (.lst xs) → H' l = some (.lst xs) := fun b l xs h => keepo b l _ (fun z => by rw [z, s05 _ _ hA1] at h; cases h) h
  have nGA : G ≠ A1 := (ne_of_none (s04 _ _ hA1) hG).symm
  have moreAt : ∀ {H' : Hp}, But R9 (upd (upd H5 R9 (.dT [])) A1 (.frz od1 (.dT k1))) H' → Rd H' A2 (.dT k2) := fun b => by
    by_cases z : A2 = A1
    · have ek : k2 = k1 := by
        rw [z, hA1] at hA2
        injection hA2 with hA2
        injection hA2 with hA2
        exact hA2.symm
      rw [z, ek]
      exact .inr ⟨od1, b _ _ nR1.symm upd_same⟩
    · exact .inl (keepo b _ _ z (s05 _ _ hA2))
  refine ⟨.ref A1, rfl, A1, od1, k1, rfl, upd_same, ?_⟩
  refine j_items k1 (fun i σ H' => ∃ rw_ nm mt wh : Option V, σ = [some (.ref a1), some (.ref A1), some (.ref a2), some (.ref A2), some (.ref S), some (.ref N), some (.ref R), some (.ref G), rw_, some (.ref R9), nm, mt, wh, none] ∧
      But R9 (upd (upd H5 R9 (.dT [])) A1 (.frz od1 (.dT k1))) H' ∧ ∃ rk res, H' R9 = some (.dT rk) ∧ DV H' rk res ∧ Den (namesOf cs1 cs2) (JV cs1 cs2 V1 V2 (keysD (d1.take i)) [] []) (sumB (d1.take i) * L2' + i * B2) (i * L2') res)
    ⟨_, _, _, _, rfl, But.refl _ _, [], [], by rw [upd_ne nR1]; exact upd_same, True.intro, (join_none cs1 cs2 V1 V2 []).more (fun _ => rfl) (Nat.zero_le _) (Nat.zero_le _)⟩
    (fun i σ H' h => by obtain ⟨_, _, _, _, _, b, _⟩ := h; exact b _ _ nR1.symm upd_same) (fun σ H' h => ?_) (fun i k v t qa σ H' ek h hqa ht => ?_)
  · obtain ⟨rw2, nm, mt, wh, rfl, b2, rk, res, hrk, hdv, den⟩ := h
    have e1l : k1.length = d1.length := dv1.len
    rw [e1l, List.take_length] at den
    dsimp only
    refine ⟨b2 _ _ nR1.symm upd_same, ?_⟩
    have s56 : Same H5 (upd H' A1 (.dT k1)) := but_same (same_refl _) (But.trans (But.of s5R) (lock_but (s5R _ _ (s05 _ _ hA1)) b2)) hR9
    have tk2 : TK H' (upd H' A1 (.dT k1)) := TK.put (b2 _ _ nR1.symm upd_same) (fun _ z => nomatch z) (fun _ _ z => nomatch z)
    refine ⟨.ref R9, rfl, q R9 rk res _ (same_tr s05 s56) (by rw [upd_ne nR1]; exact hrk) (DV.mono tk2 hdv) (den.more (fun e => (join_all den1 e).symm) ?_ ?_)⟩
    · exact Nat.add_le_add (Nat.mul_le_mul_right _ den1.size) (Nat.mul_le_mul_right _ den1.len)
    · exact Nat.mul_le_mul_right _ den1.len
  · obtain ⟨rw2, nm, mt, wh, rfl, b2, rk, res, hrk, hdv, den⟩ := h
    obtain ⟨n1, ed, hn1⟩ := dv1.get ek
    have md : (k, n1) ∈ d1 := List.mem_of_getElem? ed
    obtain ⟨e1, r1, v1, nz1, u1, b1⟩ := den1.row md
    have okk := (den1.keys _ md).2
    have st : Same H' (upd H' t (.tup [.ref qa, v])) := Same.new ht
    refine ⟨t, _, rfl, .inl (.inl upd_same), rfl, _, _, rfl, _, _, rfl, rfl, ?_⟩
    have b3 := But.trans b2 (But.of st)
    generalize (upd H' t (.tup [.ref qa, v])) = H6 at st b3 ⊢
    have tk6 := butl2 b3
    have tk06 := TK.trans (TK.of s05) tk6
    have hqis : Is H6 (.ref qa) (rowT k) := row_is (st _ _ hqa) okk
    refine ⟨.ref G, rfl, G, rfl, .inr ⟨gk, .inl (keepo b3 _ _ nGA hg5)⟩, .ref a1, rfl, .ref qa, rfl, .ref S, rfl, .ref a1, .ref qa, S, cs1, shOf cs1 cs2, k, rfl, (hc1.mono tk06).cot (fun x hx => (mem_sh.mp hx).1), hqis, by rw [r1, List.length_map], .inl (keepL b3 _ _ (s45 _ _ hS4)), fun x hx => ⟨(mem_sh.mp hx).1, hc1.ok x (mem_sh.mp hx).1⟩, ?_, fun pv H7 sm7 hpv => ?_⟩
    · unfold shOf
      exact Nat.le_trans (List.length_filter_le _ _) (by omega)
    obtain ⟨kb, rfl, hkb, okkb⟩ := row_inv hpv
    refine ⟨Nat.zero_le _, fun z hz => ?_⟩
    have s7z : Same H7 (upd H7 z (.lst [])) := Same.new hz
    have s6z := same_tr sm7 s7z
    have b4 := But.trans b3 (But.of s6z)
    refine ⟨_, DGet.t (s6z _ _ (keepo b3 _ _ nGA hg5)) (s7z _ _ hkb), ?_⟩
    have lst : ∃ l refs, (valV gk (pick cs1 k (shOf cs1 cs2))).getD (.ref z) = .ref l ∧ l ≠ R9 ∧ (upd H7 z (.lst [])) l = some (.lst refs) ∧ IsL (upd H7 z (.lst [])) refs ((keysD (grp cs2 (shOf cs1 cs2) d2 (pick cs1 k (shOf cs1 cs2)))).map rowT) := by
      cases hv : valV gk (pick cs1 k (shOf cs1 cs2)) with
      | none =>
        have e : keysD (grp cs2 (shOf cs1 cs2) d2 (pick cs1 k (shOf cs1 cs2))) = [] := by
          rw [← keys_grp]
          exact List.filter_eq_nil_iff.mpr fun r' h' => by
            have := gr.none_ _ hv r' h'
            simpa using this
        refine ⟨z, [], rfl, fun y => ?_, upd_same, by rw [e]; exact isL_nil⟩
        have := sm7 _ _ (st _ _ hrk)
        rw [← y, hz] at this
        cases this
      | some v' =>
        obtain ⟨l, refs, ev, hl, his⟩ := grl _ _ hv
        exact ⟨l, refs, ev, ne_of_none hl hR9, s6z _ _ (keepL b3 _ _ hl), IsL.mono (TK.trans tk6 (TK.of s6z)) _ _ his⟩
    obtain ⟨l, refs, el, nlR, hl, his⟩ := lst
    rw [el]
    have b4R : ∃ rkk, (upd H7 z (.lst [])) R9 = some (.dT rkk) := ⟨rk, s6z _ _ (st _ _ hrk)⟩
    have hrk8 := s6z _ _ (st _ _ hrk)
    have hdv8 := DV.mono (TK.of (same_tr st s6z)) hdv
    have hn8 := Is.mono (TK.trans tk06 (TK.of s6z)) _ _ hn1
    have hq8 := s6z _ _ (st _ _ hqa)
    generalize (upd H7 z (.lst [])) = H8 at s6z b4 hl his hrk8 hdv8 hn8 hq8 ⊢
    refine ⟨l, rfl, ⟨refs, .inl (.inl hl)⟩, ?_⟩
    refine j_list refs (fun j σ H' => ∃ mt wh : Option V, σ = [some (.ref a1), some (.ref A1), some (.ref a2), some (.ref A2), some (.ref S), some (.ref N), some (.ref R), some (.ref G), some (.ref qa), some (.ref R9), some v, mt, wh, none] ∧
        But R9 H8 H' ∧ ∃ rk res, H' R9 = some (.dT rk) ∧ DV H' rk res ∧ Den (namesOf cs1 cs2) (JV cs1 cs2 V1 V2 (keysD (d1.take i)) k (keysD ((grp cs2 (shOf cs1 cs2) d2 (pick cs1 k (shOf cs1 cs2))).take j)))
          (sumB (d1.take i) * L2' + i * B2 + (j * bt n1 + sumB ((grp cs2 (shOf cs1 cs2) d2 (pick cs1 k (shOf cs1 cs2))).take j))) (i * L2' + j) res)
      ⟨_, _, rfl, But.refl _ _, rk, res, hrk8, hdv8, den.more (fun e => ?_) (by simp [sumB]) (Nat.le_refl _)⟩
      (fun j σ H' h => by obtain ⟨_, _, _, b, _⟩ := h; exact .inl (.inl (b _ _ nlR hl))) (fun σ H9 h => ?_) (fun j x σ H9 ex h => ?_)
    · unfold JV
      by_cases a : cs1.map e ∈ keysD (d1.take i)
      · rw [if_pos (.inl a), if_pos (.inl a)]
      · rw [if_neg, if_neg]
        · rintro (h | ⟨_, h⟩)
          · exact a h
          · cases h
        · rintro (h | ⟨_, h⟩)
          · exact a h
          · cases h
    · obtain ⟨mt2, wh2, rfl, b5, rk2, res2, hrk2, hdv2, den2'⟩ := h
      have elr : refs.length = (grp cs2 (shOf cs1 cs2) d2 (pick cs1 k (shOf cs1 cs2))).length := by rw [his.length, List.length_map]; unfold keysD; rw [List.length_map]
      rw [elr, List.take_length] at den2'
      have gl := Nat.le_trans (grp_len cs2 (shOf cs1 cs2) d2 (pick cs1 k (shOf cs1 cs2))) den2.len
      have gs : sumB (grp cs2 (shOf cs1 cs2) d2 (pick cs1 k (shOf cs1 cs2))) ≤ B2 := Nat.le_trans (sum_filter _ d2) den2.size
      refine ⟨_, _, _, _, rfl, But.trans b4 b5, rk2, res2, hrk2, hdv2, den2'.more (fun e => join_row den1 den2 ed e) ?_ ?_⟩
      · rw [sumB_snoc ed, Nat.add_mul, Nat.succ_mul]
        have := Nat.mul_le_mul_right (bt n1) gl
        rw [Nat.mul_comm L2' (bt n1)] at this
        omega
      · rw [Nat.succ_mul]
        omega
    · obtain ⟨mt2, wh2, rfl, b5, rk2, res2, hrk2, hdv2, den2'⟩ := h
      have b9 := But.trans b4 b5
      have tk9 := butl2 b9
      have tk09 := TK.trans (TK.of s05) tk9
      have tk89 : TK H8 H9 := b5.tkT hrk8
      obtain ⟨dm, edm, hm⟩ := (IsL.mono tk89 _ _ his).get' ex
      obtain ⟨m, em, e3⟩ := map_get edm
      subst e3
      obtain ⟨⟨m', n2⟩, eg, e4⟩ := map_get em
      simp only at e4
      subst e4
      obtain ⟨ma, rfl, hma, okm⟩ := row_inv hm
      obtain ⟨mg2, pg2⟩ := grp_mem (List.mem_of_getElem? eg)
      obtain ⟨e2, r2, v2, nz2, u2, b22⟩ := den2.row mg2
      have hq9 := tk89.1 _ _ hq8
      have hm9 : Is H9 (.ref ma) (rowT m') := hm
      have few2 : (restOf cs1 cs2).length ≤ 500 := by
        unfold restOf
        exact Nat.le_trans (List.length_filter_le _ _) (by omega)
      refine ⟨.ref qa, rfl, .ref a2, rfl, .ref ma, rfl, .ref R, rfl, .ref a2, .ref ma, R, cs2, restOf cs1 cs2, m', rfl, (hc2.mono tk09).cot (fun x hx => (mem_rest.mp hx).1), hm9, by rw [r2, List.length_map], .inl (keepL b9 _ _ (s45 _ _ hvs)), fun x hx => ⟨(mem_rest.mp hx).1, hc2.ok x (mem_rest.mp hx).1⟩, by omega, fun pv2 H10 sm10 hpv2 => ?_⟩
      obtain ⟨wb, rfl, hwb, okwb⟩ := row_inv hpv2
      have len1 : k.length = cs1.length := by rw [r1, List.length_map]
      have len2 : (pick cs2 m' (restOf cs1 cs2)).length = (restOf cs1 cs2).length := by unfold pick; rw [List.length_map]
      refine catA_go (sm10 _ _ hq9) hwb (by omega) fun wt H11 sm11 hwt => ?_
      have s9_11 := same_tr sm10 sm11
      have b11 := But.trans b9 (But.of s9_11)
      have hA2' : DGet H11 A2 (.ref ma) (valV k2 m') := by
        exact .inr ⟨k2, m', ma, moreAt b11, rfl, s9_11 _ _ hma, rfl⟩
      have hval : ∃ v2', valV k2 m' = some v2' ∧ Is H11 v2' (shT n2) := by
        have dvv := DV.mono (TK.trans tk09 (TK.of s9_11)) dv2
        rcases dvv.val (k := m') with ⟨z, _⟩ | ⟨q', v', z1, z2, z3⟩
        · rw [valD_of_mem den2.nodup mg2] at z
          cases z
        · rw [valD_of_mem den2.nodup mg2] at z1
          injection z1 with z1
          rw [z1]
          exact ⟨v', z2, z3⟩
      obtain ⟨v2', ev2, hv2'⟩ := hval
      rw [ev2] at hA2'
      dsimp only [gName]
      refine ⟨v, rfl, .ref A2, rfl, .ref ma, rfl, A2, v2', rfl, hA2', v, v2', n1, n2, rfl, Is.mono (TK.trans tk89 (TK.of s9_11)) _ _ hn8, hv2', ⟨u1, u2, by omega⟩, fun pv3 H12 sm12 hpv3 => ?_⟩
      have s9_12 := same_tr s9_11 sm12
      have b12 := But.trans b9 (But.of s9_12)
      have tk012 := TK.trans tk09 (TK.of s9_12)
      refine ⟨.ref R9, rfl, .ref a1, rfl, .ref R, rfl, R, _, rfl, .inl (.inl (keepL b12 _ _ (s45 _ _ hvs))), fun rt ort hrt hdrt => ?_⟩
      have s12r := Same.new (o := .frz ort (.tup ((restOf cs1 cs2).map V.str))) hrt
      refine catF_go (b := rt) (cs2 := restOf cs1 cs2) ((hc1.mono tk012).mono (TK.of s12r)) ⟨rt, rfl, .inr ⟨ort, hdrt, upd_same⟩, fun x hx => hc2.ok x (mem_rest.mp hx).1⟩ (by omega) (fun ct H13 sm13 hct => ?_)
      have s12_13 := same_tr s12r sm13
      have s9_13 := same_tr s9_12 s12_13
      have b13 := But.trans b9 (But.of s9_13)
      have tk013 := TK.trans tk09 (TK.of s9_13)
      have okw : ∀ y ∈ k ++ pick cs2 m' (restOf cs1 cs2), kOk y = true := fun y hy => (List.mem_append.mp hy).elim (okk y) (okwb y)
      refine ⟨.ref wt, rfl, .ref N, rfl, .ref ct, .ref wt, N, cs1 ++ restOf cs1 cs2, namesOf cs1 cs2, k ++ pick cs2 m' (restOf cs1 cs2), rfl, hct.cot (fun x hx => names_in hx), row_is (same_tr sm12 s12_13 _ _ hwt) okw, by rw [List.length_append, List.length_append, len1, len2], .inr (fun H' s => .inl (.inr ⟨on, s _ _ (tk9.2 _ _ _ (s45 _ _ hN4) |> s9_13 _ _)⟩)), fun x hx => ⟨names_in hx, okn x (mem_csort.mp hx)⟩, ?_, fun pv4 H14 sm14 hpv4 => ?_⟩
      · exact Nat.le_trans (csort_len _) (by rw [List.length_append]; omega)
      obtain ⟨fb, rfl, hfb, okfb⟩ := row_inv hpv4
      have s9_14 := same_tr s9_13 sm14
      have hrk14 := s9_14 _ _ hrk2
      have hdv14 := DV.mono (TK.of s9_14) hdv2
      have hi1 : i < d1.length := (List.getElem?_eq_some_iff.mp ed).1
      have hj1 : j < (grp cs2 (shOf cs1 cs2) d2 (pick cs1 k (shOf cs1 cs2))).length := (List.getElem?_eq_some_iff.mp eg).1
      have gl := Nat.le_trans (grp_len cs2 (shOf cs1 cs2) d2 (pick cs1 k (shOf cs1 cs2))) den2.len
      have few3 : rk2.length ≤ 900 := by
        rw [hdv2.len]
        refine Nat.le_trans den2'.len (Nat.le_trans ?_ ll)
        have := Nat.mul_le_mul_right L2' (show i + 1 ≤ L1 by have := den1.len; omega)
        rw [Nat.succ_mul] at this
        omega
      refine ⟨R9, _, rfl, DPut.t hrk14 hfb (lt_line (by omega)), ?_⟩
      have tkp := TK.putT (o := .dT (putK rk2 (pick (cs1 ++ restOf cs1 cs2) (k ++ pick cs2 m' (restOf cs1 cs2)) (namesOf cs1 cs2)) pv3)) hrk14
      have h3_14 := Is.mono (TK.of (same_tr s12_13 sm14)) _ _ hpv3
      refine ⟨_, _, rfl, But.trans b5 (But.trans (But.of s9_14) But.put), _, putD res2 (pick (cs1 ++ restOf cs1 cs2) (k ++ pick cs2 m' (restOf cs1 cs2)) (namesOf cs1 cs2)) (n1 * n2), upd_same, DV.mono tkp (DV.put h3_14 hdv14 den2'.nodup), ?_⟩
      refine (join_step den1 den2 ed eg den2').more (fun _ => rfl) ?_ (by omega)
      rw [sumB_snoc eg, Nat.succ_mul]
      omega
end
end K48
set_option maxRecDepth 100000
set_option maxHeartbeats 4000000
namespace K48
open PySem PySem.Spec PyProof.Rows L2
/-! ### products -/
def prodR : List Rat → Rat
  | [] => 1
  | q :: r => q * prodR r
theorem prodR_append : ∀ a b : List Rat, prodR (a ++ b) = prodR a * prodR b
  | [], b => by simp [prodR, Rat.one_mul]
  | q :: r, b => by rw [List.cons_append, prodR, prodR, prodR_append r b, Rat.mul_assoc]
theorem prodR_perm {a b : List Rat} (h : a.Perm b) : prodR a = prodR b := by
  induction h with
  | nil => rfl
  | cons x _ ih => rw [prodR, prodR, ih]
  | swap x y l => rw [prodR, prodR, prodR, prodR, ← Rat.mul_assoc, ← Rat.mul_assoc, Rat.mul_comm y x]
  | trans _ _ h1 h2 => exact h1.trans h2
theorem prodR_un : ∀ {l : List Rat}, (∀ q ∈ l, Un q) → Un (prodR l)
  | [], _ => un_one
  | q :: r, h => (h q (List.mem_cons_self ..)).mul (prodR_un fun p hp => h p (List.mem_cons_of_mem _ hp))
theorem prodR_lt : ∀ {l : List Rat}, (∀ q ∈ l, Un q) → (∃ q ∈ l, q ≠ 1) → prodR l ≠ 1
  | [], _, ⟨_, h, _⟩ => by cases h
  | p :: r, h, ⟨q, hq, nq⟩ => by
    have up := h p (List.mem_cons_self ..)
    have ur := prodR_un fun p hp => h p (List.mem_cons_of_mem _ hp)
    rw [prodR]
    intro z
    have a := Rat.mul_le_mul_of_nonneg_left ur.2 up.1
    rw [Rat.mul_one, z] at a
    have p1 : p = 1 := Rat.le_antisymm up.2 a
    rw [p1, Rat.one_mul] at z
    rcases List.mem_cons.mp hq with e | e
    · exact nq (e.trans p1)
    · exact prodR_lt (fun p hp => h p (List.mem_cons_of_mem _ hp)) ⟨q, e, nq⟩ z
theorem prodR_le : ∀ {l m : List Rat}, l.length = m.length → (∀ q ∈ l, 0 ≤ q) → (∀ q ∈ m, 0 ≤ q) → (∀ (i : Nat) (p q : Rat), l[i]? = some p → m[i]? = some q → p ≤ q) → prodR l ≤ prodR m
  | [], [], _, _, _, _ => Rat.le_refl
  | [], _ :: _, h, _, _, _ => by cases h
  | _ :: _, [], h, _, _, _ => by cases h
  | p :: r, q :: s, h, h1, h2, h3 => by
    have ih := prodR_le (l := r) (m := s) (Nat.succ.inj h) (fun x hx => h1 x (List.mem_cons_of_mem _ hx)) (fun x hx => h2 x (List.mem_cons_of_mem _ hx)) fun i x y e1 e2 => h3 (i + 1) x y (by simpa using e1) (by simpa using e2)
    have pq := h3 0 p q rfl rfl
    have nn : ∀ {l : List Rat}, (∀ q ∈ l, 0 ≤ q) → 0 ≤ prodR l := fun {l} => by
      induction l with
      | nil => exact fun _ => by decide
      | cons x l ih => exact fun h => Rat.mul_nonneg (h x (List.mem_cons_self ..)) (ih fun y hy => h y (List.mem_cons_of_mem _ hy))
    rw [prodR, prodR]
    exact Rat.le_trans (Rat.mul_le_mul_of_nonneg_left ih (h1 p (List.mem_cons_self ..))) (Rat.mul_le_mul_of_nonneg_right pq (nn fun x hx => h2 x (List.mem_cons_of_mem _ hx)))
/-- only some of the factors are not 1 -/
theorem prodR_some {α : Type} [DecidableEq α] (g : α → Rat) {dom vals : List α} (nd : dom.Nodup) (nv : vals.Nodup) (sub : ∀ v ∈ vals, v ∈ dom) (one : ∀ v ∈ dom, v ∉ vals → g v = 1) : prodR (dom.map g) = prodR (vals.map g) := by
  have h1 : ∀ l : List α, (∀ v ∈ l, v ∉ vals → g v = 1) → prodR (l.map g) = prodR ((l.filter fun v => decide (v ∈ vals)).map g) := by
    intro l
    induction l with
    | nil => exact fun _ => rfl
    | cons x l ih =>
      intro h
      have ih' := ih fun v hv => h v (List.mem_cons_of_mem _ hv)
      rw [List.map_cons, prodR, List.filter_cons]
      by_cases m : x ∈ vals
      · rw [if_pos (decide_eq_true m), List.map_cons, prodR, ih']
      · rw [if_neg (by simpa using m), h x (List.mem_cons_self ..) m, Rat.one_mul, ih']
  rw [h1 dom one]
  refine prodR_perm (List.Perm.map g ?_)
  refine (List.perm_ext_iff_of_nodup (nd.filter _) nv).mpr fun v => ?_
  rw [List.mem_filter]
  constructor
  · intro h; simpa using h.2
  · intro h; exact ⟨sub v h, by simpa using h⟩
/-! ### projections -/
def upE (e : Str → Key) (x : Str) (v : Key) : Str → Key := fun y => if y = x then v else e y
noncomputable def projV (dom : List Key) (x : Str) (V : (Str → Key) → Rat) (e : Str → Key) : Rat := 1 - prodR (dom.map fun v => 1 - V (upE e x v))
def wantOf (cs : List Str) (x : Str) : List Str := cs.filter fun y => decide (y ≠ x)
/-- the rows done whose part is k -/
def part (cs ws : List Str) (d : DD) (k : List Key) : DD := d.filter fun p => decide (pick cs p.1 ws = k)
def missP (d : DD) : Rat := prodR (d.map fun p => 1 - p.2)
structure Mis (cs ws : List Str) (done m : DD) : Prop where
  look : ∀ k, valD m k = if part cs ws done k = [] then none else some (missP (part cs ws done k))
  nodup : (keysD m).Nodup
  un : ∀ p ∈ m, Un p.2
  keys : ∀ p ∈ m, ∃ r ∈ done, p.1 = pick cs r.1 ws
  size : sumB m ≤ sumB done
  len : m.length ≤ done.length
theorem mis_nil (cs ws : List Str) : Mis cs ws [] [] := ⟨fun _ => rfl, List.nodup_nil, fun _ h => (by cases h), fun _ h => (by cases h), Nat.le_refl _, Nat.le_refl _⟩
theorem part_snoc (cs ws : List Str) (d : DD) (p : List Key × Rat) (k : List Key) : part cs ws (d ++ [p]) k = part cs ws d k ++ if pick cs p.1 ws = k then [p] else [] := by
  unfold part
  rw [List.filter_append]
  congr 1
  by_cases h : pick cs p.1 ws = k <;> simp [h]
theorem Mis.getD {cs ws : List Str} {done m : DD} (M : Mis cs ws done m) (k : List Key) : (valD m k).getD 1 = missP (part cs ws done k) := by
  rw [M.look k]
  by_cases h : part cs ws done k = []
  · rw [if_pos h, h]; rfl
  · rw [if_neg h]; rfl
theorem Mis.step {cs ws : List Str} {done m : DD} {r : List Key} {q : Rat} (M : Mis cs ws done m) (hq : Un q) : Mis cs ws (done ++ [(r, q)]) (putD m (pick cs r ws) ((valD m (pick cs r ws)).getD 1 * (1 - q))) := by
  have ug : Un ((valD m (pick cs r ws)).getD 1) := by
    cases h : valD m (pick cs r ws) with
    | none => exact un_one
    | some x => exact M.un _ (valD_mem h)
  refine ⟨fun k => ?_, nodup_put M.nodup, fun p hp => ?_, fun p hp => ?_, ?_, ?_⟩
  · rw [valD_put, part_snoc]
    by_cases h : k = pick cs r ws
    · subst h
      rw [if_pos rfl, if_pos rfl, if_neg (by simp), M.getD]
      unfold missP
      rw [List.map_append, prodR_append]
      simp [prodR, Rat.mul_one]
    · rw [if_neg h, if_neg (Ne.symm h), List.append_nil]
      exact M.look k
  · rcases mem_put hp with z | z
    · rw [z]
      exact ug.mul hq.rest
    · exact M.un p z
  · rcases mem_put hp with z | z
    · exact ⟨(r, q), List.mem_append_right _ (List.mem_cons_self ..), by rw [z]⟩
    · obtain ⟨r', h1, h2⟩ := M.keys p z
      exact ⟨r', List.mem_append_left _ h1, h2⟩
  · have s := sum_put (pick cs r ws) ((valD m (pick cs r ws)).getD 1 * (1 - q)) m
    have b := bt_mul ((valD m (pick cs r ws)).getD 1) (1 - q)
    rw [bt_rest] at b
    have ms := M.size
    rw [sum_append]
    simp only [sumB]
    omega
  · rw [List.length_append]
    exact Nat.le_trans (len_put _ _ _) (Nat.succ_le_succ M.len)
def restD (m : DD) : DD := m.map fun p => (p.1, 1 - p.2)
theorem putD_new {k : List Key} {q : Rat} : ∀ {d : DD}, k ∉ keysD d → putD d k q = d ++ [(k, q)]
  | [], _ => rfl
  | (i, x) :: r, h => by
    have h1 : i ≠ k := fun z => h (by unfold keysD; rw [List.map_cons, z]; exact List.mem_cons_self ..)
    have h2 : k ∉ keysD r := fun z => h (by unfold keysD; rw [List.map_cons]; exact List.mem_cons_of_mem _ z)
    simp only [putD, h1, if_false]
    rw [putD_new h2]
    rfl
theorem keys_rest (m : DD) : keysD (restD m) = keysD m := by
  unfold keysD restD
  rw [List.map_map]
  rfl
theorem val_rest (k : List Key) : ∀ m : DD, valD (restD m) k = (valD m k).map fun q => 1 - q
  | [] => rfl
  | (i, x) :: r => by
    have ih := val_rest k r
    show valD ((i, 1 - x) :: restD r) k = _
    by_cases h : i = k
    · simp [valD, h]
    · simp [valD, h, ih]
theorem sum_rest : ∀ m : DD, sumB (restD m) = sumB m
  | [] => rfl
  | (i, x) :: r => by
    show bt (1 - x) + sumB (restD r) = bt x + sumB r
    rw [bt_rest, sum_rest r]
/-- what the dict of a projection tells -/
theorem proj_den {cs : List Str} {V : (Str → Key) → Rat} {B L : Nat} {d m : DD} {x : Str} {dom : List Key} (D : Den cs V B L d) (M : Mis cs (wantOf cs x) d m) (hx : x ∈ cs) (nd : dom.Nodup) (hdom : ∀ e, V e ≠ 0 → e x ∈ dom) :
    Den (wantOf cs x) (projV dom x V) B L (restD m) := by
  have memw : ∀ {y}, y ∈ wantOf cs x ↔ y ∈ cs ∧ y ≠ x := fun {y} => by simp [wantOf]
  have subw : ∀ y ∈ wantOf cs x, y ∈ cs := fun y hy => (memw.mp hy).1
  have key : ∀ e, missP (part cs (wantOf cs x) d ((wantOf cs x).map e)) = prodR (dom.map fun v => 1 - V (upE e x v)) ∧ (part cs (wantOf cs x) d ((wantOf cs x).map e) = [] → prodR (dom.map fun v => 1 - V (upE e x v)) = 1) ∧
      (part cs (wantOf cs x) d ((wantOf cs x).map e) ≠ [] → prodR (dom.map fun v => 1 - V (upE e x v)) ≠ 1) := by
    intro e
    have mem : ∀ p ∈ part cs (wantOf cs x) d ((wantOf cs x).map e), p ∈ d ∧ p.1 = cs.map (upE e x (atC cs p.1 x)) ∧ V (upE e x (atC cs p.1 x)) = p.2 ∧ p.2 ≠ 0 ∧ Un p.2 := by
      rintro ⟨r, q⟩ hp
      unfold part at hp
      rw [List.mem_filter] at hp
      obtain ⟨hd, hk⟩ := hp
      obtain ⟨e1, r1, v1, nz, uq, _⟩ := D.row hd
      have hk2 : pick cs r (wantOf cs x) = (wantOf cs x).map e := by simpa using hk
      rw [r1, pick_map e1 subw] at hk2
      have ag := List.map_inj_left.mp hk2
      have ex : atC cs r x = e1 x := by rw [r1]; exact atC_map e1 hx
      have rr : r = cs.map (upE e x (atC cs r x)) := by
        rw [ex]
        conv => lhs; rw [r1]
        refine List.map_congr_left fun y hy => ?_
        unfold upE
        by_cases z : y = x
        · simp [z]
        · simp only [z, if_false]
          exact ag y (memw.mpr ⟨hy, z⟩)
      refine ⟨hd, rr, ?_, by rw [v1]; exact nz, uq⟩
      show V _ = q
      rw [v1]
      exact D.congr (rr.symm.trans r1)
    have ndp : (keysD (part cs (wantOf cs x) d ((wantOf cs x).map e))).Nodup := by
      unfold keysD part
      exact List.Sublist.nodup (List.Sublist.map _ List.filter_sublist) D.nodup
    have vnd : ((part cs (wantOf cs x) d ((wantOf cs x).map e)).map fun p => atC cs p.1 x).Nodup := by
      have h2 : (part cs (wantOf cs x) d ((wantOf cs x).map e)).map (fun p => p.1) = ((part cs (wantOf cs x) d ((wantOf cs x).map e)).map fun p => atC cs p.1 x).map fun v => cs.map (upE e x v) := by
        rw [List.map_map]
        exact List.map_congr_left fun p hp => (mem p hp).2.1
      unfold keysD at ndp
      rw [h2] at ndp
      exact List.Pairwise.of_map _ (fun a b h z => h (by rw [z])) ndp
    have eq : prodR (dom.map fun v => 1 - V (upE e x v)) = missP (part cs (wantOf cs x) d ((wantOf cs x).map e)) := by
      rw [prodR_some (fun v => 1 - V (upE e x v)) nd vnd]
      · unfold missP
        rw [List.map_map]
        congr 1
        exact List.map_congr_left fun p hp => by
          show 1 - V (upE e x (atC cs p.1 x)) = 1 - p.2
          rw [(mem p hp).2.2.1]
      · intro v hv
        obtain ⟨p, hp, ep⟩ := List.mem_map.mp hv
        have h := hdom (upE e x (atC cs p.1 x)) (by rw [(mem p hp).2.2.1]; exact (mem p hp).2.2.2.1)
        rw [← ep]
        simpa [upE] using h
      · intro v _ hv
        have z : V (upE e x v) = 0 := by
          by_cases z : V (upE e x v) = 0
          · exact z
          · exfalso
            have lk := D.look (upE e x v)
            rw [if_neg z] at lk
            have md := valD_mem lk
            refine hv (List.mem_map.mpr ⟨(cs.map (upE e x v), V (upE e x v)), ?_, ?_⟩)
            · unfold part
              rw [List.mem_filter]
              refine ⟨md, decide_eq_true ?_⟩
              rw [pick_map _ subw]
              exact List.map_congr_left fun y hy => by simp [upE, (memw.mp hy).2]
            · show atC cs (cs.map (upE e x v)) x = v
              rw [atC_map _ hx]
              simp [upE]
        show 1 - V (upE e x v) = 1
        rw [z]
        grind
    refine ⟨eq.symm, fun h => by rw [eq, h]; rfl, fun h => ?_⟩
    rw [eq]
    cases hp : part cs (wantOf cs x) d ((wantOf cs x).map e) with
    | nil => exact absurd hp h
    | cons p r =>
      unfold missP
      refine prodR_lt (fun q hq => ?_) ⟨1 - p.2, List.mem_map.mpr ⟨p, List.mem_cons_self .., rfl⟩, fun z => ?_⟩
      · obtain ⟨p', hp', e'⟩ := List.mem_map.mp hq
        rw [← e']
        exact (mem p' (by rw [hp]; exact hp')).2.2.2.2.rest
      · exact (mem p (by rw [hp]; exact List.mem_cons_self ..)).2.2.2.1 (by grind)
  refine ⟨fun e => ?_, fun p hp => ?_, by rw [keys_rest]; exact M.nodup, fun p hp => ?_, by rw [sum_rest]; exact Nat.le_trans M.size D.size, by unfold restD; rw [List.length_map]; exact Nat.le_trans M.len D.len⟩
  · obtain ⟨k1, k2, k3⟩ := key e
    rw [val_rest, M.look]
    unfold projV
    by_cases h : part cs (wantOf cs x) d ((wantOf cs x).map e) = []
    · rw [if_pos h, k2 h, if_pos (by grind)]
      rfl
    · rw [if_neg h, if_neg (fun z => k3 h (by grind)), k1]
      rfl
  · unfold restD at hp
    obtain ⟨p', hp', e'⟩ := List.mem_map.mp hp
    obtain ⟨r, hr, er⟩ := M.keys p' hp'
    obtain ⟨⟨e1, r1⟩, okr⟩ := D.keys r hr
    rw [← e']
    refine ⟨⟨e1, ?_⟩, fun k hk => ?_⟩
    · show p'.1 = _
      rw [er, r1, pick_map e1 subw]
    · have hk2 : k ∈ p'.1 := hk
      rw [er, r1, pick_map e1 subw] at hk2
      obtain ⟨y, hy, ey⟩ := List.mem_map.mp hk2
      rw [← ey]
      exact okr _ (by rw [r1]; exact List.mem_map.mpr ⟨y, subw y hy, rfl⟩)
  · unfold restD at hp
    obtain ⟨p', hp', e'⟩ := List.mem_map.mp hp
    rw [← e']
    exact (M.un p' hp').rest
end K48
set_option maxRecDepth 100000
set_option maxHeartbeats 8000000
namespace K48
open PySem PySem.Spec PyProof.Rows L2 RZ
section
variable {g : TG} {tt : TT} {tk td tv : TE} {ids : List Nat} {σ : L2.St} {H : Hp} {Q : VK} {a : Addr} {o : Obj}
theorem dc_itemsG (kvs : List (List Key × V)) (H1 : Hp) (h : ∀ R : VK, R (.ref a) H1 → td σ H R) (ha : H1 a = some (.frz o (.dT kvs))) (k : DcJ g tt tk tv ids σ Q (ItiT a o kvs) H1) : tDcT (iItemsT td) g tt tk tv ids σ H Q := h _ ⟨a, o, kvs, rfl, ha, k⟩
end
section
variable {P : Program} {w : World} {K : PySem.W.Frag} {mg : Str → Option Value} {base : Heap}
def N_projected : List Str := ["columns", "found", "variable", "wanted", "missed", "row", "number", "part", "name"]
def p_projected : List Str := ["columns", "found", "variable"]
theorem sc_projected : FnScope N_projected p_projected (defScope s_projected) := ⟨rfl, rfl, rfl, by decide +kernel, rfl, by decide +kernel, by decide +kernel⟩
def sp_projected : Sp := fun vs H Q _ => ∃ (c : V) (A : Addr) (x : Str) (cs : List Str) (V0 : (Str → Key) → Rat) (B L : Nat) (k : List (List Key × L2.V)) (d : DD) (dom : List Key), vs = [c, .ref A, .str x] ∧ ColI H c cs ∧ H A = some (.dT k) ∧ DV H k d ∧ Den cs V0 B L d ∧
  B ≤ 13499 ∧ L ≤ 900 ∧ cs.length ≤ 500 ∧ x ∈ cs ∧ dom.Nodup ∧ (∀ e, V0 e ≠ 0 → e x ∈ dom) ∧ GivesD H Q (wantOf cs x) (projV dom x V0) B L
theorem ok_projected (G_part_of : Ok P w K mg base 1 "part_of" p_part_of (sp_part_of K)) (G_rest_of : Ok P w K mg base 1 "rest_of" p_rest_of sp_rest_of) (G_times : Ok P w K mg base 2 "times" p_times sp_times) (T : Tx K mg) : Ok P w K mg base 3 "projected" p_projected sp_projected := by
  refine T.ok i_projected sc_projected (fun _ _ _ _ _ _ us h => by match us, h with | [_, _, _], _ => rfl) (fun vs H Q E h => by obtain ⟨_, _, _, _, _, _, _, _, _, _, rfl, _⟩ := h; rfl) (fun f cdv A outer s H vs Q E hr h => ?_)
  obtain ⟨c, D1, x, cs, V0, B, L, k1, d1, dom, rfl, hc, hA1, dv1, den1, bb, ll, lc, hx, ndom, hdom, q⟩ := h
  have nd := sc_projected.nd
  have hu := room_u1 hr
  refine ⟨_, (pss_cons (ps_setLc (i := 3) (own := [("name", 8)]) (by rfl) nd rfl rfl (sw_true rfl rfl rfl (by decide +kernel)) (pi_tup (pv 0)) (blkOk_by (N := N_projected) (sc := defScope s_projected) (by decide +kernel)) (fun _ _ _ _ _ => (pg_name (i := 8) nd rfl (Or.inl rfl))) (fun _ _ _ _ _ => pts_one (pt_cmpR op_ne (pv 8) (pv 2) (nomark _))) (fun _ _ _ _ _ => (pv 8)))
      (pss_cons (ps_set (i := 4) nd rfl (Or.inl rfl) pe_dnewT)
      (pss_cons (ps_lock (ps_for PassesOwn.never rfl (pi_itemsT (pv 1)) (pg_tup rfl (pgs_cons (pg_name (i := 5) nd rfl (Or.inl rfl)) (pgs_cons (pg_name (i := 6) nd rfl (Or.inl rfl)) pgs_nil)))
        (pss_cons (ps_set (i := 7) nd rfl (Or.inl rfl) (pe_ok G_part_of (hr.mono (by first | decide | omega)) rfl (pa_cons (pv 0) (pa_cons (pv 5) (pa_cons (pv 3) pa_nil)))))
        (pss_one (ps_dput hu (pv 4) (pv 7) (pe_ok G_times (hr.mono (by first | decide | omega)) rfl (pa_cons (pe_dget2 hu (pv 4) (pv 7) (pe_tup (pa_cons pe_int (pa_cons pe_int pa_nil))) ⟨rfl, rfl, rfl, rfl⟩) (pa_cons (pe_ok G_rest_of (hr.mono (by first | decide | omega)) rfl (pa_cons (pv 6) pa_nil)) pa_nil))) rfl)))))
      (pss_one (ps_ret (pe_lock (pe_dcT hu (own := [("part", 7), ("number", 6)]) (by rfl) nd (pi_itemsT (pv 4)) (blkOk_by (N := N_projected) (sc := defScope s_projected) (by decide +kernel)) (fun _ _ _ _ _ => (pg_tupK (n := 2) K rfl (pgs_cons (pg_name (i := 7) nd rfl (Or.inl rfl)) (pgs_cons (pg_name (i := 6) nd rfl (Or.inl rfl)) pgs_nil)))) (fun _ _ _ _ _ => pts_nil) (fun _ _ _ _ _ => (pv 7)) (fun _ _ _ _ _ => (pe_ok G_rest_of (hr.mono (by first | decide | omega)) rfl (pa_cons (pv 6) pa_nil)))))))))), ?_⟩
  obtain ⟨a1, e1, hc1'⟩ := id hc
  subst e1
  -- wanted
  refine r_seq (r_asg ?_)
  refine lc_tupF (fStr fun y => decide (y ≠ x)) H (fun R r => ⟨_, rfl, r⟩) hc.sqS (isL_strs hc.ok) (by rw [List.length_map]; omega) (fun S H1 vs sm1 hS hvs hls => ?_) (fun i y t H' et sm ht Y Z hY hZ => ?_)
  rotate_left
  · obtain ⟨y', ey', e2⟩ := map_get et
    subst e2
    obtain ⟨rfl, oky⟩ := is_s_inv ht
    refine ⟨rfl, .str y', rfl, .str x, rfl, rfl, decide (y' ≠ x), ?_, ?_⟩
    · by_cases z : y' = x
      · rw [z]; simp
      · have z2 : V.str y' ≠ V.str x := fun e => z (by injection e)
        simp [z, z2]
    · by_cases z : y' = x
      · rw [decide_eq_false (by simpa using z)]
        exact hZ _ (by simp [fStr, z]) (same_refl _)
      · rw [decide_eq_true z]
        exact ⟨.str y', rfl, hY _ _ _ (by simp [fStr, z]) (same_refl _) (is_s oky)⟩
  rw [fm_strs] at hls
  have evs := hls.strs.1
  rw [evs] at hvs
  have hvs' : H1 S = some (.lst ((wantOf cs x).map V.str)) := hvs
  -- missed
  dsimp only [gName]
  refine r_seq (r_asg fun M hM => ?_)
  have s1M : Same H1 (upd H1 M (.dT [])) := Same.new hM
  dsimp only [gName]
  refine r_seq ⟨D1, .dT k1, s1M _ _ (sm1 _ _ hA1), trivial, fun od => ?_⟩
  have nM : M ≠ D1 := (ne_of_none (sm1 _ _ hA1) hM).symm
  have tkl : TK H1 (upd (upd H1 M (.dT [])) D1 (.frz od (.dT k1))) := TK.trans (TK.of s1M) (TK.putT (s1M _ _ (sm1 _ _ hA1)))
  have butl : ∀ {H' : Hp}, But M (upd (upd H1 M (.dT [])) D1 (.frz od (.dT k1))) H' → TK H1 H' := fun b => TK.trans tkl (b.tkT (kvs := []) (by rw [upd_ne nM]; exact upd_same))
  have keepL : ∀ {H' : Hp}, But M (upd (upd H1 M (.dT [])) D1 (.frz od (.dT k1))) H' → ∀ l xs, H1 l = some (.lst xs) → H' l = some (.lst xs) := fun b l xs h => by
    have n1 : l ≠ M := ne_of_none h hM
    have n2 : l ≠ D1 := fun z => by rw [z, sm1 _ _ hA1] at h; cases h
    exact b _ _ n1 (by rw [upd_ne n2, upd_ne n1]; exact h)
  refine ⟨.ref D1, rfl, D1, od, k1, rfl, upd_same, ?_⟩
  refine j_items k1 (fun i σ H' => ∃ rw_ nm pt : Option V, σ = [some (.ref a1), some (.ref D1), some (.str x), some (.ref S), some (.ref M), rw_, nm, pt, none] ∧
      But M (upd (upd H1 M (.dT [])) D1 (.frz od (.dT k1))) H' ∧ ∃ mk m, H' M = some (.dT mk) ∧ DV H' mk m ∧ Mis cs (wantOf cs x) (d1.take i) m ∧ ∀ p ∈ m, ∀ k ∈ p.1, kOk k = true)
    ⟨_, _, _, rfl, But.refl _ _, [], [], by rw [upd_ne nM]; exact upd_same, True.intro, mis_nil _ _, fun p hp => by cases hp⟩
    (fun i σ H' h => by obtain ⟨_, _, _, _, b, _⟩ := h; exact b _ _ nM.symm upd_same) (fun σ H' h => ?_) (fun i k v t qa σ H' ek h hqa ht => ?_)
  rotate_left
  · obtain ⟨rw2, nm, pt, rfl, b2, mk, m, hmk, hdv, mis, okm⟩ := h
    obtain ⟨n1, ed, hn1⟩ := dv1.get ek
    have md : (k, n1) ∈ d1 := List.mem_of_getElem? ed
    obtain ⟨e1, r1, v1, nz1, u1, b1⟩ := den1.row md
    have okk := (den1.keys _ md).2
    have st : Same H' (upd H' t (.tup [.ref qa, v])) := Same.new ht
    refine ⟨t, _, rfl, .inl (.inl upd_same), rfl, _, _, rfl, _, _, rfl, rfl, ?_⟩
    have b3 := But.trans b2 (But.of st)
    generalize (upd H' t (.tup [.ref qa, v])) = H6 at st b3 ⊢
    have tk6 := butl b3
    have tk06 := TK.trans (TK.of sm1) tk6
    have subw : ∀ y ∈ wantOf cs x, y ∈ cs := fun y hy => (List.mem_filter.mp hy).1
    refine ⟨.ref a1, rfl, .ref qa, rfl, .ref S, rfl, .ref a1, .ref qa, S, cs, wantOf cs x, k, rfl, (hc.mono tk06).cot subw, row_is (st _ _ hqa) okk, by rw [r1, List.length_map], .inl (keepL b3 _ _ hvs'), fun y hy => ⟨subw y hy, hc.ok y (subw y hy)⟩, ?_, fun pv H7 sm7 hpv => ?_⟩
    · unfold wantOf
      exact Nat.le_trans (List.length_filter_le _ _) (by omega)
    obtain ⟨kb, rfl, hkb, okkb⟩ := row_inv hpv
    have s6 := same_tr st sm7
    have hmk7 := s6 _ _ hmk
    have hdv7 := DV.mono (TK.of s6) hdv
    refine ⟨.ref M, rfl, M, rfl, .inr ⟨mk, .inl hmk7⟩, .ref kb, rfl, small2, fun o1 ho1 => ?_⟩
    have s7o : Same H7 (upd H7 o1 (.tup [.int 1, .int 1])) := Same.new ho1
    refine ⟨_, DGet.t (s7o _ _ hmk7) (s7o _ _ hkb), ?_⟩
    have got : ∃ g, ((valV mk (pick cs k (wantOf cs x))).getD (.ref o1)) = g ∧ Is (upd H7 o1 (.tup [.int 1, .int 1])) g (shT ((valD m (pick cs k (wantOf cs x))).getD 1)) := by
      rcases hdv7.val (k := pick cs k (wantOf cs x)) with ⟨z1, z2⟩ | ⟨q', v', z1, z2, z3⟩
      · rw [z1, z2]
        exact ⟨_, rfl, sh_at upd_same⟩
      · rw [z1, z2]
        exact ⟨_, rfl, Is.mono (TK.of s7o) _ _ z3⟩
    obtain ⟨g, eg, hg⟩ := got
    rw [eg]
    have ug : Un ((valD m (pick cs k (wantOf cs x))).getD 1) ∧ bt ((valD m (pick cs k (wantOf cs x))).getD 1) ≤ sumB (d1.take i) := by
      cases h : valD m (pick cs k (wantOf cs x)) with
      | none => exact ⟨un_one, by rw [show ((none : Option Rat).getD 1) = 1 from rfl, bt_one]; exact Nat.zero_le _⟩
      | some y => exact ⟨mis.un _ (valD_mem h), Nat.le_trans (sumB_mem (valD_mem h)) mis.size⟩
    have tot : sumB (d1.take i) + bt n1 ≤ B := by
      rw [← sumB_snoc ed]
      exact Nat.le_trans (sumB_le_take _ _) den1.size
    refine ⟨v, rfl, v, n1, rfl, Is.mono (TK.trans tk06 (TK.of (same_tr sm7 s7o))) _ _ hn1, fun rv H8 sm8 hrv => ?_⟩
    refine ⟨g, rv, _, 1 - n1, rfl, Is.mono (TK.of sm8) _ _ hg, hrv, ⟨ug.1, u1.rest, by rw [bt_rest]; omega⟩, fun tv H9 sm9 htv => ?_⟩
    have s79 := same_tr s7o (same_tr sm8 sm9)
    have s9 := same_tr s6 s79
    have hmk9 := s79 _ _ hmk7
    have few : mk.length ≤ 900 := by
      rw [hdv.len]
      refine Nat.le_trans mis.len (Nat.le_trans ?_ (Nat.le_trans den1.len ll))
      rw [List.length_take]
      exact Nat.min_le_right _ _
    refine ⟨.ref M, rfl, .ref kb, rfl, M, _, rfl, DPut.t hmk9 (s79 _ _ hkb) (lt_line (by omega)), ?_⟩
    have tkp := TK.putT (o := .dT (putK mk (pick cs k (wantOf cs x)) tv)) hmk9
    have mis2 := mis.step (r := k) (q := n1) u1
    have etk : d1.take i ++ [(k, n1)] = d1.take (i + 1) := (take_succ ed).symm
    rw [etk] at mis2
    refine ⟨_, _, _, rfl, But.trans b2 (But.trans (But.of s9) But.put), _, _, upd_same, DV.mono tkp (DV.put htv (DV.mono (TK.of s9) hdv) mis.nodup), mis2, fun p hp => ?_⟩
    rcases mem_put hp with z | z
    · rw [z]; exact okkb
    · exact okm p z
  obtain ⟨rw2, nm, pt, rfl, b2, mk, m, hmk, hdv, mis, okm⟩ := h
  have e1l : k1.length = d1.length := dv1.len
  rw [e1l, List.take_length] at mis
  dsimp only
  refine ⟨b2 _ _ nM.symm upd_same, ?_⟩
  have s1 : Same H1 (upd H' D1 (.dT k1)) := but_same (same_refl _) (But.trans (But.of s1M) (lock_but (s1M _ _ (sm1 _ _ hA1)) b2)) hM
  have tk2 : TK H' (upd H' D1 (.dT k1)) := TK.put (b2 _ _ nM.symm upd_same) (fun _ z => nomatch z) (fun _ _ z => nomatch z)
  have hmk2 : (upd H' D1 (.dT k1)) M = some (.dT mk) := by rw [upd_ne nM]; exact hmk
  have hdv2 := DV.mono tk2 hdv
  generalize (upd H' D1 (.dT k1)) = H3 at s1 hmk2 hdv2 ⊢
  have den2 := proj_den den1 mis hx ndom hdom
  refine r_ret ⟨M, .dT mk, hmk2, trivial, fun od2 => ?_⟩
  have hlk : (upd H3 M (.frz od2 (.dT mk))) M = some (.frz od2 (.dT mk)) := upd_same
  have tkl2 : TK H3 (upd H3 M (.frz od2 (.dT mk))) := TK.putT hmk2
  have hdv3 := DV.mono tkl2 hdv2
  refine dc_itemsG mk _ (fun R r => ⟨_, rfl, r⟩) hlk ?_
  refine dc_items mk (fun D i H' => ((upd H3 M (.frz od2 (.dT mk))) D = none → Same (upd H3 M (.frz od2 (.dT mk))) H' ∧ ∃ rk, H' D = some (.dT rk) ∧ DV H' rk (restD (m.take i))) ∧ H' M = some (.frz od2 (.dT mk)))
    (fun D hD => ⟨fun _ => ⟨Same.new hD, [], upd_same, True.intro⟩, Same.new hD _ _ hlk⟩) (fun D i H' h => h.2) (fun D H' hD h => ?_) (fun D i k v t qa H' hD ek h hqa ht => ?_)
  · obtain ⟨sm, rk, hrk, hdr⟩ := h.1 hD
    have eml : mk.length = m.length := hdv.len
    rw [eml, List.take_length] at hdr
    refine ⟨sm _ _ hlk, ?_⟩
    have nD : D ≠ M := fun z => by rw [z, upd_same] at hD; cases hD
    have tk5 : TK H' (upd H' M (.dT mk)) := TK.put (sm _ _ hlk) (fun _ z => nomatch z) (fun _ _ z => nomatch z)
    exact q D rk (restD m) _ (same_tr sm1 (same_tr s1 (lock_same hmk2 sm))) (by rw [upd_ne nD]; exact hrk) (DV.mono tk5 hdr) den2
  · obtain ⟨sm, rk, hrk, hdr⟩ := h.1 hD
    obtain ⟨n1, ed, hn1⟩ := hdv3.get ek
    have st : Same H' (upd H' t (.tup [.ref qa, v])) := Same.new ht
    refine ⟨t, _, rfl, .inl (.inl upd_same), rfl, _, _, rfl, _, _, rfl, rfl, ?_⟩
    have s2 := same_tr sm st
    refine ⟨rfl, .ref qa, rfl, v, rfl, v, n1, rfl, Is.mono (TK.of s2) _ _ hn1, fun rv H8 sm8 hrv => ?_⟩
    have s38 := same_tr st sm8
    have hrk8 := s38 _ _ hrk
    have few : rk.length ≤ 900 := by
      rw [hdr.len]
      unfold restD
      rw [List.length_map, List.length_take]
      exact Nat.le_trans (Nat.min_le_right _ _) (Nat.le_trans mis.len (Nat.le_trans den1.len ll))
    refine ⟨rk, k, qa, rfl, s38 _ _ hqa, hrk8, lt_line (by omega), fun hD => ⟨?_, _, upd_same, ?_⟩, Same.mut2 (H := H8) (same_tr sm s38) hD _ _ hlk⟩
    · exact Same.mut2 (H := H8) (same_tr sm s38) hD
    · have nk : k ∉ keysD (restD (m.take i)) := by
        rw [keys_rest]
        exact nodup_take mis.nodup ed
      have et : restD (m.take (i + 1)) = putD (restD (m.take i)) k (1 - n1) := by
        rw [putD_new nk, take_succ ed]
        unfold restD
        rw [List.map_append]
        rfl
      rw [et]
      have ndk : (keysD (restD (m.take i))).Nodup := by
        rw [keys_rest]
        unfold keysD
        exact List.Sublist.nodup (List.Sublist.map _ (List.take_sublist _ _)) mis.nodup
      exact DV.mono (TK.putT hrk8) (DV.put hrv (DV.mono (TK.of s38) hdr) ndk)
end
end K48
set_option maxRecDepth 100000
set_option maxHeartbeats 4000000
namespace K48
open PySem PySem.Spec PyProof.Rows L2
/-! ### what a plan tells -/
def atAt (as : List Atom) (i : Nat) : Atom := as.getD i (Str.empty, [])
mutual
noncomputable def valP (ch : Place → Rat) (dom : List Key) (as : List Atom) : Pl → (Str → Key) → Rat
  | .scan i => scanV ch (atAt as i)
  | .proj x q => projV dom x (valP ch dom as q)
  | .join ps => valPs ch dom as ps
noncomputable def valPs (ch : Place → Rat) (dom : List Key) (as : List Atom) : List Pl → (Str → Key) → Rat
  | [] => fun _ => 1
  | p :: ps => fun e => valP ch dom as p e * valPs ch dom as ps e
end
mutual
/-- each projected variable is a column beneath -/
def Vx (as : List Atom) : Pl → Prop
  | .scan _ => True
  | .proj x q => x ∈ cols as q ∧ Vx as q
  | .join ps => Vxs as ps
def Vxs (as : List Atom) : List Pl → Prop
  | [] => True
  | p :: ps => Vx as p ∧ Vxs as ps
end
theorem Vxs.mem {as : List Atom} : ∀ {ps : List Pl} {p : Pl}, Vxs as ps → p ∈ ps → Vx as p
  | q :: ps, p, h, m => by
    rw [Vxs] at h
    rcases List.mem_cons.mp m with e | e
    · rw [e]; exact h.1
    · exact Vxs.mem h.2 e
theorem vxs_of {as : List Atom} : ∀ {ps : List Pl}, (∀ p ∈ ps, Vx as p) → Vxs as ps
  | [], _ => by rw [Vxs]; trivial
  | p :: ps, h => by rw [Vxs]; exact ⟨h p (List.mem_cons_self ..), vxs_of fun q hq => h q (List.mem_cons_of_mem _ hq)⟩
theorem valPs_append (ch : Place → Rat) (dom : List Key) (as : List Atom) (e : Str → Key) : ∀ a b : List Pl, valPs ch dom as (a ++ b) e = valPs ch dom as a e * valPs ch dom as b e
  | [], b => by simp only [List.nil_append, valPs]; rw [Rat.one_mul]
  | p :: a, b => by
    simp only [List.cons_append, valPs]
    rw [valPs_append ch dom as e a b, Rat.mul_assoc]
/-- the values that the store tells of are in dom -/
def ChDom (ch : Place → Rat) (dom : List Key) : Prop := ∀ n row, ch (n, row) ≠ 0 → ∀ k ∈ row, k ∈ dom
mutual
theorem val_dom {ch : Place → Rat} {dom : List Key} {as : List Atom} (cd : ChDom ch dom) : ∀ (p : Pl) (e : Str → Key), valP ch dom as p e ≠ 0 → ∀ x ∈ cols as p, e x ∈ dom
  | .scan i, e, h, x, hx => by
    rw [valP] at h
    rw [cols] at hx
    refine cd _ _ h _ (List.mem_map.mpr ⟨.var x, mem_avs.mp hx, rfl⟩)
  | .proj y q, e, h, x, hx => by
    rw [cols] at hx
    obtain ⟨hx1, hx2⟩ := List.mem_filter.mp hx
    have ne : x ≠ y := by simpa using hx2
    rw [valP] at h
    unfold projV at h
    have ex : ∃ v ∈ dom, valP ch dom as q (upE e y v) ≠ 0 := Classical.byContradiction fun no => by
      have all1 : dom.map (fun v => 1 - valP ch dom as q (upE e y v)) = dom.map (fun _ => 1) := List.map_congr_left fun v hv => by
        have z : valP ch dom as q (upE e y v) = 0 := Classical.byContradiction fun z => no ⟨v, hv, z⟩
        rw [z]
        grind
      have ones : ∀ l : List Key, prodR (l.map fun _ => 1) = 1 := fun l => by
        induction l with
        | nil => rfl
        | cons a l ih => rw [List.map_cons, prodR, ih, Rat.one_mul]
      rw [all1, ones] at h
      exact h (by grind)
    obtain ⟨v, _, hv⟩ := ex
    have r := val_dom cd q (upE e y v) hv x hx1
    simpa [upE, ne] using r
  | .join ps, e, h, x, hx => by
    rw [valP] at h
    rw [cols] at hx
    exact vals_dom cd ps e h x (mem_csort.mp hx)
theorem vals_dom {ch : Place → Rat} {dom : List Key} {as : List Atom} (cd : ChDom ch dom) : ∀ (ps : List Pl) (e : Str → Key), valPs ch dom as ps e ≠ 0 → ∀ x ∈ colss as ps, e x ∈ dom
  | [], e, h, x, hx => by rw [colss] at hx; cases hx
  | p :: ps, e, h, x, hx => by
    rw [valPs] at h
    rw [colss] at hx
    rcases List.mem_append.mp hx with m | m
    · exact val_dom cd p e (fun z => h (by simp only; rw [z, Rat.zero_mul])) x m
    · exact vals_dom cd ps e (fun z => h (by simp only; rw [z, Rat.mul_zero])) x m
end
/-! sizes -/
def prodN : List Nat → Nat
  | [] => 1
  | n :: r => n * prodN r
theorem prodN_append : ∀ a b : List Nat, prodN (a ++ b) = prodN a * prodN b
  | [], b => by rw [List.nil_append, prodN, Nat.one_mul]
  | n :: r, b => by rw [List.cons_append, prodN, prodN, prodN_append r b, Nat.mul_assoc]
def LN (f : Nat → Nat) (l : List Nat) : Nat := prodN (l.map f)
def BN (b : Nat) (f : Nat → Nat) (l : List Nat) : Nat := b * l.length * LN f l
theorem LN_append (f : Nat → Nat) (a b : List Nat) : LN f (a ++ b) = LN f a * LN f b := by
  unfold LN
  rw [List.map_append, prodN_append]
theorem BN_append (c : Nat) (f : Nat → Nat) (a b : List Nat) : BN c f a * LN f b + LN f a * BN c f b = BN c f (a ++ b) := by
  unfold BN
  rw [LN_append, List.length_append]
  have e1 : c * a.length * LN f a * LN f b = c * a.length * (LN f a * LN f b) := by rw [Nat.mul_assoc]
  have e2 : LN f a * (c * b.length * LN f b) = c * b.length * (LN f a * LN f b) := by
    rw [← Nat.mul_assoc, Nat.mul_comm (LN f a), Nat.mul_assoc]
  rw [e1, e2, ← Nat.add_mul, ← Nat.mul_add]
/-- few rows over any of the atoms -/
def SzOk (f : Nat → Nat) (l : List Nat) : Prop := ∀ S, S.Sublist l → LN f S ≤ 36 ∧ S.length ≤ 6
theorem SzOk.sub {f : Nat → Nat} {l m : List Nat} (h : SzOk f l) (s : m.Sublist l) : SzOk f m := fun S hs => h S (hs.trans s)
theorem SzOk.here {f : Nat → Nat} {l : List Nat} (h : SzOk f l) (c : Nat) : LN f l ≤ 36 ∧ BN c f l ≤ c * 216 ∧ BN c f l ≤ c * l.length * 36 := by
  obtain ⟨a, b⟩ := h l (List.Sublist.refl _)
  refine ⟨a, ?_, Nat.mul_le_mul_left _ a⟩
  unfold BN
  calc c * l.length * LN f l ≤ c * 6 * 36 := Nat.mul_le_mul (Nat.mul_le_mul_left _ b) a
    _ = c * 216 := by rw [Nat.mul_assoc]
theorem beneaths_append (a b : List Pl) : beneaths (a ++ b) = beneaths a ++ beneaths b := by rw [beneaths_eq, beneaths_eq, beneaths_eq, List.flatMap_append]
theorem beneath_sub {ps : List Pl} {p : Pl} (h : p ∈ ps) : (beneath p).Sublist (beneaths ps) := by
  obtain ⟨a, b, e⟩ := List.append_of_mem h
  rw [e, beneaths_append]
  have : beneaths (p :: b) = beneath p ++ beneaths b := by rw [beneaths]
  rw [this]
  exact (List.sublist_append_left _ _).trans (List.sublist_append_right _ _)
theorem beneaths_take (ps : List Pl) (i : Nat) : (beneaths (ps.take i)).Sublist (beneaths ps) := by
  have h := beneaths_append (ps.take i) (ps.drop i)
  rw [List.take_append_drop] at h
  rw [h]
  exact List.sublist_append_left _ _
theorem csort_step (as : List Atom) (ps : List Pl) (p : Pl) : csort (csort (colss as ps) ++ cols as p) = csort (colss as (ps ++ [p])) := by
  refine csort_congr fun x => ?_
  rw [colss_append, List.mem_append, List.mem_append, mem_csort]
  have e : colss as [p] = cols as p := by simp [colss]
  rw [e]
theorem csort_nil : csort [] = [] := by
  have h := csort_len []
  exact List.eq_nil_of_length_eq_zero (Nat.le_zero.mp h)
theorem den_one : Den [] (fun _ => 1) 0 1 [([], 1)] where
  look e := by
    rw [if_neg (by decide)]
    rfl
  keys p hp := by
    rw [List.mem_singleton.mp hp]
    exact ⟨⟨fun _ => .inl 0, rfl⟩, fun k hk => by cases hk⟩
  nodup := by simp [keysD]
  un p hp := by rw [List.mem_singleton.mp hp]; exact un_one
  size := by simp [sumB, bt_one]
  len := Nat.le_refl _
theorem atAt_get {as : List Atom} {i : Nat} {a : Atom} (h : as[i]? = some a) : atAt as i = a := by
  unfold atAt
  rw [List.getD_eq_getElem?_getD, h]
  rfl
end K48
set_option maxRecDepth 100000
set_option maxHeartbeats 8000000
namespace K48
open PySem PySem.Spec PyProof.Rows L2 RZ
section
variable {P : Program} {w : World} {K : PySem.W.Frag} {mg : Str → Option Value} {base : Heap}
/-- store, join, plan as the program has them -/
structure RkOk (b : Nat) (H : Hp) (u v t : V) (st : List Fact) (as : List Atom) (p : Pl) (dom : List Key) : Prop where
  hu : Is H u (stT st)
  hv : Is H v (joT as)
  ht_ : Is H t (plT p)
  few : Few as
  wf : Wf as p
  vx : Vx as p
  so : StOk b st
  le : b ≤ 60
  ar : ∀ i ∈ beneath p, Arity st (atAt as i)
  sz : SzOk (fun i => cnt (atAt as i).1 st) (beneath p)
  nd : dom.Nodup
  cd : ChDom (chOf st) dom
def N_reckoned : List Str := ["store", "join", "plan", "columns", "found", "part", "others"]
def p_reckoned : List Str := ["store", "join", "plan"]
theorem sc_reckoned : FnScope N_reckoned p_reckoned (defScope s_reckoned) := ⟨rfl, rfl, rfl, by decide +kernel, rfl, by decide +kernel, by decide +kernel⟩
def sp_reckoned (h : Nat) : Sp := fun vs H Q _ => ∃ (u v t : V) (st : List Fact) (as : List Atom) (p : Pl) (dom : List Key) (b : Nat), vs = [u, v, t] ∧ RkOk b H u v t st as p dom ∧ ht p < h ∧
  GivesD H Q (cols as p) (valP (chOf st) dom as p) (BN b (fun i => cnt (atAt as i).1 st) (beneath p)) (LN (fun i => cnt (atAt as i).1 st) (beneath p))
theorem ok_reckoned (G_scanned : Ok P w K mg base 2 "scanned" p_scanned sp_scanned) (G_joined : Ok P w K mg base 3 "joined" p_joined sp_joined) (G_projected : Ok P w K mg base 3 "projected" p_projected sp_projected)
    (G_product_of : Ok P w K mg base 3 "product_of" p_product_of sp_product_of) (GC : ∀ h : Nat, Ok P w K mg base (h + 2) "columns_of" p_columns_of (sp_columns_of h)) (T : Tx K mg) : ∀ h : Nat, Ok P w K mg base (h + 4) "reckoned" p_reckoned (sp_reckoned h)
  | 0 => by
    refine Ok.mono (k := 1) ?_ (by omega)
    refine T.ok i_reckoned sc_reckoned (fun _ _ _ _ _ _ us h => by match us, h with | [_, _, _], _ => rfl) (fun vs H Q E h => by obtain ⟨_, _, _, _, _, _, _, _, rfl, _⟩ := h; rfl) (fun f cdv A outer s H vs Q E hr h => ?_)
    obtain ⟨_, _, _, _, _, _, _, _, _, _, z, _⟩ := h
    exact absurd z (Nat.not_lt_zero _)
  | h + 1 => by
    have G_reckoned := ok_reckoned G_scanned G_joined G_projected G_product_of GC T h
    have G_columns_of := GC h
    refine T.ok i_reckoned sc_reckoned (fun _ _ _ _ _ _ us h => by match us, h with | [_, _, _], _ => rfl) (fun vs H Q E h => by obtain ⟨_, _, _, _, _, _, _, _, rfl, _⟩ := h; rfl) (fun f cdv A outer s H vs Q E hr hs => ?_)
    obtain ⟨u, v, t, st, as, p, dom, bb, rfl, rk, hh, q⟩ := hs
    have le60 := rk.le
    have nd := sc_reckoned.nd
    have hu := room_u1 hr
    have hu64 := room_u64 hr
    refine ⟨_, (pss_cons (ps_if (pt_cmpR op_eq (pe_ix ix_tup (pv 2) pe_int (fun _ _ => rfl)) pe_str (nomark _))
        (pss_one (ps_ret (pe_ok G_scanned (hr.mono (by first | decide | omega)) rfl (pa_cons (pv 0) (pa_cons (pe_ix ix_tup (pe_ix ix_tup (pv 1) pe_int (fun _ _ => rfl)) (pe_ix ix_tup (pv 2) pe_int (fun _ _ => rfl)) (fun _ _ => rfl)) pa_nil)))))
        pss_nil)
      (pss_cons (ps_if (pt_cmpR op_eq (pe_ix ix_tup (pv 2) pe_int (fun _ _ => rfl)) pe_str (nomark _))
        (pss_one (ps_ret (pe_ok G_projected (hr.mono (by first | decide | omega)) rfl (pa_cons (pe_ok G_columns_of (hr.mono (by first | decide | omega)) rfl (pa_cons (pv 1) (pa_cons (pe_ix ix_tup (pv 2) pe_int (fun _ _ => rfl)) pa_nil))) (pa_cons (pe_ok G_reckoned (hr.mono (by first | decide | omega)) rfl (pa_cons (pv 0) (pa_cons (pv 1) (pa_cons (pe_ix ix_tup (pv 2) pe_int (fun _ _ => rfl)) pa_nil)))) (pa_cons (pe_ix ix_tup (pv 2) pe_int (fun _ _ => rfl)) pa_nil))))))
        pss_nil)
      (pss_cons (ps_set (i := 3) nd rfl (Or.inl rfl) (pe_tup pa_nil))
      (pss_cons (ps_set (i := 4) nd rfl (Or.inl rfl) (pe_disp1 hu (pe_tup pa_nil) (pe_ok G_product_of (hr.mono (by first | decide | omega)) rfl (pa_cons (pe_lst pa_nil) pa_nil))))
      (pss_cons (ps_for PassesOwn.never rfl (pi_tup (pe_ix ix_tup (pv 2) pe_int (fun _ _ => rfl))) (pg_name (i := 5) nd rfl (Or.inl rfl))
        (pss_cons (ps_set (i := 6) nd rfl (Or.inl rfl) (pe_ok G_columns_of (hr.mono (by first | decide | omega)) rfl (pa_cons (pv 1) (pa_cons (pv 5) pa_nil))))
        (pss_cons (ps_set (i := 4) nd rfl (Or.inl rfl) (pe_ok G_joined (hr.mono (by first | decide | omega)) rfl (pa_cons (pv 3) (pa_cons (pv 4) (pa_cons (pv 6) (pa_cons (pe_ok G_reckoned (hr.mono (by first | decide | omega)) rfl (pa_cons (pv 0) (pa_cons (pv 1) (pa_cons (pv 5) pa_nil)))) pa_nil))))))
        (pss_one (ps_set (i := 3) nd rfl (Or.inl rfl) (pe_callTy call_tuple_frz (by rfl) (T.bl "tuple" (by decide)) (by decide +kernel) (pa_cons (pe_callB (cr_sortTx rfl hu64) (by rfl) (T.bl "sorted" (by decide)) (by decide +kernel) (pa_cons (pe_callTy (cr_setTxT rfl) (by rfl) (T.bl "set" (by decide)) (by decide +kernel) (pa_cons (pe_op op_catF (pv 3) (pv 6)) pa_nil)) pa_nil)) pa_nil)))))))
      (pss_one (ps_ret (pv 4)))))))), ?_⟩
    have hv := rk.hv
    have fa := rk.few
    have wf := rk.wf
    have hpl := rk.ht_
    have vx := rk.vx
    obtain ⟨j, l, x0, xs, rfl, hj, hl, hxs⟩ := jo_inv hv
    cases p with
    | scan i =>
      obtain ⟨b, v1, v2, rfl, hb, h1, h2⟩ := two_inv hpl
      obtain ⟨rfl, _⟩ := is_s_inv h1
      have e2 := is_i_inv h2
      subst e2
      obtain ⟨a, ha, ea, et⟩ := termsAt_mem (wf.there i (by simp [beneath]))
      obtain ⟨va, eva, hva⟩ := hxs.get (i := i) (d := atT a) (by rw [List.getElem?_map, ea]; rfl)
      have eat := atAt_get ea
      refine ⟨.ref b, rfl, b, _, 0, _, rfl, rfl, .inl (.inl hb), at0, rfl, true, by decide +kernel, ?_⟩
      refine ⟨u, rfl, .ref j, rfl, j, _, 1, _, rfl, rfl, .inl (.inl hj), at1, .ref b, rfl, b, _, 1, _, rfl, rfl, .inl (.inl hb), at1, l, _, _, _, rfl, rfl, .inl (.inl hl), atI_nat eva, u, va, st, a, bb, rfl, rk.hu, hva, fa.2 a ha, rk.so, ?_, fun D kvs d H' sm hD hdv den => q D kvs d H' sm hD hdv ?_⟩
      · have := rk.ar i (by simp [beneath])
        rw [eat] at this
        exact this
      · rw [cols, et]
        refine den.more (fun e => by rw [valP, eat]) ?_ ?_
        · simp [BN, LN, beneath, prodN, eat]
        · simp [LN, beneath, prodN, eat]
    | proj x pq =>
      obtain ⟨b, v1, v2, v3, rfl, hb, h1, h2, h3⟩ := three_inv hpl
      obtain ⟨rfl, _⟩ := is_s_inv h1
      obtain ⟨rfl, _⟩ := is_s_inv h2
      rw [Vx] at vx
      refine ⟨.ref b, rfl, b, _, 0, _, rfl, rfl, .inl (.inl hb), at30, rfl, false, by decide +kernel, ?_⟩
      refine ⟨.ref b, rfl, b, _, 0, _, rfl, rfl, .inl (.inl hb), at30, rfl, true, by decide +kernel, ?_⟩
      refine ⟨.ref j, rfl, .ref b, rfl, b, _, 2, _, rfl, rfl, .inl (.inl hb), at32, .ref j, v3, as, pq, rfl, hv, h3, fa, wf.proj, by rw [ht] at hh; omega, fun v' H' sm his => ?_⟩
      have tk := TK.of sm
      have hb' := sm _ _ hb
      refine ⟨u, rfl, .ref j, rfl, .ref b, rfl, b, _, 2, _, rfl, rfl, .inl (.inl hb'), at32, u, .ref j, v3, st, as, pq, dom, bb, rfl,
        ⟨Is.mono tk _ _ rk.hu, Is.mono tk _ _ hv, Is.mono tk _ _ h3, fa, wf.proj, vx.2, rk.so, le60, fun i hi => rk.ar i (by rw [beneath]; exact hi), by have := rk.sz; rw [beneath] at this; exact this, rk.nd, rk.cd⟩, by rw [ht] at hh; omega, fun D kvs d H2 sm2 hD hdv den => ?_⟩
      have sz := rk.sz
      rw [beneath] at sz
      obtain ⟨z1, z2, _⟩ := sz.here bb
      have hb2 := sm2 _ _ hb'
      have lc := cols_len fa pq wf.proj.there
      have s6 := (sz _ (List.Sublist.refl _)).2
      refine ⟨.ref b, rfl, b, _, 1, _, rfl, rfl, .inl (.inl hb2), at31, v', D, x, cols as pq, _, _, _, kvs, d, dom, rfl, (ColI.of his).mono (TK.of sm2), hD, hdv, den, by omega, by omega, by omega, vx.1, rk.nd, fun e he => val_dom rk.cd pq e he x vx.1, fun D' kvs' d' H3 sm3 hD' hdv' den' => q D' kvs' d' H3 (same_tr sm (same_tr sm2 sm3)) hD' hdv' ?_⟩
      rw [cols, beneath]
      exact den'.more (fun e => by rw [valP]) (Nat.le_refl _) (Nat.le_refl _)
    | join ps =>
      obtain ⟨b, v1, v2, rfl, hb, h1, h2⟩ := two_inv hpl
      obtain ⟨rfl, _⟩ := is_s_inv h1
      obtain ⟨pb, pxs, rfl, hpb, hpx⟩ := is_t_inv h2
      rw [Vx] at vx
      have sz := rk.sz
      rw [beneath] at sz
      refine ⟨.ref b, rfl, b, _, 0, _, rfl, rfl, .inl (.inl hb), at0, rfl, false, by decide +kernel, ?_⟩
      refine ⟨.ref b, rfl, b, _, 0, _, rfl, rfl, .inl (.inl hb), at0, rfl, false, by decide +kernel, ?_⟩
      refine ⟨Nat.zero_le _, fun c0 hc0 => ?_⟩
      have s1 : Same H (upd H c0 (.tup [])) := Same.new hc0
      refine fun D0 hD0 => ?_
      have s2 : Same (upd H c0 (.tup [])) (upd (upd H c0 (.tup [])) D0 (.dT [])) := Same.new hD0
      refine ⟨Nat.zero_le _, fun k0 hk0 => ?_⟩
      have s3 := Same.new (o := .tup []) hk0
      refine ⟨Nat.zero_le _, fun l0 hl0 => ?_⟩
      have s4 := Same.new (o := .lst []) hl0
      refine ⟨l0, rfl, upd_same, fun one H5 s5 hone => ?_⟩
      have s15 := same_tr s2 (same_tr s3 (same_tr s4 s5))
      have s35 := same_tr s3 (same_tr s4 s5)
      have hD5 := s35 _ _ upd_same
      refine ⟨k0, [], rfl, hD5, same_tr s4 s5 _ _ upd_same, ?_⟩
      have hHD : (upd H c0 (.tup [])) D0 = none := hD0
      have s05 : Same H (upd H5 D0 (.dT [([], one)])) := Same.mut2 (H := H) (same_tr s1 s15) (none_back s1 hD0)
      have hc5 : (upd H5 D0 (.dT [([], one)])) c0 = some (.tup []) := by
        have n1 : c0 ≠ D0 := fun z => by rw [← z, upd_same] at hD0; cases hD0
        rw [upd_ne n1]
        exact s15 _ _ upd_same
      have dv5 : DV (upd H5 D0 (.dT [([], one)])) [([], one)] [([], 1)] := ⟨rfl, Is.mono (TK.putT hD5) _ _ hone, trivial⟩
      have hD6 : (upd H5 D0 (.dT [([], one)])) D0 = some (.dT [([], one)]) := upd_same
      refine ⟨.ref b, rfl, b, _, 1, _, rfl, rfl, .inl (.inl (s05 _ _ hb)), at1, pb, rfl, ⟨_, .inl (.inl (s05 _ _ hpb))⟩, ?_⟩
      refine j_tup pxs (fun i σ H' => ∃ (c : V) (D : Addr) (pt ot : Option V), σ = [some u, some (.ref j), some (.ref b), some c, some (.ref D), pt, ot] ∧ Same H H' ∧ ColI H' c (csort (colss as (ps.take i))) ∧
          ∃ kvs d, H' D = some (.dT kvs) ∧ DV H' kvs d ∧ Den (csort (colss as (ps.take i))) (valPs (chOf st) dom as (ps.take i)) (BN bb (fun i => cnt (atAt as i).1 st) (beneaths (ps.take i))) (LN (fun i => cnt (atAt as i).1 st) (beneaths (ps.take i))) d)
        ⟨_, _, _, _, rfl, s05, ⟨c0, rfl, .inl ⟨by simp [colss, csort_nil], hc5⟩, fun x hx => by simp [colss, csort_nil] at hx⟩, _, _, hD6, dv5, ?_⟩ (fun i σ H' h => by obtain ⟨_, _, _, _, _, sm, _⟩ := h; exact .inl (.inl (sm _ _ hpb))) (fun σ H' h => ?_) (fun i x σ H' e h => ?_)
      · simp only [List.take_zero, colss, csort_nil, beneaths]
        exact den_one.more (fun e => by simp [valPs]) (Nat.zero_le _) (by simp [LN, prodN])
      · obtain ⟨c, D, pt, ot, rfl, sm, hcol, kvs, d, hD, hdv, den⟩ := h
        have elen : pxs.length = ps.length := by rw [hpx.length, plTs_len]
        rw [elen, List.take_length] at den
        refine ⟨.ref D, rfl, q D kvs d H' sm hD hdv ?_⟩
        rw [cols, beneath]
        exact den.more (fun e => by rw [valP]) (Nat.le_refl _) (Nat.le_refl _)
      · obtain ⟨c, D, pt, ot, rfl, sm, hcol, kvs, d, hD, hdv, den⟩ := h
        obtain ⟨p, ep, mp, hp⟩ := pl_mem hpx e
        have tk := TK.of sm
        have hth : ht p < h := by rw [ht] at hh; have := ht_mem mp; omega
        have wfp := wf.part mp
        have subp := beneath_sub mp
        have szp := sz.sub subp
        have szi := sz.sub (beneaths_take ps i)
        obtain ⟨a1, _, a2⟩ := szp.here bb
        obtain ⟨b1, _, b2⟩ := szi.here bb
        have lp := cols_len fa p wfp.there
        have lp6 := (szp _ (List.Sublist.refl _)).2
        have li : (csort (colss as (ps.take i))).length ≤ 60 := by
          refine Nat.le_trans (csort_len _) ?_
          have l1 := colss_len fa (ps.take i) fun x hx => wf.there x (by rw [beneath]; exact (beneaths_take ps i).subset hx)
          have l2 := (szi _ (List.Sublist.refl _)).2
          omega
        have etk : ps.take (i + 1) = ps.take i ++ [p] := take_succ ep
        have eb : beneaths (ps.take (i + 1)) = beneaths (ps.take i) ++ beneath p := by
          rw [etk, beneaths_append]
          simp [beneaths]
        have szn := sz.sub (beneaths_take ps (i + 1))
        refine ⟨.ref j, rfl, x, rfl, .ref j, x, as, p, rfl, Is.mono tk _ _ hv, Is.mono tk _ _ hp, fa, wfp, hth, fun oc H2 sm2 hoc => ?_⟩
        have tk2 := TK.trans tk (TK.of sm2)
        have sm02 := same_tr sm sm2
        refine ⟨c, rfl, .ref D, rfl, oc, rfl, u, rfl, .ref j, rfl, x, rfl, u, .ref j, x, st, as, p, dom, bb, rfl, ⟨Is.mono tk2 _ _ rk.hu, Is.mono tk2 _ _ hv, Is.mono tk2 _ _ hp, fa, wfp, vx.mem mp, rk.so, le60, fun i hi => rk.ar i (by rw [beneath]; exact subp.subset hi), szp, rk.nd, rk.cd⟩, hth, fun Dp kvp dp H3 sm3 hDp hdvp denp => ?_⟩
        have s23 := same_tr sm2 sm3
        have ll : LN (fun i => cnt (atAt as i).1 st) (beneaths (ps.take i)) * LN (fun i => cnt (atAt as i).1 st) (beneath p) ≤ 36 := by
          rw [← LN_append, ← eb]
          exact (szn.here bb).1
        have s66 := (szn _ (List.Sublist.refl _)).2
        rw [eb, List.length_append] at s66
        have bsum : bb * (beneaths (ps.take i)).length * 36 + bb * (beneath p).length * 36 ≤ 12960 := by
          rw [← Nat.add_mul, ← Nat.mul_add]
          exact Nat.mul_le_mul_right 36 (Nat.mul_le_mul le60 s66)
        refine ⟨c, oc, D, Dp, csort (colss as (ps.take i)), cols as p, _, _, _, _, _, _, kvs, kvp, d, dp, rfl, hcol.mono (TK.of s23), (ColI.of hoc).mono (TK.of sm3), s23 _ _ hD, DV.mono (TK.of s23) hdv, den, hDp, hdvp, denp, by omega, by omega, by omega, by omega, by omega, fun Dn kvn dn H4 sm4 hDn hdvn denn => ?_⟩
        have s24 := same_tr s23 sm4
        have hcol4 := hcol.mono (TK.of s24)
        have hoc4 := (ColI.of hoc).mono (TK.of (same_tr sm3 sm4))
        obtain ⟨ca, rfl, _⟩ := id hcol4
        obtain ⟨oa, rfl, _⟩ := id hoc4
        refine ⟨.ref ca, rfl, .ref oa, rfl, ?_⟩
        refine catF_go hcol4 hoc4 (by omega) fun tt H5 sm5 htt => ?_
        refine ⟨tt, _, rfl, htt.sq, by rw [List.length_append]; omega, fun z hz => ⟨z, _, rfl, upd_same, fun pp hp2 => ⟨pp, _, rfl, .inl (.inl upd_same), fun Nn on hN hd => ?_⟩⟩⟩
        have s57 := same_tr (Same.new hz) (same_tr (Same.new hp2) (Same.new (o := .frz on (.tup ((csort (csort (colss as (ps.take i)) ++ cols as p)).map V.str))) hN))
        have s47 := same_tr sm5 s57
        refine ⟨_, Dn, _, _, rfl, same_tr sm (same_tr s24 s47), ⟨Nn, rfl, .inr ⟨on, hd, by rw [etk, ← csort_step]; exact upd_same⟩, fun y hy => ?_⟩, kvn, dn, s47 _ _ hDn, DV.mono (TK.of s47) hdvn, ?_⟩
        · exact colss_ok (aok_of hv) _ y (mem_csort.mp hy)
        · rw [eb, etk, ← csort_step]
          refine denn.more (fun e => ?_) (by rw [← BN_append]; omega) (by rw [LN_append]; omega)
          rw [valPs_append]
          simp only [valPs]
          rw [Rat.mul_one]
end
end K48
set_option maxRecDepth 100000
set_option maxHeartbeats 8000000
namespace K48
open PySem PySem.Spec PyProof.Rows L2 RZ
theorem Den.perm {cs : List Str} {V : (Str → Key) → Rat} {B L : Nat} {d ps : DD} (D : Den cs V B L d) (p : ps.Perm d) : Den cs V B L ps := by
  have nd : (keysD ps).Nodup := (List.Perm.map (fun q : List Key × Rat => q.1) p).nodup_iff.mpr D.nodup
  have val : ∀ k, valD ps k = valD d k := fun k => by
    cases h : valD d k with
    | some q => exact valD_of_mem nd (p.mem_iff.mpr (valD_mem h))
    | none =>
      cases h2 : valD ps k with
      | none => rfl
      | some q =>
        have := valD_of_mem D.nodup (p.mem_iff.mp (valD_mem h2))
        rw [h] at this
        cases this
  have sum : ∀ {a b : DD}, a.Perm b → sumB a = sumB b := fun {a b} h => by
    induction h with
    | nil => rfl
    | cons x _ ih => obtain ⟨k, q⟩ := x; rw [sumB, sumB, ih]
    | swap x y l => obtain ⟨k, q⟩ := x; obtain ⟨k2, q2⟩ := y; rw [sumB, sumB, sumB, sumB]; omega
    | trans _ _ h1 h2 => exact h1.trans h2
  exact ⟨fun e => by rw [val, D.look e], fun q hq => D.keys q (p.mem_iff.mp hq), nd, fun q hq => D.un q (p.mem_iff.mp hq), by rw [sum p]; exact D.size, by rw [p.length_eq]; exact D.len⟩
def prT (p : List Key × Rat) : T := .t [rowT p.1, shT p.2]
/-- the number of the whole plan -/
noncomputable def planN (ch : Place → Rat) (dom : List Key) (as : List Atom) (p : Pl) : Rat := if cols as p = [] then valP ch dom as p (fun _ => .inl 0) else 0
section
variable {P : Program} {w : World} {K : PySem.W.Frag} {mg : Str → Option Value} {base : Heap}
def N_number_of_plan : List Str := ["store", "join", "plan"]
def p_number_of_plan : List Str := ["store", "join", "plan"]
theorem sc_number_of_plan : FnScope N_number_of_plan p_number_of_plan (defScope s_number_of_plan) := ⟨rfl, rfl, rfl, by decide +kernel, rfl, by decide +kernel, by decide +kernel⟩
def sp_number_of_plan (h : Nat) : Sp := fun vs H Q _ => ∃ (u v t : V) (st : List Fact) (as : List Atom) (p : Pl) (dom : List Key) (b : Nat), vs = [u, v, t] ∧ RkOk b H u v t st as p dom ∧ ht p < h ∧ (Un (planN (chOf st) dom as p) → bt (planN (chOf st) dom as p) ≤ b * 216 → Gives H Q (shT (planN (chOf st) dom as p)))
theorem ok_number_of_plan {h : Nat} (G_reckoned : Ok P w K mg base (h + 4) "reckoned" p_reckoned (sp_reckoned h)) (T : Tx K mg) : Ok P w K mg base (h + 5) "number_of_plan" p_number_of_plan (sp_number_of_plan h) := by
  refine T.ok i_number_of_plan sc_number_of_plan (fun _ _ _ _ _ _ us h => by match us, h with | [_, _, _], _ => rfl) (fun vs H Q E h => by obtain ⟨_, _, _, _, _, _, _, _, rfl, _⟩ := h; rfl) (fun f cdv A outer s H vs Q E hr hs => ?_)
  obtain ⟨u, v, t, st, as, p, dom, bb, rfl, rk, hh, q⟩ := hs
  have hu := room_u1 hr
  refine ⟨_, (pss_one (ps_ret (pe_dget2 hu (pe_ok G_reckoned (hr.mono (by first | decide | omega)) rfl (pa_cons (pv 0) (pa_cons (pv 1) (pa_cons (pv 2) pa_nil)))) (pe_tup pa_nil) (pe_tup (pa_cons pe_int (pa_cons pe_int pa_nil))) ⟨rfl, rfl, rfl, rfl⟩))), ?_⟩
  refine ⟨u, rfl, v, rfl, t, rfl, u, v, t, st, as, p, dom, bb, rfl, rk, hh, fun D kvs d H1 sm1 hD hdv den => ⟨D, rfl, .inr ⟨kvs, .inl hD⟩, Nat.zero_le _, fun k0 hk0 => ⟨small2, fun o1 ho1 => ?_⟩⟩⟩
  have s1 := Same.new (o := .tup []) hk0
  have s2 := Same.new (o := .tup [.int 0, .int 1]) ho1
  refine ⟨_, DGet.t (k := []) (s2 _ _ (s1 _ _ hD)) (s2 _ _ upd_same), ?_⟩
  have hdv2 := DV.mono (TK.of (same_tr s1 s2)) hdv
  have eq : (valD d []).getD 0 = planN (chOf st) dom as p := by
    unfold planN
    by_cases z : cols as p = []
    · rw [if_pos z]
      have lk := den.look (fun _ => .inl 0)
      rw [z] at lk
      rw [show ([] : List Str).map (fun _ => (Sum.inl 0 : Key)) = [] from rfl] at lk
      rw [lk]
      by_cases y : valP (chOf st) dom as p (fun _ => .inl 0) = 0
      · rw [if_pos y, y]; rfl
      · rw [if_neg y]; rfl
    · rw [if_neg z]
      cases hv : valD d [] with
      | none => rfl
      | some y =>
        obtain ⟨⟨e, he⟩, _⟩ := den.keys _ (valD_mem hv)
        have : cols as p = [] := List.map_eq_nil_iff.mp he.symm
        exact absurd this z
  have ub : Un (planN (chOf st) dom as p) ∧ bt (planN (chOf st) dom as p) ≤ bb * 216 := by
    unfold planN
    split
    · have := den.unV (fun _ => .inl 0)
      exact ⟨this.1, Nat.le_trans this.2 (rk.sz.here bb).2.1⟩
    · exact ⟨un_zero, by rw [bt_zero]; exact Nat.zero_le _⟩
  have q := q ub.1 ub.2
  rcases hdv2.val (k := []) with ⟨z1, z2⟩ | ⟨q', v', z1, z2, z3⟩
  · rw [z2]
    refine q _ _ (same_tr sm1 (same_tr s1 s2)) ?_
    rw [z1] at eq
    rw [← eq]
    exact sh_at upd_same
  · rw [z2]
    refine q _ _ (same_tr sm1 (same_tr s1 s2)) ?_
    rw [z1] at eq
    rw [← eq]
    exact z3
def N_numbers_of : List Str := ["store", "join", "plan", "found", "row"]
def p_numbers_of : List Str := ["store", "join", "plan"]
theorem sc_numbers_of : FnScope N_numbers_of p_numbers_of (defScope s_numbers_of) := ⟨rfl, rfl, rfl, by decide +kernel, rfl, by decide +kernel, by decide +kernel⟩
def sp_numbers_of (h : Nat) : Sp := fun vs H Q _ => ∃ (u v t : V) (st : List Fact) (as : List Atom) (p : Pl) (dom : List Key) (b : Nat), vs = [u, v, t] ∧ RkOk b H u v t st as p dom ∧ ht p < h ∧
  ∀ v' (ps : DD) H', Same H H' → Is H' v' (.t (ps.map prT)) → Den (cols as p) (valP (chOf st) dom as p) (b * 216) 36 ps → Q v' H'
theorem rowsLen {cs : List Str} {V : (Str → Key) → Rat} {B L : Nat} {d : DD} (D : Den cs V B L d) : ∀ r ∈ keysD d, r.length = cs.length := fun r hr => by
  obtain ⟨p, hp, e⟩ := List.mem_map.mp hr
  obtain ⟨⟨e1, h1⟩, _⟩ := D.keys p hp
  rw [← e, h1, List.length_map]
theorem rowsFew {cs : List Str} {V : (Str → Key) → Rat} {B L : Nat} {d : DD} (D : Den cs V B L d) (h : cs.length = 0) : (keysD d).length ≤ 1 := by
  have l := rowsLen D
  have n := D.nodup
  cases hk : keysD d with
  | nil => simp
  | cons a r =>
    cases r with
    | nil => simp
    | cons b r =>
      rw [hk] at l n
      have la : a = [] := List.eq_nil_of_length_eq_zero ((l a (by simp)).trans h)
      have lb : b = [] := List.eq_nil_of_length_eq_zero ((l b (by simp)).trans h)
      rw [la, lb] at n
      simp at n
theorem rel_perm {α β : Type} {R : α → β → Prop} {ys xs : List α} (p : ys.Perm xs) : ∀ {ds : List β}, Paired R xs ds → ∃ es, Paired R ys es ∧ es.Perm ds := by
  induction p with
  | nil => exact fun {ds} h => ⟨ds, h, List.Perm.refl _⟩
  | cons x _ ih =>
    intro ds h
    cases h with
    | cons h t =>
      obtain ⟨es, q1, q2⟩ := ih t
      exact ⟨_ :: es, .cons h q1, q2.cons _⟩
  | swap x y l =>
    intro ds h
    cases h with
    | cons h t =>
      cases t with
      | cons h2 t2 => exact ⟨_ :: _ :: _, .cons h2 (.cons h t2), List.Perm.swap _ _ _⟩
  | trans _ _ ih1 ih2 =>
    intro ds h
    obtain ⟨es, q1, q2⟩ := ih2 h
    obtain ⟨fs, q3, q4⟩ := ih1 q1
    exact ⟨fs, q3, q4.trans q2⟩
/-- the references of the keys -/
def KR (H : Hp) (x : L2.V) (p : List Key × Rat) : Prop := ∃ b, x = .ref b ∧ H b = some (.tup (p.1.map kV))
theorem refs_of {H : Hp} : ∀ {kvs : List (List Key × L2.V)} {d : DD} {bs : List Addr}, DV H kvs d → IsKeys H kvs bs → Paired (KR H) (bs.map L2.V.ref) d
  | [], [], bs, _, h => by cases h; exact .nil
  | [], _ :: _, _, h, _ => h.elim
  | (_, _) :: _, [], _, h, _ => h.elim
  | (i, v) :: r, (j, q) :: s, bs, ⟨a, _, c⟩, h => by
    cases h with
    | cons h t =>
      subst a
      exact .cons ⟨_, rfl, h⟩ (refs_of c t)
theorem kr_isL {H : Hp} : ∀ {ys : List L2.V} {ps : DD}, Paired (KR H) ys ps → (∀ p ∈ ps, ∀ k ∈ p.1, kOk k = true) → IsL H ys (ps.map fun p => rowT p.1)
  | _, _, .nil, _ => isL_nil
  | _, _, .cons (b := p) ⟨b, e, h⟩ t, ok => by
    rw [e, List.map_cons]
    exact isL_cons (row_is h (ok p (List.mem_cons_self ..))) (kr_isL t fun q hq => ok q (List.mem_cons_of_mem _ hq))
theorem kr_get {H : Hp} : ∀ {ys : List L2.V} {ps : DD} {i : Nat} {x : L2.V}, Paired (KR H) ys ps → ys[i]? = some x → ∃ p, ps[i]? = some p ∧ KR H x p
  | _, _, i, x, .nil, e => by simp at e
  | _, _, 0, x, .cons h t, e => ⟨_, rfl, by have e2 := Option.some.inj e; rw [← e2]; exact h⟩
  | _, _, i + 1, x, .cons h t, e => by
    obtain ⟨p, q1, q2⟩ := kr_get (i := i) t (by simpa using e)
    exact ⟨p, by simpa using q1, q2⟩
def keysOfT : T → List Key
  | .t l => l.map keyOf
  | _ => []
theorem keysOfT_row (r : List Key) : keysOfT (rowT r) = r := by
  show (r.map kT).map keyOf = r
  rw [List.map_map]
  conv => rhs; rw [← List.map_id r]
  exact List.map_congr_left fun k _ => keyOf_kT k
noncomputable def fNum (d : DD) : T → Option T := fun t => some (.t [t, shT ((valD d (keysOfT t)).getD 0)])
theorem fNum_map (d : DD) : ∀ ps : DD, (∀ p ∈ ps, valD d p.1 = some p.2) → (ps.map fun p => rowT p.1).filterMap (fNum d) = ps.map prT
  | [], _ => rfl
  | p :: ps, h => by
    rw [List.map_cons, List.filterMap_cons]
    have e : fNum d (rowT p.1) = some (prT p) := by
      unfold fNum prT
      rw [keysOfT_row, h p (List.mem_cons_self ..)]
      rfl
    rw [e, List.map_cons, fNum_map d ps fun q hq => h q (List.mem_cons_of_mem _ hq)]
theorem ok_numbers_of {h : Nat} (G_row_key : Ok P w K mg base 2 "row_key" p_row_key sp_row_key) (G_reckoned : Ok P w K mg base (h + 4) "reckoned" p_reckoned (sp_reckoned h)) (T : Tx K mg) : Ok P w K mg base (h + 5) "numbers_of" p_numbers_of (sp_numbers_of h) := by
  obtain ⟨F_row_key, fdr, M_row_key, kpr, bir, fkr⟩ := G_row_key
  refine T.ok i_numbers_of sc_numbers_of (fun _ _ _ _ _ _ us h => by match us, h with | [_, _, _], _ => rfl) (fun vs H Q E h => by obtain ⟨_, _, _, _, _, _, _, _, rfl, _⟩ := h; rfl) (fun f cdv A outer s H vs Q E hr hs => ?_)
  obtain ⟨u, v, t, st, as, p, dom, bb, rfl, rk, hh, q⟩ := hs
  have nd := sc_numbers_of.nd
  have hu := room_u1 hr
  have hu64 := room_u64 hr
  refine ⟨_, (pss_cons (ps_set (i := 3) nd rfl (Or.inr rfl) (pe_ok G_reckoned (hr.mono (by first | decide | omega)) rfl (pa_cons (pv 0) (pa_cons (pv 1) (pa_cons (pv 2) pa_nil)))))
      (pss_one (ps_ret (pe_callTy call_tuple_of (by rfl) (T.bl "tuple" (by decide)) (by decide +kernel) (pa_cons (pe_lc (own := [("row", 4)]) (by rfl) nd (pi_list (pe_callBK (cr_sortK (fa := F_row_key) rfl) (by rfl) (T.bl "sorted" (by decide)) (by decide +kernel) (pa_cons (pe_callTy (call_list_dT rfl) (by rfl) (T.bl "list" (by decide)) (by decide +kernel) (pa_cons (pv 3) pa_nil)) pa_nil) (pk_cons (pe_glob (v := .ref F_row_key) rfl M_row_key rfl) pk_nil))) (blkOk_by (N := N_numbers_of) (sc := defScope s_numbers_of) (by decide +kernel)) (fun _ _ _ _ _ => (pg_name (i := 4) nd rfl (Or.inl rfl))) (fun _ _ _ _ _ => pts_nil) (fun _ _ _ _ _ => (pe_tup (pa_cons (pv 4) (pa_cons (pe_dget hu (pv 3) (pv 4) (fun _ _ => rfl)) pa_nil))))) pa_nil))))), ?_⟩
  obtain ⟨z1, z2, _⟩ := rk.sz.here bb
  refine ⟨u, rfl, v, rfl, t, rfl, u, v, t, st, as, p, dom, bb, rfl, rk, hh, fun D kvs d H1 sm1 hD hdv den => ?_⟩
  dsimp only [gName]
  refine r_ret (r_cb (r_cons (lc_listG ?_)))
  refine ⟨.ref D, rfl, D, kvs, rfl, .inl hD, fun l bs hl hks => ?_⟩
  have s2 := Same.new (o := .lst (bs.map V.ref)) hl
  have R0 := refs_of hdv hks
  have lb : (bs.map V.ref).length = d.length := by
    have : ∀ {a : List V} {b : DD}, Paired (KR H1) a b → a.length = b.length := fun {a b} r => by
      induction r with
      | nil => rfl
      | cons _ _ ih => rw [List.length_cons, List.length_cons, ih]
    exact this R0
  have okd : ∀ p ∈ d, ∀ k ∈ p.1, kOk k = true := fun p hp => (den.keys p hp).2
  have lcs := cols_len rk.few p rk.wf.there
  have s6 := (rk.sz _ (List.Sublist.refl _)).2
  refine ⟨l, bs.map V.ref, fun i y H' => ∃ pr, d[i]? = some pr ∧ Is H' y (rkT pr.1), rfl, rfl, .inl (.inl upd_same), ⟨fun i y Ha Hb sq hy => ?_, ?_, ?_⟩, fun H' pp ys sm hpp pm => ?_⟩
  · obtain ⟨pr, e1, e2⟩ := hy
    exact ⟨pr, e1, Is.mono sq.tk _ _ e2⟩
  · refine key_run (k := 2) fkr bir (hr.mono (by omega)) fun i x H' ex sq => ?_
    obtain ⟨pr, ep, b, eb, hb⟩ := kr_get R0 ex
    have mp := List.mem_of_getElem? ep
    refine ⟨x, pr.1, rfl, ?_, ?_, fun v' H2 s' his => ⟨s', pr, ep, his⟩⟩
    · rw [eb]
      exact Is.mono sq.tk _ _ (Is.mono (TK.of s2) _ _ (row_is hb (okd _ mp)))
    · rw [rowsLen den _ (List.mem_map.mpr ⟨pr, mp, rfl⟩)]
      omega
  · intro pins σ H' s' ys keys I sq rv len kd
    refine sorts_rows (rows := keysD d) I (show (A.deeper _).units + 64 < cLine from hu64) (cols as p).length (rowsLen den) (rowsFew den) rv (isL_of ?_ fun i y dt ey ed => ?_)
    · rw [len, lb]
      unfold keysD
      rw [List.length_map, List.length_map]
    · obtain ⟨pr, e1, e2⟩ := kd i y ey
      obtain ⟨r, er, e3⟩ := map_get ed
      obtain ⟨pr', er', e4⟩ := map_get er
      rw [e1] at er'
      have e5 := Option.some.inj er'
      rw [← e3, ← e4, ← e5]
      exact e2
  · obtain ⟨ps, rp, pp2⟩ := rel_perm pm R0
    have s23 : Same (upd H1 l (.lst (bs.map V.ref))) (upd H' pp (.lst ys)) := Same.mut2 (H := H1) sm hpp
    have s13 := same_tr s2 s23
    have okp : ∀ p ∈ ps, ∀ k ∈ p.1, kOk k = true := fun p hp => okd p (pp2.mem_iff.mp hp)
    have rp3 : Paired (KR (upd H' pp (.lst ys))) ys ps := by
      have : ∀ {a : List V} {b : DD}, Paired (KR H1) a b → Paired (KR (upd H' pp (.lst ys))) a b := fun {a b} r => by
        induction r with
        | nil => exact .nil
        | cons h _ ih => obtain ⟨b, e1, e2⟩ := h; exact .cons ⟨b, e1, s13 _ _ e2⟩ ih
      exact this rp
    have lps : ps.length ≤ 36 := by
      rw [pp2.length_eq]
      exact Nat.le_trans den.len z1
    have valp : ∀ p ∈ ps, valD d p.1 = some p.2 := fun p hp => valD_of_mem den.nodup (pp2.mem_iff.mp hp)
    refine ⟨pp, rfl, ⟨ys, .inl (.inl upd_same)⟩, ?_⟩
    refine c_listF (fNum d) upd_same (kr_isL rp3 okp) (by rw [List.length_map]; omega) (fun D' H4 vs sm4 hD' hvs hls => ?_) (fun i x tt H4 et sm4 htx Y Z hY hZ => ?_)
    · rw [fNum_map d ps valp] at hls
      refine ⟨D', vs, rfl, .inl ⟨.inl (.inl hvs), fun l2 hl2 => q _ ps _ (same_tr sm1 (same_tr s13 (same_tr sm4 (Same.new hl2)))) (is_t upd_same (IsL.mono (TK.of (Same.new hl2)) _ _ hls)) ?_⟩⟩
      exact (den.perm pp2).more (fun _ => rfl) z2 z1
    · obtain ⟨pr, epr, e2⟩ := map_get et
      subst e2
      have mp := List.mem_of_getElem? epr
      obtain ⟨b, rfl, hb, okb⟩ := row_inv htx
      have vp := valp _ mp
      have s14 := same_tr s13 sm4
      have dv4 := DV.mono (TK.of s14) hdv
      rcases dv4.val (k := pr.1) with ⟨y1, _⟩ | ⟨q', v', y1, y2, y3⟩
      · rw [vp] at y1; cases y1
      · rw [vp] at y1
        have eq' := Option.some.inj y1
        refine ⟨rfl, .ref b, rfl, .ref D, rfl, .ref b, rfl, D, v', rfl, by rw [← y2]; exact DGet.t (s14 _ _ hD) hb, small2, fun o ho => hY _ _ (prT pr) ?_ (Same.new ho) (is_t upd_same ?_)⟩
        · unfold fNum prT
          rw [keysOfT_row, vp]
          rfl
        · have tk := TK.of (Same.new (o := .tup [.ref b, v']) ho)
          exact isL_cons (Is.mono tk _ _ (row_is hb okb)) (isL_cons (Is.mono tk _ _ (by rw [eq']; exact y3)) isL_nil)
end
end K48
set_option maxRecDepth 100000
set_option maxHeartbeats 4000000
namespace K48
open PySem PySem.Spec PyProof.Rows L2
/-! ### numbers rise with chances -/
def UnCh (ch : Place → Rat) : Prop := ∀ p, Un (ch p)
theorem projV_un {dom : List Key} {x : Str} {V : (Str → Key) → Rat} (h : ∀ e, Un (V e)) (e : Str → Key) : Un (projV dom x V e) := by
  unfold projV
  exact (prodR_un fun q hq => by obtain ⟨v, _, e2⟩ := List.mem_map.mp hq; rw [← e2]; exact (h _).rest).rest
mutual
theorem val_un {ch : Place → Rat} {dom : List Key} {as : List Atom} (u : UnCh ch) : ∀ (p : Pl) (e : Str → Key), Un (valP ch dom as p e)
  | .scan i, e => by rw [valP]; exact u _
  | .proj x q, e => by rw [valP]; exact projV_un (val_un u q) e
  | .join ps, e => by rw [valP]; exact vals_un u ps e
theorem vals_un {ch : Place → Rat} {dom : List Key} {as : List Atom} (u : UnCh ch) : ∀ (ps : List Pl) (e : Str → Key), Un (valPs ch dom as ps e)
  | [], e => by rw [valPs]; exact un_one
  | p :: ps, e => by rw [valPs]; exact (val_un u p e).mul (vals_un u ps e)
end
theorem mul_mono {a b c d : Rat} (h1 : a ≤ b) (h2 : c ≤ d) (ha : 0 ≤ a) (hd : 0 ≤ d) : a * c ≤ b * d :=
  Rat.le_trans (Rat.mul_le_mul_of_nonneg_left h2 ha) (Rat.mul_le_mul_of_nonneg_right h1 hd)
theorem rest_mono {a b : Rat} (h : a ≤ b) : 1 - b ≤ 1 - a := by grind
mutual
theorem val_mono {ch ch' : Place → Rat} {dom : List Key} {as : List Atom} (u : UnCh ch) (u' : UnCh ch') (m : ∀ p, ch p ≤ ch' p) : ∀ (p : Pl) (e : Str → Key), valP ch dom as p e ≤ valP ch' dom as p e
  | .scan i, e => by rw [valP, valP]; exact m _
  | .proj x q, e => by
    rw [valP, valP]
    unfold projV
    refine rest_mono (prodR_le (by rw [List.length_map, List.length_map]) (fun r hr => ?_) (fun r hr => ?_) fun i a b ha hb => ?_)
    · obtain ⟨v, _, e2⟩ := List.mem_map.mp hr
      rw [← e2]
      exact (val_un u' q _).rest.1
    · obtain ⟨v, _, e2⟩ := List.mem_map.mp hr
      rw [← e2]
      exact (val_un u q _).rest.1
    · rw [List.getElem?_map] at ha hb
      cases hd : dom[i]? with
      | none => rw [hd] at ha; cases ha
      | some v =>
        rw [hd] at ha hb
        have e1 := Option.some.inj ha
        have e2 := Option.some.inj hb
        rw [← e1, ← e2]
        exact rest_mono (val_mono u u' m q _)
  | .join ps, e => by rw [valP, valP]; exact vals_mono u u' m ps e
theorem vals_mono {ch ch' : Place → Rat} {dom : List Key} {as : List Atom} (u : UnCh ch) (u' : UnCh ch') (m : ∀ p, ch p ≤ ch' p) : ∀ (ps : List Pl) (e : Str → Key), valPs ch dom as ps e ≤ valPs ch' dom as ps e
  | [], e => by rw [valPs, valPs]; exact Rat.le_refl
  | p :: ps, e => by
    rw [valPs, valPs]
    exact mul_mono (val_mono u u' m p e) (vals_mono u u' m ps e) (val_un u p e).1 (vals_un u' ps e).1
end
theorem plan_mono {ch ch' : Place → Rat} {dom : List Key} {as : List Atom} (u : UnCh ch) (u' : UnCh ch') (m : ∀ p, ch p ≤ ch' p) (p : Pl) : planN ch dom as p ≤ planN ch' dom as p := by
  unfold planN
  split
  · exact val_mono u u' m p _
  · exact Rat.le_refl
/-! ### where each projected variable stands in all atoms beneath, the number is linear in one chance -/
mutual
def bnd : Pl → List Str
  | .scan _ => []
  | .proj x q => x :: bnd q
  | .join ps => bnds ps
def bnds : List Pl → List Str
  | [] => []
  | p :: ps => bnd p ++ bnds ps
end
mutual
/-- no variable is projected twice on one way down -/
def Vb : Pl → Prop
  | .scan _ => True
  | .proj x q => x ∉ bnd q ∧ Vb q
  | .join ps => Vbs ps
def Vbs : List Pl → Prop
  | [] => True
  | p :: ps => Vb p ∧ Vbs ps
end
mutual
/-- each projected variable stands in all atoms beneath -/
def Sf (as : List Atom) : Pl → Prop
  | .scan _ => True
  | .proj x q => (∀ i ∈ beneath q, x ∈ avs (termsAt as i)) ∧ Sf as q
  | .join ps => Sfs as ps
def Sfs (as : List Atom) : List Pl → Prop
  | [] => True
  | p :: ps => Sf as p ∧ Sfs as ps
end
def setCh (ch : Place → Rat) (pl : Place) (t : Rat) : Place → Rat := fun p => if p = pl then t else ch p
theorem bnds_mem {x : Str} : ∀ {ps : List Pl} {p : Pl}, x ∉ bnds ps → p ∈ ps → x ∉ bnd p
  | q :: ps, p, h, m => by
    rw [bnds] at h
    rcases List.mem_cons.mp m with e | e
    · rw [e]; exact fun z => h (List.mem_append_left _ z)
    · exact bnds_mem (fun z => h (List.mem_append_right _ z)) e
section
variable {ch : Place → Rat} {dom : List Key} {as : List Atom} {n : Str} {row : List Key}
mutual
theorem const1 (t : Rat) : ∀ (p : Pl) (e : Str → Key), (∀ i ∈ beneath p, (atAt as i).1 ≠ n) → valP (setCh ch (n, row) t) dom as p e = valP ch dom as p e
  | .scan i, e, h => by
    rw [valP, valP]
    unfold scanV setCh
    rw [if_neg]
    intro z
    injection z with z _
    exact h i (by simp [beneath]) z
  | .proj x q, e, h => by
    rw [valP, valP]
    unfold projV
    congr 2
    exact List.map_congr_left fun v _ => by rw [const1 t q _ fun i hi => h i (by rw [beneath]; exact hi)]
  | .join ps, e, h => by rw [valP, valP]; exact consts1 t ps e fun i hi => h i (by rw [beneath]; exact hi)
theorem consts1 (t : Rat) : ∀ (ps : List Pl) (e : Str → Key), (∀ i ∈ beneaths ps, (atAt as i).1 ≠ n) → valPs (setCh ch (n, row) t) dom as ps e = valPs ch dom as ps e
  | [], e, h => by rw [valPs, valPs]
  | p :: ps, e, h => by
    rw [valPs, valPs]
    simp only
    rw [const1 t p e fun i hi => h i (by rw [beneaths]; exact List.mem_append_left _ hi), consts1 t ps e fun i hi => h i (by rw [beneaths]; exact List.mem_append_right _ hi)]
end
mutual
theorem const2 {x : Str} {v : Key} (t : Rat) : ∀ (p : Pl) (e : Str → Key), x ∉ bnd p → (∀ i ∈ beneath p, (atAt as i).1 = n → ∀ e', (atAt as i).2.map (inst e') = row → e' x = v) → e x ≠ v → valP (setCh ch (n, row) t) dom as p e = valP ch dom as p e
  | .scan i, e, _, h, ne => by
    rw [valP, valP]
    unfold scanV setCh
    rw [if_neg]
    intro z
    injection z with z1 z2
    exact ne (h i (by simp [beneath]) z1 e z2)
  | .proj y q, e, nb, h, ne => by
    rw [bnd] at nb
    have nxy : x ≠ y := fun z => nb (by rw [z]; exact List.mem_cons_self ..)
    rw [valP, valP]
    unfold projV
    congr 2
    exact List.map_congr_left fun v' _ => by rw [const2 t q (upE e y v') (fun z => nb (List.mem_cons_of_mem _ z)) (fun i hi => h i (by rw [beneath]; exact hi)) (by simpa [upE, nxy] using ne)]
  | .join ps, e, nb, h, ne => by rw [valP, valP]; rw [bnd] at nb; exact consts2 t ps e nb (fun i hi => h i (by rw [beneath]; exact hi)) ne
theorem consts2 {x : Str} {v : Key} (t : Rat) : ∀ (ps : List Pl) (e : Str → Key), x ∉ bnds ps → (∀ i ∈ beneaths ps, (atAt as i).1 = n → ∀ e', (atAt as i).2.map (inst e') = row → e' x = v) → e x ≠ v → valPs (setCh ch (n, row) t) dom as ps e = valPs ch dom as ps e
  | [], e, _, h, ne => by rw [valPs, valPs]
  | p :: ps, e, nb, h, ne => by
    rw [bnds] at nb
    rw [valPs, valPs]
    simp only
    rw [const2 t p e (fun z => nb (List.mem_append_left _ z)) (fun i hi => h i (by rw [beneaths]; exact List.mem_append_left _ hi)) ne,
      consts2 t ps e (fun z => nb (List.mem_append_right _ z)) (fun i hi => h i (by rw [beneaths]; exact List.mem_append_right _ hi)) ne]
end
/-- the names of the atoms are distinct -/
def Dn (as : List Atom) (l : List Nat) : Prop := ∀ i ∈ l, ∀ j ∈ l, (atAt as i).1 = (atAt as j).1 → i = j
theorem Dn.sub {as : List Atom} {l m : List Nat} (h : Dn as l) (s : ∀ i ∈ m, i ∈ l) : Dn as m := fun i hi j hj => h i (s i hi) j (s j hj)
/-- linear in the chance at the place -/
def Lin (c a b d : Rat) : Prop := a = c * b + (1 - c) * d
theorem lin_const {c a : Rat} : Lin c a a a := by unfold Lin; grind
theorem lin_mul {c a b d k : Rat} (h : Lin c a b d) : Lin c (a * k) (b * k) (d * k) := by unfold Lin at *; rw [h]; grind
theorem lin_mul' {c a b d k : Rat} (h : Lin c a b d) : Lin c (k * a) (k * b) (k * d) := by unfold Lin at *; rw [h]; grind
theorem lin_rest {c a b d : Rat} (h : Lin c a b d) : Lin c (1 - a) (1 - b) (1 - d) := by unfold Lin at *; rw [h]; grind
mutual
theorem val_lin (ndom : dom.Nodup) (c : Rat) : ∀ (p : Pl) (e : Str → Key), Vb p → Sf as p → (beneath p).Nodup → Dn as (beneath p) → Lin c (valP (setCh ch (n, row) c) dom as p e) (valP (setCh ch (n, row) 1) dom as p e) (valP (setCh ch (n, row) 0) dom as p e)
  | .scan i, e, _, _, _, _ => by
    rw [valP, valP, valP]
    unfold scanV setCh
    split
    · unfold Lin; grind
    · exact lin_const
  | .proj x q, e, vb, sf, nd, dn => by
    rw [Vb] at vb
    rw [Sf] at sf
    rw [beneath] at nd dn
    rw [valP, valP, valP]
    unfold projV
    have hit : ∃ v0 : Key, ∀ i ∈ beneath q, (atAt as i).1 = n → ∀ e', (atAt as i).2.map (inst e') = row → e' x = v0 := by
      by_cases ex : ∃ i ∈ beneath q, (atAt as i).1 = n ∧ ∃ e' : Str → Key, (atAt as i).2.map (inst e') = row
      · obtain ⟨i, hi, hn, e', he'⟩ := ex
        refine ⟨e' x, fun j hj hjn e'' he'' => ?_⟩
        have ij := dn j hj i hi (hjn.trans hn.symm)
        subst ij
        have ag := inst_eq.mp (he''.trans he'.symm)
        exact ag x (sf.1 j hj)
      · refine ⟨.inl 0, fun i hi hn e' he' => ?_⟩
        exact absurd ⟨i, hi, hn, e', he'⟩ ex
    obtain ⟨v0, hv0⟩ := hit
    have same : ∀ t v, v ≠ v0 → valP (setCh ch (n, row) t) dom as q (upE e x v) = valP ch dom as q (upE e x v) := fun t v nv => const2 t q _ vb.1 hv0 (by simpa [upE] using nv)
    refine lin_rest ?_
    -- the product: one factor may move
    have key : ∀ l : List Key, l.Nodup → Lin c (prodR (l.map fun v => 1 - valP (setCh ch (n, row) c) dom as q (upE e x v))) (prodR (l.map fun v => 1 - valP (setCh ch (n, row) 1) dom as q (upE e x v))) (prodR (l.map fun v => 1 - valP (setCh ch (n, row) 0) dom as q (upE e x v))) := by
      intro l
      induction l with
      | nil => exact fun _ => lin_const
      | cons v l ih =>
        intro nl
        obtain ⟨n1, n2⟩ := List.nodup_cons.mp nl
        rw [List.map_cons, List.map_cons, List.map_cons, prodR, prodR, prodR]
        by_cases z : v = v0
        · have all : ∀ t, l.map (fun v => 1 - valP (setCh ch (n, row) t) dom as q (upE e x v)) = l.map fun v => 1 - valP ch dom as q (upE e x v) := fun t => List.map_congr_left fun v' hv' => by
            rw [same t v' (fun y => n1 (by rw [z, ← y]; exact hv'))]
          rw [all, all, all]
          exact lin_mul (lin_rest (val_lin ndom c q (upE e x v) vb.2 sf.2 nd dn))
        · rw [same c v z, same 1 v z, same 0 v z]
          exact lin_mul' (ih n2)
    exact key dom ndom
  | .join ps, e, vb, sf, nd, dn => by
    rw [Vb] at vb
    rw [Sf] at sf
    rw [beneath] at nd dn
    rw [valP, valP, valP]
    exact vals_lin ndom c ps e vb sf nd dn
theorem vals_lin (ndom : dom.Nodup) (c : Rat) : ∀ (ps : List Pl) (e : Str → Key), Vbs ps → Sfs as ps → (beneaths ps).Nodup → Dn as (beneaths ps) → Lin c (valPs (setCh ch (n, row) c) dom as ps e) (valPs (setCh ch (n, row) 1) dom as ps e) (valPs (setCh ch (n, row) 0) dom as ps e)
  | [], e, _, _, _, _ => by rw [valPs, valPs, valPs]; exact lin_const
  | p :: ps, e, vb, sf, nd, dn => by
    rw [Vbs] at vb
    rw [Sfs] at sf
    rw [beneaths] at nd dn
    obtain ⟨nd1, nd2, nd3⟩ := List.nodup_append.mp nd
    rw [valPs, valPs, valPs]
    simp only
    by_cases h : ∃ i ∈ beneath p, (atAt as i).1 = n
    · obtain ⟨i, hi, hn⟩ := h
      have no : ∀ j ∈ beneaths ps, (atAt as j).1 ≠ n := fun j hj hjn => by
        have := dn i (List.mem_append_left _ hi) j (List.mem_append_right _ hj) (hn.trans hjn.symm)
        exact nd3 i hi j hj this
      rw [consts1 c ps e no, consts1 1 ps e no, consts1 0 ps e no]
      exact lin_mul (val_lin ndom c p e vb.1 sf.1 nd1 (dn.sub fun i hi => List.mem_append_left _ hi))
    · have no : ∀ j ∈ beneath p, (atAt as j).1 ≠ n := fun j hj hjn => h ⟨j, hj, hjn⟩
      rw [const1 c p e no, const1 1 p e no, const1 0 p e no]
      exact lin_mul' (vals_lin ndom c ps e vb.2 sf.2 nd2 (dn.sub fun i hi => List.mem_append_right _ hi))
end
end
end K48
set_option maxRecDepth 100000
set_option maxHeartbeats 8000000
namespace K48
open PySem PySem.Spec PyProof.Rows L2 RZ
/-- a list of whole numbers is at dr -/
def Dw (dr : Addr) (H : Hp) : Prop := ∃ ns : List Int, H dr = some (.lst (ns.map V.int))
theorem Dw.isL {dr : Addr} {H : Hp} (h : Dw dr H) : ∃ xs, H dr = some (.lst xs) := by obtain ⟨ns, e⟩ := h; exact ⟨_, e⟩
theorem Dw.ne {dr a : Addr} {H : Hp} {o : HO} (h : Dw dr H) (e : H a = some o) (n : ∀ xs, o ≠ .lst xs) : a ≠ dr := fun z => by
  obtain ⟨ns, e2⟩ := h
  rw [z, e2] at e
  exact n _ (Option.some.inj e).symm
theorem Dw.same {dr : Addr} {H H' : Hp} (h : Dw dr H) (s : Same H H') : Dw dr H' := by obtain ⟨ns, e⟩ := h; exact ⟨ns, s _ _ e⟩
theorem Dw.tk {dr : Addr} {H H' : Hp} (h : Dw dr H) (b : But dr H H') : TK H H' := by obtain ⟨ns, e⟩ := h; exact b.tk e
theorem Dw.new {dr p : Addr} {H : Hp} {o : HO} (h : Dw dr H) (n : H p = none) : Dw dr (upd H p o) := h.same (Same.new n)
theorem intsGet {ns : List Int} {i : Nat} (h : i < ns.length) : (ns.map V.int)[i]? = some (.int ns[i]) := by
  rw [List.getElem?_map, List.getElem?_eq_getElem h]
  rfl
section
variable {P : Program} {w : World} {K : PySem.W.Frag} {mg : Str → Option Value} {base : Heap}
def N_l_take : List Str := ["_law_draws_here", "_law_many"]
def p_l_take : List Str := ["_law_draws_here", "_law_many"]
theorem sc_l_take : FnScope N_l_take p_l_take (defScope s_l_take) := ⟨rfl, rfl, rfl, by decide +kernel, rfl, by decide +kernel, by decide +kernel⟩
def sp_l_take : Sp := fun vs H Q _ => ∃ (dr : Addr) (m : Int), vs = [.ref dr, .int m] ∧ 1 ≤ m ∧ Dw dr H ∧ ∀ (i : Int) H', But dr H H' → Dw dr H' → 0 ≤ i → i < m → Q (.int i) H'
theorem ok_l_take (T : Tx K mg) : Ok P w K mg base 1 "_law_take" p_l_take sp_l_take := by
  refine T.ok i_l_take sc_l_take (fun _ _ _ _ _ _ us h => by match us, h with | [_, _], _ => rfl) (fun vs H Q E h => by obtain ⟨_, _, rfl, _⟩ := h; rfl) (fun f cdv A outer s H vs Q E hr h => ?_)
  obtain ⟨dr, m, rfl, hm, dw, q⟩ := h
  refine ⟨_, (pss_cons (ps_if (pt_cmpR op_eq (pe_callB call_len (by rfl) (T.bl "len" (by decide)) (by decide +kernel) (pa_cons (pv 0) pa_nil)) pe_int (nomark _))
        (pss_one (ps_ret pe_int))
        pss_nil)
      (pss_one (ps_ret (pe_op op_mod (pe_callTy call_int1 (by rfl) (T.bl "int" (by decide)) (by decide +kernel) (pa_cons (pe_bm0 PySem.F.plainAttrs_list PySem.F.slot_list_pop PySem.F.type_list_pop mt_pop (pv 0)) pa_nil)) (pv 1))))), ?_⟩
  obtain ⟨ns, hd⟩ := id dw
  refine ⟨.ref dr, rfl, _, _, rfl, .inl ⟨_, .inl (.inl hd), rfl⟩, rfl, decide (ns.length = 0), ?_, ?_⟩
  · rw [List.length_map]
    by_cases z : ns.length = 0
    · rw [z]; rfl
    · rw [decide_eq_false z]
      exact congrArg V.bl (decide_eq_false fun y => z (by injection y with y; omega))
  · by_cases z : ns.length = 0
    · rw [decide_eq_true z]
      exact q 0 H (But.refl _ _) dw (by omega) (by omega)
    · rw [decide_eq_false z]
      have hl : ns.length - 1 < ns.length := by omega
      refine ⟨.ref dr, rfl, .inl ⟨rfl, _, .inl (.inl hd)⟩, dr, _, .int ns[ns.length - 1], rfl, rfl, hd, by rw [List.length_map]; exact intsGet hl, .inl ⟨_, rfl, .int m, rfl, _, _, rfl, rfl, by omega, ?_⟩⟩
      refine q _ _ But.put ⟨ns.dropLast, by rw [upd_same, List.map_dropLast]⟩ (Int.emod_nonneg _ (by omega)) (Int.emod_lt_of_pos _ (by omega))
def N_l_pick : List Str := ["_law_draws_here", "_law_row"]
def p_l_pick : List Str := ["_law_draws_here", "_law_row"]
theorem sc_l_pick : FnScope N_l_pick p_l_pick (defScope s_l_pick) := ⟨rfl, rfl, rfl, by decide +kernel, rfl, by decide +kernel, by decide +kernel⟩
def sp_l_pick (K : PySem.W.Frag) : Sp := fun vs H Q _ => ∃ (dr a : Addr) (xs : List V), vs = [.ref dr, .ref a] ∧ (∀ H', But dr H H' → SqL K H' a xs ∨ SqT K H' a xs) ∧ xs ≠ [] ∧ Dw dr H ∧ ∀ (i : Nat) x H', xs[i]? = some x → But dr H H' → Dw dr H' → Q x H'
theorem ok_l_pick (G_l_take : Ok P w K mg base 1 "_law_take" p_l_take sp_l_take) (T : Tx K mg) : Ok P w K mg base 2 "_law_pick" p_l_pick (sp_l_pick K) := by
  refine T.ok i_l_pick sc_l_pick (fun _ _ _ _ _ _ us h => by match us, h with | [_, _], _ => rfl) (fun vs H Q E h => by obtain ⟨_, _, _, rfl, _⟩ := h; rfl) (fun f cdv A outer s H vs Q E hr h => ?_)
  obtain ⟨dr, a, xs, rfl, ha, ne, dw, q⟩ := h
  refine ⟨_, (pss_one (ps_ret (pe_ix ix_seq (pv 1) (pe_ok G_l_take (hr.mono (by first | decide | omega)) rfl (pa_cons (pv 0) (pa_cons (pe_callB call_len (by rfl) (T.bl "len" (by decide)) (by decide +kernel) (pa_cons (pv 1) pa_nil)) pa_nil))) (fun _ _ => rfl)))), ?_⟩
  have pos : 0 < xs.length := List.length_pos_iff.mpr ne
  refine ⟨.ref a, rfl, .ref dr, rfl, .ref a, rfl, _, xs.length, rfl, ?_, dr, xs.length, rfl, by omega, dw, fun i H' b dw' i0 im => ?_⟩
  · exact (ha H (But.refl _ _)).elim (fun h => .inl ⟨xs, h, rfl⟩) fun h => .inr ⟨xs, h, rfl⟩
  · have hi : i.toNat < xs.length := by omega
    have ei : ((i.toNat : Nat) : Int) = i := by omega
    have g : xs[i.toNat]? = some xs[i.toNat] := List.getElem?_eq_getElem hi
    have g2 : atI xs i = some xs[i.toNat] := by
      have g3 := atI_nat g
      rw [ei] at g3
      exact g3
    rcases ha H' b with h | h
    · exact .inl ⟨a, xs, i, _, rfl, rfl, h, g2, q _ _ _ g b dw'⟩
    · exact .inr (.inl ⟨a, xs, i, _, rfl, rfl, h, g2, q _ _ _ g b dw'⟩)
theorem sqL_same {H H' : Hp} {a : Addr} {xs : List V} (h : SqL K H a xs) (s : Same H H') : SqL K H' a xs := by
  rcases h with (h | ⟨o, h⟩) | h
  · exact .inl (.inl (s _ _ h))
  · exact .inl (.inr ⟨o, s _ _ h⟩)
  · exact .inr h
theorem c_listS {g : TG} {tt : TT} {te : TE} {ids : List Nat} {σ : L2.St} {H : Hp} {Q : VK} {a : Addr} {xs : List V} {ts : List T} (f : T → Option T) (hx : SqL K H a xs) (hi : IsL H xs ts) (few : ts.length ≤ 1000)
    (done : ∀ D H' vs, Same H H' → H D = none → H' D = some (.lst vs) → IsL H' vs (ts.filterMap f) → Q (.ref D) H')
    (step : ∀ (i : Nat) (x : V) (t : T) (H' : Hp), ts[i]? = some t → Same H H' → Is H' x t → TurnF g tt te ids σ x H' (f t)) : LcJ g tt te ids σ Q (Itl K a) H := by
  refine c_list xs (fun D i H' => (H D = none → LcI H ((ts.take i).filterMap f) D H') ∧ SqL K H' a xs) (fun D hD => ⟨fun _ => ⟨Same.new hD, _, upd_same, isL_nil⟩, sqL_same hx (Same.new hD)⟩) (fun D i H' h => h.2) (fun D H' hD h => ?_) fun D i x H' hD e h => ?_
  · obtain ⟨sm, vs, hv, hl⟩ := h.1 hD
    rw [hi.length, List.take_length] at hl
    exact done D H' vs sm hD hv hl
  · obtain ⟨t, et, ht⟩ := hi.get' e
    have I := h.1 hD
    refine lcF_step (n := 0) I hD (Nat.le_trans (fm_len f ts i) few) (step i x t H' et I.same (Is.mono (TK.of I.same) _ _ ht)) (fun d H2 hr I2 => ⟨fun _ => ?_, sqL_same hx I2.same⟩) fun H2 hr I2 => ⟨fun _ => ?_, sqL_same hx I2.same⟩
    · rw [filterMap_take f et, hr]
      exact I2
    · rw [filterMap_take f et, hr]
      simpa using I2
theorem lc_listS {g : TG} {tt : TT} {te tl : TE} {ids : List Nat} {σ : L2.St} {H : Hp} {Q : VK} {a : Addr} {xs : List V} {ts : List T} (f : T → Option T) (H1 : Hp) (h : ∀ R : VK, R (.ref a) H1 → tl σ H R) (hx : SqL K H1 a xs) (hi : IsL H1 xs ts) (few : ts.length ≤ 1000)
    (done : ∀ D H' vs, Same H1 H' → H1 D = none → H' D = some (.lst vs) → IsL H' vs (ts.filterMap f) → Q (.ref D) H')
    (step : ∀ (i : Nat) (x : V) (t : T) (H' : Hp), ts[i]? = some t → Same H1 H' → Is H' x t → TurnF g tt te ids σ x H' (f t)) : tLc (iList K tl) g tt te ids σ H Q :=
  h _ ⟨a, rfl, ⟨xs, hx⟩, c_listS f hx hi few done step⟩
def N_l_draws : List Str := ["_law_script", "_law_many", "_law_cells", "_law_rest_here", "_law_draws_here", "_law_k", "_law_at", "_law_mixed", "_law_cell"]
def p_l_draws : List Str := ["_law_script", "_law_many"]
theorem sc_l_draws : FnScope N_l_draws p_l_draws (defScope s_l_draws) := ⟨rfl, rfl, rfl, by decide +kernel, rfl, by decide +kernel, by decide +kernel⟩
def sp_l_draws (K : PySem.W.Frag) : Sp := fun vs H Q _ => ∃ (a : Addr) (ns : List Int), vs = [.ref a, .int 500] ∧ SqL K H a (ns.map V.int) ∧ ns.length ≤ 63 ∧ ∀ (d : Addr) H', Same H H' → H d = none → Dw d H' → Q (.ref d) H'
def intT (n : Int) : T := .i n
theorem intsIs {H : Hp} : ∀ {ns : List Int}, IsL H (ns.map V.int) (ns.map T.i)
  | [] => isL_nil
  | n :: ns => isL_cons is_i intsIs
theorem intsInv {H : Hp} : ∀ {ns : List Int} {vs : List V}, IsL H vs (ns.map T.i) → vs = ns.map V.int
  | [], vs, h => isL_nil_inv h
  | n :: ns, vs, h => by
    obtain ⟨v, r, e, h1, h2⟩ := isL_inv h
    rw [e, is_i_inv h1, intsInv h2]
    rfl
def idT : T → Option T := fun t => match t with | .i n => some (.i n) | _ => none
theorem fm_ints : ∀ ns : List Int, (ns.map T.i).filterMap idT = ns.map T.i
  | [] => rfl
  | n :: ns => by
    rw [List.map_cons, List.filterMap_cons]
    exact congrArg (T.i n :: ·) (fm_ints ns)
theorem ok_l_draws (T : Tx K mg) : Ok P w K mg base 1 "_law_draws" p_l_draws (sp_l_draws K) := by
  refine T.ok i_l_draws sc_l_draws (fun _ _ _ _ _ _ us h => by match us, h with | [_, _], _ => rfl) (fun vs H Q E h => by obtain ⟨_, _, rfl, _⟩ := h; rfl) (fun f cdv A outer s H vs Q E hr h => ?_)
  obtain ⟨a, ns, rfl, ha, few, q⟩ := h
  have nd := sc_l_draws.nd
  refine ⟨_, (pss_cons (ps_setLc (i := 2) (own := [("_law_cell", 8)]) (by rfl) nd rfl rfl (sw_true rfl rfl rfl (by decide +kernel)) (pi_list (pv 0)) (blkOk_by (N := N_l_draws) (sc := defScope s_l_draws) (by decide +kernel)) (fun _ _ _ _ _ => (pg_name (i := 8) nd rfl (Or.inl rfl))) (fun _ _ _ _ _ => pts_nil) (fun _ _ _ _ _ => (pe_callTy call_int1 (by rfl) (T.bl "int" (by decide)) (by decide +kernel) (pa_cons (pv 8) pa_nil))))
      (Evl.pss_cut (ps_if (pt_cmpR op_eq (pe_callB call_len (by rfl) (T.bl "len" (by decide)) (by decide +kernel) (pa_cons (pv 2) pa_nil)) pe_int (nomark _))
        (pss_one (ps_expr (pe_bm PySem.F.plainAttrs_list PySem.F.slot_list_append PySem.F.type_list_append mt_append (pv 2) (pa_cons pe_int pa_nil))))
        pss_nil)
      (pss_cons (ps_set (i := 3) nd rfl (Or.inl rfl) (pe_callTy call_list_of (by rfl) (T.bl "list" (by decide)) (by decide +kernel) (pa_cons (pv 2) pa_nil)))
      (pss_cons (ps_set (i := 4) nd rfl (Or.inl rfl) (pe_lst pa_nil))
      (pss_cons (ps_for PassesOwn.never rfl (pi_range1 rfl (T.bl "range" (by decide)) (pa_cons (pv 1) pa_nil)) (pg_name (i := 5) nd rfl (Or.inl rfl))
        (pss_cons (ps_set (i := 6) nd rfl (Or.inl rfl) (pe_op op_mod (pv 5) (pe_callB call_len (by rfl) (T.bl "len" (by decide)) (by decide +kernel) (pa_cons (pv 2) pa_nil))))
        (pss_one (ps_if (pt_cmpR op_ge (pe_ix ix_list (pv 2) (pv 6) (fun _ _ => rfl)) (pe_op op_pow pe_int pe_int) (nomark _))
          (pss_cons (ps_expr (pe_bm PySem.F.plainAttrs_list PySem.F.slot_list_append PySem.F.type_list_append mt_append (pv 4) (pa_cons (pe_op op_mod (pe_callTy call_int1 (by rfl) (T.bl "int" (by decide)) (by decide +kernel) (pa_cons (pe_ix ix_list (pv 3) (pv 6) (fun _ _ => rfl)) pa_nil)) pe_int) pa_nil)))
          (pss_one (ps_asg (pe_op op_fdiv (pe_ix ix_list (pv 3) (pv 6) (fun _ _ => rfl)) pe_int) (pg_sub (pv 3) (pv 6) set_list))))
          (pss_cons (ps_set (i := 7) nd rfl (Or.inl rfl) (pe_op op_mod (pe_callTy call_int1 (by rfl) (T.bl "int" (by decide)) (by decide +kernel) (pa_cons (pe_op op_add (pe_op op_add (pe_op op_mul (pe_ix ix_list (pv 2) (pv 6) (fun _ _ => rfl)) pe_int) (pe_op op_mul (pv 5) pe_int)) pe_int) pa_nil)) pe_int))
          (pss_one (ps_expr (pe_bm PySem.F.plainAttrs_list PySem.F.slot_list_append PySem.F.type_list_append mt_append (pv 4) (pa_cons (pe_op op_mod (pe_callTy call_int1 (by rfl) (T.bl "int" (by decide)) (by decide +kernel) (pa_cons (pe_op op_add (pe_op op_add (pe_op op_mul (pv 7) (pv 7)) (pe_op op_mul pe_int (pv 7))) (pv 5)) pa_nil)) pe_int) pa_nil)))))))))
      (pss_cons (ps_expr (pe_bm0 PySem.F.plainAttrs_list PySem.F.slot_list_reverse PySem.F.type_list_reverse mt_reverse (pv 4)))
      (pss_one (ps_ret (pv 4))))))))), ?_⟩
  refine r_seq (r_asg ?_)
  refine lc_listS idT H (fun R r => ⟨_, rfl, r⟩) ha intsIs (by rw [List.length_map]; omega) (fun C H1 vs sm1 hC hvs hls => ?_) (fun i x t H' et sm ht Y Z hY hZ => ?_)
  rotate_left
  · obtain ⟨n, en, e2⟩ := map_get et
    subst e2
    have e3 := is_i_inv ht
    subst e3
    exact ⟨rfl, .int n, rfl, .inl ⟨n, rfl, hY _ _ _ rfl (same_refl _) is_i⟩⟩
  rw [fm_ints] at hls
  have ev := intsInv hls
  subst ev
  dsimp only [gName]
  -- the cells, one at least
  refine Evl.q_cut (M := fun σ H2 => ∃ cs : List Int, σ = [some (.ref a), some (.int 500), some (.ref C), none, none, none, none, none, none] ∧ Same H H2 ∧ H2 C = some (.lst (cs.map V.int)) ∧ 0 < cs.length ∧ cs.length ≤ 64) ?_ (fun σ H2 h => ?_)
  · refine ⟨.ref C, rfl, _, _, rfl, .inl ⟨_, .inl (.inl hvs), rfl⟩, rfl, decide (ns.length = 0), ?_, ?_⟩
    · rw [List.length_map]
      by_cases z : ns.length = 0
      · rw [z]; rfl
      · rw [decide_eq_false z]
        exact congrArg V.bl (decide_eq_false fun y => z (by injection y with y; omega))
    · by_cases z : ns.length = 0
      · rw [decide_eq_true z]
        refine ⟨.ref C, rfl, .inl ⟨rfl, _, .inl (.inl hvs)⟩, C, _, .int 0, rfl, rfl, hvs, by rw [List.length_map]; exact lt_line (by omega), ?_⟩
        exact ⟨ns ++ [0], rfl, Same.mut2 (H := H) sm1 hC, by rw [upd_same, List.map_append]; rfl, by rw [List.length_append]; exact Nat.succ_pos _, by rw [List.length_append]; show ns.length + 1 ≤ 64; omega⟩
      · rw [decide_eq_false z]
        exact ⟨ns, rfl, sm1, hvs, by omega, by omega⟩
  · obtain ⟨cs, rfl, sm2, hC2, c0, c64⟩ := h
    have nC : H C = none := hC
    refine ⟨.ref C, rfl, C, _, rfl, .inl (.inl (.inl hC2)), fun R hR => ?_⟩
    have s3 := Same.new (o := .lst (cs.map V.int)) hR
    refine ⟨Nat.zero_le _, fun W hW => ?_⟩
    have s4 := Same.new (o := .lst []) hW
    have nRC : C ≠ R := ne_of_none hC2 hR
    have nWC : C ≠ W := ne_of_none (s3 _ _ hC2) hW
    have nWR : R ≠ W := fun z => by rw [← z, upd_same] at hW; cases hW
    have HR : H R = none := none_back sm2 hR
    have HW : H W = none := none_back sm2 (none_back s3 hW)
    refine ⟨.int 500, rfl, 500, rfl, by decide, by decide, ?_⟩
    refine j_rng (fun i σ H' => ∃ k at_ mx : Option V, σ = [some (.ref a), some (.int 500), some (.ref C), some (.ref R), some (.ref W), k, at_, mx, none] ∧ Same H H' ∧ H' C = some (.lst (cs.map V.int)) ∧
        (∃ rs : List Int, H' R = some (.lst (rs.map V.int)) ∧ rs.length = cs.length) ∧ ∃ ds : List Int, H' W = some (.lst (ds.map V.int)) ∧ ds.length = i)
      ⟨_, _, _, rfl, same_tr sm2 (same_tr s3 s4), same_tr s3 s4 _ _ hC2, ⟨cs, s4 _ _ upd_same, rfl⟩, [], upd_same, rfl⟩ (fun σ H' h => ?_) (fun i σ H' hi h => ?_)
    · obtain ⟨k, at_, mx, rfl, sm, hC', _, ds, hW', ld⟩ := h
      refine ⟨.ref W, rfl, .inl ⟨rfl, _, .inl (.inl hW')⟩, W, _, rfl, rfl, hW', ?_⟩
      exact ⟨.ref W, rfl, q W _ (Same.mut2 (H := H) sm HW) HW ⟨ds.reverse, by rw [upd_same, List.map_reverse]⟩⟩
    · obtain ⟨k, at_, mx, rfl, sm, hC', ⟨rs, hR', lr⟩, ds, hW', ld⟩ := h
      have i500 : i < 500 := hi
      have cl : (0 : Int) < ((cs.map V.int).length : Nat) := by rw [List.length_map]; omega
      refine ⟨.int i, rfl, .ref C, rfl, _, _, rfl, .inl ⟨_, .inl (.inl hC'), rfl⟩, _, _, rfl, rfl, cl, ?_⟩
      have e0 := Int.emod_nonneg (i : Int) (show ((cs.map V.int).length : Int) ≠ 0 by omega)
      have e1 := Int.emod_lt_of_pos (i : Int) cl
      obtain ⟨j, ej, hj⟩ : ∃ j : Nat, (i : Int) % ((cs.map V.int).length : Nat) = (j : Int) ∧ j < cs.length := ⟨((i : Int) % ((cs.map V.int).length : Nat)).toNat, by omega, by rw [List.length_map] at e1 e0 ⊢; omega⟩
      dsimp only [gName]
      rw [ej]
      have gC : atI (cs.map V.int) (j : Int) = some (.int cs[j]) := atI_nat (intsGet hj)
      have hjr : j < rs.length := by omega
      have gR : atI (rs.map V.int) (j : Int) = some (.int rs[j]) := atI_nat (intsGet hjr)
      have few2 : (ds.map V.int).length < sizeLine := by rw [List.length_map]; exact lt_line (by omega)
      refine ⟨.ref C, rfl, .int j, rfl, C, _, _, _, rfl, rfl, .inl (.inl hC'), gC, 10, 18, rfl, rfl, ⟨by decide, by decide, by decide⟩, _, _, rfl, rfl, _, rfl, ?_⟩
      by_cases big : (10 : Int) ^ (18 : Int).toNat ≤ cs[j]
      · rw [decide_eq_true big]
        refine ⟨.ref W, rfl, .inl ⟨rfl, _, .inl (.inl hW')⟩, .ref R, rfl, .int j, rfl, R, _, _, _, rfl, rfl, .inl (.inl hR'), gR, .inl ⟨_, rfl, _, _, rfl, rfl, (show (0 : Int) < 1000 by decide), W, _, _, rfl, rfl, hW', few2, ?_⟩⟩
        have hR2 : (upd H' W (.lst (ds.map V.int ++ [.int (rs[j] % 1000)]))) R = some (.lst (rs.map V.int)) := by rw [upd_ne nWR]; exact hR'
        refine ⟨.ref R, rfl, .int j, rfl, R, _, _, _, rfl, rfl, .inl (.inl hR2), gR, _, _, rfl, rfl, ⟨by decide, by decide⟩, .ref R, rfl, .int j, rfl, R, _, j, j, rfl, rfl, hR2, ?_, ?_⟩
        · unfold ixN
          rw [List.length_map, if_pos (by omega), if_pos (by omega)]
          simp
        · refine ⟨_, _, _, rfl, Same.mut2 (H := H) (Same.mut2 (H := H) sm HW) HR, ?_, ⟨rs.set j (rs[j] / 1000), ?_, by rw [List.length_set]; exact lr⟩, ds ++ [rs[j] % 1000], ?_, by rw [List.length_append, ld]; rfl⟩
          · rw [upd_ne nRC, upd_ne nWC]; exact hC'
          · rw [upd_same, List.map_set]
          · rw [upd_ne nWR.symm, upd_same, List.map_append]; rfl
      · rw [decide_eq_false big]
        refine ⟨.ref C, rfl, .int j, rfl, C, _, _, _, rfl, rfl, .inl (.inl hC'), gC, _, _, rfl, rfl, .inr ⟨by decide, by decide⟩, .int i, rfl, _, _, rfl, rfl, .inr ⟨by decide, by decide⟩, _, _, rfl, rfl, _, _, rfl, rfl,   .inl ⟨_, rfl, _, _, rfl, rfl, (show (0 : Int) < 2147483647 by decide), ?_⟩⟩
        dsimp only [gName]
        have m0 := Int.emod_nonneg (cs[j] * 48271 + (i : Int) * 69621 + 11) (show (2147483647 : Int) ≠ 0 by decide)
        have m1 := Int.emod_lt_of_pos (cs[j] * 48271 + (i : Int) * 69621 + 11) (show (0 : Int) < 2147483647 by decide)
        generalize (cs[j] * 48271 + (i : Int) * 69621 + 11) % 2147483647 = mixed at m0 m1
        refine ⟨.ref W, rfl, .inl ⟨rfl, _, .inl (.inl hW')⟩, .int mixed, rfl, .int mixed, rfl, _, _, rfl, rfl, .inl ⟨by omega, by omega⟩, .int mixed, rfl, _, _, rfl, rfl, .inl ⟨by decide, by decide⟩, _, _, rfl, rfl, .int i, rfl, _, _, rfl, rfl, .inl ⟨_, rfl, _, _, rfl, rfl, (show (0 : Int) < 1000003 by decide), W, _, _, rfl, rfl, hW', few2, ?_⟩⟩
        refine ⟨_, _, _, rfl, Same.mut2 (H := H) sm HW, ?_, ⟨rs, ?_, lr⟩, ds ++ [(mixed * mixed + 3 * mixed + (i : Int)) % 1000003], ?_, by rw [List.length_append, ld]; rfl⟩
        · rw [upd_ne nWC]; exact hC'
        · rw [upd_ne nWR]; exact hR'
        · rw [upd_same, List.map_append]; rfl
end
end K48
set_option maxRecDepth 100000
set_option maxHeartbeats 8000000
namespace K48
open PySem PySem.Spec PyProof.Rows L2 RZ
section
variable {P : Program} {w : World} {K : PySem.W.Frag} {mg : Str → Option Value} {base : Heap}
theorem lc_rngG {g : TG} {tt : TT} {te : TE} {ta : TA} {ids : List Nat} {σ : L2.St} {H : Hp} {Q : VK} (n : Nat) (H1 : Hp) (few : n ≤ 1000) (h : ∀ R : List V → Hp → Prop, R [.int (n : Int)] H1 → ta σ H R) (k : LcJ g tt te ids σ Q (Itr 0 n) H1) : tLc (iRng1 ta) g tt te ids σ H Q :=
  h _ ⟨n, rfl, by omega, by omega, by rw [Int.toNat_natCast]; exact k⟩
theorem r_c {v : V} {σ : L2.St} {H : Hp} {Q : VK} (h : Q v H) : tC v σ H Q := h
def N_l_same : List Str := ["_law_actual", "_law_due", "_law_k"]
def p_l_same : List Str := ["_law_actual", "_law_due"]
theorem sc_l_same : FnScope N_l_same p_l_same (defScope s_l_same) := ⟨rfl, rfl, rfl, by decide +kernel, rfl, by decide +kernel, by decide +kernel⟩
def sp_l_same (h : Nat) : Sp := fun vs H Q _ => ∃ u v : V, vs = [u, v] ∧ ((1 ≤ h ∧ ∃ n : Int, u = .int n ∧ v = .int n) ∨ (2 ≤ h ∧ ∃ q, Is H u (shT q) ∧ Is H v (shT q))) ∧ ∀ H', Same H H' → Q (.bl true) H'
theorem ok_l_same (T : Tx K mg) : ∀ h : Nat, Ok P w K mg base (h + 1) "_law_same" p_l_same (sp_l_same h)
  | 0 => by
    refine T.ok i_l_same sc_l_same (fun _ _ _ _ _ _ us h => by match us, h with | [_, _], _ => rfl) (fun vs H Q E h => by obtain ⟨_, _, rfl, _⟩ := h; rfl) (fun f cdv A outer s H vs Q E hr h => ?_)
    obtain ⟨_, _, _, z, _⟩ := h
    rcases z with ⟨z, _⟩ | ⟨z, _⟩ <;> exact absurd z (by omega)
  | h + 1 => by
    have G_l_same := ok_l_same T h
    refine T.ok i_l_same sc_l_same (fun _ _ _ _ _ _ us h => by match us, h with | [_, _], _ => rfl) (fun vs H Q E h => by obtain ⟨_, _, rfl, _⟩ := h; rfl) (fun f cdv A outer s H vs Q E hr hs => ?_)
    obtain ⟨u, v, rfl, z, q⟩ := hs
    have nd := sc_l_same.nd
    have hu64 := room_u64 hr
    refine ⟨_, (pss_cons (ps_if (pt_val (pe_callB call_isiT (by rfl) (T.bl "isinstance" (by decide)) (by decide +kernel) (pa_cons (pv 1) (pa_cons (pe_tup (pa_cons (pe_bltn (v := .ty "tuple") rfl (T.bl "tuple" (by decide)) (by decide +kernel) rfl) (pa_cons (pe_bltn (v := .ty "list") rfl (T.bl "list" (by decide)) (by decide +kernel) rfl) pa_nil))) pa_nil))))
        (pss_cons (ps_if (PW.pt (pw_or (pt_cmpR op_ne (pe_callB call_isi (by rfl) (T.bl "isinstance" (by decide)) (by decide +kernel) (pa_cons (pv 0) (pa_cons (pe_bltn (v := .ty "tuple") rfl (T.bl "tuple" (by decide)) (by decide +kernel) rfl) pa_nil))) (pe_callB call_isi (by rfl) (T.bl "isinstance" (by decide)) (by decide +kernel) (pa_cons (pv 1) (pa_cons (pe_bltn (v := .ty "tuple") rfl (T.bl "tuple" (by decide)) (by decide +kernel) rfl) pa_nil))) (nomark _)) (pw_or1 (pt_cmpR op_ne (pe_callB call_isi (by rfl) (T.bl "isinstance" (by decide)) (by decide +kernel) (pa_cons (pv 0) (pa_cons (pe_bltn (v := .ty "list") rfl (T.bl "list" (by decide)) (by decide +kernel) rfl) pa_nil))) (pe_callB call_isi (by rfl) (T.bl "isinstance" (by decide)) (by decide +kernel) (pa_cons (pv 1) (pa_cons (pe_bltn (v := .ty "list") rfl (T.bl "list" (by decide)) (by decide +kernel) rfl) pa_nil))) (nomark _)))))
          (pss_one (ps_ret pe_bl))
          pss_nil)
        (pss_cons (ps_if (pt_cmpR op_ne (pe_callB call_len (by rfl) (T.bl "len" (by decide)) (by decide +kernel) (pa_cons (pv 0) pa_nil)) (pe_callB call_len (by rfl) (T.bl "len" (by decide)) (by decide +kernel) (pa_cons (pv 1) pa_nil)) (nomark _))
          (pss_one (ps_ret pe_bl))
          pss_nil)
        (pss_one (ps_ret (pe_cmpR op_notIn_seq pe_bl (pe_lc (own := [("_law_k", 2)]) (by rfl) nd (pi_range1 rfl (T.bl "range" (by decide)) (pa_cons (pe_callB call_len (by rfl) (T.bl "len" (by decide)) (by decide +kernel) (pa_cons (pv 1) pa_nil)) pa_nil)) (blkOk_by (N := N_l_same) (sc := defScope s_l_same) (by decide +kernel)) (fun _ _ _ _ _ => (pg_name (i := 2) nd rfl (Or.inl rfl))) (fun _ _ _ _ _ => pts_nil) (fun _ _ _ _ _ => (pe_ok G_l_same (hr.mono (by first | decide | omega)) rfl (pa_cons (pe_ix (ix_tupK K) (pv 0) (pv 2) (fun _ _ => rfl)) (pa_cons (pe_ix (ix_tupK K) (pv 1) (pv 2) (fun _ _ => rfl)) pa_nil))))) (by rfl))))))
        pss_nil)
      (pss_cons (ps_if (PW.pt (pw_or (pt_cmpR op_ne (pe_callB call_isi (by rfl) (T.bl "isinstance" (by decide)) (by decide +kernel) (pa_cons (pv 0) (pa_cons (pe_bltn (v := .ty "bool") rfl (T.bl "bool" (by decide)) (by decide +kernel) rfl) pa_nil))) (pe_callB call_isi (by rfl) (T.bl "isinstance" (by decide)) (by decide +kernel) (pa_cons (pv 1) (pa_cons (pe_bltn (v := .ty "bool") rfl (T.bl "bool" (by decide)) (by decide +kernel) rfl) pa_nil))) (nomark _)) (pw_or1 (pt_cmpR op_ne (pe_callB call_isi (by rfl) (T.bl "isinstance" (by decide)) (by decide +kernel) (pa_cons (pv 0) (pa_cons (pe_bltn (v := .ty "int") rfl (T.bl "int" (by decide)) (by decide +kernel) rfl) pa_nil))) (pe_callB call_isi (by rfl) (T.bl "isinstance" (by decide)) (by decide +kernel) (pa_cons (pv 1) (pa_cons (pe_bltn (v := .ty "int") rfl (T.bl "int" (by decide)) (by decide +kernel) rfl) pa_nil))) (nomark _)))))
        (pss_one (ps_ret pe_bl))
        pss_nil)
      (pss_cons (ps_if (PW.pt (pw_or (pt_cmpR op_ne (pe_callB call_isi (by rfl) (T.bl "isinstance" (by decide)) (by decide +kernel) (pa_cons (pv 0) (pa_cons (pe_bltn (v := .ty "str") rfl (T.bl "str" (by decide)) (by decide +kernel) rfl) pa_nil))) (pe_callB call_isi (by rfl) (T.bl "isinstance" (by decide)) (by decide +kernel) (pa_cons (pv 1) (pa_cons (pe_bltn (v := .ty "str") rfl (T.bl "str" (by decide)) (by decide +kernel) rfl) pa_nil))) (nomark _)) (pw_or1 (pt_cmpR op_ne (pe_cmpR op_isN (pv 0) pe_non (nomark _)) (pe_cmpR op_isN (pv 1) pe_non (nomark _)) (nomark _)))))
        (pss_one (ps_ret pe_bl))
        pss_nil)
      (pss_one (ps_ret (pe_cmpR (op_eqD hu64) (pv 0) (pv 1) (nomark _))))))), ?_⟩
    rcases z with ⟨_, n, rfl, rfl⟩ | ⟨h2, x, hu, hv⟩
    · refine ⟨.int n, rfl, small2, fun p hp => ?_⟩
      have s1 := Same.new (o := .tup [.ty "tuple", .ty "list"]) hp
      refine ⟨_, p, _, .type "int", _, false, rfl, upd_same, .cons (.ty "tuple") (.cons (.ty "list") .nil), .base (.int n), kitAny_cons (kit_ty (r := false) (by rfl)) (fun _ => kitAny_cons (kit_ty (r := false) (by rfl)) (fun _ => kitAny_nil) (fun z => nomatch z)) (fun z => nomatch z), false, rfl, ?_⟩
      refine ⟨.int n, rfl, _, .ty "bool", _, _, false, rfl, .ty "bool", .base (.int n), kit_ty (by rfl), .int n, rfl, _, .ty "bool", _, _, false, rfl, .ty "bool", .base (.int n), kit_ty (by rfl), rfl, false, by simp, ?_⟩
      refine ⟨.int n, rfl, _, .ty "int", _, _, true, rfl, .ty "int", .base (.int n), kit_ty (by rfl), .int n, rfl, _, .ty "int", _, _, true, rfl, .ty "int", .base (.int n), kit_ty (by rfl), rfl, false, by simp, ?_⟩
      refine ⟨.int n, rfl, _, .ty "str", _, _, false, rfl, .ty "str", .base (.int n), kit_ty (by rfl), .int n, rfl, _, .ty "str", _, _, false, rfl, .ty "str", .base (.int n), kit_ty (by rfl), rfl, false, by simp, ?_⟩
      refine ⟨.int n, rfl, rfl, .int n, rfl, rfl, rfl, false, by simp, ?_⟩
      refine ⟨.int n, rfl, .int n, rfl, .int n, .int n, Dp.int n, Dp.int n, rfl, rfl, ?_⟩
      have e : PyData.eqv (.int n) (.int n) = true := by simp [PyData.eqv]
      rw [e]
      exact q _ s1
    · obtain ⟨a, rfl, ha⟩ := sh_inv hu
      obtain ⟨b, rfl, hb⟩ := sh_inv hv
      refine ⟨.ref b, rfl, small2, fun p hp => ?_⟩
      have s1 := Same.new (o := .tup [.ty "tuple", .ty "list"]) hp
      have ha1 := s1 _ _ ha
      have hb1 := s1 _ _ hb
      refine ⟨_, p, _, .type "tuple", _, true, rfl, upd_same, .cons (.ty "tuple") (.cons (.ty "list") .nil), .base (.tup hb1), kitAny_cons (kit_ty (r := true) (by rfl)) (fun z => nomatch z) (fun _ => rfl), true, rfl, ?_⟩
      refine ⟨.ref a, rfl, _, .ty "tuple", _, _, true, rfl, .ty "tuple", .base (.tup ha1), kit_ty (by rfl), .ref b, rfl, _, .ty "tuple", _, _, true, rfl, .ty "tuple", .base (.tup hb1), kit_ty (by rfl), rfl, false, by simp, ?_⟩
      refine ⟨.ref a, rfl, _, .ty "list", _, _, false, rfl, .ty "list", .base (.tup ha1), kit_ty (by rfl), .ref b, rfl, _, .ty "list", _, _, false, rfl, .ty "list", .base (.tup hb1), kit_ty (by rfl), rfl, false, by simp, ?_⟩
      refine ⟨.ref a, rfl, _, 2, rfl, .inr ⟨_, .inl (.inl ha1), rfl⟩, .ref b, rfl, _, 2, rfl, .inr ⟨_, .inl (.inl hb1), rfl⟩, rfl, false, by simp, ?_⟩
      simp only [Bool.false_eq_true, if_false, tNext]
      refine r_ret (r_op (r_c ?_))
      refine lc_rngG 2 _ (by decide) (fun R r => ⟨.ref b, rfl, _, 2, rfl, .inr ⟨_, .inl (.inl hb1), rfl⟩, r⟩) ?_
      refine c_rng (fun D i H' => (upd H p (.tup [.ty "tuple", .ty "list"])) D = none → Same (upd H p (.tup [.ty "tuple", .ty "list"])) H' ∧ H' D = some (.lst (List.replicate i (.bl true)))) (fun D hD _ => ⟨Same.new hD, upd_same⟩) (fun D H' hD hp' => ?_) (fun D i H' hD hi hp' => ?_)
      · obtain ⟨sm, hD'⟩ := hp' hD
        refine ⟨D, _, rfl, .inl (.inl (.inl hD')), rfl, rfl, ?_⟩
        exact q _ (same_tr s1 sm)
      · obtain ⟨sm, hD'⟩ := hp' hD
        have ha2 := sm _ _ ha1
        have hb2 := sm _ _ hb1
        have go : ∀ n : Int, atI [V.int x.num, V.int x.den] (i : Int) = some (.int n) → (tCall (sp_l_same h) [] E0 (tCons (tOp (rIxT K) (tVar 0) (tVar 2)) (tCons (tOp (rIxT K) (tVar 1) (tVar 2)) tNil))) [some (.ref a), some (.ref b), some (.int i)] H' (fun y H4 => ∃ acc, H4 D = some (.lst acc) ∧ acc.length < sizeLine ∧ ((upd H p (.tup [.ty "tuple", .ty "list"])) D = none → Same (upd H p (.tup [.ty "tuple", .ty "list"])) (upd H4 D (.lst (acc ++ [y]))) ∧ (upd H4 D (.lst (acc ++ [y]))) D = some (.lst (List.replicate (i + 1) (.bl true))))) := fun n hn => by
          refine ⟨.ref a, rfl, .int i, rfl, a, _, i, _, rfl, rfl, .inl (.inl ha2), hn, .ref b, rfl, .int i, rfl, b, _, i, _, rfl, rfl, .inl (.inl hb2), hn, .int n, .int n, rfl, .inl ⟨by omega, n, rfl, rfl⟩, fun H4 sm4 => ?_⟩
          refine ⟨_, sm4 _ _ hD', by rw [List.length_replicate]; exact lt_line (by omega), fun hD2 => ⟨Same.mut2 (H := H) (same_tr sm sm4) hD2, ?_⟩⟩
          rw [upd_same, List.replicate_succ']
        match i, hi with
        | 0, _ => exact ⟨rfl, go x.num rfl⟩
        | 1, _ => exact ⟨rfl, go x.den rfl⟩
def N_l_value : List Str := ["_law_draws_here", "_law_values_here"]
def p_l_value : List Str := ["_law_draws_here", "_law_values_here"]
theorem sc_l_value : FnScope N_l_value p_l_value (defScope s_l_value) := ⟨rfl, rfl, rfl, by decide +kernel, rfl, by decide +kernel, by decide +kernel⟩
/-- a list of keys -/
def KL (H : Hp) (l : Addr) (ks : List Key) : Prop := H l = some (.lst (ks.map kV)) ∧ ∀ k ∈ ks, kOk k = true
def sp_l_value : Sp := fun vs H Q _ => ∃ (dr l : Addr) (a b c : Key), vs = [.ref dr, .ref l] ∧ Dw dr H ∧ l ≠ dr ∧ KL H l [a, b, c] ∧ ∀ k H', But dr H H' → Dw dr H' → k ∈ [a, b, c] → Q (kV k) H'
theorem ok_l_value (G_l_take : Ok P w K mg base 1 "_law_take" p_l_take sp_l_take) (T : Tx K mg) : Ok P w K mg base 2 "_law_value" p_l_value sp_l_value := by
  refine T.ok i_l_value sc_l_value (fun _ _ _ _ _ _ us h => by match us, h with | [_, _], _ => rfl) (fun vs H Q E h => by obtain ⟨_, _, _, _, _, rfl, _⟩ := h; rfl) (fun f cdv A outer s H vs Q E hr h => ?_)
  obtain ⟨dr, l, a, b, c, rfl, dw, nl, ⟨hl, ok⟩, q⟩ := h
  refine ⟨_, (pss_one (ps_ret (pe_ix ix_list (pv 1) (pe_ix ix_list (pe_lst (pa_cons pe_int (pa_cons pe_int (pa_cons pe_int (pa_cons pe_int (pa_cons pe_int pa_nil)))))) (pe_ok G_l_take (hr.mono (by first | decide | omega)) rfl (pa_cons (pv 0) (pa_cons pe_int pa_nil))) (fun _ _ => rfl)) (fun _ _ => rfl)))), ?_⟩
  refine ⟨.ref l, rfl, le_line (by decide), fun p hp => ?_⟩
  have s1 := Same.new (o := .lst [.int 0, .int 1, .int 0, .int 2, .int 1]) hp
  refine ⟨.ref dr, rfl, dr, 5, rfl, by decide, dw.same s1, fun i H' bt_ dw' i0 i5 => ?_⟩
  have npd : p ≠ dr := fun z => by obtain ⟨ns, e⟩ := dw; rw [← z, hp] at e; cases e
  have hp' := bt_ _ _ npd upd_same
  have hl' := bt_ _ _ nl (s1 _ _ hl)
  have b' := But.trans (But.of s1) bt_
  have cases_ : i = 0 ∨ i = 1 ∨ i = 2 ∨ i = 3 ∨ i = 4 := by omega
  rcases cases_ with e | e | e | e | e <;> subst e
  · exact ⟨p, _, _, .int 0, rfl, rfl, .inl (.inl hp'), rfl, l, _, 0, kV a, rfl, rfl, .inl (.inl hl'), rfl, q a _ b' dw' (by simp)⟩
  · exact ⟨p, _, _, .int 1, rfl, rfl, .inl (.inl hp'), rfl, l, _, 1, kV b, rfl, rfl, .inl (.inl hl'), rfl, q b _ b' dw' (by simp)⟩
  · exact ⟨p, _, _, .int 0, rfl, rfl, .inl (.inl hp'), rfl, l, _, 0, kV a, rfl, rfl, .inl (.inl hl'), rfl, q a _ b' dw' (by simp)⟩
  · exact ⟨p, _, _, .int 2, rfl, rfl, .inl (.inl hp'), rfl, l, _, 2, kV c, rfl, rfl, .inl (.inl hl'), rfl, q c _ b' dw' (by simp)⟩
  · exact ⟨p, _, _, .int 1, rfl, rfl, .inl (.inl hp'), rfl, l, _, 1, kV b, rfl, rfl, .inl (.inl hl'), rfl, q b _ b' dw' (by simp)⟩
end
end K48
set_option maxRecDepth 100000
set_option maxHeartbeats 8000000
namespace K48
open PySem PySem.Spec PyProof.Rows L2 RZ
section
variable {P : Program} {w : World} {K : PySem.W.Frag} {mg : Str → Option Value} {base : Heap}
theorem small4 : 4 ≤ sizeLine := by decide
def N_l_values : List Str := ["_law_draws_here", "_law_words_here", "_law_low", "_law_values_here"]
def p_l_values : List Str := ["_law_draws_here", "_law_words_here"]
theorem sc_l_values : FnScope N_l_values p_l_values (defScope s_l_values) := ⟨rfl, rfl, rfl, by decide +kernel, rfl, by decide +kernel, by decide +kernel⟩
def sp_l_values : Sp := fun vs H Q _ => ∃ (dr a : Addr) (w0 w1 : Str) (ws : List Str), vs = [.ref dr, .ref a] ∧ Dw dr H ∧ a ≠ dr ∧ H a = some (.lst ((w0 :: w1 :: ws).map V.str)) ∧ strOk w0 = true ∧ strOk w1 = true ∧
  ∀ (l : Addr) (k1 k2 k3 : Key) H', But dr H H' → Dw dr H' → l ≠ dr → KL H' l [k1, k2, k3] → Q (.ref l) H'
theorem ok_l_values (G_l_take : Ok P w K mg base 1 "_law_take" p_l_take sp_l_take) (T : Tx K mg) : Ok P w K mg base 2 "_law_values" p_l_values sp_l_values := by
  refine T.ok i_l_values sc_l_values (fun _ _ _ _ _ _ us h => by match us, h with | [_, _], _ => rfl) (fun vs H Q E h => by obtain ⟨_, _, _, _, _, rfl, _⟩ := h; rfl) (fun f cdv A outer s H vs Q E hr h => ?_)
  obtain ⟨dr, a, w0, w1, ws, rfl, dw, na, ha, o0, o1, q⟩ := h
  have nd := sc_l_values.nd
  refine ⟨_, (pss_cons (ps_set (i := 2) nd rfl (Or.inl rfl) (pe_op op_sub (pe_ok G_l_take (hr.mono (by first | decide | omega)) rfl (pa_cons (pv 0) (pa_cons pe_int pa_nil))) pe_int))
      (pss_cons (ps_set (i := 3) nd rfl (Or.inl rfl) (pe_lst (pa_cons (pv 2) (pa_cons (pe_op op_add (pe_op op_add (pv 2) pe_int) (pe_ok G_l_take (hr.mono (by first | decide | omega)) rfl (pa_cons (pv 0) (pa_cons pe_int pa_nil)))) (pa_cons (pe_ix ix_list (pv 1) pe_int (fun _ _ => rfl)) pa_nil)))))
      (pss_cons (ps_if (pt_cmpR op_eq (pe_ok G_l_take (hr.mono (by first | decide | omega)) rfl (pa_cons (pv 0) (pa_cons pe_int pa_nil))) pe_int (nomark _))
        (pss_one (ps_asg (pe_ix ix_list (pv 1) pe_int (fun _ _ => rfl)) (pg_sub (pv 3) pe_int set_list)))
        pss_nil)
      (pss_one (ps_ret (pv 3)))))), ?_⟩
  refine ⟨.ref dr, rfl, dr, 7, rfl, by decide, dw, fun i H1 b1 dw1 i0 i1 => ⟨_, _, rfl, rfl, ?_⟩⟩
  dsimp only [gName]
  refine ⟨.int (i - 3), rfl, .int (i - 3), rfl, _, _, rfl, rfl, .ref dr, rfl, dr, 5, rfl, by decide, dw1, fun j H2 b2 dw2 j0 j1 => ⟨_, _, rfl, rfl, .ref a, rfl, a, _, 0, .str w0, rfl, rfl, .inl (.inl (b2 _ _ na (b1 _ _ na ha))), atI_nat (i := 0) rfl, small3, fun l hl => ?_⟩⟩
  have s3 := Same.new (o := .lst [.int (i - 3), .int (i - 3 + 1 + j), .str w0]) hl
  have nl : l ≠ dr := fun z => by obtain ⟨ns, e⟩ := dw2; rw [← z, hl] at e; cases e
  have b3 := But.trans b1 (But.trans b2 (But.of s3))
  refine ⟨.ref dr, rfl, dr, 3, rfl, by decide, dw2.same s3, fun c H4 b4 dw4 c0 c1 => ⟨rfl, decide (c = 0), ?_, ?_⟩⟩
  · by_cases z : c = 0
    · rw [z]; rfl
    · rw [decide_eq_false z]
      exact congrArg V.bl (decide_eq_false fun y => z (by injection y))
  · have hl4 := b4 _ _ nl upd_same
    have b5 := But.trans b3 b4
    by_cases z : c = 0
    · rw [decide_eq_true z]
      have hl0 : H l = none := b1.free nl (b2.free nl hl)
      refine ⟨.ref a, rfl, a, _, 1, .str w1, rfl, rfl, .inl (.inl (b5 _ _ na ha)), atI_nat (i := 1) rfl, .ref l, rfl, l, _, 1, 1, rfl, rfl, hl4, rfl, ?_⟩
      have dw5 : Dw dr (upd H4 l (.lst [.int (i - 3), .str w1, .str w0])) := by
        obtain ⟨ns, e⟩ := dw4
        exact ⟨ns, by rw [upd_ne nl.symm]; exact e⟩
      exact ⟨.ref l, rfl, q l (.inl (i - 3)) (.inr w1) (.inr w0) _ (b5.mut hl0) dw5 nl ⟨upd_same, fun k hk => by
        rcases List.mem_cons.mp hk with e | hk
        · rw [e]; rfl
        rcases List.mem_cons.mp hk with e | hk
        · rw [e]; exact o1
        rw [List.mem_singleton.mp hk]; exact o0⟩⟩
    · rw [decide_eq_false z]
      exact ⟨.ref l, rfl, q l (.inl (i - 3)) (.inl (i - 3 + 1 + j)) (.inr w0) _ b5 dw4 nl ⟨hl4, fun k hk => by
        rcases List.mem_cons.mp hk with e | hk
        · rw [e]; rfl
        rcases List.mem_cons.mp hk with e | hk
        · rw [e]; rfl
        rw [List.mem_singleton.mp hk]; exact o0⟩⟩
def N_l_chance : List Str := ["_law_draws_here", "_law_d"]
def p_l_chance : List Str := ["_law_draws_here"]
theorem sc_l_chance : FnScope N_l_chance p_l_chance (defScope s_l_chance) := ⟨rfl, rfl, rfl, by decide +kernel, rfl, by decide +kernel, by decide +kernel⟩
def sp_l_chance : Sp := fun vs H Q _ => ∃ dr : Addr, vs = [.ref dr] ∧ Dw dr H ∧ ∀ v (x : Rat) H', But dr H H' → Dw dr H' → Is H' v (shT x) → Un x → bt x ≤ 30 → Q v H'
theorem mkRat_un {n d : Int} (hn : 0 ≤ n) (hd : 0 < d) (h : n ≤ d) : Un (mkRat n d.toNat) := by
  obtain ⟨e1, e2⟩ := share_rat hn hd
  refine un_of ?_ ?_
  · rw [e1]
    exact Int.ediv_nonneg hn (by omega)
  · rw [e1, e2]
    exact Int.ediv_le_ediv (by have : 0 < Nat.gcd n.natAbs d.natAbs := Nat.gcd_pos_of_pos_right _ (by omega); omega) h
theorem mkRat_bt {n d : Int} (hn : 0 ≤ n) (hd : 0 < d) (h : d < 2 ^ 30) : bt (mkRat n d.toNat) ≤ 30 := by
  obtain ⟨e1, e2⟩ := share_rat hn hd
  refine bt_le ?_
  have h2 : d / (Nat.gcd n.natAbs d.natAbs : Nat) ≤ d := Int.ediv_le_self _ (by omega)
  have h3 : ((mkRat n d.toNat).den : Int) < 2 ^ 30 := by rw [e2]; omega
  exact_mod_cast h3
theorem ok_l_chance (G_l_share : Ok P w K mg base 1 "_law_share" p_l_share sp_make_share) (G_l_take : Ok P w K mg base 1 "_law_take" p_l_take sp_l_take) (T : Tx K mg) : Ok P w K mg base 2 "_law_chance" p_l_chance sp_l_chance := by
  refine T.ok i_l_chance sc_l_chance (fun _ _ _ _ _ _ us h => by match us, h with | [_], _ => rfl) (fun vs H Q E h => by obtain ⟨_, rfl, _⟩ := h; rfl) (fun f cdv A outer s H vs Q E hr h => ?_)
  obtain ⟨dr, rfl, dw, q⟩ := h
  have nd := sc_l_chance.nd
  refine ⟨_, (pss_cons (ps_set (i := 1) nd rfl (Or.inl rfl) (pe_op op_add pe_int (pe_ok G_l_take (hr.mono (by first | decide | omega)) rfl (pa_cons (pv 0) (pa_cons pe_int pa_nil)))))
      (Evl.pss_cut (ps_if (pt_cmpR op_eq (pe_ok G_l_take (hr.mono (by first | decide | omega)) rfl (pa_cons (pv 0) (pa_cons pe_int pa_nil))) pe_int (nomark _))
        (pss_one (ps_set (i := 1) nd rfl (Or.inl rfl) (pe_op op_add pe_int (pe_op op_mul pe_int (pe_ok G_l_take (hr.mono (by first | decide | omega)) rfl (pa_cons (pv 0) (pa_cons pe_int pa_nil)))))))
        pss_nil)
      (pss_one (ps_ret (pe_ok G_l_share (hr.mono (by first | decide | omega)) rfl (pa_cons (pe_ix ix_list (pe_lst (pa_cons pe_int (pa_cons (pe_op op_sub (pv 1) pe_int) (pa_cons (pe_ok G_l_take (hr.mono (by first | decide | omega)) rfl (pa_cons (pv 0) (pa_cons (pe_op op_add (pv 1) pe_int) pa_nil))) (pa_cons pe_int pa_nil))))) (pe_ok G_l_take (hr.mono (by first | decide | omega)) rfl (pa_cons (pv 0) (pa_cons pe_int pa_nil))) (fun _ _ => rfl)) (pa_cons (pv 1) pa_nil))))))), ?_⟩
  refine ⟨.ref dr, rfl, dr, 5, rfl, by decide, dw, fun i H1 b1 dw1 i0 i1 => ⟨_, _, rfl, rfl, ?_⟩⟩
  dsimp only [gName]
  refine Evl.q_cut (M := fun σ H2 => ∃ d : Int, σ = [some (.ref dr), some (.int d)] ∧ But dr H H2 ∧ Dw dr H2 ∧ 2 ≤ d ∧ d < 2 ^ 30) ?_ (fun σ H2 h => ?_)
  · refine ⟨.ref dr, rfl, dr, 14, rfl, by decide, dw1, fun j H2 b2 dw2 j0 j1 => ⟨rfl, decide (j = 0), ?_, ?_⟩⟩
    · by_cases z : j = 0
      · rw [z]; rfl
      · rw [decide_eq_false z]
        exact congrArg V.bl (decide_eq_false fun y => z (by injection y))
    · by_cases z : j = 0
      · rw [decide_eq_true z]
        refine ⟨.ref dr, rfl, dr, 1000, rfl, by decide, dw2, fun k H3 b3 dw3 k0 k1 => ⟨_, _, rfl, rfl, .inl ⟨by decide, by decide⟩, _, _, rfl, rfl, ?_⟩⟩
        exact ⟨_, rfl, But.trans b1 (But.trans b2 b3), dw3, by omega, by omega⟩
      · rw [decide_eq_false z]
        exact ⟨2 + i, rfl, But.trans b1 b2, dw2, by omega, by omega⟩
  · obtain ⟨d, rfl, b2, dw2, d2, d30⟩ := h
    refine ⟨.int d, rfl, _, _, rfl, rfl, .ref dr, rfl, .int d, rfl, _, _, rfl, rfl, dr, d + 1, rfl, by omega, dw2, fun j H3 b3 dw3 j0 j1 => ⟨small4, fun l hl => ?_⟩⟩
    have s4 := Same.new (o := .lst [.int 1, .int (d - 1), .int j, .int 1]) hl
    have nl : l ≠ dr := fun z => by obtain ⟨ns, e⟩ := dw3; rw [← z, hl] at e; cases e
    refine ⟨.ref dr, rfl, dr, 4, rfl, by decide, dw3.same s4, fun c H5 b5 dw5 c0 c1 => ?_⟩
    have hl5 := b5 _ _ nl upd_same
    have bb := But.trans b2 (But.trans b3 (But.trans (But.of s4) b5))
    have fin : ∀ n : Int, 0 ≤ n → n ≤ d → atI [V.int 1, .int (d - 1), .int j, .int 1] c = some (.int n) → rIxL K (.ref l) (.int c) H5 (fun x H1 => (tCons (tVar 1) tNil) [some (.ref dr), some (.int d)] H1 fun xs H2 => sp_make_share ((x :: xs) ++ []) H2 Q E0) := fun n n0 nd' hat => by
      refine ⟨l, _, c, _, rfl, rfl, .inl (.inl hl5), hat, .int d, rfl, n, d, rfl, n0, by omega, ?_, ?_, fun v H6 s6 h6 => q v _ H6 (But.trans bb (But.of s6)) (dw5.same s6) h6 (mkRat_un n0 (by omega) nd') (mkRat_bt n0 (by omega) d30)⟩
      · exact Nat.lt_of_lt_of_le (show n.natAbs < 2 ^ 30 by omega) (Nat.pow_le_pow_right (by decide) (by decide))
      · exact Nat.lt_of_lt_of_le (show d.natAbs < 2 ^ 30 by omega) (Nat.pow_le_pow_right (by decide) (by decide))
    have cases_ : c = 0 ∨ c = 1 ∨ c = 2 ∨ c = 3 := by omega
    rcases cases_ with e | e | e | e <;> subst e
    · exact fin 1 (by omega) (by omega) rfl
    · exact fin (d - 1) (by omega) (by omega) rfl
    · exact fin j (by omega) (by omega) rfl
    · exact fin 1 (by omega) (by omega) rfl
end
end K48
set_option maxRecDepth 100000
set_option maxHeartbeats 4000000
namespace K48
open PySem PySem.Spec PyProof.Rows L2
/-! ### texts -/
theorem app_cps (a b : Str) : (a ++ b).cps = a.cps ++ b.cps := rfl
theorem strOk_iff (x : Str) : strOk x = true ↔ ∀ c ∈ x.cps.toList, c < 0x110000 := by
  show (x.cps.all (· < 0x110000)) = true ↔ _
  rw [← Array.all_toList, List.all_eq_true]
  simp
theorem strOk_app {a b : Str} (ha : strOk a = true) (hb : strOk b = true) : strOk (a ++ b) = true := by
  rw [strOk_iff] at *
  intro c hc
  rw [app_cps, Array.toList_append] at hc
  exact (List.mem_append.mp hc).elim (ha c) (hb c)
theorem len_app (a b : Str) : (a ++ b).length = a.length + b.length := by
  show (a ++ b).cps.size = a.cps.size + b.cps.size
  rw [app_cps, Array.size_append]
theorem strOk_join {ws : List Str} (sep : Str) (hs : strOk sep = true) (h : ∀ x ∈ ws, strOk x = true) : strOk (Txt.join sep ws) = true := by
  rw [TL.join_eq]
  induction ws with
  | nil =>
    show strOk Str.empty = true
    decide +kernel
  | cons x ws ih =>
    cases ws with
    | nil => exact h x (List.mem_cons_self ..)
    | cons y ws =>
      show strOk (x ++ sep ++ Str.join sep (y :: ws)) = true
      exact strOk_app (strOk_app (h x (List.mem_cons_self ..)) hs) (ih fun z hz => h z (List.mem_cons_of_mem _ hz))
theorem len_join (ws : List Str) : (Txt.join (Str.ofString "") ws).length = (ws.map (·.length)).sum := by
  have h := size_glued (Str.ofString "") ws
  have e : (Str.ofString "").length = 0 := by decide +kernel
  rw [e, Nat.mul_zero, Nat.add_zero] at h
  exact h
def abc : Str := Str.ofString "abcdefghijklmnopqrstuvwxyz"
theorem abc_len : abc.cps.toList.length = 26 := by decide +kernel
theorem abc_ok : strOk abc = true := by decide +kernel
theorem abc_le : abc.length ≤ sizeLine := Nat.le_trans (show abc.length ≤ 26 by rw [← abc_len]; exact Nat.le_of_eq (by simp [Str.length])) (by decide)
theorem letter {i : Int} (h0 : 0 ≤ i) (h1 : i < 26) : ∃ c, atI abc.cps.toList i = some c ∧ strOk ⟨#[c]⟩ = true := by
  have hi : i.toNat < abc.cps.toList.length := by rw [abc_len]; omega
  have e : ((i.toNat : Nat) : Int) = i := by omega
  have g := atI_nat (List.getElem?_eq_getElem hi)
  rw [e] at g
  refine ⟨_, g, (strOk_iff _).mpr fun c hc => ?_⟩
  have hc2 : c = abc.cps.toList[i.toNat] := by simpa using hc
  rw [hc2]
  exact (strOk_iff _).mp abc_ok _ (List.getElem_mem hi)
/-- longer than each is none of them -/
theorem longer {ws : List Str} {x : Str} (h : ∀ y ∈ ws, y.length < x.length) : x ∉ ws := fun m => absurd (h x m) (Nat.lt_irrefl _)
theorem sum_ge : ∀ {ws : List Str} {y : Str}, y ∈ ws → y.length ≤ (ws.map (·.length)).sum
  | x :: ws, y, h => by
    rw [List.map_cons, List.sum_cons]
    rcases List.mem_cons.mp h with e | e
    · rw [e]; omega
    · have := sum_ge e; omega
/-! ### comprehensions that draw -/
section
variable {K : PySem.W.Frag} {g : TG} {tt : TT} {te tl : TE} {ta : TA} {ids : List Nat} {σ : L2.St} {H : Hp} {Q : VK} {a dr : Addr}
abbrev TurnB (g : TG) (tt : TT) (te : TE) (ids : List Nat) (σ : L2.St) (x : V) (H' : Hp) (dr : Addr) (p : T → Prop) : Prop :=
  ∀ (Y : VK) (Z : Hp → Prop), (∀ y H4 d, p d → But dr H' H4 → Dw dr H4 → Is H4 y d → Y y H4) →
    g x (wipe σ ids) H' fun σ2 H2 => wipe σ2 ids = wipe σ ids ∧ tt σ2 H2 fun b H3 => if b = true then te σ2 H3 Y else Z H3
structure LcB (dr : Addr) (H : Hp) (p : T → Prop) (n : Nat) (D : Addr) (H' : Hp) : Prop where
  but : But dr H H'
  dw : Dw dr H'
  made : ∃ vs ds, H' D = some (.lst vs) ∧ IsL H' vs ds ∧ ds.length = n ∧ ∀ d ∈ ds, p d
theorem Dw.out {dr D : Addr} {H : Hp} (h : Dw dr H) (e : H D = none) : D ≠ dr := fun z => by
  obtain ⟨ns, e2⟩ := h
  rw [← z, e] at e2
  cases e2
theorem LcB.nil {p : T → Prop} {D : Addr} (dw : Dw dr H) (hD : H D = none) : LcB dr H p 0 D (upd H D (.lst [])) := ⟨But.new hD, dw.new hD, [], [], upd_same, isL_nil, rfl, fun _ h => (by cases h)⟩
theorem LcB.step {p : T → Prop} {D : Addr} {i : Nat} {H' : Hp} {x : V} {N : Hp → Prop} (h : LcB dr H p i D H') (few : i ≤ 1000) (dw0 : Dw dr H) (hD : H D = none) (t : TurnB g tt te ids σ x H' dr p) (k : ∀ H2, LcB dr H p (i + 1) D H2 → N H2) :
    g x (wipe σ ids) H' (LcT tt te ids σ D N) := by
  obtain ⟨bt_, dw, vs, ds, hv, hl, len, all⟩ := h
  have nd : D ≠ dr := dw0.out hD
  refine t _ _ fun y H4 d hd b4 dw4 hy => ⟨vs, b4 _ _ nd hv, by rw [hl.length, len]; exact lt_line few, k _ ⟨(But.trans bt_ b4).mut hD, ?_, vs ++ [y], ds ++ [d], upd_same, ?_, by rw [List.length_append, len]; rfl, fun z hz => ?_⟩⟩
  · obtain ⟨ns, e⟩ := dw4
    exact ⟨ns, by rw [upd_ne nd.symm]; exact e⟩
  · have tk : TK H4 (upd H4 D (.lst (vs ++ [y]))) := TK.putL (b4 _ _ nd hv)
    exact IsL.snoc (IsL.mono tk _ _ (IsL.mono (dw.tk b4) _ _ hl)) (Is.mono tk _ _ hy)
  · rcases List.mem_append.mp hz with z' | z'
    · exact all z z'
    · rw [List.mem_singleton.mp z']; exact hd
theorem c_rngB {n : Nat} (p : T → Prop) (dw : Dw dr H) (few : n ≤ 1000) (done : ∀ D H' vs ds, But dr H H' → Dw dr H' → H D = none → D ≠ dr → H' D = some (.lst vs) → IsL H' vs ds → ds.length = n → (∀ d ∈ ds, p d) → Q (.ref D) H')
    (step : ∀ (i : Nat) (H' : Hp), i < n → But dr H H' → Dw dr H' → TurnB g tt te ids σ (.int (i : Int)) H' dr p) : LcJ g tt te ids σ Q (Itr 0 n) H := by
  refine c_rng (fun D i H' => H D = none → LcB dr H p i D H') (fun D hD _ => LcB.nil dw hD) (fun D H' hD h => ?_) fun D i H' hD e h => ?_
  · obtain ⟨b, dw', vs, ds, h1, h2, h3, h4⟩ := h hD
    exact done D H' vs ds b dw' hD (dw.out hD) h1 h2 h3 h4
  · have I := h hD
    exact I.step (by omega) dw hD (step i H' e I.but I.dw) fun H2 I2 _ => I2
theorem c_tupB {xs : List V} (p : T → Prop) (dw : Dw dr H) (hx : ∀ H', But dr H H' → SqT K H' a xs) (few : xs.length ≤ 1000) (done : ∀ D H' vs ds, But dr H H' → Dw dr H' → H D = none → D ≠ dr → H' D = some (.lst vs) → IsL H' vs ds → ds.length = xs.length → (∀ d ∈ ds, p d) → Q (.ref D) H')
    (step : ∀ (i : Nat) (x : V) (H' : Hp), xs[i]? = some x → But dr H H' → Dw dr H' → TurnB g tt te ids σ x H' dr p) : LcJ g tt te ids σ Q (Itt K a) H := by
  refine c_tup xs (fun D i H' => (H D = none → i ≤ xs.length → LcB dr H p i D H') ∧ SqT K H' a xs) (fun D hD => ⟨fun _ _ => LcB.nil dw hD, hx _ (But.new hD)⟩) (fun D i H' h => h.2) (fun D H' hD h => ?_) fun D i x H' hD e h => ?_
  · obtain ⟨b, dw', vs, ds, h1, h2, h3, h4⟩ := h.1 hD (Nat.le_refl _)
    exact done D H' vs ds b dw' hD (dw.out hD) h1 h2 h3 h4
  · have hi : i < xs.length := (List.getElem?_eq_some_iff.mp e).1
    have I := h.1 hD (by omega)
    exact I.step (by omega) dw hD (step i x H' e I.but I.dw) fun H2 I2 => ⟨fun _ _ => I2, hx _ I2.but⟩
end
theorem lc_rngH {g : TG} {tt : TT} {te : TE} {ta : TA} {ids : List Nat} {σ : L2.St} {H : Hp} {Q : VK} (h : ta σ H fun vs H1 => ∃ j : Int, vs = [.int j] ∧ -(2 ^ 62) ≤ j ∧ j < 2 ^ 62 ∧ LcJ g tt te ids σ Q (Itr 0 j.toNat) H1) : tLc (iRng1 ta) g tt te ids σ H Q := h
/-- one sign, as a datum -/
def OneS (d : T) : Prop := ∃ x, d = .s x ∧ strOk x = true ∧ x.length = 1
/-- a list of texts among T -/
theorem texts_of {H : Hp} : ∀ {ds : List T} {vs : List V}, IsL H vs ds → (∀ d ∈ ds, ∃ x, d = .s x ∧ strOk x = true ∧ x.length = 1) → ∃ ws : List Str, vs = ws.map V.str ∧ ws.length = ds.length ∧ (∀ x ∈ ws, strOk x = true) ∧ (ws.map (·.length)).sum = ws.length
  | [], vs, h, _ => ⟨[], isL_nil_inv h, rfl, fun _ z => (by cases z), rfl⟩
  | d :: ds, vs, h, k => by
    obtain ⟨v, r, e, h1, h2⟩ := isL_inv h
    obtain ⟨x, ex, ok, l1⟩ := k d (List.mem_cons_self ..)
    obtain ⟨ws, e2, len, oks, sm⟩ := texts_of h2 fun d' hd => k d' (List.mem_cons_of_mem _ hd)
    subst ex
    refine ⟨x :: ws, by rw [e, (is_s_inv h1).1, e2]; rfl, by rw [List.length_cons, List.length_cons, len], fun y hy => ?_, ?_⟩
    · rcases List.mem_cons.mp hy with z | z
      · rw [z]; exact ok
      · exact oks y z
    · rw [List.map_cons, List.sum_cons, sm, l1, List.length_cons]
      omega
end K48
set_option maxRecDepth 100000
set_option maxHeartbeats 8000000
namespace K48
open PySem PySem.Spec PyProof.Rows L2 RZ
section
variable {P : Program} {w : World} {K : PySem.W.Frag} {mg : Str → Option Value} {base : Heap}
theorem sep0 : strOk (Str.ofString "") = true := by decide +kernel
theorem zOk : strOk (Str.ofString "z") = true := by decide +kernel
theorem zLen : (Str.ofString "z").length = 1 := by decide +kernel
/-- distinct texts, n of them, each of at most b signs -/
structure Words (ws : List Str) (n b : Nat) : Prop where
  len : ws.length = n
  nodup : ws.Nodup
  ok : ∀ x ∈ ws, strOk x = true
  short : (ws.map (·.length)).sum ≤ b
theorem words_nil : Words [] 0 0 := ⟨rfl, List.nodup_nil, fun _ h => (by cases h), Nat.le_refl _⟩
theorem Words.snoc {ws : List Str} {n b c : Nat} {x : Str} (h : Words ws n b) (hx : x ∉ ws) (ok : strOk x = true) (l : x.length ≤ c) : Words (ws ++ [x]) (n + 1) (b + c) := by
  refine ⟨by rw [List.length_append, h.len]; rfl, ?_, fun y hy => ?_, ?_⟩
  · exact List.nodup_append.mpr ⟨h.nodup, by simp, fun a ha b hb e => hx (by rw [List.mem_singleton.mp hb] at e; rw [← e]; exact ha)⟩
  · rcases List.mem_append.mp hy with z | z
    · exact h.ok y z
    · rw [List.mem_singleton.mp z]; exact ok
  · rw [List.map_append, List.sum_append]
    have := h.short
    simp
    omega
theorem Words.mono {ws : List Str} {n b c : Nat} (h : Words ws n b) (k : b ≤ c) : Words ws n c := ⟨h.len, h.nodup, h.ok, Nat.le_trans h.short k⟩
theorem len_s1 (c : Nat) : (⟨#[c]⟩ : Str).length = 1 := rfl
def N_l_pool : List Str := ["_law_draws_here", "_law_many", "_law_pool_here", "_law_k", "_law_letters", "_law_word", "_law_j"]
def p_l_pool : List Str := ["_law_draws_here", "_law_many"]
theorem sc_l_pool : FnScope N_l_pool p_l_pool (defScope s_l_pool) := ⟨rfl, rfl, rfl, by decide +kernel, rfl, by decide +kernel, by decide +kernel⟩
def sp_l_pool : Sp := fun vs H Q _ => ∃ dr : Addr, vs = [.ref dr, .int 7] ∧ Dw dr H ∧ ∀ (l : Addr) (ws : List Str) H', But dr H H' → Dw dr H' → l ≠ dr → H' l = some (.lst (ws.map V.str)) → Words ws 7 10000 → Q (.ref l) H'
theorem ok_l_pool (G_l_take : Ok P w K mg base 1 "_law_take" p_l_take sp_l_take) (T : Tx K mg) : Ok P w K mg base 2 "_law_pool" p_l_pool sp_l_pool := by
  refine T.ok i_l_pool sc_l_pool (fun _ _ _ _ _ _ us h => by match us, h with | [_, _], _ => rfl) (fun vs H Q E h => by obtain ⟨_, rfl, _⟩ := h; rfl) (fun f cdv A outer s H vs Q E hr h => ?_)
  obtain ⟨dr, rfl, dw, q⟩ := h
  have nd := sc_l_pool.nd
  refine ⟨_, (pss_cons (ps_set (i := 2) nd rfl (Or.inl rfl) (pe_lst pa_nil))
      (pss_cons (ps_for PassesOwn.never rfl (pi_range1 rfl (T.bl "range" (by decide)) (pa_cons (pv 1) pa_nil)) (pg_name (i := 3) nd rfl (Or.inl rfl))
        (pss_cons (ps_setLc (i := 4) (own := [("_law_j", 6)]) (by rfl) nd rfl rfl (sw_true rfl rfl rfl (by decide +kernel)) (pi_range1 rfl (T.bl "range" (by decide)) (pa_cons (pe_op op_add pe_int (pe_ok G_l_take (hr.mono (by first | decide | omega)) rfl (pa_cons (pv 0) (pa_cons pe_int pa_nil)))) pa_nil)) (blkOk_by (N := N_l_pool) (sc := defScope s_l_pool) (by decide +kernel)) (fun _ _ _ _ _ => (pg_name (i := 6) nd rfl (Or.inl rfl))) (fun _ _ _ _ _ => pts_nil) (fun _ _ _ _ _ => (pe_ix ix_str pe_str (pe_ok G_l_take (hr.mono (by first | decide | omega)) rfl (pa_cons (pv 0) (pa_cons pe_int pa_nil))) (fun _ _ => rfl))))
        (pss_cons (ps_set (i := 5) nd rfl (Or.inl rfl) (pe_join pe_str (pv 4)))
        (Evl.pss_cut (ps_if (pt_cmpR op_in_seq (pv 5) (pv 2) (by rfl))
          (pss_one (ps_set (i := 5) nd rfl (Or.inl rfl) (pe_op op_add_str (pe_join pe_str (pv 2)) pe_str)))
          pss_nil)
        (pss_one (ps_expr (pe_bm PySem.F.plainAttrs_list PySem.F.slot_list_append PySem.F.type_list_append mt_append (pv 2) (pa_cons (pv 5) pa_nil))))))))
      (pss_one (ps_ret (pv 2))))), ?_⟩
  refine ⟨Nat.zero_le _, fun l hl => ?_⟩
  have nl := dw.out hl
  refine ⟨.int 7, rfl, 7, rfl, by decide, by decide, ?_⟩
  have two : ∀ i, 1 ≤ 2 ^ i := fun i => Nat.pow_pos (by decide)
  refine j_rng (fun i σ H' => ∃ (k lt wd : Option V) (ws : List Str), σ = [some (.ref dr), some (.int 7), some (.ref l), k, lt, wd, none] ∧ But dr H H' ∧ Dw dr H' ∧ H' l = some (.lst (ws.map V.str)) ∧ Words ws i (4 * 2 ^ i - 4))
    ⟨_, _, _, [], rfl, But.new hl, dw.new hl, upd_same, words_nil.mono (Nat.zero_le _)⟩ (fun σ H' h => ?_) (fun i σ H' hi h => ?_)
  · obtain ⟨k, lt, wd, ws, rfl, b, dw', hl', hw⟩ := h
    exact ⟨.ref l, rfl, q l ws H' b dw' nl hl' (hw.mono (by decide))⟩
  · obtain ⟨k, lt, wd, ws, rfl, b, dw', hl', hw⟩ := h
    have i7 : i < 7 := hi
    have p2 : 2 ^ i ≤ 2 ^ 6 := Nat.pow_le_pow_right (by decide) (by omega)
    have p1 := two i
    have ps : 2 ^ (i + 1) = 2 * 2 ^ i := by rw [Nat.pow_succ, Nat.mul_comm]
    dsimp only [gName]
    refine r_seq (r_asg (lc_rngH ?_))
    refine ⟨.ref dr, rfl, dr, 3, rfl, by decide, dw', fun m H1 b1 dw1 m0 m3 => ⟨_, _, rfl, rfl, 1 + m, rfl, by omega, by omega, ?_⟩⟩
    refine c_rngB (dr := dr) OneS dw1 (by omega) (fun D H2 vs ds b2 dw2 hD nD hv hls len all => ?_) (fun j H2 hj b2 dw2 Y Z hY => ?_)
    rotate_left
    · refine ⟨rfl, .ref dr, rfl, dr, 26, rfl, by decide, dw2, fun c H3 b3 dw3 c0 c1 => ?_⟩
      obtain ⟨ch, hc, okc⟩ := letter c0 c1
      exact ⟨abc, c, ch, rfl, rfl, abc_le, hc, hY _ _ _ ⟨_, rfl, okc, len_s1 ch⟩ b3 dw3 (is_s okc)⟩
    obtain ⟨lets, evs, lenL, okL, sumL⟩ := texts_of hls all
    subst evs
    have llen : lets.length ≤ 3 := by omega
    have b02 := But.trans b (But.trans b1 b2)
    have hl2 := b2 _ _ nl (b1 _ _ nl hl')
    dsimp only [gName]
    refine ⟨⟨_, rfl⟩, .ref D, rfl, Str.ofString "", D, lets, rfl, rfl, .inl (.inl (.inl hv)), ?_, ?_⟩
    · rw [sumL]
      have : (Str.ofString "").length = 0 := by decide +kernel
      rw [this]
      omega
    dsimp only [gName]
    have wOk : strOk (Txt.join (Str.ofString "") lets) = true := strOk_join _ sep0 okL
    have wLen : (Txt.join (Str.ofString "") lets).length ≤ 3 := by rw [len_join, sumL]; exact llen
    generalize Txt.join (Str.ofString "") lets = wd0 at wOk wLen
    refine Evl.q_cut (M := fun σ H4 => ∃ wd : Str, σ = [some (.ref dr), some (.int 7), some (.ref l), some (.int i), some (.ref D), some (.str wd), none] ∧ H4 = H2 ∧ wd ∉ ws ∧ strOk wd = true ∧ wd.length ≤ 4 * 2 ^ i) ?_ (fun σ H4 h => ?_)
    · refine ⟨.str wd0, rfl, .ref l, rfl, l, _, rfl, .inl (.inl (.inl hl2)), rfl, flat_strs _, decide (wd0 ∈ ws), congrArg V.bl (inV_strs wd0 ws), ?_⟩
      by_cases z : wd0 ∈ ws
      · rw [decide_eq_true z]
        refine ⟨⟨_, rfl⟩, .ref l, rfl, Str.ofString "", l, ws, rfl, rfl, .inl (.inl (.inl hl2)), ?_, _, _, rfl, rfl, ?_, ?_⟩
        · have : (Str.ofString "").length = 0 := by decide +kernel
          rw [this]
          have := hw.short
          omega
        · rw [len_join, zLen]
          have := hw.short
          exact le_line (by omega)
        · refine ⟨_, rfl, rfl, longer fun y hy => ?_, strOk_app (strOk_join _ sep0 hw.ok) zOk, ?_⟩
          · rw [len_app, len_join, zLen]
            have := sum_ge hy
            omega
          · rw [len_app, len_join, zLen]
            have := hw.short
            omega
      · rw [decide_eq_false z]
        exact ⟨wd0, rfl, rfl, z, wOk, by omega⟩
    · obtain ⟨wd1, rfl, rfl, nw, okw, lw⟩ := h
      have few : (ws.map V.str).length < sizeLine := by rw [List.length_map, hw.len]; exact lt_line (by omega)
      refine ⟨.ref l, rfl, .inl ⟨rfl, _, .inl (.inl hl2)⟩, .str wd1, rfl, l, _, _, rfl, rfl, hl2, few, ?_⟩
      have hl0 : H l = none := hl
      refine ⟨_, _, _, ws ++ [wd1], rfl, b02.mut hl0, ?_, by rw [upd_same, List.map_append]; rfl, ?_⟩
      · obtain ⟨ns, e⟩ := dw2
        exact ⟨ns, by rw [upd_ne nl.symm]; exact e⟩
      · by_cases s3 : wd1.length ≤ 3
        · exact (hw.snoc nw okw s3).mono (by omega)
        · exact (hw.snoc nw okw (c := 4 * 2 ^ i) lw).mono (by omega)
end
end K48
set_option maxRecDepth 100000
set_option maxHeartbeats 8000000
namespace K48
open PySem PySem.Spec PyProof.Rows L2 RZ
theorem fold_size (xs : Array Nat) : ∀ (k : Nat) (acc : Array Nat), ((List.replicate k xs).foldl (· ++ ·) acc).size = acc.size + k * xs.size
  | 0, acc => by simp
  | k + 1, acc => by
    rw [List.replicate_succ, List.foldl_cons, fold_size xs k, Array.size_append, Nat.succ_mul]
    omega
theorem fold_mem (xs : Array Nat) : ∀ (k : Nat) (acc : Array Nat) (c : Nat), c ∈ ((List.replicate k xs).foldl (· ++ ·) acc).toList → c ∈ acc.toList ∨ c ∈ xs.toList
  | 0, acc, c, h => .inl h
  | k + 1, acc, c, h => by
    rw [List.replicate_succ, List.foldl_cons] at h
    rcases fold_mem xs k _ c h with z | z
    · rw [Array.toList_append] at z
      exact List.mem_append.mp z
    · exact .inr z
theorem mul_z {n : Nat} (h : 1 ≤ n) : (Txt.mul (Str.ofString "z") (n : Int)).length = n ∧ strOk (Txt.mul (Str.ofString "z") (n : Int)) = true := by
  unfold Txt.mul
  rw [if_neg (by omega)]
  by_cases h1 : n = 1
  · subst h1
    rw [if_pos (by decide +kernel)]
    exact ⟨zLen, zOk⟩
  · rw [if_neg]
    · refine ⟨?_, (strOk_iff _).mpr fun c hc => ?_⟩
      · show ((List.replicate ((n : Int)).toNat (Str.ofString "z").cps).foldl (· ++ ·) #[]).size = n
        rw [fold_size, show (Str.ofString "z").cps.size = 1 from zLen]
        simp
      · rcases fold_mem _ _ _ c hc with z | z
        · simp at z
        · exact (strOk_iff _).mp zOk c z
    · rw [zLen]
      simp
      omega
theorem mulOk_z {n : Nat} (h : n ≤ 1000) : MulOk (Str.ofString "z") (n : Int) := PyProof.Rows.mulOk_of 1 1000 (by rw [zLen]; exact Nat.le_refl _) (by omega) (by omega) (by decide) (by decide)
def lenT : T → Option T := fun t => match t with | .s x => some (.i x.length) | _ => none
theorem fm_len2 : ∀ ws : List Str, (ws.map T.s).filterMap lenT = (ws.map fun x => (x.length : Int)).map T.i
  | [] => rfl
  | x :: ws => by
    rw [List.map_cons, List.filterMap_cons]
    exact congrArg (T.i x.length :: ·) (fm_len2 ws)
theorem max_of : ∀ ns : List Int, 0 < ns.length → ∃ m ∈ ns, ∀ y ∈ ns, y ≤ m
  | [x], _ => ⟨x, by simp, fun y hy => by rw [List.mem_singleton.mp hy]; exact Int.le_refl _⟩
  | x :: y :: r, _ => by
    obtain ⟨m, hm, h⟩ := max_of (y :: r) (by simp)
    by_cases z : m ≤ x
    · exact ⟨x, by simp, fun w hw => by
        rcases List.mem_cons.mp hw with e | e
        · rw [e]; exact Int.le_refl _
        · exact Int.le_trans (h w e) z⟩
    · exact ⟨m, List.mem_cons_of_mem _ hm, fun w hw => by
        rcases List.mem_cons.mp hw with e | e
        · rw [e]; omega
        · exact h w e⟩
section
variable {P : Program} {w : World} {K : PySem.W.Frag} {mg : Str → Option Value} {base : Heap}
def N_l_words : List Str := ["_law_draws_here", "_law_many", "_law_words_here", "_law_k", "_law_size", "_law_word", "_law_j", "_law_other"]
def p_l_words : List Str := ["_law_draws_here", "_law_many"]
theorem sc_l_words : FnScope N_l_words p_l_words (defScope s_l_words) := ⟨rfl, rfl, rfl, by decide +kernel, rfl, by decide +kernel, by decide +kernel⟩
def sp_l_words : Sp := fun vs H Q _ => ∃ dr : Addr, vs = [.ref dr, .int 14] ∧ Dw dr H ∧ ∀ (l : Addr) (ws : List Str) H', But dr H H' → Dw dr H' → l ≠ dr → H' l = some (.lst (ws.map V.str)) → Words ws 14 10000 → Q (.ref l) H'
theorem ok_l_words (G_l_take : Ok P w K mg base 1 "_law_take" p_l_take sp_l_take) (G_l_pick : Ok P w K mg base 2 "_law_pick" p_l_pick (sp_l_pick K)) (T : Tx K mg) : Ok P w K mg base 3 "_law_words" p_l_words sp_l_words := by
  refine T.ok i_l_words sc_l_words (fun _ _ _ _ _ _ us h => by match us, h with | [_, _], _ => rfl) (fun vs H Q E h => by obtain ⟨_, rfl, _⟩ := h; rfl) (fun f cdv A outer s H vs Q E hr h => ?_)
  obtain ⟨dr, rfl, dw, q⟩ := h
  have nd := sc_l_words.nd
  refine ⟨_, (pss_cons (ps_set (i := 2) nd rfl (Or.inl rfl) (pe_lst pa_nil))
      (pss_cons (ps_for PassesOwn.never rfl (pi_range1 rfl (T.bl "range" (by decide)) (pa_cons (pv 1) pa_nil)) (pg_name (i := 3) nd rfl (Or.inl rfl))
        (pss_cons (ps_set (i := 4) nd rfl (Or.inl rfl) (pe_op op_add pe_int (pe_ok G_l_take (hr.mono (by first | decide | omega)) rfl (pa_cons (pv 0) (pa_cons pe_int pa_nil)))))
        (Evl.pss_cut (ps_if (pt_cmpR op_eq (pe_ok G_l_take (hr.mono (by first | decide | omega)) rfl (pa_cons (pv 0) (pa_cons pe_int pa_nil))) pe_int (nomark _))
          (pss_one (ps_set (i := 4) nd rfl (Or.inl rfl) (pe_op op_add (pe_op op_add (pv 4) pe_int) (pe_ok G_l_take (hr.mono (by first | decide | omega)) rfl (pa_cons (pv 0) (pa_cons pe_int pa_nil))))))
          pss_nil)
        (pss_cons (ps_set (i := 5) nd rfl (Or.inl rfl) (pe_join pe_str (pe_lc (own := [("_law_j", 6)]) (by rfl) nd (pi_range1 rfl (T.bl "range" (by decide)) (pa_cons (pv 4) pa_nil)) (blkOk_by (N := N_l_words) (sc := defScope s_l_words) (by decide +kernel)) (fun _ _ _ _ _ => (pg_name (i := 6) nd rfl (Or.inl rfl))) (fun _ _ _ _ _ => pts_nil) (fun _ _ _ _ _ => (pe_ix ix_str pe_str (pe_ok G_l_take (hr.mono (by first | decide | omega)) rfl (pa_cons (pv 0) (pa_cons pe_int pa_nil))) (fun _ _ => rfl))))))
        (Evl.pss_cut (ps_if (PW.pt (pw_and (pt_cmpR op_gt (pe_callB call_len (by rfl) (T.bl "len" (by decide)) (by decide +kernel) (pa_cons (pv 2) pa_nil)) pe_int (nomark _)) (pw_and1 (pt_cmpR op_eq (pe_ok G_l_take (hr.mono (by first | decide | omega)) rfl (pa_cons (pv 0) (pa_cons pe_int pa_nil))) pe_int (nomark _)))))
          (pss_one (ps_set (i := 5) nd rfl (Or.inl rfl) (pe_op op_add_str (pe_ok G_l_pick (hr.mono (by first | decide | omega)) rfl (pa_cons (pv 0) (pa_cons (pv 2) pa_nil))) (pe_ix ix_str pe_str (pe_ok G_l_take (hr.mono (by first | decide | omega)) rfl (pa_cons (pv 0) (pa_cons pe_int pa_nil))) (fun _ _ => rfl)))))
          pss_nil)
        (Evl.pss_cut (ps_if (pt_cmpR op_in_seq (pv 5) (pv 2) (by rfl))
          (pss_one (ps_set (i := 5) nd rfl (Or.inl rfl) (pe_op op_rep_str pe_str (pe_op op_add pe_int (pe_callB (cr_max rfl) (by rfl) (T.bl "max" (by decide)) (by decide +kernel) (pa_cons (pe_lc (own := [("_law_other", 7)]) (by rfl) nd (pi_list (pv 2)) (blkOk_by (N := N_l_words) (sc := defScope s_l_words) (by decide +kernel)) (fun _ _ _ _ _ => (pg_name (i := 7) nd rfl (Or.inl rfl))) (fun _ _ _ _ _ => pts_nil) (fun _ _ _ _ _ => (pe_callB (call_lenK K) (by rfl) (T.bl "len" (by decide)) (by decide +kernel) (pa_cons (pv 7) pa_nil)))) pa_nil))))))
          pss_nil)
        (pss_one (ps_expr (pe_bm PySem.F.plainAttrs_list PySem.F.slot_list_append PySem.F.type_list_append mt_append (pv 2) (pa_cons (pv 5) pa_nil))))))))))
      (pss_one (ps_ret (pv 2))))), ?_⟩
  refine ⟨Nat.zero_le _, fun l hl => ?_⟩
  have nl := dw.out hl
  refine ⟨.int 14, rfl, 14, rfl, by decide, by decide, ?_⟩
  refine j_rng (fun i σ H' => ∃ (k sz wd : Option V) (ws : List Str), σ = [some (.ref dr), some (.int 14), some (.ref l), k, sz, wd, none, none] ∧ But dr H H' ∧ Dw dr H' ∧ H' l = some (.lst (ws.map V.str)) ∧ Words ws i (50 * i) ∧ ∀ x ∈ ws, x.length ≤ 25 + i)
    ⟨_, _, _, [], rfl, But.new hl, dw.new hl, upd_same, words_nil, fun _ h => by cases h⟩ (fun σ H' h => ?_) (fun i σ H' hi h => ?_)
  · obtain ⟨k, lt, wd, ws, rfl, b, dw', hl', hw, _⟩ := h
    exact ⟨.ref l, rfl, q l ws H' b dw' nl hl' (hw.mono (by decide))⟩
  · obtain ⟨k, sz, wd, ws, rfl, b, dw', hl', hw, hlen⟩ := h
    have i14 : i < 14 := hi
    dsimp only [gName]
    refine ⟨.ref dr, rfl, dr, 3, rfl, by decide, dw', fun m H1 b1 dw1 m0 m3 => ⟨_, _, rfl, rfl, ?_⟩⟩
    have hl1 := b1 _ _ nl hl'
    have b01 := But.trans b b1
    dsimp only [gName]
    refine Evl.q_cut (M := fun σ H4 => ∃ n : Int, σ = [some (.ref dr), some (.int 14), some (.ref l), some (.int i), some (.int n), wd, none, none] ∧ But dr H H4 ∧ Dw dr H4 ∧ H4 l = some (.lst (ws.map V.str)) ∧ 1 ≤ n ∧ n ≤ 25) ?_ (fun σ H4 h => ?_)
    · refine ⟨.ref dr, rfl, dr, 9, rfl, by decide, dw1, fun c H2 b2 dw2 c0 c9 => ⟨rfl, decide (c = 0), ?_, ?_⟩⟩
      · by_cases z : c = 0
        · rw [z]; rfl
        · rw [decide_eq_false z]
          exact congrArg V.bl (decide_eq_false fun y => z (by injection y))
      · by_cases z : c = 0
        · rw [decide_eq_true z]
          refine ⟨.int (1 + m), rfl, _, _, rfl, rfl, .ref dr, rfl, dr, 20, rfl, by decide, dw2, fun e H3 b3 dw3 e0 e20 => ⟨_, _, rfl, rfl, ?_⟩⟩
          exact ⟨1 + m + 3 + e, rfl, But.trans b01 (But.trans b2 b3), dw3, b3 _ _ nl (b2 _ _ nl hl1), by omega, by omega⟩
        · rw [decide_eq_false z]
          exact ⟨1 + m, rfl, But.trans b01 b2, dw2, b2 _ _ nl hl1, by omega, by omega⟩
    obtain ⟨n, rfl, b4, dw4, hl4, n1, n25⟩ := h
    refine r_seq (r_asg ?_)
    refine ⟨⟨_, rfl⟩, ?_⟩
    refine lc_rngH ?_
    refine ⟨.int n, rfl, n, rfl, by omega, by omega, ?_⟩
    refine c_rngB (dr := dr) OneS dw4 (by omega) (fun D H2 vs ds b2 dw2 hD nD hv hls len all => ?_) (fun j H2 hj b2 dw2 Y Z hY => ?_)
    rotate_left
    · refine ⟨rfl, .ref dr, rfl, dr, 26, rfl, by decide, dw2, fun c H3 b3 dw3 c0 c1 => ?_⟩
      obtain ⟨ch, hc, okc⟩ := letter c0 c1
      exact ⟨abc, c, ch, rfl, rfl, abc_le, hc, hY _ _ _ ⟨_, rfl, okc, len_s1 ch⟩ b3 dw3 (is_s okc)⟩
    obtain ⟨lets, evs, lenL, okL, sumL⟩ := texts_of hls all
    subst evs
    have llen : lets.length ≤ 25 := by omega
    have b02 := But.trans b4 b2
    have hl2 := b2 _ _ nl hl4
    refine ⟨Str.ofString "", D, lets, rfl, rfl, .inl (.inl (.inl hv)), ?_, ?_⟩
    · rw [sumL]
      have : (Str.ofString "").length = 0 := by decide +kernel
      rw [this]
      omega
    dsimp only [gName]
    have wOk : strOk (Txt.join (Str.ofString "") lets) = true := strOk_join _ sep0 okL
    have wLen : (Txt.join (Str.ofString "") lets).length ≤ 25 := by rw [len_join, sumL]; exact llen
    generalize Txt.join (Str.ofString "") lets = wd0 at wOk wLen
    refine Evl.q_cut (M := fun σ H4 => ∃ wd : Str, σ = [some (.ref dr), some (.int 14), some (.ref l), some (.int i), some (.int n), some (.str wd), none, none] ∧ But dr H H4 ∧ Dw dr H4 ∧ H4 l = some (.lst (ws.map V.str)) ∧ strOk wd = true ∧ wd.length ≤ 26 + i) ?_ (fun σ H4 h => ?_)
    · refine ⟨.ref l, rfl, _, _, rfl, .inl ⟨_, .inl (.inl hl2), rfl⟩, _, _, rfl, rfl, decide ((0 : Int) < (ws.map V.str).length), rfl, ?_⟩
      by_cases z0 : (0 : Int) < (ws.map V.str).length
      · rw [decide_eq_true z0]
        refine ⟨.ref dr, rfl, dr, 6, rfl, by decide, dw2, fun c H3 b3 dw3 c0 c6 => ⟨rfl, decide (c = 0), ?_, ?_⟩⟩
        · by_cases z : c = 0
          · rw [z]; rfl
          · rw [decide_eq_false z]
            exact congrArg V.bl (decide_eq_false fun y => z (by injection y))
        · have hl3 := b3 _ _ nl hl2
          by_cases z : c = 0
          · rw [decide_eq_true z]
            refine ⟨.ref dr, rfl, .ref l, rfl, dr, l, ws.map V.str, rfl, fun H' b' => .inl (.inl (.inl (b' _ _ nl hl3))), fun e => by rw [e] at z0; simp at z0, dw3, fun ix x H5 hx b5 dw5 => ?_⟩
            obtain ⟨x', hx', ex'⟩ := map_get hx
            subst ex'
            have mx := List.mem_of_getElem? hx'
            refine ⟨.ref dr, rfl, dr, 26, rfl, by decide, dw5, fun g H6 b6 dw6 g0 g26 => ?_⟩
            obtain ⟨ch, hc, okc⟩ := letter g0 g26
            refine ⟨abc, g, ch, rfl, rfl, abc_le, hc, _, _, rfl, rfl, ?_, ?_⟩
            · rw [len_s1]
              have := hlen x' mx
              exact le_line (by omega)
            · refine ⟨_, rfl, But.trans b02 (But.trans b3 (But.trans b5 b6)), dw6, b6 _ _ nl (b5 _ _ nl hl3), strOk_app (hw.ok x' mx) okc, ?_⟩
              rw [len_app, len_s1]
              have := hlen x' mx
              omega
          · rw [decide_eq_false z]
            exact ⟨wd0, rfl, But.trans b02 b3, dw3, hl3, wOk, by omega⟩
      · rw [decide_eq_false z0]
        exact ⟨wd0, rfl, b02, dw2, hl2, wOk, by omega⟩
    obtain ⟨wd1, rfl, b5, dw5, hl5, okw1, lw1⟩ := h
    refine Evl.q_cut (M := fun σ H6 => ∃ wd : Str, σ = [some (.ref dr), some (.int 14), some (.ref l), some (.int i), some (.int n), some (.str wd), none, none] ∧ But dr H H6 ∧ Dw dr H6 ∧ H6 l = some (.lst (ws.map V.str)) ∧ wd ∉ ws ∧ strOk wd = true ∧ wd.length ≤ 26 + i) ?_ (fun σ H6 h => ?_)
    · refine ⟨.str wd1, rfl, .ref l, rfl, l, _, rfl, .inl (.inl (.inl hl5)), rfl, flat_strs _, decide (wd1 ∈ ws), congrArg V.bl (inV_strs wd1 ws), ?_⟩
      by_cases z : wd1 ∈ ws
      · rw [decide_eq_true z]
        refine r_asg (r_op (r_c (r_op (r_c (r_cb (r_cons ?_))))))
        refine lc_listF lenT H4 (fun R r => ⟨_, rfl, r⟩) hl5 (isL_strs hw.ok) (by rw [List.length_map, hw.len]; omega) (fun D2 H7 vs sm7 hD2 hvs hls => ?_) (fun i2 x t H7 et sm7 ht Y Z hY hZ => ?_)
        · rw [fm_len2] at hls
          have ev := intsInv hls
          subst ev
          have wp : 0 < ws.length := List.length_pos_iff.mpr fun e => by rw [e] at z; cases z
          obtain ⟨m', hm', hmax⟩ := max_of (ws.map fun x => (x.length : Int)) (by rw [List.length_map]; exact wp)
          refine ⟨D2, _, rfl, .inl (.inl hvs), by rw [List.length_map]; exact wp, fun m2 hm2 hmx2 => ?_⟩
          obtain ⟨x2, hx2, ex2⟩ := List.mem_map.mp hm2
          have e2 : (1 : Int) + m2 = ((1 + x2.length : Nat) : Int) := by rw [← ex2]; omega
          refine ⟨_, _, rfl, rfl, _, _, rfl, rfl, ?_, ?_⟩
          · rw [e2]
            have := hlen x2 hx2
            exact mulOk_z (by omega)
          · rw [e2]
            obtain ⟨q1, q2⟩ := mul_z (n := 1 + x2.length) (by omega)
            refine ⟨_, rfl, But.trans b5 (But.of sm7), dw5.same sm7, sm7 _ _ hl5, longer fun y hy => ?_, q2, ?_⟩
            · rw [q1]
              have := hmx2 y.length (List.mem_map.mpr ⟨y, hy, rfl⟩)
              omega
            · rw [q1]
              have := hlen x2 hx2
              omega
        · obtain ⟨y, ey, e2⟩ := map_get et
          subst e2
          obtain ⟨rfl, oky⟩ := is_s_inv ht
          have my := List.mem_of_getElem? ey
          have ly := hlen y my
          exact ⟨rfl, .str y, rfl, .str y, y.length, rfl, ⟨le_line (by omega), rfl⟩, hY _ _ _ rfl (same_refl _) is_i⟩
      · rw [decide_eq_false z]
        exact ⟨wd1, rfl, b5, dw5, hl5, z, okw1, lw1⟩
    obtain ⟨wd2, rfl, b6, dw6, hl6, nw, okw, lw⟩ := h
    have few : (ws.map V.str).length < sizeLine := by rw [List.length_map, hw.len]; exact lt_line (by omega)
    refine ⟨.ref l, rfl, .inl ⟨rfl, _, .inl (.inl hl6)⟩, .str wd2, rfl, l, _, _, rfl, rfl, hl6, few, ?_⟩
    refine ⟨_, _, _, ws ++ [wd2], rfl, b6.mut hl, ?_, by rw [upd_same, List.map_append]; rfl, (hw.snoc nw okw lw).mono (by omega), fun y hy => ?_⟩
    · obtain ⟨ns, e⟩ := dw6
      exact ⟨ns, by rw [upd_ne nl.symm]; exact e⟩
    · rcases List.mem_append.mp hy with z | z
      · have := hlen y z
        omega
      · rw [List.mem_singleton.mp z]
        omega
end
end K48
set_option maxRecDepth 100000
set_option maxHeartbeats 8000000
namespace K48
open PySem PySem.Spec PyProof.Rows L2 RZ
def tabT (t : Str × Nat) : T := .t [.s t.1, .i t.2]
structure TabsOk (tabs : List (Str × Nat)) : Prop where
  nd : (tabs.map (·.1)).Nodup
  ok : ∀ t ∈ tabs, strOk t.1 = true ∧ t.2 ≤ 3
  pos : 1 ≤ tabs.length
  few : tabs.length ≤ 6
structure VarsOk (vars : List Str) : Prop where
  nd : vars.Nodup
  ok : ∀ x ∈ vars, strOk x = true
  pos : 1 ≤ vars.length
  few : vars.length ≤ 5
/-- a world: tables, variables, values -/
def WorldI (H : Hp) (dr wa : Addr) (tabs : List (Str × Nat)) (vars : List Str) (a b c : Key) : Prop := ∃ sc vl kl, H wa = some (.lst [.ref sc, .ref vl, .ref kl]) ∧ wa ≠ dr ∧ vl ≠ dr ∧ kl ≠ dr ∧ Is H (.ref sc) (.t (tabs.map tabT)) ∧ H vl = some (.lst (vars.map V.str)) ∧ KL H kl [a, b, c]
theorem WorldI.mono {H H' : Hp} {dr wa : Addr} {tabs : List (Str × Nat)} {vars : List Str} {a b c : Key} (h : WorldI H dr wa tabs vars a b c) (bt_ : But dr H H') (dw : Dw dr H) : WorldI H' dr wa tabs vars a b c := by
  obtain ⟨sc, vl, kl, h1, n1, n2, n3, h2, h3, h4, h5⟩ := h
  exact ⟨sc, vl, kl, bt_ _ _ n1 h1, n1, n2, n3, Is.mono (dw.tk bt_) _ _ h2, bt_ _ _ n2 h3, bt_ _ _ n3 h4, h5⟩
def cutW (ws : List Str) (lo hi : Option Int) : List Str := (ws.drop (HT.sIx ws.length 0 lo)).take (HT.sIx ws.length ws.length hi - HT.sIx ws.length 0 lo)
theorem cutV_map (ws : List Str) (lo hi : Option Int) : cutV (ws.map V.str) lo hi = (cutW ws lo hi).map V.str := by
  unfold cutV cutW
  rw [List.length_map, List.map_take, List.map_drop]
theorem cutW_sub (ws : List Str) (lo hi : Option Int) : (cutW ws lo hi).Sublist ws := (List.take_sublist _ _).trans (List.drop_sublist _ _)
theorem cutW_head {ws : List Str} {n : Nat} (h : n ≤ ws.length) : (cutW ws none (some (n : Int))).length = n := by
  unfold cutW
  rw [HT.sIx_none, HT.sIx_nat, List.drop_zero, List.length_take]
  omega
theorem cutW_tail {ws : List Str} {n : Nat} (h : n ≤ ws.length) : (cutW ws (some (n : Int)) none).length = ws.length - n := by
  unfold cutW
  rw [HT.sIx_none, HT.sIx_nat, List.length_take, List.length_drop]
  omega
theorem cutW_mid {ws : List Str} {n m : Nat} (h : n ≤ m) (k : m ≤ ws.length) : (cutW ws (some (n : Int)) (some (m : Int))).length = m - n := by
  unfold cutW
  rw [HT.sIx_nat, HT.sIx_nat, List.length_take, List.length_drop]
  omega
theorem atI_lt {α : Type} {xs : List α} {i : Int} (h0 : 0 ≤ i) (h1 : i < xs.length) : ∃ x ∈ xs, atI xs i = some x := by
  have hi : i.toNat < xs.length := by omega
  have e : ((i.toNat : Nat) : Int) = i := by omega
  have g := atI_nat (List.getElem?_eq_getElem hi)
  rw [e] at g
  exact ⟨_, List.getElem_mem hi, g⟩
theorem Dw.upd_ne {dr p : Addr} {H : Hp} {o : HO} (h : Dw dr H) (n : p ≠ dr) : Dw dr (upd H p o) := by
  obtain ⟨ns, e⟩ := h
  exact ⟨ns, by rw [L2.upd_ne n.symm]; exact e⟩
section
variable {P : Program} {w : World} {K : PySem.W.Frag} {mg : Str → Option Value} {base : Heap}
def N_l_world : List Str := ["_law_draws_here", "_law_pool_here", "_law_schema", "_law_name"]
def p_l_world : List Str := ["_law_draws_here"]
theorem sc_l_world : FnScope N_l_world p_l_world (defScope s_l_world) := ⟨rfl, rfl, rfl, by decide +kernel, rfl, by decide +kernel, by decide +kernel⟩
def sp_l_world : Sp := fun vs H Q _ => ∃ dr : Addr, vs = [.ref dr] ∧ Dw dr H ∧ ∀ (wa : Addr) tabs vars a b c H', But dr H H' → Dw dr H' → WorldI H' dr wa tabs vars a b c → TabsOk tabs → VarsOk vars → Q (.ref wa) H'
theorem ints_all {ns : List Int} {i : Int} {m : Int} (h0 : 0 ≤ i) (h1 : i < ns.length) (hm : ∀ n ∈ ns, 0 ≤ n ∧ n ≤ m) : ∃ n : Nat, atI (ns.map V.int) i = some (.int n) ∧ (n : Int) ≤ m ∧ (n : Int) ∈ ns := by
  obtain ⟨x, hx, g⟩ := atI_lt (xs := ns.map V.int) h0 (by rw [List.length_map]; exact h1)
  obtain ⟨n, hn, e⟩ := List.mem_map.mp hx
  obtain ⟨n0, nm⟩ := hm n hn
  have en : ((n.toNat : Nat) : Int) = n := by omega
  exact ⟨n.toNat, by rw [g, ← e, en], by omega, by rw [en]; exact hn⟩
theorem ok_l_world (G_l_take : Ok P w K mg base 1 "_law_take" p_l_take sp_l_take) (G_l_pool : Ok P w K mg base 2 "_law_pool" p_l_pool sp_l_pool) (G_l_values : Ok P w K mg base 2 "_law_values" p_l_values sp_l_values) (T : Tx K mg) : Ok P w K mg base 3 "_law_world" p_l_world sp_l_world := by
  refine T.ok i_l_world sc_l_world (fun _ _ _ _ _ _ us h => by match us, h with | [_], _ => rfl) (fun vs H Q E h => by obtain ⟨_, rfl, _⟩ := h; rfl) (fun f cdv A outer s H vs Q E hr h => ?_)
  obtain ⟨dr, rfl, dw, q⟩ := h
  have nd := sc_l_world.nd
  refine ⟨_, (pss_cons (ps_set (i := 1) nd rfl (Or.inl rfl) (pe_ok G_l_pool (hr.mono (by first | decide | omega)) rfl (pa_cons (pv 0) (pa_cons pe_int pa_nil))))
      (pss_cons (ps_set (i := 2) nd rfl (Or.inl rfl) (pe_lst pa_nil))
      (pss_cons (ps_for PassesOwn.never rfl (pi_list (pe_callB cr_sortedS (by rfl) (T.bl "sorted" (by decide)) (by decide +kernel) (pa_cons (pe_slice sl_list (pv 1) po_none (po_some (pe_ix ix_list (pe_lst (pa_cons pe_int (pa_cons pe_int (pa_cons pe_int (pa_cons pe_int pa_nil))))) (pe_ok G_l_take (hr.mono (by first | decide | omega)) rfl (pa_cons (pv 0) (pa_cons pe_int pa_nil))) (fun _ _ => rfl)))) pa_nil))) (pg_name (i := 3) nd rfl (Or.inl rfl))
        (pss_one (ps_expr (pe_bm PySem.F.plainAttrs_list PySem.F.slot_list_append PySem.F.type_list_append mt_append (pv 2) (pa_cons (pe_tup (pa_cons (pv 3) (pa_cons (pe_ix ix_list (pe_lst (pa_cons pe_int (pa_cons pe_int (pa_cons pe_int (pa_cons pe_int (pa_cons pe_int (pa_cons pe_int (pa_cons pe_int (pa_cons pe_int pa_nil))))))))) (pe_ok G_l_take (hr.mono (by first | decide | omega)) rfl (pa_cons (pv 0) (pa_cons pe_int pa_nil))) (fun _ _ => rfl)) pa_nil))) pa_nil)))))
      (pss_one (ps_ret (pe_lst (pa_cons (pe_callTy call_tuple_of (by rfl) (T.bl "tuple" (by decide)) (by decide +kernel) (pa_cons (pv 2) pa_nil)) (pa_cons (pe_callB cr_sortedS (by rfl) (T.bl "sorted" (by decide)) (by decide +kernel) (pa_cons (pe_slice sl_list (pv 1) (po_some pe_int) po_none) pa_nil)) (pa_cons (pe_ok G_l_values (hr.mono (by first | decide | omega)) rfl (pa_cons (pv 0) (pa_cons (pv 1) pa_nil))) pa_nil))))))))), ?_⟩
  refine ⟨.ref dr, rfl, dr, rfl, dw, fun pl ws H1 b1 dw1 npl hpl hw => ?_⟩
  dsimp only [gName]
  refine ⟨Nat.zero_le _, fun sl hsl => ?_⟩
  have nsl := dw1.out hsl
  have dw2 := dw1.new (o := .lst []) hsl
  have s2 := Same.new (o := .lst []) hsl
  have hslat : (upd H1 sl (.lst [])) sl = some (.lst []) := upd_same
  have hsl0 : H sl = none := b1.free nsl hsl
  generalize (upd H1 sl (.lst [])) = H2 at dw2 s2 hslat ⊢
  have b2 := But.trans b1 (But.of s2)
  dsimp only [gName]
  refine ⟨.ref pl, rfl, le_line (by decide), fun c4 hc4 => ?_⟩
  have s3 := Same.new (o := .lst [.int 3, .int 2, .int 3, .int 4]) hc4
  have n4 := dw2.out hc4
  refine ⟨.ref dr, rfl, dr, 4, rfl, by decide, dw2.same s3, fun i H4 b4 dw4 i0 i4 => ?_⟩
  obtain ⟨n, gn, nm, nmem⟩ := ints_all (ns := [3, 2, 3, 4]) (m := 4) i0 (by simpa using i4) (by simp)
  have n2 : 2 ≤ n := by simp at nmem; omega
  refine ⟨c4, _, i, _, rfl, rfl, .inl (.inl (b4 _ _ n4 upd_same)), gn, n, rfl, pl, ws.map V.str, rfl, .inl (.inl (b4 _ _ npl (s3 _ _ (s2 _ _ hpl)))), fun p5 hp5 => ?_⟩
  have s5 := Same.new (o := .lst (cutV (ws.map V.str) none (some (n : Int)))) hp5
  have b25 := But.trans (But.of s3) (But.trans b4 (But.of s5))
  have dw5 := dw4.same s5
  refine ⟨p5, cutW ws none (some (n : Int)), rfl, .inl (.inl (by rw [← cutV_map]; exact upd_same)), ?_, fun ys p6 pm _ hp6 => ?_⟩
  · exact Nat.lt_of_le_of_lt (cutW_sub ws _ _).length_le (by rw [hw.len]; decide)
  have s6 := Same.new (o := .lst (ys.map V.str)) hp6
  have b26 := But.trans b25 (But.of s6)
  have dw6 := dw5.same s6
  have np6 := dw5.out hp6
  have ylen : ys.length = n := by rw [pm.length_eq, cutW_head (by rw [hw.len]; omega)]
  have ynd : ys.Nodup := pm.nodup_iff.mpr ((cutW_sub ws _ _).nodup hw.nodup)
  have yok : ∀ y ∈ ys, strOk y = true := fun y hy => hw.ok y ((cutW_sub ws _ _).subset (pm.mem_iff.mp hy))
  have hsl6 := b26 _ _ nsl hslat
  have hp6at : (upd (upd H4 p5 (.lst (cutV (ws.map V.str) none (some (n : Int))))) p6 (.lst (ys.map V.str))) p6 = some (.lst (ys.map V.str)) := upd_same
  have hpl6 := b26 _ _ npl (s2 _ _ hpl)
  have nsp : sl ≠ p6 := ne_of_none (But.trans (But.of s3) (But.trans b4 (But.of s5)) _ _ nsl hslat) hp6
  have nps : pl ≠ sl := ne_of_none hpl hsl
  generalize (upd (upd H4 p5 (.lst (cutV (ws.map V.str) none (some (n : Int))))) p6 (.lst (ys.map V.str))) = H6 at s6 b26 dw6 hsl6 hp6at hpl6 ⊢
  have b06 := But.trans b2 b26
  refine ⟨p6, rfl, ⟨_, .inl (.inl hp6at)⟩, ?_⟩
  refine j_list (ys.map V.str) (fun i σ H' => ∃ (nm : Option V) (tabs : List (Str × Nat)) (xs : List V), σ = [some (.ref dr), some (.ref pl), some (.ref sl), nm] ∧ But dr H H' ∧ Dw dr H' ∧ H' p6 = some (.lst (ys.map V.str)) ∧ H' pl = some (.lst (ws.map V.str)) ∧
      H' sl = some (.lst xs) ∧ IsL H' xs (tabs.map tabT) ∧ tabs.map (·.1) = ys.take i ∧ ∀ t ∈ tabs, t.2 ≤ 3)
    ⟨_, [], [], rfl, b06, dw6, hp6at, hpl6, hsl6, isL_nil, rfl, fun _ h => by cases h⟩ (fun i σ H' h => by obtain ⟨_, _, _, _, _, _, h1, _⟩ := h; exact .inl (.inl h1)) (fun σ H' h => ?_) (fun i x σ H' ex h => ?_)
  · obtain ⟨nm2, tabs, xs, rfl, b, dw', _, hpl', hsl', hxs, htab, har⟩ := h
    rw [List.length_map, List.take_length] at htab
    have tl : tabs.length = n := by rw [← ylen, ← htab, List.length_map]
    refine ⟨.ref sl, rfl, sl, xs, rfl, .inl ⟨.inl (.inl hsl'), fun sc hsc => ?_⟩⟩
    have s7 := Same.new (o := .tup xs) hsc
    have hsc7 : Is (upd H' sc (.tup xs)) (.ref sc) (.t (tabs.map tabT)) := is_t upd_same (IsL.mono (TK.of s7) _ _ hxs)
    refine ⟨.ref pl, rfl, 4, rfl, pl, ws.map V.str, rfl, .inl (.inl (s7 _ _ hpl')), fun p8 hp8 => ?_⟩
    have s8 := Same.new (o := .lst (cutV (ws.map V.str) (some 4) none)) hp8
    refine ⟨p8, cutW ws (some 4) none, rfl, .inl (.inl (by rw [← cutV_map]; exact upd_same)), ?_, fun zs p9 pm9 _ hp9 => ?_⟩
    · exact Nat.lt_of_le_of_lt (cutW_sub ws _ _).length_le (by rw [hw.len]; decide)
    have s9 := Same.new (o := .lst (zs.map V.str)) hp9
    have dw9 := ((dw'.same s7).same s8).same s9
    have np9 := ((dw'.same s7).same s8).out hp9
    have hpl9 := s9 _ _ (s8 _ _ (s7 _ _ hpl'))
    obtain ⟨w0, w1, wr, ew⟩ : ∃ w0 w1 wr, ws = w0 :: w1 :: wr := by
      match ws, hw.len with
      | w0 :: w1 :: wr, _ => exact ⟨w0, w1, wr, rfl⟩
    refine ⟨.ref dr, rfl, .ref pl, rfl, dr, pl, w0, w1, wr, rfl, dw9, npl, by rw [← ew]; exact hpl9, hw.ok _ (by rw [ew]; simp), hw.ok _ (by rw [ew]; simp), fun kl k1 k2 k3 H10 b10 dw10 nkl hkl => ⟨small3, fun wa hwa => ?_⟩⟩
    have s11 := Same.new (o := .lst [.ref sc, .ref p9, .ref kl]) hwa
    have s79 := same_tr s7 (same_tr s8 s9)
    refine q wa tabs zs k1 k2 k3 _ (But.trans b (But.trans (But.of s79) (But.trans b10 (But.of s11)))) (dw10.same s11) ⟨sc, p9, kl, upd_same, dw10.out hwa, np9, nkl, Is.mono (TK.of s11) _ _ (Is.mono (dw9.tk b10) _ _ (Is.mono (TK.of (same_tr s8 s9)) _ _ hsc7)), s11 _ _ (b10 _ _ np9 upd_same), s11 _ _ hkl.1, hkl.2⟩ ⟨by rw [htab]; exact ynd, fun t ht => ⟨yok _ (by rw [← htab]; exact List.mem_map.mpr ⟨t, ht, rfl⟩), har t ht⟩, by omega, by omega⟩ ⟨pm9.nodup_iff.mpr ((cutW_sub ws _ _).nodup hw.nodup), fun x hx => hw.ok x ((cutW_sub ws _ _).subset (pm9.mem_iff.mp hx)), ?_, ?_⟩
    · have e4 : (cutW ws (some 4) none).length = ws.length - 4 := cutW_tail (n := 4) (by rw [hw.len]; decide)
      rw [pm9.length_eq, e4, hw.len]; decide
    · have e4 : (cutW ws (some 4) none).length = ws.length - 4 := cutW_tail (n := 4) (by rw [hw.len]; decide)
      rw [pm9.length_eq, e4, hw.len]; decide
  · obtain ⟨nm2, tabs, xs, rfl, b, dw', hp6', hpl', hsl', hxs, htab, har⟩ := h
    obtain ⟨y, ey, e2⟩ := map_get ex
    subst e2
    have my := List.mem_of_getElem? ey
    have lt : tabs.length ≤ 6 := by
      have := congrArg List.length htab
      rw [List.length_map, List.length_take] at this
      omega
    dsimp only [gName]
    refine ⟨.ref sl, rfl, .inl ⟨rfl, _, .inl (.inl hsl')⟩, .str y, rfl, le_line (by decide), fun c8 hc8 => ?_⟩
    have s7 := Same.new (o := .lst [.int 2, .int 1, .int 2, .int 1, .int 2, .int 0, .int 1, .int 3]) hc8
    have n8 := dw'.out hc8
    refine ⟨.ref dr, rfl, dr, 8, rfl, by decide, dw'.same s7, fun j H8 b8 dw8 j0 j8 => ?_⟩
    obtain ⟨ar, gar, arm, _⟩ := ints_all (ns := [2, 1, 2, 1, 2, 0, 1, 3]) (m := 3) j0 (by simpa using j8) (by simp)
    refine ⟨c8, _, j, _, rfl, rfl, .inl (.inl (b8 _ _ n8 upd_same)), gar, small2, fun tp htp => ?_⟩
    have s9 := Same.new (o := .tup [.str y, .int ar]) htp
    have b9 := But.trans (But.of s7) (But.trans b8 (But.of s9))
    have hsl9 := b9 _ _ nsl hsl'
    have few : xs.length < sizeLine := by rw [hxs.length, List.length_map]; exact lt_line (by omega)
    refine ⟨sl, xs, .ref tp, rfl, rfl, hsl9, few, ?_⟩
    have tk9 := dw'.tk b9
    have tkp := TK.putL (o := .lst (xs ++ [.ref tp])) hsl9
    have tt : Is (upd H8 tp (.tup [.str y, .int ar])) (.ref tp) (tabT (y, ar)) := is_t upd_same (isL_cons (is_s (yok y my)) (isL_cons is_i isL_nil))
    refine ⟨_, tabs ++ [(y, ar)], _, rfl, (But.trans b b9).mut hsl0, (dw8.same s9).upd_ne nsl, ?_, ?_, upd_same, ?_, ?_, fun t ht => ?_⟩
    · rw [upd_ne nsp.symm]; exact b9 _ _ np6 hp6'
    · rw [upd_ne nps]; exact b9 _ _ npl hpl'
    · rw [List.map_append]
      exact IsL.append (IsL.mono tkp _ _ (IsL.mono tk9 _ _ hxs)) (isL_cons (Is.mono tkp _ _ tt) isL_nil)
    · rw [List.map_append, htab, take_succ ey]; rfl
    · rcases List.mem_append.mp ht with z | z
      · exact har t z
      · rw [List.mem_singleton.mp z]; show ar ≤ 3; omega
end
end K48
set_option maxRecDepth 100000
set_option maxHeartbeats 8000000
namespace K48
open PySem PySem.Spec PyProof.Rows L2 RZ
section
variable {P : Program} {w : World} {K : PySem.W.Frag} {mg : Str → Option Value} {base : Heap}
def N_l_wide_world : List Str := ["_law_draws_here", "_law_words_here", "_law_many", "_law_schema", "_law_name", "_law_variables_here"]
def p_l_wide_world : List Str := ["_law_draws_here"]
theorem sc_l_wide_world : FnScope N_l_wide_world p_l_wide_world (defScope s_l_wide_world) := ⟨rfl, rfl, rfl, by decide +kernel, rfl, by decide +kernel, by decide +kernel⟩
theorem ok_l_wide_world (G_l_take : Ok P w K mg base 1 "_law_take" p_l_take sp_l_take) (G_l_words : Ok P w K mg base 3 "_law_words" p_l_words sp_l_words) (T : Tx K mg) : Ok P w K mg base 4 "_law_wide_world" p_l_wide_world sp_l_world := by
  refine T.ok i_l_wide_world sc_l_wide_world (fun _ _ _ _ _ _ us h => by match us, h with | [_], _ => rfl) (fun vs H Q E h => by obtain ⟨_, rfl, _⟩ := h; rfl) (fun f cdv A outer s H vs Q E hr h => ?_)
  obtain ⟨dr, rfl, dw, q⟩ := h
  have nd := sc_l_wide_world.nd
  refine ⟨_, (pss_cons (ps_set (i := 1) nd rfl (Or.inl rfl) (pe_ok G_l_words (hr.mono (by first | decide | omega)) rfl (pa_cons (pv 0) (pa_cons pe_int pa_nil))))
      (pss_cons (ps_set (i := 2) nd rfl (Or.inl rfl) (pe_op op_add pe_int (pe_ok G_l_take (hr.mono (by first | decide | omega)) rfl (pa_cons (pv 0) (pa_cons pe_int pa_nil)))))
      (pss_cons (ps_set (i := 3) nd rfl (Or.inl rfl) (pe_lst pa_nil))
      (pss_cons (ps_for PassesOwn.never rfl (pi_list (pe_callB cr_sortedS (by rfl) (T.bl "sorted" (by decide)) (by decide +kernel) (pa_cons (pe_slice sl_list (pv 1) po_none (po_some (pv 2))) pa_nil))) (pg_name (i := 4) nd rfl (Or.inl rfl))
        (pss_one (ps_expr (pe_bm PySem.F.plainAttrs_list PySem.F.slot_list_append PySem.F.type_list_append mt_append (pv 3) (pa_cons (pe_tup (pa_cons (pv 4) (pa_cons (pe_ix ix_list (pe_lst (pa_cons pe_int (pa_cons pe_int (pa_cons pe_int (pa_cons pe_int (pa_cons pe_int (pa_cons pe_int (pa_cons pe_int pa_nil)))))))) (pe_ok G_l_take (hr.mono (by first | decide | omega)) rfl (pa_cons (pv 0) (pa_cons pe_int pa_nil))) (fun _ _ => rfl)) pa_nil))) pa_nil)))))
      (pss_cons (ps_set (i := 5) nd rfl (Or.inl rfl) (pe_callB cr_sortedS (by rfl) (T.bl "sorted" (by decide)) (by decide +kernel) (pa_cons (pe_slice sl_list (pv 1) (po_some pe_int) (po_some (pe_op op_add pe_int (pe_ok G_l_take (hr.mono (by first | decide | omega)) rfl (pa_cons (pv 0) (pa_cons pe_int pa_nil)))))) pa_nil)))
      (pss_one (ps_ret (pe_lst (pa_cons (pe_callTy call_tuple_of (by rfl) (T.bl "tuple" (by decide)) (by decide +kernel) (pa_cons (pv 3) pa_nil)) (pa_cons (pv 5) (pa_cons (pe_lst (pa_cons (pe_op op_sub (pe_ok G_l_take (hr.mono (by first | decide | omega)) rfl (pa_cons (pv 0) (pa_cons pe_int pa_nil))) pe_int) (pa_cons (pe_ix ix_list (pv 5) pe_int (fun _ _ => rfl)) (pa_cons (pe_ix ix_list (pv 1) pe_int (fun _ _ => rfl)) pa_nil)))) pa_nil))))))))))), ?_⟩
  refine ⟨.ref dr, rfl, dr, rfl, dw, fun pl ws H1 b1 dw1 npl hpl hw => ?_⟩
  dsimp only [gName]
  refine ⟨.ref dr, rfl, dr, 5, rfl, by decide, dw1, fun i H2 b2 dw2 i0 i5 => ⟨_, _, rfl, rfl, ?_⟩⟩
  obtain ⟨n, en⟩ : ∃ n : Nat, 2 + i = (n : Int) := ⟨(2 + i).toNat, by omega⟩
  have hpl2 := b2 _ _ npl hpl
  dsimp only [gName]
  rw [en]
  refine ⟨Nat.zero_le _, fun sl hsl => ?_⟩
  have nsl := dw2.out hsl
  have dw3 := dw2.new (o := .lst []) hsl
  have s3 := Same.new (o := .lst []) hsl
  have hslat : (upd H2 sl (.lst [])) sl = some (.lst []) := upd_same
  have hsl0 : H sl = none := b1.free nsl (b2.free nsl hsl)
  have nps : pl ≠ sl := ne_of_none hpl2 hsl
  generalize (upd H2 sl (.lst [])) = H3 at dw3 s3 hslat ⊢
  have b3 := But.trans b1 (But.trans b2 (But.of s3))
  dsimp only [gName]
  refine ⟨.ref pl, rfl, .int n, rfl, n, rfl, pl, ws.map V.str, rfl, .inl (.inl (s3 _ _ hpl2)), fun p5 hp5 => ?_⟩
  have s5 := Same.new (o := .lst (cutV (ws.map V.str) none (some (n : Int)))) hp5
  have dw5 := dw3.same s5
  refine ⟨p5, cutW ws none (some (n : Int)), rfl, .inl (.inl (by rw [← cutV_map]; exact upd_same)), ?_, fun ys p6 pm _ hp6 => ?_⟩
  · exact Nat.lt_of_le_of_lt (cutW_sub ws _ _).length_le (by rw [hw.len]; decide)
  have s6 := Same.new (o := .lst (ys.map V.str)) hp6
  have s36 := same_tr s5 s6
  have dw6 := dw5.same s6
  have np6 := dw5.out hp6
  have ylen : ys.length = n := by rw [pm.length_eq, cutW_head (by rw [hw.len]; omega)]
  have ynd : ys.Nodup := pm.nodup_iff.mpr ((cutW_sub ws _ _).nodup hw.nodup)
  have yok : ∀ y ∈ ys, strOk y = true := fun y hy => hw.ok y ((cutW_sub ws _ _).subset (pm.mem_iff.mp hy))
  have hsl6 := s36 _ _ hslat
  have hp6at : (upd (upd H3 p5 (.lst (cutV (ws.map V.str) none (some (n : Int))))) p6 (.lst (ys.map V.str))) p6 = some (.lst (ys.map V.str)) := upd_same
  have hpl6 := s36 _ _ (s3 _ _ hpl2)
  have nsp : sl ≠ p6 := ne_of_none (s5 _ _ hslat) hp6
  generalize (upd (upd H3 p5 (.lst (cutV (ws.map V.str) none (some (n : Int))))) p6 (.lst (ys.map V.str))) = H6 at s6 s36 dw6 hsl6 hp6at hpl6 ⊢
  have b06 := But.trans b3 (But.of s36)
  refine ⟨p6, rfl, ⟨_, .inl (.inl hp6at)⟩, ?_⟩
  refine j_list (ys.map V.str) (fun i σ H' => ∃ (nm : Option V) (tabs : List (Str × Nat)) (xs : List V), σ = [some (.ref dr), some (.ref pl), some (.int n), some (.ref sl), nm, none] ∧ But dr H H' ∧ Dw dr H' ∧ H' p6 = some (.lst (ys.map V.str)) ∧ H' pl = some (.lst (ws.map V.str)) ∧
      H' sl = some (.lst xs) ∧ IsL H' xs (tabs.map tabT) ∧ tabs.map (·.1) = ys.take i ∧ ∀ t ∈ tabs, t.2 ≤ 3)
    ⟨_, [], [], rfl, b06, dw6, hp6at, hpl6, hsl6, isL_nil, rfl, fun _ h => by cases h⟩ (fun i σ H' h => by obtain ⟨_, _, _, _, _, _, h1, _⟩ := h; exact .inl (.inl h1)) (fun σ H' h => ?_) (fun i x σ H' ex h => ?_)
  · obtain ⟨nm2, tabs, xs, rfl, b, dw', _, hpl', hsl', hxs, htab, har⟩ := h
    rw [List.length_map, List.take_length] at htab
    have tl : tabs.length = n := by rw [← ylen, ← htab, List.length_map]
    refine ⟨.ref pl, rfl, 8, rfl, .ref dr, rfl, dr, 5, rfl, by decide, dw', fun j H7 b7 dw7 j0 j5 => ⟨_, _, rfl, rfl, _, rfl, ?_⟩⟩
    obtain ⟨m, em⟩ : ∃ m : Nat, 9 + j = (m : Int) := ⟨(9 + j).toNat, by omega⟩
    dsimp only
    rw [em]
    have hpl7 := b7 _ _ npl hpl'
    refine ⟨pl, ws.map V.str, rfl, .inl (.inl hpl7), fun p8 hp8 => ?_⟩
    have s8 := Same.new (o := .lst (cutV (ws.map V.str) (some 8) (some (m : Int)))) hp8
    refine ⟨p8, cutW ws (some 8) (some (m : Int)), rfl, .inl (.inl (by rw [← cutV_map]; exact upd_same)), ?_, fun zs p9 pm9 _ hp9 => ?_⟩
    · exact Nat.lt_of_le_of_lt (cutW_sub ws _ _).length_le (by rw [hw.len]; decide)
    have s9 := Same.new (o := .lst (zs.map V.str)) hp9
    have dw9 := (dw7.same s8).same s9
    have np9 := (dw7.same s8).out hp9
    have e4 : (cutW ws (some 8) (some (m : Int))).length = m - 8 := cutW_mid (n := 8) (by omega) (by rw [hw.len]; omega)
    have zlen : zs.length = m - 8 := by rw [pm9.length_eq, e4]
    have zok : ∀ x ∈ zs, strOk x = true := fun x hx => hw.ok x ((cutW_sub ws _ _).subset (pm9.mem_iff.mp hx))
    have b79 := But.trans b7 (But.trans (But.of s8) (But.of s9))
    have hp9at : (upd (upd H7 p8 (.lst (cutV (ws.map V.str) (some 8) (some (m : Int))))) p9 (.lst (zs.map V.str))) p9 = some (.lst (zs.map V.str)) := upd_same
    have hsl9 := b79 _ _ nsl hsl'
    have hpl9 := b79 _ _ npl hpl'
    have tk9 := dw'.tk b79
    generalize (upd (upd H7 p8 (.lst (cutV (ws.map V.str) (some 8) (some (m : Int))))) p9 (.lst (zs.map V.str))) = H9 at s9 dw9 b79 hp9at hsl9 hpl9 tk9 ⊢
    dsimp only [gName]
    refine ⟨.ref sl, rfl, sl, xs, rfl, .inl ⟨.inl (.inl hsl9), fun sc hsc => ?_⟩⟩
    have s10 := Same.new (o := .tup xs) hsc
    have hsc10 : Is (upd H9 sc (.tup xs)) (.ref sc) (.t (tabs.map tabT)) := is_t upd_same (IsL.mono (TK.of s10) _ _ (IsL.mono tk9 _ _ hxs))
    have dw10 := dw9.same s10
    refine ⟨.ref p9, rfl, .ref dr, rfl, dr, 9, rfl, by decide, dw10, fun k H11 b11 dw11 k0 k9 => ⟨_, _, rfl, rfl, ?_⟩⟩
    obtain ⟨z0, zr, ez⟩ : ∃ z0 zr, zs = z0 :: zr := by
      match zs, zlen with
      | z0 :: zr, _ => exact ⟨z0, zr, rfl⟩
      | [], h0 => simp at h0; omega
    obtain ⟨w7, hw7, g7⟩ := atI_lt (xs := ws.map V.str) (i := 7) (by decide) (by rw [List.length_map, hw.len]; decide)
    obtain ⟨w7', mw7, ew7⟩ := List.mem_map.mp hw7
    subst ew7
    have hp11 := b11 _ _ np9 (s10 _ _ hp9at)
    have hpl11 := b11 _ _ npl (s10 _ _ hpl9)
    refine ⟨.ref p9, rfl, p9, _, 0, .str z0, rfl, rfl, .inl (.inl hp11), by rw [ez]; exact atI_nat (i := 0) rfl, .ref pl, rfl, pl, _, 7, .str w7', rfl, rfl, .inl (.inl hpl11), g7, small3, fun kl hkl => ⟨small3, fun wa hwa => ?_⟩⟩
    have s12 := Same.new (o := .lst [.int (k - 4), .str z0, .str w7']) hkl
    have s13 := Same.new (o := .lst [.ref sc, .ref p9, .ref kl]) hwa
    have s1213 := same_tr s12 s13
    have zok0 : strOk z0 = true := zok z0 (by rw [ez]; simp)
    refine q wa tabs zs (.inl (k - 4)) (.inr z0) (.inr w7') _ (But.trans b (But.trans b79 (But.trans (But.of s10) (But.trans b11 (But.of s1213))))) (dw11.same s1213) ⟨sc, p9, kl, upd_same, (dw11.same s12).out hwa, np9, dw11.out hkl, Is.mono (TK.of s1213) _ _ (Is.mono (dw10.tk b11) _ _ hsc10), s1213 _ _ hp11, s13 _ _ upd_same, fun kk hk => ?_⟩
      ⟨by rw [htab]; exact ynd, fun t ht => ⟨yok _ (by rw [← htab]; exact List.mem_map.mpr ⟨t, ht, rfl⟩), har t ht⟩, by omega, by omega⟩ ⟨pm9.nodup_iff.mpr ((cutW_sub ws _ _).nodup hw.nodup), zok, by omega, by omega⟩
    rcases List.mem_cons.mp hk with e | hk
    · rw [e]; rfl
    rcases List.mem_cons.mp hk with e | hk
    · rw [e]; exact zok0
    rw [List.mem_singleton.mp hk]; exact hw.ok _ mw7
  · obtain ⟨nm2, tabs, xs, rfl, b, dw', hp6', hpl', hsl', hxs, htab, har⟩ := h
    obtain ⟨y, ey, e2⟩ := map_get ex
    subst e2
    have my := List.mem_of_getElem? ey
    have lt : tabs.length ≤ 6 := by
      have := congrArg List.length htab
      rw [List.length_map, List.length_take] at this
      omega
    dsimp only [gName]
    refine ⟨.ref sl, rfl, .inl ⟨rfl, _, .inl (.inl hsl')⟩, .str y, rfl, le_line (by decide), fun c8 hc8 => ?_⟩
    have s7 := Same.new (o := .lst [.int 2, .int 1, .int 2, .int 3, .int 0, .int 2, .int 1]) hc8
    have n8 := dw'.out hc8
    refine ⟨.ref dr, rfl, dr, 7, rfl, by decide, dw'.same s7, fun j H8 b8 dw8 j0 j8 => ?_⟩
    obtain ⟨ar, gar, arm, _⟩ := ints_all (ns := [2, 1, 2, 3, 0, 2, 1]) (m := 3) j0 (by simpa using j8) (by simp)
    refine ⟨c8, _, j, _, rfl, rfl, .inl (.inl (b8 _ _ n8 upd_same)), gar, small2, fun tp htp => ?_⟩
    have s9 := Same.new (o := .tup [.str y, .int ar]) htp
    have b9 := But.trans (But.of s7) (But.trans b8 (But.of s9))
    have hsl9 := b9 _ _ nsl hsl'
    have few : xs.length < sizeLine := by rw [hxs.length, List.length_map]; exact lt_line (by omega)
    refine ⟨sl, xs, .ref tp, rfl, rfl, hsl9, few, ?_⟩
    have tk9 := dw'.tk b9
    have tkp := TK.putL (o := .lst (xs ++ [.ref tp])) hsl9
    have tt : Is (upd H8 tp (.tup [.str y, .int ar])) (.ref tp) (tabT (y, ar)) := is_t upd_same (isL_cons (is_s (yok y my)) (isL_cons is_i isL_nil))
    refine ⟨_, tabs ++ [(y, ar)], _, rfl, (But.trans b b9).mut hsl0, (dw8.same s9).upd_ne nsl, ?_, ?_, upd_same, ?_, ?_, fun t ht => ?_⟩
    · rw [upd_ne nsp.symm]; exact b9 _ _ np6 hp6'
    · rw [upd_ne nps]; exact b9 _ _ npl hpl'
    · rw [List.map_append]
      exact IsL.append (IsL.mono tkp _ _ (IsL.mono tk9 _ _ hxs)) (isL_cons (Is.mono tkp _ _ tt) isL_nil)
    · rw [List.map_append, htab, take_succ ey]; rfl
    · rcases List.mem_append.mp ht with z | z
      · exact har t z
      · rw [List.mem_singleton.mp z]; show ar ≤ 3; omega
end
end K48
set_option maxRecDepth 100000
set_option maxHeartbeats 8000000
namespace K48
open PySem PySem.Spec PyProof.Rows L2 RZ
/-- what a term may be in a world -/
def TmOk (vars : List Str) (a b c : Key) : Tm → Prop
  | .var x => x ∈ vars
  | .val k => k ∈ [a, b, c]
section
variable {P : Program} {w : World} {K : PySem.W.Frag} {mg : Str → Option Value} {base : Heap}
def N_l_term : List Str := ["_law_draws_here", "_law_world_here"]
def p_l_term : List Str := ["_law_draws_here", "_law_world_here"]
theorem sc_l_term : FnScope N_l_term p_l_term (defScope s_l_term) := ⟨rfl, rfl, rfl, by decide +kernel, rfl, by decide +kernel, by decide +kernel⟩
def sp_l_term : Sp := fun vs H Q _ => ∃ (dr wa : Addr) (tabs : List (Str × Nat)) (vars : List Str) (a b c : Key), vs = [.ref dr, .ref wa] ∧ Dw dr H ∧ WorldI H dr wa tabs vars a b c ∧ VarsOk vars ∧ ∀ v (t : Tm) H', But dr H H' → Dw dr H' → Is H' v (tmT t) → TmOk vars a b c t → Q v H'
theorem sVar_ok : strOk sVar = true := by decide +kernel
theorem sValue_ok : strOk sValue = true := by decide +kernel
theorem ok_l_term (G_l_take : Ok P w K mg base 1 "_law_take" p_l_take sp_l_take) (G_l_pick : Ok P w K mg base 2 "_law_pick" p_l_pick (sp_l_pick K)) (G_l_value : Ok P w K mg base 2 "_law_value" p_l_value sp_l_value) (T : Tx K mg) : Ok P w K mg base 3 "_law_term" p_l_term sp_l_term := by
  refine T.ok i_l_term sc_l_term (fun _ _ _ _ _ _ us h => by match us, h with | [_, _], _ => rfl) (fun vs H Q E h => by obtain ⟨_, _, _, _, _, _, _, rfl, _⟩ := h; rfl) (fun f cdv A outer s H vs Q E hr h => ?_)
  obtain ⟨dr, wa, tabs, vars, a, b, c, rfl, dw, hwo, vok, q⟩ := h
  refine ⟨_, (pss_cons (ps_if (pt_cmpR op_eq (pe_ok G_l_take (hr.mono (by first | decide | omega)) rfl (pa_cons (pv 0) (pa_cons pe_int pa_nil))) pe_int (nomark _))
        (pss_one (ps_ret (pe_tup (pa_cons pe_str (pa_cons (pe_ok G_l_value (hr.mono (by first | decide | omega)) rfl (pa_cons (pv 0) (pa_cons (pe_ix ix_list (pv 1) pe_int (fun _ _ => rfl)) pa_nil))) pa_nil)))))
        pss_nil)
      (pss_one (ps_ret (pe_tup (pa_cons pe_str (pa_cons (pe_ok G_l_pick (hr.mono (by first | decide | omega)) rfl (pa_cons (pv 0) (pa_cons (pe_ix ix_list (pv 1) pe_int (fun _ _ => rfl)) pa_nil))) pa_nil)))))), ?_⟩
  refine ⟨.ref dr, rfl, dr, 8, rfl, by decide, dw, fun i H1 b1 dw1 i0 i8 => ⟨rfl, decide (i = 0), ?_, ?_⟩⟩
  · by_cases z : i = 0
    · rw [z]; rfl
    · rw [decide_eq_false z]
      exact congrArg V.bl (decide_eq_false fun y => z (by injection y))
  · obtain ⟨sc, vl, kl, hwa, nwa, nvl, nkl, hsc, hvl, hkl⟩ := hwo.mono b1 dw
    by_cases z : i = 0
    · rw [decide_eq_true z]
      refine ⟨.ref dr, rfl, .ref wa, rfl, wa, _, 2, .ref kl, rfl, rfl, .inl (.inl hwa), rfl, dr, kl, a, b, c, rfl, dw1, nkl, hkl, fun k H2 b2 dw2 hk => ⟨small2, fun p hp => ?_⟩⟩
      have okk : kOk k = true := hkl.2 k hk
      refine q _ (.val k) _ (But.trans b1 (But.trans b2 (But.new hp))) (dw2.new hp) (is_t upd_same (isL_cons (is_s sValue_ok) (isL_cons (is_k okk) isL_nil))) hk
    · rw [decide_eq_false z]
      refine ⟨.ref dr, rfl, .ref wa, rfl, wa, _, 1, .ref vl, rfl, rfl, .inl (.inl hwa), rfl, dr, vl, vars.map V.str, rfl, fun H' b' => .inl (.inl (.inl (b' _ _ nvl hvl))), ?_, dw1, fun ix x H2 hx b2 dw2 => ⟨small2, fun p hp => ?_⟩⟩
      · intro e
        have p := vok.pos
        rw [List.map_eq_nil_iff.mp e] at p
        exact absurd p (by decide)
      · obtain ⟨y, ey, e2⟩ := map_get hx
        subst e2
        have my := List.mem_of_getElem? ey
        exact q _ (.var y) _ (But.trans b1 (But.trans b2 (But.new hp))) (dw2.new hp) (is_t upd_same (isL_cons (is_s sVar_ok) (isL_cons (is_s (vok.ok y my)) isL_nil))) my
def N_l_atom : List Str := ["_law_draws_here", "_law_world_here", "_law_table_here", "_law_k"]
def p_l_atom : List Str := ["_law_draws_here", "_law_world_here", "_law_table_here"]
theorem sc_l_atom : FnScope N_l_atom p_l_atom (defScope s_l_atom) := ⟨rfl, rfl, rfl, by decide +kernel, rfl, by decide +kernel, by decide +kernel⟩
def AtOk (vars : List Str) (a b c : Key) (at_ : Atom) : Prop := ∀ t ∈ at_.2, TmOk vars a b c t
def sp_l_atom : Sp := fun vs H Q _ => ∃ (dr wa : Addr) (tv : V) (tabs : List (Str × Nat)) (vars : List Str) (a b c : Key) (tb : Str × Nat), vs = [.ref dr, .ref wa, tv] ∧ Dw dr H ∧ WorldI H dr wa tabs vars a b c ∧ VarsOk vars ∧ Is H tv (tabT tb) ∧ tb.2 ≤ 3 ∧
  ∀ v (at_ : Atom) H', But dr H H' → Dw dr H' → Is H' v (atT at_) → at_.1 = tb.1 → at_.2.length = tb.2 → AtOk vars a b c at_ → Q v H'
theorem tms_of : ∀ {ds : List T} {p : Tm → Prop}, (∀ d ∈ ds, ∃ t, d = tmT t ∧ p t) → ∃ ts : List Tm, ds = ts.map tmT ∧ ∀ t ∈ ts, p t
  | [], _, _ => ⟨[], rfl, fun _ h => (by cases h)⟩
  | d :: ds, p, h => by
    obtain ⟨t, e, ht⟩ := h d (List.mem_cons_self ..)
    obtain ⟨ts, e2, hts⟩ := tms_of (ds := ds) (p := p) fun d' hd => h d' (List.mem_cons_of_mem _ hd)
    exact ⟨t :: ts, by rw [e, e2]; rfl, fun t' ht' => (List.mem_cons.mp ht').elim (fun z => by rw [z]; exact ht) (hts t')⟩
theorem ok_l_atom (G_l_term : Ok P w K mg base 3 "_law_term" p_l_term sp_l_term) (T : Tx K mg) : Ok P w K mg base 4 "_law_atom" p_l_atom sp_l_atom := by
  refine T.ok i_l_atom sc_l_atom (fun _ _ _ _ _ _ us h => by match us, h with | [_, _, _], _ => rfl) (fun vs H Q E h => by obtain ⟨_, _, _, _, _, _, _, _, _, rfl, _⟩ := h; rfl) (fun f cdv A outer s H vs Q E hr h => ?_)
  obtain ⟨dr, wa, tv, tabs, vars, a, b, c, tb, rfl, dw, hwo, vok, htv, ar3, q⟩ := h
  have nd := sc_l_atom.nd
  refine ⟨_, (pss_one (ps_ret (pe_tup (pa_cons (pe_ix ix_tup (pv 2) pe_int (fun _ _ => rfl)) (pa_cons (pe_callTy call_tuple_frz (by rfl) (T.bl "tuple" (by decide)) (by decide +kernel) (pa_cons (pe_lc (own := [("_law_k", 3)]) (by rfl) nd (pi_range1 rfl (T.bl "range" (by decide)) (pa_cons (pe_ix ix_tup (pv 2) pe_int (fun _ _ => rfl)) pa_nil)) (blkOk_by (N := N_l_atom) (sc := defScope s_l_atom) (by decide +kernel)) (fun _ _ _ _ _ => (pg_name (i := 3) nd rfl (Or.inl rfl))) (fun _ _ _ _ _ => pts_nil) (fun _ _ _ _ _ => (pe_ok G_l_term (hr.mono (by first | decide | omega)) rfl (pa_cons (pv 0) (pa_cons (pv 1) pa_nil))))) pa_nil)) pa_nil))))), ?_⟩
  obtain ⟨ta, v1, v2, rfl, hta, h1, h2⟩ := two_inv htv
  obtain ⟨rfl, okn⟩ := is_s_inv h1
  have e2 := is_i_inv h2
  subst e2
  refine r_ret (r_tup (r_cons (r_op ⟨.ref ta, rfl, ta, _, 0, _, rfl, rfl, .inl (.inl hta), at0, r_cons (r_cb (r_cons (lc_rngH ?_)))⟩)))
  refine ⟨.ref ta, rfl, ta, _, 1, _, rfl, rfl, .inl (.inl hta), at1, tb.2, rfl, by omega, by omega, ?_⟩
  rw [Int.toNat_natCast]
  refine c_rngB (dr := dr) (fun d => ∃ t, d = tmT t ∧ TmOk vars a b c t) dw (by omega) (fun D H2 vs ds b2 dw2 hD nD hv hls len all => ?_) (fun j H2 hj b2 dw2 Y Z hY => ?_)
  · obtain ⟨ts, ets, hts⟩ := tms_of all
    subst ets
    refine ⟨D, vs, rfl, .inl (.inl hv), fun l ol hl hd => ⟨small2, fun p hp => ?_⟩⟩
    have s3 := Same.new (o := .frz ol (.tup vs)) hl
    have s4 := Same.new (o := .tup [.str tb.1, .ref l]) hp
    have hls3 := IsL.mono (TK.of (same_tr s3 s4)) _ _ hls
    refine q _ (tb.1, ts) _ (But.trans b2 (But.of (same_tr s3 s4))) (dw2.same (same_tr s3 s4)) (is_t upd_same (isL_cons (is_s okn) (isL_cons (is_f hd (s4 _ _ upd_same) hls3) isL_nil))) rfl (by rw [List.length_map] at len; exact len) hts
  · refine ⟨rfl, .ref dr, rfl, .ref wa, rfl, dr, wa, tabs, vars, a, b, c, rfl, dw2, hwo.mono b2 dw, vok, fun v t H3 b3 dw3 hv ht => hY _ _ _ ⟨t, rfl, ht⟩ b3 dw3 hv⟩
end
end K48
set_option maxRecDepth 100000
set_option maxHeartbeats 8000000
namespace K48
open PySem PySem.Spec PyProof.Rows L2 RZ
theorem small1 : 1 ≤ sizeLine := by decide
theorem seqIx {i : Int} {n : Nat} (h0 : 0 ≤ i) (h1 : i < n) : seqIndex? i n = some i.toNat := by
  simp only [seqIndex?, if_neg (show ¬ i < 0 by omega)]
  simp [h0, h1]
theorem map_erase {α β : Type} (f : α → β) : ∀ (l : List α) (k : Nat), (l.map f).eraseIdx k = (l.eraseIdx k).map f
  | [], _ => rfl
  | _ :: _, 0 => rfl
  | x :: l, k + 1 => by
    show f x :: (l.map f).eraseIdx k = f x :: (l.eraseIdx k).map f
    rw [map_erase f l k]
theorem perm_erase {α : Type} : ∀ {l : List α} {k : Nat} {x : α}, l[k]? = some x → l.Perm (x :: l.eraseIdx k)
  | [], k, x, h => by simp at h
  | y :: l, 0, x, h => by
    have e : y = x := by simpa using h
    rw [e]
    exact List.Perm.refl _
  | y :: l, k + 1, x, h => by
    have ih := perm_erase (l := l) (k := k) (x := x) (by simpa using h)
    exact (ih.cons y).trans (List.Perm.swap _ _ _)
structure JoinOk (tabs : List (Str × Nat)) (vars : List Str) (a b c : Key) (as : List Atom) : Prop where
  nd : (as.map (·.1)).Nodup
  tab : ∀ at_ ∈ as, (at_.1, at_.2.length) ∈ tabs
  ok : ∀ at_ ∈ as, AtOk vars a b c at_
  few : as.length ≤ 6
/-- some tables are left, atoms over the others are made -/
structure Part (tabs : List (Str × Nat)) (vars : List Str) (a b c : Key) (as : List Atom) (rem : List (Str × Nat)) : Prop where
  nd : (as.map (·.1) ++ rem.map (·.1)).Nodup
  left : ∀ t ∈ rem, t ∈ tabs
  tab : ∀ at_ ∈ as, (at_.1, at_.2.length) ∈ tabs
  ok : ∀ at_ ∈ as, AtOk vars a b c at_
  six : rem.length ≤ 6
theorem Part.join {tabs : List (Str × Nat)} {vars : List Str} {a b c : Key} {as : List Atom} {rem : List (Str × Nat)} (h : Part tabs vars a b c as rem) (few : as.length ≤ 6) : JoinOk tabs vars a b c as := ⟨(List.nodup_append.mp h.nd).1, h.tab, h.ok, few⟩
theorem Part.drop {tabs : List (Str × Nat)} {vars : List Str} {a b c : Key} {as : List Atom} {rem : List (Str × Nat)} {k : Nat} (h : Part tabs vars a b c as rem) : Part tabs vars a b c as (rem.eraseIdx k) :=
  ⟨List.Sublist.nodup (List.Sublist.append_left (List.Sublist.map _ (List.eraseIdx_sublist rem k)) _) h.nd, fun t ht => h.left t ((List.eraseIdx_sublist rem k).subset ht), h.tab, h.ok, Nat.le_trans (List.eraseIdx_sublist rem k).length_le h.six⟩
theorem Part.take {tabs : List (Str × Nat)} {vars : List Str} {a b c : Key} {as : List Atom} {rem : List (Str × Nat)} {k : Nat} {t : Str × Nat} {at_ : Atom} (h : Part tabs vars a b c as rem) (e : rem[k]? = some t) (e1 : at_.1 = t.1) (e2 : at_.2.length = t.2) (ok : AtOk vars a b c at_) :
    Part tabs vars a b c (as ++ [at_]) (rem.eraseIdx k) := by
  have p := perm_erase e
  refine ⟨?_, fun t ht => h.left t ((List.eraseIdx_sublist rem k).subset ht), fun x hx => ?_, fun x hx => ?_, Nat.le_trans (List.eraseIdx_sublist rem k).length_le h.six⟩
  · have q := List.Perm.append_left (as.map (·.1)) (List.Perm.map (fun t : Str × Nat => t.1) p)
    have n := q.nodup_iff.mp h.nd
    rw [List.map_append, List.append_assoc]
    simpa [e1] using n
  · rcases List.mem_append.mp hx with z | z
    · exact h.tab x z
    · rw [List.mem_singleton.mp z, e1, e2]
      exact h.left t (List.mem_of_getElem? e)
  · rcases List.mem_append.mp hx with z | z
    · exact h.ok x z
    · rw [List.mem_singleton.mp z]; exact ok
theorem joT_is {H : Hp} {p q r : Addr} {xs : List V} {as : List Atom} (h1 : H p = some (.tup [.ref q, .ref r])) (h2 : H q = some (.tup [])) (h3 : H r = some (.tup xs)) (h4 : IsL H xs (as.map atT)) : Is H (.ref p) (joT as) :=
  is_t h1 (isL_cons (is_t h2 isL_nil) (isL_cons (is_t h3 h4) isL_nil))
section
variable {P : Program} {w : World} {K : PySem.W.Frag} {mg : Str → Option Value} {base : Heap}
def N_l_simple : List Str := ["_law_draws_here", "_law_world_here", "_law_tables", "_law_body", "_law_k"]
def p_l_simple : List Str := ["_law_draws_here", "_law_world_here"]
theorem sc_l_simple : FnScope N_l_simple p_l_simple (defScope s_l_simple) := ⟨rfl, rfl, rfl, by decide +kernel, rfl, by decide +kernel, by decide +kernel⟩
def sp_l_simple (least : Nat) : Sp := fun vs H Q _ => ∃ (dr wa : Addr) (tabs : List (Str × Nat)) (vars : List Str) (a b c : Key), vs = [.ref dr, .ref wa] ∧ Dw dr H ∧ WorldI H dr wa tabs vars a b c ∧ TabsOk tabs ∧ VarsOk vars ∧
  ∀ v (as : List Atom) H', But dr H H' → Dw dr H' → Is H' v (joT as) → JoinOk tabs vars a b c as → Q v H'
theorem ok_l_simple (G_l_take : Ok P w K mg base 1 "_law_take" p_l_take sp_l_take) (G_l_atom : Ok P w K mg base 4 "_law_atom" p_l_atom sp_l_atom) (T : Tx K mg) : Ok P w K mg base 5 "_law_simple" p_l_simple (sp_l_simple 0) := by
  refine T.ok i_l_simple sc_l_simple (fun _ _ _ _ _ _ us h => by match us, h with | [_, _], _ => rfl) (fun vs H Q E h => by obtain ⟨_, _, _, _, _, _, _, rfl, _⟩ := h; rfl) (fun f cdv A outer s H vs Q E hr h => ?_)
  obtain ⟨dr, wa, tabs, vars, a, b, c, rfl, dw, hwo, tok, vok, q⟩ := h
  have nd := sc_l_simple.nd
  refine ⟨_, (pss_cons (ps_set (i := 2) nd rfl (Or.inl rfl) (pe_callTy call_list_of (by rfl) (T.bl "list" (by decide)) (by decide +kernel) (pa_cons (pe_ix ix_list (pv 1) pe_int (fun _ _ => rfl)) pa_nil)))
      (pss_cons (ps_set (i := 3) nd rfl (Or.inl rfl) (pe_lst pa_nil))
      (pss_cons (ps_for PassesOwn.never rfl (pi_range1 rfl (T.bl "range" (by decide)) (pa_cons (pe_ix ix_list (pe_lst (pa_cons pe_int (pa_cons pe_int (pa_cons pe_int (pa_cons pe_int (pa_cons pe_int (pa_cons pe_int pa_nil))))))) (pe_ok G_l_take (hr.mono (by first | decide | omega)) rfl (pa_cons (pv 0) (pa_cons pe_int pa_nil))) (fun _ _ => rfl)) pa_nil)) (pg_name (i := 4) nd rfl (Or.inl rfl))
        (pss_one (ps_if (pt_cmpR op_gt (pe_callB call_len (by rfl) (T.bl "len" (by decide)) (by decide +kernel) (pa_cons (pv 2) pa_nil)) pe_int (nomark _))
          (pss_one (ps_expr (pe_bm PySem.F.plainAttrs_list PySem.F.slot_list_append PySem.F.type_list_append mt_append (pv 3) (pa_cons (pe_ok G_l_atom (hr.mono (by first | decide | omega)) rfl (pa_cons (pv 0) (pa_cons (pv 1) (pa_cons (pe_bm PySem.F.plainAttrs_list PySem.F.slot_list_pop PySem.F.type_list_pop mt_popAt (pv 2) (pa_cons (pe_ok G_l_take (hr.mono (by first | decide | omega)) rfl (pa_cons (pv 0) (pa_cons (pe_callB call_len (by rfl) (T.bl "len" (by decide)) (by decide +kernel) (pa_cons (pv 2) pa_nil)) pa_nil))) pa_nil)) pa_nil)))) pa_nil))))
          pss_nil)))
      (pss_one (ps_ret (pe_tup (pa_cons (pe_tup pa_nil) (pa_cons (pe_callTy call_tuple_of (by rfl) (T.bl "tuple" (by decide)) (by decide +kernel) (pa_cons (pv 3) pa_nil)) pa_nil)))))))), ?_⟩
  obtain ⟨sc, vl, kl, hwa, nwa, nvl, nkl, hsc, hvl, hkl⟩ := id hwo
  obtain ⟨sa, sxs, esc, hsa, hsx⟩ := is_t_inv hsc
  injection esc with esc
  subst esc
  refine ⟨.ref wa, rfl, wa, _, 0, .ref sc, rfl, rfl, .inl (.inl hwa), rfl, sc, sxs, rfl, .inr (.inl (.inl hsa)), fun tl htl => ?_⟩
  have s1 := Same.new (o := .lst sxs) htl
  have ntl := dw.out htl
  dsimp only [gName]
  refine ⟨Nat.zero_le _, fun bl hbl => ?_⟩
  have s2 := Same.new (o := .lst []) hbl
  have nbl := (dw.same s1).out hbl
  have ntb : tl ≠ bl := fun z => by rw [← z, upd_same] at hbl; cases hbl
  dsimp only [gName]
  have dw2 := (dw.same s1).same s2
  refine ⟨le_line (by decide), fun c6 hc6 => ?_⟩
  have s3 := Same.new (o := .lst [.int 3, .int 2, .int 3, .int 4, .int 1, .int 2]) hc6
  have n6 := dw2.out hc6
  refine ⟨.ref dr, rfl, dr, 6, rfl, by decide, dw2.same s3, fun i H4 b4 dw4 i0 i6 => ?_⟩
  obtain ⟨n, gn, nm, _⟩ := ints_all (ns := [3, 2, 3, 4, 1, 2]) (m := 4) i0 (by simpa using i6) (by simp)
  refine ⟨c6, _, i, _, rfl, rfl, .inl (.inl (b4 _ _ n6 upd_same)), gn, n, rfl, by omega, by omega, ?_⟩
  rw [Int.toNat_natCast]
  have htl2 := b4 _ _ ntl (s3 _ _ (s2 _ _ upd_same))
  have hbl2 := b4 _ _ nbl (s3 _ _ upd_same)
  have b04 := But.trans (But.of (same_tr s1 (same_tr s2 s3))) b4
  have hbl0 : H bl = none := none_back s1 hbl
  refine j_rng (fun i σ H' => ∃ (k : Option V) (as : List Atom) (rem : List (Str × Nat)) (xs ys : List V), σ = [some (.ref dr), some (.ref wa), some (.ref tl), some (.ref bl), k] ∧ But dr H H' ∧ Dw dr H' ∧ H' tl = some (.lst xs) ∧ IsL H' xs (rem.map tabT) ∧ H' bl = some (.lst ys) ∧ IsL H' ys (as.map atT) ∧ Part tabs vars a b c as rem ∧ as.length ≤ i)
    ⟨_, [], tabs, sxs, [], rfl, b04, dw4, htl2, IsL.mono (dw.tk b04) _ _ hsx, hbl2, isL_nil, ⟨by simpa using tok.nd, fun _ h => h, fun _ h => (by cases h), fun _ h => (by cases h), tok.few⟩, Nat.le_refl _⟩ (fun σ H' h => ?_) (fun i σ H' hi h => ?_)
  · obtain ⟨k, as, rem, xs, ys, rfl, b5, dw5, htl5, hxs, hbl5, hys, pt, la⟩ := h
    refine ⟨Nat.zero_le _, fun e0 he0 => ?_⟩
    have s6 := Same.new (o := .tup []) he0
    refine ⟨.ref bl, rfl, bl, ys, rfl, .inl ⟨.inl (.inl (s6 _ _ hbl5)), fun r hr2 => ⟨small2, fun p hp => ?_⟩⟩⟩
    have s7 := Same.new (o := .tup ys) hr2
    have s8 := Same.new (o := .tup [.ref e0, .ref r]) hp
    have s68 := same_tr s6 (same_tr s7 s8)
    exact q _ as _ (But.trans b5 (But.of s68)) (dw5.same s68) (joT_is upd_same (same_tr s7 s8 _ _ upd_same) (s8 _ _ upd_same) (IsL.mono (TK.of s68) _ _ hys)) (pt.join (by omega))
  · obtain ⟨k, as, rem, xs, ys, rfl, b5, dw5, htl5, hxs, hbl5, hys, pt, la⟩ := h
    have r6 := pt.six
    have lx : xs.length = rem.length := by rw [hxs.length, List.length_map]
    dsimp only [gName]
    refine ⟨.ref tl, rfl, _, _, rfl, .inl ⟨_, .inl (.inl htl5), rfl⟩, _, _, rfl, rfl, decide ((0 : Int) < xs.length), rfl, ?_⟩
    by_cases z0 : (0 : Int) < xs.length
    · rw [decide_eq_true z0]
      refine ⟨.ref bl, rfl, .inl ⟨rfl, _, .inl (.inl hbl5)⟩, .ref dr, rfl, .ref wa, rfl, .ref tl, rfl, .inl ⟨rfl, _, .inl (.inl htl5)⟩, .ref dr, rfl, .ref tl, rfl, _, _, rfl, .inl ⟨_, .inl (.inl htl5), rfl⟩, dr, xs.length, rfl, by omega, dw5, fun j H6 b6 dw6 j0 jx => ?_⟩
      have htl6 := b6 _ _ ntl htl5
      have hjx : j.toNat < xs.length := by omega
      have gx := List.getElem?_eq_getElem hjx
      obtain ⟨dt, edt, ht⟩ := hxs.get' gx
      obtain ⟨tb, etb, e3⟩ := map_get edt
      subst e3
      refine ⟨tl, xs, j, j.toNat, _, rfl, rfl, htl6, by omega, by omega, seqIx j0 jx, gx, ?_⟩
      have tk6 := dw5.tk b6
      have tkp := TK.putL (o := .lst (xs.eraseIdx j.toNat)) htl6
      have dw7 := dw6.upd_ne (o := .lst (xs.eraseIdx j.toNat)) ntl
      have b57 : But dr H (upd H6 tl (.lst (xs.eraseIdx j.toNat))) := (But.trans b5 b6).mut htl
      refine ⟨dr, wa, _, tabs, vars, a, b, c, tb, rfl, dw7, hwo.mono b57 dw, vok, Is.mono tkp _ _ (Is.mono tk6 _ _ ht), (tok.ok tb (pt.left tb (List.mem_of_getElem? etb))).2, fun v at_ H8 b8 dw8 hv e1 e2 hok => ?_⟩
      have hbl7 : (upd H6 tl (.lst (xs.eraseIdx j.toNat))) bl = some (.lst ys) := by rw [upd_ne ntb.symm]; exact b6 _ _ nbl hbl5
      have hbl8 := b8 _ _ nbl hbl7
      have htl8 := b8 _ _ ntl (upd_same (H := H6) (a := tl) (o := .lst (xs.eraseIdx j.toNat)))
      have tk8 := TK.trans tk6 (TK.trans tkp (dw7.tk b8))
      have tkb := TK.putL (o := .lst (ys ++ [v])) hbl8
      have i4 : i < 4 := by omega
      refine ⟨bl, ys, v, rfl, rfl, hbl8, by rw [hys.length, List.length_map]; exact lt_line (by omega), ?_⟩
      refine ⟨_, as ++ [at_], rem.eraseIdx j.toNat, xs.eraseIdx j.toNat, ys ++ [v], rfl, (But.trans b57 b8).mut hbl0, dw8.upd_ne nbl, by rw [upd_ne ntb]; exact htl8, ?_, upd_same, ?_, pt.take etb e1 e2 hok, by rw [List.length_append]; show as.length + 1 ≤ i + 1; omega⟩
      · rw [← map_erase]
        exact IsL.eraseIdx _ (IsL.mono (TK.trans tk8 tkb) _ _ hxs)
      · rw [List.map_append]
        exact IsL.append (IsL.mono (TK.trans tk8 tkb) _ _ hys) (isL_cons (Is.mono tkb _ _ hv) isL_nil)
    · rw [decide_eq_false z0]
      exact ⟨_, as, rem, xs, ys, rfl, b5, dw5, htl5, hxs, hbl5, hys, pt, by omega⟩
def N_l_some_join : List Str := ["_law_draws_here", "_law_world_here", "_law_join"]
def p_l_some_join : List Str := ["_law_draws_here", "_law_world_here"]
theorem sc_l_some_join : FnScope N_l_some_join p_l_some_join (defScope s_l_some_join) := ⟨rfl, rfl, rfl, by decide +kernel, rfl, by decide +kernel, by decide +kernel⟩
theorem ok_l_some_join (G_l_simple : Ok P w K mg base 5 "_law_simple" p_l_simple (sp_l_simple 0)) (G_l_atom : Ok P w K mg base 4 "_law_atom" p_l_atom sp_l_atom) (T : Tx K mg) : Ok P w K mg base 6 "_law_some_join" p_l_some_join (sp_l_simple 1) := by
  refine T.ok i_l_some_join sc_l_some_join (fun _ _ _ _ _ _ us h => by match us, h with | [_, _], _ => rfl) (fun vs H Q E h => by obtain ⟨_, _, _, _, _, _, _, rfl, _⟩ := h; rfl) (fun f cdv A outer s H vs Q E hr h => ?_)
  obtain ⟨dr, wa, tabs, vars, a, b, c, rfl, dw, hwo, tok, vok, q⟩ := h
  have nd := sc_l_some_join.nd
  refine ⟨_, (pss_cons (ps_set (i := 2) nd rfl (Or.inl rfl) (pe_ok G_l_simple (hr.mono (by first | decide | omega)) rfl (pa_cons (pv 0) (pa_cons (pv 1) pa_nil))))
      (Evl.pss_cut (ps_if (pt_cmpR op_eq (pe_callB call_len (by rfl) (T.bl "len" (by decide)) (by decide +kernel) (pa_cons (pe_ix ix_tup (pv 2) pe_int (fun _ _ => rfl)) pa_nil)) pe_int (nomark _))
        (pss_one (ps_set (i := 2) nd rfl (Or.inl rfl) (pe_tup (pa_cons (pe_tup pa_nil) (pa_cons (pe_tup (pa_cons (pe_ok G_l_atom (hr.mono (by first | decide | omega)) rfl (pa_cons (pv 0) (pa_cons (pv 1) (pa_cons (pe_ix ix_tup (pe_ix ix_list (pv 1) pe_int (fun _ _ => rfl)) pe_int (fun _ _ => rfl)) pa_nil)))) pa_nil)) pa_nil)))))
        pss_nil)
      (pss_one (ps_ret (pv 2))))), ?_⟩
  refine ⟨.ref dr, rfl, .ref wa, rfl, dr, wa, tabs, vars, a, b, c, rfl, dw, hwo, tok, vok, fun v as H1 b1 dw1 hv jo => ?_⟩
  dsimp only [gName]
  refine Evl.q_cut (M := fun σ H2 => ∃ v as, σ = [some (.ref dr), some (.ref wa), some v] ∧ But dr H H2 ∧ Dw dr H2 ∧ Is H2 v (joT as) ∧ JoinOk tabs vars a b c as) ?_ (fun σ H2 h => ?_)
  · obtain ⟨j, l, x0, xs, rfl, hj, hl, hxs⟩ := jo_inv hv
    refine ⟨.ref j, rfl, j, _, 1, _, rfl, rfl, .inl (.inl hj), at1, _, _, rfl, .inr ⟨_, .inl (.inl hl), rfl⟩, rfl, decide (xs.length = 0), ?_, ?_⟩
    · by_cases z : xs.length = 0
      · rw [z]; rfl
      · rw [decide_eq_false z]
        exact congrArg V.bl (decide_eq_false fun y => z (by injection y with y; omega))
    · by_cases z : xs.length = 0
      · rw [decide_eq_true z]
        obtain ⟨sc, vl, kl, hwa, nwa, nvl, nkl, hsc, hvl, hkl⟩ := hwo.mono b1 dw
        obtain ⟨sa, sxs, esc, hsa, hsx⟩ := is_t_inv hsc
        injection esc with esc
        subst esc
        obtain ⟨tb, tr, et⟩ : ∃ tb tr, tabs = tb :: tr := by
          match tabs, tok.pos with
          | tb :: tr, _ => exact ⟨tb, tr, rfl⟩
        obtain ⟨tv, etv, htv⟩ := hsx.get (i := 0) (d := tabT tb) (by rw [et]; rfl)
        refine ⟨Nat.zero_le _, fun e0 he0 => ?_⟩
        have s2 := Same.new (o := .tup []) he0
        have b2 := But.trans b1 (But.of s2)
        have dw2 := dw1.same s2
        refine ⟨.ref dr, rfl, .ref wa, rfl, .ref wa, rfl, wa, _, 0, .ref sc, rfl, rfl, .inl (.inl (s2 _ _ hwa)), rfl, sc, sxs, 0, tv, rfl, rfl, .inl (.inl (s2 _ _ hsa)), atI_nat (i := 0) etv, dr, wa, tv, tabs, vars, a, b, c, tb, rfl, dw2, hwo.mono b2 dw, vok, Is.mono (TK.of s2) _ _ htv, (tok.ok tb (by rw [et]; simp)).2, fun av at_ H3 b3 dw3 hav e1 e2 hok => ⟨small1, fun r hr2 => ⟨small2, fun p hp => ?_⟩⟩⟩
        have s4 := Same.new (o := .tup [av]) hr2
        have s5 := Same.new (o := .tup [.ref e0, .ref r]) hp
        have ne0 : e0 ≠ dr := dw1.out he0
        refine ⟨_, [at_], rfl, But.trans b2 (But.trans b3 (But.of (same_tr s4 s5))), dw3.same (same_tr s4 s5), joT_is upd_same (s5 _ _ (s4 _ _ (b3 _ _ ne0 upd_same))) (s5 _ _ upd_same) (isL_cons (Is.mono (TK.of (same_tr s4 s5)) _ _ hav) isL_nil), ⟨by simp, fun x hx => ?_, fun x hx => ?_, by simp⟩⟩
        · rw [List.mem_singleton.mp hx, e1, e2, et]; simp
        · rw [List.mem_singleton.mp hx]; exact hok
      · rw [decide_eq_false z]
        exact ⟨_, as, rfl, b1, dw1, hv, jo⟩
  · obtain ⟨v2, as2, rfl, b2, dw2, hv2, jo2⟩ := h
    exact ⟨v2, rfl, q v2 as2 H2 b2 dw2 hv2 jo2⟩
def N_l_wide_join : List Str := ["_law_draws_here", "_law_world_here", "_law_tables", "_law_body", "_law_k", "_law_table_here"]
def p_l_wide_join : List Str := ["_law_draws_here", "_law_world_here"]
theorem sc_l_wide_join : FnScope N_l_wide_join p_l_wide_join (defScope s_l_wide_join) := ⟨rfl, rfl, rfl, by decide +kernel, rfl, by decide +kernel, by decide +kernel⟩
theorem ok_l_wide_join (G_l_take : Ok P w K mg base 1 "_law_take" p_l_take sp_l_take) (G_l_atom : Ok P w K mg base 4 "_law_atom" p_l_atom sp_l_atom) (T : Tx K mg) : Ok P w K mg base 5 "_law_wide_join" p_l_wide_join (sp_l_simple 0) := by
  refine T.ok i_l_wide_join sc_l_wide_join (fun _ _ _ _ _ _ us h => by match us, h with | [_, _], _ => rfl) (fun vs H Q E h => by obtain ⟨_, _, _, _, _, _, _, rfl, _⟩ := h; rfl) (fun f cdv A outer s H vs Q E hr h => ?_)
  obtain ⟨dr, wa, tabs, vars, a, b, c, rfl, dw, hwo, tok, vok, q⟩ := h
  have nd := sc_l_wide_join.nd
  refine ⟨_, (pss_cons (ps_set (i := 2) nd rfl (Or.inl rfl) (pe_callTy call_list_of (by rfl) (T.bl "list" (by decide)) (by decide +kernel) (pa_cons (pe_ix ix_list (pv 1) pe_int (fun _ _ => rfl)) pa_nil)))
      (pss_cons (ps_set (i := 3) nd rfl (Or.inl rfl) (pe_lst pa_nil))
      (pss_cons (ps_for PassesOwn.never rfl (pi_range1 rfl (T.bl "range" (by decide)) (pa_cons (pe_callB call_len (by rfl) (T.bl "len" (by decide)) (by decide +kernel) (pa_cons (pe_ix ix_list (pv 1) pe_int (fun _ _ => rfl)) pa_nil)) pa_nil)) (pg_name (i := 4) nd rfl (Or.inl rfl))
        (pss_cons (ps_set (i := 5) nd rfl (Or.inl rfl) (pe_bm PySem.F.plainAttrs_list PySem.F.slot_list_pop PySem.F.type_list_pop mt_popAt (pv 2) (pa_cons (pe_ok G_l_take (hr.mono (by first | decide | omega)) rfl (pa_cons (pv 0) (pa_cons (pe_callB call_len (by rfl) (T.bl "len" (by decide)) (by decide +kernel) (pa_cons (pv 2) pa_nil)) pa_nil))) pa_nil)))
        (pss_one (ps_if (PW.pt (pw_or (pt_cmpR op_eq (pe_callB call_len (by rfl) (T.bl "len" (by decide)) (by decide +kernel) (pa_cons (pv 3) pa_nil)) pe_int (nomark _)) (pw_or1 (pt_cmpR op_gt (pe_ok G_l_take (hr.mono (by first | decide | omega)) rfl (pa_cons (pv 0) (pa_cons pe_int pa_nil))) pe_int (nomark _)))))
          (pss_one (ps_expr (pe_bm PySem.F.plainAttrs_list PySem.F.slot_list_append PySem.F.type_list_append mt_append (pv 3) (pa_cons (pe_ok G_l_atom (hr.mono (by first | decide | omega)) rfl (pa_cons (pv 0) (pa_cons (pv 1) (pa_cons (pv 5) pa_nil)))) pa_nil))))
          pss_nil))))
      (pss_one (ps_ret (pe_tup (pa_cons (pe_tup pa_nil) (pa_cons (pe_callTy call_tuple_of (by rfl) (T.bl "tuple" (by decide)) (by decide +kernel) (pa_cons (pv 3) pa_nil)) pa_nil)))))))), ?_⟩
  obtain ⟨sc, vl, kl, hwa, nwa, nvl, nkl, hsc, hvl, hkl⟩ := id hwo
  obtain ⟨sa, sxs, esc, hsa, hsx⟩ := is_t_inv hsc
  injection esc with esc
  subst esc
  have lsx : sxs.length = tabs.length := by rw [hsx.length, List.length_map]
  refine ⟨.ref wa, rfl, wa, _, 0, .ref sc, rfl, rfl, .inl (.inl hwa), rfl, sc, sxs, rfl, .inr (.inl (.inl hsa)), fun tl htl => ?_⟩
  have s1 := Same.new (o := .lst sxs) htl
  have ntl := dw.out htl
  dsimp only [gName]
  refine ⟨Nat.zero_le _, fun bl hbl => ?_⟩
  have s2 := Same.new (o := .lst []) hbl
  have nbl := (dw.same s1).out hbl
  have ntb : tl ≠ bl := fun z => by rw [← z, upd_same] at hbl; cases hbl
  dsimp only [gName]
  have s12 := same_tr s1 s2
  have dw2 := dw.same s12
  have hbl0 : H bl = none := none_back s1 hbl
  have t6 := tok.few
  refine ⟨.ref wa, rfl, wa, _, 0, .ref sc, rfl, rfl, .inl (.inl (s12 _ _ hwa)), rfl, _, _, rfl, .inr ⟨_, .inl (.inl (s12 _ _ hsa)), rfl⟩, sxs.length, rfl, by omega, by omega, ?_⟩
  rw [Int.toNat_natCast, lsx]
  refine j_rng (fun i σ H' => ∃ (k tb_ : Option V) (as : List Atom) (rem : List (Str × Nat)) (xs ys : List V), σ = [some (.ref dr), some (.ref wa), some (.ref tl), some (.ref bl), k, tb_] ∧ But dr H H' ∧ Dw dr H' ∧ H' tl = some (.lst xs) ∧ IsL H' xs (rem.map tabT) ∧ H' bl = some (.lst ys) ∧ IsL H' ys (as.map atT) ∧ Part tabs vars a b c as rem ∧ as.length ≤ i ∧ rem.length + i = tabs.length)
    ⟨_, _, [], tabs, sxs, [], rfl, But.of s12, dw2, s2 _ _ upd_same, IsL.mono (TK.of s12) _ _ hsx, upd_same, isL_nil, ⟨by simpa using tok.nd, fun _ h => h, fun _ h => (by cases h), fun _ h => (by cases h), t6⟩, Nat.le_refl _, rfl⟩ (fun σ H' h => ?_) (fun i σ H' hi h => ?_)
  · obtain ⟨k, tb_, as, rem, xs, ys, rfl, b5, dw5, htl5, hxs, hbl5, hys, pt, la, _⟩ := h
    refine ⟨Nat.zero_le _, fun e0 he0 => ?_⟩
    have s6 := Same.new (o := .tup []) he0
    refine ⟨.ref bl, rfl, bl, ys, rfl, .inl ⟨.inl (.inl (s6 _ _ hbl5)), fun r hr2 => ⟨small2, fun p hp => ?_⟩⟩⟩
    have s7 := Same.new (o := .tup ys) hr2
    have s8 := Same.new (o := .tup [.ref e0, .ref r]) hp
    have s68 := same_tr s6 (same_tr s7 s8)
    exact q _ as _ (But.trans b5 (But.of s68)) (dw5.same s68) (joT_is upd_same (same_tr s7 s8 _ _ upd_same) (s8 _ _ upd_same) (IsL.mono (TK.of s68) _ _ hys)) (pt.join (by omega))
  · obtain ⟨k, tb_, as, rem, xs, ys, rfl, b5, dw5, htl5, hxs, hbl5, hys, pt, la, lr⟩ := h
    have r6 := pt.six
    have lx : xs.length = rem.length := by rw [hxs.length, List.length_map]
    dsimp only [gName]
    refine ⟨.ref tl, rfl, .inl ⟨rfl, _, .inl (.inl htl5)⟩, .ref dr, rfl, .ref tl, rfl, _, _, rfl, .inl ⟨_, .inl (.inl htl5), rfl⟩, dr, xs.length, rfl, by omega, dw5, fun j H6 b6 dw6 j0 jx => ?_⟩
    have htl6 := b6 _ _ ntl htl5
    have hjx : j.toNat < xs.length := by omega
    have gx := List.getElem?_eq_getElem hjx
    obtain ⟨dt, edt, ht⟩ := hxs.get' gx
    obtain ⟨tb, etb, e3⟩ := map_get edt
    subst e3
    refine ⟨tl, xs, j, j.toNat, _, rfl, rfl, htl6, by omega, by omega, seqIx j0 jx, gx, ?_⟩
    have tk6 := dw5.tk b6
    have tkp := TK.putL (o := .lst (xs.eraseIdx j.toNat)) htl6
    have dw7 := dw6.upd_ne (o := .lst (xs.eraseIdx j.toNat)) ntl
    have b57 : But dr H (upd H6 tl (.lst (xs.eraseIdx j.toNat))) := (But.trans b5 b6).mut htl
    have hbl7 : (upd H6 tl (.lst (xs.eraseIdx j.toNat))) bl = some (.lst ys) := by rw [upd_ne ntb.symm]; exact b6 _ _ nbl hbl5
    have htl7 : (upd H6 tl (.lst (xs.eraseIdx j.toNat))) tl = some (.lst (xs.eraseIdx j.toNat)) := upd_same
    have tk7 := TK.trans tk6 tkp
    have tb3 := (tok.ok tb (pt.left tb (List.mem_of_getElem? etb))).2
    have le1 : (rem.eraseIdx j.toNat).length + 1 = rem.length := by
      have := (perm_erase etb).length_eq
      rw [List.length_cons] at this
      omega
    generalize (upd H6 tl (.lst (xs.eraseIdx j.toNat))) = H7 at tkp dw7 b57 hbl7 htl7 tk7 ⊢
    dsimp only [gName]
    have add : ∀ H0, But dr H7 H0 → Dw dr H0 → (tDrop (tBM K "list" rAppend (tVar 3) (tCons (tCall sp_l_atom [] E0 (tCons (tVar 0) (tCons (tVar 1) (tCons (tVar 5) tNil)))) tNil))) = (tDrop (tBM K "list" rAppend (tVar 3) (tCons (tCall sp_l_atom [] E0 (tCons (tVar 0) (tCons (tVar 1) (tCons (tVar 5) tNil)))) tNil))) := fun _ _ _ => rfl
    have app : ∀ H0, But dr H7 H0 → Dw dr H0 → ∀ (N : L2.St → Hp → Prop), (∀ v at_ H8, But dr H0 H8 → Dw dr H8 → Is H8 v (atT at_) → at_.1 = tb.1 → at_.2.length = tb.2 → AtOk vars a b c at_ → N [some (.ref dr), some (.ref wa), some (.ref tl), some (.ref bl), some (.int i), some xs[j.toNat]] (upd H8 bl (.lst (ys ++ [v])))) →
        (tBM K "list" rAppend (tVar 3) (tCons (tCall sp_l_atom [] E0 (tCons (tVar 0) (tCons (tVar 1) (tCons (tVar 5) tNil)))) tNil)) [some (.ref dr), some (.ref wa), some (.ref tl), some (.ref bl), some (.int i), some xs[j.toNat]] H0 (fun _ H1 => N [some (.ref dr), some (.ref wa), some (.ref tl), some (.ref bl), some (.int i), some xs[j.toNat]] H1) := fun H0 b0 dw0 N hN => by
      have hbl0' := b0 _ _ nbl hbl7
      refine ⟨.ref bl, rfl, .inl ⟨rfl, _, .inl (.inl hbl0')⟩, .ref dr, rfl, .ref wa, rfl, _, rfl, dr, wa, xs[j.toNat], tabs, vars, a, b, c, tb, rfl, dw0, hwo.mono (But.trans b57 b0) dw, vok, Is.mono (dw7.tk b0) _ _ (Is.mono tk7 _ _ ht), tb3, fun v at_ H8 b8 dw8 hv e1 e2 hok => ?_⟩
      exact ⟨bl, ys, v, rfl, rfl, b8 _ _ nbl hbl0', by rw [hys.length, List.length_map]; exact lt_line (by omega), hN v at_ H8 b8 dw8 hv e1 e2 hok⟩
    have fin : ∀ v at_ H8, But dr H7 H8 → Dw dr H8 → Is H8 v (atT at_) → at_.1 = tb.1 → at_.2.length = tb.2 → AtOk vars a b c at_ → ∃ (k tb_ : Option V) (as' : List Atom) (rem' : List (Str × Nat)) (xs' ys' : List V), [some (.ref dr), some (.ref wa), some (.ref tl), some (.ref bl), some (.int i), some xs[j.toNat]] = [some (.ref dr), some (.ref wa), some (.ref tl), some (.ref bl), k, tb_] ∧ But dr H (upd H8 bl (.lst (ys ++ [v]))) ∧ Dw dr (upd H8 bl (.lst (ys ++ [v]))) ∧ (upd H8 bl (.lst (ys ++ [v]))) tl = some (.lst xs') ∧ IsL (upd H8 bl (.lst (ys ++ [v]))) xs' (rem'.map tabT) ∧ (upd H8 bl (.lst (ys ++ [v]))) bl = some (.lst ys') ∧ IsL (upd H8 bl (.lst (ys ++ [v]))) ys' (as'.map atT) ∧ Part tabs vars a b c as' rem' ∧ as'.length ≤ i + 1 ∧ rem'.length + (i + 1) = tabs.length := fun v at_ H8 b8 dw8 hv e1 e2 hok => by
      have tkb := TK.putL (o := .lst (ys ++ [v])) (b8 _ _ nbl hbl7)
      have tk8 := TK.trans tk7 (TK.trans (dw7.tk b8) tkb)
      refine ⟨_, _, as ++ [at_], rem.eraseIdx j.toNat, xs.eraseIdx j.toNat, ys ++ [v], rfl, (But.trans b57 b8).mut hbl0, dw8.upd_ne nbl, by rw [upd_ne ntb]; exact b8 _ _ ntl htl7, ?_, upd_same, ?_, pt.take etb e1 e2 hok, by rw [List.length_append]; show as.length + 1 ≤ i + 1; omega, by omega⟩
      · rw [← map_erase]
        exact IsL.eraseIdx _ (IsL.mono tk8 _ _ hxs)
      · rw [List.map_append]
        exact IsL.append (IsL.mono tk8 _ _ hys) (isL_cons (Is.mono tkb _ _ hv) isL_nil)
    refine ⟨.ref bl, rfl, _, _, rfl, .inl ⟨_, .inl (.inl hbl7), rfl⟩, rfl, decide (ys.length = 0), ?_, ?_⟩
    · by_cases z : ys.length = 0
      · rw [z]; rfl
      · rw [decide_eq_false z]
        exact congrArg V.bl (decide_eq_false fun y => z (by injection y with y; omega))
    · by_cases z : ys.length = 0
      · rw [decide_eq_true z]
        exact app H7 (But.refl _ _) dw7 _ fun v at_ H8 b8 dw8 hv e1 e2 hok => fin v at_ H8 b8 dw8 hv e1 e2 hok
      · rw [decide_eq_false z]
        refine ⟨.ref dr, rfl, dr, 5, rfl, by decide, dw7, fun g H9 b9 dw9 g0 g5 => ⟨_, _, rfl, rfl, decide (0 < g), rfl, ?_⟩⟩
        by_cases z2 : 0 < g
        · rw [decide_eq_true z2]
          exact app H9 b9 dw9 _ fun v at_ H8 b8 dw8 hv e1 e2 hok => fin v at_ H8 (But.trans b9 b8) dw8 hv e1 e2 hok
        · rw [decide_eq_false z2]
          refine ⟨_, _, as, rem.eraseIdx j.toNat, xs.eraseIdx j.toNat, ys, rfl, But.trans b57 b9, dw9, b9 _ _ ntl htl7, ?_, b9 _ _ nbl hbl7, IsL.mono (TK.trans tk7 (dw7.tk b9)) _ _ hys, pt.drop, by omega, by omega⟩
          rw [← map_erase]
          exact IsL.eraseIdx _ (IsL.mono (TK.trans tk7 (dw7.tk b9)) _ _ hxs)
def N_l_some_world : List Str := ["_law_draws_here", "_law_world_here"]
def p_l_some_world : List Str := ["_law_draws_here"]
theorem sc_l_some_world : FnScope N_l_some_world p_l_some_world (defScope s_l_some_world) := ⟨rfl, rfl, rfl, by decide +kernel, rfl, by decide +kernel, by decide +kernel⟩
def sp_l_some_world : Sp := fun vs H Q _ => ∃ dr : Addr, vs = [.ref dr] ∧ Dw dr H ∧ ∀ (pa wa : Addr) (jv : V) tabs vars a b c as H', But dr H H' → Dw dr H' → pa ≠ dr → H' pa = some (.lst [.ref wa, jv]) → WorldI H' dr wa tabs vars a b c → TabsOk tabs → VarsOk vars → Is H' jv (joT as) → JoinOk tabs vars a b c as → Q (.ref pa) H'
theorem ok_l_some_world (G_l_take : Ok P w K mg base 1 "_law_take" p_l_take sp_l_take) (G_l_wide_world : Ok P w K mg base 4 "_law_wide_world" p_l_wide_world sp_l_world) (G_l_world : Ok P w K mg base 3 "_law_world" p_l_world sp_l_world) (G_l_wide_join : Ok P w K mg base 5 "_law_wide_join" p_l_wide_join (sp_l_simple 0))
    (G_l_some_join : Ok P w K mg base 6 "_law_some_join" p_l_some_join (sp_l_simple 1)) (T : Tx K mg) : Ok P w K mg base 7 "_law_some_world" p_l_some_world sp_l_some_world := by
  refine T.ok i_l_some_world sc_l_some_world (fun _ _ _ _ _ _ us h => by match us, h with | [_], _ => rfl) (fun vs H Q E h => by obtain ⟨_, rfl, _⟩ := h; rfl) (fun f cdv A outer s H vs Q E hr h => ?_)
  obtain ⟨dr, rfl, dw, q⟩ := h
  have nd := sc_l_some_world.nd
  refine ⟨_, (pss_cons (ps_if (pt_cmpR op_eq (pe_ok G_l_take (hr.mono (by first | decide | omega)) rfl (pa_cons (pv 0) (pa_cons pe_int pa_nil))) pe_int (nomark _))
        (pss_cons (ps_set (i := 1) nd rfl (Or.inl rfl) (pe_ok G_l_wide_world (hr.mono (by first | decide | omega)) rfl (pa_cons (pv 0) pa_nil)))
        (pss_one (ps_ret (pe_lst (pa_cons (pv 1) (pa_cons (pe_ok G_l_wide_join (hr.mono (by first | decide | omega)) rfl (pa_cons (pv 0) (pa_cons (pv 1) pa_nil))) pa_nil))))))
        pss_nil)
      (pss_cons (ps_set (i := 1) nd rfl (Or.inl rfl) (pe_ok G_l_world (hr.mono (by first | decide | omega)) rfl (pa_cons (pv 0) pa_nil)))
      (pss_one (ps_ret (pe_lst (pa_cons (pv 1) (pa_cons (pe_ok G_l_some_join (hr.mono (by first | decide | omega)) rfl (pa_cons (pv 0) (pa_cons (pv 1) pa_nil))) pa_nil))))))), ?_⟩
  refine ⟨.ref dr, rfl, dr, 2, rfl, by decide, dw, fun i H1 b1 dw1 i0 i2 => ⟨rfl, decide (i = 0), ?_, ?_⟩⟩
  · by_cases z : i = 0
    · rw [z]; rfl
    · rw [decide_eq_false z]
      exact congrArg V.bl (decide_eq_false fun y => z (by injection y))
  · by_cases z : i = 0
    · rw [decide_eq_true z]
      refine ⟨.ref dr, rfl, dr, rfl, dw1, fun wa tabs vars a b c H2 b2 dw2 hwo tok vok => ?_⟩
      dsimp only [gName]
      refine ⟨.ref wa, rfl, .ref dr, rfl, .ref wa, rfl, dr, wa, tabs, vars, a, b, c, rfl, dw2, hwo, tok, vok, fun jv as H3 b3 dw3 hj jo => ⟨small2, fun pa hpa => ?_⟩⟩
      have s4 := Same.new (o := .lst [.ref wa, jv]) hpa
      exact q pa wa jv tabs vars a b c as _ (But.trans b1 (But.trans b2 (But.trans b3 (But.of s4)))) (dw3.same s4) (dw3.out hpa) upd_same (hwo.mono (But.trans b3 (But.of s4)) dw2) tok vok (Is.mono (TK.of s4) _ _ hj) jo
    · rw [decide_eq_false z]
      refine ⟨.ref dr, rfl, dr, rfl, dw1, fun wa tabs vars a b c H2 b2 dw2 hwo tok vok => ?_⟩
      dsimp only [gName]
      refine ⟨.ref wa, rfl, .ref dr, rfl, .ref wa, rfl, dr, wa, tabs, vars, a, b, c, rfl, dw2, hwo, tok, vok, fun jv as H3 b3 dw3 hj jo => ⟨small2, fun pa hpa => ?_⟩⟩
      have s4 := Same.new (o := .lst [.ref wa, jv]) hpa
      exact q pa wa jv tabs vars a b c as _ (But.trans b1 (But.trans b2 (But.trans b3 (But.of s4)))) (dw3.same s4) (dw3.out hpa) upd_same (hwo.mono (But.trans b3 (But.of s4)) dw2) tok vok (Is.mono (TK.of s4) _ _ hj) jo
end
end K48
set_option maxRecDepth 100000
set_option maxHeartbeats 8000000
namespace K48
open PySem PySem.Spec PyProof.Rows L2 RZ
mutual
def psz : Pl → Nat
  | .scan _ => 1
  | .proj _ q => psz q + 1
  | .join ps => pszs ps + 1
def pszs : List Pl → Nat
  | [] => 0
  | p :: ps => psz p + pszs ps
end
mutual
theorem ht_psz : ∀ p : Pl, ht p ≤ psz p
  | .scan _ => by rw [ht, psz]; omega
  | .proj _ q => by have := ht_psz q; rw [ht, psz]; omega
  | .join ps => by have := hts_psz ps; rw [ht, psz]; omega
theorem hts_psz : ∀ ps : List Pl, hts ps ≤ pszs ps
  | [] => Nat.le_refl _
  | p :: ps => by have := ht_psz p; have := hts_psz ps; rw [hts, pszs]; omega
end
theorem pszs_append : ∀ a b : List Pl, pszs (a ++ b) = pszs a + pszs b
  | [], b => by simp [pszs]
  | p :: a, b => by rw [List.cons_append, pszs, pszs, pszs_append a b]; omega
theorem psz_mem {ps : List Pl} {p : Pl} (h : p ∈ ps) : psz p ≤ pszs ps := by
  obtain ⟨a, b, e⟩ := List.append_of_mem h
  rw [e, pszs_append, pszs]
  omega
theorem pszs_take (ps : List Pl) (i : Nat) : pszs (ps.take i) ≤ pszs ps := by
  have h := pszs_append (ps.take i) (ps.drop i)
  rw [List.take_append_drop] at h
  omega
mutual
def partsP : Pl → List Pl
  | .scan i => [.scan i]
  | .proj x q => .proj x q :: partsP q
  | .join ps => .join ps :: partsPs ps
def partsPs : List Pl → List Pl
  | [] => []
  | p :: ps => partsP p ++ partsPs ps
end
mutual
theorem parts_len : ∀ p : Pl, (partsP p).length = psz p
  | .scan i => by rw [partsP, psz]; rfl
  | .proj x q => by rw [partsP, psz, List.length_cons, parts_len q]
  | .join ps => by rw [partsP, psz, List.length_cons, partss_len ps]
theorem partss_len : ∀ ps : List Pl, (partsPs ps).length = pszs ps
  | [] => by rw [partsPs, pszs]; rfl
  | p :: ps => by rw [partsPs, pszs, List.length_append, parts_len p, partss_len ps]
end
theorem partsPs_append : ∀ a b : List Pl, partsPs (a ++ b) = partsPs a ++ partsPs b
  | [], b => by simp [partsPs]
  | p :: a, b => by rw [List.cons_append, partsPs, partsPs, partsPs_append a b, List.append_assoc]
def intsV (l : List Nat) : List V := l.map fun (n : Nat) => V.int (n : Int)
section
variable {P : Program} {w : World} {K : PySem.W.Frag} {mg : Str → Option Value} {base : Heap}
def N_l_beneath : List Str := ["_law_plan_here", "_law_found", "_law_part"]
def p_l_beneath : List Str := ["_law_plan_here"]
theorem sc_l_beneath : FnScope N_l_beneath p_l_beneath (defScope s_l_beneath) := ⟨rfl, rfl, rfl, by decide +kernel, rfl, by decide +kernel, by decide +kernel⟩
def sp_l_beneath (h : Nat) : Sp := fun vs H Q _ => ∃ (v : V) (p : Pl), vs = [v] ∧ Is H v (plT p) ∧ psz p < h ∧ (beneath p).length ≤ 100 ∧ ∀ (l : Addr) H', Same H H' → H' l = some (.lst (intsV (beneath p))) → Q (.ref l) H'
theorem ok_l_beneath (T : Tx K mg) : ∀ h : Nat, Ok P w K mg base (h + 1) "_law_beneath" p_l_beneath (sp_l_beneath h)
  | 0 => by
    refine T.ok i_l_beneath sc_l_beneath (fun _ _ _ _ _ _ us h => by match us, h with | [_], _ => rfl) (fun vs H Q E h => by obtain ⟨_, _, rfl, _⟩ := h; rfl) (fun f cdv A outer s H vs Q E hr h => ?_)
    obtain ⟨_, _, _, _, z, _⟩ := h
    exact absurd z (Nat.not_lt_zero _)
  | h + 1 => by
    have G_l_beneath := ok_l_beneath T h
    refine T.ok i_l_beneath sc_l_beneath (fun _ _ _ _ _ _ us h => by match us, h with | [_], _ => rfl) (fun vs H Q E h => by obtain ⟨_, _, rfl, _⟩ := h; rfl) (fun f cdv A outer s H vs Q E hr hs => ?_)
    obtain ⟨v, p, rfl, hv, hh, few, q⟩ := hs
    have nd := sc_l_beneath.nd
    refine ⟨_, (pss_cons (ps_if (pt_cmpR op_eq (pe_ix ix_tup (pv 0) pe_int (fun _ _ => rfl)) pe_str (nomark _))
        (pss_one (ps_ret (pe_lst (pa_cons (pe_ix ix_tup (pv 0) pe_int (fun _ _ => rfl)) pa_nil))))
        pss_nil)
      (pss_cons (ps_if (pt_cmpR op_eq (pe_ix ix_tup (pv 0) pe_int (fun _ _ => rfl)) pe_str (nomark _))
        (pss_one (ps_ret (pe_ok G_l_beneath (hr.mono (by first | decide | omega)) rfl (pa_cons (pe_ix ix_tup (pv 0) pe_int (fun _ _ => rfl)) pa_nil))))
        pss_nil)
      (pss_cons (ps_set (i := 1) nd rfl (Or.inl rfl) (pe_lst pa_nil))
      (pss_cons (ps_for PassesOwn.never rfl (pi_tup (pe_ix ix_tup (pv 0) pe_int (fun _ _ => rfl))) (pg_name (i := 2) nd rfl (Or.inl rfl))
        (pss_one (ps_set (i := 1) nd rfl (Or.inl rfl) (pe_op op_cat (pv 1) (pe_ok G_l_beneath (hr.mono (by first | decide | omega)) rfl (pa_cons (pv 2) pa_nil))))))
      (pss_one (ps_ret (pv 1))))))), ?_⟩
    cases p with
    | scan i =>
      obtain ⟨b, v1, v2, rfl, hb, h1, h2⟩ := two_inv hv
      obtain ⟨rfl, _⟩ := is_s_inv h1
      have e2 := is_i_inv h2
      subst e2
      refine ⟨.ref b, rfl, b, _, 0, _, rfl, rfl, .inl (.inl hb), at0, rfl, true, by decide +kernel, ?_⟩
      refine ⟨.ref b, rfl, b, _, 1, _, rfl, rfl, .inl (.inl hb), at1, small1, fun l hl => q l _ (Same.new hl) ?_⟩
      rw [beneath]; exact upd_same
    | proj x pq =>
      obtain ⟨b, v1, v2, v3, rfl, hb, h1, h2, h3⟩ := three_inv hv
      obtain ⟨rfl, _⟩ := is_s_inv h1
      refine ⟨.ref b, rfl, b, _, 0, _, rfl, rfl, .inl (.inl hb), at30, rfl, false, by decide +kernel, ?_⟩
      refine ⟨.ref b, rfl, b, _, 0, _, rfl, rfl, .inl (.inl hb), at30, rfl, true, by decide +kernel, ?_⟩
      rw [psz] at hh
      rw [beneath] at few
      refine ⟨.ref b, rfl, b, _, 2, _, rfl, rfl, .inl (.inl hb), at32, v3, pq, rfl, h3, by omega, few, fun l H' sm hl => q l H' sm ?_⟩
      rw [beneath]; exact hl
    | join ps =>
      obtain ⟨b, v1, v2, rfl, hb, h1, h2⟩ := two_inv hv
      obtain ⟨rfl, _⟩ := is_s_inv h1
      obtain ⟨pb, pxs, rfl, hpb, hpx⟩ := is_t_inv h2
      rw [psz] at hh
      rw [beneath] at few
      refine ⟨.ref b, rfl, b, _, 0, _, rfl, rfl, .inl (.inl hb), at0, rfl, false, by decide +kernel, ?_⟩
      refine ⟨.ref b, rfl, b, _, 0, _, rfl, rfl, .inl (.inl hb), at0, rfl, false, by decide +kernel, ?_⟩
      refine ⟨Nat.zero_le _, fun n hn => ?_⟩
      have sm1 : Same H (upd H n (.lst [])) := Same.new hn
      refine ⟨.ref b, rfl, b, _, 1, _, rfl, rfl, .inl (.inl (sm1 _ _ hb)), at1, pb, rfl, ⟨_, .inl (.inl (sm1 _ _ hpb))⟩, ?_⟩
      refine j_tup pxs (fun i σ H' => ∃ (pt : Option V) (m : Addr), σ = [some (.ref b), some (.ref m), pt] ∧ Same H H' ∧ H' m = some (.lst (intsV (beneaths (ps.take i)))))
        ⟨_, n, rfl, sm1, upd_same⟩ (fun i σ H' h => by obtain ⟨_, _, _, sm, _⟩ := h; exact .inl (.inl (sm _ _ hpb))) (fun σ H' h => ?_) (fun i x σ H' e h => ?_)
      · obtain ⟨pt, m, rfl, sm, hn'⟩ := h
        have elen : pxs.length = ps.length := by rw [hpx.length, plTs_len]
        rw [elen, List.take_length] at hn'
        exact ⟨.ref m, rfl, q m H' sm (by rw [beneath]; exact hn')⟩
      · obtain ⟨pt, m, rfl, sm, hn'⟩ := h
        obtain ⟨p, ep, mp, hp⟩ := pl_mem hpx e
        have sub := beneath_sub mp
        have := psz_mem mp
        refine ⟨.ref m, rfl, x, rfl, x, p, rfl, Is.mono (TK.of sm) _ _ hp, by omega, Nat.le_trans sub.length_le few, fun c H2 sm2 hc => ?_⟩
        have etk : beneaths (ps.take (i + 1)) = beneaths (ps.take i) ++ beneath p := by
          rw [take_succ ep, beneaths_append]
          simp [beneaths]
        refine ⟨m, c, _, _, rfl, rfl, sm2 _ _ hn', hc, ?_, fun z hz => ⟨_, z, rfl, same_tr sm (same_tr sm2 (Same.new hz)), ?_⟩⟩
        · unfold intsV
          rw [List.length_map, List.length_map, ← List.length_append, ← etk]
          exact le_line (Nat.le_trans (beneaths_take ps (i + 1)).length_le (by omega))
        · rw [upd_same, etk]
          unfold intsV
          rw [List.map_append]
def N_l_parts : List Str := ["_law_plan_here", "_law_found", "_law_part"]
def p_l_parts : List Str := ["_law_plan_here"]
theorem sc_l_parts : FnScope N_l_parts p_l_parts (defScope s_l_parts) := ⟨rfl, rfl, rfl, by decide +kernel, rfl, by decide +kernel, by decide +kernel⟩
def sp_l_parts (h : Nat) : Sp := fun vs H Q _ => ∃ (v : V) (p : Pl), vs = [v] ∧ Is H v (plT p) ∧ psz p < h ∧ psz p ≤ 500 ∧ ∀ (l : Addr) (xs : List V) H', Same H H' → H' l = some (.lst xs) → IsL H' xs (plTs (partsP p)) → Q (.ref l) H'
theorem plTs_append (a b : List Pl) : plTs (a ++ b) = plTs a ++ plTs b := by rw [plTs_eq, plTs_eq, plTs_eq, List.map_append]
theorem ok_l_parts (T : Tx K mg) : ∀ h : Nat, Ok P w K mg base (h + 1) "_law_parts" p_l_parts (sp_l_parts h)
  | 0 => by
    refine T.ok i_l_parts sc_l_parts (fun _ _ _ _ _ _ us h => by match us, h with | [_], _ => rfl) (fun vs H Q E h => by obtain ⟨_, _, rfl, _⟩ := h; rfl) (fun f cdv A outer s H vs Q E hr h => ?_)
    obtain ⟨_, _, _, _, z, _⟩ := h
    exact absurd z (Nat.not_lt_zero _)
  | h + 1 => by
    have G_l_parts := ok_l_parts T h
    refine T.ok i_l_parts sc_l_parts (fun _ _ _ _ _ _ us h => by match us, h with | [_], _ => rfl) (fun vs H Q E h => by obtain ⟨_, _, rfl, _⟩ := h; rfl) (fun f cdv A outer s H vs Q E hr hs => ?_)
    obtain ⟨v, p, rfl, hv, hh, few, q⟩ := hs
    have nd := sc_l_parts.nd
    refine ⟨_, (pss_cons (ps_if (pt_cmpR op_eq (pe_ix ix_tup (pv 0) pe_int (fun _ _ => rfl)) pe_str (nomark _))
        (pss_one (ps_ret (pe_lst (pa_cons (pv 0) pa_nil))))
        pss_nil)
      (pss_cons (ps_if (pt_cmpR op_eq (pe_ix ix_tup (pv 0) pe_int (fun _ _ => rfl)) pe_str (nomark _))
        (pss_one (ps_ret (pe_op op_cat (pe_lst (pa_cons (pv 0) pa_nil)) (pe_ok G_l_parts (hr.mono (by first | decide | omega)) rfl (pa_cons (pe_ix ix_tup (pv 0) pe_int (fun _ _ => rfl)) pa_nil)))))
        pss_nil)
      (pss_cons (ps_set (i := 1) nd rfl (Or.inl rfl) (pe_lst (pa_cons (pv 0) pa_nil)))
      (pss_cons (ps_for PassesOwn.never rfl (pi_tup (pe_ix ix_tup (pv 0) pe_int (fun _ _ => rfl))) (pg_name (i := 2) nd rfl (Or.inl rfl))
        (pss_one (ps_set (i := 1) nd rfl (Or.inl rfl) (pe_op op_cat (pv 1) (pe_ok G_l_parts (hr.mono (by first | decide | omega)) rfl (pa_cons (pv 2) pa_nil))))))
      (pss_one (ps_ret (pv 1))))))), ?_⟩
    cases p with
    | scan i =>
      obtain ⟨b, v1, v2, rfl, hb, h1, h2⟩ := two_inv hv
      obtain ⟨rfl, _⟩ := is_s_inv h1
      refine ⟨.ref b, rfl, b, _, 0, _, rfl, rfl, .inl (.inl hb), at0, rfl, true, by decide +kernel, ?_⟩
      refine ⟨.ref b, rfl, small1, fun l hl => q l _ _ (Same.new hl) upd_same ?_⟩
      rw [partsP]
      exact isL_cons (Is.mono (TK.of (Same.new hl)) _ _ hv) isL_nil
    | proj x pq =>
      obtain ⟨b, v1, v2, v3, rfl, hb, h1, h2, h3⟩ := three_inv hv
      obtain ⟨rfl, _⟩ := is_s_inv h1
      refine ⟨.ref b, rfl, b, _, 0, _, rfl, rfl, .inl (.inl hb), at30, rfl, false, by decide +kernel, ?_⟩
      refine ⟨.ref b, rfl, b, _, 0, _, rfl, rfl, .inl (.inl hb), at30, rfl, true, by decide +kernel, ?_⟩
      rw [psz] at hh few
      refine ⟨.ref b, rfl, small1, fun l hl => ?_⟩
      have s1 := Same.new (o := .lst [.ref b]) hl
      refine ⟨.ref b, rfl, b, _, 2, _, rfl, rfl, .inl (.inl (s1 _ _ hb)), at32, v3, pq, rfl, Is.mono (TK.of s1) _ _ h3, by omega, by omega, fun c xs H' sm hc hxs => ?_⟩
      refine ⟨l, c, _, _, rfl, rfl, sm _ _ upd_same, hc, ?_, fun z hz => q z _ _ (same_tr s1 (same_tr sm (Same.new hz))) upd_same ?_⟩
      · rw [hxs.length, plTs_len, parts_len]
        exact le_line (by show 1 + psz pq ≤ 1000; omega)
      · rw [partsP]
        exact isL_cons (Is.mono (TK.of (same_tr s1 (same_tr sm (Same.new hz)))) _ _ hv) (IsL.mono (TK.of (Same.new hz)) _ _ hxs)
    | join ps =>
      obtain ⟨b, v1, v2, rfl, hb, h1, h2⟩ := two_inv hv
      obtain ⟨rfl, _⟩ := is_s_inv h1
      obtain ⟨pb, pxs, rfl, hpb, hpx⟩ := is_t_inv h2
      rw [psz] at hh few
      refine ⟨.ref b, rfl, b, _, 0, _, rfl, rfl, .inl (.inl hb), at0, rfl, false, by decide +kernel, ?_⟩
      refine ⟨.ref b, rfl, b, _, 0, _, rfl, rfl, .inl (.inl hb), at0, rfl, false, by decide +kernel, ?_⟩
      refine ⟨.ref b, rfl, small1, fun n hn => ?_⟩
      have sm1 : Same H (upd H n (.lst [.ref b])) := Same.new hn
      refine ⟨.ref b, rfl, b, _, 1, _, rfl, rfl, .inl (.inl (sm1 _ _ hb)), at1, pb, rfl, ⟨_, .inl (.inl (sm1 _ _ hpb))⟩, ?_⟩
      refine j_tup pxs (fun i σ H' => ∃ (pt : Option V) (m : Addr) (xs : List V), σ = [some (.ref b), some (.ref m), pt] ∧ Same H H' ∧ H' m = some (.lst xs) ∧ IsL H' xs (plTs (.join ps :: partsPs (ps.take i))))
        ⟨_, n, _, rfl, sm1, upd_same, isL_cons (Is.mono (TK.of sm1) _ _ hv) (by simp only [List.take_zero, partsPs, plTs]; exact isL_nil)⟩ (fun i σ H' h => by obtain ⟨_, _, _, _, sm, _⟩ := h; exact .inl (.inl (sm _ _ hpb))) (fun σ H' h => ?_) (fun i x σ H' e h => ?_)
      · obtain ⟨pt, m, xs, rfl, sm, hn', hxs⟩ := h
        have elen : pxs.length = ps.length := by rw [hpx.length, plTs_len]
        rw [elen, List.take_length] at hxs
        exact ⟨.ref m, rfl, q m xs H' sm hn' (by rw [partsP]; exact hxs)⟩
      · obtain ⟨pt, m, xs, rfl, sm, hn', hxs⟩ := h
        obtain ⟨p, ep, mp, hp⟩ := pl_mem hpx e
        have pm := psz_mem mp
        refine ⟨.ref m, rfl, x, rfl, x, p, rfl, Is.mono (TK.of sm) _ _ hp, by omega, by omega, fun c ys H2 sm2 hc hys => ?_⟩
        have etk : partsPs (ps.take (i + 1)) = partsPs (ps.take i) ++ partsP p := by
          rw [take_succ ep, partsPs_append]
          simp [partsPs]
        refine ⟨m, c, _, _, rfl, rfl, sm2 _ _ hn', hc, ?_, fun z hz => ⟨_, z, _, rfl, same_tr sm (same_tr sm2 (Same.new hz)), upd_same, ?_⟩⟩
        · rw [hxs.length, hys.length, plTs_len, plTs_len, parts_len, List.length_cons, partss_len]
          have := pszs_take ps i
          exact le_line (by omega)
        · rw [etk, ← List.cons_append, plTs_append]
          exact IsL.append (IsL.mono (TK.of (same_tr sm2 (Same.new hz))) _ _ hxs) (IsL.mono (TK.of (Same.new hz)) _ _ hys)
def N_l_joined : List Str := ["_law_plans"]
def p_l_joined : List Str := ["_law_plans"]
theorem sc_l_joined : FnScope N_l_joined p_l_joined (defScope s_l_joined) := ⟨rfl, rfl, rfl, by decide +kernel, rfl, by decide +kernel, by decide +kernel⟩
def joinedP (ps : List Pl) : Pl := match ps with | [p] => p | _ => .join ps
def sp_l_joined : Sp := fun vs H Q _ => ∃ (l : Addr) (xs : List V) (ps : List Pl), vs = [.ref l] ∧ H l = some (.lst xs) ∧ IsL H xs (plTs ps) ∧ ps.length ≤ 500 ∧ ∀ v H', Same H H' → Is H' v (plT (joinedP ps)) → Q v H'
theorem sJoin_ok : strOk sJoin = true := by decide +kernel
theorem ok_l_joined (T : Tx K mg) : Ok P w K mg base 1 "_law_joined" p_l_joined sp_l_joined := by
  refine T.ok i_l_joined sc_l_joined (fun _ _ _ _ _ _ us h => by match us, h with | [_], _ => rfl) (fun vs H Q E h => by obtain ⟨_, _, _, rfl, _⟩ := h; rfl) (fun f cdv A outer s H vs Q E hr h => ?_)
  obtain ⟨l, xs, ps, rfl, hl, hxs, few, q⟩ := h
  refine ⟨_, (pss_cons (ps_if (pt_cmpR op_eq (pe_callB call_len (by rfl) (T.bl "len" (by decide)) (by decide +kernel) (pa_cons (pv 0) pa_nil)) pe_int (nomark _))
        (pss_one (ps_ret (pe_ix ix_list (pv 0) pe_int (fun _ _ => rfl))))
        pss_nil)
      (pss_one (ps_ret (pe_tup (pa_cons pe_str (pa_cons (pe_callTy call_tuple_of (by rfl) (T.bl "tuple" (by decide)) (by decide +kernel) (pa_cons (pv 0) pa_nil)) pa_nil)))))), ?_⟩
  have lx : xs.length = ps.length := by rw [hxs.length, plTs_len]
  refine ⟨.ref l, rfl, _, _, rfl, .inl ⟨_, .inl (.inl hl), rfl⟩, rfl, decide (xs.length = 1), ?_, ?_⟩
  · by_cases z : xs.length = 1
    · rw [z]; rfl
    · rw [decide_eq_false z]
      exact congrArg V.bl (decide_eq_false fun y => z (by injection y with y; omega))
  · by_cases z : xs.length = 1
    · rw [decide_eq_true z]
      obtain ⟨p, ep⟩ : ∃ p, ps = [p] := by
        match ps, lx.symm.trans z with
        | [p], _ => exact ⟨p, rfl⟩
      subst ep
      obtain ⟨v, vs, e, h1, h2⟩ := isL_inv hxs
      rw [e] at hl
      exact ⟨.ref l, rfl, l, _, 0, v, rfl, rfl, .inl (.inl hl), atI_nat (i := 0) rfl, q v H (same_refl _) h1⟩
    · rw [decide_eq_false z]
      refine ⟨.ref l, rfl, l, xs, rfl, .inl ⟨.inl (.inl hl), fun t ht => ⟨small2, fun p hp => ?_⟩⟩⟩
      have s1 := Same.new (o := .tup xs) ht
      have s2 := Same.new (o := .tup [.str (Str.ofString "join"), .ref t]) hp
      have e : joinedP ps = .join ps := by
        unfold joinedP
        split
        · rename_i p
          exact absurd lx (by intro y; exact z (y.trans rfl))
        · rfl
      refine q _ _ (same_tr s1 s2) ?_
      rw [e]
      exact is_t upd_same (isL_cons (is_s sJoin_ok) (isL_cons (is_t (s2 _ _ upd_same) (IsL.mono (TK.of (same_tr s1 s2)) _ _ hxs)) isL_nil))
end
end K48
set_option maxRecDepth 100000
set_option maxHeartbeats 8000000
namespace K48
open PySem PySem.Spec PyProof.Rows L2 RZ
theorem Sfs.mem {as : List Atom} : ∀ {ps : List Pl}, (∀ p ∈ ps, Sf as p) → Sfs as ps
  | [], _ => by rw [Sfs]; trivial
  | p :: ps, h => by rw [Sfs]; exact ⟨h p (List.mem_cons_self ..), Sfs.mem fun q hq => h q (List.mem_cons_of_mem _ hq)⟩
/-- the variables of a join -/
def jvars (as : List Atom) : List Str := as.flatMap fun a => a.2.filterMap tvar
theorem jvars_append (a b : List Atom) : jvars (a ++ b) = jvars a ++ jvars b := by unfold jvars; rw [List.flatMap_append]
theorem jvars_len {as : List Atom} (h : Few as) : (jvars as).length ≤ 1000 := by
  have : ∀ l : List Atom, (∀ a ∈ l, a.2.length ≤ 10) → (jvars l).length ≤ 10 * l.length := fun l => by
    induction l with
    | nil => intro _; simp [jvars]
    | cons a l ih =>
      intro hl
      have h1 := ih fun x hx => hl x (List.mem_cons_of_mem _ hx)
      have h2 := hl a (List.mem_cons_self ..)
      have e : jvars (a :: l) = a.2.filterMap tvar ++ jvars l := rfl
      rw [e, List.length_append, List.length_cons]
      have := List.length_filterMap_le tvar a.2
      omega
  have := this as h.2
  have := h.1
  omega
section
variable {P : Program} {w : World} {K : PySem.W.Frag} {mg : Str → Option Value} {base : Heap}
def N_l_variables : List Str := ["_law_join", "_law_found", "_law_atom_here", "_law_term_here"]
def p_l_variables : List Str := ["_law_join"]
theorem sc_l_variables : FnScope N_l_variables p_l_variables (defScope s_l_variables) := ⟨rfl, rfl, rfl, by decide +kernel, rfl, by decide +kernel, by decide +kernel⟩
def sp_l_variables : Sp := fun vs H Q _ => ∃ (v : V) (as : List Atom), vs = [v] ∧ Is H v (joT as) ∧ Few as ∧ ((∀ x ∈ csort (jvars as), strOk x = true) → GivesL H Q (csort (jvars as)))
theorem ok_l_variables (T : Tx K mg) : Ok P w K mg base 1 "_law_variables" p_l_variables sp_l_variables := by
  refine T.ok i_l_variables sc_l_variables (fun _ _ _ _ _ _ us h => by match us, h with | [_], _ => rfl) (fun vs H Q E h => by obtain ⟨_, _, rfl, _⟩ := h; rfl) (fun f cdv A outer s H vs Q E hr h => ?_)
  obtain ⟨v, as, rfl, hv, fa, q⟩ := h
  have nd := sc_l_variables.nd
  have hu64 := room_u64 hr
  refine ⟨_, (pss_cons (ps_set (i := 1) nd rfl (Or.inl rfl) (pe_lst pa_nil))
      (pss_cons (ps_for PassesOwn.never rfl (pi_tup (pe_ix ix_tup (pv 0) pe_int (fun _ _ => rfl))) (pg_name (i := 2) nd rfl (Or.inl rfl))
        (pss_one (ps_set (i := 1) nd rfl (Or.inl rfl) (pe_op op_cat (pv 1) (pe_lc (own := [("_law_term_here", 3)]) (by rfl) nd (pi_tup (pe_ix ix_tup (pv 2) pe_int (fun _ _ => rfl))) (blkOk_by (N := N_l_variables) (sc := defScope s_l_variables) (by decide +kernel)) (fun _ _ _ _ _ => (pg_name (i := 3) nd rfl (Or.inl rfl))) (fun _ _ _ _ _ => pts_one (pt_cmpR op_eq (pe_ix (ix_tupK K) (pv 3) pe_int (fun _ _ => rfl)) pe_str (nomark _))) (fun _ _ _ _ _ => (pe_ix (ix_tupK K) (pv 3) pe_int (fun _ _ => rfl))))))))
      (pss_one (ps_ret (pe_callB (cr_sortTx rfl hu64) (by rfl) (T.bl "sorted" (by decide)) (by decide +kernel) (pa_cons (pe_callTy (cr_setTx rfl) (by rfl) (T.bl "set" (by decide)) (by decide +kernel) (pa_cons (pv 1) pa_nil)) pa_nil)))))), ?_⟩
  obtain ⟨j, l, x0, xs, rfl, hj, hl, hxs⟩ := jo_inv hv
  refine ⟨Nat.zero_le _, fun n hn => ?_⟩
  have sm1 : Same H (upd H n (.lst [])) := Same.new hn
  dsimp only [gName]
  have lx : xs.length = as.length := by rw [hxs.length, List.length_map]
  refine ⟨.ref j, rfl, j, _, 1, _, rfl, rfl, .inl (.inl (sm1 _ _ hj)), at1, l, rfl, ⟨_, .inl (.inl (sm1 _ _ hl))⟩, ?_⟩
  refine j_tup xs (fun i σ H' => ∃ (pt : Option V) (m : Addr), σ = [some (.ref j), some (.ref m), pt, none] ∧ Same H H' ∧ H' m = some (.lst ((jvars (as.take i)).map V.str)) ∧ ∀ x ∈ jvars (as.take i), strOk x = true)
    ⟨_, n, rfl, sm1, upd_same, fun _ h => by simp [jvars] at h⟩ (fun i σ H' h => by obtain ⟨_, _, _, sm, _⟩ := h; exact .inl (.inl (sm _ _ hl))) (fun σ H' h => ?_) (fun i x σ H' e h => ?_)
  · obtain ⟨pt, m, rfl, sm, hn', ok⟩ := h
    rw [lx, List.take_length] at hn' ok
    exact ⟨.ref m, rfl, m, _, rfl, .inl (.inl hn'), jvars_len fa, fun a ha => ⟨a, _, rfl, upd_same, fun p hp => q (fun x hx => ok x (mem_csort.mp hx)) p _ (same_tr sm (same_tr (Same.new ha) (Same.new hp))) (none_back sm (none_back (Same.new ha) hp)) upd_same⟩⟩
  · obtain ⟨pt, m, rfl, sm, hn', ok⟩ := h
    obtain ⟨dt, edt, hx⟩ := (IsL.mono (TK.of sm) _ _ hxs).get' e
    obtain ⟨at_, eat, e3⟩ := map_get edt
    subst e3
    obtain ⟨p, l2, o, txs, rfl, hp, do_, hl2, htx, okn⟩ := at_inv hx
    have mat := List.mem_of_getElem? eat
    have oks := strsAll htx
    dsimp only [gName]
    refine r_asg (r_op ⟨.ref m, rfl, ?_⟩)
    refine lc_tupF tvarT H' (fun R r => ⟨_, rfl, p, _, 1, _, rfl, rfl, .inl (.inl hp), at1, r⟩) (sq_frz hl2) htx (by rw [List.length_map]; have := fa.2 at_ mat; omega) (fun D H2 vs sm2 hD hvs hls => ?_) (fun i2 x t H2 et sm2 ht Y Z hY hZ => ?_)
    · rw [tvarT_map] at hls
      have ev := hls.strs.1
      rw [ev] at hvs
      have etk : jvars (as.take (i + 1)) = jvars (as.take i) ++ at_.2.filterMap tvar := by
        rw [take_succ eat, jvars_append]
        simp [jvars]
      have fewi : (jvars (as.take (i + 1))).length ≤ 1000 := jvars_len ⟨by rw [List.length_take]; have := fa.1; omega, fun a ha => fa.2 a (List.mem_of_mem_take ha)⟩
      refine ⟨m, D, _, _, rfl, rfl, sm2 _ _ hn', hvs, ?_, fun z hz => ⟨_, z, rfl, same_tr sm (same_tr sm2 (Same.new hz)), ?_, fun x hx => ?_⟩⟩
      · rw [List.length_map, List.length_map, ← List.length_append, ← etk]
        exact le_line fewi
      · rw [upd_same, etk, List.map_append]
      · rw [etk] at hx
        exact (List.mem_append.mp hx).elim (ok x) (oks x)
    · obtain ⟨tm, etm, e4⟩ := map_get et
      subst e4
      obtain ⟨b, k, c, rfl, hb, okc, hk⟩ := tm_inv ht
      refine ⟨rfl, .ref b, rfl, b, _, 0, _, rfl, rfl, .inl (.inl hb), at0, rfl, ?_⟩
      rcases hk with ⟨rfl, y, rfl, rfl⟩ | ⟨rfl, rfl⟩
      · refine ⟨true, by decide +kernel, .ref b, rfl, b, _, 1, _, rfl, rfl, .inl (.inl hb), at1, hY _ _ _ (tvarT_var y) (same_refl _) (is_s okc)⟩
      · refine ⟨false, by decide +kernel, hZ _ (tvarT_val c) (same_refl _)⟩
def N_l_unsafe : List Str := ["_law_join", "_law_plan_here", "_law_found", "_law_i", "_law_part"]
def p_l_unsafe : List Str := ["_law_join", "_law_plan_here"]
theorem sc_l_unsafe : FnScope N_l_unsafe p_l_unsafe (defScope s_l_unsafe) := ⟨rfl, rfl, rfl, by decide +kernel, rfl, by decide +kernel, by decide +kernel⟩
def sp_l_unsafe (h : Nat) : Sp := fun vs H Q _ => ∃ (u v : V) (as : List Atom) (p : Pl), vs = [u, v] ∧ Is H u (joT as) ∧ Is H v (plT p) ∧ Few as ∧ Wf as p ∧ psz p < h ∧ psz p ≤ 500 ∧
  ∀ (l : Addr) (ws : List Str) H', Same H H' → H' l = some (.lst (ws.map V.str)) → ws.length ≤ psz p → (ws = [] → Sf as p) → Q (.ref l) H'
theorem ok_l_unsafe (GB : ∀ h : Nat, Ok P w K mg base (h + 1) "_law_beneath" p_l_beneath (sp_l_beneath h)) (G_l_atom_variables : Ok P w K mg base 1 "_law_atom_variables" p_l_atom_variables sp_l_atom_variables) (T : Tx K mg) : ∀ h : Nat, Ok P w K mg base (h + 3) "_law_unsafe" p_l_unsafe (sp_l_unsafe h)
  | 0 => by
    refine Ok.mono (k := 1) ?_ (by omega)
    refine T.ok i_l_unsafe sc_l_unsafe (fun _ _ _ _ _ _ us h => by match us, h with | [_, _], _ => rfl) (fun vs H Q E h => by obtain ⟨_, _, _, _, rfl, _⟩ := h; rfl) (fun f cdv A outer s H vs Q E hr h => ?_)
    obtain ⟨_, _, _, _, _, _, _, _, _, z, _⟩ := h
    exact absurd z (Nat.not_lt_zero _)
  | h + 1 => by
    have G_l_unsafe := ok_l_unsafe GB G_l_atom_variables T h
    have G_l_beneath := GB (h + 1)
    refine T.ok i_l_unsafe sc_l_unsafe (fun _ _ _ _ _ _ us h => by match us, h with | [_, _], _ => rfl) (fun vs H Q E h => by obtain ⟨_, _, _, _, rfl, _⟩ := h; rfl) (fun f cdv A outer s H vs Q E hr hs => ?_)
    obtain ⟨u, v, as, p, rfl, hu, hv, fa, wf, hh, few, q⟩ := hs
    have nd := sc_l_unsafe.nd
    refine ⟨_, (pss_cons (ps_if (pt_cmpR op_eq (pe_ix ix_tup (pv 1) pe_int (fun _ _ => rfl)) pe_str (nomark _))
        (pss_one (ps_ret (pe_lst pa_nil)))
        pss_nil)
      (pss_cons (ps_if (pt_cmpR op_eq (pe_ix ix_tup (pv 1) pe_int (fun _ _ => rfl)) pe_str (nomark _))
        (pss_cons (ps_set (i := 2) nd rfl (Or.inl rfl) (pe_lst pa_nil))
        (pss_cons (ps_for PassesOwn.never rfl (pi_tup (pe_ix ix_tup (pv 1) pe_int (fun _ _ => rfl))) (pg_name (i := 4) nd rfl (Or.inl rfl))
          (pss_one (ps_set (i := 2) nd rfl (Or.inl rfl) (pe_op op_cat (pv 2) (pe_ok G_l_unsafe (hr.mono (by first | decide | omega)) rfl (pa_cons (pv 0) (pa_cons (pv 4) pa_nil)))))))
        (pss_one (ps_ret (pv 2)))))
        pss_nil)
      (pss_cons (ps_set (i := 2) nd rfl (Or.inl rfl) (pe_ok G_l_unsafe (hr.mono (by first | decide | omega)) rfl (pa_cons (pv 0) (pa_cons (pe_ix ix_tup (pv 1) pe_int (fun _ _ => rfl)) pa_nil))))
      (pss_cons (ps_for PassesOwn.never rfl (pi_list (pe_ok G_l_beneath (hr.mono (by first | decide | omega)) rfl (pa_cons (pv 1) pa_nil))) (pg_name (i := 3) nd rfl (Or.inl rfl))
        (pss_one (ps_if (PW.pt (pw_and (pt_cmpR op_notIn_seq (pe_ix ix_tup (pv 1) pe_int (fun _ _ => rfl)) (pe_ok G_l_atom_variables (hr.mono (by first | decide | omega)) rfl (pa_cons (pe_ix ix_tup (pe_ix ix_tup (pv 0) pe_int (fun _ _ => rfl)) (pv 3) (fun _ _ => rfl)) pa_nil)) (by rfl)) (pw_and1 (pt_cmpR op_notIn_seq (pe_ix ix_tup (pv 1) pe_int (fun _ _ => rfl)) (pv 2) (by rfl)))))
          (pss_one (ps_set (i := 2) nd rfl (Or.inl rfl) (pe_op op_cat (pv 2) (pe_lst (pa_cons (pe_ix ix_tup (pv 1) pe_int (fun _ _ => rfl)) pa_nil)))))
          pss_nil)))
      (pss_one (ps_ret (pv 2))))))), ?_⟩
    obtain ⟨j, l, x0, xs, rfl, hj, hl, hxs⟩ := jo_inv hu
    cases p with
    | scan i =>
      obtain ⟨b, v1, v2, rfl, hb, h1, h2⟩ := two_inv hv
      obtain ⟨rfl, _⟩ := is_s_inv h1
      refine ⟨.ref b, rfl, b, _, 0, _, rfl, rfl, .inl (.inl hb), at0, rfl, true, by decide +kernel, ?_⟩
      exact ⟨Nat.zero_le _, fun n hn => q n [] _ (Same.new hn) upd_same (Nat.zero_le _) fun _ => by rw [Sf]; trivial⟩
    | join ps =>
      obtain ⟨b, v1, v2, rfl, hb, h1, h2⟩ := two_inv hv
      obtain ⟨rfl, _⟩ := is_s_inv h1
      obtain ⟨pb, pxs, rfl, hpb, hpx⟩ := is_t_inv h2
      rw [psz] at hh few
      refine ⟨.ref b, rfl, b, _, 0, _, rfl, rfl, .inl (.inl hb), at0, rfl, false, by decide +kernel, ?_⟩
      refine ⟨.ref b, rfl, b, _, 0, _, rfl, rfl, .inl (.inl hb), at0, rfl, true, by decide +kernel, ?_⟩
      refine ⟨Nat.zero_le _, fun n hn => ?_⟩
      have sm1 : Same H (upd H n (.lst [])) := Same.new hn
      refine ⟨.ref b, rfl, b, _, 1, _, rfl, rfl, .inl (.inl (sm1 _ _ hb)), at1, pb, rfl, ⟨_, .inl (.inl (sm1 _ _ hpb))⟩, ?_⟩
      refine j_tup pxs (fun i σ H' => ∃ (pt : Option V) (m : Addr) (ws : List Str), σ = [some (.ref j), some (.ref b), some (.ref m), none, pt] ∧ Same H H' ∧ H' m = some (.lst (ws.map V.str)) ∧ ws.length ≤ pszs (ps.take i) ∧ (ws = [] → ∀ p ∈ ps.take i, Sf as p))
        ⟨_, n, [], rfl, sm1, upd_same, Nat.zero_le _, fun _ p hp => by simp at hp⟩ (fun i σ H' h => by obtain ⟨_, _, _, _, sm, _⟩ := h; exact .inl (.inl (sm _ _ hpb))) (fun σ H' h => ?_) (fun i x σ H' e h => ?_)
      · obtain ⟨pt, m, ws, rfl, sm, hn', lw, sf⟩ := h
        have elen : pxs.length = ps.length := by rw [hpx.length, plTs_len]
        rw [elen, List.take_length] at lw sf
        exact ⟨.ref m, rfl, q m ws H' sm hn' (by rw [psz]; omega) fun e => by rw [Sf]; exact Sfs.mem (sf e)⟩
      · obtain ⟨pt, m, ws, rfl, sm, hn', lw, sf⟩ := h
        obtain ⟨p, ep, mp, hp⟩ := pl_mem hpx e
        have pm := psz_mem mp
        have tk := TK.of sm
        refine ⟨.ref m, rfl, .ref j, rfl, x, rfl, .ref j, x, as, p, rfl, Is.mono tk _ _ hu, Is.mono tk _ _ hp, fa, wf.part mp, by omega, by omega, fun c us H2 sm2 hc lu su => ?_⟩
        have etk := take_succ ep
        have psk : pszs (ps.take (i + 1)) = pszs (ps.take i) + psz p := by rw [etk, pszs_append]; simp [pszs]
        have := pszs_take ps (i + 1)
        refine ⟨m, c, _, _, rfl, rfl, sm2 _ _ hn', hc, by rw [List.length_map, List.length_map]; exact le_line (by omega), fun z hz => ⟨_, z, ws ++ us, rfl, same_tr sm (same_tr sm2 (Same.new hz)), by rw [upd_same, List.map_append], by rw [List.length_append, psk]; omega, fun e2 p' hp' => ?_⟩⟩
        obtain ⟨e3, e4⟩ := List.append_eq_nil_iff.mp e2
        rw [etk] at hp'
        rcases List.mem_append.mp hp' with y | y
        · exact sf e3 p' y
        · rw [List.mem_singleton.mp y]; exact su e4
    | proj x pq =>
      obtain ⟨b, v1, v2, v3, rfl, hb, h1, h2, h3⟩ := three_inv hv
      obtain ⟨rfl, _⟩ := is_s_inv h1
      obtain ⟨rfl, _⟩ := is_s_inv h2
      have hh' := hh
      have few' := few
      rw [psz] at hh' few'
      refine ⟨.ref b, rfl, b, _, 0, _, rfl, rfl, .inl (.inl hb), at30, rfl, false, by decide +kernel, ?_⟩
      refine ⟨.ref b, rfl, b, _, 0, _, rfl, rfl, .inl (.inl hb), at30, rfl, false, by decide +kernel, ?_⟩
      refine ⟨.ref j, rfl, .ref b, rfl, b, _, 2, _, rfl, rfl, .inl (.inl hb), at32, .ref j, v3, as, pq, rfl, hu, h3, fa, wf.proj, by omega, by omega, fun m0 ws0 H1 sm1 hm0 lw0 sf0 => ?_⟩
      dsimp only [gName]
      refine ⟨.ref b, rfl, .ref b, .proj x pq, rfl, Is.mono (TK.of sm1) _ _ hv, by omega, wf.few, fun bl H2 sm2 hbl => ?_⟩
      have s02 := same_tr sm1 sm2
      have bq : beneath (.proj x pq) = beneath pq := by rw [beneath]
      rw [bq] at hbl
      refine ⟨bl, rfl, ⟨_, .inl (.inl hbl)⟩, ?_⟩
      refine j_list (intsV (beneath pq)) (fun i σ H' => ∃ (it : Option V) (m : Addr) (ws : List Str), σ = [some (.ref j), some (.ref b), some (.ref m), it, none] ∧ Same H2 H' ∧ H' m = some (.lst (ws.map V.str)) ∧ ws.length ≤ psz pq + (if x ∈ ws then 1 else 0) ∧
          (ws = [] → Sf as pq ∧ ∀ i' ∈ (beneath pq).take i, x ∈ avs (termsAt as i')))
        ⟨_, m0, ws0, rfl, same_refl _, sm2 _ _ hm0, by omega, fun e => ⟨sf0 e, fun _ h => by simp at h⟩⟩ (fun i σ H' h => by obtain ⟨_, _, _, _, sm, _⟩ := h; exact .inl (.inl (sm _ _ hbl))) (fun σ H' h => ?_) (fun i y σ H' e h => ?_)
      · obtain ⟨it, m, ws, rfl, sm, hm, lw, sf⟩ := h
        have el : (intsV (beneath pq)).length = (beneath pq).length := by unfold intsV; rw [List.length_map]
        rw [el, List.take_length] at sf
        refine ⟨.ref m, rfl, q m ws H' (same_tr s02 sm) hm (by rw [psz]; split at lw <;> omega) fun e => ?_⟩
        rw [Sf]
        exact ⟨(sf e).2, (sf e).1⟩
      · obtain ⟨it, m, ws, rfl, sm, hm, lw, sf⟩ := h
        obtain ⟨i', ei', e2⟩ := map_get e
        subst e2
        have s0 := same_tr s02 sm
        have mi := List.mem_of_getElem? ei'
        obtain ⟨a, ha, ea, et⟩ := termsAt_mem (wf.proj.there i' mi)
        obtain ⟨va, eva, hva⟩ := hxs.get (i := i') (d := atT a) (by rw [List.getElem?_map, ea]; rfl)
        have hb' := s0 _ _ hb
        dsimp only [gName]
        refine ⟨.ref b, rfl, b, _, 1, _, rfl, rfl, .inl (.inl hb'), at31, .ref j, rfl, j, _, 1, _, rfl, rfl, .inl (.inl (s0 _ _ hj)), at1, .int i', rfl, l, _, _, _, rfl, rfl, .inl (.inl (s0 _ _ hl)), atI_nat eva, va, a, rfl, Is.mono (TK.of s0) _ _ hva, fa.2 a ha, fun oka c H3 sm3 nc hc => ?_⟩
        have hb3 := sm3 _ _ hb'
        have hm3 := sm3 _ _ hm
        rw [← et] at hc
        have lw5 : ws.length ≤ 501 := by split at lw <;> omega
        refine ⟨c, _, rfl, .inl (.inl (.inl hc)), rfl, flat_strs _, decide (x ∉ avs (termsAt as i')), ?_, ?_⟩
        · rw [inV_strs]
          by_cases z : x ∈ avs (termsAt as i') <;> simp [z]
        by_cases z : x ∈ avs (termsAt as i')
        · rw [decide_eq_false (by simpa using z)]
          refine ⟨_, m, ws, rfl, same_tr sm sm3, hm3, lw, fun e => ⟨(sf e).1, fun k hk => ?_⟩⟩
          rw [take_succ ei'] at hk
          rcases List.mem_append.mp hk with y | y
          · exact (sf e).2 k y
          · rw [List.mem_singleton.mp y]; exact z
        · rw [decide_eq_true z]
          refine ⟨.ref b, rfl, b, _, 1, _, rfl, rfl, .inl (.inl hb3), at31, .ref m, rfl, m, _, rfl, .inl (.inl (.inl hm3)), rfl, flat_strs _, decide (x ∉ ws), ?_, ?_⟩
          · rw [inV_strs]
            by_cases z2 : x ∈ ws <;> simp [z2]
          by_cases z2 : x ∈ ws
          · rw [decide_eq_false (by simpa using z2)]
            exact ⟨_, m, ws, rfl, same_tr sm sm3, hm3, lw, fun e => by rw [e] at z2; cases z2⟩
          · rw [decide_eq_true z2]
            rw [if_neg z2] at lw
            refine ⟨.ref m, rfl, .ref b, rfl, b, _, 1, _, rfl, rfl, .inl (.inl hb3), at31, small1, fun o ho => ?_⟩
            have s4 := Same.new (o := .lst [.str x]) ho
            refine ⟨m, o, _, _, rfl, rfl, s4 _ _ hm3, upd_same, by rw [List.length_map]; exact le_line (by show ws.length + 1 ≤ 1000; omega), fun z' hz' => ⟨_, z', ws ++ [x], rfl, same_tr sm (same_tr sm3 (same_tr s4 (Same.new hz'))), by rw [upd_same, List.map_append]; rfl, ?_, fun e => by simp at e⟩⟩
            rw [List.length_append, if_pos (by simp)]
            show ws.length + 1 ≤ psz pq + 1
            omega
end
end K48
set_option maxRecDepth 100000
set_option maxHeartbeats 4000000
namespace K48
open PySem PySem.Spec PyProof.Rows L2
/-! ### plans in the making -/
structure PIv (as : List Atom) (ps : List Pl) (done : List Str) (sz : Nat) : Prop where
  nd : (beneaths ps).Nodup
  there : ∀ i ∈ beneaths ps, i < as.length
  vx : ∀ p ∈ ps, Vx as p
  vb : ∀ p ∈ ps, Vb p
  bn : ∀ p ∈ ps, ∀ y ∈ bnd p, y ∈ done
  size : pszs ps ≤ sz
theorem psz_pos : ∀ p : Pl, 1 ≤ psz p
  | .scan _ => by rw [psz]; exact Nat.le_refl _
  | .proj _ _ => by rw [psz]; omega
  | .join _ => by rw [psz]; omega
theorem len_psz : ∀ ps : List Pl, ps.length ≤ pszs ps
  | [] => Nat.le_refl _
  | p :: ps => by have := len_psz ps; have := psz_pos p; rw [List.length_cons, pszs]; omega
theorem pszs_perm {a b : List Pl} (h : a.Perm b) : pszs a = pszs b := by
  induction h with
  | nil => rfl
  | cons x _ ih => rw [pszs, pszs, ih]
  | swap x y l => rw [pszs, pszs, pszs, pszs]; omega
  | trans _ _ h1 h2 => exact h1.trans h2
theorem beneaths_perm {a b : List Pl} (h : a.Perm b) : (beneaths a).Perm (beneaths b) := by
  rw [beneaths_eq, beneaths_eq]
  exact List.Perm.flatMap_right _ h
theorem PIv.perm {as : List Atom} {ps qs : List Pl} {done : List Str} {sz : Nat} (h : PIv as ps done sz) (p : qs.Perm ps) : PIv as qs done sz :=
  ⟨(beneaths_perm p).nodup_iff.mpr h.nd, fun i hi => h.there i ((beneaths_perm p).mem_iff.mp hi), fun q hq => h.vx q (p.mem_iff.mp hq), fun q hq => h.vb q (p.mem_iff.mp hq), fun q hq => h.bn q (p.mem_iff.mp hq), by rw [pszs_perm p]; exact h.size⟩
theorem PIv.more {as : List Atom} {ps : List Pl} {done done' : List Str} {sz sz' : Nat} (h : PIv as ps done sz) (s : ∀ x ∈ done, x ∈ done') (k : sz ≤ sz') : PIv as ps done' sz' := ⟨h.nd, h.there, h.vx, h.vb, fun p hp y hy => s y (h.bn p hp y hy), Nat.le_trans h.size k⟩
theorem joined_beneath (ps : List Pl) : beneath (joinedP ps) = beneaths ps := by
  unfold joinedP
  split
  · simp [beneaths]
  · rw [beneath]
theorem joined_bnd (ps : List Pl) : bnd (joinedP ps) = bnds ps := by
  unfold joinedP
  split
  · simp [bnds]
  · rw [bnd]
theorem joined_psz (ps : List Pl) : psz (joinedP ps) ≤ pszs ps + 1 := by
  unfold joinedP
  split
  · simp [pszs]
  · rw [psz]; exact Nat.le_refl _
theorem bnds_all {P : Str → Prop} : ∀ {ps : List Pl}, (∀ p ∈ ps, ∀ y ∈ bnd p, P y) → ∀ y ∈ bnds ps, P y
  | [], _, y, h => by simp [bnds] at h
  | p :: ps, h, y, hy => by
    rw [bnds] at hy
    rcases List.mem_append.mp hy with z | z
    · exact h p (List.mem_cons_self ..) y z
    · exact bnds_all (fun q hq => h q (List.mem_cons_of_mem _ hq)) y z
theorem vbs_of : ∀ {ps : List Pl}, (∀ p ∈ ps, Vb p) → Vbs ps
  | [], _ => by rw [Vbs]; trivial
  | p :: ps, h => by rw [Vbs]; exact ⟨h p (List.mem_cons_self ..), vbs_of fun q hq => h q (List.mem_cons_of_mem _ hq)⟩
theorem joined_vx {as : List Atom} {ps : List Pl} (h : ∀ p ∈ ps, Vx as p) : Vx as (joinedP ps) := by
  unfold joinedP
  split
  · exact h _ (List.mem_cons_self ..)
  · rw [Vx]; exact vxs_of h
theorem joined_vb {ps : List Pl} (h : ∀ p ∈ ps, Vb p) : Vb (joinedP ps) := by
  unfold joinedP
  split
  · exact h _ (List.mem_cons_self ..)
  · rw [Vb]; exact vbs_of h
theorem joined_cols {as : List Atom} {ps : List Pl} {x : Str} (h : ∀ p ∈ ps, x ∈ cols as p) (ne : ps ≠ []) : x ∈ cols as (joinedP ps) := by
  unfold joinedP
  split
  · exact h _ (List.mem_cons_self ..)
  · rw [cols, mem_csort, colss_eq, List.mem_flatMap]
    match ps, ne with
    | p :: ps, _ => exact ⟨p, List.mem_cons_self .., h p (List.mem_cons_self ..)⟩
def hasX (as : List Atom) (x : Str) : Pl → Bool := fun p => decide (x ∈ cols as p)
def noX' (as : List Atom) (x : Str) : Pl → Bool := fun p => decide (x ∉ cols as p)
def Elim (as : List Atom) (x : Str) (ps ps' : List Pl) : Prop := (ps' = ps ∧ ps.filter (hasX as x) = []) ∨ ∃ a c0, ps[a]? = some c0 ∧ x ∈ cols as c0 ∧ (∀ p ∈ ps.take a, x ∉ cols as p) ∧
  ps' = (ps.take a).filter (noX' as x) ++ [.proj x (joinedP (ps.filter (hasX as x)))] ++ (ps.drop (a + 1)).filter (noX' as x)
theorem PIv.elim {as : List Atom} {ps ps' : List Pl} {done : List Str} {sz : Nat} {x : Str} (h : PIv as ps done sz) (hx : x ∉ done) (e : Elim as x ps ps') : PIv as ps' (x :: done) (sz + 2) := by
  rcases e with ⟨e1, _⟩ | ⟨a, c0, ea, hc, no, e1⟩
  · rw [e1]
    exact h.more (fun y hy => List.mem_cons_of_mem _ hy) (by omega)
  · have ha : a < ps.length := (List.getElem?_eq_some_iff.mp ea).1
    have dr : ps.drop a = c0 :: ps.drop (a + 1) := by
      rw [List.drop_eq_getElem_cons ha]
      congr 1
      exact Option.some.inj ((List.getElem?_eq_getElem ha).symm.trans ea)
    have nx : ps.filter (noX' as x) = (ps.take a).filter (noX' as x) ++ (ps.drop (a + 1)).filter (noX' as x) := by
      conv => lhs; rw [← List.take_append_drop a ps]
      rw [List.filter_append, dr, List.filter_cons, if_neg (by simp [noX', hc])]
    have neg : ∀ p, noX' as x p = !hasX as x p := fun p => by by_cases z : x ∈ cols as p <;> simp [noX', hasX, z]
    have pp : (ps.filter (hasX as x) ++ ps.filter (noX' as x)).Perm ps := by
      have := List.filter_append_perm (hasX as x) ps
      rw [show (fun p => !hasX as x p) = noX' as x from funext fun p => (neg p).symm] at this
      exact this
    have hI := h.perm pp
    have chne : ps.filter (hasX as x) ≠ [] := fun z => by
      have : c0 ∈ ps.filter (hasX as x) := List.mem_filter.mpr ⟨List.mem_of_getElem? ea, by simp [hasX, hc]⟩
      rw [z] at this
      cases this
    have chx : ∀ p ∈ ps.filter (hasX as x), x ∈ cols as p := fun p hp => by simpa [hasX] using (List.mem_filter.mp hp).2
    have chI : ∀ p ∈ ps.filter (hasX as x), p ∈ ps := fun p hp => (List.mem_filter.mp hp).1
    have target : PIv as (.proj x (joinedP (ps.filter (hasX as x))) :: ps.filter (noX' as x)) (x :: done) (sz + 2) := by
      refine ⟨?_, fun i hi => ?_, fun p hp => ?_, fun p hp => ?_, fun p hp y hy => ?_, ?_⟩
      · have n := hI.nd
        rw [beneaths_append] at n
        rw [beneaths, beneath, joined_beneath]
        exact n
      · rw [beneaths, beneath, joined_beneath, ← beneaths_append] at hi
        exact hI.there i hi
      · rcases List.mem_cons.mp hp with z | z
        · rw [z, Vx]
          exact ⟨joined_cols chx chne, joined_vx fun p hp => h.vx p (chI p hp)⟩
        · exact h.vx p (List.mem_filter.mp z).1
      · rcases List.mem_cons.mp hp with z | z
        · rw [z, Vb, joined_bnd]
          exact ⟨fun m => hx (bnds_all (P := fun y => y ∈ done) (fun p hp => h.bn p (chI p hp)) x m), joined_vb fun p hp => h.vb p (chI p hp)⟩
        · exact h.vb p (List.mem_filter.mp z).1
      · rcases List.mem_cons.mp hp with z | z
        · rw [z, bnd, joined_bnd] at hy
          rcases List.mem_cons.mp hy with w | w
          · rw [w]; exact List.mem_cons_self ..
          · exact List.mem_cons_of_mem _ (bnds_all (P := fun y => y ∈ done) (fun p hp => h.bn p (chI p hp)) y w)
        · exact List.mem_cons_of_mem _ (h.bn p (List.mem_filter.mp z).1 y hy)
      · have s := hI.size
        rw [pszs_append] at s
        rw [pszs, psz]
        have := joined_psz (ps.filter (hasX as x))
        omega
    rw [e1]
    refine target.perm ?_
    rw [nx, List.append_assoc]
    exact List.perm_middle
/-- two plans are joined -/
theorem PIv.pair {as : List Atom} {ps : List Pl} {done : List Str} {sz i j : Nat} {p q : Pl} (h : PIv as ps done sz) (hp : ps[i]? = some p) (hq : (ps.eraseIdx i)[j]? = some q) : PIv as ((ps.eraseIdx i).eraseIdx j ++ [.join [p, q]]) done (sz + 1) := by
  have pm : ps.Perm (p :: q :: (ps.eraseIdx i).eraseIdx j) := (perm_erase hp).trans ((perm_erase hq).cons p)
  have hI := h.perm pm.symm
  have target : PIv as (.join [p, q] :: (ps.eraseIdx i).eraseIdx j) done (sz + 1) := by
    refine ⟨?_, fun k hk => ?_, fun r hr => ?_, fun r hr => ?_, fun r hr y hy => ?_, ?_⟩
    · have n := hI.nd
      simp only [beneaths, beneath, List.append_nil, List.append_assoc] at n ⊢
      exact n
    · have t := hI.there k
      simp only [beneaths, beneath, List.append_nil, List.append_assoc] at t hk
      exact t hk
    · rcases List.mem_cons.mp hr with z | z
      · rw [z, Vx]
        exact vxs_of fun r hr => hI.vx r (by rcases List.mem_cons.mp hr with y | y; rw [y]; simp; rw [List.mem_singleton.mp y]; simp)
      · exact hI.vx r (by simp [z])
    · rcases List.mem_cons.mp hr with z | z
      · rw [z, Vb]
        exact vbs_of fun r hr => hI.vb r (by rcases List.mem_cons.mp hr with y | y; rw [y]; simp; rw [List.mem_singleton.mp y]; simp)
      · exact hI.vb r (by simp [z])
    · rcases List.mem_cons.mp hr with z | z
      · rw [z, bnd] at hy
        exact bnds_all (P := fun y => y ∈ done) (fun r hr => hI.bn r (by rcases List.mem_cons.mp hr with y | y; rw [y]; simp; rw [List.mem_singleton.mp y]; simp)) y hy
      · exact hI.bn r (by simp [z]) y hy
    · have s := hI.size
      simp only [pszs, psz] at s ⊢
      omega
  exact target.perm List.perm_append_comm
theorem pszs_scans : ∀ l : List Nat, pszs (l.map Pl.scan) = l.length
  | [] => rfl
  | i :: l => by rw [List.map_cons, pszs, psz, pszs_scans l, List.length_cons]; omega
theorem beneaths_scans : ∀ l : List Nat, beneaths (l.map Pl.scan) = l
  | [] => rfl
  | i :: l => by rw [List.map_cons, beneaths, beneath, beneaths_scans l]; rfl
theorem piv_start (as : List Atom) : PIv as ((List.range as.length).map Pl.scan) [] as.length := by
  refine ⟨by rw [beneaths_scans]; exact List.nodup_range, fun i hi => by rw [beneaths_scans] at hi; exact List.mem_range.mp hi, fun p hp => ?_, fun p hp => ?_, fun p hp y hy => ?_, by rw [pszs_scans, List.length_range]; exact Nat.le_refl _⟩
  · obtain ⟨i, _, e⟩ := List.mem_map.mp hp; rw [← e, Vx]; trivial
  · obtain ⟨i, _, e⟩ := List.mem_map.mp hp; rw [← e, Vb]; trivial
  · obtain ⟨i, _, e⟩ := List.mem_map.mp hp; rw [← e, bnd] at hy; cases hy
/-! plans as data -/
mutual
theorem plT_nof : ∀ p : Pl, (plT p).nof = true
  | .scan i => by simp [plT, T.nof, T.nofs]
  | .proj x q => by simp [plT, T.nof, T.nofs, plT_nof q]
  | .join ps => by simp [plT, T.nof, T.nofs, plTs_nof ps]
theorem plTs_nof : ∀ ps : List Pl, T.nofs (plTs ps) = true
  | [] => by simp [plTs, T.nofs]
  | p :: ps => by simp [plTs, T.nofs, plT_nof p, plTs_nof ps]
end
mutual
theorem plT_dep : ∀ p : Pl, (plT p).dep ≤ 2 * psz p
  | .scan i => by simp [plT, T.dep, T.deps, psz]
  | .proj x q => by have := plT_dep q; simp [plT, T.dep, T.deps, psz]; omega
  | .join ps => by have := plTs_dep ps; simp [plT, T.dep, T.deps, psz]; omega
theorem plTs_dep : ∀ ps : List Pl, T.deps (plTs ps) ≤ 2 * pszs ps
  | [] => by simp [plTs, T.deps]
  | p :: ps => by have := plT_dep p; have := plTs_dep ps; simp [plTs, T.deps, pszs]; omega
end
mutual
theorem plT_inj : ∀ p q : Pl, plT p = plT q → p = q
  | .scan i, .scan j, h => by simp [plT] at h; rw [show i = j by omega]
  | .scan i, .proj y r, h => by simp [plT] at h
  | .scan i, .join rs, h => by simp [plT] at h
  | .proj x q, .scan j, h => by simp [plT] at h
  | .proj x q, .proj y r, h => by
    simp only [plT, T.t.injEq, List.cons.injEq, T.s.injEq] at h
    rw [h.2.1, plT_inj q r h.2.2.1]
  | .proj x q, .join rs, h => by simp [plT] at h
  | .join ps, .scan j, h => by simp [plT] at h
  | .join ps, .proj y r, h => by simp [plT] at h
  | .join ps, .join rs, h => by
    simp only [plT, T.t.injEq, List.cons.injEq] at h
    rw [plTs_inj ps rs h.2.1]
theorem plTs_inj : ∀ ps qs : List Pl, plTs ps = plTs qs → ps = qs
  | [], [], _ => rfl
  | [], q :: qs, h => by simp [plTs] at h
  | p :: ps, [], h => by simp [plTs] at h
  | p :: ps, q :: qs, h => by
    simp only [plTs, List.cons.injEq] at h
    rw [plT_inj p q h.1, plTs_inj ps qs h.2]
end
theorem eqv_pl (p q : Pl) : PyData.eqv (plT p).py (plT q).py = true ↔ p = q := (eqv_py _ _ (plT_nof p) (plT_nof q)).trans ⟨plT_inj p q, fun h => by rw [h]⟩
theorem pys_get : ∀ {ps : List Pl} {j : Nat} {p : Pl}, ps[j]? = some p → (T.pys (plTs ps))[j]? = some (plT p).py
  | p0 :: ps, 0, p, h => by
    have e : p0 = p := by simpa using h
    rw [e, plTs, T.pys]; rfl
  | p0 :: ps, j + 1, p, h => by
    rw [plTs, T.pys]
    simpa using pys_get (ps := ps) (j := j) (by simpa using h)
  | [], j, p, h => by simp at h
theorem pys_get' : ∀ {ps : List Pl} {j : Nat} {d : PyData}, (T.pys (plTs ps))[j]? = some d → ∃ p, ps[j]? = some p ∧ d = (plT p).py
  | p0 :: ps, 0, d, h => by
    rw [plTs, T.pys] at h
    exact ⟨p0, rfl, (Option.some.inj h).symm⟩
  | p0 :: ps, j + 1, d, h => by
    rw [plTs, T.pys] at h
    obtain ⟨p, h1, h2⟩ := pys_get' (ps := ps) (j := j) (by simpa using h)
    exact ⟨p, by simpa using h1, h2⟩
  | [], j, d, h => by simp [plTs, T.pys] at h
theorem any_pl (p : Pl) [DecidableEq Pl] : ∀ ps : List Pl, (T.pys (plTs ps)).any (fun z => PyData.eqv z (plT p).py) = decide (p ∈ ps)
  | [] => by simp [plTs, T.pys]
  | q :: ps => by
    rw [plTs, T.pys, List.any_cons, any_pl p ps]
    by_cases h : q = p
    · rw [(eqv_pl q p).mpr h]; simp [h]
    · have : PyData.eqv (plT q).py (plT p).py = false := by
        cases z : PyData.eqv (plT q).py (plT p).py with
        | false => rfl
        | true => exact absurd ((eqv_pl q p).mp z) h
      rw [this]
      simp [Ne.symm h]
end K48
set_option maxRecDepth 100000
set_option maxHeartbeats 8000000
namespace K48
open PySem PySem.Spec PyProof.Rows L2 RZ
open Classical in
/-- the plans that f keeps, as data -/
noncomputable def fPl (f : Pl → Bool) : T → Option T := fun t => if ∃ p, t = plT p ∧ f p = true then some t else none
theorem fPl_plT (f : Pl → Bool) (p : Pl) : fPl f (plT p) = if f p = true then some (plT p) else none := by
  unfold fPl
  by_cases h : f p = true
  · rw [if_pos ⟨p, rfl, h⟩, if_pos h]
  · rw [if_neg, if_neg h]
    rintro ⟨q, e, hq⟩
    rw [← plT_inj p q e] at hq
    exact h hq
theorem fm_pl (f : Pl → Bool) : ∀ ps : List Pl, (plTs ps).filterMap (fPl f) = plTs (ps.filter f)
  | [] => rfl
  | p :: ps => by
    rw [plTs, List.filterMap_cons, fPl_plT, List.filter_cons]
    by_cases h : f p = true
    · rw [if_pos h, if_pos h, plTs, fm_pl f ps]
    · rw [if_neg h, if_neg h]
      exact fm_pl f ps
theorem cut_take (xs : List V) {a : Nat} (h : a ≤ xs.length) : cutV xs none (some (a : Int)) = xs.take a := by
  unfold cutV
  rw [HT.sIx_none, HT.sIx_nat, List.drop_zero, Nat.sub_zero, Nat.min_eq_left h]
theorem cut_drop (xs : List V) {a : Nat} (h : a ≤ xs.length) : cutV xs (some (a : Int)) none = xs.drop a := by
  unfold cutV
  rw [HT.sIx_none, HT.sIx_nat, Nat.min_eq_left h]
  exact List.take_of_length_le (by rw [List.length_drop]; exact Nat.le_refl _)
theorem plTs_take (ps : List Pl) (a : Nat) : (plTs ps).take a = plTs (ps.take a) := by rw [plTs_eq, plTs_eq, List.map_take]
theorem plTs_drop (ps : List Pl) (a : Nat) : (plTs ps).drop a = plTs (ps.drop a) := by rw [plTs_eq, plTs_eq, List.map_drop]
theorem sProject_ok : strOk sProject = true := by decide +kernel
theorem first_has (f : Pl → Bool) : ∀ {ps : List Pl} {c0 : Pl} {r : List Pl}, ps.filter f = c0 :: r → ∃ a : Nat, ps[a]? = some c0 ∧ f c0 = true ∧ ∀ p ∈ ps.take a, f p = false
  | [], _, _, h => by simp at h
  | p :: ps, c0, r, h => by
    rw [List.filter_cons] at h
    cases hp : f p with
    | true =>
      rw [hp, if_pos rfl] at h
      injection h with h1 h2
      exact ⟨0, by rw [h1]; rfl, by rw [← h1]; exact hp, fun q hq => by simp at hq⟩
    | false =>
      rw [hp, if_neg (by decide)] at h
      obtain ⟨a, h1, h2, h3⟩ := first_has f h
      refine ⟨a + 1, by simpa using h1, h2, fun q hq => ?_⟩
      rw [List.take_succ_cons] at hq
      rcases List.mem_cons.mp hq with z | z
      · rw [z]; exact hp
      · exact h3 q z
section
variable {P : Program} {w : World} {K : PySem.W.Frag} {mg : Str → Option Value} {base : Heap}
def N_l_eliminated : List Str := ["_law_join", "_law_plans", "_law_name", "_law_chosen", "_law_at", "_law_plan_here", "_law_other"]
def p_l_eliminated : List Str := ["_law_join", "_law_plans", "_law_name"]
theorem sc_l_eliminated : FnScope N_l_eliminated p_l_eliminated (defScope s_l_eliminated) := ⟨rfl, rfl, rfl, by decide +kernel, rfl, by decide +kernel, by decide +kernel⟩
def sp_l_eliminated : Sp := fun vs H Q _ => ∃ (jv : V) (l : Addr) (x : Str) (xs : List V) (as : List Atom) (ps : List Pl), vs = [jv, .ref l, .str x] ∧ Is H jv (joT as) ∧ H l = some (.lst xs) ∧ IsL H xs (plTs ps) ∧ Few as ∧ (∀ p ∈ ps, Wf as p) ∧ pszs ps ≤ 28 ∧ strOk x = true ∧
  ∀ (l' : Addr) (xs' : List V) (ps' : List Pl) H', Same H H' → H' l' = some (.lst xs') → IsL H' xs' (plTs ps') → (l' = l ∨ H l' = none) → Elim as x ps ps' → Q (.ref l') H'
theorem ok_l_eliminated (G_l_columns : Ok P w K mg base 32 "_law_columns" p_l_columns (sp_l_columns 30)) (G_l_joined : Ok P w K mg base 1 "_law_joined" p_l_joined sp_l_joined) (T : Tx K mg) : Ok P w K mg base 33 "_law_eliminated" p_l_eliminated sp_l_eliminated := by
  refine T.ok i_l_eliminated sc_l_eliminated (fun _ _ _ _ _ _ us h => by match us, h with | [_, _, _], _ => rfl) (fun vs H Q E h => by obtain ⟨_, _, _, _, _, _, rfl, _⟩ := h; rfl) (fun f cdv A outer s H vs Q E hr h => ?_)
  obtain ⟨jv, l, x, xs, as, ps, rfl, hj, hl, hxs, fa, wf, sz, okx, q⟩ := h
  have nd := sc_l_eliminated.nd
  have hu64 := room_u64 hr
  have hu65 := room_u65 hr
  refine ⟨_, (pss_cons (ps_set (i := 3) nd rfl (Or.inr rfl) (pe_lc (own := [("_law_plan_here", 5)]) (by rfl) nd (pi_list (pv 1)) (blkOk_by (N := N_l_eliminated) (sc := defScope s_l_eliminated) (by decide +kernel)) (fun _ _ _ _ _ => (pg_name (i := 5) nd rfl (Or.inl rfl))) (fun _ _ _ _ _ => pts_one (pt_cmpR (op_in_seqK K) (pv 2) (pe_ok G_l_columns (hr.mono (by first | decide | omega)) rfl (pa_cons (pv 0) (pa_cons (pv 5) pa_nil))) (by rfl))) (fun _ _ _ _ _ => (pv 5))))
      (pss_cons (ps_if (pt_cmpR op_eq (pe_callB call_len (by rfl) (T.bl "len" (by decide)) (by decide +kernel) (pa_cons (pv 3) pa_nil)) pe_int (nomark _))
        (pss_one (ps_ret (pv 1)))
        pss_nil)
      (pss_cons (ps_set (i := 4) nd rfl (Or.inl rfl) (pe_bm PySem.F.plainAttrs_list PySem.F.slot_list_index PySem.F.type_list_index (mt_indexD hu65) (pv 1) (pa_cons (pe_ix ix_list (pv 3) pe_int (fun _ _ => rfl)) pa_nil)))
      (pss_cons (ps_set (i := 5) nd rfl (Or.inl rfl) (pe_tup (pa_cons pe_str (pa_cons (pv 2) (pa_cons (pe_ok G_l_joined (hr.mono (by first | decide | omega)) rfl (pa_cons (pv 3) pa_nil)) pa_nil)))))
      (pss_one (ps_ret (pe_op op_cat (pe_op op_cat (pe_lc (own := [("_law_other", 6)]) (by rfl) nd (pi_list (pe_slice sl_list (pv 1) po_none (po_some (pv 4)))) (blkOk_by (N := N_l_eliminated) (sc := defScope s_l_eliminated) (by decide +kernel)) (fun _ _ _ _ _ => (pg_name (i := 6) nd rfl (Or.inl rfl))) (fun _ _ _ _ _ => pts_one (pt_cmpR (op_notInDK K hu65) (pv 6) (pv 3) (by rfl))) (fun _ _ _ _ _ => (pv 6))) (pe_lst (pa_cons (pv 5) pa_nil))) (pe_lc (own := [("_law_other", 6)]) (by rfl) nd (pi_list (pe_slice sl_list (pv 1) (po_some (pe_op op_add (pv 4) pe_int)) po_none)) (blkOk_by (N := N_l_eliminated) (sc := defScope s_l_eliminated) (by decide +kernel)) (fun _ _ _ _ _ => (pg_name (i := 6) nd rfl (Or.inl rfl))) (fun _ _ _ _ _ => pts_one (pt_cmpR (op_notInDK K hu65) (pv 6) (pv 3) (by rfl))) (fun _ _ _ _ _ => (pv 6)))))))))), ?_⟩
  obtain ⟨jp, jq, jx, jxs, rfl, hjp, _, _⟩ := jo_inv hj
  have aok := aok_of hj
  have lps := len_psz ps
  have lx : xs.length = ps.length := by rw [hxs.length, plTs_len]
  refine r_seq (r_asg ?_)
  refine lc_listF (fPl (hasX as x)) H (fun R r => ⟨_, rfl, r⟩) hl hxs (by rw [plTs_len]; omega) (fun C H1 cvs sm1 hC hcv hcs => ?_) (fun i y t H' et sm ht Y Z hY hZ => ?_)
  rotate_left
  · rw [plTs_eq] at et
    obtain ⟨p, ep, e2⟩ := map_get et
    subst e2
    have mp := List.mem_of_getElem? ep
    have tk := TK.of sm
    refine ⟨rfl, .str x, rfl, .ref jp, rfl, y, rfl, .ref jp, y, as, p, rfl, Is.mono tk _ _ hj, ht, fa, wf p mp, ?_, fun c H2 sm2 nc hc => ?_⟩
    · have := ht_psz p
      have := psz_mem mp
      omega
    · refine ⟨c, _, rfl, .inl (.inl (.inl hc)), rfl, flat_strs _, decide (x ∈ cols as p), congrArg V.bl (inV_strs x _), ?_⟩
      by_cases z : x ∈ cols as p
      · rw [decide_eq_true z]
        exact ⟨y, rfl, hY _ _ _ (by rw [fPl_plT, if_pos (by simp [hasX, z])]) sm2 (Is.mono (TK.of sm2) _ _ ht)⟩
      · rw [decide_eq_false z]
        exact hZ _ (by rw [fPl_plT, if_neg (by simp [hasX, z])]) sm2
  rw [fm_pl] at hcs
  have lc : cvs.length = (ps.filter (hasX as x)).length := by rw [hcs.length, plTs_len]
  have lf : (ps.filter (hasX as x)).length ≤ ps.length := List.length_filter_le _ _
  dsimp only [gName]
  refine ⟨.ref C, rfl, _, _, rfl, .inl ⟨_, .inl (.inl hcv), rfl⟩, rfl, decide (cvs.length = 0), ?_, ?_⟩
  · by_cases z : cvs.length = 0
    · rw [z]; rfl
    · rw [decide_eq_false z]
      exact congrArg V.bl (decide_eq_false fun y => z (by injection y with y; omega))
  by_cases z : cvs.length = 0
  · rw [decide_eq_true z]
    exact ⟨.ref l, rfl, q l xs ps H1 sm1 (sm1 _ _ hl) (IsL.mono (TK.of sm1) _ _ hxs) (.inl rfl) (.inl ⟨rfl, List.eq_nil_of_length_eq_zero (by omega)⟩)⟩
  rw [decide_eq_false z]
  obtain ⟨c0, cr, ech⟩ : ∃ c0 cr, ps.filter (hasX as x) = c0 :: cr := by
    match ps.filter (hasX as x), lc with
    | [], h0 => exact absurd h0 z
    | c0 :: cr, _ => exact ⟨c0, cr, rfl⟩
  obtain ⟨a, ea, hc0, hno⟩ := first_has (hasX as x) ech
  obtain ⟨v0, ev0, hv0⟩ := hcs.get (i := 0) (d := plT c0) (by rw [ech, plTs]; rfl)
  have ha : a < ps.length := (List.getElem?_eq_some_iff.mp ea).1
  have hl1 := sm1 _ _ hl
  have hxs1 := IsL.mono (TK.of sm1) _ _ hxs
  have mc0 := List.mem_of_getElem? ea
  have pc0 := psz_mem mc0
  have deps : K48.T.deps (plTs ps) ≤ 63 := by have := plTs_dep ps; omega
  have dc0 : (plT c0).dep ≤ 64 := by have := plT_dep c0; omega
  refine ⟨.ref l, rfl, .inl ⟨rfl, _, .inl (.inl hl1)⟩, .ref C, rfl, C, _, 0, v0, rfl, rfl, .inl (.inl hcv), atI_nat (i := 0) ev0, l, v0, (plT c0).py, K48.T.pys (plTs ps), a, (plT c0).py, rfl, rfl, Dp.lst (.inl (.inl hl1)) (IsL.dp _ _ hxs1), Is.dp _ _ hv0, shaped_isL hxs1 deps, shaped_is hv0 dc0, pys_get ea, (eqv_pl c0 c0).mpr rfl, fun m z' hm hz' => ?_, ?_⟩
  · obtain ⟨pm, e1, e2⟩ := pys_get' hz'
    subst e2
    cases hh : PyData.eqv (plT pm).py (plT c0).py with
    | false => rfl
    | true =>
      have e3 := (eqv_pl pm c0).mp hh
      have : pm ∈ ps.take a := by
        refine List.mem_of_getElem? (i := m) ?_
        rw [List.getElem?_take, if_pos hm]
        exact e1
      have := hno pm this
      rw [e3, hc0] at this
      cases this
  dsimp only [gName]
  refine ⟨.str x, rfl, .ref C, rfl, C, cvs, ps.filter (hasX as x), rfl, hcv, hcs, by omega, fun jpv H2 sm2 hjpv => ⟨small3, fun pp hpp => ?_⟩⟩
  have s3 := Same.new (o := .tup [.str (Str.ofString "project"), .str x, jpv]) hpp
  have s13 := same_tr sm2 s3
  have hpl : Is (upd H2 pp (.tup [.str (Str.ofString "project"), .str x, jpv])) (.ref pp) (plT (.proj x (joinedP (ps.filter (hasX as x))))) := by
    rw [plT]
    exact is_t upd_same (isL_cons (is_s sProject_ok) (isL_cons (is_s okx) (isL_cons (Is.mono (TK.of s3) _ _ hjpv) isL_nil)))
  have hl3 := s13 _ _ hl1
  have hC3 := s13 _ _ hcv
  have hxs3 := IsL.mono (TK.of s13) _ _ hxs1
  have hcs3 := IsL.mono (TK.of s13) _ _ hcs
  have s03 := same_tr sm1 s13
  generalize (upd H2 pp (.tup [.str (Str.ofString "project"), .str x, jpv])) = H3 at s3 s13 hpl hl3 hC3 hxs3 hcs3 s03 ⊢
  dsimp only [gName]
  -- what is left of the others
  have fsz : pszs (ps.filter (hasX as x)) ≤ pszs ps := by
    have := pszs_perm (List.filter_append_perm (hasX as x) ps)
    rw [pszs_append] at this
    omega
  have turn : ∀ (H4 : Hp) (y : V) (p : Pl) (H' : Hp), Same H3 H4 → p ∈ ps → Same H4 H' → Is H' y (plT p) → ∀ (Y : VK) (Z : Hp → Prop), (∀ y' H5 d, fPl (noX' as x) (plT p) = some d → Same H' H5 → Is H5 y' d → Y y' H5) → (∀ H5, fPl (noX' as x) (plT p) = none → Same H' H5 → Z H5) →
      (tTest (tOp (rNotInD K) (tVar 6) (tVar 3))) [some (.ref jp), some (.ref l), some (.str x), some (.ref C), some (.int a), some (.ref pp), some y] H' (fun b H5 => if b = true then (tVar 6) [some (.ref jp), some (.ref l), some (.str x), some (.ref C), some (.int a), some (.ref pp), some y] H5 Y else Z H5) := by
    intro H4 y p H' s4 mp s5 hy Y Z hY hZ
    have s35 := same_tr s4 s5
    have pm := psz_mem mp
    have hC5 := s35 _ _ hC3
    have hcs5 := IsL.mono (TK.of s35) _ _ hcs3
    have deps2 : K48.T.deps (plTs (ps.filter (hasX as x))) ≤ 63 := by have := plTs_dep (ps.filter (hasX as x)); omega
    have dp : (plT p).dep ≤ 64 := by have := plT_dep p; omega
    have mem : p ∈ ps.filter (hasX as x) ↔ x ∈ cols as p := by
      rw [List.mem_filter]
      simp [hasX, mp]
    refine ⟨y, rfl, .ref C, rfl, (plT p).py, K48.T.pys (plTs (ps.filter (hasX as x))), Is.dp _ _ hy, Dp.lst (.inl (.inl hC5)) (IsL.dp _ _ hcs5), shaped_is hy dp, shaped_isL hcs5 deps2, decide (x ∉ cols as p), ?_, ?_⟩
    · rw [@any_pl p (Classical.typeDecidableEq Pl)]
      by_cases z : x ∈ cols as p
      · simp [mem, z]
      · simp [mem, z]
    · by_cases z : x ∈ cols as p
      · rw [decide_eq_false (by simpa using z)]
        exact hZ _ (by rw [fPl_plT, if_neg (by simp [noX', z])]) (same_refl _)
      · rw [decide_eq_true z]
        exact ⟨y, rfl, hY _ _ _ (by rw [fPl_plT, if_pos (by simp [noX', z])]) (same_refl _) hy⟩
  refine r_ret (r_op (r_op (lc_listG ?_)))
  refine ⟨.ref l, rfl, .int a, rfl, a, rfl, l, xs, rfl, .inl (.inl hl3), fun t1 ht1 => ?_⟩
  have s4 := Same.new (o := .lst (cutV xs none (some (a : Int)))) ht1
  have e1 : cutV xs none (some (a : Int)) = xs.take a := cut_take xs (by omega)
  rw [e1] at s4 ⊢
  refine ⟨t1, rfl, ⟨_, .inl (.inl upd_same)⟩, ?_⟩
  have ht1s : IsL (upd H3 t1 (.lst (xs.take a))) (xs.take a) (plTs (ps.take a)) := by
    rw [← plTs_take]
    exact IsL.take a (IsL.mono (TK.of s4) _ _ hxs3)
  refine c_listF (fPl (noX' as x)) upd_same ht1s (by rw [plTs_len, List.length_take]; omega) (fun R1 H5 r1 s5 hR1 hr1 hrs1 => ?_) (fun i y t H' et sm ht Y Z hY hZ => ?_)
  rotate_left
  · rw [plTs_eq] at et
    obtain ⟨p, ep, e2⟩ := map_get et
    subst e2
    exact ⟨rfl, turn _ y p H' s4 (List.mem_of_mem_take (List.mem_of_getElem? ep)) sm ht Y Z hY hZ⟩
  rw [fm_pl] at hrs1
  have s35 := same_tr s4 s5
  refine ⟨.ref pp, rfl, small1, fun o1 ho1 => ?_⟩
  have s6 := Same.new (o := .lst [.ref pp]) ho1
  have lr1 : r1.length ≤ 28 := by rw [hrs1.length, plTs_len]; exact Nat.le_trans (List.length_filter_le _ _) (by rw [List.length_take]; omega)
  refine ⟨R1, o1, _, _, rfl, rfl, s6 _ _ hr1, upd_same, le_line (by show r1.length + 1 ≤ 1000; omega), fun R2 hR2 => ?_⟩
  have s7 := Same.new (o := .lst (r1 ++ [.ref pp])) hR2
  have s57 := same_tr s6 s7
  have s37 := same_tr s35 s57
  refine lc_listG ?_
  refine ⟨.ref l, rfl, .int a, rfl, _, _, rfl, rfl, a + 1, rfl, l, xs, rfl, .inl (.inl (s37 _ _ hl3)), fun t2 ht2 => ?_⟩
  have e2 : cutV xs (some ((a : Int) + 1)) none = xs.drop (a + 1) := cut_drop xs (a := a + 1) (by omega)
  have s8 := Same.new (o := .lst (xs.drop (a + 1))) ht2
  rw [e2]
  refine ⟨t2, rfl, ⟨_, .inl (.inl upd_same)⟩, ?_⟩
  have s38 := same_tr s37 s8
  have ht2s : IsL (upd (upd (upd H5 o1 (.lst [.ref pp])) R2 (.lst (r1 ++ [.ref pp]))) t2 (.lst (xs.drop (a + 1)))) (xs.drop (a + 1)) (plTs (ps.drop (a + 1))) := by
    rw [← plTs_drop]
    exact IsL.drop (a + 1) (IsL.mono (TK.of s38) _ _ hxs3)
  refine c_listF (fPl (noX' as x)) upd_same ht2s (by rw [plTs_len, List.length_drop]; omega) (fun R3 H9 r3 s9 hR3 hr3 hrs3 => ?_) (fun i y t H' et sm ht Y Z hY hZ => ?_)
  rotate_left
  · rw [plTs_eq] at et
    obtain ⟨p, ep, e2⟩ := map_get et
    subst e2
    exact ⟨rfl, turn _ y p H' s38 (List.mem_of_mem_drop (List.mem_of_getElem? ep)) sm ht Y Z hY hZ⟩
  rw [fm_pl] at hrs3
  have lr3 : r3.length ≤ 28 := by rw [hrs3.length, plTs_len]; exact Nat.le_trans (List.length_filter_le _ _) (by rw [List.length_drop]; omega)
  refine ⟨R2, R3, _, _, rfl, rfl, s9 _ _ (s8 _ _ upd_same), hr3, le_line (by rw [List.length_append]; show r1.length + 1 + r3.length ≤ 1000; omega), fun R4 hR4 => ?_⟩
  have s10 := Same.new (o := .lst ((r1 ++ [.ref pp]) ++ r3)) hR4
  have s910 := same_tr s9 s10
  have s5f := same_tr s57 (same_tr s8 s910)
  have s3f := same_tr s35 s5f
  refine q R4 _ _ _ (same_tr s03 s3f) upd_same ?_ (.inr ?_) (.inr ⟨a, c0, ea, by simpa [hasX] using hc0, fun p hp => by simpa [hasX] using hno p hp, rfl⟩)
  · rw [plTs_append, plTs_append]
    refine IsL.append (IsL.append (IsL.mono (TK.of s5f) _ _ hrs1) ?_) (IsL.mono (TK.of s10) _ _ hrs3)
    exact isL_cons (Is.mono (TK.of s3f) _ _ hpl) isL_nil
  · exact none_back s03 (none_back s35 (none_back s57 (none_back s8 (none_back s9 hR4))))
end
end K48
set_option maxRecDepth 100000
set_option maxHeartbeats 8000000
namespace K48
open PySem PySem.Spec PyProof.Rows L2 RZ
theorem nodup_le {α : Type} [DecidableEq α] : ∀ {l m : List α}, l.Nodup → (∀ x ∈ l, x ∈ m) → l.length ≤ m.length
  | [], m, _, _ => Nat.zero_le _
  | x :: l, m, n, h => by
    obtain ⟨n1, n2⟩ := List.nodup_cons.mp n
    have hm : x ∈ m := h x (List.mem_cons_self ..)
    have k := nodup_le (l := l) (m := m.erase x) n2 fun y hy => (List.mem_erase_of_ne (fun z : y = x => n1 (z ▸ hy))).mpr (h y (List.mem_cons_of_mem _ hy))
    have e := List.length_erase_of_mem hm
    have p := List.length_pos_of_mem hm
    rw [List.length_cons]
    omega
theorem PIv.wf {as : List Atom} {ps : List Pl} {done : List Str} {sz : Nat} (h : PIv as ps done sz) (six : as.length ≤ 6) {p : Pl} (hp : p ∈ ps) : Wf as p := by
  have s := beneath_sub hp
  refine ⟨fun i hi => h.there i (s.subset hi), ?_⟩
  have := nodup_le (m := List.range as.length) (s.nodup h.nd) fun i hi => List.mem_range.mpr (h.there i (s.subset hi))
  rw [List.length_range] at this
  omega
theorem jvars_in {tabs : List (Str × Nat)} {vars : List Str} {a b c : Key} {as : List Atom} (h : JoinOk tabs vars a b c as) {x : Str} (hx : x ∈ jvars as) : x ∈ vars := by
  unfold jvars at hx
  obtain ⟨at_, h1, h2⟩ := List.mem_flatMap.mp hx
  obtain ⟨t, h3, h4⟩ := List.mem_filterMap.mp h2
  have k := h.ok at_ h1 t h3
  cases t with
  | val c => simp [tvar] at h4
  | var y =>
    simp [tvar] at h4
    rw [← h4]
    exact k
theorem jvars_few {tabs : List (Str × Nat)} {vars : List Str} {a b c : Key} {as : List Atom} (h : JoinOk tabs vars a b c as) (v : VarsOk vars) : (csort (jvars as)).length ≤ 5 :=
  Nat.le_trans (nodup_le (nodup_csort _) fun x hx => jvars_in h (mem_csort.mp hx)) v.few
theorem JoinOk.lim {tabs : List (Str × Nat)} {vars : List Str} {a b c : Key} {as : List Atom} (h : JoinOk tabs vars a b c as) (t : TabsOk tabs) : Few as := ⟨by have := h.few; omega, fun at_ ha => by have := (t.ok _ (h.tab at_ ha)).2; show at_.2.length ≤ 10; simp at this; omega⟩
theorem sScan_ok : strOk sScan = true := by decide +kernel
/-- what a made plan is -/
structure PlOk (as : List Atom) (p : Pl) : Prop where
  wf : Wf as p
  vx : Vx as p
  vb : Vb p
  nd : (beneath p).Nodup
  sz : psz p ≤ 28
theorem PIv.fin {as : List Atom} {ps : List Pl} {done : List Str} {sz : Nat} (h : PIv as ps done sz) (six : as.length ≤ 6) (k : sz + 1 ≤ 28) : PlOk as (joinedP ps) := by
  have len := nodup_le (m := List.range as.length) h.nd fun i hi => List.mem_range.mpr (h.there i hi)
  rw [List.length_range] at len
  refine ⟨⟨fun i hi => h.there i (by rw [joined_beneath] at hi; exact hi), by rw [joined_beneath]; omega⟩, joined_vx h.vx, joined_vb h.vb, by rw [joined_beneath]; exact h.nd, ?_⟩
  have := joined_psz ps
  have := h.size
  omega
section
variable {P : Program} {w : World} {K : PySem.W.Frag} {mg : Str → Option Value} {base : Heap}
def N_l_plan : List Str := ["_law_draws_here", "_law_join", "_law_plans", "_law_names", "_law_k", "_law_first", "_law_second", "_law_i"]
def p_l_plan : List Str := ["_law_draws_here", "_law_join"]
theorem sc_l_plan : FnScope N_l_plan p_l_plan (defScope s_l_plan) := ⟨rfl, rfl, rfl, by decide +kernel, rfl, by decide +kernel, by decide +kernel⟩
def sp_l_plan : Sp := fun vs H Q _ => ∃ (dr : Addr) (jv : V) (as : List Atom) (tabs : List (Str × Nat)) (vars : List Str) (a b c : Key), vs = [.ref dr, jv] ∧ Dw dr H ∧ Is H jv (joT as) ∧ JoinOk tabs vars a b c as ∧ TabsOk tabs ∧ VarsOk vars ∧
  ∀ v p H', But dr H H' → Dw dr H' → Is H' v (plT p) → PlOk as p → Q v H'
theorem ok_l_plan (G_l_take : Ok P w K mg base 1 "_law_take" p_l_take sp_l_take) (G_l_variables : Ok P w K mg base 1 "_law_variables" p_l_variables sp_l_variables) (G_l_eliminated : Ok P w K mg base 33 "_law_eliminated" p_l_eliminated sp_l_eliminated) (G_l_joined : Ok P w K mg base 1 "_law_joined" p_l_joined sp_l_joined) (T : Tx K mg) : Ok P w K mg base 34 "_law_plan" p_l_plan sp_l_plan := by
  refine T.ok i_l_plan sc_l_plan (fun _ _ _ _ _ _ us h => by match us, h with | [_, _], _ => rfl) (fun vs H Q E h => by obtain ⟨_, _, _, _, _, _, _, _, rfl, _⟩ := h; rfl) (fun f cdv A outer s H vs Q E hr h => ?_)
  obtain ⟨dr, jv, as, tabs, vars, a, b, c, rfl, dw, hj, jo, tok, vok, q⟩ := h
  have nd := sc_l_plan.nd
  have six := jo.few
  have fa := jo.lim tok
  have five := jvars_few jo vok
  refine ⟨_, (pss_cons (ps_setLc (i := 2) (own := [("_law_i", 7)]) (by rfl) nd rfl rfl (sw_true rfl rfl rfl (by decide +kernel)) (pi_range1 rfl (T.bl "range" (by decide)) (pa_cons (pe_callB call_len (by rfl) (T.bl "len" (by decide)) (by decide +kernel) (pa_cons (pe_ix ix_tup (pv 1) pe_int (fun _ _ => rfl)) pa_nil)) pa_nil)) (blkOk_by (N := N_l_plan) (sc := defScope s_l_plan) (by decide +kernel)) (fun _ _ _ _ _ => (pg_name (i := 7) nd rfl (Or.inl rfl))) (fun _ _ _ _ _ => pts_nil) (fun _ _ _ _ _ => (pe_tup (pa_cons pe_str (pa_cons (pv 7) pa_nil)))))
      (pss_cons (ps_set (i := 3) nd rfl (Or.inl rfl) (pe_ok G_l_variables (hr.mono (by first | decide | omega)) rfl (pa_cons (pv 1) pa_nil)))
      (pss_cons (ps_for PassesOwn.never rfl (pi_range1 rfl (T.bl "range" (by decide)) (pa_cons (pe_callB call_len (by rfl) (T.bl "len" (by decide)) (by decide +kernel) (pa_cons (pv 3) pa_nil)) pa_nil)) (pg_name (i := 4) nd rfl (Or.inl rfl))
        (Evl.pss_cut (ps_if (PW.pt (pw_and (pt_cmpR op_gt (pe_callB call_len (by rfl) (T.bl "len" (by decide)) (by decide +kernel) (pa_cons (pv 2) pa_nil)) pe_int (nomark _)) (pw_and1 (pt_cmpR op_eq (pe_ok G_l_take (hr.mono (by first | decide | omega)) rfl (pa_cons (pv 0) (pa_cons pe_int pa_nil))) pe_int (nomark _)))))
          (pss_cons (ps_set (i := 5) nd rfl (Or.inl rfl) (pe_bm PySem.F.plainAttrs_list PySem.F.slot_list_pop PySem.F.type_list_pop mt_popAt (pv 2) (pa_cons (pe_ok G_l_take (hr.mono (by first | decide | omega)) rfl (pa_cons (pv 0) (pa_cons (pe_callB call_len (by rfl) (T.bl "len" (by decide)) (by decide +kernel) (pa_cons (pv 2) pa_nil)) pa_nil))) pa_nil)))
          (pss_cons (ps_set (i := 6) nd rfl (Or.inl rfl) (pe_bm PySem.F.plainAttrs_list PySem.F.slot_list_pop PySem.F.type_list_pop mt_popAt (pv 2) (pa_cons (pe_ok G_l_take (hr.mono (by first | decide | omega)) rfl (pa_cons (pv 0) (pa_cons (pe_callB call_len (by rfl) (T.bl "len" (by decide)) (by decide +kernel) (pa_cons (pv 2) pa_nil)) pa_nil))) pa_nil)))
          (pss_one (ps_expr (pe_bm PySem.F.plainAttrs_list PySem.F.slot_list_append PySem.F.type_list_append mt_append (pv 2) (pa_cons (pe_tup (pa_cons pe_str (pa_cons (pe_tup (pa_cons (pv 5) (pa_cons (pv 6) pa_nil))) pa_nil))) pa_nil))))))
          pss_nil)
        (pss_one (ps_set (i := 2) nd rfl (Or.inl rfl) (pe_ok G_l_eliminated (hr.mono (by first | decide | omega)) rfl (pa_cons (pv 1) (pa_cons (pv 2) (pa_cons (pe_bm PySem.F.plainAttrs_list PySem.F.slot_list_pop PySem.F.type_list_pop mt_popAt (pv 3) (pa_cons (pe_ok G_l_take (hr.mono (by first | decide | omega)) rfl (pa_cons (pv 0) (pa_cons (pe_callB call_len (by rfl) (T.bl "len" (by decide)) (by decide +kernel) (pa_cons (pv 3) pa_nil)) pa_nil))) pa_nil)) pa_nil))))))))
      (Evl.pss_cut (ps_if (pt_cmpR op_eq (pe_ok G_l_take (hr.mono (by first | decide | omega)) rfl (pa_cons (pv 0) (pa_cons pe_int pa_nil))) pe_int (nomark _))
        (pss_one (ps_expr (pe_bm0 PySem.F.plainAttrs_list PySem.F.slot_list_reverse PySem.F.type_list_reverse mt_reverse (pv 2))))
        pss_nil)
      (pss_one (ps_ret (pe_ok G_l_joined (hr.mono (by first | decide | omega)) rfl (pa_cons (pv 2) pa_nil)))))))), ?_⟩
  obtain ⟨j, l, x0, xs0, rfl, hjp, hl, hxs0⟩ := jo_inv hj
  have lx0 : xs0.length = as.length := by rw [hxs0.length, List.length_map]
  refine r_seq (r_asg (lc_rngH ?_))
  refine ⟨.ref j, rfl, j, _, 1, _, rfl, rfl, .inl (.inl hjp), at1, _, _, rfl, .inr ⟨_, .inl (.inl hl), rfl⟩, xs0.length, rfl, by omega, by omega, ?_⟩
  rw [Int.toNat_natCast, lx0]
  refine c_rngF (fun i => some (plT (.scan i))) (by omega) (fun C H1 vs1 sm1 hC hvs1 hls1 => ?_) (fun i H' hi sm Y Z hY hZ => ?_)
  rotate_left
  · refine ⟨rfl, .int i, rfl, small2, fun p hp => hY _ _ _ rfl (Same.new hp) ?_⟩
    rw [plT]
    exact is_t upd_same (isL_cons (is_s sScan_ok) (isL_cons is_i isL_nil))
  have e1 : (List.range as.length).filterMap (fun i => some (plT (.scan i))) = plTs ((List.range as.length).map Pl.scan) := by
    rw [plTs_eq, List.map_map, ← List.filterMap_eq_map]
    rfl
  rw [e1] at hls1
  dsimp only [gName]
  refine ⟨.ref j, rfl, .ref j, as, rfl, Is.mono (TK.of sm1) _ _ hj, fa, fun oks n H2 sm2 hn hnv => ?_⟩
  dsimp only [gName]
  have s02 := same_tr sm1 sm2
  have ndC := dw.out hC
  have ndN := (dw.same sm1).out hn
  have cn : C ≠ n := fun z => by rw [← z, hvs1] at hn; cases hn
  have hn0 := none_back sm1 hn
  refine ⟨.ref n, rfl, _, _, rfl, .inl ⟨_, .inl (.inl hnv), rfl⟩, (csort (jvars as)).length, by rw [List.length_map], by omega, by omega, ?_⟩
  rw [Int.toNat_natCast]
  refine j_rng (fun i σ H' => ∃ (k fi se : Option V) (m : Addr) (ps : List Pl) (xs : List V) (ns done : List Str), σ = [some (.ref dr), some (.ref j), some (.ref m), some (.ref n), k, fi, se, none] ∧ But dr H H' ∧ Dw dr H' ∧ H m = none ∧ m ≠ dr ∧ m ≠ n ∧ H' m = some (.lst xs) ∧ IsL H' xs (plTs ps) ∧ H' n = some (.lst (ns.map V.str)) ∧ ns.Nodup ∧ (∀ x ∈ ns, strOk x = true) ∧ (∀ x ∈ done, x ∉ ns) ∧ ns.length + i = (csort (jvars as)).length ∧ PIv as ps done (as.length + 3 * i))
    ⟨_, _, _, C, _, vs1, _, [], rfl, But.of s02, dw.same s02, hC, ndC, cn, sm2 _ _ hvs1, IsL.mono (TK.of sm2) _ _ hls1, hnv, nodup_csort _, oks, fun _ h => (by cases h), rfl, piv_start as⟩ (fun σ H' h => ?_) (fun i σ H' hi h => ?_)
  · obtain ⟨k, fi, se, m, ps, xs, ns, done, rfl, b3, dw3, hm0, mdr, mn, hm, hxs, hns, nns, okns, dis, len, pi⟩ := h
    have psl := len_psz ps
    have := pi.size
    refine Evl.q_cut (M := fun σ H4 => ∃ (m : Addr) (ps : List Pl) (xs : List V), σ = [some (.ref dr), some (.ref j), some (.ref m), some (.ref n), k, fi, se, none] ∧ But dr H H4 ∧ Dw dr H4 ∧ H4 m = some (.lst xs) ∧ IsL H4 xs (plTs ps) ∧ PIv as ps done (as.length + 15)) ?_ (fun σ H4 h => ?_)
    · refine ⟨.ref dr, rfl, dr, 2, rfl, by decide, dw3, fun g H5 b5 dw5 g0 g3 => ⟨rfl, decide (g = 0), ?_, ?_⟩⟩
      · by_cases z : g = 0
        · rw [z]; rfl
        · rw [decide_eq_false z]
          exact congrArg V.bl (decide_eq_false fun y => z (by injection y))
      · have hm5 := b5 _ _ mdr hm
        have hxs5 := IsL.mono (dw3.tk b5) _ _ hxs
        have pi' := pi.more (done' := done) (sz' := as.length + 15) (fun _ h => h) (by omega)
        by_cases z : g = 0
        · rw [decide_eq_true z]
          refine ⟨.ref m, rfl, .inl ⟨rfl, _, .inl (.inl hm5)⟩, m, xs, rfl, rfl, hm5, ?_⟩
          refine ⟨m, ps.reverse, xs.reverse, rfl, (But.trans b3 b5).mut hm0, dw5.upd_ne mdr, upd_same, ?_, pi'.perm (List.reverse_perm ps)⟩
          rw [plTs_eq, List.map_reverse, ← plTs_eq]
          exact IsL.reverse (IsL.mono (TK.putL hm5) _ _ hxs5)
        · rw [decide_eq_false z]
          exact ⟨m, ps, xs, rfl, But.trans b3 b5, dw5, hm5, hxs5, pi'⟩
    · obtain ⟨m, ps, xs, rfl, b4, dw4, hm4, hxs4, pi4⟩ := h
      have psl := len_psz ps
      have := pi4.size
      exact ⟨.ref m, rfl, m, xs, ps, rfl, hm4, hxs4, by omega, fun v H5 sm5 hv => q v _ H5 (But.trans b4 (But.of sm5)) (dw4.same sm5) hv (pi4.fin six (by omega))⟩
  · obtain ⟨k, fi, se, m, ps, xs, ns, done, rfl, b3, dw3, hm0, mdr, mn, hm, hxs, hns, nns, okns, dis, len, pi⟩ := h
    dsimp only [gName]
    refine Evl.q_cut (M := fun σ H4 => ∃ (fi se : Option V) (ps : List Pl) (xs : List V), σ = [some (.ref dr), some (.ref j), some (.ref m), some (.ref n), some (.int i), fi, se, none] ∧ But dr H H4 ∧ Dw dr H4 ∧ H4 m = some (.lst xs) ∧ IsL H4 xs (plTs ps) ∧ H4 n = some (.lst (ns.map V.str)) ∧ PIv as ps done (as.length + 3 * i + 1)) ?_ (fun σ H4 h => ?_)
    · have pi' := pi.more (done' := done) (sz' := as.length + 3 * i + 1) (fun _ h => h) (by omega)
      have lx : xs.length = ps.length := by rw [hxs.length, plTs_len]
      have psl0 := len_psz ps
      have psz0 := pi.size
      refine ⟨.ref m, rfl, _, _, rfl, .inl ⟨_, .inl (.inl hm), rfl⟩, _, _, rfl, rfl, decide ((1 : Int) < xs.length), rfl, ?_⟩
      by_cases z0 : (1 : Int) < xs.length
      · rw [decide_eq_true z0]
        refine ⟨.ref dr, rfl, dr, 3, rfl, by decide, dw3, fun g H5 b5 dw5 g0 g3 => ⟨rfl, decide (g = 0), ?_, ?_⟩⟩
        · by_cases z : g = 0
          · rw [z]; rfl
          · rw [decide_eq_false z]
            exact congrArg V.bl (decide_eq_false fun y => z (by injection y))
        have hm5 := b5 _ _ mdr hm
        have hn5 := b5 _ _ ndN hns
        have hxs5 := IsL.mono (dw3.tk b5) _ _ hxs
        by_cases z : g = 0
        · rw [decide_eq_true z]
          refine ⟨.ref m, rfl, .inl ⟨rfl, _, .inl (.inl hm5)⟩, .ref dr, rfl, .ref m, rfl, _, _, rfl, .inl ⟨_, .inl (.inl hm5), rfl⟩, dr, xs.length, rfl, by omega, dw5, fun j1 H6 b6 dw6 j0 jx => ?_⟩
          have hm6 := b6 _ _ mdr hm5
          have hjx : j1.toNat < xs.length := by omega
          have gx := List.getElem?_eq_getElem hjx
          refine ⟨m, xs, j1, j1.toNat, _, rfl, rfl, hm6, by omega, by omega, seqIx j0 jx, gx, ?_⟩
          obtain ⟨p, ep, _, hp⟩ := pl_mem hxs5 gx
          have tk6 := dw5.tk b6
          have tk7 := TK.trans tk6 (TK.putL (o := .lst (xs.eraseIdx j1.toNat)) hm6)
          have dw7 := dw6.upd_ne (o := .lst (xs.eraseIdx j1.toNat)) mdr
          have b7 : But dr H (upd H6 m (.lst (xs.eraseIdx j1.toNat))) := (But.trans b3 (But.trans b5 b6)).mut hm0
          have hm7 : (upd H6 m (.lst (xs.eraseIdx j1.toNat))) m = some (.lst (xs.eraseIdx j1.toNat)) := upd_same
          have hn7 : (upd H6 m (.lst (xs.eraseIdx j1.toNat))) n = some (.lst (ns.map V.str)) := by rw [upd_ne mn.symm]; exact b6 _ _ ndN hn5
          have hxs7 := IsL.mono tk7 _ _ (IsL.eraseIdx j1.toNat hxs5)
          have hp7 := Is.mono tk7 _ _ hp
          rw [plTs_eq, map_erase, ← plTs_eq] at hxs7
          have le7 : (xs.eraseIdx j1.toNat).length + 1 = xs.length := by
            have := (perm_erase gx).length_eq
            rw [List.length_cons] at this
            omega
          generalize (upd H6 m (.lst (xs.eraseIdx j1.toNat))) = H7 at tk7 dw7 b7 hm7 hn7 hxs7 hp7 ⊢
          dsimp only [gName]
          refine ⟨.ref m, rfl, .inl ⟨rfl, _, .inl (.inl hm7)⟩, .ref dr, rfl, .ref m, rfl, _, _, rfl, .inl ⟨_, .inl (.inl hm7), rfl⟩, dr, (xs.eraseIdx j1.toNat).length, rfl, by omega, dw7, fun j2 H8 b8 dw8 k0 kx => ?_⟩
          have hm8 := b8 _ _ mdr hm7
          have hkx : j2.toNat < (xs.eraseIdx j1.toNat).length := by omega
          have gy := List.getElem?_eq_getElem hkx
          refine ⟨m, _, j2, j2.toNat, _, rfl, rfl, hm8, by omega, by omega, seqIx k0 kx, gy, ?_⟩
          obtain ⟨p2, ep2, _, hp2⟩ := pl_mem hxs7 gy
          have tk8 := dw7.tk b8
          have tk9 := TK.trans tk8 (TK.putL (o := .lst ((xs.eraseIdx j1.toNat).eraseIdx j2.toNat)) hm8)
          have dw9 := dw8.upd_ne (o := .lst ((xs.eraseIdx j1.toNat).eraseIdx j2.toNat)) mdr
          have b9 : But dr H (upd H8 m (.lst ((xs.eraseIdx j1.toNat).eraseIdx j2.toNat))) := (But.trans b7 b8).mut hm0
          have hm9 : (upd H8 m (.lst ((xs.eraseIdx j1.toNat).eraseIdx j2.toNat))) m = some (.lst ((xs.eraseIdx j1.toNat).eraseIdx j2.toNat)) := upd_same
          have hn9 : (upd H8 m (.lst ((xs.eraseIdx j1.toNat).eraseIdx j2.toNat))) n = some (.lst (ns.map V.str)) := by rw [upd_ne mn.symm]; exact b8 _ _ ndN hn7
          have hxs9 := IsL.mono tk9 _ _ (IsL.eraseIdx j2.toNat hxs7)
          have hp9 := Is.mono tk9 _ _ hp7
          have hq9 := Is.mono tk9 _ _ hp2
          rw [plTs_eq, map_erase, ← plTs_eq] at hxs9
          have le9 : ((xs.eraseIdx j1.toNat).eraseIdx j2.toNat).length ≤ ps.length := by
            have := (List.eraseIdx_sublist (xs.eraseIdx j1.toNat) j2.toNat).length_le
            omega
          generalize (upd H8 m (.lst ((xs.eraseIdx j1.toNat).eraseIdx j2.toNat))) = H9 at tk9 dw9 b9 hm9 hn9 hxs9 hp9 hq9 ⊢
          dsimp only [gName]
          refine ⟨.ref m, rfl, .inl ⟨rfl, _, .inl (.inl hm9)⟩, _, rfl, _, rfl, small2, fun t ht => ⟨small2, fun t2 ht2 => ?_⟩⟩
          have s10 := Same.new (o := .tup [xs[j1.toNat], (xs.eraseIdx j1.toNat)[j2.toNat]]) ht
          have s11 := Same.new (o := .tup [.str (Str.ofString "join"), .ref t]) ht2
          have s1011 := same_tr s10 s11
          have hm11 := s1011 _ _ hm9
          have psl := len_psz ps
          have := pi.size
          refine ⟨m, _, _, rfl, rfl, hm11, lt_line (by omega), ?_⟩
          have tkf := TK.trans (TK.of s1011) (TK.putL (o := .lst ((xs.eraseIdx j1.toNat).eraseIdx j2.toNat ++ [.ref t2])) hm11)
          refine ⟨_, _, (ps.eraseIdx j1.toNat).eraseIdx j2.toNat ++ [.join [p, p2]], _, rfl, (But.trans b9 (But.of s1011)).mut hm0, (dw9.same s1011).upd_ne mdr, upd_same, ?_, by rw [upd_ne mn.symm]; exact s1011 _ _ hn9, pi.pair ep ep2⟩
          rw [plTs_append]
          refine IsL.append (IsL.mono tkf _ _ hxs9) (isL_cons ?_ isL_nil)
          rw [plT]
          have ht11 := s11 _ _ (upd_same (H := H9) (a := t) (o := .tup [xs[j1.toNat], (xs.eraseIdx j1.toNat)[j2.toNat]]))
          have tkb := TK.putL (o := .lst ((xs.eraseIdx j1.toNat).eraseIdx j2.toNat ++ [.ref t2])) hm11
          exact is_t (tkb.1 _ _ upd_same) (isL_cons (is_s sJoin_ok) (isL_cons (is_t (tkb.1 _ _ ht11) (isL_cons (Is.mono tkf _ _ hp9) (isL_cons (Is.mono tkf _ _ hq9) isL_nil))) isL_nil))
        · rw [decide_eq_false z]
          exact ⟨_, _, ps, xs, rfl, But.trans b3 b5, dw5, hm5, hxs5, hn5, pi'⟩
      · rw [decide_eq_false z0]
        exact ⟨_, _, ps, xs, rfl, b3, dw3, hm, hxs, hns, pi'⟩
    · obtain ⟨fi, se, ps, xs, rfl, b4, dw4, hm4, hxs4, hns4, pi4⟩ := h
      refine ⟨.ref j, rfl, .ref m, rfl, .ref n, rfl, .inl ⟨rfl, _, .inl (.inl hns4)⟩, .ref dr, rfl, .ref n, rfl, _, _, rfl, .inl ⟨_, .inl (.inl hns4), rfl⟩, dr, ns.length, by simp, by omega, dw4, fun g H5 b5 dw5 g0 gx => ?_⟩
      have hns5 := b5 _ _ ndN hns4
      have hgx : g.toNat < ns.length := by omega
      have gn := List.getElem?_eq_getElem hgx
      have gv : (ns.map V.str)[g.toNat]? = some (.str ns[g.toNat]) := by rw [List.getElem?_map, gn]; rfl
      refine ⟨n, _, g, g.toNat, _, rfl, rfl, hns5, by omega, by omega, seqIx g0 (by rw [List.length_map]; exact gx), gv, ?_⟩
      rw [map_erase]
      have tk5 := dw4.tk b5
      have tk6 := TK.trans tk5 (TK.putL (o := .lst ((ns.eraseIdx g.toNat).map V.str)) hns5)
      have dw6 := dw5.upd_ne (o := .lst ((ns.eraseIdx g.toNat).map V.str)) ndN
      have b6 : But dr H (upd H5 n (.lst ((ns.eraseIdx g.toNat).map V.str))) := (But.trans b4 b5).mut hn0
      have hn6 : (upd H5 n (.lst ((ns.eraseIdx g.toNat).map V.str))) n = some (.lst ((ns.eraseIdx g.toNat).map V.str)) := upd_same
      have hm6 : (upd H5 n (.lst ((ns.eraseIdx g.toNat).map V.str))) m = some (.lst xs) := by rw [upd_ne mn]; exact b5 _ _ mdr hm4
      have hxs6 := IsL.mono tk6 _ _ hxs4
      have pm := perm_erase gn
      have mg_ := List.getElem_mem hgx
      have nn := pm.nodup_iff.mp nns
      obtain ⟨nn1, nn2⟩ := List.nodup_cons.mp nn
      have le6 := pm.length_eq
      rw [List.length_cons] at le6
      have sub := fun (x : Str) (hx : x ∈ ns.eraseIdx g.toNat) => (List.eraseIdx_sublist ns g.toNat).subset hx
      have hj6 : Is _ (.ref j) (joT as) := Is.mono (dw.tk b6) _ _ hj
      generalize (upd H5 n (.lst ((ns.eraseIdx g.toNat).map V.str))) = H6 at tk6 dw6 b6 hn6 hm6 hxs6 hj6 ⊢
      refine ⟨.ref j, m, ns[g.toNat], xs, as, ps, rfl, hj6, hm6, hxs6, fa, fun p hp => pi4.wf six hp, by have := pi4.size; omega, okns _ mg_, fun l' xs' ps' H7 sm7 hl' hxs7 fr el => ?_⟩
      dsimp only [gName]
      have dw7 := dw6.same sm7
      have b7 := But.trans b6 (But.of sm7)
      have step := pi4.elim (fun hd => dis _ hd mg_) el
      have facts : H l' = none ∧ l' ≠ dr ∧ l' ≠ n := by
        rcases fr with e | e
        · subst e; exact ⟨hm0, mdr, mn⟩
        · have d1 : l' ≠ dr := dw6.out e
          exact ⟨b6.free d1 e, d1, fun z => by rw [z, hn6] at e; cases e⟩
      refine ⟨_, _, _, l', ps', xs', ns.eraseIdx g.toNat, ns[g.toNat] :: done, rfl, b7, dw7, facts.1, facts.2.1, facts.2.2, hl', hxs7, sm7 _ _ hn6, nn2, fun x hx => okns x (sub x hx), fun x hx => ?_, by omega, ?_⟩
      · rcases List.mem_cons.mp hx with z | z
        · rw [z]; exact nn1
        · exact fun hm => dis x z (sub x hm)
      · exact step.more (fun _ h => h) (by omega)
end
end K48
set_option maxRecDepth 100000
set_option maxHeartbeats 8000000
namespace K48
open PySem PySem.Spec PyProof.Rows L2 RZ
theorem kT_inj {a b : Key} (h : kT a = kT b) : a = b := by
  cases a <;> cases b <;> simp [kT] at h <;> rw [h]
theorem kTs_inj : ∀ {a b : List Key}, a.map kT = b.map kT → a = b
  | [], [], _ => rfl
  | [], _ :: _, h => by simp at h
  | _ :: _, [], h => by simp at h
  | x :: a, y :: b, h => by
    rw [List.map_cons, List.map_cons, List.cons.injEq] at h
    rw [kT_inj h.1, kTs_inj h.2]
/-- a place as data -/
def plcT (p : Place) : T := .t [.s p.1, rowT p.2]
theorem plcT_inj {p q : Place} (h : plcT p = plcT q) : p = q := by
  simp only [plcT, rowT, T.t.injEq, List.cons.injEq, T.s.injEq] at h
  exact Prod.ext h.1 (kTs_inj h.2.1)
theorem kTs_nof : ∀ r : List Key, T.nofs (r.map kT) = true
  | [] => rfl
  | k :: r => by
    rw [List.map_cons, T.nofs, kTs_nof r]
    cases k <;> rfl
theorem plcT_nof (p : Place) : (plcT p).nof = true := by simp [plcT, rowT, T.nof, T.nofs, kTs_nof]
theorem kTs_dep : ∀ r : List Key, T.deps (r.map kT) ≤ 2
  | [] => by simp [T.deps]
  | k :: r => by
    have := kTs_dep r
    rw [List.map_cons, T.deps]
    cases k <;> simp [kT, T.dep] <;> omega
theorem plcT_dep (p : Place) : (plcT p).dep ≤ 10 := by
  have := kTs_dep p.2
  simp [plcT, rowT, T.dep, T.deps]
  omega
theorem eqv_plc (p q : Place) : PyData.eqv (plcT p).py (plcT q).py = true ↔ p = q := (eqv_py _ _ (plcT_nof p) (plcT_nof q)).trans ⟨plcT_inj, fun h => by rw [h]⟩
theorem any_plc (p : Place) : ∀ ps : List Place, (T.pys (ps.map plcT)).any (fun z => PyData.eqv z (plcT p).py) = true ↔ p ∈ ps
  | [] => by simp [T.pys]
  | q :: ps => by
    rw [List.map_cons, T.pys, List.any_cons, Bool.or_eq_true, any_plc p ps, eqv_plc q p, List.mem_cons]
    constructor
    · rintro (h | h)
      · exact .inl h.symm
      · exact .inr h
    · rintro (h | h)
      · exact .inl h.symm
      · exact .inr h
theorem plcs_dep : ∀ ps : List Place, T.deps (ps.map plcT) ≤ 10
  | [] => by simp [T.deps]
  | p :: ps => by
    have := plcs_dep ps
    have := plcT_dep p
    rw [List.map_cons, T.deps]
    omega
theorem fa_cons {H : Hp} {x : V} {xs : List V} {fs : List Fact} (h : IsL H (x :: xs) (fs.map faT)) : ∃ f r, fs = f :: r ∧ Is H x (faT f) ∧ IsL H xs (r.map faT) := by
  match fs with
  | [] => have := isL_nil_inv h; cases this
  | f :: r =>
    obtain ⟨v, vs, e, h1, h2⟩ := isL_inv h
    cases e
    exact ⟨f, r, rfl, h1, h2⟩
theorem perm_is {H : Hp} {xs ys : List V} (p : ys.Perm xs) : ∀ {fs : List Fact}, IsL H xs (fs.map faT) → ∃ gs : List Fact, gs.Perm fs ∧ IsL H ys (gs.map faT) := by
  induction p with
  | nil => exact fun {fs} h => ⟨fs, List.Perm.refl _, h⟩
  | cons x _ ih =>
    intro fs h
    obtain ⟨f, r, rfl, h1, h2⟩ := fa_cons h
    obtain ⟨gs, g1, g2⟩ := ih h2
    exact ⟨f :: gs, g1.cons f, isL_cons h1 g2⟩
  | swap x y l =>
    intro fs h
    obtain ⟨f, r, rfl, h1, h2⟩ := fa_cons h
    obtain ⟨g, r2, rfl, h3, h4⟩ := fa_cons h2
    exact ⟨g :: f :: r2, List.Perm.swap _ _ _, isL_cons h3 (isL_cons h1 h4)⟩
  | trans _ _ ih1 ih2 =>
    intro fs h
    obtain ⟨es, q1, q2⟩ := ih2 h
    obtain ⟨gs, q3, q4⟩ := ih1 q2
    exact ⟨gs, q3.trans q1, q4⟩
section
variable {P : Program} {w : World} {K : PySem.W.Frag} {mg : Str → Option Value} {base : Heap}
def N_l_table : List Str := ["_law_schema", "_law_name", "_law_table_here"]
def p_l_table : List Str := ["_law_schema", "_law_name"]
theorem sc_l_table : FnScope N_l_table p_l_table (defScope s_l_table) := ⟨rfl, rfl, rfl, by decide +kernel, rfl, by decide +kernel, by decide +kernel⟩
def sp_l_table : Sp := fun vs H Q _ => ∃ (sc : V) (tabs : List (Str × Nat)) (x : Str), vs = [sc, .str x] ∧ Is H sc (.t (tabs.map tabT)) ∧ (∃ t ∈ tabs, t.1 = x) ∧ ∀ v (t : Str × Nat), t ∈ tabs → t.1 = x → Is H v (tabT t) → Q v H
theorem ok_l_table (T : Tx K mg) : Ok P w K mg base 1 "_law_table" p_l_table sp_l_table := by
  refine T.ok i_l_table sc_l_table (fun _ _ _ _ _ _ us h => by match us, h with | [_, _], _ => rfl) (fun vs H Q E h => by obtain ⟨_, _, _, rfl, _⟩ := h; rfl) (fun f cdv A outer s H vs Q E hr h => ?_)
  obtain ⟨sc, tabs, x, rfl, hsc, ⟨t0, mt0, et0⟩, q⟩ := h
  have nd := sc_l_table.nd
  refine ⟨_, (pss_cons (ps_for PassesOwn.never rfl (pi_tup (pv 0)) (pg_name (i := 2) nd rfl (Or.inl rfl))
        (pss_one (ps_if (pt_cmpR op_eq (pe_ix ix_tup (pv 2) pe_int (fun _ _ => rfl)) (pv 1) (nomark _))
          (pss_one (ps_ret (pv 2)))
          pss_nil)))
      (pss_one (ps_ret pe_non))), ?_⟩
  obtain ⟨sa, sxs, rfl, hsa, hsx⟩ := is_t_inv hsc
  refine ⟨.ref sa, rfl, sa, rfl, ⟨_, .inl (.inl hsa)⟩, ?_⟩
  have lx : sxs.length = tabs.length := by rw [hsx.length, List.length_map]
  refine j_tup sxs (fun i σ H' => ∃ pt : Option V, σ = [some (.ref sa), some (.str x), pt] ∧ H' = H ∧ ∀ t ∈ tabs.take i, t.1 ≠ x) ⟨_, rfl, rfl, fun _ h => by simp at h⟩ (fun i σ H' h => by obtain ⟨_, _, e, _⟩ := h; rw [e]; exact .inl (.inl hsa)) (fun σ H' h => ?_) (fun i v σ H' e h => ?_)
  · obtain ⟨_, _, _, no⟩ := h
    rw [lx, List.take_length] at no
    exact absurd et0 (no t0 mt0)
  · obtain ⟨pt, rfl, rfl, no⟩ := h
    obtain ⟨dt, edt, hv⟩ := hsx.get' e
    obtain ⟨tb, etb, e2⟩ := map_get edt
    subst e2
    obtain ⟨ta, v1, v2, rfl, hta, h1, h2⟩ := two_inv hv
    obtain ⟨rfl, _⟩ := is_s_inv h1
    dsimp only [gName]
    refine ⟨.ref ta, rfl, ta, _, 0, _, rfl, rfl, .inl (.inl hta), at0, .str x, rfl, ?_⟩
    refine ⟨rfl, decide (tb.1 = x), ?_, ?_⟩
    · by_cases z : tb.1 = x
      · rw [z]; simp
      · simp [z]
    · by_cases z : tb.1 = x
      · rw [decide_eq_true z]
        exact ⟨.ref ta, rfl, q _ tb (List.mem_of_getElem? etb) z hv⟩
      · rw [decide_eq_false z]
        refine ⟨_, rfl, rfl, fun t ht => ?_⟩
        rw [take_succ etb] at ht
        rcases List.mem_append.mp ht with y | y
        · exact no t y
        · rw [List.mem_singleton.mp y]; exact z
def N_l_store : List Str := ["_law_facts_here", "_law_found", "_law_places", "_law_fact"]
def p_l_store : List Str := ["_law_facts_here"]
theorem sc_l_store : FnScope N_l_store p_l_store (defScope s_l_store) := ⟨rfl, rfl, rfl, by decide +kernel, rfl, by decide +kernel, by decide +kernel⟩
def sp_l_store : Sp := fun vs H Q _ => ∃ (l : Addr) (xs : List V) (fs : List Fact), vs = [.ref l] ∧ H l = some (.lst xs) ∧ IsL H xs (fs.map faT) ∧ fs.length ≤ 100 ∧ (∀ f ∈ fs, f.2.1.length ≤ 1000) ∧
  ∀ v (st : List Fact) H', Same H H' → Is H' v (stT st) → (st.map plOf).Nodup → (∀ f ∈ st, f ∈ fs) → (∀ f ∈ fs, plOf f ∈ st.map plOf) → st.length ≤ fs.length → Q v H'
theorem ok_l_store (G_l_place_key : Ok P w K mg base 3 "_law_place_key" p_l_place_key sp_l_place_key) (T : Tx K mg) : Ok P w K mg base 6 "_law_store" p_l_store sp_l_store := by
  obtain ⟨F_l_place_key, fdr, M_l_place_key, kpr, bir, fkr⟩ := G_l_place_key
  refine T.ok i_l_store sc_l_store (fun _ _ _ _ _ _ us h => by match us, h with | [_], _ => rfl) (fun vs H Q E h => by obtain ⟨_, _, _, rfl, _⟩ := h; rfl) (fun f cdv A outer s H vs Q E hr h => ?_)
  obtain ⟨l, xs, fs, rfl, hl, hxs, few, rows, q⟩ := h
  have nd := sc_l_store.nd
  have hu := room_u1 hr
  have hu64 := room_u64 hr
  have hu65 := room_u65 hr
  have lx : xs.length = fs.length := by rw [hxs.length, List.length_map]
  refine ⟨_, (pss_cons (ps_set (i := 1) nd rfl (Or.inl rfl) (pe_lst pa_nil))
      (pss_cons (ps_set (i := 2) nd rfl (Or.inl rfl) (pe_lst pa_nil))
      (pss_cons (ps_for PassesOwn.never rfl (pi_list (pe_callBK (cr_sortK (fa := F_l_place_key) rfl) (by rfl) (T.bl "sorted" (by decide)) (by decide +kernel) (pa_cons (pv 0) pa_nil) (pk_cons (pe_glob (v := .ref F_l_place_key) rfl M_l_place_key rfl) pk_nil))) (pg_name (i := 3) nd rfl (Or.inl rfl))
        (pss_one (ps_if (pt_cmpR (op_notInD hu65) (pe_slice sl_tupA (pv 3) po_none (po_some pe_int)) (pv 2) (by rfl))
          (pss_cons (ps_expr (pe_bm PySem.F.plainAttrs_list PySem.F.slot_list_append PySem.F.type_list_append mt_append (pv 2) (pa_cons (pe_slice sl_tupA (pv 3) po_none (po_some pe_int)) pa_nil)))
          (pss_one (ps_expr (pe_bm PySem.F.plainAttrs_list PySem.F.slot_list_append PySem.F.type_list_append mt_append (pv 1) (pa_cons (pv 3) pa_nil)))))
          pss_nil)))
      (pss_one (ps_ret (pe_callTy call_tuple_of (by rfl) (T.bl "tuple" (by decide)) (by decide +kernel) (pa_cons (pv 1) pa_nil))))))), ?_⟩
  refine ⟨Nat.zero_le _, fun fl hfl => ?_⟩
  dsimp only [gName]
  have s1 := Same.new (o := .lst []) hfl
  refine ⟨Nat.zero_le _, fun pl hpl => ?_⟩
  dsimp only [gName]
  have s2 := Same.new (o := .lst []) hpl
  have s02 := same_tr s1 s2
  have nfp : fl ≠ pl := fun z => by rw [← z, upd_same] at hpl; cases hpl
  have hfl2 := s2 _ _ (upd_same (H := H) (a := fl) (o := .lst []))
  have hpl2 := upd_same (H := upd H fl (.lst [])) (a := pl) (o := .lst [])
  have hl2 := s02 _ _ hl
  have hxs2 := IsL.mono (TK.of s02) _ _ hxs
  have hpl0 := none_back s1 hpl
  generalize (upd (upd H fl (.lst [])) pl (.lst [])) = H2 at s2 s02 hfl2 hpl2 hl2 hxs2 ⊢
  refine ⟨.ref l, rfl, l, xs, fun i y H' => ∃ fa, fs[i]? = some fa ∧ PlaceK H' y (fa.1, fa.2.1), rfl, rfl, .inl (.inl hl2), ⟨fun i y Ha Hb sq hy => ?_, ?_, ?_⟩, fun H' pp ys sm hpp pm => ?_⟩
  · obtain ⟨fa, e1, e2⟩ := hy
    exact ⟨fa, e1, e2.mono sq⟩
  · refine key_run (k := 3) fkr bir (hr.mono (by omega)) fun i x H' ex sq => ?_
    obtain ⟨dt, edt, hx⟩ := hxs2.get' ex
    obtain ⟨fa, efa, e2⟩ := map_get edt
    subst e2
    exact ⟨x, fa, rfl, Is.mono sq.tk _ _ hx, rows fa (List.mem_of_getElem? efa), fun y H3 s' hy => ⟨s', fa, efa, hy⟩⟩
  · intro pins σ H' s' ys keys I sq rv len kd
    refine sorts_places (pl := fs.map plOf) I (show (A.deeper _).units + 70 < cLine from by have := hr.un; omega) rv (by rw [len, lx, List.length_map]) fun i y p ey ep => ?_
    obtain ⟨fa, e1, e2⟩ := kd i y ey
    obtain ⟨fa', e3, e4⟩ := map_get ep
    rw [e1] at e3
    rw [← e4, ← Option.some.inj e3]
    exact e2
  · obtain ⟨gs, gp, hys⟩ := perm_is pm hxs2
    have s3 : Same H2 (upd H' pp (.lst ys)) := Same.mut2 (H := H2) sm hpp
    have s03 := same_tr s02 s3
    have hys3 : IsL (upd H' pp (.lst ys)) ys (gs.map faT) := IsL.mono (TK.of s3) _ _ hys
    have hpp3 : (upd H' pp (.lst ys)) pp = some (.lst ys) := upd_same
    have hfl3 := s3 _ _ hfl2
    have hpl3 := s3 _ _ hpl2
    have npf : pp ≠ fl := fun z => by rw [z, hfl2] at hpp; cases hpp
    have npp : pp ≠ pl := fun z => by rw [z, hpl2] at hpp; cases hpp
    generalize (upd H' pp (.lst ys)) = H3 at s3 s03 hys3 hpp3 hfl3 hpl3 ⊢
    have ly : ys.length = gs.length := by rw [hys3.length, List.length_map]
    have lg : gs.length = fs.length := gp.length_eq
    have oks : ∀ f ∈ gs, f.2.1.length ≤ 1000 := fun f hf => rows f (gp.mem_iff.mp hf)
    refine ⟨pp, rfl, ⟨ys, .inl (.inl hpp3)⟩, ?_⟩
    refine j_list ys (fun i σ H' => ∃ (pt : Option V) (found : List Fact) (us zs : List V), σ = [some (.ref l), some (.ref fl), some (.ref pl), pt] ∧ Same H H' ∧ TK H3 H' ∧ H' pp = some (.lst ys) ∧ H' fl = some (.lst us) ∧ IsL H' us (found.map faT) ∧ H' pl = some (.lst zs) ∧ IsL H' zs ((found.map plOf).map plcT) ∧ (found.map plOf).Nodup ∧ (∀ f ∈ found, f ∈ fs) ∧ (∀ f ∈ gs.take i, plOf f ∈ found.map plOf) ∧ found.length ≤ i)
      ⟨_, [], [], [], rfl, s03, TK.refl _, hpp3, hfl3, isL_nil, hpl3, isL_nil, List.nodup_nil, fun _ h => (by cases h), fun _ h => by simp at h, Nat.le_refl _⟩ (fun i σ H' h => by obtain ⟨_, _, _, _, _, _, _, h, _⟩ := h; exact .inl (.inl h)) (fun σ H' h => ?_) (fun i v σ H' e h => ?_)
    · obtain ⟨pt, found, us, zs, rfl, sm, tk, hpp4, hfl4, hus, hpl4, hzs, nn, sub, all, len⟩ := h
      rw [ly, List.take_length] at all
      refine ⟨.ref fl, rfl, fl, us, rfl, .inl ⟨.inl (.inl hfl4), fun r hr2 => ?_⟩⟩
      exact q _ found _ (same_tr sm (Same.new hr2)) (is_t upd_same (IsL.mono (TK.of (Same.new hr2)) _ _ hus)) nn sub (fun f hf => all f (gp.mem_iff.mpr hf)) (by omega)
    · obtain ⟨pt, found, us, zs, rfl, sm, tk, hpp4, hfl4, hus, hpl4, hzs, nn, sub, all, len⟩ := h
      have hi : i < ys.length := (List.getElem?_eq_some_iff.mp e).1
      obtain ⟨dt, edt, hv3⟩ := hys3.get' e
      obtain ⟨fa, efa, e2⟩ := map_get edt
      subst e2
      have hv := Is.mono tk _ _ hv3
      obtain ⟨va, x, y, z, rfl, ha, hx, hy, hz⟩ := three_inv hv
      have etk := take_succ efa
      dsimp only [gName]
      refine ⟨.ref va, rfl, 2, rfl, va, _, rfl, .inl (.inl ha), fun h => absurd h.2 (by show ¬ 2 = 3; decide), fun _ t ht => ?_⟩
      have s5 := Same.new (o := .tup [x, y]) ht
      have hpc : Is (upd H' t (.tup [x, y])) (.ref t) (plcT (plOf fa)) := is_t upd_same (isL_cons (Is.mono (TK.of s5) _ _ hx) (isL_cons (Is.mono (TK.of s5) _ _ hy) isL_nil))
      have cut : cutV [x, y, z] none (some 2) = [x, y] := rfl
      rw [cut]
      have hpl5 := s5 _ _ hpl4
      have hzs5 := IsL.mono (TK.of s5) _ _ hzs
      have dp : (plcT (plOf fa)).dep ≤ 64 := Nat.le_trans (plcT_dep _) (by decide)
      have dps : K48.T.deps ((found.map plOf).map plcT) ≤ 63 := Nat.le_trans (plcs_dep _) (by decide)
      refine ⟨.ref pl, rfl, (plcT (plOf fa)).py, K48.T.pys ((found.map plOf).map plcT), Is.dp _ _ hpc, Dp.lst (.inl (.inl hpl5)) (IsL.dp _ _ hzs5), shaped_is hpc dp, shaped_isL hzs5 dps, ?_⟩
      have an := any_plc (plOf fa) (found.map plOf)
      by_cases zz : plOf fa ∈ found.map plOf
      · rw [an.mpr zz]
        refine ⟨false, rfl, ?_⟩
        refine ⟨_, found, us, zs, rfl, same_tr sm s5, TK.trans tk (TK.of s5), s5 _ _ hpp4, s5 _ _ hfl4, IsL.mono (TK.of s5) _ _ hus, hpl5, hzs5, nn, sub, fun f hf => ?_, by omega⟩
        rw [etk] at hf
        rcases List.mem_append.mp hf with m | m
        · exact all f m
        · rw [List.mem_singleton.mp m]; exact zz
      · have an' : (K48.T.pys ((found.map plOf).map plcT)).any (fun z => PyData.eqv z (plcT (plOf fa)).py) = false := by
          cases hb : (K48.T.pys ((found.map plOf).map plcT)).any (fun z => PyData.eqv z (plcT (plOf fa)).py) with
          | false => rfl
          | true => exact absurd (an.mp hb) zz
        rw [an']
        refine ⟨true, rfl, ?_⟩
        refine ⟨.ref pl, rfl, .inl ⟨rfl, _, .inl (.inl hpl5)⟩, .ref va, rfl, 2, rfl, va, _, rfl, .inl (.inl (s5 _ _ ha)), fun h => absurd h.2 (by show ¬ 2 = 3; decide), fun _ t2 ht2 => ?_⟩
        rw [cut]
        have s6 := Same.new (o := .tup [x, y]) ht2
        have s56 := same_tr s5 s6
        have hpl6 := s56 _ _ hpl4
        have lz : zs.length = found.length := by rw [hzs.length, List.length_map, List.length_map]
        have lu : us.length = found.length := by rw [hus.length, List.length_map]
        refine ⟨pl, zs, .ref t2, rfl, rfl, hpl6, lt_line (by omega), ?_⟩
        have tk7 := TK.putL (o := .lst (zs ++ [.ref t2])) hpl6
        have hfl7 : (upd (upd (upd H' t (.tup [x, y])) t2 (.tup [x, y])) pl (.lst (zs ++ [.ref t2]))) fl = some (.lst us) := by rw [upd_ne nfp]; exact s56 _ _ hfl4
        refine ⟨.ref fl, rfl, .inl ⟨rfl, _, .inl (.inl hfl7)⟩, .ref va, rfl, fl, us, .ref va, rfl, rfl, hfl7, lt_line (by omega), ?_⟩
        have tk8 := TK.putL (o := .lst (us ++ [.ref va])) hfl7
        have tk68 := TK.trans tk7 tk8
        have tk48 := TK.trans (TK.of s56) tk68
        have sm6 := same_tr sm s56
        refine ⟨_, found ++ [fa], us ++ [.ref va], zs ++ [.ref t2], rfl, Same.mut2 (H := H) (Same.mut2 (H := H) sm6 hpl0) hfl, TK.trans tk tk48, ?_, upd_same, ?_, ?_, ?_, ?_, fun f hf => ?_, fun f hf => ?_, ?_⟩
        · rw [upd_ne npf, upd_ne npp]; exact s56 _ _ hpp4
        · rw [List.map_append]
          exact IsL.append (IsL.mono tk48 _ _ hus) (isL_cons (Is.mono tk48 _ _ hv) isL_nil)
        · rw [upd_ne nfp.symm]; exact upd_same
        · rw [List.map_append, List.map_append]
          refine IsL.append (IsL.mono tk48 _ _ hzs) (isL_cons ?_ isL_nil)
          refine Is.mono tk68 _ _ ?_
          exact is_t upd_same (isL_cons (Is.mono (TK.of s56) _ _ hx) (isL_cons (Is.mono (TK.of s56) _ _ hy) isL_nil))
        · rw [List.map_append]
          exact List.nodup_append.mpr ⟨nn, by simp, fun a ha b hb => by rw [List.map_cons, List.map_nil, List.mem_singleton] at hb; rw [hb]; exact fun z => zz (z ▸ ha)⟩
        · rcases List.mem_append.mp hf with m | m
          · exact sub f m
          · rw [List.mem_singleton.mp m]; exact gp.mem_iff.mp (List.mem_of_getElem? efa)
        · rw [etk] at hf
          rw [List.map_append]
          rcases List.mem_append.mp hf with m | m
          · exact List.mem_append_left _ (all f m)
          · rw [List.mem_singleton.mp m]; exact List.mem_append_right _ (by simp)
        · rw [List.length_append]
          show found.length + 1 ≤ i + 1
          omega
end
end K48
set_option maxRecDepth 100000
set_option maxHeartbeats 8000000
namespace K48
open PySem PySem.Spec PyProof.Rows L2 RZ
theorem rowT_nof (r : List Key) : (rowT r).nof = true := by simp [rowT, T.nof, kTs_nof]
theorem rowT_dep (r : List Key) : (rowT r).dep ≤ 10 := by
  have := kTs_dep r
  simp [rowT, T.dep]
  omega
theorem rowT_inj {a b : List Key} (h : rowT a = rowT b) : a = b := by
  simp only [rowT, T.t.injEq] at h
  exact kTs_inj h
theorem eqv_row (p q : List Key) : PyData.eqv (rowT p).py (rowT q).py = true ↔ p = q := (eqv_py _ _ (rowT_nof p) (rowT_nof q)).trans ⟨rowT_inj, fun h => by rw [h]⟩
theorem shT_inj {p q : Rat} (h : shT p = shT q) : p = q := by
  simp only [shT, T.t.injEq, List.cons.injEq, T.i.injEq] at h
  exact Rat.ext h.1 (by have := h.2.1; omega)
theorem faT_inj {p q : Fact} (h : faT p = faT q) : p = q := by
  simp only [faT, T.t.injEq, List.cons.injEq, T.s.injEq] at h
  exact Prod.ext h.1 (Prod.ext (rowT_inj h.2.1) (shT_inj h.2.2.1))
open Classical in
/-- the facts that f keeps -/
noncomputable def fFa (f : Fact → Bool) : T → Option T := fun t => if ∃ p, t = faT p ∧ f p = true then some t else none
theorem fFa_faT (f : Fact → Bool) (p : Fact) : fFa f (faT p) = if f p = true then some (faT p) else none := by
  unfold fFa
  by_cases h : f p = true
  · rw [if_pos ⟨p, rfl, h⟩, if_pos h]
  · rw [if_neg, if_neg h]
    rintro ⟨q, e, hq⟩
    rw [← faT_inj e] at hq
    exact h hq
theorem fm_fa (f : Fact → Bool) : ∀ ps : List Fact, (ps.map faT).filterMap (fFa f) = (ps.filter f).map faT
  | [] => rfl
  | p :: ps => by
    rw [List.map_cons, List.filterMap_cons, fFa_faT, List.filter_cons]
    by_cases h : f p = true
    · rw [if_pos h, if_pos h, List.map_cons, fm_fa f ps]
    · rw [if_neg h, if_neg h]
      exact fm_fa f ps
open Classical in
noncomputable def offPl (pl : Place) : Fact → Bool := fun f => decide (plOf f ≠ pl)
structure With (st : List Fact) (pl : Place) (q : Rat) (st' : List Fact) : Prop where
  nd : (st'.map plOf).Nodup
  sub : ∀ f ∈ st', (f ∈ st ∧ plOf f ≠ pl) ∨ f = (pl.1, pl.2, q)
  all : ∀ f ∈ st, plOf f ≠ pl → plOf f ∈ st'.map plOf
  here : pl ∈ st'.map plOf
  len : st'.length ≤ st.length + 1
theorem With.ch {st st' : List Fact} {pl : Place} {q : Rat} (h : With st pl q st') (nd : (st.map plOf).Nodup) : chOf st' = setCh (chOf st) pl q := by
  funext p
  unfold setCh
  by_cases z : p = pl
  · rw [if_pos z, z]
    obtain ⟨f, hf, e⟩ := List.mem_map.mp h.here
    rcases h.sub f hf with y | y
    · exact absurd e y.2
    · rw [← e, chOf_mem h.nd hf, y]
  · rw [if_neg z]
    by_cases m : p ∈ st.map plOf
    · obtain ⟨f, hf, e⟩ := List.mem_map.mp m
      obtain ⟨g, hg, e2⟩ := List.mem_map.mp (h.all f hf (e ▸ z))
      rcases h.sub g hg with y | y
      · have k1 := chOf_mem h.nd hg
        have k2 := chOf_mem nd y.1
        rw [e2] at k1 k2
        rw [← e, k1, k2]
      · refine absurd ?_ z
        rw [y] at e2
        exact (e.symm.trans e2.symm)
    · rw [chOf_none m]
      refine chOf_none fun m' => ?_
      obtain ⟨g, hg, e2⟩ := List.mem_map.mp m'
      rcases h.sub g hg with y | y
      · exact m (e2 ▸ List.mem_map.mpr ⟨g, y.1, rfl⟩)
      · exact z (e2.symm.trans (by rw [y]; rfl))
section
variable {P : Program} {w : World} {K : PySem.W.Frag} {mg : Str → Option Value} {base : Heap}
def N_l_of_row : List Str := ["_law_pairs", "_law_row", "_law_pair"]
def p_l_of_row : List Str := ["_law_pairs", "_law_row"]
theorem sc_l_of_row : FnScope N_l_of_row p_l_of_row (defScope s_l_of_row) := ⟨rfl, rfl, rfl, by decide +kernel, rfl, by decide +kernel, by decide +kernel⟩
def sp_l_of_row : Sp := fun vs H Q _ => ∃ (u v : V) (ps : DD) (r : List Key), vs = [u, v] ∧ Is H u (.t (ps.map prT)) ∧ Is H v (rowT r) ∧ ∀ y H', Same H H' → Is H' y (shT ((valD ps r).getD 0)) → Q y H'
theorem ok_l_of_row (T : Tx K mg) : Ok P w K mg base 1 "_law_of_row" p_l_of_row sp_l_of_row := by
  refine T.ok i_l_of_row sc_l_of_row (fun _ _ _ _ _ _ us h => by match us, h with | [_, _], _ => rfl) (fun vs H Q E h => by obtain ⟨_, _, _, _, rfl, _⟩ := h; rfl) (fun f cdv A outer s H vs Q E hr h => ?_)
  obtain ⟨u, v, ps, r, rfl, hu, hv, q⟩ := h
  have nd := sc_l_of_row.nd
  have hu64 := room_u64 hr
  refine ⟨_, (pss_cons (ps_for PassesOwn.never rfl (pi_tup (pv 0)) (pg_name (i := 2) nd rfl (Or.inl rfl))
        (pss_one (ps_if (pt_cmpR (op_eqD hu64) (pe_ix ix_tup (pv 2) pe_int (fun _ _ => rfl)) (pv 1) (nomark _))
          (pss_one (ps_ret (pe_ix ix_tup (pv 2) pe_int (fun _ _ => rfl))))
          pss_nil)))
      (pss_one (ps_ret (pe_tup (pa_cons pe_int (pa_cons pe_int pa_nil)))))), ?_⟩
  obtain ⟨a, xs, rfl, ha, hxs⟩ := is_t_inv hu
  have lx : xs.length = ps.length := by rw [hxs.length, List.length_map]
  refine ⟨.ref a, rfl, a, rfl, ⟨_, .inl (.inl ha)⟩, ?_⟩
  refine j_tup xs (fun i σ H' => ∃ pt : Option V, σ = [some (.ref a), some v, pt] ∧ Same H H' ∧ valD ps r = valD (ps.drop i) r) ⟨_, rfl, fun _ _ h => h, rfl⟩ (fun i σ H' h => by obtain ⟨_, _, sm, _⟩ := h; exact .inl (.inl (sm _ _ ha))) (fun σ H' h => ?_) (fun i x σ H' e h => ?_)
  · obtain ⟨pt, rfl, sm, ev⟩ := h
    rw [lx, List.drop_length] at ev
    refine ⟨small2, fun p hp => ?_⟩
    refine q _ _ (same_tr sm (Same.new hp)) ?_
    rw [ev]
    exact sh_new (q := 0) rfl rfl
  · obtain ⟨pt, rfl, sm, ev⟩ := h
    obtain ⟨dt, edt, hx⟩ := hxs.get' e
    obtain ⟨⟨k, c⟩, epr, e2⟩ := map_get edt
    subst e2
    obtain ⟨b, v1, v2, rfl, hb, h1, h2⟩ := two_inv (Is.mono (TK.of sm) _ _ hx)
    have hi : i < ps.length := (List.getElem?_eq_some_iff.mp epr).1
    have dr : ps.drop i = (k, c) :: ps.drop (i + 1) := by
      rw [List.drop_eq_getElem_cons hi]
      congr 1
      exact Option.some.inj ((List.getElem?_eq_getElem hi).symm.trans epr)
    rw [dr, valD] at ev
    dsimp only [gName]
    have hv' := Is.mono (TK.of sm) _ _ hv
    refine ⟨.ref b, rfl, b, _, 0, _, rfl, rfl, .inl (.inl hb), at0, v, rfl, (rowT k).py, (rowT r).py, Is.dp _ _ h1, Is.dp _ _ hv', shaped_is h1 (Nat.le_trans (rowT_dep _) (by decide)), shaped_is hv' (Nat.le_trans (rowT_dep _) (by decide)), ?_⟩
    by_cases z : k = r
    · rw [(eqv_row k r).mpr z]
      refine ⟨true, rfl, ?_⟩
      rw [if_pos z] at ev
      refine ⟨.ref b, rfl, b, _, 1, _, rfl, rfl, .inl (.inl hb), at1, q _ _ sm ?_⟩
      rw [ev]
      exact h2
    · have : PyData.eqv (rowT k).py (rowT r).py = false := by
        cases y : PyData.eqv (rowT k).py (rowT r).py with
        | false => rfl
        | true => exact absurd ((eqv_row k r).mp y) z
      rw [this]
      rw [if_neg z] at ev
      exact ⟨false, rfl, _, rfl, sm, ev⟩
def N_l_with : List Str := ["_law_store_here", "_law_place", "_law_chance_here", "_law_fact"]
def p_l_with : List Str := ["_law_store_here", "_law_place", "_law_chance_here"]
theorem sc_l_with : FnScope N_l_with p_l_with (defScope s_l_with) := ⟨rfl, rfl, rfl, by decide +kernel, rfl, by decide +kernel, by decide +kernel⟩
def sp_l_with : Sp := fun vs H Q _ => ∃ (u v t : V) (st : List Fact) (pl : Place) (q : Rat), vs = [u, v, t] ∧ Is H u (stT st) ∧ Is H v (plcT pl) ∧ Is H t (shT q) ∧ (st.map plOf).Nodup ∧ st.length ≤ 50 ∧ (∀ f ∈ st, f.2.1.length ≤ 1000) ∧ pl.2.length ≤ 1000 ∧
  ∀ y st' H', Same H H' → Is H' y (stT st') → With st pl q st' → Q y H'
theorem ok_l_with (G_l_store : Ok P w K mg base 6 "_law_store" p_l_store sp_l_store) (T : Tx K mg) : Ok P w K mg base 7 "_law_with" p_l_with sp_l_with := by
  refine T.ok i_l_with sc_l_with (fun _ _ _ _ _ _ us h => by match us, h with | [_, _, _], _ => rfl) (fun vs H Q E h => by obtain ⟨_, _, _, _, _, _, rfl, _⟩ := h; rfl) (fun f cdv A outer s H vs Q E hr h => ?_)
  obtain ⟨u, v, t, st, pl, q0, rfl, hu, hv, ht, nn, few, rows, rowp, q⟩ := h
  have nd := sc_l_with.nd
  have hu64 := room_u64 hr
  refine ⟨_, (pss_one (ps_ret (pe_ok G_l_store (hr.mono (by first | decide | omega)) rfl (pa_cons (pe_op op_cat (pe_lc (own := [("_law_fact", 3)]) (by rfl) nd (pi_tup (pv 0)) (blkOk_by (N := N_l_with) (sc := defScope s_l_with) (by decide +kernel)) (fun _ _ _ _ _ => (pg_name (i := 3) nd rfl (Or.inl rfl))) (fun _ _ _ _ _ => pts_one (pt_cmpR (op_neDK K hu64) (pe_slice (sl_tupAK K) (pv 3) po_none (po_some pe_int)) (pv 1) (nomark _))) (fun _ _ _ _ _ => (pv 3))) (pe_lst (pa_cons (pe_op op_catA (pv 1) (pe_tup (pa_cons (pv 2) pa_nil))) pa_nil))) pa_nil)))), ?_⟩
  obtain ⟨a, xs, rfl, ha, hxs⟩ := is_t_inv hu
  refine r_ret (r_call (r_cons (r_op ?_)))
  refine lc_tupF (fFa (offPl pl)) H (fun R r => ⟨_, rfl, r⟩) (sq_tup ha) hxs (by rw [List.length_map]; omega) (fun D H1 vs1 sm1 hD hvs hls => ?_) (fun i x tt H' et sm hx Y Z hY hZ => ?_)
  rotate_left
  · obtain ⟨fa, efa, e2⟩ := map_get et
    subst e2
    obtain ⟨va, x1, y1, z1, rfl, hva, hx1, hy1, hz1⟩ := three_inv hx
    refine ⟨rfl, .ref va, rfl, 2, rfl, va, _, rfl, .inl (.inl hva), fun h => absurd h.2 (by show ¬ 2 = 3; decide), fun _ p hp => ?_⟩
    have cut : cutV [x1, y1, z1] none (some 2) = [x1, y1] := rfl
    rw [cut]
    have s5 := Same.new (o := .tup [x1, y1]) hp
    have hpc : Is (upd H' p (.tup [x1, y1])) (.ref p) (plcT (plOf fa)) := is_t upd_same (isL_cons (Is.mono (TK.of s5) _ _ hx1) (isL_cons (Is.mono (TK.of s5) _ _ hy1) isL_nil))
    have hv' := Is.mono (TK.of (same_tr sm s5)) _ _ hv
    refine ⟨v, rfl, (plcT (plOf fa)).py, (plcT pl).py, Is.dp _ _ hpc, Is.dp _ _ hv', shaped_is hpc (Nat.le_trans (plcT_dep _) (by decide)), shaped_is hv' (Nat.le_trans (plcT_dep _) (by decide)), ?_⟩
    by_cases z : plOf fa = pl
    · rw [(eqv_plc (plOf fa) pl).mpr z]
      refine ⟨false, rfl, hZ _ ?_ s5⟩
      rw [fFa_faT, if_neg (by simp [offPl, z])]
    · have : PyData.eqv (plcT (plOf fa)).py (plcT pl).py = false := by
        cases y : PyData.eqv (plcT (plOf fa)).py (plcT pl).py with
        | false => rfl
        | true => exact absurd ((eqv_plc (plOf fa) pl).mp y) z
      rw [this]
      refine ⟨true, rfl, .ref va, rfl, hY _ _ (faT fa) ?_ s5 (Is.mono (TK.of s5) _ _ hx)⟩
      rw [fFa_faT, if_pos (by simp [offPl, z])]
  rw [fm_fa] at hls
  have hv1 := Is.mono (TK.of sm1) _ _ hv
  have ht1 := Is.mono (TK.of sm1) _ _ ht
  obtain ⟨pa, n1, r1, rfl, hpa, hn1, hr1⟩ := two_inv hv1
  have lf : (st.filter (offPl pl)).length ≤ st.length := List.length_filter_le _ _
  have lv : vs1.length = (st.filter (offPl pl)).length := by rw [hls.length, List.length_map]
  refine ⟨.ref pa, rfl, t, rfl, small1, fun p1 hp1 => ?_⟩
  have s2 := Same.new (o := .tup [t]) hp1
  refine ⟨pa, p1, _, _, rfl, rfl, .inl (.inl (s2 _ _ hpa)), .inl (.inl upd_same), le_line (by show 2 + 1 ≤ 1000; decide), fun z => (nomatch z), fun _ z => (nomatch z), fun _ _ p2 hp2 => ⟨small1, fun p3 hp3 => ?_⟩⟩
  have s3 := Same.new (o := .tup ([n1, r1] ++ [t])) hp2
  have s4 := Same.new (o := .lst [.ref p2]) hp3
  have s14 := same_tr s2 (same_tr s3 s4)
  refine ⟨D, p3, _, _, rfl, rfl, s14 _ _ hvs, upd_same, le_line (by show vs1.length + 1 ≤ 1000; omega), fun p4 hp4 => ?_⟩
  have s5 := Same.new (o := .lst (vs1 ++ [.ref p2])) hp4
  have s15 := same_tr s14 s5
  have s35 := same_tr s4 s5
  have hnew : Is (upd (upd (upd (upd H1 p1 (.tup [t])) p2 (.tup ([n1, r1] ++ [t]))) p3 (.lst [.ref p2])) p4 (.lst (vs1 ++ [.ref p2]))) (.ref p2) (faT (pl.1, pl.2, q0)) :=
    is_t (s35 _ _ upd_same) (isL_cons (Is.mono (TK.of s15) _ _ hn1) (isL_cons (Is.mono (TK.of s15) _ _ hr1) (isL_cons (Is.mono (TK.of s15) _ _ ht1) isL_nil)))
  refine ⟨p4, vs1 ++ [.ref p2], st.filter (offPl pl) ++ [(pl.1, pl.2, q0)], rfl, upd_same, ?_, by rw [List.length_append]; show (st.filter (offPl pl)).length + 1 ≤ 100; omega, fun f hf => ?_, fun y st' H' sm hy nn' sub all len => ?_⟩
  · rw [List.map_append]
    exact IsL.append (IsL.mono (TK.of s15) _ _ hls) (isL_cons hnew isL_nil)
  · rcases List.mem_append.mp hf with m | m
    · exact rows f (List.mem_filter.mp m).1
    · rw [List.mem_singleton.mp m]; exact rowp
  · refine q y st' H' (same_tr sm1 (same_tr s15 sm)) hy ⟨nn', fun f hf => ?_, fun f hf z => all f (List.mem_append_left _ (List.mem_filter.mpr ⟨hf, by simp [offPl, z]⟩)), all (pl.1, pl.2, q0) (List.mem_append_right _ (by simp)), ?_⟩
    · rcases List.mem_append.mp (sub f hf) with m | m
      · exact .inl ⟨(List.mem_filter.mp m).1, by simpa [offPl] using (List.mem_filter.mp m).2⟩
      · exact .inr (List.mem_singleton.mp m)
    · rw [List.length_append] at len
      have e1 : ([(pl.1, pl.2, q0)] : List Fact).length = 1 := rfl
      omega
end
end K48
set_option maxRecDepth 100000
set_option maxHeartbeats 8000000
namespace K48
open PySem PySem.Spec PyProof.Rows L2 RZ
theorem tmT_nof (t : Tm) : (tmT t).nof = true := by
  cases t with
  | var x => rfl
  | val k => cases k <;> rfl
theorem tmT_dep (t : Tm) : (tmT t).dep ≤ 10 := by
  cases t with
  | var x => simp [tmT, T.dep, T.deps]
  | val k => cases k <;> simp [tmT, kT, T.dep, T.deps]
theorem tms_dep : ∀ ts : List Tm, T.deps (ts.map tmT) ≤ 10
  | [] => by simp [T.deps]
  | t :: ts => by
    have := tms_dep ts
    have := tmT_dep t
    rw [List.map_cons, T.deps]
    omega
theorem tm_refl (t : Tm) : PyData.eqv (tmT t).py (tmT t).py = true := (eqv_py _ _ (tmT_nof t) (tmT_nof t)).mpr rfl
theorem pys_at : ∀ {ts : List T} {j : Nat} {t : T}, ts[j]? = some t → (T.pys ts)[j]? = some t.py
  | t0 :: ts, 0, t, h => by
    have e : t0 = t := by simpa using h
    rw [e, T.pys]; rfl
  | t0 :: ts, j + 1, t, h => by
    rw [T.pys]
    simpa using pys_at (ts := ts) (j := j) (by simpa using h)
  | [], j, t, h => by simp at h
theorem first_eqv {d : PyData} : ∀ {ds : List PyData} {j : Nat} {z : PyData}, ds[j]? = some z → PyData.eqv z d = true → ∃ (k : Nat) (y : PyData), k ≤ j ∧ ds[k]? = some y ∧ PyData.eqv y d = true ∧ ∀ (m : Nat) (z' : PyData), m < k → ds[m]? = some z' → PyData.eqv z' d = false
  | [], j, z, h, _ => by simp at h
  | x :: ds, j, z, h, e => by
    cases hx : PyData.eqv x d with
    | true => exact ⟨0, x, Nat.zero_le _, rfl, hx, fun m _ hm => absurd hm (Nat.not_lt_zero _)⟩
    | false =>
      match j, h with
      | 0, h =>
        have e2 : x = z := by simpa using h
        rw [e2, e] at hx
        cases hx
      | j + 1, h =>
        obtain ⟨k, y, h1, h2, h3, h4⟩ := first_eqv (ds := ds) (j := j) (by simpa using h) e
        refine ⟨k + 1, y, by omega, by simpa using h2, h3, fun m z' hm hz => ?_⟩
        match m, hz with
        | 0, hz =>
          have e2 : x = z' := by simpa using hz
          rw [← e2]; exact hx
        | m + 1, hz => exact h4 m z' (by omega) (by simpa using hz)
theorem keys_of {H : Hp} {abc : List Key} : ∀ {ds : List T} {vs : List V}, IsL H vs ds → (∀ d ∈ ds, ∃ k ∈ abc, d = kT k) → ∃ ks : List Key, vs = ks.map kV ∧ ks.length = ds.length ∧ (∀ k ∈ ks, k ∈ abc)
  | [], vs, h, _ => ⟨[], isL_nil_inv h, rfl, fun _ z => (by cases z)⟩
  | d :: ds, vs, h, p => by
    obtain ⟨v, r, e, h1, h2⟩ := isL_inv h
    obtain ⟨k, hk, ek⟩ := p d (List.mem_cons_self ..)
    subst ek
    obtain ⟨ks, e2, len, all⟩ := keys_of h2 fun d' hd => p d' (List.mem_cons_of_mem _ hd)
    refine ⟨k :: ks, by rw [e, e2, (is_k_inv h1).1]; rfl, by rw [List.length_cons, List.length_cons, len], fun k' hk' => ?_⟩
    rcases List.mem_cons.mp hk' with z | z
    · rw [z]; exact hk
    · exact all k' z
theorem tab_one : ∀ {tabs : List (Str × Nat)} {x y : Str × Nat}, (tabs.map (·.1)).Nodup → x ∈ tabs → y ∈ tabs → x.1 = y.1 → x = y
  | t :: r, x, y, nd, hx, hy, e => by
    rw [List.map_cons] at nd
    obtain ⟨n1, n2⟩ := List.nodup_cons.mp nd
    rcases List.mem_cons.mp hx with h1 | h1 <;> rcases List.mem_cons.mp hy with h2 | h2
    · rw [h1, h2]
    · exact absurd (List.mem_map.mpr ⟨y, h2, by rw [← e, h1]⟩) n1
    · exact absurd (List.mem_map.mpr ⟨x, h1, by rw [e, h2]⟩) n1
    · exact tab_one n2 h1 h2 e
/-- a made fact -/
structure FaOk (tabs : List (Str × Nat)) (a b c : Key) (f : Fact) : Prop where
  tab : (f.1, f.2.1.length) ∈ tabs
  keys : ∀ k ∈ f.2.1, k ∈ [a, b, c]
  un : Un f.2.2
  bits : bt f.2.2 ≤ 30
section
variable {P : Program} {w : World} {K : PySem.W.Frag} {mg : Str → Option Value} {base : Heap}
def N_l_facts : List Str := ["_law_draws_here", "_law_world_here", "_law_joins", "_law_many", "_law_atoms", "_law_join", "_law_facts_here", "_law_k", "_law_table_here", "_law_row", "_law_atom_here", "_law_j", "_law_term_here"]
def p_l_facts : List Str := ["_law_draws_here", "_law_world_here", "_law_joins", "_law_many"]
theorem sc_l_facts : FnScope N_l_facts p_l_facts (defScope s_l_facts) := ⟨rfl, rfl, rfl, by decide +kernel, rfl, by decide +kernel, by decide +kernel⟩
def sp_l_facts : Sp := fun vs H Q _ => ∃ (dr wa jl : Addr) (jv : V) (as : List Atom) (tabs : List (Str × Nat)) (vars : List Str) (a b c : Key), vs = [.ref dr, .ref wa, .ref jl, .int 9] ∧ Dw dr H ∧ WorldI H dr wa tabs vars a b c ∧ jl ≠ dr ∧ H jl = some (.lst [jv]) ∧ Is H jv (joT as) ∧ JoinOk tabs vars a b c as ∧ TabsOk tabs ∧
  ∀ l us (fs : List Fact) H', But dr H H' → Dw dr H' → l ≠ dr → H' l = some (.lst us) → IsL H' us (fs.map faT) → fs.length ≤ 9 → (∀ f ∈ fs, FaOk tabs a b c f) → Q (.ref l) H'
theorem ok_l_facts (G_l_take : Ok P w K mg base 1 "_law_take" p_l_take sp_l_take) (G_l_pick : Ok P w K mg base 2 "_law_pick" p_l_pick (sp_l_pick K)) (G_l_value : Ok P w K mg base 2 "_law_value" p_l_value sp_l_value) (G_l_chance : Ok P w K mg base 2 "_law_chance" p_l_chance sp_l_chance)
    (G_l_table : Ok P w K mg base 1 "_law_table" p_l_table sp_l_table) (T : Tx K mg) : Ok P w K mg base 4 "_law_facts" p_l_facts sp_l_facts := by
  refine T.ok i_l_facts sc_l_facts (fun _ _ _ _ _ _ us h => by match us, h with | [_, _, _, _], _ => rfl) (fun vs H Q E h => by obtain ⟨_, _, _, _, _, _, _, _, _, _, rfl, _⟩ := h; rfl) (fun f cdv A outer s H vs Q E hr h => ?_)
  obtain ⟨dr, wa, jl, jv, as, tabs, vars, a, b, c, rfl, dw, hwo, njl, hjl, hj, jo, tok, q⟩ := h
  have nd := sc_l_facts.nd
  have hu65 := room_u65 hr
  refine ⟨_, (pss_cons (ps_set (i := 4) nd rfl (Or.inl rfl) (pe_lst pa_nil))
      (pss_cons (ps_for PassesOwn.never rfl (pi_list (pv 2)) (pg_name (i := 5) nd rfl (Or.inl rfl))
        (pss_one (ps_set (i := 4) nd rfl (Or.inl rfl) (pe_op op_cat (pv 4) (pe_callTy call_list_of (by rfl) (T.bl "list" (by decide)) (by decide +kernel) (pa_cons (pe_ix ix_tup (pv 5) pe_int (fun _ _ => rfl)) pa_nil))))))
      (pss_cons (ps_set (i := 6) nd rfl (Or.inl rfl) (pe_lst pa_nil))
      (pss_cons (ps_for PassesOwn.never rfl (pi_range1 rfl (T.bl "range" (by decide)) (pa_cons (pe_ok G_l_take (hr.mono (by first | decide | omega)) rfl (pa_cons (pv 0) (pa_cons (pe_op op_add (pv 3) pe_int) pa_nil))) pa_nil)) (pg_name (i := 7) nd rfl (Or.inl rfl))
        (pss_cons (ps_set (i := 8) nd rfl (Or.inl rfl) (pe_ok G_l_pick (hr.mono (by first | decide | omega)) rfl (pa_cons (pv 0) (pa_cons (pe_ix ix_list (pv 1) pe_int (fun _ _ => rfl)) pa_nil))))
        (pss_cons (ps_setLc (i := 9) (own := [("_law_j", 11)]) (by rfl) nd rfl rfl (sw_true rfl rfl rfl (by decide +kernel)) (pi_range1 rfl (T.bl "range" (by decide)) (pa_cons (pe_ix ix_tup (pv 8) pe_int (fun _ _ => rfl)) pa_nil)) (blkOk_by (N := N_l_facts) (sc := defScope s_l_facts) (by decide +kernel)) (fun _ _ _ _ _ => (pg_name (i := 11) nd rfl (Or.inl rfl))) (fun _ _ _ _ _ => pts_nil) (fun _ _ _ _ _ => (pe_ok G_l_value (hr.mono (by first | decide | omega)) rfl (pa_cons (pv 0) (pa_cons (pe_ix (ix_listK K) (pv 1) pe_int (fun _ _ => rfl)) pa_nil)))))
        (Evl.pss_cut (ps_if (PW.pt (pw_and (pt_cmpR op_gt (pe_callB call_len (by rfl) (T.bl "len" (by decide)) (by decide +kernel) (pa_cons (pv 4) pa_nil)) pe_int (nomark _)) (pw_and1 (pt_cmpR op_gt (pe_ok G_l_take (hr.mono (by first | decide | omega)) rfl (pa_cons (pv 0) (pa_cons pe_int pa_nil))) pe_int (nomark _)))))
          (pss_cons (ps_set (i := 10) nd rfl (Or.inl rfl) (pe_ok G_l_pick (hr.mono (by first | decide | omega)) rfl (pa_cons (pv 0) (pa_cons (pv 4) pa_nil))))
          (pss_cons (ps_set (i := 8) nd rfl (Or.inl rfl) (pe_ok G_l_table (hr.mono (by first | decide | omega)) rfl (pa_cons (pe_ix ix_list (pv 1) pe_int (fun _ _ => rfl)) (pa_cons (pe_ix ix_tup (pv 10) pe_int (fun _ _ => rfl)) pa_nil))))
          (pss_cons (ps_setLc (i := 9) (own := [("_law_term_here", 12)]) (by rfl) nd rfl rfl (sw_true rfl rfl rfl (by decide +kernel)) (pi_tup (pe_ix ix_tup (pv 10) pe_int (fun _ _ => rfl))) (blkOk_by (N := N_l_facts) (sc := defScope s_l_facts) (by decide +kernel)) (fun _ _ _ _ _ => (pg_name (i := 12) nd rfl (Or.inl rfl))) (fun _ _ _ _ _ => pts_nil) (fun _ _ _ _ _ => (pe_ok G_l_value (hr.mono (by first | decide | omega)) rfl (pa_cons (pv 0) (pa_cons (pe_ix (ix_listK K) (pv 1) pe_int (fun _ _ => rfl)) pa_nil)))))
          (pss_one (ps_for PassesOwn.never rfl (pi_range1 rfl (T.bl "range" (by decide)) (pa_cons (pe_callB call_len (by rfl) (T.bl "len" (by decide)) (by decide +kernel) (pa_cons (pv 9) pa_nil)) pa_nil)) (pg_name (i := 11) nd rfl (Or.inl rfl))
            (pss_cons (ps_asg (pe_ix ix_list (pv 9) (pe_bmF PySem.F.plainAttrs_tuple PySem.F.slot_tuple_index PySem.F.type_tuple_index (mt_tup_indexD hu65) (pe_ix ix_tup (pv 10) pe_int (fun _ _ => rfl)) (pa_cons (pe_ix ix_tup (pe_ix ix_tup (pv 10) pe_int (fun _ _ => rfl)) (pv 11) (fun _ _ => rfl)) pa_nil)) (fun _ _ => rfl)) (pg_sub (pv 9) (pv 11) set_list))
            (pss_one (ps_if (pt_cmpR op_eq (pe_ix ix_tup (pe_ix ix_tup (pe_ix ix_tup (pv 10) pe_int (fun _ _ => rfl)) (pv 11) (fun _ _ => rfl)) pe_int (fun _ _ => rfl)) pe_str (nomark _))
              (pss_one (ps_asg (pe_ix ix_tup (pe_ix ix_tup (pe_ix ix_tup (pv 10) pe_int (fun _ _ => rfl)) (pv 11) (fun _ _ => rfl)) pe_int (fun _ _ => rfl)) (pg_sub (pv 9) (pv 11) set_list)))
              pss_nil))))))))
          pss_nil)
        (pss_one (ps_expr (pe_bm PySem.F.plainAttrs_list PySem.F.slot_list_append PySem.F.type_list_append mt_append (pv 6) (pa_cons (pe_tup (pa_cons (pe_ix ix_tup (pv 8) pe_int (fun _ _ => rfl)) (pa_cons (pe_callTy call_tuple_of (by rfl) (T.bl "tuple" (by decide)) (by decide +kernel) (pa_cons (pv 9) pa_nil)) (pa_cons (pe_ok G_l_chance (hr.mono (by first | decide | omega)) rfl (pa_cons (pv 0) pa_nil)) pa_nil)))) pa_nil))))))))
      (pss_one (ps_ret (pv 6))))))), ?_⟩
  obtain ⟨j, jt, x0, jxs, rfl, hjp, hjt, hjxs⟩ := jo_inv hj
  obtain ⟨sc, vl, kl, hwa, nwa, nvl, nkl, hsc, hvl, hkl⟩ := id hwo
  obtain ⟨sa, sxs, esc, hsa, hsx⟩ := is_t_inv hsc
  injection esc with esc
  subst esc
  have six := jo.few
  have lj : jxs.length = as.length := by rw [hjxs.length, List.length_map]
  refine ⟨Nat.zero_le _, fun a0 ha0 => ?_⟩
  dsimp only [gName]
  have s1 := Same.new (o := .lst []) ha0
  -- the atoms
  refine ⟨.ref jl, rfl, jl, rfl, ⟨[.ref j], .inl (.inl (s1 _ _ hjl))⟩, ?_⟩
  refine j_list [.ref j] (fun i σ H' => ∃ (jo_ : Option V) (al : Addr), σ = [some (.ref dr), some (.ref wa), some (.ref jl), some (.int 9), some (.ref al), jo_, none, none, none, none, none, none, none] ∧ Same H H' ∧ H al = none ∧ H' al = some (.lst (if i = 0 then [] else jxs)))
    ⟨_, a0, rfl, s1, ha0, upd_same⟩ (fun i σ H' h => by obtain ⟨_, _, _, sm, _⟩ := h; exact .inl (.inl (sm _ _ hjl))) (fun σ H' h => ?_) (fun i x σ H' e h => ?_)
  rotate_left
  · have hi : i < 1 := (List.getElem?_eq_some_iff.mp e).1
    have i0 : i = 0 := by omega
    subst i0
    have ex : x = .ref j := by simpa using e.symm
    subst ex
    obtain ⟨jo_, al, rfl, sm, hal0, hal⟩ := h
    dsimp only [gName]
    rw [if_pos rfl] at hal
    refine ⟨.ref al, rfl, .ref j, rfl, j, _, 1, _, rfl, rfl, .inl (.inl (sm _ _ hjp)), at1, jt, jxs, rfl, .inr (.inl (.inl (sm _ _ hjt))), fun t ht => ?_⟩
    have s2 := Same.new (o := .lst jxs) ht
    refine ⟨al, t, _, _, rfl, rfl, s2 _ _ hal, upd_same, le_line (by show 0 + jxs.length ≤ 1000; omega), fun r hr2 => ?_⟩
    have s3 := Same.new (o := .lst ([] ++ jxs)) hr2
    exact ⟨_, r, rfl, same_tr sm (same_tr s2 s3), none_back sm (none_back s2 hr2), by rw [upd_same, if_neg (by omega)]; rfl⟩
  obtain ⟨jo_, al, rfl, sm, hal0, hal⟩ := h
  rw [if_neg (by simp)] at hal
  refine ⟨Nat.zero_le _, fun fl hfl => ?_⟩
  dsimp only [gName]
  have s2 := Same.new (o := .lst []) hfl
  have s02 := same_tr sm s2
  have nal := dw.out hal0
  have hfl0 := none_back sm hfl
  have nfl := dw.out hfl0
  have naf : al ≠ fl := fun z => by rw [← z, hal] at hfl; cases hfl
  have dw2 := dw.same s02
  have hal2 := s2 _ _ hal
  have hfl2 : (upd H' fl (.lst [])) fl = some (.lst []) := upd_same
  generalize (upd H' fl (.lst [])) = H2 at s2 s02 dw2 hal2 hfl2 ⊢
  refine ⟨.ref dr, rfl, .int 9, rfl, 9, 1, rfl, rfl, dr, 10, rfl, by decide, dw2, fun n H3 b3 dw3 n0 n10 => ⟨n, rfl, by omega, by omega, ?_⟩⟩
  have b03 := But.trans (But.of s02) b3
  have hal3 := b3 _ _ nal hal2
  have hfl3 := b3 _ _ nfl hfl2
  refine j_rng (fun i σ H' => ∃ (k tv rv av jv_ : Option V) (us : List V) (fs : List Fact), σ = [some (.ref dr), some (.ref wa), some (.ref jl), some (.int 9), some (.ref al), jo_, some (.ref fl), k, tv, rv, av, jv_, none] ∧ But dr H H' ∧ Dw dr H' ∧ H' al = some (.lst jxs) ∧ H' fl = some (.lst us) ∧ IsL H' us (fs.map faT) ∧ fs.length ≤ i ∧ ∀ f ∈ fs, FaOk tabs a b c f)
    ⟨_, _, _, _, _, [], [], rfl, b03, dw3, hal3, hfl3, isL_nil, Nat.le_refl _, fun _ h => (by cases h)⟩ (fun σ H' h => ?_) (fun i σ H' hi h => ?_)
  · obtain ⟨k, tv, rv, av, jv_, us, fs, rfl, b4, dw4, hal4, hfl4, hus, len, all⟩ := h
    exact ⟨.ref fl, rfl, q fl us fs _ b4 dw4 nfl hfl4 hus (by omega) all⟩
  · obtain ⟨k, tv, rv, av, jv_, us, fs, rfl, b4, dw4, hal4, hfl4, hus, len, all⟩ := h
    dsimp only [gName]
    have tk4 := dw.tk b4
    have nsx : sxs ≠ [] := fun z => by
      have := hsx.length
      rw [z, List.length_map] at this
      have := tok.pos
      simp at *
      omega
    refine ⟨.ref dr, rfl, .ref wa, rfl, wa, _, 0, .ref sc, rfl, rfl, .inl (.inl (b4 _ _ nwa hwa)), rfl, dr, sc, sxs, rfl, fun H5 b5 => .inr (.inl (.inl ((TK.trans tk4 (dw4.tk b5)).1 _ _ hsa))), nsx, dw4, fun ti tx H5 hti b5 dw5 => ?_⟩
    dsimp only [gName]
    have b05 := But.trans b4 b5
    have tk5 := dw.tk b05
    obtain ⟨dt, edt, htx⟩ := hsx.get' hti
    obtain ⟨tb, etb, e3⟩ := map_get edt
    subst e3
    have mtb := List.mem_of_getElem? etb
    have htx5 := Is.mono tk5 _ _ htx
    have tb3 := (tok.ok tb mtb).2
    obtain ⟨ta, v1, v2, rfl, hta, h1, h2⟩ := two_inv htx5
    obtain ⟨rfl, okn⟩ := is_s_inv h1
    have e2 := is_i_inv h2
    subst e2
    have value : ∀ (σ : L2.St) (H6 : Hp), But dr H H6 → Dw dr H6 → ∀ (Y : VK), (∀ k H7, But dr H6 H7 → Dw dr H7 → k ∈ [a, b, c] → kOk k = true → Y (kV k) H7) → sp_l_value [.ref dr, .ref kl] H6 Y E0 := fun σ H6 b6 dw6 Y hY =>
      ⟨dr, kl, a, b, c, rfl, dw6, nkl, ⟨b6 _ _ nkl hkl.1, hkl.2⟩, fun k H7 b7 dw7 hk => hY k H7 b7 dw7 hk (hkl.2 k hk)⟩
    refine r_seq (r_asg (lc_rngH ?_))
    refine ⟨.ref ta, rfl, ta, _, 1, _, rfl, rfl, .inl (.inl hta), at1, tb.2, rfl, by omega, by omega, ?_⟩
    rw [Int.toNat_natCast]
    refine c_rngB (dr := dr) (fun d => ∃ k ∈ [a, b, c], d = kT k) dw5 (by omega) (fun D H6 vs ds b6 dw6 hD nD hv hls lends allk => ?_) (fun j2 H6 hj2 b6 dw6 Y Z hY => ?_)
    rotate_left
    · exact ⟨rfl, .ref dr, rfl, .ref wa, rfl, wa, _, 2, .ref kl, rfl, rfl, .inl (.inl (But.trans b05 b6 _ _ nwa hwa)), rfl, value [] H6 (But.trans b05 b6) dw6 _ fun k H7 b7 dw7 hk okk => hY _ _ _ ⟨k, hk, rfl⟩ b7 dw7 (is_k okk)⟩
    obtain ⟨ks, evs, lks, allks⟩ := keys_of hls allk
    subst evs
    dsimp only [gName]
    have b06 := But.trans b05 b6
    have b46 := But.trans b5 b6
    have hD0 : H D = none := b05.free nD hD
    have nDf : D ≠ fl := fun z => by rw [z, b5 _ _ nfl hfl4] at hD; cases hD
    have nDa : D ≠ al := fun z => by rw [z, b5 _ _ nal hal4] at hD; cases hD
    have hfl6 := b46 _ _ nfl hfl4
    have hal6 := b46 _ _ nal hal4
    have hus6 := IsL.mono (dw4.tk b46) _ _ hus
    have hta6 := (dw5.tk b6).1 _ _ hta
    refine Evl.q_cut (M := fun σ H7 => ∃ (tv : V) (rl : Addr) (av jv_ : Option V) (tb : Str × Nat) (ks : List Key), σ = [some (.ref dr), some (.ref wa), some (.ref jl), some (.int 9), some (.ref al), jo_, some (.ref fl), some (.int i), some tv, some (.ref rl), av, jv_, none] ∧ But dr H H7 ∧ Dw dr H7 ∧ H7 al = some (.lst jxs) ∧ H7 fl = some (.lst us) ∧ IsL H7 us (fs.map faT) ∧ tb ∈ tabs ∧ Is H7 tv (tabT tb) ∧ H7 rl = some (.lst (ks.map kV)) ∧ ks.length = tb.2 ∧ ∀ k ∈ ks, k ∈ [a, b, c]) ?_ (fun σ H7 h => ?_)
    · have ltv := Is.mono (dw5.tk b6) _ _ htx5
      refine ⟨.ref al, rfl, _, _, rfl, .inl ⟨_, .inl (.inl hal6), rfl⟩, _, _, rfl, rfl, decide ((0 : Int) < jxs.length), rfl, ?_⟩
      by_cases z0 : (0 : Int) < jxs.length
      rotate_left
      · rw [decide_eq_false z0]
        exact ⟨_, D, _, _, tb, ks, rfl, b06, dw6, hal6, hfl6, hus6, mtb, ltv, hv, by rw [lks, lends], allks⟩
      rw [decide_eq_true z0]
      refine ⟨.ref dr, rfl, dr, 6, rfl, by decide, dw6, fun g H7 b7 dw7 g0 g6 => ⟨_, _, rfl, rfl, decide (0 < g), rfl, ?_⟩⟩
      have hal7 := b7 _ _ nal hal6
      by_cases z2 : 0 < g
      rotate_left
      · rw [decide_eq_false z2]
        exact ⟨_, D, _, _, tb, ks, rfl, But.trans b06 b7, dw7, hal7, b7 _ _ nfl hfl6, IsL.mono (dw6.tk b7) _ _ hus6, mtb, Is.mono (dw6.tk b7) _ _ ltv, b7 _ _ nD hv, by rw [lks, lends], allks⟩
      rw [decide_eq_true z2]
      refine ⟨.ref dr, rfl, .ref al, rfl, dr, al, jxs, rfl, fun H8 b8 => .inl (.inl (.inl (b8 _ _ nal hal7))), fun z => by rw [z] at z0; simp at z0, dw7, fun ai ax H8 hai b8 dw8 => ?_⟩
      dsimp only [gName]
      have b68 := But.trans b7 b8
      have b08 := But.trans b06 b68
      obtain ⟨dt, edt, hax⟩ := (IsL.mono (dw.tk b08) _ _ hjxs).get' hai
      obtain ⟨at_, eat, e3⟩ := map_get edt
      subst e3
      have mat := List.mem_of_getElem? eat
      obtain ⟨ap, aq, ao, axs, rfl, hap, do_, haq, haxs, okat⟩ := at_inv hax
      have mtab := jo.tab at_ mat
      have few3 := (tok.ok _ mtab).2
      have few4 : at_.2.length ≤ 3 := few3
      have lax : axs.length = at_.2.length := by rw [haxs.length, List.length_map]
      refine ⟨.ref wa, rfl, wa, _, 0, .ref sc, rfl, rfl, .inl (.inl (b08 _ _ nwa hwa)), rfl, .ref ap, rfl, ap, _, 0, _, rfl, rfl, .inl (.inl hap), at0, .ref sc, tabs, at_.1, rfl, Is.mono (dw.tk b08) _ _ hsc, ⟨_, mtab, rfl⟩, fun tv tb2 mtb2 etb2 htv => ?_⟩
      dsimp only [gName]
      have arity : tb2 = (at_.1, at_.2.length) := tab_one tok.nd mtb2 mtab etb2
      refine r_seq (r_asg (lc_tupG ?_))
      refine ⟨.ref ap, rfl, ap, _, 1, _, rfl, rfl, .inl (.inl hap), at1, aq, rfl, ⟨_, .inl (.inr ⟨ao, haq⟩)⟩, ?_⟩
      refine c_tupB (dr := dr) (fun d => ∃ k ∈ [a, b, c], d = kT k) dw8 (fun H' b' => .inl (.inr ⟨ao, (dw8.tk b').2 _ _ _ haq⟩)) (by omega) (fun D2 H9 vs2 ds2 b9 dw9 hD2 nD2 hv2 hls2 lends2 allk2 => ?_) (fun j2 xx H9 hj2 b9 dw9 Y Z hY => ?_)
      rotate_left
      · exact ⟨rfl, .ref dr, rfl, .ref wa, rfl, wa, _, 2, .ref kl, rfl, rfl, .inl (.inl (But.trans b08 b9 _ _ nwa hwa)), rfl, value [] H9 (But.trans b08 b9) dw9 _ fun k H10 b10 dw10 hk okk => hY _ _ _ ⟨k, hk, rfl⟩ b10 dw10 (is_k okk)⟩
      obtain ⟨ks2, evs2, lks2, allks2⟩ := keys_of hls2 allk2
      subst evs2
      dsimp only [gName]
      have b09 := But.trans b08 b9
      have b69 := But.trans b68 b9
      have tk89 := dw8.tk b9
      have hal9 := b69 _ _ nal hal6
      have hfl9 := b69 _ _ nfl hfl6
      have hus9 := IsL.mono (dw6.tk b69) _ _ hus6
      have htv9 := Is.mono tk89 _ _ htv
      have hap9 := tk89.1 _ _ hap
      have haq9 := tk89.2 _ _ _ haq
      have haxs9 := IsL.mono tk89 _ _ haxs
      have nD2f : fl ≠ D2 := fun z => by rw [← z, b68 _ _ nfl hfl6] at hD2; cases hD2
      have nD2a : al ≠ D2 := fun z => by rw [← z, b68 _ _ nal hal6] at hD2; cases hD2
      have hD20 : H D2 = none := b08.free nD2 hD2
      have lk2 : ks2.length = at_.2.length := by rw [lks2, lends2, lax]
      refine ⟨.ref D2, rfl, _, _, rfl, .inl ⟨_, .inl (.inl hv2), rfl⟩, ks2.length, by simp, by omega, by omega, ?_⟩
      rw [Int.toNat_natCast]
      refine j_rng (fun j σ H' => ∃ (jv_ : Option V) (ks : List Key), σ = [some (.ref dr), some (.ref wa), some (.ref jl), some (.int 9), some (.ref al), jo_, some (.ref fl), some (.int i), some tv, some (.ref D2), some (.ref ap), jv_, none] ∧ But D2 H9 H' ∧ H' D2 = some (.lst (ks.map kV)) ∧ ks.length = at_.2.length ∧ ∀ k ∈ ks, k ∈ [a, b, c])
        ⟨_, ks2, rfl, But.refl _ _, hv2, lk2, allks2⟩ (fun σ H' h => ?_) (fun j σ H' hj h => ?_)
      · obtain ⟨jv_, ks, rfl, bd, hvd, lk, ak⟩ := h
        have tkd := bd.tk hv2
        obtain ⟨ns9, hd9⟩ := dw9
        have bdr : But dr H H' := fun x o n hx => by
          by_cases z : x = D2
          · rw [z, hD20] at hx; cases hx
          · exact bd _ _ z (b09 _ _ n hx)
        exact ⟨tv, D2, _, _, tb2, ks, rfl, bdr, ⟨ns9, bd _ _ nD2.symm hd9⟩, bd _ _ nD2a hal9, bd _ _ nD2f hfl9, IsL.mono tkd _ _ hus9, mtb2, Is.mono tkd _ _ htv9, hvd, by rw [lk, arity], ak⟩
      · obtain ⟨jv_, ks, rfl, bd, hvd, lk, ak⟩ := h
        dsimp only [gName]
        have tkd := bd.tk hv2
        have hap' := tkd.1 _ _ hap9
        have haq' := tkd.2 _ _ _ haq9
        have haxs' := IsL.mono tkd _ _ haxs9
        have hjt : j < at_.2.length := by omega
        have ejt := List.getElem?_eq_getElem hjt
        have ejt2 : (at_.2.map tmT)[j]? = some (tmT at_.2[j]) := by rw [List.getElem?_map, ejt]; rfl
        obtain ⟨xj, exj, hxj⟩ := haxs'.get ejt2
        obtain ⟨jj, zz, hjj, ezz, eqz, before⟩ := first_eqv (pys_at ejt2) (tm_refl at_.2[j])
        have hjk : jj < ks.length := by omega
        have ekj := List.getElem?_eq_getElem hjk
        have gj : (ks.map kV)[jj]? = some (kV ks[jj]) := by rw [List.getElem?_map, ekj]; rfl
        have sl : SeqAt.shaped (.list (K48.T.pys (at_.2.map tmT))) = true := shaped_isL haxs' (Nat.le_trans (tms_dep _) (by decide))
        have sd : SeqAt.shaped (tmT at_.2[j]).py = true := shaped_is hxj (Nat.le_trans (tmT_dep _) (by decide))
        refine ⟨.ref D2, rfl, .ref ap, rfl, ap, _, 1, _, rfl, rfl, .inl (.inl hap'), at1, ⟨aq, ao, axs, rfl, do_, haq'⟩, .ref ap, rfl, ap, _, 1, _, rfl, rfl, .inl (.inl hap'), at1, .int j, rfl, aq, axs, j, xj, rfl, rfl, .inl (.inr ⟨ao, haq'⟩), atI_nat exj, aq, xj, axs, _, _, jj, zz, rfl, rfl, .inl (.inr ⟨ao, haq'⟩), IsL.dp _ _ haxs', Is.dp _ _ hxj, sl, sd, ezz, eqz, before, ?_⟩
        refine ⟨D2, _, jj, kV ks[jj], rfl, rfl, .inl (.inl hvd), atI_nat gj, .ref D2, rfl, .int j, rfl, D2, _, j, j, rfl, rfl, hvd, Evl.ixN_nat (by rw [List.length_map]; omega), ?_⟩
        have es : (ks.map kV).set j (kV ks[jj]) = (ks.set j ks[jj]).map kV := by rw [List.map_set]
        rw [es]
        have bd2 : But D2 H9 (upd H' D2 (.lst ((ks.set j ks[jj]).map kV))) := But.trans bd But.put
        have hvd2 : (upd H' D2 (.lst ((ks.set j ks[jj]).map kV))) D2 = some (.lst ((ks.set j ks[jj]).map kV)) := upd_same
        have lk' : (ks.set j ks[jj]).length = at_.2.length := by rw [List.length_set]; exact lk
        have ak' : ∀ k ∈ ks.set j ks[jj], k ∈ [a, b, c] := fun k hk => by
          rcases List.mem_or_eq_of_mem_set hk with m | m
          · exact ak k m
          · rw [m]; exact ak _ (List.getElem_mem hjk)
        generalize (upd H' D2 (.lst ((ks.set j ks[jj]).map kV))) = H10 at bd2 hvd2 ⊢
        generalize (ks.set j ks[jj]) = ks' at hvd2 lk' ak' ⊢
        have tke := bd2.tk hv2
        have hap2 := tke.1 _ _ hap9
        have haq2 := tke.2 _ _ _ haq9
        obtain ⟨xj2, exj2, hxj2⟩ := (IsL.mono tke _ _ haxs9).get ejt2
        obtain ⟨tp, tk_, tc, rfl, htp, okc, hk⟩ := tm_inv hxj2
        refine ⟨.ref ap, rfl, ap, _, 1, _, rfl, rfl, .inl (.inl hap2), at1, .int j, rfl, aq, axs, j, .ref tp, rfl, rfl, .inl (.inr ⟨ao, haq2⟩), atI_nat exj2, tp, _, 0, _, rfl, rfl, .inl (.inl htp), at0, rfl, ?_⟩
        have mt := jo.ok at_ mat at_.2[j] (List.getElem_mem hjt)
        rcases hk with ⟨rfl, y, ey, rfl⟩ | ⟨rfl, ey⟩
        · exact ⟨false, by decide +kernel, _, ks', rfl, bd2, hvd2, lk', ak'⟩
        · refine ⟨true, by decide +kernel, ?_⟩
          rw [ey] at mt
          refine ⟨.ref ap, rfl, ap, _, 1, _, rfl, rfl, .inl (.inl hap2), at1, .int j, rfl, aq, axs, j, .ref tp, rfl, rfl, .inl (.inr ⟨ao, haq2⟩), atI_nat exj2, tp, _, 1, _, rfl, rfl, .inl (.inl htp), at1, .ref D2, rfl, .int j, rfl, D2, _, j, j, rfl, rfl, hvd2, Evl.ixN_nat (by rw [List.length_map]; omega), ?_⟩
          refine ⟨_, ks'.set j tc, rfl, But.trans bd2 But.put, by rw [upd_same, List.map_set], by rw [List.length_set]; exact lk', fun k hk => ?_⟩
          rcases List.mem_or_eq_of_mem_set hk with m | m
          · exact ak' k m
          · rw [m]; exact mt
    · obtain ⟨tv, rl, av, jv_, tb, ks, rfl, b7, dw7, hal7, hfl7, hus7, mtb, htv, hrl, lks, allks⟩ := h
      obtain ⟨ta, v1, v2, rfl, hta, h1, h2⟩ := two_inv htv
      obtain ⟨rfl, okn⟩ := is_s_inv h1
      refine ⟨.ref fl, rfl, .inl ⟨rfl, _, .inl (.inl hfl7)⟩, .ref ta, rfl, ta, _, 0, _, rfl, rfl, .inl (.inl hta), at0, .ref rl, rfl, rl, _, rfl, .inl ⟨.inl (.inl hrl), fun r hr2 => ?_⟩⟩
      have s8 := Same.new (o := .tup (ks.map kV)) hr2
      refine ⟨.ref dr, rfl, dr, rfl, dw7.same s8, fun v x H9 b9 dw9 hv un bits => ⟨small3, fun p hp => ?_⟩⟩
      have s10 := Same.new (o := .tup [.str tb.1, .ref r, v]) hp
      have b79 := But.trans (But.of s8) (But.trans b9 (But.of s10))
      have hfl10 := b79 _ _ nfl hfl7
      have lu : us.length = fs.length := by rw [hus7.length, List.length_map]
      refine ⟨fl, us, .ref p, rfl, rfl, hfl10, lt_line (by omega), ?_⟩
      have tkb := TK.putL (o := .lst (us ++ [.ref p])) hfl10
      have tk7 := TK.trans (dw7.tk b79) tkb
      have okk : ∀ k ∈ ks, kOk k = true := fun k hk => hkl.2 k (allks k hk)
      have tkr : TK (upd H7 r (.tup (ks.map kV))) _ := TK.trans ((dw7.same s8).tk (But.trans b9 (But.of s10))) tkb
      have hf : Is _ (.ref p) (faT (tb.1, ks, x)) := is_t (tkb.1 _ _ upd_same) (isL_cons (is_s okn) (isL_cons (row_is (tkr.1 _ _ upd_same) okk) (isL_cons (Is.mono tkb _ _ (Is.mono (TK.of s10) _ _ hv)) isL_nil)))
      refine ⟨_, _, _, _, _, us ++ [.ref p], fs ++ [(tb.1, ks, x)], rfl, (But.trans b7 b79).mut hfl0, ((dw9.same s10)).upd_ne nfl, by rw [upd_ne naf]; exact b79 _ _ nal hal7, upd_same, ?_, by rw [List.length_append]; show fs.length + 1 ≤ i + 1; omega, fun f hf => ?_⟩
      · rw [List.map_append]
        exact IsL.append (IsL.mono tk7 _ _ hus7) (isL_cons hf isL_nil)
      · rcases List.mem_append.mp hf with m | m
        · exact all f m
        · rw [List.mem_singleton.mp m]
          exact ⟨by show (tb.1, ks.length) ∈ tabs; rw [lks]; exact mtb, allks, un, bits⟩
end
end K48
set_option maxRecDepth 100000
set_option maxHeartbeats 8000000
namespace K48
open PySem PySem.Spec PyProof.Rows L2 RZ
/-! ### sizes -/
def tabN : Nat → Nat
  | 0 => 1 | 1 => 1 | 2 => 2 | 3 => 3 | 4 => 4 | 5 => 6 | 6 => 9 | 7 => 12 | 8 => 18 | 9 => 27 | _ => 36
theorem tab_step : ∀ a, a ≤ 10 → ∀ t, t ≤ 10 → a + t ≤ 10 → a * tabN t ≤ tabN (a + t) := by decide +kernel
theorem tab_top : ∀ t, t ≤ 10 → tabN t ≤ 36 := by decide +kernel
theorem prod_tab : ∀ l : List Nat, l.sum ≤ 10 → prodN l ≤ tabN l.sum
  | [], _ => Nat.le_refl _
  | a :: l, h => by
    rw [List.sum_cons] at h ⊢
    rw [prodN]
    have := prod_tab l (by omega)
    exact Nat.le_trans (Nat.mul_le_mul_left _ this) (tab_step a (by omega) _ (by omega) h)
theorem ind_le (nm : Nat → Str) (x : Str) : ∀ S : List Nat, S.Nodup → (∀ i ∈ S, ∀ j ∈ S, nm i = nm j → i = j) → (S.map fun i => if x = nm i then 1 else 0).sum ≤ 1
  | [], _, _ => by simp
  | i :: S, n, d => by
    obtain ⟨n1, n2⟩ := List.nodup_cons.mp n
    rw [List.map_cons, List.sum_cons]
    by_cases z : x = nm i
    · rw [if_pos z]
      have e : (S.map fun j => if x = nm j then 1 else 0).sum = 0 := by
        have : ∀ R : List Nat, (∀ j ∈ R, x ≠ nm j) → (R.map fun j => if x = nm j then 1 else 0).sum = 0 := fun R => by
          induction R with
          | nil => intro _; rfl
          | cons j R ih =>
            intro h
            rw [List.map_cons, List.sum_cons, if_neg (h j (List.mem_cons_self ..)), ih fun k hk => h k (List.mem_cons_of_mem _ hk)]
        exact this S fun j hj y => n1 (by rw [d i (List.mem_cons_self ..) j (List.mem_cons_of_mem _ hj) (z.symm.trans y)]; exact hj)
      omega
    · rw [if_neg z]
      have := ind_le nm x S n2 fun a ha b hb => d a (List.mem_cons_of_mem _ ha) b (List.mem_cons_of_mem _ hb)
      omega
theorem cnt_cons (n : Str) (f : Fact) (s : List Fact) : cnt n (f :: s) = (if f.1 = n then 1 else 0) + cnt n s := by
  unfold cnt
  rw [List.filter_cons]
  by_cases h : f.1 = n
  · rw [if_pos (by simpa using h), if_pos h, List.length_cons]; omega
  · rw [if_neg (by simpa using h), if_neg h]; omega
theorem cnt_sum (nm : Nat → Str) (S : List Nat) (n : S.Nodup) (d : ∀ i ∈ S, ∀ j ∈ S, nm i = nm j → i = j) : ∀ st : List Fact, (S.map fun i => cnt (nm i) st).sum ≤ st.length
  | [] => by
    have : ∀ R : List Nat, (R.map fun i => cnt (nm i) []).sum = 0 := fun R => by
      induction R with
      | nil => rfl
      | cons j R ih => rw [List.map_cons, List.sum_cons, ih]; rfl
    rw [this]
    exact Nat.zero_le _
  | f :: st => by
    have ih := cnt_sum nm S n d st
    have one := ind_le nm f.1 S n d
    have : ∀ R : List Nat, (R.map fun i => cnt (nm i) (f :: st)).sum = (R.map fun i => if f.1 = nm i then 1 else 0).sum + (R.map fun i => cnt (nm i) st).sum := fun R => by
      induction R with
      | nil => rfl
      | cons j R ih => rw [List.map_cons, List.map_cons, List.map_cons, List.sum_cons, List.sum_cons, List.sum_cons, ih, cnt_cons]; omega
    rw [this, List.length_cons]
    omega
theorem szok {as : List Atom} {st : List Fact} {l : List Nat} (few : st.length ≤ 10) (nd : l.Nodup) (dn : Dn as l) (six : l.length ≤ 6) : SzOk (fun i => cnt (atAt as i).1 st) l := fun S hs => by
  refine ⟨?_, Nat.le_trans hs.length_le six⟩
  have s := cnt_sum (fun i => (atAt as i).1) S (hs.nodup nd) (fun i hi j hj => dn i (hs.subset hi) j (hs.subset hj)) st
  have p := prod_tab (S.map fun i => cnt (atAt as i).1 st) (by omega)
  exact Nat.le_trans p (tab_top _ (by omega))
theorem dn_all {tabs : List (Str × Nat)} {vars : List Str} {a b c : Key} {as : List Atom} (h : JoinOk tabs vars a b c as) : Dn as (List.range as.length) := fun i hi j hj e => by
  have li := List.mem_range.mp hi
  have lj := List.mem_range.mp hj
  unfold atAt at e
  rw [List.getD_eq_getElem?_getD, List.getD_eq_getElem?_getD, List.getElem?_eq_getElem li, List.getElem?_eq_getElem lj] at e
  have e2 : as[i].1 = as[j].1 := e
  have k := h.nd
  refine (List.getElem_inj (xs := as.map (·.1)) (h₀ := by simpa using li) (h₁ := by simpa using lj) k).mp ?_
  rw [List.getElem_map, List.getElem_map]
  exact e2
/-! ### parts -/
mutual
theorem part_psz : ∀ (q : Pl), ∀ p ∈ partsP q, psz p ≤ psz q
  | .scan i, p, h => by rw [partsP] at h; rw [List.mem_singleton.mp h]; exact Nat.le_refl _
  | .proj x q, p, h => by
    rw [partsP] at h
    rcases List.mem_cons.mp h with e | e
    · rw [e]; exact Nat.le_refl _
    · have := part_psz q p e; rw [psz]; omega
  | .join ps, p, h => by
    rw [partsP] at h
    rcases List.mem_cons.mp h with e | e
    · rw [e]; exact Nat.le_refl _
    · have := partss_psz ps p e; rw [psz]; omega
theorem partss_psz : ∀ (ps : List Pl), ∀ p ∈ partsPs ps, psz p ≤ pszs ps
  | [], p, h => by rw [partsPs] at h; cases h
  | q :: ps, p, h => by
    rw [partsPs] at h
    rw [pszs]
    rcases List.mem_append.mp h with e | e
    · have := part_psz q p e; omega
    · have := partss_psz ps p e; omega
end
mutual
theorem part_sub : ∀ (q : Pl), ∀ p ∈ partsP q, (beneath p).Sublist (beneath q)
  | .scan i, p, h => by rw [partsP] at h; rw [List.mem_singleton.mp h]; exact List.Sublist.refl _
  | .proj x q, p, h => by
    rw [partsP] at h
    rcases List.mem_cons.mp h with e | e
    · rw [e]; exact List.Sublist.refl _
    · rw [beneath]; exact part_sub q p e
  | .join ps, p, h => by
    rw [partsP] at h
    rcases List.mem_cons.mp h with e | e
    · rw [e]; exact List.Sublist.refl _
    · rw [beneath]; exact partss_sub ps p e
theorem partss_sub : ∀ (ps : List Pl), ∀ p ∈ partsPs ps, (beneath p).Sublist (beneaths ps)
  | [], p, h => by rw [partsPs] at h; cases h
  | q :: ps, p, h => by
    rw [partsPs] at h
    rw [beneaths]
    rcases List.mem_append.mp h with e | e
    · exact (part_sub q p e).trans (List.sublist_append_left _ _)
    · exact (partss_sub ps p e).trans (List.sublist_append_right _ _)
end
mutual
theorem part_vx {as : List Atom} : ∀ (q : Pl), Vx as q → ∀ p ∈ partsP q, Vx as p
  | .scan i, _, p, h => by rw [partsP] at h; rw [List.mem_singleton.mp h, Vx]; trivial
  | .proj x q, v, p, h => by
    rw [partsP] at h
    rcases List.mem_cons.mp h with e | e
    · rw [e]; exact v
    · rw [Vx] at v; exact part_vx q v.2 p e
  | .join ps, v, p, h => by
    rw [partsP] at h
    rcases List.mem_cons.mp h with e | e
    · rw [e]; exact v
    · rw [Vx] at v; exact partss_vx ps v p e
theorem partss_vx {as : List Atom} : ∀ (ps : List Pl), Vxs as ps → ∀ p ∈ partsPs ps, Vx as p
  | [], _, p, h => by rw [partsPs] at h; cases h
  | q :: ps, v, p, h => by
    rw [partsPs] at h
    rw [Vxs] at v
    rcases List.mem_append.mp h with e | e
    · exact part_vx q v.1 p e
    · exact partss_vx ps v.2 p e
end
/-! ### the values -/
theorem dom_of : ∀ l : List Key, ∃ d : List Key, d.Nodup ∧ ∀ k ∈ l, k ∈ d
  | [] => ⟨[], List.nodup_nil, fun _ h => h⟩
  | k :: l => by
    obtain ⟨d, n, h⟩ := dom_of l
    by_cases m : k ∈ d
    · exact ⟨d, n, fun x hx => (List.mem_cons.mp hx).elim (fun e => by rw [e]; exact m) (h x)⟩
    · exact ⟨k :: d, List.nodup_cons.mpr ⟨m, n⟩, fun x hx => (List.mem_cons.mp hx).elim (fun e => by rw [e]; exact List.mem_cons_self ..) fun z => List.mem_cons_of_mem _ (h x z)⟩
theorem ch_mem {st : List Fact} {p : Place} (h : chOf st p ≠ 0) : ∃ f ∈ st, plOf f = p := by
  by_cases m : p ∈ st.map plOf
  · obtain ⟨f, hf, e⟩ := List.mem_map.mp m
    exact ⟨f, hf, e⟩
  · exact absurd (chOf_none m) h
/-- a store of the law -/
structure StL (n b : Nat) (tabs : List (Str × Nat)) (a b' c : Key) (st : List Fact) : Prop where
  nd : (st.map plOf).Nodup
  few : st.length ≤ n
  tab : ∀ f ∈ st, (f.1, f.2.1.length) ∈ tabs
  keys : ∀ f ∈ st, ∀ k ∈ f.2.1, k ∈ [a, b', c]
  un : ∀ f ∈ st, Un f.2.2
  bits : ∀ f ∈ st, bt f.2.2 ≤ b
theorem rk_of {n b : Nat} {tabs : List (Str × Nat)} {vars : List Str} {k1 k2 k3 : Key} {H : Hp} {u v t : V} {st : List Fact} {as : List Atom} {q p : Pl} {dom : List Key} (hu : Is H u (stT st)) (hv : Is H v (joT as)) (ht_ : Is H t (plT p)) (S : StL n b tabs k1 k2 k3 st) (n10 : n ≤ 10) (b60 : b ≤ 60)
    (jo : JoinOk tabs vars k1 k2 k3 as) (tok : TabsOk tabs) (pk : PlOk as q) (mp : p ∈ partsP q) (ndom : dom.Nodup) (inD : ∀ k ∈ [k1, k2, k3], k ∈ dom) : RkOk b H u v t st as p dom := by
  have sub := part_sub q p mp
  have there : ∀ i ∈ beneath p, i < as.length := fun i hi => pk.wf.there i (sub.subset hi)
  have ndb := sub.nodup pk.nd
  have dn : Dn as (beneath p) := (dn_all jo).sub fun i hi => List.mem_range.mpr (there i hi)
  have six : (beneath p).length ≤ 6 := by
    have := nodup_le (m := List.range as.length) ndb fun i hi => List.mem_range.mpr (there i hi)
    rw [List.length_range] at this
    have := jo.few
    omega
  refine ⟨hu, hv, ht_, jo.lim tok, ⟨there, by omega⟩, part_vx q pk.vx p mp, ⟨S.nd, S.un, S.bits, by have := S.few; omega⟩, b60, fun i hi f hf e => ?_, szok (by have := S.few; omega) ndb dn six, ndom, fun nm row h k hk => ?_⟩
  · have m : atAt as i ∈ as := by
      unfold atAt
      rw [List.getD_eq_getElem?_getD, List.getElem?_eq_getElem (there i hi)]
      exact List.getElem_mem (there i hi)
    have := tab_one tok.nd (S.tab f hf) (jo.tab _ m) e
    exact congrArg Prod.snd this
  · obtain ⟨f, hf, e⟩ := ch_mem h
    have e2 : f.2.1 = row := congrArg Prod.snd e
    exact inD k (S.keys f hf k (by rw [e2]; exact hk))
theorem StL.with_ {n b : Nat} {tabs : List (Str × Nat)} {k1 k2 k3 : Key} {st st' : List Fact} {pl : Place} {q : Rat} {b2 : Nat} (S : StL n b tabs k1 k2 k3 st) (h : With st pl q st') (ht_ : (pl.1, pl.2.length) ∈ tabs) (hk : ∀ k ∈ pl.2, k ∈ [k1, k2, k3]) (un : Un q) (bq : bt q ≤ b2) (bb : b ≤ b2) : StL (n + 1) b2 tabs k1 k2 k3 st' := by
  refine ⟨h.nd, by have := h.len; have := S.few; omega, fun f hf => ?_, fun f hf => ?_, fun f hf => ?_, fun f hf => ?_⟩ <;> rcases h.sub f hf with y | y
  · exact S.tab f y.1
  · rw [y]; exact ht_
  · exact S.keys f y.1
  · rw [y]; exact hk
  · exact S.un f y.1
  · rw [y]; exact un
  · exact Nat.le_trans (S.bits f y.1) bb
  · rw [y]; exact bq
theorem StL.ch {n b : Nat} {tabs : List (Str × Nat)} {k1 k2 k3 : Key} {st : List Fact} (S : StL n b tabs k1 k2 k3 st) : UnCh (chOf st) := fun p => chOf_un S.un
theorem setCh_self (ch : Place → Rat) (pl : Place) : setCh ch pl (ch pl) = ch := by
  funext p
  unfold setCh
  by_cases z : p = pl
  · rw [if_pos z, z]
  · rw [if_neg z]
theorem ch_bits {st : List Fact} {b : Nat} (h : ∀ f ∈ st, bt f.2.2 ≤ b) (p : Place) : bt (chOf st p) ≤ b := by
  induction st with
  | nil => exact Nat.zero_le _
  | cons f r ih =>
    rw [chOf]
    by_cases z : plOf f = p
    · rw [if_pos z]; exact h f (List.mem_cons_self ..)
    · rw [if_neg z]; exact ih fun g hg => h g (List.mem_cons_of_mem _ hg)
theorem any_ge {x y : Rat} (hx : Un x) (hy : Un y) : x ≤ 1 - (1 - x) * (1 - y) := by
  have h := Rat.mul_nonneg hy.1 hx.rest.1
  grind
end K48
set_option maxRecDepth 100000
set_option maxHeartbeats 8000000
namespace K48
open PySem PySem.Spec PyProof.Rows L2 RZ
open Classical in
/-- the chances of the facts at the place, as data -/
noncomputable def fTh (pl : Place) : T → Option T
  | .t [n, r, c] => if T.t [n, r] = plcT pl then some c else none
  | _ => none
theorem fTh_fa (pl : Place) (f : Fact) : fTh pl (faT f) = if plOf f = pl then some (shT f.2.2) else none := by
  by_cases z : plOf f = pl
  · rw [if_pos z]
    exact if_pos (show T.t [.s f.1, rowT f.2.1] = plcT pl by rw [← z]; rfl)
  · rw [if_neg z]
    exact if_neg (show ¬ T.t [.s f.1, rowT f.2.1] = plcT pl from fun h => z (plcT_inj (p := plOf f) h))
theorem fTh_first (pl : Place) : ∀ st : List Fact, ∃ r : List T, (st.map faT).filterMap (fTh pl) ++ [shT 0] = shT (chOf st pl) :: r
  | [] => ⟨[], rfl⟩
  | f :: st => by
    obtain ⟨r, e⟩ := fTh_first pl st
    rw [List.map_cons, List.filterMap_cons, fTh_fa, chOf]
    by_cases z : plOf f = pl
    · rw [if_pos z, if_pos z]
      exact ⟨_, rfl⟩
    · rw [if_neg z, if_neg z]
      exact ⟨r, e⟩
section
variable {P : Program} {w : World} {K : PySem.W.Frag} {mg : Str → Option Value} {base : Heap}
theorem wide_each {x y : Rat} (hx : Un x) (hy : Un y) (bx : bt x ≤ 13499) (by_ : bt y ≤ 13499) : CMulW x.num (y.den : Int) ∧ CMulW y.num (x.den : Int) := by
  obtain ⟨a, b⟩ := num_lt hx bx
  obtain ⟨c, d⟩ := num_lt hy by_
  exact ⟨wide_mul a d (by decide) (by decide) (by decide), wide_mul c b (by decide) (by decide) (by decide)⟩
def sp_l_less2 : Sp := fun vs H Q _ => ∃ (u v : V) (x y : Rat), vs = [u, v] ∧ Is H u (shT x) ∧ Is H v (shT y) ∧ Un x ∧ Un y ∧ bt x ≤ 13499 ∧ bt y ≤ 13499 ∧ Q (.bl (decide (x < y))) H
theorem ok_l_less2 (T : Tx K mg) : Ok P w K mg base 1 "_law_less" p_l_less sp_l_less2 := by
  refine T.ok i_l_less sc_l_less (fun _ _ _ _ _ _ us h => by match us, h with | [_, _], _ => rfl) (fun vs H Q E h => by obtain ⟨_, _, _, _, rfl, _⟩ := h; rfl) (fun f cdv A outer s H vs Q E hr h => ?_)
  obtain ⟨u, v, x, y, rfl, hu, hv, ux, uy, bx, by_, q⟩ := h
  refine ⟨_, (pss_one (ps_ret (pe_cmpR op_lt (pe_op op_mulW (pe_ix ix_tup (pv 0) pe_int (fun _ _ => rfl)) (pe_ix ix_tup (pv 1) pe_int (fun _ _ => rfl))) (pe_op op_mulW (pe_ix ix_tup (pv 1) pe_int (fun _ _ => rfl)) (pe_ix ix_tup (pv 0) pe_int (fun _ _ => rfl))) (nomark _)))), ?_⟩
  obtain ⟨a, rfl, ha⟩ := sh_inv hu
  obtain ⟨b, rfl, hb⟩ := sh_inv hv
  obtain ⟨w3, w4⟩ := wide_each ux uy bx by_
  refine ⟨.ref a, rfl, a, _, 0, _, rfl, rfl, .inl (.inl ha), at0, .ref b, rfl, b, _, 1, _, rfl, rfl, .inl (.inl hb), at1, _, _, rfl, rfl, w3, ?_⟩
  refine ⟨.ref b, rfl, b, _, 0, _, rfl, rfl, .inl (.inl hb), at0, .ref a, rfl, a, _, 1, _, rfl, rfl, .inl (.inl ha), at1, _, _, rfl, rfl, w4, _, _, rfl, rfl, ?_⟩
  have e : decide (x < y) = decide (x.num * (y.den : Int) < y.num * (x.den : Int)) := decide_eq_decide.mpr (Rat.lt_iff x y)
  rw [e] at q
  exact q
end
end K48
set_option maxRecDepth 100000
set_option maxHeartbeats 16000000
namespace K48
open PySem PySem.Spec PyProof.Rows L2 RZ
theorem part_self : ∀ p : Pl, p ∈ partsP p
  | .scan i => by rw [partsP]; exact List.mem_cons_self ..
  | .proj x q => by rw [partsP]; exact List.mem_cons_self ..
  | .join ps => by rw [partsP]; exact List.mem_cons_self ..
theorem plan_lin {ch : Place → Rat} {dom : List Key} {as : List Atom} {pl : Place} (ndom : dom.Nodup) (c : Rat) {p : Pl} (vb : Vb p) (sf : Sf as p) (nd : (beneath p).Nodup) (dn : Dn as (beneath p)) : Lin c (planN (setCh ch pl c) dom as p) (planN (setCh ch pl 1) dom as p) (planN (setCh ch pl 0) dom as p) := by
  unfold planN
  split
  · exact val_lin (n := pl.1) (row := pl.2) ndom c p _ vb sf nd dn
  · exact lin_const
section
variable {P : Program} {w : World} {K : PySem.W.Frag} {mg : Str → Option Value} {base : Heap}
/-- a def at its own function object -/
theorem fn_ok_of {x : Str} {st : Stmt} {N ps : List Str} {k : Nat} {sp : Sp} {f : Addr} {fd : FuncData} (F : FunD K x x (defArgs st) (defBody st) (defScope st) [] [] f fd) (S : FnScope N ps (defScope st))
    (len : ∀ vs H Q E, sp vs H Q E → vs.length = ps.length)
    (body : ∀ (f : Addr) (cdv : Value) (A : Around) (outer : List Env) (s : Shared) (H : Hp) (vs : List V) (Q : VK) (E : XK), Room k (A.deeper (envOfC x (defScope st) s.heap.objs.size f cdv)) → sp vs H Q E →
      ∃ t, PSs (cxOf CX0 P w K mg base N x (defScope st) f cdv A outer s H E).nox (defBody st) t ∧ t { nx := fun _ H' => Q .non H', rt := Q } (start N vs) H) : FnOk P w K mg base CX0 (k + 1) f fd ps sp :=
  F.ok S len fun cdv A outer s H vs Q E hr h => by
    obtain ⟨t, h1, h2⟩ := body f cdv A outer s H vs Q E hr h
    exact ⟨t, h1.nox, h2⟩
def N_law : List Str := ["_law_script", "_law_draws_here", "_law_pair", "_law_join", "_law_plan_here", "_law_facts_here", "_law_store_here", "_law_place", "_law_chance_here", "_law_other", "_law_part", "_law_there", "_law_missing", "_law_due", "_law_after", "_law_entry", "_law_k", "_law_fact"]
def p_law : List Str := ["_law_script"]
theorem sc_law : FnScope N_law p_law (defScope s_law) := ⟨rfl, rfl, rfl, by decide +kernel, rfl, by decide +kernel, by decide +kernel⟩
def sp_law (K : PySem.W.Frag) : Sp := fun vs H Q _ => ∃ (a : Addr) (ns : List Int), vs = [.ref a] ∧ SqL K H a (ns.map V.int) ∧ ns.length ≤ 63 ∧ ∀ H', Q (.bl true) H'
theorem ok_law (G_l_draws : Ok P w K mg base 1 "_law_draws" p_l_draws (sp_l_draws K)) (G_l_some_world : Ok P w K mg base 7 "_law_some_world" p_l_some_world sp_l_some_world) (G_l_plan : Ok P w K mg base 34 "_law_plan" p_l_plan sp_l_plan) (G_l_facts : Ok P w K mg base 4 "_law_facts" p_l_facts sp_l_facts) (G_l_store : Ok P w K mg base 6 "_law_store" p_l_store sp_l_store)
    (G_l_value : Ok P w K mg base 2 "_law_value" p_l_value sp_l_value) (G_l_take : Ok P w K mg base 1 "_law_take" p_l_take sp_l_take) (G_l_pick : Ok P w K mg base 2 "_law_pick" p_l_pick (sp_l_pick K)) (G_l_with : Ok P w K mg base 7 "_law_with" p_l_with sp_l_with) (G_l_any : Ok P w K mg base 3 "_law_any" p_l_any sp_l_any)
    (G_l_chance : Ok P w K mg base 2 "_law_chance" p_l_chance sp_l_chance) (G_l_parts : Ok P w K mg base 30 "_law_parts" p_l_parts (sp_l_parts 29)) (G_numbers_of : Ok P w K mg base 34 "numbers_of" p_numbers_of (sp_numbers_of 29)) (G_number_of_plan : Ok P w K mg base 34 "number_of_plan" p_number_of_plan (sp_number_of_plan 29))
    (G_l_less : Ok P w K mg base 1 "_law_less" p_l_less sp_l_less2) (G_l_of_row : Ok P w K mg base 1 "_law_of_row" p_l_of_row sp_l_of_row) (G_l_unsafe : Ok P w K mg base 32 "_law_unsafe" p_l_unsafe (sp_l_unsafe 29)) (G_l_plus : Ok P w K mg base 2 "_law_plus" p_l_plus sp_l_plus) (G_l_times : Ok P w K mg base 2 "_law_times" p_l_times sp_times)
    (G_l_rest : Ok P w K mg base 1 "_law_rest" p_l_rest sp_rest_of) (G_l_same : Ok P w K mg base 3 "_law_same" p_l_same (sp_l_same 2)) (T : Tx K mg)
    {f0 : Addr} {fd0 : FuncData} (F0 : FunD K "law" "law" (defArgs s_law) (defBody s_law) (defScope s_law) [] [] f0 fd0) : FnOk P w K mg base CX0 35 f0 fd0 p_law (sp_law K) := by
  refine fn_ok_of F0 sc_law (fun vs H Q E h => by obtain ⟨_, _, rfl, _⟩ := h; rfl) (fun f cdv A outer s H vs Q E hr h => ?_)
  obtain ⟨sa0, ns, rfl, ha, hn, q⟩ := h
  have nd := sc_law.nd
  have hu64 := room_u64 hr
  refine ⟨_, (pss_cons (ps_set (i := 1) nd rfl (Or.inr rfl) (pe_ok G_l_draws (hr.mono (by first | decide | omega)) rfl (pa_cons (pv 0) (pa_cons pe_int pa_nil))))
      (pss_cons (ps_set (i := 2) nd rfl (Or.inr rfl) (pe_ok G_l_some_world (hr.mono (by first | decide | omega)) rfl (pa_cons (pv 1) pa_nil)))
      (pss_cons (ps_set (i := 3) nd rfl (Or.inl rfl) (pe_ix ix_list (pv 2) pe_int (fun _ _ => rfl)))
      (pss_cons (ps_set (i := 4) nd rfl (Or.inl rfl) (pe_ok G_l_plan (hr.mono (by first | decide | omega)) rfl (pa_cons (pv 1) (pa_cons (pv 3) pa_nil))))
      (pss_cons (ps_set (i := 5) nd rfl (Or.inl rfl) (pe_ok G_l_facts (hr.mono (by first | decide | omega)) rfl (pa_cons (pv 1) (pa_cons (pe_ix ix_list (pv 2) pe_int (fun _ _ => rfl)) (pa_cons (pe_lst (pa_cons (pv 3) pa_nil)) (pa_cons pe_int pa_nil))))))
      (pss_cons (ps_set (i := 6) nd rfl (Or.inl rfl) (pe_ok G_l_store (hr.mono (by first | decide | omega)) rfl (pa_cons (pv 5) pa_nil)))
      (pss_cons (ps_set (i := 7) nd rfl (Or.inr rfl) (pe_tup (pa_cons (pe_ix ix_tup (pe_ix ix_tup (pe_ix ix_list (pe_ix ix_list (pv 2) pe_int (fun _ _ => rfl)) pe_int (fun _ _ => rfl)) pe_int (fun _ _ => rfl)) pe_int (fun _ _ => rfl)) (pa_cons (pe_callTy call_tuple_of (by rfl) (T.bl "tuple" (by decide)) (by decide +kernel) (pa_cons (pe_lc (own := [("_law_k", 16)]) (by rfl) nd (pi_range1 rfl (T.bl "range" (by decide)) (pa_cons (pe_ix ix_tup (pe_ix ix_tup (pe_ix ix_list (pe_ix ix_list (pv 2) pe_int (fun _ _ => rfl)) pe_int (fun _ _ => rfl)) pe_int (fun _ _ => rfl)) pe_int (fun _ _ => rfl)) pa_nil)) (blkOk_by (N := N_law) (sc := defScope s_law) (by decide +kernel)) (fun _ _ _ _ _ => (pg_name (i := 16) nd rfl (Or.inl rfl))) (fun _ _ _ _ _ => pts_nil) (fun _ _ _ _ _ => (pe_ok G_l_value (hr.mono (by first | decide | omega)) rfl (pa_cons (pv 1) (pa_cons (pe_ix (ix_listK K) (pe_ix (ix_listK K) (pv 2) pe_int (fun _ _ => rfl)) pe_int (fun _ _ => rfl)) pa_nil))))) pa_nil)) pa_nil))))
      (Evl.pss_cut (ps_if (PW.pt (pw_and (pt_cmpR op_gt (pe_callB call_len (by rfl) (T.bl "len" (by decide)) (by decide +kernel) (pa_cons (pv 5) pa_nil)) pe_int (nomark _)) (pw_and1 (pt_cmpR op_gt (pe_ok G_l_take (hr.mono (by first | decide | omega)) rfl (pa_cons (pv 1) (pa_cons pe_int pa_nil))) pe_int (nomark _)))))
        (pss_one (ps_set (i := 7) nd rfl (Or.inr rfl) (pe_slice sl_tupA (pe_ok G_l_pick (hr.mono (by first | decide | omega)) rfl (pa_cons (pv 1) (pa_cons (pv 5) pa_nil))) po_none (po_some pe_int))))
        pss_nil)
      (pss_cons (ps_set (i := 8) nd rfl (Or.inl rfl) (pe_ix ix_list (pe_op op_cat (pe_lc (own := [("_law_fact", 17)]) (by rfl) nd (pi_tup (pv 6)) (blkOk_by (N := N_law) (sc := defScope s_law) (by decide +kernel)) (fun _ _ _ _ _ => (pg_name (i := 17) nd rfl (Or.inl rfl))) (fun _ _ _ _ _ => pts_one (pt_cmpR (op_eqDK K hu64) (pe_slice (sl_tupAK K) (pv 17) po_none (po_some pe_int)) (pv 7) (nomark _))) (fun _ _ _ _ _ => (pe_ix (ix_tupK K) (pv 17) pe_int (fun _ _ => rfl)))) (pe_lst (pa_cons (pe_tup (pa_cons pe_int (pa_cons pe_int pa_nil))) pa_nil))) pe_int (fun _ _ => rfl)))
      (pss_cons (ps_set (i := 9) nd rfl (Or.inl rfl) (pe_ok G_l_with (hr.mono (by first | decide | omega)) rfl (pa_cons (pv 6) (pa_cons (pv 7) (pa_cons (pe_ok G_l_any (hr.mono (by first | decide | omega)) rfl (pa_cons (pe_lst (pa_cons (pv 8) (pa_cons (pe_ok G_l_chance (hr.mono (by first | decide | omega)) rfl (pa_cons (pv 1) pa_nil)) pa_nil))) pa_nil)) pa_nil)))))
      (pss_cons (ps_for PassesOwn.never rfl (pi_list (pe_ok G_l_parts (hr.mono (by first | decide | omega)) rfl (pa_cons (pv 4) pa_nil))) (pg_name (i := 10) nd rfl (Or.inl rfl))
        (pss_cons (ps_set (i := 14) nd rfl (Or.inl rfl) (pe_ok G_numbers_of (hr.mono (by first | decide | omega)) rfl (pa_cons (pv 9) (pa_cons (pv 3) (pa_cons (pv 10) pa_nil)))))
        (pss_one (ps_for PassesOwn.never rfl (pi_tup (pe_ok G_numbers_of (hr.mono (by first | decide | omega)) rfl (pa_cons (pv 6) (pa_cons (pv 3) (pa_cons (pv 10) pa_nil))))) (pg_name (i := 15) nd rfl (Or.inl rfl))
          (pss_one (ps_if (pt_val (pe_ok G_l_less (hr.mono (by first | decide | omega)) rfl (pa_cons (pe_ok G_l_of_row (hr.mono (by first | decide | omega)) rfl (pa_cons (pv 14) (pa_cons (pe_ix ix_tup (pv 15) pe_int (fun _ _ => rfl)) pa_nil))) (pa_cons (pe_ix ix_tup (pv 15) pe_int (fun _ _ => rfl)) pa_nil))))
            (pss_one (ps_ret pe_bl))
            pss_nil))))))
      (pss_cons (ps_if (pt_val (pe_ok G_l_less (hr.mono (by first | decide | omega)) rfl (pa_cons (pe_ok G_number_of_plan (hr.mono (by first | decide | omega)) rfl (pa_cons (pv 9) (pa_cons (pv 3) (pa_cons (pv 4) pa_nil)))) (pa_cons (pe_ok G_number_of_plan (hr.mono (by first | decide | omega)) rfl (pa_cons (pv 6) (pa_cons (pv 3) (pa_cons (pv 4) pa_nil)))) pa_nil))))
        (pss_one (ps_ret pe_bl))
        pss_nil)
      (pss_cons (ps_set (i := 11) nd rfl (Or.inl rfl) (pe_ok G_number_of_plan (hr.mono (by first | decide | omega)) rfl (pa_cons (pe_ok G_l_with (hr.mono (by first | decide | omega)) rfl (pa_cons (pv 6) (pa_cons (pv 7) (pa_cons (pe_tup (pa_cons pe_int (pa_cons pe_int pa_nil))) pa_nil)))) (pa_cons (pv 3) (pa_cons (pv 4) pa_nil)))))
      (pss_cons (ps_set (i := 12) nd rfl (Or.inl rfl) (pe_ok G_number_of_plan (hr.mono (by first | decide | omega)) rfl (pa_cons (pe_ok G_l_with (hr.mono (by first | decide | omega)) rfl (pa_cons (pv 6) (pa_cons (pv 7) (pa_cons (pe_tup (pa_cons pe_int (pa_cons pe_int pa_nil))) pa_nil)))) (pa_cons (pv 3) (pa_cons (pv 4) pa_nil)))))
      (pss_cons (ps_if (pt_cmpR op_gt (pe_callB call_len (by rfl) (T.bl "len" (by decide)) (by decide +kernel) (pa_cons (pe_ok G_l_unsafe (hr.mono (by first | decide | omega)) rfl (pa_cons (pv 3) (pa_cons (pv 4) pa_nil))) pa_nil)) pe_int (nomark _))
        (pss_one (ps_ret (pe_not (pe_ok G_l_less (hr.mono (by first | decide | omega)) rfl (pa_cons (pv 11) (pa_cons (pv 12) pa_nil))))))
        pss_nil)
      (pss_cons (ps_set (i := 13) nd rfl (Or.inl rfl) (pe_ok G_l_plus (hr.mono (by first | decide | omega)) rfl (pa_cons (pe_ok G_l_times (hr.mono (by first | decide | omega)) rfl (pa_cons (pv 8) (pa_cons (pv 11) pa_nil))) (pa_cons (pe_ok G_l_times (hr.mono (by first | decide | omega)) rfl (pa_cons (pe_ok G_l_rest (hr.mono (by first | decide | omega)) rfl (pa_cons (pv 8) pa_nil)) (pa_cons (pv 12) pa_nil))) pa_nil))))
      (pss_one (ps_ret (pe_ok G_l_same (hr.mono (by first | decide | omega)) rfl (pa_cons (pe_ok G_number_of_plan (hr.mono (by first | decide | omega)) rfl (pa_cons (pv 6) (pa_cons (pv 3) (pa_cons (pv 4) pa_nil)))) (pa_cons (pv 13) pa_nil))))))))))))))))))))), ?_⟩
  refine ⟨.ref sa0, rfl, sa0, ns, rfl, ha, hn, fun dr H1 s1 hdr dw1 => ?_⟩
  dsimp only [gName]
  refine ⟨.ref dr, rfl, dr, rfl, dw1, fun pa wa jv tabs vars a b c as H2 b2 dw2 npa hpa hwo tok vok hj jo => ?_⟩
  dsimp only [gName]
  refine ⟨.ref pa, rfl, pa, _, 1, jv, rfl, rfl, .inl (.inl hpa), rfl, ?_⟩
  dsimp only [gName]
  refine ⟨.ref dr, rfl, jv, rfl, dr, jv, as, tabs, vars, a, b, c, rfl, dw2, hj, jo, tok, vok, fun pv p H3 b3 dw3 hp pk => ?_⟩
  dsimp only [gName]
  have hpa3 := b3 _ _ npa hpa
  have hwo3 := hwo.mono b3 dw2
  have hj3 := Is.mono (dw2.tk b3) _ _ hj
  refine ⟨.ref dr, rfl, .ref pa, rfl, pa, _, 0, .ref wa, rfl, rfl, .inl (.inl hpa3), rfl, jv, rfl, small1, fun jl hjl => ?_⟩
  have s4 := Same.new (o := .lst [jv]) hjl
  refine ⟨dr, wa, jl, jv, as, tabs, vars, a, b, c, rfl, dw3.same s4, hwo3.mono (But.of s4) dw3, dw3.out hjl, upd_same, Is.mono (TK.of s4) _ _ hj3, jo, tok, fun fl us fs H5 b5 dw5 nfl hfl hus lfs okfs => ?_⟩
  dsimp only [gName]
  have b35 := But.trans (But.of s4) b5
  have tk35 := dw3.tk b35
  have hpa5 := b35 _ _ npa hpa3
  have hwo5 := hwo3.mono b35 dw3
  have hj5 := Is.mono tk35 _ _ hj3
  have hp5 := Is.mono tk35 _ _ hp
  have rows : ∀ f ∈ fs, f.2.1.length ≤ 1000 := fun f hf => by
    have := (tok.ok _ (okfs f hf).tab).2
    have e : f.2.1.length ≤ 3 := this
    omega
  refine ⟨.ref fl, rfl, fl, us, fs, rfl, hfl, hus, by omega, rows, fun sv st H6 s6 hst nnst sub all len => ?_⟩
  dsimp only [gName]
  have hpa6 := s6 _ _ hpa5
  have hwo6 := hwo5.mono (But.of s6) dw5
  have hj6 := Is.mono (TK.of s6) _ _ hj5
  have hp6 := Is.mono (TK.of s6) _ _ hp5
  have dw6 := dw5.same s6
  have hfl6 := s6 _ _ hfl
  have hus6 := IsL.mono (TK.of s6) _ _ hus
  have S : StL 9 30 tabs a b c st := ⟨nnst, by omega, fun f hf => (okfs f (sub f hf)).tab, fun f hf => (okfs f (sub f hf)).keys, fun f hf => (okfs f (sub f hf)).un, fun f hf => (okfs f (sub f hf)).bits⟩
  obtain ⟨sc, vl, kl, hwa, nwa, nvl, nkl, hsc, hvl, hkl⟩ := id hwo6
  obtain ⟨sa, sxs, esc, hsa, hsx⟩ := is_t_inv hsc
  injection esc with esc
  subst esc
  obtain ⟨tb, tr, et⟩ : ∃ tb tr, tabs = tb :: tr := by
    match tabs, tok.pos with
    | tb :: tr, _ => exact ⟨tb, tr, rfl⟩
  have mtb : tb ∈ tabs := by rw [et]; exact List.mem_cons_self ..
  obtain ⟨sx0, esx0, hsx0⟩ := hsx.get (i := 0) (d := tabT tb) (by rw [et]; rfl)
  obtain ⟨ta, v1, v2, rfl, hta, h1, h2⟩ := two_inv hsx0
  obtain ⟨rfl, okn⟩ := is_s_inv h1
  have e2 := is_i_inv h2
  subst e2
  have tb3 := (tok.ok tb mtb).2
  refine ⟨.ref pa, rfl, pa, _, 0, .ref wa, rfl, rfl, .inl (.inl hpa6), rfl, wa, _, 0, .ref sc, rfl, rfl, .inl (.inl hwa), rfl, sc, sxs, 0, .ref ta, rfl, rfl, .inl (.inl hsa), atI_nat (i := 0) esx0, ta, _, 0, _, rfl, rfl, .inl (.inl hta), at0, r_cb (r_cons (lc_rngH ?_))⟩
  refine ⟨.ref pa, rfl, pa, _, 0, .ref wa, rfl, rfl, .inl (.inl hpa6), rfl, wa, _, 0, .ref sc, rfl, rfl, .inl (.inl hwa), rfl, sc, sxs, 0, .ref ta, rfl, rfl, .inl (.inl hsa), atI_nat (i := 0) esx0, ta, _, 1, _, rfl, rfl, .inl (.inl hta), at1, tb.2, rfl, by omega, by omega, ?_⟩
  rw [Int.toNat_natCast]
  refine c_rngB (dr := dr) (fun d => ∃ k ∈ [a, b, c], d = kT k) dw6 (by omega) (fun D H7 vs ds b7 dw7 hD nD hv hls lends allk => ?_) (fun j2 H7 hj2 b7 dw7 Y Z hY => ?_)
  rotate_left
  · exact ⟨rfl, .ref dr, rfl, .ref pa, rfl, pa, _, 0, .ref wa, rfl, rfl, .inl (.inl (b7 _ _ npa hpa6)), rfl, wa, _, 2, .ref kl, rfl, rfl, .inl (.inl (b7 _ _ nwa hwa)), rfl, dr, kl, a, b, c, rfl, dw7, nkl, ⟨b7 _ _ nkl hkl.1, hkl.2⟩, fun k H8 b8 dw8 hk => hY _ _ _ ⟨k, hk, rfl⟩ b8 dw8 (is_k (hkl.2 k hk))⟩
  obtain ⟨ks, evs, lks, allks⟩ := keys_of hls allk
  subst evs
  have okk : ∀ k ∈ ks, kOk k = true := fun k hk => hkl.2 k (allks k hk)
  refine ⟨D, _, rfl, .inl ⟨.inl (.inl hv), fun r hr2 => ⟨small2, fun p2 hp2 => ?_⟩⟩⟩
  dsimp only [gName]
  have s8 := Same.new (o := .tup (ks.map kV)) hr2
  have s9 := Same.new (o := .tup [.str tb.1, .ref r]) hp2
  have b69 := But.trans b7 (But.of (same_tr s8 s9))
  have dw9 := dw7.same (same_tr s8 s9)
  have hpl0 : Is (upd (upd H7 r (.tup (ks.map kV))) p2 (.tup [.str tb.1, .ref r])) (.ref p2) (plcT (tb.1, ks)) := is_t upd_same (isL_cons (is_s okn) (isL_cons (row_is (s9 _ _ upd_same) okk) isL_nil))
  generalize (upd (upd H7 r (.tup (ks.map kV))) p2 (.tup [.str tb.1, .ref r])) = H9 at s9 b69 dw9 hpl0 ⊢
  refine Evl.q_cut (M := fun σ H' => ∃ (plv : V) (pl : Place), σ = [some (.ref sa0), some (.ref dr), some (.ref pa), some jv, some pv, some (.ref fl), some sv, some plv, none, none, none, none, none, none, none, none, none, none] ∧ But dr H6 H' ∧ Dw dr H' ∧ Is H' plv (plcT pl) ∧ (pl.1, pl.2.length) ∈ tabs ∧ ∀ k ∈ pl.2, k ∈ [a, b, c]) ?_ (fun σ H' h => ?_)
  · have hfl9 := b69 _ _ nfl hfl6
    have base_ : (tb.1, ks.length) ∈ tabs := by rw [lks, lends]; exact mtb
    refine ⟨.ref fl, rfl, _, _, rfl, .inl ⟨_, .inl (.inl hfl9), rfl⟩, _, _, rfl, rfl, decide ((0 : Int) < us.length), rfl, ?_⟩
    by_cases z0 : (0 : Int) < us.length
    rotate_left
    · rw [decide_eq_false z0]
      exact ⟨_, (tb.1, ks), rfl, b69, dw9, hpl0, base_, allks⟩
    rw [decide_eq_true z0]
    refine ⟨.ref dr, rfl, dr, 4, rfl, by decide, dw9, fun g H10 b10 dw10 g0 g4 => ⟨_, _, rfl, rfl, decide (0 < g), rfl, ?_⟩⟩
    by_cases z2 : 0 < g
    rotate_left
    · rw [decide_eq_false z2]
      exact ⟨_, (tb.1, ks), rfl, But.trans b69 b10, dw10, Is.mono (dw9.tk b10) _ _ hpl0, base_, allks⟩
    rw [decide_eq_true z2]
    refine ⟨.ref dr, rfl, .ref fl, rfl, dr, fl, us, rfl, fun H' b' => .inl (.inl (.inl (b' _ _ nfl (b10 _ _ nfl hfl9)))), fun z => by rw [z] at z0; simp at z0, dw10, fun i x H11 hi b11 dw11 => ?_⟩
    have b611 := But.trans b69 (But.trans b10 b11)
    obtain ⟨dt, edt, hx⟩ := (IsL.mono (dw6.tk b611) _ _ hus6).get' hi
    obtain ⟨fa, efa, e2⟩ := map_get edt
    subst e2
    have mfa := List.mem_of_getElem? efa
    obtain ⟨va, x1, y1, z1, rfl, hva, hx1, hy1, hz1⟩ := three_inv hx
    refine ⟨2, rfl, va, _, rfl, .inl (.inl hva), fun h => absurd h.2 (by show ¬ 2 = 3; decide), fun _ p hp => ?_⟩
    have cut : cutV [x1, y1, z1] none (some 2) = [x1, y1] := rfl
    rw [cut]
    have s12 := Same.new (o := .tup [x1, y1]) hp
    exact ⟨_, plOf fa, rfl, But.trans b611 (But.of s12), dw11.same s12, is_t upd_same (isL_cons (Is.mono (TK.of s12) _ _ hx1) (isL_cons (Is.mono (TK.of s12) _ _ hy1) isL_nil)), (okfs fa mfa).tab, (okfs fa mfa).keys⟩
  obtain ⟨plv, pl, rfl, b10, dw10, hpl, ptab, pkeys⟩ := h
  have tk10 := dw6.tk b10
  have hst10 := Is.mono tk10 _ _ hst
  have hj10 := Is.mono tk10 _ _ hj6
  have hp10 := Is.mono tk10 _ _ hp6
  have prow : pl.2.length ≤ 1000 := by
    have := (tok.ok _ ptab).2
    have e : pl.2.length ≤ 3 := this
    omega
  have lst : st.length ≤ 9 := S.few
  obtain ⟨sva, svx, rfl, hsva, hsvx⟩ := is_t_inv hst10
  -- the chance at the place
  refine r_seq (r_asg (r_op (r_op ?_)))
  refine lc_tupF (fTh pl) H' (fun R r => ⟨_, rfl, r⟩) (sq_tup hsva) hsvx (by rw [List.length_map]; omega) (fun D2 H11 vs2 sm11 hD2 hvs2 hls2 => ?_) (fun i x tt H11 et sm hx Y Z hY hZ => ?_)
  rotate_left
  · obtain ⟨fa, efa, e2⟩ := map_get et
    subst e2
    obtain ⟨va, x1, y1, z1, rfl, hva, hx1, hy1, hz1⟩ := three_inv hx
    refine ⟨rfl, .ref va, rfl, 2, rfl, va, _, rfl, .inl (.inl hva), fun h => absurd h.2 (by show ¬ 2 = 3; decide), fun _ p hp => ?_⟩
    have cut : cutV [x1, y1, z1] none (some 2) = [x1, y1] := rfl
    rw [cut]
    have s5 := Same.new (o := .tup [x1, y1]) hp
    have hpc : Is (upd H11 p (.tup [x1, y1])) (.ref p) (plcT (plOf fa)) := is_t upd_same (isL_cons (Is.mono (TK.of s5) _ _ hx1) (isL_cons (Is.mono (TK.of s5) _ _ hy1) isL_nil))
    have hv' := Is.mono (TK.of (same_tr sm s5)) _ _ hpl
    refine ⟨plv, rfl, (plcT (plOf fa)).py, (plcT pl).py, Is.dp _ _ hpc, Is.dp _ _ hv', shaped_is hpc (Nat.le_trans (plcT_dep _) (by decide)), shaped_is hv' (Nat.le_trans (plcT_dep _) (by decide)), ?_⟩
    by_cases z : plOf fa = pl
    · rw [(eqv_plc (plOf fa) pl).mpr z]
      refine ⟨true, rfl, .ref va, rfl, va, _, 2, _, rfl, rfl, .inl (.inl (s5 _ _ hva)), rfl, hY _ _ (shT fa.2.2) ?_ s5 (Is.mono (TK.of s5) _ _ hz1)⟩
      rw [fTh_fa, if_pos z]
    · have : PyData.eqv (plcT (plOf fa)).py (plcT pl).py = false := by
        cases y : PyData.eqv (plcT (plOf fa)).py (plcT pl).py with
        | false => rfl
        | true => exact absurd ((eqv_plc (plOf fa) pl).mp y) z
      rw [this]
      refine ⟨false, rfl, hZ _ ?_ s5⟩
      rw [fTh_fa, if_neg z]
  refine ⟨small2, fun z hz => ⟨small1, fun z2 hz2 => ?_⟩⟩
  have s12 := Same.new (o := .tup [.int 0, .int 1]) hz
  have s13 := Same.new (o := .lst [.ref z]) hz2
  have s1213 := same_tr s12 s13
  have lv2 : vs2.length ≤ 9 := by
    rw [hls2.length]
    exact Nat.le_trans (List.length_filterMap_le _ _) (by rw [List.length_map]; exact lst)
  refine ⟨D2, z2, _, _, rfl, rfl, s1213 _ _ hvs2, upd_same, le_line (by show vs2.length + 1 ≤ 1000; omega), fun z3 hz3 => ?_⟩
  have s14 := Same.new (o := .lst (vs2 ++ [.ref z])) hz3
  have s1214 := same_tr s1213 s14
  have s114 := same_tr sm11 s1214
  have hz0 : Is (upd H11 z (.tup [.int 0, .int 1])) (.ref z) (shT 0) := sh_new (q := 0) rfl rfl
  have hall : IsL (upd (upd (upd H11 z (.tup [.int 0, .int 1])) z2 (.lst [.ref z])) z3 (.lst (vs2 ++ [.ref z]))) (vs2 ++ [.ref z]) ((st.map faT).filterMap (fTh pl) ++ [shT 0]) :=
    IsL.append (IsL.mono (TK.of s1214) _ _ hls2) (isL_cons (Is.mono (TK.of (same_tr s13 s14)) _ _ hz0) isL_nil)
  obtain ⟨rr, err⟩ := fTh_first pl st
  rw [err] at hall
  obtain ⟨cv, ecv, hcv⟩ := hall.get (i := 0) (d := shT (chOf st pl)) rfl
  refine ⟨z3, _, 0, cv, rfl, rfl, .inl (.inl upd_same), atI_nat (i := 0) ecv, ?_⟩
  dsimp only [gName]
  have b614 := But.trans b10 (But.of s114)
  have dw14 := dw10.same s114
  have hst14 := Is.mono (TK.of s114) _ _ hst10
  have hj14 := Is.mono (TK.of s114) _ _ hj10
  have hp14 := Is.mono (TK.of s114) _ _ hp10
  have hpl14 := Is.mono (TK.of s114) _ _ hpl
  generalize (upd (upd (upd H11 z (.tup [.int 0, .int 1])) z2 (.lst [.ref z])) z3 (.lst (vs2 ++ [.ref z]))) = H14 at s14 s1214 s114 hall hcv b614 dw14 hst14 hj14 hp14 hpl14 ⊢
  -- the other store
  have uc : Un (chOf st pl) := chOf_un S.un
  have bc : bt (chOf st pl) ≤ 30 := ch_bits S.bits pl
  have rowst : ∀ f ∈ st, f.2.1.length ≤ 1000 := fun f hf => rows f (sub f hf)
  refine ⟨.ref sva, rfl, plv, rfl, cv, rfl, .ref dr, rfl, dr, rfl, dw14, fun xv x H15 b15 dw15 hxv ux bx => ⟨small2, fun al hal => ?_⟩⟩
  have s16 := Same.new (o := .lst [cv, xv]) hal
  have tk15 := dw14.tk b15
  have tk16 := TK.trans tk15 (TK.of s16)
  refine ⟨al, cv, xv, chOf st pl, x, rfl, upd_same, Is.mono tk16 _ _ hcv, Is.mono (TK.of s16) _ _ hxv, ⟨uc, ux, by omega⟩, fun ov H17 s17 hov => ?_⟩
  have s1617 := same_tr s16 s17
  have tk17 := TK.trans tk15 (TK.of s1617)
  have hst17 := Is.mono tk17 _ _ hst14
  have hpl17 := Is.mono tk17 _ _ hpl14
  refine ⟨.ref sva, plv, ov, st, pl, 1 - (1 - chOf st pl) * (1 - x), rfl, hst17, hpl17, hov, nnst, by omega, rowst, prow, fun ot st2 H18 s18 hot W2 => ?_⟩
  dsimp only [gName]
  have uq : Un (1 - (1 - chOf st pl) * (1 - x)) := (uc.rest.mul ux.rest).rest
  have bq : bt (1 - (1 - chOf st pl) * (1 - x)) ≤ 60 := by
    rw [bt_rest]
    have := bt_mul (1 - chOf st pl) (1 - x)
    rw [bt_rest, bt_rest] at this
    omega
  have S2 := S.with_ W2 ptab pkeys uq bq (show 30 ≤ 60 by decide)
  have ch2 := W2.ch nnst
  have mono : ∀ p, chOf st p ≤ chOf st2 p := by
    rw [ch2]
    intro p
    unfold setCh
    by_cases z : p = pl
    · rw [if_pos z, z]; exact any_ge uc ux
    · rw [if_neg z]; exact Rat.le_refl
  obtain ⟨dom, ndom, inD⟩ := dom_of [a, b, c]
  have tk18 := TK.trans tk17 (TK.of s18)
  have hst18 := Is.mono tk18 _ _ hst14
  have hj18 := Is.mono tk18 _ _ hj14
  have hp18 := Is.mono tk18 _ _ hp14
  have hpl18 := Is.mono tk18 _ _ hpl14
  have hcv18 := Is.mono tk18 _ _ hcv
  have psz28 := pk.sz
  refine ⟨pv, rfl, pv, p, rfl, hp18, by omega, by omega, fun ql qxs H19 s19 hql hqxs => ⟨ql, rfl, ⟨_, .inl (.inl hql)⟩, ?_⟩⟩
  refine j_list qxs (fun i σ H' => ∃ pt af en : Option V, σ = [some (.ref sa0), some (.ref dr), some (.ref pa), some jv, some pv, some (.ref fl), some (.ref sva), some plv, some cv, some ot, pt, none, none, none, af, en, none, none] ∧ Same H19 H') ⟨_, _, _, rfl, fun _ _ h => h⟩ (fun i σ H' h => by obtain ⟨_, _, _, _, sm⟩ := h; exact .inl (.inl (sm _ _ hql))) (fun σ H' h => ?_) (fun i xq σ H' e h => ?_)
  rotate_left
  · obtain ⟨pt, af, en, rfl, sm⟩ := h
    dsimp only [gName]
    obtain ⟨pp, epp, mpp, hpp⟩ := pl_mem (IsL.mono (TK.of sm) _ _ hqxs) e
    have tk1 := TK.of (same_tr s19 sm)
    have hot1 := Is.mono tk1 _ _ hot
    have hst1 := Is.mono tk1 _ _ hst18
    have hj1 := Is.mono tk1 _ _ hj18
    have szp : ht pp < 29 := by
      have := ht_psz pp
      have := part_psz p pp mpp
      omega
    refine ⟨ot, rfl, jv, rfl, xq, rfl, ot, jv, xq, st2, as, pp, dom, 60, rfl, rk_of hot1 hj1 hpp S2 (by decide) (by decide) jo tok pk mpp ndom inD, szp, fun v2 ps2 H20 s20 hv2 den2 => ?_⟩
    dsimp only [gName]
    have tk2 := TK.of s20
    refine ⟨.ref sva, rfl, jv, rfl, xq, rfl, .ref sva, jv, xq, st, as, pp, dom, 30, rfl, rk_of (Is.mono tk2 _ _ hst1) (Is.mono tk2 _ _ hj1) (Is.mono tk2 _ _ hpp) S (by decide) (by decide) jo tok pk mpp ndom inD, szp, fun v1 ps1 H21 s21 hv1 den1 => ?_⟩
    obtain ⟨t1, us1, rfl, ht1, hus1⟩ := is_t_inv hv1
    refine ⟨t1, rfl, ⟨_, .inl (.inl ht1)⟩, ?_⟩
    refine j_tup us1 (fun j σ H' => ∃ en : Option V, σ = [some (.ref sa0), some (.ref dr), some (.ref pa), some jv, some pv, some (.ref fl), some (.ref sva), some plv, some cv, some ot, some xq, none, none, none, some v2, en, none, none] ∧ Same H21 H') ⟨_, rfl, fun _ _ h => h⟩ (fun i σ H' h => by obtain ⟨_, _, sm2⟩ := h; exact .inl (.inl (sm2 _ _ ht1))) (fun σ H' h => ?_) (fun j x2 σ H' e2 h => ?_)
    · obtain ⟨en, rfl, sm2⟩ := h
      exact ⟨_, _, _, rfl, same_tr sm (same_tr s20 (same_tr s21 sm2))⟩
    · obtain ⟨en, rfl, sm2⟩ := h
      dsimp only [gName]
      obtain ⟨dt, edt, hx2⟩ := hus1.get' e2
      obtain ⟨⟨k, cc⟩, epr, e3⟩ := map_get edt
      subst e3
      obtain ⟨bb, r1, r2, rfl, hb, h1, h2⟩ := two_inv (Is.mono (TK.of sm2) _ _ hx2)
      obtain ⟨e, ek, eq, ne, uq1, bq1⟩ := den1.row (List.mem_of_getElem? epr)
      have s2 := same_tr s21 sm2
      have un2 := den2.unV e
      have look2 : (valD ps2 k).getD 0 = valP (chOf st2) dom as pp e := by
        have l2 : valD ps2 k = if valP (chOf st2) dom as pp e = 0 then none else some (valP (chOf st2) dom as pp e) := by
          have ek' : k = (cols as pp).map e := ek
          rw [ek']
          exact den2.look e
        rw [l2]
        by_cases z : valP (chOf st2) dom as pp e = 0
        · rw [if_pos z, z]; rfl
        · rw [if_neg z]; rfl
      have le2 := val_mono (dom := dom) (as := as) S.ch S2.ch mono pp e
      refine ⟨v2, rfl, .ref bb, rfl, bb, _, 0, _, rfl, rfl, .inl (.inl hb), at0, v2, r1, ps2, k, rfl, Is.mono (TK.of s2) _ _ hv2, h1, fun y H22 s22 hy => ⟨.ref bb, rfl, bb, _, 1, _, rfl, rfl, .inl (.inl (s22 _ _ hb)), at1, y, r2, _, cc, rfl, hy, Is.mono (TK.of s22) _ _ h2, by rw [look2]; exact un2.1, uq1, by rw [look2]; exact Nat.le_trans un2.2 (by decide), Nat.le_trans bq1 (by decide), ?_⟩⟩
      rw [look2]
      have ecc : cc = valP (chOf st) dom as pp e := eq
      rw [ecc, decide_eq_false (Rat.not_lt.mpr le2)]
      exact ⟨false, rfl, _, rfl, same_tr sm2 s22⟩
  obtain ⟨pt, af, en, rfl, sm⟩ := h
  have self : p ∈ partsP p := part_self p
  have szp : ht p < 29 := by
    have := ht_psz p
    omega
  have tk1 := TK.of (same_tr s19 sm)
  have hot1 := Is.mono tk1 _ _ hot
  have hst1 := Is.mono tk1 _ _ hst18
  have hj1 := Is.mono tk1 _ _ hj18
  have hp1 := Is.mono tk1 _ _ hp18
  have hpl1 := Is.mono tk1 _ _ hpl18
  have hcv1 := Is.mono tk1 _ _ hcv18
  refine ⟨ot, rfl, jv, rfl, pv, rfl, ot, jv, pv, st2, as, p, dom, 60, rfl, rk_of hot1 hj1 hp1 S2 (by decide) (by decide) jo tok pk self ndom inD, szp, fun u2 b2_ v2 H20 s20 hv2 => ?_⟩
  have tk2 := TK.of s20
  refine ⟨.ref sva, rfl, jv, rfl, pv, rfl, .ref sva, jv, pv, st, as, p, dom, 30, rfl, rk_of (Is.mono tk2 _ _ hst1) (Is.mono tk2 _ _ hj1) (Is.mono tk2 _ _ hp1) S (by decide) (by decide) jo tok pk self ndom inD, szp, fun u1 b1_ v1 H21 s21 hv1 => ?_⟩
  refine ⟨v2, v1, _, _, rfl, Is.mono (TK.of s21) _ _ hv2, hv1, u2, u1, Nat.le_trans b2_ (by decide), Nat.le_trans b1_ (by decide), ?_⟩
  rw [decide_eq_false (Rat.not_lt.mpr (plan_mono S.ch S2.ch mono p))]
  refine ⟨false, rfl, ?_⟩
  have s1921 := same_tr s20 s21
  have tk21 := TK.trans tk1 (TK.of s1921)
  have hst21 := Is.mono (TK.of s1921) _ _ hst1
  have hj21 := Is.mono (TK.of s1921) _ _ hj1
  have hp21 := Is.mono (TK.of s1921) _ _ hp1
  have hpl21 := Is.mono (TK.of s1921) _ _ hpl1
  have hcv21 := Is.mono (TK.of s1921) _ _ hcv1
  -- with the fact there
  refine ⟨.ref sva, rfl, plv, rfl, small2, fun o1 ho1 => ?_⟩
  have s22 := Same.new (o := .tup [.int 1, .int 1]) ho1
  refine ⟨.ref sva, plv, .ref o1, st, pl, 1, rfl, Is.mono (TK.of s22) _ _ hst21, Is.mono (TK.of s22) _ _ hpl21, sh_new rfl rfl, nnst, by omega, rowst, prow, fun w1 st1 H23 s23 hw1 W1 => ?_⟩
  have t23 := TK.of (same_tr s22 s23)
  have S1 := S.with_ W1 ptab pkeys un_one (show bt 1 ≤ 30 by rw [bt_one]; decide) (Nat.le_refl _)
  refine ⟨jv, rfl, pv, rfl, w1, jv, pv, st1, as, p, dom, 30, rfl, rk_of hw1 (Is.mono t23 _ _ hj21) (Is.mono t23 _ _ hp21) S1 (by decide) (by decide) jo tok pk self ndom inD, szp, fun uT bT vT H24 s24 hvT => ?_⟩
  dsimp only [gName]
  have s2124 := same_tr s22 (same_tr s23 s24)
  have tk24 := TK.of s2124
  have hst24 := Is.mono tk24 _ _ hst21
  have hj24 := Is.mono tk24 _ _ hj21
  have hp24 := Is.mono tk24 _ _ hp21
  have hpl24 := Is.mono tk24 _ _ hpl21
  have hcv24 := Is.mono tk24 _ _ hcv21
  -- without it
  refine ⟨.ref sva, rfl, plv, rfl, small2, fun o2 ho2 => ?_⟩
  have s25 := Same.new (o := .tup [.int 0, .int 1]) ho2
  refine ⟨.ref sva, plv, .ref o2, st, pl, 0, rfl, Is.mono (TK.of s25) _ _ hst24, Is.mono (TK.of s25) _ _ hpl24, sh_new rfl rfl, nnst, by omega, rowst, prow, fun w0 st0 H26 s26 hw0 W0 => ?_⟩
  have t26 := TK.of (same_tr s25 s26)
  have S0 := S.with_ W0 ptab pkeys un_zero (show bt 0 ≤ 30 by rw [bt_zero]; decide) (Nat.le_refl _)
  refine ⟨jv, rfl, pv, rfl, w0, jv, pv, st0, as, p, dom, 30, rfl, rk_of hw0 (Is.mono t26 _ _ hj24) (Is.mono t26 _ _ hp24) S0 (by decide) (by decide) jo tok pk self ndom inD, szp, fun uM bM vM H27 s27 hvM => ?_⟩
  dsimp only [gName]
  have s2427 := same_tr s25 (same_tr s26 s27)
  have tk27 := TK.of s2427
  have hst27 := Is.mono tk27 _ _ hst24
  have hj27 := Is.mono tk27 _ _ hj24
  have hp27 := Is.mono tk27 _ _ hp24
  have hcv27 := Is.mono tk27 _ _ hcv24
  have hvT27 := Is.mono tk27 _ _ hvT
  have ch1 := W1.ch nnst
  have ch0 := W0.ch nnst
  refine ⟨jv, rfl, pv, rfl, jv, pv, as, p, rfl, hj27, hp27, jo.lim tok, pk.wf, by omega, by omega, fun wl ws H28 s28 hwl lws sf => ?_⟩
  have tk28 := TK.of s28
  have hvT28 := Is.mono tk28 _ _ hvT27
  have hvM28 := Is.mono tk28 _ _ hvM
  refine ⟨_, _, rfl, .inl ⟨_, .inl (.inl hwl), rfl⟩, _, _, rfl, rfl, decide ((0 : Int) < (ws.map V.str).length), rfl, ?_⟩
  by_cases z0 : (0 : Int) < (ws.map V.str).length
  · rw [decide_eq_true z0]
    have ge : planN (chOf st0) dom as p ≤ planN (chOf st1) dom as p := by
      refine plan_mono S0.ch S1.ch (fun r => ?_) p
      rw [ch0, ch1]
      unfold setCh
      by_cases z : r = pl
      · rw [if_pos z, if_pos z]; decide
      · rw [if_neg z, if_neg z]; exact Rat.le_refl
    refine ⟨vT, rfl, vM, rfl, vT, vM, _, _, rfl, hvT28, hvM28, uT, uM, Nat.le_trans bT (by decide), Nat.le_trans bM (by decide), ?_⟩
    rw [decide_eq_false (Rat.not_lt.mpr ge)]
    exact ⟨false, rfl, q _⟩
  · rw [decide_eq_false z0]
    have wnil : ws = [] := by
      cases ws with
      | nil => rfl
      | cons x r => exact absurd (show (0 : Int) < ((x :: r).map V.str).length by simp) z0
    have safe := sf wnil
    have hcv28 := Is.mono tk28 _ _ hcv27
    have lin : Lin (chOf st pl) (planN (chOf st) dom as p) (planN (chOf st1) dom as p) (planN (chOf st0) dom as p) := by
      have l0 := plan_lin (ch := chOf st) (pl := pl) ndom (chOf st pl) pk.vb safe pk.nd ((dn_all jo).sub fun i hi => List.mem_range.mpr (pk.wf.there i hi))
      rw [setCh_self, ← ch1, ← ch0] at l0
      exact l0
    have bT' : bt (planN (chOf st1) dom as p) ≤ 6480 := Nat.le_trans bT (by decide)
    have bM' : bt (planN (chOf st0) dom as p) ≤ 6480 := Nat.le_trans bM (by decide)
    have b1 : bt (chOf st pl * planN (chOf st1) dom as p) ≤ 6510 := Nat.le_trans (bt_mul _ _) (by omega)
    have b0 : bt ((1 - chOf st pl) * planN (chOf st0) dom as p) ≤ 6510 := by
      refine Nat.le_trans (bt_mul _ _) ?_
      rw [bt_rest]
      omega
    refine ⟨cv, rfl, vT, rfl, cv, vT, _, _, rfl, hcv28, hvT28, ⟨uc, uT, by omega⟩, fun m1 H29 s29 hm1 => ?_⟩
    refine ⟨cv, rfl, cv, _, rfl, Is.mono (TK.of s29) _ _ hcv28, fun r1 H30 s30 hr1 => ?_⟩
    have s2930 := same_tr s29 s30
    refine ⟨vM, rfl, r1, vM, _, _, rfl, hr1, Is.mono (TK.of s2930) _ _ hvM28, ⟨uc.rest, uM, by rw [bt_rest]; omega⟩, fun m2 H31 s31 hm2 => ?_⟩
    refine ⟨m1, m2, _, _, rfl, Is.mono (TK.of (same_tr s30 s31)) _ _ hm1, hm2, ⟨uc.mul uT, uc.rest.mul uM, by omega⟩, fun due H32 s32 hdue => ?_⟩
    dsimp only [gName]
    have tk32 := TK.trans tk28 (TK.of (same_tr s2930 (same_tr s31 s32)))
    refine ⟨.ref sva, rfl, jv, rfl, pv, rfl, .ref sva, jv, pv, st, as, p, dom, 30, rfl, rk_of (Is.mono tk32 _ _ hst27) (Is.mono tk32 _ _ hj27) (Is.mono tk32 _ _ hp27) S (by decide) (by decide) jo tok pk self ndom inD, szp, fun u3 b3_ v3 H33 s33 hv3 => ?_⟩
    rw [lin] at hv3
    exact ⟨due, rfl, v3, due, rfl, .inr ⟨by decide, _, hv3, Is.mono (TK.of s33) _ _ hdue⟩, fun H34 s34 => q _⟩
end
end K48
set_option maxRecDepth 100000
set_option maxHeartbeats 0
namespace K48
open PySem PySem.Spec PyProof.Rows L2 RZ
section
variable {P : Program} {w : World} {K : PySem.W.Frag} {mg : Str → Option Value} {base : Heap}
/-- the law keeps its promise: all summaries joined -/
theorem law_at (T : Tx K mg) {f0 : Addr} {fd0 : FuncData} (F0 : FunD K "law" "law" (defArgs s_law) (defBody s_law) (defScope s_law) [] [] f0 fd0) : FnOk P w K mg base CX0 35 f0 fd0 p_law (sp_law K) := by
  have g_take := ok_l_take (P := P) (w := w) (base := base) T
  have g_pick := ok_l_pick g_take T
  have g_draws := ok_l_draws (P := P) (w := w) (base := base) T
  have g_value := ok_l_value g_take T
  have g_values := ok_l_values g_take T
  have g_share := ok_l_share (P := P) (w := w) (base := base) T
  have g_plus := ok_l_plus g_share T
  have g_times := ok_l_times g_share T
  have g_rest := ok_l_rest (P := P) (w := w) (base := base) T
  have g_less := ok_l_less2 (P := P) (w := w) (base := base) T
  have g_any := ok_l_any g_rest g_times T
  have g_chance := ok_l_chance g_share g_take T
  have g_pool := ok_l_pool g_take T
  have g_words := ok_l_words g_take g_pick T
  have g_world := ok_l_world g_take g_pool g_values T
  have g_wide_world := ok_l_wide_world g_take g_words T
  have g_term := ok_l_term g_take g_pick g_value T
  have g_atom := ok_l_atom g_term T
  have g_simple := ok_l_simple g_take g_atom T
  have g_some_join := ok_l_some_join g_simple g_atom T
  have g_wide_join := ok_l_wide_join g_take g_atom T
  have g_some_world := ok_l_some_world g_take g_wide_world g_world g_wide_join g_some_join T
  have g_beneath := ok_l_beneath (P := P) (w := w) (base := base) T
  have g_parts := ok_l_parts (P := P) (w := w) (base := base) T 29
  have g_joined := ok_l_joined (P := P) (w := w) (base := base) T
  have g_variables := ok_l_variables (P := P) (w := w) (base := base) T
  have g_atom_variables := ok_l_atom_variables (P := P) (w := w) (base := base) T
  have g_columns := ok_l_columns g_atom_variables T
  have g_unsafe := ok_l_unsafe g_beneath g_atom_variables T 29
  have g_eliminated := ok_l_eliminated (g_columns 30) g_joined T
  have g_plan := ok_l_plan g_take g_variables g_eliminated g_joined T
  have g_table := ok_l_table (P := P) (w := w) (base := base) T
  have g_key := ok_l_key (P := P) (w := w) (base := base) T
  have g_row_key := ok_l_row_key g_key T
  have g_place_key := ok_l_place_key g_row_key T
  have g_store := ok_l_store g_place_key T
  have g_of_row := ok_l_of_row (P := P) (w := w) (base := base) T
  have g_with := ok_l_with g_store T
  have g_facts := ok_l_facts g_take g_pick g_value g_chance g_table T
  have g_same := ok_l_same (P := P) (w := w) (base := base) T 2
  have f_make_share := ok_make_share (P := P) (w := w) (base := base) T
  have f_times := ok_times f_make_share T
  have f_rest_of := ok_rest_of (P := P) (w := w) (base := base) T
  have f_product_of := ok_product_of f_times T
  have f_value_key := ok_value_key (P := P) (w := w) (base := base) T
  have f_row_key := ok_row_key f_value_key T
  have f_atom_variables := ok_atom_variables (P := P) (w := w) (base := base) T
  have f_columns_of := ok_columns_of f_atom_variables T
  have f_part_of := ok_part_of (P := P) (w := w) (base := base) T
  have f_match_terms := ok_match_terms (P := P) (w := w) (base := base) T
  have f_scanned := ok_scanned f_match_terms f_atom_variables T
  have f_joined := ok_joined f_part_of f_times T
  have f_projected := ok_projected f_part_of f_rest_of f_times T
  have f_reckoned := ok_reckoned f_scanned f_joined f_projected f_product_of f_columns_of T 29
  have f_number := ok_number_of_plan f_reckoned T
  have f_numbers := ok_numbers_of f_row_key f_reckoned T
  exact ok_law g_draws g_some_world g_plan g_facts g_store g_value g_take g_pick g_with g_any g_chance g_parts f_numbers f_number g_less g_of_row g_unsafe g_plus g_times g_rest g_same T F0
end
/-! ### the head: facts by names, the run -/
def mkD (x : Str) (st : Stmt) : He.DefD := ⟨(x, none), x, x, defArgs st, defBody st, defScope st, [], []⟩
def fn : List He.DefD := [mkD "make_share" s_make_share, mkD "times" s_times, mkD "rest_of" s_rest_of, mkD "product_of" s_product_of, mkD "value_key" s_value_key, mkD "row_key" s_row_key, mkD "atom_variables" s_atom_variables, mkD "columns_of" s_columns_of, mkD "part_of" s_part_of, mkD "match_terms" s_match_terms, mkD "scanned" s_scanned, mkD "joined" s_joined, mkD "projected" s_projected, mkD "reckoned" s_reckoned, mkD "numbers_of" s_numbers_of, mkD "number_of_plan" s_number_of_plan, mkD "_law_draws" s_l_draws, mkD "_law_take" s_l_take, mkD "_law_pick" s_l_pick, mkD "_law_same" s_l_same, mkD "_law_pool" s_l_pool, mkD "_law_values" s_l_values, mkD "_law_value" s_l_value, mkD "_law_key" s_l_key, mkD "_law_row_key" s_l_row_key, mkD "_law_share" s_l_share, mkD "_law_plus" s_l_plus, mkD "_law_times" s_l_times, mkD "_law_rest" s_l_rest, mkD "_law_less" s_l_less, mkD "_law_any" s_l_any, mkD "_law_chance" s_l_chance, mkD "_law_world" s_l_world, mkD "_law_table" s_l_table, mkD "_law_term" s_l_term, mkD "_law_atom" s_l_atom, mkD "_law_simple" s_l_simple, mkD "_law_variables" s_l_variables, mkD "_law_place_key" s_l_place_key, mkD "_law_store" s_l_store, mkD "_law_facts" s_l_facts, mkD "_law_atom_variables" s_l_atom_variables, mkD "_law_beneath" s_l_beneath, mkD "_law_columns" s_l_columns, mkD "_law_joined" s_l_joined, mkD "_law_eliminated" s_l_eliminated, mkD "_law_plan" s_l_plan, mkD "_law_unsafe" s_l_unsafe, mkD "_law_words" s_l_words, mkD "_law_parts" s_l_parts, mkD "_law_some_join" s_l_some_join, mkD "_law_wide_world" s_l_wide_world, mkD "_law_wide_join" s_l_wide_join, mkD "_law_some_world" s_l_some_world, mkD "_law_of_row" s_l_of_row, mkD "_law_with" s_l_with, mkD "law" s_law]
def fa : List He.Fa := [.glo "make_share", .glo "times", .glo "rest_of", .glo "product_of", .glo "value_key", .glo "row_key", .glo "atom_variables", .glo "columns_of", .glo "part_of", .glo "match_terms", .glo "scanned", .glo "joined", .glo "projected", .glo "reckoned", .glo "numbers_of", .glo "number_of_plan", .glo "_law_draws", .glo "_law_take", .glo "_law_pick", .glo "_law_same", .glo "_law_pool", .glo "_law_values", .glo "_law_value", .glo "_law_key", .glo "_law_row_key", .glo "_law_share", .glo "_law_plus", .glo "_law_times", .glo "_law_rest", .glo "_law_less", .glo "_law_any", .glo "_law_chance", .glo "_law_world", .glo "_law_table", .glo "_law_term", .glo "_law_atom", .glo "_law_simple", .glo "_law_variables", .glo "_law_place_key", .glo "_law_store", .glo "_law_facts", .glo "_law_atom_variables", .glo "_law_beneath", .glo "_law_columns", .glo "_law_joined", .glo "_law_eliminated", .glo "_law_plan", .glo "_law_unsafe", .glo "_law_words", .glo "_law_parts", .glo "_law_some_join", .glo "_law_wide_world", .glo "_law_wide_join", .glo "_law_some_world", .glo "_law_of_row", .glo "_law_with", .glo "law", .free "abs", .free "bool", .free "int", .free "isinstance", .free "len", .free "list", .free "max", .free "range", .free "set", .free "sorted", .free "str", .free "tuple", .free "zip"]
def gcdB (K : PySem.W.Frag) : Bool := He.eqO (PySem.W.nsIn K mainGlobals "gcd") (some (some (.builtin "math.gcd")))
abbrev AlG : Type := Bool × He.AlD
def obsG (n : Nat) (g : Addr → Option Obj) : AlG := let K := He.frG g (He.asD g n); (gcdB K, He.obsD fa fn K)
def SaysG (K : PySem.W.Frag) : Prop := gcdB K = true ∧ He.SaysD fa fn K
def hk : PySem.W.Hook where
  α := AlG
  obs := fun s => obsG 4 s.heap.get?
  val := fun _ => (true, He.valD fn)
  says := fun _ h => ∃ K : PySem.W.Frag, K.In h ∧ SaysG K
  of := fun _ _ e => ⟨_, He.frG_in, congrArg Prod.fst e, congrArg Prod.snd e⟩
  keeps := fun _ _ _ ⟨K, hK, c⟩ k => ⟨K, PySem.W.Frag.In.keeps hK k, c⟩
def ob (s : PySem.W.SharedT) : AlG := obsG 4 (HandSHeadRun.getT s)
theorem ob_eq (s : PySem.W.SharedT) : ob s = hk.obs s.abs := by
  have e : HandSHeadRun.getT s = s.abs.heap.get? := funext (HandSHeadRun.getT_eq s)
  unfold ob
  rw [e] <;> rfl
abbrev R : PySem.W.OpenRow := PySem.W.OpenLaw.row PySem.Challenge.rw_rightchance_k48_whole_numbers_rise_with
def nm1 : List PySem.Str := ["ChanceError", "NoShare", "make_share", "times", "rest_of", "product_of", "value_key", "row_key", "atom_variables", "columns_of", "part_of", "match_terms", "scanned", "joined", "projected", "reckoned", "numbers_of", "number_of_plan", "_law_draws", "_law_take", "_law_pick", "_law_same", "_law_pool", "_law_values", "_law_value", "_law_key", "_law_row_key", "_law_share", "_law_plus", "_law_times"]
def nm2 : List PySem.Str := ["_law_rest", "_law_less", "_law_any", "_law_chance", "_law_world", "_law_table", "_law_term", "_law_atom", "_law_simple", "_law_variables", "_law_place_key", "_law_store", "_law_facts", "_law_atom_variables", "_law_beneath", "_law_columns", "_law_joined", "_law_eliminated", "_law_plan", "_law_unsafe", "_law_words", "_law_parts", "_law_some_join", "_law_wide_world", "_law_wide_join", "_law_some_world", "_law_of_row", "_law_with"]
def nms : List PySem.Str := nm1 ++ nm2
theorem run (w : World) : HandSHeadRun.RunEqI R (PySem.W.view R.prog [0, 64]) hk ob 40000 nms w := by
  unfold HandSHeadRun.RunEqI
  kernel_rfl
/-! ### what the head tells -/
theorem fn_tbl : fn = tbl.map fun p => mkD p.1 p.2 := rfl
theorem fa_tbl : fa = (tbl.map fun p => He.Fa.glo p.1) ++ bls.map He.Fa.free := rfl
theorem tx_of {K : PySem.W.Frag} {h : Heap} {mg : Str → Option Value} (X : K.In h) (G : h.Ns mainGlobals mg) (c : SaysG K) : Tx K mg := by
  obtain ⟨cg, c⟩ := c
  refine ⟨fun i x st e => ?_, fun x hx => ?_, PySem.W.mg_of X G (He.eqO_ok cg)⟩
  · have e1 : fn[i]? = some (mkD x st) := by rw [fn_tbl, List.getElem?_map, e]; rfl
    have li : i < tbl.length := (List.getElem?_eq_some_iff.mp e).1
    have e2 : fa[i]? = some (.glo x) := by
      rw [fa_tbl, List.getElem?_append_left (by rw [List.length_map]; exact li), List.getElem?_map, e]
      rfl
    obtain ⟨fd, F⟩ := c.def_ i (d := mkD x st) e1
    exact ⟨_, fd, F, He.glo_ok X G (c.fact i (f := .glo x) e2)⟩
  · obtain ⟨j, ej⟩ := List.getElem?_of_mem hx
    have e2 : fa[tbl.length + j]? = some (.free x) := by
      rw [fa_tbl, List.getElem?_append_right (by rw [List.length_map]; omega), List.length_map, Nat.add_sub_cancel_left, List.getElem?_map, ej]
      rfl
    exact He.free_ok X G (c.fact (tbl.length + j) (f := .free x) e2)
end K48
set_option maxRecDepth 100000
set_option maxHeartbeats 0
open PySem PySem.W PySem.Calls PyProof.Rows
theorem PySem.Challenge.cw_rightchance_k48_whole_numbers_rise_with_holds : PySem.Challenge.rw_rightchance_k48_whole_numbers_rise_with.Holds := by
  w_on; o_law
  refine HandSHeadRun.head_imp (r := OpenLaw.row PySem.Challenge.rw_rightchance_k48_whole_numbers_rise_with) (q := view (OpenLaw.row PySem.Challenge.rw_rightchance_k48_whole_numbers_rise_with).prog [0, 64]) (H := K48.hk) (ob := K48.ob) (M := 40000) (loose := K48.nms) (d := HandSHeadRun.topDef (OpenLaw.row PySem.Challenge.rw_rightchance_k48_whole_numbers_rise_with).prog 64) (kwd := []) K48.ob_eq K48.run
    (by kernel_rfl) (by kernel_rfl) (by kernel_rfl) (by rfl) (by first | assumption | decide +kernel) (by decide +kernel) ⟨rfl, rfl, rfl, rfl, rfl, by decide +kernel⟩ ?hw ?hc
  case hw => w_witness2
  case hc =>
    refine L2.walk_ofE (l := PySem.Challenge.rw_rightchance_k48_whole_numbers_rise_with) (n := 63) (k := 35) (x := "_law_script") (CX := L2.CX0) rfl (by decide) (by kernel_rfl) ⟨rfl, by decide, by decide⟩ ?F (fun _ _ _ _ z => z)
    intro w mg fa h Y G hmg0
    obtain ⟨K, KX, c⟩ := Y
    have hmg : mg ("law" : PySem.Str) = some (.ref fa) := by
      have e : (HandSHeadRun.topDef (OpenLaw.row PySem.Challenge.rw_rightchance_k48_whole_numbers_rise_with).prog 64).name = ("law" : PySem.Str) := by kernel_rfl
      rw [← e]
      exact hmg0
    have T := K48.tx_of KX G c
    obtain ⟨f, fd, F, hf⟩ := T.def_ K48.i_law "law" K48.s_law rfl
    have ef := hf.symm.trans hmg
    cases ef
    have b := L2.FunD.bindsA (ps := ["_law_script"]) F fun _ _ _ _ _ _ us hl => match us, hl with | [_], _ => rfl
    exact ⟨K, fd, K48.sp_law K, KX, fun s v => b s [v] rfl, fun H a ns hl ho hS => ⟨a, ns, rfl, hS, hl, fun _ => rfl⟩, fun base _ _ => K48.law_at T F⟩
