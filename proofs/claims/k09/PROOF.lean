import PyProof.Rows.All
import Wide.All
import OpenK.AllK
import Wide.FinOn
import HandS.ForMost
import HandS.ForExc
import HandS.TupAny
import HandS.Zip
import HandS.Conv
import HandS.Flow
import HandS.Style
import HandS.Deep
import HandS.IsInst
import HandS.RaiseMore
import HandS.SetKeys
import HandS.Strs
import HandS.ExcSuper
import HandS.ExcIs
import HandS.Lambda
import HandS.Wide
import KE.KeyNested
import KE.KDictPairs
import KE.KDictKeyed
import HandS.TupMul
import KE.GoesEnum
import HandS.Star
import KE.KExcSuper
import HandS.ExcInit
import HandS.ExcField
import KE.KExcIs
import HandS.EndTab
import PySem.Challenge.RW_nosuchthings_k09_whole_cells_and_their_n
import KE.KNestM
import HandS.HeadWalk
import Open.SpecLaws
import KE.OsGo
import KE.OsNest
set_option Elab.async false
set_option linter.all false
set_option maxRecDepth 100000
set_option maxHeartbeats 1000000
/-! DL0: data read at values, slots' states, what an expression denotes. -/
namespace DL
open PySem PySem.Spec L2
open PyProof.Rows hiding St

/-! ### data at values: tuples, and lists that stand still for ever -/
/-- a list that stands still: frozen, or one of the written part -/
def Lz (K : PySem.W.Frag) (H : Hp) (a : Addr) (xs : List V) : Prop :=
  (∃ o, H a = some (.frz o (.lst xs))) ∨ ∃ (its : List Value) (n : Nat), K.lookup a = some { cls := .type "list", data := .seq its.toArray n } ∧ xs.length ≤ sizeLine ∧ Vals xs its
/-- data as a key (up to ==) -/
def nkD : PyData → NestedKey
  | .bool b => .num (if b = true then 1 else 0)
  | .int i => .num i
  | .str x => .text x
  | .tuple ds => .tup (nkAll ds)
  | _ => .none
where nkAll : List PyData → List NestedKey
  | [] => []
  | d :: ds => nkD d :: nkAll ds
mutual
/-- a key that hashes as nkD tells -/
def keyOk : PyData → Bool
  | .none | .bool _ | .int _ | .str _ => true
  | .tuple ds => keyOkAll ds
  | _ => false
def keyOkAll : List PyData → Bool
  | [] => true
  | d :: ds => keyOk d && keyOkAll ds
end
/-- an exception of the class named c, its field d: as data -/
def excD (c : Str) (d : PyData) : PyData := .dict [(.list [], .str c), (.none, d)]
mutual
inductive Dz (K : PySem.W.Frag) (W0 : World) (H : Hp) : V → PyData → Prop
  | non : Dz K W0 H .non .none
  | bl (b : Bool) : Dz K W0 H (.bl b) (.bool b)
  | int (i : Int) : Dz K W0 H (.int i) (.int i)
  | str (x : Str) : Dz K W0 H (.str x) (.str x)
  | tup {a : Addr} {xs : List V} {ds : List PyData} : SqT K H a xs → DzAll K W0 H xs ds → Dz K W0 H (.ref a) (.tuple ds)
  | lst {a : Addr} {xs : List V} {ds : List PyData} : Lz K H a xs → DzAll K W0 H xs ds → Dz K W0 H (.ref a) (.list ds)
  | dct {a : Addr} {o : Obj} {u : HO} {es : Array DictEntry} {ep : Nat} {kvs : List (PyData × PyData)} : H a = some (.frz o u) → o.ExactDict → o.data = .dict es ep → (a == sysModules) = false → (kvs.map (·.1)).Nodup → DzKv K W0 H es.toList kvs → Dz K W0 H (.ref a) (.dict kvs)
  | exc {a dx C : Addr} {oe od : Obj} {u u' : HO} {c : Str} {v : V} {w : Value} {d : PyData} : H a = some (.frz oe u) → oe.cls = .ref C → oe.dict = some dx → (∃ vs, oe.data = .fields vs) → H dx = some (.frz od u') → PySem.W.lookIn "value" od = some (some w) → PySem.W.nsIn K mainGlobals c = some (some (.ref C)) → RelV v w → Dz K W0 H v d → Dz K W0 H (.ref a) (.dict [(.list [], .str c), (.none, d)])
inductive DzAll (K : PySem.W.Frag) (W0 : World) (H : Hp) : List V → List PyData → Prop
  | nil : DzAll K W0 H [] []
  | cons {v : V} {vs : List V} {d : PyData} {ds : List PyData} : Dz K W0 H v d → DzAll K W0 H vs ds → DzAll K W0 H (v :: vs) (d :: ds)
/-- the entries of a dict that stands still -/
inductive DzKv (K : PySem.W.Frag) (W0 : World) (H : Hp) : List DictEntry → List (PyData × PyData) → Prop
  | nil : DzKv K W0 H [] []
  | cons {e : DictEntry} {es : List DictEntry} {x y : V} {k d : PyData} {kvs : List (PyData × PyData)} : RelV x e.key → Dz K W0 H x k → RelV y e.val → Dz K W0 H y d → e.hash = (nkD k).hash W0 → keyOk k = true → DzKv K W0 H es kvs → DzKv K W0 H (e :: es) ((k, d) :: kvs)
end

/-- tuples and what is frozen stand -/
structure Stay (H H' : Hp) : Prop where
  tup : ∀ a xs, H a = some (.tup xs) → H' a = some (.tup xs)
  frz : ∀ a o u, H a = some (.frz o u) → H' a = some (.frz o u)
theorem Stay.refl (H : Hp) : Stay H H := ⟨fun _ _ h => h, fun _ _ _ h => h⟩
theorem Stay.trans {H H1 H2 : Hp} (a : Stay H H1) (b : Stay H1 H2) : Stay H H2 := ⟨fun c xs h => b.tup c xs (a.tup c xs h), fun c o u h => b.frz c o u (a.frz c o u h)⟩
theorem Stay.of {H H' : Hp} (e : Same H H') : Stay H H' := ⟨fun a xs h => e a _ h, fun a o u h => e a _ h⟩
theorem same_new {H : Hp} {p : Addr} {o : HO} (h : H p = none) : Same H (upd H p o) := fun b x e => by
  rw [upd_ne (ne_of_none e h)]
  exact e
/-- a list is written, or frozen -/
theorem Stay.lst {H : Hp} {p : Addr} {xs : List V} {u : HO} (h : H p = some (.lst xs)) : Stay H (upd H p u) :=
  ⟨fun a ys e => by rw [upd_ne (ne_of e h (by intro z; cases z))]; exact e, fun a o v e => by rw [upd_ne (ne_of e h (by intro z; cases z))]; exact e⟩
theorem Rd.stayT {H H' : Hp} {a : Addr} {xs : List V} (s : Stay H H') (r : Rd H a (.tup xs)) : Rd H' a (.tup xs) := by
  rcases r with r | ⟨o, r⟩
  · exact .inl (s.tup _ _ r)
  · exact .inr ⟨o, s.frz _ _ _ r⟩
theorem SqT.stay {K : PySem.W.Frag} {H H' : Hp} {a : Addr} {xs : List V} (s : Stay H H') (r : SqT K H a xs) : SqT K H' a xs := by
  rcases r with r | r
  · exact .inl (Rd.stayT s r)
  · exact .inr r
theorem Lz.stay {K : PySem.W.Frag} {H H' : Hp} {a : Addr} {xs : List V} (s : Stay H H') (r : Lz K H a xs) : Lz K H' a xs := by
  rcases r with ⟨o, r⟩ | r
  · exact .inl ⟨o, s.frz _ _ _ r⟩
  · exact .inr r
theorem Lz.sq {K : PySem.W.Frag} {H : Hp} {a : Addr} {xs : List V} (r : Lz K H a xs) : SqL K H a xs := by
  rcases r with ⟨o, r⟩ | ⟨its, n, e, z, v⟩
  · exact .inl (.inr ⟨o, r⟩)
  · exact .inr ⟨_, its.toArray, n, e, rfl, rfl, rfl, by rw [List.size_toArray, ← v.length]; exact z, v⟩
section
variable {K : PySem.W.Frag} {W0 : World} {H H' : Hp}
mutual
theorem Dz.mono (s : Stay H H') : ∀ {v : V} {d : PyData}, Dz K W0 H v d → Dz K W0 H' v d
  | _, _, .non => .non
  | _, _, .bl b => .bl b
  | _, _, .int i => .int i
  | _, _, .str x => .str x
  | _, _, .tup h a => .tup (SqT.stay s h) (DzAll.mono s a)
  | _, _, .lst h a => .lst (Lz.stay s h) (DzAll.mono s a)
  | _, _, .dct h x d m n a => .dct (s.frz _ _ _ h) x d m n (DzKv.mono s a)
  | _, _, .exc h1 h2 h3 h4 h5 h6 h7 h8 h9 => .exc (s.frz _ _ _ h1) h2 h3 h4 (s.frz _ _ _ h5) h6 h7 h8 (Dz.mono s h9)
theorem DzAll.mono (s : Stay H H') : ∀ {vs : List V} {ds : List PyData}, DzAll K W0 H vs ds → DzAll K W0 H' vs ds
  | _, _, .nil => .nil
  | _, _, .cons h t => .cons (Dz.mono s h) (DzAll.mono s t)
theorem DzKv.mono (s : Stay H H') : ∀ {es : List DictEntry} {kvs : List (PyData × PyData)}, DzKv K W0 H es kvs → DzKv K W0 H' es kvs
  | _, _, .nil => .nil
  | _, _, .cons r h r' h' q o t => .cons r (Dz.mono s h) r' (Dz.mono s h') q o (DzKv.mono s t)
end
theorem DzAll.len : ∀ {vs : List V} {ds : List PyData}, DzAll K W0 H vs ds → vs.length = ds.length
  | _, _, .nil => rfl
  | _, _, .cons _ t => by simp [DzAll.len t]
theorem DzAll.get : ∀ {vs : List V} {ds : List PyData} {i : Nat} {d : PyData}, DzAll K W0 H vs ds → ds[i]? = some d → ∃ v, vs[i]? = some v ∧ Dz K W0 H v d
  | _, _, _, _, .nil, e => by simp at e
  | _, _, 0, _, .cons h _, e => by simp at e; subst e; exact ⟨_, rfl, h⟩
  | _, _, i + 1, d, .cons _ t, e => by
    obtain ⟨v, h1, h2⟩ := DzAll.get (i := i) (d := d) t (by simpa using e)
    exact ⟨v, by simpa using h1, h2⟩
theorem DzAll.getV : ∀ {vs : List V} {ds : List PyData} {i : Nat} {v : V}, DzAll K W0 H vs ds → vs[i]? = some v → ∃ d, ds[i]? = some d ∧ Dz K W0 H v d
  | _, _, _, _, .nil, e => by simp at e
  | _, _, 0, _, .cons h _, e => by simp at e; subst e; exact ⟨_, rfl, h⟩
  | _, _, i + 1, d, .cons _ t, e => by
    obtain ⟨v, h1, h2⟩ := DzAll.getV (i := i) (v := d) t (by simpa using e)
    exact ⟨v, by simpa using h1, h2⟩
theorem DzAll.app : ∀ {vs ws : List V} {ds es : List PyData}, DzAll K W0 H vs ds → DzAll K W0 H ws es → DzAll K W0 H (vs ++ ws) (ds ++ es)
  | _, _, _, _, .nil, b => b
  | _, _, _, _, .cons h t, b => .cons h (DzAll.app t b)
theorem DzAll.take : ∀ {vs : List V} {ds : List PyData} (n : Nat), DzAll K W0 H vs ds → DzAll K W0 H (vs.take n) (ds.take n)
  | _, _, 0, _ => .nil
  | _, _, _ + 1, .nil => .nil
  | _, _, n + 1, .cons h t => .cons h (DzAll.take n t)
theorem DzAll.drop : ∀ {vs : List V} {ds : List PyData} (n : Nat), DzAll K W0 H vs ds → DzAll K W0 H (vs.drop n) (ds.drop n)
  | _, _, 0, h => h
  | _, _, _ + 1, .nil => .nil
  | _, _, n + 1, .cons _ t => DzAll.drop n t
theorem DzAll.set : ∀ {vs : List V} {ds : List PyData} {v : V} {d : PyData} (i : Nat), DzAll K W0 H vs ds → Dz K W0 H v d → DzAll K W0 H (vs.set i v) (ds.set i d)
  | _, _, _, _, _, .nil, _ => .nil
  | _, _, _, _, 0, .cons _ t, h => .cons h t
  | _, _, _, _, i + 1, .cons q t, h => .cons q (DzAll.set i t h)
theorem DzAll.rev : ∀ {vs : List V} {ds : List PyData}, DzAll K W0 H vs ds → DzAll K W0 H vs.reverse ds.reverse
  | _, _, .nil => .nil
  | _, _, .cons h t => by
    rw [List.reverse_cons, List.reverse_cons]
    exact DzAll.app (DzAll.rev t) (.cons h .nil)
theorem DzAll.erase : ∀ {vs : List V} {ds : List PyData} (i : Nat), DzAll K W0 H vs ds → DzAll K W0 H (vs.eraseIdx i) (ds.eraseIdx i)
  | _, _, _, .nil => .nil
  | _, _, 0, .cons _ t => t
  | _, _, i + 1, .cons h t => .cons h (DzAll.erase i t)
end

/-- what may be looked at now: data, or a list that may still be changed -/
def Vw (K : PySem.W.Frag) (W0 : World) (H : Hp) (v : V) (d : PyData) : Prop :=
  Dz K W0 H v d ∨ ∃ a vs ds, v = .ref a ∧ d = .list ds ∧ H a = some (.lst vs) ∧ DzAll K W0 H vs ds
section
variable {K : PySem.W.Frag} {W0 : World} {H H' : Hp}
theorem Vw.of {v : V} {d : PyData} (h : Dz K W0 H v d) : Vw K W0 H v d := .inl h
theorem Vw.list {v : V} {ds : List PyData} (h : Vw K W0 H v (.list ds)) : ∃ a vs, v = .ref a ∧ SqL K H a vs ∧ DzAll K W0 H vs ds := by
  rcases h with h | ⟨a, vs, es, rfl, e, h, q⟩
  · cases h with
    | lst h q => exact ⟨_, _, rfl, Lz.sq h, q⟩
  · cases e
    exact ⟨a, vs, rfl, .inl (.inl h), q⟩
theorem Vw.tup {v : V} {ds : List PyData} (h : Vw K W0 H v (.tuple ds)) : ∃ a vs, v = .ref a ∧ SqT K H a vs ∧ DzAll K W0 H vs ds := by
  rcases h with h | ⟨a, vs, es, rfl, e, h, q⟩
  · cases h with
    | tup h q => exact ⟨_, _, rfl, h, q⟩
  · cases e
theorem Vw.int {v : V} {i : Int} (h : Vw K W0 H v (.int i)) : v = .int i := by
  rcases h with h | ⟨a, vs, es, rfl, e, h, q⟩
  · cases h; rfl
  · cases e
theorem Vw.bl {v : V} {i : Bool} (h : Vw K W0 H v (.bool i)) : v = .bl i := by
  rcases h with h | ⟨a, vs, es, rfl, e, h, q⟩
  · cases h; rfl
  · cases e
theorem Vw.str {v : V} {i : Str} (h : Vw K W0 H v (.str i)) : v = .str i := by
  rcases h with h | ⟨a, vs, es, rfl, e, h, q⟩
  · cases h; rfl
  · cases e
theorem Vw.non {v : V} (h : Vw K W0 H v .none) : v = .non := by
  rcases h with h | ⟨a, vs, es, rfl, e, h, q⟩
  · cases h; rfl
  · cases e
mutual
theorem Dz.dp : ∀ {v : V} {d : PyData}, Dz K W0 H v d → d.hasDict = false → Dp K H v d
  | _, _, .non, _ => .non
  | _, _, .bl b, _ => .bl b
  | _, _, .int i, _ => .int i
  | _, _, .str x, _ => .str x
  | _, _, .tup h a, e => .tup h (DzAll.dp a (by simpa [PyData.hasDict] using e))
  | _, _, .lst h a, e => .lst (Lz.sq h) (DzAll.dp a (by simpa [PyData.hasDict] using e))
  | _, _, .dct _ _ _ _ _ _, e => by simp [PyData.hasDict] at e
  | _, _, .exc _ _ _ _ _ _ _ _ _, e => by simp [PyData.hasDict] at e
theorem DzAll.dp : ∀ {vs : List V} {ds : List PyData}, DzAll K W0 H vs ds → PyData.hasDictAll ds = false → DpAll K H vs ds
  | _, _, .nil, _ => .nil
  | _, _, .cons h t, e => by
    simp only [PyData.hasDictAll, Bool.or_eq_false_iff] at e
    exact .cons (Dz.dp h e.1) (DzAll.dp t e.2)
end
theorem Vw.dp {v : V} {d : PyData} (h : Vw K W0 H v d) (e : d.hasDict = false) : Dp K H v d := by
  rcases h with h | ⟨a, vs, es, rfl, rfl, h, q⟩
  · exact h.dp e
  · exact .lst (.inl (.inl h)) (q.dp (by simpa [PyData.hasDict] using e))
end

/-! ### freezing a list for ever -/
theorem inv_freeze {X : Cx} {pins : List (Addr × Obj)} {σ : St} {H : Hp} {s : Shared} {a : Addr} {xs : List V} (I : Inv X pins σ H s) (h : H a = some (.lst xs)) :
    ∃ o, Inv X pins σ (upd H a (.frz o (.lst xs))) s := by
  obtain ⟨hs, its, n, r, e⟩ := I.hok a _ h
  exact ⟨_, I.write (x := a) (e := a) (h' := s.heap) (t' := s.toks) (by rw [h]; trivial) (.inl rfl) (fun _ _ _ q => q) ⟨_, e⟩ ⟨e, hs, its, n, r, e⟩⟩
/-- what comes is a list that nothing else holds: it is frozen -/
def FrQ (Q : VK) : VK := fun v H => ∃ a xs, v = .ref a ∧ H a = some (.lst xs) ∧ ∀ o, Q v (upd H a (.frz o (.lst xs)))
theorem ep_freeze {X : Cx} {pins : List (Addr × Obj)} {σ : St} {Q : VK} {u : Value} {s : Shared} (h : EP X pins σ (FrQ Q) u s) : EP X pins σ Q u s := by
  obtain ⟨v, H, I, r, a, xs, rfl, e, q⟩ := h
  obtain ⟨o, J⟩ := inv_freeze I e
  exact ⟨_, _, J, r, q o⟩
def tFrz (t : TE) : TE := fun σ H Q => t σ H (FrQ Q)
theorem pe_frz {X : Cx} {e : Expr} {t : TE} (h : PE X e t) : PE X e (tFrz t) := ⟨fun pins s σ H Q I q => thn (h.run pins s σ H _ I q) fun _ _ z => ep_freeze z⟩
/-- ahead of a statement: the list in slot i is frozen -/
def tFrS (i : Nat) (t : TS) : TS := fun D σ H => ∃ a xs, σ[i]? = some (some (V.ref a)) ∧ H a = some (.lst xs) ∧ ∀ o, t D σ (upd H a (.frz o (.lst xs)))
theorem ps_frS {X : Cx} {st : Stmt} {t : TS} (i : Nat) (h : PS X st t) : PS X st (tFrS i t) := ⟨fun pins s σ H D I q => by
  obtain ⟨a, xs, _, e, q⟩ := q
  obtain ⟨o, J⟩ := inv_freeze I e
  exact h.run pins s σ _ D J (q o)⟩

/-! ### the slots' states -/
inductive SV where
  | emp | dat (d : PyData) | own (ds : List PyData)
abbrev En := List SV
/-- the heap at the entry as far as it is kept (without tables, where some are told of), the tables told of -/
structure HT where
  hp : Hp
  tabs : List (Addr × Str)
instance : CoeFun HT (fun _ => Addr → Option HO) := ⟨HT.hp⟩
def updT (H0 : HT) (D : Addr) (u : HO) : HT := ⟨upd H0.hp D u, H0.tabs⟩
theorem updT_same {H0 : HT} {D : Addr} {u : HO} : updT H0 D u D = some u := upd_same
theorem updT_ne {H0 : HT} {D b : Addr} {u : HO} (h : b ≠ D) : updT H0 D u b = H0 b := upd_ne h
structure SR (K : PySem.W.Frag) (W0 : World) (H0 : HT) (io : Option Addr) (σ : St) (H : Hp) (ρ : En) : Prop where
  len : σ.length = ρ.length
  keep : ∀ b o, H0 b = some o → io ≠ some b → H b = some o
  dat : ∀ (i : Nat) (d : PyData), ρ[i]? = some (SV.dat d) → ∃ v, σ[i]? = some (some v) ∧ Dz K W0 H v d
  own : ∀ (i : Nat) (ds : List PyData), ρ[i]? = some (SV.own ds) → ∃ p vs, σ[i]? = some (some (V.ref p)) ∧ H p = some (.lst vs) ∧ DzAll K W0 H vs ds ∧ (H0 p = none ∨ io = some p)
  dst : ∀ (i j : Nat) (ds es : List PyData) (p : Addr), i ≠ j → ρ[i]? = some (SV.own ds) → ρ[j]? = some (SV.own es) → σ[i]? = some (some (V.ref p)) → σ[j]? ≠ some (some (V.ref p))
  iop : ∀ (p : Addr), io = some p → σ[0]? = some (some (V.ref p))
  ioh : ∀ (p : Addr), io = some p → ∃ o, H p = some o ∧ ∀ ps, o ≠ .tbl ps
  tb : LamX.Tabs H0.tabs H
  nt : H0.tabs ≠ [] → ∀ b ps, H0 b ≠ some (.tbl ps)
theorem tabs_but {T : List (Addr × Str)} {H H' : Hp} {p : Addr} {vs : List V} (t : LamX.Tabs T H) (hp : H p = some (.lst vs)) (k : ∀ b o, b ≠ p → H b = some o → H' b = some o) : LamX.Tabs T H' := fun q hq => by
  obtain ⟨ps, h1, h2, h3⟩ := t q hq
  refine ⟨ps, k _ _ (ne_of h1 hp (by intro z; cases z)) h1, h2, fun pos cv hc => ?_⟩
  obtain ⟨c, e1, e2⟩ := h3 pos cv hc
  exact ⟨c, e1, k _ _ (ne_of e2 hp (by intro z; unfold LamX.CodeO at z; cases z)) e2⟩
section
variable {K : PySem.W.Frag} {W0 : World} {H0 : HT} {H H' : Hp} {io : Option Addr} {σ : St} {ρ : En}
/-- nothing tracked has changed -/
theorem SR.same (R : SR K W0 H0 io σ H ρ) (s : Same H H') : SR K W0 H0 io σ H' ρ where
  len := R.len
  keep := fun b o h n => s b o (R.keep b o h n)
  dat := fun i d h => let ⟨v, a, b⟩ := R.dat i d h; ⟨v, a, b.mono (.of s)⟩
  own := fun i ds h => let ⟨p, vs, a, b, c, d⟩ := R.own i ds h; ⟨p, vs, a, s _ _ b, c.mono (.of s), d⟩
  dst := R.dst
  iop := R.iop
  ioh := fun p h => let ⟨o, q, n⟩ := R.ioh p h; ⟨o, s _ _ q, n⟩
  tb := R.tb.ext s
  nt := R.nt
/-- a slot holds new data -/
theorem SR.setD {i : Nat} {v : V} {d : PyData} (R : SR K W0 H0 io σ H ρ) (h : Dz K W0 H v d) (hi : io = none ∨ i ≠ 0) : SR K W0 H0 io (σ.set i (some v)) H (ρ.set i (SV.dat d)) where
  len := by simp [R.len]
  keep := R.keep
  dat := fun j e q => by
    by_cases hj : i = j
    · subst hj
      by_cases hl : i < ρ.length
      · rw [List.getElem?_set_self hl] at q
        cases q
        exact ⟨v, List.getElem?_set_self (by rw [R.len]; exact hl), h⟩
      · rw [List.getElem?_eq_none (by simpa using hl)] at q
        cases q
    · rw [List.getElem?_set_ne hj] at q
      obtain ⟨w, a, b⟩ := R.dat j e q
      exact ⟨w, by rw [List.getElem?_set_ne hj]; exact a, b⟩
  own := fun j e q => by
    by_cases hj : i = j
    · subst hj
      by_cases hl : i < ρ.length
      · rw [List.getElem?_set_self hl] at q
        cases q
      · rw [List.getElem?_eq_none (by simpa using hl)] at q
        cases q
    · rw [List.getElem?_set_ne hj] at q
      obtain ⟨p, vs, a, b⟩ := R.own j e q
      exact ⟨p, vs, by rw [List.getElem?_set_ne hj]; exact a, b⟩
  dst := fun j k ds es p hn q1 q2 e => by
    have n1 : i ≠ j := fun z => by
      subst z
      by_cases hl : i < ρ.length
      · rw [List.getElem?_set_self hl] at q1; cases q1
      · rw [List.getElem?_eq_none (by simpa using hl)] at q1; cases q1
    have n2 : i ≠ k := fun z => by
      subst z
      by_cases hl : i < ρ.length
      · rw [List.getElem?_set_self hl] at q2; cases q2
      · rw [List.getElem?_eq_none (by simpa using hl)] at q2; cases q2
    rw [List.getElem?_set_ne n1] at q1 e
    rw [List.getElem?_set_ne n2] at q2 ⊢
    exact R.dst j k ds es p hn q1 q2 e
  iop := fun p h => by
    rcases hi with z | z
    · rw [z] at h; cases h
    · rw [List.getElem?_set_ne z]
      exact R.iop p h
  ioh := R.ioh
  tb := R.tb
  nt := R.nt
/-- a slot holds a new list of its own -/
theorem SR.setO {i : Nat} {p : Addr} {vs : List V} {ds : List PyData} (R : SR K W0 H0 io σ H ρ) (hp : H p = none) (s : Same H H') (h' : H' p = some (.lst vs)) (hd : DzAll K W0 H' vs ds) (hi : io = none ∨ i ≠ 0) :
    SR K W0 H0 io (σ.set i (some (V.ref p))) H' (ρ.set i (SV.own ds)) where
  len := by simp [R.len]
  keep := (R.same s).keep
  dat := fun j e q => by
    by_cases hj : i = j
    · subst hj
      by_cases hl : i < ρ.length
      · rw [List.getElem?_set_self hl] at q
        cases q
      · rw [List.getElem?_eq_none (by simpa using hl)] at q
        cases q
    · rw [List.getElem?_set_ne hj] at q
      obtain ⟨w, a, b⟩ := (R.same s).dat j e q
      exact ⟨w, by rw [List.getElem?_set_ne hj]; exact a, b⟩
  own := fun j e q => by
    by_cases hj : i = j
    · subst hj
      by_cases hl : i < ρ.length
      · rw [List.getElem?_set_self hl] at q
        cases q
        refine ⟨p, vs, List.getElem?_set_self (by rw [R.len]; exact hl), h', hd, ?_⟩
        by_cases z : io = some p
        · exact .inr z
        · cases e0 : H0 p with
          | none => exact .inl rfl
          | some o =>
            have := R.keep p o e0 z
            rw [hp] at this; cases this
      · rw [List.getElem?_eq_none (by simpa using hl)] at q
        cases q
    · rw [List.getElem?_set_ne hj] at q
      obtain ⟨p', vs', a, b⟩ := (R.same s).own j e q
      exact ⟨p', vs', by rw [List.getElem?_set_ne hj]; exact a, b⟩
  dst := fun j k es fs q hn q1 q2 e => by
    have np : ∀ j' es', i ≠ j' → ρ[j']? = some (.own es') → σ[j']? ≠ some (some (V.ref p)) := fun j' es' _ r z => by
      obtain ⟨p', vs', a, b, _⟩ := R.own j' es' r
      rw [z] at a; cases a
      rw [hp] at b; cases b
    by_cases n1 : i = j
    · subst n1
      have n2 : i ≠ k := hn
      rw [List.getElem?_set_ne n2] at q2 ⊢
      by_cases hl : i < σ.length
      · rw [List.getElem?_set_self hl] at e
        cases e
        exact np k fs n2 q2
      · rw [List.getElem?_eq_none (by simpa using hl)] at e
        cases e
    · rw [List.getElem?_set_ne n1] at q1 e
      by_cases n2 : i = k
      · subst n2
        intro z
        by_cases hl : i < σ.length
        · rw [List.getElem?_set_self hl] at z
          cases z
          exact np j es n1 q1 e
        · rw [List.getElem?_eq_none (by simpa using hl)] at z
          cases z
      · rw [List.getElem?_set_ne n2] at q2 ⊢
        exact R.dst j k es fs q hn q1 q2 e
  iop := fun p' h => by
    rcases hi with z | z
    · rw [z] at h; cases h
    · rw [List.getElem?_set_ne z]
      exact R.iop p' h
  ioh := (R.same s).ioh
  tb := (R.same s).tb
  nt := R.nt
/-- a list of its own is written -/
theorem SR.wr {i : Nat} {p : Addr} {ds es : List PyData} {ws : List V} (R : SR K W0 H0 io σ H ρ) (hi : ρ[i]? = some (SV.own ds)) (hσ : σ[i]? = some (some (V.ref p))) (hd : DzAll K W0 H ws es) :
    SR K W0 H0 io σ (upd H p (.lst ws)) (ρ.set i (SV.own es)) := by
  obtain ⟨p', vs, a, b, c, d⟩ := R.own i ds hi
  rw [hσ] at a; cases a
  have st : Stay H (upd H p (.lst ws)) := .lst b
  have hl : i < ρ.length := (List.getElem?_eq_some_iff.mp hi).1
  refine ⟨by simp [R.len], fun c o e n => ?_, fun j e q => ?_, fun j e q => ?_, fun j k ds' es' q hn q1 q2 e => ?_, R.iop, fun p2 h2 => ?_, tabs_but R.tb b fun c o n e => by rw [upd_ne n]; exact e, R.nt⟩
  · by_cases hc : c = p
    · subst hc
      rcases d with d | d
      · rw [d] at e; cases e
      · exact absurd d n
    · rw [upd_ne hc]
      exact R.keep c o e n
  · by_cases hj : i = j
    · subst hj
      rw [List.getElem?_set_self hl] at q
      cases q
    · rw [List.getElem?_set_ne hj] at q
      obtain ⟨w, a, b⟩ := R.dat j e q
      exact ⟨w, a, b.mono st⟩
  · by_cases hj : i = j
    · subst hj
      rw [List.getElem?_set_self hl] at q
      cases q
      exact ⟨p, ws, hσ, upd_same, hd.mono st, d⟩
    · rw [List.getElem?_set_ne hj] at q
      obtain ⟨p', vs', a', b', c', d'⟩ := R.own j e q
      have hne : p' ≠ p := fun z => by
        subst z
        exact R.dst i j _ _ p' hj hi q hσ a'
      exact ⟨p', vs', a', by rw [upd_ne hne]; exact b', c'.mono st, d'⟩
  · have q1' : ∃ es, ρ[j]? = some (SV.own es) := by
      by_cases hj : i = j
      · subst hj; exact ⟨_, hi⟩
      · rw [List.getElem?_set_ne hj] at q1; exact ⟨_, q1⟩
    have q2' : ∃ es, ρ[k]? = some (SV.own es) := by
      by_cases hj : i = k
      · subst hj; exact ⟨_, hi⟩
      · rw [List.getElem?_set_ne hj] at q2; exact ⟨_, q2⟩
    obtain ⟨f1, r1⟩ := q1'
    obtain ⟨f2, r2⟩ := q2'
    exact R.dst j k f1 f2 q hn r1 r2 e
  · by_cases hc : p2 = p
    · subst hc; exact ⟨_, upd_same, fun _ z => by cases z⟩
    · rw [upd_ne hc]; exact R.ioh p2 h2
/-- a list of its own is frozen -/
theorem SR.fr {i : Nat} {p : Addr} {ds : List PyData} {vs : List V} {o : Obj} (R : SR K W0 H0 io σ H ρ) (hi : ρ[i]? = some (SV.own ds)) (hσ : σ[i]? = some (some (V.ref p))) (hp : H p = some (.lst vs)) :
    SR K W0 H0 io σ (upd H p (.frz o (.lst vs))) (ρ.set i (.dat (.list ds))) := by
  obtain ⟨p', vs', a, b, c, d⟩ := R.own i ds hi
  rw [hσ] at a; cases a
  rw [hp] at b; cases b
  have st : Stay H (upd H p (.frz o (.lst vs))) := .lst hp
  have hl : i < ρ.length := (List.getElem?_eq_some_iff.mp hi).1
  refine ⟨by simp [R.len], fun c o e n => ?_, fun j e q => ?_, fun j e q => ?_, fun j k ds' es' q hn q1 q2 e => ?_, R.iop, fun p2 h2 => ?_, tabs_but R.tb hp fun c o n e => by rw [upd_ne n]; exact e, R.nt⟩
  · by_cases hc : c = p
    · subst hc
      rcases d with d | d
      · rw [d] at e; cases e
      · exact absurd d n
    · rw [upd_ne hc]
      exact R.keep c o e n
  · by_cases hj : i = j
    · subst hj
      rw [List.getElem?_set_self hl] at q
      cases q
      exact ⟨.ref p, hσ, .lst (.inl ⟨_, upd_same⟩) (c.mono st)⟩
    · rw [List.getElem?_set_ne hj] at q
      obtain ⟨w, a, b⟩ := R.dat j e q
      exact ⟨w, a, b.mono st⟩
  · by_cases hj : i = j
    · subst hj
      rw [List.getElem?_set_self hl] at q
      cases q
    · rw [List.getElem?_set_ne hj] at q
      obtain ⟨p', vs', a', b', c', d'⟩ := R.own j e q
      have hne : p' ≠ p := fun z => by
        subst z
        exact R.dst i j _ _ p' hj hi q hσ a'
      exact ⟨p', vs', a', by rw [upd_ne hne]; exact b', c'.mono st, d'⟩
  · have n1 : i ≠ j := fun z => by
      subst z
      rw [List.getElem?_set_self hl] at q1; cases q1
    have n2 : i ≠ k := fun z => by
      subst z
      rw [List.getElem?_set_self hl] at q2; cases q2
    rw [List.getElem?_set_ne n1] at q1
    rw [List.getElem?_set_ne n2] at q2
    exact R.dst j k ds' es' q hn q1 q2 e
  · by_cases hc : p2 = p
    · subst hc; exact ⟨_, upd_same, fun _ z => by cases z⟩
    · rw [upd_ne hc]; exact R.ioh p2 h2
end
end DL
set_option Elab.async false
set_option linter.all false
set_option maxRecDepth 100000
set_option maxHeartbeats 1000000
/-! DL1: denotations; expressions, tests, arguments. -/
namespace DL
open PySem PySem.Spec L2
open PyProof.Rows hiding St

abbrev DF := En → Option (PyData × En)
abbrev DFB := En → Option (Bool × En)
abbrev DFL := En → Option (List PyData × En)

section
variable (K : PySem.W.Frag) (W0 : World) (H0 : HT) (io : Option Addr)
def Den (t : TE) (F : DF) : Prop := ∀ (σ : L2.St) (H : Hp) (ρ : En) (d : PyData) (ρ' : En), SR K W0 H0 io σ H ρ → F ρ = some (d, ρ') →
  ∀ Q : VK, (∀ v H', SR K W0 H0 io σ H' ρ' → Stay H H' → Dz K W0 H' v d → Q v H') → t σ H Q
def DenV (t : TE) (F : DF) : Prop := ∀ (σ : L2.St) (H : Hp) (ρ : En) (d : PyData) (ρ' : En), SR K W0 H0 io σ H ρ → F ρ = some (d, ρ') →
  ∀ Q : VK, (∀ v H', SR K W0 H0 io σ H' ρ' → Stay H H' → Vw K W0 H' v d → Q v H') → t σ H Q
/-- a list that nothing else holds -/
def DenF (t : TE) (F : DFL) : Prop := ∀ (σ : L2.St) (H : Hp) (ρ : En) (ds : List PyData) (ρ' : En), SR K W0 H0 io σ H ρ → F ρ = some (ds, ρ') →
  ∀ Q : VK, (∀ p vs H1 H', SR K W0 H0 io σ H1 ρ' → Stay H H1 → H1 p = none → Same H1 H' → H' p = some (.lst vs) → DzAll K W0 H' vs ds → Q (.ref p) H') → t σ H Q
def DenT (t : TT) (F : DFB) : Prop := ∀ (σ : L2.St) (H : Hp) (ρ : En) (b : Bool) (ρ' : En), SR K W0 H0 io σ H ρ → F ρ = some (b, ρ') →
  ∀ Q : Bool → Hp → Prop, (∀ H', SR K W0 H0 io σ H' ρ' → Stay H H' → Q b H') → t σ H Q
def DenA (t : TA) (F : DFL) : Prop := ∀ (σ : L2.St) (H : Hp) (ρ : En) (ds : List PyData) (ρ' : En), SR K W0 H0 io σ H ρ → F ρ = some (ds, ρ') →
  ∀ Q : List V → Hp → Prop, (∀ vs H', SR K W0 H0 io σ H' ρ' → Stay H H' → DzAll K W0 H' vs ds → Q vs H') → t σ H Q
end
structure PM (X : Cx) (H0 : HT) (io : Option Addr) (e : Expr) (t : TE) (F : DF) : Prop where
  pe : PE X e t
  dn : Den X.K X.w H0 io t F
structure PV (X : Cx) (H0 : HT) (io : Option Addr) (e : Expr) (t : TE) (F : DF) : Prop where
  pe : PE X e t
  dn : DenV X.K X.w H0 io t F
structure PF (X : Cx) (H0 : HT) (io : Option Addr) (e : Expr) (t : TE) (F : DFL) : Prop where
  pe : PE X e t
  dn : DenF X.K X.w H0 io t F
structure TM (X : Cx) (H0 : HT) (io : Option Addr) (e : Expr) (t : TT) (F : DFB) : Prop where
  pt : PT X e t
  dn : DenT X.K X.w H0 io t F
structure AM (X : Cx) (H0 : HT) (io : Option Addr) (es : List Expr) (t : TA) (F : DFL) : Prop where
  pa : PA X es t
  dn : DenA X.K X.w H0 io t F

/-! ### combinators -/
def dC (d : PyData) : DF := fun ρ => some (d, ρ)
def dVar (i : Nat) : DF := fun ρ => match ρ[i]? with
  | some (.dat d) => some (d, ρ)
  | _ => none
def vwD (ρ : En) (i : Nat) : Option PyData := match ρ[i]? with
  | some (.dat d) => some d
  | some (.own ds) => some (.list ds)
  | _ => none
def dVw (i : Nat) : DF := fun ρ => (vwD ρ i).map fun d => (d, ρ)
def dOp (f : PyData → PyData → Option PyData) (F G : DF) : DF := fun ρ => (F ρ).bind fun p => (G p.2).bind fun q => (f p.1 q.1).map fun z => (z, q.2)
/-- the left one a name, looked at behind the right one -/
def dOpN (f : PyData → PyData → Option PyData) (i : Nat) (G : DF) : DF := fun ρ => (vwD ρ i).bind fun _ => (G ρ).bind fun q => (vwD q.2 i).bind fun d => (f d q.1).map fun z => (z, q.2)
def dUn (f : PyData → Option PyData) (F : DF) : DF := fun ρ => (F ρ).bind fun p => (f p.1).map fun z => (z, p.2)
def dIf (c : DFB) (F G : DF) : DF := fun ρ => (c ρ).bind fun p => if p.1 = true then F p.2 else G p.2
def asB : Option (PyData × En) → Option (Bool × En)
  | some (.bool b, ρ) => some (b, ρ)
  | _ => none
def bVal (F : DF) : DFB := fun ρ => asB (F ρ)
def bNot (c : DFB) : DFB := fun ρ => (c ρ).map fun p => (!p.1, p.2)
def bAnd (c d : DFB) : DFB := fun ρ => (c ρ).bind fun p => if p.1 = true then d p.2 else some (false, p.2)
def bOr (c d : DFB) : DFB := fun ρ => (c ρ).bind fun p => if p.1 = true then some (true, p.2) else d p.2
def dBool (c : DFB) : DF := fun ρ => (c ρ).map fun p => (.bool p.1, p.2)
/-- a chain l op m op' r -/
def dChain (f g : PyData → PyData → Option PyData) (F G J : DF) : DF := fun ρ => (F ρ).bind fun p => (G p.2).bind fun q => match f p.1 q.1 with
  | some (.bool true) => (J q.2).bind fun r => (g q.1 r.1).map fun z => (z, r.2)
  | some (.bool false) => some (.bool false, q.2)
  | _ => none
def aNil : DFL := fun ρ => some ([], ρ)
def aCons (F : DF) (A : DFL) : DFL := fun ρ => (F ρ).bind fun p => (A p.2).map fun q => (p.1 :: q.1, q.2)
/-- the most that a list, a tuple holds -/
def few (n : Nat) : Bool := decide (n ≤ 16777216)
theorem few_le {n : Nat} (h : few n = true) : n ≤ sizeLine := by
  have := of_decide_eq_true h
  rw [sizeLine_eq]; exact this
def dTup (A : DFL) : DF := fun ρ => (A ρ).bind fun p => if few p.1.length = true then some (.tuple p.1, p.2) else none
def lLst (A : DFL) : DFL := fun ρ => (A ρ).bind fun p => if few p.1.length = true then some (p.1, p.2) else none
def dFrz (A : DFL) : DF := fun ρ => (A ρ).map fun p => (.list p.1, p.2)

/-! ### operators by data -/
def rD (K : PySem.W.Frag) (W0 : World) (g : PyData → PyData → Option PyData) : R2 := fun x y H Q => ∃ d e z, Vw K W0 H x d ∧ Vw K W0 H y e ∧ g d e = some z ∧ ∀ v H', Same H H' → Dz K W0 H' v z → Q v H'
def rDU (K : PySem.W.Frag) (W0 : World) (g : PyData → Option PyData) : V → Hp → VK → Prop := fun x H Q => ∃ d z, Vw K W0 H x d ∧ g d = some z ∧ ∀ v H', Same H H' → Dz K W0 H' v z → Q v H'
/-- a call of a built-in with data -/
def rDA (K : PySem.W.Frag) (W0 : World) (g : List PyData → Option PyData) : List V → Hp → VK → Prop := fun xs H Q => ∃ ds z, DzAll K W0 H xs ds ∧ g ds = some z ∧ ∀ v H', Same H H' → Dz K W0 H' v z → Q v H'
/-- .. with one thing that is looked at -/
def rDV (K : PySem.W.Frag) (W0 : World) (g : PyData → Option PyData) : List V → Hp → VK → Prop := fun xs H Q => ∃ x d z, xs = [x] ∧ Vw K W0 H x d ∧ g d = some z ∧ ∀ v H', Same H H' → Dz K W0 H' v z → Q v H'
/-- .. that makes a new list -/
def rDF (K : PySem.W.Frag) (W0 : World) (g : PyData → Option (List PyData)) : List V → Hp → VK → Prop := fun xs H Q => ∃ x d zs, xs = [x] ∧ Vw K W0 H x d ∧ g d = some zs ∧ ∀ p vs, H p = none → DzAll K W0 (upd H p (.lst vs)) vs zs → Q (.ref p) (upd H p (.lst vs))

section
variable {X : Cx} {H0 : HT} {io : Option Addr} {e e1 e2 a b c : Expr} {es : List Expr} {t t1 t2 ta tb tc : TE} {u u1 u2 : TT} {ts : TA} {F G J : DF} {A : DFL} {B C : DFB} {pos : Pos}

theorem pv_of (h : PM X H0 io e t F) : PV X H0 io e t F := ⟨h.pe, fun σ H ρ d ρ' R f Q q => h.dn σ H ρ d ρ' R f Q fun v H' R' s z => q v H' R' s (.inl z)⟩
theorem pm_frz (h : PF X H0 io e t A) : PM X H0 io e (tFrz t) (dFrz A) := ⟨pe_frz h.pe, fun σ H ρ d ρ' R f Q q => by
  unfold dFrz at f
  cases fa : A ρ with
  | none => rw [fa] at f; cases f
  | some p =>
    rw [fa] at f
    cases f
    refine h.dn σ H ρ _ _ R fa _ fun p' vs H1 H' R1 st hn sm hp hd => ?_
    refine ⟨p', vs, rfl, hp, fun o => q _ _ ?_ ?_ ?_⟩
    · refine R1.same fun b x e => ?_
      rw [upd_ne (ne_of_none e hn)]
      exact sm b x e
    · refine st.trans (.of fun b x e => ?_)
      rw [upd_ne (ne_of_none e hn)]
      exact sm b x e
    · exact .lst (.inl ⟨_, upd_same⟩) (hd.mono (.lst hp))⟩
theorem pm_eq {F' : DF} (h : PM X H0 io e t F) (hF : F = F') : PM X H0 io e t F' := hF ▸ h

/-! ### leaves -/
theorem pm_c {d : PyData} {v : V} (hp : PE X e (tC v)) (hd : ∀ H, Dz X.K X.w H v d) : PM X H0 io e (tC v) (dC d) := ⟨hp, fun σ H ρ d' ρ' R f Q q => by
  cases f
  exact q v H R (.refl H) (hd H)⟩
theorem pm_int {i : Int} {j} : PM X H0 io (.Constant (.int i) j pos) (tC (.int i)) (dC (.int i)) := pm_c pe_int fun _ => .int i
theorem pm_bl {i : Bool} {j} : PM X H0 io (.Constant (.bool i) j pos) (tC (.bl i)) (dC (.bool i)) := pm_c pe_bl fun _ => .bl i
theorem pm_non {j} : PM X H0 io (.Constant .none j pos) (tC .non) (dC .none) := pm_c pe_non fun _ => .non
theorem pm_str {i : Str} {j} : PM X H0 io (.Constant (.str i) j pos) (tC (.str i)) (dC (.str i)) := pm_c pe_str fun _ => .str i
theorem den_var {K : PySem.W.Frag} {W0 : World} (i : Nat) : Den K W0 H0 io (tVar i) (dVar i) := fun σ H ρ d ρ' R f Q q => by
  unfold dVar at f
  split at f
  · rename_i d' h
    cases f
    obtain ⟨v, a, z⟩ := R.dat i d h
    exact ⟨v, a, q v H R (.refl H) z⟩
  · cases f
theorem pm_var (i : Nat) {x : Str} (hN : X.N[i]? = some x := by rfl) (hv : Vis X.env.scope x := by first | exact Or.inl rfl | exact Or.inr (Or.inl rfl) | exact Or.inr (Or.inr rfl)) (hd : (x == ("__debug__" : Str)) = false := by decide)
    (hcd : (x == ("__classdict__" : Str)) = false := by decide) : PM X H0 io (.Name x pos) (tVar i) (dVar i) := ⟨pe_var hN hv hd hcd, den_var i⟩
theorem SR.vw {K : PySem.W.Frag} {W0 : World} {σ : L2.St} {H : Hp} {ρ : En} {i : Nat} {d : PyData} (R : SR K W0 H0 io σ H ρ) (h : vwD ρ i = some d) : ∃ v, σ[i]? = some (some v) ∧ Vw K W0 H v d := by
  unfold vwD at h
  split at h
  · rename_i d' q
    cases h
    obtain ⟨v, a, z⟩ := R.dat i d q
    exact ⟨v, a, .inl z⟩
  · rename_i ds q
    cases h
    obtain ⟨p, vs, a, b, z, _⟩ := R.own i ds q
    exact ⟨.ref p, a, .inr ⟨p, vs, ds, rfl, rfl, b, z⟩⟩
  · cases h
theorem pv_var (i : Nat) {x : Str} (hN : X.N[i]? = some x := by rfl) (hv : Vis X.env.scope x := by first | exact Or.inl rfl | exact Or.inr (Or.inl rfl) | exact Or.inr (Or.inr rfl)) (hd : (x == ("__debug__" : Str)) = false := by decide)
    (hcd : (x == ("__classdict__" : Str)) = false := by decide) : PV X H0 io (.Name x pos) (tVar i) (dVw i) := ⟨pe_var hN hv hd hcd, fun σ H ρ d ρ' R f Q q => by
  unfold dVw at f
  cases h : vwD ρ i with
  | none => rw [h] at f; cases f
  | some d' =>
    rw [h] at f
    cases f
    obtain ⟨v, a, z⟩ := R.vw h
    exact ⟨v, a, q v H R (.refl H) z⟩⟩
/-- a constant of the module -/
theorem pm_glob {x : Str} {v : V} {u : Value} {d : PyData} (hd : ∀ H, Dz X.K X.w H v d) (hm : X.mg x = some u) (r : RelV v u) (hg : Gl X x := by rfl) (hdb : (x == ("__debug__" : Str)) = false := by decide) :
    PM X H0 io (.Name x pos) (tC v) (dC d) := pm_c (pe_glob hg hm r hdb) hd

/-! ### operators -/
theorem den_op {K : PySem.W.Frag} {W0 : World} {f : PyData → PyData → Option PyData} (ha : Den K W0 H0 io ta F) (hb : DenV K W0 H0 io tb G) : Den K W0 H0 io (tOp (rD K W0 f) ta tb) (dOp f F G) := fun σ H ρ d ρ' R g Q q => by
  unfold dOp at g
  cases fa : F ρ with
  | none => rw [fa] at g; cases g
  | some p =>
    obtain ⟨x, ρ1⟩ := p
    rw [fa] at g
    cases fb : G ρ1 with
    | none => simp only [Option.bind_some, fb] at g; cases g
    | some p2 =>
      obtain ⟨y, ρ2⟩ := p2
      simp only [Option.bind_some, fb] at g
      cases fz : f x y with
      | none => rw [fz] at g; cases g
      | some z =>
        rw [fz] at g
        cases g
        refine ha σ H ρ _ _ R fa _ fun v H1 R1 s1 z1 => ?_
        refine hb σ H1 ρ1 _ _ R1 fb _ fun w H2 R2 s2 z2 => ?_
        exact ⟨x, y, _, .inl (z1.mono s2), z2, fz, fun r H3 sm z3 => q r H3 (R2.same sm) ((s1.trans s2).trans (.of sm)) z3⟩
theorem den_opN {K : PySem.W.Frag} {W0 : World} {f : PyData → PyData → Option PyData} {i : Nat} (hb : DenV K W0 H0 io tb G) : Den K W0 H0 io (tOp (rD K W0 f) (tVar i) tb) (dOpN f i G) := fun σ H ρ d ρ' R g Q q => by
  unfold dOpN at g
  cases fa : vwD ρ i with
  | none => rw [fa] at g; cases g
  | some p =>
    rw [fa] at g
    cases fb : G ρ with
    | none => simp only [Option.bind_some, fb] at g; cases g
    | some p2 =>
      obtain ⟨y, ρ2⟩ := p2
      simp only [Option.bind_some, fb] at g
      cases fc : vwD ρ2 i with
      | none => rw [fc] at g; cases g
      | some x =>
        simp only [fc, Option.bind_some] at g
        cases fz : f x y with
        | none => rw [fz] at g; cases g
        | some z =>
          rw [fz] at g
          cases g
          obtain ⟨v, a, _⟩ := R.vw fa
          refine ⟨v, a, ?_⟩
          refine hb σ H ρ _ _ R fb _ fun w H2 R2 s2 z2 => ?_
          obtain ⟨v', a', z1⟩ := R2.vw fc
          rw [a] at a'
          cases a'
          exact ⟨x, y, _, z1, z2, fz, fun r H3 sm z3 => q r H3 (R2.same sm) (s2.trans (.of sm)) z3⟩
theorem pm_op {op : Operator} {f : PyData → PyData → Option PyData} (ho : OpR X (binaryOp op) (rD X.K X.w f)) (ha : PM X H0 io a ta F) (hb : PV X H0 io b tb G) : PM X H0 io (.BinOp a op b pos) (tOp (rD X.K X.w f) ta tb) (dOp f F G) :=
  ⟨pe_op ho ha.pe hb.pe, den_op ha.dn hb.dn⟩
theorem pm_cmp {op : CmpOp} {f : PyData → PyData → Option PyData} (ho : OpR X (compareOp op) (rD X.K X.w f)) (ha : PM X H0 io a ta F) (hb : PV X H0 io b tb G)
    (hm : behindInMarks op b = false := by first | exact nomark _ | with_unfolding_all rfl) : PM X H0 io (.Compare a [op] [b] pos) (tOp (rD X.K X.w f) ta tb) (dOp f F G) :=
  ⟨pe_cmpR ho ha.pe hb.pe hm, den_op ha.dn hb.dn⟩
theorem pm_cmpN (i : Nat) {x : Str} {op : CmpOp} {f : PyData → PyData → Option PyData} {p2 : Pos} (ho : OpR X (compareOp op) (rD X.K X.w f)) (hb : PV X H0 io b tb G)
    (hN : X.N[i]? = some x := by rfl) (hv : Vis X.env.scope x := by first | exact Or.inl rfl | exact Or.inr (Or.inl rfl) | exact Or.inr (Or.inr rfl)) (hd : (x == ("__debug__" : Str)) = false := by decide)
    (hcd : (x == ("__classdict__" : Str)) = false := by decide)
    (hm : behindInMarks op b = false := by first | exact nomark _ | with_unfolding_all rfl) : PM X H0 io (.Compare (.Name x p2) [op] [b] pos) (tOp (rD X.K X.w f) (tVar i) tb) (dOpN f i G) :=
  ⟨pe_cmpR ho (pe_var hN hv hd hcd) hb.pe hm, den_opN hb.dn⟩
theorem pm_ix {f : PyData → PyData → Option PyData} (ho : IxR X (rD X.K X.w f)) (ha : PM X H0 io a ta F) (hb : PV X H0 io b tb G) (hs : PlainIx b := by exact fun _ _ => rfl) : PM X H0 io (.Subscript a b pos) (tOp (rD X.K X.w f) ta tb) (dOp f F G) :=
  ⟨pe_ix ho ha.pe hb.pe hs, den_op ha.dn hb.dn⟩
theorem pm_ixN (i : Nat) {x : Str} {f : PyData → PyData → Option PyData} {p2 : Pos} (ho : IxR X (rD X.K X.w f)) (hb : PV X H0 io b tb G)
    (hN : X.N[i]? = some x := by rfl) (hv : Vis X.env.scope x := by first | exact Or.inl rfl | exact Or.inr (Or.inl rfl) | exact Or.inr (Or.inr rfl)) (hd : (x == ("__debug__" : Str)) = false := by decide)
    (hcd : (x == ("__classdict__" : Str)) = false := by decide) (hs : PlainIx b := by exact fun _ _ => rfl) : PM X H0 io (.Subscript (.Name x p2) b pos) (tOp (rD X.K X.w f) (tVar i) tb) (dOpN f i G) :=
  ⟨pe_ix ho (pe_var hN hv hd hcd) hb.pe hs, den_opN hb.dn⟩
theorem den_un {K : PySem.W.Frag} {W0 : World} {f : PyData → Option PyData} (ha : DenV K W0 H0 io ta F) : Den K W0 H0 io (tUn (rDU K W0 f) ta) (dUn f F) := fun σ H ρ d ρ' R g Q q => by
  unfold dUn at g
  cases fa : F ρ with
  | none => rw [fa] at g; cases g
  | some p =>
    obtain ⟨x, ρ1⟩ := p
    rw [fa] at g
    simp only [Option.bind_some] at g
    cases fz : f x with
    | none => rw [fz] at g; cases g
    | some z =>
      rw [fz] at g
      cases g
      refine ha σ H ρ _ _ R fa _ fun v H1 R1 s1 z1 => ?_
      exact ⟨x, _, z1, fz, fun r H3 sm z3 => q r H3 (R1.same sm) (s1.trans (.of sm)) z3⟩
theorem pm_un {op : UnaryOp} {f : PyData → Option PyData} (ho : UnR X (unaryOp op) (rDU X.K X.w f)) (ha : PV X H0 io a ta F) : PM X H0 io (.UnaryOp op a pos) (tUn (rDU X.K X.w f) ta) (dUn f F) := ⟨pe_un ho ha.pe, den_un ha.dn⟩
theorem den_chain {K : PySem.W.Frag} {W0 : World} {f g : PyData → PyData → Option PyData} (ha : Den K W0 H0 io ta F) (hb : Den K W0 H0 io tb G) (hc : DenV K W0 H0 io tc J) : Den K W0 H0 io (tChain (rD K W0 f) (rD K W0 g) ta tb tc) (dChain f g F G J) := fun σ H ρ d ρ' R h Q q => by
  unfold dChain at h
  cases fa : F ρ with
  | none => rw [fa] at h; cases h
  | some p =>
    obtain ⟨x, ρ1⟩ := p
    rw [fa] at h
    cases fb : G ρ1 with
    | none => simp only [Option.bind_some, fb] at h; cases h
    | some p2 =>
      obtain ⟨y, ρ2⟩ := p2
      simp only [Option.bind_some, fb] at h
      refine ha σ H ρ _ _ R fa _ fun v H1 R1 s1 z1 => ?_
      refine hb σ H1 ρ1 _ _ R1 fb _ fun w H2 R2 s2 z2 => ?_
      split at h
      · rename_i fz
        refine ⟨x, y, _, .inl (z1.mono s2), .inl z2, fz, fun r H3 sm z3 => ?_⟩
        cases z3
        refine ⟨true, rfl, ?_⟩
        rw [if_pos rfl]
        cases fc : J ρ2 with
        | none => rw [fc] at h; cases h
        | some p3 =>
          obtain ⟨w3, ρ3⟩ := p3
          rw [fc] at h
          simp only [Option.bind_some] at h
          cases fg : g y w3 with
          | none => rw [fg] at h; cases h
          | some zz =>
            rw [fg] at h
            cases h
            refine hc σ H3 ρ2 _ _ (R2.same sm) fc _ fun w' H4 R4 s4 z4 => ?_
            exact ⟨y, w3, _, .inl ((z2.mono (.of sm)).mono s4), z4, fg, fun r H5 sm5 z5 => q r H5 (R4.same sm5) (((((s1.trans s2).trans (.of sm)).trans s4)).trans (.of sm5)) z5⟩
      · rename_i fz
        cases h
        refine ⟨x, y, _, .inl (z1.mono s2), .inl z2, fz, fun r H3 sm z3 => ?_⟩
        cases z3
        refine ⟨false, rfl, ?_⟩
        rw [if_neg Bool.false_ne_true]
        exact q _ _ (R2.same sm) ((s1.trans s2).trans (.of sm)) (.bl _)
      · cases h
theorem pm_chain {o1 o2 : CmpOp} {f g : PyData → PyData → Option PyData} (h1 : OpR X (compareOp o1) (rD X.K X.w f)) (h2 : OpR X (compareOp o2) (rD X.K X.w g)) (ha : PM X H0 io a ta F) (hb : PM X H0 io b tb G) (hc : PV X H0 io c tc J)
    (hm : lastMarks [o1, o2] [b, c] = false := by with_unfolding_all rfl) : PM X H0 io (.Compare a [o1, o2] [b, c] pos) (tChain (rD X.K X.w f) (rD X.K X.w g) ta tb tc) (dChain f g F G J) :=
  ⟨pe_chain h1 h2 ha.pe hb.pe hc.pe hm, den_chain ha.dn hb.dn hc.dn⟩

/-! ### tests -/
theorem denT_of {K : PySem.W.Frag} {W0 : World} (h : Den K W0 H0 io t F) : DenT K W0 H0 io (tTest t) (bVal F) := fun σ H ρ b ρ' R g Q q => by
  unfold bVal at g
  cases fa : F ρ with
  | none => rw [fa] at g; cases g
  | some p =>
    obtain ⟨x, ρ1⟩ := p
    rw [fa] at g
    cases x with
    | bool k =>
      cases g
      refine h σ H ρ _ _ R fa _ fun v H1 R1 s1 z1 => ?_
      cases z1
      exact ⟨_, rfl, q _ R1 s1⟩
    | _ => cases g
theorem tm_val (h : PM X H0 io e t F) (he : ∀ whole, isTrue e X.env whole = (do let v ← whole; standAt e.pos; holding [v] (truthy v)) := by intro _; rfl) : TM X H0 io e (tB t) (bVal F) := ⟨pt_val h.pe he, denT_of h.dn⟩
theorem tm_cmp {op : CmpOp} {f : PyData → PyData → Option PyData} (ho : OpR X (compareOp op) (rD X.K X.w f)) (ha : PM X H0 io a ta F) (hb : PV X H0 io b tb G)
    (hm : behindInMarks op b = false := by first | exact nomark _ | with_unfolding_all rfl) : TM X H0 io (.Compare a [op] [b] pos) (tTest (tOp (rD X.K X.w f) ta tb)) (bVal (dOp f F G)) :=
  ⟨pt_cmpR ho ha.pe hb.pe hm, denT_of (den_op ha.dn hb.dn)⟩
theorem tm_cmpN (i : Nat) {x : Str} {op : CmpOp} {f : PyData → PyData → Option PyData} {p2 : Pos} (ho : OpR X (compareOp op) (rD X.K X.w f)) (hb : PV X H0 io b tb G)
    (hN : X.N[i]? = some x := by rfl) (hv : Vis X.env.scope x := by first | exact Or.inl rfl | exact Or.inr (Or.inl rfl) | exact Or.inr (Or.inr rfl)) (hd : (x == ("__debug__" : Str)) = false := by decide)
    (hcd : (x == ("__classdict__" : Str)) = false := by decide)
    (hm : behindInMarks op b = false := by first | exact nomark _ | with_unfolding_all rfl) : TM X H0 io (.Compare (.Name x p2) [op] [b] pos) (tTest (tOp (rD X.K X.w f) (tVar i) tb)) (bVal (dOpN f i G)) :=
  ⟨pt_cmpR ho (pe_var hN hv hd hcd) hb.pe hm, denT_of (den_opN hb.dn)⟩
theorem tm_chain {o1 o2 : CmpOp} {f g : PyData → PyData → Option PyData} (h1 : OpR X (compareOp o1) (rD X.K X.w f)) (h2 : OpR X (compareOp o2) (rD X.K X.w g)) (ha : PM X H0 io a ta F) (hb : PM X H0 io b tb G) (hc : PV X H0 io c tc J)
    (hm : lastMarks [o1, o2] [b, c] = false := by with_unfolding_all rfl) : TM X H0 io (.Compare a [o1, o2] [b, c] pos) (tTest (tChain (rD X.K X.w f) (rD X.K X.w g) ta tb tc)) (bVal (dChain f g F G J)) :=
  ⟨pt_chain h1 h2 ha.pe hb.pe hc.pe hm, denT_of (den_chain ha.dn hb.dn hc.dn)⟩
theorem tm_not (h : TM X H0 io e u B) : TM X H0 io (.UnaryOp .Not e pos) (tNot u) (bNot B) := ⟨pt_not h.pt, fun σ H ρ b ρ' R g Q q => by
  unfold bNot at g
  cases fa : B ρ with
  | none => rw [fa] at g; cases g
  | some p =>
    obtain ⟨x, ρ1⟩ := p
    rw [fa] at g
    cases g
    exact h.dn σ H ρ _ _ R fa _ fun H1 R1 s1 => q _ R1 s1⟩
/-- whatever its whole is: chains of and, or -/
structure WM (X : Cx) (H0 : HT) (io : Option Addr) (e : Expr) (t : TT) (F : DFB) : Prop where
  pw : PW X e t
  dn : DenT X.K X.w H0 io t F
theorem tm_w (h : WM X H0 io e u B) : TM X H0 io e u B := ⟨h.pw.pt, h.dn⟩
theorem wm_and1 (h : TM X H0 io a u B) : WM X H0 io (.BoolOp .And [a] pos) u B := ⟨pw_and1 h.pt, h.dn⟩
theorem wm_or1 (h : TM X H0 io a u B) : WM X H0 io (.BoolOp .Or [a] pos) u B := ⟨pw_or1 h.pt, h.dn⟩
theorem denT_and {K : PySem.W.Frag} {W0 : World} (h1 : DenT K W0 H0 io u1 B) (h2 : DenT K W0 H0 io u2 C) : DenT K W0 H0 io (tAnd u1 u2) (bAnd B C) := fun σ H ρ b ρ' R g Q q => by
  unfold bAnd at g
  cases fa : B ρ with
  | none => rw [fa] at g; cases g
  | some p =>
    obtain ⟨x, ρ1⟩ := p
    rw [fa] at g
    simp only [Option.bind_some] at g
    refine h1 σ H ρ _ _ R fa _ fun H1 R1 s1 => ?_
    cases x with
    | true =>
      rw [if_pos rfl] at g ⊢
      exact h2 σ H1 ρ1 _ _ R1 g _ fun H2 R2 s2 => q _ R2 (s1.trans s2)
    | false =>
      rw [if_neg Bool.false_ne_true] at g ⊢
      cases g
      exact q _ R1 s1
theorem denT_or {K : PySem.W.Frag} {W0 : World} (h1 : DenT K W0 H0 io u1 B) (h2 : DenT K W0 H0 io u2 C) : DenT K W0 H0 io (tOr u1 u2) (bOr B C) := fun σ H ρ b ρ' R g Q q => by
  unfold bOr at g
  cases fa : B ρ with
  | none => rw [fa] at g; cases g
  | some p =>
    obtain ⟨x, ρ1⟩ := p
    rw [fa] at g
    simp only [Option.bind_some] at g
    refine h1 σ H ρ _ _ R fa _ fun H1 R1 s1 => ?_
    cases x with
    | true =>
      rw [if_pos rfl] at g ⊢
      cases g
      exact q _ R1 s1
    | false =>
      rw [if_neg Bool.false_ne_true] at g ⊢
      exact h2 σ H1 ρ1 _ _ R1 g _ fun H2 R2 s2 => q _ R2 (s1.trans s2)
theorem wm_and (h1 : TM X H0 io a u1 B) (h2 : WM X H0 io (.BoolOp .And (b :: es) pos) u2 C) : WM X H0 io (.BoolOp .And (a :: b :: es) pos) (tAnd u1 u2) (bAnd B C) := ⟨pw_and h1.pt h2.pw, denT_and h1.dn h2.dn⟩
theorem wm_or (h1 : TM X H0 io a u1 B) (h2 : WM X H0 io (.BoolOp .Or (b :: es) pos) u2 C) : WM X H0 io (.BoolOp .Or (a :: b :: es) pos) (tOr u1 u2) (bOr B C) := ⟨pw_or h1.pt h2.pw, denT_or h1.dn h2.dn⟩

/-! ### and, or, not as values of bools; if as an expression -/
def dAndV (F G : DF) : DF := fun ρ => match F ρ with
  | some (.bool true, ρ1) => G ρ1
  | some (.bool false, ρ1) => some (.bool false, ρ1)
  | _ => none
def dOrV (F G : DF) : DF := fun ρ => match F ρ with
  | some (.bool true, ρ1) => some (.bool true, ρ1)
  | some (.bool false, ρ1) => G ρ1
  | _ => none
def dNotV (F : DF) : DF := fun ρ => match F ρ with
  | some (.bool b, ρ1) => some (.bool (!b), ρ1)
  | _ => none
theorem pm_one {op} (h : PM X H0 io a ta F) : PM X H0 io (.BoolOp op [a] pos) ta F := ⟨pe_one h.pe, h.dn⟩
theorem pm_and (ha : PM X H0 io a ta F) (hb : PM X H0 io (.BoolOp .And (b :: es) pos) tb G) : PM X H0 io (.BoolOp .And (a :: b :: es) pos) (tAndV ta tb) (dAndV F G) := ⟨pe_and ha.pe hb.pe, fun σ H ρ d ρ' R g Q q => by
  unfold dAndV at g
  split at g
  · rename_i ρ1 fa
    refine ha.dn σ H ρ _ _ R fa _ fun v H1 R1 s1 z1 => ?_
    cases z1
    refine ⟨true, rfl, ?_⟩
    rw [if_pos rfl]
    exact hb.dn σ H1 ρ1 _ _ R1 g _ fun v H2 R2 s2 z2 => q v H2 R2 (s1.trans s2) z2
  · rename_i ρ1 fa
    cases g
    refine ha.dn σ H ρ _ _ R fa _ fun v H1 R1 s1 z1 => ?_
    cases z1
    refine ⟨false, rfl, ?_⟩
    rw [if_neg Bool.false_ne_true]
    exact q _ H1 R1 s1 (.bl _)
  · cases g⟩
theorem pm_or (ha : PM X H0 io a ta F) (hb : PM X H0 io (.BoolOp .Or (b :: es) pos) tb G) : PM X H0 io (.BoolOp .Or (a :: b :: es) pos) (tOrV ta tb) (dOrV F G) := ⟨pe_or ha.pe hb.pe, fun σ H ρ d ρ' R g Q q => by
  unfold dOrV at g
  split at g
  · rename_i ρ1 fa
    cases g
    refine ha.dn σ H ρ _ _ R fa _ fun v H1 R1 s1 z1 => ?_
    cases z1
    refine ⟨true, rfl, ?_⟩
    rw [if_pos rfl]
    exact q _ H1 R1 s1 (.bl _)
  · rename_i ρ1 fa
    refine ha.dn σ H ρ _ _ R fa _ fun v H1 R1 s1 z1 => ?_
    cases z1
    refine ⟨false, rfl, ?_⟩
    rw [if_neg Bool.false_ne_true]
    exact hb.dn σ H1 ρ1 _ _ R1 g _ fun v H2 R2 s2 z2 => q v H2 R2 (s1.trans s2) z2
  · cases g⟩
theorem pm_not (ha : PM X H0 io a ta F) : PM X H0 io (.UnaryOp .Not a pos) (tNotV ta) (dNotV F) := ⟨pe_not ha.pe, fun σ H ρ d ρ' R g Q q => by
  unfold dNotV at g
  split at g
  · rename_i k ρ1 fa
    cases g
    refine ha.dn σ H ρ _ _ R fa _ fun v H1 R1 s1 z1 => ?_
    cases z1
    exact ⟨_, rfl, q _ H1 R1 s1 (.bl _)⟩
  · cases g⟩
theorem pm_ifE (hc : TM X H0 io c u B) (ha : PM X H0 io a ta F) (hb : PM X H0 io b tb G) : PM X H0 io (.IfExp c a b pos) (tIf u ta tb) (dIf B F G) := ⟨pe_ifExp hc.pt ha.pe hb.pe, fun σ H ρ d ρ' R g Q q => by
  unfold dIf at g
  cases fa : B ρ with
  | none => rw [fa] at g; cases g
  | some p =>
    obtain ⟨x, ρ1⟩ := p
    rw [fa] at g
    simp only [Option.bind_some] at g
    refine hc.dn σ H ρ _ _ R fa _ fun H1 R1 s1 => ?_
    cases x with
    | true =>
      rw [if_pos rfl] at g ⊢
      exact ha.dn σ H1 ρ1 _ _ R1 g _ fun v H2 R2 s2 z2 => q v H2 R2 (s1.trans s2) z2
    | false =>
      rw [if_neg Bool.false_ne_true] at g ⊢
      exact hb.dn σ H1 ρ1 _ _ R1 g _ fun v H2 R2 s2 z2 => q v H2 R2 (s1.trans s2) z2⟩

/-! ### arguments, displays -/
theorem am_nil : AM X H0 io [] tNil aNil := ⟨pa_nil, fun σ H ρ ds ρ' R g Q q => by
  cases g
  exact q [] H R (.refl H) .nil⟩
theorem am_cons (ha : PM X H0 io a ta F) (hr : AM X H0 io es ts A) (hs : starEach (a :: es) X.env = (false, eval a X.env) :: starEach es X.env := by rfl) : AM X H0 io (a :: es) (tCons ta ts) (aCons F A) := ⟨pa_cons ha.pe hr.pa hs, fun σ H ρ ds ρ' R g Q q => by
  unfold aCons at g
  cases fa : F ρ with
  | none => rw [fa] at g; cases g
  | some p =>
    obtain ⟨x, ρ1⟩ := p
    rw [fa] at g
    simp only [Option.bind_some] at g
    cases fb : A ρ1 with
    | none => rw [fb] at g; cases g
    | some p2 =>
      obtain ⟨ys, ρ2⟩ := p2
      rw [fb] at g
      cases g
      refine ha.dn σ H ρ _ _ R fa _ fun v H1 R1 s1 z1 => ?_
      exact hr.dn σ H1 ρ1 _ _ R1 fb _ fun vs H2 R2 s2 z2 => q _ H2 R2 (s1.trans s2) (.cons (z1.mono s2) z2)⟩
theorem pm_tup {x1} (h : AM X H0 io es ts A) : PM X H0 io (.Tuple es x1 pos) (tTup ts) (dTup A) := ⟨pe_tup h.pa, fun σ H ρ d ρ' R g Q q => by
  unfold dTup at g
  cases fa : A ρ with
  | none => rw [fa] at g; cases g
  | some p =>
    obtain ⟨x, ρ1⟩ := p
    rw [fa] at g
    simp only [Option.bind_some] at g
    split at g
    · rename_i hf
      cases g
      refine h.dn σ H ρ _ _ R fa _ fun vs H1 R1 s1 z1 => ⟨by rw [z1.len]; exact few_le hf, fun p hp => ?_⟩
      have sm : Same H1 (upd H1 p (.tup vs)) := same_new hp
      exact q _ _ (R1.same sm) (s1.trans (.of sm)) (.tup (.of upd_same) (z1.mono (.of sm)))
    · cases g⟩
theorem pf_lst (h : AM X H0 io es ts A) : PF X H0 io (.List es pos) (tLst ts) (lLst A) := ⟨pe_lst h.pa, fun σ H ρ d ρ' R g Q q => by
  unfold lLst at g
  cases fa : A ρ with
  | none => rw [fa] at g; cases g
  | some p =>
    obtain ⟨x, ρ1⟩ := p
    rw [fa] at g
    simp only [Option.bind_some] at g
    split at g
    · rename_i hf
      cases g
      refine h.dn σ H ρ _ _ R fa _ fun vs H1 R1 s1 z1 => ⟨by rw [z1.len]; exact few_le hf, fun p hp => ?_⟩
      have sm : Same H1 (upd H1 p (.lst vs)) := same_new hp
      exact q p vs H1 _ R1 s1 hp sm upd_same (z1.mono (.of sm))
    · cases g⟩

/-! ### built-ins -/
def dCall (f : List PyData → Option PyData) (A : DFL) : DF := fun ρ => (A ρ).bind fun p => (f p.1).map fun z => (z, p.2)
theorem den_call {K : PySem.W.Frag} {W0 : World} {f : List PyData → Option PyData} (h : DenA K W0 H0 io ts A) : Den K W0 H0 io (tCB (rDA K W0 f) ts) (dCall f A) := fun σ H ρ d ρ' R g Q q => by
  unfold dCall at g
  cases fa : A ρ with
  | none => rw [fa] at g; cases g
  | some p =>
    obtain ⟨x, ρ1⟩ := p
    rw [fa] at g
    simp only [Option.bind_some] at g
    cases fz : f x with
    | none => rw [fz] at g; cases g
    | some z =>
      rw [fz] at g
      cases g
      refine h σ H ρ _ _ R fa _ fun vs H1 R1 s1 z1 => ?_
      exact ⟨x, _, z1, fz, fun r H3 sm z3 => q r H3 (R1.same sm) (s1.trans (.of sm)) z3⟩
theorem pm_callB {x : Str} {p : Pos} {id : String} {f : List PyData → Option PyData} (hc : CallR X (.builtin id) (rDA X.K X.w f)) (hm : X.mg x = none) (ha : AM X H0 io (a :: es) ts A) (hv : bootBuiltins x = some (.builtin id) := by decide +kernel) (hg : Gl X x := by rfl)
    (hn : x ≠ "__name__" := by decide) (hdb : (x == ("__debug__" : Str)) = false := by decide)
    (he : starEach (a :: es) X.env = (false, eval a X.env) :: starEach es X.env := by rfl) (hpl : (backTo pos (starEach es X.env)).any (·.1) = false := by rfl) : PM X H0 io (.Call (.Name x p) (a :: es) [] pos) (tCB (rDA X.K X.w f) ts) (dCall f A) :=
  ⟨pe_callB hc hg hm hv ha.pa hn hdb he hpl, den_call ha.dn⟩
theorem pm_callT {x : Str} {p : Pos} {T : String} {f : List PyData → Option PyData} (hc : CallR X (.type T) (rDA X.K X.w f)) (hm : X.mg x = none) (ha : AM X H0 io (a :: es) ts A) (hv : bootBuiltins x = some (.type T) := by decide +kernel) (hg : Gl X x := by rfl)
    (hn : x ≠ "__name__" := by decide) (hdb : (x == ("__debug__" : Str)) = false := by decide)
    (he : starEach (a :: es) X.env = (false, eval a X.env) :: starEach es X.env := by rfl) (hpl : (backTo pos (starEach es X.env)).any (·.1) = false := by rfl) : PM X H0 io (.Call (.Name x p) (a :: es) [] pos) (tCB (rDA X.K X.w f) ts) (dCall f A) :=
  ⟨pe_callTy hc hg hm hv ha.pa hn hdb he hpl, den_call ha.dn⟩
/-- one thing looked at -/
theorem den_callV {K : PySem.W.Frag} {W0 : World} {f : PyData → Option PyData} (h : DenV K W0 H0 io ta F) : Den K W0 H0 io (tCB (rDV K W0 f) (tCons ta tNil)) (dUn f F) := fun σ H ρ d ρ' R g Q q => by
  unfold dUn at g
  cases fa : F ρ with
  | none => rw [fa] at g; cases g
  | some p =>
    obtain ⟨x, ρ1⟩ := p
    rw [fa] at g
    simp only [Option.bind_some] at g
    cases fz : f x with
    | none => rw [fz] at g; cases g
    | some z =>
      rw [fz] at g
      cases g
      refine h σ H ρ _ _ R fa _ fun v H1 R1 s1 z1 => ?_
      exact ⟨v, x, _, rfl, z1, fz, fun r H3 sm z3 => q r H3 (R1.same sm) (s1.trans (.of sm)) z3⟩
theorem pm_callBV {x : Str} {p : Pos} {id : String} {f : PyData → Option PyData} (hc : CallR X (.builtin id) (rDV X.K X.w f)) (hm : X.mg x = none) (ha : PV X H0 io a ta F) (hv : bootBuiltins x = some (.builtin id) := by decide +kernel) (hg : Gl X x := by rfl)
    (hn : x ≠ "__name__" := by decide) (hdb : (x == ("__debug__" : Str)) = false := by decide)
    (he : starEach (a :: []) X.env = (false, eval a X.env) :: starEach [] X.env := by rfl) (hpl : (backTo pos (starEach [] X.env)).any (·.1) = false := by rfl) : PM X H0 io (.Call (.Name x p) [a] [] pos) (tCB (rDV X.K X.w f) (tCons ta tNil)) (dUn f F) :=
  ⟨pe_callB hc hg hm hv (pa_cons ha.pe pa_nil he) hn hdb he hpl, den_callV ha.dn⟩
theorem pm_callTV {x : Str} {p : Pos} {T : String} {f : PyData → Option PyData} (hc : CallR X (.type T) (rDV X.K X.w f)) (hm : X.mg x = none) (ha : PV X H0 io a ta F) (hv : bootBuiltins x = some (.type T) := by decide +kernel) (hg : Gl X x := by rfl)
    (hn : x ≠ "__name__" := by decide) (hdb : (x == ("__debug__" : Str)) = false := by decide)
    (he : starEach (a :: []) X.env = (false, eval a X.env) :: starEach [] X.env := by rfl) (hpl : (backTo pos (starEach [] X.env)).any (·.1) = false := by rfl) : PM X H0 io (.Call (.Name x p) [a] [] pos) (tCB (rDV X.K X.w f) (tCons ta tNil)) (dUn f F) :=
  ⟨pe_callTy hc hg hm hv (pa_cons ha.pe pa_nil he) hn hdb he hpl, den_callV ha.dn⟩
/-- .. that makes a new list -/
def lUn (f : PyData → Option (List PyData)) (F : DF) : DFL := fun ρ => (F ρ).bind fun p => (f p.1).map fun z => (z, p.2)
theorem den_callF {K : PySem.W.Frag} {W0 : World} {f : PyData → Option (List PyData)} (h : DenV K W0 H0 io ta F) : DenF K W0 H0 io (tCB (rDF K W0 f) (tCons ta tNil)) (lUn f F) := fun σ H ρ d ρ' R g Q q => by
  unfold lUn at g
  cases fa : F ρ with
  | none => rw [fa] at g; cases g
  | some p =>
    obtain ⟨x, ρ1⟩ := p
    rw [fa] at g
    simp only [Option.bind_some] at g
    cases fz : f x with
    | none => rw [fz] at g; cases g
    | some z =>
      rw [fz] at g
      cases g
      refine h σ H ρ _ _ R fa _ fun v H1 R1 s1 z1 => ?_
      exact ⟨v, x, _, rfl, z1, fz, fun p vs hp hd => q p vs H1 _ R1 s1 hp (same_new hp) upd_same hd⟩
theorem pf_callT {x : Str} {p : Pos} {T : String} {f : PyData → Option (List PyData)} (hc : CallR X (.type T) (rDF X.K X.w f)) (hm : X.mg x = none) (ha : PV X H0 io a ta F) (hv : bootBuiltins x = some (.type T) := by decide +kernel) (hg : Gl X x := by rfl)
    (hn : x ≠ "__name__" := by decide) (hdb : (x == ("__debug__" : Str)) = false := by decide)
    (he : starEach (a :: []) X.env = (false, eval a X.env) :: starEach [] X.env := by rfl) (hpl : (backTo pos (starEach [] X.env)).any (·.1) = false := by rfl) : PF X H0 io (.Call (.Name x p) [a] [] pos) (tCB (rDF X.K X.w f) (tCons ta tNil)) (lUn f F) :=
  ⟨pe_callTy hc hg hm hv (pa_cons ha.pe pa_nil he) hn hdb he hpl, den_callF ha.dn⟩
theorem pf_callB {x : Str} {p : Pos} {id : String} {f : PyData → Option (List PyData)} (hc : CallR X (.builtin id) (rDF X.K X.w f)) (hm : X.mg x = none) (ha : PV X H0 io a ta F) (hv : bootBuiltins x = some (.builtin id) := by decide +kernel) (hg : Gl X x := by rfl)
    (hn : x ≠ "__name__" := by decide) (hdb : (x == ("__debug__" : Str)) = false := by decide)
    (he : starEach (a :: []) X.env = (false, eval a X.env) :: starEach [] X.env := by rfl) (hpl : (backTo pos (starEach [] X.env)).any (·.1) = false := by rfl) : PF X H0 io (.Call (.Name x p) [a] [] pos) (tCB (rDF X.K X.w f) (tCons ta tNil)) (lUn f F) :=
  ⟨pe_callB hc hg hm hv (pa_cons ha.pe pa_nil he) hn hdb he hpl, den_callF ha.dn⟩
end
end DL
set_option Elab.async false
set_option linter.all false
set_option maxRecDepth 100000
set_option maxHeartbeats 1000000
/-! DL2: statements, loops, comprehensions, defs. -/
namespace DL
open PySem PySem.Spec L2
open PyProof.Rows hiding St

inductive Out where
  | nx (ρ : En) | rt (d : PyData) (ρ : En) | bk (ρ : En) | ct (ρ : En) | ex (c : Str) (d : PyData) | rf (ds : List PyData) (ρ : En)
abbrev DS := En → Option Out

section
variable (K : PySem.W.Frag) (W0 : World) (mg : Str → Option Value) (H0 : HT) (io : Option Addr) (E : XK)
/-- what is wanted behind a statement that began with H -/
def OutOk (H : Hp) (D : Ends) : Out → Prop
  | .nx ρ => ∀ σ' H', SR K W0 H0 io σ' H' ρ → Stay H H' → D.nx σ' H'
  | .rt d ρ => ∀ v σ' H', SR K W0 H0 io σ' H' ρ → Stay H H' → Dz K W0 H' v d → D.rt v H'
  | .bk ρ => ∀ σ' H', SR K W0 H0 io σ' H' ρ → Stay H H' → D.bk σ' H'
  | .ct ρ => ∀ σ' H', SR K W0 H0 io σ' H' ρ → Stay H H' → D.ct σ' H'
  | .ex c d => ∀ (C dx : Addr) (v : V) (H' : Hp), mg c = some (.ref C) → (∀ b o, H0 b = some o → io ≠ some b → H' b = some o) → Stay H H' → H0 dx = none → H' dx = some (.xd [("value", v)]) → Dz K W0 H' v d → E (.ref C) (some dx) H'
  | .rf ds ρ => ∀ p vs σ' H1 H', SR K W0 H0 io σ' H1 ρ → Stay H H1 → H1 p = none → Same H1 H' → H' p = some (.lst vs) → DzAll K W0 H' vs ds → D.rt (.ref p) H'
def SDen (t : TS) (S : DS) : Prop := ∀ (σ : L2.St) (H : Hp) (ρ : En) (o : Out), SR K W0 H0 io σ H ρ → S ρ = some o → ∀ D : Ends, OutOk K W0 mg H0 io E H D o → t D σ H
end
structure SM (X : Cx) (H0 : HT) (io : Option Addr) (E : XK) (st : Stmt) (t : TS) (S : DS) : Prop where
  ps : PS X st t
  dn : SDen X.K X.w X.mg H0 io E t S
structure SMs (X : Cx) (H0 : HT) (io : Option Addr) (E : XK) (st : List Stmt) (t : TS) (S : DS) : Prop where
  ps : PSs X st t
  dn : SDen X.K X.w X.mg H0 io E t S

section
variable {K : PySem.W.Frag} {W0 : World} {mg : Str → Option Value} {H0 : HT} {io : Option Addr} {E : XK}
theorem OutOk.back {H H1 : Hp} {D : Ends} {o : Out} (s : Stay H H1) (h : OutOk K W0 mg H0 io E H D o) : OutOk K W0 mg H0 io E H1 D o := by
  cases o with
  | nx ρ => exact fun σ' H' R st => h σ' H' R (s.trans st)
  | rt d ρ => exact fun v σ' H' R st => h v σ' H' R (s.trans st)
  | bk ρ => exact fun σ' H' R st => h σ' H' R (s.trans st)
  | ct ρ => exact fun σ' H' R st => h σ' H' R (s.trans st)
  | ex c d => exact fun C dx v H' a b st => h C dx v H' a b (s.trans st)
  | rf ds ρ => exact fun p vs σ' H1 H' R st => h p vs σ' H1 H' R (s.trans st)
end

/-! ### combinators -/
def sNext : DS := fun ρ => some (.nx ρ)
def sSeq (S T : DS) : DS := fun ρ => match S ρ with
  | some (.nx ρ1) => T ρ1
  | r => r
def sIf (c : DFB) (S T : DS) : DS := fun ρ => (c ρ).bind fun p => if p.1 = true then S p.2 else T p.2
def sDrop (F : DF) : DS := fun ρ => (F ρ).map fun p => .nx p.2
def sRet (F : DF) : DS := fun ρ => (F ρ).map fun p => .rt p.1 p.2
/-- a new list is given back as it is -/
def sRetF (A : DFL) : DS := fun ρ => (A ρ).map fun p => .rf p.1 p.2
def sRetN : DS := fun ρ => some (.rt .none ρ)
def sBrk : DS := fun ρ => some (.bk ρ)
def sCont : DS := fun ρ => some (.ct ρ)
def sSet (i : Nat) (F : DF) : DS := fun ρ => (F ρ).map fun p => .nx (p.2.set i (.dat p.1))
def sOwn (i : Nat) (A : DFL) : DS := fun ρ => (A ρ).map fun p => .nx (p.2.set i (.own p.1))
/-- ahead of S the list in slot i is frozen -/
def frE (i : Nat) (ρ : En) : En := match ρ[i]? with
  | some (.own ds) => ρ.set i (.dat (.list ds))
  | _ => ρ
def sFr (i : Nat) (S : DS) : DS := fun ρ => S (frE i ρ)
/-- targets -/
abbrev DG := PyData → En → Option En
def gN (i : Nat) : DG := fun d ρ => some (ρ.set i (.dat d))
abbrev DGs := List PyData → En → Option En
def gsNil : DGs := fun ds ρ => match ds with
  | [] => some ρ
  | _ => none
def gsCons (g : DG) (r : DGs) : DGs := fun ds ρ => match ds with
  | d :: ds => (g d ρ).bind fun ρ1 => r ds ρ1
  | [] => none
def gT (n : Nat) (r : DGs) : DG := fun d ρ => match d with
  | .tuple ds => if ds.length = n then r ds ρ else none
  | _ => none
def sAsg (F : DF) (g : DG) : DS := fun ρ => (F ρ).bind fun p => (g p.1 p.2).map .nx
/-- a for's turns -/
def loopD (g : DG) (S : DS) : List PyData → En → Option Out
  | [], ρ => some (.nx ρ)
  | d :: ds, ρ => (g d ρ).bind fun ρ1 => match S ρ1 with
    | some (.nx ρ2) => loopD g S ds ρ2
    | some (.ct ρ2) => loopD g S ds ρ2
    | some (.bk ρ2) => some (.nx ρ2)
    | some (.rt d ρ2) => some (.rt d ρ2)
    | some (.ex c d) => some (.ex c d)
    | some (.rf d ρ2) => some (.rf d ρ2)
    | none => none
def sFor (I : DFL) (g : DG) (S : DS) : DS := fun ρ => (I ρ).bind fun p => loopD g S p.1 p.2
/-- x.append(e), x.extend(e), x[j] = e, of a list of its own in slot i -/
def ownE (ρ : En) (i : Nat) : Option (List PyData) := match ρ[i]? with
  | some (.own ds) => some ds
  | _ => none
def sApp (i : Nat) (F : DF) : DS := fun ρ => (ownE ρ i).bind fun _ => (F ρ).bind fun p => (ownE p.2 i).bind fun ds => if ds.length < 16777216 then some (.nx (p.2.set i (.own (ds ++ [p.1])))) else none
def sExt (i : Nat) (F : DF) : DS := fun ρ => (ownE ρ i).bind fun _ => (F ρ).bind fun p => match p.1 with
  | .list es => (ownE p.2 i).bind fun ds => if ds.length + es.length ≤ 16777216 then some (.nx (p.2.set i (.own (ds ++ es)))) else none
  | _ => none

section
variable {X : Cx} {H0 : HT} {io : Option Addr} {E : XK} {e a b c tg iter : Expr} {st : Stmt} {sts body : List Stmt} {t ta tb : TE} {u : TT} {ts tt : TS} {F G : DF} {A I : DFL} {B : DFB} {S T : DS} {g : DG} {pos : Pos}

theorem sms_nil : SMs X H0 io E [] tNext sNext := ⟨pss_nil, fun σ H ρ o R g D h => by
  cases g
  exact h σ H R (.refl H)⟩
theorem sden_seq {K : PySem.W.Frag} {W0 : World} {mg : Str → Option Value} (h1 : SDen K W0 mg H0 io E ts S) (h2 : SDen K W0 mg H0 io E tt T) : SDen K W0 mg H0 io E (tSeq ts tt) (sSeq S T) := fun σ H ρ o R g D h => by
  unfold sSeq at g
  cases fa : S ρ with
  | none => rw [fa] at g; cases g
  | some q =>
    rw [fa] at g
    refine h1 σ H ρ q R fa _ ?_
    cases q with
    | nx ρ1 =>
      simp only at g
      exact fun σ' H' R' s => h2 σ' H' ρ1 o R' g D (h.back s)
    | rt d ρ1 => cases g; exact h
    | bk ρ1 => cases g; exact h
    | ct ρ1 => cases g; exact h
    | ex c d => cases g; exact h
    | rf d ρ1 => cases g; exact h
theorem sms_cons (h1 : SM X H0 io E st ts S) (h2 : SMs X H0 io E sts tt T) : SMs X H0 io E (st :: sts) (tSeq ts tt) (sSeq S T) := ⟨pss_cons h1.ps h2.ps, sden_seq h1.dn h2.dn⟩
theorem sms_one (h1 : SM X H0 io E st ts S) : SMs X H0 io E [st] ts S := ⟨pss_one h1.ps, h1.dn⟩
theorem sm_if (hc : TM X H0 io c u B) (ha : SMs X H0 io E body ts S) (hb : SMs X H0 io E sts tt T) : SM X H0 io E (.If c body sts pos) (tIfS u ts tt) (sIf B S T) := ⟨ps_if hc.pt ha.ps hb.ps, fun σ H ρ o R g D h => by
  unfold sIf at g
  cases fa : B ρ with
  | none => rw [fa] at g; cases g
  | some p =>
    obtain ⟨x, ρ1⟩ := p
    rw [fa] at g
    simp only [Option.bind_some] at g
    refine hc.dn σ H ρ _ _ R fa _ fun H1 R1 s1 => ?_
    cases x with
    | true =>
      rw [if_pos rfl] at g ⊢
      exact ha.dn σ H1 ρ1 o R1 g D (h.back s1)
    | false =>
      rw [if_neg Bool.false_ne_true] at g ⊢
      exact hb.dn σ H1 ρ1 o R1 g D (h.back s1)⟩
theorem sm_expr (h : PM X H0 io e t F) (hs : swapsWith e none pos.line X.env = pure false := by rfl) : SM X H0 io E (.Expr e pos) (tDrop t) (sDrop F) := ⟨ps_expr h.pe hs, fun σ H ρ o R g D q => by
  unfold sDrop at g
  cases fa : F ρ with
  | none => rw [fa] at g; cases g
  | some p =>
    rw [fa] at g
    cases g
    exact h.dn σ H ρ _ _ R fa _ fun v H1 R1 s1 _ => q σ H1 R1 s1⟩
theorem sm_ret (h : PM X H0 io e t F) : SM X H0 io E (.Return (some e) pos) (tRet t) (sRet F) := ⟨ps_ret h.pe, fun σ H ρ o R g D q => by
  unfold sRet at g
  cases fa : F ρ with
  | none => rw [fa] at g; cases g
  | some p =>
    rw [fa] at g
    cases g
    exact h.dn σ H ρ _ _ R fa _ fun v H1 R1 s1 z1 => q v σ H1 R1 s1 z1⟩
theorem sm_retF (h : PF X H0 io e t A) : SM X H0 io E (.Return (some e) pos) (tRet t) (sRetF A) := ⟨ps_ret h.pe, fun σ H ρ o R g D q => by
  unfold sRetF at g
  cases fa : A ρ with
  | none => rw [fa] at g; cases g
  | some p =>
    rw [fa] at g
    cases g
    exact h.dn σ H ρ _ _ R fa _ fun p vs H1 H' R1 s1 hn sm hp hd => q p vs σ H1 H' R1 s1 hn sm hp hd⟩
theorem sm_retN : SM X H0 io E (.Return none pos) tRetN sRetN := ⟨ps_retN, fun σ H ρ o R g D q => by
  cases g
  exact q .non σ H R (.refl H) .non⟩
theorem sm_pass : SM X H0 io E (.Pass pos) tNext sNext := ⟨ps_pass, fun σ H ρ o R g D h => by
  cases g
  exact h σ H R (.refl H)⟩
theorem sm_brk : SM X H0 io E (.Break pos) tBreak sBrk := ⟨ps_break, fun σ H ρ o R g D h => by
  cases g
  exact h σ H R (.refl H)⟩
theorem sm_cont : SM X H0 io E (.Continue pos) tCont sCont := ⟨ps_continue, fun σ H ρ o R g D h => by
  cases g
  exact h σ H R (.refl H)⟩
/-- a statement that is not reached -/
theorem sm_never : SM X H0 io E st tNever (fun _ => none) := ⟨ps_never, fun _ _ _ _ _ g => by cases g⟩

/-! ### stores -/
theorem sden_set {K : PySem.W.Frag} {W0 : World} {mg : Str → Option Value} {i : Nat} (h : Den K W0 H0 io t F) (hi : io = none ∨ i ≠ 0) : SDen K W0 mg H0 io E (tAsg t (gName i)) (sSet i F) := fun σ H ρ o R g D q => by
  unfold sSet at g
  cases fa : F ρ with
  | none => rw [fa] at g; cases g
  | some p =>
    rw [fa] at g
    cases g
    exact h σ H ρ _ _ R fa _ fun v H1 R1 s1 z1 => q _ H1 (R1.setD z1 hi) s1
theorem sden_own {K : PySem.W.Frag} {W0 : World} {mg : Str → Option Value} {i : Nat} (h : DenF K W0 H0 io t A) (hi : io = none ∨ i ≠ 0) : SDen K W0 mg H0 io E (tAsg t (gName i)) (sOwn i A) := fun σ H ρ o R g D q => by
  unfold sOwn at g
  cases fa : A ρ with
  | none => rw [fa] at g; cases g
  | some p =>
    rw [fa] at g
    cases g
    exact h σ H ρ _ _ R fa _ fun p vs H1 H' R1 s1 hn sm hp hd => q _ H' (R1.setO hn sm hp hd hi) (s1.trans (.of sm))
theorem sm_set (i : Nat) {x : Str} {p2 : Pos} (hN : X.N.Nodup) (h : PM X H0 io e t F) (hi : X.N[i]? = some x := by rfl) (hx : Loc X.env.scope x := by first | exact .inl rfl | exact .inr rfl) (ho : io = none ∨ i ≠ 0 := by first | exact .inl rfl | exact .inr (by decide))
    (hs : swapsWith e (some (.Name x p2)) pos.line X.env = pure false := by rfl) (hf : X.fn x = true ∨ X.env.scope.names.lookup x = some .local := by first | exact .inl rfl | exact .inr rfl | assumption) : SM X H0 io E (.Assign [.Name x p2] e pos) (tAsg t (gName i)) (sSet i F) :=
  ⟨ps_set hN hi hx h.pe hs hf, sden_set h.dn ho⟩
theorem sm_own (i : Nat) {x : Str} {p2 : Pos} (hN : X.N.Nodup) (h : PF X H0 io e t A) (hi : X.N[i]? = some x := by rfl) (hx : Loc X.env.scope x := by first | exact .inl rfl | exact .inr rfl) (ho : io = none ∨ i ≠ 0 := by first | exact .inl rfl | exact .inr (by decide))
    (hs : swapsWith e (some (.Name x p2)) pos.line X.env = pure false := by rfl) (hf : X.fn x = true ∨ X.env.scope.names.lookup x = some .local := by first | exact .inl rfl | exact .inr rfl | assumption) : SM X H0 io E (.Assign [.Name x p2] e pos) (tAsg t (gName i)) (sOwn i A) :=
  ⟨ps_set hN hi hx h.pe hs hf, sden_own h.dn ho⟩
/-- freezing ahead of a statement -/
def tFrz2 (i : Nat) (t : TS) : TS := fun D σ H => t D σ H ∨ tFrS i t D σ H
theorem ps_fr2 (i : Nat) (h : PS X st ts) : PS X st (tFrz2 i ts) := ⟨fun pins s σ H D I q => q.elim (h.run pins s σ H D I) ((ps_frS i h).run pins s σ H D I)⟩
theorem sm_fr (i : Nat) (h : SM X H0 io E st ts S) : SM X H0 io E st (tFrz2 i ts) (sFr i S) := ⟨ps_fr2 i h.ps, fun σ H ρ o R g D q => by
  unfold sFr frE at g
  split at g
  · rename_i ds hd
    obtain ⟨p, vs, a, b, z, _⟩ := R.own i ds hd
    exact .inr ⟨p, vs, a, b, fun ob => h.dn σ _ _ o (R.fr hd a b) g D (q.back (.lst b))⟩
  · exact .inl (h.dn σ H ρ o R g D q)⟩

/-! ### targets -/
theorem wipe_get {σ : L2.St} {j : Nat} : ∀ {vs : List Nat}, (L2.wipe σ vs)[j]? = if j ∈ vs then (σ[j]?).map (fun _ => none) else σ[j]?
  | [] => by rw [if_neg (by simp)]; rfl
  | v :: vs => by
    unfold L2.wipe
    by_cases hv : v = j
    · subst hv
      rw [if_pos List.mem_cons_self]
      by_cases hl : v < σ.length
      · rw [List.getElem?_set_self (by rw [wipe_length]; exact hl), List.getElem?_eq_getElem hl]
        rfl
      · rw [List.getElem?_eq_none (by rw [List.length_set, wipe_length]; omega), List.getElem?_eq_none (by omega)]
        rfl
    · rw [List.getElem?_set_ne hv, wipe_get]
      by_cases hm : j ∈ vs
      · rw [if_pos hm, if_pos (List.mem_cons_of_mem _ hm)]
      · rw [if_neg hm, if_neg (fun z => (List.mem_cons.mp z).elim (fun e => hv e.symm) hm)]
theorem wipe_set {σ : L2.St} {i : Nat} {x : Option V} {vs : List Nat} (h : i ∈ vs) : L2.wipe (σ.set i x) vs = L2.wipe σ vs := by
  apply List.ext_getElem?
  intro j
  rw [wipe_get, wipe_get]
  by_cases hj : j ∈ vs
  · rw [if_pos hj, if_pos hj]
    by_cases hi : i = j
    · subst hi
      by_cases hl : i < σ.length
      · rw [List.getElem?_set_self hl, List.getElem?_eq_getElem hl]
        rfl
      · rw [List.getElem?_eq_none (by rw [List.length_set]; omega), List.getElem?_eq_none (by omega)]
    · rw [List.getElem?_set_ne hi]
  · rw [if_neg hj, if_neg hj, List.getElem?_set_ne (fun z : i = j => hj (z ▸ h))]
theorem wipe_wipe {σ : L2.St} {vs : List Nat} : L2.wipe (L2.wipe σ vs) vs = L2.wipe σ vs := by
  apply List.ext_getElem?
  intro j
  rw [wipe_get]
  by_cases hj : j ∈ vs
  · rw [if_pos hj, wipe_get, if_pos hj]
    cases σ[j]? <;> rfl
  · rw [if_neg hj]
/-- all but the slots ws are as they were -/
def Ws (ws : List Nat) (σ σ' : L2.St) : Prop := ∀ vs : List Nat, (∀ i ∈ ws, i ∈ vs) → L2.wipe σ' vs = L2.wipe σ vs
def DenG (K : PySem.W.Frag) (W0 : World) (H0 : HT) (io : Option Addr) (ws : List Nat) (t : TG) (g : DG) : Prop := ∀ (v : V) (σ : L2.St) (H : Hp) (ρ : En) (d : PyData) (ρ' : En), SR K W0 H0 io σ H ρ → Dz K W0 H v d → g d ρ = some ρ' →
  ∀ Q : L2.St → Hp → Prop, (∀ σ' H', SR K W0 H0 io σ' H' ρ' → Stay H H' → Ws ws σ σ' → Q σ' H') → t v σ H Q
def DenGs (K : PySem.W.Frag) (W0 : World) (H0 : HT) (io : Option Addr) (ws : List Nat) (t : TGs) (g : DGs) : Prop := ∀ (vs : List V) (σ : L2.St) (H : Hp) (ρ : En) (ds : List PyData) (ρ' : En), SR K W0 H0 io σ H ρ → DzAll K W0 H vs ds → g ds ρ = some ρ' →
  ∀ Q : L2.St → Hp → Prop, (∀ σ' H', SR K W0 H0 io σ' H' ρ' → Stay H H' → Ws ws σ σ' → Q σ' H') → t vs σ H Q
structure GM (X : Cx) (H0 : HT) (io : Option Addr) (tg : Expr) (t : TG) (ws : List Nat) (g : DG) : Prop where
  pg : PG X tg t
  dn : DenG X.K X.w H0 io ws t g
structure GMs (X : Cx) (H0 : HT) (io : Option Addr) (tgs : List Expr) (t : TGs) (ws : List Nat) (g : DGs) : Prop where
  pg : PGs X tgs t
  dn : DenGs X.K X.w H0 io ws t g
theorem gm_n (i : Nat) {x : Str} (hN : X.N.Nodup) (hi : X.N[i]? = some x := by rfl) (hx : Loc X.env.scope x := by first | exact .inl rfl | exact .inr rfl) (ho : io = none ∨ i ≠ 0 := by first | exact .inl rfl | exact .inr (by decide))
    (hf : X.fn x = true ∨ X.env.scope.names.lookup x = some .local := by first | exact .inl rfl | exact .inr rfl | assumption) : GM X H0 io (.Name x pos) (gName i) [i] (gN i) :=
  ⟨pg_name hN hi hx hf, fun v σ H ρ d ρ' R z g Q q => by
    cases g
    exact q _ _ (R.setD z ho) (.refl H) fun vs hv => wipe_set (hv i List.mem_cons_self)⟩
theorem gms_nil : GMs X H0 io [] gNil [] gsNil := ⟨pgs_nil, fun vs σ H ρ ds ρ' R z g Q q => by
  unfold gsNil at g
  cases z with
  | nil => cases g; exact ⟨rfl, q _ _ R (.refl H) fun _ _ => rfl⟩
  | cons _ _ => cases g⟩
theorem gms_cons {tgs : List Expr} {w1 w2 : List Nat} {t1 : TG} {t2 : TGs} {g1 : DG} {g2 : DGs} (h1 : GM X H0 io tg t1 w1 g1) (h2 : GMs X H0 io tgs t2 w2 g2) (hs : (assignEach (tg :: tgs) X.env).map (·.2) = assign tg X.env :: (assignEach tgs X.env).map (·.2) := by rfl) : GMs X H0 io (tg :: tgs) (gCons t1 t2) (w1 ++ w2) (gsCons g1 g2) := ⟨pgs_cons h1.pg h2.pg hs, fun vs σ H ρ ds ρ' R z g Q q => by
  unfold gsCons at g
  cases z with
  | nil => cases g
  | cons zd zs =>
    rename_i v vs d ds
    simp only at g
    cases fa : g1 d ρ with
    | none => rw [fa] at g; cases g
    | some ρ1 =>
      rw [fa] at g
      simp only [Option.bind_some] at g
      refine ⟨v, vs, rfl, ?_⟩
      refine h1.dn v σ H ρ d ρ1 R zd fa _ fun σ' H' R' s y1 => ?_
      exact h2.dn vs σ' H' ρ1 ds ρ' R' (zs.mono s) g _ fun σ2 H2 R2 s2 y2 => q σ2 H2 R2 (s.trans s2) fun vs hv => (y2 vs fun i hi => hv i (List.mem_append_right _ hi)).trans (y1 vs fun i hi => hv i (List.mem_append_left _ hi))⟩
theorem gm_t {es : List Expr} {ws : List Nat} {k : Nat} {t2 : TGs} {g2 : DGs} {n : Nat} (hc : X.calm = true) (h : GMs X H0 io es t2 ws g2) (hn : (assignEach es X.env).length = n := by rfl) (hst : (assignEach es X.env).findIdx? (·.1) = none := by rfl) : GM X H0 io (.Tuple es k pos) (gTup X.K n t2) ws (gT n g2) := ⟨pg_tup hc h.pg hn hst, fun v σ H ρ d ρ' R z g Q q => by
  unfold gT at g
  cases z with
  | tup hs ha =>
    simp only at g
    split at g
    · rename_i hl
      exact ⟨_, _, rfl, hs, by rw [ha.len]; exact hl, h.dn _ σ H ρ _ ρ' R ha g Q q⟩
    · cases g
  | _ => cases g⟩
theorem sm_asg {t1 : TG} {ws : List Nat} (h : PM X H0 io e t F) (hg : GM X H0 io tg t1 ws g) (hs : swapsWithSole [tg] e pos.line X.env = pure false := by rfl) (hw : swappedStores [tg] e X.env = pure none := by rfl) (h1 : (assignEach [tg] X.env).map (·.2) = [assign tg X.env] := by rfl) : SM X H0 io E (.Assign [tg] e pos) (tAsg t t1) (sAsg F g) :=
  ⟨ps_asg h.pe hg.pg hs hw h1, fun σ H ρ o R f D q => by
    unfold sAsg at f
    cases fa : F ρ with
    | none => rw [fa] at f; cases f
    | some p =>
      rw [fa] at f
      simp only [Option.bind_some] at f
      cases fb : g p.1 p.2 with
      | none => rw [fb] at f; cases f
      | some ρ2 =>
        rw [fb] at f
        cases f
        refine h.dn σ H ρ _ _ R fa _ fun v H1 R1 s1 z1 => ?_
        exact hg.dn v σ H1 _ _ _ R1 z1 fb _ fun σ2 H2 R2 s2 _ => q σ2 H2 R2 (s1.trans s2)⟩

/-! ### what is walked -/
def ItOk (K : PySem.W.Frag) (W0 : World) (J : It) (H1 : Hp) (ds : List PyData) : Prop := ∀ (i : Nat) (H2 : Hp), Stay H1 H2 → i ≤ ds.length →
  (∀ d, ds[i]? = some d → J.go i H2 ∧ ∀ x H3, J.yld i H2 x H3 → Same H2 H3 ∧ Dz K W0 H3 x d) ∧ (i = ds.length → J.stop i H2)
def DenI (K : PySem.W.Frag) (W0 : World) (H0 : HT) (io : Option Addr) (wi : TI) (I : DFL) : Prop := ∀ (σ : L2.St) (H : Hp) (ρ : En) (ds : List PyData) (ρ' : En), SR K W0 H0 io σ H ρ → I ρ = some (ds, ρ') →
  ∀ R : It → Hp → Prop, (∀ J H1, SR K W0 H0 io σ H1 ρ' → Stay H H1 → ItOk K W0 J H1 ds → R J H1) → wi σ H R
structure IM (X : Cx) (H0 : HT) (io : Option Addr) (tg iter : Expr) (wi : TI) (I : DFL) : Prop where
  pi : PI X tg iter wi
  dn : DenI X.K X.w H0 io wi I
/-- over a list of data, a tuple of data -/
def iL (F : DF) : DFL := fun ρ => (F ρ).bind fun p => match p.1 with
  | .list ds => some (ds, p.2)
  | _ => none
def iT (F : DF) : DFL := fun ρ => (F ρ).bind fun p => match p.1 with
  | .tuple ds => some (ds, p.2)
  | _ => none
theorem im_list (h : PM X H0 io e t F) : IM X H0 io tg e (iList X.K t) (iL F) := ⟨pi_list h.pe, fun σ H ρ ds ρ' R f Q q => by
  unfold iL at f
  cases fa : F ρ with
  | none => rw [fa] at f; cases f
  | some p =>
    obtain ⟨x, ρ1⟩ := p
    rw [fa] at f
    cases x with
    | list es =>
      cases f
      refine h.dn σ H ρ _ _ R fa _ fun v H1 R1 s1 z1 => ?_
      cases z1 with
      | lst hz ha =>
        refine ⟨_, rfl, ⟨_, Lz.sq hz⟩, q _ H1 R1 s1 fun i H2 s2 hi => ⟨fun d hd => ?_, fun hl => ?_⟩⟩
        · have hz2 := Lz.sq (Lz.stay s2 hz)
          obtain ⟨w, hw, zw⟩ := ha.get hd
          refine ⟨⟨_, w, hz2, hw⟩, fun x H3 hy => ?_⟩
          obtain ⟨rfl, hy⟩ := hy
          have := hy _ hz2
          rw [hw] at this
          cases this
          exact ⟨Same.refl _, zw.mono s2⟩
        · exact ⟨_, Lz.sq (Lz.stay s2 hz), by rw [ha.len, hl]; exact Nat.le_refl _⟩
    | _ => cases f⟩
theorem im_tup (h : PM X H0 io e t F) : IM X H0 io tg e (iTup X.K t) (iT F) := ⟨pi_tup h.pe, fun σ H ρ ds ρ' R f Q q => by
  unfold iT at f
  cases fa : F ρ with
  | none => rw [fa] at f; cases f
  | some p =>
    obtain ⟨x, ρ1⟩ := p
    rw [fa] at f
    cases x with
    | tuple es =>
      cases f
      refine h.dn σ H ρ _ _ R fa _ fun v H1 R1 s1 z1 => ?_
      cases z1 with
      | tup hz ha =>
        refine ⟨_, rfl, ⟨_, hz⟩, q _ H1 R1 s1 fun i H2 s2 hi => ⟨fun d hd => ?_, fun hl => ?_⟩⟩
        · have hz2 := SqT.stay s2 hz
          obtain ⟨w, hw, zw⟩ := ha.get hd
          refine ⟨⟨_, w, hz2, hw⟩, fun x H3 hy => ?_⟩
          obtain ⟨rfl, hy⟩ := hy
          have := hy _ hz2
          rw [hw] at this
          cases this
          exact ⟨Same.refl _, zw.mono s2⟩
        · exact ⟨_, SqT.stay s2 hz, by rw [ha.len, hl]; exact Nat.le_refl _⟩
    | _ => cases f⟩
/-- range(n), range(a, b) -/
def rngD (lo : Int) (n : Nat) : List PyData := (List.range n).map fun i => .int (lo + (i : Nat))
def small62 (i : Int) : Bool := decide (-(2 ^ 62) ≤ i) && decide (i < 2 ^ 62)
def iR1 (A : DFL) : DFL := fun ρ => (A ρ).bind fun p => match p.1 with
  | [.int j] => if small62 j = true then some (rngD 0 j.toNat, p.2) else none
  | _ => none
def iR2 (A : DFL) : DFL := fun ρ => (A ρ).bind fun p => match p.1 with
  | [.int i, .int j] => if (small62 i && small62 j) = true then some (rngD i (j - i).toNat, p.2) else none
  | _ => none
theorem itok_rng {K : PySem.W.Frag} {W0 : World} {H1 : Hp} (lo : Int) (n : Nat) : ItOk K W0 (Itr lo n) H1 (rngD lo n) := fun i H2 s2 hi => by
  have hl : (rngD lo n).length = n := by simp [rngD]
  rw [hl] at hi ⊢
  refine ⟨fun d hd => ?_, fun e => by subst e; exact Nat.le_refl _⟩
  have hlt : i < n := by
    have := (List.getElem?_eq_some_iff.mp hd).1
    rwa [hl] at this
  refine ⟨hlt, fun x H3 hy => ?_⟩
  obtain ⟨rfl, rfl⟩ := hy
  have : d = .int (lo + (i : Nat)) := by
    simp only [rngD, List.getElem?_map, List.getElem?_range hlt, Option.map_some, Option.some.injEq] at hd
    exact hd.symm
  subst this
  exact ⟨Same.refl _, .int _⟩
theorem im_rng1 {a : Expr} {ta : TA} {p : Pos} (hm : X.mg "range" = none) (h : AM X H0 io [a] ta A) (hg : Gl X "range" := by rfl) (hs : starEach [a] X.env = [(false, eval a X.env)] := by rfl) : IM X H0 io tg (.Call (.Name "range" p) [a] [] pos) (iRng1 ta) (iR1 A) :=
  ⟨pi_range1 hg hm h.pa hs, fun σ H ρ ds ρ' R f Q q => by
    unfold iR1 at f
    cases fa : A ρ with
    | none => rw [fa] at f; cases f
    | some p =>
      obtain ⟨x, ρ1⟩ := p
      rw [fa] at f
      simp only [Option.bind_some] at f
      split at f
      · rename_i j
        split at f
        · rename_i hj
          cases f
          refine h.dn σ H ρ _ _ R fa _ fun vs H1 R1 s1 z1 => ?_
          cases z1 with
          | cons z1 z2 =>
            cases z1
            cases z2
            unfold small62 at hj
            simp only [Bool.and_eq_true, decide_eq_true_eq] at hj
            exact ⟨j, rfl, hj.1, hj.2, q _ H1 R1 s1 (itok_rng 0 _)⟩
        · cases f
      · cases f⟩
theorem im_rng2 {a b : Expr} {ta : TA} {p : Pos} (hm : X.mg "range" = none) (h : AM X H0 io [a, b] ta A) (hg : Gl X "range" := by rfl) (hs : starEach [a, b] X.env = [(false, eval a X.env), (false, eval b X.env)] := by rfl)
    (hs2 : starEach [b] X.env = [(false, eval b X.env)] := by rfl) : IM X H0 io tg (.Call (.Name "range" p) [a, b] [] pos) (iRng2 ta) (iR2 A) :=
  ⟨pi_range2 hg hm h.pa hs hs2, fun σ H ρ ds ρ' R f Q q => by
    unfold iR2 at f
    cases fa : A ρ with
    | none => rw [fa] at f; cases f
    | some p =>
      obtain ⟨x, ρ1⟩ := p
      rw [fa] at f
      simp only [Option.bind_some] at f
      split at f
      · rename_i i j
        split at f
        · rename_i hj
          cases f
          refine h.dn σ H ρ _ _ R fa _ fun vs H1 R1 s1 z1 => ?_
          cases z1 with
          | cons z1 z2 =>
            cases z1
            cases z2 with
            | cons z2 z3 =>
              cases z2
              cases z3
              unfold small62 at hj
              simp only [Bool.and_eq_true, decide_eq_true_eq] at hj
              exact ⟨i, j, rfl, ⟨hj.1.1, hj.1.2, hj.2.1, hj.2.2⟩, q _ H1 R1 s1 (itok_rng i _)⟩
        · cases f
      · cases f⟩

/-! ### for -/
theorem sden_for {K : PySem.W.Frag} {W0 : World} {mg : Str → Option Value} {wi : TI} {t1 : TG} {ws : List Nat} (hi : DenI K W0 H0 io wi I) (hg : DenG K W0 H0 io ws t1 g) (hb : SDen K W0 mg H0 io E ts S) : SDen K W0 mg H0 io E (tFor wi t1 ts) (sFor I g S) := fun σ H ρ o R f D q => by
  unfold sFor at f
  cases fa : I ρ with
  | none => rw [fa] at f; cases f
  | some p =>
    obtain ⟨ds, ρ1⟩ := p
    rw [fa] at f
    simp only [Option.bind_some] at f
    refine hi σ H ρ _ _ R fa _ fun J H1 R1 s1 hJ => ?_
    refine ⟨fun i m σ H => i ≤ ds.length ∧ m = ds.length - i ∧ Stay H1 H ∧ ∃ ρ, SR K W0 H0 io σ H ρ ∧ loopD g S (ds.drop i) ρ = some o, ⟨_, Nat.zero_le _, rfl, .refl H1, ρ1, R1, by simpa using f⟩, ?_⟩
    rintro i m σ2 H2 ⟨hi2, rfl, s2, ρ2, R2, f2⟩
    obtain ⟨j1, j2⟩ := hJ i H2 s2 hi2
    by_cases hlt : i < ds.length
    · have hd : ds[i]? = some ds[i] := List.getElem?_eq_getElem hlt
      have hdr : ds.drop i = ds[i] :: ds.drop (i + 1) := List.drop_eq_getElem_cons hlt
      rw [hdr] at f2
      simp only [loopD] at f2
      obtain ⟨g1, g2⟩ := j1 _ hd
      refine .inr ⟨g1, fun σ' H' => Stay H1 H' ∧ ∃ ρ, SR K W0 H0 io σ' H' ρ ∧ loopD g S (ds.drop (i + 1)) ρ = some o, fun σ' H' ⟨w1, w2⟩ => ⟨ds.length - (i + 1), by omega, hlt, rfl, w1, w2⟩, fun x H' hy => ?_⟩
      obtain ⟨sm, z⟩ := g2 x H' hy
      cases fb : g ds[i] ρ2 with
      | none => rw [fb] at f2; cases f2
      | some ρ3 =>
        rw [fb] at f2
        simp only [Option.bind_some] at f2
        refine hg x σ2 H' ρ2 _ ρ3 (R2.same sm) z fb _ fun σ3 H3 R3 s3 _ => ?_
        have s13 : Stay H1 H3 := (s2.trans (.of sm)).trans s3
        have q3 : OutOk K W0 mg H0 io E H3 D o := q.back (s1.trans s13)
        cases fc : S ρ3 with
        | none => rw [fc] at f2; cases f2
        | some r =>
          rw [fc] at f2
          refine hb σ3 H3 ρ3 r R3 fc _ ?_
          cases r with
          | nx ρ4 => exact fun σ' H4 R4 s4 => ⟨s13.trans s4, ρ4, R4, f2⟩
          | ct ρ4 => exact fun σ' H4 R4 s4 => ⟨s13.trans s4, ρ4, R4, f2⟩
          | bk ρ4 => cases f2; exact q3
          | rt d ρ4 => cases f2; exact q3
          | ex c d => cases f2; exact q3
          | rf d ρ4 => cases f2; exact q3
    · have e : i = ds.length := by omega
      subst e
      rw [List.drop_length] at f2
      cases f2
      exact .inl ⟨j2 rfl, q σ2 H2 R2 (s1.trans s2)⟩
theorem sm_for {wi : TI} {t1 : TG} {ws : List Nat} (hp : PassesOwn (model X.prog X.w) X.A X.env X.xe) (hc : X.calm = true) (hi : IM X H0 io tg iter wi I) (hg : GM X H0 io tg t1 ws g) (hb : SMs X H0 io E body ts S)
    (hs : ∀ x, foldedSetIterable iter X.env x = pure x := by intro _; rfl) : SM X H0 io E (.For tg iter body [] pos) (tFor wi t1 ts) (sFor I g S) := ⟨ps_for hp hc hi.pi hg.pg hb.ps hs, sden_for hi.dn hg.dn hb.dn⟩
end
end DL
set_option Elab.async false
set_option linter.all false
set_option maxRecDepth 100000
set_option maxHeartbeats 1000000
/-! DL3: comprehensions; lists that are written; calls of defs; a def's promise by its denotation. -/
namespace DL
open PySem PySem.Spec L2
open PyProof.Rows hiding St

/-! ### comprehensions -/
def wipeE (vs : List Nat) (ρ : En) : En := match vs with
  | [] => ρ
  | v :: vs => (wipeE vs ρ).set v .emp
/-- behind the block: the block's own names hold again what they held -/
def backE (vs : List Nat) (ρ ρ' : En) : En := match vs with
  | [] => ρ'
  | v :: vs => match ρ[v]? with
    | some (.dat d) => (backE vs ρ ρ').set v (.dat d)
    | _ => (backE vs ρ ρ').set v .emp
def compD (vs : List Nat) (g : DG) (C : DFB) (F : DF) : List PyData → En → Option (List PyData × En)
  | [], ρ => some ([], ρ)
  | d :: ds, ρ => (g d ρ).bind fun ρ1 => (C ρ1).bind fun c =>
    if c.1 = true then (F c.2).bind fun y => (compD vs g C F ds (wipeE vs y.2)).map fun r => (y.1 :: r.1, r.2) else compD vs g C F ds (wipeE vs c.2)
def lComp (vs : List Nat) (I : DFL) (g : DG) (C : DFB) (F : DF) : DFL := fun ρ => (I ρ).bind fun p => if few p.1.length = true then (compD vs g C F p.1 (wipeE vs p.2)).map fun q => (q.1, backE vs p.2 q.2) else none
def bYes : DFB := fun ρ => some (true, ρ)

section
variable {K : PySem.W.Frag} {W0 : World} {H0 : HT} {H H' : Hp} {io : Option Addr} {σ σ' : L2.St} {ρ ρ' : En} {D : Addr}
theorem wipeE_len : ∀ (vs : List Nat) (ρ : En), (wipeE vs ρ).length = ρ.length
  | [], _ => rfl
  | v :: vs, ρ => by unfold wipeE; rw [List.length_set, wipeE_len vs ρ]
theorem wipeE_out {ρ : En} {i : Nat} : ∀ {vs : List Nat}, i ∉ vs → (wipeE vs ρ)[i]? = ρ[i]?
  | [], _ => rfl
  | v :: vs, h => by
    have h1 : v ≠ i := fun e => h (by rw [e]; exact List.mem_cons_self)
    unfold wipeE
    rw [List.getElem?_set_ne h1]
    exact wipeE_out fun m => h (List.mem_cons_of_mem _ m)
theorem wipeE_in {ρ : En} {i : Nat} : ∀ {vs : List Nat}, i ∈ vs → ∀ (x : SV), (wipeE vs ρ)[i]? = some x → x = .emp
  | v :: vs, h, x, e => by
    unfold wipeE at e
    by_cases hv : v = i
    · subst hv
      by_cases hl : v < (wipeE vs ρ).length
      · rw [List.getElem?_set_self hl] at e
        exact (Option.some.inj e).symm
      · rw [List.getElem?_eq_none (by simpa using hl)] at e
        cases e
    · rw [List.getElem?_set_ne hv] at e
      rcases List.mem_cons.mp h with z | h
      · exact absurd z.symm hv
      · exact wipeE_in h x e
theorem SR.wipe (R : SR K W0 H0 io σ H ρ) (vs : List Nat) (hv : io = none ∨ 0 ∉ vs) : SR K W0 H0 io (L2.wipe σ vs) H (wipeE vs ρ) where
  len := by rw [wipe_length, wipeE_len]; exact R.len
  keep := R.keep
  dat := fun i d q => by
    by_cases hi : i ∈ vs
    · have := wipeE_in hi _ q; cases this
    · rw [wipeE_out hi] at q
      rw [wipe_out hi]
      exact R.dat i d q
  own := fun i d q => by
    by_cases hi : i ∈ vs
    · have := wipeE_in hi _ q; cases this
    · rw [wipeE_out hi] at q
      rw [wipe_out hi]
      exact R.own i d q
  dst := fun i j ds es p hn q1 q2 => by
    by_cases hi : i ∈ vs
    · have := wipeE_in hi _ q1; cases this
    · by_cases hj : j ∈ vs
      · have := wipeE_in hj _ q2; cases this
      · rw [wipeE_out hi] at q1
        rw [wipeE_out hj] at q2
        rw [wipe_out hi, wipe_out hj]
        exact R.dst i j ds es p hn q1 q2
  iop := fun p h => by
    rcases hv with z | z
    · rw [z] at h; cases h
    · rw [wipe_out z]
      exact R.iop p h
  ioh := R.ioh
  tb := R.tb
  nt := R.nt
theorem backE_len : ∀ (vs : List Nat) (ρ ρ' : En), (backE vs ρ ρ').length = ρ'.length
  | [], _, _ => rfl
  | v :: vs, ρ, ρ' => by
    unfold backE
    split <;> rw [List.length_set, backE_len vs ρ ρ']
theorem backE_out {ρ ρ' : En} {i : Nat} : ∀ {vs : List Nat}, i ∉ vs → (backE vs ρ ρ')[i]? = ρ'[i]?
  | [], _ => rfl
  | v :: vs, h => by
    have h1 : v ≠ i := fun e => h (by rw [e]; exact List.mem_cons_self)
    have h2 : i ∉ vs := fun m => h (List.mem_cons_of_mem _ m)
    unfold backE
    split <;> rw [List.getElem?_set_ne h1] <;> exact backE_out h2
theorem backE_in {ρ ρ' : En} {i : Nat} : ∀ {vs : List Nat}, i ∈ vs → ∀ (x : SV), (backE vs ρ ρ')[i]? = some x → x = .emp ∨ ∃ d, x = .dat d ∧ ρ[i]? = some (.dat d)
  | v :: vs, h, x, e => by
    by_cases hv : v = i
    · subst hv
      unfold backE at e
      split at e
      · rename_i d hd
        by_cases hl : v < (backE vs ρ ρ').length
        · rw [List.getElem?_set_self hl] at e
          exact .inr ⟨d, (Option.some.inj e).symm, hd⟩
        · rw [List.getElem?_eq_none (by simpa using hl)] at e
          cases e
      · by_cases hl : v < (backE vs ρ ρ').length
        · rw [List.getElem?_set_self hl] at e
          exact .inl (Option.some.inj e).symm
        · rw [List.getElem?_eq_none (by simpa using hl)] at e
          cases e
    · have h' : i ∈ vs := (List.mem_cons.mp h).elim (fun z => absurd z.symm hv) id
      unfold backE at e
      split at e <;> rw [List.getElem?_set_ne hv] at e <;> exact backE_in h' x e
/-- behind the block -/
theorem SR.back {H1 : Hp} {ρ1 : En} (R : SR K W0 H0 io σ H1 ρ1) (R' : SR K W0 H0 io (L2.wipe σ vs) H ρ') (st : Stay H1 H) (hv : io = none ∨ 0 ∉ vs) : SR K W0 H0 io σ H (backE vs ρ1 ρ') where
  len := by rw [backE_len, ← R'.len, wipe_length]
  keep := R'.keep
  dat := fun i d q => by
    by_cases hi : i ∈ vs
    · rcases backE_in hi _ q with z | ⟨d', z, e⟩
      · cases z
      · cases z
        obtain ⟨v, a, b⟩ := R.dat i d e
        exact ⟨v, a, b.mono st⟩
    · rw [backE_out hi] at q
      obtain ⟨v, a, b⟩ := R'.dat i d q
      rw [wipe_out hi] at a
      exact ⟨v, a, b⟩
  own := fun i d q => by
    by_cases hi : i ∈ vs
    · rcases backE_in hi _ q with z | ⟨d', z, e⟩ <;> cases z
    · rw [backE_out hi] at q
      obtain ⟨p, vs', a, b⟩ := R'.own i d q
      rw [wipe_out hi] at a
      exact ⟨p, vs', a, b⟩
  dst := fun i j ds es p hn q1 q2 => by
    by_cases hi : i ∈ vs
    · rcases backE_in hi _ q1 with z | ⟨d', z, e⟩ <;> cases z
    · by_cases hj : j ∈ vs
      · rcases backE_in hj _ q2 with z | ⟨d', z, e⟩ <;> cases z
      · rw [backE_out hi] at q1
        rw [backE_out hj] at q2
        have := R'.dst i j ds es p hn q1 q2
        rw [wipe_out hi, wipe_out hj] at this
        exact this
  iop := R.iop
  ioh := R'.ioh
  tb := R'.tb
  nt := R'.nt
/-- a list beside the slots' lists: it is held as what stood ahead -/
theorem SR.beside {u : HO} (R : SR K W0 H0 io σ H ρ) (hD : H D = none) (hu : ∀ ps, u ≠ .tbl ps) : SR K W0 (updT H0 D u) io σ (upd H D u) ρ := by
  have sm : Same H (upd H D u) := same_new hD
  have R' := R.same sm
  refine ⟨R'.len, fun b o e n => ?_, R'.dat, fun i ds q => ?_, R'.dst, R'.iop, R'.ioh, R'.tb, fun ht b ps => ?_⟩
  · by_cases hb : b = D
    · subst hb
      rw [updT_same] at e
      rw [upd_same]
      exact e
    · rw [updT_ne hb] at e
      exact R'.keep b o e n
  · obtain ⟨p, vs, a, b, c, d⟩ := R.own i ds q
    have hp : p ≠ D := ne_of_none b hD
    exact ⟨p, vs, a, sm _ _ b, c.mono (.of sm), by rw [updT_ne hp]; exact d⟩
  · by_cases hb : b = D
    · subst hb; rw [updT_same]; exact fun z => hu ps (Option.some.inj z)
    · rw [updT_ne hb]; exact R.nt ht b ps
theorem SR.besideNe {u : HO} (R : SR K W0 (updT H0 D u) io σ H ρ) (hio : io ≠ some D) {i : Nat} {ds : List PyData} {p : Addr} (h : ρ[i]? = some (SV.own ds)) (hs : σ[i]? = some (some (V.ref p))) : p ≠ D := fun z => by
  subst z
  obtain ⟨p', vs, a, b, c, d⟩ := R.own i ds h
  rw [hs] at a; cases a
  rcases d with d | d
  · rw [updT_same] at d; cases d
  · exact hio d
theorem SR.grow {xs ys : List V} (R : SR K W0 (updT H0 D (.lst xs)) io σ H ρ) (hio : io ≠ some D) : SR K W0 (updT H0 D (.lst ys)) io σ (upd H D (.lst ys)) ρ := by
  have hD : H D = some (.lst xs) := R.keep D _ updT_same hio
  have st : Stay H (upd H D (.lst ys)) := .lst hD
  refine ⟨R.len, fun b o e n => ?_, fun i d q => let ⟨v, a, z⟩ := R.dat i d q; ⟨v, a, z.mono st⟩, fun i ds q => ?_, R.dst, R.iop, fun p h => ?_, tabs_but R.tb hD fun c o n e => by rw [upd_ne n]; exact e, fun ht b ps => ?_⟩
  · by_cases hb : b = D
    · subst hb
      rw [updT_same] at e
      rw [upd_same]
      exact e
    · rw [updT_ne hb] at e
      rw [upd_ne hb]
      exact R.keep b o (by rw [updT_ne hb]; exact e) n
  · obtain ⟨p, vs, a, b, c, d⟩ := R.own i ds q
    have hp := R.besideNe hio q a
    rw [updT_ne hp] at d
    exact ⟨p, vs, a, by rw [upd_ne hp]; exact b, c.mono st, by rw [updT_ne hp]; exact d⟩
  · by_cases hb : p = D
    · subst hb; exact ⟨_, upd_same, fun _ z => by cases z⟩
    · rw [upd_ne hb]; exact R.ioh p h
  · by_cases hb : b = D
    · subst hb; rw [updT_same]; exact fun z => by cases z
    · rw [updT_ne hb]
      have := R.nt ht b ps
      rw [updT_ne hb] at this
      exact this
def del (H : Hp) (D : Addr) : Hp := fun b => if b = D then none else H b
theorem del_same : del H D D = none := by unfold del; rw [if_pos rfl]
theorem del_ne {b : Addr} (h : b ≠ D) : del H D b = H b := by unfold del; rw [if_neg h]
/-- .. and set aside again -/
theorem SR.apart {xs : List V} (R : SR K W0 (updT H0 D (.lst xs)) io σ H ρ) (hio : io ≠ some D) (h0 : H0 D = none) : SR K W0 H0 io σ (del H D) ρ ∧ Same (del H D) H ∧ Stay H (del H D) ∧ H D = some (.lst xs) := by
  have hD : H D = some (.lst xs) := R.keep D _ updT_same hio
  have st : Stay H (del H D) := ⟨fun a ys e => by rw [del_ne (ne_of e hD (by intro z; cases z))]; exact e, fun a o u e => by rw [del_ne (ne_of e hD (by intro z; cases z))]; exact e⟩
  refine ⟨⟨R.len, fun b o e n => ?_, fun i d q => let ⟨v, a, z⟩ := R.dat i d q; ⟨v, a, z.mono st⟩, fun i ds q => ?_, R.dst, R.iop, fun p h => ?_, tabs_but R.tb hD fun c o n e => by rw [del_ne n]; exact e, fun ht b ps z => ?_⟩, fun b o e => ?_, st, hD⟩
  · have hb : b ≠ D := ne_of_none e h0
    rw [del_ne hb]
    exact R.keep b o (by rw [updT_ne hb]; exact e) n
  · obtain ⟨p, vs, a, b, c, d⟩ := R.own i ds q
    have hp := R.besideNe hio q a
    rw [updT_ne hp] at d
    exact ⟨p, vs, a, by rw [del_ne hp]; exact b, c.mono st, d⟩
  · have hb : p ≠ D := fun z => hio (by rw [← z]; exact h)
    rw [del_ne hb]
    exact R.ioh p h
  · have hb : b ≠ D := ne_of_none z h0
    exact R.nt ht b ps (by rw [updT_ne hb]; exact z)
  · by_cases hb : b = D
    · subst hb; rw [del_same] at e; cases e
    · rw [del_ne hb] at e; exact e
end

section
variable {K : PySem.W.Frag} {W0 : World} {H0 : HT} {io : Option Addr} {wi : TI} {I : DFL} {tg : TG} {g : DG} {tt : TT} {C : DFB} {te : TE} {F : DF} {vs ws : List Nat}
theorem den_lcT (hi : DenI K W0 H0 io wi I) (hg : ∀ H1 : HT, H1.tabs = H0.tabs → DenG K W0 H1 io ws tg g) (ht : ∀ H1 : HT, H1.tabs = H0.tabs → DenT K W0 H1 io tt C) (he : ∀ H1 : HT, H1.tabs = H0.tabs → Den K W0 H1 io te F) (hv : io = none ∨ 0 ∉ vs) (hw : ∀ i ∈ ws, i ∈ vs) : DenF K W0 H0 io (tLc wi tg tt te vs) (lComp vs I g C F) := fun σ H ρ ds ρ' R f Q q => by
  unfold lComp at f
  cases fa : I ρ with
  | none => rw [fa] at f; cases f
  | some p =>
    obtain ⟨xs, ρ1⟩ := p
    rw [fa] at f
    simp only [Option.bind_some] at f
    split at f
    · rename_i hfew
      cases fc : compD vs g C F xs (wipeE vs ρ1) with
      | none => rw [fc] at f; cases f
      | some r =>
        obtain ⟨ys, ρ2⟩ := r
        rw [fc] at f
        cases f
        refine hi σ H ρ _ _ R fa _ fun J H1 R1 s1 hJ => ?_
        intro D hD
        have hio : io ≠ some D := fun z => by
          obtain ⟨o, e, _⟩ := R1.ioh D z
          rw [hD] at e; cases e
        have h0 : H0 D = none := by
          cases e : H0 D with
          | none => rfl
          | some o =>
            have := R1.keep D o e hio
            rw [hD] at this; cases this
        refine ⟨fun i m H => i ≤ xs.length ∧ m = xs.length - i ∧ Stay H1 H ∧ ∃ acc as ρw zs, SR K W0 (updT H0 D (.lst acc)) io (L2.wipe σ vs) H ρw ∧ DzAll K W0 H acc as ∧ as.length ≤ i ∧ compD vs g C F (xs.drop i) ρw = some (zs, ρ2) ∧ as ++ zs = ys,
          ⟨_, Nat.zero_le _, rfl, .of (same_new hD), [], [], wipeE vs ρ1, ys, (R1.wipe vs hv).beside hD (fun _ z => by cases z), .nil, Nat.le_refl _, fc, rfl⟩, ?_⟩
        rintro i m H2 ⟨hi2, rfl, s2, acc, as, ρw, zs, R2, hacc, hwl, f2, hz⟩
        obtain ⟨j1, j2⟩ := hJ i H2 s2 hi2
        by_cases hlt : i < xs.length
        · have hd : xs[i]? = some xs[i] := List.getElem?_eq_getElem hlt
          have hdr : xs.drop i = xs[i] :: xs.drop (i + 1) := List.drop_eq_getElem_cons hlt
          rw [hdr] at f2
          simp only [compD] at f2
          obtain ⟨g1, g2⟩ := j1 _ hd
          refine .inr ⟨g1, fun H' => Stay H1 H' ∧ ∃ acc as ρw zs, SR K W0 (updT H0 D (.lst acc)) io (L2.wipe σ vs) H' ρw ∧ DzAll K W0 H' acc as ∧ as.length ≤ i + 1 ∧ compD vs g C F (xs.drop (i + 1)) ρw = some (zs, ρ2) ∧ as ++ zs = ys,
            fun H' ⟨w1, w2⟩ => ⟨xs.length - (i + 1), by omega, hlt, rfl, w1, w2⟩, fun x H' hy => ?_⟩
          obtain ⟨sm, z⟩ := g2 x H' hy
          cases fb : g xs[i] ρw with
          | none => rw [fb] at f2; cases f2
          | some ρ3 =>
            rw [fb] at f2
            simp only [Option.bind_some] at f2
            refine hg (updT H0 D (.lst acc)) rfl x (L2.wipe σ vs) H' ρw _ ρ3 (R2.same sm) z fb _ fun σ3 H3 R3 s3 y3 => ?_
            have hwp : L2.wipe σ3 vs = L2.wipe σ vs := (y3 vs hw).trans wipe_wipe
            refine ⟨hwp, ?_⟩
            have s13 : Stay H1 H3 := (s2.trans (.of sm)).trans s3
            have hacc3 : DzAll K W0 H3 acc as := (hacc.mono (.of sm)).mono s3
            have hsmall : xs.length ≤ 16777216 := of_decide_eq_true hfew
            cases fq : C ρ3 with
            | none => rw [fq] at f2; cases f2
            | some c =>
              obtain ⟨k, ρ4⟩ := c
              rw [fq] at f2
              simp only [Option.bind_some] at f2
              refine ht (updT H0 D (.lst acc)) rfl σ3 H3 ρ3 _ _ R3 fq _ fun H4 R4 s4 => ?_
              cases k with
              | true =>
                rw [if_pos rfl] at f2 ⊢
                cases fy : F ρ4 with
                | none => rw [fy] at f2; cases f2
                | some y =>
                  obtain ⟨y, ρ5⟩ := y
                  rw [fy] at f2
                  simp only [Option.bind_some] at f2
                  cases fr : compD vs g C F (xs.drop (i + 1)) (wipeE vs ρ5) with
                  | none => rw [fr] at f2; cases f2
                  | some r =>
                    obtain ⟨zs', ρ6⟩ := r
                    rw [fr] at f2
                    cases f2
                    refine he (updT H0 D (.lst acc)) rfl σ3 H4 ρ4 _ _ R4 fy _ fun v H5 R5 s5 z5 => ?_
                    have hD5 : H5 D = some (.lst acc) := R5.keep D _ updT_same hio
                    have hacc5 : DzAll K W0 H5 acc as := (hacc3.mono s4).mono s5
                    have st5 : Stay H5 (upd H5 D (.lst (acc ++ [v]))) := .lst hD5
                    have hl := hacc5.len
                    refine ⟨acc, hD5, ?_, ?_⟩
                    · rw [sizeLine_eq]; omega
                    · refine ⟨((s13.trans s4).trans s5).trans st5, acc ++ [v], as ++ [y], wipeE vs ρ5, zs', ?_, (DzAll.app hacc5 (.cons z5 .nil)).mono st5, ?_, fr, ?_⟩
                      · have := (R5.wipe vs hv).grow (ys := acc ++ [v]) hio
                        rw [hwp] at this
                        exact this
                      · rw [List.length_append, List.length_singleton]; omega
                      · rw [List.append_assoc]; exact hz
              | false =>
                rw [if_neg Bool.false_ne_true] at f2 ⊢
                refine ⟨s13.trans s4, acc, as, wipeE vs ρ4, zs, ?_, hacc3.mono s4, by omega, f2, hz⟩
                have := R4.wipe vs hv
                rw [hwp] at this
                exact this
        · have e : i = xs.length := by omega
          subst e
          rw [List.drop_length] at f2
          cases f2
          rw [List.append_nil] at hz
          subst hz
          obtain ⟨Ra, sa, sta, hDD⟩ := R2.apart hio h0
          refine .inl ⟨j2 rfl, q D acc (del H2 D) H2 ?_ ?_ del_same sa hDD hacc⟩
          · exact R1.back Ra (s2.trans sta) hv
          · exact (s1.trans s2).trans sta
    · cases f
theorem den_lc (hi : DenI K W0 H0 io wi I) (hg : ∀ H0, DenG K W0 H0 io ws tg g) (ht : ∀ H0, DenT K W0 H0 io tt C) (he : ∀ H0, Den K W0 H0 io te F) (hv : io = none ∨ 0 ∉ vs) (hw : ∀ i ∈ ws, i ∈ vs) : DenF K W0 H0 io (tLc wi tg tt te vs) (lComp vs I g C F) :=
  den_lcT hi (fun H _ => hg H) (fun H _ => ht H) (fun H _ => he H) hv hw
end
end DL
set_option Elab.async false
set_option linter.all false
set_option maxRecDepth 100000
set_option maxHeartbeats 1000000
/-! DLG: promises of defs where no repr is under way around the call. -/
namespace DL
open PySem PySem.Spec L2
open PyProof.Rows hiding St

/-- room, and no repr under way -/
structure RoomG (k : Nat) (A : Around) : Prop where
  room : Room k A
  gd : A.guards = some []
theorem RoomG.mono {j k : Nat} {A : Around} (r : RoomG k A) (h : j ≤ k) : RoomG j A := ⟨r.room.mono h, r.gd⟩
theorem RoomG.deeper {k : Nat} {A : Around} (r : RoomG (k + 1) A) (env : Env) : RoomG k (A.deeper env) := ⟨r.room.deeper env, r.gd⟩

section
variable (P : Program) (w : World) (K : PySem.W.Frag) (mg : Str → Option Value) (base : Heap)
structure FnG (CX : CXT) (k : Nat) (f : Addr) (fd : FuncData) (ps : List Str) (sp : Sp) : Prop where
  len : ∀ vs H Q E, sp vs H Q E → vs.length = ps.length
  run : ∀ (A : Around) (outer : List Env) (s : Shared) (H : Hp) (args : Args) (us : List Value) (vs : List V) (Q : VK) (E : XK),
    RoomG k A → Env0 P w K mg base A outer s H → BindsTo s fd args (ps.zip us) → Vals vs us → sp vs H Q E → codeAny (model P w) A (.call (.ref f) args) (CR CX outer P w H s Q E) s
end
section
variable {P : Program} {w : World} {K : PySem.W.Frag} {mg : Str → Option Value} {base : Heap} {CX : CXT} {k : Nat} {f : Addr} {fd : FuncData} {ps : List Str} {sp sp' : Sp}
theorem FnG.of (F : FnOk P w K mg base CX k f fd ps sp) : FnG P w K mg base CX k f fd ps sp := ⟨F.len, fun A outer s H args us vs Q E r => F.run A outer s H args us vs Q E r.room⟩
theorem FnG.mono {j : Nat} (F : FnG P w K mg base CX j f fd ps sp) (h : j ≤ k) : FnG P w K mg base CX k f fd ps sp := ⟨F.len, fun A outer s H args us vs Q E r => F.run A outer s H args us vs Q E (r.mono h)⟩
theorem FnG.imp (F : FnG P w K mg base CX k f fd ps sp) (h : ∀ vs H Q E, sp' vs H Q E → sp vs H Q E) : FnG P w K mg base CX k f fd ps sp' :=
  ⟨fun vs H Q E q => F.len vs H Q E (h _ _ _ _ q), fun A outer s H args us vs Q E r e b v q => F.run A outer s H args us vs Q E r e b v (h _ _ _ _ q)⟩

/-- the def's body keeps the promise -/
theorem fnG_of {name qual : Str} {params : Arguments} {body : List Stmt} {scope : Scope} {dV kV doc pm cdv ct oc : Value} {an od : Option Addr} {osl : Array (Option Value)} {N : List Str}
    (lk : K.lookup f = some ⟨oc, od, .func (PySem.W.fnOf name qual params body scope dV kV doc pm an cdv ct), osl⟩) (hcd : PySem.W.codeIn K cdv qual = true) (S : FnScope N ps scope)
    (len : ∀ vs H Q E, sp vs H Q E → vs.length = ps.length)
    (hb : ∀ (A : Around) (outer : List Env) (s : Shared) (H : Hp) (vs : List V) (Q : VK) (E : XK), RoomG k (A.deeper (envOfC qual scope s.heap.objs.size f cdv)) → sp vs H Q E →
      ∃ t, PSs (cxOf CX P w K mg base N qual scope f cdv A outer s H E) body t ∧ t { nx := fun _ H' => Q .non H', rt := Q } (L2.start N vs) H) :
    FnG P w K mg base CX (k + 1) f (PySem.W.fnOf name qual params body scope dV kV doc pm an cdv ct) ps sp := by
  refine ⟨len, fun A outer s H args us vs Q E hr e0 bt rv hsp => ?_⟩
  have keptB : ∀ b o, base.get? b = some o → s.heap.get? b = some o := fun b o e => (e0.bs b o e).1
  have kin : K.In s.heap := e0.mod.kin.keeps keptB
  have nol : s.heap.NoLimit := e0.mod.nolimit.keeps keptB
  refine codeAny_call_function hr.room.depth (kin _ _ lk) rfl S.co S.gen rfl (PySem.W.codeRec_of kin hcd) (bt _ _ _ _ ?_)
  refine wpAny_newFunctionEnv_cells S.kind (fun y hy => ?_) fun env he s1 x => ?_
  · rcases S.par y.1 (List.of_mem_zip (a := y.1) (b := y.2) hy).1 with z | z
    · exact .inl z
    · exact .inr ⟨z, PySem.W.cellsFrom_some _ _ _ (.inl z)⟩
  · subst he
    refine ⟨nol.keeps x.toInCall.keep, codeAny_func ?_⟩
    obtain ⟨t, pt, qt⟩ := hb A outer s H vs Q E (hr.deeper _) hsp
    have I0 := inv_start (CX := CX) (P := P) (w := w) (K := K) (mg := mg) (base := base) (E := E) (outer := outer) S hr.room.hd e0 (len _ _ _ _ hsp) rv x
    refine wpAny_mono (pt.run [] s1 _ H _ I0 qt) (fun fl s2 z => ?_) fun e s2 z => z
    cases fl with
    | ret u =>
      obtain ⟨v, σ2, H2, J, r2, q2⟩ := z
      exact ⟨v, H2, J.os, J.bare, J.base, J.hok, r2, q2⟩
    | next =>
      obtain ⟨σ2, H2, J, q2⟩ := z
      exact ⟨.non, H2, J.os, J.bare, J.base, J.hok, rfl, q2⟩
    | brk =>
      obtain ⟨_, _, _, q2⟩ := z
      exact (show False from q2).elim
    | cont =>
      obtain ⟨_, _, _, q2⟩ := z
      exact (show False from q2).elim
theorem okG {x qual : Str} {st : Stmt} {N : List Str} (Fn : Fun K x qual st f fd) (S : FnScope N ps (defScope st)) (len : ∀ vs H Q E, sp vs H Q E → vs.length = ps.length)
    (hb : ∀ (cdv : Value) (A : Around) (outer : List Env) (s : Shared) (H : Hp) (vs : List V) (Q : VK) (E : XK), RoomG k (A.deeper (envOfC qual (defScope st) s.heap.objs.size f cdv)) → sp vs H Q E →
      ∃ t, PSs (cxOf CX0 P w K mg base N qual (defScope st) f cdv A outer s H E).nox (defBody st) t ∧ t { nx := fun _ H' => Q .non H', rt := Q } (L2.start N vs) H) : FnG P w K mg base CX0 (k + 1) f fd ps sp := by
  obtain ⟨oc, od, kV, doc, pm, an, cdv, ct, osl, rfl, lk, hcd⟩ := Fn.ex
  exact fnG_of lk hcd S len fun A outer s H vs Q E hr hsp => let ⟨t, h, q⟩ := hb cdv A outer s H vs Q E hr hsp; ⟨t, h.nox, q⟩
theorem okGX {x qual : Str} {st : Stmt} {N : List Str} (Fn : Fun K x qual st f fd) (S : FnScope N ps (defScope st)) (len : ∀ vs H Q E, sp vs H Q E → vs.length = ps.length)
    (hb : ∀ (cdv : Value) (A : Around) (outer : List Env) (s : Shared) (H : Hp) (vs : List V) (Q : VK) (E : XK), RoomG k (A.deeper (envOfC qual (defScope st) s.heap.objs.size f cdv)) → sp vs H Q E →
      ∃ t, PSs (cxOf (L2.CX P w) P w K mg base N qual (defScope st) f cdv A outer s H E) (defBody st) t ∧ t { nx := fun _ H' => Q .non H', rt := Q } (L2.start N vs) H) : FnG P w K mg base (L2.CX P w) (k + 1) f fd ps sp := by
  obtain ⟨oc, od, kV, doc, pm, an, cdv, ct, osl, rfl, lk, hcd⟩ := Fn.ex
  exact fnG_of lk hcd S len fun A outer s H vs Q E hr hsp => hb cdv A outer s H vs Q E hr hsp
end

section
variable {X : Cx} {CX : CXT} {k : Nat} {f : Addr} {fd : FuncData} {ps : List Str} {sp : Sp} {E : XK} {x : Str} {p pos : Pos} {e : Expr} {es : List Expr} {t : TA}
theorem runG {pins : List (Addr × Obj)} {σ : L2.St} {H : Hp} {s : Shared} {Q : VK} {us : List Value} {vs : List V} (F : FnG X.prog X.w X.K X.mg X.base CX k f fd ps sp) (hr : RoomG k X.A) (hb : Binds X.K fd ps []) (hx : Passes CX X E)
    (I : Inv X pins σ H s) (r : Vals vs us) (h : sp vs H Q E) : wpAny (model X.prog X.w) X.A (call (.ref f) us) (EP X pins σ Q) X.xe s := by
  have bt := hb s us I.kIn (by rw [List.append_nil, ← r.length]; exact F.len _ _ _ _ h)
  rw [List.append_nil] at bt
  refine wpAny_call (codeAny_mono (F.run X.A X.stack s H ⟨us, []⟩ us vs Q E hr I.env0 bt r h) fun res s2 z => ?_)
  cases res with
  | error er => exact hx pins σ H s er s2 I z
  | ok fl => cases fl with
    | ret u => exact I.after z
    | next => exact z
    | brk => exact z
    | cont => exact z
theorem pe_callG (F : FnG X.prog X.w X.K X.mg X.base CX k f fd ps sp) (hr : RoomG k X.A) (hg : Gl X x) (hm : X.mg x = some (.ref f)) (hk : PySem.W.keepIn X.K (.ref f) = true) (hb : Binds X.K fd ps []) (hx : Passes CX X E)
    (ha : PA X (e :: es) t) (hdb : (x == ("__debug__" : Str)) = false := by decide) (he : starEach (e :: es) X.env = (false, eval e X.env) :: starEach es X.env := by rfl) (hpl : (backTo pos (starEach es X.env)).any (·.1) = false := by rfl) :
    PE X (.Call (.Name x p) (e :: es) [] pos) (tCall sp [] E t) := ⟨fun pins s σ H Q I h => by
  refine wpAny_Call_Name_kw (ld_glob I hg hm ?_ hdb)
  refine PySem.W.callWith_K (h₀ := X.base) I.ok.mod.kin hk (thn (ha.run pos pins s σ H _ I h) fun us s1 ⟨vs, H1, I1, r, q⟩ => ⟨I1.kIn, ?_⟩) he hpl
  have q : sp (vs ++ []) H1 Q E := q
  rw [List.append_nil] at q
  exact runG F hr hb hx I1 r q⟩
theorem pe_callG0 (F : FnG X.prog X.w X.K X.mg X.base CX k f fd ps sp) (hr : RoomG k X.A) (hg : Gl X x) (hm : X.mg x = some (.ref f)) (hk : PySem.W.keepIn X.K (.ref f) = true) (hb : Binds X.K fd ps []) (hx : Passes CX X E)
    (hdb : (x == ("__debug__" : Str)) = false := by decide) : PE X (.Call (.Name x p) [] [] pos) (tCall sp [] E tNil) := ⟨fun pins s σ H Q I h => by
  refine wpAny_Call_Name_kw (ld_glob I hg hm ?_ hdb)
  exact PySem.W.callWith_K0 I.kIn hk (runG (us := []) F hr hb hx I .nil h)⟩
end

/-! ### the law's call -/
theorem law_callG {P : Program} {w : World} {K : PySem.W.Frag} {mg mb : Str → Option Value} {k : Nat} {fa a : Addr} {fd : FuncData} {x : Str} {sp : Sp} {s1 : Shared} {vs : List Value} {ns : List Int}
    (KX : K.In s1.heap) (gns : s1.heap.Ns mainGlobals mg) (bns : s1.heap.Ns builtinsNs mb) (hbb : ∀ x : Str, x ≠ "__name__" → mb x = bootBuiltins x) (nol : s1.heap.NoLimit) (hg : s1.gens = #[])
    (ha : s1.heap.get? a = some { cls := .type "list", data := .seq vs.toArray }) (hi : IntsAre vs ns) (hl : ns.length ≤ sizeLine) (hr : Room k callerA)
    (F : ∀ base : Heap, K.In base → base.Ns mainGlobals mg → FnG P w K mg base CX0 k fa fd [x] sp) (hbind : ∀ (s : Shared) (u : Value), BindsTo s fd ⟨[u], []⟩ [(x, u)])
    (hsp : ∀ H : Hp, Lz K H a (ns.map V.int) → sp [.ref a] H (fun v _ => v = .bl true) L2.E0) :
    codeAny (model P w) callerA (.call (.ref fa) ⟨[.ref a], []⟩) (fun r s2 => r = .ok (.ret (.bool true)) ∧ OldK s1.heap s2.heap ∧ s2.os = s1.os ∧ AllBare s2.gens) s1 := by
  have rv := vals_ints hi
  have main : ∀ H : Hp, (∀ b u, H b = some u → b = a ∧ K.lookup a = none ∧ ∃ o xs, u = .frz o (.lst xs)) → Lz K H a (ns.map V.int) → HOk P w H s1.heap →
      codeAny (model P w) callerA (.call (.ref fa) ⟨[.ref a], []⟩) (fun r s2 => r = .ok (.ret (.bool true)) ∧ OldK s1.heap s2.heap ∧ s2.os = s1.os ∧ AllBare s2.gens) s1 := by
    intro H hH hS hok
    have freeD : ∀ {b : Addr} {o : Obj} {es : Array DictEntry} {ep : Nat}, s1.heap.get? b = some o → o.data = .dict es ep → H b = none := fun {b o es ep} e d => by
      cases q : H b with
      | none => rfl
      | some u =>
        obtain ⟨rfl, _, _⟩ := hH b u q
        rw [ha] at e
        cases e
        cases d
    have ns1 : ∀ {b : Addr} {m : Str → Option Value}, s1.heap.Ns b m → (hidT s1.heap H).Ns b m := fun {b m} ⟨o, es, ep, e, d, r⟩ => ⟨o, es, ep, hidT_get e (freeD e d), d, r⟩
    have kb : K.In (hidT s1.heap H) := fun b o e => hidT_get (KX b o e) (by
      cases q : H b with
      | none => rfl
      | some u =>
        obtain ⟨rfl, z, _⟩ := hH b u q
        rw [z] at e
        cases e)
    have md : Mod K mg (hidT s1.heap H) := ⟨kb, ns1 gns, ⟨mb, ns1 bns, hbb⟩, let ⟨mc, h1, h2⟩ := nol; ⟨mc, ns1 h1, h2⟩⟩
    have e0 : Env0 P w K mg (hidT s1.heap H) callerA [] s1 H := ⟨rfl, md, fun b o e => of_hidT e, Nat.le_of_eq (hidT_size _ _), trivial, (fun b z => nomatch z), hok, .of_eq hg⟩
    refine codeAny_mono ((F _ kb (ns1 gns)).run callerA [] s1 H ⟨[.ref a], []⟩ [.ref a] [.ref a] _ _ ⟨hr, rfl⟩ e0 (hbind s1 (.ref a)) (.cons rfl .nil) (hsp H hS)) fun r s2 z => ?_
    cases r with
    | error e => exact z.elim
    | ok fl =>
      cases fl with
      | next => exact z.elim
      | brk => exact z.elim
      | cont => exact z.elim
      | ret u =>
        obtain ⟨v, H2, hos, hba, hun, hok2, rel, q⟩ := z
        cases (show v = .bl true from q)
        obtain rfl : u = Value.bool true := rel
        refine ⟨rfl, OldK.of_keep fun b o e => ?_, hos, hba⟩
        cases qb : H b with
        | none => exact hun.keep b o e qb (fun z => by cases z) (by simp)
        | some u =>
          obtain ⟨_, _, ob, xs, rfl⟩ := hH b u qb
          obtain ⟨e1, _⟩ := hok b _ qb
          obtain ⟨e2, _⟩ := hok2 b _ (hun.frzs b ob _ qb)
          rw [e] at e1
          cases e1
          exact e2
  have len1 : (ns.map V.int).length ≤ sizeLine := by rw [List.length_map]; exact hl
  cases hk : K.lookup a with
  | some o =>
    have e := KX a o hk
    rw [ha] at e
    cases e
    exact main (fun _ => none) (fun b u z => by cases z) (.inr ⟨vs, _, hk, len1, rv⟩) fun b u z => by cases z
  | none =>
    refine main (upd (fun _ => none) a (.frz { cls := .type "list", data := .seq vs.toArray } (.lst (ns.map V.int)))) (fun b u z => ?_) (.inl ⟨_, upd_same⟩) fun b u z => ?_
    · by_cases hb : b = a
      · subst hb
        rw [upd_same] at z
        cases z
        exact ⟨rfl, hk, _, _, rfl⟩
      · rw [upd_ne hb] at z
        cases z
    · by_cases hb : b = a
      · subst hb
        rw [upd_same] at z
        cases z
        exact ⟨ha, len1, vs, _, rv, ha⟩
      · rw [upd_ne hb] at z
        cases z
/-- the goal that k_head leaves -/
theorem walkG {l : PySem.W.OpenLaw} {n k : Nat} {q : Program} {loose : List Str} {XP : (Str → Option Value) → Heap → Prop} {YP : World → Heap → Prop} {d : DefRec} {K : Params → PySem.W.Frag} {sp : World → Sp} {x : Str}
    (hn : l.most = some n) (hn2 : n ≤ sizeLine) (hdf : d.params.defaults = []) (hr : Room k callerA) (hY : ∀ (w : World) (h : Heap), YP w h → (K w.params).In h)
    (F : ∀ (w : World) (mg : Str → Option Value) (fa : Addr) (h : Heap), (K w.params).In h → h.Ns mainGlobals mg → mg d.name = some (.ref fa) →
      ∃ fd : FuncData, (∀ (s : Shared) (u : Value), BindsTo s fd ⟨[u], []⟩ [(x, u)]) ∧ ∀ base : Heap, (K w.params).In base → base.Ns mainGlobals mg → FnG l.prog w (K w.params) mg base CX0 k fa fd [x] (sp w))
    (hsp : ∀ (w : World) (H : Hp) (a : Addr) (ns : List Int), ns.length ≤ n → Lz (K w.params) H a (ns.map V.int) → sp w [.ref a] H (fun v _ => v = .bl true) L2.E0) :
    PySem.W.WalkO q loose XP YP l.row.toRowW d [] (fun f vs => PySem.call f vs) := by
  refine Att.attach_call hn hdf fun w s0 s1 mg mb fa o pm cd doc a vs ns G Y ho hd hcd hmg hobj hints hlen hg => ?_
  obtain ⟨fd, hb, hF⟩ := F w mg fa _ (hY w _ Y) G.T.g hmg
  exact law_callG (hY w _ Y) G.T.g G.T.b G.T.builtins G.T.nolimit hg hobj hints (Nat.le_trans hlen hn2) hr hF hb fun H hS => hsp w H a ns hlen hS
end DL
set_option Elab.async false
set_option linter.all false
set_option maxRecDepth 100000
set_option maxHeartbeats 1000000
/-! DL4: comprehensions as expressions; calls of defs; a def's promise by its denotation; lists that are written. -/
namespace DL
open PySem PySem.Spec L2
open PyProof.Rows hiding St

section
variable {X : Cx} {H0 : HT} {io : Option Addr} {E : XK} {elt tg iter a c e : Expr} {es ifs : List Expr} {scope : Scope} {own : List (Str × Nat)} {wi : TI} {I A : DFL} {t1 : TG} {ws : List Nat} {g : DG} {tt : TT} {C : DFB} {t te : TE} {ts : TA} {F : DF} {pos : Pos}
/-- the tests of a comprehension -/
structure CM (X : Cx) (H0 : HT) (io : Option Addr) (ifs : List Expr) (t : TT) (F : DFB) : Prop where
  pt : PTs X ifs t
  dn : DenT X.K X.w H0 io t F
theorem cm_nil : CM X H0 io [] tYes bYes := ⟨pts_nil, fun σ H ρ b ρ' R g Q q => by
  cases g
  exact q H R (.refl H)⟩
theorem cm_one (h : TM X H0 io c tt C) : CM X H0 io [c] tt C := ⟨pts_one h.pt, h.dn⟩
theorem pf_lc (hc : X.calm = true) (hN : X.N.Nodup) (ok : BlkOk X.N X.env.scope scope own) (hi : IM X H0 io tg iter wi I)
    (hg : ∀ (H0 : HT) (s : Shared) (H : Hp) (Ca : Addr) (cl : List (Str × Addr)) (fp : List Addr), GM (X.blk s H scope (compEnvC scope cl Ca X.env) fp) H0 io tg t1 ws g)
    (ht : ∀ (H0 : HT) (s : Shared) (H : Hp) (Ca : Addr) (cl : List (Str × Addr)) (fp : List Addr), CM (X.blk s H scope (compEnvC scope cl Ca X.env) fp) H0 io ifs tt C)
    (he : ∀ (H0 : HT) (s : Shared) (H : Hp) (Ca : Addr) (cl : List (Str × Addr)) (fp : List Addr), PM (X.blk s H scope (compEnvC scope cl Ca X.env) fp) H0 io elt te F)
    (hv : io = none ∨ 0 ∉ own.map (·.2) := by first | exact .inl rfl | exact .inr (by decide)) (hw : ∀ i ∈ ws, i ∈ own.map (·.2) := by decide) (hs : ∀ x, foldedSetIterable iter X.env x = pure x := by intro _; rfl) :
    PF X H0 io (.ListComp elt [⟨tg, iter, ifs, 0⟩] scope pos) (tLc wi t1 tt te (own.map (·.2))) (lComp (own.map (·.2)) I g C F) :=
  ⟨pe_lc hc hN hi.pi ok (fun s H C cl fp => (hg ⟨X.H_0, []⟩ s H C cl fp).pg) (fun s H C cl fp => (ht ⟨X.H_0, []⟩ s H C cl fp).pt) (fun s H C cl fp => (he ⟨X.H_0, []⟩ s H C cl fp).pe) hs,
   den_lc hi.dn (fun H0 => (hg H0 X.s_0 X.H_0 0 [] []).dn) (fun H0 => (ht H0 X.s_0 X.H_0 0 [] []).dn) (fun H0 => (he H0 X.s_0 X.H_0 0 [] []).dn) hv hw⟩
/-- y = [..] -/
theorem sm_setLc (i : Nat) {y : Str} {py spos : Pos} (hc : X.calm = true) (hN : X.N.Nodup) (ok : BlkOk X.N X.env.scope scope own) (hi : IM X H0 io tg iter wi I)
    (hg : ∀ (H0 : HT) (s : Shared) (H : Hp) (Ca : Addr) (cl : List (Str × Addr)) (fp : List Addr), GM (X.blk s H scope (compEnvC scope cl Ca X.env) fp) H0 io tg t1 ws g)
    (ht : ∀ (H0 : HT) (s : Shared) (H : Hp) (Ca : Addr) (cl : List (Str × Addr)) (fp : List Addr), CM (X.blk s H scope (compEnvC scope cl Ca X.env) fp) H0 io ifs tt C)
    (he : ∀ (H0 : HT) (s : Shared) (H : Hp) (Ca : Addr) (cl : List (Str × Addr)) (fp : List Addr), PM (X.blk s H scope (compEnvC scope cl Ca X.env) fp) H0 io elt te F)
    (hy : X.N[i]? = some y := by rfl) (hyl : X.env.scope.names.lookup y = some .local := by rfl) (hsw : swapsWith (.ListComp elt [⟨tg, iter, ifs, 0⟩] scope pos) (some (.Name y py)) spos.line X.env = pure true := by exact sw_true rfl rfl rfl (by decide +kernel))
    (ho : io = none ∨ i ≠ 0 := by first | exact .inl rfl | exact .inr (by decide))
    (hv : io = none ∨ 0 ∉ own.map (·.2) := by first | exact .inl rfl | exact .inr (by decide)) (hw : ∀ i ∈ ws, i ∈ own.map (·.2) := by decide) (hs : ∀ x, foldedSetIterable iter X.env x = pure x := by intro _; rfl) :
    SM X H0 io E (.Assign [.Name y py] (.ListComp elt [⟨tg, iter, ifs, 0⟩] scope pos) spos) (tAsg (tLc wi t1 tt te (own.map (·.2))) (gName i)) (sOwn i (lComp (own.map (·.2)) I g C F)) :=
  ⟨ps_setLc hc hN hy hyl hsw hi.pi ok (fun s H C cl fp => (hg ⟨X.H_0, []⟩ s H C cl fp).pg) (fun s H C cl fp => (ht ⟨X.H_0, []⟩ s H C cl fp).pt) (fun s H C cl fp => (he ⟨X.H_0, []⟩ s H C cl fp).pe) hs,
   sden_own (den_lc hi.dn (fun H0 => (hg H0 X.s_0 X.H_0 0 [] []).dn) (fun H0 => (ht H0 X.s_0 X.H_0 0 [] []).dn) (fun H0 => (he H0 X.s_0 X.H_0 0 [] []).dn) hv hw) ho⟩

/-! ### promises by denotations -/
/-- data in, data out -/
def spD (K : PySem.W.Frag) (W0 : World) (F : List PyData → Option PyData) : Sp := fun vs H Q _ => ∃ ds d, DzAll K W0 H vs ds ∧ F ds = some d ∧ ∀ v H', Same H H' → Dz K W0 H' v d → Q v H'
/-- the first argument a list that is written -/
def spI (K : PySem.W.Frag) (W0 : World) (F : List PyData → List PyData → Option (PyData × List PyData)) : Sp := fun vs H Q _ => ∃ p ws xv xs ds d xs', vs = .ref p :: ws ∧ H p = some (.lst xv) ∧ DzAll K W0 H xv xs ∧ DzAll K W0 H ws ds ∧ F xs ds = some (d, xs') ∧
  ∀ v H' xv', (∀ b o, b ≠ p → H b = some o → H' b = some o) → Stay H H' → H' p = some (.lst xv') → DzAll K W0 H' xv' xs' → Dz K W0 H' v d → Q v H'
inductive Rs where
  | ok (d : PyData) | er (c : Str) (d : PyData)
/-- data in, data or an error out -/
def spX (K : PySem.W.Frag) (W0 : World) (mg : Str → Option Value) (F : List PyData → Option Rs) : Sp := fun vs H Q E => ∃ ds r, DzAll K W0 H vs ds ∧ F ds = some r ∧ match r with
  | .ok d => ∀ v H', Same H H' → Dz K W0 H' v d → Q v H'
  | .er c d => ∀ (C dx : Addr) (v : V) (H' : Hp), mg c = some (.ref C) → Same H H' → H dx = none → H' dx = some (.xd [("value", v)]) → Dz K W0 H' v d → E (.ref C) (some dx) H'
/-- what a callee may let out is either nothing or as CX says -/
def CxIs (P : Program) (w : World) (CX : CXT) : Prop := CX = CX0 ∨ CX = L2.CX P w
theorem passC {X : Cx} {CX : CXT} (h : CxIs X.prog X.w CX) : Passes CX X L2.E0 := by
  rcases h with rfl | rfl
  · exact pass0
  · exact passL
section
variable (P : Program) (w : World) (K : PySem.W.Frag) (mg : Str → Option Value) (base : Heap)
/-- the def x keeps sp, at most k deep -/
structure KOk (x : Str) (k : Nat) (sp : Sp) : Prop where
  ex : ∃ (CX : CXT) (f : Addr) (fd : FuncData) (ps : List Str), CxIs P w CX ∧ FnG P w K mg base CX k f fd ps sp ∧ mg x = some (.ref f) ∧ PySem.W.keepIn K (.ref f) = true ∧ Binds K fd ps []
abbrev DOk (x : Str) (k : Nat) (F : List PyData → Option PyData) : Prop := KOk P w K mg base x k (spD K w F)
abbrev IOk (x : Str) (k : Nat) (F : List PyData → List PyData → Option (PyData × List PyData)) : Prop := KOk P w K mg base x k (spI K w F)
abbrev XOk (x : Str) (k : Nat) (F : List PyData → Option Rs) : Prop := KOk P w K mg base x k (spX K w mg F)
end
theorem KOk.imp {P : Program} {w : World} {K : PySem.W.Frag} {mg : Str → Option Value} {base : Heap} {x : Str} {j k : Nat} {sp sp' : Sp} (h : KOk P w K mg base x j sp) (hk : j ≤ k) (hs : ∀ vs H Q E, sp' vs H Q E → sp vs H Q E) : KOk P w K mg base x k sp' := by
  obtain ⟨CX, f, fd, ps, a, b, c⟩ := h
  exact ⟨CX, f, fd, ps, a, (b.mono hk).imp hs, c⟩
/-- where no error comes -/
def okOf (F : List PyData → Option Rs) : List PyData → Option PyData := fun ds => match F ds with
  | some (.ok d) => some d
  | _ => none
theorem XOk.dok {P : Program} {w : World} {K : PySem.W.Frag} {mg : Str → Option Value} {base : Heap} {x : Str} {k : Nat} {F : List PyData → Option Rs} (h : XOk P w K mg base x k F) : DOk P w K mg base x k (okOf F) :=
  h.imp (Nat.le_refl _) fun vs H Q E ⟨ds, d, a, f, q⟩ => by
    unfold okOf at f
    split at f
    · rename_i d' e
      cases f
      exact ⟨ds, .ok d, a, e, q⟩
    · cases f
theorem DOk.weak {P : Program} {w : World} {K : PySem.W.Frag} {mg : Str → Option Value} {base : Heap} {x : Str} {k : Nat} {F F' : List PyData → Option PyData} (h : DOk P w K mg base x k F) (e : ∀ ds d, F' ds = some d → F ds = some d) : DOk P w K mg base x k F' :=
  h.imp (Nat.le_refl _) fun vs H Q E ⟨ds, d, a, f, q⟩ => ⟨ds, d, a, e ds d f, q⟩
theorem IOk.weak {P : Program} {w : World} {K : PySem.W.Frag} {mg : Str → Option Value} {base : Heap} {x : Str} {k : Nat} {F F' : List PyData → List PyData → Option (PyData × List PyData)} (h : IOk P w K mg base x k F) (e : ∀ xs ds d, F' xs ds = some d → F xs ds = some d) : IOk P w K mg base x k F' :=
  h.imp (Nat.le_refl _) fun vs H Q E ⟨p, ws, xv, xs, ds, d, xs', a, b, c, z, f, q⟩ => ⟨p, ws, xv, xs, ds, d, xs', a, b, c, z, e _ _ _ f, q⟩

theorem den_kcall {K : PySem.W.Frag} {W0 : World} {f : List PyData → Option PyData} (h : DenA K W0 H0 io ts A) : Den K W0 H0 io (tCall (spD K W0 f) [] L2.E0 ts) (dCall f A) := fun σ H ρ d ρ' R g Q q => by
  unfold dCall at g
  cases fa : A ρ with
  | none => rw [fa] at g; cases g
  | some p =>
    obtain ⟨x, ρ1⟩ := p
    rw [fa] at g
    simp only [Option.bind_some] at g
    cases fz : f x with
    | none => rw [fz] at g; cases g
    | some z =>
      rw [fz] at g
      cases g
      refine h σ H ρ _ _ R fa _ fun vs H1 R1 s1 z1 => ?_
      exact ⟨x, _, by rw [List.append_nil]; exact z1, fz, fun r H3 sm z3 => q r H3 (R1.same sm) (s1.trans (.of sm)) z3⟩
theorem pm_call {x : Str} {p : Pos} {j k : Nat} {f : List PyData → Option PyData} (G : DOk X.prog X.w X.K X.mg X.base x j f) (hr : RoomG k X.A) (ha : AM X H0 io (a :: es) ts A) (hk : j ≤ k := by decide) (hg : Gl X x := by rfl)
    (hdb : (x == ("__debug__" : Str)) = false := by decide) (he : starEach (a :: es) X.env = (false, eval a X.env) :: starEach es X.env := by rfl) (hpl : (backTo pos (starEach es X.env)).any (·.1) = false := by rfl) :
    PM X H0 io (.Call (.Name x p) (a :: es) [] pos) (tCall (spD X.K X.w f) [] L2.E0 ts) (dCall f A) := by
  obtain ⟨CX, fa, fd, ps, c, F, hm, kp, hb⟩ := G
  exact ⟨pe_callG F (hr.mono hk) hg hm kp hb (passC c) ha.pa hdb he hpl, den_kcall ha.dn⟩
theorem pm_call0 {x : Str} {p : Pos} {j k : Nat} {f : List PyData → Option PyData} (G : DOk X.prog X.w X.K X.mg X.base x j f) (hr : RoomG k X.A) (hk : j ≤ k := by decide) (hg : Gl X x := by rfl)
    (hdb : (x == ("__debug__" : Str)) = false := by decide) : PM X H0 io (.Call (.Name x p) [] [] pos) (tCall (spD X.K X.w f) [] L2.E0 tNil) (dCall f aNil) := by
  obtain ⟨CX, fa, fd, ps, c, F, hm, kp, hb⟩ := G
  exact ⟨pe_callG0 F (hr.mono hk) hg hm kp hb (passC c) hdb, den_kcall fun σ H ρ ds ρ' R g Q q => by cases g; exact q [] H R (.refl H) .nil⟩
/-- f(x, ..), x a list of its own in slot i -/
def dCallI (f : List PyData → List PyData → Option (PyData × List PyData)) (i : Nat) (A : DFL) : DF := fun ρ => (ownE ρ i).bind fun _ => (A ρ).bind fun p => (ownE p.2 i).bind fun xs => (f xs p.1).map fun z => (z.1, p.2.set i (.own z.2))
theorem ownE_some {ρ : En} {i : Nat} {xs : List PyData} (h : ownE ρ i = some xs) : ρ[i]? = some (.own xs) := by
  unfold ownE at h
  split at h
  · rename_i ds e
    cases h; exact e
  · cases h
theorem SR.iow {K : PySem.W.Frag} {W0 : World} {H H' : Hp} {σ : L2.St} {ρ : En} {i : Nat} {p : Addr} {ds es : List PyData} {ws : List V} (R : SR K W0 H0 io σ H ρ) (hi : ρ[i]? = some (.own ds)) (hσ : σ[i]? = some (some (.ref p))) (k : ∀ b o, b ≠ p → H b = some o → H' b = some o)
    (st : Stay H H') (hp : H' p = some (.lst ws)) (hd : DzAll K W0 H' ws es) : SR K W0 H0 io σ H' (ρ.set i (.own es)) := by
  obtain ⟨p', vs, a, b, c, d⟩ := R.own i ds hi
  rw [hσ] at a; cases a
  have hl : i < ρ.length := (List.getElem?_eq_some_iff.mp hi).1
  refine ⟨by simp [R.len], fun c o e n => ?_, fun j e q => ?_, fun j e q => ?_, fun j k ds' es' q hn q1 q2 e => ?_, R.iop, fun p2 h2 => ?_, tabs_but R.tb b k, R.nt⟩
  · by_cases hc : c = p
    · subst hc
      rcases d with d | d
      · rw [d] at e; cases e
      · exact absurd d n
    · exact k _ _ hc (R.keep c o e n)
  · by_cases hj : i = j
    · subst hj
      rw [List.getElem?_set_self hl] at q
      cases q
    · rw [List.getElem?_set_ne hj] at q
      obtain ⟨w, a, b⟩ := R.dat j e q
      exact ⟨w, a, b.mono st⟩
  · by_cases hj : i = j
    · subst hj
      rw [List.getElem?_set_self hl] at q
      cases q
      exact ⟨p, ws, hσ, hp, hd, d⟩
    · rw [List.getElem?_set_ne hj] at q
      obtain ⟨p', vs', a', b', c', d'⟩ := R.own j e q
      have hne : p' ≠ p := fun z => by
        subst z
        exact R.dst i j _ _ p' hj hi q hσ a'
      exact ⟨p', vs', a', k _ _ hne b', c'.mono st, d'⟩
  · have q1' : ∃ es, ρ[j]? = some (.own es) := by
      by_cases hj : i = j
      · subst hj; exact ⟨_, hi⟩
      · rw [List.getElem?_set_ne hj] at q1; exact ⟨_, q1⟩
    have q2' : ∃ es, ρ[k]? = some (.own es) := by
      by_cases hj : i = k
      · subst hj; exact ⟨_, hi⟩
      · rw [List.getElem?_set_ne hj] at q2; exact ⟨_, q2⟩
    obtain ⟨f1, r1⟩ := q1'
    obtain ⟨f2, r2⟩ := q2'
    exact R.dst j k f1 f2 q hn r1 r2 e
  · by_cases hc : p2 = p
    · subst hc; exact ⟨_, hp, fun _ z => by cases z⟩
    · obtain ⟨o, q, n⟩ := R.ioh p2 h2
      exact ⟨o, k _ _ hc q, n⟩
theorem pm_callI (i : Nat) {x y : Str} {p p2 : Pos} {j k : Nat} {f : List PyData → List PyData → Option (PyData × List PyData)} (G : IOk X.prog X.w X.K X.mg X.base x j f) (hr : RoomG k X.A) (ha : AM X H0 io es ts A) (hk : j ≤ k := by decide) (hg : Gl X x := by rfl)
    (hN : X.N[i]? = some y := by rfl) (hv : Vis X.env.scope y := by first | exact Or.inl rfl | exact Or.inr (Or.inl rfl) | exact Or.inr (Or.inr rfl)) (hd : (y == ("__debug__" : Str)) = false := by decide)
    (hcd : (y == ("__classdict__" : Str)) = false := by decide)
    (hdb : (x == ("__debug__" : Str)) = false := by decide) (he : starEach (.Name y p2 :: es) X.env = (false, eval (.Name y p2) X.env) :: starEach es X.env := by rfl) (hpl : (backTo pos (starEach es X.env)).any (·.1) = false := by rfl) :
    PM X H0 io (.Call (.Name x p) (.Name y p2 :: es) [] pos) (tCall (spI X.K X.w f) [] L2.E0 (tCons (tVar i) ts)) (dCallI f i A) := by
  obtain ⟨CX, fa, fd, ps, c, F, hm, kp, hb⟩ := G
  refine ⟨pe_callG F (hr.mono hk) hg hm kp hb (passC c) (pa_cons (pe_var hN hv hd hcd) ha.pa he) hdb he hpl, fun σ H ρ d ρ' R g Q q => ?_⟩
  unfold dCallI at g
  cases fo : ownE ρ i with
  | none => rw [fo] at g; cases g
  | some xs0 =>
    rw [fo] at g
    simp only [Option.bind_some] at g
    cases fb : A ρ with
    | none => rw [fb] at g; cases g
    | some p =>
      obtain ⟨ds, ρ1⟩ := p
      rw [fb] at g
      simp only [Option.bind_some] at g
      cases fx : ownE ρ1 i with
      | none => rw [fx] at g; cases g
      | some xs =>
        rw [fx] at g
        simp only [Option.bind_some] at g
        cases fz : f xs ds with
        | none => rw [fz] at g; cases g
        | some z =>
          obtain ⟨z, xs'⟩ := z
          rw [fz] at g
          cases g
          obtain ⟨pp, vs0, h1, _⟩ := R.own i xs0 (ownE_some fo)
          refine ⟨.ref pp, h1, ?_⟩
          refine ha.dn σ H ρ _ _ R fb _ fun vs H1 R1 s1 z1 => ?_
          obtain ⟨pp', xv, h2, h3, h4, h5⟩ := R1.own i xs (ownE_some fx)
          rw [h1] at h2
          cases h2
          refine ⟨pp, vs, xv, xs, ds, z, xs', by rw [List.append_nil], h3, h4, z1, fz, fun v H' xv' k' st hp hd hz => ?_⟩
          exact q v H' (R1.iow (ownE_some fx) h1 k' st hp hd) (s1.trans st) hz
end

/-! ### a def's promise -/
def en0 (n : Nat) (ds : List PyData) : En := ds.map .dat ++ List.replicate (n - ds.length) .emp
def en1 (n : Nat) (xs : List PyData) (ds : List PyData) : En := .own xs :: (ds.map .dat ++ List.replicate (n - (ds.length + 1)) .emp)
theorem sr_start {K : PySem.W.Frag} {W0 : World} {H : Hp} {vs : List V} {ds : List PyData} {N : List Str} (h : DzAll K W0 H vs ds) : SR K W0 ⟨H, []⟩ none (L2.start N vs) H (en0 N.length ds) where
  len := by simp [L2.start, en0, h.len]
  keep := fun _ _ e _ => e
  dat := fun i d q => by
    unfold en0 at q
    by_cases hi : i < ds.length
    · rw [List.getElem?_append_left (by simpa using hi), List.getElem?_map, List.getElem?_eq_getElem hi] at q
      simp only [Option.map_some, Option.some.injEq, SV.dat.injEq] at q
      obtain ⟨v, a, b⟩ := h.get (i := i) (d := d) (by rw [List.getElem?_eq_getElem hi, q])
      refine ⟨v, ?_, b⟩
      unfold L2.start
      have hv : i < vs.length := by rw [h.len]; exact hi
      rw [List.getElem?_append_left (by simpa using hv), List.getElem?_map, a]
      rfl
    · rw [List.getElem?_append_right (by simpa using hi)] at q
      have := List.mem_of_getElem? q
      have := List.eq_of_mem_replicate this
      cases this
  own := fun i d q => by
    unfold en0 at q
    by_cases hi : i < ds.length
    · rw [List.getElem?_append_left (by simpa using hi), List.getElem?_map, List.getElem?_eq_getElem hi] at q
      simp only [Option.map_some, Option.some.injEq] at q
      cases q
    · rw [List.getElem?_append_right (by simpa using hi)] at q
      have := List.mem_of_getElem? q
      have := List.eq_of_mem_replicate this
      cases this
  dst := fun i j d es p _ q _ => by
    unfold en0 at q
    by_cases hi : i < ds.length
    · rw [List.getElem?_append_left (by simpa using hi), List.getElem?_map, List.getElem?_eq_getElem hi] at q
      simp only [Option.map_some, Option.some.injEq] at q
      cases q
    · rw [List.getElem?_append_right (by simpa using hi)] at q
      have := List.mem_of_getElem? q
      have := List.eq_of_mem_replicate this
      cases this
  iop := fun _ e => by cases e
  ioh := fun _ e => by cases e
  tb := fun p hp => by cases hp
  nt := fun h => absurd rfl h
theorem sr_start1 {K : PySem.W.Frag} {W0 : World} {H : Hp} {p : Addr} {vs xv : List V} {xs ds : List PyData} {N : List Str} (hp : H p = some (.lst xv)) (hx : DzAll K W0 H xv xs) (h : DzAll K W0 H vs ds) (hN : vs.length + 1 ≤ N.length) : SR K W0 ⟨H, []⟩ (some p) (L2.start N (.ref p :: vs)) H (en1 N.length xs ds) := by
  have hs : L2.start N (.ref p :: vs) = some (.ref p) :: (vs.map some ++ List.replicate (N.length - (vs.length + 1)) none) := by simp [L2.start]
  have hen : ∀ (i : Nat) (x : SV), (ds.map SV.dat ++ List.replicate (N.length - (ds.length + 1)) SV.emp)[i]? = some x → x = .emp ∨ ∃ d v, x = .dat d ∧ (vs.map some ++ List.replicate (N.length - (vs.length + 1)) none)[i]? = some (some v) ∧ Dz K W0 H v d := by
    intro i x q
    by_cases hi : i < ds.length
    · rw [List.getElem?_append_left (by simpa using hi), List.getElem?_map, List.getElem?_eq_getElem hi] at q
      simp only [Option.map_some, Option.some.injEq] at q
      obtain ⟨v, a, b⟩ := h.get (i := i) (d := ds[i]) (List.getElem?_eq_getElem hi)
      refine .inr ⟨_, v, q.symm, ?_, b⟩
      have hv : i < vs.length := by rw [h.len]; exact hi
      rw [List.getElem?_append_left (by simpa using hv), List.getElem?_map, a]
      rfl
    · rw [List.getElem?_append_right (by simpa using hi)] at q
      exact .inl (List.eq_of_mem_replicate (List.mem_of_getElem? q))
  rw [hs]
  unfold en1
  refine ⟨by simp [h.len], fun _ _ e _ => e, fun i d q => ?_, fun i d q => ?_, fun i j d es p' hn q1 q2 => ?_, fun p' e => ?_, fun p' e => ?_, (fun p hp => by cases hp), fun h => absurd rfl h⟩
  · cases i with
    | zero => cases q
    | succ i =>
      rcases hen i _ q with z | ⟨d', v, z, a, b⟩
      · cases z
      · cases z
        exact ⟨v, a, b⟩
  · cases i with
    | zero => cases q; exact ⟨p, xv, rfl, hp, hx, .inr rfl⟩
    | succ i =>
      rcases hen i _ q with z | ⟨d', v, z, a, b⟩ <;> cases z
  · cases i with
    | succ i => rcases hen i _ q1 with z | ⟨d', v, z, a, b⟩ <;> cases z
    | zero =>
      cases j with
      | zero => exact absurd rfl hn
      | succ j => rcases hen j _ q2 with z | ⟨d', v, z, a, b⟩ <;> cases z
  · cases e; rfl
  · cases e; exact ⟨_, hp, fun _ z => by cases z⟩

/-- what is kept of a heap where tables T are told of -/
def ntAt : Option HO → Option HO
  | some (.tbl _) => none
  | x => x
theorem ntAt_sub {x : Option HO} {o : HO} (h : ntAt x = some o) : x = some o := by
  unfold ntAt at h
  split at h
  · cases h
  · exact h
theorem ntAt_keep {o : HO} (n : ∀ ps, o ≠ .tbl ps) : ntAt (some o) = some o := by
  unfold ntAt
  split
  · rename_i ps e
    cases e
    exact absurd rfl (n ps)
  · rfl
theorem ntAt_nt {x : Option HO} {ps : Array Value} : ntAt x ≠ some (.tbl ps) := fun h => by
  unfold ntAt at h
  split at h
  · cases h
  · rename_i q
    exact q ps h
def noTbl : List (Addr × Str) → Hp → Hp
  | [], H => H
  | _ :: _, H => fun b => ntAt (H b)
def htOf (T : List (Addr × Str)) (H : Hp) : HT := ⟨noTbl T H, T⟩
theorem noTbl_sub {T : List (Addr × Str)} {H : Hp} {b : Addr} {o : HO} (h : noTbl T H b = some o) : H b = some o := by
  cases T with
  | nil => exact h
  | cons a r => exact ntAt_sub h
theorem noTbl_keep {T : List (Addr × Str)} {H : Hp} {b : Addr} {o : HO} (h : H b = some o) (n : ∀ ps, o ≠ .tbl ps) : noTbl T H b = some o := by
  cases T with
  | nil => exact h
  | cons a r =>
    show ntAt (H b) = some o
    rw [h]
    exact ntAt_keep n
theorem noTbl_nt {T : List (Addr × Str)} {H : Hp} (hT : T ≠ []) (b : Addr) (ps : Array Value) : noTbl T H b ≠ some (.tbl ps) := by
  cases T with
  | nil => exact absurd rfl hT
  | cons a r => exact ntAt_nt
theorem SR.toT {K : PySem.W.Frag} {W0 : World} {H H' : Hp} {io : Option Addr} {σ : L2.St} {ρ : En} {T : List (Addr × Str)} (R : SR K W0 ⟨H, []⟩ io σ H' ρ) (t : LamX.Tabs T H') : SR K W0 (htOf T H) io σ H' ρ where
  len := R.len
  keep := fun b o e n => R.keep b o (noTbl_sub e) n
  dat := R.dat
  own := fun i ds e => let ⟨p, vs, a, b, c, d⟩ := R.own i ds e; ⟨p, vs, a, b, c, d.imp (fun z => by
    cases q : noTbl T H p with
    | none => exact q
    | some o =>
      have := noTbl_sub q
      rw [show H p = none from z] at this
      cases this) id⟩
  dst := R.dst
  iop := R.iop
  ioh := R.ioh
  tb := t
  nt := noTbl_nt
/-- new tables, all else kept -/
theorem SR.ext {K : PySem.W.Frag} {W0 : World} {H0 : HT} {H H' : Hp} {io : Option Addr} {σ : L2.St} {ρ : En} (R : SR K W0 H0 io σ H ρ) (hT : H0.tabs ≠ []) (e : LamX.ExtN H H') (t : LamX.Tabs H0.tabs H') : SR K W0 H0 io σ H' ρ := by
  have st : Stay H H' := ⟨fun a xs h => e _ _ h fun _ z => (by cases z), fun a o u h => e _ _ h fun _ z => (by cases z)⟩
  exact ⟨R.len, fun b o h n => e b o (R.keep b o h n) fun ps z => R.nt hT b ps (by rw [h, z]), fun i d h => let ⟨v, a, b⟩ := R.dat i d h; ⟨v, a, b.mono st⟩,
    fun i ds h => let ⟨p, vs, a, b, c, d⟩ := R.own i ds h; ⟨p, vs, a, e _ _ b (fun _ z => by cases z), c.mono st, d⟩, R.dst, R.iop, fun p h => let ⟨o, q, n⟩ := R.ioh p h; ⟨o, e _ _ q n, n⟩, t, R.nt⟩

section
variable {P : Program} {w : World} {K : PySem.W.Frag} {mg : Str → Option Value} {base : Heap} {x : Str} {st : Stmt} {f : Addr} {fd : FuncData} {N ps : List Str} {k : Nat} {S : DS}
/-- what a body ends in -/
def ends (d : PyData) : Out → Prop
  | .rt d' _ => d' = d
  | .nx _ => d = .none
  | _ => False
theorem dok_mk {F : List PyData → Option PyData} (Fn : Fun K x x st f fd) (hm : mg x = some (.ref f)) (hb : Binds K fd ps []) (sc : FnScope N ps (defScope st))
    (hbody : ∀ (cdv : Value) (A : Around) (outer : List Env) (s : Shared) (H : Hp) (E : XK), RoomG k (A.deeper (envOfC x (defScope st) s.heap.objs.size f cdv)) → ∃ t, SMs (cxOf CX0 P w K mg base N x (defScope st) f cdv A outer s H E).nox ⟨H, []⟩ none E (defBody st) t S)
    (hF : ∀ ds d, F ds = some d → ds.length = ps.length ∧ ∃ o, S (en0 N.length ds) = some o ∧ ends d o) : DOk P w K mg base x (k + 1) F := by
  refine ⟨CX0, f, fd, ps, .inl rfl, okG Fn sc (fun vs H Q E ⟨ds, d, a, e, _⟩ => by rw [a.len]; exact (hF ds d e).1) (fun cdv A outer s H vs Q E hr ⟨ds, d, a, e, q⟩ => ?_), hm, Fn.kp, hb⟩
  obtain ⟨t, B⟩ := hbody cdv A outer s H E hr
  obtain ⟨hl, o, ho, hend⟩ := hF ds d e
  refine ⟨t, B.ps, B.dn _ H _ o (sr_start a) ho _ ?_⟩
  cases o with
  | rt d' ρ => cases hend; exact fun v σ' H' R _ z => q v H' (fun b o e => R.keep b o e (by simp)) z
  | nx ρ => cases hend; exact fun σ' H' R _ => q .non H' (fun b o e => R.keep b o e (by simp)) .non
  | _ => exact hend.elim
theorem xok_mk {F : List PyData → Option Rs} (Fn : Fun K x x st f fd) (hm : mg x = some (.ref f)) (hb : Binds K fd ps []) (sc : FnScope N ps (defScope st))
    (hbody : ∀ (cdv : Value) (A : Around) (outer : List Env) (s : Shared) (H : Hp) (E : XK), RoomG k (A.deeper (envOfC x (defScope st) s.heap.objs.size f cdv)) → ∃ t, SMs (cxOf (L2.CX P w) P w K mg base N x (defScope st) f cdv A outer s H E) ⟨H, []⟩ none E (defBody st) t S)
    (hF : ∀ ds r, F ds = some r → ds.length = ps.length ∧ ∃ o, S (en0 N.length ds) = some o ∧ match r with | .ok d => ends d o | .er c d => o = .ex c d) : XOk P w K mg base x (k + 1) F := by
  refine ⟨L2.CX P w, f, fd, ps, .inr rfl, okGX Fn sc (fun vs H Q E ⟨ds, r, a, e, _⟩ => by rw [a.len]; exact (hF ds r e).1) (fun cdv A outer s H vs Q E hr ⟨ds, r, a, e, q⟩ => ?_), hm, Fn.kp, hb⟩
  obtain ⟨t, B⟩ := hbody cdv A outer s H E hr
  obtain ⟨hl, o, ho, hend⟩ := hF ds r e
  refine ⟨t, B.ps, B.dn _ H _ o (sr_start a) ho _ ?_⟩
  cases r with
  | ok d =>
    cases o with
    | rt d' ρ => cases hend; exact fun v σ' H' R _ z => q v H' (fun b o e => R.keep b o e (by simp)) z
    | nx ρ => cases hend; exact fun σ' H' R _ => q .non H' (fun b o e => R.keep b o e (by simp)) .non
    | _ => exact hend.elim
  | er c d =>
    cases hend
    exact fun C dx v H' h1 h2 _ h0 h3 h4 => q C dx v H' h1 (fun b o e => h2 b o e (by simp)) h0 h3 h4
theorem iok_mk {F : List PyData → List PyData → Option (PyData × List PyData)} (Fn : Fun K x x st f fd) (hm : mg x = some (.ref f)) (hb : Binds K fd ps []) (sc : FnScope N ps (defScope st))
    (hbody : ∀ (cdv : Value) (A : Around) (outer : List Env) (s : Shared) (H : Hp) (E : XK) (p : Addr), RoomG k (A.deeper (envOfC x (defScope st) s.heap.objs.size f cdv)) → ∃ t, SMs (cxOf CX0 P w K mg base N x (defScope st) f cdv A outer s H E).nox ⟨H, []⟩ (some p) E (defBody st) t S)
    (hF : ∀ xs ds d xs', F xs ds = some (d, xs') → ds.length + 1 = ps.length ∧ ∃ ρ, S (en1 N.length xs ds) = some (.rt d ρ) ∧ ρ[0]? = some (.own xs')) : IOk P w K mg base x (k + 1) F := by
  refine ⟨CX0, f, fd, ps, .inl rfl, okG Fn sc (fun vs H Q E ⟨p, ws, xv, xs, ds, d, xs', h1, h2, h3, h4, h5, _⟩ => by subst h1; rw [List.length_cons, h4.len]; exact (hF _ _ _ _ h5).1) (fun cdv A outer s H vs Q E hr ⟨p, ws, xv, xs, ds, d, xs', h1, h2, h3, h4, h5, q⟩ => ?_), hm, Fn.kp, hb⟩
  obtain ⟨t, B⟩ := hbody cdv A outer s H E p hr
  obtain ⟨hl, ρ, ho, h0⟩ := hF _ _ _ _ h5
  subst h1
  have hpl : ps.length ≤ N.length := by
    have := congrArg List.length sc.pre
    rw [List.length_take] at this
    omega
  refine ⟨t, B.ps, B.dn _ H _ _ (sr_start1 h2 h3 h4 (by rw [h4.len]; omega)) ho _ ?_⟩
  exact fun v σ' H' R st z => by
    obtain ⟨p', xv', a, b, c, _⟩ := R.own 0 xs' h0
    have := R.iop p rfl
    rw [this] at a
    cases a
    exact q v H' xv' (fun b o hb e => R.keep b o e (fun z => hb (Option.some.inj z).symm)) st b c z
end

/-! ### lists of its own, written -/
section
variable {X : Cx} {H0 : HT} {io : Option Addr} {E : XK} {a e : Expr} {t : TE} {F : DF} {A : DFL} {pos : Pos}
theorem sden_app {K : PySem.W.Frag} {W0 : World} {mg : Str → Option Value} {i : Nat} (h : Den K W0 H0 io t F) : SDen K W0 mg H0 io E (tDrop (tBM K "list" rAppend (tVar i) (tCons t tNil))) (sApp i F) := fun σ H ρ o R g D q => by
  unfold sApp at g
  cases fo : ownE ρ i with
  | none => rw [fo] at g; cases g
  | some xs0 =>
    rw [fo] at g
    simp only [Option.bind_some] at g
    cases fb : F ρ with
    | none => rw [fb] at g; cases g
    | some p =>
      obtain ⟨d, ρ1⟩ := p
      rw [fb] at g
      simp only [Option.bind_some] at g
      cases fx : ownE ρ1 i with
      | none => rw [fx] at g; cases g
      | some xs =>
        rw [fx] at g
        simp only [Option.bind_some] at g
        split at g
        · rename_i hl
          cases g
          obtain ⟨pp, vs0, h1, h1b, _⟩ := R.own i xs0 (ownE_some fo)
          refine ⟨.ref pp, h1, .inl ⟨rfl, _, .inl (.inl h1b)⟩, ?_⟩
          refine h σ H ρ _ _ R fb _ fun v H1 R1 s1 z1 => ?_
          obtain ⟨pp', xv, h2, h3, h4, h5⟩ := R1.own i xs (ownE_some fx)
          rw [h1] at h2
          cases h2
          refine ⟨pp, xv, v, rfl, rfl, h3, by rw [h4.len, sizeLine_eq]; exact hl, ?_⟩
          exact q σ _ (R1.wr (ownE_some fx) h1 (DzAll.app h4 (.cons z1 .nil))) (s1.trans (.lst h3))
        · cases g
theorem sm_app (i : Nat) {x : Str} {p1 p2 p3 : Pos} (h : PM X H0 io e t F) (hN : X.N[i]? = some x := by rfl) (hv : Vis X.env.scope x := by first | exact Or.inl rfl | exact Or.inr (Or.inl rfl) | exact Or.inr (Or.inr rfl)) (hd : (x == ("__debug__" : Str)) = false := by decide)
    (hcd : (x == ("__classdict__" : Str)) = false := by decide) (hbase : attributeBase (.Name x p1) "append" X.env (eval (.Name x p1) X.env) = eval (.Name x p1) X.env := by rfl)
    (hfew : ((backTo p3 (starEach [e] X.env)).all (fun x => !x.1) && (backToKw p3 (keywordEach [] X.env)).all (fun x => x.1.isSome)
      && decide (([e] : List Expr).length + ([] : List Keyword).length + (if ([] : List Keyword).isEmpty then 0 else 1) < 30)) = true := by rfl)
    (hline : (p2.endLine == p3.line) = true := by rfl) (hs : starEach [e] X.env = (false, eval e X.env) :: starEach [] X.env := by rfl) (hplain : (backTo p3 (starEach [] X.env)).any (·.1) = false := by rfl)
    (hsw : swapsWith (.Call (.Attribute (.Name x p1) "append" p2) [e] [] p3) none pos.line X.env = pure false := by rfl) :
    SM X H0 io E (.Expr (.Call (.Attribute (.Name x p1) "append" p2) [e] [] p3) pos) (tDrop (tBM X.K "list" rAppend (tVar i) (tCons t tNil))) (sApp i F) :=
  ⟨ps_expr (pe_bm PySem.F.plainAttrs_list PySem.F.slot_list_append PySem.F.type_list_append mt_append (pe_var hN hv hd hcd) (pa_cons h.pe pa_nil hs) hbase hfew hline hs hplain) hsw, sden_app h.dn⟩
/-- a list of data, frozen or not, as it lies -/
def Lr (K : PySem.W.Frag) (H : Hp) (a : Addr) (xs : List V) : Prop := H a = some (.lst xs) ∨ Lz K H a xs
theorem Vw.listR {K : PySem.W.Frag} {W0 : World} {H : Hp} {v : V} {ds : List PyData} (h : Vw K W0 H v (.list ds)) : ∃ a vs, v = .ref a ∧ Lr K H a vs ∧ DzAll K W0 H vs ds := by
  rcases h with h | ⟨a, vs, es, rfl, e, h, q⟩
  · cases h with
    | lst h q => exact ⟨_, _, rfl, .inr h, q⟩
  · cases e
    exact ⟨a, vs, rfl, .inl h, q⟩
theorem inv_lstR {pins : List (Addr × Obj)} {σ : L2.St} {H : Hp} {s : Shared} {l : Addr} {xs : List V} (I : Inv X pins σ H s) (hH : Lr X.K H l xs) : xs.length ≤ sizeLine ∧ ∃ (its : List Value) (n : Nat), Vals xs its ∧ xs.length = its.length ∧ s.heap.get? l = some { cls := .type "list", data := .seq its.toArray n } := by
  rcases hH with h | ⟨o, h⟩ | ⟨its, n, e, z, v⟩
  · obtain ⟨z, its, n, r, e⟩ := I.hok l _ h
    exact ⟨z, its, n, r, r.length, e⟩
  · obtain ⟨_, z, its, n, r, e⟩ := I.hok l _ h
    exact ⟨z, its, n, r, r.length, e⟩
  · exact ⟨z, its, n, v, v.length, I.kIn _ _ e⟩
/-- xs.extend(ys), ys frozen or not -/
def rExtR (K : PySem.W.Frag) : V → List V → Hp → VK → Prop := fun x vs H Q => ∃ l b xs zs, x = .ref l ∧ vs = [.ref b] ∧ H l = some (.lst xs) ∧ Lr K H b zs ∧ xs.length + zs.length ≤ sizeLine ∧ Q .non (upd H l (.lst (xs ++ zs)))
theorem mt_extR : MtM X "list.extend" (rExtR X.K) := by
  intro pins s σ H x vs v us Q I rx rv h
  obtain ⟨l, b, xs, zs, rfl, rfl, hH, hB, hz, q⟩ := h
  cases rx
  obtain ⟨u, rfl, ru⟩ := rv.one
  cases ru
  obtain ⟨z, its, n, r, hl, e⟩ := I.lstM hH
  obtain ⟨z2, its2, n2, r2, hl2, e2⟩ := inv_lstR I hB
  have hsz : its.toArray.size + its2.toArray.size ≤ sizeLine := by rw [List.size_toArray, List.size_toArray]; omega
  have hlong : ¬ (!its.toArray.isEmpty && Builtin.List.listTooLong (its.toArray.size + its2.toArray.size)) = true := by
    rw [notLongL hsz, Bool.and_false]
    exact Bool.false_ne_true
  refine call_meets F.slot_list_extend ⟨_, e, rfl⟩ F.entry_list_extend (F.args_list_extend_2 _ _)
    (AutoSeq1.list_extend_list_list_0 l its.toArray n b its2.toArray n2 hlong (by rw [List.size_toArray]; omega) (by omega)) ⟨e, e2, ?_⟩
  refine ⟨.non, _, I.lset (its' := its ++ its2) hH e (by simp) (r.append r2) ?_, rfl, q⟩
  rw [List.length_append]
  omega
theorem sden_ext {K : PySem.W.Frag} {W0 : World} {mg : Str → Option Value} {i : Nat} (h : Den K W0 H0 io t F) : SDen K W0 mg H0 io E (tDrop (tBM K "list" (rExtR K) (tVar i) (tCons t tNil))) (sExt i F) := fun σ H ρ o R g D q => by
  unfold sExt at g
  cases fo : ownE ρ i with
  | none => rw [fo] at g; cases g
  | some xs0 =>
    rw [fo] at g
    simp only [Option.bind_some] at g
    cases fb : F ρ with
    | none => rw [fb] at g; cases g
    | some p =>
      obtain ⟨d, ρ1⟩ := p
      rw [fb] at g
      simp only [Option.bind_some] at g
      cases d with
      | list es =>
        simp only at g
        cases fx : ownE ρ1 i with
        | none => rw [fx] at g; cases g
        | some xs =>
          rw [fx] at g
          simp only [Option.bind_some] at g
          split at g
          · rename_i hl
            cases g
            obtain ⟨pp, vs0, h1, h1b, _⟩ := R.own i xs0 (ownE_some fo)
            refine ⟨.ref pp, h1, .inl ⟨rfl, _, .inl (.inl h1b)⟩, ?_⟩
            refine h σ H ρ _ _ R fb _ fun v H1 R1 s1 z1 => ?_
            obtain ⟨b, zv, rfl, hb, hz⟩ := (Vw.of z1).listR
            obtain ⟨pp', xv, h2, h3, h4, h5⟩ := R1.own i xs (ownE_some fx)
            rw [h1] at h2
            cases h2
            refine ⟨pp, b, xv, zv, rfl, rfl, h3, hb, by rw [h4.len, hz.len, sizeLine_eq]; exact hl, ?_⟩
            exact q σ _ (R1.wr (ownE_some fx) h1 (DzAll.app h4 hz)) (s1.trans (.lst h3))
          · cases g
      | _ => cases g
theorem sm_ext (i : Nat) {x : Str} {p1 p2 p3 : Pos} (h : PM X H0 io e t F) (hN : X.N[i]? = some x := by rfl) (hv : Vis X.env.scope x := by first | exact Or.inl rfl | exact Or.inr (Or.inl rfl) | exact Or.inr (Or.inr rfl)) (hd : (x == ("__debug__" : Str)) = false := by decide)
    (hcd : (x == ("__classdict__" : Str)) = false := by decide) (hbase : attributeBase (.Name x p1) "extend" X.env (eval (.Name x p1) X.env) = eval (.Name x p1) X.env := by rfl)
    (hfew : ((backTo p3 (starEach [e] X.env)).all (fun x => !x.1) && (backToKw p3 (keywordEach [] X.env)).all (fun x => x.1.isSome)
      && decide (([e] : List Expr).length + ([] : List Keyword).length + (if ([] : List Keyword).isEmpty then 0 else 1) < 30)) = true := by rfl)
    (hline : (p2.endLine == p3.line) = true := by rfl) (hs : starEach [e] X.env = (false, eval e X.env) :: starEach [] X.env := by rfl) (hplain : (backTo p3 (starEach [] X.env)).any (·.1) = false := by rfl)
    (hsw : swapsWith (.Call (.Attribute (.Name x p1) "extend" p2) [e] [] p3) none pos.line X.env = pure false := by rfl) :
    SM X H0 io E (.Expr (.Call (.Attribute (.Name x p1) "extend" p2) [e] [] p3) pos) (tDrop (tBM X.K "list" (rExtR X.K) (tVar i) (tCons t tNil))) (sExt i F) :=
  ⟨ps_expr (pe_bm PySem.F.plainAttrs_list PySem.F.slot_list_extend PySem.F.type_list_extend mt_extR (pe_var hN hv hd hcd) (pa_cons h.pe pa_nil hs) hbase hfew hline hs hplain) hsw, sden_ext h.dn⟩
end
end DL
set_option Elab.async false
set_option linter.all false
set_option maxRecDepth 100000
set_option maxHeartbeats 1000000
/-! DL5: operators, subscripts, slices, built-ins by data. -/
namespace DL
open PySem PySem.Spec L2
open PyProof.Rows hiding St

section
variable {X : Cx}
theorem hu65 {A : Around} {k : Nat} (hr : RoomG k A) : A.units + 65 < cLine := by have := hr.room.un; omega
theorem hu64 {A : Around} {k : Nat} (hr : RoomG k A) : A.units + 64 < cLine := by have := hr.room.un; omega
theorem hu0 {A : Around} {k : Nat} (hr : RoomG k A) : A.units < cLine := by have := hr.room.un; omega
/-- what comes is frozen -/
theorem opR_frz {f : Value → Value → Sem Value} {r : R2} (h : OpR X f r) : OpR X f (fun x y H Q => r x y H (FrQ Q)) := fun pins s σ H x y v u Q I rx ry q => thn (h pins s σ H x y v u _ I rx ry q) fun _ _ z => ep_freeze z
theorem frQ_of {Q : VK} {H H' : Hp} {p : Addr} {xs : List V} {K : PySem.W.Frag} {W0 : World} {zs : List PyData} (hn : H p = none) (e : H' = upd H p (.lst xs)) (hd : DzAll K W0 H xs zs) (q : ∀ v H', Same H H' → Dz K W0 H' v (.list zs) → Q v H') : FrQ Q (.ref p) H' := by
  subst e
  refine ⟨p, xs, rfl, upd_same, fun o => ?_⟩
  rw [upd_upd]
  have sm : Same H (upd H p (.frz o (.lst xs))) := same_new hn
  exact q _ _ sm (.lst (.inl ⟨_, upd_same⟩) (hd.mono (.of sm)))
/-- xs + ys, frozen or not -/
def rCatR (K : PySem.W.Frag) : R2 := fun x y H Q => ∃ l b xs zs, x = .ref l ∧ y = .ref b ∧ Lr K H l xs ∧ Lr K H b zs ∧ xs.length + zs.length ≤ sizeLine ∧ ∀ p, H p = none → Q (.ref p) (upd H p (.lst (xs ++ zs)))
theorem op_catR : OpR X (binaryOp .Add) (rCatR X.K) := by
  intro pins s σ H x y v u Q I rx ry hyp
  obtain ⟨l, b, xs, zs, rfl, rfl, h1, h2, hlen, q⟩ := hyp
  cases rx
  cases ry
  obtain ⟨_, its1, n1, r1, l1, e1⟩ := inv_lstR I h1
  obtain ⟨_, its2, n2, r2, l2, e2⟩ := inv_lstR I h2
  refine PySem.P.add_list e1 e2 ?_ (by rw [List.size_toArray, List.size_toArray]; omega)
  rw [show its1.toArray ++ its2.toArray = (its1 ++ its2).toArray by simp]
  exact ⟨.ref _, _, I.lnew (t' := s.toks) (r1.append r2) (by rw [List.length_append]; omega), rfl, q _ I.fresh⟩
theorem dzAll_nil {K : PySem.W.Frag} {W0 : World} {H : Hp} {vs : List V} (h : DzAll K W0 H vs []) : vs = [] := by cases h; rfl
theorem dzAll_nil' {K : PySem.W.Frag} {W0 : World} {H : Hp} {ds : List PyData} (h : DzAll K W0 H [] ds) : ds = [] := by cases h; rfl
theorem dzAll_ints {K : PySem.W.Frag} {W0 : World} {H : Hp} : ∀ {vs : List V} {ns : List Int}, DzAll K W0 H vs (ns.map .int) → vs = ns.map V.int
  | _, [], h => by cases h; rfl
  | _, n :: ns, h => by
    cases h with
    | cons a t => cases a; rw [dzAll_ints t]; rfl
theorem dzAll_bools {K : PySem.W.Frag} {W0 : World} {H : Hp} : ∀ {vs : List V} {ns : List Bool}, DzAll K W0 H vs (ns.map .bool) → vs = ns.map V.bl
  | _, [], h => by cases h; rfl
  | _, n :: ns, h => by
    cases h with
    | cons a t => cases a; rw [dzAll_bools t]; rfl
theorem dzAll_strs {K : PySem.W.Frag} {W0 : World} {H : Hp} : ∀ {vs : List V} {ns : List Str}, DzAll K W0 H vs (ns.map .str) → vs = ns.map V.str
  | _, [], h => by cases h; rfl
  | _, n :: ns, h => by
    cases h with
    | cons a t => cases a; rw [dzAll_strs t]; rfl

/-! ### + - * // % ** -/
def addD : PyData → PyData → Option PyData
  | .int i, .int j => some (.int (i + j))
  | .str x, .str y => if few (x.length + y.length) = true then some (.str (x ++ y)) else none
  | .tuple a, .tuple b => if few (a.length + b.length) = true then some (.tuple (a ++ b)) else none
  | .list a, .list b => if few (a.length + b.length) = true then some (.list (a ++ b)) else none
  | _, _ => none
theorem opD_add : OpR X (binaryOp .Add) (rD X.K X.w addD) := by
  intro pins s σ H x y v u Q I rx ry hyp
  obtain ⟨d, e, z, hd, he, hz, q⟩ := hyp
  unfold addD at hz
  split at hz
  · cases hz
    cases hd.int
    cases he.int
    exact op_add pins s σ H _ _ v u Q I rx ry ⟨_, _, rfl, rfl, q _ H (Same.refl H) (.int _)⟩
  · split at hz
    · rename_i hf
      cases hz
      cases hd.str
      cases he.str
      exact op_add_str pins s σ H _ _ v u Q I rx ry ⟨_, _, rfl, rfl, few_le hf, q _ H (Same.refl H) (.str _)⟩
    · cases hz
  · split at hz
    · rename_i hf
      cases hz
      obtain ⟨a, xs, rfl, h1, h2⟩ := hd.tup
      obtain ⟨b, ys, rfl, h3, h4⟩ := he.tup
      refine op_catA pins s σ H _ _ v u Q I rx ry ⟨a, b, xs, ys, rfl, rfl, h1, h3, by rw [h2.len, h4.len]; exact few_le hf, fun z => ?_, fun _ z => ?_, fun _ _ p hp => ?_⟩
      · subst z
        cases dzAll_nil' h2
        exact q _ H (Same.refl H) (.tup h3 h4)
      · subst z
        cases dzAll_nil' h4
        rw [List.append_nil] at q
        exact q _ H (Same.refl H) (.tup h1 h2)
      · have sm : Same H (upd H p (.tup (xs ++ ys))) := same_new hp
        exact q _ _ sm (.tup (.of upd_same) ((DzAll.app h2 h4).mono (.of sm)))
    · cases hz
  · split at hz
    · rename_i hf
      cases hz
      obtain ⟨a, xs, rfl, h1, h2⟩ := hd.listR
      obtain ⟨b, ys, rfl, h3, h4⟩ := he.listR
      exact opR_frz op_catR pins s σ H _ _ v u Q I rx ry ⟨a, b, xs, ys, rfl, rfl, h1, h3, by rw [h2.len, h4.len]; exact few_le hf, fun p hp => frQ_of hp rfl (DzAll.app h2 h4) q⟩
    · cases hz
  · cases hz
def intD (C : Int → Int → Bool) (g : Int → Int → Int) : PyData → PyData → Option PyData
  | .int i, .int j => if C i j = true then some (.int (g i j)) else none
  | _, _ => none
theorem opD_int {op : Operator} {C : Int → Int → Bool} {P : Int → Int → Prop} {g : Int → Int → Int} (h : OpR X (binaryOp op) (rI P fun i j => .int (g i j))) (hc : ∀ i j, C i j = true → P i j) : OpR X (binaryOp op) (rD X.K X.w (intD C g)) := by
  intro pins s σ H x y v u Q I rx ry hyp
  obtain ⟨d, e, z, hd, he, hz, q⟩ := hyp
  unfold intD at hz
  split at hz
  · split at hz
    · rename_i hf
      cases hz
      cases hd.int
      cases he.int
      exact h pins s σ H _ _ v u Q I rx ry ⟨_, _, rfl, rfl, hc _ _ hf, q _ H (Same.refl H) (.int _)⟩
    · cases hz
  · cases hz
def subD : PyData → PyData → Option PyData := intD (fun _ _ => true) fun i j => i - j
theorem opD_sub : OpR X (binaryOp .Sub) (rD X.K X.w subD) := opD_int (P := fun _ _ => True) (opI fun _ _ _ _ _ _ _ _ q => sub_int q) fun _ _ _ => trivial
/-- a size: below 2 ^ n in absolute value -/
def bitsLe (n : Nat) (i : Int) : Bool := decide (i.natAbs < 2 ^ n)
def modD : PyData → PyData → Option PyData := intD (fun _ j => decide (j ≠ 0)) fun i j => i.fmod j
theorem opD_mod : OpR X (binaryOp .Mod) (rD X.K X.w modD) := opD_int op_modN fun _ _ h => of_decide_eq_true h
def fdivD : PyData → PyData → Option PyData := intD (fun _ j => decide (j ≠ 0 ∧ j.natAbs < 1073741824)) fun i j => i.fdiv j
theorem opD_fdiv : OpR X (binaryOp .FloorDiv) (rD X.K X.w fdivD) := opD_int op_fdivN fun i j h => show j ≠ 0 ∧ j.natAbs < 1073741824 from of_decide_eq_true h
def powD : PyData → PyData → Option PyData := intD (fun i j => decide (0 ≤ j ∧ (Builtin.Int.intBits i : Int) * j ≤ 2 ^ 27)) fun i j => i ^ j.toNat
theorem opD_pow : OpR X (binaryOp .Pow) (rD X.K X.w powD) := opD_int (P := fun i j => 0 ≤ j ∧ (Builtin.Int.intBits i : Int) * j ≤ 2 ^ 27) (opI fun _ _ _ _ _ _ _ hc q => PyProof.Rows.pow_int hc.1 hc.2 q) fun _ _ h => of_decide_eq_true h
def mulD : PyData → PyData → Option PyData := intD (fun i j => decide (i.natAbs.log2 + j.natAbs.log2 < 1000000)) fun i j => i * j
theorem opD_mul : OpR X (binaryOp .Mult) (rD X.K X.w mulD) := opD_int op_mulW fun i j h => show i.natAbs.log2 + j.natAbs.log2 < 1000000 from of_decide_eq_true h
def negD : PyData → Option PyData
  | .int i => some (.int (-i))
  | _ => none
theorem unD_neg : UnR X (unaryOp .USub) (rDU X.K X.w negD) := by
  intro pins s σ H x v Q I rx hyp
  obtain ⟨d, z, hd, hz, q⟩ := hyp
  unfold negD at hz
  split at hz
  · cases hz
    cases hd.int
    exact un_neg pins s σ H _ v Q I rx ⟨_, rfl, q _ H (Same.refl H) (.int _)⟩
  · cases hz

/-! ### comparisons -/
theorem noDict {d : PyData} (h : SeqAt.shaped d = true) : d.hasDict = false := PyData.hasDict_of_canLay d (SeqAt.canLay_of_shaped h)
def eqD (d e : PyData) : Option PyData := if (SeqAt.shaped d && SeqAt.shaped e) = true then some (.bool (PyData.eqv d e)) else none
def neD (d e : PyData) : Option PyData := if (SeqAt.shaped d && SeqAt.shaped e) = true then some (.bool (!PyData.eqv d e)) else none
theorem opD_eq {k : Nat} (hr : RoomG k X.A) : OpR X (compareOp .Eq) (rD X.K X.w eqD) := by
  intro pins s σ H x y v u Q I rx ry hyp
  obtain ⟨d, e, z, hd, he, hz, q⟩ := hyp
  unfold eqD at hz
  split at hz
  · rename_i hf
    cases hz
    obtain ⟨h1, h2⟩ := Bool.and_eq_true_iff.mp hf
    exact op_eqD (hu64 hr) pins s σ H x y v u Q I rx ry ⟨d, e, hd.dp (noDict h1), he.dp (noDict h2), h1, h2, q _ H (Same.refl H) (.bl _)⟩
  · cases hz
theorem opD_ne {k : Nat} (hr : RoomG k X.A) : OpR X (compareOp .NotEq) (rD X.K X.w neD) := by
  intro pins s σ H x y v u Q I rx ry hyp
  obtain ⟨d, e, z, hd, he, hz, q⟩ := hyp
  unfold neD at hz
  split at hz
  · rename_i hf
    cases hz
    obtain ⟨h1, h2⟩ := Bool.and_eq_true_iff.mp hf
    exact op_neD (hu64 hr) pins s σ H x y v u Q I rx ry ⟨d, e, hd.dp (noDict h1), he.dp (noDict h2), h1, h2, q _ H (Same.refl H) (.bl _)⟩
  · cases hz
/-- the ints of data -/
def intsOf : List PyData → Option (List Int)
  | [] => some []
  | .int i :: r => (intsOf r).map (i :: ·)
  | _ :: _ => none
theorem intsOf_map : ∀ {ds : List PyData} {ns : List Int}, intsOf ds = some ns → ds = ns.map .int
  | [], _, h => by cases h; rfl
  | d :: r, ns, h => by
    cases d with
    | int i =>
      unfold intsOf at h
      cases e : intsOf r with
      | none => rw [e] at h; cases h
      | some m =>
        rw [e] at h
        cases h
        rw [intsOf_map e]
        rfl
    | _ => cases h
def ltD : PyData → PyData → Option PyData
  | .int i, .int j => some (.bool (decide (i < j)))
  | .tuple a, .tuple b => (intsOf a).bind fun ns => (intsOf b).map fun ms => .bool (HT.lexLt ns ms)
  | _, _ => none
theorem opD_lt {k : Nat} (hr : RoomG k X.A) : OpR X (compareOp .Lt) (rD X.K X.w ltD) := by
  intro pins s σ H x y v u Q I rx ry hyp
  obtain ⟨d, e, z, hd, he, hz, q⟩ := hyp
  unfold ltD at hz
  split at hz
  · cases hz
    cases hd.int
    cases he.int
    exact op_lt pins s σ H _ _ v u Q I rx ry ⟨_, _, rfl, rfl, q _ H (Same.refl H) (.bl _)⟩
  · rename_i a b
    cases ea : intsOf a with
    | none => rw [ea] at hz; cases hz
    | some ns =>
      cases eb : intsOf b with
      | none => rw [ea, eb] at hz; cases hz
      | some ms =>
        rw [ea, eb] at hz
        cases hz
        cases intsOf_map ea
        cases intsOf_map eb
        obtain ⟨p, xs, rfl, h1, h2⟩ := hd.tup
        obtain ⟨p2, ys, rfl, h3, h4⟩ := he.tup
        cases dzAll_ints h2
        cases dzAll_ints h4
        exact op_ltT (hu0 hr) pins s σ H _ _ v u Q I rx ry ⟨p, p2, ns, ms, rfl, rfl, h1, h3, q _ H (Same.refl H) (.bl _)⟩
  · cases hz
def cmpD (g : Int → Int → Bool) : PyData → PyData → Option PyData
  | .int i, .int j => some (.bool (g i j))
  | _, _ => none
theorem opD_cmp {op : CmpOp} {g : Int → Int → Bool} (h : OpR X (compareOp op) (rI0 fun i j => .bl (g i j))) : OpR X (compareOp op) (rD X.K X.w (cmpD g)) := by
  intro pins s σ H x y v u Q I rx ry hyp
  obtain ⟨d, e, z, hd, he, hz, q⟩ := hyp
  unfold cmpD at hz
  split at hz
  · cases hz
    cases hd.int
    cases he.int
    exact h pins s σ H _ _ v u Q I rx ry ⟨_, _, rfl, rfl, q _ H (Same.refl H) (.bl _)⟩
  · cases hz
def leD : PyData → PyData → Option PyData := cmpD fun i j => decide (i ≤ j)
def gtD : PyData → PyData → Option PyData := cmpD fun i j => decide (j < i)
def geD : PyData → PyData → Option PyData := cmpD fun i j => decide (j ≤ i)
theorem opD_le : OpR X (compareOp .LtE) (rD X.K X.w leD) := opD_cmp op_le
theorem opD_gt : OpR X (compareOp .Gt) (rD X.K X.w gtD) := opD_cmp op_gt
theorem opD_ge : OpR X (compareOp .GtE) (rD X.K X.w geD) := opD_cmp op_ge
/-- x in t, x in xs, x in s -/
def flatD : PyData → Bool
  | .none | .bool _ | .int _ | .str _ => true
  | _ => false
def inB : PyData → PyData → Option Bool
  | d, .list es => if (SeqAt.shaped d && SeqAt.shaped (.list es)) = true then some (es.any fun z => PyData.eqv z d) else none
  | d, .tuple es => if (flatD d && es.all flatD) = true then some (es.any fun z => PyData.eqv z d) else if (SeqAt.shaped d && SeqAt.shaped (.tuple es)) = true then some (es.any fun z => PyData.eqv z d) else none
  | .str x, .str y => some (!(Builtin.Str.occurrences y x 0 y.length 1).isEmpty)
  | _, _ => none
def inD (d e : PyData) : Option PyData := (inB d e).map .bool
def notInD (d e : PyData) : Option PyData := (inB d e).map fun b => .bool (!b)
theorem flat_v {K : PySem.W.Frag} {W0 : World} {H : Hp} {v : V} {d : PyData} (h : Vw K W0 H v d) (f : flatD d = true) : flatV v = true := by
  cases d with
  | none => cases h.non; rfl
  | bool b => cases h.bl; rfl
  | int i => cases h.int; rfl
  | str x => cases h.str; rfl
  | _ => cases f
theorem flat_eq {K : PySem.W.Frag} {W0 : World} {H : Hp} {v w : V} {d e : PyData} (h : Vw K W0 H v d) (h' : Vw K W0 H w e) (f : flatD d = true) (f' : flatD e = true) : eqV v w = PyData.eqv d e := by
  cases d <;> cases e <;> first
    | (cases f; done)
    | (cases f'; done)
    | (first | cases h.non | cases h.bl | cases h.int | cases h.str
       first | cases h'.non | cases h'.bl | cases h'.int | cases h'.str
       first | rfl | simp [eqV, PyData.eqv])
theorem flat_all {K : PySem.W.Frag} {W0 : World} {H : Hp} : ∀ {vs : List V} {ds : List PyData}, DzAll K W0 H vs ds → ds.all flatD = true → vs.all flatV = true
  | _, _, .nil, _ => rfl
  | _, _, .cons h t, f => by
    rw [List.all_cons, Bool.and_eq_true] at f ⊢
    exact ⟨flat_v (.inl h) f.1, flat_all t f.2⟩
theorem flat_any {K : PySem.W.Frag} {W0 : World} {H : Hp} {w : V} {e : PyData} (hw : Vw K W0 H w e) (fe : flatD e = true) : ∀ {vs : List V} {ds : List PyData}, DzAll K W0 H vs ds → ds.all flatD = true → inV w vs = ds.any fun z => PyData.eqv z e
  | _, _, .nil, _ => rfl
  | _, _, .cons h t, f => by
    rw [List.all_cons, Bool.and_eq_true] at f
    have ih := flat_any hw fe t f.2
    unfold inV at ih ⊢
    rw [List.any_cons, List.any_cons, ih, flat_eq (.inl h) hw f.1 fe]
theorem opD_in {k : Nat} (hr : RoomG k X.A) : OpR X (compareOp .In) (rD X.K X.w inD) := by
  intro pins s σ H x y v u Q I rx ry hyp
  obtain ⟨d, e, z, hd, he, hz, q⟩ := hyp
  unfold inD at hz
  cases hb : inB d e with
  | none => rw [hb] at hz; cases hz
  | some b =>
    rw [hb] at hz
    cases hz
    unfold inB at hb
    split at hb
    · split at hb
      · rename_i hf
        cases hb
        obtain ⟨h1, h2⟩ := Bool.and_eq_true_iff.mp hf
        exact op_inD (hu65 hr) pins s σ H x y v u Q I rx ry ⟨d, _, hd.dp (noDict h1), he.dp (noDict h2), h1, h2, q _ H (Same.refl H) (.bl _)⟩
      · cases hb
    · split at hb
      · rename_i hf
        cases hb
        obtain ⟨h1, h2⟩ := Bool.and_eq_true_iff.mp hf
        obtain ⟨p, xs, rfl, h3, h4⟩ := he.tup
        refine op_in_seq pins s σ H x _ v u Q I rx ry ⟨p, xs, rfl, .inr h3, flat_v hd h1, flat_all h4 h2, ?_⟩
        rw [if_neg Bool.false_ne_true, flat_any hd h1 h4 h2]
        exact q _ H (Same.refl H) (.bl _)
      · split at hb
        · rename_i hf
          cases hb
          obtain ⟨h1, h2⟩ := Bool.and_eq_true_iff.mp hf
          obtain ⟨as, r1⟩ := Dp.reads I d x v (hd.dp (noDict h1)) rx
          obtain ⟨bs, r2⟩ := Dp.reads I _ y u (he.dp (noDict h2)) ry
          exact SeqAt.in_tuple_reads r2 r1 (SeqAt.canLay_of_shaped h2) (SeqAt.canLay_of_shaped h1) (room_in_shaped h1 (hu65 hr)) ⟨.bl _, H, I, rfl, q _ H (Same.refl H) (.bl _)⟩
        · cases hb
    · cases hb
      cases hd.str
      cases he.str
      exact op_in_str pins s σ H _ _ v u Q I rx ry ⟨_, _, rfl, rfl, q _ H (Same.refl H) (.bl _)⟩
    · cases hb
theorem opD_notIn {k : Nat} (hr : RoomG k X.A) : OpR X (compareOp .NotIn) (rD X.K X.w notInD) := by
  intro pins s σ H x y v u Q I rx ry hyp
  obtain ⟨d, e, z, hd, he, hz, q⟩ := hyp
  unfold notInD at hz
  cases hb : inB d e with
  | none => rw [hb] at hz; cases hz
  | some b =>
    rw [hb] at hz
    cases hz
    unfold inB at hb
    split at hb
    · split at hb
      · rename_i hf
        cases hb
        obtain ⟨h1, h2⟩ := Bool.and_eq_true_iff.mp hf
        exact op_notInD (hu65 hr) pins s σ H x y v u Q I rx ry ⟨d, _, hd.dp (noDict h1), he.dp (noDict h2), h1, h2, q _ H (Same.refl H) (.bl _)⟩
      · cases hb
    · split at hb
      · rename_i hf
        cases hb
        obtain ⟨h1, h2⟩ := Bool.and_eq_true_iff.mp hf
        obtain ⟨p, xs, rfl, h3, h4⟩ := he.tup
        refine op_notIn_seq pins s σ H x _ v u Q I rx ry ⟨p, xs, rfl, .inr h3, flat_v hd h1, flat_all h4 h2, ?_⟩
        rw [if_pos rfl, flat_any hd h1 h4 h2]
        exact q _ H (Same.refl H) (.bl _)
      · split at hb
        · rename_i hf
          cases hb
          obtain ⟨h1, h2⟩ := Bool.and_eq_true_iff.mp hf
          obtain ⟨as, r1⟩ := Dp.reads I d x v (hd.dp (noDict h1)) rx
          obtain ⟨bs, r2⟩ := Dp.reads I _ y u (he.dp (noDict h2)) ry
          exact SeqAt.notIn_tuple_reads r2 r1 (SeqAt.canLay_of_shaped h2) (SeqAt.canLay_of_shaped h1) (room_in_shaped h1 (hu65 hr)) ⟨.bl _, H, I, rfl, q _ H (Same.refl H) (.bl _)⟩
        · cases hb
    · cases hb
      cases hd.str
      cases he.str
      exact op_notIn_str pins s σ H _ _ v u Q I rx ry ⟨_, _, rfl, rfl, q _ H (Same.refl H) (.bl _)⟩
    · cases hb
def isNonB : PyData → Bool
  | .none => true
  | _ => false
/-- x is None, x is True -/
def isD : PyData → PyData → Option PyData
  | d, .none => some (.bool (isNonB d))
  | .bool a, .bool b => some (.bool (decide (a = b)))
  | _, _ => none
def isNotD : PyData → PyData → Option PyData
  | d, .none => some (.bool (!isNonB d))
  | .bool a, .bool b => some (.bool (!decide (a = b)))
  | _, _ => none
theorem isNon_v {K : PySem.W.Frag} {W0 : World} {H : Hp} {v : V} {d : PyData} (h : Vw K W0 H v d) : decide (v = .non) = isNonB d := by
  rcases h with h | ⟨a, vs, es, rfl, rfl, _, _⟩
  · cases h <;> rfl
  · rfl
theorem opD_is : OpR X (compareOp .Is) (rD X.K X.w isD) := by
  intro pins s σ H x y v u Q I rx ry hyp
  obtain ⟨d, e, z, hd, he, hz, q⟩ := hyp
  unfold isD at hz
  split at hz
  · cases hz
    cases he.non
    refine op_isN pins s σ H _ _ v u Q I rx ry ⟨rfl, ?_⟩
    rw [isNon_v hd]
    exact q _ H (Same.refl H) (.bl _)
  · cases hz
    cases hd.bl
    cases he.bl
    exact op_isBl pins s σ H _ _ v u Q I rx ry ⟨_, _, rfl, rfl, q _ H (Same.refl H) (.bl _)⟩
  · cases hz
theorem opD_isNot : OpR X (compareOp .IsNot) (rD X.K X.w isNotD) := by
  intro pins s σ H x y v u Q I rx ry hyp
  obtain ⟨d, e, z, hd, he, hz, q⟩ := hyp
  unfold isNotD at hz
  split at hz
  · cases hz
    cases he.non
    refine op_notN pins s σ H _ _ v u Q I rx ry ⟨rfl, ?_⟩
    rw [isNon_v hd]
    exact q _ H (Same.refl H) (.bl _)
  · cases hz
    cases hd.bl
    cases he.bl
    exact op_notBl pins s σ H _ _ v u Q I rx ry ⟨_, _, rfl, rfl, q _ H (Same.refl H) (.bl _)⟩
  · cases hz

/-! ### subscripts, slices -/
def ixD : PyData → PyData → Option PyData
  | .list xs, .int i => atI xs i
  | .tuple xs, .int i => atI xs i
  | .str z, .int i => if few z.length = true then (atI z.cps.toList i).map fun c => .str ⟨#[c]⟩ else none
  | _, _ => none
theorem atI_get {K : PySem.W.Frag} {W0 : World} {H : Hp} {vs : List V} {ds : List PyData} {i : Int} {d : PyData} (h : DzAll K W0 H vs ds) (e : atI ds i = some d) : ∃ v, atI vs i = some v ∧ Dz K W0 H v d := by
  unfold atI at e ⊢
  rw [h.len]
  cases hi : ixN ds.length i with
  | none => rw [hi] at e; cases e
  | some j =>
    rw [hi] at e
    exact h.get e
theorem ixR_D : IxR X (rD X.K X.w ixD) := by
  intro value slice pins s σ H x y v u Q I rx ry hyp hs
  obtain ⟨d, e, z, hd, he, hz, q⟩ := hyp
  unfold ixD at hz
  split at hz
  · cases he.int
    obtain ⟨p, xs, rfl, h1, h2⟩ := hd.list
    obtain ⟨w, h3, h4⟩ := atI_get h2 hz
    exact ix_list value slice pins s σ H _ _ v u Q I rx ry ⟨p, xs, _, w, rfl, rfl, h1, h3, q _ H (Same.refl H) h4⟩ hs
  · cases he.int
    obtain ⟨p, xs, rfl, h1, h2⟩ := hd.tup
    obtain ⟨w, h3, h4⟩ := atI_get h2 hz
    exact ix_tup value slice pins s σ H _ _ v u Q I rx ry ⟨p, xs, _, w, rfl, rfl, h1, h3, q _ H (Same.refl H) h4⟩ hs
  · split at hz
    · rename_i z' i hf
      cases he.int
      cases hd.str
      cases e : atI z'.cps.toList i with
      | none => rw [e] at hz; cases hz
      | some c =>
        rw [e] at hz
        cases hz
        exact ix_str value slice pins s σ H _ _ v u Q I rx ry ⟨_, _, c, rfl, rfl, few_le hf, e, q _ H (Same.refl H) (.str _)⟩ hs
    · cases hz
  · cases hz
end
end DL
set_option Elab.async false
set_option linter.all false
set_option maxRecDepth 100000
set_option maxHeartbeats 1000000
/-! DL6: built-ins called, by data. -/
namespace DL
open PySem PySem.Spec L2
open PyProof.Rows hiding St

section
variable {X : Cx}
/-! ### len, abs, int, str -/
def lenD : PyData → Option PyData
  | .list xs => some (.int xs.length)
  | .tuple xs => some (.int xs.length)
  | .str z => if few z.length = true then some (.int z.length) else none
  | _ => none
theorem cD_len : CallR X (.builtin "len") (rDV X.K X.w lenD) := by
  intro pins s σ H xs us Q I r hyp
  obtain ⟨x, d, z, rfl, hd, hz, q⟩ := hyp
  unfold lenD at hz
  split at hz
  · cases hz
    obtain ⟨a, vs, rfl, h1, h2⟩ := hd.list
    refine call_len_seq pins s σ H _ us Q I r ⟨a, vs, rfl, .inl h1, ?_⟩
    rw [h2.len]
    exact q _ H (Same.refl H) (.int _)
  · cases hz
    obtain ⟨a, vs, rfl, h1, h2⟩ := hd.tup
    refine call_len_seq pins s σ H _ us Q I r ⟨a, vs, rfl, .inr h1, ?_⟩
    rw [h2.len]
    exact q _ H (Same.refl H) (.int _)
  · split at hz
    · rename_i hf
      cases hz
      cases hd.str
      exact call_len_str pins s σ H _ us Q I r ⟨_, rfl, few_le hf, q _ H (Same.refl H) (.int _)⟩
    · cases hz
  · cases hz
def absD : PyData → Option PyData
  | .int i => some (.int (if i < 0 then -i else i))
  | _ => none
theorem cD_abs : CallR X (.builtin "abs") (rDV X.K X.w absD) := by
  intro pins s σ H xs us Q I r hyp
  obtain ⟨x, d, z, rfl, hd, hz, q⟩ := hyp
  unfold absD at hz
  split at hz
  · cases hz
    cases hd.int
    exact call_abs pins s σ H _ us Q I r ⟨_, rfl, q _ H (Same.refl H) (.int _)⟩
  · cases hz
def toIntD : PyData → Option PyData
  | .int i => some (.int i)
  | .bool b => some (.int (if b then 1 else 0))
  | _ => none
theorem cD_int : CallR X (.type "int") (rDV X.K X.w toIntD) := by
  intro pins s σ H xs us Q I r hyp
  obtain ⟨x, d, z, rfl, hd, hz, q⟩ := hyp
  unfold toIntD at hz
  split at hz
  · cases hz
    cases hd.int
    exact call_int1 pins s σ H _ us Q I r (.inl ⟨_, rfl, q _ H (Same.refl H) (.int _)⟩)
  · cases hz
    cases hd.bl
    exact call_int1 pins s σ H _ us Q I r (.inr ⟨_, rfl, q _ H (Same.refl H) (.int _)⟩)
  · cases hz
def strD : PyData → Option PyData
  | .int i => if i.natAbs.log2 < 1920 then some (.str (toString i)) else none
  | .str x => some (.str x)
  | _ => none
theorem cD_str : CallR X (.type "str") (rDV X.K X.w strD) := by
  intro pins s σ H xs us Q I r hyp
  obtain ⟨x, d, z, rfl, hd, hz, q⟩ := hyp
  unfold strD at hz
  split at hz
  · split at hz
    · rename_i hf
      cases hz
      cases hd.int
      exact call_str_int pins s σ H _ us Q I r ⟨_, rfl, hf, q _ H (Same.refl H) (.str _)⟩
    · cases hz
  · cases hz
    cases hd.str
    exact SkE.call_str_str pins s σ H _ us Q I r ⟨_, rfl, q _ H (Same.refl H) (.str _)⟩
  · cases hz
/-! ### max, min of two ints -/
def maxD : List PyData → Option PyData
  | [.int i, .int j] => some (.int (if j > i then j else i))
  | _ => none
def minD : List PyData → Option PyData
  | [.int i, .int j] => some (.int (if j < i then j else i))
  | _ => none
theorem dz2 {K : PySem.W.Frag} {W0 : World} {H : Hp} {xs : List V} {i j : Int} (h : DzAll K W0 H xs [.int i, .int j]) : xs = [.int i, .int j] := by
  cases h with
  | cons a t => cases a; cases t with
    | cons b t => cases b; cases t; rfl
theorem cD_max (hc : X.calm = true) : CallR X (.builtin "max") (rDA X.K X.w maxD) := by
  intro pins s σ H xs us Q I r hyp
  obtain ⟨ds, z, hd, hz, q⟩ := hyp
  unfold maxD at hz
  split at hz
  · cases hz
    cases dz2 hd
    exact call_max2 hc pins s σ H _ us Q I r ⟨_, _, rfl, q _ H (Same.refl H) (.int _)⟩
  · cases hz
theorem cD_min (hc : X.calm = true) : CallR X (.builtin "min") (rDA X.K X.w minD) := by
  intro pins s σ H xs us Q I r hyp
  obtain ⟨ds, z, hd, hz, q⟩ := hyp
  unfold minD at hz
  split at hz
  · cases hz
    cases dz2 hd
    exact call_min2 hc pins s σ H _ us Q I r ⟨_, _, rfl, q _ H (Same.refl H) (.int _)⟩
  · cases hz
/-! ### sum, all, any of a list -/
def sumD : PyData → Option PyData
  | .list ds => (intsOf ds).map fun ns => .int ns.sum
  | _ => none
theorem cD_sum (hc : X.calm = true) : CallR X (.builtin "sum") (rDV X.K X.w sumD) := by
  intro pins s σ H xs us Q I r hyp
  obtain ⟨x, d, z, rfl, hd, hz, q⟩ := hyp
  unfold sumD at hz
  split at hz
  · rename_i ds
    cases e : intsOf ds with
    | none => rw [e] at hz; cases hz
    | some ns =>
      rw [e] at hz
      cases hz
      cases intsOf_map e
      obtain ⟨a, vs, rfl, h1, h2⟩ := hd.list
      cases dzAll_ints h2
      exact cr_sum hc pins s σ H _ us Q I r ⟨a, ns, rfl, h1, q _ H (Same.refl H) (.int _)⟩
  · cases hz
def boolsOf : List PyData → Option (List Bool)
  | [] => some []
  | .bool b :: r => (boolsOf r).map (b :: ·)
  | _ :: _ => none
theorem boolsOf_map : ∀ {ds : List PyData} {bs : List Bool}, boolsOf ds = some bs → ds = bs.map .bool
  | [], _, h => by cases h; rfl
  | d :: r, ns, h => by
    cases d with
    | bool i =>
      unfold boolsOf at h
      cases e : boolsOf r with
      | none => rw [e] at h; cases h
      | some m =>
        rw [e] at h
        cases h
        rw [boolsOf_map e]
        rfl
    | _ => cases h
def allD : PyData → Option PyData
  | .list ds => (boolsOf ds).map fun bs => .bool (bs.all id)
  | _ => none
def anyD : PyData → Option PyData
  | .list ds => (boolsOf ds).map fun bs => .bool (bs.any id)
  | _ => none
theorem cD_all (hc : X.calm = true) : CallR X (.builtin "all") (rDV X.K X.w allD) := by
  intro pins s σ H xs us Q I r hyp
  obtain ⟨x, d, z, rfl, hd, hz, q⟩ := hyp
  unfold allD at hz
  split at hz
  · rename_i ds
    cases e : boolsOf ds with
    | none => rw [e] at hz; cases hz
    | some bs =>
      rw [e] at hz
      cases hz
      cases boolsOf_map e
      obtain ⟨a, vs, rfl, h1, h2⟩ := hd.list
      cases dzAll_bools h2
      exact cr_all hc pins s σ H _ us Q I r ⟨a, bs, rfl, h1, q _ H (Same.refl H) (.bl _)⟩
  · cases hz
theorem cD_any (hc : X.calm = true) : CallR X (.builtin "any") (rDV X.K X.w anyD) := by
  intro pins s σ H xs us Q I r hyp
  obtain ⟨x, d, z, rfl, hd, hz, q⟩ := hyp
  unfold anyD at hz
  split at hz
  · rename_i ds
    cases e : boolsOf ds with
    | none => rw [e] at hz; cases hz
    | some bs =>
      rw [e] at hz
      cases hz
      cases boolsOf_map e
      obtain ⟨a, vs, rfl, h1, h2⟩ := hd.list
      cases dzAll_bools h2
      exact cr_any hc pins s σ H _ us Q I r ⟨a, bs, rfl, h1, q _ H (Same.refl H) (.bl _)⟩
  · cases hz
/-! ### list(x), tuple(x) -/
def itemsD : PyData → Option (List PyData)
  | .list xs => some xs
  | .tuple xs => some xs
  | _ => none
theorem cD_list : CallR X (.type "list") (rDF X.K X.w itemsD) := by
  intro pins s σ H xs us Q I r hyp
  obtain ⟨x, d, zs, rfl, hd, hz, q⟩ := hyp
  unfold itemsD at hz
  split at hz
  · cases hz
    obtain ⟨a, vs, rfl, h1, h2⟩ := hd.list
    exact call_list_of pins s σ H _ us Q I r ⟨a, vs, rfl, .inl h1, fun l hl => q l vs hl (h2.mono (.of (same_new hl)))⟩
  · cases hz
    obtain ⟨a, vs, rfl, h1, h2⟩ := hd.tup
    exact call_list_of pins s σ H _ us Q I r ⟨a, vs, rfl, .inr h1, fun l hl => q l vs hl (h2.mono (.of (same_new hl)))⟩
  · cases hz
def tupleD : PyData → Option PyData
  | .list xs => some (.tuple xs)
  | .tuple xs => some (.tuple xs)
  | _ => none
theorem cD_tuple : CallR X (.type "tuple") (rDV X.K X.w tupleD) := by
  intro pins s σ H xs us Q I r hyp
  obtain ⟨x, d, zs, rfl, hd, hz, q⟩ := hyp
  unfold tupleD at hz
  split at hz
  · cases hz
    obtain ⟨a, vs, rfl, h1, h2⟩ := hd.list
    exact call_tuple_of pins s σ H _ us Q I r ⟨a, vs, rfl, .inl ⟨h1, fun l hl => q _ _ (same_new hl) (.tup (.of upd_same) (h2.mono (.of (same_new hl))))⟩⟩
  · cases hz
    obtain ⟨a, vs, rfl, h1, h2⟩ := hd.tup
    exact call_tuple_of pins s σ H _ us Q I r ⟨a, vs, rfl, .inr ⟨h1, q _ H (Same.refl H) (.tup h1 h2)⟩⟩
  · cases hz
end
end DL
set_option Elab.async false
set_option linter.all false
set_option maxRecDepth 100000
set_option maxHeartbeats 1000000
/-! DL7: isinstance, repr, list(range(..)), slices, by data. -/
namespace DL
open PySem PySem.Spec L2
open PyProof.Rows hiding St

/-! ### isinstance(x, T) -/
def tyD : PyData → String
  | .none => "NoneType"
  | .bool _ => "bool"
  | .int _ => "int"
  | .str _ => "str"
  | .list _ => "list"
  | .tuple _ => "tuple"
  | .dict _ => "dict"
def isTy (T : String) : PyData → Bool
  | .none => false
  | .bool _ => T == "bool" || T == "int"
  | .int _ => T == "int"
  | .str _ => T == "str"
  | .list _ => T == "list"
  | .tuple _ => T == "tuple"
  | .dict _ => false
/-- as an exception is read -/
def isExc : PyData → Bool
  | .dict [(.list [], .str _), (.none, _)] => true
  | _ => false
def isiD (T : String) (d : PyData) : Option PyData := if isExc d = true then none else some (.bool (isTy T d))
def tyOk (T : String) : Bool := T == "int" || T == "bool" || T == "str" || T == "list" || T == "tuple"
theorem kit_isTy {T : String} (h : tyOk T = true) (d : PyData) : kitB (tyD d) T = some (isTy T d) := by
  unfold tyOk at h
  simp only [Bool.or_eq_true, beq_iff_eq] at h
  rcases h with (((rfl | rfl) | rfl) | rfl) | rfl <;> cases d <;> simp only [tyD, isTy] <;> decide +kernel
def rIsD (K : PySem.W.Frag) (W0 : World) (T : String) : List V → Hp → VK → Prop := fun xs H Q => ∃ x d z, xs = [x, .ty T] ∧ Vw K W0 H x d ∧ isiD T d = some z ∧ ∀ v H', Same H H' → Dz K W0 H' v z → Q v H'
section
variable {X : Cx} {pins : List (Addr × Obj)} {σ : L2.St} {H : Hp} {s : Shared}
theorem kit_dz {v : V} {u : Value} {d : PyData} (I : Inv X pins σ H s) (r : RelV v u) (h : Vw X.K X.w H v d) (he : isExc d = false) : ∃ P : Heap → Prop, PySem.W.KitX X.K u (.type (tyD d)) P ∧ P s.heap ∧ u ≠ .builtin "__main__.__loader__#opaque" := by
  cases d with
  | none => cases h.non; cases (show u = Value.none from r); exact ⟨_, PySem.W.kitx_none, True.intro, fun z => nomatch z⟩
  | bool y => cases h.bl; cases (show u = Value.bool y from r); exact ⟨_, PySem.W.kitx_bool, True.intro, fun z => nomatch z⟩
  | int i => cases h.int; obtain ⟨t, rfl⟩ := (show ∃ t, u = Value.int i t from r); exact ⟨_, PySem.W.kitx_int, True.intro, fun z => nomatch z⟩
  | str y => cases h.str; obtain ⟨t, rfl⟩ := (show ∃ t, u = Value.str y t from r); exact ⟨_, PySem.W.kitx_str, True.intro, fun z => nomatch z⟩
  | list ds =>
    obtain ⟨a, vs, rfl, h1, _⟩ := h.list
    cases (show u = Value.ref a from r)
    obtain ⟨its, rv, p, _⟩ := I.list h1
    exact ⟨_, PySem.W.kitx_list, p.isList.typeIs, fun z => nomatch z⟩
  | tuple ds =>
    obtain ⟨a, vs, rfl, h1, _⟩ := h.tup
    cases (show u = Value.ref a from r)
    obtain ⟨its, rv, p, _⟩ := I.tuple h1
    exact ⟨_, PySem.W.kitx_tuple, p.typeIs, fun z => nomatch z⟩
  | dict kvs =>
    rcases h with h | ⟨a, vs, es, rfl, e, _⟩
    · cases h with
      | dct h1 h2 _ _ _ _ =>
        cases r
        obtain ⟨e1, _⟩ := I.hok _ _ h1
        exact ⟨_, PySem.W.kitx_dict, ⟨_, e1, h2.1⟩, fun z => nomatch z⟩
      | exc => cases he
    · cases e
theorem cD_isi {T : String} (hT : tyOk T = true) : CallR X (.builtin "isinstance") (rIsD X.K X.w T) := by
  intro pins s σ H xs us Q I r hyp
  obtain ⟨x, d, z, rfl, hd, hz, q⟩ := hyp
  unfold isiD at hz
  split at hz
  · cases hz
  · rename_i he
    cases hz
    obtain ⟨u1, u2, rfl, r1, r2⟩ := vals2 r
    cases (show u2 = Value.type T from r2)
    obtain ⟨P, Z, p, hx⟩ := kit_dz I r1 hd (by simpa using he)
    exact PySem.W.kia_one Z I.kIn p (kit_ty (kit_isTy hT d)) hx fun tk => ⟨.bl _, H, I.tok tk, rfl, q _ H (Same.refl H) (.bl _)⟩
end
section
variable {X : Cx} {H0 : HT} {io : Option Addr} {a : Expr} {ta : TE} {F : DF} {pos : Pos}
theorem den_isi {K : PySem.W.Frag} {W0 : World} {T : String} (h : DenV K W0 H0 io ta F) : Den K W0 H0 io (tCB (rIsD K W0 T) (tCons ta (tCons (tC (.ty T)) tNil))) (dUn (isiD T) F) := fun σ H ρ d ρ' R g Q q => by
  unfold dUn at g
  cases fa : F ρ with
  | none => rw [fa] at g; cases g
  | some p =>
    obtain ⟨x, ρ1⟩ := p
    rw [fa] at g
    simp only [Option.bind_some] at g
    cases fz : isiD T x with
    | none => rw [fz] at g; cases g
    | some z =>
      rw [fz] at g
      cases g
      refine h σ H ρ _ _ R fa _ fun v H1 R1 s1 z1 => ?_
      exact ⟨v, x, _, rfl, z1, fz, fun r H3 sm z3 => q r H3 (R1.same sm) (s1.trans (.of sm)) z3⟩
theorem pm_isi {x : Str} {T : String} {p p2 : Pos} (ha : PV X H0 io a ta F) (hm : X.mg "isinstance" = none) (hm2 : X.mg x = none) (hT : tyOk T = true := by decide) (hv : bootBuiltins x = some (.type T) := by decide +kernel) (hg : Gl X "isinstance" := by rfl) (hg2 : Gl X x := by rfl) (hn : x ≠ "__name__" := by decide) (hdb : (x == ("__debug__" : Str)) = false := by decide)
    (he : starEach (a :: [.Name x p2]) X.env = (false, eval a X.env) :: starEach [.Name x p2] X.env := by rfl) (he2 : starEach [.Name x p2] X.env = (false, eval (.Name x p2) X.env) :: starEach [] X.env := by rfl) (hpl : (backTo pos (starEach [.Name x p2] X.env)).any (·.1) = false := by rfl) :
    PM X H0 io (.Call (.Name "isinstance" p) [a, .Name x p2] [] pos) (tCB (rIsD X.K X.w T) (tCons ta (tCons (tC (.ty T)) tNil))) (dUn (isiD T) F) :=
  ⟨pe_callB (cD_isi hT) hg hm (by decide +kernel) (pa_cons ha.pe (pa_cons (pe_bltn hg2 hm2 hv rfl hn hdb) pa_nil he2) he) (by decide) (by decide) he hpl, den_isi ha.dn⟩
end

/-! ### repr(x) -/
mutual
def noLst : PyData → Bool
  | .list _ => false
  | .tuple ds => noLstA ds
  | .dict kvs => noLstK kvs
  | _ => true
def noLstA : List PyData → Bool
  | [] => true
  | d :: ds => noLst d && noLstA ds
def noLstK : List (PyData × PyData) → Bool
  | [] => true
  | (k, d) :: r => noLst k && noLst d && noLstK r
end
def reprD (d : PyData) : Option PyData := if (d.showable && (!d.hasDict || noLst d) && few d.shown.length && decide (d.depth ≤ 60)) = true then some (.str d.shown) else none
section
variable {X : Cx} {pins : List (Addr × Obj)} {σ : L2.St} {H : Hp} {s : Shared}
mutual
theorem reads_dz (I : Inv X pins σ H s) : ∀ {v : V} {d : PyData} {u : Value}, Dz X.K X.w H v d → RelV v u → (d.hasDict = false ∨ noLst d = true) → ∃ as, Reads s.heap u d as ∧ (noLst d = true → sysModules ∉ as)
  | _, _, _, .non, r, _ => by cases r; exact ⟨[], .none, fun _ => by simp⟩
  | _, _, _, .bl b, r, _ => by cases r; exact ⟨[], .bool _, fun _ => by simp⟩
  | _, _, _, .int i, r, _ => by obtain ⟨t, rfl⟩ := r; exact ⟨[], .int _ _, fun _ => by simp⟩
  | _, _, _, .str x, r, _ => by obtain ⟨t, rfl⟩ := r; exact ⟨[], .str _ _, fun _ => by simp⟩
  | _, _, _, .tup (a := a) (xs := xs) (ds := ds) h1 h2, r, n => by
    cases r
    obtain ⟨its, rv, p, _⟩ := I.tuple h1
    obtain ⟨o, e1, e2, k, e3⟩ := p
    obtain ⟨as, h3, h4⟩ := reads_dzA I h2 rv (by simpa [PyData.hasDict, noLst] using n)
    exact ⟨as, .tuple e1 e2 e3 (by simpa using h3), fun z => h4 (by simpa [noLst] using z)⟩
  | _, _, _, .lst (a := a) (xs := xs) (ds := ds) h1 h2, r, n => by
    cases r
    obtain ⟨_, its, k, rv, hl, e⟩ := inv_lstR I (.inr h1)
    have n' : PyData.hasDictAll ds = false := by simpa [PyData.hasDict, noLst] using n
    obtain ⟨as, h3, _⟩ := reads_dzA I h2 rv (.inl n')
    exact ⟨a :: as, .list e rfl rfl (by simpa using h3), fun z => by simp [noLst] at z⟩
  | _, _, _, .dct (a := a) (o := o) (es := es) (ep := ep) (kvs := kvs) h1 h2 h3 h4 h5 h6, r, n => by
    cases r
    obtain ⟨e1, _⟩ := I.hok _ _ h1
    have n' : noLstK kvs = true := by simpa [PyData.hasDict, noLst] using n
    obtain ⟨as, bs, g1, g2, g3, g4⟩ := reads_dzK I h6 n'
    refine ⟨a :: as ++ bs, .dict e1 h2.1 h3 g1 g2, fun _ z => ?_⟩
    rcases List.mem_cons.mp z with z | z
    · rw [← z] at h4; simp at h4
    · rcases List.mem_append.mp z with z | z
      · exact g3 z
      · exact g4 z
  | _, _, _, .exc .., r, n => by simp [PyData.hasDict, noLst, noLstK] at n
theorem reads_dzA (I : Inv X pins σ H s) : ∀ {vs : List V} {ds : List PyData} {us : List Value}, DzAll X.K X.w H vs ds → Vals vs us → (PyData.hasDictAll ds = false ∨ noLstA ds = true) → ∃ as, ReadsAll s.heap us ds as ∧ (noLstA ds = true → sysModules ∉ as)
  | _, _, _, .nil, r, _ => by cases r; exact ⟨[], .nil, fun _ => by simp⟩
  | _, _, _, .cons (d := d) (ds := ds) h t, r, n => by
    cases r with
    | cons r1 r2 =>
      have n1 : d.hasDict = false ∨ noLst d = true := by
        rcases n with n | n
        · simp only [PyData.hasDictAll, Bool.or_eq_false_iff] at n; exact .inl n.1
        · simp only [noLstA, Bool.and_eq_true] at n; exact .inr n.1
      have n2 : PyData.hasDictAll ds = false ∨ noLstA ds = true := by
        rcases n with n | n
        · simp only [PyData.hasDictAll, Bool.or_eq_false_iff] at n; exact .inl n.2
        · simp only [noLstA, Bool.and_eq_true] at n; exact .inr n.2
      obtain ⟨as, h1, h2⟩ := reads_dz I h r1 n1
      obtain ⟨bs, h3, h4⟩ := reads_dzA I t r2 n2
      refine ⟨as ++ bs, .cons h1 h3, fun z y => ?_⟩
      simp only [noLstA, Bool.and_eq_true] at z
      rcases List.mem_append.mp y with y | y
      · exact h2 z.1 y
      · exact h4 z.2 y
theorem reads_dzK (I : Inv X pins σ H s) : ∀ {es : List DictEntry} {kvs : List (PyData × PyData)}, DzKv X.K X.w H es kvs → noLstK kvs = true → ∃ as bs, ReadsAll s.heap (es.map (·.key)) (kvs.map (·.1)) as ∧ ReadsAll s.heap (es.map (·.val)) (kvs.map (·.2)) bs ∧ sysModules ∉ as ∧ sysModules ∉ bs
  | _, _, .nil, _ => ⟨[], [], .nil, .nil, by simp, by simp⟩
  | _, _, .cons (k := k) (d := d) (kvs := kvs) r1 h1 r2 h2 _ _ t, n => by
    simp only [noLstK, Bool.and_eq_true] at n
    obtain ⟨a1, g1, g2⟩ := reads_dz I h1 r1 (.inr n.1.1)
    obtain ⟨a2, g3, g4⟩ := reads_dz I h2 r2 (.inr n.1.2)
    obtain ⟨as, bs, g5, g6, g7, g8⟩ := reads_dzK I t n.2
    refine ⟨a1 ++ as, a2 ++ bs, .cons g1 g5, .cons g3 g6, fun z => ?_, fun z => ?_⟩
    · rcases List.mem_append.mp z with z | z
      · exact g2 n.1.1 z
      · exact g7 z
    · rcases List.mem_append.mp z with z | z
      · exact g4 n.1.2 z
      · exact g8 z
end
theorem Vw.reads (I : Inv X pins σ H s) {v : V} {d : PyData} {u : Value} (h : Vw X.K X.w H v d) (r : RelV v u) (n : d.hasDict = false ∨ noLst d = true) : ∃ as, Reads s.heap u d as ∧ (noLst d = true → sysModules ∉ as) := by
  rcases h with h | ⟨a, vs, es, rfl, rfl, h1, h2⟩
  · exact reads_dz I h r n
  · cases r
    obtain ⟨_, its, k, rv, hl, e⟩ := inv_lstR I (.inl h1)
    have n' : PyData.hasDictAll es = false := by simpa [PyData.hasDict, noLst] using n
    obtain ⟨as, h3, _⟩ := reads_dzA I h2 rv (.inl n')
    exact ⟨a :: as, .list e rfl rfl (by simpa using h3), fun z => by simp [noLst] at z⟩
theorem cD_repr {k : Nat} (hr : RoomG k X.A) : CallR X (.builtin "repr") (rDV X.K X.w reprD) := by
  intro pins s σ H xs us Q I r hyp
  obtain ⟨x, d, z, rfl, hd, hz, q⟩ := hyp
  unfold reprD at hz
  split at hz
  · rename_i hc
    cases hz
    simp only [Bool.and_eq_true, Bool.or_eq_true, Bool.not_eq_true', decide_eq_true_eq] at hc
    obtain ⟨⟨⟨c1, c2⟩, c3⟩, c4⟩ := hc
    obtain ⟨u, rfl, ru⟩ := vals1 r
    obtain ⟨as, h1, h2⟩ := hd.reads I ru c2
    have done : ∀ h' u tk, (∀ b o, s.heap.get? b = some o → h'.get? b = some o) → EP X pins σ Q (.str d.shown u) { s with heap := h', toks := tk } := fun h' u tk hk => ⟨.str d.shown, H, I.kept hk, ⟨u, rfl⟩, q _ H (Same.refl H) (.str _)⟩
    have big := hu65 hr
    cases h1 with
    | none => exact P.repr_of_none ⟨.str _, H, I.tok _, ⟨_, rfl⟩, q _ H (Same.refl H) (.str _)⟩
    | bool b => exact P.repr_of_bool ⟨.str _, H, I.tok _, ⟨_, rfl⟩, q _ H (Same.refl H) (.str _)⟩
    | int i t => exact P.repr_of_int (by simpa [PyData.showable] using c1) ⟨.str _, H, I.tok _, ⟨_, rfl⟩, q _ H (Same.refl H) (.str _)⟩
    | str x t => exact P.repr_of_str ⟨.str _, H, I.tok _, ⟨_, rfl⟩, q _ H (Same.refl H) (.str _)⟩ (few_le c3)
    | list a1 a2 a3 a4 =>
      exact repr_of_reads' (.list a1 a2 a3 a4) c1 (fun hh => h2 (c2.resolve_left (by rw [hh]; exact fun z => by cases z))) hr.gd (by omega) (fun _ _ e => e) done (few_le c3)
    | tuple a1 a2 a3 a4 =>
      exact repr_of_reads' (.tuple a1 a2 a3 a4) c1 (fun hh => h2 (c2.resolve_left (by rw [hh]; exact fun z => by cases z))) hr.gd (by omega) (fun _ _ e => e) done (few_le c3)
    | dict a1 a2 a3 a4 a5 =>
      exact repr_of_reads' (.dict a1 a2 a3 a4 a5) c1 (fun hh => h2 (c2.resolve_left (by rw [hh]; exact fun z => by cases z))) hr.gd (by omega) (fun _ _ e => e) done (few_le c3)
  · cases hz
end
end DL
set_option Elab.async false
set_option linter.all false
set_option maxRecDepth 100000
set_option maxHeartbeats 1000000
/-! DL8: list(range(..)), slices, methods of lists, stores. -/
namespace DL
open PySem PySem.Spec L2
open PyProof.Rows hiding St

section
variable {K : PySem.W.Frag} {W0 : World} {H : Hp}
theorem dz_rng (lo : Int) (n : Nat) : DzAll K W0 H ((List.range n).map fun i => V.int (lo + (i : Nat))) (rngD lo n) := by
  unfold rngD
  induction List.range n with
  | nil => exact .nil
  | cons i is ih => exact .cons (.int _) ih
end
/-! ### list(range(..)) -/
def rgB (a b : Int) : Bool := small62 a && small62 b && decide ((b - a).toNat ≤ 16777216)
theorem rgB_ok {a b : Int} (h : rgB a b = true) : RgOk a b := by
  unfold rgB small62 at h
  simp only [Bool.and_eq_true, decide_eq_true_eq] at h
  exact ⟨h.1.1.1, h.1.1.2, h.1.2.1, h.1.2.2, h.2⟩
def lRg1 (F : DF) : DFL := fun ρ => (F ρ).bind fun p => match p.1 with
  | .int j => if rgB 0 j = true then some (rngD 0 j.toNat, p.2) else none
  | _ => none
def lRg2 (F G : DF) : DFL := fun ρ => (F ρ).bind fun p => (G p.2).bind fun q => match p.1, q.1 with
  | .int i, .int j => if rgB i j = true then some (rngD i (j - i).toNat, q.2) else none
  | _, _ => none
section
variable {X : Cx} {H0 : HT} {io : Option Addr} {E : XK} {e a b o : Expr} {es : List Expr} {t ta tb te : TE} {F G : DF} {A : DFL} {ts : TA} {pos : Pos}
theorem pf_listRg1 {p p2 p3 : Pos} (hc : X.calm = true) (ha : PM X H0 io a ta F) (hm : X.mg "list" = none) (hm2 : X.mg "range" = none) (hg : Gl X "list" := by rfl) (hg2 : Gl X "range" := by rfl) (na : starEach [a] X.env = (false, eval a X.env) :: starEach [] X.env := by rfl)
    (ne : starEach [.Call (.Name "range" p2) [a] [] p3] X.env = (false, eval (.Call (.Name "range" p2) [a] [] p3) X.env) :: starEach [] X.env := by rfl) :
    PF X H0 io (.Call (.Name "list" p) [.Call (.Name "range" p2) [a] [] p3] [] pos) (tLstRg (tRg1 ta)) (lRg1 F) := ⟨pe_listRg hc hg hm (prg_1 hg2 hm2 ha.pe na) ne, fun σ H ρ d ρ' R g Q q => by
  unfold lRg1 at g
  cases fa : F ρ with
  | none => rw [fa] at g; cases g
  | some p =>
    obtain ⟨x, ρ1⟩ := p
    rw [fa] at g
    simp only [Option.bind_some] at g
    split at g
    · rename_i j
      split at g
      · rename_i hb
        cases g
        refine ha.dn σ H ρ _ _ R fa _ fun v H1 R1 s1 z1 => ?_
        cases z1
        refine ⟨j, rfl, rgB_ok hb, fun p hp => q p _ H1 _ R1 s1 hp (same_new hp) upd_same ?_⟩
        have e : rgV 0 j = (List.range j.toNat).map fun i => V.int (0 + (i : Nat)) := by
          unfold rgV
          rw [show (j - 0).toNat = j.toNat by rw [Int.sub_zero]]
        rw [e]
        exact dz_rng _ _
      · cases g
    · cases g⟩
theorem pf_listRg2 {p p2 p3 : Pos} (hc : X.calm = true) (ha : PM X H0 io a ta F) (hb : PM X H0 io b tb G) (hm : X.mg "list" = none) (hm2 : X.mg "range" = none) (hg : Gl X "list" := by rfl) (hg2 : Gl X "range" := by rfl)
    (na : starEach [a, b] X.env = (false, eval a X.env) :: starEach [b] X.env := by rfl) (nb : starEach [b] X.env = (false, eval b X.env) :: starEach [] X.env := by rfl) (hp : (backTo p3 (starEach [b] X.env)).any (·.1) = false := by rfl)
    (ne : starEach [.Call (.Name "range" p2) [a, b] [] p3] X.env = (false, eval (.Call (.Name "range" p2) [a, b] [] p3) X.env) :: starEach [] X.env := by rfl) :
    PF X H0 io (.Call (.Name "list" p) [.Call (.Name "range" p2) [a, b] [] p3] [] pos) (tLstRg (tRg2 ta tb)) (lRg2 F G) := ⟨pe_listRg hc hg hm (prg_2 hg2 hm2 ha.pe hb.pe na nb hp) ne, fun σ H ρ d ρ' R g Q q => by
  unfold lRg2 at g
  cases fa : F ρ with
  | none => rw [fa] at g; cases g
  | some p =>
    obtain ⟨x, ρ1⟩ := p
    rw [fa] at g
    simp only [Option.bind_some] at g
    cases fb : G ρ1 with
    | none => rw [fb] at g; cases g
    | some p2 =>
      obtain ⟨y, ρ2⟩ := p2
      rw [fb] at g
      simp only [Option.bind_some] at g
      split at g
      · rename_i i j
        split at g
        · rename_i hk
          cases g
          refine ha.dn σ H ρ _ _ R fa _ fun v H1 R1 s1 z1 => ?_
          refine hb.dn σ H1 ρ1 _ _ R1 fb _ fun w H2 R2 s2 z2 => ?_
          cases z1
          cases z2
          exact ⟨i, j, rfl, rfl, rgB_ok hk, fun p hp => q p _ H2 _ R2 (s1.trans s2) hp (same_new hp) upd_same (dz_rng _ _)⟩
        · cases g
      · cases g⟩

/-! ### slices -/
def cutD {α : Type} (xs : List α) (lo hi : Option Int) : List α := (xs.drop (HT.sIx xs.length 0 lo)).take (HT.sIx xs.length xs.length hi - HT.sIx xs.length 0 lo)
def slD : PyData → Option Int → Option Int → Option PyData
  | .list xs, lo, hi => some (.list (cutD xs lo hi))
  | .tuple xs, lo, hi => some (.tuple (cutD xs lo hi))
  | .str z, lo, hi => if few z.length = true then some (.str (cutS z lo hi)) else none
  | _, _, _ => none
def rSlD (K : PySem.W.Frag) (W0 : World) : V → Option Int → Option Int → Hp → VK → Prop := fun x lo hi H Q => ∃ d z, Vw K W0 H x d ∧ slD d lo hi = some z ∧ ∀ v H', Same H H' → Dz K W0 H' v z → Q v H'
theorem cut_dz {K : PySem.W.Frag} {W0 : World} {H : Hp} {vs : List V} {ds : List PyData} {lo hi : Option Int} (h : DzAll K W0 H vs ds) : DzAll K W0 H (cutV vs lo hi) (cutD ds lo hi) := by
  unfold cutV cutD
  rw [h.len]
  exact (h.drop _).take _
theorem cut_whole {α : Type} {xs : List α} {lo hi : Option Int} (h : HT.sIx xs.length 0 lo = 0 ∧ HT.sIx xs.length xs.length hi = xs.length) : cutD xs lo hi = xs := by
  unfold cutD
  rw [h.1, h.2]
  simp
theorem sl_D : SlR X (rSlD X.K X.w) := by
  intro pins s σ H x v vl vu lo hi sl Q I rx hs pl pu hyp
  obtain ⟨d, z, hd, hz, q⟩ := hyp
  unfold slD at hz
  split at hz
  · cases hz
    obtain ⟨a, vs, rfl, h1, h2⟩ := hd.list
    obtain ⟨T, id, g1, g2, g3⟩ := sl_list pins s σ H _ v vl vu lo hi sl (FrQ Q) I rx hs pl pu ⟨a, vs, rfl, h1, fun p hp => frQ_of hp rfl (cut_dz h2) q⟩
    exact ⟨T, id, g1, g2, thn g3 fun _ _ z => ep_freeze z⟩
  · cases hz
    obtain ⟨a, vs, rfl, h1, h2⟩ := hd.tup
    refine sl_tupA pins s σ H _ v vl vu lo hi sl Q I rx hs pl pu ⟨a, vs, rfl, h1, fun hw => ?_, fun hw p hp => ?_⟩
    · rw [h2.len] at hw
      refine q _ H (Same.refl H) ?_
      rw [cut_whole hw]
      exact .tup h1 h2
    · have sm := same_new (o := .tup (cutV vs lo hi)) hp
      exact q _ _ sm (.tup (.of upd_same) ((cut_dz h2).mono (.of sm)))
  · split at hz
    · rename_i hf
      cases hz
      cases hd.str
      exact sl_str pins s σ H _ v vl vu lo hi sl Q I rx hs pl pu ⟨_, rfl, few_le hf, q _ H (Same.refl H) (.str _)⟩
    · cases hz
  · cases hz
abbrev DO := En → Option (Option Int × En)
structure OM (X : Cx) (H0 : HT) (io : Option Addr) (e : Option Expr) (t : TO) (O : DO) : Prop where
  po : PO X e t
  dn : ∀ (σ : L2.St) (H : Hp) (ρ : En) (o : Option Int) (ρ' : En), SR X.K X.w H0 io σ H ρ → O ρ = some (o, ρ') → ∀ Q : Option Int → Hp → Prop, (∀ H', SR X.K X.w H0 io σ H' ρ' → Stay H H' → Q o H') → t σ H Q
def oNo : DO := fun ρ => some (none, ρ)
def oI (F : DF) : DO := fun ρ => (F ρ).bind fun p => match p.1 with
  | .int i => some (some i, p.2)
  | _ => none
theorem om_none : OM X H0 io none tNoPart oNo := ⟨po_none, fun σ H ρ o ρ' R g Q q => by
  cases g
  exact q H R (.refl H)⟩
theorem om_some (h : PM X H0 io e t F) : OM X H0 io (some e) (tPart t) (oI F) := ⟨po_some h.pe, fun σ H ρ o ρ' R g Q q => by
  unfold oI at g
  cases fa : F ρ with
  | none => rw [fa] at g; cases g
  | some p =>
    obtain ⟨x, ρ1⟩ := p
    rw [fa] at g
    simp only [Option.bind_some] at g
    split at g
    · cases g
      refine h.dn σ H ρ _ _ R fa _ fun v H1 R1 s1 z1 => ?_
      cases z1
      exact ⟨_, rfl, q H1 R1 s1⟩
    · cases g⟩
def dSl (F : DF) (L U : DO) : DF := fun ρ => (F ρ).bind fun p => (L p.2).bind fun l => (U l.2).bind fun u => (slD p.1 l.1 u.1).map fun z => (z, u.2)
theorem pm_sl {lo hi : Option Expr} {tl th : TO} {L U : DO} {p2 : Pos} (he : PM X H0 io e te F) (hl : OM X H0 io lo tl L) (hu : OM X H0 io hi th U) : PM X H0 io (.Subscript e (.Slice lo hi none p2) pos) (tSl (rSlD X.K X.w) te tl th) (dSl F L U) := ⟨pe_slice sl_D he.pe hl.po hu.po, fun σ H ρ d ρ' R g Q q => by
  unfold dSl at g
  cases fa : F ρ with
  | none => rw [fa] at g; cases g
  | some p =>
    obtain ⟨x, ρ1⟩ := p
    rw [fa] at g
    simp only [Option.bind_some] at g
    cases fl : L ρ1 with
    | none => rw [fl] at g; cases g
    | some l =>
      obtain ⟨l, ρ2⟩ := l
      rw [fl] at g
      simp only [Option.bind_some] at g
      cases fu : U ρ2 with
      | none => rw [fu] at g; cases g
      | some u =>
        obtain ⟨u, ρ3⟩ := u
        rw [fu] at g
        simp only [Option.bind_some] at g
        cases fz : slD x l u with
        | none => rw [fz] at g; cases g
        | some z =>
          rw [fz] at g
          cases g
          refine he.dn σ H ρ _ _ R fa _ fun v H1 R1 s1 z1 => ?_
          refine hl.dn σ H1 ρ1 _ _ R1 fl _ fun H2 R2 s2 => ?_
          refine hu.dn σ H2 ρ2 _ _ R2 fu _ fun H3 R3 s3 => ?_
          exact ⟨x, _, .inl ((z1.mono s2).mono s3), fz, fun r H4 sm z4 => q r H4 (R3.same sm) (((s1.trans s2).trans s3).trans (.of sm)) z4⟩⟩

/-! ### methods of lists -/
theorem ty_list {K : PySem.W.Frag} {W0 : World} {H : Hp} {v : V} {ds : List PyData} (h : Vw K W0 H v (.list ds)) : tyV K "list" v H := by
  obtain ⟨a, vs, rfl, h1, _⟩ := h.list
  exact .inl ⟨rfl, vs, h1⟩
/-- a method that only reads, on a list -/
def dMet (f : List PyData → List PyData → Option PyData) (F : DF) (A : DFL) : DF := fun ρ => (F ρ).bind fun p => (A p.2).bind fun q => match p.1 with
  | .list ds => (f ds q.1).map fun z => (z, q.2)
  | _ => none
def rMet (K : PySem.W.Frag) (W0 : World) (f : List PyData → List PyData → Option PyData) : V → List V → Hp → VK → Prop := fun x xs H Q => ∃ ds es z, Vw K W0 H x (.list ds) ∧ DzAll K W0 H xs es ∧ f ds es = some z ∧ ∀ v H', Same H H' → Dz K W0 H' v z → Q v H'
theorem den_met {K : PySem.W.Frag} {W0 : World} {f : List PyData → List PyData → Option PyData} (ho : Den K W0 H0 io t F) (ha : DenA K W0 H0 io ts A) : Den K W0 H0 io (tBM K "list" (rMet K W0 f) t ts) (dMet f F A) := fun σ H ρ d ρ' R g Q q => by
  unfold dMet at g
  cases fa : F ρ with
  | none => rw [fa] at g; cases g
  | some p =>
    obtain ⟨x, ρ1⟩ := p
    rw [fa] at g
    simp only [Option.bind_some] at g
    cases fb : A ρ1 with
    | none => rw [fb] at g; cases g
    | some p2 =>
      obtain ⟨es, ρ2⟩ := p2
      rw [fb] at g
      simp only [Option.bind_some] at g
      cases x with
      | list ds =>
        cases fz : f ds es with
        | none => simp only [fz] at g; cases g
        | some z =>
          simp only [fz, Option.map_some] at g
          cases g
          refine ho σ H ρ _ _ R fa _ fun v H1 R1 s1 z1 => ⟨ty_list (.inl z1), ?_⟩
          refine ha σ H1 ρ1 _ _ R1 fb _ fun vs H2 R2 s2 z2 => ?_
          exact ⟨ds, es, _, .inl (z1.mono s2), z2, fz, fun r H3 sm z3 => q r H3 (R2.same sm) ((s1.trans s2).trans (.of sm)) z3⟩
      | _ => cases g
def idxD : List PyData → List PyData → Option PyData
  | ds, [d] => if (SeqAt.shaped (.list ds) && SeqAt.shaped d) = true then (ds.findIdx? fun z => PyData.eqv z d).map fun j => .int (j : Nat) else none
  | _, _ => none
theorem mD_index {k : Nat} (hr : RoomG k X.A) : MtR X "list.index" (rMet X.K X.w idxD) := by
  intro pins s σ H x xs v us Q I rx rxs hyp
  obtain ⟨ds, es, z, hd, he, hz, q⟩ := hyp
  unfold idxD at hz
  split at hz
  · rename_i d
    split at hz
    · rename_i hs
      obtain ⟨h1, h2⟩ := Bool.and_eq_true_iff.mp hs
      cases fi : ds.findIdx? (fun z => PyData.eqv z d) with
      | none => rw [fi] at hz; cases hz
      | some j =>
        rw [fi] at hz
        cases hz
        obtain ⟨hj, hp, hn⟩ := List.findIdx?_eq_some_iff_getElem.mp fi
        cases he with
        | cons e1 e2 =>
          cases e2
          obtain ⟨a, vs, rfl, _, _⟩ := hd.list
          exact mt_indexD (hu65 hr) pins s σ H _ _ v us Q I rx rxs ⟨a, _, d, _, j, _, rfl, rfl, hd.dp (noDict h1), e1.dp (noDict h2), h1, h2, List.getElem?_eq_getElem hj, hp, fun m z' hm hz' => by
            obtain ⟨hl, rfl⟩ := List.getElem?_eq_some_iff.mp hz'
            simpa using hn m hm, q _ H (Same.refl H) (.int _)⟩
    · cases hz
  · cases hz
theorem pm_index {k : Nat} {p2 p3 : Pos} (hr : RoomG k X.A) (ho : PM X H0 io o t F) (ha : AM X H0 io (a :: []) ts A)
    (hbase : attributeBase o "index" X.env (eval o X.env) = eval o X.env := by rfl)
    (hfew : ((backTo p3 (starEach [a] X.env)).all (fun x => !x.1) && (backToKw p3 (keywordEach [] X.env)).all (fun x => x.1.isSome)
      && decide (([a] : List Expr).length + ([] : List Keyword).length + (if ([] : List Keyword).isEmpty then 0 else 1) < 30)) = true := by rfl)
    (hline : (p2.endLine == p3.line) = true := by rfl) (hs : starEach [a] X.env = (false, eval a X.env) :: starEach [] X.env := by rfl) (hplain : (backTo p3 (starEach [] X.env)).any (·.1) = false := by rfl) :
    PM X H0 io (.Call (.Attribute o "index" p2) [a] [] p3) (tBM X.K "list" (rMet X.K X.w idxD) t ts) (dMet idxD F A) :=
  ⟨pe_bm PySem.F.plainAttrs_list PySem.F.slot_list_index PySem.F.type_list_index (mD_index hr) ho.pe ha.pa hbase hfew hline hs hplain, den_met ho.dn ha.dn⟩
/-- xs.count(x) of flat items -/
def cntD : List PyData → List PyData → Option PyData
  | ds, [d] => if (flatD d && ds.all flatD) = true then some (.int (ds.countP fun z => PyData.eqv z d : Nat)) else none
  | _, _ => none
theorem countP_eqU {K : PySem.W.Frag} {W0 : World} {H : Hp} {x : V} {d : PyData} (hx : Vw K W0 H x d) (fx : flatD d = true) : ∀ {vs : List V} {ds : List PyData} {us : List Value}, DzAll K W0 H vs ds → Vals vs us → ds.all flatD = true → us.countP (eqU x) = ds.countP fun z => PyData.eqv z d
  | _, _, _, .nil, r, _ => by cases r; rfl
  | _, _, _, .cons h t, r, f => by
    cases r with
    | cons r1 r2 =>
      rw [List.all_cons, Bool.and_eq_true] at f
      rw [List.countP_cons, List.countP_cons, countP_eqU hx fx t r2 f.2, eqU_of r1 (flat_v (.inl h) f.1), flat_eq (.inl h) hx f.1 fx]
theorem mD_count : MtR X "list.count" (rMet X.K X.w cntD) := by
  intro pins s σ H x xs v us Q I rx rxs hyp
  obtain ⟨ds, es, z, hd, he, hz, q⟩ := hyp
  unfold cntD at hz
  split at hz
  · rename_i d
    split at hz
    · rename_i hs
      obtain ⟨h1, h2⟩ := Bool.and_eq_true_iff.mp hs
      cases hz
      cases he with
      | cons e1 e2 =>
        cases e2
        obtain ⟨a, vs, rfl, hq, hdv⟩ := hd.list
        cases rx
        obtain ⟨u, rfl, ru⟩ := rxs.one
        obtain ⟨its, rv, ⟨⟨cls, dd, data, sl⟩, n, ho, hc, hdn, hdt⟩, hlen⟩ := I.list hq
        simp only at hc hdt
        subst hc hdt
        refine call_meets PySem.F.slot_list_count ⟨_, ho, rfl⟩ PySem.F.entry_list_count (PySem.F.args_list_count_2 _ _)
          (SeqAt.list_countAt a its.toArray n dd sl u (eqU _)) ⟨ho, fun y hy => (mem_eqAt ru (flat_v (.inl e1) h1) rv (flat_all hdv h2) y (by simpa using hy)), ?_⟩
        refine ⟨.int _, H, I.tok _, ⟨s.toks, ?_⟩, q _ H (Same.refl H) (.int _)⟩
        have := countP_eqU (.inl e1) h1 hdv rv h2
        show Value.int ((its.toArray.toList.countP (eqU _) : Nat) : Int) s.toks = _
        rw [show its.toArray.toList = its by simp, this]
    · cases hz
  · cases hz
theorem pm_count {p2 p3 : Pos} (ho : PM X H0 io o t F) (ha : AM X H0 io (a :: []) ts A)
    (hbase : attributeBase o "count" X.env (eval o X.env) = eval o X.env := by rfl)
    (hfew : ((backTo p3 (starEach [a] X.env)).all (fun x => !x.1) && (backToKw p3 (keywordEach [] X.env)).all (fun x => x.1.isSome)
      && decide (([a] : List Expr).length + ([] : List Keyword).length + (if ([] : List Keyword).isEmpty then 0 else 1) < 30)) = true := by rfl)
    (hline : (p2.endLine == p3.line) = true := by rfl) (hs : starEach [a] X.env = (false, eval a X.env) :: starEach [] X.env := by rfl) (hplain : (backTo p3 (starEach [] X.env)).any (·.1) = false := by rfl) :
    PM X H0 io (.Call (.Attribute o "count" p2) [a] [] p3) (tBM X.K "list" (rMet X.K X.w cntD) t ts) (dMet cntD F A) :=
  ⟨pe_bm PySem.F.plainAttrs_list PySem.F.slot_list_count PySem.F.type_list_count mD_count ho.pe ha.pa hbase hfew hline hs hplain, den_met ho.dn ha.dn⟩

/-! ### x.pop(e), x[e] = e2, x a list of its own in slot i -/
def dPopAt (i : Nat) (F : DF) : DF := fun ρ => (ownE ρ i).bind fun _ => (F ρ).bind fun p => (ownE p.2 i).bind fun ds => match p.1 with
  | .int j => if few ds.length = true then (ixN ds.length j).bind fun k => (ds[k]?).map fun z => (z, p.2.set i (.own (ds.eraseIdx k))) else none
  | _ => none
theorem pm_popAt (i : Nat) {x : Str} {p1 p2 p3 : Pos} (h : PM X H0 io e t F) (hN : X.N[i]? = some x := by rfl) (hv : Vis X.env.scope x := by first | exact Or.inl rfl | exact Or.inr (Or.inl rfl) | exact Or.inr (Or.inr rfl)) (hd : (x == ("__debug__" : Str)) = false := by decide)
    (hcd : (x == ("__classdict__" : Str)) = false := by decide) (hbase : attributeBase (.Name x p1) "pop" X.env (eval (.Name x p1) X.env) = eval (.Name x p1) X.env := by rfl)
    (hfew : ((backTo p3 (starEach [e] X.env)).all (fun x => !x.1) && (backToKw p3 (keywordEach [] X.env)).all (fun x => x.1.isSome)
      && decide (([e] : List Expr).length + ([] : List Keyword).length + (if ([] : List Keyword).isEmpty then 0 else 1) < 30)) = true := by rfl)
    (hline : (p2.endLine == p3.line) = true := by rfl) (hs : starEach [e] X.env = (false, eval e X.env) :: starEach [] X.env := by rfl) (hplain : (backTo p3 (starEach [] X.env)).any (·.1) = false := by rfl) :
    PM X H0 io (.Call (.Attribute (.Name x p1) "pop" p2) [e] [] p3) (tBM X.K "list" rPopAt (tVar i) (tCons t tNil)) (dPopAt i F) :=
  ⟨pe_bm PySem.F.plainAttrs_list PySem.F.slot_list_pop PySem.F.type_list_pop mt_popAt (pe_var hN hv hd hcd) (pa_cons h.pe pa_nil hs) hbase hfew hline hs hplain, fun σ H ρ d ρ' R g Q q => by
    unfold dPopAt at g
    cases fo : ownE ρ i with
    | none => rw [fo] at g; cases g
    | some xs0 =>
      rw [fo] at g
      simp only [Option.bind_some] at g
      cases fb : F ρ with
      | none => rw [fb] at g; cases g
      | some p =>
        obtain ⟨y, ρ1⟩ := p
        rw [fb] at g
        simp only [Option.bind_some] at g
        cases fx : ownE ρ1 i with
        | none => rw [fx] at g; cases g
        | some ds =>
          rw [fx] at g
          simp only [Option.bind_some] at g
          cases y with
          | int j =>
            simp only at g
            split at g
            rotate_left
            · cases g
            rename_i hfew
            have hfw : ds.length ≤ 16777216 := of_decide_eq_true hfew
            cases fj : ixN ds.length j with
            | none => rw [fj] at g; cases g
            | some k =>
              rw [fj] at g
              simp only [Option.bind_some] at g
              cases fz : ds[k]? with
              | none => rw [fz] at g; cases g
              | some z =>
                rw [fz] at g
                cases g
                obtain ⟨pp, vs0, h1, h1b, _⟩ := R.own i xs0 (ownE_some fo)
                refine ⟨.ref pp, h1, .inl ⟨rfl, _, .inl (.inl h1b)⟩, ?_⟩
                refine h.dn σ H ρ _ _ R fb _ fun v H1 R1 s1 z1 => ?_
                cases z1
                obtain ⟨pp', xv, h2, h3, h4, h5⟩ := R1.own i ds (ownE_some fx)
                rw [h1] at h2
                cases h2
                obtain ⟨w, hw, dw⟩ := h4.get fz
                obtain ⟨i1, i2, i3, i4⟩ := ixN_seq fj
                have hl := h4.len
                refine ⟨pp, xv, j, k, w, rfl, rfl, h3, by omega, by omega, by rw [hl]; exact i1, hw, ?_⟩
                have st : Stay H1 (upd H1 pp (.lst (xv.eraseIdx k))) := .lst h3
                exact q w _ (R1.wr (ownE_some fx) h1 (h4.erase k)) (s1.trans st) (dw.mono st)
          | _ => cases g⟩
end
end DL
set_option Elab.async false
set_option linter.all false
set_option maxRecDepth 100000
set_option maxHeartbeats 2000000
/-! DLI: what is walked: lists and tuples alike, enumerate, zip. -/
namespace DL
open PySem PySem.Spec L2
open PyProof.Rows hiding St

/-! ### a list (true) or a tuple (false) -/
def SqB : Bool → PySem.W.Frag → Hp → Addr → List V → Prop
  | true => SqL
  | false => SqT
def ItrB : Bool → Heap → Addr → Addr → Nat → Prop
  | true => fun h it a i => h.IsListIter it a i
  | false => fun h it a i => h.IsTupleIter it a i
def IsB : Bool → Heap → Addr → Array Value → Prop
  | true => fun h a its => h.IsList a its
  | false => fun h a its => h.IsTuple a its
def itrO : Bool → Addr → Obj
  | true => fun a => { cls := .type "list_iterator", data := .fields #[.ref a, .int 0 0] }
  | false => fun a => { cls := .type "tuple_iterator", data := .fields #[.ref a, .int 0 0] }
theorem ItrB.at {b : Bool} {h h' : Heap} {it a : Addr} {i : Nat} (x : ItrB b h it a i) (k : ∀ o, h.get? it = some o → h'.get? it = some o) : ItrB b h' it a i := by
  cases b with
  | true => exact Heap.IsListIter.at x k
  | false => exact Heap.IsTupleIter.at x k
theorem ItrB.lt {b : Bool} {h : Heap} {it a : Addr} {i : Nat} (x : ItrB b h it a i) : it < h.objs.size := by
  cases b with
  | true => obtain ⟨o, e, _⟩ := x; exact Heap.lt_size e
  | false => obtain ⟨o, e, _⟩ := x; exact Heap.lt_size e
theorem ItrB.obj {b : Bool} {h : Heap} {it a : Addr} {i : Nat} (x : ItrB b h it a i) : ∃ o, h.get? it = some o ∧ ∀ v, o.data ≠ .cell v := by
  cases b with
  | true => obtain ⟨o, e, _, d⟩ := x; exact ⟨o, e, fun v q => by rw [d] at q; cases q⟩
  | false => obtain ⟨o, e, _, d⟩ := x; exact ⟨o, e, fun v q => by rw [d] at q; cases q⟩
theorem itrB_new {b : Bool} {h : Heap} {it a : Addr} (e : h.get? it = some (itrO b a)) : ItrB b h it a 0 := by
  cases b with
  | true => exact ⟨_, e, rfl, rfl⟩
  | false => exact ⟨_, e, rfl, rfl⟩
section
variable {X : Cx} {pins : List (Addr × Obj)} {σ : L2.St} {H : Hp} {s : Shared}
theorem seqB {b : Bool} {a : Addr} {xs : List V} (I : Inv X pins σ H s) (h : SqB b X.K H a xs) : ∃ its : List Value, Vals xs its ∧ IsB b s.heap a its.toArray ∧ xs.length ≤ sizeLine := by
  cases b with
  | true => obtain ⟨its, r, p, z⟩ := I.list h; exact ⟨its, r, p.isList, z⟩
  | false => obtain ⟨its, r, p, z⟩ := I.tuple h; exact ⟨its, r, p, z⟩
theorem injB {b : Bool} {a : Addr} {xs ys : List V} (I : Inv X pins σ H s) (h : SqB b X.K H a xs) (h' : SqB b X.K H a ys) : ys = xs := by
  cases b with
  | true => exact I.list_inj h' h
  | false => exact I.tuple_inj h' h
theorem IsB.lt {b : Bool} {h : Heap} {a : Addr} {its : Array Value} (x : IsB b h a its) : a < h.objs.size := by
  cases b with
  | true => obtain ⟨o, e, _⟩ := x; exact Heap.lt_size e
  | false => obtain ⟨o, e, _⟩ := x; exact Heap.lt_size e
end
theorem drawsB {prog : Program} {w : World} {A : Around} (hh : A.handled = none) (b : Bool) (it a : Addr) (hne : a ≠ it) (its : Array Value) :
    Draws prog w A it [it, a] its.size (fun i v => its[i]? = some v) (fun i h => ItrB b h it a i ∧ IsB b h a its) := by
  cases b with
  | true => exact Draws.list hh it a hne its
  | false => exact Draws.tuple hh it a hne its
theorem beginsB (b : Bool) (a : Addr) (its : Array Value) : Begins (.ref a) (itrO b a) fun h => IsB b h a its := by
  cases b with
  | true => exact begins_list a its
  | false => exact begins_tuple a its

/-! ### enumerate(x) -/
theorem meets_enum1 {v : Value} {o : Obj} {H : Heap → Prop} (B : Begins v o H) :
    Meets (Builtin.«enumerate.__new__» ⟨[.type "enumerate", v], []⟩) (fun _ R s => H s.heap ∧
      R (.ok (.ret (.ref (s.heap.push o).objs.size))) { s with heap := (s.heap.push o).push { cls := .type "enumerate", data := .fields #[.none, .bool false, .ref s.heap.objs.size, rawInt 0, .none, .none] } }) :=
  .of_wp fun prog w A R s h => by
    obtain ⟨h0, g0, d0, t0, o0⟩ := s
    obtain ⟨hH, hR⟩ := h
    have sb := sub_enumerate
    have go : ∀ {A2 : Around} {E : Value → Shared → Prop} {Q : Value → Shared → Prop}, Q (.ref h0.objs.size) ⟨h0.push o, g0, d0, t0, o0⟩ → wpAny (model prog w) A2 (pyIter v) Q E ⟨h0, g0, d0, t0, o0⟩ := fun q => B.iter prog w _ _ ⟨h0, g0, d0, t0, o0⟩ _ hH q
    wp_walk using go
    refine wpAny_stack_any fun st => wpAny_pure ?_
    split
    · rename_i c _ _ _ _ _
      cases (c == Value.type "enumerate") <;> (wp_walk using go; exact ⟨_, rfl, hR⟩)
    · wp_walk using go
      exact ⟨_, rfl, hR⟩
theorem call_enum1 {prog : Program} {w : World} {A : Around} {E : Value → Shared → Prop} {s : Shared} {v : Value} {o : Obj} {H : Heap → Prop} {Q : Value → Shared → Prop} (B : Begins v o H) (hH : H s.heap)
    (q : ∀ h2, IsEnum h2 (s.heap.objs.size + 1) s.heap.objs.size 0 .none → h2.get? s.heap.objs.size = some o → (∀ b o, s.heap.get? b = some o → h2.get? b = some o) → Q (.ref (s.heap.objs.size + 1)) { s with heap := h2 }) :
    wpAny (model prog w) A (call (.type "enumerate") [v]) Q E s := by
  have z : (s.heap.push o).objs.size = s.heap.objs.size + 1 := Heap.size_push ..
  refine callType_new F.called_enumerate (by decide) (F.typeCall_enumerate_1 _) (F.newCall_enumerate_1 _) (fun obj => F.args_object_init_2 obj _) F.entry_enumerate_new (meets_enum1 B) ⟨hH, ?_⟩
  have e : ((s.heap.push o).push { cls := .type "enumerate", data := .fields #[.none, .bool false, .ref s.heap.objs.size, rawInt 0, .none, .none] }).get? (s.heap.objs.size + 1) = some { cls := .type "enumerate", data := .fields #[.none, .bool false, .ref s.heap.objs.size, rawInt 0, .none, .none] } := by
    rw [← z]; exact Heap.get?_push_size _ rfl
  show _ ∧ _
  rw [z]
  exact ⟨⟨_, e, rfl⟩, q _ e (Heap.get?_push_of_some _ (Heap.get?_push_size _ B.free)) fun b u e => Heap.get?_push_of_some _ (Heap.get?_push_of_some _ e)⟩
def ItEB (b : Bool) (K : PySem.W.Frag) (a : Addr) : It :=
  ⟨fun i H => ∃ (xs : List V) (x : V), SqB b K H a xs ∧ xs[i]? = some x, fun i H v H' => ∃ T x, v = .ref T ∧ H T = none ∧ H' = upd H T (.tup [.int (i : Nat), x]) ∧ ∀ xs, SqB b K H a xs → xs[i]? = some x,
    fun i H => ∃ xs : List V, SqB b K H a xs ∧ xs.length = i⟩
theorem turn_enumB {P : Program} {w : World} {K : PySem.W.Frag} {elts : List Expr} {kk : Nat} {tpos : Pos} (b : Bool) (a e it : Addr) :
    Turn P w K (.Tuple elts kk tpos) (ItEB b K a) [e, it] e (fun i h => (∃ old, IsEnum h e it ((i : Nat) : Int) old) ∧ ItrB b h it a i ∧ e ≠ it ∧ a ≠ it ∧ e ≠ a) where
  mem := List.mem_cons_self
  obj := fun i h st c hc => by
    obtain ⟨⟨old, he⟩, hi, _⟩ := st
    rcases List.mem_cons.mp hc with z | z
    · rw [z]; exact ⟨_, he, fun v q => nomatch q⟩
    · rw [List.mem_singleton.mp z]; exact hi.obj
  keep := fun i h h' st k => let ⟨⟨old, he⟩, hi, hne⟩ := st; ⟨⟨old, k e List.mem_cons_self _ he⟩, hi.at fun o q => k it (by simp) o q, hne⟩
  item := by
    intro X hP hw hK hc i pins s σ H E I hf st hg
    subst hP hw hK
    obtain ⟨⟨old, he⟩, hit, n1, n2, n3⟩ := st
    obtain ⟨xs, x, hq, hx⟩ := hg
    obtain ⟨its, rv, p, hz⟩ := seqB I hq
    obtain ⟨u, hu, ru⟩ := rv.get hx
    have le : e < s.heap.objs.size := Heap.lt_size he
    have li : it < s.heap.objs.size := hit.lt
    have hlt : i < its.toArray.size := by
      have := (List.getElem?_eq_some_iff.mp hu).1
      simpa using this
    refine wpAny_pyNext_enum_itemD (drawsB (A := X.A.in1) (I.ok.hd hc) b it a n2 its.toArray) he ⟨hit, p⟩ hlt n1 (by simp [n1, n3]) fun x' h2 tk hx' ho hit2 hT hsz hk => ?_
    have ex : x' = u := by
      have z : its.toArray[i]? = some x' := hx'
      rw [show its.toArray[i]? = its[i]? by simp, hu] at z
      exact (Option.some.inj z).symm
    subst ex
    refine ⟨_, rfl, wpAny_letOwnedTupleGo_enum (s := { s with heap := h2, toks := tk + 1 }) ho fun h3 he3 sb => ?_⟩
    have hT3 : h3.get? s.heap.objs.size = some { cls := .type "tuple", data := .seq #[.int i tk, x'] } := (sb.2 _ (Nat.ne_of_gt le)).trans hT
    have new : ObjOk X.prog X.w (upd H s.heap.objs.size (.tup [.int (i : Nat), x])) h3 s.heap.objs.size (.tup [.int (i : Nat), x]) :=
      ⟨by show 2 ≤ sizeLine; decide, [.int i tk, x'], .cons ⟨_, rfl⟩ (.cons ru .nil), _, hT3, rfl, _, rfl⟩
    have I1 : Inv X pins σ (upd H s.heap.objs.size (.tup [.int (i : Nat), x])) { s with heap := h3, toks := tk + 1 } :=
      I.turnedNew (ch := [e, it]) (fun c ob hb q => (sb.2 c fun z => hb (by simp [z])).trans (hk c ob (fun z => hb (by simp [z])) (fun z => hb (by simp [z])) q)) hf (Nat.le_refl _) new
    refine ⟨.ref s.heap.objs.size, _, I1, rfl, ⟨_, x, rfl, I.hok.fresh (Nat.le_refl _), rfl, fun ys hy => by rw [injB I hq hy]; exact hx⟩, ⟨⟨x', ?_⟩, hit2.1.at fun o q => (sb.2 it (Ne.symm n1)).trans q, n1, n2, n3⟩, fun c hcm => ?_⟩
    · rw [show ((i + 1 : Nat) : Int) = (i : Int) + 1 by omega]; exact he3
    · have lc : c < s.heap.objs.size := by
        rcases List.mem_cons.mp hcm with z | z
        · rw [z]; exact le
        · rw [List.mem_singleton.mp z]; exact li
      rw [upd_ne (Nat.ne_of_lt lc)]
      exact (hf c hcm).1
  done := by
    intro X hP hw hK hc i pins s σ H E I hf st hg
    subst hP hw hK
    obtain ⟨⟨old, he⟩, hit, n1, n2, n3⟩ := st
    obtain ⟨xs, hq, hx⟩ := hg
    obtain ⟨its, rv, p, hz⟩ := seqB I hq
    obtain ⟨f0, f1, f2, f3, f4, f5⟩ := hf it (by simp)
    have hl : its.toArray.size = i := by rw [List.size_toArray, ← rv.length, hx]
    exact wpAny_pyNext_enum_endD (drawsB (A := X.A.in1) (I.ok.hd hc) b it a n2 its.toArray) he (by rw [hl]; exact ⟨hit, p⟩) fun h2 eb => ⟨rfl, I.turned (t' := s.toks) (fun c o hb q => eb c o hb q) f0 f1 f3 f4 f5⟩
  self := fun A i s Q E st h => let ⟨⟨_, he⟩, _⟩ := st; wpAny_pyIter_enum he h
def iEB (K : PySem.W.Frag) (ta : TE) : TI := fun σ H R => ta σ H fun v H1 => ∃ b a xs, v = .ref a ∧ SqB b K H1 a xs ∧ R (ItEB b K a) H1
theorem pi_enumB {X : Cx} {e : Expr} {te : TE} {p pos tpos : Pos} {elts : List Expr} {kk : Nat} (hg : Gl X "enumerate") (hm : X.mg "enumerate" = none) (he : PE X e te) (hs : starEach [e] X.env = (false, eval e X.env) :: starEach [] X.env := by rfl) :
    PI X (.Tuple elts kk tpos) (.Call (.Name "enumerate" p) [e] [] pos) (iEB X.K te) := by
  refine ⟨fun pins s σ H R I h => ?_⟩
  refine Call_ (ld_blt I hg hm boot_enumerate (PyProof.Rows.callWith_type1 (PyProof.Rows.args_cons (thn (he.run pins s σ H _ I h) fun u s1 ⟨v, H1, I1, r1, q1⟩ => PyProof.Rows.args_nil ?_) hs) hs rfl))
  obtain ⟨b, a, xs, ex, hq, q⟩ := q1
  subst ex
  cases r1
  obtain ⟨its, rv, p', hz⟩ := seqB I1 hq
  have la := p'.lt
  refine call_enum1 (beginsB b a its.toArray) p' fun h2 he2 hit hk => wpAny_pyIter_enum he2 ?_
  have I2 : Inv X pins σ H1 { s1 with heap := h2 } := I1.kept (t' := s1.toks) hk
  refine ⟨s1.heap.objs.size + 1, [s1.heap.objs.size + 1, s1.heap.objs.size], _, _, H1, rfl, I2, turn_enumB b a (s1.heap.objs.size + 1) s1.heap.objs.size, ⟨⟨.none, he2⟩, itrB_new hit, Nat.succ_ne_self _, Nat.ne_of_lt la, Nat.ne_of_gt (Nat.lt_succ_of_lt la)⟩, fun c hb => ?_, q⟩
  have le : s1.heap.objs.size ≤ c := by
    rcases List.mem_cons.mp hb with z | z
    · rw [z]; exact Nat.le_succ _
    · rw [List.mem_singleton.mp z]; exact Nat.le_refl _
  exact I1.fpOk le (I1.hok.fresh le)

/-! ### zip(x, y) -/
def ItZB (b c : Bool) (K : PySem.W.Frag) (a1 a2 : Addr) : It :=
  ⟨fun i H => ∃ (xs ys : List V) (x y : V), SqB b K H a1 xs ∧ SqB c K H a2 ys ∧ xs[i]? = some x ∧ ys[i]? = some y,
    fun i H v H' => ∃ T x y, v = .ref T ∧ H T = none ∧ H' = upd H T (.tup [x, y]) ∧ (∀ xs, SqB b K H a1 xs → xs[i]? = some x) ∧ ∀ ys, SqB c K H a2 ys → ys[i]? = some y,
    fun i H => ∃ xs ys : List V, SqB b K H a1 xs ∧ SqB c K H a2 ys ∧ i ≤ xs.length ∧ i ≤ ys.length ∧ (i = xs.length ∨ i = ys.length)⟩
theorem turn_zipB {P : Program} {w : World} {K : PySem.W.Frag} {elts : List Expr} {kk : Nat} {tpos : Pos} (b c : Bool) {a1 a2 z TI TO i1 i2 : Addr} (S : ZipSep2 z TI TO i1 i2 [i1, a1] [i2, a2]) (n1 : a1 ≠ i1) (n2 : a2 ≠ i2) :
    Turn P w K (.Tuple elts kk tpos) (ItZB b c K a1 a2) [z, TI, TO, i1, i2] z (fun i h => IsZip h z TI TO .none ∧ IsTupOf2 h TI (.ref i1) (.ref i2) ∧ (∃ x y, IsTupOf2 h TO x y) ∧ ItrB b h i1 a1 i ∧ ItrB c h i2 a2 i) where
  mem := List.mem_cons_self
  obj := fun i h st d hd => by
    obtain ⟨hz, hTI, ⟨x, y, hTO⟩, h1, h2⟩ := st
    simp only [List.mem_cons, List.not_mem_nil, or_false] at hd
    rcases hd with q | q | q | q | q <;> rw [q]
    · exact ⟨_, hz, fun v q => nomatch q⟩
    · exact ⟨_, hTI, fun v q => nomatch q⟩
    · exact ⟨_, hTO, fun v q => nomatch q⟩
    · exact h1.obj
    · exact h2.obj
  keep := fun i h h' st k => by
    obtain ⟨hz, hTI, ⟨x, y, hTO⟩, h1, h2⟩ := st
    exact ⟨k z (by simp) _ hz, k TI (by simp) _ hTI, ⟨x, y, k TO (by simp) _ hTO⟩, h1.at fun o q => k i1 (by simp) o q, h2.at fun o q => k i2 (by simp) o q⟩
  item := by
    intro X hP hw hK hc i pins s σ H E I hf st hg
    subst hP hw hK
    obtain ⟨hz, hTI, ⟨x0, y0, hTO⟩, h1, h2⟩ := st
    obtain ⟨xs, ys, x, y, hqx, hqy, hx, hy⟩ := hg
    obtain ⟨its, rv, p, _⟩ := seqB I hqx
    obtain ⟨its2, rv2, p2, _⟩ := seqB I hqy
    obtain ⟨u, hu, ru⟩ := rv.get hx
    obtain ⟨u2, hu2, ru2⟩ := rv2.get hy
    have lz : z < s.heap.objs.size := Heap.lt_size hz
    have l1 : i < its.toArray.size := by have := (List.getElem?_eq_some_iff.mp hu).1; simpa using this
    have l2 : i < its2.toArray.size := by have := (List.getElem?_eq_some_iff.mp hu2).1; simpa using this
    have hh : X.A.in1.handled = none := I.ok.hd hc
    refine wpAny_pyNext_zipD2_item S (drawsB hh b i1 a1 n1 its.toArray) (drawsB hh c i2 a2 n2 its2.toArray) hz hTI hTO ⟨h1, p⟩ ⟨h2, p2⟩ l1 l2 fun x' y' h3 tk e1 e2 z3 TO3 st1 st2 hT hsz hk => ?_
    have ex : x' = u := by
      have e1 : its.toArray[i]? = some x' := e1
      rw [show its.toArray[i]? = its[i]? by simp, hu] at e1
      exact (Option.some.inj e1).symm
    have ey : y' = u2 := by
      have e2 : its2.toArray[i]? = some y' := e2
      rw [show its2.toArray[i]? = its2[i]? by simp, hu2] at e2
      exact (Option.some.inj e2).symm
    subst ex ey
    refine ⟨_, rfl, wpAny_letOwnedTupleGo_zip (s := { s with heap := h3, toks := tk }) z3 fun h4 z4 sb => ?_⟩
    have hT4 : h4.get? s.heap.objs.size = some { cls := .type "tuple", data := .seq #[x', y'] } := (sb.2 _ (Nat.ne_of_gt lz)).trans hT
    have new : ObjOk X.prog X.w (upd H s.heap.objs.size (.tup [x, y])) h4 s.heap.objs.size (.tup [x, y]) := ⟨by show 2 ≤ sizeLine; decide, [x', y'], .cons ru (.cons ru2 .nil), _, hT4, rfl, _, rfl⟩
    have I1 : Inv X pins σ (upd H s.heap.objs.size (.tup [x, y])) { s with heap := h4, toks := tk } :=
      I.turnedNew (ch := [z, TI, TO, i1, i2]) (fun d o hb q => (sb.2 d fun q' => hb (by simp [q'])).trans (hk d o (fun q' => hb (by simp [q'])) (fun q' => hb (by simp [q'])) (fun q' => hb (by simp [q'])) (fun q' => hb (by simp [q'])) q)) hf (Nat.le_refl _) new
    refine ⟨.ref s.heap.objs.size, _, I1, rfl, ⟨_, x, y, rfl, I.hok.fresh (Nat.le_refl _), rfl, fun l hl => by rw [injB I hqx hl]; exact hx, fun l hl => by rw [injB I hqy hl]; exact hy⟩, ⟨z4, ?_, ⟨x', y', ?_⟩, ?_, ?_⟩, fun d hd => ?_⟩
    · exact (sb.2 _ S.TIz).trans (hk _ _ S.TIz S.TITO S.TIi1 S.TIi2 hTI)
    · exact (sb.2 _ S.TOz).trans TO3
    · exact st1.1.at fun o q => (sb.2 _ (Ne.symm S.zi1)).trans q
    · exact st2.1.at fun o q => (sb.2 _ (Ne.symm S.zi2)).trans q
    · have ld : d < s.heap.objs.size := by
        simp only [List.mem_cons, List.not_mem_nil, or_false] at hd
        rcases hd with q | q | q | q | q <;> rw [q]
        · exact lz
        · exact Heap.lt_size hTI
        · exact Heap.lt_size hTO
        · exact h1.lt
        · exact h2.lt
      rw [upd_ne (Nat.ne_of_lt ld)]
      exact (hf d hd).1
  done := by
    intro X hP hw hK hc i pins s σ H E I hf st hg
    subst hP hw hK
    obtain ⟨hz, hTI, ⟨x0, y0, hTO⟩, h1, h2⟩ := st
    obtain ⟨xs, ys, hqx, hqy, g1, g2, hend⟩ := hg
    obtain ⟨its, rv, p, _⟩ := seqB I hqx
    obtain ⟨its2, rv2, p2, _⟩ := seqB I hqy
    have e1 : its.toArray.size = xs.length := by rw [List.size_toArray, ← rv.length]
    have e2 : its2.toArray.size = ys.length := by rw [List.size_toArray, ← rv2.length]
    have hh : X.A.in1.handled = none := I.ok.hd hc
    exact wpAny_pyNext_zipD2_end S (drawsB hh b i1 a1 n1 its.toArray) (drawsB hh c i2 a2 n2 its2.toArray) hz hTI hTO ⟨h1, p⟩ ⟨h2, p2⟩ (by rw [e1]; exact g1) (by rw [e2]; exact g2) (by rw [e1, e2]; exact hend) fun h3 tk hk =>
      ⟨rfl, I.turnedL (t' := tk) (ch := [z, TI, TO, i1, i2]) (fun d o hb q => hk d o (fun q' => hb (by simp [q'])) (fun q' => hb (by simp [q'])) (fun q' => hb (by simp [q'])) (fun q' => hb (by simp [q'])) q) hf⟩
  self := fun A i s Q E st h => wpAny_pyIter_zip st.1 h
def iZB (K : PySem.W.Frag) (ta : TA) : TI := fun σ H R => ta σ H fun vs H1 => ∃ b c a1 a2 xs ys, vs = [.ref a1, .ref a2] ∧ SqB b K H1 a1 xs ∧ SqB c K H1 a2 ys ∧ R (ItZB b c K a1 a2) H1
theorem pi_zipB {X : Cx} {e e2 : Expr} {ta : TA} {p pos tpos : Pos} {elts : List Expr} {kk : Nat} (hg : Gl X "zip") (hm : X.mg "zip" = none) (ha : PA X [e, e2] ta)
    (hs : starEach [e, e2] X.env = (false, eval e X.env) :: starEach [e2] X.env := by rfl) (hpl : (backTo pos (starEach [e2] X.env)).any (·.1) = false := by rfl) :
    PI X (.Tuple elts kk tpos) (.Call (.Name "zip" p) [e, e2] [] pos) (iZB X.K ta) := by
  refine ⟨fun pins s σ H R I h => ?_⟩
  refine Call_ (ld_blt I hg hm PyProof.Rows.boot_zip (PyProof.Rows.callWith_type1 (thn (ha.run pos pins s σ H _ I h) fun us s1 ⟨vs, H1, I1, r1, q1⟩ => ?_) hs hpl))
  obtain ⟨b, c, a1, a2, xs, ys, ex, hqx, hqy, q⟩ := q1
  subst ex
  obtain ⟨u1, u2, rfl, r1, r2⟩ := vals2 r1
  cases r1
  cases r2
  obtain ⟨its, rv, p1, _⟩ := seqB I1 hqx
  obtain ⟨its2, rv2, p2, _⟩ := seqB I1 hqy
  have l1 := p1.lt
  have l2 := p2.lt
  refine zip_begins2 (beginsB b a1 its.toArray) (beginsB c a2 its2.toArray) p1 p2 fun h2 hz hTI hTO g1 g2 hsz hk => wpAny_pyIter_zip hz ?_
  have I2 : Inv X pins σ H1 { s1 with heap := h2 } := I1.kept (t' := s1.toks) hk
  have S := zip_sep2 (N := s1.heap.objs.size) (fp1 := [a1]) (fp2 := [a2]) (fun d hd => by rw [List.mem_singleton.mp hd]; exact l1) (fun d hd => by rw [List.mem_singleton.mp hd]; exact l2)
  refine ⟨s1.heap.objs.size + 4, [s1.heap.objs.size + 4, s1.heap.objs.size + 2, s1.heap.objs.size + 3, s1.heap.objs.size, s1.heap.objs.size + 1], _, _, H1, rfl, I2, turn_zipB b c S (Nat.ne_of_lt l1) (Nat.ne_of_lt (Nat.lt_succ_of_lt l2)), ⟨hz, hTI, ⟨_, _, hTO⟩, itrB_new g1, itrB_new g2⟩, fun d hd => ?_, q⟩
  have le : s1.heap.objs.size ≤ d := by
    simp only [List.mem_cons, List.not_mem_nil, or_false] at hd
    rcases hd with q | q | q | q | q <;> rw [q]
    · exact Nat.le_add_right _ _
    · exact Nat.le_add_right _ _
    · exact Nat.le_add_right _ _
    · exact Nat.le_refl _
    · exact Nat.le_add_right _ _
  exact I1.fpOk le (I1.hok.fresh le)

/-! ### by data -/
def seqD : PyData → Option (Bool × List PyData)
  | .list ds => some (true, ds)
  | .tuple ds => some (false, ds)
  | _ => none
theorem sqB_of {K : PySem.W.Frag} {W0 : World} {H : Hp} {v : V} {d : PyData} {b : Bool} {ds : List PyData} (h : Dz K W0 H v d) (e : seqD d = some (b, ds)) : ∃ a vs, v = .ref a ∧ (∀ H', Stay H H' → SqB b K H' a vs) ∧ DzAll K W0 H vs ds := by
  cases h with
  | lst h1 h2 => cases e; exact ⟨_, _, rfl, fun H' s => Lz.sq (Lz.stay s h1), h2⟩
  | tup h1 h2 => cases e; exact ⟨_, _, rfl, fun H' s => SqT.stay s h1, h2⟩
  | _ => cases e
/-- over a list, a tuple, a text -/
def signsD (z : Str) : List PyData := z.cps.toList.map fun c => .str ⟨#[c]⟩
def iSeqD (F : DF) : DFL := fun ρ => (F ρ).bind fun p => match p.1 with
  | .list ds => some (ds, p.2)
  | .tuple ds => some (ds, p.2)
  | .str z => some (signsD z, p.2)
  | _ => none
def iSeq (K : PySem.W.Frag) (te : TE) : TI := fun σ H R => te σ H fun x H1 => (∃ a, x = .ref a ∧ (∃ xs, SqL K H1 a xs) ∧ R (Itl K a) H1) ∨ (∃ a, x = .ref a ∧ (∃ xs, SqT K H1 a xs) ∧ R (Itt K a) H1) ∨ ∃ z, x = .str z ∧ R (Its z) H1
theorem pi_seq {X : Cx} {tg e : Expr} {te : TE} (he : PE X e te) : PI X tg e (iSeq X.K te) := ⟨fun pins s σ H R I h => thn (he.run pins s σ H _ I h) fun u s1 ⟨x, H1, I1, r1, q1⟩ => by
  have one : ∀ (ob : Obj) {J : It} {tn : Nat → Heap → Prop}, ob.isFreed = false → Turn X.prog X.w X.K tg J [s1.heap.objs.size] s1.heap.objs.size tn → tn 0 (s1.heap.push ob) → R J H1 → PIE X pins σ tg R (.ref s1.heap.objs.size) { s1 with heap := s1.heap.push ob } := fun ob J tn hfr T t0 q =>
    ⟨s1.heap.objs.size, [s1.heap.objs.size], _, _, H1, rfl, I1.kept (t' := s1.toks) fun b o e => Heap.get?_push_of_some _ e, T, t0, fun b hb => by
      rw [List.mem_singleton.mp hb]
      exact I1.fpOk (Nat.le_refl _) (I1.hok.fresh (Nat.le_refl _)), q⟩
  rcases q1 with ⟨a, rfl, ⟨xs, hq⟩, q⟩ | ⟨a, rfl, ⟨xs, hq⟩, q⟩ | ⟨z, rfl, q⟩
  · cases r1
    obtain ⟨its, rv, p, hz⟩ := I1.list hq
    exact wpAny_pyIter_list p.isList (one _ rfl (turn_list a _) ⟨_, Heap.get?_push_size _ rfl, rfl, rfl⟩ q)
  · cases r1
    obtain ⟨its, rv, p, hz⟩ := I1.tuple hq
    exact wpAny_pyIter_tuple (show s1.heap.IsTuple a its.toArray from p) (one _ rfl (turn_tuple a _) ⟨_, Heap.get?_push_size _ rfl, rfl, rfl⟩ q)
  · obtain ⟨t, rfl⟩ := r1
    cases ha : z.cps.all (· < 128)
    · exact wpAny_pyIter_wide ha (one _ rfl (turn_str _ z t "str_iterator" (.inr rfl)) ⟨_, Heap.get?_push_size _ rfl, rfl, rfl⟩ q)
    · exact wpAny_pyIter_ascii ha (one _ rfl (turn_str _ z t "str_ascii_iterator" (.inl rfl)) ⟨_, Heap.get?_push_size _ rfl, rfl, rfl⟩ q)⟩
section
variable {X : Cx} {H0 : HT} {io : Option Addr} {tg e e2 : Expr} {t t2 : TE} {F G : DF} {A : DFL} {ts : TA} {pos : Pos}
theorem im_seq (h : PM X H0 io e t F) : IM X H0 io tg e (iSeq X.K t) (iSeqD F) := ⟨pi_seq h.pe, fun σ H ρ ds ρ' R f Q q => by
  unfold iSeqD at f
  cases fa : F ρ with
  | none => rw [fa] at f; cases f
  | some p =>
    obtain ⟨x, ρ1⟩ := p
    rw [fa] at f
    refine h.dn σ H ρ _ _ R fa _ fun v H1 R1 s1 z1 => ?_
    cases z1 with
    | lst hz ha =>
      cases f
      refine .inl ⟨_, rfl, ⟨_, Lz.sq hz⟩, q _ H1 R1 s1 fun i H2 s2 hi => ⟨fun d hd => ?_, fun hl => ⟨_, Lz.sq (Lz.stay s2 hz), by rw [ha.len, hl]; exact Nat.le_refl _⟩⟩⟩
      have hz2 := Lz.sq (Lz.stay s2 hz)
      obtain ⟨w, hw, zw⟩ := ha.get hd
      refine ⟨⟨_, w, hz2, hw⟩, fun x H3 hy => ?_⟩
      obtain ⟨rfl, hy⟩ := hy
      have := hy _ hz2
      rw [hw] at this
      cases this
      exact ⟨Same.refl _, zw.mono s2⟩
    | tup hz ha =>
      cases f
      refine .inr (.inl ⟨_, rfl, ⟨_, hz⟩, q _ H1 R1 s1 fun i H2 s2 hi => ⟨fun d hd => ?_, fun hl => ⟨_, SqT.stay s2 hz, by rw [ha.len, hl]; exact Nat.le_refl _⟩⟩⟩)
      have hz2 := SqT.stay s2 hz
      obtain ⟨w, hw, zw⟩ := ha.get hd
      refine ⟨⟨_, w, hz2, hw⟩, fun x H3 hy => ?_⟩
      obtain ⟨rfl, hy⟩ := hy
      have := hy _ hz2
      rw [hw] at this
      cases this
      exact ⟨Same.refl _, zw.mono s2⟩
    | str z =>
      cases f
      refine .inr (.inr ⟨_, rfl, q _ H1 R1 s1 fun i H2 s2 hi => ⟨fun d hd => ?_, fun hl => ?_⟩⟩)
      · unfold signsD at hd
        rw [List.getElem?_map] at hd
        cases ec : z.cps.toList[i]? with
        | none => rw [ec] at hd; cases hd
        | some c =>
          rw [ec] at hd
          cases hd
          have ec2 : z.cps[i]? = some c := by rw [← Array.getElem?_toList]; exact ec
          refine ⟨(Array.getElem?_eq_some_iff.mp ec2).1, fun x H3 hy => ?_⟩
          obtain ⟨rfl, c', hc', rfl⟩ := hy
          rw [ec2] at hc'
          cases hc'
          exact ⟨Same.refl _, .str _⟩
      · show z.cps.size ≤ i
        rw [hl]
        simp [signsD]
    | _ => cases f⟩
/-- enumerate(x) -/
def numbD (ds : List PyData) : List PyData := ds.zipIdx.map fun p => .tuple [.int (p.2 : Nat), p.1]
def iEnD (F : DF) : DFL := fun ρ => (F ρ).bind fun p => (seqD p.1).map fun q => (numbD q.2, p.2)
theorem numbD_get {ds : List PyData} {i : Nat} {d : PyData} (h : (numbD ds)[i]? = some d) : ∃ x, ds[i]? = some x ∧ d = .tuple [.int (i : Nat), x] := by
  unfold numbD at h
  rw [List.getElem?_map, List.getElem?_zipIdx] at h
  cases e : ds[i]? with
  | none => rw [e] at h; cases h
  | some x =>
    rw [e] at h
    cases h
    exact ⟨x, rfl, by simp⟩
theorem im_enum {elts : List Expr} {kk : Nat} {tpos p : Pos} (h : PM X H0 io e t F) (hm : X.mg "enumerate" = none) (hg : Gl X "enumerate" := by rfl) (hs : starEach [e] X.env = (false, eval e X.env) :: starEach [] X.env := by rfl) :
    IM X H0 io (.Tuple elts kk tpos) (.Call (.Name "enumerate" p) [e] [] pos) (iEB X.K t) (iEnD F) := ⟨pi_enumB hg hm h.pe hs, fun σ H ρ ds ρ' R f Q q => by
  unfold iEnD at f
  cases fa : F ρ with
  | none => rw [fa] at f; cases f
  | some p =>
    obtain ⟨x, ρ1⟩ := p
    rw [fa] at f
    simp only [Option.bind_some] at f
    cases fs : seqD x with
    | none => rw [fs] at f; cases f
    | some z =>
      obtain ⟨b, es⟩ := z
      rw [fs] at f
      cases f
      refine h.dn σ H ρ _ _ R fa _ fun v H1 R1 s1 z1 => ?_
      obtain ⟨a, vs, rfl, hq, hd⟩ := sqB_of z1 fs
      refine ⟨b, a, vs, rfl, hq H1 (.refl H1), q _ H1 R1 s1 fun i H2 s2 hi => ⟨fun d hd2 => ?_, fun hl => ⟨vs, hq H2 s2, by rw [hd.len, hl]; simp [numbD]⟩⟩⟩
      obtain ⟨y, hy, rfl⟩ := numbD_get hd2
      obtain ⟨w, hw, zw⟩ := hd.get hy
      refine ⟨⟨vs, w, hq H2 s2, hw⟩, fun x H3 hyl => ?_⟩
      obtain ⟨T, x', rfl, hT, rfl, hx⟩ := hyl
      have := hx _ (hq H2 s2)
      rw [hw] at this
      cases this
      have sm : Same H2 (upd H2 T (.tup [.int (i : Nat), w])) := same_new hT
      exact ⟨sm, .tup (.of upd_same) (.cons (.int _) (.cons ((zw.mono s2).mono (.of sm)) .nil))⟩⟩
/-- zip(x, y) -/
def zipD (xs ys : List PyData) : List PyData := (xs.zip ys).map fun p => .tuple [p.1, p.2]
def iZpD (A : DFL) : DFL := fun ρ => (A ρ).bind fun p => match p.1 with
  | [x, y] => (seqD x).bind fun a => (seqD y).map fun b => (zipD a.2 b.2, p.2)
  | _ => none
theorem zipD_get {xs ys : List PyData} {i : Nat} {d : PyData} (h : (zipD xs ys)[i]? = some d) : ∃ x y, xs[i]? = some x ∧ ys[i]? = some y ∧ d = .tuple [x, y] := by
  unfold zipD at h
  rw [List.getElem?_map] at h
  cases e : (xs.zip ys)[i]? with
  | none => rw [e] at h; cases h
  | some z =>
    rw [e] at h
    cases h
    obtain ⟨h1, h2⟩ := List.getElem?_zip_eq_some.mp e
    exact ⟨_, _, h1, h2, rfl⟩
theorem im_zip {elts : List Expr} {kk : Nat} {tpos p : Pos} (h : AM X H0 io [e, e2] ts A) (hm : X.mg "zip" = none) (hg : Gl X "zip" := by rfl) (hs : starEach [e, e2] X.env = (false, eval e X.env) :: starEach [e2] X.env := by rfl)
    (hpl : (backTo pos (starEach [e2] X.env)).any (·.1) = false := by rfl) : IM X H0 io (.Tuple elts kk tpos) (.Call (.Name "zip" p) [e, e2] [] pos) (iZB X.K ts) (iZpD A) := ⟨pi_zipB hg hm h.pa hs hpl, fun σ H ρ ds ρ' R f Q q => by
  unfold iZpD at f
  cases fa : A ρ with
  | none => rw [fa] at f; cases f
  | some p =>
    obtain ⟨x, ρ1⟩ := p
    rw [fa] at f
    simp only [Option.bind_some] at f
    split at f
    · rename_i d1 d2
      cases f1 : seqD d1 with
      | none => rw [f1] at f; cases f
      | some z1 =>
        obtain ⟨b, xs⟩ := z1
        rw [f1] at f
        simp only [Option.bind_some] at f
        cases f2 : seqD d2 with
        | none => rw [f2] at f; cases f
        | some z2 =>
          obtain ⟨c, ys⟩ := z2
          rw [f2] at f
          cases f
          refine h.dn σ H ρ _ _ R fa _ fun vs H1 R1 s1 z1 => ?_
          cases z1 with
          | cons g1 g2 =>
            cases g2 with
            | cons g2 g3 =>
              cases g3
              obtain ⟨a1, v1, rfl, hq1, hd1⟩ := sqB_of g1 f1
              obtain ⟨a2, v2, rfl, hq2, hd2⟩ := sqB_of g2 f2
              refine ⟨b, c, a1, a2, v1, v2, rfl, hq1 H1 (.refl H1), hq2 H1 (.refl H1), q _ H1 R1 s1 fun i H2 s2 hi => ⟨fun d hd => ?_, fun hl => ⟨v1, v2, hq1 H2 s2, hq2 H2 s2, ?_⟩⟩⟩
              · obtain ⟨x, y, hx, hy, rfl⟩ := zipD_get hd
                obtain ⟨w1, hw1, zw1⟩ := hd1.get hx
                obtain ⟨w2, hw2, zw2⟩ := hd2.get hy
                refine ⟨⟨v1, v2, w1, w2, hq1 H2 s2, hq2 H2 s2, hw1, hw2⟩, fun x H3 hyl => ?_⟩
                obtain ⟨T, x', y', rfl, hT, rfl, hx', hy'⟩ := hyl
                have e1 := hx' _ (hq1 H2 s2)
                have e2 := hy' _ (hq2 H2 s2)
                rw [hw1] at e1
                rw [hw2] at e2
                cases e1
                cases e2
                have sm : Same H2 (upd H2 T (.tup [w1, w2])) := same_new hT
                exact ⟨sm, .tup (.of upd_same) (.cons ((zw1.mono s2).mono (.of sm)) (.cons ((zw2.mono s2).mono (.of sm)) .nil))⟩
              · rw [hd1.len, hd2.len]
                have e : i = min xs.length ys.length := by rw [hl]; simp [zipD]
                omega
    · cases f⟩
end
end DL
set_option Elab.async false
set_option linter.all false
set_option maxRecDepth 100000
set_option maxHeartbeats 1000000
/-! DLD: dicts whose keys are tuples, of any depth. -/
namespace DL
open PySem PySem.Spec L2
open PyProof.Rows hiding St

def keyT (d : PyData) : Bool := match d with
  | .tuple ds => keyOkAll ds && decide ((nkD (.tuple ds)).depth ≤ 8)
  | _ => false
theorem keyT_ok {d : PyData} (h : keyT d = true) : keyOk d = true := by
  cases d with
  | tuple ds => unfold keyT at h; simp only [Bool.and_eq_true] at h; simpa [keyOk] using h.1
  | _ => cases h
section
variable {X : Cx} {pins : List (Addr × Obj)} {σ : L2.St} {H : Hp} {s : Shared}
mutual
theorem nested_dz (I : Inv X pins σ H s) : ∀ {v : V} {d : PyData} {u : Value}, Dz X.K X.w H v d → RelV v u → keyOk d = true → NestedIs s.heap (nkD d) u
  | _, _, _, .non, r, _ => by cases r; exact .none
  | _, _, _, .bl b, r, _ => by cases r; exact .bool rfl
  | _, _, _, .int i, r, _ => by obtain ⟨t, rfl⟩ := r; exact .int _ _
  | _, _, _, .str x, r, _ => by obtain ⟨t, rfl⟩ := r; exact .text _ _
  | _, _, _, .tup h1 h2, r, n => by
    cases r
    obtain ⟨its, rv, p, _⟩ := I.tuple h1
    obtain ⟨o, e1, e2, k, e3⟩ := p
    exact .tup e1 e2 e3 (by simpa using nested_dzA I h2 rv (by simpa [keyOk] using n))
  | _, _, _, .lst .., r, n => by simp [keyOk] at n
  | _, _, _, .dct .., r, n => by simp [keyOk] at n
  | _, _, _, .exc .., r, n => by simp [keyOk] at n
theorem nested_dzA (I : Inv X pins σ H s) : ∀ {vs : List V} {ds : List PyData} {us : List Value}, DzAll X.K X.w H vs ds → Vals vs us → keyOkAll ds = true → NestedAll s.heap (nkD.nkAll ds) us
  | _, _, _, .nil, r, _ => by cases r; exact .nil
  | _, _, _, .cons h t, r, n => by
    cases r with
    | cons r1 r2 =>
      simp only [keyOkAll, Bool.and_eq_true] at n
      exact .cons (nested_dz I h r1 n.1) (nested_dzA I t r2 n.2)
end
theorem nested_T (I : Inv X pins σ H s) {v : V} {d : PyData} {u : Value} (h : Dz X.K X.w H v d) (r : RelV v u) (k : keyT d = true) : ∃ a, u = .ref a ∧ (nestedKind X.prog X.w).is s.heap (nkD d) a := by
  cases d with
  | tuple ds =>
    unfold keyT at k
    simp only [Bool.and_eq_true, decide_eq_true_eq] at k
    have hn := nested_dz I h r (by simpa [keyOk] using k.1)
    cases h with
    | tup h1 h2 =>
      cases r
      exact ⟨_, rfl, hn, k.2⟩
  | _ => cases k
/-- the entries of a dict as the library's kind tells them -/
theorem entriesT (I : Inv X pins σ H s) : ∀ {es : List DictEntry} {kvs : List (PyData × PyData)}, DzKv X.K X.w H es kvs → (kvs.all fun p => keyT p.1) = true →
    ∃ xs : List (NestedKey × Addr × Value), es = xs.map (entryOfKey (nestedKind X.prog X.w)) ∧ (∀ x ∈ xs, (nestedKind X.prog X.w).is s.heap x.1 x.2.1) ∧ xs.map (·.1) = kvs.map (fun p => nkD p.1) ∧
      ∀ (i : Nat) (p : PyData × PyData), kvs[i]? = some p → ∃ y a u, xs[i]? = some (nkD p.1, a, u) ∧ RelV y u ∧ Dz X.K X.w H y p.2
  | _, _, .nil, _ => ⟨[], rfl, (fun x hx => by cases hx), rfl, fun i p h => by simp at h⟩
  | _, _, .cons (e := e) (k := k) (d := d) (kvs := kvs) r1 h1 r2 h2 hh _ t, n => by
    rw [List.all_cons, Bool.and_eq_true] at n
    obtain ⟨a, ea, ha⟩ := nested_T I h1 r1 n.1
    obtain ⟨xs, g1, g2, g3, g4⟩ := entriesT I t n.2
    refine ⟨(nkD k, a, e.val) :: xs, ?_, fun x hx => ?_, by simp [g3], fun i p hp => ?_⟩
    · rw [List.map_cons, ← g1]
      congr 1
      obtain ⟨e1, e2, e3⟩ := e
      simp only at hh ea
      subst hh ea
      rfl
    · rcases List.mem_cons.mp hx with rfl | hx
      · exact ha
      · exact g2 x hx
    · cases i with
      | zero =>
        cases hp
        exact ⟨_, a, e.val, rfl, r2, h2⟩
      | succ i => exact g4 i p (by simpa using hp)
end
/-! ### d[k] -/
def dgetD (kvs : List (PyData × PyData)) (k : PyData) : Option PyData :=
  if (keyT k && (kvs.all fun p => keyT p.1) && decide ((kvs.map fun p => nkD p.1).Nodup)) = true then (kvs.find? fun p => decide (nkD p.1 = nkD k)).map (·.2) else none
def ixDD : PyData → PyData → Option PyData
  | .dict kvs, k => dgetD kvs k
  | d, e => ixD d e
theorem find_ix {α : Type} {p : α → Bool} : ∀ {l : List α} {x : α}, l.find? p = some x → ∃ i : Nat, l[i]? = some x ∧ p x = true ∧ ∀ (j : Nat) (y : α), j < i → l[j]? = some y → p y = false
  | a :: l, x, h => by
    rw [List.find?_cons] at h
    cases e : p a with
    | true =>
      rw [e] at h
      cases h
      exact ⟨0, rfl, e, fun j y hj => absurd hj (Nat.not_lt_zero j)⟩
    | false =>
      rw [e] at h
      obtain ⟨i, h1, h2, h3⟩ := find_ix h
      refine ⟨i + 1, by simpa using h1, h2, fun j y hj hy => ?_⟩
      cases j with
      | zero => cases hy; exact e
      | succ j => exact h3 j y (by omega) (by simpa using hy)
theorem atKey_ix {xs : List (NestedKey × Addr × Value)} {k : NestedKey} {i : Nat} {p : Addr × Value} (h : xs[i]? = some (k, p)) (nd : (xs.map (·.1)).Nodup) : atKey xs k = some p := by
  unfold atKey
  cases e : xs.find? fun x => decide (x.1 = k) with
  | none =>
    have := List.find?_eq_none.mp e _ (List.mem_of_getElem? h)
    simp at this
  | some y =>
    obtain ⟨j, h1, h2, _⟩ := find_ix e
    have ey : y.1 = k := of_decide_eq_true h2
    have hi : (xs.map (·.1))[i]? = some k := by rw [List.getElem?_map, h]; rfl
    have hj : (xs.map (·.1))[j]? = some k := by rw [List.getElem?_map, h1]; simp [ey]
    obtain ⟨li, ei⟩ := List.getElem?_eq_some_iff.mp hi
    obtain ⟨lj, ej⟩ := List.getElem?_eq_some_iff.mp hj
    have : i = j := by
      rcases Nat.lt_trichotomy i j with c | c | c
      · exact absurd (ei.trans ej.symm) (List.pairwise_iff_getElem.mp nd i j li lj c)
      · exact c
      · exact absurd (ej.trans ei.symm) (List.pairwise_iff_getElem.mp nd j i lj li c)
    subst this
    rw [h] at h1
    cases h1
    rfl
section
variable {X : Cx}
theorem ixR_DD {k : Nat} (hr : RoomG k X.A) : IxR X (rD X.K X.w ixDD) := by
  intro value slice pins s σ H x y v u Q I rx ry hyp hs
  obtain ⟨d, e, z, hd, he, hz, q⟩ := hyp
  unfold ixDD at hz
  split at hz
  · rename_i kvs
    unfold dgetD at hz
    split at hz
    rotate_left
    · cases hz
    rename_i hc
    simp only [Bool.and_eq_true, decide_eq_true_eq] at hc
    obtain ⟨⟨c1, c2⟩, c3⟩ := hc
    cases hf : kvs.find? fun p => decide (nkD p.1 = nkD e) with
    | none => rw [hf] at hz; cases hz
    | some p =>
      rw [hf] at hz
      cases hz
      obtain ⟨i, hi, hk, _⟩ := find_ix hf
      have hk : nkD p.1 = nkD e := of_decide_eq_true hk
      have he' : Dz X.K X.w H y e := by
        rcases he with he | ⟨_, _, _, _, rfl, _⟩
        · exact he
        · cases c1
      obtain ⟨a, rfl, ha⟩ := nested_T I he' ry c1
      rcases hd with hd | ⟨_, _, _, _, ee, _⟩
      rotate_left
      · cases ee
      cases hd with
      | dct h1 h2 h3 h4 h5 h6 =>
        cases rx
        obtain ⟨e1, _⟩ := I.hok _ _ h1
        obtain ⟨xs, g1, g2, g3, g4⟩ := entriesT I h6 c2
        obtain ⟨w, a2, u2, k1, k2, k3⟩ := g4 i p hi
        have nd : (xs.map (·.1)).Nodup := by rw [g3]; exact c3
        have hm : s.heap.DictOfH (nestedKind X.prog X.w) _ xs := ⟨_, _, _, e1, h2, h3, g1, g2, nd⟩
        rw [hk] at k1
        have hu : (nestedKind X.prog X.w).room X.A.in1 := by
          have := hu65 hr
          show X.A.units + 1 + 8 < cLine
          omega
        exact tail_any ⟨_, e1, h2.1⟩ slot_dict_getitem.lookup (wpAny_getItem_heap hu ha hm (atKey_ix k1 nd) ⟨w, H, I.tok _, k2, q _ H (Same.refl H) k3⟩) hs
      | exc =>
        rw [List.all_cons] at c2
        exact absurd c2 (by simp [keyT])
  · exact ixR_D value slice pins s σ H x y v u Q I rx ry ⟨d, e, z, hd, he, hz, q⟩ hs

/-! ### dict(pairs) -/
def pairsD : List PyData → Option (List (PyData × PyData))
  | [] => some []
  | .tuple [k, v] :: r => (pairsD r).map ((k, v) :: ·)
  | _ :: _ => none
def dictD : PyData → Option PyData
  | .list ds => (pairsD ds).bind fun ps => if ((ps.all fun p => keyT p.1) && decide ((ps.map fun p => nkD p.1).Nodup)) = true then some (.dict ps) else none
  | _ => none
theorem storedAll_nodup : ∀ (ps xs : List (NestedKey × Addr × Value)), ((xs ++ ps).map (·.1)).Nodup → storedAllH xs ps = xs ++ ps
  | [], xs, _ => by simp [storedAllH]
  | p :: ps, xs, h => by
    have hn : atKey xs p.1 = none := by
      cases e : atKey xs p.1 with
      | none => rfl
      | some q =>
        unfold atKey at e
        cases f : xs.find? fun x => decide (x.1 = p.1) with
        | none => rw [f] at e; cases e
        | some y =>
          have m := List.mem_of_find?_eq_some f
          have hy : y.1 = p.1 := by simpa using List.find?_some f
          rw [List.map_append, List.nodup_append] at h
          exact absurd hy (h.2.2 y.1 (List.mem_map.mpr ⟨y, m, rfl⟩) p.1 (by simp))
    have : storedAllH xs (p :: ps) = storedAllH (storedH xs p.1 p.2.1 p.2.2) ps := rfl
    rw [this, storedH_new hn, storedAll_nodup ps _ (by simpa using h)]
    simp
theorem pairs_dz {pins : List (Addr × Obj)} {σ : L2.St} {H : Hp} {s : Shared} (I : Inv X pins σ H s) : ∀ {vs : List V} {ds : List PyData} {us : List Value} {ps : List (PyData × PyData)}, DzAll X.K X.w H vs ds → Vals vs us → pairsD ds = some ps → (ps.all fun p => keyT p.1) = true →
    ∃ (Ts : List Addr) (xs : List (NestedKey × Addr × Value)), us = Ts.map Value.ref ∧ Ts.length = xs.length ∧ (∀ x ∈ xs, (nestedKind X.prog X.w).is s.heap x.1 x.2.1) ∧ xs.map (·.1) = ps.map (fun p => nkD p.1) ∧
      (∀ (j : Nat) (x : NestedKey × Addr × Value), xs[j]? = some x → ∃ T, Ts[j]? = some T ∧ s.heap.IsTuple T #[.ref x.2.1, x.2.2]) ∧ DzKv X.K X.w H (xs.map (entryOfKey (nestedKind X.prog X.w))) ps
  | _, _, _, _, .nil, r, e, _ => by
    cases r
    cases e
    exact ⟨[], [], rfl, rfl, (fun x hx => by cases hx), rfl, (fun j x h => by simp at h), .nil⟩
  | _, _, _, ps0, .cons (d := d) (ds := ds) h t, r, e, n => by
    cases r with
    | cons r1 r2 =>
      unfold pairsD at e
      split at e
      · rename_i heq; cases heq
      · rename_i k v rest heq
        cases heq
        cases e2 : pairsD ds with
        | none => rw [e2] at e; cases e
        | some ps =>
          rw [e2] at e
          cases e
          rw [List.all_cons, Bool.and_eq_true] at n
          obtain ⟨Ts, xs, g1, g2, g3, g4, g5, g6⟩ := pairs_dz I t r2 e2 n.2
          cases h with
          | tup h1 h2 =>
            cases r1
            rename_i T _
            obtain ⟨its, rv, p, _⟩ := I.tuple h1
            cases h2 with
            | cons hk h2 =>
              cases h2 with
              | cons hv h2 =>
                cases h2
                obtain ⟨uk, uv, rfl, rk, rvv⟩ := vals2 rv
                obtain ⟨a, rfl, ha⟩ := nested_T I hk rk n.1
                refine ⟨T :: Ts, (nkD k, a, uv) :: xs, by rw [g1]; rfl, by simp [g2], fun x hx => ?_, by simp [g4], fun j x hx => ?_, ?_⟩
                · rcases List.mem_cons.mp hx with rfl | hx
                  · exact ha
                  · exact g3 x hx
                · cases j with
                  | zero =>
                    cases hx
                    exact ⟨T, rfl, p⟩
                  | succ j =>
                    obtain ⟨T', e3, e4⟩ := g5 j x (by simpa using hx)
                    exact ⟨T', by simpa using e3, e4⟩
                · exact .cons rk hk rvv hv rfl (keyT_ok n.1) g6
      · cases e
theorem cD_dict {k : Nat} (hc : X.calm = true) (hr : RoomG k X.A) : CallR X (.type "dict") (rDV X.K X.w dictD) := by
  intro pins s σ H xs us Q I r hyp
  obtain ⟨x, d, z, rfl, hd, hz, q⟩ := hyp
  unfold dictD at hz
  split at hz
  rotate_left
  · cases hz
  rename_i ds
  cases hp : pairsD ds with
  | none => rw [hp] at hz; cases hz
  | some ps =>
    rw [hp] at hz
    simp only [Option.bind_some] at hz
    split at hz
    rotate_left
    · cases hz
    rename_i hk
    cases hz
    simp only [Bool.and_eq_true, decide_eq_true_eq] at hk
    obtain ⟨hk1, ndk⟩ := hk
    obtain ⟨u, rfl, rx⟩ := vals1 r
    obtain ⟨a, vs, rfl, h1, h2⟩ := hd.list
    cases rx
    obtain ⟨its, rv, pl, hsz⟩ := I.list h1
    obtain ⟨Ts, xs, g1, g2, g3, g4, g5, g6⟩ := pairs_dz I h2 rv hp hk1
    obtain ⟨o, n, ho, hcl, hdn, hdt⟩ := pl
    have nd : (xs.map (·.1)).Nodup := by rw [g4]; exact ndk
    have hu : (nestedKind X.prog X.w).room X.A.in1.in1 := by
      have := hu65 hr
      show X.A.units + 1 + 1 + 8 < cLine
      omega
    let pr : List (Value × Value) := xs.map fun x => (.ref x.2.1, x.2.2)
    have hpr : ∀ (j : Nat) (k v : Value), pr[j]? = some (k, v) → ∃ x, xs[j]? = some x ∧ k = .ref x.2.1 ∧ v = x.2.2 := fun j k v h => by
      rw [List.getElem?_map] at h
      cases e : xs[j]? with
      | none => rw [e] at h; cases h
      | some x =>
        rw [e] at h
        cases h
        exact ⟨x, rfl, rfl, rfl⟩
    have PI : PairItems s.heap its.toArray (fun j => Ts.getD j 0) pr := by
      refine ⟨by rw [List.size_toArray, g1]; simp [pr, g2], fun j k v h => ?_⟩
      obtain ⟨x, hx, rfl, rfl⟩ := hpr j k v h
      obtain ⟨T, e1, e2⟩ := g5 j x hx
      have e3 : Ts.getD j 0 = T := by rw [List.getD_eq_getElem?_getD, e1]; rfl
      refine ⟨?_, .inl ?_⟩
      · show its.toArray[j]? = some (.ref (Ts.getD j 0))
        rw [e3, List.getElem?_toArray, g1, List.getElem?_map, e1]
        rfl
      · show s.heap.IsTuple (Ts.getD j 0) _
        rw [e3]
        exact e2
    have stays : ∀ h2 : Heap, (∀ b o, s.heap.get? b = some o → h2.get? b = some o) → ∀ x ∈ xs, (nestedKind X.prog X.w).is h2 x.1 x.2.1 := fun h2 hk x hx => nestedKind_stays.stays (fun b o vs n e _ => hk b o e) (g3 x hx)
    refine call_dict_pairsH (PairArg.list a its.toArray (fun j => Ts.getD j 0) pr) (I.ok.hd hc) hu ⟨⟨o, n, ho, hcl, hdn, hdt⟩, PI⟩ (ps := xs) ⟨by simp [pr], fun i key v hrel => ?_⟩ (fun h2 hk2 x hx => nestedKind_stays.stays (fun b o vs n e _ => hk2 b o (Nat.ne_of_lt (Heap.lt_size e)) (by simp) e) (g3 x hx)) ?_ fun h2 tk hd2 hk2 => ?_
    · obtain ⟨x, hx, rfl, rfl⟩ := hpr i key v hrel
      exact ⟨x.1, x.2.1, hx, rfl⟩
    · have := rv.length
      have l2 : its.length = Ts.length := by rw [g1]; simp
      simp only [pr, List.length_map]
      omega
    · rw [storedAll_nodup xs [] (by simpa using nd), List.nil_append] at hd2
      obtain ⟨od, es, ep, e1, e2, e3, e4, e5, e6⟩ := hd2
      have kp : ∀ b o, s.heap.get? b = some o → h2.get? b = some o := fun b o e => hk2 b o (by simp) e
      have hn : H s.heap.objs.size = none := I.hok.fresh (Nat.le_refl _)
      have sm : Same H (upd H s.heap.objs.size (.frz od (.ext fun _ => True))) := same_new hn
      refine ⟨.ref s.heap.objs.size, upd H s.heap.objs.size (.frz od (.ext fun _ => True)), I.laid (t' := tk) kp (Nat.le_refl _) ⟨e1, trivial, ⟨od, e1⟩, fun _ _ _ _ => trivial⟩, rfl, q _ _ sm ?_⟩
      refine .dct upd_same e2 e3 (beq_eq_false_iff_ne.mpr (Nat.ne_of_gt I.big)) ?_ ?_
      · have e : (ps.map fun p => nkD p.1) = (ps.map (·.1)).map nkD := by simp [Function.comp_def]
        rw [e] at ndk
        exact (List.pairwise_map.mp ndk).imp fun hne z => hne (congrArg nkD z)
      · rw [e4]
        exact DzKv.mono (.of sm) g6
end
end DL
set_option Elab.async false
set_option linter.all false
set_option maxRecDepth 100000
set_option maxHeartbeats 4000000
/-! DLS: len(set(texts)), the texts all unlike. -/
namespace DL
open PySem PySem.Spec L2
open PyProof.Rows hiding St

/-- the texts met ahead of place i -/
def metS (xs : List Str) (i : Nat) : Str → Bool := fun k => (xs.take i).any (· == k)
theorem metS_next {xs : List Str} {i : Nat} (h : i < xs.length) (k : Str) : metS xs (i + 1) k = (metS xs i k || decide (k = xs[i])) := by
  unfold metS
  rw [List.take_add_one, List.getElem?_eq_getElem h, List.any_append]
  congr 1
  simp only [Option.toList_some, List.any_cons, List.any_nil, Bool.or_false]
  by_cases e : k = xs[i]
  · subst e; simp
  · rw [decide_eq_false e]; exact beq_eq_false_iff_ne.mpr fun z => e z.symm
theorem metS_new {xs : List Str} (nd : xs.Nodup) {i : Nat} (h : i < xs.length) : metS xs i xs[i] = false := by
  unfold metS
  cases hb : (xs.take i).any (· == xs[i]) with
  | false => rfl
  | true =>
    obtain ⟨y, hy, ey⟩ := List.any_eq_true.mp hb
    have ey := eq_of_beq ey
    subst ey
    obtain ⟨j, hj⟩ := List.mem_iff_getElem?.mp hy
    rw [List.getElem?_take] at hj
    by_cases c : j < i
    · rw [if_pos c] at hj
      obtain ⟨hl, ej⟩ := List.getElem?_eq_some_iff.mp hj
      exact absurd ej (List.pairwise_iff_getElem.mp nd j i hl h c)
    · rw [if_neg c] at hj
      cases hj
section
variable {prog : Program} {w : World} {A : Around} {I : Addr} {fp wr : List Addr} {G : Array GenState → Array GenState → Prop} {P : Nat → Value → Prop} {T : Nat → Shared → Prop}
theorem loop_set (xs : List Str) (W : WalksS prog w A.in1 I fp wr G xs.length P T) (nd : xs.Nodup) (few : xs.length < 4000) {S : Addr} (hS : S ∉ fp) (hv : ∀ i v, P i v → ∃ t, v = .str (xs.getD i Str.empty) t) {R : Result → Shared → Prop} :
    ∀ m i s, xs.length = i + m → T i s → s.heap.SetOf (PySem.strKind prog w) S (metS xs i) i →
      (∀ s', Moved (S :: wr) G s s' → s'.heap.SetOf (PySem.strKind prog w) S (metS xs xs.length) xs.length → R (.ok (.ret .none)) s') → codeAny (model prog w) A (.builtin "set.update.loop" ⟨[.ref S, .ref I], []⟩) R s
  | 0, i, s, hm, st, so, q => by
    have e : i = xs.length := by omega
    subst e
    refine codeAny_builtin PyProof.Rows.F.entry_set_update_loop ?_
    rw [Around.under_plainId F.plain_set_update_loop _]
    refine wpAny_bind (W.done s _ _ st fun s2 mv => wpAny_pure (q s2 (mv.mono fun b hb => List.mem_cons_of_mem _ hb) ?_))
    exact so.imp fun o ⟨es, ep, t, ho, r⟩ => ⟨es, ep, t, mv.heap S _ (fun z => hS (W.sub _ z)) ho, r⟩
  | m + 1, i, s, hm, st, so, q => by
    have lt : i < xs.length := by omega
    refine codeAny_builtin PyProof.Rows.F.entry_set_update_loop ?_
    rw [Around.under_plainId F.plain_set_update_loop _]
    refine wpAny_bind (W.item i s _ _ lt st fun v s2 pv st2 mv => ?_)
    obtain ⟨t, rfl⟩ := hv i v pv
    have ex : xs.getD i Str.empty = xs[i] := by rw [List.getD_eq_getElem?_getD, List.getElem?_eq_getElem lt]; rfl
    rw [ex]
    have so2 : s2.heap.SetOf (PySem.strKind prog w) S (metS xs i) i := so.imp fun o ⟨es, ep, t, ho, r⟩ => ⟨es, ep, t, mv.heap S _ (fun z => hS (W.sub _ z)) ho, r⟩
    refine wpAny_bind (wpAny_holding ?_)
    show wpAny _ _ (setAdd S (.str xs[i] t)) _ _ _
    unfold setAdd
    refine wpAny_holding (wpAny_bind ((PySem.strKind prog w).pyHash (k := xs[i]) (strKind_is _ _ _ _) ?_))
    refine wpAny_setAddHashed_of (knd := PySem.strKind prog w) (s := { s2 with toks := s2.toks + 1 }) (strKind_is _ _ _ _) rfl so2 (by unfold scanBound; omega) fun h3 sb so3 => ?_
    have so4 : h3.SetOf (PySem.strKind prog w) S (metS xs (i + 1)) (i + 1) := SetOf_congr so3 (fun k => (metS_next lt k).symm) (by rw [metS_new nd lt]; rfl)
    refine wpAny_pure ⟨plainId_quiet F.plain_set_update_loop _, ?_⟩
    refine loop_set xs W nd few hS hv m (i + 1) _ (by omega) (W.frame _ s2 _ _ st2 (Nat.le_succ _) fun b hb o e => (sb.2 b fun z => hS (z ▸ hb)).trans e) so4 fun s5 mv5 so5 => q s5 ?_ so5
    refine Moved.trans W.gtrans ((mv.mono fun b hb => List.mem_cons_of_mem _ hb).then_heap (Nat.le_succ _) fun b o hb e => ?_) mv5
    exact (sb.2 b fun z => hb (z ▸ List.mem_cons_self)).trans e
end
section
variable {prog : Program} {w : World} {A : Around} {E : Value → Shared → Prop} {s : Shared} {l : Addr} {its : Array Value} {xs : List Str}
/-- the set of a list of unlike texts -/
theorem set_of_texts {Q : Value → Shared → Prop} (hh : A.handled = none) (hl : s.heap.IsList l its) (hi : PyProof.Rows.StrsAre its.toList xs) (nd : xs.Nodup) (few : xs.length < 4000)
    (q : ∀ (h2 : Heap) (tk : Nat), h2.SetOf (PySem.strKind prog w) s.heap.objs.size (metS xs xs.length) xs.length → (∀ b o, b < s.heap.objs.size → s.heap.get? b = some o → h2.get? b = some o) → Q (.ref s.heap.objs.size) { s with heap := h2, toks := tk }) :
    wpAny (model prog w) A (call (.type "set") [.ref l]) Q E s := by
  have zs : xs.length = its.size := by rw [← StrsAre.len_eq hi, Array.length_toList]
  obtain ⟨_, _, m1⟩ := PySem.F.called_set.mro
  have m2 := PySem.F.called_set.made
  have m3 := PySem.F.called_set.sub
  refine wpAny_call (codeAny_of_tree ?_)
  refine wpAny_pure (a := _) ⟨Code.quiet_builtin _ (by decide +kernel), codeAny_builtin PySem.F.entry_type_call ?_⟩
  rw [Around.under_plain (weight_type_call_type "set" [.ref l] []) rfl]
  have m4 := PySem.F.called_set.notType
  have m5 := PySem.F.called_set.canCreate
  have m6 := PySem.F.typeCall_set_1 (.ref l)
  repeat (any_goals (first | assumption | wp_step))
  refine codeAny_mono (code_set_new_1 (.ref l) (E := E) (Q₁ := fun o s1 => ∃ led : Bool, o = .ref s.heap.objs.size ∧ s1 = { s with heap := s.heap.push { cls := .type "set", dict := none, data := .set #[] 0 (.fresh 0 0 led) } }) fun led => ⟨led, rfl, rfl⟩) fun r s1 hr => ?_
  cases r with
  | error e => exact hr
  | ok fl =>
   cases fl
   case ret =>
    obtain ⟨led, rfl, rfl⟩ := hr
    have gS : (s.heap.push { cls := .type "set", dict := none, data := .set #[] 0 (.fresh 0 0 led) }).get? s.heap.objs.size = some { cls := .type "set", dict := none, data := .set #[] 0 (.fresh 0 0 led) } := Heap.get?_push_size _ rfl
    have tS : Shared.TypeIs { s with heap := s.heap.push { cls := .type "set", dict := none, data := .set #[] 0 (.fresh 0 0 led) } } (.ref s.heap.objs.size) "set" := ⟨_, gS, rfl⟩
    have m7 := PySem.F.called_set.init.lookup
    have m8 := PySem.F.called_set.init.bind (.ref s.heap.objs.size)
    repeat (any_goals (first | assumption | wp_step))
    refine codeAny_mono (codeAny_call_builtin (R := wants (fun r s2 => r = .none ∧ ∃ h2 tk, s2 = { s with heap := h2, toks := tk } ∧ h2.SetOf (PySem.strKind prog w) s.heap.objs.size (metS xs xs.length) xs.length ∧ ∀ b o, b < s.heap.objs.size → s.heap.get? b = some o → h2.get? b = some o) E)
      PySem.F.called_set.init.plain PySem.F.entry_set_init (check_set_init_1 tS ?_)) fun r2 s2 hr2 => ?_
    · obtain ⟨⟨c1, c2, c3, c4⟩, ho, hc, nl, hd⟩ := hl
      simp only at hc hd
      subst hc hd
      have go : (s.heap.push { cls := .type "set", dict := none, data := .set #[] 0 (.fresh 0 0 led) }).get? l = some { cls := .type "list", dict := c2, data := .seq its nl, slots := c4 } := Heap.get?_push_of_some _ ho
      have hl1 : (s.heap.push { cls := .type "set", dict := none, data := .set #[] 0 (.fresh 0 0 led) }).IsList l its := ⟨_, go, rfl, nl, rfl⟩
      have b1 := PySem.F.sub_list_set
      have b2 := PySem.F.sub_list_frozenset
      have b3 : (Value.type "list" == Value.type "dict") = false := by decide
      unfold Builtin.«set.__init__» noKeywords Builtin.Frozenset.updateFrom
      generalize ep : pyIter = PI
      wp_walk
      subst ep
      refine wpAny_pyIter_list hl1 (wpAny_bind (wpAny_runValue ?_))
      have lS : l < s.heap.objs.size := Heap.lt_size ho
      have hz : (s.heap.push { cls := .type "set", dict := none, data := .set #[] 0 (.fresh 0 0 led) }).objs.size = s.heap.objs.size + 1 := Heap.size_push ..
      have nI : l ≠ (s.heap.push { cls := .type "set", dict := none, data := .set #[] 0 (.fresh 0 0 led) }).objs.size := by rw [hz]; exact Nat.ne_of_lt (Nat.lt_succ_of_lt lS)
      have nS : s.heap.objs.size ∉ [(s.heap.push { cls := .type "set", dict := none, data := .set #[] 0 (.fresh 0 0 led) }).objs.size, l] := by
        rw [hz]
        intro z
        rcases List.mem_cons.mp z with z | z
        · exact absurd z (Nat.ne_of_lt (Nat.lt_succ_self _))
        · exact absurd (List.mem_singleton.mp z) (Nat.ne_of_gt lS)
      have W := (Walks.list (prog := prog) (w := w) (A := A.in1.in1.in1) (by simp [hh]) _ l nI its).toS
      rw [← zs] at W
      refine loop_set xs W nd few nS (fun i v hv => SS.strs_at hi i v (by rw [Array.getElem?_toList]; exact hv)) xs.length 0 _ (by omega) ?_ ?_ fun s5 mv so => ?_
      · exact ⟨⟨_, Heap.get?_push_size _ rfl, rfl, rfl⟩, hl1.push _⟩
      · exact SetOf_congr ((setObjOf_fresh (knd := PySem.strKind prog w) led).setOf (Heap.get?_push_of_some _ gS) (by unfold scanBound; omega)) (fun _ => rfl) rfl
      · obtain ⟨h5, g5, d5, t5, o5⟩ := s5
        obtain rfl : g5 = s.gens := mv.gens
        obtain rfl : d5 = s.drawn := mv.drawn
        obtain rfl : o5 = s.os := mv.os
        refine wpAny_pure (wpAny_pure ⟨rfl, h5, t5, rfl, so, fun b o hb e => ?_⟩)
        refine mv.heap b o (fun z => ?_) (Heap.get?_push_of_some _ (Heap.get?_push_of_some _ e))
        rcases List.mem_cons.mp z with z | z
        · exact absurd z (Nat.ne_of_lt hb)
        · have z := List.mem_singleton.mp z
          rw [hz] at z
          exact absurd z (Nat.ne_of_lt (Nat.lt_succ_of_lt hb))
    · cases r2 with
      | error e => exact hr2
      | ok f2 =>
        cases f2
        case ret =>
          obtain ⟨rfl, h2, tk, rfl, so, hk⟩ := hr2
          repeat (any_goals (first | assumption | wp_step))
          exact q _ _ so hk
        all_goals exact hr2.elim
   all_goals exact hr.elim
end
end DL
set_option Elab.async false
set_option linter.all false
set_option maxRecDepth 100000
set_option maxHeartbeats 1000000
/-! DL9: starred items, stores into lists, [::-1], len(set(..)), pairs of stores. -/
namespace DL
open PySem PySem.Spec L2
open PyProof.Rows hiding St

section
variable {X : Cx} {H0 : HT} {io : Option Addr} {E : XK} {e a b i0 : Expr} {es : List Expr} {t te ta tb ti : TE} {ts : TA} {F G : DF} {A B : DFL} {pos p : Pos}
/-! ### *e among the items -/
def aStar (F : DF) (A : DFL) : DFL := fun ρ => (F ρ).bind fun p => (seqD p.1).bind fun z => (A p.2).map fun q => (z.2 ++ q.1, q.2)
theorem am_star (he : PM X H0 io e te F) (hr : AM X H0 io es ts A) (hs : starEach (.Starred e p :: es) X.env = (true, eval e X.env) :: starEach es X.env := by rfl) : AM X H0 io (.Starred e p :: es) (StX.tStar X.K te ts) (aStar F A) := ⟨StX.pa_star he.pe hr.pa hs, fun σ H ρ ds ρ' R g Q q => by
  unfold aStar at g
  cases fa : F ρ with
  | none => rw [fa] at g; cases g
  | some x =>
    obtain ⟨x, ρ1⟩ := x
    rw [fa] at g
    simp only [Option.bind_some] at g
    cases fs : seqD x with
    | none => rw [fs] at g; cases g
    | some z =>
      obtain ⟨k, xs⟩ := z
      rw [fs] at g
      simp only [Option.bind_some] at g
      cases fb : A ρ1 with
      | none => rw [fb] at g; cases g
      | some y =>
        obtain ⟨ys, ρ2⟩ := y
        rw [fb] at g
        cases g
        refine he.dn σ H ρ _ _ R fa _ fun v H1 R1 s1 z1 => ?_
        obtain ⟨l, vs, rfl, hq, hd⟩ := sqB_of z1 fs
        have hq1 := hq H1 (.refl H1)
        refine ⟨l, vs, rfl, ?_, hr.dn σ H1 ρ1 _ _ R1 fb _ fun ws H2 R2 s2 z2 => q _ H2 R2 (s1.trans s2) (DzAll.app (hd.mono s2) z2)⟩
        cases k with
        | true => exact .inr hq1
        | false => exact .inl hq1⟩

/-! ### x[j] = e, x a list of its own in slot i -/
def sPut (i : Nat) (F G : DF) : DS := fun ρ => (F ρ).bind fun p => (ownE p.2 i).bind fun _ => (G p.2).bind fun q => (ownE q.2 i).bind fun ds => match q.1 with
  | .int j => (ixN ds.length j).map fun k => .nx (q.2.set i (.own (ds.set k p.1)))
  | _ => none
theorem sm_put (i : Nat) {x : Str} {p1 p2 : Pos} (he : PM X H0 io e te F) (hi : PM X H0 io i0 ti G) (hN : X.N[i]? = some x := by rfl) (hv : Vis X.env.scope x := by first | exact Or.inl rfl | exact Or.inr (Or.inl rfl) | exact Or.inr (Or.inr rfl)) (hd : (x == ("__debug__" : Str)) = false := by decide)
    (hcd : (x == ("__classdict__" : Str)) = false := by decide)
    (hs : swapsWithSole [.Subscript (.Name x p1) i0 p2] e pos.line X.env = pure false := by rfl) (hw : swappedStores [.Subscript (.Name x p1) i0 p2] e X.env = pure none := by rfl) (h1 : (assignEach [.Subscript (.Name x p1) i0 p2] X.env).map (·.2) = [assign (.Subscript (.Name x p1) i0 p2) X.env] := by rfl)
    (hg : ∀ v, assign (.Subscript (.Name x p1) i0 p2) X.env v = (do
      let ov ← holding [v] (eval (.Name x p1) X.env)
      let iv ← holding [v, ov] (eval i0 X.env)
      standAt p2
      holding [v, ov, iv] (setItem ov iv v)
      release [v, ov, iv] []) := by intro _; rfl) :
    SM X H0 io E (.Assign [.Subscript (.Name x p1) i0 p2] e pos) (tAsg te (gSub (tVar i) ti rSetL)) (sPut i F G) := ⟨ps_asg he.pe (pg_sub (pe_var hN hv hd hcd) hi.pe set_list hg) hs hw h1, fun σ H ρ o R g D q => by
  unfold sPut at g
  cases fa : F ρ with
  | none => rw [fa] at g; cases g
  | some y =>
    obtain ⟨y, ρ1⟩ := y
    rw [fa] at g
    simp only [Option.bind_some] at g
    cases fo : ownE ρ1 i with
    | none => rw [fo] at g; cases g
    | some xs0 =>
      rw [fo] at g
      simp only [Option.bind_some] at g
      cases fb : G ρ1 with
      | none => rw [fb] at g; cases g
      | some z =>
        obtain ⟨z, ρ2⟩ := z
        rw [fb] at g
        simp only [Option.bind_some] at g
        cases fx : ownE ρ2 i with
        | none => rw [fx] at g; cases g
        | some ds =>
          rw [fx] at g
          simp only [Option.bind_some] at g
          cases z with
          | int j =>
            simp only at g
            cases fj : ixN ds.length j with
            | none => rw [fj] at g; cases g
            | some k =>
              rw [fj] at g
              cases g
              refine he.dn σ H ρ _ _ R fa _ fun v H1 R1 s1 z1 => ?_
              obtain ⟨pp, vs0, a1, _⟩ := R1.own i xs0 (ownE_some fo)
              refine ⟨.ref pp, a1, ?_⟩
              refine hi.dn σ H1 ρ1 _ _ R1 fb _ fun w H2 R2 s2 z2 => ?_
              cases z2
              obtain ⟨pp', vs, a2, a3, a4, a5⟩ := R2.own i ds (ownE_some fx)
              rw [a1] at a2
              cases a2
              refine ⟨pp, vs, j, k, rfl, rfl, a3, by rw [a4.len]; exact fj, ?_⟩
              exact q σ _ (R2.wr (ownE_some fx) a1 (a4.set k (z1.mono s2))) ((s1.trans s2).trans (.lst a3))
          | _ => cases g⟩

/-! ### x[::-1] -/
def revD : PyData → Option PyData
  | .list ds => some (.list ds.reverse)
  | .tuple ds => some (.tuple ds.reverse)
  | _ => none
end
section
variable {prog : Program} {w : World} {A : Around} {E : Value → Shared → Prop} {s : Shared}
theorem back_places (n : Nat) : Builtin.Slice.sliceAdjust none none (-1) (n : Int) = ((n : Int) - 1, -1) := by
  unfold Builtin.Slice.sliceAdjust
  simp
theorem back_many (n : Nat) : Builtin.Slice.slicePlaces ((n : Int) - 1) (-1) (-1) = n := by
  unfold Builtin.Slice.slicePlaces
  by_cases h : n = 0
  · subst h; decide
  · have h1 : ¬ ((-1 : Int) > 0) := by decide
    have h2 : (n : Int) - 1 > -1 := by omega
    rw [if_neg h1, if_pos h2]
    have : ((n : Int) - 1 - -1 - 1) / (- -1) + 1 = n := by
      rw [show (- -1 : Int) = 1 by decide, Int.ediv_one]; omega
    rw [this]
    rfl
theorem fm_map {α β : Type} {f : α → Option β} {g : α → β} : ∀ {l : List α}, (∀ k ∈ l, f k = some (g k)) → l.filterMap f = l.map g
  | [], _ => rfl
  | a :: l, h => by
    rw [List.filterMap_cons, h a List.mem_cons_self, List.map_cons, fm_map fun k hk => h k (List.mem_cons_of_mem _ hk)]
theorem back_pick (xs : Array Value) : ((List.range xs.size).filterMap fun (k : Nat) => xs[(((xs.size : Int) - 1) + (k : Int) * (-1)).toNat]?).toArray = xs.toList.reverse.toArray := by
  congr 1
  apply List.ext_getElem?
  intro i
  have e : (List.range xs.size).filterMap (fun (k : Nat) => xs[(((xs.size : Int) - 1) + (k : Int) * (-1)).toNat]?) = (List.range xs.size).map fun k => xs.getD (xs.size - 1 - k) .none := by
    refine fm_map fun k hk => ?_
    have hk := List.mem_range.mp hk
    have e2 : (((xs.size : Int) - 1) + (k : Int) * (-1)).toNat = xs.size - 1 - k := by omega
    have e3 : xs.size - 1 - k < xs.size := by omega
    rw [e2, Array.getElem?_eq_getElem e3]
    simp [e3]
  rw [e, List.getElem?_map]
  by_cases h : i < xs.size
  · have e3 : xs.size - 1 - i < xs.size := by omega
    rw [List.getElem?_range h, List.getElem?_reverse (by simpa using h)]
    simp [e3]
  · rw [List.getElem?_eq_none (by simpa using h), List.getElem?_eq_none (by simpa using h)]
    rfl
/-- t[::-1] of a tuple that isn't empty -/
theorem tuple_back {t sl : Addr} {its : Array Value} {c : Value} {Q : Value → Shared → Prop} (ht : IsTup s.heap t its) (hs : s.heap.IsSliceOf sl .none .none c) (pc : IsPart c (some (-1))) (hz : its.size ≤ sizeLine)
    (h : Q (.ref s.heap.objs.size) { s with heap := s.heap.push { cls := .type "tuple", data := .seq its.toList.reverse.toArray } }) : wpAny (model prog w) A (getItem (.ref t) (.ref sl)) Q E s := by
  obtain ⟨os, hos, hcs, hds⟩ := id hs
  have tS : s.TypeIs (.ref sl) "slice" := ⟨os, hos, hcs⟩
  have fits : sizeOk (.seq its.toList.reverse.toArray) := by
    show its.toList.reverse.toArray.size ≤ sizeLine
    rw [List.size_toArray, List.length_reverse, Array.length_toList]; exact hz
  unfold getItem
  try with_reducible refine wpAny_holding ?_
  first | refine wpAny_bind (wpAny_pure ?_) | skip
  refine wpAny_bind (wpAny_sequenceKey ht.typeIs (by decide) ?_)
  refine wpAny_bind (wpAny_callSpecial?_slot (name := Str.ofString "__getitem__") ht.typeIs PyProof.Rows.slot_tuple_getitem (wpAny_call_entry PyProof.Rows.slot_tuple_getitem ht.typeIs entry_tuple_getitem ?_ (args_tuple_getitem _ _)))
  refine wpAny_bind (m := Builtin.Tuple.tupleItemsOf _) (tupleItemsOf_ ht (wpAny_bind (wpAny_typeOf tS ?_)))
  rw [if_pos (by decide)]
  refine wpAny_bind (m := Builtin.Slice.sliceApplied _ _) ?_
  unfold Builtin.Slice.sliceApplied Builtin.Slice.sliceFields
  refine wpAny_bind (wpAny_bind (wpAny_field hos hds (x := .none) rfl (wpAny_bind (wpAny_field hos hds (x := .none) rfl (wpAny_bind (wpAny_field hos hds (x := c) rfl (wpAny_pure ?_)))))))
  refine wpAny_bind (HT.slicePart_ pc ?_)
  show wpAny _ _ (if ((-1 : Int) == 0) = true then _ else _) _ _ s
  rw [if_neg (by decide)]
  refine wpAny_bind (slicePart_none (wpAny_bind (slicePart_none (wpAny_bind (wpAny_pure ?_)))))
  show wpAny _ _ (match Builtin.Slice.sliceAdjust none none (-1) (its.size : Int) with | (lo, hi) => pure (lo, (-1 : Int), Builtin.Slice.slicePlaces lo hi (-1))) _ _ s
  rw [back_places]
  refine wpAny_pure ?_
  show wpAny _ _ (if ((its.size : Int) - 1 == 0 && (-1 : Int) == 1 && Builtin.Slice.slicePlaces ((its.size : Int) - 1) (-1) (-1) == its.size) = true then _ else _) _ _ s
  rw [if_neg (by rw [show ((-1 : Int) == 1) = false by decide, Bool.and_false, Bool.false_and]; exact Bool.false_ne_true), back_many, back_pick]
  first
    | exact wpAny_bind (m := Builtin.Tuple.tupleExact _) (wpAny_newObj_type (wpAny_pure ⟨_, rfl, wpAny_pure h⟩) fits)
    | exact wpAny_bind (m := Builtin.Tuple.tupleExact _) (wpAny_newObj_type (wpAny_bind (wpAny_pure (wpAny_pure ⟨_, rfl, wpAny_pure h⟩))) fits)
    | exact wpAny_bind (wpAny_bind (m := Builtin.Tuple.tupleExact _) (wpAny_newObj_type (wpAny_pure (wpAny_pure ⟨_, rfl, wpAny_pure h⟩)) fits))
    | exact wpAny_bind (wpAny_bind (m := Builtin.Tuple.tupleExact _) (wpAny_newObj_type (wpAny_pure ⟨_, rfl, wpAny_pure h⟩) fits))
end
section
variable {X : Cx} {H0 : HT} {io : Option Addr} {E : XK} {e a b i0 : Expr} {es : List Expr} {t te ta tb ti : TE} {ts : TA} {F G : DF} {A B : DFL} {pos p : Pos}
def tRevD (K : PySem.W.Frag) (W0 : World) (te : TE) : TE := fun σ H Q => te σ H fun x H1 => ∃ d z, Dz K W0 H1 x d ∧ revD d = some z ∧ ∀ v H2, Same H1 H2 → Dz K W0 H2 v z → Q v H2
theorem pe_revD {k : Nat} {p1 p2 p3 : Pos} (he : PE X e te) : PE X (.Subscript e (.Slice none none (some (.UnaryOp .USub (.Constant (.int 1) k p1) p2)) p3) pos) (tRevD X.K X.w te) := ⟨fun pins s σ H Q I h => by
  refine Subscript_ (thn (he.run pins s σ H _ I h) fun u s1 ⟨x, H1, I1, r1, q1⟩ => ?_)
  obtain ⟨d, z, hd, hz, q⟩ := q1
  have one : PO X (some (.UnaryOp .USub (.Constant (.int 1) k p1) p2)) (tPart (tUn (rU fun i => .int (-i)) (tC (.int 1)))) := po_some (pe_un un_neg pe_int)
  refine wpAny_Slice (thn (po_none.run pins s1 σ H1 (fun o H2 => o = none ∧ H2 = H1) I1 ⟨rfl, rfl⟩) fun v1 s2 ⟨o1, H2, I2, p1', e1, e2⟩ => ?_)
  subst e1 e2
  refine thn (po_none.run pins s2 σ H2 (fun o H3 => o = none ∧ H3 = H2) I2 ⟨rfl, rfl⟩) fun v2 s3 ⟨o2, H3, I3, p2', e1, e2⟩ => ?_
  subst e1 e2
  refine thn (one.run pins s3 σ H3 (fun o H4 => o = some (-1) ∧ H4 = H3) I3 ⟨1, rfl, -1, rfl, rfl, rfl⟩) fun v3 s4 ⟨o3, H4, I4, p3', e1, e2⟩ => ?_
  subst e1 e2
  have I5 : Inv X pins σ H4 { s4 with heap := s4.heap.push { cls := .type "slice", data := .fields #[v1, v2, v3] } } := I4.kept (t' := s4.toks) fun b ob q => Heap.get?_push_of_some _ q
  show wpAny (model X.prog X.w) X.A (subscriptTail e (.Slice none none (some (.UnaryOp .USub (.Constant (.int 1) k p1) p2)) p3) u (.ref s4.heap.objs.size)) (EP X pins σ Q) X.xe { s4 with heap := s4.heap.push { cls := .type "slice", data := .fields #[v1, v2, v3] } }
  unfold revD at hz
  split at hz
  · rename_i ds
    cases hz
    obtain ⟨l, vs, rfl, h1, h2⟩ := (Vw.of hd).list
    cases r1
    obtain ⟨its, r, ht, hsz⟩ := I5.list h1
    have hlen := r.length
    refine tail_any (ops := [.ref l, .ref s4.heap.objs.size]) ht.isList.typeIs slot_list_getitem.lookup ?_ (by with_unfolding_all rfl)
    refine wpAny_getItem_list_slice ht.isList (Heap.IsSliceOf.new _ v1 v2 v3) p1' p2' p3' (by decide) ?_ (by rw [List.size_toArray]; omega)
    rw [PySem.W.krv_pick]
    have hn := I5.hok.fresh (Nat.le_refl _)
    refine ep_freeze ⟨.ref _, _, I5.laid (t' := s4.toks) (o := .lst vs.reverse) (fun b ob q => Heap.get?_push_of_some _ q) (Nat.le_refl _) ⟨by rw [List.length_reverse]; exact hsz, _, 0, r.reverse, Heap.get?_push_size _ rfl⟩, rfl, frQ_of hn rfl (h2.rev) q⟩
  · rename_i ds
    cases hz
    obtain ⟨l, vs, rfl, h1, h2⟩ := (Vw.of hd).tup
    cases r1
    obtain ⟨its, r, ht, hsz⟩ := I5.tuple h1
    have hlen := r.length
    cases p1'
    cases p2'
    refine tail_any (ops := [.ref l, .ref s4.heap.objs.size]) ht.typeIs PyProof.Rows.slot_tuple_getitem.lookup ?_ (by with_unfolding_all rfl)
    have hn := I5.hok.fresh (Nat.le_refl _)
    refine tuple_back ht (Heap.IsSliceOf.new _ .none .none v3) p3' (by rw [List.size_toArray]; omega) ?_
    have sm := same_new (o := .tup vs.reverse) hn
    exact ⟨.ref _, _, I5.laid (t' := s4.toks) (o := .tup vs.reverse) (fun b ob q => Heap.get?_push_of_some _ q) (Nat.le_refl _) ⟨by rw [List.length_reverse]; exact hsz, its.reverse, r.reverse, ⟨_, Heap.get?_push_size _ rfl, rfl, _, rfl⟩⟩, rfl, q _ _ sm (.tup (.of upd_same) (h2.rev.mono (.of sm)))⟩
  · cases hz⟩
theorem pm_rev {k : Nat} {p1 p2 p3 : Pos} (he : PM X H0 io e te F) : PM X H0 io (.Subscript e (.Slice none none (some (.UnaryOp .USub (.Constant (.int 1) k p1) p2)) p3) pos) (tRevD X.K X.w te) (dUn revD F) := ⟨pe_revD he.pe, fun σ H ρ d ρ' R g Q q => by
  unfold dUn at g
  cases fa : F ρ with
  | none => rw [fa] at g; cases g
  | some p =>
    obtain ⟨x, ρ1⟩ := p
    rw [fa] at g
    simp only [Option.bind_some] at g
    cases fz : revD x with
    | none => rw [fz] at g; cases g
    | some z =>
      rw [fz] at g
      cases g
      refine he.dn σ H ρ _ _ R fa _ fun v H1 R1 s1 z1 => ?_
      exact ⟨x, _, z1, fz, fun r H3 sm z3 => q r H3 (R1.same sm) (s1.trans (.of sm)) z3⟩⟩

/-! ### len(set(xs)), xs unlike texts -/
def strsOf : List PyData → Option (List Str)
  | [] => some []
  | .str x :: r => (strsOf r).map (x :: ·)
  | _ :: _ => none
theorem strsOf_map : ∀ {ds : List PyData} {xs : List Str}, strsOf ds = some xs → ds = xs.map .str
  | [], _, h => by cases h; rfl
  | d :: r, xs, h => by
    cases d with
    | str x =>
      unfold strsOf at h
      cases e : strsOf r with
      | none => rw [e] at h; cases h
      | some m =>
        rw [e] at h
        cases h
        rw [strsOf_map e]
        rfl
    | _ => cases h
def lenSetD : PyData → Option PyData
  | .list ds => (strsOf ds).bind fun xs => if (decide xs.Nodup && decide (xs.length < 4000)) = true then some (.int xs.length) else none
  | _ => none
def tLenSetD (K : PySem.W.Frag) (W0 : World) (te : TE) : TE := fun σ H Q => te σ H fun x H1 => ∃ d z, Vw K W0 H1 x d ∧ lenSetD d = some z ∧ ∀ v, Dz K W0 H1 v z → Q v H1
theorem pm_lenSet {p1 p2 p3 : Pos} (hc : X.calm = true) (ha : PV X H0 io a ta F) (hm : X.mg "len" = none) (hm2 : X.mg "set" = none) (hg : Gl X "len" := by rfl) (hg2 : Gl X "set" := by rfl) (na : starEach [a] X.env = (false, eval a X.env) :: starEach [] X.env := by rfl) :
    PM X H0 io (.Call (.Name "len" p1) [.Call (.Name "set" p2) [a] [] p3] [] pos) (tLenSetD X.K X.w ta) (dUn lenSetD F) := ⟨⟨fun pins s σ H Q I h => by
  refine Call_ (ld_blt I hg hm boot_len (PyProof.Rows.callWith_builtin1 (PyProof.Rows.args_cons ?_ rfl) rfl rfl))
  refine Call_ (ld_blt I hg2 hm2 boot_set (PyProof.Rows.callWith_type1 (PyProof.Rows.args_cons (thn (ha.pe.run pins s σ H _ I h) fun u s1 ⟨x, H1, I1, r1, d, z, hd, hz, q⟩ => PyProof.Rows.args_nil ?_) na) na rfl))
  unfold lenSetD at hz
  split at hz
  · rename_i ds
    cases fs : strsOf ds with
    | none => rw [fs] at hz; cases hz
    | some xs =>
      rw [fs] at hz
      simp only [Option.bind_some] at hz
      split at hz
      · rename_i hk
        cases hz
        simp only [Bool.and_eq_true, decide_eq_true_eq] at hk
        cases strsOf_map fs
        obtain ⟨l, vs, rfl, h1, h2⟩ := hd.list
        cases dzAll_strs h2
        cases r1
        obtain ⟨its, r, pl, _⟩ := I1.list h1
        refine set_of_texts (I1.ok.hd hc) pl.isList (by simpa using strsAre_of r) hk.1 hk.2 fun h2 tk hS hkk => PyProof.Rows.args_nil ?_
        obtain ⟨o, es, ep, tt, ho, hex, hdt, _, _, _, hf, hn⟩ := hS
        have I2 : Inv X pins σ H1 { s1 with heap := h2, toks := tk } := I1.kept fun b o e => hkk b o (Heap.lt_size e) e
        exact call_len_set ho hex hdt hf (by rw [hn]; omega) ⟨.int xs.length, H1, I2.tok _, ⟨_, by rw [hn]⟩, q _ (.int _)⟩
      · cases hz
  · cases hz⟩, fun σ H ρ d ρ' R g Q q => by
  unfold dUn at g
  cases fa : F ρ with
  | none => rw [fa] at g; cases g
  | some p =>
    obtain ⟨x, ρ1⟩ := p
    rw [fa] at g
    simp only [Option.bind_some] at g
    cases fz : lenSetD x with
    | none => rw [fz] at g; cases g
    | some z =>
      rw [fz] at g
      cases g
      refine ha.dn σ H ρ _ _ R fa _ fun v H1 R1 s1 z1 => ?_
      exact ⟨x, _, z1, fz, fun r z3 => q r H1 R1 s1 z3⟩⟩

/-! ### x, y = e1, e2 with plain names -/
theorem SR.besideS {K : PySem.W.Frag} {W0 : World} {σ : L2.St} {H H' : Hp} {ρ : En} {D : Addr} {u : HO} (R : SR K W0 H0 io σ H ρ) (hD : H D = none) (sm : Same H H') (hu : H' D = some u) (nt : ∀ ps, u ≠ .tbl ps) : SR K W0 (updT H0 D u) io σ H' ρ := by
  have R' := R.same sm
  refine ⟨R'.len, fun b o e n => ?_, R'.dat, fun i ds q => ?_, R'.dst, R'.iop, R'.ioh, R'.tb, fun ht b ps => ?_⟩
  · by_cases hb : b = D
    · subst hb
      rw [updT_same] at e
      rw [hu]
      exact e
    · rw [updT_ne hb] at e
      exact R'.keep b o e n
  · obtain ⟨p, vs, a, b, c, d⟩ := R.own i ds q
    have hp : p ≠ D := ne_of_none b hD
    exact ⟨p, vs, a, sm _ _ b, c.mono (.of sm), by rw [updT_ne hp]; exact d⟩
  · by_cases hb : b = D
    · subst hb; rw [updT_same]; exact fun z => nt ps (Option.some.inj z)
    · rw [updT_ne hb]; exact R.nt ht b ps
def sParMM (i j : Nat) (F G : DF) : DS := fun ρ => (F ρ).bind fun p => (G p.2).map fun q => .nx ((q.2.set i (.dat p.1)).set j (.dat q.1))
def sParFF (i j : Nat) (A B : DFL) : DS := fun ρ => (A ρ).bind fun p => (B p.2).map fun q => .nx ((q.2.set i (.own p.1)).set j (.own q.1))
theorem sm_parMM (i j : Nat) {x y : Str} {px py pt pt2 : Pos} {kt k2 : Nat} (hc : X.calm = true) (hN : X.N.Nodup) (ha : PM X H0 io a ta F) (hb : PM X H0 io b tb G)
    (hi : X.N[i]? = some x := by rfl) (hj : X.N[j]? = some y := by rfl) (hij : i ≠ j := by decide) (hx : X.env.scope.names.lookup x = some .local := by rfl) (hy : X.env.scope.names.lookup y = some .local := by rfl)
    (h1 : io = none ∨ i ≠ 0 := by first | exact .inl rfl | exact .inr (by decide)) (h2 : io = none ∨ j ≠ 0 := by first | exact .inl rfl | exact .inr (by decide))
    (sa : starEach [a, b] X.env = (false, eval a X.env) :: starEach [b] X.env := by rfl) (sb : starEach [b] X.env = (false, eval b X.env) :: starEach [] X.env := by rfl)
    (hw : swappedStores [.Tuple [.Name x px, .Name y py] kt pt] (.Tuple [a, b] k2 pt2) X.env = pure (some [x, y]) := by rfl)
    (hs : swapsWithSole [.Tuple [.Name x px, .Name y py] kt pt] (.Tuple [a, b] k2 pt2) pos.line X.env = pure false := by rfl) :
    SM X H0 io E (.Assign [.Tuple [.Name x px, .Name y py] kt pt] (.Tuple [a, b] k2 pt2) pos) (tPar i j (tCons ta (tCons tb tNil))) (sParMM i j F G) := ⟨ps_par hc hN hi hj hij hx hy (pa_cons ha.pe (pa_cons hb.pe pa_nil sb) sa) hw hs, fun σ H ρ o R g D q => by
  unfold sParMM at g
  cases fa : F ρ with
  | none => rw [fa] at g; cases g
  | some p =>
    obtain ⟨d, ρ1⟩ := p
    rw [fa] at g
    simp only [Option.bind_some] at g
    cases fb : G ρ1 with
    | none => rw [fb] at g; cases g
    | some z =>
      obtain ⟨e, ρ2⟩ := z
      rw [fb] at g
      cases g
      refine ha.dn σ H ρ _ _ R fa _ fun v H1 R1 s1 z1 => hb.dn σ H1 ρ1 _ _ R1 fb _ fun w H2 R2 s2 z2 => ?_
      exact ⟨v, w, rfl, q _ H2 ((R2.setD (z1.mono s2) h1).setD z2 h2) (s1.trans s2)⟩⟩
theorem sm_parFF (i j : Nat) {x y : Str} {px py pt pt2 : Pos} {kt k2 : Nat} (hc : X.calm = true) (hN : X.N.Nodup) (ha : PF X H0 io a ta A) (hb : ∀ H0, PF X H0 io b tb B)
    (hi : X.N[i]? = some x := by rfl) (hj : X.N[j]? = some y := by rfl) (hij : i ≠ j := by decide) (hx : X.env.scope.names.lookup x = some .local := by rfl) (hy : X.env.scope.names.lookup y = some .local := by rfl)
    (h1 : io = none ∨ i ≠ 0 := by first | exact .inl rfl | exact .inr (by decide)) (h2 : io = none ∨ j ≠ 0 := by first | exact .inl rfl | exact .inr (by decide))
    (sa : starEach [a, b] X.env = (false, eval a X.env) :: starEach [b] X.env := by rfl) (sb : starEach [b] X.env = (false, eval b X.env) :: starEach [] X.env := by rfl)
    (hw : swappedStores [.Tuple [.Name x px, .Name y py] kt pt] (.Tuple [a, b] k2 pt2) X.env = pure (some [x, y]) := by rfl)
    (hs : swapsWithSole [.Tuple [.Name x px, .Name y py] kt pt] (.Tuple [a, b] k2 pt2) pos.line X.env = pure false := by rfl) :
    SM X H0 io E (.Assign [.Tuple [.Name x px, .Name y py] kt pt] (.Tuple [a, b] k2 pt2) pos) (tPar i j (tCons ta (tCons tb tNil))) (sParFF i j A B) := ⟨ps_par hc hN hi hj hij hx hy (pa_cons ha.pe (pa_cons (hb H0).pe pa_nil sb) sa) hw hs, fun σ H ρ o R g D q => by
  unfold sParFF at g
  cases fa : A ρ with
  | none => rw [fa] at g; cases g
  | some p =>
    obtain ⟨d, ρ1⟩ := p
    rw [fa] at g
    simp only [Option.bind_some] at g
    cases fb : B ρ1 with
    | none => rw [fb] at g; cases g
    | some z =>
      obtain ⟨e, ρ2⟩ := z
      rw [fb] at g
      cases g
      refine ha.dn σ H ρ _ _ R fa _ fun p1 v1 H1 H2 R1 s1 n1 sm1 a1 d1 => ?_
      have hio : io ≠ some p1 := fun z => by
        obtain ⟨o, e, _⟩ := R1.ioh p1 z
        rw [n1] at e; cases e
      have h0 : H0 p1 = none := by
        cases e : H0 p1 with
        | none => rfl
        | some o =>
          have := R1.keep p1 o e hio
          rw [n1] at this; cases this
      refine (hb (updT H0 p1 (.lst v1))).dn σ H2 ρ1 _ _ (R1.besideS n1 sm1 a1 (fun _ z => by cases z)) fb _ fun p2 v2 H3 H4 R3 s3 n3 sm3 a3 d3 => ?_
      obtain ⟨Ra, sa', sta, k1⟩ := R3.apart hio h0
      have k4 : H4 p1 = some (.lst v1) := sm3 _ _ k1
      have np : p2 ≠ p1 := fun z => by rw [z, k1] at n3; cases n3
      have dS : Stay H4 (del H4 p1) := ⟨fun a ys e => by rw [del_ne (ne_of e k4 (by intro z; cases z))]; exact e, fun a o u e => by rw [del_ne (ne_of e k4 (by intro z; cases z))]; exact e⟩
      have sD : Same (del H3 p1) (del H4 p1) := fun b o e => by
        by_cases hb : b = p1
        · subst hb; rw [del_same] at e; cases e
        · rw [del_ne hb] at e ⊢; exact sm3 _ _ e
      have sU : Same (del H4 p1) H4 := fun b o e => by
        by_cases hb : b = p1
        · subst hb; rw [del_same] at e; cases e
        · rw [del_ne hb] at e; exact e
      have Rj := Ra.setO (i := j) (p := p2) (by rw [del_ne np]; exact n3) sD (by rw [del_ne np]; exact a3) (d3.mono dS) h2
      have st : Stay H2 H4 := s3.trans (.of sm3)
      have Ri := Rj.setO (i := i) (p := p1) del_same sU k4 (d1.mono st) h1
      rw [List.set_comm _ _ (Ne.symm hij)] at Ri
      rw [List.set_comm _ _ (Ne.symm hij)] at Ri
      exact ⟨.ref p1, .ref p2, rfl, q _ H4 Ri ((s1.trans (.of sm1)).trans st)⟩⟩
end
end DL
set_option Elab.async false
set_option linter.all false
set_option maxRecDepth 100000
set_option maxHeartbeats 2000000
/-! DLX1: an own exception's __init__ that says super().__init__(v); self.value = v. -/
namespace DL
open PySem PySem.Spec L2
open PyProof.Rows hiding St

section
variable {P : Program} {w : World} {H : Hp} {h h4 : Heap} {a C dx : Addr} {f : Str} {y : V} {u : Value} {fs : List Addr} {K : PySem.W.Frag}
/-- the first field of an exception that is being made -/
theorem exc_laid (hok : HOk P w H h) (e : H a = some (exo a C none)) (k : ∀ b o, b ≠ a → h.get? b = some o → h4.get? b = some o) {t1 : Addr} (hx : h4.get? a = some ({ cls := .ref C, dict := some dx, data := .fields #[.ref t1, .none, .none, .none, .bool false, .none] } : Obj))
    (hn : h4.Ns1 dx fun y => if y = f then some u else none) (hd : h.objs.size ≤ dx) (ne : dx ≠ a) (ry : RelV y u) :
    Un fs [] H (upd (upd H dx (exd dx [(f, y)])) a (exo a C (some dx))) h h4 ∧ HOk P w (upd (upd H dx (exd dx [(f, y)])) a (exo a C (some dx))) h4 := by
  have nD : H dx = none := hok.fresh hd
  have od : ∀ {b : Addr} {o : Obj}, h.get? b = some o → b ≠ dx := fun {b o} q => Nat.ne_of_lt (Nat.lt_of_lt_of_le (Heap.lt_size q) hd)
  have oa : ∀ {b : Addr}, H b = none → b ≠ a := fun {b} n z => by rw [z, e] at n; cases n
  refine ⟨⟨fun b o q n _ _ => k b o (oa n) q, fun b o q n _ _ => ⟨o.slots, k b o (oa n) q⟩, fun b o q n _ => by rw [upd_ne (oa n), upd_ne (od q)]; exact n, fun b o q _ => ?_, fun b xs q => ?_, fun b o v q => ?_, fun b ps q => ⟨#[], ?_⟩⟩, fun b o q => ?_⟩
  · by_cases hb : b = a
    · rw [hb]; exact ⟨_, hx⟩
    · exact ⟨o, k b o hb q⟩
  · rw [upd_ne (at_ne e q exo_tup), upd_ne (ne_of_none q nD)]; exact q
  · rw [upd_ne (at_ne e q exo_frz), upd_ne (ne_of_none q nD)]; exact q
  · rw [upd_ne (at_ne e q exo_tbl), upd_ne (ne_of_none q nD), q]; simp
  · by_cases hb : b = a
    · subst hb
      rw [upd_same] at q
      cases q
      exact exo_ok hx
    · rw [upd_ne hb] at q
      by_cases hbd : b = dx
      · subst hbd
        rw [upd_same] at q
        cases q
        exact exd_ok hn (relO_put (fs := []) ry fun g => trivial)
      · rw [upd_ne hbd] at q
        refine (hok b o q).stay (fun c v hc z => k c v ?_ z) (fun c hc => ?_) fun c xs hc => ?_
        · rcases hc with hc | hc
          · rw [hc]; exact hb
          · exact at_ne e hc exo_own
        · rw [upd_ne (at_ne e hc exo_own), upd_ne (ne_of_none hc nD)]; exact hc
        · rw [upd_ne (at_ne e hc exo_tup), upd_ne (ne_of_none hc nD)]; exact hc
end

section
variable {prog : Program} {w : World} {A : Around} {E : Value → Shared → Prop} {h : Heap} {g : Array GenState} {d : Drawn} {t : Nat} {os : OsState}
variable {nm q : Str} {C N : Addr} {bs bm : List Value} {hdct : Bool} {sn : List Str} {sub : List Value} {ab : Bool} {col : Option Bool} {dd : Option Addr} {k0 k1 k2 k3 k5 : Option Value}
/-- the bound ValueError.__init__ called: the args are laid anew -/
theorem call_mw {u e t0 : Addr} {rest : List Value} {Q : Value → Shared → Prop} (hC : h.get? C = some (excClassObj nm q C N bs bm hdct sn sub ab col dd k0 k1 k2 k3 k5 "ValueError.__new__")) (he : h.get? e = some (HandSPX.excO C t0)) (hu : h.get? u = some (PySem.W.kxs_mw "ValueError.__init__" e)) (hz : rest.length ≤ sizeLine)
    (hq : ∀ h2, (∀ b o, b ≠ e → h.get? b = some o → h2.get? b = some o) → h2.get? e = some (HandSPX.excO C h.objs.size) → Q .none ⟨h2, g, d, t, os⟩) : wpAny (model prog w) A (call (.ref u) rest) Q E ⟨h, g, d, t, os⟩ := by
  refine wpAny_call (codeAny_of_tree ?_)
  show wpAny _ A.in1 (callAny (.ref u) ⟨rest, []⟩) _ _ _
  unfold callAny
  refine wpAny_bind (wpAny_load hu ?_)
  simp only [PySem.W.kxs_mw, show (Value.type "method-wrapper" == Value.type "method" || Value.type "method-wrapper" == Value.type "builtin_function_or_method" || Value.type "method-wrapper" == Value.type "method-wrapper") = true by decide, if_true]
  refine PySem.W.KFB.if_so (by decide) (wpAny_bind (PySem.W.check_bound_init F.excBase_ValueError.toExcCallFacts hC he rfl ?_))
  refine wpAny_bind (wpAny_pure (wpAny_pure ⟨plainId_quiet F.excBase_ValueError.init.plain _, codeAny_builtin F.excBase_ValueError.initEntry ?_⟩))
  exact PySem.W.exc_init_tree (cls := .ref C) (t0 := t0) (dv := none) (c2 := .none) (c3 := .none) (b4 := .bool false) he hz fun h2 k e1 e2 => hq h2 k e1
end

abbrev supScope : Scope := { kind := .function, names := [("self", .local), ("value", .local), ("__class__", .free), ("super", .globalImplicit)], isGenerator := false, isCoroutine := false, more := [] }
abbrev supCall (p0 p1 p2 p3 p4 : Pos) : Expr := .Call (.Attribute (.Call (.Name "super" p0) [] [] p1) "__init__" p2) [.Name "value" p3] [] p4
abbrev supStore (p6 p7 p8 p9 : Pos) : Stmt := .Assign [.Attribute (.Name "self" p6) "value" p7] (.Name "value" p8) p9
/-- what the written part holds of the class with that __init__ (at D), of the __init__ at f -/
structure SupK (P : Program) (K : PySem.W.Frag) (f D : Addr) (qual : Str) (fd : FuncData) : Prop where
  fn : ∃ (params : Arguments) (kV doc pm ct oc : Value) (an od : Option Addr) (osl : Array (Option Value)) (cda cc : Addr) (p0 p1 p2 p3 p4 p5 p6 p7 p8 p9 : Pos) (pl : Env → Sem Bool) (ar : Arg),
    fd = PySem.W.ksFn "__init__" qual params [.Expr (supCall p0 p1 p2 p3 p4) p5, supStore p6 p7 p8 p9] supScope .none kV doc pm an (.ref cda) ct cc ∧
    K.lookup f = some ⟨oc, od, .func fd, osl⟩ ∧ PySem.W.codeIn K (.ref cda) qual = true ∧ (params.posonlyargs ++ params.args).head? = some ar ∧ ar.arg = "self" ∧
    (∃ (ccl : Value) (cdd : Option Addr) (vs : Array Value) (ccs : Array (Option Value)) (file : Str) (tf : Tok), K.lookup cda = some ⟨ccl, cdd, .fields vs, ccs⟩ ∧ vs[2]? = some (.str file tf) ∧ ((P.main.file : Str) == file) = true) ∧
    (∃ (cl : Value) (cld : Option Addr) (csl : Array (Option Value)), K.lookup cc = some ⟨cl, cld, .cell (some (.ref D)), csl⟩) ∧
    ∀ env, eval (supCall p0 p1 p2 p3 p4) env = (do
      let ov ← attributeBase (.Call (.Name "super" p0) [] [] p1) "__init__" env (eval (.Call (.Name "super" p0) [] [] p1) env)
      standAt p2.atName
      let (f, first) ← holding [ov] (getMethod ov "__init__" (pl env))
      callWith p4 f first (backTo p4 (starEach [.Name "value" p3] env)) [])
  cls : (PySem.W.clsIn K D).isSome = true
  sup : PySem.W.nsIn K mainGlobals "super" = some none
  opq : PySem.W.nsIn K cStatics "thirdparty.any" = some none
  top : (P.main.scope.names.lookup ("super" : Str)).isSome = false
/-- .. of a class at C that has it -/
structure SubK (K : PySem.W.Frag) (C D : Addr) : Prop where
  oex : OexC K C
  sub : PySem.W.mroIn K C (.ref D) = some true
  ini : PySem.W.ks_superIn K C D "__init__" = some (some (.builtin "ValueError.__init__"))
  ve : PySem.W.subIn K (.ref C) (.type "ValueError") = some true
  val : PySem.W.findIn K (.ref C) "value" = some none
def spSup (K : PySem.W.Frag) (D : Addr) : Sp := fun vs H Q _ => ∃ (a C : Addr) (y : V), vs = [.ref a, y] ∧ SubK K C D ∧ H a = some (exo a C none) ∧ ∀ dx, H dx = none → dx ≠ a → Q .non (upd (upd H dx (exd dx [("value", y)])) a (exo a C (some dx)))
theorem sup_ok {P : Program} {w : World} {K : PySem.W.Frag} {mg : Str → Option Value} {base : Heap} {f D : Addr} {qual : Str} {fd : FuncData} {k : Nat} (S : SupK P K f D qual fd) : FnOk P w K mg base CX0 (k + 1) f fd ["self", "value"] (spSup K D) := by
  refine ⟨fun vs H Q E ⟨a, C, y, e, _⟩ => by rw [e]; rfl, fun A outer s H args us vs Q E hr e0 bt rv ⟨a, C, y, ev, SC, ha, q⟩ => ?_⟩
  subst ev
  obtain ⟨u1, u2, rfl, ra, ry⟩ := vals2 rv
  obtain rfl : u1 = Value.ref a := ra
  obtain ⟨params, kV, doc, pm, ct, oc, an, od, osl, cda, cc, p0, p1, p2, p3, p4, p5, p6, p7, p8, p9, pl, ar, efd, lk, hcd, hp, har, ⟨ccl, cdd, vs, ccs, file, tf, hcode, hvs, hfile⟩, ⟨cl, cld, csl, hcell⟩, hev⟩ := S.fn
  have keptB : ∀ b o, base.get? b = some o → s.heap.get? b = some o := fun b o e => (e0.bs b o e).1
  have KX : K.In s.heap := e0.mod.kin.keeps keptB
  obtain ⟨mb, hmb, hbb⟩ := e0.mod.blt
  have gns : s.heap.Ns mainGlobals mg := e0.mod.glob.keeps keptB
  have bns : s.heap.Ns builtinsNs mb := hmb.keeps keptB
  have nol : s.heap.NoLimit := e0.mod.nolimit.keeps keptB
  obtain ⟨t1, hoa⟩ := exo_at e0.hok ha
  obtain ⟨nm, q0, N, bs, bm, sn, sub, ab, col, dd, k0, k1, k2, k3, k5, hC, hbm⟩ := SC.oex.cls
  have hms : mg "super" = none := PySem.W.mg_none_of e0.mod.kin e0.mod.glob S.sup
  obtain ⟨cdC, hcC⟩ : ∃ cd, PySem.W.clsIn K C = some cd := ⟨_, by unfold PySem.W.clsIn; rw [hC]⟩
  have hini := SC.ini
  unfold PySem.W.ks_superIn at hini
  rw [hcC] at hini
  subst efd
  refine ks_codeAny_call_defAt (fd := PySem.W.ksFn "__init__" qual params _ supScope .none kV doc pm an (.ref cda) ct cc) hr.depth (KX _ _ lk) rfl nol (PySem.W.codeRec_of KX hcd) rfl bt (show ∀ y ∈ supScope.names, y.2 ≠ .cell by decide) (fun y hy => ?_) fun h0 hns k0' => ?_
  · simp only [List.zip_cons_cons, List.zip_nil_right, List.mem_cons, List.not_mem_nil, or_false] at hy
    rcases hy with rfl | rfl <;> rfl
  obtain ⟨hp0, g, d, t, os⟩ := s
  have X0 : K.In h0 := KX.keeps k0'
  have oa0 := k0' _ _ hoa
  have hC0 := X0 _ _ hC
  obtain ⟨oD, hD1, cdD, hD2⟩ : ∃ oD, h0.get? D = some oD ∧ ∃ cd, oD.data = .cls cd := by
    obtain ⟨cd, hc⟩ := Option.isSome_iff_exists.mp S.cls
    unfold PySem.W.clsIn at hc
    split at hc
    · rename_i c d cd' sl ho
      exact ⟨_, X0 _ _ ho, _, rfl⟩
    · cases hc
  have Ia : PySem.W.InstAt h0 a (HandSPX.excO C t1) C none := ⟨oa0, rfl, rfl, trivial⟩
  generalize henv : callEnv (PySem.W.ksFn "__init__" qual params [.Expr (supCall p0 p1 p2 p3 p4) p5, supStore p6 p7 p8 p9] supScope .none kV doc pm an (.ref cda) ct cc) hp0.objs.size f = env
  have eS : env.scope = supScope := by rw [← henv]; rfl
  have eL : env.locals = hp0.objs.size := by rw [← henv]; rfl
  have eG : env.globals = mainGlobals := by rw [← henv]; rfl
  have eB : env.builtins = builtinsNs := by rw [← henv]; rfl
  have eF : env.func = some f := by rw [← henv]; rfl
  have eC : env.code = .ref cda := by rw [← henv]; rfl
  have eK : env.cells = [(("__class__" : Str), cc)] := by rw [← henv]; rfl
  have kO : ∀ x : Str, env.kindOf x = supScope.names.lookup x := fun x => by unfold Env.kindOf; rw [eS]
  have hns0 : h0.Ns env.locals (fun x => (([("self", Value.ref a), ("value", u2)] : List (Str × Value)).reverse).lookup x) := by rw [eL]; exact hns
  refine ks_wpAt_execs_cons (ks_wpAt_Expr_any ?_ (by unfold interactive; rw [eS]; rfl) rfl)
  refine ks_wpAt_MethodCall (pl := pl env) ?_ (hev env)
  refine ks_wpAt_super_base (ar := ar) (kO _) (kO _) (by decide) eF (X0 _ _ lk) rfl hp eC (X0 _ _ hcode) rfl hvs hfile S.top ?_
  refine PySem.W.ks_loadName_global (by rw [eS]) (kO _) (Calls.loadGlobal_builtin (by rw [eG]; exact gns.keeps k0') hms (by rw [eB]; exact bns.keeps k0') ((hbb _ (by decide)).trans (by decide +kernel)) ⟨rfl, ?_⟩)
  refine wpAny_loadName_free (by rw [eS]) (kO _) (by rw [eK]; rfl) ⟨_, X0 _ _ hcell, rfl⟩ ?_
  rw [har]
  refine wpAny_loadName_local (by rw [eS]) (kO _) hns0 (show _ = some (Value.ref a) from rfl) ?_
  refine ks_wpAny_isType_cls hD1 hD2 ⟨rfl, ?_⟩
  refine ks_wpAny_call_super hD1 hD2 oa0 rfl (fun c e => nomatch e) (PySem.W.looks_mroIn X0 SC.sub) fun h1 hso k1' => ?_
  have X1 : K.In h1 := X0.keeps k1'
  have Ia1 : PySem.W.InstAt h1 a (HandSPX.excO C t1) C none := ⟨k1' _ _ oa0, rfl, rfl, trivial⟩
  have I1v : PySem.W.Looks (model P w) h1 (isInstance (.ref a) (.type "ValueError")) true := Ia1.type.andThen (PySem.W.looks_subIn X1 SC.ve)
  refine PySem.W.kxs_getMethod PySem.W.kxs_ValueError hso (PySem.W.looks_opaque X1 S.opq) (l₀ := cdC.mro) (fun A Q E s k q => wpAny_bind ((PySem.W.looks_clsIn X1 hcC) A _ E s k (wpAny_pure q))) rfl X1 hini I1v (PySem.W.ks_ne X1 Ia1 hcC) (by decide) ?_
  have k2' : ∀ b o, h1.get? b = some o → (h1.push (PySem.W.kxs_mw "ValueError.__init__" a)).get? b = some o := fun b o e => Heap.get?_push_of_some _ e
  have hmw : (h1.push (PySem.W.kxs_mw "ValueError.__init__" a)).get? h1.objs.size = some (PySem.W.kxs_mw "ValueError.__init__" a) := Heap.get?_push_size _ rfl
  have hns2 := (hns0.keeps k1').keeps k2'
  refine PySem.W.kxs_callWith (i := "ValueError.__init__") (x := a) rfl (Calls.evalArgs_plain (Calls.spliced_cons ?_))
  refine wpAny_Name (wpAny_loadName_local (by rw [eS]) (kO _) hns2 (show _ = some u2 from rfl) (Calls.spliced_nil ⟨hmw, ?_⟩))
  refine call_mw (k2' _ _ (k1' _ _ hC0)) (k2' _ _ (k1' _ _ oa0)) hmw (by show 1 ≤ sizeLine; decide) fun h3 k3' ha3 => ?_
  have kL : ∀ b o, b ≠ a → h0.get? b = some o → h3.get? b = some o := fun b o hb e => k3' b o hb (k2' _ _ (k1' _ _ e))
  have hLa : env.locals ≠ a := by rw [eL]; exact Nat.ne_of_gt (Heap.lt_size hoa)
  have hns3 : h3.Ns env.locals (fun x => (([("self", Value.ref a), ("value", u2)] : List (Str × Value)).reverse).lookup x) := hns0.at fun o e => kL _ o hLa e
  have X3 : K.In h3 := fun b o e => kL b o (fun z => by
    have := (e0.bs b o (e0.mod.kin b o e)).2
    rw [z, ha] at this
    cases this) (X0 b o e)
  have hcl : PySem.W.clsIn K C = some { name := nm, bases := bs, mro := .ref C :: bm, ns := N, qualname := q0, hasDict := true, slotNames := sn, subclasses := sub, abstract := ab, collection := col, hasDel := false } := by unfold PySem.W.clsIn; rw [hC]
  refine ks_wpAt_execs_cons (wpAt_of_wpAny (plainObj_wpAny_Assign_Attribute (wpAny_Name (wpAny_loadName_local (by rw [eS]) (kO _) hns3 (show _ = some u2 from rfl) (wpAny_Name (wpAny_loadName_local (by rw [eS]) (kO _) hns3 (show _ = some (Value.ref a) from rfl) ?_)))) rfl))
  refine PySem.W.set_plain X3 (ox := HandSPX.excO C _) (od := none) ⟨ha3, rfl, rfl, trivial⟩ SC.oex.sa ?_
  refine HandSPX.exc_osa X3 ha3 hcl (show HandSPX.refsVE (.ref C :: bm) = true from hbm) rfl SC.val fun h4 tk dx k4 dn dne hx hn => ?_
  refine wpAt_of_wpAny (wpAny_execs_nil ?_)
  have kk : ∀ b o, b ≠ a → hp0.get? b = some o → h4.get? b = some o := fun b o hb e => k4 b o hb (kL b o hb (k0' b o e))
  have sz : hp0.objs.size ≤ dx := by
    have e1 : hp0.objs.size < h3.objs.size := by
      obtain ⟨o, es, ep, ho, _⟩ := hns3
      rw [eL] at ho
      exact Heap.lt_size ho
    exact Nat.le_trans (Nat.le_of_lt e1) dn
  obtain ⟨U, O⟩ := exc_laid (fs := frs outer) e0.hok ha kk hx hn sz dne ry
  exact ⟨.non, _, rfl, e0.bare, U, O, rfl, q dx (e0.hok.fresh sz) dne⟩

/-! ### raise X(e) -/
def sRaise (c : Str) (F : DF) : DS := fun ρ => (F ρ).map fun p => .ex c p.1
section
variable {X : Cx} {H0 : HT} {io : Option Addr} {E : XK} {e : Expr} {te : TE} {F : DF} {pos : Pos}
/-- the class named x at C, its __init__ f, defined in the class at D -/
structure RaiK (P : Program) (K : PySem.W.Frag) (mg : Str → Option Value) (x : Str) (C D f : Addr) (qual : Str) (fd : FuncData) : Prop where
  mgx : mg x = some (.ref C)
  sup : SupK P K f D qual fd
  sub : SubK K C D
  ini : PySem.W.findIn K (.ref C) "__init__" = some (some (.ref f))
  typ : PySem.W.typeIn K (.ref f) = some (.type "function")
  bnd : Binds K fd ["self", "value"] []
theorem sm_raise {x : Str} {p p2 : Pos} {k : Nat} {C D f : Addr} {qual : Str} {fd : FuncData} (hc : X.calm = true) (tk : Takes X fun cls d _ H => E cls d H) (T : RaiK X.prog X.K X.mg x C D f qual fd) (hr : RoomG (k + 2) X.A) (he : PM X H0 io e te F) (hg : Gl X x := by rfl) (hdb : (x == ("__debug__" : Str)) = false := by decide)
    (hs : starEach (e :: []) X.env = (false, eval e X.env) :: starEach [] X.env := by rfl) (hpl : (backTo p2 (starEach [] X.env)).any (·.1) = false := by rfl) :
    SM X H0 io E (.Raise (some (.Call (.Name x p) [e] [] p2)) none pos) (fun _ σ H => tMkO C (spSup X.K D) [] (tCons te tNil) σ H fun cls d H' => E cls d H') (sRaise x F) := by
  obtain ⟨hm, S, SC, iC, tI, hb⟩ := T
  refine ⟨ps_raise hc tk (pmk_oex SC.oex iC tI (sup_ok (k := k) S) hr.room hb .nil pass0 hg hm (pa_cons he.pe pa_nil hs) hdb hs hpl), fun σ H ρ o R g Dn q => ?_⟩
  unfold sRaise at g
  cases fa : F ρ with
  | none => rw [fa] at g; cases g
  | some p =>
    obtain ⟨d, ρ1⟩ := p
    rw [fa] at g
    cases g
    refine he.dn σ H ρ _ _ R fa _ fun v H1 R1 s1 z1 => ⟨by simp, fun a ha => ⟨a, C, v, rfl, SC, upd_same, fun dx hdx nda => ⟨rfl, dx, [("value", v)], upd_same, ?_, ?_, ?_⟩⟩⟩
    · rw [upd_ne nda, upd_same]
    · rwa [upd_ne nda] at hdx
    · rw [upd_ne nda] at hdx
      have sm : Same H1 (upd (L2.del (upd (upd (upd H1 a (exo a C none)) dx (exd dx [("value", v)])) a (exo a C (some dx))) a) dx (.xd [("value", v)])) := fun b u e => by
        have nb : b ≠ a := ne_of_none e ha
        rw [upd_ne (ne_of_none e hdx), L2.del_ne nb, upd_ne nb, upd_ne (ne_of_none e hdx), upd_ne nb]
        exact e
      have n0 : H0 dx = none := by
        cases e : H0 dx with
        | none => rfl
        | some o =>
          have := R1.keep dx o e fun z => by
            obtain ⟨o2, e2, _⟩ := R1.ioh dx z
            rw [hdx] at e2; cases e2
          rw [hdx] at this; cases this
      exact q C dx v _ hm (fun b u e n => sm b u (R1.keep b u e n)) (s1.trans (.of sm)) n0 upd_same (z1.mono (.of sm))
end
end DL
set_option Elab.async false
set_option linter.all false
set_option maxRecDepth 100000
set_option maxHeartbeats 2000000
/-! DLX2: an exception that is caught and held: f(lambda: e), f a def that calls it in a try. -/
namespace DL
open PySem PySem.Spec L2 LamX
open PyProof.Rows hiding St

/-- an exception's object that stands still from now on -/
abbrev heldO (oe : Obj) : HO := .frz oe (.ext fun _ => True)
section
variable {X : Cx} {pins : List (Addr × Obj)} {σ : L2.St} {H : Hp} {s : Shared}
theorem held_ok {P : Program} {w : World} {H : Hp} {h : Heap} {a : Addr} {oe : Obj} (e : h.get? a = some oe) : ObjOk P w H h a (heldO oe) := ⟨e, trivial, ⟨oe, e⟩, fun _ _ _ _ => trivial⟩
/-- an object that isn't tracked yet, none of the entry's, stands still from now on -/
theorem inv_hold {a : Addr} {oe : Obj} {vs : Array Value} (I : Inv X pins σ H s) (ha : s.heap.get? a = some oe) (hd : oe.data = .fields vs) (na : H a = none) (n0 : X.s_0.heap.get? a = none) (nL : a ≠ X.env.locals) (np : ∀ p ∈ X.pn ++ pins, p.1 ≠ a) : Inv X pins σ (upd H a (heldO oe)) s := by
  have keep : ∀ {b : Addr} {o : HO}, H b = some o → upd H a (heldO oe) b = some o := fun {b o} e => by rw [upd_ne (ne_of_none e na)]; exact e
  have ne0 : ∀ b o, X.s_0.heap.get? b = some o → b ≠ a := fun b o e z => by rw [z, n0] at e; cases e
  have nC : ∀ x c, X.env.cells.lookup x = some c → c ≠ a := fun x c e z => by
    obtain ⟨v, o, ho, hv⟩ := I.cell x c e
    rw [z, ha] at ho
    cases ho
    rw [hd] at hv
    cases hv
  exact ⟨I.ok, I.os, I.bare, ⟨I.base.keep, I.base.slot, fun b o e n hx => by rw [upd_ne (ne0 b o e)]; exact I.base.free b o e n hx, I.base.there, fun b xs e => keep (I.base.tups b xs e), fun b o u e => keep (I.base.frzs b o u e), fun b ps e => let ⟨m, q⟩ := I.base.tbls b ps e; ⟨m, keep q⟩⟩,
    I.loc, I.cell, by rw [upd_ne (Ne.symm nL)]; exact I.free, fun x c e => by rw [upd_ne (nC x c e)]; exact I.freeC x c e, fun p hp => let ⟨e1, e2, e3⟩ := I.pin p hp; ⟨e1, by rw [upd_ne (np p hp)]; exact e2, e3⟩, fun b o e => by
      by_cases hb : b = a
      · subst hb
        rw [upd_same] at e
        cases e
        exact held_ok ha
      · rw [upd_ne hb] at e
        exact (I.hok b o e).stay (fun _ _ _ z => z) (fun _ z => keep z) fun _ _ z => keep z, I.len⟩
end

/-- what 'except x as n: suite' wishes; behind it the exception stands still -/
def wHold (K : PySem.W.Frag) (c : Value) (i : Nat) (ts : Addr → Value → Option Addr → TS) (D : Ends) : WX := fun cls d σ H =>
  PySem.W.exmOne K cls c = some true ∧ ∀ a, H a = none → ts a cls d { nx := fun σ' H' => ∀ oe, oe.cls = cls → oe.dict = d → (∃ vs, oe.data = .fields vs) → D.nx (σ'.set i none) (upd H' a (heldO oe)), rt := fun _ _ => False } (σ.set i (some (.ref a))) H
section
variable {X : Cx} {x n : Str} {c : Value} {i : Nat} {body suite : List Stmt} {b0 : Stmt} {np pos pos2 : Pos} {tb : WX → TS} {ts : Addr → Value → Option Addr → TS}
theorem ps_hold (hs : X.stack = X.env :: X.outer) (hf : X.env.frame = some X.env.locals) (hex : X.ex = []) (hN : X.N.Nodup) (hi : X.N[i]? = some n) (hln : X.env.kindOf n = some .local) (hc : Names X x c)
    (hb : ∀ (W : WX) (pn : List (Addr × Obj)) (xe : Value → Shared → Prop), Takes (X.tr pn xe) W → PassesOwn (model X.prog X.w) X.A X.env xe → PSs (X.tr pn xe) body (tb W))
    (hsu : ∀ (a : Addr) (oe : Obj) (cls : Value) (d : Option Addr) (pn : List (Addr × Obj)), Zc cls d oe → (∃ vs, oe.data = .fields vs) → PSs (X.suite a ((a, oe) :: pn)) (b0 :: suite) (ts a cls d)) :
    PS X (.Try body [.ExceptHandler (some (.Name x np)) (some n) (b0 :: suite) pos2] [] [] pos) (fun D σ H => tb (wHold X.K c i ts D) D σ H) := ⟨fun pins s σ H D I h => by
  have ok := I.ok
  have hfr : X.A.frames = some (X.env :: X.outer) := by rw [ok.frames, hs]
  refine wpAny_Try_except (wpAny_mono ((hb (wHold X.K c i ts D) (X.pn ++ pins) (fun e s1 => wpAny (model X.prog X.w) X.A (noteFrame e X.env) (fun _ s2 => wpAny (model X.prog X.w) X.A (setFlight e none) (fun _ s3 =>
    wpAny (model X.prog X.w) X.A (handleBy e X.env [.ExceptHandler (some (.Name x np)) (some n) (b0 :: suite) pos2]) (SP X pins D) X.xe s3) X.xe s2) X.xe s1) (fun u s2 air => ?_) PassesOwn.looking).run [] s σ H D (I.toTry _) h) (fun fl s1 z => ?_) fun _ _ z => z)
  · obtain ⟨a, B, sI, pins2, σ2, H2, cls, d, rfl, J2, nb, up, sky, na, os, ag, hm, hw⟩ := air
    have J : Inv X pins σ2 H2 sI := J2.ofTry ok
    have sky2 : Sky B (X.env :: X.outer) a (Zc cls d) X.env.locals s2.heap := by rw [← hs]; exact sky
    refine Sky.land Zc.steady hfr hf sky2 fun h3 fl3 up3 => ?_
    obtain ⟨oe3, vs3, he3, hz3, hd3⟩ := fl3.there
    have nfr : a ∉ frs (X.env :: X.outer) := fun hmm => by
      obtain ⟨_, o2, e2, hnf⟩ := fl3.2.2.1.mem hmm
      rw [he3] at e2
      cases e2
      exact hnf _ hd3
    have nL : a ≠ X.env.locals := fun z => nfr (List.mem_filterMap.mpr ⟨X.env, List.mem_cons_self, by rw [hf, z]⟩)
    have nF : a ∉ X.fs := fun hmm => by
      obtain ⟨e, he, q⟩ := List.mem_filterMap.mp hmm
      exact nfr (List.mem_filterMap.mpr ⟨e, List.mem_cons_of_mem _ he, q⟩)
    have aI : sI.heap.get? a = none := by
      cases e : sI.heap.get? a with
      | none => rfl
      | some o =>
        have := nb a o e (by rw [hs]; exact nfr)
        rw [fl3.2.1] at this
        cases this
    have a0 : X.s_0.heap.get? a = none := by
      cases e : X.s_0.heap.get? a with
      | none => rfl
      | some o =>
        obtain ⟨o2, e2⟩ := J.base.there a o e (by rw [hex]; exact fun z => nomatch z)
        rw [aI] at e2
        cases e2
    have aP : ∀ p ∈ X.pn ++ pins, p.1 ≠ a := fun p hp z => by
      have := (J.pin p hp).1
      rw [z, aI] at this
      cases this
    have G3 : Inv X pins σ2 H2 { s2 with heap := h3 } := J.landed nb fl3.1 (up.trans up3) os ag
    have S3 := G3.suite he3 hd3 na nL nF
    refine wpAny_handleBy_cons (codeAny_handlers_test ?_) (by intro q; cases q)
    have LT : PySem.W.Looks (model X.prog X.w) h3 (typeOf (.ref a)) cls := fun A Q E s k q => wpAny_typeOf_ref (k _ _ he3) (by rw [hz3.1]; exact q)
    have LM := PySem.W.exm_one (M := model X.prog X.w) G3.kIn LT hm
    have look : ∀ {Q : Value → Shared → Prop} {E : Value → Shared → Prop}, Q c { s2 with heap := h3 } → wpAny (model X.prog X.w) (X.A.mark (some (.ref a))) (eval (.Name x np) X.env) Q E { s2 with heap := h3 } := fun {Q E} q => by
      obtain ⟨g1, g2, g3 | ⟨g3, g4, g5⟩⟩ := hc
      · exact ld_glob (X := X.suite a ((a, oe3) :: (X.pn ++ pins))) S3 g1 g3 q g2
      · exact ld_blt (X := X.suite a ((a, oe3) :: (X.pn ++ pins))) S3 g1 g3 g4 q g5 g2
    refine look (LM.here (codeAny_handlers_suite_as (HandSPX.lands_againZ fl3 fun h4 fl4 up4 => ?_)))
    obtain ⟨oe4, vs4, he4, hz4, hd4⟩ := fl4.there
    have G4 : Inv X pins σ2 H2 { s2 with heap := h4 } := J.landed nb fl4.1 ((up.trans up3).trans up4) os ag
    have S4 := G4.suite he4 hd4 na nL nF
    refine store_ok (X := X.suite a ((a, oe4) :: (X.pn ++ pins))) (v := .ref a) S4 hN hi (.inl hln) rfl (fun s5 S5 => ?_) (.inr hln)
    refine wpAny_mono ((hsu a oe4 cls d (X.pn ++ pins) hz4 ⟨_, hd4⟩).run [] s5 _ H2 _ S5 (hw a na)) (fun fl s6 z => ?_) fun _ _ z => False.elim z
    cases fl with
    | next =>
      obtain ⟨σ6, H6, S6, q6⟩ := z
      obtain ⟨g1, g2, _⟩ := S6.pin (a, oe4) (List.mem_append_left _ List.mem_cons_self)
      exact gone_ok (inv_hold (S6.unsuite ok) g1 hd4 g2 a0 nL aP) hN hi hln fun s7 J7 => ⟨_, _, J7, q6 oe4 hz4.1 hz4.2 ⟨_, hd4⟩⟩
    | brk => obtain ⟨_, _, _, q6⟩ := z; exact (show False from q6).elim
    | cont => obtain ⟨_, _, _, q6⟩ := z; exact (show False from q6).elim
    | ret u => obtain ⟨_, _, _, _, _, q6⟩ := z; exact (show False from q6).elim
  · cases fl with
    | next => obtain ⟨σ2, H2, J2, q⟩ := z; exact wpAny_execs_nil ⟨σ2, H2, J2.ofTry ok, q⟩
    | brk => obtain ⟨σ2, H2, J2, q⟩ := z; exact ⟨σ2, H2, J2.ofTry ok, q⟩
    | cont => obtain ⟨σ2, H2, J2, q⟩ := z; exact ⟨σ2, H2, J2.ofTry ok, q⟩
    | ret u => obtain ⟨v, σ2, H2, J2, r, q⟩ := z; exact ⟨v, σ2, H2, J2.ofTry ok, r, q⟩⟩
end

/-! ### the lambda called within that def -/
section
variable {X : Cx} {pins : List (Addr × Obj)} {σ : L2.St} {H : Hp} {s : Shared} {CXg : CXT} {Eg : XK} {Ng : List Str} {qg a : Str} {sg scope : Scope} {g f c2 : Addr} {cdg pm ctv : Value} {params : Arguments} {body : Expr} {k i : Nat} {pn : List (Addr × Obj)} {xe : Value → Shared → Prop} {W : WX} {t : XK → TE} {p1 p2 : Pos}
theorem lam_act (I : Inv X pins σ H s) (L : LamS X.env.scope scope) (hf : s.heap.get? f = some (PySem.W.kla_obj "<lambda>" (X.env.qual ++ "<lambda>") params body scope (cloFrom X.env.cells scope.names []) pm c2 ctv)) (hfn : H f = none) (hfr : f ∉ frs X.stack)
    (hbind : bindArgs (PySem.W.kla_fn "<lambda>" (X.env.qual ++ "<lambda>") params body scope (cloFrom X.env.cells scope.names []) pm (.ref c2) ctv) ⟨[], []⟩ = pure [])
    (tk : Takes ((cxOf CXg X.prog X.w X.K X.mg X.base Ng qg sg g cdg X.A X.stack s H Eg).tr pn xe) W) (hr : RoomG (k + 1) (X.A.deeper (envOfC qg sg s.heap.objs.size g cdg)))
    (hbody : ∀ (A : Around) (outer : List Env) (s : Shared) (H : Hp) (E : XK), RoomG k (A.deeper (lamEnv X scope s.heap.objs.size f c2)) → PE (lamCx X A outer s H E scope f c2) body (t E))
    (hN : Ng[i]? = some a) (hv : Vis sg a) (hd : (a == ("__debug__" : Str)) = false) (hcd : (a == ("__classdict__" : Str)) = false) :
    PE ((cxOf CXg X.prog X.w X.K X.mg X.base Ng qg sg g cdg X.A X.stack s H Eg).tr pn xe) (.Call (.Name a p1) [] [] p2) (fun σZ HZ Q => σZ[i]? = some (some (.ref f)) ∧ HZ c2 = some (CodeO c2 (X.env.qual ++ "<lambda>")) ∧ t (fun cls d H' => W cls d σZ H') σ HZ Q) := ⟨fun pinsZ sZ σZ HZ Q IZ ⟨h1, h2, h3⟩ => by
  refine wpAny_Call_Name_kw (thn ((pe_var (pos := p1) (i := i) hN hv hd hcd).run pinsZ sZ σZ HZ (fun v H1 => v = .ref f ∧ H1 = HZ) IZ ⟨.ref f, h1, rfl, rfl⟩) fun u s1 ⟨v, H1, I1, r1, ev, eH⟩ => ?_)
  subst ev
  subst eH
  obtain rfl : u = Value.ref f := r1
  have gf := I1.base.keep f _ hf hfn hfr fun z => nomatch (show f ∈ ([] : List Addr) from z)
  obtain ⟨⟨oc, vs, tt, g1, g2, g3⟩, _, _⟩ := I1.hok c2 _ h2
  have rc : codeAny (model X.prog X.w) (X.A.deeper (envOfC qg sg s.heap.objs.size g cdg)) (.call (.ref f) ⟨[], []⟩) (CR (L2.CX X.prog X.w) (envOfC qg sg s.heap.objs.size g cdg :: X.stack) X.prog X.w H1 s1 Q fun cls d H' => W cls d σZ H') s1 := by
    refine PySem.W.kla_callFunE hr.room.depth gf rfl L.co L.gen rfl ⟨c2, oc, vs, tt, rfl, g1, g2, g3⟩ ?_
    rw [hbind]
    refine wpAny_pure (wpAny_newFunctionEnv (fun y hy => (L.own y hy).2) (fun y hy => absurd hy (by simp)) (fun h2 ns sb => ⟨I1.nolimit.fresh _ sb, ?_⟩) L.kind)
    have kp : ∀ b o, s1.heap.get? b = some o → h2.get? b = some o := fun b o e => sb.extBut b o (Nat.ne_of_lt (Heap.lt_size e)) (Heap.get?_push_of_some _ e)
    have J : Inv (lamCx X (X.A.deeper (envOfC qg sg s.heap.objs.size g cdg)) (envOfC qg sg s.heap.objs.size g cdg :: X.stack) s1 H1 (fun cls d H' => W cls d σZ H') scope f c2) [] σ H1 { s1 with heap := h2, toks := s1.toks + ([] : List (Str × Value)).length } := lam_start2 I L I1.env0 hr.room.hd I1.base ns kp
    exact PySem.W.kla_codeExpr (wpAny_mono ((hbody _ _ s1 H1 _ (hr.deeper _)).run [] _ _ H1 Q J h3) (fun v s2 ⟨w2, H2, J2, rv, q⟩ => ⟨w2, H2, J2.os, J2.bare, J2.base, J2.hok, rv, q⟩) fun _ _ z => z)
  refine PySem.W.callWith_F0 ⟨_, _, _, _, gf⟩ (wpAny_call (codeAny_mono rc fun r s2 hq => ?_))
  cases r with
  | error e => exact tk e s2 (XE.of_call I1 (fun _ _ _ z => z) hq)
  | ok fl => cases fl with
    | ret u => exact I1.after hq
    | next => exact hq.elim
    | brk => exact hq.elim
    | cont => exact hq.elim⟩
end

/-! ### def f(look): caught, back = None, None; try: back = look() except X as error: caught = error; return caught, back -/
abbrev cauBody (ex : Str) (q : Nat → Pos) (k1 k2 k3 : Nat) (j1 j2 : Nat) : List Stmt :=
  [.Assign [.Tuple [.Name "caught" (q 0), .Name "back" (q 1)] k1 (q 2)] (.Tuple [.Constant .none j1 (q 3), .Constant .none j2 (q 4)] k2 (q 5)) (q 6),
    .Try [.Assign [.Name "back" (q 7)] (.Call (.Name "look" (q 8)) [] [] (q 9)) (q 10)] [.ExceptHandler (some (.Name ex (q 11))) (some "error") [.Assign [.Name "caught" (q 12)] (.Name "error" (q 13)) (q 14)] (q 15)] [] [] (q 16),
    .Return (some (.Tuple [.Name "caught" (q 17), .Name "back" (q 18)] k3 (q 19))) (q 20)]
abbrev cauN : List Str := ["look", "caught", "back", "error"]
/-- what f(lambda: e) makes of the lambda's reading t: the pair of an error that stands still and None, or of None and the value -/
def TCau (K : PySem.W.Frag) (CS : Addr) (t : XK → Hp → VK → Prop) (H : Hp) (Q : VK) : Prop := ∀ (H0 : Hp) (E : XK) (Q2 : VK), Same H H0 →
  (∀ cls d H1, PySem.W.exmOne K cls (.ref CS) = some true → (∀ a oe, H1 a = none → oe.cls = cls → oe.dict = d → (∃ vs, oe.data = .fields vs) → ∀ p, upd H1 a (heldO oe) p = none → Q (.ref p) (upd (upd H1 a (heldO oe)) p (.tup [.ref a, .non]))) → E cls d H1) →
  (∀ v H1, (∀ p, H1 p = none → Q (.ref p) (upd H1 p (.tup [.non, v]))) → Q2 v H1) → t E H0 Q2
section
variable {X : Cx}
theorem pe_cau {T : List (Addr × Str)} {x ex : Str} {g c P CS : Addr} {k : Nat} {pg params : Arguments} {sg scope : Scope} {dV kV doc pm cdv ct oc : Value} {an od : Option Addr} {osl : Array (Option Value)} {body : Expr} {t : XK → TE} {p lpos pos : Pos} {q : Nat → Pos} {k1 k2 k3 j1 j2 : Nat}
    (hg : Gl X x) (hm : X.mg x = some (.ref g)) (hk : PySem.W.keepIn X.K (.ref g) = true)
    (lk : X.K.lookup g = some ⟨oc, od, .func (PySem.W.fnOf x x pg (cauBody ex q k1 k2 k3 j1 j2) sg dV kV doc pm an cdv ct), osl⟩) (hcg : PySem.W.codeIn X.K cdv x = true) (hb : L2.Binds X.K (PySem.W.fnOf x x pg (cauBody ex q k1 k2 k3 j1 j2) sg dV kV doc pm an cdv ct) ["look"] []) (Sg : FnScope cauN ["look"] sg)
    (l0 : sg.names.lookup ("look" : Str) = some .local) (l1 : sg.names.lookup ("caught" : Str) = some .local) (l2 : sg.names.lookup ("back" : Str) = some .local) (l3 : sg.names.lookup ("error" : Str) = some .local) (l4 : sg.names.lookup ex = some .globalImplicit) (hex : X.mg ex = some (.ref CS)) (hdx : (ex == ("__debug__" : Str)) = false)
    (hw : ∀ L, swappedStores [.Tuple [.Name "caught" (q 0), .Name "back" (q 1)] k1 (q 2)] (.Tuple [.Constant .none j1 (q 3), .Constant .none j2 (q 4)] k2 (q 5)) (envOfC x sg L g cdv) = pure none)
    (TB : TabB X.base X.mg c P) (hcode : X.env.code = .ref c) (hmT : (P, X.env.qual ++ "<lambda>") ∈ T) (hu : ∀ p ∈ T, p.1 = P → p.2 = X.env.qual ++ "<lambda>") (hr : RoomG (k + 2) X.A) (L : LamS X.env.scope scope) (hdef : defaultsOf params X.env = ([], []))
    (hbind : ∀ (q : Str) (cl : List (Str × Addr)) (pm cv ctv : Value), bindArgs (PySem.W.kla_fn "<lambda>" q params body scope cl pm cv ctv) ⟨[], []⟩ = pure [])
    (hbody : ∀ (A : Around) (outer : List Env) (s : Shared) (H : Hp) (E : XK) (f c2 : Addr), RoomG k (A.deeper (lamEnv X scope s.heap.objs.size f c2)) → PE (lamCx X A outer s H E scope f c2) body (t E))
    (hdb : (x == ("__debug__" : Str)) = false := by decide) : PE X (.Call (.Name x p) [.Lambda params body scope lpos] [] pos) (tLam T (TCau X.K CS) t) := ⟨fun pins s σ H Q I ⟨hT, h⟩ => by
  refine wpAny_Call_Name_kw (ld_glob I hg hm ?_ hdb)
  refine PySem.W.callWith_K (h₀ := X.base) I.ok.mod.kin hk ?_ (by rfl) (by rfl)
  refine Calls.spliced_cons (lam_make2 I TB hcode hmT hu hT hdef (L.has I.ok) fun f c2 pm2 ctv H1 s1 I1 eN T1 gf hfn hfr hco => Calls.spliced_nil ⟨I1.kIn, ?_⟩)
  have q1 := h H1 eN T1
  have rc : codeAny (model X.prog X.w) X.A (.call (.ref g) ⟨[.ref f], []⟩) (CR CX0 X.stack X.prog X.w H1 s1 Q L2.E0) s1 := by
    refine run_ofS (N := cauN) (ps := ["look"]) (us := [.ref f]) (vs := [.ref f]) lk hcg Sg hr.room I1.env0 (hb s1 [.ref f] I1.kIn rfl) (.cons rfl .nil) rfl fun hr2 => ?_
    have hrG : RoomG (k + 1) (X.A.deeper (envOfC x sg s1.heap.objs.size g cdv)) := hr.deeper _
    have nd : cauN.Nodup := by decide
    refine ⟨_, (pss_cons (ps_asg (X := (cxOf CX0 X.prog X.w X.K X.mg X.base cauN x sg g cdv X.A X.stack s1 H1 L2.E0).nox) (pe_tup (pa_cons pe_non (pa_cons pe_non pa_nil))) (pg_tup rfl (pgs_cons (pg_name (i := 1) nd rfl (.inl l1)) (pgs_cons (pg_name (i := 2) nd rfl (.inl l2)) pgs_nil))) rfl (hw _)) (pss_cons (ps_hold (X := (cxOf CX0 X.prog X.w X.K X.mg X.base cauN x sg g cdv X.A X.stack s1 H1 L2.E0).nox) (c := .ref CS) (i := 3) rfl rfl rfl nd rfl l3 ⟨l4, hdx, .inl hex⟩
      (fun W pn xe tk _ => pss_one (ps_set (i := 2) nd rfl (.inl l2) (lam_act (CXg := CX0) (Eg := L2.E0) (k := k) (i := 0) I1 L gf hfn hfr (hbind _ _ _ _ _) tk hrG (fun A outer s H E hr3 => hbody A outer s H E f c2 hr3) rfl (.inl l0) (by decide) (by decide))))
      (fun a oe cls d pn _ _ => pss_one (ps_set (i := 1) nd rfl (.inl l1) (pe_var (i := 3) rfl (.inl l3)))))
      (pss_one (ps_ret (pe_tup (pa_cons (pe_var (i := 1) rfl (.inl l1)) (pa_cons (pe_var (i := 2) rfl (.inl l2)) pa_nil))))))).nox, ?_⟩
    refine ⟨by show 2 ≤ sizeLine; decide, fun T0 hT0 => ⟨T0, [.non, .non], rfl, .of upd_same, rfl, .non, [.non], rfl, .non, [], rfl, rfl, ?_⟩⟩
    refine ⟨rfl, ?_, ?_⟩
    · rw [upd_ne (ne_of_none hco hT0)]; exact hco
    refine q1 _ _ _ (same_new hT0) (fun cls d H2 e hq => ⟨e, fun a na => ⟨.ref a, rfl, fun oe o1 o2 o3 => ?_⟩⟩) fun v H2 hq => ?_
    · exact ⟨.ref a, rfl, .non, rfl, by show 2 ≤ sizeLine; decide, fun p hp => hq a oe na o1 o2 o3 p hp⟩
    · exact ⟨.non, rfl, v, rfl, by show 2 ≤ sizeLine; decide, fun p hp => hq p hp⟩
  refine wpAny_call (codeAny_mono rc fun r s2 hq => ?_)
  cases r with
  | error e => exact (show False from hq).elim
  | ok fl => cases fl with
    | ret u => exact I1.after hq
    | next => exact hq.elim
    | brk => exact hq.elim
    | cont => exact hq.elim⟩
end
end DL
set_option Elab.async false
set_option linter.all false
set_option maxRecDepth 100000
set_option maxHeartbeats 2000000
/-! DLX3: what is caught, by data. -/
namespace DL
open PySem PySem.Spec L2 LamX
open PyProof.Rows hiding St

/-! ### the lambda's body: f(x, ..), f a def that may raise -/
section
variable (K : PySem.W.Frag) (W0 : World) (mg : Str → Option Value) (H0 : HT) (io : Option Addr) (E : XK)
def DenX (t : TE) (R : En → Option (Rs × En)) : Prop := ∀ (σ : L2.St) (H : Hp) (ρ : En) (r : Rs) (ρ' : En), SR K W0 H0 io σ H ρ → R ρ = some (r, ρ') → ∀ Q : VK, (match r with
  | .ok d => ∀ v H', SR K W0 H0 io σ H' ρ' → Stay H H' → Dz K W0 H' v d → Q v H'
  | .er c d => ∀ (C dx : Addr) (v : V) (H' : Hp), mg c = some (.ref C) → SR K W0 H0 io σ H' ρ' → Stay H H' → H0 dx = none → H' dx = some (.xd [("value", v)]) → Dz K W0 H' v d → E (.ref C) (some dx) H') → t σ H Q
end
structure LM (X : Cx) (H0 : HT) (io : Option Addr) (E : XK) (e : Expr) (t : TE) (R : En → Option (Rs × En)) : Prop where
  pe : PE X e t
  dn : DenX X.K X.w X.mg H0 io E t R
def rCall (f : List PyData → Option Rs) (A : DFL) : En → Option (Rs × En) := fun ρ => (A ρ).bind fun p => (f p.1).map fun r => (r, p.2)
section
variable {X : Cx} {H0 : HT} {io : Option Addr} {E : XK} {a e : Expr} {es : List Expr} {t te : TE} {ts : TA} {F : DF} {A : DFL} {pos : Pos}
theorem lm_call {x : Str} {p : Pos} {j k : Nat} {f : List PyData → Option Rs} (G : XOk X.prog X.w X.K X.mg X.base x j f) (tk : Takes X fun cls d _ H => E cls d H) (hr : RoomG k X.A) (ha : AM X H0 io (a :: es) ts A) (hk : j ≤ k := by decide) (hg : Gl X x := by rfl)
    (hdb : (x == ("__debug__" : Str)) = false := by decide) (he : starEach (a :: es) X.env = (false, eval a X.env) :: starEach es X.env := by rfl) (hpl : (backTo pos (starEach es X.env)).any (·.1) = false := by rfl) :
    LM X H0 io E (.Call (.Name x p) (a :: es) [] pos) (tCall (spX X.K X.w X.mg f) [] E ts) (rCall f A) := by
  obtain ⟨CX, fa, fd, ps, c, Fg, hm, kp, hb⟩ := G
  have hx : Passes CX X E := by
    rcases c with rfl | rfl
    · exact pass0
    · exact passes_call tk fun _ _ _ _ z => z
  refine ⟨pe_callG Fg (hr.mono hk) hg hm kp hb hx ha.pa hdb he hpl, fun σ H ρ r ρ' R g Q q => ?_⟩
  unfold rCall at g
  cases fa : A ρ with
  | none => rw [fa] at g; cases g
  | some x =>
    obtain ⟨ds, ρ1⟩ := x
    rw [fa] at g
    simp only [Option.bind_some] at g
    cases fz : f ds with
    | none => rw [fz] at g; cases g
    | some z =>
      rw [fz] at g
      cases g
      refine ha.dn σ H ρ _ _ R fa _ fun vs H1 R1 s1 z1 => ?_
      refine ⟨ds, r, by rw [List.append_nil]; exact z1, fz, ?_⟩
      cases r with
      | ok d => exact fun v H2 sm z2 => q v H2 (R1.same sm) (s1.trans (.of sm)) z2
      | er c d =>
        intro C dx v H2 hm sm n1 hx z2
        refine q C dx v H2 hm (R1.same sm) (s1.trans (.of sm)) ?_ hx z2
        cases e : H0 dx with
        | none => rfl
        | some o =>
          have := R1.keep dx o e fun z => by
            obtain ⟨o2, e2, _⟩ := R1.ioh dx z
            rw [n1] at e2; cases e2
          rw [n1] at this; cases this

/-! ### an error's dict stands still, too -/
def FzX (Q : VK) : VK := fun v H => Q v H ∨ ∃ (dx : Addr) (y : V), H dx = some (.xd [("value", y)]) ∧ ∀ (od : Obj) (w : Value), PySem.W.lookIn "value" od = some (some w) → RelV y w → Q v (upd H dx (.frz od (.xd [("value", y)])))
/-- what is told of an object is told otherwise -/
theorem inv_retold {pins : List (Addr × Obj)} {σ : L2.St} {H : Hp} {s : Shared} {a : Addr} {fs : List (Str × V)} {o : HO} (I : Inv X pins σ H s) (h : H a = some (.xd fs)) (ok : ObjOk X.prog X.w (upd H a o) s.heap a o) : Inv X pins σ (upd H a o) s := by
  have nn : ∀ b, H b = none → b ≠ a := fun b e z => by rw [z, h] at e; cases e
  have nt : ∀ b u, H b = some u → u ≠ .xd fs → upd H a o b = some u := fun b u e n => by rw [upd_ne fun z => n (by rw [z, h] at e; exact (Option.some.inj e).symm)]; exact e
  refine ⟨I.ok, I.os, I.bare, ⟨I.base.keep, I.base.slot, fun b u e n hx => by rw [upd_ne (nn b (I.base.free b u e n hx))]; exact I.base.free b u e n hx, I.base.there, fun b xs e => nt _ _ (I.base.tups b xs e) (by intro z; cases z), fun b u v e => nt _ _ (I.base.frzs b u v e) (by intro z; cases z), fun b ps e => let ⟨m, q⟩ := I.base.tbls b ps e; ⟨m, nt _ _ q (by intro z; cases z)⟩⟩,
    I.loc, I.cell, by rw [upd_ne (nn _ I.free)]; exact I.free, fun x c e => by rw [upd_ne (nn _ (I.freeC x c e))]; exact I.freeC x c e, fun p hp => let ⟨e1, e2, e3⟩ := I.pin p hp; ⟨e1, by rw [upd_ne (nn _ e2)]; exact e2, e3⟩, fun b u e => ?_, I.len⟩
  by_cases hb : b = a
  · subst hb
    rw [upd_same] at e
    cases e
    exact ok
  · rw [upd_ne hb] at e
    exact (I.hok b u e).stay (fun _ _ _ z => z) (fun c z => nt _ _ z (by intro y; cases y)) fun c xs z => nt _ _ z (by intro y; cases y)
theorem ep_fzx {pins : List (Addr × Obj)} {σ : L2.St} {Q : VK} {u : Value} {s : Shared} (h : EP X pins σ (FzX Q) u s) : EP X pins σ Q u s := by
  obtain ⟨v, H, I, r, q | ⟨dx, y, hd, q⟩⟩ := h
  · exact ⟨v, H, I, r, q⟩
  · obtain ⟨mA, hns, hrel⟩ := I.hok dx _ hd
    obtain ⟨od, ho, hl⟩ := lookIn_ns hns
    have e1 := hrel "value"
    cases em : mA "value" with
    | none =>
      rw [em] at e1
      exact (show False from e1).elim
    | some w =>
      rw [em] at e1
      refine ⟨v, _, inv_retold (o := .frz od (.xd [("value", y)])) I hd ⟨ho, mA, hns, hrel⟩, r, q od w ?_ e1⟩
      rw [hl, em]
def tFz (t : TE) : TE := fun σ H Q => t σ H (FzX Q)
theorem pe_fz (h : PE X e t) : PE X e (tFz t) := ⟨fun pins s σ H Q I q => thn (h.run pins s σ H _ I q) fun _ _ z => ep_fzx z⟩
theorem SR.fzx {K : PySem.W.Frag} {W0 : World} {σ : L2.St} {H : Hp} {ρ : En} {dx : Addr} {od : Obj} {fs : List (Str × V)} (R : SR K W0 H0 io σ H ρ) (hd : H dx = some (.xd fs)) (h0 : H0 dx = none) : SR K W0 H0 io σ (upd H dx (.frz od (.xd fs))) ρ ∧ Stay H (upd H dx (.frz od (.xd fs))) := by
  have st : Stay H (upd H dx (.frz od (.xd fs))) := ⟨fun a ys e => by rw [upd_ne (ne_of e hd (by intro z; cases z))]; exact e, fun a o v e => by rw [upd_ne (ne_of e hd (by intro z; cases z))]; exact e⟩
  refine ⟨⟨R.len, fun b o e n => ?_, fun i d q => let ⟨v, a, z⟩ := R.dat i d q; ⟨v, a, z.mono st⟩, fun i ds q => ?_, R.dst, R.iop, fun p h => ?_, fun q hq => ?_, R.nt⟩, st⟩
  · have hb : b ≠ dx := ne_of_none e h0
    rw [upd_ne hb]; exact R.keep b o e n
  · obtain ⟨p, vs, a, b, c, d⟩ := R.own i ds q
    exact ⟨p, vs, a, by rw [upd_ne (ne_of b hd (by intro z; cases z))]; exact b, c.mono st, d⟩
  · by_cases hb : p = dx
    · subst hb; exact ⟨_, upd_same, fun _ z => by cases z⟩
    · rw [upd_ne hb]; exact R.ioh p h
  · obtain ⟨ps, h1, h2, h3⟩ := R.tb q hq
    refine ⟨ps, by rw [upd_ne (ne_of h1 hd (by intro z; cases z))]; exact h1, h2, fun pos cv hc => ?_⟩
    obtain ⟨c, e1, e2⟩ := h3 pos cv hc
    exact ⟨c, e1, by rw [upd_ne (ne_of e2 hd (by intro z; unfold LamX.CodeO at z; cases z))]; exact e2⟩

/-! ### f(lambda: e) -/
def dCau (cs : List Str) (R : En → Option (Rs × En)) : DF := fun ρ => (R ρ).bind fun p => match p.1 with
  | .ok d => some (.tuple [.none, d], p.2)
  | .er c d => if c ∈ cs then some (.tuple [excD c d, .none], p.2) else none
/-- the error classes cs under the class at CS -/
def CauC (K : PySem.W.Frag) (mg : Str → Option Value) (CS : Addr) (cs : List Str) : Prop := ∀ c ∈ cs, ∀ C, mg c = some (.ref C) → PySem.W.nsIn K mainGlobals c = some (some (.ref C)) ∧ PySem.W.exmOne K (.ref C) (.ref CS) = some true
theorem pm_cau {t : XK → TE} {CS : Addr} {cs : List Str} {R : En → Option (Rs × En)} (hp : PE X e (tLam H0.tabs (TCau X.K CS) t)) (hT : H0.tabs ≠ []) (hc : CauC X.K X.mg CS cs) (hd : ∀ E, DenX X.K X.w X.mg H0 io E (t E) R) : PM X H0 io e (tFz (tLam H0.tabs (TCau X.K CS) t)) (dCau cs R) := ⟨pe_fz hp, fun σ H ρ d ρ' SRr g Q q => by
  unfold dCau at g
  cases fa : R ρ with
  | none => rw [fa] at g; cases g
  | some x =>
    obtain ⟨r, ρ1⟩ := x
    rw [fa] at g
    simp only [Option.bind_some] at g
    refine ⟨SRr.tb, fun H1 eN T1 H2 E Q2 sm hE hQ => ?_⟩
    have st1 : Stay H H1 := ⟨fun a xs h => eN _ _ h fun _ z => (by cases z), fun a o u h => eN _ _ h fun _ z => (by cases z)⟩
    have R2 := (SRr.ext hT eN T1).same sm
    have s2 : Stay H H2 := st1.trans (.of sm)
    refine hd E σ H2 ρ r ρ1 R2 fa Q2 ?_
    cases r with
    | ok z =>
      cases g
      refine fun v H3 R3 s3 z3 => hQ v H3 fun p hp => .inl ?_
      have sm2 := same_new (o := .tup [.non, v]) hp
      exact q _ _ (R3.same sm2) ((s2.trans s3).trans (.of sm2)) (.tup (.of upd_same) (.cons .non (.cons (z3.mono (.of sm2)) .nil)))
    | er c z =>
      simp only at g
      split at g
      · rename_i hcs
        cases g
        intro C dx v H3 hm R3 s3 n0 hx z3
        obtain ⟨e1, e2⟩ := hc c hcs C hm
        refine hE (.ref C) (some dx) H3 e2 fun a oe na o1 o2 o3 p hp => .inr ⟨dx, v, ?_, fun od w l rw' => ?_⟩
        · have nda : dx ≠ a := ne_of_none hx na
          have hx2 : upd H3 a (heldO oe) dx = some (.xd [("value", v)]) := by rw [upd_ne nda]; exact hx
          rw [upd_ne (ne_of_none hx2 hp)]
          exact hx2
        · have nda : dx ≠ a := ne_of_none hx na
          have sA : Same H3 (upd H3 a (heldO oe)) := same_new na
          have sB := same_new (o := .tup [.ref a, .non]) hp
          have hx2 : upd (upd H3 a (heldO oe)) p (.tup [.ref a, .non]) dx = some (.xd [("value", v)]) := sB _ _ (sA _ _ hx)
          obtain ⟨R5, s5⟩ := SR.fzx (od := od) ((R3.same sA).same sB) hx2 n0
          have hpd : p ≠ dx := fun z => by rw [z, sA _ _ hx] at hp; cases hp
          have hap : a ≠ p := fun z => by rw [← z, upd_same] at hp; cases hp
          have sAll : Stay H3 (upd (upd (upd H3 a (heldO oe)) p (.tup [.ref a, .non])) dx (.frz od (.xd [("value", v)]))) := ((Stay.of sA).trans (.of sB)).trans s5
          refine q _ _ R5 ((s2.trans s3).trans sAll) (.tup (.of ?_) (.cons (.exc (a := a) (dx := dx) (oe := oe) (od := od) (u := .ext fun _ => True) ?_ o1 o2 o3 upd_same l e1 rw' (z3.mono sAll)) (.cons .non .nil)))
          · rw [upd_ne hpd, upd_same]
          · rw [upd_ne (Ne.symm nda), upd_ne hap, upd_same]
      · cases g⟩

/-! ### isinstance(e, X), e.value of what is held -/
/-- the class at C lets its instances' fields be read, and says isinstance -/
structure HeldC (K : PySem.W.Frag) (C : Addr) : Prop where
  xf : XfC K C
  cl : (PySem.W.clsIn K C).isSome = true
  val : PySem.W.findIn K (.ref C) "value" = some none
  ca : PySem.W.findIn K (.ref C) "__class__" = some (some (.builtin "object.__class__"))
  ob : PySem.W.mroIn K C (.type "object") = some true
/-- .. of all classes -/
structure ClsG (K : PySem.W.Frag) : Prop where
  hn : PySem.W.specialIn K (.builtin "object.__class__") "__get__" = some (some (.builtin "getset_descriptor.__get__"))
  ht : PySem.W.takesIn K (.builtin "object.__class__") = some true
/-- an error of the class named c, or None: is it of the class at D -/
def IsxC (K : PySem.W.Frag) (D : Addr) (tab : List (Str × Bool)) : Prop := PySem.W.kitOne K (.type "NoneType") (.ref D) = some false ∧ ∀ p ∈ tab, ∃ C, PySem.W.nsIn K mainGlobals p.1 = some (some (.ref C)) ∧ HeldC K C ∧ PySem.W.kitOne K (.ref C) (.ref D) = some p.2
def isxD (tab : List (Str × Bool)) : PyData → Option PyData
  | .none => some (.bool false)
  | .dict [(.list [], .str c), (.none, _)] => (tab.lookup c).map .bool
  | _ => none
def rIsX (K : PySem.W.Frag) (W0 : World) (D : Addr) (tab : List (Str × Bool)) : List V → Hp → VK → Prop := fun xs H Q => ∃ x d z, xs = [x, .ref D] ∧ Vw K W0 H x d ∧ isxD tab d = some z ∧ ∀ v H', Same H H' → Dz K W0 H' v z → Q v H'
theorem lookup_mem {c : Str} {b : Bool} : ∀ {tab : List (Str × Bool)}, tab.lookup c = some b → (c, b) ∈ tab
  | (k, v) :: r, h => by
    unfold List.lookup at h
    split at h
    · rename_i e
      have := eq_of_beq e
      cases h
      subst this
      exact List.mem_cons_self
    · exact List.mem_cons_of_mem _ (lookup_mem h)
theorem no_list_key {K : PySem.W.Frag} {W0 : World} {H : Hp} {xs : List PyData} {d : PyData} {kvs : List (PyData × PyData)} : ∀ {es : List DictEntry}, DzKv K W0 H es ((.list xs, d) :: kvs) → False
  | _, .cons _ _ _ _ _ o _ => by simp [keyOk] at o
theorem exc_at {pins : List (Addr × Obj)} {σ : L2.St} {H : Hp} {s : Shared} {v : V} {c : Str} {d : PyData} (I : Inv X pins σ H s) (h : Dz X.K X.w H v (excD c d)) : ∃ (a C : Addr) (oe od : Obj) (y : V) (w : Value), v = .ref a ∧ PySem.W.nsIn X.K mainGlobals c = some (some (.ref C)) ∧ PySem.W.InstAt s.heap a oe C (some od) ∧ PySem.W.lookIn "value" od = some (some w) ∧ RelV y w ∧ Dz X.K X.w H y d := by
  unfold excD at h
  cases h with
  | dct h1 h2 h3 h4 h5 h6 =>
    exact (no_list_key h6).elim
  | exc h1 h2 h3 h4 h5 h6 h7 h8 h9 =>
    obtain ⟨e1, _⟩ := I.hok _ _ h1
    obtain ⟨e2, _⟩ := I.hok _ _ h5
    obtain ⟨vs, hv⟩ := h4
    exact ⟨_, _, _, _, _, _, rfl, h7, ⟨e1, h2, by unfold PySem.W.notCls; rw [hv], by rw [h3]; exact e2⟩, h6, h8, h9⟩
end
end DL
set_option Elab.async false
set_option linter.all false
set_option maxRecDepth 100000
set_option maxHeartbeats 1000000
/-! DLX4: isinstance(e, X) and e.value, of an exception that is held. -/
namespace DL
open PySem PySem.Spec L2
open PyProof.Rows hiding St
section
variable {X : Cx}
theorem Vw.dict {K : PySem.W.Frag} {W0 : World} {H : Hp} {v : V} {kvs : List (PyData × PyData)} (h : Vw K W0 H v (.dict kvs)) : Dz K W0 H v (.dict kvs) := by
  rcases h with h | ⟨_, _, _, _, e, _⟩
  · exact h
  · cases e
theorem cD_isx {D : Addr} {tab : List (Str × Bool)} (G : ClsG X.K) (T : IsxC X.K D tab) : CallR X (.builtin "isinstance") (rIsX X.K X.w D tab) := by
  intro pins s σ H xs us Q I r hyp
  obtain ⟨x, d, z, rfl, hd, hz, q⟩ := hyp
  obtain ⟨u1, u2, rfl, r1, r2⟩ := vals2 r
  cases (show u2 = Value.ref D from r2)
  unfold isxD at hz
  split at hz
  · cases hz
    cases hd.non
    cases (show u1 = Value.none from r1)
    exact PySem.W.kia_one PySem.W.kitx_none I.kIn True.intro T.1 (fun z => nomatch z) fun tk => ⟨.bl _, H, I.tok tk, rfl, q _ H (Same.refl H) (.bl _)⟩
  · rename_i c e
    obtain ⟨b, hb, rfl⟩ := Option.map_eq_some_iff.mp hz
    obtain ⟨C, h1, h2, h3⟩ := T.2 _ (lookup_mem hb)
    obtain ⟨a, C', oe, od, y, w, rfl, e1, e2, e3, e4, e5⟩ := exc_at I hd.dict
    cases (show u1 = Value.ref a from r1)
    have eC : C' = C := by
      have := e1.symm.trans h1
      cases this
      rfl
    subst eC
    exact PySem.W.kia_one (PySem.W.kitx_exc h2.cl h2.xf.ga h2.xf.gg h2.xf.exC h2.ca G.hn G.ht h2.ob) I.kIn e2 h3 (fun z => nomatch z) fun tk => ⟨.bl _, H, I.tok tk, rfl, q _ H (Same.refl H) (.bl _)⟩
  · cases hz
end
section
variable {X : Cx} {H0 : HT} {io : Option Addr} {a : Expr} {ta : TE} {F : DF} {pos : Pos}
theorem den_isx {K : PySem.W.Frag} {W0 : World} {D : Addr} {tab : List (Str × Bool)} (h : DenV K W0 H0 io ta F) : Den K W0 H0 io (tCB (rIsX K W0 D tab) (tCons ta (tCons (tC (.ref D)) tNil))) (dUn (isxD tab) F) := fun σ H ρ d ρ' R g Q q => by
  unfold dUn at g
  cases fa : F ρ with
  | none => rw [fa] at g; cases g
  | some p =>
    obtain ⟨x, ρ1⟩ := p
    rw [fa] at g
    simp only [Option.bind_some] at g
    cases fz : isxD tab x with
    | none => rw [fz] at g; cases g
    | some z =>
      rw [fz] at g
      cases g
      refine h σ H ρ _ _ R fa _ fun v H1 R1 s1 z1 => ?_
      exact ⟨v, x, _, rfl, z1, fz, fun r H3 sm z3 => q r H3 (R1.same sm) (s1.trans (.of sm)) z3⟩
theorem pm_isx {x : Str} {D : Addr} {tab : List (Str × Bool)} {p p2 : Pos} (G : ClsG X.K) (T : IsxC X.K D tab) (ha : PV X H0 io a ta F) (hm : X.mg "isinstance" = none) (hm2 : X.mg x = some (.ref D)) (hg : Gl X "isinstance" := by rfl) (hg2 : Gl X x := by rfl) (hdb : (x == ("__debug__" : Str)) = false := by decide)
    (he : starEach (a :: [.Name x p2]) X.env = (false, eval a X.env) :: starEach [.Name x p2] X.env := by rfl) (he2 : starEach [.Name x p2] X.env = (false, eval (.Name x p2) X.env) :: starEach [] X.env := by rfl) (hpl : (backTo pos (starEach [.Name x p2] X.env)).any (·.1) = false := by rfl) :
    PM X H0 io (.Call (.Name "isinstance" p) [a, .Name x p2] [] pos) (tCB (rIsX X.K X.w D tab) (tCons ta (tCons (tC (.ref D)) tNil))) (dUn (isxD tab) F) :=
  ⟨pe_callB (cD_isx G T) hg hm (by decide +kernel) (pa_cons ha.pe (pa_cons (pe_glob hg2 hm2 rfl hdb) pa_nil he2) he) (by decide) (by decide) he hpl, den_isx ha.dn⟩

/-! ### e.value -/
def valD (cs : List Str) : PyData → Option PyData
  | .dict [(.list [], .str c), (.none, d)] => if c ∈ cs then some d else none
  | _ => none
def ValC (K : PySem.W.Frag) (cs : List Str) : Prop := ∀ c ∈ cs, ∃ C, PySem.W.nsIn K mainGlobals c = some (some (.ref C)) ∧ HeldC K C
def tValX (K : PySem.W.Frag) (W0 : World) (cs : List Str) (ta : TE) : TE := fun σ H Q => ta σ H fun x H1 => ∃ c d, c ∈ cs ∧ Dz K W0 H1 x (excD c d) ∧ ∀ v, Dz K W0 H1 v d → Q v H1
theorem pe_valX {cs : List Str} (C : ValC X.K cs) (he : PE X a ta) (hb : attributeBase a "value" X.env (eval a X.env) = eval a X.env) : PE X (.Attribute a "value" pos) (tValX X.K X.w cs ta) := by
  refine ⟨fun pins s σ H Q I h => ?_⟩
  refine attr_of hb (thn (he.run pins s σ H _ I h) fun u s1 ⟨x, H1, I1, rx, c, d, hc, hz, q⟩ => ?_)
  obtain ⟨a, C', oe, od, y, w, rfl, e1, e2, e3, e4, e5⟩ := exc_at I1 hz
  obtain rfl : u = Value.ref a := rx
  obtain ⟨C1, h1, h2⟩ := C c hc
  have eC : C' = C1 := by
    have := e1.symm.trans h1
    cases this
    rfl
  subst eC
  exact PySem.HandSPX.exc_get I1.kIn e2 h2.xf.ga h2.xf.gg h2.xf.exC (PySem.W.findObj_own h2.xf.hdC h2.val rfl e3) (handed_of e4) ⟨y, H1, I1.tok _, e4, q y e5⟩
theorem den_valX {K : PySem.W.Frag} {W0 : World} {cs : List Str} (h : DenV K W0 H0 io ta F) : Den K W0 H0 io (tValX K W0 cs ta) (dUn (valD cs) F) := fun σ H ρ d ρ' R g Q q => by
  unfold dUn at g
  cases fa : F ρ with
  | none => rw [fa] at g; cases g
  | some p =>
    obtain ⟨x, ρ1⟩ := p
    rw [fa] at g
    simp only [Option.bind_some] at g
    cases fz : valD cs x with
    | none => rw [fz] at g; cases g
    | some z =>
      rw [fz] at g
      cases g
      refine h σ H ρ _ _ R fa _ fun v H1 R1 s1 z1 => ?_
      unfold valD at fz
      split at fz
      · rename_i c e
        split at fz
        · rename_i hc
          cases fz
          exact ⟨c, _, hc, z1.dict, fun r z3 => q r H1 R1 s1 z3⟩
        · cases fz
      · cases fz
theorem pm_valX {cs : List Str} (C : ValC X.K cs) (ha : PV X H0 io a ta F) (hb : attributeBase a "value" X.env (eval a X.env) = eval a X.env := by rfl) : PM X H0 io (.Attribute a "value" pos) (tValX X.K X.w cs ta) (dUn (valD cs) F) :=
  ⟨pe_valX C ha.pe hb, den_valX ha.dn⟩
end
end DL
set_option Elab.async false
set_option linter.all false
set_option maxRecDepth 100000
set_option maxHeartbeats 1000000
/-! DLY: displays of dicts, of none and of one constant pair. -/
namespace DL
open PySem PySem.Spec L2
open PyProof.Rows hiding St
/-- what comes is a dict that nothing else holds: it stands still for ever -/
def FrDQ (P : Program) (w : World) (Q : VK) : VK := fun v H => ∃ a kvs, v = .ref a ∧ H a = some (.dK kvs) ∧ ∀ o (es : Array DictEntry) (ep : Nat) vs, o.ExactDict → o.data = .dict es ep → (a == sysModules) = false → KV kvs vs → KeysOf (mixKind P w) es → Pairs (mixKind P w) es.toList vs → Q v (upd H a (.frz o (.ext fun _ => True)))
theorem ep_freezeD {X : Cx} {pins : List (Addr × Obj)} {σ : St} {Q : VK} {u : Value} {s : Shared} (h : EP X pins σ (FrDQ X.prog X.w Q) u s) : EP X pins σ Q u s := by
  obtain ⟨v, H, I, r, a, xs, rfl, e, q⟩ := h
  obtain ⟨z, hd, vs, r0, o, es, ep, e1, e2, e3, e4, e5, e6⟩ := dk_of I.hok e
  refine ⟨_, _, ?_, r, q o es ep vs e2 e3 hd r0 e4 e5⟩
  exact I.write (x := a) (e := a) (h' := s.heap) (t' := s.toks) (by rw [e]; trivial) (.inl rfl) (fun _ _ _ q => q) ⟨_, e1⟩ ⟨e1, trivial, ⟨o, e1⟩, fun _ _ _ _ => trivial⟩
def tFrD (P : Program) (w : World) (t : TE) : TE := fun σ H Q => t σ H (FrDQ P w Q)
theorem pe_frD {X : Cx} {e : Expr} {t : TE} (h : PE X e t) : PE X e (tFrD X.prog X.w t) := ⟨fun pins s σ H Q I q => thn (h.run pins s σ H _ I q) fun _ _ z => ep_freezeD z⟩
theorem upd_upd' {H : Hp} {p : Addr} {a b : HO} : upd (upd H p a) p b = upd H p b := by
  funext x
  by_cases e : x = p
  · subst e; rw [upd_same, upd_same]
  · rw [upd_ne e, upd_ne e, upd_ne e]
section
variable {X : Cx} {H0 : HT} {io : Option Addr} {pos : Pos}
theorem pm_dict0 : PM X H0 io (.Dict [] [] pos) (tFrD X.prog X.w tDNewK) (dC (.dict [])) := ⟨pe_frD pe_dnewK, fun σ H ρ d ρ' R g Q q => by
  cases g
  refine fun p hp => ⟨p, [], rfl, upd_same, fun o es ep vs h1 h2 h3 h4 h5 h6 => ?_⟩
  cases h4
  cases he : es.toList with
  | cons a b => rw [he] at h6; cases h6
  | nil =>
    rw [upd_upd']
    refine q _ _ (R.same (same_new hp)) (.of (same_new hp)) (.dct upd_same h1 h2 h3 .nil ?_)
    rw [he]
    exact .nil⟩
theorem pm_dict1 {k : Str} {j : Nat} {e : Expr} {p : Pos} {v : V} {d : PyData} (he : PE X e (tC v)) (hd : ∀ H, Dz X.K X.w H v d) :
    PM X H0 io (.Dict [some (.Constant (.str k) j p)] [e] pos) (tFrD X.prog X.w (tDisp [(tC (.str k), tC v)])) (dC (.dict [(.str k, d)])) := ⟨pe_frD (pe_disp (pps_cons pe_str he pps_nil) rfl rfl (by simp) (by simp)), fun σ H ρ d' ρ' R g Q q => by
  cases g
  refine fun p hp => ⟨upd_same, [(.inr k, v)], rfl, by simp, p, [(.inr k, v)], rfl, upd_same, fun o es ep vs h1 h2 h3 h4 h5 h6 => ?_⟩
  cases h4 with
  | cons a b =>
    cases b
    rename_i q2
    obtain ⟨k2, w2⟩ := q2
    obtain ⟨rfl, rw2⟩ := a
    cases he : es.toList with
    | nil => rw [he] at h6; cases h6
    | cons x r =>
      rw [he] at h6
      cases h6 with
      | cons a1 a2 a3 =>
        cases a3
        obtain ⟨k3, b1, b2⟩ := h5 x (by rw [← Array.mem_toList_iff, he]; exact List.mem_cons_self)
        have a1 : keyIs (.inr k) x.key = true := a1
        rcases keyIs_shape a1 with ⟨_, _, z, _⟩ | ⟨y, t, z, ek⟩
        · cases z
        cases z
        have e3 : k3 = .inr k := by
          have b1 : keyIs k3 x.key = true := b1
          rcases keyIs_shape b1 with ⟨_, _, z, e4⟩ | ⟨y, t', z, e4⟩
          · rw [ek] at e4; cases e4
          · rw [ek] at e4; cases e4; exact z
        subst e3
        rw [upd_upd', upd_upd']
        refine q _ _ (R.same (same_new hp)) (.of (same_new hp)) (.dct upd_same h1 h2 h3 (by simp) ?_)
        rw [he]
        refine .cons (x := .str k) (y := v) ⟨t, ek⟩ (.str k) (by rw [a2]; exact rw2) (hd _) b2 rfl .nil⟩
end
end DL
set_option Elab.async false
set_option linter.all false
set_option maxRecDepth 100000
set_option maxHeartbeats 1000000
/-! DLT: promises of new lists; promises where tables are told of; the law's end with tables. -/
namespace DL
open PySem PySem.Spec L2
open PyProof.Rows hiding St

/-! ### a new list comes back -/
def spL (K : PySem.W.Frag) (W0 : World) (F : List PyData → Option (List PyData)) : Sp := fun vs H Q _ => ∃ ds zs, DzAll K W0 H vs ds ∧ F ds = some zs ∧ ∀ p us H1 H', Same H H1 → H1 p = none → Same H1 H' → H' p = some (.lst us) → DzAll K W0 H' us zs → Q (.ref p) H'
abbrev LOk (P : Program) (w : World) (K : PySem.W.Frag) (mg : Str → Option Value) (base : Heap) (x : Str) (k : Nat) (F : List PyData → Option (List PyData)) : Prop := KOk P w K mg base x k (spL K w F)
section
variable {X : Cx} {H0 : HT} {io : Option Addr} {E : XK} {a e : Expr} {es : List Expr} {t te : TE} {ts : TA} {F : DF} {A : DFL} {pos : Pos}
def lCall (f : List PyData → Option (List PyData)) (A : DFL) : DFL := fun ρ => (A ρ).bind fun p => (f p.1).map fun z => (z, p.2)
theorem pf_call {x : Str} {p : Pos} {j k : Nat} {f : List PyData → Option (List PyData)} (G : LOk X.prog X.w X.K X.mg X.base x j f) (hr : RoomG k X.A) (ha : AM X H0 io (a :: es) ts A) (hk : j ≤ k := by decide) (hg : Gl X x := by rfl)
    (hdb : (x == ("__debug__" : Str)) = false := by decide) (he : starEach (a :: es) X.env = (false, eval a X.env) :: starEach es X.env := by rfl) (hpl : (backTo pos (starEach es X.env)).any (·.1) = false := by rfl) :
    PF X H0 io (.Call (.Name x p) (a :: es) [] pos) (tCall (spL X.K X.w f) [] L2.E0 ts) (lCall f A) := by
  obtain ⟨CX, fa, fd, ps, c, Fg, hm, kp, hb⟩ := G
  refine ⟨pe_callG Fg (hr.mono hk) hg hm kp hb (passC c) ha.pa hdb he hpl, fun σ H ρ d ρ' R g Q q => ?_⟩
  unfold lCall at g
  cases fa : A ρ with
  | none => rw [fa] at g; cases g
  | some x =>
    obtain ⟨ds, ρ1⟩ := x
    rw [fa] at g
    simp only [Option.bind_some] at g
    cases fz : f ds with
    | none => rw [fz] at g; cases g
    | some z =>
      rw [fz] at g
      cases g
      refine ha.dn σ H ρ _ _ R fa _ fun vs H1 R1 s1 z1 => ?_
      exact ⟨ds, _, by rw [List.append_nil]; exact z1, fz, fun p us H2 H3 sm n2 sm2 h3 z3 => q p us H2 H3 (R1.same sm) (s1.trans (.of sm)) n2 sm2 h3 z3⟩
end
section
variable {P : Program} {w : World} {K : PySem.W.Frag} {mg : Str → Option Value} {base : Heap} {x : Str} {st : Stmt} {f : Addr} {fd : FuncData} {N ps : List Str} {k : Nat} {S : DS}
theorem lok_mk {F : List PyData → Option (List PyData)} (Fn : Fun K x x st f fd) (hm : mg x = some (.ref f)) (hb : Binds K fd ps []) (sc : FnScope N ps (defScope st))
    (hbody : ∀ (cdv : Value) (A : Around) (outer : List Env) (s : Shared) (H : Hp) (E : XK), RoomG k (A.deeper (envOfC x (defScope st) s.heap.objs.size f cdv)) → ∃ t, SMs (cxOf CX0 P w K mg base N x (defScope st) f cdv A outer s H E).nox ⟨H, []⟩ none E (defBody st) t S)
    (hF : ∀ ds zs, F ds = some zs → ds.length = ps.length ∧ ∃ ρ, S (en0 N.length ds) = some (.rf zs ρ)) : LOk P w K mg base x (k + 1) F := by
  refine ⟨CX0, f, fd, ps, .inl rfl, okG Fn sc (fun vs H Q E ⟨ds, d, a, e, _⟩ => by rw [a.len]; exact (hF ds d e).1) (fun cdv A outer s H vs Q E hr ⟨ds, d, a, e, q⟩ => ?_), hm, Fn.kp, hb⟩
  obtain ⟨t, B⟩ := hbody cdv A outer s H E hr
  obtain ⟨hl, ρ, ho⟩ := hF ds d e
  refine ⟨t, B.ps, B.dn _ H _ _ (sr_start a) ho _ ?_⟩
  exact fun p us σ' H1 H' R st n sm h z => q p us H1 H' (fun b o e => R.keep b o e (by simp)) n sm h z
end

/-! ### where tables are told of -/
/-- the first argument a list that is written; tables may grow -/
def spIT (T : List (Addr × Str)) (K : PySem.W.Frag) (W0 : World) (F : List PyData → List PyData → Option (PyData × List PyData)) : Sp := fun vs H Q _ => ∃ p ws xv xs ds d xs', vs = .ref p :: ws ∧ LamX.Tabs T H ∧ H p = some (.lst xv) ∧ DzAll K W0 H xv xs ∧ DzAll K W0 H ws ds ∧ F xs ds = some (d, xs') ∧
  ∀ v H' xv', (∀ b o, b ≠ p → H b = some o → (∀ ps, o ≠ .tbl ps) → H' b = some o) → Stay H H' → LamX.Tabs T H' → H' p = some (.lst xv') → DzAll K W0 H' xv' xs' → Dz K W0 H' v d → Q v H'
def spDT (T : List (Addr × Str)) (K : PySem.W.Frag) (W0 : World) (F : List PyData → Option PyData) : Sp := fun vs H Q _ => ∃ ds d, LamX.Tabs T H ∧ DzAll K W0 H vs ds ∧ F ds = some d ∧ ∀ v H', (∀ b o, H b = some o → (∀ ps, o ≠ .tbl ps) → H' b = some o) → Stay H H' → LamX.Tabs T H' → Dz K W0 H' v d → Q v H'
theorem SR.iowT {K : PySem.W.Frag} {W0 : World} {H0 : HT} {io : Option Addr} {H H' : Hp} {σ : L2.St} {ρ : En} {i : Nat} {p : Addr} {ds es : List PyData} {ws : List V} (R : SR K W0 H0 io σ H ρ) (hT : H0.tabs ≠ []) (hi : ρ[i]? = some (.own ds)) (hσ : σ[i]? = some (some (.ref p)))
    (k : ∀ b o, b ≠ p → H b = some o → (∀ ps, o ≠ .tbl ps) → H' b = some o) (st : Stay H H') (tb : LamX.Tabs H0.tabs H') (hp : H' p = some (.lst ws)) (hd : DzAll K W0 H' ws es) : SR K W0 H0 io σ H' (ρ.set i (.own es)) := by
  obtain ⟨p', vs, a, b, c, d⟩ := R.own i ds hi
  rw [hσ] at a; cases a
  have hl : i < ρ.length := (List.getElem?_eq_some_iff.mp hi).1
  refine ⟨by simp [R.len], fun c o e n => ?_, fun j e q => ?_, fun j e q => ?_, fun j k ds' es' q hn q1 q2 e => ?_, R.iop, fun p2 h2 => ?_, tb, R.nt⟩
  · by_cases hc : c = p
    · subst hc
      rcases d with d | d
      · rw [d] at e; cases e
      · exact absurd d n
    · exact k _ _ hc (R.keep c o e n) fun ps z => R.nt hT c ps (by rw [e, z])
  · by_cases hj : i = j
    · subst hj
      rw [List.getElem?_set_self hl] at q
      cases q
    · rw [List.getElem?_set_ne hj] at q
      obtain ⟨w, a, b⟩ := R.dat j e q
      exact ⟨w, a, b.mono st⟩
  · by_cases hj : i = j
    · subst hj
      rw [List.getElem?_set_self hl] at q
      cases q
      exact ⟨p, ws, hσ, hp, hd, d⟩
    · rw [List.getElem?_set_ne hj] at q
      obtain ⟨p', vs', a', b', c', d'⟩ := R.own j e q
      have hne : p' ≠ p := fun z => by
        subst z
        exact R.dst i j _ _ p' hj hi q hσ a'
      exact ⟨p', vs', a', k _ _ hne b' (fun _ z => by cases z), c'.mono st, d'⟩
  · have q1' : ∃ es, ρ[j]? = some (.own es) := by
      by_cases hj : i = j
      · subst hj; exact ⟨_, hi⟩
      · rw [List.getElem?_set_ne hj] at q1; exact ⟨_, q1⟩
    have q2' : ∃ es, ρ[k]? = some (.own es) := by
      by_cases hj : i = k
      · subst hj; exact ⟨_, hi⟩
      · rw [List.getElem?_set_ne hj] at q2; exact ⟨_, q2⟩
    obtain ⟨f1, r1⟩ := q1'
    obtain ⟨f2, r2⟩ := q2'
    exact R.dst j k f1 f2 q hn r1 r2 e
  · by_cases hc : p2 = p
    · subst hc; exact ⟨_, hp, fun _ z => by cases z⟩
    · obtain ⟨o, q, n⟩ := R.ioh p2 h2
      exact ⟨o, k _ _ hc q n, n⟩
section
variable {X : Cx} {H0 : HT} {io : Option Addr} {E : XK} {a e : Expr} {es : List Expr} {t te : TE} {ts : TA} {F : DF} {A : DFL} {pos : Pos}
theorem pm_callIT (i : Nat) {T : List (Addr × Str)} {x y : Str} {p p2 : Pos} {j k : Nat} {f : List PyData → List PyData → Option (PyData × List PyData)} (G : KOk X.prog X.w X.K X.mg X.base x j (spIT T X.K X.w f)) (hr : RoomG k X.A) (hT : H0.tabs = T) (hT0 : T ≠ []) (ha : AM X H0 io es ts A) (hk : j ≤ k := by decide) (hg : Gl X x := by rfl)
    (hN : X.N[i]? = some y := by rfl) (hv : Vis X.env.scope y := by first | exact Or.inl rfl | exact Or.inr (Or.inl rfl) | exact Or.inr (Or.inr rfl)) (hd : (y == ("__debug__" : Str)) = false := by decide)
    (hcd : (y == ("__classdict__" : Str)) = false := by decide)
    (hdb : (x == ("__debug__" : Str)) = false := by decide) (he : starEach (.Name y p2 :: es) X.env = (false, eval (.Name y p2) X.env) :: starEach es X.env := by rfl) (hpl : (backTo pos (starEach es X.env)).any (·.1) = false := by rfl) :
    PM X H0 io (.Call (.Name x p) (.Name y p2 :: es) [] pos) (tCall (spIT T X.K X.w f) [] L2.E0 (tCons (tVar i) ts)) (dCallI f i A) := by
  obtain ⟨CX, fa, fd, ps, c, Fg, hm, kp, hb⟩ := G
  refine ⟨pe_callG Fg (hr.mono hk) hg hm kp hb (passC c) (pa_cons (pe_var hN hv hd hcd) ha.pa he) hdb he hpl, fun σ H ρ d ρ' R g Q q => ?_⟩
  unfold dCallI at g
  cases fo : ownE ρ i with
  | none => rw [fo] at g; cases g
  | some xs0 =>
    rw [fo] at g
    simp only [Option.bind_some] at g
    cases fb : A ρ with
    | none => rw [fb] at g; cases g
    | some p =>
      obtain ⟨ds, ρ1⟩ := p
      rw [fb] at g
      simp only [Option.bind_some] at g
      cases fx : ownE ρ1 i with
      | none => rw [fx] at g; cases g
      | some xs =>
        rw [fx] at g
        simp only [Option.bind_some] at g
        cases fz : f xs ds with
        | none => rw [fz] at g; cases g
        | some z =>
          obtain ⟨z, xs'⟩ := z
          rw [fz] at g
          cases g
          obtain ⟨pp, vs0, h1, _⟩ := R.own i xs0 (ownE_some fo)
          refine ⟨.ref pp, h1, ?_⟩
          refine ha.dn σ H ρ _ _ R fb _ fun vs H1 R1 s1 z1 => ?_
          obtain ⟨pp', xv, h2, h3, h4, h5⟩ := R1.own i xs (ownE_some fx)
          rw [h1] at h2
          cases h2
          refine ⟨pp, vs, xv, xs, ds, z, xs', by rw [List.append_nil], hT ▸ R1.tb, h3, h4, z1, fz, fun v H' xv' k' st tb hp hd hz => ?_⟩
          exact q v H' (R1.iowT (by rw [hT]; exact hT0) (ownE_some fx) h1 k' st (by rw [hT]; exact tb) hp hd) (s1.trans st) hz
end
section
variable {P : Program} {w : World} {K : PySem.W.Frag} {mg : Str → Option Value} {base : Heap} {x : Str} {st : Stmt} {f : Addr} {fd : FuncData} {N ps : List Str} {k : Nat} {S : DS} {T : List (Addr × Str)}
theorem keepT {K : PySem.W.Frag} {W0 : World} {H H' : Hp} {io : Option Addr} {σ : L2.St} {ρ : En} (R : SR K W0 (htOf T H) io σ H' ρ) {b : Addr} {o : HO} (e : H b = some o) (n : ∀ ps, o ≠ .tbl ps) (hb : io ≠ some b) : H' b = some o := R.keep b o (noTbl_keep e n) hb
theorem itok_mk {F : List PyData → List PyData → Option (PyData × List PyData)} (Fn : Fun K x x st f fd) (hm : mg x = some (.ref f)) (hb : Binds K fd ps []) (sc : FnScope N ps (defScope st))
    (hbody : ∀ (cdv : Value) (A : Around) (outer : List Env) (s : Shared) (H : Hp) (E : XK) (p : Addr), RoomG k (A.deeper (envOfC x (defScope st) s.heap.objs.size f cdv)) → ∃ t, SMs (cxOf CX0 P w K mg base N x (defScope st) f cdv A outer s H E).nox (htOf T H) (some p) E (defBody st) t S)
    (hF : ∀ xs ds d xs', F xs ds = some (d, xs') → ds.length + 1 = ps.length ∧ ∃ ρ, S (en1 N.length xs ds) = some (.rt d ρ) ∧ ρ[0]? = some (.own xs')) : KOk P w K mg base x (k + 1) (spIT T K w F) := by
  refine ⟨CX0, f, fd, ps, .inl rfl, okG Fn sc (fun vs H Q E ⟨p, ws, xv, xs, ds, d, xs', h1, _, h2, h3, h4, h5, _⟩ => by subst h1; rw [List.length_cons, h4.len]; exact (hF _ _ _ _ h5).1) (fun cdv A outer s H vs Q E hr ⟨p, ws, xv, xs, ds, d, xs', h1, hT, h2, h3, h4, h5, q⟩ => ?_), hm, Fn.kp, hb⟩
  obtain ⟨t, B⟩ := hbody cdv A outer s H E p hr
  obtain ⟨hl, ρ, ho, h0⟩ := hF _ _ _ _ h5
  subst h1
  have hpl : ps.length ≤ N.length := by
    have := congrArg List.length sc.pre
    rw [List.length_take] at this
    omega
  refine ⟨t, B.ps, B.dn _ H _ _ ((sr_start1 h2 h3 h4 (by rw [h4.len]; omega)).toT hT) ho _ ?_⟩
  exact fun v σ' H' R st z => by
    obtain ⟨p', xv', a, b, c, _⟩ := R.own 0 xs' h0
    have := R.iop p rfl
    rw [this] at a
    cases a
    exact q v H' xv' (fun b o hb e n => keepT R e n (fun z => hb (Option.some.inj z).symm)) st R.tb b c z
theorem dtok_mk {F : List PyData → Option PyData} (Fn : Fun K x x st f fd) (sc : FnScope N ps (defScope st))
    (hbody : ∀ (cdv : Value) (A : Around) (outer : List Env) (s : Shared) (H : Hp) (E : XK), RoomG k (A.deeper (envOfC x (defScope st) s.heap.objs.size f cdv)) → ∃ t, SMs (cxOf CX0 P w K mg base N x (defScope st) f cdv A outer s H E).nox (htOf T H) none E (defBody st) t S)
    (hF : ∀ ds d, F ds = some d → ds.length = ps.length ∧ ∃ o, S (en0 N.length ds) = some o ∧ ends d o) : FnG P w K mg base CX0 (k + 1) f fd ps (spDT T K w F) := by
  refine okG Fn sc (fun vs H Q E ⟨ds, d, _, a, e, _⟩ => by rw [a.len]; exact (hF ds d e).1) (fun cdv A outer s H vs Q E hr ⟨ds, d, hT, a, e, q⟩ => ?_)
  obtain ⟨t, B⟩ := hbody cdv A outer s H E hr
  obtain ⟨hl, o, ho, hend⟩ := hF ds d e
  refine ⟨t, B.ps, B.dn _ H _ o ((sr_start a).toT hT) ho _ ?_⟩
  cases o with
  | rt d' ρ => cases hend; exact fun v σ' H' R st z => q v H' (fun b o e n => keepT R e n (by simp)) st R.tb z
  | nx ρ => cases hend; exact fun σ' H' R st => q .non H' (fun b o e n => keepT R e n (by simp)) st R.tb .non
  | _ => exact hend.elim
end
end DL
set_option Elab.async false
set_option linter.all false
set_option maxRecDepth 100000
set_option maxHeartbeats 1000000
/-! DLE: the law's end, where no repr is under way and tables are told of. -/
namespace DL
open PySem PySem.Spec L2
open PyProof.Rows hiding St

/-- the table of a code object, as it lies at first -/
def tab0 : Obj := { cls := .none, data := .fields #[] }
structure TabsAt (K : PySem.W.Frag) (h : Heap) (cs : List (Addr × Addr)) : Prop where
  at0 : ∀ p ∈ cs, h.get? p.2 = some tab0
  out : ∀ p ∈ cs, K.lookup p.2 = none
  hd : ∀ p ∈ cs, PySem.W.CodeHd h p.1 p.2
/-- the module __main__ reads the built-ins -/
def MainB (h : Heap) (mg : Str → Option Value) : Prop := ∃ (b : Addr) (o : Obj), mg "__builtins__" = some (.ref b) ∧ b ≠ builtinsNs ∧ h.get? b = some o ∧ o.cls = .type "module" ∧ o.dict = some builtinsNs ∧ o.data = .plain
/-- what is tracked as the law is called: the script, if the program does not hold it, and the tables -/
inductive Trk (K : PySem.W.Frag) (cs : List (Addr × Addr)) (a : Addr) : Addr → HO → Prop
  | scr {o : Obj} {xs : List V} : K.lookup a = none → Trk K cs a a (.frz o (.lst xs))
  | tbl {p : Addr × Addr} : p ∈ cs → Trk K cs a p.2 (.tbl #[])
section
variable {P : Program} {w : World} {K : PySem.W.Frag} {mg mb : Str → Option Value} {k : Nat} {fa a : Addr} {cs : List (Addr × Addr)} {fd : FuncData} {x : Str} {sp : Sp} {s1 : Shared} {vs : List Value} {H : Hp}
theorem hid_plain {b : Addr} {o : Obj} (ha : s1.heap.get? a = some { cls := .type "list", data := .seq vs.toArray }) (T : TabsAt K s1.heap cs) (trk : ∀ b u, H b = some u → Trk K cs a b u)
    (e : s1.heap.get? b = some o) (n1 : ∀ v n, o.data ≠ .seq v n) (n2 : o.data ≠ .fields #[]) : (hidT s1.heap H).get? b = some o := hidT_get e (by
  cases q : H b with
  | none => rfl
  | some u =>
    cases trk b u q with
    | scr => rw [ha] at e; cases e; exact absurd rfl (n1 _ _)
    | tbl hp => rw [T.at0 _ hp] at e; cases e; exact absurd rfl n2)
theorem law_core (KX : K.In s1.heap) (gns : s1.heap.Ns mainGlobals mg) (bns : s1.heap.Ns builtinsNs mb) (hbb : ∀ x : Str, x ≠ "__name__" → mb x = bootBuiltins x) (nol : s1.heap.NoLimit) (hg : s1.gens = #[]) (T : TabsAt K s1.heap cs) (hbm : MainB s1.heap mg)
    (ha : s1.heap.get? a = some { cls := .type "list", data := .seq vs.toArray }) (hr : Room k callerA)
    (F : ∀ base : Heap, K.In base → base.Ns mainGlobals mg → (∀ p ∈ cs, LamX.TabB base mg p.1 p.2) → FnG P w K mg base CX0 k fa fd [x] sp) (hbind : ∀ (s : Shared) (u : Value), BindsTo s fd ⟨[u], []⟩ [(x, u)])
    (trk : ∀ b u, H b = some u → Trk K cs a b u) (hok : HOk P w H s1.heap) (tbs : ∀ p ∈ cs, H p.2 = some (.tbl #[])) (hsp : sp [.ref a] H (fun v _ => v = .bl true) L2.E0) :
    codeAny (model P w) callerA (.call (.ref fa) ⟨[.ref a], []⟩) (fun r s2 => r = .ok (.ret (.bool true)) ∧ OldK s1.heap s2.heap ∧ s2.os = s1.os ∧ AllBare s2.gens) s1 := by
  have pl : ∀ {b : Addr} {o : Obj}, s1.heap.get? b = some o → (∀ v n, o.data ≠ .seq v n) → o.data ≠ .fields #[] → (hidT s1.heap H).get? b = some o := hid_plain ha T trk
  have ns1 : ∀ {b : Addr} {m : Str → Option Value}, s1.heap.Ns b m → (hidT s1.heap H).Ns b m := fun {b m} ⟨o, es, ep, e, d, r⟩ => ⟨o, es, ep, pl e (fun _ _ z => by rw [d] at z; cases z) (fun z => by rw [d] at z; cases z), d, r⟩
  have kb : K.In (hidT s1.heap H) := fun b o e => hidT_get (KX b o e) (by
    cases q : H b with
    | none => rfl
    | some u =>
      cases trk b u q with
      | scr z => rw [z] at e; cases e
      | tbl hp => rw [T.out _ hp] at e; cases e)
  have md : Mod K mg (hidT s1.heap H) := ⟨kb, ns1 gns, ⟨mb, ns1 bns, hbb⟩, let ⟨mc, h1, h2⟩ := nol; ⟨mc, ns1 h1, h2⟩⟩
  have tb : ∀ p ∈ cs, LamX.TabB (hidT s1.heap H) mg p.1 p.2 := fun p hp => by
    refine ⟨?_, ?_, fun z => ?_⟩
    · obtain ⟨o, us, q1, q2, q3, q4, q5, q6, q7, e1, r1, r2, r3, r⟩ := T.hd p hp
      refine ⟨o, us, q1, q2, q3, q4, q5, q6, q7, pl e1 (fun _ _ z => by rw [r2] at z; cases z) (fun z => ?_), r1, r2, r3, r⟩
      rw [r2] at z
      cases z
      cases r3
    · obtain ⟨bm, ob, b1, b2, b3, b4, b5, b6⟩ := hbm
      refine ⟨bm, ob, b1, b2, fun z => ?_, fun z => ?_, pl b3 (fun _ _ z => by rw [b6] at z; cases z) (fun z => by rw [b6] at z; cases z), b4, b5, b6⟩
      · obtain ⟨o, es, ep, e, d, _⟩ := gns
        subst z
        rw [e] at b3
        cases b3
        rw [d] at b6
        cases b6
      · subst z
        rw [T.at0 p hp] at b3
        cases b3
        cases b6
    · obtain ⟨o, es, ep, e, d, _⟩ := gns
      rw [z, T.at0 p hp] at e
      cases e
      cases d
  have e0 : Env0 P w K mg (hidT s1.heap H) callerA [] s1 H := ⟨rfl, md, fun b o e => of_hidT e, Nat.le_of_eq (hidT_size _ _), trivial, (fun b z => nomatch z), hok, .of_eq hg⟩
  refine codeAny_mono ((F _ kb (ns1 gns) tb).run callerA [] s1 H ⟨[.ref a], []⟩ [.ref a] [.ref a] _ _ ⟨hr, rfl⟩ e0 (hbind s1 (.ref a)) (.cons rfl .nil) hsp) fun r s2 z => ?_
  cases r with
  | error e => exact z.elim
  | ok fl =>
    cases fl with
    | next => exact z.elim
    | brk => exact z.elim
    | cont => exact z.elim
    | ret u =>
      obtain ⟨v, H2, hos, hba, hun, hok2, rel, q⟩ := z
      cases (show v = .bl true from q)
      obtain rfl : u = Value.bool true := rel
      have old : ∀ b o, s1.heap.get? b = some o → s2.heap.get? b = some o ∨ ∃ p ∈ cs, b = p.2 := fun b o e => by
        cases qb : H b with
        | none => exact .inl (hun.keep b o e qb (fun z => by cases z) (by simp))
        | some u =>
          cases trk b u qb with
          | tbl hp => exact .inr ⟨_, hp, rfl⟩
          | scr _ =>
            obtain ⟨e1, _⟩ := hok a _ qb
            obtain ⟨e2, _⟩ := hok2 a _ (hun.frzs a _ _ qb)
            rw [e] at e1
            cases e1
            exact .inl e2
      have grew : ∀ p ∈ cs, ∃ more : Array Value, s2.heap.get? p.2 = some { cls := .none, data := .fields more } := fun p hp => by
        obtain ⟨more, z⟩ := hun.tbls p.2 #[] (tbs p hp)
        exact ⟨_, hok2 _ _ z⟩
      refine ⟨rfl, ⟨fun b o e => ?_, fun b o e => ?_⟩, hos, hba⟩
      · rcases old b o e with z | ⟨p, hp, rfl⟩
        · exact .inl z
        · obtain ⟨more, hm⟩ := grew p hp
          have h0 := T.at0 p hp
          rw [h0] at e
          cases e
          exact .inr (.inl ⟨((T.hd p hp).tab h0).isCodeTable, rfl, #[], more, rfl, by rw [Array.empty_append]; exact hm⟩)
      · rcases old b o e with z | ⟨p, hp, rfl⟩
        · exact ⟨o, z⟩
        · obtain ⟨more, hm⟩ := grew p hp
          exact ⟨_, hm⟩
/-- the tables, and perhaps the script -/
def tabHp (cs : List (Addr × Addr)) (H : Hp) : Hp := fun b => if b ∈ cs.map (·.2) then some (.tbl #[]) else H b
theorem law_callGT {ns : List Int} (KX : K.In s1.heap) (gns : s1.heap.Ns mainGlobals mg) (bns : s1.heap.Ns builtinsNs mb) (hbb : ∀ x : Str, x ≠ "__name__" → mb x = bootBuiltins x) (nol : s1.heap.NoLimit) (hg : s1.gens = #[]) (T : TabsAt K s1.heap cs) (hbm : MainB s1.heap mg)
    (ha : s1.heap.get? a = some { cls := .type "list", data := .seq vs.toArray }) (hi : IntsAre vs ns) (hl : ns.length ≤ sizeLine) (hr : Room k callerA)
    (F : ∀ base : Heap, K.In base → base.Ns mainGlobals mg → (∀ p ∈ cs, LamX.TabB base mg p.1 p.2) → FnG P w K mg base CX0 k fa fd [x] sp) (hbind : ∀ (s : Shared) (u : Value), BindsTo s fd ⟨[u], []⟩ [(x, u)])
    (hsp : ∀ H : Hp, (∀ p ∈ cs, H p.2 = some (.tbl #[])) → Lz K H a (ns.map V.int) → sp [.ref a] H (fun v _ => v = .bl true) L2.E0) :
    codeAny (model P w) callerA (.call (.ref fa) ⟨[.ref a], []⟩) (fun r s2 => r = .ok (.ret (.bool true)) ∧ OldK s1.heap s2.heap ∧ s2.os = s1.os ∧ AllBare s2.gens) s1 := by
  have rv := vals_ints hi
  have len1 : (ns.map V.int).length ≤ sizeLine := by rw [List.length_map]; exact hl
  have aT : a ∉ cs.map (·.2) := fun z => by
    obtain ⟨p, hp, e⟩ := List.mem_map.mp z
    have := T.at0 p hp
    rw [e, ha] at this
    cases this
  have inT : ∀ p ∈ cs, p.2 ∈ cs.map (·.2) := fun p hp => List.mem_map.mpr ⟨p, hp, rfl⟩
  have go : ∀ H : Hp, (∀ b u, H b = some u → b = a ∧ K.lookup a = none ∧ ∃ o xs, u = .frz o (.lst xs)) → (∀ b u, H b = some u → ObjOk P w (tabHp cs H) s1.heap b u) → Lz K (tabHp cs H) a (ns.map V.int) → codeAny (model P w) callerA (.call (.ref fa) ⟨[.ref a], []⟩) (fun r s2 => r = .ok (.ret (.bool true)) ∧ OldK s1.heap s2.heap ∧ s2.os = s1.os ∧ AllBare s2.gens) s1 := by
    intro H h1 h2 h3
    have tbs : ∀ p ∈ cs, tabHp cs H p.2 = some (.tbl #[]) := fun p hp => if_pos (inT p hp)
    refine law_core KX gns bns hbb nol hg T hbm ha hr F hbind (H := tabHp cs H) (fun b u e => ?_) (fun b u e => ?_) tbs (hsp _ tbs h3)
    · unfold tabHp at e
      split at e
      · rename_i hb
        obtain ⟨p, hp, rfl⟩ := List.mem_map.mp hb
        cases e
        exact .tbl hp
      · obtain ⟨rfl, z, o, xs, rfl⟩ := h1 b u e
        exact .scr z
    · unfold tabHp at e
      split at e
      · rename_i hb
        obtain ⟨p, hp, rfl⟩ := List.mem_map.mp hb
        cases e
        exact T.at0 p hp
      · exact h2 b u e
  cases hk : K.lookup a with
  | some o =>
    have e := KX a o hk
    rw [ha] at e
    cases e
    exact go (fun _ => none) (fun b u z => by cases z) (fun b u z => by cases z) (.inr ⟨vs, _, hk, len1, rv⟩)
  | none =>
    refine go (upd (fun _ => none) a (.frz { cls := .type "list", data := .seq vs.toArray } (.lst (ns.map V.int)))) (fun b u z => ?_) (fun b u z => ?_) (.inl ⟨_, (if_neg aT).trans upd_same⟩)
    · by_cases hb : b = a
      · subst hb
        rw [upd_same] at z
        cases z
        exact ⟨rfl, hk, _, _, rfl⟩
      · rw [upd_ne hb] at z
        cases z
    · by_cases hb : b = a
      · subst hb
        rw [upd_same] at z
        cases z
        exact ⟨ha, len1, vs, _, rv, ha⟩
      · rw [upd_ne hb] at z
        cases z
end
/-- what is known of the law's promise at the head's heap -/
def LawG (l : PySem.W.OpenLaw) (w : World) (K : PySem.W.Frag) (k n : Nat) (x : Str) (mg : Str → Option Value) (fa : Addr) (h : Heap) : Prop :=
  ∃ (fd : FuncData) (cs : List (Addr × Addr)) (sp : Sp), TabsAt K h cs ∧ (∀ (s : Shared) (u : Value), BindsTo s fd ⟨[u], []⟩ [(x, u)]) ∧
    (∀ (H : Hp) (a : Addr) (ns : List Int), ns.length ≤ n → (∀ z ∈ ns, Builtin.Int.intBits z ≤ 1048576) → (∀ p ∈ cs, H p.2 = some (.tbl #[])) → Lz K H a (ns.map V.int) → sp [.ref a] H (fun v _ => v = .bl true) L2.E0) ∧
    ∀ base : Heap, K.In base → base.Ns mainGlobals mg → (∀ p ∈ cs, LamX.TabB base mg p.1 p.2) → FnG l.prog w K mg base CX0 k fa fd [x] sp
/-- the goal that k_head leaves, with tables -/
theorem walkGT {l : PySem.W.OpenLaw} {n k : Nat} {q : Program} {loose : List Str} {XP : (Str → Option Value) → Heap → Prop} {YP : World → Heap → Prop} {d : DefRec} {K : Params → PySem.W.Frag} {x : Str}
    (hn : l.most = some n) (hn2 : n ≤ sizeLine) (hdf : d.params.defaults = []) (hr : Room k callerA) (hY : ∀ (w : World) (h : Heap), YP w h → (K w.params).In h)
    (F : ∀ (w : World) (mg : Str → Option Value) (fa : Addr) (h : Heap), YP w h → (K w.params).In h → h.Ns mainGlobals mg → mg d.name = some (.ref fa) → LawG l w (K w.params) k n x mg fa h) :
    PySem.W.WalkO q loose XP YP l.row.toRowW d [] (fun f vs => PySem.call f vs) := by
  refine Att.attach_callB hn hdf fun w s0 s1 mg mb fa o pm cd doc a vs ns G Y ho hd hcd hmg hobj hints hlen hbits hg => ?_
  obtain ⟨fd, cs, sp, hT, hb, hsp, hF⟩ := F w mg fa _ Y (hY w _ Y) G.T.g hmg
  exact law_callGT (hY w _ Y) G.T.g G.T.b G.T.builtins G.T.nolimit hg hT G.T.bmain hobj hints (Nat.le_trans hlen hn2) hr hF hb fun H h1 h2 => hsp H a ns hlen hbits h1 h2
end DL
set_option Elab.async false
set_option linter.all false
set_option maxRecDepth 100000
set_option maxHeartbeats 1000000
/-! DLZ: what the printed walks lean on: names of the top, blocks, a def's denotation as a function. -/
namespace DL
open PySem PySem.Spec L2
open PyProof.Rows hiding St

/-! ### a name of the top that is data -/
structure GDat (K : PySem.W.Frag) (W0 : World) (mg : Str → Option Value) (x : Str) (d : PyData) : Prop where
  ex : ∃ (v : V) (u : Value), mg x = some u ∧ RelV v u ∧ ∀ H, Dz K W0 H v d
def tG (K : PySem.W.Frag) (W0 : World) (d : PyData) : TE := fun _ H Q => ∀ v, Dz K W0 H v d → Q v H
theorem pm_gd {X : Cx} {H0 : HT} {io : Option Addr} {x : Str} {pos : Pos} {d : PyData} (h : GDat X.K X.w X.mg x d) (hg : Gl X x := by rfl) (hdb : (x == ("__debug__" : Str)) = false := by decide) : PM X H0 io (.Name x pos) (tG X.K X.w d) (dC d) := by
  refine ⟨⟨fun pins s σ H Q I q => ?_⟩, fun σ H ρ d' ρ' R g Q q v z => by cases g; exact q v H R (.refl H) z⟩
  obtain ⟨v, u, hm, r, z⟩ := h.ex
  exact ld_glob I hg hm ⟨v, H, I, r, q v (z H)⟩ hdb

/-! ### blocks of comprehensions -/
def blkB (N : List Str) (sc scope : Scope) (own : List (Str × Nat)) : Bool :=
  decide (scope.kind = .function) && scope.names.all (fun y => decide (scope.names.lookup y.1 = some y.2)) && own.all (fun p => decide (N[p.2]? = some p.1)) &&
  scope.names.all (fun y => !decide (y.2 = .free) || decide (sc.names.lookup y.1 = some .cell) || decide (sc.names.lookup y.1 = some .free)) &&
  scope.names.all (fun y => !(decide (y.2 = .local) || decide (y.2 = .cell)) || (own.map (·.1)).contains y.1 || !N.contains y.1)
theorem blk_ok {N : List Str} {sc scope : Scope} {own : List (Str × Nat)} (h : blkB N sc scope own = true) : BlkOk N sc scope own := by
  unfold blkB at h
  simp only [Bool.and_eq_true, List.all_eq_true, decide_eq_true_eq, Bool.or_eq_true, Bool.not_eq_true', decide_eq_false_iff_not, List.contains_iff_mem] at h
  obtain ⟨⟨⟨⟨h1, h2⟩, h3⟩, h4⟩, h5⟩ := h
  refine ⟨h1, h2, h3, fun y hy e => ?_, fun y hy e => ?_⟩
  · rcases h4 y hy with (z | z) | z
    · exact absurd e z
    · exact .inl z
    · exact .inr z
  · rcases h5 y hy with (z | z) | z
    · rcases e with e | e
      · simp [e] at z
      · simp [e] at z
    · exact .inl z
    · refine .inr fun w => ?_
      rw [List.contains_iff_mem.mpr w] at z
      cases z

/-! ### a def's denotation as a function -/
def runD (n np : Nat) (S : DS) : List PyData → Option PyData := fun ds => if ds.length = np then match S (en0 n ds) with
  | some (.rt d _) => some d
  | some (.nx _) => some .none
  | _ => none else none
def runX (n np : Nat) (S : DS) : List PyData → Option Rs := fun ds => if ds.length = np then match S (en0 n ds) with
  | some (.rt d _) => some (.ok d)
  | some (.nx _) => some (.ok .none)
  | some (.ex c d) => some (.er c d)
  | _ => none else none
def runL (n np : Nat) (S : DS) : List PyData → Option (List PyData) := fun ds => if ds.length = np then match S (en0 n ds) with
  | some (.rf d _) => some d
  | _ => none else none
def runI (n np : Nat) (S : DS) : List PyData → List PyData → Option (PyData × List PyData) := fun xs ds => if ds.length + 1 = np then match S (en1 n xs ds) with
  | some (.rt d ρ) => (ownE ρ 0).map fun ys => (d, ys)
  | _ => none else none
section
variable {n np : Nat} {S : DS}
theorem runD_ok : ∀ ds d, runD n np S ds = some d → ds.length = np ∧ ∃ o, S (en0 n ds) = some o ∧ ends d o := fun ds d h => by
  unfold runD at h
  split at h
  · rename_i hl
    refine ⟨hl, ?_⟩
    split at h
    · rename_i e; cases h; exact ⟨_, e, rfl⟩
    · rename_i e; cases h; exact ⟨_, e, rfl⟩
    · cases h
  · cases h
theorem runX_ok : ∀ ds r, runX n np S ds = some r → ds.length = np ∧ ∃ o, S (en0 n ds) = some o ∧ match r with | .ok d => ends d o | .er c d => o = .ex c d := fun ds d h => by
  unfold runX at h
  split at h
  · rename_i hl
    refine ⟨hl, ?_⟩
    split at h
    · rename_i e; cases h; exact ⟨_, e, rfl⟩
    · rename_i e; cases h; exact ⟨_, e, rfl⟩
    · rename_i e; cases h; exact ⟨_, e, rfl⟩
    · cases h
  · cases h
theorem runL_ok : ∀ ds zs, runL n np S ds = some zs → ds.length = np ∧ ∃ ρ, S (en0 n ds) = some (.rf zs ρ) := fun ds d h => by
  unfold runL at h
  split at h
  · rename_i hl
    refine ⟨hl, ?_⟩
    split at h
    · rename_i e; cases h; exact ⟨_, e⟩
    · cases h
  · cases h
theorem runI_ok : ∀ xs ds d xs', runI n np S xs ds = some (d, xs') → ds.length + 1 = np ∧ ∃ ρ, S (en1 n xs ds) = some (.rt d ρ) ∧ ρ[0]? = some (.own xs') := fun xs ds d xs' h => by
  unfold runI at h
  split at h
  · rename_i hl
    refine ⟨hl, ?_⟩
    split at h
    · rename_i ρ e
      cases e2 : ownE ρ 0 with
      | none => rw [e2] at h; cases h
      | some ys => rw [e2] at h; cases h; exact ⟨_, e, ownE_some e2⟩
    · cases h
  · cases h
end
/-! ### the defs of the top -/
def FAt (K : PySem.W.Frag) (mg : Str → Option Value) (x : Str) (st : Stmt) (ps : List Str) : Prop := ∃ (f : Addr) (fd : FuncData), Fun K x x st f fd ∧ mg x = some (.ref f) ∧ Binds K fd ps []
theorem FAt.nothing {P : Program} {w : World} {K : PySem.W.Frag} {mg : Str → Option Value} {base : Heap} {x : Str} {st : Stmt} {ps : List Str} {k : Nat} (h : FAt K mg x st ps) : IOk P w K mg base x k (fun _ _ => none) := by
  obtain ⟨f, fd, F, hm, hb⟩ := h
  exact ⟨CX0, f, fd, ps, .inl rfl, ⟨fun vs H Q E ⟨p, ws, xv, xs, ds, d, xs', _, _, _, _, z, _⟩ => (by cases z), fun A outer s H args us vs Q E r e b v ⟨p, ws, xv, xs, ds, d, xs', _, _, _, _, z, _⟩ => (by cases z)⟩, hm, F.kp, hb⟩

/-! ### a block, its own names told -/
theorem pf_lco {X : Cx} {H0 : HT} {io : Option Addr} {elt tg iter : Expr} {ifs : List Expr} {scope : Scope} {wi : TI} {I : DFL} {ws : List Nat} {g : DG} {C : DFB} {F : DF} {pos : Pos} (own : List (Str × Nat)) (t1 : TG) (tt : TT) (te : TE) (hN : X.N.Nodup) (hc : X.calm = true) (ok : blkB X.N X.env.scope scope own = true) (hi : IM X H0 io tg iter wi I)
    (hg : ∀ (H0 : HT) (s : Shared) (H : Hp) (Ca : Addr) (cl : List (Str × Addr)) (fp : List Addr), GM (X.blk s H scope (compEnvC scope cl Ca X.env) fp) H0 io tg t1 ws g)
    (ht : ∀ (H0 : HT) (s : Shared) (H : Hp) (Ca : Addr) (cl : List (Str × Addr)) (fp : List Addr), CM (X.blk s H scope (compEnvC scope cl Ca X.env) fp) H0 io ifs tt C)
    (he : ∀ (H0 : HT) (s : Shared) (H : Hp) (Ca : Addr) (cl : List (Str × Addr)) (fp : List Addr), PM (X.blk s H scope (compEnvC scope cl Ca X.env) fp) H0 io elt te F)
    (hv : io = none ∨ 0 ∉ own.map (·.2) := by first | exact .inl rfl | exact .inr (by decide)) (hw : ∀ i ∈ ws, i ∈ own.map (·.2) := by decide) (hs : ∀ x, foldedSetIterable iter X.env x = pure x := by intro _; rfl) :
    PF X H0 io (.ListComp elt [⟨tg, iter, ifs, 0⟩] scope pos) (tLc wi t1 tt te (own.map (·.2))) (lComp (own.map (·.2)) I g C F) := pf_lc hc hN (blk_ok ok) hi hg ht he hv hw hs
theorem sm_setLco {X : Cx} {H0 : HT} {io : Option Addr} {E : XK} {elt tg iter : Expr} {ifs : List Expr} {scope : Scope} {wi : TI} {I : DFL} {ws : List Nat} {g : DG} {C : DFB} {F : DF} {pos : Pos} (i : Nat) {y : Str} {py spos : Pos} (own : List (Str × Nat)) (t1 : TG) (tt : TT) (te : TE) (hN : X.N.Nodup) (hc : X.calm = true) (ok : blkB X.N X.env.scope scope own = true) (hi : IM X H0 io tg iter wi I)
    (hg : ∀ (H0 : HT) (s : Shared) (H : Hp) (Ca : Addr) (cl : List (Str × Addr)) (fp : List Addr), GM (X.blk s H scope (compEnvC scope cl Ca X.env) fp) H0 io tg t1 ws g)
    (ht : ∀ (H0 : HT) (s : Shared) (H : Hp) (Ca : Addr) (cl : List (Str × Addr)) (fp : List Addr), CM (X.blk s H scope (compEnvC scope cl Ca X.env) fp) H0 io ifs tt C)
    (he : ∀ (H0 : HT) (s : Shared) (H : Hp) (Ca : Addr) (cl : List (Str × Addr)) (fp : List Addr), PM (X.blk s H scope (compEnvC scope cl Ca X.env) fp) H0 io elt te F)
    (hy : X.N[i]? = some y := by rfl) (hyl : X.env.scope.names.lookup y = some .local := by rfl) (hsw : swapsWith (.ListComp elt [⟨tg, iter, ifs, 0⟩] scope pos) (some (.Name y py)) spos.line X.env = pure true := by exact sw_true rfl rfl rfl (by decide +kernel))
    (ho : io = none ∨ i ≠ 0 := by first | exact .inl rfl | exact .inr (by decide))
    (hv : io = none ∨ 0 ∉ own.map (·.2) := by first | exact .inl rfl | exact .inr (by decide)) (hw : ∀ i ∈ ws, i ∈ own.map (·.2) := by decide) (hs : ∀ x, foldedSetIterable iter X.env x = pure x := by intro _; rfl) :
    SM X H0 io E (.Assign [.Name y py] (.ListComp elt [⟨tg, iter, ifs, 0⟩] scope pos) spos) (tAsg (tLc wi t1 tt te (own.map (·.2))) (gName i)) (sOwn i (lComp (own.map (·.2)) I g C F)) := sm_setLc i hc hN (blk_ok ok) hi hg ht he hy hyl hsw ho hv hw hs
theorem pf_lcoT {X : Cx} {H0 : HT} {io : Option Addr} {elt tg iter : Expr} {ifs : List Expr} {scope : Scope} {wi : TI} {I : DFL} {ws : List Nat} {g : DG} {C : DFB} {F : DF} {pos : Pos} (own : List (Str × Nat)) (t1 : TG) (tt : TT) (te : TE) (hN : X.N.Nodup) (hc : X.calm = true) (ok : blkB X.N X.env.scope scope own = true) (hi : IM X H0 io tg iter wi I)
    (hg : ∀ (H1 : HT) (hh : H1.tabs = H0.tabs) (s : Shared) (H : Hp) (Ca : Addr) (cl : List (Str × Addr)) (fp : List Addr), GM (X.blk s H scope (compEnvC scope cl Ca X.env) fp) H1 io tg t1 ws g)
    (ht : ∀ (H1 : HT) (hh : H1.tabs = H0.tabs) (s : Shared) (H : Hp) (Ca : Addr) (cl : List (Str × Addr)) (fp : List Addr), CM (X.blk s H scope (compEnvC scope cl Ca X.env) fp) H1 io ifs tt C)
    (he : ∀ (H1 : HT) (hh : H1.tabs = H0.tabs) (s : Shared) (H : Hp) (Ca : Addr) (cl : List (Str × Addr)) (fp : List Addr), PM (X.blk s H scope (compEnvC scope cl Ca X.env) fp) H1 io elt te F)
    (hv : io = none ∨ 0 ∉ own.map (·.2) := by first | exact .inl rfl | exact .inr (by decide)) (hw : ∀ i ∈ ws, i ∈ own.map (·.2) := by decide) (hs : ∀ x, foldedSetIterable iter X.env x = pure x := by intro _; rfl) :
    PF X H0 io (.ListComp elt [⟨tg, iter, ifs, 0⟩] scope pos) (tLc wi t1 tt te (own.map (·.2))) (lComp (own.map (·.2)) I g C F) :=
  ⟨pe_lc hc hN hi.pi (blk_ok ok) (fun s H C cl fp => (hg H0 rfl s H C cl fp).pg) (fun s H C cl fp => (ht H0 rfl s H C cl fp).pt) (fun s H C cl fp => (he H0 rfl s H C cl fp).pe) hs,
   den_lcT hi.dn (fun H0 h => (hg H0 h X.s_0 X.H_0 0 [] []).dn) (fun H0 h => (ht H0 h X.s_0 X.H_0 0 [] []).dn) (fun H0 h => (he H0 h X.s_0 X.H_0 0 [] []).dn) hv hw⟩
end DL
set_option Elab.async false
set_option linter.all false
set_option maxRecDepth 100000
set_option maxHeartbeats 1000000
/-! DLC: the catching def by its facts; a def whose code object is known (its lambdas' table). -/
namespace DL
open PySem PySem.Spec L2
open PyProof.Rows hiding St

/-- the def x(look) catches errors of the class named ex, at CS -/
def CauF (K : PySem.W.Frag) (mg : Str → Option Value) (x ex : Str) (CS : Addr) : Prop :=
  ∃ (g : Addr) (pg : Arguments) (sg : Scope) (dV kV doc pm cdv ct oc : Value) (an od : Option Addr) (osl : Array (Option Value)) (q : Nat → Pos) (k1 k2 k3 j1 j2 : Nat),
    mg x = some (.ref g) ∧ PySem.W.keepIn K (.ref g) = true ∧ K.lookup g = some ⟨oc, od, .func (PySem.W.fnOf x x pg (cauBody ex q k1 k2 k3 j1 j2) sg dV kV doc pm an cdv ct), osl⟩ ∧ PySem.W.codeIn K cdv x = true ∧
    L2.Binds K (PySem.W.fnOf x x pg (cauBody ex q k1 k2 k3 j1 j2) sg dV kV doc pm an cdv ct) ["look"] [] ∧ FnScope cauN ["look"] sg ∧ sg.names.lookup ("look" : Str) = some .local ∧ sg.names.lookup ("caught" : Str) = some .local ∧ sg.names.lookup ("back" : Str) = some .local ∧ sg.names.lookup ("error" : Str) = some .local ∧
    sg.names.lookup ex = some .globalImplicit ∧ mg ex = some (.ref CS) ∧ (ex == ("__debug__" : Str)) = false ∧
    ∀ L, swappedStores [.Tuple [.Name "caught" (q 0), .Name "back" (q 1)] k1 (q 2)] (.Tuple [.Constant .none j1 (q 3), .Constant .none j2 (q 4)] k2 (q 5)) (envOfC x sg L g cdv) = pure none
section
variable {X : Cx} {H0 : HT} {io : Option Addr}
theorem pm_cauF {x ex : Str} {c Pt CS : Addr} {k : Nat} {params : Arguments} {scope : Scope} {body : Expr} {R : En → Option (Rs × En)} {cs : List Str} {p lpos pos : Pos} (t : XK → TE) (C : CauF X.K X.mg x ex CS) (hr : RoomG (k + 2) X.A)
    (TB : LamX.TabB X.base X.mg c Pt) (hT : H0.tabs = [(Pt, X.env.qual ++ "<lambda>")]) (hc : CauC X.K X.mg CS cs)
    (hL : ∀ (A : Around) (outer : List Env) (s : Shared) (H : Hp) (E : XK) (f c2 : Addr), RoomG k (A.deeper (LamX.lamEnv X scope s.heap.objs.size f c2)) → LM (LamX.lamCx X A outer s H E scope f c2) H0 io E body (t E) R)
    (hcode : X.env.code = .ref c := by rfl) (hg : Gl X x := by rfl) (L : LamX.lamSB X.env.scope scope = true := by rfl) (hdef : defaultsOf params X.env = ([], []) := by rfl)
    (hbind : ∀ (q : Str) (cl : List (Str × Addr)) (pm cv ctv : Value), bindArgs (PySem.W.kla_fn "<lambda>" q params body scope cl pm cv ctv) ⟨[], []⟩ = pure [] := by intros; rfl)
    (hdb : (x == ("__debug__" : Str)) = false := by decide) : PM X H0 io (.Call (.Name x p) [.Lambda params body scope lpos] [] pos) (tFz (LamX.tLam H0.tabs (TCau X.K CS) t)) (dCau cs R) := by
  obtain ⟨g, pg, sg, dV, kV, doc, pm, cdv, ct, oc, an, od, osl, q, k1, k2, k3, j1, j2, h1, h2, h3, h4, h5, h6, l0, l1, l2, l3, l4, hex, hdx, hw⟩ := C
  refine pm_cau (pe_cau hg h1 h2 h3 h4 h5 h6 l0 l1 l2 l3 l4 hex hdx hw TB hcode (by rw [hT]; exact List.mem_cons_self) (fun p hp _ => ?_) hr (LamX.lamS_by L) hdef hbind (fun A outer s H E f c2 r => (hL A outer s H E f c2 r).pe) hdb) (by rw [hT]; simp) hc fun E => ?_
  · rw [hT] at hp
    cases List.mem_singleton.mp hp
    rfl
  · exact (hL X.A X.stack X.s_0 X.H_0 E 0 0 ((hr.mono (Nat.le_succ _)).deeper _)).dn
end

/-- the def's code object is at c -/
structure FunC (K : PySem.W.Frag) (x qual : Str) (st : Stmt) (f : Addr) (fd : FuncData) (c : Addr) : Prop where
  ex : ∃ (oc : Value) (od : Option Addr) (kV doc pm : Value) (an : Option Addr) (ct : Value) (osl : Array (Option Value)),
    fd = PySem.W.fnOf x qual (defArgs st) (defBody st) (defScope st) .none kV doc pm an (.ref c) ct ∧ K.lookup f = some ⟨oc, od, .func fd, osl⟩ ∧ PySem.W.codeIn K (.ref c) qual = true
  kp : PySem.W.keepIn K (.ref f) = true
section
variable {P : Program} {w : World} {K : PySem.W.Frag} {mg : Str → Option Value} {base : Heap} {x : Str} {st : Stmt} {f c : Addr} {fd : FuncData} {N ps : List Str} {k : Nat} {S : DS} {T : List (Addr × Str)}
theorem itok_mkC {F : List PyData → List PyData → Option (PyData × List PyData)} (Fn : FunC K x x st f fd c) (hm : mg x = some (.ref f)) (hb : Binds K fd ps []) (sc : FnScope N ps (defScope st))
    (hbody : ∀ (A : Around) (outer : List Env) (s : Shared) (H : Hp) (E : XK) (p : Addr), RoomG k (A.deeper (envOfC x (defScope st) s.heap.objs.size f (.ref c))) → ∃ t, SMs (cxOf CX0 P w K mg base N x (defScope st) f (.ref c) A outer s H E).nox (htOf T H) (some p) E (defBody st) t S)
    (hF : ∀ xs ds d xs', F xs ds = some (d, xs') → ds.length + 1 = ps.length ∧ ∃ ρ, S (en1 N.length xs ds) = some (.rt d ρ) ∧ ρ[0]? = some (.own xs')) : KOk P w K mg base x (k + 1) (spIT T K w F) := by
  obtain ⟨oc, od, kV, doc, pm, an, ct, osl, rfl, lk, hcd⟩ := Fn.ex
  refine ⟨CX0, f, _, ps, .inl rfl, fnG_of lk hcd sc (fun vs H Q E ⟨p, ws, xv, xs, ds, d, xs', h1, _, h2, h3, h4, h5, _⟩ => by subst h1; rw [List.length_cons, h4.len]; exact (hF _ _ _ _ h5).1) (fun A outer s H vs Q E hr ⟨p, ws, xv, xs, ds, d, xs', h1, hT, h2, h3, h4, h5, q⟩ => ?_), hm, Fn.kp, hb⟩
  obtain ⟨t, B⟩ := hbody A outer s H E p hr
  obtain ⟨hl, ρ, ho, h0⟩ := hF _ _ _ _ h5
  subst h1
  have hpl : ps.length ≤ N.length := by
    have := congrArg List.length sc.pre
    rw [List.length_take] at this
    omega
  refine ⟨t, B.ps.nox, B.dn _ H _ _ ((sr_start1 h2 h3 h4 (by rw [h4.len]; omega)).toT hT) ho _ ?_⟩
  exact fun v σ' H' R st z => by
    obtain ⟨p', xv', a, b, c, _⟩ := R.own 0 xs' h0
    have := R.iop p rfl
    rw [this] at a
    cases a
    exact q v H' xv' (fun b o hb e n => keepT R e n (fun z => hb (Option.some.inj z).symm)) st R.tb b c z
end
end DL
set_option Elab.async false
set_option linter.all false
set_option maxRecDepth 100000
set_option maxHeartbeats 1000000
namespace DL
open PySem PySem.Spec L2
open PyProof.Rows hiding St
def ruling : PyData := .tuple [.str "yes", .str "no", .str "not", .str "and", .str "or", .str "if", .str "iff", .str "all", .str "some", .str "least", .str "most", .str "same"]
def caus : List Str := ["BadCell", "BadValues", "NoWorld"]
def isx_BadCell : List (Str × Bool) := [("BadCell", true), ("BadValues", false), ("NoWorld", false)]
def isx_BadValues : List (Str × Bool) := [("BadCell", false), ("BadValues", true), ("NoWorld", false)]
def isx_NoWorld : List (Str × Bool) := [("BadCell", false), ("BadValues", false), ("NoWorld", true)]
/-! ### is_integer -/
def S_is_integer : DS := (sRet (dAndV (dUn (isiD "int") (dVar 0)) (dNotV (dUn (isiD "bool") (dVar 0)))))
def F_is_integer : List PyData → Option PyData := runD 1 1 S_is_integer
/-! ### is_between -/
def S_is_between : DS := (sRet (dAndV (dCall F_is_integer (aCons (dVar 0) aNil)) (dChain leD leD (dVar 1) (dVar 0) (dVar 2))))
def F_is_between : List PyData → Option PyData := runD 3 3 S_is_between
/-! ### are_between -/
def S_are_between : DS := (sRet (dAndV (dUn (isiD "tuple") (dVar 0)) (dUn allD (dFrz (lComp [3] (iSeqD (dVar 0)) (gN 3) bYes (dCall F_is_between (aCons (dVar 3) (aCons (dVar 1) (aCons (dVar 2) aNil)))))))))
def F_are_between : List PyData → Option PyData := runD 4 3 S_are_between
/-! ### is_ascending -/
def S_is_ascending : DS := (sRet (dUn allD (dFrz (lComp [1, 2] (iZpD (aCons (dVar 0) (aCons (dSl (dVar 0) (oI (dC (.int 1))) oNo) aNil))) (gT 2 (gsCons (gN 1) (gsCons (gN 2) gsNil))) bYes (dOp ltD (dVar 1) (dVar 2))))))
def F_is_ascending : List PyData → Option PyData := runD 3 1 S_is_ascending
/-! ### is_name -/
def S_is_name : DS := (sSeq (sIf (bOr (bNot (bVal (dUn (isiD "str") (dVar 0)))) (bOr (bNot (bVal (dChain leD leD (dC (.int 1)) (dUn lenD (dVar 0)) (dC (.int 8))))) (bVal (dOp inD (dVar 0) (dC ruling))))) (sRet (dC (.bool false))) sNext)
    (sRet (dAndV (dOp inD (dOp ixD (dVar 0) (dC (.int 0))) (dC (.str "abcdefghijklmnopqrstuvwxyz"))) (dUn allD (dFrz (lComp [1] (iSeqD (dVar 0)) (gN 1) bYes (dOrV (dOp inD (dVar 1) (dC (.str "abcdefghijklmnopqrstuvwxyz"))) (dOp inD (dVar 1) (dC (.str "0123456789"))))))))))
def F_is_name : List PyData → Option PyData := runD 2 1 S_is_name
/-! ### power -/
def S_power : DS := (sSeq (sSet 2 (dC (.int 1)))
    (sSeq (sFor (iR1 (aCons (dVar 1) aNil)) (gN 3) (sSet 2 (dOp mulD (dVar 2) (dVar 0))))
    (sRet (dVar 2))))
def F_power : List PyData → Option PyData := runD 4 2 S_power
/-! ### are_named -/
def S_are_named : DS := (sSeq (sIf (bOr (bNot (bVal (dUn (isiD "tuple") (dVar 0)))) (bVal (dOp gtD (dUn lenD (dVar 0)) (dVar 1)))) (sRet (dC (.bool false))) sNext)
    (sSeq (sIf (bNot (bVal (dUn allD (dFrz (lComp [3] (iSeqD (dVar 0)) (gN 3) bYes (dAndV (dUn (isiD "tuple") (dVar 3)) (dOp eqD (dUn lenD (dVar 3)) (dC (.int 2))))))))) (sRet (dC (.bool false))) sNext)
    (sRet (dUn allD (dFrz (lComp [4, 5] (iSeqD (dVar 0)) (gT 2 (gsCons (gN 4) (gsCons (gN 5) gsNil))) bYes (dAndV (dCall F_is_name (aCons (dVar 4) aNil)) (dCall F_is_between (aCons (dVar 5) (aCons (dC (.int 0)) (aCons (dVar 2) aNil)))))))))))
def F_are_named : List PyData → Option PyData := runD 6 3 S_are_named
/-! ### is_signs -/
def S_is_signs : DS := (sSeq (sIf (bOr (bNot (bVal (dUn (isiD "tuple") (dVar 0)))) (bOr (bVal (dOp neD (dUn lenD (dVar 0)) (dC (.int 2)))) (bNot (bVal (dCall F_are_named (aCons (dOp ixD (dVar 0) (dC (.int 0))) (aCons (dC (.int 6)) (aCons (dC (.int 3)) aNil)))))))) (sRet (dC (.bool false))) sNext)
    (sSeq (sIf (bNot (bVal (dCall F_are_named (aCons (dOp ixD (dVar 0) (dC (.int 1))) (aCons (dC (.int 4)) (aCons (dC (.int 2)) aNil)))))) (sRet (dC (.bool false))) sNext)
    (sSeq (sOwn 1 (lComp [2, 3] (iSeqD (dFrz (lLst (aStar (dOp ixD (dVar 0) (dC (.int 0))) (aStar (dOp ixD (dVar 0) (dC (.int 1))) aNil))))) (gT 2 (gsCons (gN 2) (gsCons (gN 3) gsNil))) bYes (dVar 2)))
    (sRet (dOp eqD (dUn lenSetD (dVw 1)) (dUn lenD (dVw 1)))))))
def F_is_signs : List PyData → Option PyData := runD 4 1 S_is_signs
/-! ### check_signs -/
def S_check_signs : DS := (sIf (bNot (bVal (dCall F_is_signs (aCons (dVar 0) aNil)))) (sRaise "BadSigns" (dVar 0)) sNext)
def F_check_signs : List PyData → Option Rs := runX 1 1 S_check_signs
/-! ### place_in -/
def S_place_in : DS := (sRet (dMet idxD (dFrz (lComp [2, 3] (iSeqD (dVar 0)) (gT 2 (gsCons (gN 2) (gsCons (gN 3) gsNil))) bYes (dVar 2))) (aCons (dVar 1) aNil)))
def F_place_in : List PyData → Option PyData := runD 4 2 S_place_in
/-! ### tuples_of -/
def S_tuples_of : DS := (sSeq (sSet 2 (dFrz (lLst (aCons (dTup aNil) aNil))))
    (sSeq (sFor (iR1 (aCons (dVar 1) aNil)) (gN 3) (sSeq (sOwn 4 (lLst aNil))
    (sSeq (sFor (iSeqD (dVar 2)) (gN 5) (sExt 4 (dFrz (lComp [6] (iR1 (aCons (dVar 0) aNil)) (gN 6) bYes (dTup (aStar (dVar 5) (aCons (dVar 6) aNil)))))))
    (sFr 4 (sSet 2 (dVar 4))))))
    (sRet (dVar 2))))
def F_tuples_of : List PyData → Option PyData := runD 7 2 S_tuples_of
/-! ### place_of -/
def S_place_of : DS := (sSeq (sSet 2 (dC (.int 0)))
    (sSeq (sFor (iSeqD (dVar 1)) (gN 3) (sSet 2 (dOp addD (dOp mulD (dVar 2) (dVar 0)) (dVar 3))))
    (sRet (dVar 2))))
def F_place_of : List PyData → Option PyData := runD 4 2 S_place_of
/-! ### many_cells -/
def S_many_cells : DS := (sSeq (sSet 2 (dUn sumD (dFrz (lComp [3, 4] (iSeqD (dOp ixD (dVar 0) (dC (.int 0)))) (gT 2 (gsCons (gN 3) (gsCons (gN 4) gsNil))) bYes (dCall F_power (aCons (dVar 1) (aCons (dVar 4) aNil)))))))
    (sRet (dOp addD (dVar 2) (dUn sumD (dFrz (lComp [3, 4] (iSeqD (dOp ixD (dVar 0) (dC (.int 1)))) (gT 2 (gsCons (gN 3) (gsCons (gN 4) gsNil))) bYes (dOp mulD (dCall F_power (aCons (dVar 1) (aCons (dVar 4) aNil))) (dVar 1))))))))
def F_many_cells : List PyData → Option PyData := runD 5 2 S_many_cells
/-! ### is_size -/
def S_is_size : DS := (sRet (dCall F_is_between (aCons (dVar 0) (aCons (dC (.int 1)) (aCons (dC (.int 5)) aNil)))))
def F_is_size : List PyData → Option PyData := runD 1 1 S_is_size
/-! ### check_size -/
def S_check_size : DS := (sSeq (sIf (bNot (bVal (dCall F_is_size (aCons (dVar 1) aNil)))) (sRaise "BadSize" (dVar 1)) sNext)
    (sIf (bVal (dOp gtD (dCall F_many_cells (aCons (dVar 0) (aCons (dVar 1) aNil))) (dC (.int 64)))) (sRaise "TooGreat" (dC (.int 64))) sNext))
def F_check_size : List PyData → Option Rs := runX 2 2 S_check_size
/-! ### is_table -/
def S_is_table : DS := (sSeq (sIf (bOr (bNot (bVal (dUn (isiD "tuple") (dVar 2)))) (bNot (bVal (dUn allD (dFrz (lComp [3] (iSeqD (dVar 2)) (gN 3) bYes (dCall F_are_between (aCons (dVar 3) (aCons (dC (.int 0)) (aCons (dOp subD (dVar 0) (dC (.int 1))) aNil)))))))))) (sRet (dC (.bool false))) sNext)
    (sRet (dAndV (dUn allD (dFrz (lComp [3] (iSeqD (dVar 2)) (gN 3) bYes (dOp eqD (dUn lenD (dVar 3)) (dVar 1))))) (dCall F_is_ascending (aCons (dVar 2) aNil)))))
def F_is_table : List PyData → Option PyData := runD 4 3 S_is_table
/-! ### is_column -/
def S_is_column : DS := (sRet (dAndV (dCall F_are_between (aCons (dVar 2) (aCons (dC (.int 0)) (aCons (dOp subD (dVar 0) (dC (.int 1))) aNil)))) (dOp eqD (dUn lenD (dVar 2)) (dCall F_power (aCons (dVar 0) (aCons (dVar 1) aNil))))))
def F_is_column : List PyData → Option PyData := runD 3 3 S_is_column
/-! ### is_world_of -/
def S_is_world_of : DS := (sSeq (sIf (bOr (bNot (bVal (dUn (isiD "tuple") (dVar 1)))) (bOr (bVal (dOp neD (dUn lenD (dVar 1)) (dC (.int 3)))) (bNot (bVal (dCall F_is_size (aCons (dOp ixD (dVar 1) (dC (.int 0))) aNil)))))) (sRet (dC (.bool false))) sNext)
    (sSeq (sAsg (dVar 1) (gT 3 (gsCons (gN 2) (gsCons (gN 3) (gsCons (gN 4) gsNil)))))
    (sSeq (sIf (bOr (bVal (dOp gtD (dCall F_many_cells (aCons (dVar 0) (aCons (dVar 2) aNil))) (dC (.int 64)))) (bOr (bNot (bVal (dUn (isiD "tuple") (dVar 3)))) (bNot (bVal (dUn (isiD "tuple") (dVar 4)))))) (sRet (dC (.bool false))) sNext)
    (sSeq (sIf (bOr (bVal (dOp neD (dUn lenD (dVar 3)) (dUn lenD (dOp ixD (dVar 0) (dC (.int 0)))))) (bVal (dOp neD (dUn lenD (dVar 4)) (dUn lenD (dOp ixD (dVar 0) (dC (.int 1))))))) (sRet (dC (.bool false))) sNext)
    (sSeq (sIf (bNot (bVal (dUn allD (dFrz (lComp [5, 6, 7] (iZpD (aCons (dOp ixD (dVar 0) (dC (.int 0))) (aCons (dVar 3) aNil))) (gT 2 (gsCons (gT 2 (gsCons (gN 5) (gsCons (gN 6) gsNil))) (gsCons (gN 7) gsNil))) bYes (dCall F_is_table (aCons (dVar 2) (aCons (dVar 6) (aCons (dVar 7) aNil))))))))) (sRet (dC (.bool false))) sNext)
    (sRet (dUn allD (dFrz (lComp [5, 6, 8] (iZpD (aCons (dOp ixD (dVar 0) (dC (.int 1))) (aCons (dVar 4) aNil))) (gT 2 (gsCons (gT 2 (gsCons (gN 5) (gsCons (gN 6) gsNil))) (gsCons (gN 8) gsNil))) bYes (dCall F_is_column (aCons (dVar 2) (aCons (dVar 6) (aCons (dVar 8) aNil)))))))))))))
def F_is_world_of : List PyData → Option PyData := runD 9 2 S_is_world_of
/-! ### check_its_world -/
def S_check_its_world : DS := (sIf (bNot (bVal (dCall F_is_world_of (aCons (dVar 0) (aCons (dVar 1) aNil))))) (sRaise "BadWorld" (dVar 1)) sNext)
def F_check_its_world : List PyData → Option Rs := runX 2 2 S_check_its_world
/-! ### check_world -/
def S_check_world : DS := (sSeq (sDrop (dCall (okOf F_check_signs) (aCons (dVar 0) aNil)))
    (sDrop (dCall (okOf F_check_its_world) (aCons (dVar 0) (aCons (dVar 1) aNil)))))
def F_check_world : List PyData → Option Rs := runX 2 2 S_check_world
/-! ### cells_of -/
def S_cells_of : DS := (sSeq (sOwn 2 (lLst aNil))
    (sSeq (sFor (iSeqD (dOp ixD (dVar 0) (dC (.int 0)))) (gT 2 (gsCons (gN 3) (gsCons (gN 4) gsNil))) (sExt 2 (dFrz (lComp [5] (iSeqD (dCall F_tuples_of (aCons (dVar 1) (aCons (dVar 4) aNil)))) (gN 5) bYes (dTup (aCons (dC (.str "is")) (aCons (dVar 3) (aCons (dVar 5) aNil))))))))
    (sSeq (sFor (iSeqD (dOp ixD (dVar 0) (dC (.int 1)))) (gT 2 (gsCons (gN 3) (gsCons (gN 4) gsNil))) (sFor (iSeqD (dCall F_tuples_of (aCons (dVar 1) (aCons (dVar 4) aNil)))) (gN 5) (sExt 2 (dFrz (lComp [6] (iR1 (aCons (dVar 1) aNil)) (gN 6) bYes (dTup (aCons (dC (.str "of")) (aCons (dVar 3) (aCons (dVar 5) (aCons (dVar 6) aNil))))))))))
    (sFr 2 (sRet (dVar 2))))))
def F_cells_of : List PyData → Option PyData := runD 7 2 S_cells_of
/-! ### cells -/
def S_cells : DS := (sSeq (sDrop (dCall (okOf F_check_signs) (aCons (dVar 0) aNil)))
    (sSeq (sDrop (dCall (okOf F_check_size) (aCons (dVar 0) (aCons (dVar 1) aNil))))
    (sRet (dUn tupleD (dCall F_cells_of (aCons (dVar 0) (aCons (dVar 1) aNil)))))))
def F_cells : List PyData → Option PyData := runD 2 2 S_cells
/-! ### numbers_of -/
def S_numbers_of : DS := (sRet (dUn dictD (dFrz (lComp [2, 3] (iEnD (dCall F_cells_of (aCons (dVar 0) (aCons (dVar 1) aNil)))) (gT 2 (gsCons (gN 2) (gsCons (gN 3) gsNil))) bYes (dTup (aCons (dVar 3) (aCons (dOp addD (dVar 2) (dC (.int 1))) aNil)))))))
def F_numbers_of : List PyData → Option PyData := runD 4 2 S_numbers_of
/-! ### is_cell -/
def S_is_cell : DS := (sSeq (sIf (bOr (bNot (bVal (dUn (isiD "tuple") (dVar 2)))) (bOr (bVal (dOp notInD (dUn lenD (dVar 2)) (dTup (aCons (dC (.int 3)) (aCons (dC (.int 4)) aNil))))) (bNot (bVal (dUn (isiD "tuple") (dOp ixD (dVar 2) (dC (.int 2)))))))) (sRet (dC (.bool false))) sNext)
    (sSeq (sIf (bNot (bVal (dUn allD (dFrz (lComp [3] (iSeqD (dFrz (lLst (aStar (dOp ixD (dVar 2) (dC (.int 2))) (aStar (dSl (dVar 2) (oI (dC (.int 3))) oNo) aNil))))) (gN 3) bYes (dCall F_is_integer (aCons (dVar 3) aNil))))))) (sRet (dC (.bool false))) sNext)
    (sRet (dAndV (dUn (isiD "str") (dOp ixD (dVar 2) (dC (.int 0)))) (dAndV (dUn (isiD "str") (dOp ixD (dVar 2) (dC (.int 1)))) (dOp inD (dVar 2) (dCall F_cells_of (aCons (dVar 0) (aCons (dVar 1) aNil)))))))))
def F_is_cell : List PyData → Option PyData := runD 4 3 S_is_cell
/-! ### cell_number -/
def S_cell_number : DS := (sSeq (sDrop (dCall (okOf F_check_signs) (aCons (dVar 0) aNil)))
    (sSeq (sDrop (dCall (okOf F_check_size) (aCons (dVar 0) (aCons (dVar 1) aNil))))
    (sSeq (sIf (bNot (bVal (dCall F_is_cell (aCons (dVar 0) (aCons (dVar 1) (aCons (dVar 2) aNil)))))) (sRaise "BadCell" (dVar 2)) sNext)
    (sRet (dOp ixDD (dCall F_numbers_of (aCons (dVar 0) (aCons (dVar 1) aNil))) (dVar 2))))))
def F_cell_number : List PyData → Option Rs := runX 3 3 S_cell_number
/-! ### is_cell_so -/
def S_is_cell_so : DS := (sSeq (sIf (bVal (dOp eqD (dOp ixD (dVar 2) (dC (.int 0))) (dC (.str "is")))) (sRet (dOp inD (dOp ixD (dVar 2) (dC (.int 2))) (dOp ixD (dOp ixD (dVar 1) (dC (.int 1))) (dCall F_place_in (aCons (dOp ixD (dVar 0) (dC (.int 0))) (aCons (dOp ixD (dVar 2) (dC (.int 1))) aNil)))))) sNext)
    (sRet (dOp eqD (dOp ixD (dOp ixD (dOp ixD (dVar 1) (dC (.int 2))) (dCall F_place_in (aCons (dOp ixD (dVar 0) (dC (.int 1))) (aCons (dOp ixD (dVar 2) (dC (.int 1))) aNil)))) (dCall F_place_of (aCons (dOp ixD (dVar 1) (dC (.int 0))) (aCons (dOp ixD (dVar 2) (dC (.int 2))) aNil)))) (dOp ixD (dVar 2) (dC (.int 3))))))
def F_is_cell_so : List PyData → Option PyData := runD 3 3 S_is_cell_so
/-! ### literals_of -/
def S_literals_of : DS := (sSeq (sOwn 2 (lLst aNil))
    (sSeq (sFor (iEnD (dCall F_cells_of (aCons (dVar 0) (aCons (dOp ixD (dVar 1) (dC (.int 0))) aNil)))) (gT 2 (gsCons (gN 3) (gsCons (gN 4) gsNil))) (sApp 2 (dIf (bVal (dCall F_is_cell_so (aCons (dVar 0) (aCons (dVar 1) (aCons (dVar 4) aNil))))) (dOp addD (dVar 3) (dC (.int 1))) (dOp subD (dOp subD (dC (.int 0)) (dVar 3)) (dC (.int 1))))))
    (sFr 2 (sRet (dVar 2)))))
def F_literals_of : List PyData → Option PyData := runD 5 2 S_literals_of
/-! ### cells_in -/
def S_cells_in : DS := (sSeq (sDrop (dCall (okOf F_check_world) (aCons (dVar 0) (aCons (dVar 1) aNil))))
    (sRet (dUn tupleD (dCall F_literals_of (aCons (dVar 0) (aCons (dVar 1) aNil))))))
def F_cells_in : List PyData → Option PyData := runD 2 2 S_cells_in
/-! ### world_from -/
def S_world_from : DS := (sSeq (sParFF 3 4 (lLst aNil) (lLst aNil))
    (sSeq (sFor (iSeqD (dOp ixD (dVar 0) (dC (.int 0)))) (gT 2 (gsCons (gN 5) (gsCons (gN 6) gsNil))) (sApp 3 (dUn tupleD (dFrz (lComp [7] (iSeqD (dCall F_tuples_of (aCons (dVar 1) (aCons (dVar 6) aNil)))) (gN 7) (bVal (dOp ixDD (dVar 2) (dTup (aCons (dC (.str "is")) (aCons (dVar 5) (aCons (dVar 7) aNil)))))) (dVar 7))))))
    (sSeq (sFor (iSeqD (dOp ixD (dVar 0) (dC (.int 1)))) (gT 2 (gsCons (gN 5) (gsCons (gN 6) gsNil))) (sSeq (sOwn 8 (lLst aNil))
    (sSeq (sFor (iSeqD (dCall F_tuples_of (aCons (dVar 1) (aCons (dVar 6) aNil)))) (gN 7) (sSeq (sOwn 9 (lComp [10] (iR1 (aCons (dVar 1) aNil)) (gN 10) (bVal (dOp ixDD (dVar 2) (dTup (aCons (dC (.str "of")) (aCons (dVar 5) (aCons (dVar 7) (aCons (dVar 10) aNil))))))) (dVar 10)))
    (sSeq (sIf (bVal (dOp neD (dUn lenD (dVw 9)) (dC (.int 1)))) (sRet (dC .none)) sNext)
    (sApp 8 (dOpN ixD 9 (dC (.int 0)))))))
    (sApp 4 (dUn tupleD (dVw 8))))))
    (sRet (dTup (aCons (dVar 1) (aCons (dUn tupleD (dVw 3)) (aCons (dUn tupleD (dVw 4)) aNil))))))))
def F_world_from : List PyData → Option PyData := runD 11 3 S_world_from
/-! ### truths_of -/
def S_truths_of : DS := (sRet (dUn dictD (dFrz (lComp [3, 4] (iEnD (dCall F_cells_of (aCons (dVar 0) (aCons (dVar 1) aNil)))) (gT 2 (gsCons (gN 3) (gsCons (gN 4) gsNil))) bYes (dTup (aCons (dVar 4) (aCons (dOp inD (dOp addD (dVar 3) (dC (.int 1))) (dVar 2)) aNil)))))))
def F_truths_of : List PyData → Option PyData := runD 5 3 S_truths_of
/-! ### are_literals -/
def S_are_literals : DS := (sSeq (sIf (bOr (bNot (bVal (dUn (isiD "tuple") (dVar 0)))) (bOr (bVal (dOp neD (dUn lenD (dVar 0)) (dVar 1))) (bNot (bVal (dUn allD (dFrz (lComp [2] (iSeqD (dVar 0)) (gN 2) bYes (dCall F_is_integer (aCons (dVar 2) aNil))))))))) (sRet (dC (.bool false))) sNext)
    (sRet (dUn allD (dFrz (lComp [3, 2] (iEnD (dVar 0)) (gT 2 (gsCons (gN 3) (gsCons (gN 2) gsNil))) bYes (dOp inD (dVar 2) (dTup (aCons (dOp addD (dVar 3) (dC (.int 1))) (aCons (dOp subD (dOp subD (dC (.int 0)) (dVar 3)) (dC (.int 1))) aNil)))))))))
def F_are_literals : List PyData → Option PyData := runD 4 2 S_are_literals
/-! ### world_by -/
def S_world_by : DS := (sSeq (sDrop (dCall (okOf F_check_signs) (aCons (dVar 0) aNil)))
    (sSeq (sDrop (dCall (okOf F_check_size) (aCons (dVar 0) (aCons (dVar 1) aNil))))
    (sSeq (sIf (bNot (bVal (dCall F_are_literals (aCons (dVar 2) (aCons (dCall F_many_cells (aCons (dVar 0) (aCons (dVar 1) aNil))) aNil))))) (sRaise "BadValues" (dVar 2)) sNext)
    (sSeq (sSet 3 (dCall F_world_from (aCons (dVar 0) (aCons (dVar 1) (aCons (dCall F_truths_of (aCons (dVar 0) (aCons (dVar 1) (aCons (dVar 2) aNil)))) aNil)))))
    (sSeq (sIf (bVal (dOp isD (dVar 3) (dC .none))) (sRaise "NoWorld" (dVar 2)) sNext)
    (sRet (dVar 3)))))))
def F_world_by : List PyData → Option Rs := runX 4 3 S_world_by
/-! ### _law_pot -/
def S__law_pot : DS := (sSeq (sSet 2 (dIf (bVal (dOp ltD (dVar 1) (dUn lenD (dVar 0)))) (dOp ixD (dVar 0) (dVar 1)) (dOp addD (dOp addD (dOp modD (dUn sumD (dSl (dVar 0) oNo (oI (dC (.int 1))))) (dC (.int 1000507))) (dOp mulD (dC (.int 4211)) (dVar 1))) (dC (.int 877)))))
    (sSeq (sSet 3 (dOp mulD (dOp modD (dUn toIntD (dUn absD (dVar 2))) (dOp powD (dOp powD (dC (.int 10)) (dC (.int 60))) (dC (.int 5)))) (dUn toIntD (dOp geD (dUn absD (dVar 2)) (dOp powD (dC (.int 10)) (dC (.int 18)))))))
    (sSeq (sSet 4 (dOp modD (dUn toIntD (dVar 2)) (dC (.int 2305843009213693951))))
    (sRetF (lLst (aCons (dVar 3) (aCons (dOp modD (dUn toIntD (dOp addD (dOp addD (dOp mulD (dVar 4) (dC (.int 44701))) (dOp mulD (dOp mulD (dC (.int 7841)) (dVar 1)) (dVar 1))) (dC (.int 1193)))) (dC (.int 2305843009213693921))) (aCons (dC (.int 0)) aNil))))))))
def F__law_pot : List PyData → Option (List PyData) := runL 5 2 S__law_pot
/-! ### _law_take -/
def S__law_take : DS := (sSeq (sIf (bVal (dOp gtD (dOpN ixD 0 (dC (.int 0))) (dC (.int 0)))) (sSeq (sSet 2 (dOp modD (dUn toIntD (dOpN ixD 0 (dC (.int 0)))) (dVar 1)))
    (sSeq (sPut 0 (dOp fdivD (dOpN ixD 0 (dC (.int 0))) (dVar 1)) (dC (.int 0)))
    (sRet (dVar 2)))) sNext)
    (sSeq (sPut 0 (dOp addD (dOpN ixD 0 (dC (.int 2))) (dC (.int 1))) (dC (.int 2)))
    (sSeq (sSet 3 (dOp ixD (dFrz (lLst (aCons (dC (.int 2147480971)) (aCons (dC (.int 2147480969)) (aCons (dC (.int 2147480967)) (aCons (dC (.int 2147480957)) (aCons (dC (.int 2147480951)) aNil))))))) (dOp modD (dUn toIntD (dOpN ixD 0 (dC (.int 2)))) (dC (.int 5)))))
    (sSeq (sSet 4 (dOp modD (dUn toIntD (dOp powD (dUn toIntD (dOp addD (dOp addD (dOpN ixD 0 (dC (.int 1))) (dOp mulD (dOp mulD (dC (.int 46309)) (dOpN ixD 0 (dC (.int 2)))) (dOpN ixD 0 (dC (.int 2))))) (dC (.int 2953)))) (dC (.int 3)))) (dVar 3)))
    (sSeq (sSet 4 (dOp modD (dUn toIntD (dOp mulD (dVar 4) (dOp addD (dOp modD (dUn toIntD (dVar 4)) (dC (.int 7297))) (dOp mulD (dC (.int 353)) (dOpN ixD 0 (dC (.int 2))))))) (dC (.int 2305843009213693907))))
    (sRet (dOp modD (dUn toIntD (dOp fdivD (dVar 4) (dC (.int 157)))) (dVar 1))))))))
def F__law_take : List PyData → List PyData → Option (PyData × List PyData) := runI 5 2 S__law_take
/-! ### _law_of -/
def S__law_of : DS := (sRet (dOp ixD (dVar 1) (dCallI F__law_take 0 (aCons (dUn lenD (dVar 1)) aNil))))
def F__law_of : List PyData → List PyData → Option (PyData × List PyData) := runI 2 2 S__law_of
/-! ### _law_some -/
def S__law_some : DS := (sSeq (sParFF 3 4 (lUn itemsD (dVar 1)) (lLst aNil))
    (sSeq (sFor (iR1 (aCons (dVar 2) aNil)) (gN 5) (sApp 4 (dPopAt 3 (dCallI F__law_take 0 (aCons (dUn lenD (dVw 3)) aNil)))))
    (sFr 4 (sRet (dVar 4)))))
def F__law_some : List PyData → List PyData → Option (PyData × List PyData) := runI 6 3 S__law_some
/-! ### _law_cells -/
def S__law_cells : DS := (sRet (dFrz (lRg1 (dCall maxD (aCons (dC (.int 1)) (aCons (dCall minD (aCons (dVar 1) (aCons (dUn lenD (dVar 0)) aNil))) aNil))))))
def F__law_cells : List PyData → Option PyData := runD 2 2 S__law_cells
/-! ### _law_is_int -/
def S__law_is_int : DS := (sRet (dAndV (dUn (isiD "int") (dVar 0)) (dAndV (dNotV (dUn (isiD "bool") (dVar 0))) (dChain leD leD (dVar 1) (dVar 0) (dVar 2)))))
def F__law_is_int : List PyData → Option PyData := runD 3 3 S__law_is_int
/-! ### _law_odd -/
def S__law_odd : DS := (sSeq (sSet 1 (dFrz (lLst (aCons (dC .none) (aCons (dC (.bool true)) (aCons (dC (.bool false)) (aCons (dC (.int 0)) (aCons (dC (.int 1)) (aCons (dUn negD (dC (.int 1))) (aCons (dC (.int 7)) (aCons (dOp powD (dC (.int 10)) (dC (.int 11))) (aCons (dC (.str "")) (aCons (dC (.str "a")) (aCons (dC (.str "world")) (aCons (dC (.str "paper")) (aCons (dTup aNil) (aCons (dTup (aCons (dC (.int 0)) aNil)) (aCons (dTup (aCons (dC .none) aNil)) (aCons (dFrz (lLst aNil)) (aCons (dFrz (lLst (aCons (dC (.int 0)) aNil))) (aCons (dC (.dict [])) (aCons (dC (.dict [(.str "a", .int 1)])) (aCons (dTup (aCons (dTup (aCons (dC (.int 0)) (aCons (dC (.int 0)) aNil))) aNil)) aNil)))))))))))))))))))))))
    (sRet (dCallI F__law_of 0 (aCons (dVar 1) aNil))))
def F__law_odd : List PyData → List PyData → Option (PyData × List PyData) := runI 2 1 S__law_odd
/-! ### _law_bent -/
def S__law_bent (f : List PyData → List PyData → Option (PyData × List PyData)) : DS := (sSeq (sIf (bAnd (bVal (dUn (isiD "tuple") (dVar 1))) (bAnd (bVal (dOp neD (dVar 1) (dTup aNil))) (bVal (dOp neD (dCallI F__law_take 0 (aCons (dC (.int 5)) aNil)) (dC (.int 0)))))) (sSeq (sSet 2 (dCallI F__law_take 0 (aCons (dUn lenD (dVar 1)) aNil)))
    (sRet (dOp addD (dOp addD (dSl (dVar 1) oNo (oI (dVar 2))) (dTup (aCons (dCallI f 0 (aCons (dOp ixD (dVar 1) (dVar 2)) aNil)) aNil))) (dSl (dVar 1) (oI (dOp addD (dVar 2) (dC (.int 1)))) oNo)))) sNext)
    (sSeq (sIf (bVal (dUn (isiD "tuple") (dVar 1))) (sSeq (sSet 3 (dFrz (lUn itemsD (dVar 1))))
    (sRet (dCallI F__law_of 0 (aCons (dFrz (lLst (aCons (dVar 3) (aCons (dSl (dVar 1) oNo (oI (dUn negD (dC (.int 1))))) (aCons (dOp addD (dVar 1) (dSl (dVar 1) oNo (oI (dC (.int 1))))) (aCons (dOp addD (dVar 1) (dTup (aCons (dC (.int 0)) aNil))) (aCons (dUn revD (dVar 1)) (aCons (dTup (aCons (dVar 1) aNil)) (aCons (dSl (dVar 3) oNo (oI (dC (.int 1)))) (aCons (dCallI F__law_odd 0 aNil) aNil)))))))))) aNil)))) sNext)
    (sSeq (sIf (bVal (dCall F__law_is_int (aCons (dVar 1) (aCons (dUn negD (dOp powD (dC (.int 10)) (dC (.int 30)))) (aCons (dOp powD (dC (.int 10)) (dC (.int 30))) aNil))))) (sRet (dCallI F__law_of 0 (aCons (dFrz (lLst (aCons (dOp addD (dVar 1) (dC (.int 1))) (aCons (dOp subD (dVar 1) (dC (.int 1))) (aCons (dUn negD (dVar 1)) (aCons (dUn strD (dVar 1)) (aCons (dOp eqD (dVar 1) (dC (.int 1))) (aCons (dCallI F__law_odd 0 aNil) aNil)))))))) aNil))) sNext)
    (sRet (dCallI F__law_odd 0 aNil)))))
def F__law_bent : Nat → List PyData → List PyData → Option (PyData × List PyData)
  | 0 => fun _ _ => none
  | n + 1 => runI 4 2 (S__law_bent (F__law_bent n))
/-! ### _law_signs -/
def S__law_signs : DS := (sSeq (sSet 3 (dCallI F__law_some 0 (aCons (dFrz (lLst (aCons (dC (.str "p")) (aCons (dC (.str "q")) (aCons (dC (.str "has")) (aCons (dC (.str "x0")) (aCons (dC (.str "z0")) (aCons (dC (.str "f1")) (aCons (dC (.str "a")) aNil))))))))) (aCons (dOp addD (dVar 1) (dVar 2)) aNil))))
    (sSeq (sOwn 4 (lComp [5] (iR1 (aCons (dOp addD (dC (.int 1)) (dCallI F__law_take 0 (aCons (dVar 1) aNil))) aNil)) (gN 5) bYes (dTup (aCons (dOp ixD (dVar 3) (dVar 5)) (aCons (dCallI F__law_of 0 (aCons (dFrz (lLst (aCons (dC (.int 1)) (aCons (dC (.int 1)) (aCons (dC (.int 2)) (aCons (dC (.int 0)) aNil)))))) aNil)) aNil)))))
    (sSeq (sOwn 6 (lComp [5] (iR1 (aCons (dCallI F__law_take 0 (aCons (dOp addD (dVar 2) (dC (.int 1))) aNil)) aNil)) (gN 5) bYes (dTup (aCons (dOp ixD (dVar 3) (dOp addD (dVar 1) (dVar 5))) (aCons (dCallI F__law_take 0 (aCons (dC (.int 2)) aNil)) aNil)))))
    (sRet (dTup (aCons (dUn tupleD (dVw 4)) (aCons (dUn tupleD (dVw 6)) aNil)))))))
def F__law_signs : List PyData → List PyData → Option (PyData × List PyData) := runI 7 3 S__law_signs
/-! ### _law_tuples -/
def S__law_tuples : DS := (sSeq (sSet 2 (dFrz (lLst (aCons (dTup aNil) aNil))))
    (sSeq (sFor (iR1 (aCons (dVar 1) aNil)) (gN 3) (sSeq (sOwn 4 (lLst aNil))
    (sSeq (sFor (iSeqD (dVar 2)) (gN 5) (sExt 4 (dFrz (lComp [6] (iR1 (aCons (dVar 0) aNil)) (gN 6) bYes (dOp addD (dVar 5) (dTup (aCons (dVar 6) aNil)))))))
    (sFr 4 (sSet 2 (dVar 4))))))
    (sRet (dVar 2))))
def F__law_tuples : List PyData → Option PyData := runD 7 2 S__law_tuples
/-! ### _law_place -/
def S__law_place : DS := (sSeq (sSet 2 (dC (.int 0)))
    (sSeq (sFor (iSeqD (dVar 1)) (gN 3) (sSet 2 (dOp addD (dOp mulD (dVar 2) (dVar 0)) (dVar 3))))
    (sRet (dVar 2))))
def F__law_place : List PyData → Option PyData := runD 4 2 S__law_place
/-! ### _law_world -/
def S__law_world : DS := (sSeq (sParFF 3 4 (lLst aNil) (lLst aNil))
    (sSeq (sFor (iSeqD (dOp ixD (dVar 1) (dC (.int 0)))) (gT 2 (gsCons (gN 5) (gsCons (gN 6) gsNil))) (sApp 3 (dUn tupleD (dFrz (lComp [7] (iSeqD (dCall F__law_tuples (aCons (dVar 2) (aCons (dVar 6) aNil)))) (gN 7) (bVal (dOp eqD (dCallI F__law_take 0 (aCons (dC (.int 2)) aNil)) (dC (.int 0)))) (dVar 7))))))
    (sSeq (sFor (iSeqD (dOp ixD (dVar 1) (dC (.int 1)))) (gT 2 (gsCons (gN 5) (gsCons (gN 6) gsNil))) (sApp 4 (dUn tupleD (dFrz (lComp [7] (iSeqD (dCall F__law_tuples (aCons (dVar 2) (aCons (dVar 6) aNil)))) (gN 7) bYes (dCallI F__law_take 0 (aCons (dVar 2) aNil)))))))
    (sRet (dTup (aCons (dVar 2) (aCons (dUn tupleD (dVw 3)) (aCons (dUn tupleD (dVw 4)) aNil))))))))
def F__law_world : List PyData → List PyData → Option (PyData × List PyData) := runI 8 3 S__law_world
/-! ### _law_all_cells -/
def S__law_all_cells : DS := (sSeq (sOwn 2 (lLst aNil))
    (sSeq (sFor (iSeqD (dOp ixD (dVar 0) (dC (.int 0)))) (gT 2 (gsCons (gN 3) (gsCons (gN 4) gsNil))) (sExt 2 (dFrz (lComp [5] (iSeqD (dCall F__law_tuples (aCons (dVar 1) (aCons (dVar 4) aNil)))) (gN 5) bYes (dTup (aCons (dC (.str "is")) (aCons (dVar 3) (aCons (dVar 5) aNil))))))))
    (sSeq (sFor (iSeqD (dOp ixD (dVar 0) (dC (.int 1)))) (gT 2 (gsCons (gN 3) (gsCons (gN 4) gsNil))) (sFor (iSeqD (dCall F__law_tuples (aCons (dVar 1) (aCons (dVar 4) aNil)))) (gN 5) (sExt 2 (dFrz (lComp [6] (iR1 (aCons (dVar 1) aNil)) (gN 6) bYes (dTup (aCons (dC (.str "of")) (aCons (dVar 3) (aCons (dVar 5) (aCons (dVar 6) aNil))))))))))
    (sFr 2 (sRet (dVar 2))))))
def F__law_all_cells : List PyData → Option PyData := runD 7 2 S__law_all_cells
/-! ### _law_so -/
def S__law_so : DS := (sSeq (sIf (bVal (dOp eqD (dOp ixD (dVar 2) (dC (.int 0))) (dC (.str "is")))) (sRet (dOp inD (dOp ixD (dVar 2) (dC (.int 2))) (dOp ixD (dOp ixD (dVar 1) (dC (.int 1))) (dMet idxD (dFrz (lComp [3, 4] (iSeqD (dOp ixD (dVar 0) (dC (.int 0)))) (gT 2 (gsCons (gN 3) (gsCons (gN 4) gsNil))) bYes (dVar 3))) (aCons (dOp ixD (dVar 2) (dC (.int 1))) aNil))))) sNext)
    (sRet (dOp eqD (dOp ixD (dOp ixD (dOp ixD (dVar 1) (dC (.int 2))) (dMet idxD (dFrz (lComp [3, 4] (iSeqD (dOp ixD (dVar 0) (dC (.int 1)))) (gT 2 (gsCons (gN 3) (gsCons (gN 4) gsNil))) bYes (dVar 3))) (aCons (dOp ixD (dVar 2) (dC (.int 1))) aNil))) (dCall F__law_place (aCons (dOp ixD (dVar 1) (dC (.int 0))) (aCons (dOp ixD (dVar 2) (dC (.int 2))) aNil)))) (dOp ixD (dVar 2) (dC (.int 3))))))
def F__law_so : List PyData → Option PyData := runD 5 3 S__law_so
/-! ### _law_are_literals -/
def S__law_are_literals : DS := (sSeq (sIf (bOr (bNot (bVal (dUn (isiD "tuple") (dVar 0)))) (bOr (bVal (dOp neD (dUn lenD (dVar 0)) (dVar 1))) (bNot (bVal (dUn allD (dFrz (lComp [2] (iSeqD (dVar 0)) (gN 2) bYes (dCall F__law_is_int (aCons (dVar 2) (aCons (dUn negD (dVar 1)) (aCons (dVar 1) aNil))))))))))) (sRet (dC (.bool false))) sNext)
    (sRet (dOp eqD (dFrz (lComp [2] (iSeqD (dVar 0)) (gN 2) bYes (dUn absD (dVar 2)))) (dFrz (lRg2 (dC (.int 1)) (dOp addD (dVar 1) (dC (.int 1))))))))
def F__law_are_literals : List PyData → Option PyData := runD 3 2 S__law_are_literals
/-! ### _law_right -/
def S__law_right : DS := (sSeq (sAsg (dTup (aCons (dCallI F__law_signs 0 (aCons (dC (.int 2)) (aCons (dC (.int 2)) aNil))) (aCons (dOp addD (dC (.int 1)) (dCallI F__law_take 0 (aCons (dC (.int 3)) aNil))) aNil))) (gT 2 (gsCons (gN 1) (gsCons (gN 2) gsNil))))
    (sSeq (sAsg (dTup (aCons (dCall F__law_all_cells (aCons (dVar 1) (aCons (dVar 2) aNil))) (aCons (dCallI F__law_world 0 (aCons (dVar 1) (aCons (dVar 2) aNil))) aNil))) (gT 2 (gsCons (gN 3) (gsCons (gN 4) gsNil))))
    (sSeq (sIf (bVal (dOp neD (dUn reprD (dCall F_cells (aCons (dVar 1) (aCons (dVar 2) aNil)))) (dUn reprD (dUn tupleD (dVar 3))))) (sRet (dC (.bool false))) sNext)
    (sSeq (sSet 5 (dUn tupleD (dFrz (lComp [6, 7] (iEnD (dVar 3)) (gT 2 (gsCons (gN 6) (gsCons (gN 7) gsNil))) bYes (dIf (bVal (dCall F__law_so (aCons (dVar 1) (aCons (dVar 4) (aCons (dVar 7) aNil))))) (dOp addD (dVar 6) (dC (.int 1))) (dOp subD (dUn negD (dVar 6)) (dC (.int 1))))))))
    (sSeq (sIf (bOr (bVal (dOp neD (dUn reprD (dCall F_cells_in (aCons (dVar 1) (aCons (dVar 4) aNil)))) (dUn reprD (dVar 5)))) (bVal (dOp neD (dUn reprD (dCall (okOf F_world_by) (aCons (dVar 1) (aCons (dVar 2) (aCons (dVar 5) aNil))))) (dUn reprD (dVar 4))))) (sRet (dC (.bool false))) sNext)
    (sSeq (sSet 7 (dCallI F__law_of 0 (aCons (dVar 3) aNil)))
    (sSeq (sOwn 8 (lComp [9] (iSeqD (dVar 3)) (gN 9) bYes (dUn reprD (dVar 9))))
    (sSeq (sSet 10 (dFrz (lLst (aCons (dVar 7) (aCons (dFrz (lUn itemsD (dVar 7))) (aCons (dSl (dVar 7) oNo (oI (dC (.int 2)))) (aCons (dOp addD (dVar 7) (dTup (aCons (dC (.int 0)) aNil))) (aCons (dTup (aCons (dC (.str "is")) (aCons (dC (.str "none")) (aCons (dTup aNil) aNil)))) (aCons (dTup (aCons (dC (.str "of")) (aCons (dOp ixD (dOp ixD (dOp ixD (dVar 1) (dC (.int 0))) (dC (.int 0))) (dC (.int 0))) (aCons (dTup aNil) (aCons (dC (.int 0)) aNil))))) (aCons (dC .none) (aCons (dTup (aCons (dC (.bool true)) aNil)) aNil)))))))))))
    (sSeq (sFor (iSeqD (dOp addD (dOp addD (dVar 10) (dFrz (lComp [12] (iR1 (aCons (dC (.int 8)) aNil)) (gN 12) bYes (dCallI (F__law_bent 6) 0 (aCons (dVar 7) aNil))))) (dFrz (lLst (aCons (dCallI F__law_odd 0 aNil) aNil))))) (gN 11) (sSeq (sAsg (dCau caus (rCall F_cell_number (aCons (dVar 1) (aCons (dVar 2) (aCons (dVar 11) aNil))))) (gT 2 (gsCons (gN 13) (gsCons (gN 14) gsNil))))
    (sSeq (sFr 8 (sIf (bAnd (bVal (dOp inD (dUn reprD (dVar 11)) (dVw 8))) (bVal (dOp neD (dUn reprD (dVar 14)) (dUn reprD (dOp addD (dMet idxD (dVar 8) (aCons (dUn reprD (dVar 11)) aNil)) (dC (.int 1))))))) (sRet (dC (.bool false))) sNext))
    (sIf (bAnd (bVal (dOp notInD (dUn reprD (dVar 11)) (dVw 8))) (bOr (bNot (bVal (dUn (isxD isx_BadCell) (dVar 13)))) (bVal (dOp neD (dUn reprD (dUn (valD caus) (dVar 13))) (dUn reprD (dVar 11)))))) (sRet (dC (.bool false))) sNext))))
    (sSeq (sSet 15 (dUn tupleD (dFrz (lComp [6] (iR1 (aCons (dUn lenD (dVar 3)) aNil)) (gN 6) bYes (dOp mulD (dOp addD (dVar 6) (dC (.int 1))) (dCallI F__law_of 0 (aCons (dFrz (lLst (aCons (dC (.int 1)) (aCons (dUn negD (dC (.int 1))) aNil)))) aNil)))))))
    (sSeq (sFor (iSeqD (dOp addD (dOp addD (dFrz (lLst (aCons (dVar 5) (aCons (dVar 15) (aCons (dFrz (lUn itemsD (dVar 5))) (aCons (dSl (dVar 5) (oI (dC (.int 1))) oNo) (aCons (dOp addD (dVar 5) (dTup (aCons (dC (.int 0)) aNil))) (aCons (dUn revD (dVar 5)) (aCons (dC .none) (aCons (dTup aNil) aNil)))))))))) (dFrz (lComp [12] (iR1 (aCons (dC (.int 8)) aNil)) (gN 12) bYes (dCallI (F__law_bent 6) 0 (aCons (dVar 5) aNil))))) (dFrz (lLst (aCons (dCallI F__law_odd 0 aNil) aNil))))) (gN 11) (sSeq (sAsg (dCau caus (rCall F_world_by (aCons (dVar 1) (aCons (dVar 2) (aCons (dVar 11) aNil))))) (gT 2 (gsCons (gN 13) (gsCons (gN 14) gsNil))))
    (sIf (bNot (bVal (dCall F__law_are_literals (aCons (dVar 11) (aCons (dUn lenD (dVar 3)) aNil))))) (sIf (bOr (bNot (bVal (dUn (isxD isx_BadValues) (dVar 13)))) (bVal (dOp neD (dUn reprD (dUn (valD caus) (dVar 13))) (dUn reprD (dVar 11))))) (sRet (dC (.bool false))) sNext) (sSeq (sSet 16 (dFrz (lComp [9, 7] (iZpD (aCons (dVar 11) (aCons (dVar 3) aNil))) (gT 2 (gsCons (gN 9) (gsCons (gN 7) gsNil))) (bVal (dOp gtD (dVar 9) (dC (.int 0)))) (dVar 7))))
    (sSeq (sOwn 17 (lLst aNil))
    (sSeq (sFor (iSeqD (dOp ixD (dVar 1) (dC (.int 1)))) (gT 2 (gsCons (gN 18) (gsCons (gN 19) gsNil))) (sExt 17 (dFrz (lComp [20] (iSeqD (dCall F__law_tuples (aCons (dVar 2) (aCons (dVar 19) aNil)))) (gN 20) bYes (dMet cntD (dFrz (lComp [21] (iR1 (aCons (dVar 2) aNil)) (gN 21) bYes (dOp inD (dTup (aCons (dC (.str "of")) (aCons (dVar 18) (aCons (dVar 20) (aCons (dVar 21) aNil))))) (dVar 16)))) (aCons (dC (.bool true)) aNil))))))
    (sSeq (sFr 17 (sIf (bAnd (bVal (dUn anyD (dFrz (lComp [22] (iSeqD (dVar 17)) (gN 22) bYes (dOp neD (dVar 22) (dC (.int 1))))))) (bOr (bNot (bVal (dUn (isxD isx_NoWorld) (dVar 13)))) (bVal (dOp neD (dUn reprD (dUn (valD caus) (dVar 13))) (dUn reprD (dVar 11)))))) (sRet (dC (.bool false))) sNext))
    (sFr 17 (sIf (bAnd (bVal (dUn allD (dFrz (lComp [22] (iSeqD (dVar 17)) (gN 22) bYes (dOp eqD (dVar 22) (dC (.int 1))))))) (bOr (bVal (dOp isNotD (dVar 13) (dC .none))) (bVal (dOp neD (dFrz (lComp [7] (iSeqD (dVar 3)) (gN 7) (bVal (dCall F__law_so (aCons (dVar 1) (aCons (dVar 14) (aCons (dVar 7) aNil))))) (dVar 7))) (dVar 16))))) (sRet (dC (.bool false))) sNext)))))))))
    (sRet (dC (.bool true))))))))))))))
def F__law_right : List PyData → List PyData → Option (PyData × List PyData) := runI 23 1 S__law_right
/-! ### law -/
def S_law : DS := (sSeq (sFor (iSeqD (dCall F__law_cells (aCons (dVar 0) (aCons (dC (.int 3)) aNil)))) (gN 1) (sSeq (sOwn 2 (lCall F__law_pot (aCons (dVar 0) (aCons (dVar 1) aNil))))
    (sIf (bNot (bVal (dUn allD (dFrz (lComp [3] (iR1 (aCons (dC (.int 7)) aNil)) (gN 3) bYes (dCallI F__law_right 2 aNil)))))) (sRet (dC (.bool false))) sNext)))
    (sRet (dC (.bool true))))
def F_law : List PyData → Option PyData := runD 4 1 S_law
end DL
set_option Elab.async false
set_option linter.all false
set_option maxRecDepth 100000
set_option maxHeartbeats 1000000
/-! P0: how denotations are reckoned. -/
namespace DL
open PySem PySem.Spec L2
open PyProof.Rows hiding St
section
variable {ρ ρ1 : En} {F G J : DF} {A B : DFL} {c : DFB} {S T : DS} {d e : PyData} {ds es : List PyData} {i j n np : Nat}
@[simp] theorem e_dC : dC d ρ = some (d, ρ) := rfl
@[simp] theorem e_bYes : bYes ρ = some (true, ρ) := rfl
@[simp] theorem e_aNil : aNil ρ = some ([], ρ) := rfl
@[simp] theorem e_oNo : oNo ρ = some (none, ρ) := rfl
@[simp] theorem e_sNext : sNext ρ = some (.nx ρ) := rfl
@[simp] theorem e_sRetN : sRetN ρ = some (.rt .none ρ) := rfl
@[simp] theorem e_sBrk : sBrk ρ = some (.bk ρ) := rfl
@[simp] theorem e_sCont : sCont ρ = some (.ct ρ) := rfl
@[simp] theorem e_gN : gN i d ρ = some (ρ.set i (.dat d)) := rfl
@[simp] theorem e_gsNil : gsNil [] ρ = some ρ := rfl
@[simp] theorem e_gsCons {g : DG} {r : DGs} : gsCons g r (d :: ds) ρ = (g d ρ).bind fun ρ1 => r ds ρ1 := rfl
@[simp] theorem e_gT {r : DGs} : gT n r (.tuple ds) ρ = if ds.length = n then r ds ρ else none := rfl
@[simp] theorem e_asB {b : Bool} : asB (some (.bool b, ρ)) = some (b, ρ) := rfl
@[simp] theorem e_wipe0 : wipeE [] ρ = ρ := rfl
@[simp] theorem e_wipe1 {v : Nat} {vs : List Nat} : wipeE (v :: vs) ρ = (wipeE vs ρ).set v .emp := rfl
@[simp] theorem e_back0 : backE [] ρ ρ1 = ρ1 := rfl
/-- what a block's own name holds behind it -/
def nrmO : Option SV → SV
  | some (.dat d) => .dat d
  | _ => .emp
@[simp] theorem nrmO_d {d : PyData} : nrmO (some (.dat d)) = .dat d := rfl
@[simp] theorem nrmO_e : nrmO (some .emp) = .emp := rfl
@[simp] theorem e_back1 {v : Nat} {vs : List Nat} : backE (v :: vs) ρ ρ1 = (backE vs ρ ρ1).set v (nrmO ρ[v]?) := by
  show (match ρ[v]? with | some (.dat d) => (backE vs ρ ρ1).set v (.dat d) | _ => (backE vs ρ ρ1).set v .emp) = _
  split
  · rename_i d h; rw [h]; rfl
  · rename_i h
    cases e : ρ[v]? with
    | none => rfl
    | some s =>
      cases s with
      | dat d => exact absurd e (h d)
      | _ => rfl
end
@[simp] theorem e_dVar (i : Nat) (ρ : En) : dVar i ρ = (match ρ[i]? with
  | some (.dat d) => some (d, ρ)
  | _ => none) := rfl
@[simp] theorem e_vwD (ρ : En) (i : Nat) : vwD ρ i = (match ρ[i]? with
  | some (.dat d) => some d
  | some (.own ds) => some (.list ds)
  | _ => none) := by unfold vwD; rfl
@[simp] theorem e_dVw (i : Nat) (ρ : En) : dVw i ρ = ((vwD ρ i).map fun d => (d, ρ)) := rfl
@[simp] theorem e_dOp (f : PyData → PyData → Option PyData) (F G : DF) (ρ : En) : dOp f F G ρ = ((F ρ).bind fun p => (G p.2).bind fun q => (f p.1 q.1).map fun z => (z, q.2)) := rfl
@[simp] theorem e_dOpN (f : PyData → PyData → Option PyData) (i : Nat) (G : DF) (ρ : En) : dOpN f i G ρ = ((vwD ρ i).bind fun _ => (G ρ).bind fun q => (vwD q.2 i).bind fun d => (f d q.1).map fun z => (z, q.2)) := rfl
@[simp] theorem e_dUn (f : PyData → Option PyData) (F : DF) (ρ : En) : dUn f F ρ = ((F ρ).bind fun p => (f p.1).map fun z => (z, p.2)) := rfl
@[simp] theorem e_dIf (c : DFB) (F G : DF) (ρ : En) : dIf c F G ρ = ((c ρ).bind fun p => if p.1 = true then F p.2 else G p.2) := rfl
@[simp] theorem e_bVal (F : DF) (ρ : En) : bVal F ρ = (asB (F ρ)) := rfl
@[simp] theorem e_bNot (c : DFB) (ρ : En) : bNot c ρ = ((c ρ).map fun p => (!p.1, p.2)) := rfl
@[simp] theorem e_bAnd (c d : DFB) (ρ : En) : bAnd c d ρ = ((c ρ).bind fun p => if p.1 = true then d p.2 else some (false, p.2)) := rfl
@[simp] theorem e_bOr (c d : DFB) (ρ : En) : bOr c d ρ = ((c ρ).bind fun p => if p.1 = true then some (true, p.2) else d p.2) := rfl
@[simp] theorem e_dBool (c : DFB) (ρ : En) : dBool c ρ = ((c ρ).map fun p => (.bool p.1, p.2)) := rfl
@[simp] theorem e_dChain (f g : PyData → PyData → Option PyData) (F G J : DF) (ρ : En) : dChain f g F G J ρ = ((F ρ).bind fun p => (G p.2).bind fun q => match f p.1 q.1 with
  | some (.bool true) => (J q.2).bind fun r => (g q.1 r.1).map fun z => (z, r.2)
  | some (.bool false) => some (.bool false, q.2)
  | _ => none) := rfl
@[simp] theorem e_aCons (F : DF) (A : DFL) (ρ : En) : aCons F A ρ = ((F ρ).bind fun p => (A p.2).map fun q => (p.1 :: q.1, q.2)) := rfl
@[simp] theorem e_dTup (A : DFL) (ρ : En) : dTup A ρ = ((A ρ).bind fun p => if few p.1.length = true then some (.tuple p.1, p.2) else none) := rfl
@[simp] theorem e_lLst (A : DFL) (ρ : En) : lLst A ρ = ((A ρ).bind fun p => if few p.1.length = true then some (p.1, p.2) else none) := rfl
@[simp] theorem e_dFrz (A : DFL) (ρ : En) : dFrz A ρ = ((A ρ).map fun p => (.list p.1, p.2)) := rfl
@[simp] theorem e_dAndV (F G : DF) (ρ : En) : dAndV F G ρ = (match F ρ with
  | some (.bool true, ρ1) => G ρ1
  | some (.bool false, ρ1) => some (.bool false, ρ1)
  | _ => none) := rfl
@[simp] theorem e_dOrV (F G : DF) (ρ : En) : dOrV F G ρ = (match F ρ with
  | some (.bool true, ρ1) => some (.bool true, ρ1)
  | some (.bool false, ρ1) => G ρ1
  | _ => none) := rfl
@[simp] theorem e_dNotV (F : DF) (ρ : En) : dNotV F ρ = (match F ρ with
  | some (.bool b, ρ1) => some (.bool (!b), ρ1)
  | _ => none) := rfl
@[simp] theorem e_dCall (f : List PyData → Option PyData) (A : DFL) (ρ : En) : dCall f A ρ = ((A ρ).bind fun p => (f p.1).map fun z => (z, p.2)) := rfl
@[simp] theorem e_lUn (f : PyData → Option (List PyData)) (F : DF) (ρ : En) : lUn f F ρ = ((F ρ).bind fun p => (f p.1).map fun z => (z, p.2)) := rfl
@[simp] theorem e_dCallI (f : List PyData → List PyData → Option (PyData × List PyData)) (i : Nat) (A : DFL) (ρ : En) : dCallI f i A ρ = ((ownE ρ i).bind fun _ => (A ρ).bind fun p => (ownE p.2 i).bind fun xs => (f xs p.1).map fun z => (z.1, p.2.set i (.own z.2))) := rfl
@[simp] theorem e_lCall (f : List PyData → Option (List PyData)) (A : DFL) (ρ : En) : lCall f A ρ = ((A ρ).bind fun p => (f p.1).map fun z => (z, p.2)) := rfl
@[simp] theorem e_sSeq (S T : DS) (ρ : En) : sSeq S T ρ = (match S ρ with
  | some (.nx ρ1) => T ρ1
  | r => r) := rfl
@[simp] theorem e_sIf (c : DFB) (S T : DS) (ρ : En) : sIf c S T ρ = ((c ρ).bind fun p => if p.1 = true then S p.2 else T p.2) := rfl
@[simp] theorem e_sDrop (F : DF) (ρ : En) : sDrop F ρ = ((F ρ).map fun p => .nx p.2) := rfl
@[simp] theorem e_sRet (F : DF) (ρ : En) : sRet F ρ = ((F ρ).map fun p => .rt p.1 p.2) := rfl
@[simp] theorem e_sRetF (A : DFL) (ρ : En) : sRetF A ρ = ((A ρ).map fun p => .rf p.1 p.2) := rfl
@[simp] theorem e_sSet (i : Nat) (F : DF) (ρ : En) : sSet i F ρ = ((F ρ).map fun p => .nx (p.2.set i (.dat p.1))) := rfl
@[simp] theorem e_sOwn (i : Nat) (A : DFL) (ρ : En) : sOwn i A ρ = ((A ρ).map fun p => .nx (p.2.set i (.own p.1))) := rfl
@[simp] theorem e_frE (i : Nat) (ρ : En) : frE i ρ = (match ρ[i]? with
  | some (.own ds) => ρ.set i (.dat (.list ds))
  | _ => ρ) := by unfold frE; rfl
@[simp] theorem e_sFr (i : Nat) (S : DS) (ρ : En) : sFr i S ρ = (S (frE i ρ)) := rfl
@[simp] theorem e_sAsg (F : DF) (g : DG) (ρ : En) : sAsg F g ρ = ((F ρ).bind fun p => (g p.1 p.2).map .nx) := rfl
@[simp] theorem e_sFor (I : DFL) (g : DG) (S : DS) (ρ : En) : sFor I g S ρ = ((I ρ).bind fun p => loopD g S p.1 p.2) := rfl
@[simp] theorem e_ownE (ρ : En) (i : Nat) : ownE ρ i = (match ρ[i]? with
  | some (.own ds) => some ds
  | _ => none) := by unfold ownE; rfl
@[simp] theorem e_sApp (i : Nat) (F : DF) (ρ : En) : sApp i F ρ = ((ownE ρ i).bind fun _ => (F ρ).bind fun p => (ownE p.2 i).bind fun ds => if ds.length < 16777216 then some (.nx (p.2.set i (.own (ds ++ [p.1])))) else none) := rfl
@[simp] theorem e_sExt (i : Nat) (F : DF) (ρ : En) : sExt i F ρ = ((ownE ρ i).bind fun _ => (F ρ).bind fun p => match p.1 with
  | .list es => (ownE p.2 i).bind fun ds => if ds.length + es.length ≤ 16777216 then some (.nx (p.2.set i (.own (ds ++ es)))) else none
  | _ => none) := rfl
@[simp] theorem e_iL (F : DF) (ρ : En) : iL F ρ = ((F ρ).bind fun p => match p.1 with
  | .list ds => some (ds, p.2)
  | _ => none) := rfl
@[simp] theorem e_iT (F : DF) (ρ : En) : iT F ρ = ((F ρ).bind fun p => match p.1 with
  | .tuple ds => some (ds, p.2)
  | _ => none) := rfl
theorem e_iR1 (A : DFL) (ρ : En) : iR1 A ρ = ((A ρ).bind fun p => match p.1 with
  | [.int j] => if small62 j = true then some (rngD 0 j.toNat, p.2) else none
  | _ => none) := rfl
theorem e_iR2 (A : DFL) (ρ : En) : iR2 A ρ = ((A ρ).bind fun p => match p.1 with
  | [.int i, .int j] => if (small62 i && small62 j) = true then some (rngD i (j - i).toNat, p.2) else none
  | _ => none) := rfl
@[simp] theorem e_iSeqD (F : DF) (ρ : En) : iSeqD F ρ = ((F ρ).bind fun p => match p.1 with
  | .list ds => some (ds, p.2)
  | .tuple ds => some (ds, p.2)
  | .str z => some (signsD z, p.2)
  | _ => none) := rfl
@[simp] theorem e_iEnD (F : DF) (ρ : En) : iEnD F ρ = ((F ρ).bind fun p => (seqD p.1).map fun q => (numbD q.2, p.2)) := rfl
@[simp] theorem e_iZpD (A : DFL) (ρ : En) : iZpD A ρ = ((A ρ).bind fun p => match p.1 with
  | [x, y] => (seqD x).bind fun a => (seqD y).map fun b => (zipD a.2 b.2, p.2)
  | _ => none) := rfl
theorem e_lRg1 (F : DF) (ρ : En) : lRg1 F ρ = ((F ρ).bind fun p => match p.1 with
  | .int j => if rgB 0 j = true then some (rngD 0 j.toNat, p.2) else none
  | _ => none) := rfl
theorem e_lRg2 (F G : DF) (ρ : En) : lRg2 F G ρ = ((F ρ).bind fun p => (G p.2).bind fun q => match p.1, q.1 with
  | .int i, .int j => if rgB i j = true then some (rngD i (j - i).toNat, q.2) else none
  | _, _ => none) := rfl
@[simp] theorem e_dSl (F : DF) (L U : DO) (ρ : En) : dSl F L U ρ = ((F ρ).bind fun p => (L p.2).bind fun l => (U l.2).bind fun u => (slD p.1 l.1 u.1).map fun z => (z, u.2)) := rfl
@[simp] theorem e_oI (F : DF) (ρ : En) : oI F ρ = ((F ρ).bind fun p => match p.1 with
  | .int i => some (some i, p.2)
  | _ => none) := rfl
@[simp] theorem e_dMet (f : List PyData → List PyData → Option PyData) (F : DF) (A : DFL) (ρ : En) : dMet f F A ρ = ((F ρ).bind fun p => (A p.2).bind fun q => match p.1 with
  | .list ds => (f ds q.1).map fun z => (z, q.2)
  | _ => none) := rfl
@[simp] theorem e_dPopAt (i : Nat) (F : DF) (ρ : En) : dPopAt i F ρ = ((ownE ρ i).bind fun _ => (F ρ).bind fun p => (ownE p.2 i).bind fun ds => match p.1 with
  | .int j => if few ds.length = true then (ixN ds.length j).bind fun k => (ds[k]?).map fun z => (z, p.2.set i (.own (ds.eraseIdx k))) else none
  | _ => none) := rfl
@[simp] theorem e_sPut (i : Nat) (F G : DF) (ρ : En) : sPut i F G ρ = ((F ρ).bind fun p => (ownE p.2 i).bind fun _ => (G p.2).bind fun q => (ownE q.2 i).bind fun ds => match q.1 with
  | .int j => (ixN ds.length j).map fun k => .nx (q.2.set i (.own (ds.set k p.1)))
  | _ => none) := rfl
@[simp] theorem e_sParMM (i j : Nat) (F G : DF) (ρ : En) : sParMM i j F G ρ = ((F ρ).bind fun p => (G p.2).map fun q => .nx ((q.2.set i (.dat p.1)).set j (.dat q.1))) := rfl
@[simp] theorem e_sParFF (i j : Nat) (A B : DFL) (ρ : En) : sParFF i j A B ρ = ((A ρ).bind fun p => (B p.2).map fun q => .nx ((q.2.set i (.own p.1)).set j (.own q.1))) := rfl
@[simp] theorem e_sRaise (c : Str) (F : DF) (ρ : En) : sRaise c F ρ = ((F ρ).map fun p => .ex c p.1) := rfl
@[simp] theorem e_aStar (F : DF) (A : DFL) (ρ : En) : aStar F A ρ = ((F ρ).bind fun p => (seqD p.1).bind fun z => (A p.2).map fun q => (z.2 ++ q.1, q.2)) := rfl
@[simp] theorem e_lComp (vs : List Nat) (I : DFL) (g : DG) (C : DFB) (F : DF) (ρ : En) : lComp vs I g C F ρ = ((I ρ).bind fun p => if few p.1.length = true then (compD vs g C F p.1 (wipeE vs p.2)).map fun q => (q.1, backE vs p.2 q.2) else none) := rfl
@[simp] theorem e_dCau (cs : List Str) (R : En → Option (Rs × En)) (ρ : En) : dCau cs R ρ = ((R ρ).bind fun p => match p.1 with
  | .ok d => some (.tuple [.none, d], p.2)
  | .er c d => if c ∈ cs then some (.tuple [excD c d, .none], p.2) else none) := rfl
@[simp] theorem e_rCall (f : List PyData → Option Rs) (A : DFL) (ρ : En) : rCall f A ρ = ((A ρ).bind fun p => (f p.1).map fun r => (r, p.2)) := rfl
theorem iR1_ok {A : DFL} {ρ ρ1 : En} {j : Int} (hA : A ρ = some ([.int j], ρ1)) (h : small62 j = true) : iR1 A ρ = some (rngD 0 j.toNat, ρ1) := by
  unfold iR1
  rw [hA]
  exact if_pos h
theorem lRg1_ok {F : DF} {ρ ρ1 : En} {j : Int} (hA : F ρ = some (.int j, ρ1)) (h : rgB 0 j = true) : lRg1 F ρ = some (rngD 0 j.toNat, ρ1) := by
  unfold lRg1
  rw [hA]
  exact if_pos h
/-! ### blocks and turns -/
theorem comp_pure {β : Type} {vs : List Nat} {g : DG} {C : DFB} {F : DF} {enc out : β → PyData} {ρ : En} {p : β → Bool} : ∀ {xs : List β}, (∀ x ∈ xs, ∃ ρ1, g (enc x) ρ = some ρ1 ∧ C ρ1 = some (p x, ρ1) ∧ wipeE vs ρ1 = ρ ∧ (p x = true → F ρ1 = some (out x, ρ1))) →
    compD vs g C F (xs.map enc) ρ = some ((xs.filter p).map out, ρ)
  | [], _ => rfl
  | x :: xs, h => by
    obtain ⟨ρ1, h1, h2, h3, h4⟩ := h x List.mem_cons_self
    have ih := comp_pure (xs := xs) fun y hy => h y (List.mem_cons_of_mem _ hy)
    simp only [List.map_cons, compD, h1, h2, Option.bind_some]
    cases hp : p x with
    | true => rw [h4 hp]; simp [h3, ih, hp]
    | false => simp [h3, ih, hp]
theorem comp_map {β : Type} {vs : List Nat} {g : DG} {C : DFB} {F : DF} {enc out : β → PyData} {ρ : En} {xs : List β} (h : ∀ x ∈ xs, ∃ ρ1, g (enc x) ρ = some ρ1 ∧ C ρ1 = some (true, ρ1) ∧ wipeE vs ρ1 = ρ ∧ F ρ1 = some (out x, ρ1)) :
    compD vs g C F (xs.map enc) ρ = some (xs.map out, ρ) := by
  have := comp_pure (p := fun _ => true) (xs := xs) (vs := vs) (g := g) (C := C) (F := F) (enc := enc) (out := out) (ρ := ρ) fun x hx => let ⟨ρ1, a, b, c, d⟩ := h x hx; ⟨ρ1, a, b, c, fun _ => d⟩
  rw [List.filter_eq_self.mpr (fun _ _ => rfl)] at this
  exact this
/-- the state as a function of what has been gone through -/
theorem loop_pre {β : Type} {g : DG} {S : DS} {enc : β → PyData} (E : List β → En) {xs : List β} : ∀ {pre post : List β}, xs = pre ++ post → (∀ pre x post, xs = pre ++ x :: post → ∃ ρ1, g (enc x) (E pre) = some ρ1 ∧ S ρ1 = some (.nx (E (pre ++ [x])))) →
    loopD g S (post.map enc) (E pre) = some (.nx (E xs))
  | pre, [], e, _ => by simp at e; subst e; rfl
  | pre, x :: post, e, h => by
    obtain ⟨ρ1, h1, h2⟩ := h pre x post e
    simp only [List.map_cons, loopD, h1, h2, Option.bind_some]
    exact loop_pre E (by simp [e]) h
theorem loop_all {β : Type} {g : DG} {S : DS} {enc : β → PyData} (E : List β → En) {xs : List β} (h : ∀ pre x post, xs = pre ++ x :: post → ∃ ρ1, g (enc x) (E pre) = some ρ1 ∧ S ρ1 = some (.nx (E (pre ++ [x])))) : loopD g S (xs.map enc) (E []) = some (.nx (E xs)) :=
  loop_pre E rfl h
/-- the slot of a turn's variable -/
def lastS {β : Type} (enc : β → PyData) (s0 : SV) (pre : List β) : SV := match pre.getLast? with
  | none => s0
  | some x => .dat (enc x)
@[simp] theorem lastS_nil {β : Type} {enc : β → PyData} {s0 : SV} : lastS enc s0 [] = s0 := rfl
@[simp] theorem lastS_app {β : Type} {enc : β → PyData} {s0 : SV} {pre : List β} {x : β} : lastS enc s0 (pre ++ [x]) = .dat (enc x) := by simp [lastS]

def isI : PyData → Bool
  | .int _ => true
  | _ => false
theorem is_integer_eq {d : PyData} (h : isExc d = false) : F_is_integer [d] = some (.bool (isI d)) := by
  cases d <;> simp_all [F_is_integer, S_is_integer, isiD, isTy, isI, runD, en0]
def betw (i j : Int) : PyData → Bool
  | .int n => decide (i ≤ n) && decide (n ≤ j)
  | _ => false
theorem is_between_eq {d : PyData} {i j : Int} (h : isExc d = false) : F_is_between [d, .int i, .int j] = some (.bool (betw i j d)) := by
  simp [F_is_between, S_is_between, is_integer_eq h, runD, en0]
  cases d <;> simp [isI, leD, cmpD, betw]
  rename_i n
  by_cases h1 : i ≤ n <;> simp [h1]
end DL
set_option Elab.async false
set_option linter.all false
set_option maxRecDepth 100000
set_option maxHeartbeats 1000000
/-! P1: pots, and what is drawn of them. -/
namespace DL
open PySem PySem.Spec L2
open PyProof.Rows hiding St
def pt (a b c : Int) : List PyData := [.int a, .int b, .int c]
structure Good (n : Nat) (xs : List PyData) : Prop where
  ex : ∃ a b c : Int, xs = pt a b c ∧ 0 ≤ a ∧ 0 ≤ b ∧ b < 4611686018427387904 ∧ 0 ≤ c ∧ c ≤ n
theorem Good.mono {n m : Nat} {xs : List PyData} (g : Good n xs) (h : n ≤ m) : Good m xs := by
  obtain ⟨a, b, c, e, h1, h2, h3, h4, h5⟩ := g.ex
  exact ⟨a, b, c, e, h1, h2, h3, h4, by omega⟩
theorem log2_lt' {n k : Nat} (h : n < 2 ^ k) (hk : 0 < k) : n.log2 < k := by
  by_cases e : n = 0
  · subst e; simpa using hk
  · exact (Nat.log2_lt e).mpr h
theorem mul_ok {i j : Int} (hi : i.natAbs < 2 ^ 1000) (hj : j.natAbs < 2 ^ 1000) : mulD (.int i) (.int j) = some (.int (i * j)) := by
  have h1 := log2_lt' hi (by decide)
  have h2 := log2_lt' hj (by decide)
  exact if_pos (decide_eq_true (by omega))
theorem small_lt {i : Int} {n : Nat} (h : i.natAbs < n) {k : Nat} (hn : n ≤ 2 ^ k) : i.natAbs < 2 ^ k := Nat.lt_of_lt_of_le h hn
@[simp] theorem add_int {i j : Int} : addD (.int i) (.int j) = some (.int (i + j)) := rfl
@[simp] theorem sub_int' {i j : Int} : subD (.int i) (.int j) = some (.int (i - j)) := by simp [subD, intD]
@[simp] theorem toInt_int {i : Int} : toIntD (.int i) = some (.int i) := rfl
@[simp] theorem gt_int {i j : Int} : gtD (.int i) (.int j) = some (.bool (decide (j < i))) := rfl
@[simp] theorem ge_int {i j : Int} : geD (.int i) (.int j) = some (.bool (decide (j ≤ i))) := rfl
@[simp] theorem le_int {i j : Int} : leD (.int i) (.int j) = some (.bool (decide (i ≤ j))) := rfl
@[simp] theorem lt_int {i j : Int} : ltD (.int i) (.int j) = some (.bool (decide (i < j))) := rfl
theorem mod_ok {i j : Int} (h : 0 < j) : modD (.int i) (.int j) = some (.int (i.fmod j)) := by
  exact if_pos (decide_eq_true (by omega))
theorem fdiv_ok {i j : Int} (h : 0 < j) (h2 : j < 1073741824) : fdivD (.int i) (.int j) = some (.int (i.fdiv j)) := by
  exact if_pos (decide_eq_true (by omega))
theorem fmod_nn {i j : Int} (h : 0 < j) : 0 ≤ i.fmod j ∧ i.fmod j < j := ⟨Int.fmod_nonneg_of_pos _ h, Int.fmod_lt_of_pos _ h⟩
theorem fdiv_nn {i j : Int} (h : 0 < j) (hi : 0 ≤ i) : 0 ≤ i.fdiv j := Int.fdiv_nonneg hi (by omega)
theorem isome_pow {i : Int} (h : i.natAbs < 2 ^ 1000) : powD (.int i) (.int 3) = some (.int (i ^ 3)) := by
  refine if_pos (decide_eq_true ⟨by decide, ?_⟩)
  unfold Builtin.Int.intBits
  have := log2_lt' h (by decide)
  split <;> omega
/-- one of five primes -/
def prim (k : Int) : Int := if k = 0 then 2147480971 else if k = 1 then 2147480969 else if k = 2 then 2147480967 else if k = 3 then 2147480957 else 2147480951
theorem prim_ix {k : Int} (h : 0 ≤ k) (h2 : k < 5) : ixD (.list [.int 2147480971, .int 2147480969, .int 2147480967, .int 2147480957, .int 2147480951]) (.int k) = some (.int (prim k)) := by
  have : k = 0 ∨ k = 1 ∨ k = 2 ∨ k = 3 ∨ k = 4 := by omega
  rcases this with rfl | rfl | rfl | rfl | rfl <;> rfl
theorem prim_lt {k : Int} : 0 < prim k ∧ prim k < 2147483648 := by unfold prim; split <;> (try split) <;> (try split) <;> (try split) <;> decide
theorem abs_lt {i : Int} {n : Nat} (h : 0 ≤ i) (h2 : i < n) : i.natAbs < n := by omega
theorem nat_le_pow : (2 : Nat) ^ 400 ≤ 2 ^ 1000 := Nat.pow_le_pow_right (by decide) (by decide)
theorem big {i : Int} (h : 0 ≤ i) (h2 : i < 2 ^ 400) : i.natAbs < 2 ^ 1000 := by
  refine Nat.lt_of_lt_of_le ?_ nat_le_pow
  have : (i.natAbs : Int) = i := Int.natAbs_of_nonneg h
  have h3 : (i.natAbs : Int) < ((2 ^ 400 : Nat) : Int) := by rw [this]; exact_mod_cast h2
  exact_mod_cast h3
theorem take_ok {n : Nat} {xs : List PyData} (hn : n ≤ 1000000) (G : Good n xs) {u : Int} (hu : 0 < u) (hu2 : u < 1073741824) :
    ∃ (k : Int) (ys : List PyData), F__law_take xs [.int u] = some (.int k, ys) ∧ 0 ≤ k ∧ k < u ∧ Good (n + 1) ys := by
  obtain ⟨a, b, c, rfl, h1, h2, h3, h4, h5⟩ := G.ex
  by_cases ha : 0 < a
  · refine ⟨a.fmod u, pt (a.fdiv u) b c, ?_, (fmod_nn hu).1, (fmod_nn hu).2, ⟨_, _, _, rfl, fdiv_nn hu h1, h2, h3, h4, by omega⟩⟩
    simp [F__law_take, S__law_take, runI, en1, pt, ixD, atI, ixN, ha, mod_ok hu, fdiv_ok hu hu2]
  · have hc : 0 ≤ c + 1 := by omega
    have m5 := fmod_nn (i := c + 1) (j := 5) (by decide)
    have hp := prim_lt (k := (c + 1).fmod 5)
    generalize hm : c + 1 = m at *
    have hm1 : m ≤ 1000001 := by omega
    have sm : ∀ {x : Int}, 0 ≤ x → x < 1606938044258990275541962092341162602522202993782792835301376 → x.natAbs < 2 ^ 1000 := fun {x} h1 h2 => by
      refine Nat.lt_of_lt_of_le (abs_lt (n := 2 ^ 200) h1 (by simpa using h2)) (Nat.pow_le_pow_right (by decide) (by decide))
    have q1 : mulD (.int 46309) (.int m) = some (.int (46309 * m)) := mul_ok (by decide) (sm hc (by omega))
    have hmm : 0 ≤ 46309 * m * m := Int.mul_nonneg (by omega) hc
    have hmm2 : 46309 * m * m ≤ 46309 * 1000001 * 1000001 := Int.mul_le_mul (by omega) hm1 hc (by decide)
    have q2 : mulD (.int (46309 * m)) (.int m) = some (.int (46309 * m * m)) := mul_ok (sm (by omega) (by omega)) (sm hc (by omega))
    have hv0 : 0 ≤ b + 46309 * m * m + 2953 := by omega
    have hv1 : b + 46309 * m * m + 2953 < 1606938044258990275541962092341162602522202993782792835301376 := by omega
    have q3 := isome_pow (sm hv0 hv1)
    generalize hv : b + 46309 * m * m + 2953 = v at *
    have q4 : modD (.int (v ^ 3)) (.int (prim (m.fmod 5))) = some (.int ((v ^ 3).fmod (prim (m.fmod 5)))) := mod_ok hp.1
    have b1 := fmod_nn (i := v ^ 3) hp.1
    generalize hb : (v ^ 3).fmod (prim (m.fmod 5)) = bl at *
    have b2 := fmod_nn (i := bl) (j := 7297) (by decide)
    have q5 : mulD (.int 353) (.int m) = some (.int (353 * m)) := mul_ok (by decide) (sm hc (by omega))
    have q6 : mulD (.int bl) (.int (bl.fmod 7297 + 353 * m)) = some (.int (bl * (bl.fmod 7297 + 353 * m))) := mul_ok (sm b1.1 (by omega)) (sm (by omega) (by omega))
    have b3 := fmod_nn (i := bl * (bl.fmod 7297 + 353 * m)) (j := 2305843009213693907) (by decide)
    refine ⟨(((bl * (bl.fmod 7297 + 353 * m)).fmod 2305843009213693907).fdiv 157).fmod u, pt a b m, ?_, (fmod_nn hu).1, (fmod_nn hu).2, ⟨_, _, _, rfl, h1, h2, h3, hc, by omega⟩⟩
    have q7 : ixD (.list [.int 2147480971, .int 2147480969, .int 2147480967, .int 2147480957, .int 2147480951]) (.int (m.fmod 5)) = some (.int (prim (m.fmod 5))) := prim_ix m5.1 m5.2
    have r0 : ixD (.list (pt a b c)) (.int 0) = some (.int a) := rfl
    have r2 : ixD (.list (pt a b c)) (.int 2) = some (.int c) := rfl
    have t1 : ixD (.list (pt a b m)) (.int 1) = some (.int b) := rfl
    have t2 : ixD (.list (pt a b m)) (.int 2) = some (.int m) := rfl
    have st : (pt a b c).set 2 (.int m) = pt a b m := rfl
    have len : (pt a b c).length = 3 := rfl
    have few5 : few 5 = true := by decide
    have m5' : modD (.int m) (.int 5) = some (.int (m.fmod 5)) := mod_ok (by decide)
    have m7 : modD (.int bl) (.int 7297) = some (.int (bl.fmod 7297)) := mod_ok (by decide)
    have m8 : modD (.int (bl * (bl.fmod 7297 + 353 * m))) (.int 2305843009213693907) = some (.int ((bl * (bl.fmod 7297 + 353 * m)).fmod 2305843009213693907)) := mod_ok (by decide)
    have f1 : fdivD (.int ((bl * (bl.fmod 7297 + 353 * m)).fmod 2305843009213693907)) (.int 157) = some (.int (((bl * (bl.fmod 7297 + 353 * m)).fmod 2305843009213693907).fdiv 157)) := fdiv_ok (by decide) (by decide)
    have ix2 : ixN 3 2 = some 2 := rfl
    simp [F__law_take, S__law_take, runI, en1, r0, r2, t1, t2, st, len, ha, hm, ix2, few5, q7, m5', q1, q2, hv, q3, q4, m7, q5, q6, m8, f1, mod_ok hu]
end DL
set_option Elab.async false
set_option linter.all false
set_option maxRecDepth 100000
set_option maxHeartbeats 1000000
/-! P2: more that is drawn. -/
namespace DL
open PySem PySem.Spec L2
open PyProof.Rows hiding St
theorem ixN_in {n : Nat} {k : Int} (h : 0 ≤ k) (h2 : k < n) : ixN n k = some k.toNat := by
  unfold ixN
  rw [if_pos h, if_pos h2]
theorem atI_in {ds : List PyData} {k : Int} (h : 0 ≤ k) (h2 : k < ds.length) : ∃ d, atI ds k = some d ∧ d ∈ ds := by
  have hk : k.toNat < ds.length := by omega
  refine ⟨ds[k.toNat], ?_, List.getElem_mem hk⟩
  unfold atI
  rw [ixN_in h h2, Option.bind_some, List.getElem?_eq_getElem hk]
theorem of_ok {n : Nat} {xs : List PyData} (hn : n ≤ 1000000) (G : Good n xs) {ds : List PyData} (h0 : ds ≠ []) (hl : ds.length < 1073741824) :
    ∃ d ys, F__law_of xs [.list ds] = some (d, ys) ∧ d ∈ ds ∧ Good (n + 1) ys := by
  have hp : 0 < ds.length := List.length_pos_iff.mpr h0
  obtain ⟨k, ys, e, k1, k2, G2⟩ := take_ok hn G (u := (ds.length : Int)) (by omega) (by omega)
  obtain ⟨d, e2, hd⟩ := atI_in (ds := ds) k1 k2
  refine ⟨d, ys, ?_, hd, G2⟩
  simp [F__law_of, S__law_of, runI, en1, lenD, ixD, e, e2]
theorem ofT_ok {n : Nat} {xs : List PyData} (hn : n ≤ 1000000) (G : Good n xs) {ds : List PyData} (h0 : ds ≠ []) (hl : ds.length < 1073741824) :
    ∃ d ys, F__law_of xs [.tuple ds] = some (d, ys) ∧ d ∈ ds ∧ Good (n + 1) ys := by
  have hp : 0 < ds.length := List.length_pos_iff.mpr h0
  obtain ⟨k, ys, e, k1, k2, G2⟩ := take_ok hn G (u := (ds.length : Int)) (by omega) (by omega)
  obtain ⟨d, e2, hd⟩ := atI_in (ds := ds) k1 k2
  refine ⟨d, ys, ?_, hd, G2⟩
  simp [F__law_of, S__law_of, runI, en1, lenD, ixD, e, e2]
/-! ### law_some -/
theorem rng_len {i : Int} {n : Nat} : (rngD i n).length = n := by simp [rngD]
/-- a turn of law_some -/
theorem some_loop {many : PyData} {sm : PyData} : ∀ (m n : Nat) (xs left found : List PyData) (s5 : SV) (js : List PyData), js.length = m → n + m ≤ 1000000 → Good n xs → m ≤ left.length → left.length < 1073741 → found.length + m < 1000000 → left.Nodup → (∀ d ∈ left, d ∉ found) → found.Nodup →
    ∃ ys left' found' s5', loopD (gN 5) (sApp 4 (dPopAt 3 (dCallI F__law_take 0 (aCons (dUn lenD (dVw 3)) aNil)))) js [.own xs, .dat sm, .dat many, .own left, .own found, s5] = some (.nx [.own ys, .dat sm, .dat many, .own left', .own found', s5']) ∧ Good (n + m) ys ∧ found'.length = found.length + m ∧ found'.Nodup ∧ ∀ d ∈ found', d ∈ found ∨ d ∈ left
  | 0, n, xs, left, found, s5, js, h, hn, G, h1, h2, h3, h4, h5, h6 => by
    cases js with
    | cons a b => simp at h
    | nil => exact ⟨xs, left, found, s5, rfl, by simpa using G, by simp, h6, fun d hd => .inl hd⟩
  | m + 1, n, xs, left, found, s5, js, h, hn, G, h1, h2, h3, h4, h5, h6 => by
    cases js with
    | nil => simp at h
    | cons j js =>
      have hp : 0 < left.length := by omega
      obtain ⟨k, ys, e, k1, k2, G2⟩ := take_ok (by omega) G (u := (left.length : Int)) (by omega) (by omega)
      have hk : k.toNat < left.length := by omega
      have hx : left[k.toNat] ∈ left := List.getElem_mem hk
      have fw : few left.length = true := decide_eq_true (by omega)
      have nd2 : (left.eraseIdx k.toNat).Nodup := h4.sublist (List.eraseIdx_sublist _ _)
      have sub : ∀ d ∈ left.eraseIdx k.toNat, d ∈ left := fun d hd => (List.eraseIdx_sublist _ _).subset hd
      have out : left[k.toNat] ∉ left.eraseIdx k.toNat := by
        intro hm
        obtain ⟨i, hi, hne⟩ := List.mem_eraseIdx_iff_getElem.mp hm
        obtain ⟨hi2, hne2⟩ := hne
        exact hi2 ((List.getElem_inj h4).mp hne2)
      obtain ⟨ys', left', found', s5', q1, q2, q3, q4, q5⟩ := some_loop (many := many) (sm := sm) m (n + 1) ys (left.eraseIdx k.toNat) (found ++ [left[k.toNat]]) (.dat j) js (by simpa using h) (by omega) G2 (by rw [List.length_eraseIdx]; simp [hk]; omega) (by rw [List.length_eraseIdx]; simp [hk]; omega) (by simp; omega) nd2
        (fun d hd hf => by
          rcases List.mem_append.mp hf with z | z
          · exact h5 d (sub d hd) z
          · simp at z; subst z; exact out hd)
        (by
          rw [List.nodup_append]
          exact ⟨h6, by simp, fun a ha b hb => by simp at hb; subst hb; intro z; subst z; exact h5 _ hx ha⟩)
      refine ⟨ys', left', found', s5', ?_, by rw [show n + (m + 1) = n + 1 + m by omega]; exact q2, by rw [q3]; simp; omega, q4, fun d hd => ?_⟩
      · have fl : found.length < 16777216 := by omega
        simp only [loopD, e_gN]
        simp [lenD, e, ixN_in k1 k2, fw, List.getElem?_eq_getElem hk, fl]
        exact q1
      · rcases q5 d hd with z | z
        · rcases List.mem_append.mp z with z | z
          · exact .inl z
          · simp at z; subst z; exact .inr hx
        · exact .inr (sub d z)
theorem small_ok {i : Int} (h : 0 ≤ i) (h2 : i < 1000000) : small62 i = true := by
  have e1 : (-(2 ^ 62) : Int) ≤ i := Int.le_trans (by decide) h
  have e2 : i < (2 ^ 62 : Int) := Int.lt_of_lt_of_le h2 (by decide)
  unfold small62
  rw [decide_eq_true e1, decide_eq_true e2]
  rfl
theorem hh2 {A : DFL} {ρ : En} {many : Nat} (hA : A ρ = some ([.int many], ρ)) (sm : small62 (many : Int) = true) : iR1 A ρ = some (rngD 0 (many : Int).toNat, ρ) := iR1_ok hA sm
theorem sSeq_nx {S T : DS} {ρ ρ1 : En} (h : S ρ = some (.nx ρ1)) : sSeq S T ρ = T ρ1 := by unfold sSeq; rw [h]
theorem sFor_ok {I : DFL} {g : DG} {S : DS} {ρ ρ1 : En} {ds : List PyData} (h : I ρ = some (ds, ρ1)) : sFor I g S ρ = loopD g S ds ρ1 := by unfold sFor; rw [h]; rfl
theorem runI_eq {n np : Nat} {S : DS} {xs ds ys : List PyData} {d : PyData} {ρ : En} (hl : ds.length + 1 = np) (h : S (en1 n xs ds) = some (.rt d ρ)) (h0 : ownE ρ 0 = some ys) : runI n np S xs ds = some (d, ys) := by
  unfold runI
  rw [if_pos hl, h]
  show (ownE ρ 0).map _ = _
  rw [h0]
  rfl
theorem some_ok {n : Nat} {xs : List PyData} {many : Nat} (hn : n + many ≤ 1000000) (G : Good n xs) {ds : List PyData} (nd : ds.Nodup) (hm : many ≤ ds.length) (hl : ds.length < 1000) :
    ∃ fs ys, F__law_some xs [.list ds, .int many] = some (.list fs, ys) ∧ fs.length = many ∧ fs.Nodup ∧ (∀ d ∈ fs, d ∈ ds) ∧ Good (n + many) ys := by
  obtain ⟨ys, left', found', s5', q1, q2, q3, q4, q5⟩ := some_loop (many := .int many) (sm := .list ds) many n xs ds [] .emp (rngD 0 many) rng_len hn G hm (by omega) (by simp; omega) nd (fun _ _ z => by cases z) .nil
  refine ⟨found', ys, ?_, by simpa using q3, q4, fun d hd => (q5 d hd).resolve_left (by simp), q2⟩
  have sm : small62 (many : Int) = true := small_ok (by omega) (by omega)
  have f0 : few 0 = true := by decide
  have h1 : sParFF 3 4 (lUn itemsD (dVar 1)) (lLst aNil) (en1 6 xs [.list ds, .int many]) = some (.nx [.own xs, .dat (.list ds), .dat (.int many), .own ds, .own [], .emp]) := by
    simp [en1, itemsD, f0]
  have h2 : (iR1 (aCons (dVar 2) aNil)) [.own xs, .dat (.list ds), .dat (.int many), .own ds, .own [], .emp] = some (rngD 0 many, [.own xs, .dat (.list ds), .dat (.int many), .own ds, .own [], .emp]) := by
    have e := hh2 (A := aCons (dVar 2) aNil) (ρ := [.own xs, .dat (.list ds), .dat (.int many), .own ds, .own [], .emp]) (many := many) (by simp) sm
    rw [Int.toNat_natCast] at e
    exact e
  have e : S__law_some (en1 6 xs [.list ds, .int many]) = some (.rt (.list found') [.own ys, .dat (.list ds), .dat (.int many), .own left', .dat (.list found'), s5']) := by
    unfold S__law_some
    refine (sSeq_nx h1).trans ((sSeq_nx ((sFor_ok h2).trans q1)).trans ?_)
    rfl
  exact runI_eq rfl e rfl
/-! ### the pots at first -/
theorem pow_ok {i j : Int} (h : 0 ≤ j ∧ (Builtin.Int.intBits i : Int) * j ≤ 2 ^ 27) : powD (.int i) (.int j) = some (.int (i ^ j.toNat)) := if_pos (decide_eq_true h)
theorem pow10 : powD (.int 10) (.int 60) = some (.int (10 ^ 60)) := pow_ok (by decide +kernel)
theorem pow10b : powD (.int (10 ^ 60)) (.int 5) = some (.int ((10 ^ 60) ^ 5)) := pow_ok (by decide +kernel)
theorem pow18 : powD (.int 10) (.int 18) = some (.int (10 ^ 18)) := pow_ok (by decide +kernel)
theorem p300 : (0 : Int) < (10 ^ 60) ^ 5 ∧ ((10 ^ 60) ^ 5 : Int).natAbs < 2 ^ 1000 := by decide +kernel
end DL
set_option Elab.async false
set_option linter.all false
set_option maxRecDepth 100000
set_option maxHeartbeats 1000000
/-! P3: the pots at first; the cells. -/
namespace DL
open PySem PySem.Spec L2
open PyProof.Rows hiding St
theorem sSet_ok {i : Nat} {F : DF} {ρ ρ1 : En} {d : PyData} (h : F ρ = some (d, ρ1)) : sSet i F ρ = some (.nx (ρ1.set i (.dat d))) := by unfold sSet; rw [h]; rfl
theorem sRet_ok {F : DF} {ρ ρ1 : En} {d : PyData} (h : F ρ = some (d, ρ1)) : sRet F ρ = some (.rt d ρ1) := by unfold sRet; rw [h]; rfl
theorem sRetF_ok {A : DFL} {ρ ρ1 : En} {ds : List PyData} (h : A ρ = some (ds, ρ1)) : sRetF A ρ = some (.rf ds ρ1) := by unfold sRetF; rw [h]; rfl
theorem sIf_t {c : DFB} {S T : DS} {ρ ρ1 : En} (h : c ρ = some (true, ρ1)) : sIf c S T ρ = S ρ1 := by unfold sIf; rw [h]; rfl
theorem sIf_f {c : DFB} {S T : DS} {ρ ρ1 : En} (h : c ρ = some (false, ρ1)) : sIf c S T ρ = T ρ1 := by unfold sIf; rw [h]; rfl
theorem runL_eq {n np : Nat} {S : DS} {ds ys : List PyData} {ρ : En} (hl : ds.length = np) (h : S (en0 n ds) = some (.rf ys ρ)) : runL n np S ds = some ys := by
  unfold runL
  rw [if_pos hl, h]
theorem runD_eq {n np : Nat} {S : DS} {ds : List PyData} {d : PyData} {ρ : En} (hl : ds.length = np) (h : S (en0 n ds) = some (.rt d ρ)) : runD n np S ds = some d := by
  unfold runD
  rw [if_pos hl, h]
theorem sum1 {ns : List Int} : ∃ s : Int, sumD (.list (cutD (ns.map .int) none (some 1))) = some (.int s) := by
  have io : ∀ ms : List Int, intsOf (ms.map .int) = some ms := fun ms => by
    induction ms with
    | nil => rfl
    | cons m ms ih => simp [intsOf, ih]
  refine ⟨(cutD ns none (some 1)).sum, ?_⟩
  have e : cutD (ns.map PyData.int) none (some 1) = (cutD ns none (some 1)).map .int := by
    unfold cutD
    rw [List.length_map, ← List.map_drop, ← List.map_take]
  rw [e]
  simp [sumD, io]
/-- the value that a pot is made of -/
theorem cell_ok {ns : List Int} {j : Nat} (hj : j < 3) : ∃ z : Int, (dIf (bVal (dOp ltD (dVar 1) (dUn lenD (dVar 0)))) (dOp ixD (dVar 0) (dVar 1)) (dOp addD (dOp addD (dOp modD (dUn sumD (dSl (dVar 0) oNo (oI (dC (.int 1))))) (dC (.int 1000507))) (dOp mulD (dC (.int 4211)) (dVar 1))) (dC (.int 877)))) (en0 5 [.list (ns.map .int), .int j]) = some (.int z, en0 5 [.list (ns.map .int), .int j]) := by
  by_cases h : (j : Int) < ns.length
  · have h2 : j < ns.length := by omega
    refine ⟨ns[j], ?_⟩
    simp [en0, lenD, h, ixD, atI, ixN, h2]
  · obtain ⟨s, e⟩ := sum1 (ns := ns)
    have m1 : mulD (.int 4211) (.int j) = some (.int (4211 * j)) := mul_ok (by decide) (Nat.lt_of_lt_of_le (show (j : Int).natAbs < 3 by simpa using hj) (by decide +kernel))
    refine ⟨s.fmod 1000507 + 4211 * j + 877, ?_⟩
    simp [en0, lenD, h, slD, e, m1, mod_ok (show (0 : Int) < 1000507 by decide)]
theorem p300b : ((10 ^ 60) ^ 5 : Int) < ((2 ^ 1000 : Nat) : Int) := by decide +kernel
theorem pot_ok {ns : List Int} {j : Nat} (hj : j < 3) : ∃ p, F__law_pot [.list (ns.map .int), .int j] = some p ∧ Good 0 p := by
  obtain ⟨z, hz⟩ := cell_ok (ns := ns) hj
  have habs : absD (.int z) = some (.int (if z < 0 then -z else z)) := rfl
  generalize hy : (if z < 0 then -z else z) = y at habs
  have f1 := fmod_nn (i := y) p300.1
  generalize hv : y.fmod ((10 ^ 60) ^ 5) = v at f1
  have vb : v.natAbs < 2 ^ 1000 := by
    have : (v.natAbs : Int) < ((2 ^ 1000 : Nat) : Int) := by rw [Int.natAbs_of_nonneg f1.1]; exact Int.lt_trans f1.2 p300b
    exact_mod_cast this
  have m1 : modD (.int y) (.int ((10 ^ 60) ^ 5)) = some (.int v) := by rw [mod_ok p300.1, hv]
  generalize hb : (decide ((10 ^ 18 : Int) ≤ y)) = b
  have m2 : mulD (.int v) (.int (if b = true then 1 else 0)) = some (.int (v * (if b = true then 1 else 0))) := mul_ok vb (by cases b <;> decide)
  have g1 : geD (.int y) (.int (10 ^ 18)) = some (.bool b) := by rw [ge_int, hb]
  have f2 := fmod_nn (i := z) (j := 2305843009213693951) (by decide)
  have m3 : modD (.int z) (.int 2305843009213693951) = some (.int (z.fmod 2305843009213693951)) := mod_ok (by decide)
  generalize hw : z.fmod 2305843009213693951 = w at f2 m3
  have e0 : en0 5 [.list (ns.map .int), .int j] = [.dat (.list (ns.map .int)), .dat (.int j), .emp, .emp, .emp] := rfl
  have m4 : mulD (.int w) (.int 44701) = some (.int (w * 44701)) := mul_ok (Nat.lt_of_lt_of_le (abs_lt (n := 2305843009213693951) f2.1 f2.2) (by decide +kernel)) (by decide)
  have m5 : mulD (.int 7841) (.int j) = some (.int (7841 * j)) := mul_ok (by decide) (Nat.lt_of_lt_of_le (show (j : Int).natAbs < 3 by simpa using hj) (by decide +kernel))
  have m6 : mulD (.int (7841 * j)) (.int j) = some (.int (7841 * j * j)) := mul_ok (Nat.lt_of_lt_of_le (show (7841 * (j : Int)).natAbs < 30000 by omega) (by decide +kernel)) (Nat.lt_of_lt_of_le (show (j : Int).natAbs < 3 by simpa using hj) (by decide +kernel))
  have f7 := fmod_nn (i := w * 44701 + 7841 * j * j + 1193) (j := 2305843009213693921) (by decide)
  have m7 : modD (.int (w * 44701 + 7841 * j * j + 1193)) (.int 2305843009213693921) = some (.int ((w * 44701 + 7841 * j * j + 1193).fmod 2305843009213693921)) := mod_ok (by decide)
  have few3 : few 3 = true := by decide
  have tb : toIntD (.bool b) = some (.int (if b = true then 1 else 0)) := rfl
  refine ⟨pt (v * (if b = true then 1 else 0)) ((w * 44701 + 7841 * j * j + 1193).fmod 2305843009213693921) 0, runL_eq rfl (ρ := [.dat (.list (ns.map .int)), .dat (.int j), .dat (.int z), .dat (.int (v * (if b = true then 1 else 0))), .dat (.int w)]) ?_, ⟨_, _, _, rfl, Int.mul_nonneg f1.1 (by cases b <;> decide), f7.1, Int.lt_trans f7.2 (by decide), Int.le_refl _, Int.le_refl _⟩⟩
  unfold S__law_pot
  refine (sSeq_nx (sSet_ok hz)).trans ?_
  rw [e0]
  refine (sSeq_nx (sSet_ok (ρ1 := [.dat (.list (ns.map .int)), .dat (.int j), .dat (.int z), .emp, .emp]) (d := .int (v * (if b = true then 1 else 0))) ?_)).trans ?_
  · simp only [List.set_cons_succ, List.set_cons_zero, e_dOp, e_dUn, e_dVar, e_dC, List.getElem?_cons_succ, List.getElem?_cons_zero, Option.bind_some, habs, toInt_int, pow10, pow10b, pow18, m1, g1, Option.map_some, tb, m2]
  refine (sSeq_nx (sSet_ok (ρ1 := [.dat (.list (ns.map .int)), .dat (.int j), .dat (.int z), .dat (.int (v * (if b = true then 1 else 0))), .emp]) (d := .int w) ?_)).trans ?_
  · simp only [List.set_cons_succ, List.set_cons_zero, e_dOp, e_dUn, e_dVar, e_dC, List.getElem?_cons_succ, List.getElem?_cons_zero, Option.bind_some, toInt_int, m3, Option.map_some]
  refine sRetF_ok ?_
  simp only [List.set_cons_succ, List.set_cons_zero, e_lLst, e_aCons, e_aNil, e_dOp, e_dUn, e_dVar, e_dC, List.getElem?_cons_succ, List.getElem?_cons_zero, Option.bind_some, toInt_int, add_int, m4, m5, m6, m7, Option.map_some, List.length_cons, List.length_nil, few3, if_true, pt]
end DL
set_option Elab.async false
set_option linter.all false
set_option maxRecDepth 100000
set_option maxHeartbeats 1000000
/-! P4: loops with an invariant; rows, cells. -/
namespace DL
open PySem PySem.Spec L2
open PyProof.Rows hiding St
section
variable {β : Type} {g : DG} {S : DS} {enc : β → PyData} {C : DFB} {F : DF} {A I : DFL} {vs : List Nat} {ρ ρ1 ρ2 ρ3 : En} {ds es : List PyData} {i : Nat}
theorem loop_inv {J : List β → En → Prop} {xs : List β} : ∀ {pre post : List β} {ρ : En}, xs = pre ++ post → J pre ρ → (∀ pre x post ρ, xs = pre ++ x :: post → J pre ρ → ∃ ρ1 ρ2, g (enc x) ρ = some ρ1 ∧ S ρ1 = some (.nx ρ2) ∧ J (pre ++ [x]) ρ2) →
    ∃ ρ', loopD g S (post.map enc) ρ = some (.nx ρ') ∧ J xs ρ'
  | pre, [], ρ, e, j, _ => ⟨ρ, rfl, by simpa [e] using j⟩
  | pre, x :: post, ρ, e, j, h => by
    obtain ⟨ρ1, ρ2, h1, h2, h3⟩ := h pre x post ρ e j
    obtain ⟨ρ', h4, h5⟩ := loop_inv (pre := pre ++ [x]) (post := post) (by simp [e]) h3 h
    exact ⟨ρ', by simp only [List.map_cons, loopD, h1, h2, Option.bind_some]; exact h4, h5⟩
theorem sFor_inv {xs : List β} (J : List β → En → Prop) (hI : I ρ = some (xs.map enc, ρ1)) (h0 : J [] ρ1) (h : ∀ pre x post ρ, xs = pre ++ x :: post → J pre ρ → ∃ ρ1 ρ2, g (enc x) ρ = some ρ1 ∧ S ρ1 = some (.nx ρ2) ∧ J (pre ++ [x]) ρ2) :
    ∃ ρ', sFor I g S ρ = some (.nx ρ') ∧ J xs ρ' := by
  obtain ⟨ρ', h1, h2⟩ := loop_inv (pre := []) (post := xs) rfl h0 h
  exact ⟨ρ', (sFor_ok hI).trans h1, h2⟩
theorem comp_inv {J : List β → List PyData → En → Prop} {xs : List β} : ∀ {pre post : List β} {out : List PyData} {ρ : En}, xs = pre ++ post → J pre out ρ → (∀ pre x post out ρ, xs = pre ++ x :: post → J pre out ρ → ∃ ρ1 b ρ2, g (enc x) ρ = some ρ1 ∧ C ρ1 = some (b, ρ2) ∧ (b = true → ∃ d ρ3, F ρ2 = some (d, ρ3) ∧ J (pre ++ [x]) (out ++ [d]) (wipeE vs ρ3)) ∧ (b = false → J (pre ++ [x]) out (wipeE vs ρ2))) →
    ∃ os ρ', compD vs g C F (post.map enc) ρ = some (os, ρ') ∧ J xs (out ++ os) ρ'
  | pre, [], out, ρ, e, j, _ => ⟨[], ρ, rfl, by simpa [e] using j⟩
  | pre, x :: post, out, ρ, e, j, h => by
    obtain ⟨ρ1, b, ρ2, h1, h2, h3, h4⟩ := h pre x post out ρ e j
    cases b with
    | true =>
      obtain ⟨d, ρ3, h5, h6⟩ := h3 rfl
      obtain ⟨os, ρ', h7, h8⟩ := comp_inv (pre := pre ++ [x]) (post := post) (by simp [e]) h6 h
      exact ⟨d :: os, ρ', by simp only [List.map_cons, compD, h1, h2, Option.bind_some, if_true, h5, h7, Option.map_some], by simpa using h8⟩
    | false =>
      obtain ⟨os, ρ', h7, h8⟩ := comp_inv (pre := pre ++ [x]) (post := post) (by simp [e]) (h4 rfl) h
      exact ⟨os, ρ', by simp only [List.map_cons, compD, h1, h2, Option.bind_some]; exact h7, h8⟩
theorem lComp_inv {xs : List β} (J : List β → List PyData → En → Prop) (hI : I ρ = some (xs.map enc, ρ1)) (hf : xs.length ≤ 16777216) (h0 : J [] [] (wipeE vs ρ1)) (h : ∀ pre x post out ρ, xs = pre ++ x :: post → J pre out ρ → ∃ ρ1 b ρ2, g (enc x) ρ = some ρ1 ∧ C ρ1 = some (b, ρ2) ∧ (b = true → ∃ d ρ3, F ρ2 = some (d, ρ3) ∧ J (pre ++ [x]) (out ++ [d]) (wipeE vs ρ3)) ∧ (b = false → J (pre ++ [x]) out (wipeE vs ρ2))) :
    ∃ os ρ', lComp vs I g C F ρ = some (os, backE vs ρ1 ρ') ∧ J xs os ρ' := by
  obtain ⟨os, ρ', h1, h2⟩ := comp_inv (pre := []) (post := xs) (out := []) rfl h0 h
  refine ⟨os, ρ', ?_, by simpa using h2⟩
  unfold lComp
  rw [hI, Option.bind_some, if_pos (by rw [List.length_map]; exact decide_eq_true hf), h1]
  rfl
theorem lComp_pure {out : β → PyData} {p : β → Bool} {xs : List β} (hI : I ρ = some (xs.map enc, ρ1)) (hf : xs.length ≤ 16777216) (h : ∀ x ∈ xs, ∃ ρ2, g (enc x) (wipeE vs ρ1) = some ρ2 ∧ C ρ2 = some (p x, ρ2) ∧ wipeE vs ρ2 = wipeE vs ρ1 ∧ (p x = true → F ρ2 = some (out x, ρ2))) :
    lComp vs I g C F ρ = some ((xs.filter p).map out, backE vs ρ1 (wipeE vs ρ1)) := by
  unfold lComp
  rw [hI, Option.bind_some, if_pos (by rw [List.length_map]; exact decide_eq_true hf), comp_pure h]
  rfl
theorem lComp_map {out : β → PyData} {xs : List β} (hI : I ρ = some (xs.map enc, ρ1)) (hf : xs.length ≤ 16777216) (h : ∀ x ∈ xs, ∃ ρ2, g (enc x) (wipeE vs ρ1) = some ρ2 ∧ C ρ2 = some (true, ρ2) ∧ wipeE vs ρ2 = wipeE vs ρ1 ∧ F ρ2 = some (out x, ρ2)) :
    lComp vs I g C F ρ = some (xs.map out, backE vs ρ1 (wipeE vs ρ1)) := by
  unfold lComp
  rw [hI, Option.bind_some, if_pos (by rw [List.length_map]; exact decide_eq_true hf), comp_map h]
  rfl
theorem sExt_ok {ds' : List PyData} (h0 : ownE ρ i = some ds') (h : F ρ = some (.list es, ρ1)) (h1 : ownE ρ1 i = some ds) (hl : ds.length + es.length ≤ 16777216) : sExt i F ρ = some (.nx (ρ1.set i (.own (ds ++ es)))) := by
  unfold sExt
  rw [h0, Option.bind_some, h]
  show (ownE ρ1 i).bind _ = _
  rw [h1]
  exact if_pos hl
theorem sApp_ok {ds' : List PyData} {d : PyData} (h0 : ownE ρ i = some ds') (h : F ρ = some (d, ρ1)) (h1 : ownE ρ1 i = some ds) (hl : ds.length < 16777216) : sApp i F ρ = some (.nx (ρ1.set i (.own (ds ++ [d])))) := by
  unfold sApp
  rw [h0, Option.bind_some, h, Option.bind_some, h1]
  exact if_pos hl
theorem dFrz_ok (h : A ρ = some (ds, ρ1)) : dFrz A ρ = some (.list ds, ρ1) := by unfold dFrz; rw [h]; rfl
theorem sOwn_ok (h : A ρ = some (ds, ρ1)) : sOwn i A ρ = some (.nx (ρ1.set i (.own ds))) := by unfold sOwn; rw [h]; rfl
theorem dUn_ok {f : PyData → Option PyData} {d z : PyData} (h : F ρ = some (d, ρ1)) (hf : f d = some z) : dUn f F ρ = some (z, ρ1) := by unfold dUn; rw [h, Option.bind_some, hf]; rfl
theorem dOp_ok {f : PyData → PyData → Option PyData} {G : DF} {d e z : PyData} (h : F ρ = some (d, ρ1)) (h2 : G ρ1 = some (e, ρ2)) (hf : f d e = some z) : dOp f F G ρ = some (z, ρ2) := by unfold dOp; rw [h, Option.bind_some, h2, Option.bind_some, hf]; rfl
theorem dCall_ok {f : List PyData → Option PyData} {z : PyData} (h : A ρ = some (ds, ρ1)) (hf : f ds = some z) : dCall f A ρ = some (z, ρ1) := by unfold dCall; rw [h, Option.bind_some, hf]; rfl
theorem sDrop_ok {d : PyData} (h : F ρ = some (d, ρ1)) : sDrop F ρ = some (.nx ρ1) := by unfold sDrop; rw [h]; rfl
theorem bVal_ok {b : Bool} (h : F ρ = some (.bool b, ρ1)) : bVal F ρ = some (b, ρ1) := by unfold bVal; rw [h]; rfl
theorem bNot_ok {b : Bool} (h : C ρ = some (b, ρ1)) : bNot C ρ = some (!b, ρ1) := by unfold bNot; rw [h]; rfl
end
theorem sFor_invS {β : Type} {g : DG} {S : DS} {enc : β → PyData} {I : DFL} {ρ : En} {xs : List β} (J : List β → En → Prop) (hI : I ρ = some (xs.map enc, ρ)) (h0 : J [] ρ) (h : ∀ pre x post ρ, xs = pre ++ x :: post → J pre ρ → ∃ ρ1 ρ2, g (enc x) ρ = some ρ1 ∧ S ρ1 = some (.nx ρ2) ∧ J (pre ++ [x]) ρ2) :
    ∃ ρ', sFor I g S ρ = some (.nx ρ') ∧ J xs ρ' := sFor_inv J hI h0 h
theorem lComp_mapS {β : Type} {g : DG} {enc : β → PyData} {C : DFB} {F : DF} {I : DFL} {vs : List Nat} {ρ : En} {out : β → PyData} {xs : List β} (hI : I ρ = some (xs.map enc, ρ)) (hf : xs.length ≤ 16777216) (h : ∀ x ∈ xs, ∃ ρ2, g (enc x) (wipeE vs ρ) = some ρ2 ∧ C ρ2 = some (true, ρ2) ∧ wipeE vs ρ2 = wipeE vs ρ ∧ F ρ2 = some (out x, ρ2)) :
    lComp vs I g C F ρ = some (xs.map out, backE vs ρ (wipeE vs ρ)) := lComp_map hI hf h
theorem lComp_pureS {β : Type} {g : DG} {enc : β → PyData} {C : DFB} {F : DF} {I : DFL} {vs : List Nat} {ρ : En} {out : β → PyData} {p : β → Bool} {xs : List β} (hI : I ρ = some (xs.map enc, ρ)) (hf : xs.length ≤ 16777216) (h : ∀ x ∈ xs, ∃ ρ2, g (enc x) (wipeE vs ρ) = some ρ2 ∧ C ρ2 = some (p x, ρ2) ∧ wipeE vs ρ2 = wipeE vs ρ ∧ (p x = true → F ρ2 = some (out x, ρ2))) :
    lComp vs I g C F ρ = some ((xs.filter p).map out, backE vs ρ (wipeE vs ρ)) := lComp_pure hI hf h
theorem dCallS {f : List PyData → Option PyData} {A : DFL} {ρ : En} {ds : List PyData} {z : PyData} (h : A ρ = some (ds, ρ)) (hf : f ds = some z) : dCall f A ρ = some (z, ρ) := dCall_ok h hf
theorem dOpS {f : PyData → PyData → Option PyData} {F G : DF} {ρ : En} {d e z : PyData} (h : F ρ = some (d, ρ)) (h2 : G ρ = some (e, ρ)) (hf : f d e = some z) : dOp f F G ρ = some (z, ρ) := dOp_ok h h2 hf
theorem dUnS {f : PyData → Option PyData} {F : DF} {ρ : En} {d z : PyData} (h : F ρ = some (d, ρ)) (hf : f d = some z) : dUn f F ρ = some (z, ρ) := dUn_ok h hf
/-! ### rows -/
def tup (k : Nat) : Nat → List (List Nat)
  | 0 => [[]]
  | p + 1 => (tup k p).flatMap fun r => (List.range k).map fun i => r ++ [i]
def eN (n : Nat) : PyData := .int n
def eRow (r : List Nat) : PyData := .tuple (r.map eN)
abbrev Sg := Str × Nat
def eR (p : Sg) : PyData := .tuple [.str p.1, .int p.2]
def eS (rs fs : List Sg) : PyData := .tuple [.tuple (rs.map eR), .tuple (fs.map eR)]
theorem three {k : Nat} (h1 : 1 ≤ k) (h2 : k ≤ 3) : k = 1 ∨ k = 2 ∨ k = 3 := by omega
theorem upto2 {p : Nat} (h : p ≤ 2) : p = 0 ∨ p = 1 ∨ p = 2 := by omega
theorem lawtup {k p : Nat} (h1 : 1 ≤ k) (h2 : k ≤ 3) (h3 : p ≤ 2) : F__law_tuples [eN k, .int p] = some (.list ((tup k p).map eRow)) := by
  rcases three h1 h2 with rfl | rfl | rfl <;> rcases upto2 h3 with rfl | rfl | rfl <;> rfl
theorem tuples {k p : Nat} (h1 : 1 ≤ k) (h2 : k ≤ 3) (h3 : p ≤ 2) : F_tuples_of [eN k, .int p] = some (.list ((tup k p).map eRow)) := by
  rcases three h1 h2 with rfl | rfl | rfl <;> rcases upto2 h3 with rfl | rfl | rfl <;> rfl
theorem powers {k p : Nat} (h1 : 1 ≤ k) (h2 : k ≤ 3) (h3 : p ≤ 2) : F_power [eN k, .int p] = some (.int (tup k p).length) := by
  rcases three h1 h2 with rfl | rfl | rfl <;> rcases upto2 h3 with rfl | rfl | rfl <;> rfl
theorem tup_len {k p : Nat} (h1 : 1 ≤ k) (h2 : k ≤ 3) (h3 : p ≤ 2) : (tup k p).length ≤ 9 ∧ (p ≤ 1 → (tup k p).length ≤ 3) := by
  rcases three h1 h2 with rfl | rfl | rfl <;> rcases upto2 h3 with rfl | rfl | rfl <;> decide
theorem tup_nd {k p : Nat} (h1 : 1 ≤ k) (h2 : k ≤ 3) (h3 : p ≤ 2) : (tup k p).Nodup := by
  rcases three h1 h2 with rfl | rfl | rfl <;> rcases upto2 h3 with rfl | rfl | rfl <;> decide
end DL
set_option Elab.async false
set_option linter.all false
set_option maxRecDepth 100000
set_option maxHeartbeats 1000000
/-! P5: the cells. -/
namespace DL
open PySem PySem.Spec L2
open PyProof.Rows hiding St
inductive Ce where
  | is (n : Str) (r : List Nat) | of (n : Str) (r : List Nat) (t : Nat)
deriving DecidableEq
def eC : Ce → PyData
  | .is n r => .tuple [.str "is", .str n, eRow r]
  | .of n r t => .tuple [.str "of", .str n, eRow r, eN t]
def isC (k : Nat) (p : Sg) : List Ce := (tup k p.2).map (.is p.1)
def ofR (k : Nat) (p : Sg) (r : List Nat) : List Ce := (List.range k).map (.of p.1 r)
def ofC (k : Nat) (p : Sg) : List Ce := (tup k p.2).flatMap (ofR k p)
def allC (k : Nat) (rs fs : List Sg) : List Ce := rs.flatMap (isC k) ++ fs.flatMap (ofC k)
structure SgOk (k : Nat) (rs fs : List Sg) : Prop where
  k1 : 1 ≤ k
  k3 : k ≤ 3
  r1 : 1 ≤ rs.length
  r2 : rs.length ≤ 2
  f2 : fs.length ≤ 2
  pr : ∀ p ∈ rs, p.2 ≤ 2
  pf : ∀ p ∈ fs, p.2 ≤ 1
  nd : ((rs ++ fs).map (·.1)).Nodup
  nm : ∀ p ∈ rs ++ fs, p.1 ∈ (["p", "q", "has", "x0", "z0", "f1", "a"] : List Str)
theorem fm_len {α β : Type} {f : α → List β} {m : Nat} : ∀ {xs : List α}, (∀ x ∈ xs, (f x).length ≤ m) → (xs.flatMap f).length ≤ xs.length * m
  | [], _ => by simp
  | x :: xs, h => by
    have := fm_len (xs := xs) fun y hy => h y (List.mem_cons_of_mem _ hy)
    have h1 := h x List.mem_cons_self
    rw [List.flatMap_cons, List.length_append, List.length_cons, Nat.succ_mul]
    omega
theorem isC_len {k : Nat} {rs fs : List Sg} (O : SgOk k rs fs) : (rs.flatMap (isC k)).length ≤ 18 := by
  have := fm_len (f := isC k) (m := 9) (xs := rs) fun x hx => by unfold isC; rw [List.length_map]; exact (tup_len O.k1 O.k3 (O.pr x hx)).1
  have := O.r2
  omega
theorem ofR_len {k : Nat} {p : Sg} {r : List Nat} : (ofR k p r).length = k := by simp [ofR]
theorem ofC_len1 {k : Nat} {rs fs : List Sg} (O : SgOk k rs fs) {p : Sg} (hp : p ∈ fs) : (ofC k p).length ≤ 9 := by
  have h := fm_len (f := ofR k p) (m := 3) (xs := tup k p.2) fun x hx => by rw [ofR_len]; exact O.k3
  have h2 := (tup_len O.k1 O.k3 (Nat.le_trans (O.pf p hp) (by decide))).2 (O.pf p hp)
  unfold ofC
  omega
theorem ofC_len {k : Nat} {rs fs : List Sg} (O : SgOk k rs fs) : (fs.flatMap (ofC k)).length ≤ 18 := by
  have := fm_len (f := ofC k) (m := 9) (xs := fs) fun x hx => ofC_len1 O hx
  have := O.f2
  omega
theorem allC_len {k : Nat} {rs fs : List Sg} (O : SgOk k rs fs) : (allC k rs fs).length ≤ 36 := by
  have := isC_len O
  have := ofC_len O
  unfold allC
  rw [List.length_append]
  omega
theorem few_of {n : Nat} (h : n ≤ 1000) : few n = true := decide_eq_true (by omega)
theorem iSeq_ok {F : DF} {ρ ρ1 : En} {ds : List PyData} (h : F ρ = some (.list ds, ρ1)) : iSeqD F ρ = some (ds, ρ1) := by unfold iSeqD; rw [h]; rfl
theorem iSeqT_ok {F : DF} {ρ ρ1 : En} {ds : List PyData} (h : F ρ = some (.tuple ds, ρ1)) : iSeqD F ρ = some (ds, ρ1) := by unfold iSeqD; rw [h]; rfl
theorem atI_ok {ds : List PyData} {n : Nat} {d : PyData} (h : ds[n]? = some d) : atI ds (n : Int) = some d := by
  have hl : n < ds.length := by
    rcases Nat.lt_or_ge n ds.length with z | z
    · exact z
    · rw [List.getElem?_eq_none z] at h; cases h
  unfold atI
  rw [ixN_in (by omega) (by omega), Option.bind_some, Int.toNat_natCast, h]
theorem ix0 {a : PyData} {ds : List PyData} : ixD (.tuple (a :: ds)) (.int 0) = some a := atI_ok (n := 0) rfl
theorem ix1 {a b : PyData} {ds : List PyData} : ixD (.tuple (a :: b :: ds)) (.int 1) = some b := atI_ok (n := 1) rfl
theorem ix2 {a b c : PyData} {ds : List PyData} : ixD (.tuple (a :: b :: c :: ds)) (.int 2) = some c := atI_ok (n := 2) rfl
theorem ix3 {a b c d : PyData} {ds : List PyData} : ixD (.tuple (a :: b :: c :: d :: ds)) (.int 3) = some d := atI_ok (n := 3) rfl
theorem rng0 {k : Nat} : rngD 0 k = (List.range k).map eN := by simp [rngD, eN]
/-- the body of law_all_cells -/
def allS (T : List PyData → Option PyData) : DS := (sSeq (sOwn 2 (lLst aNil))
    (sSeq (sFor (iSeqD (dOp ixD (dVar 0) (dC (.int 0)))) (gT 2 (gsCons (gN 3) (gsCons (gN 4) gsNil))) (sExt 2 (dFrz (lComp [5] (iSeqD (dCall T (aCons (dVar 1) (aCons (dVar 4) aNil)))) (gN 5) bYes (dTup (aCons (dC (.str "is")) (aCons (dVar 3) (aCons (dVar 5) aNil))))))))
    (sSeq (sFor (iSeqD (dOp ixD (dVar 0) (dC (.int 1)))) (gT 2 (gsCons (gN 3) (gsCons (gN 4) gsNil))) (sFor (iSeqD (dCall T (aCons (dVar 1) (aCons (dVar 4) aNil)))) (gN 5) (sExt 2 (dFrz (lComp [6] (iR1 (aCons (dVar 1) aNil)) (gN 6) bYes (dTup (aCons (dC (.str "of")) (aCons (dVar 3) (aCons (dVar 5) (aCons (dVar 6) aNil))))))))))
    (sFr 2 (sRet (dVar 2))))))
theorem all_gen {T : List PyData → Option PyData} {k : Nat} {rs fs : List Sg} (O : SgOk k rs fs) (hT : ∀ {p : Nat}, p ≤ 2 → T [eN k, .int p] = some (.list ((tup k p).map eRow))) : runD 7 2 (allS T) [eS rs fs, eN k] = some (.list ((allC k rs fs).map eC)) := by
  have hk := O.k3
  have l1 := isC_len O
  have l2 := ofC_len O
  have smk : small62 (k : Int) = true := small_ok (by omega) (by omega)
  obtain ⟨ρ1, e1, J1⟩ := sFor_invS (I := (iSeqD (dOp ixD (dVar 0) (dC (.int 0))))) (g := (gT 2 (gsCons (gN 3) (gsCons (gN 4) gsNil)))) (S := (sExt 2 (dFrz (lComp [5] (iSeqD (dCall T (aCons (dVar 1) (aCons (dVar 4) aNil)))) (gN 5) bYes (dTup (aCons (dC (.str "is")) (aCons (dVar 3) (aCons (dVar 5) aNil))))))))
    (ρ := [.dat (eS rs fs), .dat (eN k), .own [], .emp, .emp, .emp, .emp]) (xs := rs) (enc := eR)
    (fun pre ρ => ∃ s3 s4 s5 s6, ρ = [.dat (eS rs fs), .dat (eN k), .own ((pre.flatMap (isC k)).map eC), s3, s4, s5, s6])
    (iSeqT_ok (by simp [eS, ix0])) ⟨_, _, _, _, rfl⟩ (fun pre x post ρ e J => by
      obtain ⟨s3, s4, s5, s6, rfl⟩ := J
      have hx : x ∈ rs := by rw [e]; simp
      have hp := O.pr x hx
      refine ⟨[.dat (eS rs fs), .dat (eN k), .own ((pre.flatMap (isC k)).map eC), .dat (.str x.1), .dat (.int x.2), s5, s6], _, by simp [eR], sExt_ok (by simp; rfl) (dFrz_ok (lComp_mapS (xs := tup k x.2) (enc := eRow) (out := fun r => eC (.is x.1 r)) (iSeq_ok (by simp [hT hp])) (by have := (tup_len O.k1 hk hp).1; omega) (fun r hr => ⟨[.dat (eS rs fs), .dat (eN k), .own ((pre.flatMap (isC k)).map eC), .dat (.str x.1), .dat (.int x.2), .dat (eRow r), s6], by simp, by simp, by simp, by simp [few, eC]⟩))) (by simp; rfl) ?_, ?_⟩
      · have : ((pre ++ x :: post).flatMap (isC k)).length ≤ 18 := by rw [← e]; exact l1
        simp [isC] at this ⊢
        omega
      · simp [isC, List.flatMap_append])
  obtain ⟨s3, s4, s5, s6, rfl⟩ := J1
  obtain ⟨ρ2, e2, J2⟩ := sFor_invS (I := (iSeqD (dOp ixD (dVar 0) (dC (.int 1))))) (g := (gT 2 (gsCons (gN 3) (gsCons (gN 4) gsNil)))) (S := (sFor (iSeqD (dCall T (aCons (dVar 1) (aCons (dVar 4) aNil)))) (gN 5) (sExt 2 (dFrz (lComp [6] (iR1 (aCons (dVar 1) aNil)) (gN 6) bYes (dTup (aCons (dC (.str "of")) (aCons (dVar 3) (aCons (dVar 5) (aCons (dVar 6) aNil))))))))))
    (ρ := [.dat (eS rs fs), .dat (eN k), .own ((rs.flatMap (isC k)).map eC), s3, s4, s5, s6]) (xs := fs) (enc := eR)
    (fun pre ρ => ∃ s3 s4 s5 s6, ρ = [.dat (eS rs fs), .dat (eN k), .own ((rs.flatMap (isC k) ++ pre.flatMap (ofC k)).map eC), s3, s4, s5, s6])
    (iSeqT_ok (by simp [eS, ix1])) ⟨s3, s4, s5, s6, by simp⟩ (fun pre x post ρ e J => by
      obtain ⟨s3, s4, s5, s6, rfl⟩ := J
      have hx : x ∈ fs := by rw [e]; simp
      have hp := O.pf x hx
      have lt := tup_len O.k1 hk (Nat.le_trans hp (by decide))
      refine ⟨[.dat (eS rs fs), .dat (eN k), .own ((rs.flatMap (isC k) ++ pre.flatMap (ofC k)).map eC), .dat (.str x.1), .dat (.int x.2), s5, s6], ?_⟩
      have tot : ((pre ++ x :: post).flatMap (ofC k)).length ≤ 18 := by rw [← e]; exact l2
      obtain ⟨ρ', e', J'⟩ := sFor_invS (I := (iSeqD (dCall T (aCons (dVar 1) (aCons (dVar 4) aNil))))) (g := gN 5) (S := (sExt 2 (dFrz (lComp [6] (iR1 (aCons (dVar 1) aNil)) (gN 6) bYes (dTup (aCons (dC (.str "of")) (aCons (dVar 3) (aCons (dVar 5) (aCons (dVar 6) aNil)))))))))
        (ρ := [.dat (eS rs fs), .dat (eN k), .own ((rs.flatMap (isC k) ++ pre.flatMap (ofC k)).map eC), .dat (.str x.1), .dat (.int x.2), s5, s6]) (xs := tup k x.2) (enc := eRow)
        (fun pr ρ => ∃ s5 s6, ρ = [.dat (eS rs fs), .dat (eN k), .own ((rs.flatMap (isC k) ++ pre.flatMap (ofC k) ++ pr.flatMap (ofR k x)).map eC), .dat (.str x.1), .dat (.int x.2), s5, s6])
        (iSeq_ok (by simp [hT (Nat.le_trans hp (by decide))])) ⟨s5, s6, by simp⟩ (fun pr r po ρ e J => by
          obtain ⟨s5, s6, rfl⟩ := J
          refine ⟨[.dat (eS rs fs), .dat (eN k), .own ((rs.flatMap (isC k) ++ pre.flatMap (ofC k) ++ pr.flatMap (ofR k x)).map eC), .dat (.str x.1), .dat (.int x.2), .dat (eRow r), s6], _, by simp, sExt_ok (by simp; rfl) (dFrz_ok (lComp_mapS (xs := List.range k) (enc := eN) (out := fun t => eC (.of x.1 r t)) (by
            have h := iR1_ok (A := aCons (dVar 1) aNil) (ρ := [.dat (eS rs fs), .dat (eN k), .own ((rs.flatMap (isC k) ++ pre.flatMap (ofC k) ++ pr.flatMap (ofR k x)).map eC), .dat (.str x.1), .dat (.int x.2), .dat (eRow r), s6]) (ρ1 := [.dat (eS rs fs), .dat (eN k), .own ((rs.flatMap (isC k) ++ pre.flatMap (ofC k) ++ pr.flatMap (ofR k x)).map eC), .dat (.str x.1), .dat (.int x.2), .dat (eRow r), s6]) (j := (k : Int)) (by simp [eN]) smk
            rw [Int.toNat_natCast, rng0] at h
            exact h) (by simp; omega) (fun t ht => ⟨[.dat (eS rs fs), .dat (eN k), .own ((rs.flatMap (isC k) ++ pre.flatMap (ofC k) ++ pr.flatMap (ofR k x)).map eC), .dat (.str x.1), .dat (.int x.2), .dat (eRow r), .dat (eN t)], by simp, by simp, by simp, by simp [few, eC]⟩))) (by simp; rfl) ?_, ?_⟩
          · have t2 : ((pr ++ r :: po).flatMap (ofR k x)).length ≤ 9 := by rw [← e]; exact ofC_len1 O hx
            simp only [List.length_map, List.length_append, List.flatMap_append, List.flatMap_cons, ofR, List.length_range] at t2 tot ⊢
            omega
          · simp [ofR, List.flatMap_append])
      obtain ⟨s5, s6, rfl⟩ := J'
      refine ⟨_, by simp [eR], e', ?_⟩
      simp [List.flatMap_append, ofC])
  obtain ⟨s3, s4, s5, s6, rfl⟩ := J2
  refine runD_eq (ρ := [.dat (eS rs fs), .dat (eN k), .dat (.list ((allC k rs fs).map eC)), s3, s4, s5, s6]) rfl ?_
  unfold allS
  refine (sSeq_nx (ρ1 := [.dat (eS rs fs), .dat (eN k), .own [], .emp, .emp, .emp, .emp]) (by simp [en0, few])).trans ?_
  refine (sSeq_nx e1).trans ((sSeq_nx e2).trans ?_)
  simp [allC]
theorem lawall {k : Nat} {rs fs : List Sg} (O : SgOk k rs fs) : F__law_all_cells [eS rs fs, eN k] = some (.list ((allC k rs fs).map eC)) := all_gen O (lawtup O.k1 O.k3)
theorem cellsof {k : Nat} {rs fs : List Sg} (O : SgOk k rs fs) : F_cells_of [eS rs fs, eN k] = some (.list ((allC k rs fs).map eC)) := all_gen O (tuples O.k1 O.k3)
end DL
set_option Elab.async false
set_option linter.all false
set_option maxRecDepth 100000
set_option maxHeartbeats 1000000
/-! P6: signs and sizes are taken. -/
namespace DL
open PySem PySem.Spec L2
open PyProof.Rows hiding St
theorem boolsOf_ok {β : Type} {p : β → Bool} : ∀ {xs : List β}, boolsOf (xs.map fun x => .bool (p x)) = some (xs.map p)
  | [] => rfl
  | x :: xs => by simp [boolsOf, boolsOf_ok (xs := xs)]
theorem allD_ok {β : Type} {p : β → Bool} {xs : List β} : allD (.list (xs.map fun x => .bool (p x))) = some (.bool (xs.all p)) := by
  simp [allD, boolsOf_ok]
theorem anyD_ok {β : Type} {p : β → Bool} {xs : List β} : anyD (.list (xs.map fun x => .bool (p x))) = some (.bool (xs.any p)) := by
  simp [anyD, boolsOf_ok]
theorem intsOf_ok {β : Type} {p : β → Int} : ∀ {xs : List β}, intsOf (xs.map fun x => .int (p x)) = some (xs.map p)
  | [] => rfl
  | x :: xs => by simp [intsOf, intsOf_ok (xs := xs)]
theorem sumD_ok {β : Type} {p : β → Int} {xs : List β} : sumD (.list (xs.map fun x => .int (p x))) = some (.int (xs.map p).sum) := by
  simp [sumD, intsOf_ok]
theorem strsOf_ok {β : Type} {p : β → Str} : ∀ {xs : List β}, strsOf (xs.map fun x => .str (p x)) = some (xs.map p)
  | [] => rfl
  | x :: xs => by simp [strsOf, strsOf_ok (xs := xs)]
theorem dAndV_t {F G : DF} {ρ ρ1 : En} (h : F ρ = some (.bool true, ρ1)) : dAndV F G ρ = G ρ1 := by unfold dAndV; rw [h]
theorem dAndV_f {F G : DF} {ρ ρ1 : En} (h : F ρ = some (.bool false, ρ1)) : dAndV F G ρ = some (.bool false, ρ1) := by unfold dAndV; rw [h]
theorem bOr_f {c d : DFB} {ρ ρ1 : En} (h : c ρ = some (false, ρ1)) : bOr c d ρ = d ρ1 := by unfold bOr; rw [h]; rfl
theorem bOr_t {c d : DFB} {ρ ρ1 : En} (h : c ρ = some (true, ρ1)) : bOr c d ρ = some (true, ρ1) := by unfold bOr; rw [h]; rfl
theorem bAnd_t {c d : DFB} {ρ ρ1 : En} (h : c ρ = some (true, ρ1)) : bAnd c d ρ = d ρ1 := by unfold bAnd; rw [h]; rfl
theorem bAnd_f {c d : DFB} {ρ ρ1 : En} (h : c ρ = some (false, ρ1)) : bAnd c d ρ = some (false, ρ1) := by unfold bAnd; rw [h]; rfl
abbrev names7 : List Str := ["p", "q", "has", "x0", "z0", "f1", "a"]
def isT : Option PyData → Bool
  | some (.bool b) => b
  | _ => false
theorem isT_eq {o : Option PyData} (h : isT o = true) : o = some (.bool true) := by
  unfold isT at h
  split at h
  · rw [h]
  · cases h
theorem name7 {n : Str} (h : n ∈ names7) : F_is_name [.str n] = some (.bool true) := by
  simp only [names7, List.mem_cons, List.not_mem_nil, or_false] at h
  rcases h with rfl | rfl | rfl | rfl | rfl | rfl | rfl <;> exact isT_eq (by decide +kernel)
theorem isi_t {ds : List PyData} : isiD "tuple" (.tuple ds) = some (.bool true) := rfl
theorem len_t {ds : List PyData} : lenD (.tuple ds) = some (.int ds.length) := rfl
theorem len_l {ds : List PyData} : lenD (.list ds) = some (.int ds.length) := rfl
theorem eq_int {i j : Int} : eqD (.int i) (.int j) = some (.bool (i == j)) := rfl
theorem ne_int {i j : Int} : neD (.int i) (.int j) = some (.bool (!(i == j))) := rfl
theorem named {xs : List Sg} {m q : Nat} (h1 : xs.length ≤ m) (h0 : m ≤ 100) (h2 : ∀ p ∈ xs, p.2 ≤ q) (h3 : ∀ p ∈ xs, p.1 ∈ names7) : F_are_named [.tuple (xs.map eR), .int m, .int q] = some (.bool true) := by
  refine runD_eq (ρ := [.dat (.tuple (xs.map eR)), .dat (.int m), .dat (.int q), .emp, .emp, .emp]) rfl ?_
  unfold S_are_named
  refine (sSeq_nx (ρ1 := [.dat (.tuple (xs.map eR)), .dat (.int m), .dat (.int q), .emp, .emp, .emp]) ?_).trans ((sSeq_nx (ρ1 := [.dat (.tuple (xs.map eR)), .dat (.int m), .dat (.int q), .emp, .emp, .emp]) ?_).trans ?_)
  · simp [en0, isi_t, len_t]
    omega
  · have e := lComp_mapS (vs := [3]) (I := iSeqD (dVar 0)) (g := gN 3) (C := bYes) (F := (dAndV (dUn (isiD "tuple") (dVar 3)) (dOp eqD (dUn lenD (dVar 3)) (dC (.int 2))))) (ρ := [.dat (.tuple (xs.map eR)), .dat (.int m), .dat (.int q), .emp, .emp, .emp]) (xs := xs) (enc := eR) (out := fun x => .bool ((fun _ => true) x)) (iSeqT_ok rfl) (by omega) (fun x hx => ⟨[.dat (.tuple (xs.map eR)), .dat (.int m), .dat (.int q), .dat (eR x), .emp, .emp], by simp, by simp, by simp, by simp [eR, isi_t, len_t, eq_int]⟩)
    refine (sIf_f (bNot_ok (bVal_ok (dUn_ok (dFrz_ok e) (allD_ok.trans ?_)) : _ = some (true, _)))).trans ?_
    · simp
    · simp
  · have e := lComp_mapS (vs := [4, 5]) (I := iSeqD (dVar 0)) (g := gT 2 (gsCons (gN 4) (gsCons (gN 5) gsNil))) (C := bYes) (F := (dAndV (dCall F_is_name (aCons (dVar 4) aNil)) (dCall F_is_between (aCons (dVar 5) (aCons (dC (.int 0)) (aCons (dVar 2) aNil)))))) (ρ := [.dat (.tuple (xs.map eR)), .dat (.int m), .dat (.int q), .emp, .emp, .emp]) (xs := xs) (enc := eR) (out := fun x => .bool ((fun _ => true) x)) (iSeqT_ok rfl) (by omega) (fun x hx => ⟨[.dat (.tuple (xs.map eR)), .dat (.int m), .dat (.int q), .emp, .dat (.str x.1), .dat (.int x.2)], by simp [eR], by simp, by simp, by
      have := h2 x hx
      have b := is_between_eq (d := .int x.2) (i := 0) (j := q) rfl
      simp [name7 (h3 x hx), b, betw]
      exact this⟩)
    have e2 : allD (.list (xs.map fun x => .bool ((fun _ => true) x))) = some (.bool true) := allD_ok.trans (by simp)
    exact sRet_ok (dUn_ok (dFrz_ok e) e2)
theorem few_36 {n : Nat} (h : n ≤ 100) : few n = true := decide_eq_true (by omega)
theorem issigns {k : Nat} {rs fs : List Sg} (O : SgOk k rs fs) : F_is_signs [eS rs fs] = some (.bool true) := by
  have r2 := O.r2
  have f2 := O.f2
  have n1 := named (xs := rs) (m := 6) (q := 3) (by omega) (by omega) (fun p hp => Nat.le_trans (O.pr p hp) (by decide)) fun p hp => O.nm p (List.mem_append_left _ hp)
  have n2 := named (xs := fs) (m := 4) (q := 2) (by omega) (by omega) (fun p hp => Nat.le_trans (O.pf p hp) (by decide)) fun p hp => O.nm p (List.mem_append_right _ hp)
  have n1' : F_are_named [.tuple (rs.map eR), .int 6, .int 3] = some (.bool true) := n1
  have n2' : F_are_named [.tuple (fs.map eR), .int 4, .int 2] = some (.bool true) := n2
  refine runD_eq (ρ := [.dat (eS rs fs), .own ((rs ++ fs).map fun p => .str p.1), .emp, .emp]) rfl ?_
  unfold S_is_signs
  refine (sSeq_nx (ρ1 := [.dat (eS rs fs), .emp, .emp, .emp]) ?_).trans ((sSeq_nx (ρ1 := [.dat (eS rs fs), .emp, .emp, .emp]) ?_).trans ((sSeq_nx (ρ1 := [.dat (eS rs fs), .own ((rs ++ fs).map fun p => .str p.1), .emp, .emp]) ?_).trans ?_))
  · simp [en0, eS, isi_t, len_t, ne_int, ix0, n1']
  · simp [eS, ix1, n2']
  · have e := lComp_mapS (vs := [2, 3]) (I := (iSeqD (dFrz (lLst (aStar (dOp ixD (dVar 0) (dC (.int 0))) (aStar (dOp ixD (dVar 0) (dC (.int 1))) aNil)))))) (g := gT 2 (gsCons (gN 2) (gsCons (gN 3) gsNil))) (C := bYes) (F := dVar 2) (ρ := [.dat (eS rs fs), .emp, .emp, .emp]) (xs := rs ++ fs) (enc := eR) (out := fun p => .str p.1)
      (iSeq_ok (by simp [eS, ix0, ix1, seqD, few]; omega)) (by simp; omega) (fun x hx => ⟨[.dat (eS rs fs), .emp, .dat (.str x.1), .dat (.int x.2)], by simp [eR], by simp, by simp, by simp⟩)
    refine (sOwn_ok e).trans ?_
    simp
  · have h1 : lenSetD (.list ((rs ++ fs).map fun p => .str p.1)) = some (.int (rs ++ fs).length) := by
      show (strsOf _).bind _ = _
      rw [show strsOf ((rs ++ fs).map fun p => .str p.1) = some ((rs ++ fs).map fun p => p.1) from strsOf_ok, Option.bind_some, if_pos]
      · simp
      · rw [Bool.and_eq_true]
        exact ⟨decide_eq_true O.nd, decide_eq_true (by simp; omega)⟩
    refine sRet_ok ?_
    simp only [e_dOp, e_dUn, e_dVw, e_vwD, List.getElem?_cons_succ, List.getElem?_cons_zero, Option.map_some, Option.bind_some, h1, len_l, eq_int, List.length_map]
    simp
theorem checksigns {k : Nat} {rs fs : List Sg} (O : SgOk k rs fs) : F_check_signs [eS rs fs] = some (.ok .none) := by
  have h := issigns O
  simp [F_check_signs, S_check_signs, runX, en0, h]
theorem sum_fm {α : Type} {f : Sg → List α} : ∀ {xs : List Sg}, (xs.map fun x => ((f x).length : Int)).sum = ((xs.flatMap f).length : Nat)
  | [] => rfl
  | x :: xs => by
    rw [List.map_cons, List.sum_cons, sum_fm, List.flatMap_cons, List.length_append]
    omega
theorem p1000 {n : Nat} (h : n < 100) : n < 2 ^ 1000 := Nat.lt_of_lt_of_le h (by decide +kernel)
theorem ofC_mul {k : Nat} {rs fs : List Sg} (O : SgOk k rs fs) {x : Sg} (hx : x ∈ fs) : mulD (.int (tup k x.2).length) (eN k) = some (.int (ofC k x).length) := by
  have hp := Nat.le_trans (O.pf x hx) (show 1 ≤ 2 by decide)
  have k3 := O.k3
  have l := tup_len O.k1 k3 hp
  have m : mulD (.int (tup k x.2).length) (eN k) = some (.int (((tup k x.2).length : Int) * k)) := mul_ok (p1000 (by omega)) (p1000 (by omega))
  rw [m]
  have c : (ofC k x).length = (tup k x.2).length * k := by
    unfold ofC
    rw [List.length_flatMap]
    have : (List.map (fun a => (ofR k x a).length) (tup k x.2)) = List.replicate (tup k x.2).length k := by
      rw [List.eq_replicate_iff]
      exact ⟨by simp, fun b hb => by obtain ⟨a, _, rfl⟩ := List.mem_map.mp hb; exact ofR_len⟩
    rw [this, List.sum_replicate_nat]
  rw [c]
  simp
theorem pw1 {k : Nat} {rs fs : List Sg} (O : SgOk k rs fs) {x : Sg} (hx : x ∈ rs) : (dCall F_power (aCons (dVar 1) (aCons (dVar 4) aNil))) [.dat (eS rs fs), .dat (eN k), .emp, .dat (.str x.1), .dat (.int x.2)] = some (.int (isC k x).length, [.dat (eS rs fs), .dat (eN k), .emp, .dat (.str x.1), .dat (.int x.2)]) := by
  refine dCallS (ds := [eN k, .int x.2]) (by simp) ((powers O.k1 O.k3 (O.pr x hx)).trans ?_)
  simp [isC]
theorem pw2 {k : Nat} {rs fs : List Sg} (O : SgOk k rs fs) {x : Sg} (hx : x ∈ fs) {s2 : SV} : (dOp mulD (dCall F_power (aCons (dVar 1) (aCons (dVar 4) aNil))) (dVar 1)) [.dat (eS rs fs), .dat (eN k), s2, .dat (.str x.1), .dat (.int x.2)] = some (.int (ofC k x).length, [.dat (eS rs fs), .dat (eN k), s2, .dat (.str x.1), .dat (.int x.2)]) := by
  have hp := Nat.le_trans (O.pf x hx) (show 1 ≤ 2 by decide)
  exact dOp_ok (dCallS (ds := [eN k, .int x.2]) (by simp) (powers O.k1 O.k3 hp)) rfl (ofC_mul O hx)
theorem mc1 {k : Nat} {rs fs : List Sg} (O : SgOk k rs fs) : dUn sumD (dFrz (lComp [3, 4] (iSeqD (dOp ixD (dVar 0) (dC (.int 0)))) (gT 2 (gsCons (gN 3) (gsCons (gN 4) gsNil))) bYes (dCall F_power (aCons (dVar 1) (aCons (dVar 4) aNil))))) [.dat (eS rs fs), .dat (eN k), .emp, .emp, .emp] = some (.int (rs.flatMap (isC k)).length, [.dat (eS rs fs), .dat (eN k), .emp, .emp, .emp]) := by
  have r2 := O.r2
  have f2 := O.f2
  have k3 := O.k3
  have e1 := lComp_mapS (vs := [3, 4]) (I := (iSeqD (dOp ixD (dVar 0) (dC (.int 0))))) (g := gT 2 (gsCons (gN 3) (gsCons (gN 4) gsNil))) (C := bYes) (F := (dCall F_power (aCons (dVar 1) (aCons (dVar 4) aNil)))) (ρ := [.dat (eS rs fs), .dat (eN k), .emp, .emp, .emp]) (xs := rs) (enc := eR) (out := fun p => .int ((fun p => ((isC k p).length : Int)) p))
      (iSeqT_ok (by simp [eS, ix0])) (by omega) (fun x hx => ⟨[.dat (eS rs fs), .dat (eN k), .emp, .dat (.str x.1), .dat (.int x.2)], by simp [eR], by simp, by simp, pw1 O hx⟩)
  exact dUn_ok (dFrz_ok e1) (sumD_ok.trans (by rw [sum_fm]))
theorem mc2 {k : Nat} {rs fs : List Sg} (O : SgOk k rs fs) : dUn sumD (dFrz (lComp [3, 4] (iSeqD (dOp ixD (dVar 0) (dC (.int 1)))) (gT 2 (gsCons (gN 3) (gsCons (gN 4) gsNil))) bYes (dOp mulD (dCall F_power (aCons (dVar 1) (aCons (dVar 4) aNil))) (dVar 1)))) [.dat (eS rs fs), .dat (eN k), .dat (.int (rs.flatMap (isC k)).length), .emp, .emp] = some (.int (fs.flatMap (ofC k)).length, [.dat (eS rs fs), .dat (eN k), .dat (.int (rs.flatMap (isC k)).length), .emp, .emp]) := by
  have r2 := O.r2
  have f2 := O.f2
  have k3 := O.k3
  have e2 := lComp_mapS (vs := [3, 4]) (I := (iSeqD (dOp ixD (dVar 0) (dC (.int 1))))) (g := gT 2 (gsCons (gN 3) (gsCons (gN 4) gsNil))) (C := bYes) (F := (dOp mulD (dCall F_power (aCons (dVar 1) (aCons (dVar 4) aNil))) (dVar 1))) (ρ := [.dat (eS rs fs), .dat (eN k), .dat (.int (rs.flatMap (isC k)).length), .emp, .emp]) (xs := fs) (enc := eR) (out := fun p => .int ((fun p => ((ofC k p).length : Int)) p))
      (iSeqT_ok (by simp [eS, ix1])) (by omega) (fun x hx => ⟨[.dat (eS rs fs), .dat (eN k), .dat (.int (rs.flatMap (isC k)).length), .dat (.str x.1), .dat (.int x.2)], by simp [eR], by simp, by simp, pw2 O hx⟩)
  exact dUn_ok (dFrz_ok e2) (sumD_ok.trans (by rw [sum_fm]))
theorem manycells {k : Nat} {rs fs : List Sg} (O : SgOk k rs fs) : F_many_cells [eS rs fs, eN k] = some (.int (allC k rs fs).length) := by
  refine runD_eq (ρ := [.dat (eS rs fs), .dat (eN k), .dat (.int (rs.flatMap (isC k)).length), .emp, .emp]) rfl ?_
  unfold S_many_cells
  refine (sSeq_nx (ρ1 := [.dat (eS rs fs), .dat (eN k), .dat (.int (rs.flatMap (isC k)).length), .emp, .emp]) (sSet_ok (mc1 O))).trans (sRet_ok ?_)
  exact dOp_ok (ρ1 := [.dat (eS rs fs), .dat (eN k), .dat (.int (rs.flatMap (isC k)).length), .emp, .emp]) (d := .int (rs.flatMap (isC k)).length) rfl (mc2 O) (by simp [allC])
theorem checksize {k : Nat} {rs fs : List Sg} (O : SgOk k rs fs) : F_check_size [eS rs fs, eN k] = some (.ok .none) := by
  have h := manycells O
  have l := allC_len O
  have k1 := O.k1
  have k3 := O.k3
  have b : F_is_size [eN k] = some (.bool true) := by
    have := is_between_eq (d := eN k) (i := 1) (j := 5) rfl
    have h1 : betw 1 5 (eN k) = true := by simp [betw, eN]; omega
    simp [F_is_size, S_is_size, runD, en0, this, h1]
  have g : gtD (.int (allC k rs fs).length) (.int 64) = some (.bool false) := by
    rw [gt_int]; simp; omega
  simp [F_check_size, S_check_size, runX, en0, h, b, g]
theorem cells_ok {k : Nat} {rs fs : List Sg} (O : SgOk k rs fs) : F_cells [eS rs fs, eN k] = some (.tuple ((allC k rs fs).map eC)) := by
  simp [F_cells, S_cells, runD, en0, okOf, checksigns O, checksize O, cellsof O, tupleD]
end DL
set_option Elab.async false
set_option linter.all false
set_option maxRecDepth 100000
set_option maxHeartbeats 1000000
/-! P7: worlds, and what is so in them. -/
namespace DL
open PySem PySem.Spec L2
open PyProof.Rows hiding St
/-! ### shaped data -/
def Sh (n : Nat) (d : PyData) : Prop := d.canLay0 = true ∧ d.depth ≤ n
theorem sh_all {n : Nat} : ∀ {ds : List PyData}, (∀ d ∈ ds, Sh n d) → PyData.canLayAll0 ds = true ∧ PyData.depthAll ds ≤ n
  | [], _ => ⟨rfl, by simp [PyData.depthAll]⟩
  | d :: ds, h => by
    have h1 := h d List.mem_cons_self
    have h2 := sh_all (ds := ds) fun e he => h e (List.mem_cons_of_mem _ he)
    exact ⟨by simp [PyData.canLayAll0, h1.1, h2.1], by exact Nat.max_le.mpr ⟨h1.2, h2.2⟩⟩
theorem sh_t {n : Nat} {ds : List PyData} (h : ∀ d ∈ ds, Sh n d) : Sh (n + 1) (.tuple ds) := by
  have := sh_all h
  exact ⟨by simp [PyData.canLay0, this.1], by simp [PyData.depth]; exact this.2⟩
theorem sh_l {n : Nat} {ds : List PyData} (h : ∀ d ∈ ds, Sh n d) : Sh (n + 1) (.list ds) := by
  have := sh_all h
  exact ⟨by simp [PyData.canLay0, this.1], by simp [PyData.depth]; exact this.2⟩
theorem Sh.up {n m : Nat} {d : PyData} (h : Sh n d) (hm : n ≤ m) : Sh m d := ⟨h.1, Nat.le_trans h.2 hm⟩
theorem Sh.ok {n : Nat} {d : PyData} (h : Sh n d) (hn : n ≤ 64) : SeqAt.shaped d = true := by
  have h2 : d.depth ≤ 64 := Nat.le_trans h.2 hn
  unfold SeqAt.shaped
  rw [h.1, decide_eq_true h2]
  rfl
theorem sh_int {i : Int} : Sh 0 (.int i) := ⟨rfl, Nat.le_refl _⟩
theorem sh_bool {b : Bool} : Sh 0 (.bool b) := ⟨rfl, Nat.le_refl _⟩
theorem sh_str {x : Str} (h : PyData.strOk x = true) : Sh 0 (.str x) := ⟨h, Nat.le_refl _⟩
theorem str7 {n : Str} (h : n ∈ names7) : PyData.strOk n = true := by
  simp only [names7, List.mem_cons, List.not_mem_nil, or_false] at h
  rcases h with rfl | rfl | rfl | rfl | rfl | rfl | rfl <;> decide +kernel
theorem sh_row {r : List Nat} : Sh 1 (eRow r) := sh_t fun d hd => by obtain ⟨a, _, rfl⟩ := List.mem_map.mp hd; exact sh_int
theorem eqv_nat {a b : Nat} : PyData.eqv (eN a) (eN b) = (a == b) := by
  show ((a : Int) == (b : Int)) = _
  by_cases h : a = b
  · subst h; simp
  · rw [beq_eq_false_iff_ne.mpr h]; exact beq_eq_false_iff_ne.mpr (by omega)
theorem eqv_rows : ∀ {a b : List Nat}, PyData.eqvAll (a.map eN) (b.map eN) = decide (a = b)
  | [], [] => rfl
  | [], _ :: _ => rfl
  | _ :: _, [] => rfl
  | x :: a, y :: b => by
    show (PyData.eqv (eN x) (eN y) && PyData.eqvAll (a.map eN) (b.map eN)) = _
    rw [eqv_nat, eqv_rows]
    by_cases h : x = y <;> simp [h]
theorem eqv_row {a b : List Nat} : PyData.eqv (eRow a) (eRow b) = decide (a = b) := eqv_rows
theorem in_tup {d : PyData} {es : List PyData} (hf : flatD d = false) (h1 : SeqAt.shaped d = true) (h2 : SeqAt.shaped (.tuple es) = true) : inD d (.tuple es) = some (.bool (es.any fun z => PyData.eqv z d)) := by
  have : inB d (.tuple es) = if (flatD d && es.all flatD) = true then some (es.any fun z => PyData.eqv z d) else if (SeqAt.shaped d && SeqAt.shaped (.tuple es)) = true then some (es.any fun z => PyData.eqv z d) else none := by cases d <;> rfl
  unfold inD
  rw [this, hf, h1, h2]
  rfl
theorem in_list {d : PyData} {es : List PyData} (h1 : SeqAt.shaped d = true) (h2 : SeqAt.shaped (.list es) = true) : inD d (.list es) = some (.bool (es.any fun z => PyData.eqv z d)) := by
  have : inB d (.list es) = if (SeqAt.shaped d && SeqAt.shaped (.list es)) = true then some (es.any fun z => PyData.eqv z d) else none := by cases d <;> rfl
  unfold inD
  rw [this, h1, h2]
  rfl
theorem sh_rows {l : List (List Nat)} : Sh 2 (.tuple (l.map eRow)) := sh_t (n := 1) fun d hd => by obtain ⟨a, _, rfl⟩ := List.mem_map.mp hd; exact sh_row
theorem in_rows {r : List Nat} {l : List (List Nat)} : inD (eRow r) (.tuple (l.map eRow)) = some (.bool (l.contains r)) := by
  rw [in_tup rfl (sh_row.ok (by decide)) (sh_rows.ok (by decide)), List.any_map]
  congr 2
  rw [Bool.eq_iff_iff]
  simp [eqv_row]
theorem eq_str {x y : Str} (hx : PyData.strOk x = true) (hy : PyData.strOk y = true) : eqD (.str x) (.str y) = some (.bool (x == y)) := by
  unfold eqD
  rw [(sh_str hx).ok (by decide), (sh_str hy).ok (by decide)]
  rfl
/-! ### worlds -/
abbrev Tb := Sg × List (List Nat)
abbrev Co := Sg × List Nat
def eT (w : Tb) : PyData := .tuple (w.2.map eRow)
def eCo (c : Co) : PyData := eRow c.2
def eW (k : Nat) (ws : List Tb) (cs : List Co) : PyData := .tuple [eN k, .tuple (ws.map eT), .tuple (cs.map eCo)]
structure WOk (k : Nat) (ws : List Tb) (cs : List Co) : Prop where
  tab : ∀ w ∈ ws, w.2.Sublist (tup k w.1.2)
  col : ∀ c ∈ cs, c.2.length = (tup k c.1.2).length ∧ ∀ t ∈ c.2, t < k
def wNm (w : Tb) : Str := w.1.1
def cNm (c : Co) : Str := c.1.1
/-- where a name stands -/
theorem fi_ok {α : Type} {key : α → Str} : ∀ {xs : List α} {p : α}, p ∈ xs → (xs.map key).Nodup → ∃ j : Nat, (xs.map fun x => PyData.str (key x)).findIdx? (fun z => PyData.eqv z (.str (key p))) = some j ∧ xs[j]? = some p
  | [], _, h, _ => by cases h
  | x :: xs, p, h, nd => by
    rw [List.map_cons, List.nodup_cons] at nd
    rw [List.map_cons, List.findIdx?_cons]
    have e : PyData.eqv (.str (key x)) (.str (key p)) = (key x == key p) := rfl
    rw [e]
    by_cases hk : key x = key p
    · rw [hk, beq_self_eq_true, if_pos rfl]
      refine ⟨0, rfl, ?_⟩
      rcases List.mem_cons.mp h with z | z
      · subst z; rfl
      · exact absurd (List.mem_map.mpr ⟨p, z, rfl⟩) (hk ▸ nd.1)
    · rw [beq_eq_false_iff_ne.mpr hk]
      have hp : p ∈ xs := by
        rcases List.mem_cons.mp h with z | z
        · subst z; exact absurd rfl hk
        · exact z
      obtain ⟨j, h1, h2⟩ := fi_ok hp nd.2
      exact ⟨j + 1, by simp [h1], by simpa using h2⟩
theorem sh_names {α : Type} {key : α → Str} {xs : List α} (h : ∀ x ∈ xs, key x ∈ names7) : Sh 1 (.list (xs.map fun x => PyData.str (key x))) := sh_l fun d hd => by
  obtain ⟨a, ha, rfl⟩ := List.mem_map.mp hd
  exact sh_str (str7 (h a ha))
theorem idx_ok {α : Type} {key : α → Str} {xs : List α} {p : α} (hp : p ∈ xs) (nd : (xs.map key).Nodup) (h : ∀ x ∈ xs, key x ∈ names7) : ∃ j : Nat, idxD (xs.map fun x => PyData.str (key x)) [.str (key p)] = some (.int j) ∧ xs[j]? = some p := by
  obtain ⟨j, h1, h2⟩ := fi_ok hp nd
  refine ⟨j, ?_, h2⟩
  unfold idxD
  show (if (SeqAt.shaped (.list (xs.map fun x => PyData.str (key x))) && SeqAt.shaped (.str (key p))) = true then _ else _) = _
  rw [(sh_names h).ok (by decide), (sh_str (str7 (h p hp))).ok (by decide), h1]
  rfl
/-! ### the place of a row -/
def isN : Option PyData → Nat → Bool
  | some (.int i), j => i == (j : Int)
  | _, _ => false
theorem isN_eq {o : Option PyData} {j : Nat} (h : isN o j = true) : o = some (.int j) := by
  unfold isN at h
  split at h
  · rw [eq_of_beq h]
  · cases h
theorem place_ok {k p : Nat} (h1 : 1 ≤ k) (h2 : k ≤ 3) (h3 : p ≤ 2) {r : List Nat} (hr : r ∈ tup k p) : F__law_place [eN k, eRow r] = some (.int ((tup k p).idxOf r)) := by
  have : (tup k p).all (fun r => isN (F__law_place [eN k, eRow r]) ((tup k p).idxOf r)) = true := by
    rcases three h1 h2 with rfl | rfl | rfl <;> rcases upto2 h3 with rfl | rfl | rfl <;> decide +kernel
  exact isN_eq (List.all_eq_true.mp this r hr)
theorem placeof_ok {k p : Nat} (h1 : 1 ≤ k) (h2 : k ≤ 3) (h3 : p ≤ 2) {r : List Nat} (hr : r ∈ tup k p) : F_place_of [eN k, eRow r] = some (.int ((tup k p).idxOf r)) := place_ok h1 h2 h3 hr
/-! ### what is so -/
def so (k : Nat) (ws : List Tb) (cs : List Co) : Ce → Bool
  | .is n r => ws.any fun w => wNm w == n && w.2.contains r
  | .of n r t => cs.any fun c => cNm c == n && (c.2[(tup k c.1.2).idxOf r]? == some t)
theorem any_key {α : Type} {key : α → Str} {f : α → Bool} : ∀ {xs : List α} {p : α}, p ∈ xs → (xs.map key).Nodup → xs.any (fun x => key x == key p && f x) = f p
  | [], _, h, _ => by cases h
  | x :: xs, p, h, nd => by
    rw [List.map_cons, List.nodup_cons] at nd
    rw [List.any_cons]
    by_cases hk : key x = key p
    · have hx : x = p := by
        rcases List.mem_cons.mp h with z | z
        · exact z.symm
        · exact absurd (List.mem_map.mpr ⟨p, z, rfl⟩) (hk ▸ nd.1)
      subst hx
      have : xs.any (fun y => key y == key x && f y) = false := by
        rw [List.any_eq_false]
        intro y hy
        have : key y ≠ key x := fun z => nd.1 (List.mem_map.mpr ⟨y, hy, z⟩)
        simp [this]
      rw [this]
      simp
    · have hp : p ∈ xs := by
        rcases List.mem_cons.mp h with z | z
        · subst z; exact absurd rfl hk
        · exact z
      rw [any_key hp nd.2]
      simp [hk]
theorem so_is {k : Nat} {ws : List Tb} {cs : List Co} {w : Tb} (hw : w ∈ ws) (nd : (ws.map wNm).Nodup) {r : List Nat} : so k ws cs (.is (wNm w) r) = w.2.contains r := any_key hw nd
theorem so_of {k : Nat} {ws : List Tb} {cs : List Co} {c : Co} (hc : c ∈ cs) (nd : (cs.map cNm).Nodup) {r : List Nat} {t : Nat} : so k ws cs (.of (cNm c) r t) = (c.2[(tup k c.1.2).idxOf r]? == some t) := any_key (α := Co) (key := cNm) (f := fun c => c.2[(tup k c.1.2).idxOf r]? == some t) hc nd
abbrev rsOf (ws : List Tb) : List Sg := ws.map (·.1)
abbrev fsOf (cs : List Co) : List Sg := cs.map (·.1)
theorem ndW {k : Nat} {ws : List Tb} {cs : List Co} (O : SgOk k (rsOf ws) (fsOf cs)) : (ws.map wNm).Nodup ∧ (cs.map cNm).Nodup := by
  have h := O.nd
  rw [List.map_append, List.nodup_append, List.map_map, List.map_map] at h
  exact ⟨h.1, h.2.1⟩
theorem nmW {k : Nat} {ws : List Tb} {cs : List Co} (O : SgOk k (rsOf ws) (fsOf cs)) : (∀ w ∈ ws, wNm w ∈ names7) ∧ (∀ c ∈ cs, cNm c ∈ names7) :=
  ⟨fun w hw => O.nm w.1 (List.mem_append_left _ (List.mem_map.mpr ⟨w, hw, rfl⟩)), fun w hw => O.nm w.1 (List.mem_append_right _ (List.mem_map.mpr ⟨w, hw, rfl⟩))⟩
theorem is_is : eqD (.str "is") (.str "is") = some (.bool true) := by
  rw [eq_str (by decide +kernel) (by decide +kernel), show (("is" : Str) == ("is" : Str)) = true by decide +kernel]
theorem of_is : eqD (.str "of") (.str "is") = some (.bool false) := by
  rw [eq_str (by decide +kernel) (by decide +kernel), show (("of" : Str) == ("is" : Str)) = false by decide +kernel]
/-- the two bodies in one -/
def soS (A B : DF) (pl : List PyData → Option PyData) : DS := sSeq (sIf (bVal (dOp eqD (dOp ixD (dVar 2) (dC (.int 0))) (dC (.str "is")))) (sRet (dOp inD (dOp ixD (dVar 2) (dC (.int 2))) (dOp ixD (dOp ixD (dVar 1) (dC (.int 1))) A))) sNext)
    (sRet (dOp eqD (dOp ixD (dOp ixD (dOp ixD (dVar 1) (dC (.int 2))) B) (dCall pl (aCons (dOp ixD (dVar 1) (dC (.int 0))) (aCons (dOp ixD (dVar 2) (dC (.int 2))) aNil)))) (dOp ixD (dVar 2) (dC (.int 3)))))
theorem so_genI {k : Nat} {ws : List Tb} {cs : List Co} {S : PyData} {A B : DF} {pl : List PyData → Option PyData} {w : Tb} {r : List Nat} {rest : En} {j : Nat}
    (hA : A (.dat S :: .dat (eW k ws cs) :: .dat (eC (.is (wNm w) r)) :: rest) = some (.int j, .dat S :: .dat (eW k ws cs) :: .dat (eC (.is (wNm w) r)) :: rest)) (hj : ws[j]? = some w) :
    soS A B pl (.dat S :: .dat (eW k ws cs) :: .dat (eC (.is (wNm w) r)) :: rest) = some (.rt (.bool (w.2.contains r)) (.dat S :: .dat (eW k ws cs) :: .dat (eC (.is (wNm w) r)) :: rest)) := by
  have e1 : eqD (.str "is") (.str "is") = some (.bool true) := is_is
  have h2 : ixD (.tuple (ws.map eT)) (.int j) = some (eT w) := atI_ok (by rw [List.getElem?_map, hj]; rfl)
  have h3 : inD (eRow r) (eT w) = some (.bool (w.2.contains r)) := in_rows
  unfold soS
  have hc : bVal (dOp eqD (dOp ixD (dVar 2) (dC (.int 0))) (dC (.str "is"))) (.dat S :: .dat (eW k ws cs) :: .dat (eC (.is (wNm w) r)) :: rest) = some (true, .dat S :: .dat (eW k ws cs) :: .dat (eC (.is (wNm w) r)) :: rest) := bVal_ok (dOpS (dOpS rfl rfl ix0) rfl e1)
  have hs := (sIf_t (S := sRet (dOp inD (dOp ixD (dVar 2) (dC (.int 2))) (dOp ixD (dOp ixD (dVar 1) (dC (.int 1))) A))) (T := sNext) hc).trans (sRet_ok (dOpS (dOpS rfl rfl ix2) (dOpS (dOpS rfl rfl ix1) hA h2) h3))
  unfold sSeq
  rw [hs]
theorem so_genO {k : Nat} {ws : List Tb} {cs : List Co} {S : PyData} {A B : DF} {pl : List PyData → Option PyData} {c : Co} {r : List Nat} {t i v : Nat} {rest : En} {j : Nat}
    (hB : B (.dat S :: .dat (eW k ws cs) :: .dat (eC (.of (cNm c) r t)) :: rest) = some (.int j, .dat S :: .dat (eW k ws cs) :: .dat (eC (.of (cNm c) r t)) :: rest)) (hj : cs[j]? = some c) (hp : pl [eN k, eRow r] = some (.int i)) (hi : c.2[i]? = some v) :
    soS A B pl (.dat S :: .dat (eW k ws cs) :: .dat (eC (.of (cNm c) r t)) :: rest) = some (.rt (.bool (v == t)) (.dat S :: .dat (eW k ws cs) :: .dat (eC (.of (cNm c) r t)) :: rest)) := by
  have e1 : eqD (.str "of") (.str "is") = some (.bool false) := of_is
  have h2 : ixD (.tuple (cs.map eCo)) (.int j) = some (eCo c) := atI_ok (by rw [List.getElem?_map, hj]; rfl)
  have h3 : ixD (eCo c) (.int i) = some (eN v) := atI_ok (by rw [List.getElem?_map, hi]; rfl)
  have h4 : eqD (eN v) (eN t) = some (.bool (v == t)) := by
    show some (PyData.bool (PyData.eqv (eN v) (eN t))) = _
    rw [eqv_nat]
  unfold soS
  have hc : bVal (dOp eqD (dOp ixD (dVar 2) (dC (.int 0))) (dC (.str "is"))) (.dat S :: .dat (eW k ws cs) :: .dat (eC (.of (cNm c) r t)) :: rest) = some (false, .dat S :: .dat (eW k ws cs) :: .dat (eC (.of (cNm c) r t)) :: rest) := bVal_ok (dOpS (dOpS rfl rfl ix0) rfl e1)
  refine (sSeq_nx (sIf_f hc)).trans ?_
  refine sRet_ok (dOpS (dOpS (dOpS (dOpS rfl rfl ix2) hB h2) (dCallS (ds := [eN k, eRow r]) ?_ hp) h3) (dOpS rfl rfl ix3) h4)
  have a1 : dOp ixD (dVar 1) (dC (.int 0)) (.dat S :: .dat (eW k ws cs) :: .dat (eC (.of (cNm c) r t)) :: rest) = some (eN k, .dat S :: .dat (eW k ws cs) :: .dat (eC (.of (cNm c) r t)) :: rest) := dOpS rfl rfl ix0
  have a2 : dOp ixD (dVar 2) (dC (.int 2)) (.dat S :: .dat (eW k ws cs) :: .dat (eC (.of (cNm c) r t)) :: rest) = some (eRow r, .dat S :: .dat (eW k ws cs) :: .dat (eC (.of (cNm c) r t)) :: rest) := dOpS rfl rfl ix2
  rw [e_aCons, a1, Option.bind_some, e_aCons, a2]
  rfl
end DL
set_option Elab.async false
set_option linter.all false
set_option maxRecDepth 100000
set_option maxHeartbeats 1000000
/-! P8: the program's and the law's looking at worlds. -/
namespace DL
open PySem PySem.Spec L2
open PyProof.Rows hiding St
theorem dMet_ok {f : List PyData → List PyData → Option PyData} {F : DF} {A : DFL} {ρ ρ1 ρ2 : En} {ds es : List PyData} {z : PyData} (h : F ρ = some (.list ds, ρ1)) (h2 : A ρ1 = some (es, ρ2)) (hf : f ds es = some z) : dMet f F A ρ = some (z, ρ2) := by
  unfold dMet
  rw [h, Option.bind_some, h2, Option.bind_some]
  show (f ds es).map _ = _
  rw [hf]
  rfl
theorem aConsS {F : DF} {A : DFL} {ρ : En} {d : PyData} {ds : List PyData} (h : F ρ = some (d, ρ)) (h2 : A ρ = some (ds, ρ)) : aCons F A ρ = some (d :: ds, ρ) := by
  unfold aCons
  rw [h, Option.bind_some, h2]
  rfl
section
variable {k : Nat} {ws : List Tb} {cs : List Co}
theorem lawA (O : SgOk k (rsOf ws) (fsOf cs)) {w : Tb} (hw : w ∈ ws) {r : List Nat} : ∃ j : Nat, (dMet idxD (dFrz (lComp [3, 4] (iSeqD (dOp ixD (dVar 0) (dC (.int 0)))) (gT 2 (gsCons (gN 3) (gsCons (gN 4) gsNil))) bYes (dVar 3))) (aCons (dOp ixD (dVar 2) (dC (.int 1))) aNil)) [.dat (eS (rsOf ws) (fsOf cs)), .dat (eW k ws cs), .dat (eC (.is (wNm w) r)), .emp, .emp] = some (.int j, [.dat (eS (rsOf ws) (fsOf cs)), .dat (eW k ws cs), .dat (eC (.is (wNm w) r)), .emp, .emp]) ∧ ws[j]? = some w := by
  obtain ⟨j, h1, h2⟩ := idx_ok (key := wNm) hw (ndW O).1 (nmW O).1
  have l := O.r2
  have e := lComp_mapS (vs := [3, 4]) (I := (iSeqD (dOp ixD (dVar 0) (dC (.int 0))))) (g := gT 2 (gsCons (gN 3) (gsCons (gN 4) gsNil))) (C := bYes) (F := dVar 3) (ρ := [.dat (eS (rsOf ws) (fsOf cs)), .dat (eW k ws cs), .dat (eC (.is (wNm w) r)), .emp, .emp]) (xs := ws) (enc := fun w => eR w.1) (out := fun w => .str (wNm w)) (iSeqT_ok (dOpS rfl rfl (by simp [eS]; exact ix0))) (by simp at l; omega) (fun x hx => ⟨[.dat (eS (rsOf ws) (fsOf cs)), .dat (eW k ws cs), .dat (eC (.is (wNm w) r)), .dat (.str x.1.1), .dat (.int x.1.2)], rfl, rfl, rfl, rfl⟩)
  refine ⟨j, dMet_ok (dFrz_ok e) ?_ h1, h2⟩
  have a : dOp ixD (dVar 2) (dC (.int 1)) [.dat (eS (rsOf ws) (fsOf cs)), .dat (eW k ws cs), .dat (eC (.is (wNm w) r)), .emp, .emp] = some (.str (wNm w), [.dat (eS (rsOf ws) (fsOf cs)), .dat (eW k ws cs), .dat (eC (.is (wNm w) r)), .emp, .emp]) := dOpS rfl rfl ix1
  show aCons _ _ [.dat (eS (rsOf ws) (fsOf cs)), .dat (eW k ws cs), .dat (eC (.is (wNm w) r)), .emp, .emp] = _
  rw [e_aCons, a]
  rfl
theorem lawB (O : SgOk k (rsOf ws) (fsOf cs)) {c : Co} (hc : c ∈ cs) {r : List Nat} {t : Nat} : ∃ j : Nat, (dMet idxD (dFrz (lComp [3, 4] (iSeqD (dOp ixD (dVar 0) (dC (.int 1)))) (gT 2 (gsCons (gN 3) (gsCons (gN 4) gsNil))) bYes (dVar 3))) (aCons (dOp ixD (dVar 2) (dC (.int 1))) aNil)) [.dat (eS (rsOf ws) (fsOf cs)), .dat (eW k ws cs), .dat (eC (.of (cNm c) r t)), .emp, .emp] = some (.int j, [.dat (eS (rsOf ws) (fsOf cs)), .dat (eW k ws cs), .dat (eC (.of (cNm c) r t)), .emp, .emp]) ∧ cs[j]? = some c := by
  obtain ⟨j, h1, h2⟩ := idx_ok (key := cNm) hc (ndW O).2 (nmW O).2
  have l := O.f2
  have e := lComp_mapS (vs := [3, 4]) (I := (iSeqD (dOp ixD (dVar 0) (dC (.int 1))))) (g := gT 2 (gsCons (gN 3) (gsCons (gN 4) gsNil))) (C := bYes) (F := dVar 3) (ρ := [.dat (eS (rsOf ws) (fsOf cs)), .dat (eW k ws cs), .dat (eC (.of (cNm c) r t)), .emp, .emp]) (xs := cs) (enc := fun w => eR w.1) (out := fun w => .str (cNm w)) (iSeqT_ok (dOpS rfl rfl (by simp [eS]; exact ix1))) (by simp at l; omega) (fun x hx => ⟨[.dat (eS (rsOf ws) (fsOf cs)), .dat (eW k ws cs), .dat (eC (.of (cNm c) r t)), .dat (.str x.1.1), .dat (.int x.1.2)], rfl, rfl, rfl, rfl⟩)
  refine ⟨j, dMet_ok (dFrz_ok e) ?_ h1, h2⟩
  have a : dOp ixD (dVar 2) (dC (.int 1)) [.dat (eS (rsOf ws) (fsOf cs)), .dat (eW k ws cs), .dat (eC (.of (cNm c) r t)), .emp, .emp] = some (.str (cNm c), [.dat (eS (rsOf ws) (fsOf cs)), .dat (eW k ws cs), .dat (eC (.of (cNm c) r t)), .emp, .emp]) := dOpS rfl rfl ix1
  show aCons _ _ [.dat (eS (rsOf ws) (fsOf cs)), .dat (eW k ws cs), .dat (eC (.of (cNm c) r t)), .emp, .emp] = _
  rw [e_aCons, a]
  rfl
theorem placein_ok {α : Type} {f : α → Sg} {xs : List α} {p : α} (hp : p ∈ xs) (nd : (xs.map fun x => (f x).1).Nodup) (h : ∀ x ∈ xs, (f x).1 ∈ names7) (hl : xs.length ≤ 100) : ∃ j : Nat, F_place_in [.tuple (xs.map fun x => eR (f x)), .str (f p).1] = some (.int j) ∧ xs[j]? = some p := by
  obtain ⟨j, h1, h2⟩ := idx_ok (key := fun x => (f x).1) hp nd h
  have e := lComp_mapS (vs := [2, 3]) (I := (iSeqD (dVar 0))) (g := gT 2 (gsCons (gN 2) (gsCons (gN 3) gsNil))) (C := bYes) (F := dVar 2) (ρ := [.dat (.tuple (xs.map fun x => eR (f x))), .dat (.str (f p).1), .emp, .emp]) (xs := xs) (enc := fun x => eR (f x)) (out := fun x => .str (f x).1) (iSeqT_ok rfl) (by omega) (fun x hx => ⟨[.dat (.tuple (xs.map fun x => eR (f x))), .dat (.str (f p).1), .dat (.str (f x).1), .dat (.int (f x).2)], rfl, rfl, rfl, rfl⟩)
  refine ⟨j, runD_eq (ρ := [.dat (.tuple (xs.map fun x => eR (f x))), .dat (.str (f p).1), .emp, .emp]) rfl ?_, h2⟩
  unfold S_place_in
  exact sRet_ok (dMet_ok (dFrz_ok e) rfl h1)
/-- what a cell of all is -/
theorem mem_all {c : Ce} (hc : c ∈ allC k (rsOf ws) (fsOf cs)) : (∃ w r, w ∈ ws ∧ r ∈ tup k w.1.2 ∧ c = .is (wNm w) r) ∨ (∃ w r t, w ∈ cs ∧ r ∈ tup k w.1.2 ∧ t < k ∧ c = .of (cNm w) r t) := by
  unfold allC at hc
  rcases List.mem_append.mp hc with h | h
  · obtain ⟨p, hp, h⟩ := List.mem_flatMap.mp h
    obtain ⟨w, hw, rfl⟩ := List.mem_map.mp hp
    obtain ⟨r, hr, rfl⟩ := List.mem_map.mp h
    exact .inl ⟨w, r, hw, hr, rfl⟩
  · obtain ⟨p, hp, h⟩ := List.mem_flatMap.mp h
    obtain ⟨w, hw, rfl⟩ := List.mem_map.mp hp
    obtain ⟨r, hr, h⟩ := List.mem_flatMap.mp h
    obtain ⟨t, ht, rfl⟩ := List.mem_map.mp h
    exact .inr ⟨w, r, t, hw, hr, List.mem_range.mp ht, rfl⟩
theorem col_at (W : WOk k ws cs) {c : Co} (hc : c ∈ cs) {r : List Nat} (hr : r ∈ tup k c.1.2) : ∃ v, c.2[(tup k c.1.2).idxOf r]? = some v ∧ v < k := by
  have h1 := (W.col c hc).1
  have h2 : (tup k c.1.2).idxOf r < c.2.length := by rw [h1]; exact List.idxOf_lt_length_iff.mpr hr
  exact ⟨c.2[(tup k c.1.2).idxOf r], List.getElem?_eq_getElem h2, (W.col c hc).2 _ (List.getElem_mem h2)⟩
theorem pfW (O : SgOk k (rsOf ws) (fsOf cs)) {c : Co} (hc : c ∈ cs) : c.1.2 ≤ 1 := O.pf c.1 (List.mem_map.mpr ⟨c, hc, rfl⟩)
theorem prW (O : SgOk k (rsOf ws) (fsOf cs)) {c : Tb} (hc : c ∈ ws) : c.1.2 ≤ 2 := O.pr c.1 (List.mem_map.mpr ⟨c, hc, rfl⟩)
theorem lawso (O : SgOk k (rsOf ws) (fsOf cs)) (W : WOk k ws cs) {c : Ce} (hc : c ∈ allC k (rsOf ws) (fsOf cs)) : F__law_so [eS (rsOf ws) (fsOf cs), eW k ws cs, eC c] = some (.bool (so k ws cs c)) := by
  rcases mem_all hc with ⟨w, r, hw, hr, rfl⟩ | ⟨w, r, t, hw, hr, ht, rfl⟩
  · obtain ⟨j, hA, hj⟩ := lawA O hw (r := r)
    rw [so_is hw (ndW O).1]
    exact runD_eq rfl (so_genI hA hj)
  · obtain ⟨j, hB, hj⟩ := lawB O hw (r := r) (t := t)
    obtain ⟨v, hv, _⟩ := col_at W hw hr
    rw [so_of hw (ndW O).2, hv]
    exact runD_eq rfl (so_genO hB hj (place_ok O.k1 O.k3 (Nat.le_trans (pfW O hw) (by decide)) hr) hv)
theorem cellso (O : SgOk k (rsOf ws) (fsOf cs)) (W : WOk k ws cs) {c : Ce} (hc : c ∈ allC k (rsOf ws) (fsOf cs)) : F_is_cell_so [eS (rsOf ws) (fsOf cs), eW k ws cs, eC c] = some (.bool (so k ws cs c)) := by
  rcases mem_all hc with ⟨w, r, hw, hr, rfl⟩ | ⟨w, r, t, hw, hr, ht, rfl⟩
  · have l := O.r2
    obtain ⟨j, hA, hj⟩ := placein_ok (f := fun w : Tb => w.1) hw (ndW O).1 (nmW O).1 (by simp at l; omega)
    rw [so_is hw (ndW O).1]
    refine runD_eq rfl (so_genI (dCallS (ds := [.tuple (ws.map fun x => eR x.1), .str (wNm w)]) ?_ hA) hj)
    have a1 : dOp ixD (dVar 0) (dC (.int 0)) [.dat (eS (rsOf ws) (fsOf cs)), .dat (eW k ws cs), .dat (eC (.is (wNm w) r))] = some (.tuple (ws.map fun x => eR x.1), [.dat (eS (rsOf ws) (fsOf cs)), .dat (eW k ws cs), .dat (eC (.is (wNm w) r))]) := dOpS rfl rfl (by simp [eS]; exact ix0)
    have a2 : dOp ixD (dVar 2) (dC (.int 1)) [.dat (eS (rsOf ws) (fsOf cs)), .dat (eW k ws cs), .dat (eC (.is (wNm w) r))] = some (.str (wNm w), [.dat (eS (rsOf ws) (fsOf cs)), .dat (eW k ws cs), .dat (eC (.is (wNm w) r))]) := dOpS rfl rfl ix1
    show aCons _ _ [.dat (eS (rsOf ws) (fsOf cs)), .dat (eW k ws cs), .dat (eC (.is (wNm w) r))] = _
    rw [e_aCons, a1, Option.bind_some, e_aCons, a2]
    rfl
  · have l := O.f2
    obtain ⟨j, hA, hj⟩ := placein_ok (f := fun w : Co => w.1) hw (ndW O).2 (nmW O).2 (by simp at l; omega)
    obtain ⟨v, hv, _⟩ := col_at W hw hr
    rw [so_of hw (ndW O).2, hv]
    refine runD_eq rfl (so_genO (dCallS (ds := [.tuple (cs.map fun x => eR x.1), .str (cNm w)]) ?_ hA) hj (placeof_ok O.k1 O.k3 (Nat.le_trans (pfW O hw) (by decide)) hr) hv)
    have a1 : dOp ixD (dVar 0) (dC (.int 1)) [.dat (eS (rsOf ws) (fsOf cs)), .dat (eW k ws cs), .dat (eC (.of (cNm w) r t))] = some (.tuple (cs.map fun x => eR x.1), [.dat (eS (rsOf ws) (fsOf cs)), .dat (eW k ws cs), .dat (eC (.of (cNm w) r t))]) := dOpS rfl rfl (by simp [eS]; exact ix1)
    have a2 : dOp ixD (dVar 2) (dC (.int 1)) [.dat (eS (rsOf ws) (fsOf cs)), .dat (eW k ws cs), .dat (eC (.of (cNm w) r t))] = some (.str (cNm w), [.dat (eS (rsOf ws) (fsOf cs)), .dat (eW k ws cs), .dat (eC (.of (cNm w) r t))]) := dOpS rfl rfl ix1
    show aCons _ _ [.dat (eS (rsOf ws) (fsOf cs)), .dat (eW k ws cs), .dat (eC (.of (cNm w) r t))] = _
    rw [e_aCons, a1, Option.bind_some, e_aCons, a2]
    rfl
/-! ### literals -/
theorem numb_ok {β : Type} {f : β → PyData} {xs : List β} : numbD (xs.map f) = xs.zipIdx.map fun p => .tuple [.int p.2, f p.1] := by
  unfold numbD
  rw [List.zipIdx_map, List.map_map]
  rfl
def lit (s : Ce → Bool) (p : Ce × Nat) : Int := if s p.1 = true then (p.2 : Int) + 1 else 0 - p.2 - 1
def lits (s : Ce → Bool) (all : List Ce) : List Int := all.zipIdx.map (lit s)
theorem mem_zipIdx {α : Type} {xs : List α} {p : α × Nat} (h : p ∈ xs.zipIdx) : p.1 ∈ xs ∧ p.2 < xs.length := by
  obtain ⟨a, i⟩ := p
  have h1 := List.mem_zipIdx' h
  obtain ⟨h2, h3⟩ := h1
  exact ⟨by rw [h3]; exact List.getElem_mem h2, h2⟩
theorem literalsof (O : SgOk k (rsOf ws) (fsOf cs)) (W : WOk k ws cs) : F_literals_of [eS (rsOf ws) (fsOf cs), eW k ws cs] = some (.list ((lits (so k ws cs) (allC k (rsOf ws) (fsOf cs))).map .int)) := by
  have l36 := allC_len O
  obtain ⟨ρ1, e1, J1⟩ := sFor_invS (I := (iEnD (dCall F_cells_of (aCons (dVar 0) (aCons (dOp ixD (dVar 1) (dC (.int 0))) aNil))))) (g := (gT 2 (gsCons (gN 3) (gsCons (gN 4) gsNil)))) (S := (sApp 2 (dIf (bVal (dCall F_is_cell_so (aCons (dVar 0) (aCons (dVar 1) (aCons (dVar 4) aNil))))) (dOp addD (dVar 3) (dC (.int 1))) (dOp subD (dOp subD (dC (.int 0)) (dVar 3)) (dC (.int 1))))))
    (ρ := [.dat (eS (rsOf ws) (fsOf cs)), .dat (eW k ws cs), .own [], .emp, .emp]) (xs := (allC k (rsOf ws) (fsOf cs)).zipIdx) (enc := fun p => .tuple [.int p.2, eC p.1])
    (fun pre ρ => ∃ s3 s4, ρ = [.dat (eS (rsOf ws) (fsOf cs)), .dat (eW k ws cs), .own (pre.map fun p => .int (lit (so k ws cs) p)), s3, s4])
    (by
      have a1 : dOp ixD (dVar 1) (dC (.int 0)) [.dat (eS (rsOf ws) (fsOf cs)), .dat (eW k ws cs), .own [], .emp, .emp] = some (eN k, [.dat (eS (rsOf ws) (fsOf cs)), .dat (eW k ws cs), .own [], .emp, .emp]) := dOpS rfl rfl ix0
      have a2 : (aCons (dVar 0) (aCons (dOp ixD (dVar 1) (dC (.int 0))) aNil)) [.dat (eS (rsOf ws) (fsOf cs)), .dat (eW k ws cs), .own [], .emp, .emp] = some ([eS (rsOf ws) (fsOf cs), eN k], [.dat (eS (rsOf ws) (fsOf cs)), .dat (eW k ws cs), .own [], .emp, .emp]) := aConsS rfl (aConsS a1 rfl)
      unfold iEnD
      rw [dCallS a2 (cellsof O), Option.bind_some]
      show some (numbD _, _) = _
      rw [numb_ok]) ⟨_, _, rfl⟩ (fun pre x post ρ e J => by
      obtain ⟨s3, s4, rfl⟩ := J
      have hx : x ∈ (allC k (rsOf ws) (fsOf cs)).zipIdx := by rw [e]; simp
      have hl : pre.length < 100 := by
        have : (allC k (rsOf ws) (fsOf cs)).zipIdx.length = (pre ++ x :: post).length := by rw [e]
        simp at this
        omega
      have hc := cellso O W (mem_zipIdx hx).1
      refine ⟨[.dat (eS (rsOf ws) (fsOf cs)), .dat (eW k ws cs), .own (pre.map fun p => .int (lit (so k ws cs) p)), .dat (.int x.2), .dat (eC x.1)], [.dat (eS (rsOf ws) (fsOf cs)), .dat (eW k ws cs), .own ((pre.map fun p => .int (lit (so k ws cs) p)) ++ [.int (lit (so k ws cs) x)]), .dat (.int x.2), .dat (eC x.1)], rfl, sApp_ok (ds' := (pre.map fun p => .int (lit (so k ws cs) p))) (ds := (pre.map fun p => .int (lit (so k ws cs) p))) (ρ1 := [.dat (eS (rsOf ws) (fsOf cs)), .dat (eW k ws cs), .own (pre.map fun p => .int (lit (so k ws cs) p)), .dat (.int x.2), .dat (eC x.1)]) rfl ?_ rfl (by rw [List.length_map]; omega), ⟨.dat (.int x.2), .dat (eC x.1), by simp⟩⟩
      have hb := bVal_ok (dCallS (ρ := [.dat (eS (rsOf ws) (fsOf cs)), .dat (eW k ws cs), .own (pre.map fun p => .int (lit (so k ws cs) p)), .dat (.int x.2), .dat (eC x.1)]) (A := (aCons (dVar 0) (aCons (dVar 1) (aCons (dVar 4) aNil)))) rfl hc)
      unfold dIf
      rw [hb, Option.bind_some]
      unfold lit
      cases so k ws cs x.1 with
      | true => rfl
      | false => rfl)
  obtain ⟨s3, s4, rfl⟩ := J1
  refine runD_eq (ρ := [.dat (eS (rsOf ws) (fsOf cs)), .dat (eW k ws cs), .dat (.list ((lits (so k ws cs) (allC k (rsOf ws) (fsOf cs))).map .int)), s3, s4]) rfl ?_
  unfold S_literals_of
  refine (sSeq_nx (ρ1 := [.dat (eS (rsOf ws) (fsOf cs)), .dat (eW k ws cs), .own [], .emp, .emp]) rfl).trans ((sSeq_nx e1).trans ?_)
  simp [lits]
end
end DL
set_option Elab.async false
set_option linter.all false
set_option maxRecDepth 100000
set_option maxHeartbeats 1000000
/-! P9: the law's worlds are worlds. -/
namespace DL
open PySem PySem.Spec L2
open PyProof.Rows hiding St
theorem tup_row {k p : Nat} (h1 : 1 ≤ k) (h2 : k ≤ 3) (h3 : p ≤ 2) : ∀ r ∈ tup k p, r.length = p ∧ ∀ t ∈ r, t < k := by
  rcases three h1 h2 with rfl | rfl | rfl <;> rcases upto2 h3 with rfl | rfl | rfl <;> decide
def rlt (a b : List Nat) : Bool := HT.lexLt (a.map fun (n : Nat) => (n : Int)) (b.map fun (n : Nat) => (n : Int))
theorem tup_asc {k p : Nat} (h1 : 1 ≤ k) (h2 : k ≤ 3) (h3 : p ≤ 2) : (tup k p).Pairwise fun a b => rlt a b = true := by
  rcases three h1 h2 with rfl | rfl | rfl <;> rcases upto2 h3 with rfl | rfl | rfl <;> decide +kernel
theorem lt_row {a b : List Nat} : ltD (eRow a) (eRow b) = some (.bool (rlt a b)) := by
  show (intsOf (a.map eN)).bind (fun ns => (intsOf (b.map eN)).map fun ms => PyData.bool (HT.lexLt ns ms)) = _
  rw [show intsOf (a.map eN) = some (a.map fun (n : Nat) => (n : Int)) from intsOf_ok, show intsOf (b.map eN) = some (b.map fun (n : Nat) => (n : Int)) from intsOf_ok]
  rfl
theorem arebetween {r : List Nat} {k : Nat} (h : ∀ t ∈ r, t < k) (hl : r.length ≤ 100) : F_are_between [eRow r, .int 0, .int ((k : Int) - 1)] = some (.bool true) := by
  have e := lComp_mapS (vs := [3]) (I := (iSeqD (dVar 0))) (g := gN 3) (C := bYes) (F := (dCall F_is_between (aCons (dVar 3) (aCons (dVar 1) (aCons (dVar 2) aNil))))) (ρ := [.dat (eRow r), .dat (.int 0), .dat (.int ((k : Int) - 1)), .emp]) (xs := r) (enc := eN) (out := fun x => .bool ((fun _ => true) x)) (iSeqT_ok rfl) (by omega) (fun x hx => ⟨[.dat (eRow r), .dat (.int 0), .dat (.int ((k : Int) - 1)), .dat (eN x)], rfl, rfl, rfl, by
    have b := is_between_eq (d := eN x) (i := 0) (j := (k : Int) - 1) rfl
    have b2 : betw 0 ((k : Int) - 1) (eN x) = true := by
      have := h x hx
      simp [betw, eN]
      omega
    rw [b2] at b
    exact dCallS rfl b⟩)
  have e2 : allD (.list (r.map fun x => .bool ((fun _ => true) x))) = some (.bool true) := allD_ok.trans (by simp)
  refine runD_eq (ρ := [.dat (eRow r), .dat (.int 0), .dat (.int ((k : Int) - 1)), .emp]) rfl ?_
  unfold S_are_between
  exact sRet_ok ((dAndV_t (dUnS rfl isi_t)).trans (dUn_ok (dFrz_ok e) e2))
theorem asc_zip {l : List (List Nat)} (h : l.Pairwise fun a b => rlt a b = true) : ∀ p ∈ l.zip l.tail, rlt p.1 p.2 = true := by
  induction l with
  | nil => intro p hp; cases hp
  | cons a l ih =>
    cases l with
    | nil => intro p hp; cases hp
    | cons b l =>
      intro p hp
      rw [List.pairwise_cons] at h
      simp only [List.tail_cons, List.zip_cons_cons] at hp
      rcases List.mem_cons.mp hp with z | z
      · subst z; exact h.1 b List.mem_cons_self
      · exact ih h.2 p z
theorem dSlS {F : DF} {L U : DO} {ρ : En} {d z : PyData} {l u : Option Int} (h : F ρ = some (d, ρ)) (hl : L ρ = some (l, ρ)) (hu : U ρ = some (u, ρ)) (hs : slD d l u = some z) : dSl F L U ρ = some (z, ρ) := by
  unfold dSl
  rw [h, Option.bind_some, hl, Option.bind_some, hu, Option.bind_some, hs]
  rfl
theorem cut1 {α : Type} {xs : List α} : cutD xs (some 1) none = xs.tail := by
  unfold cutD HT.sIx
  cases xs with
  | nil => rfl
  | cons x xs => simp
theorem isasc {l : List (List Nat)} (h : l.Pairwise fun a b => rlt a b = true) (hl : l.length ≤ 100) : F_is_ascending [.tuple (l.map eRow)] = some (.bool true) := by
  have z : zipD (l.map eRow) (l.tail.map eRow) = (l.zip l.tail).map fun p => .tuple [eRow p.1, eRow p.2] := by
    unfold zipD
    rw [List.zip_map, List.map_map]
    rfl
  have e := lComp_mapS (vs := [1, 2]) (I := (iZpD (aCons (dVar 0) (aCons (dSl (dVar 0) (oI (dC (.int 1))) oNo) aNil)))) (g := (gT 2 (gsCons (gN 1) (gsCons (gN 2) gsNil)))) (C := bYes) (F := (dOp ltD (dVar 1) (dVar 2))) (ρ := [.dat (.tuple (l.map eRow)), .emp, .emp]) (xs := l.zip l.tail) (enc := fun p => .tuple [eRow p.1, eRow p.2]) (out := fun x => .bool ((fun _ => true) x))
    (by
      have s : dSl (dVar 0) (oI (dC (.int 1))) oNo [.dat (.tuple (l.map eRow)), .emp, .emp] = some (.tuple (l.tail.map eRow), [.dat (.tuple (l.map eRow)), .emp, .emp]) := by
        refine dSlS (d := .tuple (l.map eRow)) (l := some 1) (u := none) rfl rfl rfl ?_
        show some (PyData.tuple (cutD (l.map eRow) (some 1) none)) = _
        rw [cut1, List.map_tail]
      unfold iZpD
      rw [aConsS (d := .tuple (l.map eRow)) rfl (aConsS s rfl), Option.bind_some]
      show some (zipD _ _, _) = _
      rw [z]) (by simp; omega) (fun x hx => ⟨[.dat (.tuple (l.map eRow)), .dat (eRow x.1), .dat (eRow x.2)], rfl, rfl, rfl, dOpS rfl rfl (by rw [lt_row, asc_zip h x hx])⟩)
  have e2 : allD (.list ((l.zip l.tail).map fun x => .bool ((fun _ => true) x))) = some (.bool true) := allD_ok.trans (by simp)
  refine runD_eq (ρ := [.dat (.tuple (l.map eRow)), .emp, .emp]) rfl ?_
  unfold S_is_ascending
  exact sRet_ok (dUn_ok (dFrz_ok e) e2)
theorem sub_len {α : Type} {l m : List α} {n : Nat} (h : l.Sublist m) (hm : m.length ≤ n) : l.length ≤ n := Nat.le_trans h.length_le hm
theorem istable {k p : Nat} (h1 : 1 ≤ k) (h2 : k ≤ 3) (h3 : p ≤ 2) {l : List (List Nat)} (hs : l.Sublist (tup k p)) : F_is_table [eN k, .int p, .tuple (l.map eRow)] = some (.bool true) := by
  have l9 := sub_len hs (tup_len h1 h2 h3).1
  have hr : ∀ r ∈ l, r.length = p ∧ ∀ t ∈ r, t < k := fun r hr => tup_row h1 h2 h3 r (hs.subset hr)
  have e := lComp_mapS (vs := [3]) (I := (iSeqD (dVar 2))) (g := gN 3) (C := bYes) (F := (dCall F_are_between (aCons (dVar 3) (aCons (dC (.int 0)) (aCons (dOp subD (dVar 0) (dC (.int 1))) aNil))))) (ρ := [.dat (eN k), .dat (.int p), .dat (.tuple (l.map eRow)), .emp]) (xs := l) (enc := eRow) (out := fun x => .bool ((fun _ => true) x)) (iSeqT_ok rfl) (by omega) (fun x hx => ⟨[.dat (eN k), .dat (.int p), .dat (.tuple (l.map eRow)), .dat (eRow x)], rfl, rfl, rfl, dCallS (aConsS rfl (aConsS rfl (aConsS (dOpS rfl rfl sub_int') rfl))) (arebetween (hr x hx).2 (by rw [(hr x hx).1]; omega))⟩)
  have e1 := lComp_mapS (vs := [3]) (I := (iSeqD (dVar 2))) (g := gN 3) (C := bYes) (F := (dOp eqD (dUn lenD (dVar 3)) (dVar 1))) (ρ := [.dat (eN k), .dat (.int p), .dat (.tuple (l.map eRow)), .emp]) (xs := l) (enc := eRow) (out := fun x => .bool ((fun _ => true) x)) (iSeqT_ok rfl) (by omega) (fun x hx => ⟨[.dat (eN k), .dat (.int p), .dat (.tuple (l.map eRow)), .dat (eRow x)], rfl, rfl, rfl, dOpS (d := .int p) (dUnS rfl (by
    show some (PyData.int ((x.map eN).length : Nat)) = _
    rw [List.length_map, (hr x hx).1])) rfl (by rw [eq_int]; simp)⟩)
  have e2 : allD (.list (l.map fun x => .bool ((fun _ => true) x))) = some (.bool true) := allD_ok.trans (by simp)
  refine runD_eq (ρ := [.dat (eN k), .dat (.int p), .dat (.tuple (l.map eRow)), .emp]) rfl ?_
  unfold S_is_table
  refine (sSeq_nx (sIf_f ((bOr_f (bNot_ok (b := true) (bVal_ok (dUnS (ρ := [.dat (eN k), .dat (.int p), .dat (.tuple (l.map eRow)), .emp]) rfl isi_t)))).trans (bNot_ok (b := true) (bVal_ok (dUn_ok (dFrz_ok e) e2)))))).trans ?_
  refine sRet_ok ((dAndV_t (dUn_ok (dFrz_ok e1) e2)).trans ?_)
  exact dCallS (ds := [.tuple (l.map eRow)]) rfl (isasc ((tup_asc h1 h2 h3).sublist hs) (by omega))
theorem iscolumn {k p : Nat} (h1 : 1 ≤ k) (h2 : k ≤ 3) (h3 : p ≤ 2) {l : List Nat} (hl : l.length = (tup k p).length) (hk : ∀ t ∈ l, t < k) : F_is_column [eN k, .int p, eRow l] = some (.bool true) := by
  have l9 := (tup_len h1 h2 h3).1
  refine runD_eq (ρ := [.dat (eN k), .dat (.int p), .dat (eRow l)]) rfl ?_
  unfold S_is_column
  refine sRet_ok ((dAndV_t (dCallS (aConsS rfl (aConsS rfl (aConsS (dOpS rfl rfl sub_int') rfl))) (arebetween hk (by omega)))).trans ?_)
  refine dOpS (d := .int (tup k p).length) (e := .int (tup k p).length) (dUnS rfl ?_) (dCallS (ds := [eN k, .int p]) rfl (powers h1 h2 h3)) (by rw [eq_int]; simp)
  show some (PyData.int ((l.map eN).length : Nat)) = _
  rw [List.length_map, hl]
section
variable {k : Nat} {ws : List Tb} {cs : List Co}
theorem issize (O : SgOk k (rsOf ws) (fsOf cs)) : F_is_size [eN k] = some (.bool true) := by
  have k1 := O.k1
  have k3 := O.k3
  have := is_between_eq (d := eN k) (i := 1) (j := 5) rfl
  have h1 : betw 1 5 (eN k) = true := by simp [betw, eN]; omega
  rw [h1] at this
  refine runD_eq (ρ := [.dat (eN k)]) rfl ?_
  exact sRet_ok (dCallS rfl this)
theorem isworld (O : SgOk k (rsOf ws) (fsOf cs)) (W : WOk k ws cs) : F_is_world_of [eS (rsOf ws) (fsOf cs), eW k ws cs] = some (.bool true) := by
  have lw : ws.length ≤ 2 := by have := O.r2; simp at this; exact this
  have lc : cs.length ≤ 2 := by have := O.f2; simp at this; exact this
  have l36 := allC_len O
  refine runD_eq (ρ := [.dat (eS (rsOf ws) (fsOf cs)), .dat (eW k ws cs), .dat (eN k), .dat (.tuple (ws.map eT)), .dat (.tuple (cs.map eCo)), .emp, .emp, .emp, .emp]) rfl ?_
  unfold S_is_world_of
  refine (sSeq_nx (ρ1 := [.dat (eS (rsOf ws) (fsOf cs)), .dat (eW k ws cs), .emp, .emp, .emp, .emp, .emp, .emp, .emp]) ?_).trans ?_
  · refine (sIf_f (ρ1 := [.dat (eS (rsOf ws) (fsOf cs)), .dat (eW k ws cs), .emp, .emp, .emp, .emp, .emp, .emp, .emp]) ?_).trans rfl
    refine (bOr_f (bNot_ok (b := true) (bVal_ok (dUnS (ρ := [.dat (eS (rsOf ws) (fsOf cs)), .dat (eW k ws cs), .emp, .emp, .emp, .emp, .emp, .emp, .emp]) rfl isi_t)))).trans ?_
    refine (bOr_f (bVal_ok (dOpS (dUnS rfl len_t) rfl (by rw [ne_int]; rfl)))).trans ?_
    exact bNot_ok (b := true) (bVal_ok (dCallS (aConsS (dOpS rfl rfl ix0) rfl) (issize O)))
  refine (sSeq_nx (ρ1 := [.dat (eS (rsOf ws) (fsOf cs)), .dat (eW k ws cs), .dat (eN k), .dat (.tuple (ws.map eT)), .dat (.tuple (cs.map eCo)), .emp, .emp, .emp, .emp]) rfl).trans ?_
  refine (sSeq_nx (ρ1 := [.dat (eS (rsOf ws) (fsOf cs)), .dat (eW k ws cs), .dat (eN k), .dat (.tuple (ws.map eT)), .dat (.tuple (cs.map eCo)), .emp, .emp, .emp, .emp]) ?_).trans ?_
  · refine (sIf_f (ρ1 := [.dat (eS (rsOf ws) (fsOf cs)), .dat (eW k ws cs), .dat (eN k), .dat (.tuple (ws.map eT)), .dat (.tuple (cs.map eCo)), .emp, .emp, .emp, .emp]) ?_).trans rfl
    refine (bOr_f (bVal_ok (dOpS (dCallS rfl (manycells O)) rfl (by rw [gt_int, decide_eq_false (by omega)])))).trans ?_
    refine (bOr_f (bNot_ok (b := true) (bVal_ok (dUnS (ρ := [.dat (eS (rsOf ws) (fsOf cs)), .dat (eW k ws cs), .dat (eN k), .dat (.tuple (ws.map eT)), .dat (.tuple (cs.map eCo)), .emp, .emp, .emp, .emp]) rfl isi_t)))).trans ?_
    exact bNot_ok (b := true) (bVal_ok (dUnS (ρ := [.dat (eS (rsOf ws) (fsOf cs)), .dat (eW k ws cs), .dat (eN k), .dat (.tuple (ws.map eT)), .dat (.tuple (cs.map eCo)), .emp, .emp, .emp, .emp]) rfl isi_t))
  refine (sSeq_nx (ρ1 := [.dat (eS (rsOf ws) (fsOf cs)), .dat (eW k ws cs), .dat (eN k), .dat (.tuple (ws.map eT)), .dat (.tuple (cs.map eCo)), .emp, .emp, .emp, .emp]) ?_).trans ?_
  · refine (sIf_f (ρ1 := [.dat (eS (rsOf ws) (fsOf cs)), .dat (eW k ws cs), .dat (eN k), .dat (.tuple (ws.map eT)), .dat (.tuple (cs.map eCo)), .emp, .emp, .emp, .emp]) ?_).trans rfl
    refine (bOr_f (bVal_ok (dOpS (dUnS rfl len_t) (dUnS (dOpS rfl rfl ix0) len_t) (by rw [ne_int]; simp)))).trans ?_
    exact bVal_ok (dOpS (dUnS rfl len_t) (dUnS (dOpS rfl rfl ix1) len_t) (by rw [ne_int]; simp))
  have zw : zipD ((rsOf ws).map eR) (ws.map eT) = ws.map fun w => .tuple [eR w.1, eT w] := by
    unfold zipD
    rw [List.map_map, List.zip_map', List.map_map]
    rfl
  have zc : zipD ((fsOf cs).map eR) (cs.map eCo) = cs.map fun w => .tuple [eR w.1, eCo w] := by
    unfold zipD
    rw [List.map_map, List.zip_map', List.map_map]
    rfl
  refine (sSeq_nx (ρ1 := [.dat (eS (rsOf ws) (fsOf cs)), .dat (eW k ws cs), .dat (eN k), .dat (.tuple (ws.map eT)), .dat (.tuple (cs.map eCo)), .emp, .emp, .emp, .emp]) ?_).trans ?_
  · have e := lComp_mapS (vs := [5, 6, 7]) (I := (iZpD (aCons (dOp ixD (dVar 0) (dC (.int 0))) (aCons (dVar 3) aNil)))) (g := (gT 2 (gsCons (gT 2 (gsCons (gN 5) (gsCons (gN 6) gsNil))) (gsCons (gN 7) gsNil)))) (C := bYes) (F := (dCall F_is_table (aCons (dVar 2) (aCons (dVar 6) (aCons (dVar 7) aNil))))) (ρ := [.dat (eS (rsOf ws) (fsOf cs)), .dat (eW k ws cs), .dat (eN k), .dat (.tuple (ws.map eT)), .dat (.tuple (cs.map eCo)), .emp, .emp, .emp, .emp]) (xs := ws) (enc := fun w => .tuple [eR w.1, eT w]) (out := fun x => .bool ((fun _ => true) x)) (by
      unfold iZpD
      rw [aConsS (d := .tuple ((rsOf ws).map eR)) (dOpS rfl rfl ix0) (aConsS (d := .tuple (ws.map eT)) rfl rfl), Option.bind_some]
      show some (zipD _ _, _) = _
      rw [zw]) (by omega) (fun x hx => ⟨[.dat (eS (rsOf ws) (fsOf cs)), .dat (eW k ws cs), .dat (eN k), .dat (.tuple (ws.map eT)), .dat (.tuple (cs.map eCo)), .dat (.str x.1.1), .dat (.int x.1.2), .dat (eT x), .emp], rfl, rfl, rfl, dCallS rfl (istable O.k1 O.k3 (prW O hx) (W.tab x hx))⟩)
    have e2 : allD (.list (ws.map fun x => .bool ((fun _ => true) x))) = some (.bool true) := allD_ok.trans (by simp)
    exact (sIf_f (bNot_ok (b := true) (bVal_ok (dUn_ok (dFrz_ok e) e2)))).trans rfl
  · have e := lComp_mapS (vs := [5, 6, 8]) (I := (iZpD (aCons (dOp ixD (dVar 0) (dC (.int 1))) (aCons (dVar 4) aNil)))) (g := (gT 2 (gsCons (gT 2 (gsCons (gN 5) (gsCons (gN 6) gsNil))) (gsCons (gN 8) gsNil)))) (C := bYes) (F := (dCall F_is_column (aCons (dVar 2) (aCons (dVar 6) (aCons (dVar 8) aNil))))) (ρ := [.dat (eS (rsOf ws) (fsOf cs)), .dat (eW k ws cs), .dat (eN k), .dat (.tuple (ws.map eT)), .dat (.tuple (cs.map eCo)), .emp, .emp, .emp, .emp]) (xs := cs) (enc := fun w => .tuple [eR w.1, eCo w]) (out := fun x => .bool ((fun _ => true) x)) (by
      unfold iZpD
      rw [aConsS (d := .tuple ((fsOf cs).map eR)) (dOpS rfl rfl ix1) (aConsS (d := .tuple (cs.map eCo)) rfl rfl), Option.bind_some]
      show some (zipD _ _, _) = _
      rw [zc]) (by omega) (fun x hx => ⟨[.dat (eS (rsOf ws) (fsOf cs)), .dat (eW k ws cs), .dat (eN k), .dat (.tuple (ws.map eT)), .dat (.tuple (cs.map eCo)), .dat (.str x.1.1), .dat (.int x.1.2), .emp, .dat (eCo x)], rfl, rfl, rfl, dCallS rfl (iscolumn O.k1 O.k3 (Nat.le_trans (pfW O hx) (by decide)) (W.col x hx).1 (W.col x hx).2)⟩)
    have e2 : allD (.list (cs.map fun x => .bool ((fun _ => true) x))) = some (.bool true) := allD_ok.trans (by simp)
    exact sRet_ok (dUn_ok (dFrz_ok e) e2)
theorem cellsin (O : SgOk k (rsOf ws) (fsOf cs)) (W : WOk k ws cs) : F_cells_in [eS (rsOf ws) (fsOf cs), eW k ws cs] = some (.tuple ((lits (so k ws cs) (allC k (rsOf ws) (fsOf cs))).map .int)) := by
  have h1 := checksigns O
  have h2 := isworld O W
  have h3 := literalsof O W
  have h4 : F_check_its_world [eS (rsOf ws) (fsOf cs), eW k ws cs] = some (.ok .none) := by
    simp [F_check_its_world, S_check_its_world, runX, en0, h2]
  have h5 : F_check_world [eS (rsOf ws) (fsOf cs), eW k ws cs] = some (.ok .none) := by
    simp [F_check_world, S_check_world, runX, en0, okOf, h1, h4]
  refine runD_eq (ρ := [.dat (eS (rsOf ws) (fsOf cs)), .dat (eW k ws cs)]) rfl ?_
  unfold S_cells_in
  refine (sSeq_nx (sDrop_ok (dCallS (ds := [eS (rsOf ws) (fsOf cs), eW k ws cs]) (z := .none) rfl (by unfold okOf; rw [h5])))).trans ?_
  exact sRet_ok (dUnS (dCallS rfl h3) rfl)
end
end DL
set_option Elab.async false
set_option linter.all false
set_option maxRecDepth 100000
set_option maxHeartbeats 1000000
/-! P10: signs and worlds that are drawn. -/
namespace DL
open PySem PySem.Spec L2
open PyProof.Rows hiding St
theorem dCallI_ok {f : List PyData → List PyData → Option (PyData × List PyData)} {i : Nat} {A : DFL} {ρ : En} {xs ds ys : List PyData} {z : PyData} (h0 : ownE ρ i = some xs) (h : A ρ = some (ds, ρ)) (hf : f xs ds = some (z, ys)) : dCallI f i A ρ = some (z, ρ.set i (.own ys)) := by
  unfold dCallI
  rw [h0, Option.bind_some, h, Option.bind_some]
  show (ownE ρ i).bind _ = _
  rw [h0, Option.bind_some, hf]
  rfl
theorem aCons_ok {F : DF} {A : DFL} {ρ ρ1 ρ2 : En} {d : PyData} {ds : List PyData} (h : F ρ = some (d, ρ1)) (h2 : A ρ1 = some (ds, ρ2)) : aCons F A ρ = some (d :: ds, ρ2) := by
  unfold aCons
  rw [h, Option.bind_some, h2]
  rfl
theorem dTup_ok {A : DFL} {ρ ρ1 : En} {ds : List PyData} (h : A ρ = some (ds, ρ1)) (hf : ds.length ≤ 1000) : dTup A ρ = some (.tuple ds, ρ1) := by
  unfold dTup
  rw [h, Option.bind_some]
  exact if_pos (few_of hf)
theorem lLst_ok {A : DFL} {ρ ρ1 : En} {ds : List PyData} (h : A ρ = some (ds, ρ1)) (hf : ds.length ≤ 1000) : lLst A ρ = some (ds, ρ1) := by
  unfold lLst
  rw [h, Option.bind_some]
  exact if_pos (few_of hf)
theorem take_nat {n : Nat} {xs : List PyData} (hn : n ≤ 1000000) (G : Good n xs) {u : Nat} (hu : 0 < u) (hu2 : u < 1000000) : ∃ (k : Nat) (ys : List PyData), F__law_take xs [.int u] = some (eN k, ys) ∧ k < u ∧ Good (n + 1) ys := by
  obtain ⟨k, ys, e, k1, k2, G2⟩ := take_ok hn G (u := (u : Int)) (by omega) (by omega)
  refine ⟨k.toNat, ys, ?_, by omega, G2⟩
  rw [e]
  unfold eN
  rw [Int.toNat_of_nonneg k1]
theorem range_at {m x : Nat} {pre post : List Nat} (e : List.range m = pre ++ x :: post) : x = pre.length ∧ pre.length < m := by
  have h1 : (List.range m)[pre.length]? = some x := by rw [e]; simp
  have h2 : m = pre.length + (post.length + 1) := by
    have := congrArg List.length e
    simpa using this
  rw [List.getElem?_range (by omega)] at h1
  exact ⟨by simpa using h1.symm, by omega⟩
theorem iR1_n {A : DFL} {ρ ρ1 : En} {m : Nat} (h : A ρ = some ([eN m], ρ1)) (hm : m < 1000000) : iR1 A ρ = some ((List.range m).map eN, ρ1) := by
  have := iR1_ok (A := A) (ρ := ρ) (ρ1 := ρ1) (j := (m : Int)) h (small_ok (by omega) (by omega))
  rw [Int.toNat_natCast, rng0] at this
  exact this
/-! ### law_world -/
section
variable {k n : Nat} {rs fs : List Sg} {xs : List PyData}
theorem world_t (O : SgOk k rs fs) {p : Sg} (hp : p ∈ rs) (hn : n + 9 ≤ 1000000) (G : Good n xs) {T : List PyData} {s7 : SV} :
    ∃ (l : List (List Nat)) (ys : List PyData), (dFrz (lComp [7] (iSeqD (dCall F__law_tuples (aCons (dVar 2) (aCons (dVar 6) aNil)))) (gN 7) (bVal (dOp eqD (dCallI F__law_take 0 (aCons (dC (.int 2)) aNil)) (dC (.int 0)))) (dVar 7))) [.own xs, .dat (eS rs fs), .dat (eN k), .own T, .own [], .dat (.str p.1), .dat (.int p.2), s7] = some (.list (l.map eRow), [.own ys, .dat (eS rs fs), .dat (eN k), .own T, .own [], .dat (.str p.1), .dat (.int p.2), nrmO (some s7)]) ∧ l.Sublist (tup k p.2) ∧ Good (n + 9) ys := by
  have l9 := (tup_len O.k1 O.k3 (O.pr p hp)).1
  obtain ⟨os, ρ', e, ys, l, h1, h2, h3, h4⟩ := lComp_inv (vs := [7]) (I := (iSeqD (dCall F__law_tuples (aCons (dVar 2) (aCons (dVar 6) aNil))))) (g := gN 7) (C := (bVal (dOp eqD (dCallI F__law_take 0 (aCons (dC (.int 2)) aNil)) (dC (.int 0))))) (F := dVar 7)
    (ρ := [.own xs, .dat (eS rs fs), .dat (eN k), .own T, .own [], .dat (.str p.1), .dat (.int p.2), s7]) (ρ1 := [.own xs, .dat (eS rs fs), .dat (eN k), .own T, .own [], .dat (.str p.1), .dat (.int p.2), s7]) (xs := tup k p.2) (enc := eRow)
    (fun pr out ρ => ∃ (ys : List PyData) (l : List (List Nat)), Good (n + pr.length) ys ∧ out = l.map eRow ∧ l.Sublist pr ∧ ρ = [.own ys, .dat (eS rs fs), .dat (eN k), .own T, .own [], .dat (.str p.1), .dat (.int p.2), .emp])
    (iSeq_ok (dCallS (aConsS rfl (aConsS rfl rfl)) (lawtup O.k1 O.k3 (O.pr p hp)))) (by omega) ⟨xs, [], G, rfl, .slnil, rfl⟩ (fun pr r po out ρ e J => by
      obtain ⟨ys, l, G1, rfl, hl, rfl⟩ := J
      have hpr : pr.length < 9 := by
        have := congrArg List.length e
        simp at this
        omega
      obtain ⟨v, zs, e1, hv, G2⟩ := take_nat (u := 2) (by omega) G1 (by decide) (by decide)
      refine ⟨[.own ys, .dat (eS rs fs), .dat (eN k), .own T, .own [], .dat (.str p.1), .dat (.int p.2), .dat (eRow r)], (v == 0), [.own zs, .dat (eS rs fs), .dat (eN k), .own T, .own [], .dat (.str p.1), .dat (.int p.2), .dat (eRow r)], rfl, bVal_ok (dOp_ok (dCallI_ok rfl rfl e1) rfl ?_), fun _ => ⟨eRow r, _, rfl, zs, l ++ [r], ?_, by simp, hl.append (List.Sublist.refl _), rfl⟩, fun _ => ⟨zs, l, ?_, rfl, hl.trans (List.sublist_append_left _ _), rfl⟩⟩
      · show some (PyData.bool ((v : Int) == 0)) = _
        congr 2
        rw [Bool.eq_iff_iff]
        simp
      · rw [List.length_append]; exact G2.mono (by simp; omega)
      · rw [List.length_append]; exact G2.mono (by simp; omega))
  subst h4
  subst h2
  simp only [e_back1, e_back0, List.getElem?_cons_succ, List.getElem?_cons_zero, List.set_cons_succ, List.set_cons_zero] at e
  exact ⟨l, ys, dFrz_ok e, h3, h1.mono (by omega)⟩
theorem world_c (O : SgOk k rs fs) {p : Sg} (hp : p ∈ fs) (hn : n + 9 ≤ 1000000) (G : Good n xs) {T C : List PyData} {s7 : SV} :
    ∃ (l : List Nat) (ys : List PyData), (dFrz (lComp [7] (iSeqD (dCall F__law_tuples (aCons (dVar 2) (aCons (dVar 6) aNil)))) (gN 7) bYes (dCallI F__law_take 0 (aCons (dVar 2) aNil)))) [.own xs, .dat (eS rs fs), .dat (eN k), .own T, .own C, .dat (.str p.1), .dat (.int p.2), s7] = some (.list (l.map eN), [.own ys, .dat (eS rs fs), .dat (eN k), .own T, .own C, .dat (.str p.1), .dat (.int p.2), nrmO (some s7)]) ∧ l.length = (tup k p.2).length ∧ (∀ t ∈ l, t < k) ∧ Good (n + 9) ys := by
  have hp2 := Nat.le_trans (O.pf p hp) (show 1 ≤ 2 by decide)
  have l9 := (tup_len O.k1 O.k3 hp2).1
  have k1 := O.k1
  have k3 := O.k3
  obtain ⟨os, ρ', e, ys, l, h1, h2, h3, h4, h5⟩ := lComp_inv (vs := [7]) (I := (iSeqD (dCall F__law_tuples (aCons (dVar 2) (aCons (dVar 6) aNil))))) (g := gN 7) (C := bYes) (F := (dCallI F__law_take 0 (aCons (dVar 2) aNil)))
    (ρ := [.own xs, .dat (eS rs fs), .dat (eN k), .own T, .own C, .dat (.str p.1), .dat (.int p.2), s7]) (ρ1 := [.own xs, .dat (eS rs fs), .dat (eN k), .own T, .own C, .dat (.str p.1), .dat (.int p.2), s7]) (xs := tup k p.2) (enc := eRow)
    (fun pr out ρ => ∃ (ys : List PyData) (l : List Nat), Good (n + pr.length) ys ∧ out = l.map eN ∧ l.length = pr.length ∧ (∀ t ∈ l, t < k) ∧ ρ = [.own ys, .dat (eS rs fs), .dat (eN k), .own T, .own C, .dat (.str p.1), .dat (.int p.2), .emp])
    (iSeq_ok (dCallS (aConsS rfl (aConsS rfl rfl)) (lawtup O.k1 O.k3 hp2))) (by omega) ⟨xs, [], G, rfl, rfl, (fun _ h => by cases h), rfl⟩ (fun pr r po out ρ e J => by
      obtain ⟨ys, l, G1, rfl, hl, hk, rfl⟩ := J
      have hpr : pr.length < 9 := by
        have := congrArg List.length e
        simp at this
        omega
      obtain ⟨v, zs, e1, hv, G2⟩ := take_nat (u := k) (by omega) G1 (by omega) (by omega)
      refine ⟨[.own ys, .dat (eS rs fs), .dat (eN k), .own T, .own C, .dat (.str p.1), .dat (.int p.2), .dat (eRow r)], true, _, rfl, rfl, fun _ => ⟨eN v, _, dCallI_ok rfl rfl e1, zs, l ++ [v], ?_, by simp, by simp [hl], fun t ht => ?_, rfl⟩, fun h => by cases h⟩
      · rw [List.length_append]; exact G2.mono (by simp; omega)
      · rcases List.mem_append.mp ht with z | z
        · exact hk t z
        · simp at z; subst z; exact hv)
  subst h5
  subst h2
  simp only [e_back1, e_back0, List.getElem?_cons_succ, List.getElem?_cons_zero, List.set_cons_succ, List.set_cons_zero] at e
  exact ⟨l, ys, dFrz_ok e, h3, h4, h1.mono (by omega)⟩
theorem lawworld (O : SgOk k rs fs) (hn : n + 100 ≤ 1000000) (G : Good n xs) :
    ∃ (ws : List Tb) (cs : List Co) (ys : List PyData), F__law_world xs [eS rs fs, eN k] = some (eW k ws cs, ys) ∧ rsOf ws = rs ∧ fsOf cs = fs ∧ WOk k ws cs ∧ Good (n + 100) ys := by
  have r2 := O.r2
  have f2 := O.f2
  obtain ⟨ρ1, e1, ys, ws, s5, s6, s7, G1, hw, ht, rfl⟩ := sFor_invS (I := (iSeqD (dOp ixD (dVar 1) (dC (.int 0))))) (g := (gT 2 (gsCons (gN 5) (gsCons (gN 6) gsNil)))) (S := (sApp 3 (dUn tupleD (dFrz (lComp [7] (iSeqD (dCall F__law_tuples (aCons (dVar 2) (aCons (dVar 6) aNil)))) (gN 7) (bVal (dOp eqD (dCallI F__law_take 0 (aCons (dC (.int 2)) aNil)) (dC (.int 0)))) (dVar 7))))))
    (ρ := [.own xs, .dat (eS rs fs), .dat (eN k), .own [], .own [], .emp, .emp, .emp]) (xs := rs) (enc := eR)
    (fun pre ρ => ∃ (ys : List PyData) (ws : List Tb) (s5 s6 s7 : SV), Good (n + 9 * pre.length) ys ∧ rsOf ws = pre ∧ (∀ w ∈ ws, w.2.Sublist (tup k w.1.2)) ∧ ρ = [.own ys, .dat (eS rs fs), .dat (eN k), .own (ws.map eT), .own [], s5, s6, s7])
    (iSeqT_ok (dOpS rfl rfl ix0)) ⟨xs, [], _, _, _, G, rfl, (fun _ h => by cases h), rfl⟩ (fun pre x post ρ e J => by
      obtain ⟨ys, ws, s5, s6, s7, G1, hw, ht, rfl⟩ := J
      have hx : x ∈ rs := by rw [e]; simp
      have hpr : pre.length < 2 := by
        have := congrArg List.length e
        simp at this
        omega
      have hwl : ws.length = pre.length := by rw [← hw]; simp
      obtain ⟨l, zs, e1, hl, G2⟩ := world_t O hx (by omega) G1 (T := ws.map eT) (s7 := s7)
      refine ⟨[.own ys, .dat (eS rs fs), .dat (eN k), .own (ws.map eT), .own [], .dat (.str x.1), .dat (.int x.2), s7], _, rfl, sApp_ok (ds' := ws.map eT) (ds := ws.map eT) rfl (dUn_ok e1 rfl) rfl (by rw [List.length_map]; omega), zs, ws ++ [(x, l)], .dat (.str x.1), .dat (.int x.2), nrmO (some s7), ?_, by simp [hw], fun w hw => ?_, ?_⟩
      · rw [List.length_append]; exact G2.mono (by simp; omega)
      · rcases List.mem_append.mp hw with z | z
        · exact ht w z
        · simp at z; subst z; exact hl
      · rw [List.map_append]; rfl)
  obtain ⟨ρ2, e2, zs, cs, t5, t6, t7, G2, hc, hcol, rfl⟩ := sFor_invS (I := (iSeqD (dOp ixD (dVar 1) (dC (.int 1))))) (g := (gT 2 (gsCons (gN 5) (gsCons (gN 6) gsNil)))) (S := (sApp 4 (dUn tupleD (dFrz (lComp [7] (iSeqD (dCall F__law_tuples (aCons (dVar 2) (aCons (dVar 6) aNil)))) (gN 7) bYes (dCallI F__law_take 0 (aCons (dVar 2) aNil)))))))
    (ρ := [.own ys, .dat (eS rs fs), .dat (eN k), .own (ws.map eT), .own [], s5, s6, s7]) (xs := fs) (enc := eR)
    (fun pre ρ => ∃ (ys : List PyData) (cs : List Co) (s5 s6 s7 : SV), Good (n + 9 * rs.length + 9 * pre.length) ys ∧ fsOf cs = pre ∧ (∀ c ∈ cs, c.2.length = (tup k c.1.2).length ∧ ∀ t ∈ c.2, t < k) ∧ ρ = [.own ys, .dat (eS rs fs), .dat (eN k), .own (ws.map eT), .own (cs.map eCo), s5, s6, s7])
    (iSeqT_ok (dOpS rfl rfl ix1)) ⟨ys, [], _, _, _, G1, rfl, (fun _ h => by cases h), rfl⟩ (fun pre x post ρ e J => by
      obtain ⟨ys, cs, s5, s6, s7, G1, hc, ht, rfl⟩ := J
      have hx : x ∈ fs := by rw [e]; simp
      have hpr : pre.length < 2 := by
        have := congrArg List.length e
        simp at this
        omega
      have hwl : cs.length = pre.length := by rw [← hc]; simp
      obtain ⟨l, zs, e1, hl, hk, G2⟩ := world_c O hx (by omega) G1 (T := ws.map eT) (C := cs.map eCo) (s7 := s7)
      refine ⟨[.own ys, .dat (eS rs fs), .dat (eN k), .own (ws.map eT), .own (cs.map eCo), .dat (.str x.1), .dat (.int x.2), s7], _, rfl, sApp_ok (ds' := cs.map eCo) (ds := cs.map eCo) rfl (dUn_ok e1 rfl) rfl (by rw [List.length_map]; omega), zs, cs ++ [(x, l)], .dat (.str x.1), .dat (.int x.2), nrmO (some s7), ?_, by simp [hc], fun w hw => ?_, ?_⟩
      · rw [List.length_append]; exact G2.mono (by simp; omega)
      · rcases List.mem_append.mp hw with z | z
        · exact ht w z
        · simp at z; subst z; exact ⟨hl, hk⟩
      · rw [List.map_append]; rfl)
  refine ⟨ws, cs, zs, ?_, hw, hc, ⟨ht, hcol⟩, G2.mono (by omega)⟩
  refine runI_eq (ρ := [.own zs, .dat (eS rs fs), .dat (eN k), .own (ws.map eT), .own (cs.map eCo), t5, t6, t7]) rfl ?_ rfl
  unfold S__law_world
  exact (sSeq_nx (ρ1 := [.own xs, .dat (eS rs fs), .dat (eN k), .own [], .own [], .emp, .emp, .emp]) rfl).trans ((sSeq_nx e1).trans ((sSeq_nx e2).trans rfl))
end
/-! ### law_signs -/
theorem strs_of {ds : List PyData} {ns : List Str} (h : ∀ d ∈ ds, d ∈ ns.map PyData.str) : ∃ ms : List Str, ds = ms.map PyData.str ∧ ∀ m ∈ ms, m ∈ ns := by
  induction ds with
  | nil => exact ⟨[], rfl, fun _ h => by cases h⟩
  | cons d ds ih =>
    obtain ⟨ms, rfl, h2⟩ := ih fun e he => h e (List.mem_cons_of_mem _ he)
    obtain ⟨m, hm, rfl⟩ := List.mem_map.mp (h d List.mem_cons_self)
    exact ⟨m :: ms, rfl, fun x hx => by
      rcases List.mem_cons.mp hx with z | z
      · subst z; exact hm
      · exact h2 x z⟩
theorem nd_strs {ms : List Str} (h : (ms.map PyData.str).Nodup) : ms.Nodup := by
  rw [List.Nodup, List.pairwise_map] at h
  exact h.imp fun hne he => hne (by rw [he])
theorem nd_strs' {ms : List Str} (h : ms.Nodup) : (ms.map PyData.str).Nodup := by
  rw [List.Nodup, List.pairwise_map]
  exact List.Pairwise.imp (fun hne he => hne (by cases he; rfl)) h
theorem nd7 : names7.Nodup := by decide +kernel
theorem take_at {α : Type} {xs : List α} {i : Nat} {x : α} (h : xs[i]? = some x) : xs.take (i + 1) = xs.take i ++ [x] := by
  rw [List.take_add_one, h]
  rfl
section
variable {n : Nat} {xs : List PyData} {ns : List Str}
theorem signs_r (hn : n + 2 ≤ 1000000) (G : Good n xs) (hl : ns.length = 4) {m : Nat} (hm : m ≤ 2) {I : DFL} {ρ0 : En} (hI : I ρ0 = some ((List.range m).map eN, [.own xs, .dat (.int 2), .dat (.int 2), .dat (.list (ns.map .str)), .emp, .emp, .emp])) :
    ∃ (rel : List Sg) (ys : List PyData), (lComp [5] I (gN 5) bYes (dTup (aCons (dOp ixD (dVar 3) (dVar 5)) (aCons (dCallI F__law_of 0 (aCons (dFrz (lLst (aCons (dC (.int 1)) (aCons (dC (.int 1)) (aCons (dC (.int 2)) (aCons (dC (.int 0)) aNil)))))) aNil)) aNil)))) ρ0 = some (rel.map eR, [.own ys, .dat (.int 2), .dat (.int 2), .dat (.list (ns.map .str)), .emp, .emp, .emp]) ∧ rel.map (·.1) = ns.take m ∧ (∀ p ∈ rel, p.2 ≤ 2) ∧ Good (n + 2) ys := by
  obtain ⟨os, ρ', e, ys, rel, h1, h2, h3, h4, h5⟩ := lComp_inv (vs := [5]) (I := I) (g := gN 5) (C := bYes) (F := (dTup (aCons (dOp ixD (dVar 3) (dVar 5)) (aCons (dCallI F__law_of 0 (aCons (dFrz (lLst (aCons (dC (.int 1)) (aCons (dC (.int 1)) (aCons (dC (.int 2)) (aCons (dC (.int 0)) aNil)))))) aNil)) aNil))))
    (ρ := ρ0) (ρ1 := [.own xs, .dat (.int 2), .dat (.int 2), .dat (.list (ns.map .str)), .emp, .emp, .emp]) (xs := List.range m) (enc := eN)
    (fun pr out ρ => ∃ (ys : List PyData) (rel : List Sg), Good (n + pr.length) ys ∧ out = rel.map eR ∧ rel.map (·.1) = ns.take pr.length ∧ (∀ p ∈ rel, p.2 ≤ 2) ∧ ρ = [.own ys, .dat (.int 2), .dat (.int 2), .dat (.list (ns.map .str)), .emp, .emp, .emp])
    hI (by simp; omega) ⟨xs, [], G, rfl, rfl, (fun _ h => by cases h), rfl⟩ (fun pr x po out ρ e J => by
      obtain ⟨ys, rel, G1, rfl, hr, hp, rfl⟩ := J
      obtain ⟨rfl, hx⟩ := range_at e
      have hx2 : pr.length < ns.length := by omega
      obtain ⟨d, zs, e1, hd, G2⟩ := of_ok (by omega) G1 (ds := [.int 1, .int 1, .int 2, .int 0]) (by simp) (by decide)
      have hd2 : ∃ q : Nat, d = .int q ∧ q ≤ 2 := by
        simp at hd
        rcases hd with rfl | rfl | rfl
        · exact ⟨1, rfl, by decide⟩
        · exact ⟨2, rfl, by decide⟩
        · exact ⟨0, rfl, by decide⟩
      obtain ⟨q, rfl, hq⟩ := hd2
      have hat : ixD (.list (ns.map .str)) (eN pr.length) = some (.str ns[pr.length]) := atI_ok (by rw [List.getElem?_map, List.getElem?_eq_getElem hx2]; rfl)
      refine ⟨[.own ys, .dat (.int 2), .dat (.int 2), .dat (.list (ns.map .str)), .emp, .dat (eN pr.length), .emp], true, _, rfl, rfl, fun _ => ⟨eR (ns[pr.length], q), [.own zs, .dat (.int 2), .dat (.int 2), .dat (.list (ns.map .str)), .emp, .dat (eN pr.length), .emp], ?_, zs, rel ++ [(ns[pr.length], q)], ?_, by simp, ?_, fun p hp' => ?_, rfl⟩, fun h => by cases h⟩
      · have a1 : dOp ixD (dVar 3) (dVar 5) [.own ys, .dat (.int 2), .dat (.int 2), .dat (.list (ns.map .str)), .emp, .dat (eN pr.length), .emp] = some (.str ns[pr.length], [.own ys, .dat (.int 2), .dat (.int 2), .dat (.list (ns.map .str)), .emp, .dat (eN pr.length), .emp]) := dOpS rfl rfl hat
        have a2 : dCallI F__law_of 0 (aCons (dFrz (lLst (aCons (dC (.int 1)) (aCons (dC (.int 1)) (aCons (dC (.int 2)) (aCons (dC (.int 0)) aNil)))))) aNil) [.own ys, .dat (.int 2), .dat (.int 2), .dat (.list (ns.map .str)), .emp, .dat (eN pr.length), .emp] = some (.int q, [.own zs, .dat (.int 2), .dat (.int 2), .dat (.list (ns.map .str)), .emp, .dat (eN pr.length), .emp]) := dCallI_ok rfl rfl e1
        exact dTup_ok (aCons_ok a1 (aCons_ok a2 rfl)) (by simp)
      · rw [List.length_append]; exact G2.mono (by simp; omega)
      · rw [List.length_append, List.length_cons, List.length_nil, take_at (List.getElem?_eq_getElem hx2), List.map_append, hr]; rfl
      · rcases List.mem_append.mp hp' with z | z
        · exact hp p z
        · simp at z; subst z; exact hq)
  subst h5
  subst h2
  simp only [List.length_range] at h1 h3
  exact ⟨rel, ys, e, h3, h4, h1.mono (by omega)⟩
theorem signs_f (hn : n + 2 ≤ 1000000) (G : Good n xs) (hl : ns.length = 4) {R : List PyData} {m : Nat} (hm : m ≤ 2) {I : DFL} {ρ0 : En} (hI : I ρ0 = some ((List.range m).map eN, [.own xs, .dat (.int 2), .dat (.int 2), .dat (.list (ns.map .str)), .own R, .emp, .emp])) :
    ∃ (rel : List Sg) (ys : List PyData), (lComp [5] I (gN 5) bYes (dTup (aCons (dOp ixD (dVar 3) (dOp addD (dVar 1) (dVar 5))) (aCons (dCallI F__law_take 0 (aCons (dC (.int 2)) aNil)) aNil)))) ρ0 = some (rel.map eR, [.own ys, .dat (.int 2), .dat (.int 2), .dat (.list (ns.map .str)), .own R, .emp, .emp]) ∧ rel.map (·.1) = (ns.drop 2).take m ∧ (∀ p ∈ rel, p.2 ≤ 1) ∧ Good (n + 2) ys := by
  obtain ⟨os, ρ', e, ys, rel, h1, h2, h3, h4, h5⟩ := lComp_inv (vs := [5]) (I := I) (g := gN 5) (C := bYes) (F := (dTup (aCons (dOp ixD (dVar 3) (dOp addD (dVar 1) (dVar 5))) (aCons (dCallI F__law_take 0 (aCons (dC (.int 2)) aNil)) aNil))))
    (ρ := ρ0) (ρ1 := [.own xs, .dat (.int 2), .dat (.int 2), .dat (.list (ns.map .str)), .own R, .emp, .emp]) (xs := List.range m) (enc := eN)
    (fun pr out ρ => ∃ (ys : List PyData) (rel : List Sg), Good (n + pr.length) ys ∧ out = rel.map eR ∧ rel.map (·.1) = (ns.drop 2).take pr.length ∧ (∀ p ∈ rel, p.2 ≤ 1) ∧ ρ = [.own ys, .dat (.int 2), .dat (.int 2), .dat (.list (ns.map .str)), .own R, .emp, .emp])
    hI (by simp; omega) ⟨xs, [], G, rfl, rfl, (fun _ h => by cases h), rfl⟩ (fun pr x po out ρ e J => by
      obtain ⟨ys, rel, G1, rfl, hr, hp, rfl⟩ := J
      obtain ⟨rfl, hx⟩ := range_at e
      have hx2 : 2 + pr.length < ns.length := by omega
      obtain ⟨v, zs, e1, hv, G2⟩ := take_nat (u := 2) (by omega) G1 (by decide) (by decide)
      have hat : ixD (.list (ns.map .str)) (.int (2 + (pr.length : Int))) = some (.str ns[2 + pr.length]) := by
        have : (2 + (pr.length : Int)) = ((2 + pr.length : Nat) : Int) := by omega
        rw [this]
        exact atI_ok (by rw [List.getElem?_map, List.getElem?_eq_getElem hx2]; rfl)
      refine ⟨[.own ys, .dat (.int 2), .dat (.int 2), .dat (.list (ns.map .str)), .own R, .dat (eN pr.length), .emp], true, _, rfl, rfl, fun _ => ⟨eR (ns[2 + pr.length], v), [.own zs, .dat (.int 2), .dat (.int 2), .dat (.list (ns.map .str)), .own R, .dat (eN pr.length), .emp], ?_, zs, rel ++ [(ns[2 + pr.length], v)], ?_, by simp, ?_, fun p hp' => ?_, rfl⟩, fun h => by cases h⟩
      · have a1 : dOp ixD (dVar 3) (dOp addD (dVar 1) (dVar 5)) [.own ys, .dat (.int 2), .dat (.int 2), .dat (.list (ns.map .str)), .own R, .dat (eN pr.length), .emp] = some (.str ns[2 + pr.length], [.own ys, .dat (.int 2), .dat (.int 2), .dat (.list (ns.map .str)), .own R, .dat (eN pr.length), .emp]) := dOpS rfl (dOpS rfl rfl rfl) hat
        have a2 : dCallI F__law_take 0 (aCons (dC (.int 2)) aNil) [.own ys, .dat (.int 2), .dat (.int 2), .dat (.list (ns.map .str)), .own R, .dat (eN pr.length), .emp] = some (eN v, [.own zs, .dat (.int 2), .dat (.int 2), .dat (.list (ns.map .str)), .own R, .dat (eN pr.length), .emp]) := dCallI_ok rfl rfl e1
        exact dTup_ok (aCons_ok a1 (aCons_ok a2 rfl)) (by simp)
      · rw [List.length_append]; exact G2.mono (by simp; omega)
      · have hx3 : (ns.drop 2)[pr.length]? = some ns[2 + pr.length] := by rw [List.getElem?_drop, List.getElem?_eq_getElem hx2]
        rw [List.length_append, List.length_cons, List.length_nil, take_at hx3, List.map_append, hr]; rfl
      · rcases List.mem_append.mp hp' with z | z
        · exact hp p z
        · simp at z; subst z; show v ≤ 1; omega)
  subst h5
  subst h2
  simp only [List.length_range] at h1 h3
  exact ⟨rel, ys, e, h3, h4, h1.mono (by omega)⟩
theorem lawsigns (hn : n + 20 ≤ 1000000) (G : Good n xs) : ∃ (rs fs : List Sg) (ys : List PyData), F__law_signs xs [.int 2, .int 2] = some (eS rs fs, ys) ∧ (∀ k, 1 ≤ k → k ≤ 3 → SgOk k rs fs) ∧ Good (n + 20) ys := by
  obtain ⟨ds, y1, e1, hl, hnd, hin, G1⟩ := some_ok (many := 4) (by omega) G (ds := names7.map .str) (nd_strs' nd7) (by decide) (by decide)
  obtain ⟨ns, rfl, hns⟩ := strs_of hin
  rw [List.length_map] at hl
  have hnd := nd_strs hnd
  obtain ⟨v, y2, e2, hv, G2⟩ := take_nat (u := 2) (by omega) G1 (by decide) (by decide)
  obtain ⟨rel, y3, e3, h3, p3, G3⟩ := signs_r (by omega) G2 hl (m := 1 + v) (by omega) (I := (iR1 (aCons (dOp addD (dC (.int 1)) (dCallI F__law_take 0 (aCons (dVar 1) aNil))) aNil))) (ρ0 := [.own y1, .dat (.int 2), .dat (.int 2), .dat (.list (ns.map .str)), .emp, .emp, .emp]) (iR1_n (by
    have a := dOp_ok (f := addD) (F := dC (.int 1)) (G := dCallI F__law_take 0 (aCons (dVar 1) aNil)) (ρ := [.own y1, .dat (.int 2), .dat (.int 2), .dat (.list (ns.map .str)), .emp, .emp, .emp]) rfl (dCallI_ok rfl rfl e2) (rfl : addD (.int 1) (eN v) = some (.int (1 + (v : Int))))
    have : (1 + (v : Int)) = ((1 + v : Nat) : Int) := by omega
    rw [this] at a
    exact aCons_ok a rfl) (by omega))
  obtain ⟨q, y4, e4, hq, G4⟩ := take_nat (u := 3) (by omega) G3 (by decide) (by decide)
  obtain ⟨its, y5, e5, h5, p5, G5⟩ := signs_f (by omega) G4 hl (R := rel.map eR) (m := q) (by omega) (I := (iR1 (aCons (dCallI F__law_take 0 (aCons (dOp addD (dVar 2) (dC (.int 1))) aNil)) aNil))) (ρ0 := [.own y3, .dat (.int 2), .dat (.int 2), .dat (.list (ns.map .str)), .own (rel.map eR), .emp, .emp]) (iR1_n (by
    have a := dCallI_ok (f := F__law_take) (i := 0) (A := (aCons (dOp addD (dVar 2) (dC (.int 1))) aNil)) (ρ := [.own y3, .dat (.int 2), .dat (.int 2), .dat (.list (ns.map .str)), .own (rel.map eR), .emp, .emp]) rfl rfl e4
    exact aCons_ok a rfl) (by omega))
  refine ⟨rel, its, y5, ?_, fun k k1 k3 => ?_, G5.mono (by omega)⟩
  · refine runI_eq (ρ := [.own y5, .dat (.int 2), .dat (.int 2), .dat (.list (ns.map .str)), .own (rel.map eR), .emp, .own (its.map eR)]) rfl ?_ rfl
    unfold S__law_signs
    refine (sSeq_nx (sSet_ok (dCallI_ok (xs := xs) (ds := [.list (names7.map .str), .int 4]) (ρ := [.own xs, .dat (.int 2), .dat (.int 2), .emp, .emp, .emp, .emp]) rfl rfl e1))).trans ?_
    refine (sSeq_nx (sOwn_ok e3)).trans ?_
    refine (sSeq_nx (sOwn_ok e5)).trans ?_
    rfl
  · have lr : rel.length = 1 + v := by
      have := congrArg List.length h3
      simp [hl] at this
      omega
    have lf : its.length = q := by
      have := congrArg List.length h5
      simp [hl] at this
      omega
    have hs : ((rel ++ its).map (·.1)).Sublist ns := by
      rw [List.map_append, h3, h5]
      have h2 : (ns.take (1 + v) ++ (ns.drop 2).take q).Sublist (ns.take 2 ++ ns.drop 2) := (List.take_sublist_take_left (by omega)).append (List.take_sublist _ _)
      rw [List.take_append_drop] at h2
      exact h2
    exact ⟨k1, k3, by omega, by omega, by omega, p3, p5, hnd.sublist hs, fun p hp => hns p.1 (hs.subset (List.mem_map.mpr ⟨p, hp, rfl⟩))⟩
end
end DL
set_option Elab.async false
set_option linter.all false
set_option maxRecDepth 100000
set_option maxHeartbeats 1000000
/-! P11: dicts by cells. -/
namespace DL
open PySem PySem.Spec L2
open PyProof.Rows hiding St
def nkN (n : Nat) : NestedKey := .num n
theorem nk_row : ∀ {r : List Nat}, nkD.nkAll (r.map eN) = r.map nkN
  | [] => rfl
  | x :: r => by
    show nkD (eN x) :: nkD.nkAll (r.map eN) = _
    rw [nk_row]
    rfl
theorem nk_is {n : Str} {r : List Nat} : nkD (eC (.is n r)) = .tup [.text "is", .text n, .tup (r.map nkN)] := by
  show NestedKey.tup [.text "is", .text n, .tup (nkD.nkAll (r.map eN))] = _
  rw [nk_row]
theorem nk_of {n : Str} {r : List Nat} {t : Nat} : nkD (eC (.of n r t)) = .tup [.text "of", .text n, .tup (r.map nkN), .num (t : Int)] := by
  show NestedKey.tup [.text "of", .text n, .tup (nkD.nkAll (r.map eN)), .num (t : Int)] = _
  rw [nk_row]
theorem num_inj : ∀ {a b : List Nat}, (a.map nkN) = (b.map nkN) → a = b
  | [], [], _ => rfl
  | [], _ :: _, h => by cases h
  | _ :: _, [], h => by cases h
  | x :: a, y :: b, h => by
    simp only [List.map_cons, List.cons.injEq, nkN, NestedKey.num.injEq] at h
    have h1 : x = y := by have := h.1; omega
    rw [h1, num_inj h.2]
theorem nk_inj {c c' : Ce} (h : nkD (eC c) = nkD (eC c')) : c = c' := by
  cases c with
  | is n r =>
    cases c' with
    | is n' r' =>
      rw [nk_is, nk_is] at h
      simp only [NestedKey.tup.injEq, List.cons.injEq, NestedKey.text.injEq, and_true, true_and] at h
      rw [h.1, num_inj h.2]
    | of n' r' t' => rw [nk_is, nk_of] at h; simp at h
  | of n r t =>
    cases c' with
    | is n' r' => rw [nk_is, nk_of] at h; simp at h
    | of n' r' t' =>
      rw [nk_of, nk_of] at h
      simp only [NestedKey.tup.injEq, List.cons.injEq, NestedKey.text.injEq, NestedKey.num.injEq, and_true, true_and] at h
      have h1 : t = t' := by omega
      rw [h.1, num_inj h.2.1, h1]
theorem eC_inj {c c' : Ce} (h : eC c = eC c') : c = c' := nk_inj (by rw [h])
theorem dp_nums : ∀ {r : List Nat}, NestedKey.depthAll (r.map nkN) = 0
  | [] => rfl
  | x :: r => by
    show max 0 (NestedKey.depthAll (r.map nkN)) = 0
    rw [dp_nums]
    rfl
theorem ko_row : ∀ {r : List Nat}, keyOkAll (r.map eN) = true
  | [] => by simp [keyOkAll]
  | x :: r => by
    have := ko_row (r := r)
    simp [keyOkAll, keyOk, eN]
    exact this
theorem keyT_C {c : Ce} : keyT (eC c) = true := by
  cases c with
  | is n r =>
    have h : (nkD (eC (.is n r))).depth ≤ 8 := by
      rw [nk_is]
      simp [NestedKey.depth, NestedKey.depthAll, dp_nums]
    refine Bool.and_eq_true_iff.mpr ⟨?_, decide_eq_true h⟩
    simp [keyOkAll, keyOk, eRow, ko_row]
  | of n r t =>
    have h : (nkD (eC (.of n r t))).depth ≤ 8 := by
      rw [nk_of]
      simp [NestedKey.depth, NestedKey.depthAll, dp_nums]
    refine Bool.and_eq_true_iff.mpr ⟨?_, decide_eq_true h⟩
    simp [keyOkAll, keyOk, eRow, ko_row, eN]
theorem inj_nd {α β : Type} {f : α → β} {xs : List α} (h : xs.Nodup) (hf : ∀ a b, f a = f b → a = b) : (xs.map f).Nodup := by
  rw [List.Nodup, List.pairwise_map]
  exact h.imp fun hne he => hne (hf _ _ he)
theorem allC_nd {k : Nat} {rs fs : List Sg} (O : SgOk k rs fs) : (allC k rs fs).Nodup := by
  have nd := O.nd
  rw [List.map_append, List.nodup_append] at nd
  have apart : ∀ {xs : List Sg}, (xs.map (·.1)).Nodup → xs.Pairwise fun a b => a.1 ≠ b.1 := fun h => by
    rw [List.Nodup, List.pairwise_map] at h
    exact h
  unfold allC
  rw [List.nodup_append]
  refine ⟨?_, ?_, ?_⟩
  · rw [List.Nodup, List.pairwise_flatMap]
    refine ⟨fun p hp => inj_nd (tup_nd O.k1 O.k3 (O.pr p hp)) fun a b h => by cases h; rfl, (apart nd.1).imp fun {a b} hab x hx y hy he => ?_⟩
    obtain ⟨r, _, rfl⟩ := List.mem_map.mp hx
    obtain ⟨q, _, rfl⟩ := List.mem_map.mp hy
    exact hab (Ce.is.inj he).1
  · rw [List.Nodup, List.pairwise_flatMap]
    refine ⟨fun p hp => ?_, (apart nd.2.1).imp fun {a b} hab x hx y hy he => ?_⟩
    · unfold ofC
      rw [List.pairwise_flatMap]
      refine ⟨fun r _ => inj_nd List.nodup_range fun a b h => by cases h; rfl, List.Pairwise.imp (fun {a b} hab x hx y hy he => ?_) (tup_nd O.k1 O.k3 (Nat.le_trans (O.pf p hp) (by decide)))⟩
      obtain ⟨t, _, rfl⟩ := List.mem_map.mp hx
      obtain ⟨q, _, rfl⟩ := List.mem_map.mp hy
      cases he
      exact hab rfl
    · obtain ⟨r, _, hx⟩ := List.mem_flatMap.mp hx
      obtain ⟨q, _, hy⟩ := List.mem_flatMap.mp hy
      obtain ⟨t, _, rfl⟩ := List.mem_map.mp hx
      obtain ⟨u, _, rfl⟩ := List.mem_map.mp hy
      exact hab (Ce.of.inj he).1
  · intro a ha b hb he
    obtain ⟨p, _, ha⟩ := List.mem_flatMap.mp ha
    obtain ⟨q, _, hb⟩ := List.mem_flatMap.mp hb
    obtain ⟨r, _, rfl⟩ := List.mem_map.mp ha
    obtain ⟨u, _, hb⟩ := List.mem_flatMap.mp hb
    obtain ⟨t, _, rfl⟩ := List.mem_map.mp hb
    cases he
/-! ### dict by cells -/
def dC' (all : List Ce) (v : Ce → PyData) : PyData := .dict (all.map fun c => (eC c, v c))
theorem pairs_ok {v : Ce → PyData} : ∀ {all : List Ce}, pairsD (all.map fun c => .tuple [eC c, v c]) = some (all.map fun c => (eC c, v c))
  | [] => rfl
  | c :: all => by
    show (pairsD (all.map fun c => .tuple [eC c, v c])).map _ = _
    rw [pairs_ok]
    rfl
theorem keys_nd {all : List Ce} {v : Ce → PyData} (nd : all.Nodup) : ((all.map fun c => (eC c, v c)).map fun p => nkD p.1).Nodup := by
  rw [List.map_map]
  exact inj_nd nd fun a b h => nk_inj h
theorem keys_ok {all : List Ce} {v : Ce → PyData} : ((all.map fun c => (eC c, v c)).all fun p => keyT p.1) = true := by
  rw [List.all_map, List.all_eq_true]
  exact fun c _ => keyT_C
theorem dict_ok {all : List Ce} {v : Ce → PyData} (nd : all.Nodup) : dictD (.list (all.map fun c => .tuple [eC c, v c])) = some (dC' all v) := by
  show (pairsD _).bind _ = _
  rw [pairs_ok, Option.bind_some, if_pos]
  · rfl
  · rw [keys_ok, decide_eq_true (keys_nd nd)]
    rfl
theorem find_key {all : List Ce} {v : Ce → PyData} {c : Ce} (nd : all.Nodup) (hc : c ∈ all) : (all.map fun c => (eC c, v c)).find? (fun p => decide (nkD p.1 = nkD (eC c))) = some (eC c, v c) := by
  induction all with
  | nil => cases hc
  | cons a all ih =>
    rw [List.map_cons, List.find?_cons]
    by_cases h : a = c
    · subst h; simp
    · have : nkD (eC a) ≠ nkD (eC c) := fun z => h (nk_inj z)
      rw [decide_eq_false this]
      rw [List.nodup_cons] at nd
      exact ih nd.2 ((List.mem_cons.mp hc).resolve_left fun z => h z.symm)
theorem get_ok {all : List Ce} {v : Ce → PyData} {c : Ce} (nd : all.Nodup) (hc : c ∈ all) : ixDD (dC' all v) (eC c) = some (v c) := by
  show dgetD _ _ = _
  unfold dgetD
  rw [if_pos, find_key nd hc]
  · rfl
  · rw [keyT_C, keys_ok, decide_eq_true (keys_nd nd)]
    rfl
theorem idx_lt {α : Type} [BEq α] [LawfulBEq α] {xs : List α} {x : α} (h : x ∈ xs) : xs.idxOf x < xs.length := List.idxOf_lt_length_iff.mpr h
theorem zipIdx_nd {α : Type} [BEq α] [LawfulBEq α] {xs : List α} (nd : xs.Nodup) : xs.zipIdx = xs.map fun x => (x, xs.idxOf x) := by
  apply List.ext_getElem?
  intro i
  rw [List.getElem?_zipIdx, List.getElem?_map]
  cases h : xs[i]? with
  | none => rfl
  | some x =>
    obtain ⟨hi, rfl⟩ := List.getElem?_eq_some_iff.mp h
    simp [nd.idxOf_getElem i hi]
section
variable {k : Nat} {rs fs : List Sg}
theorem numb_all (O : SgOk k rs fs) : numbD ((allC k rs fs).map eC) = (allC k rs fs).map fun c => .tuple [.int ((allC k rs fs).idxOf c : Nat), eC c] := by
  rw [numb_ok, zipIdx_nd (allC_nd O), List.map_map]
  rfl
theorem numbersof (O : SgOk k rs fs) : F_numbers_of [eS rs fs, eN k] = some (dC' (allC k rs fs) fun c => .int (((allC k rs fs).idxOf c : Nat) + 1)) := by
  have l := allC_len O
  have e := lComp_mapS (vs := [2, 3]) (I := (iEnD (dCall F_cells_of (aCons (dVar 0) (aCons (dVar 1) aNil))))) (g := (gT 2 (gsCons (gN 2) (gsCons (gN 3) gsNil)))) (C := bYes) (F := (dTup (aCons (dVar 3) (aCons (dOp addD (dVar 2) (dC (.int 1))) aNil)))) (ρ := [.dat (eS rs fs), .dat (eN k), .emp, .emp]) (xs := allC k rs fs) (enc := fun c => .tuple [.int ((allC k rs fs).idxOf c : Nat), eC c]) (out := fun c => .tuple [eC c, .int (((allC k rs fs).idxOf c : Nat) + 1)]) (by
      unfold iEnD
      rw [dCallS (aConsS rfl (aConsS rfl rfl)) (cellsof O), Option.bind_some]
      show some (numbD _, _) = _
      rw [numb_all O]) (by omega) (fun c hc => ⟨[.dat (eS rs fs), .dat (eN k), .dat (.int ((allC k rs fs).idxOf c : Nat)), .dat (eC c)], rfl, rfl, rfl, dTup_ok (aConsS rfl (aConsS (dOpS rfl rfl add_int) rfl)) (by simp)⟩)
  refine runD_eq (ρ := [.dat (eS rs fs), .dat (eN k), .emp, .emp]) rfl ?_
  unfold S_numbers_of
  exact sRet_ok (dUn_ok (dFrz_ok e) (dict_ok (allC_nd O)))
/-! ### literals by what they say -/
def litB (p : Bool × Nat) : Int := if p.1 = true then (p.2 : Int) + 1 else 0 - p.2 - 1
def litsB (bs : List Bool) : List Int := bs.zipIdx.map litB
def eL (bs : List Bool) : PyData := .tuple ((litsB bs).map .int)
theorem lits_B {s : Ce → Bool} {all : List Ce} : lits s all = litsB (all.map s) := by
  unfold lits litsB
  rw [List.zipIdx_map, List.map_map]
  rfl
theorem litsB_len {bs : List Bool} : (litsB bs).length = bs.length := by simp [litsB]
theorem litsB_at {bs : List Bool} {i : Nat} (h : i < bs.length) : (litsB bs)[i]? = some (litB (bs[i], i)) := by
  unfold litsB
  rw [List.getElem?_map, List.getElem?_zipIdx, List.getElem?_eq_getElem h]
  simp
theorem lit_has {bs : List Bool} {i : Nat} (h : i < bs.length) : (((litsB bs).map PyData.int).any fun z => PyData.eqv z (.int ((i : Int) + 1))) = bs.getD i false := by
  rw [List.any_map]
  have hg : bs.getD i false = bs[i] := by simp [h]
  rw [hg, Bool.eq_iff_iff, List.any_eq_true]
  constructor
  · rintro ⟨z, hz, he⟩
    obtain ⟨j, hj, hz⟩ := List.getElem_of_mem hz
    have hj2 : j < bs.length := by rw [← litsB_len (bs := bs)]; exact hj
    have h3 := litsB_at hj2
    rw [List.getElem?_eq_getElem hj, hz] at h3
    have h4 : z = litB (bs[j], j) := by simpa using h3
    have he : z = (i : Int) + 1 := by
      have : (z == (i : Int) + 1) = true := he
      simpa using this
    unfold litB at h4
    by_cases hb : bs[j] = true
    · rw [if_pos hb] at h4
      have : j = i := by omega
      subst this
      exact hb
    · rw [if_neg hb] at h4
      exfalso
      simp at h4
      omega
  · intro hb
    refine ⟨litB (bs[i], i), List.mem_of_getElem? (litsB_at h), ?_⟩
    show (litB (bs[i], i) == (i : Int) + 1) = true
    unfold litB
    rw [if_pos hb]
    simp
theorem truthsof (O : SgOk k rs fs) {bs : List Bool} (hb : bs.length = (allC k rs fs).length) : F_truths_of [eS rs fs, eN k, eL bs] = some (dC' (allC k rs fs) fun c => .bool (bs.getD ((allC k rs fs).idxOf c) false)) := by
  have l := allC_len O
  have e := lComp_mapS (vs := [3, 4]) (I := (iEnD (dCall F_cells_of (aCons (dVar 0) (aCons (dVar 1) aNil))))) (g := (gT 2 (gsCons (gN 3) (gsCons (gN 4) gsNil)))) (C := bYes) (F := (dTup (aCons (dVar 4) (aCons (dOp inD (dOp addD (dVar 3) (dC (.int 1))) (dVar 2)) aNil)))) (ρ := [.dat (eS rs fs), .dat (eN k), .dat (eL bs), .emp, .emp]) (xs := allC k rs fs) (enc := fun c => .tuple [.int ((allC k rs fs).idxOf c : Nat), eC c]) (out := fun c => .tuple [eC c, .bool (bs.getD ((allC k rs fs).idxOf c) false)]) (by
      unfold iEnD
      rw [dCallS (aConsS rfl (aConsS rfl rfl)) (cellsof O), Option.bind_some]
      show some (numbD _, _) = _
      rw [numb_all O]) (by omega) (fun c hc => ⟨[.dat (eS rs fs), .dat (eN k), .dat (eL bs), .dat (.int ((allC k rs fs).idxOf c : Nat)), .dat (eC c)], rfl, rfl, rfl, dTup_ok (aConsS rfl (aConsS (dOpS (dOpS rfl rfl add_int) rfl (by
        have hf : (flatD (.int (((allC k rs fs).idxOf c : Nat) + 1)) && ((litsB bs).map PyData.int).all flatD) = true := by
          rw [List.all_map]
          simp [flatD, List.all_eq_true]
        show (inB _ _).map PyData.bool = _
        show (if (flatD (.int (((allC k rs fs).idxOf c : Nat) + 1)) && ((litsB bs).map PyData.int).all flatD) = true then _ else _ : Option Bool).map PyData.bool = _
        rw [if_pos hf, lit_has (by rw [hb]; exact idx_lt hc)]
        rfl)) rfl)) (by simp)⟩)
  refine runD_eq (ρ := [.dat (eS rs fs), .dat (eN k), .dat (eL bs), .emp, .emp]) rfl ?_
  unfold S_truths_of
  exact sRet_ok (dUn_ok (dFrz_ok e) (dict_ok (allC_nd O)))
end
end DL
set_option Elab.async false
set_option linter.all false
set_option maxRecDepth 100000
set_option maxHeartbeats 1000000
/-! P12: a world from what is so. -/
namespace DL
open PySem PySem.Spec L2
open PyProof.Rows hiding St
/-- a loop of which each turn goes on or ends the def -/
theorem loop_or {β : Type} {g : DG} {S : DS} {enc : β → PyData} {d : PyData} {good : β → Bool} {J : List β → En → Prop} {xs : List β} : ∀ {pre post : List β} {ρ : En}, xs = pre ++ post → J pre ρ → (∀ pre x post ρ, xs = pre ++ x :: post → J pre ρ → ∃ ρ1, g (enc x) ρ = some ρ1 ∧ (good x = true → ∃ ρ2, S ρ1 = some (.nx ρ2) ∧ J (pre ++ [x]) ρ2) ∧ (good x = false → ∃ ρ2, S ρ1 = some (.rt d ρ2))) →
    (post.all good = true → ∃ ρ', loopD g S (post.map enc) ρ = some (.nx ρ') ∧ J xs ρ') ∧ (post.all good = false → ∃ ρ', loopD g S (post.map enc) ρ = some (.rt d ρ'))
  | pre, [], ρ, e, j, _ => ⟨fun _ => ⟨ρ, rfl, by simpa [e] using j⟩, fun h => by simp at h⟩
  | pre, x :: post, ρ, e, j, h => by
    obtain ⟨ρ1, h1, h2, h3⟩ := h pre x post ρ e j
    cases hg : good x with
    | true =>
      obtain ⟨ρ2, h4, h5⟩ := h2 hg
      obtain ⟨i1, i2⟩ := loop_or (pre := pre ++ [x]) (post := post) (by simp [e]) h5 h
      refine ⟨fun ha => ?_, fun ha => ?_⟩
      · obtain ⟨ρ', a, b⟩ := i1 (by simpa [hg] using ha)
        exact ⟨ρ', by simp only [List.map_cons, loopD, h1, h4, Option.bind_some]; exact a, b⟩
      · obtain ⟨ρ', a⟩ := i2 (by simpa [hg] using ha)
        exact ⟨ρ', by simp only [List.map_cons, loopD, h1, h4, Option.bind_some]; exact a⟩
    | false =>
      obtain ⟨ρ2, h4⟩ := h3 hg
      exact ⟨fun ha => by simp [hg] at ha, fun _ => ⟨ρ2, by simp only [List.map_cons, loopD, h1, h4, Option.bind_some]⟩⟩
theorem sFor_or {β : Type} {I : DFL} {g : DG} {S : DS} {enc : β → PyData} {ρ : En} {d : PyData} {xs : List β} (good : β → Bool) (J : List β → En → Prop) (hI : I ρ = some (xs.map enc, ρ)) (h0 : J [] ρ) (h : ∀ pre x post ρ, xs = pre ++ x :: post → J pre ρ → ∃ ρ1, g (enc x) ρ = some ρ1 ∧ (good x = true → ∃ ρ2, S ρ1 = some (.nx ρ2) ∧ J (pre ++ [x]) ρ2) ∧ (good x = false → ∃ ρ2, S ρ1 = some (.rt d ρ2))) :
    (xs.all good = true → ∃ ρ', sFor I g S ρ = some (.nx ρ') ∧ J xs ρ') ∧ (xs.all good = false → ∃ ρ', sFor I g S ρ = some (.rt d ρ')) := by
  obtain ⟨h1, h2⟩ := loop_or (d := d) (pre := []) (post := xs) rfl h0 h
  exact ⟨fun ha => let ⟨ρ', a, b⟩ := h1 ha; ⟨ρ', (sFor_ok hI).trans a, b⟩, fun ha => let ⟨ρ', a⟩ := h2 ha; ⟨ρ', (sFor_ok hI).trans a⟩⟩
theorem sSeq_rt {S T : DS} {ρ ρ1 : En} {d : PyData} (h : S ρ = some (.rt d ρ1)) : sSeq S T ρ = some (.rt d ρ1) := by unfold sSeq; rw [h]
theorem dOpN_ok {f : PyData → PyData → Option PyData} {i : Nat} {G : DF} {ρ : En} {d e z : PyData} (h0 : vwD ρ i = some d) (h : G ρ = some (e, ρ)) (hf : f d e = some z) : dOpN f i G ρ = some (z, ρ) := by
  unfold dOpN
  rw [h0, Option.bind_some, h, Option.bind_some]
  show (vwD ρ i).bind _ = _
  rw [h0, Option.bind_some, hf]
  rfl
theorem int1 {n : Nat} : ((n : Int) == 1) = (n == 1) := by
  by_cases h : n = 1
  · subst h; rfl
  · rw [beq_eq_false_iff_ne.mpr h, beq_eq_false_iff_ne.mpr (by omega)]
section
variable {k : Nat} {rs fs : List Sg} {t : Ce → Bool}
/-- the things that are so of a function's row -/
def fits (k : Nat) (t : Ce → Bool) (p : Sg) (r : List Nat) : List Nat := (List.range k).filter fun v => t (.of p.1 r v)
def fit1 (k : Nat) (t : Ce → Bool) (p : Sg) (r : List Nat) : Bool := (fits k t p r).length == 1
def wsOf (k : Nat) (t : Ce → Bool) (rs : List Sg) : List Tb := rs.map fun p => (p, (tup k p.2).filter fun r => t (.is p.1 r))
def colOf (k : Nat) (t : Ce → Bool) (p : Sg) (rows : List (List Nat)) : List Nat := rows.map fun r => (fits k t p r).headD 0
def csOf (k : Nat) (t : Ce → Bool) (fs : List Sg) : List Co := fs.map fun p => (p, colOf k t p (tup k p.2))
def fitF (k : Nat) (t : Ce → Bool) (p : Sg) : Bool := (tup k p.2).all (fit1 k t p)
theorem mem_is {p : Sg} (hp : p ∈ rs) {r : List Nat} (hr : r ∈ tup k p.2) : Ce.is p.1 r ∈ allC k rs fs := List.mem_append_left _ (List.mem_flatMap.mpr ⟨p, hp, List.mem_map.mpr ⟨r, hr, rfl⟩⟩)
theorem mem_of {p : Sg} (hp : p ∈ fs) {r : List Nat} (hr : r ∈ tup k p.2) {v : Nat} (hv : v < k) : Ce.of p.1 r v ∈ allC k rs fs := List.mem_append_right _ (List.mem_flatMap.mpr ⟨p, hp, List.mem_flatMap.mpr ⟨r, hr, List.mem_map.mpr ⟨v, List.mem_range.mpr hv, rfl⟩⟩⟩)
/-- a row's things -/
theorem fits_ok (O : SgOk k rs fs) {p : Sg} (hp : p ∈ fs) {r : List Nat} (hr : r ∈ tup k p.2) {a b : PyData} {T C I9 : SV} {I8 : SV} {s10 : SV} :
    (lComp [10] (iR1 (aCons (dVar 1) aNil)) (gN 10) (bVal (dOp ixDD (dVar 2) (dTup (aCons (dC (.str "of")) (aCons (dVar 5) (aCons (dVar 7) (aCons (dVar 10) aNil))))))) (dVar 10)) [.dat a, .dat (eN k), .dat (dC' (allC k rs fs) fun c => .bool (t c)), T, C, .dat (.str p.1), .dat b, .dat (eRow r), I8, I9, s10] = some ((fits k t p r).map eN, [.dat a, .dat (eN k), .dat (dC' (allC k rs fs) fun c => .bool (t c)), T, C, .dat (.str p.1), .dat b, .dat (eRow r), I8, I9, nrmO (some s10)]) := by
  have k3 := O.k3
  have e := lComp_pureS (vs := [10]) (I := (iR1 (aCons (dVar 1) aNil))) (g := gN 10) (C := (bVal (dOp ixDD (dVar 2) (dTup (aCons (dC (.str "of")) (aCons (dVar 5) (aCons (dVar 7) (aCons (dVar 10) aNil)))))))) (F := dVar 10)
    (ρ := [.dat a, .dat (eN k), .dat (dC' (allC k rs fs) fun c => .bool (t c)), T, C, .dat (.str p.1), .dat b, .dat (eRow r), I8, I9, s10]) (xs := List.range k) (enc := eN) (out := eN) (p := fun v => t (.of p.1 r v)) (iR1_n (aConsS rfl rfl) (by omega)) (by simp; omega) (fun v hv => ⟨[.dat a, .dat (eN k), .dat (dC' (allC k rs fs) fun c => .bool (t c)), T, C, .dat (.str p.1), .dat b, .dat (eRow r), I8, I9, .dat (eN v)], rfl, bVal_ok (dOpS rfl (dTup_ok (aConsS rfl (aConsS rfl (aConsS rfl (aConsS rfl rfl)))) (by simp)) (get_ok (c := .of p.1 r v) (allC_nd O) (mem_of hp hr (List.mem_range.mp hv)))), rfl, fun _ => rfl⟩)
  simp only [e_back1, e_back0, e_wipe1, e_wipe0, List.getElem?_cons_succ, List.getElem?_cons_zero, List.set_cons_succ, List.set_cons_zero] at e
  exact e
theorem tab_ok (O : SgOk k rs fs) {p : Sg} (hp : p ∈ rs) {a : PyData} {T C : SV} {s7 s8 s9 s10 : SV} :
    (lComp [7] (iSeqD (dCall F_tuples_of (aCons (dVar 1) (aCons (dVar 6) aNil)))) (gN 7) (bVal (dOp ixDD (dVar 2) (dTup (aCons (dC (.str "is")) (aCons (dVar 5) (aCons (dVar 7) aNil)))))) (dVar 7)) [.dat a, .dat (eN k), .dat (dC' (allC k rs fs) fun c => .bool (t c)), T, C, .dat (.str p.1), .dat (.int p.2), s7, s8, s9, s10] = some (((tup k p.2).filter fun r => t (.is p.1 r)).map eRow, [.dat a, .dat (eN k), .dat (dC' (allC k rs fs) fun c => .bool (t c)), T, C, .dat (.str p.1), .dat (.int p.2), nrmO (some s7), s8, s9, s10]) := by
  have hp2 := O.pr p hp
  have l9 := (tup_len O.k1 O.k3 hp2).1
  have e := lComp_pureS (vs := [7]) (I := (iSeqD (dCall F_tuples_of (aCons (dVar 1) (aCons (dVar 6) aNil))))) (g := gN 7) (C := (bVal (dOp ixDD (dVar 2) (dTup (aCons (dC (.str "is")) (aCons (dVar 5) (aCons (dVar 7) aNil))))))) (F := dVar 7)
    (ρ := [.dat a, .dat (eN k), .dat (dC' (allC k rs fs) fun c => .bool (t c)), T, C, .dat (.str p.1), .dat (.int p.2), s7, s8, s9, s10]) (xs := tup k p.2) (enc := eRow) (out := eRow) (p := fun r => t (.is p.1 r)) (iSeq_ok (dCallS (aConsS rfl (aConsS rfl rfl)) (tuples O.k1 O.k3 hp2))) (by omega) (fun r hr => ⟨[.dat a, .dat (eN k), .dat (dC' (allC k rs fs) fun c => .bool (t c)), T, C, .dat (.str p.1), .dat (.int p.2), .dat (eRow r), s8, s9, s10], rfl, bVal_ok (dOpS rfl (dTup_ok (aConsS rfl (aConsS rfl (aConsS rfl rfl))) (by simp)) (get_ok (c := .is p.1 r) (allC_nd O) (mem_is hp hr))), rfl, fun _ => rfl⟩)
  simp only [e_back1, e_back0, e_wipe1, e_wipe0, List.getElem?_cons_succ, List.getElem?_cons_zero, List.set_cons_succ, List.set_cons_zero] at e
  exact e
/-- a row of a column -/
theorem row_ok (O : SgOk k rs fs) {p : Sg} (hp : p ∈ fs) {r : List Nat} (hr : r ∈ tup k p.2) {a b : PyData} {T C : SV} {col : List Nat} (hc : col.length < 1000) {s9 s10 : SV} :
    (fit1 k t p r = true → ∃ t9 t10, (sSeq (sOwn 9 (lComp [10] (iR1 (aCons (dVar 1) aNil)) (gN 10) (bVal (dOp ixDD (dVar 2) (dTup (aCons (dC (.str "of")) (aCons (dVar 5) (aCons (dVar 7) (aCons (dVar 10) aNil))))))) (dVar 10)))
      (sSeq (sIf (bVal (dOp neD (dUn lenD (dVw 9)) (dC (.int 1)))) (sRet (dC .none)) sNext)
      (sApp 8 (dOpN ixD 9 (dC (.int 0)))))) [.dat a, .dat (eN k), .dat (dC' (allC k rs fs) fun c => .bool (t c)), T, C, .dat (.str p.1), .dat b, .dat (eRow r), .own (col.map eN), s9, s10] = some (.nx [.dat a, .dat (eN k), .dat (dC' (allC k rs fs) fun c => .bool (t c)), T, C, .dat (.str p.1), .dat b, .dat (eRow r), .own ((col ++ [(fits k t p r).headD 0]).map eN), t9, t10])) ∧
    (fit1 k t p r = false → ∃ ρ', (sSeq (sOwn 9 (lComp [10] (iR1 (aCons (dVar 1) aNil)) (gN 10) (bVal (dOp ixDD (dVar 2) (dTup (aCons (dC (.str "of")) (aCons (dVar 5) (aCons (dVar 7) (aCons (dVar 10) aNil))))))) (dVar 10)))
      (sSeq (sIf (bVal (dOp neD (dUn lenD (dVw 9)) (dC (.int 1)))) (sRet (dC .none)) sNext)
      (sApp 8 (dOpN ixD 9 (dC (.int 0)))))) [.dat a, .dat (eN k), .dat (dC' (allC k rs fs) fun c => .bool (t c)), T, C, .dat (.str p.1), .dat b, .dat (eRow r), .own (col.map eN), s9, s10] = some (.rt .none ρ')) := by
  have e := fits_ok O hp hr (a := a) (b := b) (T := T) (C := C) (I8 := .own (col.map eN)) (I9 := s9) (s10 := s10) (t := t)
  have hne : ∀ {u10 : SV}, bVal (dOp neD (dUn lenD (dVw 9)) (dC (.int 1))) [.dat a, .dat (eN k), .dat (dC' (allC k rs fs) fun c => .bool (t c)), T, C, .dat (.str p.1), .dat b, .dat (eRow r), .own (col.map eN), .own ((fits k t p r).map eN), u10] = some (!fit1 k t p r, [.dat a, .dat (eN k), .dat (dC' (allC k rs fs) fun c => .bool (t c)), T, C, .dat (.str p.1), .dat b, .dat (eRow r), .own (col.map eN), .own ((fits k t p r).map eN), u10]) := by
    intro u10
    refine bVal_ok (dOpS (dUnS rfl len_l) rfl ?_)
    rw [ne_int, List.length_map, int1]
    rfl
  refine ⟨fun h => ?_, fun h => ?_⟩
  · rw [h] at hne
    have hl : (fits k t p r).length = 1 := by
      unfold fit1 at h
      simpa using h
    obtain ⟨v, hv⟩ := List.length_eq_one_iff.mp hl
    refine ⟨.own ((fits k t p r).map eN), nrmO (some s10), ?_⟩
    refine (sSeq_nx (sOwn_ok e)).trans ?_
    refine (sSeq_nx ((sIf_f hne).trans rfl)).trans ?_
    refine (sApp_ok (ds' := col.map eN) (ds := col.map eN) rfl (dOpN_ok (d := .list ((fits k t p r).map eN)) (z := eN v) rfl rfl ?_) rfl (by rw [List.length_map]; omega)).trans ?_
    · rw [hv]
      exact atI_ok (n := 0) rfl
    · rw [hv, List.map_append]
      rfl
  · rw [h] at hne
    refine ⟨_, (sSeq_nx (sOwn_ok e)).trans (sSeq_rt ((sIf_t hne).trans rfl))⟩
theorem col_ok (O : SgOk k rs fs) {p : Sg} (hp : p ∈ fs) {a : PyData} {T : SV} {C : List PyData} (hC : C.length < 1000) {s7 s8 s9 s10 : SV} :
    (fitF k t p = true → ∃ t7 t8 t9 t10, (sSeq (sOwn 8 (lLst aNil))
    (sSeq (sFor (iSeqD (dCall F_tuples_of (aCons (dVar 1) (aCons (dVar 6) aNil)))) (gN 7) (sSeq (sOwn 9 (lComp [10] (iR1 (aCons (dVar 1) aNil)) (gN 10) (bVal (dOp ixDD (dVar 2) (dTup (aCons (dC (.str "of")) (aCons (dVar 5) (aCons (dVar 7) (aCons (dVar 10) aNil))))))) (dVar 10)))
    (sSeq (sIf (bVal (dOp neD (dUn lenD (dVw 9)) (dC (.int 1)))) (sRet (dC .none)) sNext)
    (sApp 8 (dOpN ixD 9 (dC (.int 0)))))))
    (sApp 4 (dUn tupleD (dVw 8))))) [.dat a, .dat (eN k), .dat (dC' (allC k rs fs) fun c => .bool (t c)), T, .own C, .dat (.str p.1), .dat (.int p.2), s7, s8, s9, s10] = some (.nx [.dat a, .dat (eN k), .dat (dC' (allC k rs fs) fun c => .bool (t c)), T, .own (C ++ [eRow (colOf k t p (tup k p.2))]), .dat (.str p.1), .dat (.int p.2), t7, t8, t9, t10])) ∧
    (fitF k t p = false → ∃ ρ', (sSeq (sOwn 8 (lLst aNil))
    (sSeq (sFor (iSeqD (dCall F_tuples_of (aCons (dVar 1) (aCons (dVar 6) aNil)))) (gN 7) (sSeq (sOwn 9 (lComp [10] (iR1 (aCons (dVar 1) aNil)) (gN 10) (bVal (dOp ixDD (dVar 2) (dTup (aCons (dC (.str "of")) (aCons (dVar 5) (aCons (dVar 7) (aCons (dVar 10) aNil))))))) (dVar 10)))
    (sSeq (sIf (bVal (dOp neD (dUn lenD (dVw 9)) (dC (.int 1)))) (sRet (dC .none)) sNext)
    (sApp 8 (dOpN ixD 9 (dC (.int 0)))))))
    (sApp 4 (dUn tupleD (dVw 8))))) [.dat a, .dat (eN k), .dat (dC' (allC k rs fs) fun c => .bool (t c)), T, .own C, .dat (.str p.1), .dat (.int p.2), s7, s8, s9, s10] = some (.rt .none ρ')) := by
  have hp2 := Nat.le_trans (O.pf p hp) (show 1 ≤ 2 by decide)
  have l9 := (tup_len O.k1 O.k3 hp2).1
  obtain ⟨f1, f2⟩ := sFor_or (d := .none) (I := (iSeqD (dCall F_tuples_of (aCons (dVar 1) (aCons (dVar 6) aNil))))) (g := gN 7) (S := (sSeq (sOwn 9 (lComp [10] (iR1 (aCons (dVar 1) aNil)) (gN 10) (bVal (dOp ixDD (dVar 2) (dTup (aCons (dC (.str "of")) (aCons (dVar 5) (aCons (dVar 7) (aCons (dVar 10) aNil))))))) (dVar 10)))
      (sSeq (sIf (bVal (dOp neD (dUn lenD (dVw 9)) (dC (.int 1)))) (sRet (dC .none)) sNext)
      (sApp 8 (dOpN ixD 9 (dC (.int 0)))))))
    (ρ := [.dat a, .dat (eN k), .dat (dC' (allC k rs fs) fun c => .bool (t c)), T, .own C, .dat (.str p.1), .dat (.int p.2), s7, .own [], s9, s10]) (xs := tup k p.2) (enc := eRow) (fit1 k t p)
    (fun pre ρ => ∃ s7 s9 s10, ρ = [.dat a, .dat (eN k), .dat (dC' (allC k rs fs) fun c => .bool (t c)), T, .own C, .dat (.str p.1), .dat (.int p.2), s7, .own ((colOf k t p pre).map eN), s9, s10])
    (iSeq_ok (dCallS (aConsS rfl (aConsS rfl rfl)) (tuples O.k1 O.k3 hp2))) ⟨s7, s9, s10, rfl⟩ (fun pre r post ρ e J => by
      obtain ⟨u7, u9, u10, rfl⟩ := J
      have hr : r ∈ tup k p.2 := by rw [e]; simp
      have hl : (colOf k t p pre).length < 1000 := by
        have := congrArg List.length e
        simp at this
        simp [colOf]
        omega
      obtain ⟨g1, g2⟩ := row_ok O hp hr (a := a) (b := .int p.2) (T := T) (C := .own C) hl (s9 := u9) (s10 := u10) (t := t)
      refine ⟨[.dat a, .dat (eN k), .dat (dC' (allC k rs fs) fun c => .bool (t c)), T, .own C, .dat (.str p.1), .dat (.int p.2), .dat (eRow r), .own ((colOf k t p pre).map eN), u9, u10], rfl, fun h => ?_, fun h => g2 h⟩
      obtain ⟨t9, t10, h1⟩ := g1 h
      refine ⟨_, h1, .dat (eRow r), t9, t10, ?_⟩
      simp only [colOf, List.map_append, List.map_cons, List.map_nil])
  refine ⟨fun h => ?_, fun h => ?_⟩
  · obtain ⟨ρ', h1, t7, t9, t10, rfl⟩ := f1 h
    refine ⟨t7, .own ((colOf k t p (tup k p.2)).map eN), t9, t10, ?_⟩
    refine (sSeq_nx (ρ1 := [.dat a, .dat (eN k), .dat (dC' (allC k rs fs) fun c => .bool (t c)), T, .own C, .dat (.str p.1), .dat (.int p.2), s7, .own [], s9, s10]) rfl).trans ((sSeq_nx h1).trans ?_)
    exact sApp_ok (ds' := C) (ds := C) (ρ1 := [.dat a, .dat (eN k), .dat (dC' (allC k rs fs) fun c => .bool (t c)), T, .own C, .dat (.str p.1), .dat (.int p.2), t7, .own ((colOf k t p (tup k p.2)).map eN), t9, t10]) (d := eRow (colOf k t p (tup k p.2))) rfl (dUnS rfl rfl) rfl (by omega)
  · obtain ⟨ρ', h1⟩ := f2 h
    exact ⟨ρ', (sSeq_nx (ρ1 := [.dat a, .dat (eN k), .dat (dC' (allC k rs fs) fun c => .bool (t c)), T, .own C, .dat (.str p.1), .dat (.int p.2), s7, .own [], s9, s10]) rfl).trans (sSeq_rt h1)⟩
theorem worldfrom (O : SgOk k rs fs) : F_world_from [eS rs fs, eN k, dC' (allC k rs fs) fun c => .bool (t c)] = some (if fs.all (fitF k t) = true then eW k (wsOf k t rs) (csOf k t fs) else .none) := by
  have r2 := O.r2
  have f2 := O.f2
  obtain ⟨ρ1, e1, s5, s6, s7, rfl⟩ := sFor_invS (I := (iSeqD (dOp ixD (dVar 0) (dC (.int 0))))) (g := (gT 2 (gsCons (gN 5) (gsCons (gN 6) gsNil)))) (S := (sApp 3 (dUn tupleD (dFrz (lComp [7] (iSeqD (dCall F_tuples_of (aCons (dVar 1) (aCons (dVar 6) aNil)))) (gN 7) (bVal (dOp ixDD (dVar 2) (dTup (aCons (dC (.str "is")) (aCons (dVar 5) (aCons (dVar 7) aNil)))))) (dVar 7))))))
    (ρ := [.dat (eS rs fs), .dat (eN k), .dat (dC' (allC k rs fs) fun c => .bool (t c)), .own [], .own [], .emp, .emp, .emp, .emp, .emp, .emp]) (xs := rs) (enc := eR)
    (fun pre ρ => ∃ s5 s6 s7, ρ = [.dat (eS rs fs), .dat (eN k), .dat (dC' (allC k rs fs) fun c => .bool (t c)), .own ((wsOf k t pre).map eT), .own [], s5, s6, s7, .emp, .emp, .emp])
    (iSeqT_ok (dOpS rfl rfl ix0)) ⟨_, _, _, rfl⟩ (fun pre p post ρ e J => by
      obtain ⟨s5, s6, s7, rfl⟩ := J
      have hp : p ∈ rs := by rw [e]; simp
      have hl : pre.length < 1000 := by
        have := congrArg List.length e
        simp at this
        omega
      have e2 := tab_ok O hp (t := t) (a := eS rs fs) (T := .own ((wsOf k t pre).map eT)) (C := .own []) (s7 := s7) (s8 := .emp) (s9 := .emp) (s10 := .emp)
      refine ⟨[.dat (eS rs fs), .dat (eN k), .dat (dC' (allC k rs fs) fun c => .bool (t c)), .own ((wsOf k t pre).map eT), .own [], .dat (.str p.1), .dat (.int p.2), s7, .emp, .emp, .emp], _, rfl, sApp_ok (ds' := (wsOf k t pre).map eT) (ds := (wsOf k t pre).map eT) rfl (dUn_ok (dFrz_ok e2) rfl) rfl (by simp [wsOf]; omega), .dat (.str p.1), .dat (.int p.2), nrmO (some s7), ?_⟩
      unfold wsOf
      rw [List.map_append, List.map_append]
      rfl)
  obtain ⟨g1, g2⟩ := sFor_or (d := .none) (I := (iSeqD (dOp ixD (dVar 0) (dC (.int 1))))) (g := (gT 2 (gsCons (gN 5) (gsCons (gN 6) gsNil)))) (S := (sSeq (sOwn 8 (lLst aNil))
    (sSeq (sFor (iSeqD (dCall F_tuples_of (aCons (dVar 1) (aCons (dVar 6) aNil)))) (gN 7) (sSeq (sOwn 9 (lComp [10] (iR1 (aCons (dVar 1) aNil)) (gN 10) (bVal (dOp ixDD (dVar 2) (dTup (aCons (dC (.str "of")) (aCons (dVar 5) (aCons (dVar 7) (aCons (dVar 10) aNil))))))) (dVar 10)))
    (sSeq (sIf (bVal (dOp neD (dUn lenD (dVw 9)) (dC (.int 1)))) (sRet (dC .none)) sNext)
    (sApp 8 (dOpN ixD 9 (dC (.int 0)))))))
    (sApp 4 (dUn tupleD (dVw 8))))))
    (ρ := [.dat (eS rs fs), .dat (eN k), .dat (dC' (allC k rs fs) fun c => .bool (t c)), .own ((wsOf k t rs).map eT), .own [], s5, s6, s7, .emp, .emp, .emp]) (xs := fs) (enc := eR) (fitF k t)
    (fun pre ρ => ∃ s5 s6 s7 s8 s9 s10, ρ = [.dat (eS rs fs), .dat (eN k), .dat (dC' (allC k rs fs) fun c => .bool (t c)), .own ((wsOf k t rs).map eT), .own ((csOf k t pre).map eCo), s5, s6, s7, s8, s9, s10])
    (iSeqT_ok (dOpS rfl rfl ix1)) ⟨_, _, _, _, _, _, rfl⟩ (fun pre p post ρ e J => by
      obtain ⟨s5, s6, s7, s8, s9, s10, rfl⟩ := J
      have hp : p ∈ fs := by rw [e]; simp
      have hl : ((csOf k t pre).map eCo).length < 1000 := by
        have := congrArg List.length e
        simp at this
        simp [csOf]
        omega
      obtain ⟨h1, h2⟩ := col_ok O hp (t := t) (a := eS rs fs) (T := .own ((wsOf k t rs).map eT)) hl (s7 := s7) (s8 := s8) (s9 := s9) (s10 := s10)
      refine ⟨[.dat (eS rs fs), .dat (eN k), .dat (dC' (allC k rs fs) fun c => .bool (t c)), .own ((wsOf k t rs).map eT), .own ((csOf k t pre).map eCo), .dat (.str p.1), .dat (.int p.2), s7, s8, s9, s10], rfl, fun h => ?_, fun h => h2 h⟩
      obtain ⟨t7, t8, t9, t10, h3⟩ := h1 h
      refine ⟨_, h3, .dat (.str p.1), .dat (.int p.2), t7, t8, t9, t10, ?_⟩
      unfold csOf
      rw [List.map_append, List.map_append]
      rfl)
  cases hf : fs.all (fitF k t) with
  | true =>
    obtain ⟨ρ', e2, s5', s6', s7', s8', s9', s10', rfl⟩ := g1 hf
    rw [if_pos rfl]
    refine runD_eq (ρ := [.dat (eS rs fs), .dat (eN k), .dat (dC' (allC k rs fs) fun c => .bool (t c)), .own ((wsOf k t rs).map eT), .own ((csOf k t fs).map eCo), s5', s6', s7', s8', s9', s10']) rfl ?_
    unfold S_world_from
    exact (sSeq_nx (ρ1 := [.dat (eS rs fs), .dat (eN k), .dat (dC' (allC k rs fs) fun c => .bool (t c)), .own [], .own [], .emp, .emp, .emp, .emp, .emp, .emp]) rfl).trans ((sSeq_nx e1).trans ((sSeq_nx e2).trans rfl))
  | false =>
    obtain ⟨ρ', e2⟩ := g2 hf
    rw [if_neg (by simp)]
    refine runD_eq (ρ := ρ') rfl ?_
    unfold S_world_from
    exact (sSeq_nx (ρ1 := [.dat (eS rs fs), .dat (eN k), .dat (dC' (allC k rs fs) fun c => .bool (t c)), .own [], .own [], .emp, .emp, .emp, .emp, .emp, .emp]) rfl).trans ((sSeq_nx e1).trans (sSeq_rt e2))
end
end DL
set_option Elab.async false
set_option linter.all false
set_option maxRecDepth 100000
set_option maxHeartbeats 1000000
/-! P13: there and back; literals. -/
namespace DL
open PySem PySem.Spec L2
open PyProof.Rows hiding St
theorem sub_filter {α : Type} [BEq α] [LawfulBEq α] {l L : List α} (h : l.Sublist L) (nd : L.Nodup) : L.filter (fun x => l.contains x) = l := by
  induction h with
  | slnil => rfl
  | @cons l L a h ih =>
    rw [List.nodup_cons] at nd
    have : a ∉ l := fun z => nd.1 (h.subset z)
    rw [List.filter_cons, if_neg (by simpa using this)]
    exact ih nd.2
  | @cons_cons l L a h ih =>
    rw [List.nodup_cons] at nd
    rw [List.filter_cons, if_pos (by simp)]
    congr 1
    have e : L.filter (fun x => (a :: l).contains x) = L.filter (fun x => l.contains x) := by
      apply List.filter_congr
      intro x hx
      have : x ≠ a := fun z => nd.1 (z ▸ hx)
      simp [this]
    rw [e]
    exact ih nd.2
theorem filter_one {k v : Nat} (h : v < k) : (List.range k).filter (fun x => some v == some x) = [v] := by
  induction k with
  | zero => omega
  | succ k ih =>
    rw [List.range_succ, List.filter_append]
    by_cases e : v = k
    · subst e
      have : (List.range v).filter (fun x => some v == some x) = [] := by
        rw [List.filter_eq_nil_iff]
        intro x hx
        have := List.mem_range.mp hx
        simp
        omega
      rw [this]
      simp
    · rw [ih (by omega)]
      have : ([k].filter fun x => some v == some x) = [] := by
        rw [List.filter_eq_nil_iff]
        intro x hx
        simp at hx
        subst hx
        simpa using e
      rw [this]
      rfl
section
variable {k : Nat} {ws : List Tb} {cs : List Co}
theorem fits_so (O : SgOk k (rsOf ws) (fsOf cs)) (W : WOk k ws cs) {c : Co} (hc : c ∈ cs) {r : List Nat} (hr : r ∈ tup k c.1.2) : ∃ v, c.2[(tup k c.1.2).idxOf r]? = some v ∧ fits k (so k ws cs) c.1 r = [v] := by
  obtain ⟨v, h1, h2⟩ := col_at W hc hr
  refine ⟨v, h1, ?_⟩
  unfold fits
  have : (fun x => so k ws cs (.of c.1.1 r x)) = fun x => (some v == some x) := by
    funext x
    have := so_of (k := k) (ws := ws) hc (ndW O).2 (r := r) (t := x)
    rw [h1] at this
    exact this
  rw [this, filter_one h2]
theorem wf_so (O : SgOk k (rsOf ws) (fsOf cs)) (W : WOk k ws cs) : wsOf k (so k ws cs) (rsOf ws) = ws ∧ csOf k (so k ws cs) (fsOf cs) = cs ∧ (fsOf cs).all (fitF k (so k ws cs)) = true := by
  refine ⟨?_, ?_, ?_⟩
  · unfold wsOf
    rw [List.map_map]
    refine (List.map_congr_left fun w hw => ?_).trans (List.map_id ws)
    have : (fun r => so k ws cs (.is w.1.1 r)) = fun r => w.2.contains r := by
      funext r
      exact so_is hw (ndW O).1
    show (w.1, (tup k w.1.2).filter fun r => so k ws cs (.is w.1.1 r)) = w
    rw [this, sub_filter (W.tab w hw) (tup_nd O.k1 O.k3 (prW O hw))]
  · unfold csOf
    rw [List.map_map]
    refine (List.map_congr_left fun c hc => ?_).trans (List.map_id cs)
    show (c.1, colOf k (so k ws cs) c.1 (tup k c.1.2)) = c
    have nd := tup_nd O.k1 O.k3 (Nat.le_trans (pfW O hc) (show 1 ≤ 2 by decide))
    have : colOf k (so k ws cs) c.1 (tup k c.1.2) = c.2 := by
      apply List.ext_getElem?
      intro i
      unfold colOf
      rw [List.getElem?_map]
      cases h : (tup k c.1.2)[i]? with
      | none =>
        rw [List.getElem?_eq_none_iff] at h
        rw [List.getElem?_eq_none (by rw [(W.col c hc).1]; exact h)]
        rfl
      | some r =>
        obtain ⟨hi, rfl⟩ := List.getElem?_eq_some_iff.mp h
        obtain ⟨v, h1, h2⟩ := fits_so O W hc (List.getElem_mem hi)
        rw [nd.idxOf_getElem i hi] at h1
        rw [h1, Option.map_some, h2]
        rfl
    rw [this]
  · rw [List.all_eq_true]
    intro p hp
    obtain ⟨c, hc, rfl⟩ := List.mem_map.mp hp
    unfold fitF
    rw [List.all_eq_true]
    intro r hr
    obtain ⟨v, h1, h2⟩ := fits_so O W hc hr
    unfold fit1
    rw [h2]
    rfl
end
section
variable {k : Nat} {rs fs : List Sg} {t : Ce → Bool}
theorem fit_at (h : fs.all (fitF k t) = true) {p : Sg} (hp : p ∈ fs) {r : List Nat} (hr : r ∈ tup k p.2) : ∃ u, u < k ∧ fits k t p r = [u] ∧ ∀ v, v < k → t (.of p.1 r v) = (u == v) := by
  have h1 := List.all_eq_true.mp h p hp
  have h2 := List.all_eq_true.mp h1 r hr
  have h3 : (fits k t p r).length = 1 := by unfold fit1 at h2; simpa using h2
  obtain ⟨u, hu⟩ := List.length_eq_one_iff.mp h3
  have mem : ∀ v, v ∈ fits k t p r ↔ v < k ∧ t (.of p.1 r v) = true := fun v => by
    unfold fits
    rw [List.mem_filter, List.mem_range]
  rw [hu] at mem
  have hu2 := (mem u).mp (by simp)
  refine ⟨u, hu2.1, hu, fun v hv => ?_⟩
  by_cases e : u = v
  · subst e; rw [hu2.2]; simp
  · rw [beq_eq_false_iff_ne.mpr e]
    cases ht : t (.of p.1 r v) with
    | false => rfl
    | true =>
      have := (mem v).mpr ⟨hv, ht⟩
      simp at this
      exact absurd this.symm e
theorem rs_wf : rsOf (wsOf k t rs) = rs := by
  unfold wsOf rsOf
  rw [List.map_map]
  exact List.map_id rs
theorem fs_wf : fsOf (csOf k t fs) = fs := by
  unfold csOf fsOf
  rw [List.map_map]
  exact List.map_id fs
theorem so_wf (O : SgOk k rs fs) (h : fs.all (fitF k t) = true) {c : Ce} (hc : c ∈ allC k rs fs) : so k (wsOf k t rs) (csOf k t fs) c = t c := by
  have O2 : SgOk k (rsOf (wsOf k t rs)) (fsOf (csOf k t fs)) := by rw [rs_wf, fs_wf]; exact O
  unfold allC at hc
  rcases List.mem_append.mp hc with z | z
  · obtain ⟨p, hp, z⟩ := List.mem_flatMap.mp z
    obtain ⟨r, hr, rfl⟩ := List.mem_map.mp z
    have hw : (p, (tup k p.2).filter fun r => t (.is p.1 r)) ∈ wsOf k t rs := List.mem_map.mpr ⟨p, hp, rfl⟩
    have := so_is (k := k) (cs := csOf k t fs) hw (ndW O2).1 (r := r)
    refine this.trans ?_
    rw [Bool.eq_iff_iff]
    simp [hr]
  · obtain ⟨p, hp, z⟩ := List.mem_flatMap.mp z
    obtain ⟨r, hr, z⟩ := List.mem_flatMap.mp z
    obtain ⟨v, hv, rfl⟩ := List.mem_map.mp z
    have hv := List.mem_range.mp hv
    have hw : (p, colOf k t p (tup k p.2)) ∈ csOf k t fs := List.mem_map.mpr ⟨p, hp, rfl⟩
    have := so_of (k := k) (ws := wsOf k t rs) hw (ndW O2).2 (r := r) (t := v)
    refine this.trans ?_
    obtain ⟨u, h1, h2, h3⟩ := fit_at h hp hr
    have e : (colOf k t p (tup k p.2))[(tup k p.2).idxOf r]? = some u := by
      unfold colOf
      rw [List.getElem?_map, List.getElem?_eq_getElem (idx_lt hr), List.getElem_idxOf (idx_lt hr), Option.map_some, h2]
      rfl
    show ((colOf k t p (tup k p.2))[(tup k p.2).idxOf r]? == some v) = _
    rw [e, h3 v hv]
    rfl
theorem wok_wf (O : SgOk k rs fs) (h : fs.all (fitF k t) = true) : WOk k (wsOf k t rs) (csOf k t fs) := by
  constructor
  · intro w hw
    obtain ⟨p, hp, rfl⟩ := List.mem_map.mp hw
    exact List.filter_sublist
  · intro c hc
    obtain ⟨p, hp, rfl⟩ := List.mem_map.mp hc
    refine ⟨by simp [colOf], fun v hv => ?_⟩
    obtain ⟨r, hr, rfl⟩ := List.mem_map.mp hv
    obtain ⟨u, h1, h2, h3⟩ := fit_at h hp hr
    rw [h2]
    exact h1
end
/-! ### are they literals -/
def okAt (i : Nat) : List Int → Bool
  | [] => true
  | j :: js => (j == (i : Int) + 1 || j == 0 - (i : Int) - 1) && okAt (i + 1) js
def absI (j : Int) : Int := if j < 0 then -j else j
def intOf : PyData → Int
  | .int i => i
  | _ => 0
def isLit (n : Nat) : PyData → Bool
  | .tuple ds => (ds.length == n && ds.all isI) && okAt 0 (ds.map intOf)
  | _ => false
theorem ints_of {ds : List PyData} (h : ds.all isI = true) : ds = (ds.map intOf).map .int := by
  rw [List.map_map]
  refine ((List.map_congr_left fun d hd => ?_).trans (List.map_id ds)).symm
  have := List.all_eq_true.mp h d hd
  cases d <;> simp_all [isI, intOf]
theorem okAt_abs : ∀ {js : List Int} {i : Nat}, okAt i js = decide (js.map absI = (List.range js.length).map fun (x : Nat) => (i : Int) + 1 + x)
  | [], i => rfl
  | j :: js, i => by
    rw [okAt, okAt_abs, List.length_cons, List.range_succ_eq_map, List.map_cons, List.map_cons, List.map_map]
    have e : ((fun (x : Nat) => (i : Int) + 1 + x) ∘ Nat.succ) = fun (x : Nat) => ((i + 1 : Nat) : Int) + 1 + x := by
      funext x
      show (i : Int) + 1 + ((x + 1 : Nat) : Int) = _
      omega
    rw [e, Bool.eq_iff_iff]
    simp only [Bool.and_eq_true, Bool.or_eq_true, beq_iff_eq, decide_eq_true_eq, List.cons.injEq]
    have : (j = (i : Int) + 1 ∨ j = 0 - (i : Int) - 1) ↔ absI j = (i : Int) + 1 + ((0 : Nat) : Int) := by
      unfold absI
      split <;> omega
    rw [this]
theorem okAt_bd : ∀ {js : List Int} {i : Nat}, okAt i js = true → ∀ j ∈ js, -((i + js.length : Nat) : Int) ≤ j ∧ j ≤ ((i + js.length : Nat) : Int)
  | [], _, _, _, h => by cases h
  | a :: js, i, h, j, hj => by
    rw [okAt, Bool.and_eq_true] at h
    rcases List.mem_cons.mp hj with z | z
    · subst z
      have := h.1
      simp only [Bool.or_eq_true, beq_iff_eq] at this
      rw [List.length_cons]
      omega
    · have := okAt_bd h.2 j z
      rw [List.length_cons]
      omega
theorem okAt_lits : ∀ {js : List Int} {i : Nat}, okAt i js = true → js = ((js.map fun j => decide (0 < j)).zipIdx i).map litB
  | [], _, _ => rfl
  | j :: js, i, h => by
    rw [okAt, Bool.and_eq_true] at h
    rw [List.map_cons, List.zipIdx_cons, List.map_cons, ← okAt_lits h.2]
    congr 1
    have := h.1
    simp only [Bool.or_eq_true, beq_iff_eq] at this
    unfold litB
    by_cases hj : 0 < j
    · rw [decide_eq_true hj, if_pos rfl]; show j = (i : Int) + 1; omega
    · rw [decide_eq_false hj, if_neg (by simp)]; show j = 0 - (i : Int) - 1; omega
theorem isLit_bs {n : Nat} {d : PyData} (h : isLit n d = true) : ∃ bs : List Bool, bs.length = n ∧ d = eL bs := by
  cases d with
  | tuple ds =>
    unfold isLit at h
    rw [Bool.and_eq_true, Bool.and_eq_true] at h
    obtain ⟨⟨h1, h2⟩, h3⟩ := h
    refine ⟨(ds.map intOf).map fun j => decide (0 < j), by simpa using h1, ?_⟩
    unfold eL litsB
    rw [← okAt_lits h3, ← ints_of h2]
  | _ => cases h
theorem okAt_B : ∀ {bs : List Bool} {i : Nat}, okAt i ((bs.zipIdx i).map litB) = true
  | [], _ => rfl
  | b :: bs, i => by
    rw [List.zipIdx_cons, List.map_cons, okAt, okAt_B, Bool.and_true]
    unfold litB
    cases b <;> simp
theorem isLit_eL {bs : List Bool} : isLit bs.length (eL bs) = true := by
  unfold eL isLit
  rw [Bool.and_eq_true, Bool.and_eq_true]
  refine ⟨⟨?_, ?_⟩, ?_⟩
  · rw [List.length_map, litsB_len]; simp
  · rw [List.all_map]; simp [List.all_eq_true, isI]
  · rw [List.map_map]
    have : (intOf ∘ PyData.int) = id := rfl
    rw [this, List.map_id]
    exact okAt_B
end DL
set_option Elab.async false
set_option linter.all false
set_option maxRecDepth 100000
set_option maxHeartbeats 1000000
/-! P14: literals that are taken; world_by. -/
namespace DL
open PySem PySem.Spec L2
open PyProof.Rows hiding St
/-- no error is held in it, nor in its items -/
structure NoEx (d : PyData) : Prop where
  top : isExc d = false
  its : ∀ ds, d = .tuple ds → (∀ e ∈ ds, isExc e = false) ∧ ds.length ≤ 1000
theorem isi_ok {T : String} {d : PyData} (h : isExc d = false) : isiD T d = some (.bool (isTy T d)) := by
  unfold isiD
  rw [h]
  rfl
theorem okAt_all : ∀ {js : List Int} {i : Nat}, okAt i js = (js.zipIdx i).all fun p => (p.1 == (p.2 : Int) + 1 || p.1 == 0 - (p.2 : Int) - 1)
  | [], _ => rfl
  | j :: js, i => by
    rw [okAt, List.zipIdx_cons, List.all_cons, okAt_all]
theorem all_isI {js : List Int} : (js.map PyData.int).all isI = true := by
  rw [List.all_map]
  simp [List.all_eq_true, isI]
theorem map_intOf {js : List Int} : (js.map PyData.int).map intOf = js := by
  rw [List.map_map]
  exact List.map_id js
theorem isLit_not {n : Nat} {d : PyData} (h : isTy "tuple" d = false) : isLit n d = false := by
  cases d <;> first | rfl | (simp [isTy] at h)
theorem tuple_of {d : PyData} (h : isTy "tuple" d = true) : ∃ ds, d = .tuple ds := by
  cases d <;> first | exact ⟨_, rfl⟩ | (simp [isTy] at h)
theorem isLit_t {n : Nat} {ds : List PyData} : isLit n (.tuple ds) = ((ds.length == n && ds.all isI) && okAt 0 (ds.map intOf)) := rfl
theorem sSeq_ex {S T : DS} {ρ : En} {c : Str} {d : PyData} (h : S ρ = some (.ex c d)) : sSeq S T ρ = some (.ex c d) := by unfold sSeq; rw [h]
theorem runX_er {n np : Nat} {S : DS} {ds : List PyData} {c : Str} {d : PyData} (hl : ds.length = np) (h : S (en0 n ds) = some (.ex c d)) : runX n np S ds = some (.er c d) := by
  unfold runX
  rw [if_pos hl, h]
theorem runX_rt {n np : Nat} {S : DS} {ds : List PyData} {d : PyData} {ρ : En} (hl : ds.length = np) (h : S (en0 n ds) = some (.rt d ρ)) : runX n np S ds = some (.ok d) := by
  unfold runX
  rw [if_pos hl, h]
theorem sRetB {b : Bool} {ρ : En} : sRet (dC (.bool b)) ρ = some (.rt (.bool b) ρ) := rfl
theorem arelits {n : Nat} {d : PyData} (h : NoEx d) : F_are_literals [d, .int n] = some (.bool (isLit n d)) := by
  have ht := isi_ok (T := "tuple") h.top
  unfold F_are_literals
  cases hd : isTy "tuple" d with
  | false =>
    rw [hd] at ht
    rw [isLit_not hd]
    refine runD_eq (ρ := [.dat d, .dat (.int n), .emp, .emp]) rfl ?_
    unfold S_are_literals
    exact sSeq_rt ((sIf_t (bOr_t (bNot_ok (b := false) (bVal_ok (dUnS rfl ht))))).trans sRetB)
  | true =>
    rw [hd] at ht
    obtain ⟨ds, rfl⟩ := tuple_of hd
    obtain ⟨hx, hl⟩ := h.its ds rfl
    have c2 : bVal (dOp neD (dUn lenD (dVar 0)) (dVar 1)) [.dat (.tuple ds), .dat (.int n), .emp, .emp] = some (!(ds.length == n), [.dat (.tuple ds), .dat (.int n), .emp, .emp]) := bVal_ok (dOpS (dUnS rfl len_t) rfl (by
      rw [ne_int]
      congr 3
      rw [Bool.eq_iff_iff]
      simp only [beq_iff_eq]
      omega))
    have e := lComp_mapS (vs := [2]) (I := (iSeqD (dVar 0))) (g := gN 2) (C := bYes) (F := (dCall F_is_integer (aCons (dVar 2) aNil))) (ρ := [.dat (.tuple ds), .dat (.int n), .emp, .emp]) (xs := ds) (enc := id) (out := fun x => .bool (isI x)) (iSeqT_ok (by rw [List.map_id]; rfl)) (by omega) (fun x hx' => ⟨[.dat (.tuple ds), .dat (.int n), .dat x, .emp], rfl, rfl, rfl, dCallS (aConsS rfl rfl) (is_integer_eq (hx x hx'))⟩)
    have c3 := bNot_ok (bVal_ok (dUn_ok (dFrz_ok e) allD_ok))
    have c1 := bNot_ok (b := true) (bVal_ok (dUnS (F := dVar 0) (ρ := [.dat (.tuple ds), .dat (.int n), .emp, .emp]) rfl ht))
    cases hn : (ds.length == n) with
    | false =>
      rw [hn] at c2
      have : isLit n (.tuple ds) = false := by rw [isLit_t, hn]; rfl
      rw [this]
      refine runD_eq (ρ := [.dat (.tuple ds), .dat (.int n), .emp, .emp]) rfl ?_
      unfold S_are_literals
      exact sSeq_rt ((sIf_t ((bOr_f c1).trans (bOr_t c2))).trans sRetB)
    | true =>
      rw [hn] at c2
      cases hi : ds.all isI with
      | false =>
        rw [hi] at c3
        have : isLit n (.tuple ds) = false := by rw [isLit_t, hn, hi]; rfl
        rw [this]
        refine runD_eq (ρ := [.dat (.tuple ds), .dat (.int n), .emp, .emp]) rfl ?_
        unfold S_are_literals
        exact sSeq_rt ((sIf_t ((bOr_f c1).trans ((bOr_f c2).trans c3))).trans sRetB)
      | true =>
        rw [hi] at c3
        have : isLit n (.tuple ds) = okAt 0 (ds.map intOf) := by rw [isLit_t, hn, hi]; rfl
        rw [this]
        have hds := ints_of hi
        generalize ds.map intOf = js at hds
        subst hds
        refine runD_eq (ρ := [.dat (.tuple (js.map .int)), .dat (.int n), .emp, .emp]) rfl ?_
        unfold S_are_literals
        have f1 := (sIf_f (S := sRet (dC (.bool false))) (T := sNext) ((bOr_f c1).trans ((bOr_f c2).trans c3))).trans rfl
        refine (sSeq_nx f1).trans ?_
        have e4 := lComp_mapS (vs := [3, 2]) (I := (iEnD (dVar 0))) (g := (gT 2 (gsCons (gN 3) (gsCons (gN 2) gsNil)))) (C := bYes) (F := (dOp inD (dVar 2) (dTup (aCons (dOp addD (dVar 3) (dC (.int 1))) (aCons (dOp subD (dOp subD (dC (.int 0)) (dVar 3)) (dC (.int 1))) aNil))))) (ρ := [.dat (.tuple (js.map .int)), .dat (.int n), .emp, .emp]) (xs := js.zipIdx) (enc := fun p => .tuple [.int p.2, .int p.1]) (out := fun p => .bool (p.1 == (p.2 : Int) + 1 || p.1 == 0 - (p.2 : Int) - 1)) (by
          unfold iEnD
          show some (numbD _, _) = _
          rw [numb_ok]) (by rw [List.length_map] at hl; rw [List.length_zipIdx]; omega) (fun p hp => ⟨[.dat (.tuple (js.map .int)), .dat (.int n), .dat (.int p.1), .dat (.int p.2)], rfl, rfl, rfl, dOpS rfl (dTup_ok (aConsS (dOpS rfl rfl add_int) (aConsS (dOpS (dOpS rfl rfl sub_int') rfl sub_int') rfl)) (by simp)) (by
            show (some (((p.2 : Int) + 1 == p.1) || ((0 - (p.2 : Int) - 1 == p.1) || false))).map PyData.bool = _
            show some (PyData.bool _) = _
            congr 2
            rw [Bool.or_false, Bool.eq_iff_iff]
            simp only [Bool.or_eq_true, beq_iff_eq]
            omega)⟩)
        have e5 := sRet_ok (dUn_ok (dFrz_ok e4) allD_ok)
        rw [← okAt_all] at e5
        exact e5
theorem lawisint {d : PyData} {a b : Int} (h : isExc d = false) : F__law_is_int [d, .int a, .int b] = some (.bool (betw a b d)) := by
  have h1 := isi_ok (T := "int") h
  have h2 := isi_ok (T := "bool") h
  unfold F__law_is_int
  have e1 : dUn (isiD "int") (dVar 0) [.dat d, .dat (.int a), .dat (.int b)] = some (.bool (isTy "int" d), [.dat d, .dat (.int a), .dat (.int b)]) := dUnS rfl h1
  have e2 : dUn (isiD "bool") (dVar 0) [.dat d, .dat (.int a), .dat (.int b)] = some (.bool (isTy "bool" d), [.dat d, .dat (.int a), .dat (.int b)]) := dUnS rfl h2
  refine runD_eq (ρ := [.dat d, .dat (.int a), .dat (.int b)]) rfl ?_
  unfold S__law_is_int
  refine sRet_ok ?_
  show dAndV _ _ [.dat d, .dat (.int a), .dat (.int b)] = _
  rw [e_dAndV, e1]
  cases d with
  | int i =>
    show dAndV _ _ [.dat (.int i), .dat (.int a), .dat (.int b)] = _
    rw [e_dAndV, e_dNotV, e2]
    show dChain leD leD (dVar 1) (dVar 0) (dVar 2) [.dat (.int i), .dat (.int a), .dat (.int b)] = _
    simp only [e_dChain, e_dVar, List.getElem?_cons_succ, List.getElem?_cons_zero, Option.bind_some, le_int, betw]
    by_cases h1 : a ≤ i
    · rw [decide_eq_true h1]; rfl
    · rw [decide_eq_false h1]; rfl
  | bool x =>
    show dAndV _ _ [.dat (.bool x), .dat (.int a), .dat (.int b)] = _
    rw [e_dAndV, e_dNotV, e2]
    rfl
  | _ => rfl
theorem eqv_ints : ∀ {a b : List Int}, PyData.eqvAll (a.map .int) (b.map .int) = decide (a = b)
  | [], [] => rfl
  | [], _ :: _ => rfl
  | _ :: _, [] => rfl
  | x :: a, y :: b => by
    show ((x == y) && PyData.eqvAll (a.map .int) (b.map .int)) = _
    rw [eqv_ints]
    by_cases h : x = y <;> simp [h]
theorem sh_ints {js : List Int} : Sh 1 (.list (js.map .int)) := sh_l fun d hd => by obtain ⟨a, _, rfl⟩ := List.mem_map.mp hd; exact sh_int
theorem lRg2_ok {F G : DF} {ρ : En} {i j : Int} (h : F ρ = some (.int i, ρ)) (h2 : G ρ = some (.int j, ρ)) (hr : rgB i j = true) : lRg2 F G ρ = some (rngD i (j - i).toNat, ρ) := by
  unfold lRg2
  rw [h, Option.bind_some, h2]
  exact if_pos hr
theorem lawarelits {n : Nat} {d : PyData} (h : NoEx d) (hn1000 : n ≤ 1000) : F__law_are_literals [d, .int n] = some (.bool (isLit n d)) := by
  have ht := isi_ok (T := "tuple") h.top
  unfold F__law_are_literals
  cases hd : isTy "tuple" d with
  | false =>
    rw [hd] at ht
    rw [isLit_not hd]
    refine runD_eq (ρ := [.dat d, .dat (.int n), .emp]) rfl ?_
    unfold S__law_are_literals
    exact sSeq_rt ((sIf_t (bOr_t (bNot_ok (b := false) (bVal_ok (dUnS rfl ht))))).trans sRetB)
  | true =>
    rw [hd] at ht
    obtain ⟨ds, rfl⟩ := tuple_of hd
    obtain ⟨hx, hl⟩ := h.its ds rfl
    have c2 : bVal (dOp neD (dUn lenD (dVar 0)) (dVar 1)) [.dat (.tuple ds), .dat (.int n), .emp] = some (!(ds.length == n), [.dat (.tuple ds), .dat (.int n), .emp]) := bVal_ok (dOpS (dUnS rfl len_t) rfl (by
      rw [ne_int]
      congr 3
      rw [Bool.eq_iff_iff]
      simp only [beq_iff_eq]
      omega))
    have e := lComp_mapS (vs := [2]) (I := (iSeqD (dVar 0))) (g := gN 2) (C := bYes) (F := (dCall F__law_is_int (aCons (dVar 2) (aCons (dUn negD (dVar 1)) (aCons (dVar 1) aNil))))) (ρ := [.dat (.tuple ds), .dat (.int n), .emp]) (xs := ds) (enc := id) (out := fun x => .bool (betw (-(n : Int)) n x)) (iSeqT_ok (by rw [List.map_id]; rfl)) (by omega) (fun x hx' => ⟨[.dat (.tuple ds), .dat (.int n), .dat x], rfl, rfl, rfl, dCallS (aConsS rfl (aConsS (dUnS rfl rfl) (aConsS rfl rfl))) (lawisint (hx x hx'))⟩)
    have c3 := bNot_ok (bVal_ok (dUn_ok (dFrz_ok e) allD_ok))
    have c1 := bNot_ok (b := true) (bVal_ok (dUnS (F := dVar 0) (ρ := [.dat (.tuple ds), .dat (.int n), .emp]) rfl ht))
    cases hn : (ds.length == n) with
    | false =>
      rw [hn] at c2
      have : isLit n (.tuple ds) = false := by rw [isLit_t, hn]; rfl
      rw [this]
      refine runD_eq (ρ := [.dat (.tuple ds), .dat (.int n), .emp]) rfl ?_
      unfold S__law_are_literals
      exact sSeq_rt ((sIf_t ((bOr_f c1).trans (bOr_t c2))).trans sRetB)
    | true =>
      rw [hn] at c2
      have hln : ds.length = n := by simpa using hn
      cases hi : ds.all (fun x => betw (-(n : Int)) n x) with
      | false =>
        rw [hi] at c3
        have : isLit n (.tuple ds) = false := by
          cases hL : isLit n (.tuple ds) with
          | false => rfl
          | true =>
            exfalso
            rw [isLit_t, Bool.and_eq_true, Bool.and_eq_true] at hL
            have hds := ints_of hL.1.2
            have hb := okAt_bd hL.2
            rw [← Bool.not_eq_true, List.all_eq_true] at hi
            apply hi
            intro x hx
            rw [hds] at hx
            obtain ⟨j, hj, rfl⟩ := List.mem_map.mp hx
            have := hb j hj
            rw [List.length_map, hln] at this
            unfold betw
            rw [Bool.and_eq_true]
            exact ⟨decide_eq_true (by omega), decide_eq_true (by omega)⟩
        rw [this]
        refine runD_eq (ρ := [.dat (.tuple ds), .dat (.int n), .emp]) rfl ?_
        unfold S__law_are_literals
        exact sSeq_rt ((sIf_t ((bOr_f c1).trans ((bOr_f c2).trans c3))).trans sRetB)
      | true =>
        rw [hi] at c3
        have hI : ds.all isI = true := by
          rw [List.all_eq_true] at hi ⊢
          intro x hx
          have := hi x hx
          cases x <;> simp_all [betw, isI]
        have : isLit n (.tuple ds) = okAt 0 (ds.map intOf) := by rw [isLit_t, hn, hI]; rfl
        rw [this]
        have hds := ints_of hI
        generalize ds.map intOf = js at hds
        subst hds
        rw [List.length_map] at hln
        refine runD_eq (ρ := [.dat (.tuple (js.map .int)), .dat (.int n), .emp]) rfl ?_
        unfold S__law_are_literals
        have f1 := (sIf_f (S := sRet (dC (.bool false))) (T := sNext) ((bOr_f c1).trans ((bOr_f c2).trans c3))).trans rfl
        refine (sSeq_nx f1).trans ?_
        have e4 := lComp_mapS (vs := [2]) (I := (iSeqD (dVar 0))) (g := gN 2) (C := bYes) (F := dUn absD (dVar 2)) (ρ := [.dat (.tuple (js.map .int)), .dat (.int n), .emp]) (xs := js) (enc := .int) (out := fun j => .int (absI j)) (iSeqT_ok rfl) (by omega) (fun p hp => ⟨[.dat (.tuple (js.map .int)), .dat (.int n), .dat (.int p)], rfl, rfl, rfl, rfl⟩)
        have e6 : lRg2 (dC (.int 1)) (dOp addD (dVar 1) (dC (.int 1))) [.dat (.tuple (js.map .int)), .dat (.int n), .emp] = some (((List.range n).map fun (x : Nat) => (0 : Nat) + (1 : Int) + x).map .int, [.dat (.tuple (js.map .int)), .dat (.int n), .emp]) := by
          have hr : rgB 1 ((n : Int) + 1) = true := by
            unfold rgB
            rw [small_ok (by decide) (by decide), small_ok (by omega) (by omega), decide_eq_true (by omega)]
            rfl
          have := lRg2_ok (F := dC (.int 1)) (G := dOp addD (dVar 1) (dC (.int 1))) (ρ := [.dat (.tuple (js.map .int)), .dat (.int n), .emp]) rfl (dOpS rfl rfl add_int) hr
          have h2 : ((n : Int) + 1 - 1).toNat = n := by omega
          rw [h2] at this
          have hm : rngD 1 n = ((List.range n).map fun (x : Nat) => (0 : Nat) + (1 : Int) + x).map .int := by
            unfold rngD
            rw [List.map_map]
            refine List.map_congr_left fun x _ => ?_
            show PyData.int _ = PyData.int _
            congr 1
          rw [hm] at this
          exact this
        have q : eqD (.list (js.map fun j => PyData.int (absI j))) (.list (((List.range n).map fun (x : Nat) => (0 : Nat) + (1 : Int) + x).map .int)) = some (.bool (okAt 0 js)) := by
          have m : (js.map fun j => PyData.int (absI j)) = (js.map absI).map .int := by rw [List.map_map]; rfl
          rw [m]
          unfold eqD
          rw [sh_ints.ok (by decide), sh_ints.ok (by decide)]
          show some (PyData.bool (PyData.eqvAll _ _)) = _
          rw [eqv_ints, okAt_abs, hln]
        exact sRet_ok (dOp_ok (dFrz_ok e4) (dFrz_ok e6) q)
section
variable {k : Nat} {rs fs : List Sg}
theorem worldby_no (O : SgOk k rs fs) {d : PyData} (h : NoEx d) (hl : isLit (allC k rs fs).length d = false) : F_world_by [eS rs fs, eN k, d] = some (.er "BadValues" d) := by
  have h1 := checksigns O
  have h2 := checksize O
  have h3 := manycells O
  have h4 := arelits (n := (allC k rs fs).length) h
  rw [hl] at h4
  have s1 : S_world_by [.dat (eS rs fs), .dat (eN k), .dat d, .emp] = some (.ex "BadValues" d) := by
    unfold S_world_by
    refine (sSeq_nx (sDrop_ok (dCallS (ds := [eS rs fs]) (z := .none) rfl (by unfold okOf; rw [h1])))).trans ?_
    refine (sSeq_nx (sDrop_ok (dCallS (ds := [eS rs fs, eN k]) (z := .none) rfl (by unfold okOf; rw [h2])))).trans ?_
    have c : bNot (bVal (dCall F_are_literals (aCons (dVar 2) (aCons (dCall F_many_cells (aCons (dVar 0) (aCons (dVar 1) aNil))) aNil)))) [.dat (eS rs fs), .dat (eN k), .dat d, .emp] = some (true, [.dat (eS rs fs), .dat (eN k), .dat d, .emp]) := bNot_ok (b := false) (bVal_ok (dCallS (aConsS rfl (aConsS (dCallS (aConsS rfl (aConsS rfl rfl)) h3) rfl)) h4))
    exact sSeq_ex ((sIf_t c).trans rfl)
  exact runX_er rfl s1
/-- what literals say -/
def says (k : Nat) (rs fs : List Sg) (bs : List Bool) (c : Ce) : Bool := bs.getD ((allC k rs fs).idxOf c) false
theorem noEx_L {bs : List Bool} (h : bs.length ≤ 1000) : NoEx (eL bs) := ⟨rfl, fun ds e => by
  cases e
  refine ⟨fun e he => ?_, by rw [List.length_map, litsB_len]; exact h⟩
  obtain ⟨j, _, rfl⟩ := List.mem_map.mp he
  rfl⟩
theorem worldby_ok (O : SgOk k rs fs) {bs : List Bool} (hb : bs.length = (allC k rs fs).length) : F_world_by [eS rs fs, eN k, eL bs] = some (if fs.all (fitF k (says k rs fs bs)) = true then .ok (eW k (wsOf k (says k rs fs bs) rs) (csOf k (says k rs fs bs) fs)) else .er "NoWorld" (eL bs)) := by
  have l := allC_len O
  have h1 := checksigns O
  have h2 := checksize O
  have h3 := manycells O
  have h4 := arelits (n := (allC k rs fs).length) (noEx_L (bs := bs) (by omega))
  rw [← hb, isLit_eL, hb] at h4
  have h5 := truthsof O hb
  have h6 := worldfrom O (t := says k rs fs bs)
  have c : bNot (bVal (dCall F_are_literals (aCons (dVar 2) (aCons (dCall F_many_cells (aCons (dVar 0) (aCons (dVar 1) aNil))) aNil)))) [.dat (eS rs fs), .dat (eN k), .dat (eL bs), .emp] = some (false, [.dat (eS rs fs), .dat (eN k), .dat (eL bs), .emp]) := bNot_ok (b := true) (bVal_ok (dCallS (aConsS rfl (aConsS (dCallS (aConsS rfl (aConsS rfl rfl)) h3) rfl)) h4))
  have w : (sSet 3 (dCall F_world_from (aCons (dVar 0) (aCons (dVar 1) (aCons (dCall F_truths_of (aCons (dVar 0) (aCons (dVar 1) (aCons (dVar 2) aNil)))) aNil))))) [.dat (eS rs fs), .dat (eN k), .dat (eL bs), .emp] = some (.nx [.dat (eS rs fs), .dat (eN k), .dat (eL bs), .dat (if fs.all (fitF k (says k rs fs bs)) = true then eW k (wsOf k (says k rs fs bs) rs) (csOf k (says k rs fs bs) fs) else .none)]) := sSet_ok (dCallS (aConsS rfl (aConsS rfl (aConsS (dCallS (aConsS rfl (aConsS rfl (aConsS rfl rfl))) h5) rfl))) h6)
  have st : ∀ o, sSeq (sIf (bVal (dOp isD (dVar 3) (dC .none))) (sRaise "NoWorld" (dVar 2)) sNext) (sRet (dVar 3)) [.dat (eS rs fs), .dat (eN k), .dat (eL bs), .dat (if fs.all (fitF k (says k rs fs bs)) = true then eW k (wsOf k (says k rs fs bs) rs) (csOf k (says k rs fs bs) fs) else .none)] = o → S_world_by [.dat (eS rs fs), .dat (eN k), .dat (eL bs), .emp] = o := by
    intro o ho
    unfold S_world_by
    refine (sSeq_nx (sDrop_ok (dCallS (ds := [eS rs fs]) (z := .none) rfl (by unfold okOf; rw [h1])))).trans ?_
    refine (sSeq_nx (sDrop_ok (dCallS (ds := [eS rs fs, eN k]) (z := .none) rfl (by unfold okOf; rw [h2])))).trans ?_
    refine (sSeq_nx ((sIf_f c).trans rfl)).trans ?_
    exact (sSeq_nx w).trans ho
  cases hf : fs.all (fitF k (says k rs fs bs)) with
  | true =>
    rw [hf] at st
    exact runX_rt (ρ := [.dat (eS rs fs), .dat (eN k), .dat (eL bs), .dat (eW k (wsOf k (says k rs fs bs) rs) (csOf k (says k rs fs bs) fs))]) rfl (st _ rfl)
  | false =>
    rw [hf] at st
    exact runX_er rfl (st _ rfl)
end
end DL
set_option Elab.async false
set_option linter.all false
set_option maxRecDepth 100000
set_option maxHeartbeats 1000000
/-! P15: what is shown tells the data. -/
namespace DL
open PySem PySem.Spec L2
open PySem.Builtin.Str (reprChar)
open PyProof.Rows hiding St
def sh (d : PyData) : List Nat := d.shown.cps.toList
def digC (c : Nat) : Bool := c == 45 || (decide (48 ≤ c) && decide (c ≤ 57))
def plC (c : Nat) : Bool := digC c || (decide (97 ≤ c) && decide (c ≤ 122))
def rangeI : List Int := 100000000000 :: (List.range 201).map fun (n : Nat) => (n : Int) - 100
def okI (i : Int) : Bool := decide (i ∈ rangeI)
def okS (x : Str) : Bool := x.cps.toList.all plC && decide (x.cps.toList.length ≤ 20)
mutual
def good : PyData → Bool
  | .none => true
  | .bool _ => true
  | .int i => okI i
  | .str x => okS x
  | .list ds => goodA ds
  | .tuple ds => goodA ds
  | .dict [] => true
  | .dict [(.str x, .int i)] => okS x && okI i
  | .dict _ => false
def goodA : List PyData → Bool
  | [] => true
  | d :: ds => good d && goodA ds
end
mutual
/-- of texts, numbers and tuples alone -/
def clean : PyData → Bool
  | .int i => okI i
  | .str x => okS x
  | .tuple ds => cleanA ds
  | _ => false
def cleanA : List PyData → Bool
  | [] => true
  | d :: ds => clean d && cleanA ds
end
theorem goodA_iff {ds : List PyData} : goodA ds = true ↔ ∀ d ∈ ds, good d = true := by
  induction ds with
  | nil => simp [goodA]
  | cons d ds ih => simp [goodA, ih]
theorem cleanA_iff {ds : List PyData} : cleanA ds = true ↔ ∀ d ∈ ds, clean d = true := by
  induction ds with
  | nil => simp [cleanA]
  | cons d ds ih => simp [cleanA, ih]
mutual
theorem good_of : ∀ {d : PyData}, clean d = true → good d = true
  | .int i, h => by simpa [clean, good] using h
  | .str x, h => by simpa [clean, good] using h
  | .tuple ds, h => by simp only [clean] at h; simp only [good]; exact goodA_of h
  | .none, h => by simp [clean] at h
  | .bool _, h => by simp [clean] at h
  | .list _, h => by simp [clean] at h
  | .dict _, h => by simp [clean] at h
theorem goodA_of : ∀ {ds : List PyData}, cleanA ds = true → goodA ds = true
  | [], _ => by simp [goodA]
  | d :: ds, h => by
    simp only [cleanA, Bool.and_eq_true] at h
    simp only [goodA, Bool.and_eq_true]
    exact ⟨good_of h.1, goodA_of h.2⟩
end
/-! ### texts of numbers -/
def parseN (l : List Nat) : Int := l.foldl (fun (a : Int) (c : Nat) => 10 * a + ((c : Int) - 48)) 0
def parseI : List Nat → Int
  | 45 :: r => -parseN r
  | r => parseN r
def intB (i : Int) : Bool := parseI (sh (.int i)) == i && (sh (.int i)).all digC && !(sh (.int i)).isEmpty && decide ((sh (.int i)).length ≤ 12)
theorem intB_all : rangeI.all intB = true := by decide +kernel
theorem int_facts {i : Int} (h : okI i = true) : parseI (sh (.int i)) = i ∧ (sh (.int i)).all digC = true ∧ sh (.int i) ≠ [] ∧ (sh (.int i)).length ≤ 12 := by
  have h1 := List.all_eq_true.mp intB_all i (of_decide_eq_true h)
  unfold intB at h1
  simp only [Bool.and_eq_true, beq_iff_eq, decide_eq_true_eq, Bool.not_eq_true', List.isEmpty_eq_false_iff] at h1
  exact ⟨h1.1.1.1, h1.1.1.2, h1.1.2, h1.2⟩
theorem okI_nat {i : Int} (h : -100 ≤ i) (h2 : i ≤ 100) : okI i = true := by
  refine decide_eq_true (List.mem_cons_of_mem _ (List.mem_map.mpr ⟨(i + 100).toNat, List.mem_range.mpr (by omega), ?_⟩))
  omega
/-! ### texts of texts -/
theorem str_app {x y : Str} : (x ++ y).cps.toList = x.cps.toList ++ y.cps.toList := by
  show (Str.append x y).cps.toList = _
  unfold Str.append
  simp
def plB (c : Nat) : Bool := !plC c || (reprChar 39 c == [c])
theorem plB_all : (List.range 123).all plB = true := by decide +kernel
theorem repr_pl {c : Nat} (h : plC c = true) : reprChar 39 c = [c] := by
  have hc : c < 123 := by
    unfold plC digC at h
    simp only [Bool.or_eq_true, Bool.and_eq_true, beq_iff_eq, decide_eq_true_eq] at h
    omega
  have := List.all_eq_true.mp plB_all c (List.mem_range.mpr hc)
  unfold plB at this
  rw [h] at this
  simpa using this
theorem fold_pl : ∀ {l : List Nat} {acc : Array Nat}, l.all plC = true → l.foldl (fun out c => out ++ (reprChar 39 c).toArray) acc = acc ++ l.toArray
  | [], acc, _ => by simp
  | c :: l, acc, h => by
    rw [List.all_cons, Bool.and_eq_true] at h
    rw [List.foldl_cons, repr_pl h.1, fold_pl h.2]
    apply Array.ext'
    simp
theorem sh_str' {x : Str} (h : okS x = true) : sh (.str x) = 39 :: (x.cps.toList ++ [39]) := by
  unfold okS at h
  rw [Bool.and_eq_true] at h
  have hq : reprQuote x = 39 := by
    unfold reprQuote
    have : x.cps.contains 39 = false := by
      rw [← Bool.not_eq_true, Array.contains_iff_mem]
      intro hm
      have := List.all_eq_true.mp h.1 39 (by simpa using hm)
      revert this
      decide
    rw [this]
    rfl
  show (reprText x).cps.toList = _
  unfold reprText
  rw [hq, ← Array.foldl_toList, fold_pl h.1]
  simp
/-! ### tuples -/
def rest2 : List PyData → List Nat
  | [] => [41]
  | d :: ds => [44, 32] ++ (sh d ++ rest2 ds)
def restG : List PyData → List Nat
  | [] => [44, 41]
  | d :: ds => [44, 32] ++ (sh d ++ rest2 ds)
def restF : List PyData → List Nat
  | [] => [41]
  | d :: ds => sh d ++ restG ds
theorem join2 : ∀ {d : PyData} {ds : List PyData}, (Str.join ", " (PyData.shownAll (d :: ds))).cps.toList ++ [41] = sh d ++ rest2 ds
  | d, [] => rfl
  | d, e :: ds => by
    have ih := join2 (d := e) (ds := ds)
    have c2 : ((", " : String) : Str).cps.toList = [44, 32] := by decide +kernel
    show (d.shown ++ ((", " : String) : Str) ++ Str.join ", " (PyData.shownAll (e :: ds))).cps.toList ++ [41] = _
    rw [str_app, str_app, c2, List.append_assoc, ih, rest2]
    simp [sh]
theorem len_shown : ∀ {ds : List PyData}, (PyData.shownAll ds).length = ds.length
  | [] => by simp [PyData.shownAll]
  | d :: ds => by simp [PyData.shownAll, len_shown (ds := ds)]
theorem sh_tup {ds : List PyData} : sh (.tuple ds) = 40 :: restF ds := by
  have c1 : (("(" : String) : Str).cps.toList = [40] := by decide +kernel
  have c2 : ((",)" : String) : Str).cps.toList = [44, 41] := by decide +kernel
  have c3 : ((")" : String) : Str).cps.toList = [41] := by decide +kernel
  show (tupleText (PyData.shownAll ds)).cps.toList = _
  unfold tupleText
  rw [str_app, str_app, c1, len_shown]
  cases ds with
  | nil =>
    rw [if_neg (by simp), c3]
    rfl
  | cons d ds =>
    cases ds with
    | nil =>
      rw [if_pos (by rfl), c2]
      rfl
    | cons e ds =>
      rw [if_neg (by simp), c3]
      have := join2 (d := d) (ds := e :: ds)
      rw [List.append_assoc, this]
      rfl
/-! ### how texts begin -/
def hc : PyData → Nat → Bool
  | .none, c => c == 78
  | .bool _, c => c == 84 || c == 70
  | .int _, c => digC c
  | .str _, c => c == 39
  | .list _, c => c == 91
  | .tuple _, c => c == 40
  | .dict _, c => c == 123
theorem text_from : ∀ {ts : List Str} {k : Nat} {acc : Str}, ∃ r, (textFrom k acc ts).cps.toList = acc.cps.toList ++ r
  | [], _, acc => ⟨[], by simp [textFrom]⟩
  | t :: ts, k, acc => by
    obtain ⟨r, h⟩ := text_from (ts := ts) (k := k + 1) (acc := acc ++ (if k > 0 then ", " else "" : String) ++ t)
    refine ⟨((if k > 0 then ", " else "" : String) : Str).cps.toList ++ t.cps.toList ++ r, ?_⟩
    rw [textFrom, h, str_app, str_app]
    simp
theorem heads {d : PyData} (h : good d = true) : ∃ c r, sh d = c :: r ∧ hc d c = true := by
  cases d with
  | none => exact ⟨78, [111, 110, 101], by decide +kernel, rfl⟩
  | bool b =>
    cases b with
    | false => exact ⟨70, [97, 108, 115, 101], by decide +kernel, rfl⟩
    | true => exact ⟨84, [114, 117, 101], by decide +kernel, rfl⟩
  | int i =>
    have f := int_facts (i := i) (by simpa [good] using h)
    obtain ⟨c, r, e⟩ := List.exists_cons_of_ne_nil f.2.2.1
    refine ⟨c, r, e, ?_⟩
    have := f.2.1
    rw [e, List.all_cons, Bool.and_eq_true] at this
    exact this.1
  | str x => exact ⟨39, _, sh_str' (by simpa [good] using h), rfl⟩
  | list ds =>
    have c1 : (("[" : String) : Str).cps.toList = [91] := by decide +kernel
    obtain ⟨r, e⟩ := text_from (ts := PyData.shownAll ds) (k := 0) (acc := (("[" : String) : Str))
    refine ⟨91, r ++ (("]" : String) : Str).cps.toList, ?_, rfl⟩
    show (listText (PyData.shownAll ds)).cps.toList = _
    unfold listText
    rw [str_app, e, c1]
    rfl
  | tuple ds => exact ⟨40, _, sh_tup, rfl⟩
  | dict kvs =>
    have c1 : (("{" : String) : Str).cps.toList = [123] := by decide +kernel
    refine ⟨123, (Str.join ", " (PyData.shownKv kvs)).cps.toList ++ (("}" : String) : Str).cps.toList, ?_, rfl⟩
    show (dictText (PyData.shownKv kvs)).cps.toList = _
    unfold dictText
    rw [str_app, str_app, c1]
    rfl
/-- what stands behind data -/
def Dl (s : List Nat) : Prop := ∀ c r, s = c :: r → c = 44 ∨ c = 41
theorem split_at {p : Nat → Bool} : ∀ {a b s t : List Nat}, a.all p = true → b.all p = true → (∀ c r, s = c :: r → p c = false) → (∀ c r, t = c :: r → p c = false) → a ++ s = b ++ t → a = b ∧ s = t
  | [], [], s, t, _, _, _, _, e => ⟨rfl, e⟩
  | [], y :: b, s, t, _, hb, hs, _, e => by
    rw [List.all_cons, Bool.and_eq_true] at hb
    have := hs y (b ++ t) e
    rw [hb.1] at this
    cases this
  | x :: a, [], s, t, ha, _, _, ht, e => by
    rw [List.all_cons, Bool.and_eq_true] at ha
    have := ht x (a ++ s) e.symm
    rw [ha.1] at this
    cases this
  | x :: a, y :: b, s, t, ha, hb, hs, ht, e => by
    rw [List.all_cons, Bool.and_eq_true] at ha hb
    simp only [List.cons_append, List.cons.injEq] at e
    obtain ⟨h1, h2⟩ := split_at ha.2 hb.2 hs ht e.2
    exact ⟨by rw [e.1, h1], h2⟩
theorem dl_dig {s : List Nat} (h : Dl s) : ∀ c r, s = c :: r → digC c = false := fun c r e => by
  rcases h c r e with z | z <;> (subst z; decide)
theorem dl_rest2 {ds : List PyData} {s : List Nat} : Dl (rest2 ds ++ s) := fun c r e => by
  cases ds with
  | nil => simp [rest2] at e; exact .inr e.1.symm
  | cons d ds => simp [rest2] at e; exact .inl e.1.symm
theorem dl_restG {ds : List PyData} {s : List Nat} : Dl (restG ds ++ s) := fun c r e => by
  cases ds with
  | nil => simp [restG] at e; exact .inl e.1.symm
  | cons d ds => simp [restG] at e; exact .inl e.1.symm
theorem not41 {d : PyData} {c : Nat} (h : hc d c = true) : c ≠ 41 := by
  intro z
  subst z
  cases d <;> simp [hc, digC] at h
mutual
theorem inj : ∀ {e : PyData}, clean e = true → ∀ {d : PyData} {s t : List Nat}, good d = true → Dl s → Dl t → sh d ++ s = sh e ++ t → d = e ∧ s = t
  | .int j, he, d, s, t, hd, hs, ht, eq => by
    have hj : okI j = true := by simpa [clean] using he
    have fj := int_facts hj
    obtain ⟨c, r, e1, k1⟩ := heads hd
    obtain ⟨c2, r2, e2, k2⟩ := heads (d := .int j) (by simpa [good] using hj)
    have hcc : c = c2 := by rw [e1, e2] at eq; simp only [List.cons_append, List.cons.injEq] at eq; exact eq.1
    subst hcc
    cases d with
    | int i =>
      have fi := int_facts (i := i) (by simpa [good] using hd)
      obtain ⟨h1, h2⟩ := split_at fi.2.1 fj.2.1 (dl_dig hs) (dl_dig ht) eq
      refine ⟨?_, h2⟩
      have := fi.1
      rw [h1, fj.1] at this
      rw [this]
    | none => simp [hc, digC] at k1 k2; omega
    | bool b => simp [hc, digC] at k1 k2; omega
    | str x => simp [hc, digC] at k1 k2; omega
    | list x => simp [hc, digC] at k1 k2; omega
    | tuple x => simp [hc, digC] at k1 k2; omega
    | dict x => simp [hc, digC] at k1 k2; omega
  | .str y, he, d, s, t, hd, hs, ht, eq => by
    have hy : okS y = true := by simpa [clean] using he
    obtain ⟨c, r, e1, k1⟩ := heads hd
    have e2 := sh_str' hy
    have hcc : c = 39 := by rw [e1, e2] at eq; simp only [List.cons_append, List.cons.injEq] at eq; exact eq.1
    subst hcc
    cases d with
    | str x =>
      have hx : okS x = true := by simpa [good] using hd
      rw [sh_str' hx, e2] at eq
      simp only [List.cons_append, List.append_assoc, List.cons.injEq, true_and, List.nil_append] at eq
      have px : x.cps.toList.all plC = true := by unfold okS at hx; rw [Bool.and_eq_true] at hx; exact hx.1
      have py : y.cps.toList.all plC = true := by unfold okS at hy; rw [Bool.and_eq_true] at hy; exact hy.1
      obtain ⟨h1, h2⟩ := split_at px py (fun c r e => by simp only [List.cons.injEq] at e; rw [← e.1]; decide) (fun c r e => by simp only [List.cons.injEq] at e; rw [← e.1]; decide) eq
      simp only [List.cons.injEq, true_and] at h2
      refine ⟨?_, h2⟩
      have h3 : x.cps = y.cps := Array.ext' h1
      cases x
      cases y
      cases h3
      rfl
    | none => simp [hc] at k1
    | bool b => simp [hc] at k1
    | int x => simp [hc, digC] at k1
    | list x => simp [hc] at k1
    | tuple x => simp [hc] at k1
    | dict x => simp [hc] at k1
  | .tuple es, he, d, s, t, hd, hs, ht, eq => by
    obtain ⟨c, r, e1, k1⟩ := heads hd
    have hcc : c = 40 := by rw [e1, sh_tup] at eq; simp only [List.cons_append, List.cons.injEq] at eq; exact eq.1
    subst hcc
    cases d with
    | tuple ds =>
      rw [sh_tup, sh_tup] at eq
      simp only [List.cons_append, List.cons.injEq, true_and] at eq
      obtain ⟨h1, h2⟩ := injF (es := es) (by simpa [clean] using he) (by simpa [good] using hd) eq
      exact ⟨by rw [h1], h2⟩
    | none => simp [hc] at k1
    | bool b => simp [hc] at k1
    | int x => simp [hc, digC] at k1
    | list x => simp [hc] at k1
    | str x => simp [hc] at k1
    | dict x => simp [hc] at k1
  | .none, he, _, _, _, _, _, _, _ => by simp [clean] at he
  | .bool _, he, _, _, _, _, _, _, _ => by simp [clean] at he
  | .list _, he, _, _, _, _, _, _, _ => by simp [clean] at he
  | .dict _, he, _, _, _, _, _, _, _ => by simp [clean] at he
theorem injF : ∀ {es : List PyData}, cleanA es = true → ∀ {ds : List PyData} {s t : List Nat}, goodA ds = true → restF ds ++ s = restF es ++ t → ds = es ∧ s = t
  | [], _, [], s, t, _, eq => by simp only [restF, List.cons_append, List.nil_append, List.cons.injEq, true_and] at eq; exact ⟨rfl, eq⟩
  | [], _, d :: ds, s, t, hd, eq => by
    simp only [goodA, Bool.and_eq_true] at hd
    obtain ⟨c, r, e1, k1⟩ := heads hd.1
    simp only [restF, e1, List.cons_append, List.nil_append, List.cons.injEq] at eq
    exact absurd eq.1 (not41 k1)
  | e :: es, he, [], s, t, _, eq => by
    simp only [cleanA, Bool.and_eq_true] at he
    obtain ⟨c, r, e1, k1⟩ := heads (good_of he.1)
    simp only [restF, e1, List.cons_append, List.nil_append, List.cons.injEq] at eq
    exact absurd eq.1.symm (not41 k1)
  | e :: es, he, d :: ds, s, t, hd, eq => by
    simp only [cleanA, Bool.and_eq_true] at he
    simp only [goodA, Bool.and_eq_true] at hd
    simp only [restF, List.append_assoc] at eq
    obtain ⟨h1, h2⟩ := inj he.1 hd.1 dl_restG dl_restG eq
    obtain ⟨h3, h4⟩ := injG he.2 hd.2 h2
    exact ⟨by rw [h1, h3], h4⟩
theorem injG : ∀ {es : List PyData}, cleanA es = true → ∀ {ds : List PyData} {s t : List Nat}, goodA ds = true → restG ds ++ s = restG es ++ t → ds = es ∧ s = t
  | [], _, [], s, t, _, eq => by simp only [restG, List.cons_append, List.nil_append, List.cons.injEq, true_and] at eq; exact ⟨rfl, eq⟩
  | [], _, d :: ds, s, t, hd, eq => by simp [restG] at eq
  | e :: es, he, [], s, t, _, eq => by simp [restG] at eq
  | e :: es, he, d :: ds, s, t, hd, eq => by
    simp only [cleanA, Bool.and_eq_true] at he
    simp only [goodA, Bool.and_eq_true] at hd
    simp only [restG, List.append_assoc, List.cons_append, List.nil_append, List.cons.injEq, true_and] at eq
    obtain ⟨h1, h2⟩ := inj he.1 hd.1 dl_rest2 dl_rest2 eq
    obtain ⟨h3, h4⟩ := injR he.2 hd.2 h2
    exact ⟨by rw [h1, h3], h4⟩
theorem injR : ∀ {es : List PyData}, cleanA es = true → ∀ {ds : List PyData} {s t : List Nat}, goodA ds = true → rest2 ds ++ s = rest2 es ++ t → ds = es ∧ s = t
  | [], _, [], s, t, _, eq => by simp only [rest2, List.cons_append, List.nil_append, List.cons.injEq, true_and] at eq; exact ⟨rfl, eq⟩
  | [], _, d :: ds, s, t, hd, eq => by simp [rest2] at eq
  | e :: es, he, [], s, t, _, eq => by simp [rest2] at eq
  | e :: es, he, d :: ds, s, t, hd, eq => by
    simp only [cleanA, Bool.and_eq_true] at he
    simp only [goodA, Bool.and_eq_true] at hd
    simp only [rest2, List.append_assoc, List.cons_append, List.nil_append, List.cons.injEq, true_and] at eq
    obtain ⟨h1, h2⟩ := inj he.1 hd.1 dl_rest2 dl_rest2 eq
    obtain ⟨h3, h4⟩ := injR he.2 hd.2 h2
    exact ⟨by rw [h1, h3], h4⟩
end
theorem shown_inj {d e : PyData} (he : clean e = true) (hd : good d = true) (h : d.shown = e.shown) : d = e := by
  have nil : Dl [] := fun c r e => by cases e
  refine (inj he hd nil nil ?_).1
  unfold sh
  rw [h]
end DL
set_option Elab.async false
set_option linter.all false
set_option maxRecDepth 100000
set_option maxHeartbeats 1000000
/-! P16: odd values, bent values. -/
namespace DL
open PySem PySem.Spec L2
open PyProof.Rows hiding St
mutual
def W : PyData → Nat
  | .none => 5
  | .bool _ => 5
  | .int _ => 12
  | .str _ => 22
  | .list ds => 3 + WA ds
  | .tuple ds => 3 + WA ds
  | .dict _ => 60
def WA : List PyData → Nat
  | [] => 0
  | d :: ds => W d + 2 + WA ds
end
theorem WA_app : ∀ {a b : List PyData}, WA (a ++ b) = WA a + WA b
  | [], b => by simp [WA]
  | d :: a, b => by rw [List.cons_append, WA, WA, WA_app]; omega
theorem WA_sub {a b : List PyData} (h : a.Sublist b) : WA a ≤ WA b := by
  induction h with
  | slnil => simp [WA]
  | cons x h ih => rw [WA]; omega
  | cons_cons x h ih => rw [WA, WA]; omega
theorem WA_rev : ∀ {a : List PyData}, WA a.reverse = WA a
  | [] => rfl
  | d :: a => by rw [List.reverse_cons, WA_app, WA_rev, WA, WA, WA]; omega
theorem WA_len : ∀ {a : List PyData}, 2 * a.length ≤ WA a
  | [] => by simp [WA]
  | d :: a => by have := WA_len (a := a); rw [WA, List.length_cons]; omega
theorem WA_mem {d : PyData} {a : List PyData} (h : d ∈ a) : W d + 2 ≤ WA a := by
  have := WA_sub (List.singleton_sublist.mpr h)
  simpa [WA] using this
theorem text_len : ∀ {ts : List Str} {k : Nat} {acc : Str}, (textFrom k acc ts).cps.toList.length ≤ acc.cps.toList.length + (ts.map fun t => t.cps.toList.length + 2).sum
  | [], _, acc => by simp [textFrom]
  | t :: ts, k, acc => by
    have ih := text_len (ts := ts) (k := k + 1) (acc := acc ++ (if k > 0 then ", " else "" : String) ++ t)
    rw [textFrom]
    refine Nat.le_trans ih ?_
    rw [str_app, str_app, List.length_append, List.length_append, List.map_cons, List.sum_cons]
    have : ((if k > 0 then ", " else "" : String) : Str).cps.toList.length ≤ 2 := by
      split
      · exact (by decide +kernel : ((", " : String) : Str).cps.toList.length ≤ 2)
      · exact (by decide +kernel : (("" : String) : Str).cps.toList.length ≤ 2)
    omega
theorem LA_eq : ∀ {ds : List PyData}, ((PyData.shownAll ds).map fun t => t.cps.toList.length + 2).sum = (ds.map fun d => (sh d).length + 2).sum
  | [] => rfl
  | d :: ds => by
    rw [PyData.shownAll, List.map_cons, List.sum_cons, List.map_cons, List.sum_cons, LA_eq]
    rfl
theorem rest2_len : ∀ {ds : List PyData}, (rest2 ds).length = 1 + (ds.map fun d => (sh d).length + 2).sum
  | [] => rfl
  | d :: ds => by
    rw [rest2, List.length_append, List.length_append, rest2_len, List.map_cons, List.sum_cons]
    simp
    omega
theorem restF_len {ds : List PyData} : (restF ds).length ≤ 2 + (ds.map fun d => (sh d).length + 2).sum := by
  cases ds with
  | nil => simp [restF]
  | cons d ds =>
    cases ds with
    | nil => simp [restF, restG]
    | cons e ds => simp [restF, restG, rest2_len]; omega
mutual
theorem L_le : ∀ {d : PyData}, good d = true → (sh d).length ≤ W d
  | .none, _ => by decide +kernel
  | .bool true, _ => by decide +kernel
  | .bool false, _ => by decide +kernel
  | .int i, h => by
    have := int_facts (i := i) (by simpa [good] using h)
    rw [W]
    exact this.2.2.2
  | .str x, h => by
    have hx : okS x = true := by simpa [good] using h
    rw [sh_str' hx, W]
    unfold okS at hx
    rw [Bool.and_eq_true, decide_eq_true_eq] at hx
    simp
    have := hx.2
    simp at this
    omega
  | .list ds, h => by
    simp only [good] at h
    have hl := LA_le h
    have c1 : (("[" : String) : Str).cps.toList.length = 1 := by decide +kernel
    have c2 : (("]" : String) : Str).cps.toList.length = 1 := by decide +kernel
    show (listText (PyData.shownAll ds)).cps.toList.length ≤ _
    unfold listText
    rw [str_app, List.length_append, c2, W]
    have := text_len (ts := PyData.shownAll ds) (k := 0) (acc := (("[" : String) : Str))
    rw [c1, LA_eq] at this
    omega
  | .tuple ds, h => by
    simp only [good] at h
    have hl := LA_le h
    have := restF_len (ds := ds)
    rw [sh_tup, List.length_cons, W]
    omega
  | .dict [], _ => by decide +kernel
  | .dict [(.str x, .int i)], h => by
    simp only [good, Bool.and_eq_true] at h
    have h1 := int_facts h.2
    have h2 := sh_str' h.1
    have hx := h.1
    unfold okS at hx
    rw [Bool.and_eq_true, decide_eq_true_eq] at hx
    have c1 : (("{" : String) : Str).cps.toList.length = 1 := by decide +kernel
    have c2 : (("}" : String) : Str).cps.toList.length = 1 := by decide +kernel
    have c3 : ((": " : String) : Str).cps.toList.length = 2 := by decide +kernel
    show (((("{" : String) : Str) ++ (((PyData.str x).shown ++ ((": " : String) : Str)) ++ (PyData.int i).shown)) ++ (("}" : String) : Str)).cps.toList.length ≤ _
    rw [str_app, str_app, str_app, str_app, List.length_append, List.length_append, List.length_append, List.length_append, c1, c2, c3, W]
    have a1 : (PyData.str x).shown.cps.toList = 39 :: (x.cps.toList ++ [39]) := h2
    have a2 : (PyData.int i).shown.cps.toList.length ≤ 12 := h1.2.2.2
    rw [a1]
    have a3 := hx.2
    simp at a3 ⊢
    simp at a2
    omega
  | .dict ((.none, _) :: _), h => by simp [good] at h
  | .dict ((.bool _, _) :: _), h => by simp [good] at h
  | .dict ((.int _, _) :: _), h => by simp [good] at h
  | .dict ((.list _, _) :: _), h => by simp [good] at h
  | .dict ((.tuple _, _) :: _), h => by simp [good] at h
  | .dict ((.dict _, _) :: _), h => by simp [good] at h
  | .dict ((.str _, .none) :: _), h => by simp [good] at h
  | .dict ((.str _, .bool _) :: _), h => by simp [good] at h
  | .dict ((.str _, .str _) :: _), h => by simp [good] at h
  | .dict ((.str _, .list _) :: _), h => by simp [good] at h
  | .dict ((.str _, .tuple _) :: _), h => by simp [good] at h
  | .dict ((.str _, .dict _) :: _), h => by simp [good] at h
  | .dict ((.str _, .int _) :: _ :: _), h => by simp [good] at h
theorem LA_le : ∀ {ds : List PyData}, goodA ds = true → (ds.map fun d => (sh d).length + 2).sum ≤ WA ds
  | [], _ => by simp [WA]
  | d :: ds, h => by
    simp only [goodA, Bool.and_eq_true] at h
    have h1 := L_le h.1
    have h2 := LA_le h.2
    rw [List.map_cons, List.sum_cons, WA]
    omega
end
/-! ### more of good data -/
theorem good_exc {d : PyData} (h : good d = true) : isExc d = false := by
  unfold isExc
  split
  · simp [good] at h
  · rfl
theorem big_int {i : Int} (h : okI i = true) : i.natAbs.log2 < 1920 := by
  have : rangeI.all (fun i => decide (i.natAbs.log2 < 1920)) = true := by decide +kernel
  exact of_decide_eq_true (List.all_eq_true.mp this i (of_decide_eq_true h))
mutual
theorem good_show : ∀ {d : PyData}, good d = true → d.showable = true
  | .none, _ => by simp [PyData.showable]
  | .bool _, _ => by simp [PyData.showable]
  | .int i, h => by simp only [PyData.showable]; exact decide_eq_true (big_int (by simpa [good] using h))
  | .str x, _ => by simp [PyData.showable]
  | .list ds, h => by simp only [good] at h; simp only [PyData.showable]; exact good_showA h
  | .tuple ds, h => by simp only [good] at h; simp only [PyData.showable]; exact good_showA h
  | .dict [], _ => by simp [PyData.showable, PyData.showableKv]
  | .dict [(.str x, .int i)], h => by
    simp only [good, Bool.and_eq_true] at h
    have := big_int h.2
    simp [PyData.showable, PyData.showableKv, this]
  | .dict ((.none, _) :: _), h => by simp [good] at h
  | .dict ((.bool _, _) :: _), h => by simp [good] at h
  | .dict ((.int _, _) :: _), h => by simp [good] at h
  | .dict ((.list _, _) :: _), h => by simp [good] at h
  | .dict ((.tuple _, _) :: _), h => by simp [good] at h
  | .dict ((.dict _, _) :: _), h => by simp [good] at h
  | .dict ((.str _, .none) :: _), h => by simp [good] at h
  | .dict ((.str _, .bool _) :: _), h => by simp [good] at h
  | .dict ((.str _, .str _) :: _), h => by simp [good] at h
  | .dict ((.str _, .list _) :: _), h => by simp [good] at h
  | .dict ((.str _, .tuple _) :: _), h => by simp [good] at h
  | .dict ((.str _, .dict _) :: _), h => by simp [good] at h
  | .dict ((.str _, .int _) :: _ :: _), h => by simp [good] at h
theorem good_showA : ∀ {ds : List PyData}, goodA ds = true → PyData.showableAll ds = true
  | [], _ => by simp [PyData.showableAll]
  | d :: ds, h => by
    simp only [goodA, Bool.and_eq_true] at h
    simp only [PyData.showableAll, Bool.and_eq_true]
    exact ⟨good_show h.1, good_showA h.2⟩
end
/-- a value that may be handed in -/
structure Bt (w n : Nat) (d : PyData) : Prop where
  gd : good d = true
  wt : W d ≤ w
  dp : d.depth ≤ n
  nd : (!d.hasDict || noLst d) = true
theorem Bt.up {w n w' n' : Nat} {d : PyData} (h : Bt w n d) (hw : w ≤ w') (hn : n ≤ n') : Bt w' n' d := ⟨h.gd, Nat.le_trans h.wt hw, Nat.le_trans h.dp hn, h.nd⟩
theorem Bt.repr {w n : Nat} {d : PyData} (h : Bt w n d) (hw : w ≤ 10000) (hn : n ≤ 60) : reprD d = some (.str d.shown) := by
  have h1 := L_le h.gd
  have h2 := h.wt
  have h3 : d.shown.length ≤ 16777216 := by
    show d.shown.cps.size ≤ _
    rw [← Array.length_toList]
    have : (sh d).length = d.shown.cps.toList.length := rfl
    omega
  unfold reprD
  rw [good_show h.gd, h.nd, decide_eq_true (Nat.le_trans h.dp hn)]
  unfold few
  rw [decide_eq_true h3]
  rfl
theorem Bt.noEx {w n : Nat} {d : PyData} (h : Bt w n d) (hw : w ≤ 2000) : NoEx d := ⟨good_exc h.gd, fun ds e => by
  subst e
  have h1 := h.gd
  simp only [good] at h1
  have h2 := h.wt
  rw [W] at h2
  have h3 := WA_len (a := ds)
  exact ⟨fun e he => good_exc (goodA_iff.mp h1 e he), by omega⟩⟩
/-! ### low data -/
mutual
def low : PyData → Bool
  | .int i => decide (-50 ≤ i) && decide (i ≤ 50)
  | .str x => okS x
  | .tuple ds => lowA ds
  | _ => false
def lowA : List PyData → Bool
  | [] => true
  | d :: ds => low d && lowA ds
end
theorem lowA_iff {ds : List PyData} : lowA ds = true ↔ ∀ d ∈ ds, low d = true := by
  induction ds with
  | nil => simp [lowA]
  | cons d ds ih => simp [lowA, ih]
mutual
theorem low_clean : ∀ {d : PyData}, low d = true → clean d = true
  | .int i, h => by
    simp only [low, Bool.and_eq_true, decide_eq_true_eq] at h
    simp only [clean]
    exact okI_nat (by omega) (by omega)
  | .str x, h => by simpa [clean, low] using h
  | .tuple ds, h => by simp only [low] at h; simp only [clean]; exact lowA_clean h
  | .none, h => by simp [low] at h
  | .bool _, h => by simp [low] at h
  | .list _, h => by simp [low] at h
  | .dict _, h => by simp [low] at h
theorem lowA_clean : ∀ {ds : List PyData}, lowA ds = true → cleanA ds = true
  | [], _ => by simp [cleanA]
  | d :: ds, h => by
    simp only [lowA, Bool.and_eq_true] at h
    simp only [cleanA, Bool.and_eq_true]
    exact ⟨low_clean h.1, lowA_clean h.2⟩
end
mutual
theorem clean_plain : ∀ {d : PyData}, clean d = true → d.hasDict = false ∧ noLst d = true ∧ d.canLay0 = true
  | .int i, _ => by simp [PyData.hasDict, noLst, PyData.canLay0]
  | .str x, h => by
    have hx : okS x = true := by simpa [clean] using h
    refine ⟨by simp [PyData.hasDict], by simp [noLst], ?_⟩
    unfold okS at hx
    rw [Bool.and_eq_true] at hx
    show PyData.strOk x = true
    unfold PyData.strOk
    rw [← Array.all_toList, List.all_eq_true]
    intro c hc
    have := List.all_eq_true.mp hx.1 c hc
    unfold plC digC at this
    simp only [Bool.or_eq_true, Bool.and_eq_true, beq_iff_eq, decide_eq_true_eq] at this
    exact decide_eq_true (by omega)
  | .tuple ds, h => by
    simp only [clean] at h
    have := cleanA_plain h
    exact ⟨by simp [PyData.hasDict, this.1], by simp [noLst, this.2.1], by simp [PyData.canLay0, this.2.2]⟩
  | .none, h => by simp [clean] at h
  | .bool _, h => by simp [clean] at h
  | .list _, h => by simp [clean] at h
  | .dict _, h => by simp [clean] at h
theorem cleanA_plain : ∀ {ds : List PyData}, cleanA ds = true → PyData.hasDictAll ds = false ∧ noLstA ds = true ∧ PyData.canLayAll0 ds = true
  | [], _ => by simp [PyData.hasDictAll, noLstA, PyData.canLayAll0]
  | d :: ds, h => by
    simp only [cleanA, Bool.and_eq_true] at h
    have h1 := clean_plain h.1
    have h2 := cleanA_plain h.2
    exact ⟨by simp [PyData.hasDictAll, h1.1, h2.1], by simp [noLstA, h1.2.1, h2.2.1], by simp [PyData.canLayAll0, h1.2.2, h2.2.2]⟩
end
theorem clean_bt {d : PyData} (h : clean d = true) : Bt (W d) d.depth d := ⟨good_of h, Nat.le_refl _, Nat.le_refl _, by rw [(clean_plain h).1]; rfl⟩
theorem low_bt {d : PyData} (h : low d = true) : Bt (W d) d.depth d := clean_bt (low_clean h)
end DL
set_option Elab.async false
set_option linter.all false
set_option maxRecDepth 100000
set_option maxHeartbeats 1000000
/-! P17: bent values. -/
namespace DL
open PySem PySem.Spec L2
open PyProof.Rows hiding St
def odds : List PyData := [.none, .bool true, .bool false, .int 0, .int 1, .int (-1), .int 7, .int 100000000000, .str "", .str "a", .str "world", .str "paper", .tuple [], .tuple [.int 0], .tuple [.none], .list [], .list [.int 0], .dict [], .dict [(.str "a", .int 1)], .tuple [.tuple [.int 0, .int 0]]]
def btB (d : PyData) : Bool := good d && decide (W d ≤ 60) && decide (d.depth ≤ 2) && (!d.hasDict || noLst d)
theorem odds_all : odds.all btB = true := by decide +kernel
theorem odds_bt {d : PyData} (h : d ∈ odds) : Bt 60 2 d := by
  have := List.all_eq_true.mp odds_all d h
  unfold btB at this
  rw [Bool.and_eq_true, Bool.and_eq_true, Bool.and_eq_true, decide_eq_true_eq, decide_eq_true_eq] at this
  exact ⟨this.1.1.1, this.1.1.2, this.1.2, this.2⟩
theorem pow11 : powD (.int 10) (.int 11) = some (.int 100000000000) := pow_ok (by decide +kernel)
theorem pow30 : powD (.int 10) (.int 30) = some (.int (10 ^ 30)) := pow_ok (by decide +kernel)
theorem lawodd {n : Nat} {xs : List PyData} (hn : n ≤ 1000000) (G : Good n xs) : ∃ d ys, F__law_odd xs [] = some (d, ys) ∧ Bt 60 2 d ∧ Good (n + 1) ys := by
  obtain ⟨d, ys, e, hd, G2⟩ := of_ok hn G (ds := odds) (by simp [odds]) (by decide)
  refine ⟨d, ys, ?_, odds_bt hd, G2⟩
  refine runI_eq (ρ := [.own ys, .dat (.list odds)]) rfl ?_ rfl
  unfold S__law_odd
  have e0 : (dTup aNil) [.own xs, .emp] = some (.tuple [], [.own xs, .emp]) := dTup_ok rfl (by simp)
  have e1 : (dTup (aCons (dC (.int 0)) aNil)) [.own xs, .emp] = some (.tuple [.int 0], [.own xs, .emp]) := dTup_ok rfl (by simp)
  have e2 : (dTup (aCons (dC .none) aNil)) [.own xs, .emp] = some (.tuple [.none], [.own xs, .emp]) := dTup_ok rfl (by simp)
  have e3 : (dTup (aCons (dC (.int 0)) (aCons (dC (.int 0)) aNil))) [.own xs, .emp] = some (.tuple [.int 0, .int 0], [.own xs, .emp]) := dTup_ok rfl (by simp)
  have e4 : (dTup (aCons (dTup (aCons (dC (.int 0)) (aCons (dC (.int 0)) aNil))) aNil)) [.own xs, .emp] = some (.tuple [.tuple [.int 0, .int 0]], [.own xs, .emp]) := dTup_ok (aConsS e3 rfl) (by simp)
  have e5 : (dFrz (lLst aNil)) [.own xs, .emp] = some (.list [], [.own xs, .emp]) := dFrz_ok (lLst_ok rfl (by simp))
  have e6 : (dFrz (lLst (aCons (dC (.int 0)) aNil))) [.own xs, .emp] = some (.list [.int 0], [.own xs, .emp]) := dFrz_ok (lLst_ok rfl (by simp))
  refine (sSeq_nx (ρ1 := [.own xs, .dat (.list odds)]) (sSet_ok (ρ1 := [.own xs, .emp]) (d := .list odds) (dFrz_ok (lLst_ok ?_ (by decide))))).trans ?_
  · exact aConsS rfl (aConsS rfl (aConsS rfl (aConsS rfl (aConsS rfl (aConsS (dUnS rfl rfl) (aConsS rfl (aConsS (dOpS rfl rfl pow11) (aConsS rfl (aConsS rfl (aConsS rfl (aConsS rfl (aConsS e0 (aConsS e1 (aConsS e2 (aConsS e5 (aConsS e6 (aConsS rfl (aConsS rfl (aConsS e4 rfl)))))))))))))))))))
  · exact sRet_ok (dCallI_ok (ρ := [.own xs, .dat (.list odds)]) rfl rfl e)
theorem dp_all {n : Nat} {ds : List PyData} (h : ∀ d ∈ ds, d.depth ≤ n) : PyData.depthAll ds ≤ n := by
  induction ds with
  | nil => simp [PyData.depthAll]
  | cons d ds ih =>
    simp only [PyData.depthAll]
    exact Nat.max_le.mpr ⟨h d List.mem_cons_self, ih fun e he => h e (List.mem_cons_of_mem _ he)⟩
theorem dp_mem {d : PyData} {ds : List PyData} (h : d ∈ ds) : d.depth ≤ PyData.depthAll ds := by
  induction ds with
  | nil => cases h
  | cons e ds ih =>
    simp only [PyData.depthAll]
    rcases List.mem_cons.mp h with z | z
    · subst z; exact Nat.le_max_left _ _
    · exact Nat.le_trans (ih z) (Nat.le_max_right _ _)
theorem bt_t {w n : Nat} {es : List PyData} (hc : cleanA es = true) (hw : 3 + WA es ≤ w) (hd : ∀ e ∈ es, e.depth + 1 ≤ n) (hn : 1 ≤ n) : Bt w n (.tuple es) := by
  have p := cleanA_plain hc
  refine ⟨by simp only [good]; exact goodA_of hc, by rw [W]; exact hw, ?_, by simp [PyData.hasDict, p.1]⟩
  simp only [PyData.depth]
  have := dp_all (n := n - 1) (ds := es) fun e he => by have := hd e he; omega
  omega
theorem bt_l {w n : Nat} {es : List PyData} (hc : cleanA es = true) (hw : 3 + WA es ≤ w) (hd : ∀ e ∈ es, e.depth + 1 ≤ n) (hn : 1 ≤ n) : Bt w n (.list es) := by
  have p := cleanA_plain hc
  refine ⟨by simp only [good]; exact goodA_of hc, by rw [W]; exact hw, ?_, by simp [PyData.hasDict, p.1]⟩
  simp only [PyData.depth]
  have := dp_all (n := n - 1) (ds := es) fun e he => by have := hd e he; omega
  omega
theorem cut_sub {α : Type} {xs : List α} {lo hi : Option Int} : (cutD xs lo hi).Sublist xs := by
  unfold cutD
  exact (List.take_sublist _ _).trans (List.drop_sublist _ _)
theorem cleanA_sub {a b : List PyData} (h : a.Sublist b) (hb : cleanA b = true) : cleanA a = true := cleanA_iff.mpr fun d hd => cleanA_iff.mp hb d (h.subset hd)
theorem cleanA_app {a b : List PyData} (ha : cleanA a = true) (hb : cleanA b = true) : cleanA (a ++ b) = true := cleanA_iff.mpr fun d hd => by
  rcases List.mem_append.mp hd with z | z
  · exact cleanA_iff.mp ha d z
  · exact cleanA_iff.mp hb d z
theorem of_mem {P : PyData → Prop} {n : Nat} {xs ds : List PyData} (hn : n ≤ 1000000) (G : Good n xs) (h0 : ds ≠ []) (hl : ds.length < 1073741824) (h : ∀ d ∈ ds, P d) : ∃ d ys, F__law_of xs [.list ds] = some (d, ys) ∧ P d ∧ Good (n + 1) ys := by
  obtain ⟨d, ys, e, hd, G2⟩ := of_ok hn G h0 hl
  exact ⟨d, ys, e, h d hd, G2⟩
/-- what stands behind the first if -/
def bentT : DS := (sSeq (sIf (bVal (dUn (isiD "tuple") (dVar 1))) (sSeq (sSet 3 (dFrz (lUn itemsD (dVar 1))))
    (sRet (dCallI F__law_of 0 (aCons (dFrz (lLst (aCons (dVar 3) (aCons (dSl (dVar 1) oNo (oI (dUn negD (dC (.int 1))))) (aCons (dOp addD (dVar 1) (dSl (dVar 1) oNo (oI (dC (.int 1))))) (aCons (dOp addD (dVar 1) (dTup (aCons (dC (.int 0)) aNil))) (aCons (dUn revD (dVar 1)) (aCons (dTup (aCons (dVar 1) aNil)) (aCons (dSl (dVar 3) oNo (oI (dC (.int 1)))) (aCons (dCallI F__law_odd 0 aNil) aNil)))))))))) aNil)))) sNext)
    (sSeq (sIf (bVal (dCall F__law_is_int (aCons (dVar 1) (aCons (dUn negD (dOp powD (dC (.int 10)) (dC (.int 30)))) (aCons (dOp powD (dC (.int 10)) (dC (.int 30))) aNil))))) (sRet (dCallI F__law_of 0 (aCons (dFrz (lLst (aCons (dOp addD (dVar 1) (dC (.int 1))) (aCons (dOp subD (dVar 1) (dC (.int 1))) (aCons (dUn negD (dVar 1)) (aCons (dUn strD (dVar 1)) (aCons (dOp eqD (dVar 1) (dC (.int 1))) (aCons (dCallI F__law_odd 0 aNil) aNil)))))))) aNil))) sNext)
    (sRet (dCallI F__law_odd 0 aNil))))
end DL
set_option Elab.async false
set_option linter.all false
set_option maxRecDepth 100000
set_option maxHeartbeats 1000000
/-! P18: bent values. -/
namespace DL
open PySem PySem.Spec L2
open PyProof.Rows hiding St
theorem dCallI_ok2 {f : List PyData → List PyData → Option (PyData × List PyData)} {i : Nat} {A : DFL} {ρ ρ1 : En} {xs0 xs ds ys : List PyData} {z : PyData} (h0 : ownE ρ i = some xs0) (h : A ρ = some (ds, ρ1)) (h1 : ownE ρ1 i = some xs) (hf : f xs ds = some (z, ys)) : dCallI f i A ρ = some (z, ρ1.set i (.own ys)) := by
  unfold dCallI
  rw [h0, Option.bind_some, h, Option.bind_some]
  show (ownE ρ1 i).bind _ = _
  rw [h1, Option.bind_some, hf]
  rfl
theorem betw_int {a b i : Int} : betw a b (.int i) = (decide (a ≤ i) && decide (i ≤ b)) := rfl
theorem lUn_ok {f : PyData → Option (List PyData)} {F : DF} {ρ ρ1 : En} {d : PyData} {z : List PyData} (h : F ρ = some (d, ρ1)) (hf : f d = some z) : lUn f F ρ = some (z, ρ1) := by
  unfold lUn
  rw [h, Option.bind_some, hf]
  rfl
theorem dSl_ok {F : DF} {L U : DO} {ρ ρ1 ρ2 ρ3 : En} {d z : PyData} {l u : Option Int} (h : F ρ = some (d, ρ1)) (hl : L ρ1 = some (l, ρ2)) (hu : U ρ2 = some (u, ρ3)) (hs : slD d l u = some z) : dSl F L U ρ = some (z, ρ3) := by
  unfold dSl
  rw [h, Option.bind_some, hl, Option.bind_some, hu, Option.bind_some, hs]
  rfl
theorem oI_ok {F : DF} {ρ ρ1 : En} {i : Int} (h : F ρ = some (.int i, ρ1)) : oI F ρ = some (some i, ρ1) := by
  unfold oI
  rw [h]
  rfl
theorem add_t {a b : List PyData} (h : a.length + b.length ≤ 1000000) : addD (.tuple a) (.tuple b) = some (.tuple (a ++ b)) := if_pos (decide_eq_true (by omega))
/-- a tuple that is bent as a whole -/
theorem bent_t {n : Nat} {xs ds : List PyData} (hl : lowA ds = true) (hw : WA ds ≤ 1000) (hn : n + 3 ≤ 1000000) (G : Good n xs) :
    ∃ e ys ρ, bentT [.own xs, .dat (.tuple ds), .emp, .emp] = some (.rt e ρ) ∧ ownE ρ 0 = some ys ∧ Bt (2 * (3 + WA ds) + 200) (PyData.depthAll ds + 3) e ∧ Good (n + 3) ys := by
  obtain ⟨o, y1, e1, bo, G1⟩ := lawodd (by omega) G
  have hc := lowA_clean hl
  have len := WA_len (a := ds)
  have dep : ∀ e ∈ ds, e.depth + 1 ≤ PyData.depthAll ds + 3 := fun e he => by have := dp_mem he; omega
  have P : ∀ e ∈ [.list ds, .tuple (cutD ds none (some (-1))), .tuple (ds ++ cutD ds none (some 1)), .tuple (ds ++ [.int 0]), .tuple ds.reverse, .tuple [.tuple ds], .list (cutD ds none (some 1)), o], Bt (2 * (3 + WA ds) + 200) (PyData.depthAll ds + 3) e := by
    intro e he
    simp only [List.mem_cons, List.not_mem_nil, or_false] at he
    rcases he with rfl | rfl | rfl | rfl | rfl | rfl | rfl | rfl
    · exact bt_l hc (by omega) dep (by omega)
    · have s := cut_sub (xs := ds) (lo := none) (hi := some (-1))
      have := WA_sub s
      exact bt_t (cleanA_sub s hc) (by omega) (fun e he => dep e (s.subset he)) (by omega)
    · have s := cut_sub (xs := ds) (lo := none) (hi := some 1)
      have := WA_sub s
      refine bt_t (cleanA_app hc (cleanA_sub s hc)) (by rw [WA_app]; omega) (fun e he => ?_) (by omega)
      rcases List.mem_append.mp he with z | z
      · exact dep e z
      · exact dep e (s.subset z)
    · refine bt_t (cleanA_app hc (cleanA_iff.mpr fun d hd => ?_)) (by rw [WA_app, WA, WA, W]; omega) (fun e he => ?_) (by omega)
      · rw [List.mem_singleton] at hd; subst hd; simp only [clean]; exact okI_nat (by decide) (by decide)
      · rcases List.mem_append.mp he with z | z
        · exact dep e z
        · rw [List.mem_singleton] at z; subst z; simp [PyData.depth]
    · exact bt_t (cleanA_iff.mpr fun d hd => cleanA_iff.mp hc d (List.mem_reverse.mp hd)) (by rw [WA_rev]; omega) (fun e he => dep e (List.mem_reverse.mp he)) (by omega)
    · refine bt_t (cleanA_iff.mpr fun d hd => ?_) (by rw [WA, WA, W]; omega) (fun e he => ?_) (by omega)
      · rw [List.mem_singleton] at hd; subst hd; simp only [clean]; exact hc
      · rw [List.mem_singleton] at he; subst he; simp only [PyData.depth]; omega
    · have s := cut_sub (xs := ds) (lo := none) (hi := some 1)
      have := WA_sub s
      exact bt_l (cleanA_sub s hc) (by omega) (fun e he => dep e (s.subset he)) (by omega)
    · exact bo.up (by omega) (by omega)
  obtain ⟨e, ys, e2, be, G2⟩ := of_mem (by omega) G1 (by simp) (by simp) P
  refine ⟨e, ys, [.own ys, .dat (.tuple ds), .emp, .dat (.list ds)], ?_, rfl, be, G2.mono (by omega)⟩
  unfold bentT
  have t1 : bVal (dUn (isiD "tuple") (dVar 1)) [.own xs, .dat (.tuple ds), .emp, .emp] = some (true, [.own xs, .dat (.tuple ds), .emp, .emp]) := bVal_ok (dUnS rfl isi_t)
  refine sSeq_rt ((sIf_t t1).trans ((sSeq_nx (sSet_ok (dFrz_ok (lUn_ok (ρ1 := [.own xs, .dat (.tuple ds), .emp, .emp]) (z := ds) rfl rfl)))).trans ?_))
  show sRet _ [.own xs, .dat (.tuple ds), .emp, .dat (.list ds)] = _
  have s1 : dSl (dVar 1) oNo (oI (dUn negD (dC (.int 1)))) [.own xs, .dat (.tuple ds), .emp, .dat (.list ds)] = some (.tuple (cutD ds none (some (-1))), [.own xs, .dat (.tuple ds), .emp, .dat (.list ds)]) := dSlS (d := .tuple ds) rfl rfl (oI_ok (dUnS rfl rfl)) rfl
  have s2 : dSl (dVar 1) oNo (oI (dC (.int 1))) [.own xs, .dat (.tuple ds), .emp, .dat (.list ds)] = some (.tuple (cutD ds none (some 1)), [.own xs, .dat (.tuple ds), .emp, .dat (.list ds)]) := dSlS (d := .tuple ds) rfl rfl (oI_ok rfl) rfl
  have s3 : dSl (dVar 3) oNo (oI (dC (.int 1))) [.own xs, .dat (.tuple ds), .emp, .dat (.list ds)] = some (.list (cutD ds none (some 1)), [.own xs, .dat (.tuple ds), .emp, .dat (.list ds)]) := dSlS (d := .list ds) rfl rfl (oI_ok rfl) rfl
  have len2 := (cut_sub (xs := ds) (lo := none) (hi := some 1)).length_le
  have a1 := dOpS (f := addD) (F := dVar 1) (ρ := [.own xs, .dat (.tuple ds), .emp, .dat (.list ds)]) rfl s2 (add_t (a := ds) (by omega))
  have a2 := dOpS (f := addD) (F := dVar 1) (G := dTup (aCons (dC (.int 0)) aNil)) (ρ := [.own xs, .dat (.tuple ds), .emp, .dat (.list ds)]) rfl (dTup_ok rfl (by simp)) (add_t (a := ds) (b := [.int 0]) (by simp; omega))
  have a3 : dUn revD (dVar 1) [.own xs, .dat (.tuple ds), .emp, .dat (.list ds)] = some (.tuple ds.reverse, [.own xs, .dat (.tuple ds), .emp, .dat (.list ds)]) := dUnS rfl rfl
  have a4 : dTup (aCons (dVar 1) aNil) [.own xs, .dat (.tuple ds), .emp, .dat (.list ds)] = some (.tuple [.tuple ds], [.own xs, .dat (.tuple ds), .emp, .dat (.list ds)]) := dTup_ok rfl (by simp)
  have a5 : dCallI F__law_odd 0 aNil [.own xs, .dat (.tuple ds), .emp, .dat (.list ds)] = some (o, [.own y1, .dat (.tuple ds), .emp, .dat (.list ds)]) := dCallI_ok rfl rfl e1
  have a6 := dFrz_ok (lLst_ok (aCons_ok (F := dVar 3) (ρ := [.own xs, .dat (.tuple ds), .emp, .dat (.list ds)]) (d := .list ds) rfl (aCons_ok s1 (aCons_ok a1 (aCons_ok a2 (aCons_ok a3 (aCons_ok a4 (aCons_ok s3 (aCons_ok a5 (rfl : aNil _ = some ([], _))))))))))  (by simp))
  exact sRet_ok (dCallI_ok2 (ρ1 := [.own y1, .dat (.tuple ds), .emp, .dat (.list ds)]) rfl (aCons_ok a6 rfl) rfl e2)
theorem strI_all : ((List.range 101).all fun (k : Nat) => okS (toString ((k : Int) - 50)) && decide (((k : Int) - 50).natAbs.log2 < 1920)) = true := by decide +kernel
theorem strI {i : Int} (h : -50 ≤ i) (h2 : i ≤ 50) : okS (toString i) = true ∧ i.natAbs.log2 < 1920 := by
  have := List.all_eq_true.mp strI_all (i + 50).toNat (List.mem_range.mpr (by omega))
  have e : (((i + 50).toNat : Nat) : Int) - 50 = i := by omega
  rw [e, Bool.and_eq_true, decide_eq_true_eq] at this
  exact this
theorem bt_int {i : Int} (h : -100 ≤ i) (h2 : i ≤ 100) : Bt 12 0 (.int i) := ⟨by simp only [good]; exact okI_nat h h2, by simp [W], by simp [PyData.depth], by simp [PyData.hasDict]⟩
theorem bent_i {n : Nat} {xs : List PyData} {i : Int} (h1 : -50 ≤ i) (h2 : i ≤ 50) (hn : n + 3 ≤ 1000000) (G : Good n xs) :
    ∃ e ys ρ, bentT [.own xs, .dat (.int i), .emp, .emp] = some (.rt e ρ) ∧ ownE ρ 0 = some ys ∧ Bt 200 2 e ∧ Good (n + 3) ys := by
  obtain ⟨o, y1, e1, bo, G1⟩ := lawodd (by omega) G
  have st := strI h1 h2
  have P : ∀ e ∈ [.int (i + 1), .int (i - 1), .int (-i), .str (toString i), .bool (i == 1), o], Bt 200 2 e := by
    intro e he
    simp only [List.mem_cons, List.not_mem_nil, or_false] at he
    rcases he with rfl | rfl | rfl | rfl | rfl | rfl
    · exact (bt_int (by omega) (by omega)).up (by decide) (by decide)
    · exact (bt_int (by omega) (by omega)).up (by decide) (by decide)
    · exact (bt_int (by omega) (by omega)).up (by decide) (by decide)
    · exact ⟨by simp only [good]; exact st.1, by simp [W], by simp [PyData.depth], by simp [PyData.hasDict]⟩
    · exact ⟨by simp [good], by simp [W], by simp [PyData.depth], by simp [PyData.hasDict]⟩
    · exact bo.up (by decide) (by decide)
  obtain ⟨e, ys, e2, be, G2⟩ := of_mem (by omega) G1 (by simp) (by simp) P
  refine ⟨e, ys, [.own ys, .dat (.int i), .emp, .emp], ?_, rfl, be, G2.mono (by omega)⟩
  unfold bentT
  have t1 : bVal (dUn (isiD "tuple") (dVar 1)) [.own xs, .dat (.int i), .emp, .emp] = some (false, [.own xs, .dat (.int i), .emp, .emp]) := bVal_ok (dUnS rfl rfl)
  refine (sSeq_nx ((sIf_f t1).trans rfl)).trans ?_
  have p30 : dOp powD (dC (.int 10)) (dC (.int 30)) [.own xs, .dat (.int i), .emp, .emp] = some (.int (10 ^ 30), [.own xs, .dat (.int i), .emp, .emp]) := dOpS rfl rfl pow30
  have b := lawisint (d := .int i) (a := -(10 ^ 30)) (b := 10 ^ 30) rfl
  have bb : betw (-(10 ^ 30)) (10 ^ 30) (.int i) = true := by
    have h3 : (50 : Int) ≤ 10 ^ 30 := by decide
    rw [betw_int]
    rw [decide_eq_true (by omega), decide_eq_true (by omega)]
    rfl
  rw [bb] at b
  have t2 : bVal (dCall F__law_is_int (aCons (dVar 1) (aCons (dUn negD (dOp powD (dC (.int 10)) (dC (.int 30)))) (aCons (dOp powD (dC (.int 10)) (dC (.int 30))) aNil)))) [.own xs, .dat (.int i), .emp, .emp] = some (true, [.own xs, .dat (.int i), .emp, .emp]) := bVal_ok (dCallS (aConsS rfl (aConsS (dUnS p30 rfl) (aConsS p30 rfl))) b)
  refine sSeq_rt ((sIf_t t2).trans ?_)
  have a1 : dUn strD (dVar 1) [.own xs, .dat (.int i), .emp, .emp] = some (.str (toString i), [.own xs, .dat (.int i), .emp, .emp]) := dUnS rfl (if_pos st.2)
  have a5 : dCallI F__law_odd 0 aNil [.own xs, .dat (.int i), .emp, .emp] = some (o, [.own y1, .dat (.int i), .emp, .emp]) := dCallI_ok rfl rfl e1
  have a6 := dFrz_ok (lLst_ok (aCons_ok (F := dOp addD (dVar 1) (dC (.int 1))) (ρ := [.own xs, .dat (.int i), .emp, .emp]) (dOpS rfl rfl add_int) (aCons_ok (F := dOp subD (dVar 1) (dC (.int 1))) (dOpS rfl rfl sub_int') (aCons_ok (F := dUn negD (dVar 1)) (d := .int (-i)) (dUnS rfl rfl) (aCons_ok a1 (aCons_ok (F := dOp eqD (dVar 1) (dC (.int 1))) (dOpS rfl rfl eq_int) (aCons_ok a5 (rfl : aNil _ = some ([], _))))))))  (by simp))
  exact sRet_ok (dCallI_ok2 (ρ1 := [.own y1, .dat (.int i), .emp, .emp]) rfl (aCons_ok a6 rfl) rfl e2)
theorem bent_s {n : Nat} {xs : List PyData} {x : Str} (hn : n + 3 ≤ 1000000) (G : Good n xs) :
    ∃ e ys ρ, bentT [.own xs, .dat (.str x), .emp, .emp] = some (.rt e ρ) ∧ ownE ρ 0 = some ys ∧ Bt 200 2 e ∧ Good (n + 3) ys := by
  obtain ⟨o, y1, e1, bo, G1⟩ := lawodd (by omega) G
  refine ⟨o, y1, [.own y1, .dat (.str x), .emp, .emp], ?_, rfl, bo.up (by decide) (by decide), G1.mono (by omega)⟩
  unfold bentT
  have t1 : bVal (dUn (isiD "tuple") (dVar 1)) [.own xs, .dat (.str x), .emp, .emp] = some (false, [.own xs, .dat (.str x), .emp, .emp]) := bVal_ok (dUnS rfl rfl)
  refine (sSeq_nx ((sIf_f t1).trans rfl)).trans ?_
  have p30 : dOp powD (dC (.int 10)) (dC (.int 30)) [.own xs, .dat (.str x), .emp, .emp] = some (.int (10 ^ 30), [.own xs, .dat (.str x), .emp, .emp]) := dOpS rfl rfl pow30
  have b := lawisint (d := .str x) (a := -(10 ^ 30)) (b := 10 ^ 30) rfl
  have t2 : bVal (dCall F__law_is_int (aCons (dVar 1) (aCons (dUn negD (dOp powD (dC (.int 10)) (dC (.int 30)))) (aCons (dOp powD (dC (.int 10)) (dC (.int 30))) aNil)))) [.own xs, .dat (.str x), .emp, .emp] = some (false, [.own xs, .dat (.str x), .emp, .emp]) := bVal_ok (dCallS (aConsS rfl (aConsS (dUnS p30 rfl) (aConsS p30 rfl))) b)
  refine (sSeq_nx ((sIf_f t2).trans rfl)).trans ?_
  exact sRet_ok (dCallI_ok rfl rfl e1)
theorem cut_take {α : Type} {ds : List α} {v : Nat} : cutD ds none (some (v : Int)) = ds.take v := by
  unfold cutD
  rw [HT.sIx_none, HT.sIx_nat]
  rw [List.drop_zero, Nat.sub_zero, ← List.take_eq_take_min]
theorem cut_drop {α : Type} {ds : List α} {v : Nat} (h : v ≤ ds.length) : cutD ds (some (v : Int)) none = ds.drop v := by
  unfold cutD
  rw [HT.sIx_none, HT.sIx_nat, Nat.min_eq_left h]
  exact List.take_of_length_le (by rw [List.length_drop]; exact Nat.le_refl _)
theorem hasDict_app : ∀ {a b : List PyData}, PyData.hasDictAll (a ++ b) = (PyData.hasDictAll a || PyData.hasDictAll b)
  | [], b => by simp [PyData.hasDictAll]
  | d :: a, b => by simp [PyData.hasDictAll, hasDict_app (a := a), Bool.or_assoc]
theorem noLst_app : ∀ {a b : List PyData}, noLstA (a ++ b) = (noLstA a && noLstA b)
  | [], b => by simp [noLstA]
  | d :: a, b => by simp [noLstA, noLst_app (a := a), Bool.and_assoc]
theorem bt_mid {w n : Nat} {a b : List PyData} {x : PyData} {wx : Nat} (ha : cleanA a = true) (hb : cleanA b = true) (hx : Bt wx (n - 1) x) (hw : 5 + WA a + wx + WA b ≤ w) (da : ∀ e ∈ a, e.depth + 1 ≤ n) (db : ∀ e ∈ b, e.depth + 1 ≤ n) (hn : 1 ≤ n) : Bt w n (.tuple (a ++ [x] ++ b)) := by
  have pa := cleanA_plain ha
  have pb := cleanA_plain hb
  refine ⟨?_, ?_, ?_, ?_⟩
  · simp only [good]
    refine goodA_iff.mpr fun d hd => ?_
    rcases List.mem_append.mp hd with z | z
    · rcases List.mem_append.mp z with z | z
      · exact good_of (cleanA_iff.mp ha d z)
      · rw [List.mem_singleton] at z; subst z; exact hx.gd
    · exact good_of (cleanA_iff.mp hb d z)
  · rw [W, WA_app, WA_app, WA, WA]
    have := hx.wt
    omega
  · simp only [PyData.depth]
    have : PyData.depthAll (a ++ [x] ++ b) ≤ n - 1 := dp_all fun d hd => by
      rcases List.mem_append.mp hd with z | z
      · rcases List.mem_append.mp z with z | z
        · have := da d z; omega
        · rw [List.mem_singleton] at z; subst z; exact hx.dp
      · have := db d z; omega
    omega
  · have h1 : (PyData.tuple (a ++ [x] ++ b)).hasDict = x.hasDict := by
      simp [PyData.hasDict, hasDict_app, PyData.hasDictAll, pa.1, pb.1]
    have h2 : noLst (PyData.tuple (a ++ [x] ++ b)) = noLst x := by
      simp [noLst, noLst_app, noLstA, pa.2.1, pb.2.1]
    rw [h1, h2]
    exact hx.nd
theorem lawbent : ∀ (fuel : Nat) {d : PyData} {n : Nat} {xs : List PyData}, fuel ≤ 60 → low d = true → d.depth < fuel → W d ≤ 1000 → n + 10 * fuel ≤ 1000000 → Good n xs → ∃ e ys, F__law_bent fuel xs [d] = some (e, ys) ∧ Bt (2 * W d + 200) (d.depth + 2) e ∧ Good (n + 10 * fuel) ys
  | 0, d, n, xs, _, _, hd, _, _, _ => by omega
  | fuel + 1, d, n, xs, hf, hl, hd, hw, hn, G => by
    cases d with
    | int i =>
      simp only [low, Bool.and_eq_true, decide_eq_true_eq] at hl
      obtain ⟨e, ys, ρ, e1, e2, be, G1⟩ := bent_i hl.1 hl.2 (by omega) G
      refine ⟨e, ys, ?_, be.up (by rw [W]; omega) (by omega), G1.mono (by omega)⟩
      refine runI_eq (ρ := ρ) rfl ?_ e2
      unfold S__law_bent
      have t1 : bVal (dUn (isiD "tuple") (dVar 1)) [.own xs, .dat (.int i), .emp, .emp] = some (false, [.own xs, .dat (.int i), .emp, .emp]) := bVal_ok (dUnS rfl rfl)
      exact (sSeq_nx ((sIf_f (bAnd_f t1)).trans rfl)).trans e1
    | str x =>
      obtain ⟨e, ys, ρ, e1, e2, be, G1⟩ := bent_s (x := x) (by omega) G
      refine ⟨e, ys, ?_, be.up (by rw [W]; omega) (by omega), G1.mono (by omega)⟩
      refine runI_eq (ρ := ρ) rfl ?_ e2
      unfold S__law_bent
      have t1 : bVal (dUn (isiD "tuple") (dVar 1)) [.own xs, .dat (.str x), .emp, .emp] = some (false, [.own xs, .dat (.str x), .emp, .emp]) := bVal_ok (dUnS rfl rfl)
      exact (sSeq_nx ((sIf_f (bAnd_f t1)).trans rfl)).trans e1
    | tuple ds =>
      simp only [low] at hl
      have hc := lowA_clean hl
      simp only [PyData.depth] at hd
      rw [W] at hw
      have len := WA_len (a := ds)
      have t1 : bVal (dUn (isiD "tuple") (dVar 1)) [.own xs, .dat (.tuple ds), .emp, .emp] = some (true, [.own xs, .dat (.tuple ds), .emp, .emp]) := bVal_ok (dUnS rfl isi_t)
      have shd : SeqAt.shaped (.tuple ds) = true := by
        unfold SeqAt.shaped
        have h1 : (PyData.tuple ds).canLay0 = true := by simp [PyData.canLay0, (cleanA_plain hc).2.2]
        have h2 : (PyData.tuple ds).depth ≤ 64 := by
          simp only [PyData.depth]
          omega
        rw [h1, decide_eq_true h2]
        rfl
      have t2 : bVal (dOp neD (dVar 1) (dTup aNil)) [.own xs, .dat (.tuple ds), .emp, .emp] = some (!ds.isEmpty, [.own xs, .dat (.tuple ds), .emp, .emp]) := bVal_ok (dOpS rfl (dTup_ok rfl (by simp)) (by
        unfold neD
        rw [shd, show SeqAt.shaped (.tuple []) = true by decide]
        cases ds <;> rfl))
      cases ds with
      | nil =>
        obtain ⟨e, ys, ρ, e1, e2, be, G1⟩ := bent_t (ds := []) rfl (by simp [WA]) (by omega) G
        refine ⟨e, ys, ?_, be.up (by rw [W]; omega) (by simp only [PyData.depth]; omega), G1.mono (by omega)⟩
        refine runI_eq (ρ := ρ) rfl ?_ e2
        unfold S__law_bent
        exact (sSeq_nx ((sIf_f ((bAnd_t t1).trans (bAnd_f t2))).trans rfl)).trans e1
      | cons x0 ds0 =>
        generalize hds : x0 :: ds0 = ds at *
        have hne : ds.isEmpty = false := by rw [← hds]; rfl
        have hpos : 0 < ds.length := by rw [← hds]; simp
        rw [hne] at t2
        obtain ⟨v, y1, e1, hv, G1⟩ := take_nat (u := 5) (by omega) G (by decide) (by decide)
        have t3 : bVal (dOp neD (dCallI F__law_take 0 (aCons (dC (.int 5)) aNil)) (dC (.int 0))) [.own xs, .dat (.tuple ds), .emp, .emp] = some (!(v == 0), [.own y1, .dat (.tuple ds), .emp, .emp]) := bVal_ok (dOp_ok (dCallI_ok (ρ := [.own xs, .dat (.tuple ds), .emp, .emp]) rfl rfl e1) rfl (by
          show neD (.int v) (.int 0) = _
          rw [ne_int]
          congr 3
          rw [Bool.eq_iff_iff]
          simp only [beq_iff_eq]
          omega))
        by_cases h0 : v = 0
        · subst h0
          obtain ⟨e, ys, ρ, e2, e3, be, G2⟩ := bent_t hl (by omega) (by omega) G1
          refine ⟨e, ys, ?_, be.up (by rw [W]; omega) (by simp only [PyData.depth]; omega), G2.mono (by omega)⟩
          refine runI_eq (ρ := ρ) rfl ?_ e3
          unfold S__law_bent
          exact (sSeq_nx ((sIf_f ((bAnd_t t1).trans ((bAnd_t t2).trans t3))).trans rfl)).trans e2
        · have hb : (!(v == 0)) = true := by simp [h0]
          rw [hb] at t3
          obtain ⟨a, y2, e2, ha, G2⟩ := take_nat (u := ds.length) (by omega) G1 hpos (by omega)
          have hx : ds[a] ∈ ds := List.getElem_mem ha
          have hxl := lowA_iff.mp hl _ hx
          have hxd := dp_mem hx
          have hxw := WA_mem hx
          obtain ⟨b, y3, e3, bb, G3⟩ := lawbent fuel (by omega) hxl (by omega) (by omega) (by omega) G2
          have split : ds = ds.take a ++ ds[a] :: ds.drop (a + 1) := by rw [← List.drop_eq_getElem_cons ha, List.take_append_drop]
          have wsplit : WA ds = WA (ds.take a) + (W ds[a] + 2 + WA (ds.drop (a + 1))) := by
            have := congrArg WA split
            rw [WA_app, WA] at this
            exact this
          refine ⟨.tuple (ds.take a ++ [b] ++ ds.drop (a + 1)), y3, ?_, ?_, G3.mono (by omega)⟩
          · refine runI_eq (ρ := [.own y3, .dat (.tuple ds), .dat (eN a), .emp]) rfl ?_ rfl
            unfold S__law_bent
            refine sSeq_rt ((sIf_t ((bAnd_t t1).trans ((bAnd_t t2).trans t3))).trans ?_)
            refine (sSeq_nx (sSet_ok (dCallI_ok (ρ := [.own y1, .dat (.tuple ds), .emp, .emp]) (ds := [.int ds.length]) rfl (aConsS (dUnS rfl len_t) rfl) e2))).trans ?_
            show sRet _ [.own y2, .dat (.tuple ds), .dat (eN a), .emp] = _
            have s1 : dSl (dVar 1) oNo (oI (dVar 2)) [.own y2, .dat (.tuple ds), .dat (eN a), .emp] = some (.tuple (ds.take a), [.own y2, .dat (.tuple ds), .dat (eN a), .emp]) := dSlS (d := .tuple ds) (l := none) (u := some (a : Int)) rfl rfl (oI_ok rfl) (by
              show some (PyData.tuple (cutD ds none (some (a : Int)))) = _
              rw [cut_take])
            have at1 : ixD (.tuple ds) (eN a) = some ds[a] := atI_ok (List.getElem?_eq_getElem ha)
            have c1 : dCallI (F__law_bent fuel) 0 (aCons (dOp ixD (dVar 1) (dVar 2)) aNil) [.own y2, .dat (.tuple ds), .dat (eN a), .emp] = some (b, [.own y3, .dat (.tuple ds), .dat (eN a), .emp]) := dCallI_ok rfl (aConsS (dOpS rfl rfl at1) rfl) e3
            have s2 : dSl (dVar 1) (oI (dOp addD (dVar 2) (dC (.int 1)))) oNo [.own y3, .dat (.tuple ds), .dat (eN a), .emp] = some (.tuple (ds.drop (a + 1)), [.own y3, .dat (.tuple ds), .dat (eN a), .emp]) := dSlS (d := .tuple ds) (l := some ((a + 1 : Nat) : Int)) (u := none) rfl (oI_ok (dOpS rfl rfl rfl)) rfl (by
              show some (PyData.tuple (cutD ds (some ((a + 1 : Nat) : Int)) none)) = _
              rw [cut_drop (by omega)])
            have l1 : (ds.take a).length ≤ ds.length := (List.take_sublist _ _).length_le
            have l2 : (ds.drop (a + 1)).length ≤ ds.length := (List.drop_sublist _ _).length_le
            exact sRet_ok (dOp_ok (dOp_ok s1 (dTup_ok (aCons_ok c1 rfl) (by simp)) (add_t (by simp; omega))) s2 (add_t (by rw [List.length_append, List.length_singleton]; omega)))
          · have st := List.take_sublist a ds
            have sd := List.drop_sublist (a + 1) ds
            refine bt_mid (wx := 2 * W ds[a] + 200) (cleanA_sub st hc) (cleanA_sub sd hc) (bb.up (by omega) (by simp only [PyData.depth]; omega)) (by rw [W]; omega) (fun e he => ?_) (fun e he => ?_) (by simp only [PyData.depth]; omega)
            · have := dp_mem (st.subset he); simp only [PyData.depth]; omega
            · have := dp_mem (sd.subset he); simp only [PyData.depth]; omega
    | none => simp [low] at hl
    | bool b => simp [low] at hl
    | list ds => simp [low] at hl
    | dict ds => simp [low] at hl
end DL
set_option Elab.async false
set_option linter.all false
set_option maxRecDepth 100000
set_option maxHeartbeats 1000000
/-! P19: cells among values; a cell's number. -/
namespace DL
open PySem PySem.Spec L2
open PyProof.Rows hiding St
mutual
theorem eqv_clean : ∀ {a b : PyData}, clean a = true → clean b = true → PyData.eqv a b = true → a = b
  | .int i, b, _, hb, h => by
    cases b with
    | int j => have : (i == j) = true := h; rw [eq_of_beq this]
    | bool j => simp [clean] at hb
    | _ => simp [PyData.eqv] at h
  | .str x, b, _, hb, h => by
    cases b with
    | str y => have : (x == y) = true := h; rw [eq_of_beq this]
    | _ => simp [PyData.eqv] at h
  | .tuple xs, b, ha, hb, h => by
    cases b with
    | tuple ys =>
      simp only [clean] at ha hb
      rw [eqvA_clean ha hb h]
    | _ => simp [PyData.eqv] at h
  | .none, _, h, _, _ => by simp [clean] at h
  | .bool _, _, h, _, _ => by simp [clean] at h
  | .list _, _, h, _, _ => by simp [clean] at h
  | .dict _, _, h, _, _ => by simp [clean] at h
theorem eqvA_clean : ∀ {a b : List PyData}, cleanA a = true → cleanA b = true → PyData.eqvAll a b = true → a = b
  | [], [], _, _, _ => rfl
  | [], _ :: _, _, _, h => by simp [PyData.eqvAll] at h
  | _ :: _, [], _, _, h => by simp [PyData.eqvAll] at h
  | x :: a, y :: b, ha, hb, h => by
    simp only [cleanA, Bool.and_eq_true] at ha hb
    simp only [PyData.eqvAll, Bool.and_eq_true] at h
    rw [eqv_clean ha.1 hb.1 h.1, eqvA_clean ha.2 hb.2 h.2]
end
mutual
theorem eqv_refl : ∀ {a : PyData}, clean a = true → PyData.eqv a a = true
  | .int i, _ => by show (i == i) = true; simp
  | .str x, _ => by show (x == x) = true; simp
  | .tuple xs, h => by simp only [clean] at h; exact eqvA_refl h
  | .none, h => by simp [clean] at h
  | .bool _, h => by simp [clean] at h
  | .list _, h => by simp [clean] at h
  | .dict _, h => by simp [clean] at h
theorem eqvA_refl : ∀ {a : List PyData}, cleanA a = true → PyData.eqvAll a a = true
  | [], _ => by simp [PyData.eqvAll]
  | x :: a, h => by
    simp only [cleanA, Bool.and_eq_true] at h
    simp only [PyData.eqvAll, Bool.and_eq_true]
    exact ⟨eqv_refl h.1, eqvA_refl h.2⟩
end
theorem ok7 {n : Str} (h : n ∈ names7) : okS n = true := by
  simp only [names7, List.mem_cons, List.not_mem_nil, or_false] at h
  rcases h with rfl | rfl | rfl | rfl | rfl | rfl | rfl <;> decide +kernel
theorem low_row {r : List Nat} (h : ∀ t ∈ r, t < 3) : low (eRow r) = true := by
  show lowA (r.map eN) = true
  refine lowA_iff.mpr fun d hd => ?_
  obtain ⟨t, ht, rfl⟩ := List.mem_map.mp hd
  have := h t ht
  show (decide (-50 ≤ (t : Int)) && decide ((t : Int) ≤ 50)) = true
  rw [decide_eq_true (by omega), decide_eq_true (by omega)]
  rfl
theorem W_row {r : List Nat} : W (eRow r) = 3 + 14 * r.length := by
  show W (.tuple (r.map eN)) = _
  rw [W]
  congr 1
  induction r with
  | nil => rfl
  | cons x r ih => rw [List.map_cons, WA, ih, List.length_cons]; show 12 + 2 + _ = _; omega
theorem dp_row {r : List Nat} : (eRow r).depth ≤ 1 := sh_row.2
section
variable {k : Nat} {rs fs : List Sg}
structure CFacts (d : PyData) : Prop where
  lw : low d = true
  wt : W d ≤ 150
  dp : d.depth ≤ 2
theorem cell_facts (O : SgOk k rs fs) {c : Ce} (hc : c ∈ allC k rs fs) : CFacts (eC c) := by
  have k3 := O.k3
  have i1 : okS "is" = true := by decide +kernel
  have i2 : okS "of" = true := by decide +kernel
  rcases List.mem_append.mp hc with z | z
  · obtain ⟨p, hp, z⟩ := List.mem_flatMap.mp z
    obtain ⟨r, hr, rfl⟩ := List.mem_map.mp z
    have hn := ok7 (O.nm p (List.mem_append_left _ hp))
    have f := tup_row O.k1 O.k3 (O.pr p hp) r hr
    have hr3 := low_row (r := r) fun t ht => by have := f.2 t ht; omega
    have hp2 := O.pr p hp
    refine ⟨?_, ?_, ?_⟩
    · show lowA [.str "is", .str p.1, eRow r] = true
      simp only [lowA, low, i1, hn, hr3, Bool.and_self]
    · show W (.tuple [.str "is", .str p.1, eRow r]) ≤ _
      rw [W, WA, WA, WA, WA, W, W, W_row, f.1]
      omega
    · show (PyData.tuple [.str "is", .str p.1, eRow r]).depth ≤ 2
      have := dp_all (n := 1) (ds := [.str "is", .str p.1, eRow r]) fun d hd => by
        simp only [List.mem_cons, List.not_mem_nil, or_false] at hd
        rcases hd with rfl | rfl | rfl
        · simp [PyData.depth]
        · simp [PyData.depth]
        · exact dp_row
      simp only [PyData.depth]
      omega
  · obtain ⟨p, hp, z⟩ := List.mem_flatMap.mp z
    obtain ⟨r, hr, z⟩ := List.mem_flatMap.mp z
    obtain ⟨t, ht, rfl⟩ := List.mem_map.mp z
    have ht := List.mem_range.mp ht
    have hn := ok7 (O.nm p (List.mem_append_right _ hp))
    have hp1 := O.pf p hp
    have f := tup_row O.k1 O.k3 (Nat.le_trans hp1 (by decide)) r hr
    have hr3 := low_row (r := r) fun t ht => by have := f.2 t ht; omega
    refine ⟨?_, ?_, ?_⟩
    · show lowA [.str "of", .str p.1, eRow r, eN t] = true
      have : low (eN t) = true := by
        show (decide (-50 ≤ (t : Int)) && decide ((t : Int) ≤ 50)) = true
        rw [decide_eq_true (by omega), decide_eq_true (by omega)]
        rfl
      simp only [lowA, low, i2, hn, hr3, this, Bool.and_self]
    · show W (.tuple [.str "of", .str p.1, eRow r, eN t]) ≤ _
      rw [W, WA, WA, WA, WA, WA, W, W, W_row, f.1]
      show _ + (_ + (_ + (_ + (12 + 2 + 0)))) ≤ _
      omega
    · show (PyData.tuple [.str "of", .str p.1, eRow r, eN t]).depth ≤ 2
      have := dp_all (n := 1) (ds := [.str "of", .str p.1, eRow r, eN t]) fun d hd => by
        simp only [List.mem_cons, List.not_mem_nil, or_false] at hd
        rcases hd with rfl | rfl | rfl | rfl
        · simp [PyData.depth]
        · simp [PyData.depth]
        · exact dp_row
        · simp [PyData.depth, eN]
      simp only [PyData.depth]
      omega
theorem cell_clean (O : SgOk k rs fs) {c : Ce} (hc : c ∈ allC k rs fs) : clean (eC c) = true := low_clean (cell_facts O hc).lw
theorem sh_clean {n : Nat} {d : PyData} (h : clean d = true) (hn : d.depth ≤ n) : Sh n d := ⟨(clean_plain h).2.2, hn⟩
theorem sh_cells (O : SgOk k rs fs) : Sh 3 (.list ((allC k rs fs).map eC)) := sh_l (n := 2) fun d hd => by
  obtain ⟨c, hc, rfl⟩ := List.mem_map.mp hd
  exact sh_clean (cell_clean O hc) (cell_facts O hc).dp
theorem in_cells (O : SgOk k rs fs) {d : PyData} (h : clean d = true) (hd : d.depth ≤ 64) {b : Bool} (hb : b = true ↔ ∃ c ∈ allC k rs fs, d = eC c) : inD d (.list ((allC k rs fs).map eC)) = some (.bool b) := by
  rw [in_list ((sh_clean h hd).ok (by decide)) ((sh_cells O).ok (by decide)), List.any_map]
  congr 2
  rw [Bool.eq_iff_iff, hb, List.any_eq_true]
  constructor
  · rintro ⟨c, hc, e⟩
    exact ⟨c, hc, (eqv_clean (cell_clean O hc) h e).symm⟩
  · rintro ⟨c, hc, rfl⟩
    exact ⟨c, hc, eqv_refl h⟩
theorem aStar_ok {F : DF} {A : DFL} {ρ : En} {d : PyData} {b : Bool} {xs ds : List PyData} (h : F ρ = some (d, ρ)) (hs : seqD d = some (b, xs)) (h2 : A ρ = some (ds, ρ)) : aStar F A ρ = some (xs ++ ds, ρ) := by
  unfold aStar
  rw [h, Option.bind_some]
  show (seqD d).bind _ = _
  rw [hs, Option.bind_some]
  show (A ρ).map _ = _
  rw [h2]
  rfl
theorem eC_tuple {c : Ce} : ∃ (a b : Str) (r rest : List Int), eC c = .tuple (.str a :: .str b :: .tuple (r.map .int) :: rest.map .int) ∧ rest.length ≤ 1 := by
  cases c with
  | is n r => exact ⟨"is", n, r.map fun (x : Nat) => (x : Int), [], by rw [List.map_map]; rfl, by simp⟩
  | of n r t => exact ⟨"of", n, r.map fun (x : Nat) => (x : Int), [(t : Int)], by rw [List.map_map]; rfl, by simp⟩
theorem iscell (O : SgOk k rs fs) {v : PyData} (hg : good v = true) (hw : W v ≤ 2000) {b : Bool} (hb : b = true ↔ ∃ c ∈ allC k rs fs, v = eC c) : F_is_cell [eS rs fs, eN k, v] = some (.bool b) := by
  have ht := isi_ok (T := "tuple") (good_exc hg)
  -- false, when it is no cell
  have no : (∀ c, v ≠ eC c) → b = false := fun h => by
    rw [← Bool.not_eq_true, hb]
    rintro ⟨c, _, e⟩
    exact h c e
  unfold F_is_cell
  cases hd : isTy "tuple" v with
  | false =>
    rw [hd] at ht
    rw [no fun c e => by obtain ⟨a, b, r, rest, e2, _⟩ := eC_tuple (c := c); rw [e, e2] at hd; simp [isTy] at hd]
    refine runD_eq (ρ := [.dat (eS rs fs), .dat (eN k), .dat v, .emp]) rfl ?_
    unfold S_is_cell
    exact sSeq_rt ((sIf_t (bOr_t (bNot_ok (b := false) (bVal_ok (dUnS rfl ht))))).trans sRetB)
  | true =>
    rw [hd] at ht
    obtain ⟨ds, rfl⟩ := tuple_of hd
    simp only [good] at hg
    rw [W] at hw
    have len := WA_len (a := ds)
    have c1 := bNot_ok (b := true) (bVal_ok (dUnS (F := dVar 2) (ρ := [.dat (eS rs fs), .dat (eN k), .dat (.tuple ds), .emp]) rfl ht))
    have c2 : bVal (dOp notInD (dUn lenD (dVar 2)) (dTup (aCons (dC (.int 3)) (aCons (dC (.int 4)) aNil)))) [.dat (eS rs fs), .dat (eN k), .dat (.tuple ds), .emp] = some (!((ds.length == 3) || (ds.length == 4)), [.dat (eS rs fs), .dat (eN k), .dat (.tuple ds), .emp]) := bVal_ok (dOpS (dUnS rfl len_t) (dTup_ok rfl (by simp)) (by
      show some (PyData.bool (!(((3 : Int) == ((ds.length : Nat) : Int)) || (((4 : Int) == ((ds.length : Nat) : Int)) || false)))) = _
      congr 3
      rw [Bool.or_false, Bool.eq_iff_iff]
      simp only [Bool.or_eq_true, beq_iff_eq]
      omega))
    cases hl : ((ds.length == 3) || (ds.length == 4)) with
    | false =>
      rw [hl] at c2
      rw [no fun c e => by
        obtain ⟨a, b, r, rest, e2, hr⟩ := eC_tuple (c := c)
        rw [e2] at e
        cases e
        have h01 : rest.length = 0 ∨ rest.length = 1 := by omega
        rcases h01 with h | h <;> simp [h] at hl]
      refine runD_eq (ρ := [.dat (eS rs fs), .dat (eN k), .dat (.tuple ds), .emp]) rfl ?_
      unfold S_is_cell
      exact sSeq_rt ((sIf_t ((bOr_f c1).trans (bOr_t c2))).trans sRetB)
    | true =>
      rw [hl] at c2
      obtain ⟨a, a2, x, rest, rfl, hrest⟩ : ∃ a a2 x rest, ds = a :: a2 :: x :: rest ∧ rest.length ≤ 1 := by
        match ds, hl with
        | [a, b, x], _ => exact ⟨a, b, x, [], rfl, by simp⟩
        | [a, b, x, y], _ => exact ⟨a, b, x, [y], rfl, by simp⟩
        | [], hl => simp at hl
        | [_], hl => simp at hl
        | [_, _], hl => simp at hl
        | _ :: _ :: _ :: _ :: _ :: l, hl => simp at hl
      simp only [goodA, Bool.and_eq_true] at hg
      obtain ⟨ga, gb, gx, gr⟩ := hg
      have hx := isi_ok (T := "tuple") (good_exc gx)
      have c3 : bNot (bVal (dUn (isiD "tuple") (dOp ixD (dVar 2) (dC (.int 2))))) [.dat (eS rs fs), .dat (eN k), .dat (.tuple (a :: a2 :: x :: rest)), .emp] = some (!isTy "tuple" x, [.dat (eS rs fs), .dat (eN k), .dat (.tuple (a :: a2 :: x :: rest)), .emp]) := bNot_ok (bVal_ok (dUnS (dOpS rfl rfl ix2) hx))
      cases hxt : isTy "tuple" x with
      | false =>
        rw [hxt] at c3
        rw [no fun c e => by
          obtain ⟨a, b, r, rest, e2, hr⟩ := eC_tuple (c := c)
          rw [e2] at e
          cases e
          simp [isTy] at hxt]
        refine runD_eq (ρ := [.dat (eS rs fs), .dat (eN k), .dat (.tuple (a :: a2 :: x :: rest)), .emp]) rfl ?_
        unfold S_is_cell
        exact sSeq_rt ((sIf_t ((bOr_f c1).trans ((bOr_f c2).trans c3))).trans sRetB)
      | true =>
        rw [hxt] at c3
        obtain ⟨r, rfl⟩ := tuple_of hxt
        simp only [good] at gx
        rw [WA, WA, WA, W] at hw
        have lr := WA_len (a := r)
        have gl : ∀ e ∈ r ++ rest, good e = true := fun e he => by
          rcases List.mem_append.mp he with z | z
          · exact goodA_iff.mp gx e z
          · exact goodA_iff.mp gr e z
        have f1 := (sIf_f (S := sRet (dC (.bool false))) (T := sNext) ((bOr_f c1).trans ((bOr_f c2).trans c3))).trans rfl
        have e := lComp_mapS (vs := [3]) (I := (iSeqD (dFrz (lLst (aStar (dOp ixD (dVar 2) (dC (.int 2))) (aStar (dSl (dVar 2) (oI (dC (.int 3))) oNo) aNil)))))) (g := gN 3) (C := bYes) (F := (dCall F_is_integer (aCons (dVar 3) aNil))) (ρ := [.dat (eS rs fs), .dat (eN k), .dat (.tuple (a :: a2 :: .tuple r :: rest)), .emp]) (xs := r ++ rest) (enc := id) (out := fun x => .bool (isI x))
          (iSeq_ok (by
            have s1 : dSl (dVar 2) (oI (dC (.int 3))) oNo [.dat (eS rs fs), .dat (eN k), .dat (.tuple (a :: a2 :: .tuple r :: rest)), .emp] = some (.tuple rest, [.dat (eS rs fs), .dat (eN k), .dat (.tuple (a :: a2 :: .tuple r :: rest)), .emp]) := dSlS (d := .tuple (a :: a2 :: .tuple r :: rest)) (l := some ((3 : Nat) : Int)) (u := none) rfl (oI_ok rfl) rfl (by
              show some (PyData.tuple (cutD _ (some ((3 : Nat) : Int)) none)) = _
              rw [cut_drop (by simp)]
              rfl)
            have s2 := aStar_ok (F := dOp ixD (dVar 2) (dC (.int 2))) (ρ := [.dat (eS rs fs), .dat (eN k), .dat (.tuple (a :: a2 :: .tuple r :: rest)), .emp]) (b := false) (dOpS rfl rfl ix2) rfl (aStar_ok (A := aNil) (ds := []) (b := false) s1 rfl rfl)
            have s3 := dFrz_ok (lLst_ok s2 (by simp; omega))
            rw [List.append_nil] at s3
            rw [List.map_id]
            exact s3)) (by simp; omega) (fun x hx' => ⟨[.dat (eS rs fs), .dat (eN k), .dat (.tuple (a :: a2 :: .tuple r :: rest)), .dat x], rfl, rfl, rfl, dCallS (aConsS rfl rfl) (is_integer_eq (good_exc (gl x hx')))⟩)
        have c4 := bNot_ok (bVal_ok (dUn_ok (dFrz_ok e) allD_ok))
        cases hi : (r ++ rest).all isI with
        | false =>
          rw [hi] at c4
          rw [no fun c e => by
            obtain ⟨a, b, r', rest', e2, hr⟩ := eC_tuple (c := c)
            rw [e2] at e
            cases e
            rw [← List.map_append, all_isI] at hi
            cases hi]
          refine runD_eq (ρ := [.dat (eS rs fs), .dat (eN k), .dat (.tuple (a :: a2 :: .tuple r :: rest)), .emp]) rfl ?_
          unfold S_is_cell
          exact (sSeq_nx f1).trans (sSeq_rt ((sIf_t c4).trans sRetB))
        | true =>
          rw [hi] at c4
          have f2 := (sIf_f (S := sRet (dC (.bool false))) (T := sNext) c4).trans rfl
          have a0 : dUn (isiD "str") (dOp ixD (dVar 2) (dC (.int 0))) [.dat (eS rs fs), .dat (eN k), .dat (.tuple (a :: a2 :: .tuple r :: rest)), .emp] = some (.bool (isTy "str" a), [.dat (eS rs fs), .dat (eN k), .dat (.tuple (a :: a2 :: .tuple r :: rest)), .emp]) := dUnS (dOpS rfl rfl ix0) (isi_ok (good_exc ga))
          have a1 : dUn (isiD "str") (dOp ixD (dVar 2) (dC (.int 1))) [.dat (eS rs fs), .dat (eN k), .dat (.tuple (a :: a2 :: .tuple r :: rest)), .emp] = some (.bool (isTy "str" a2), [.dat (eS rs fs), .dat (eN k), .dat (.tuple (a :: a2 :: .tuple r :: rest)), .emp]) := dUnS (dOpS rfl rfl ix1) (isi_ok (good_exc gb))
          refine runD_eq (ρ := [.dat (eS rs fs), .dat (eN k), .dat (.tuple (a :: a2 :: .tuple r :: rest)), .emp]) rfl ?_
          unfold S_is_cell
          refine (sSeq_nx f1).trans ((sSeq_nx f2).trans (sRet_ok ?_))
          show dAndV _ _ [.dat (eS rs fs), .dat (eN k), .dat (.tuple (a :: a2 :: .tuple r :: rest)), .emp] = some (_, [.dat (eS rs fs), .dat (eN k), .dat (.tuple (a :: a2 :: .tuple r :: rest)), .emp])
          cases ha : isTy "str" a with
          | false =>
            rw [ha] at a0
            rw [no fun c e => by
              obtain ⟨a, b, r', rest', e2, hr⟩ := eC_tuple (c := c)
              rw [e2] at e
              cases e
              simp [isTy] at ha]
            exact dAndV_f a0
          | true =>
            rw [ha] at a0
            refine (dAndV_t a0).trans ?_
            cases hb2 : isTy "str" a2 with
            | false =>
              rw [hb2] at a1
              rw [no fun c e => by
                obtain ⟨a, b, r', rest', e2, hr⟩ := eC_tuple (c := c)
                rw [e2] at e
                cases e
                simp [isTy] at hb2]
              exact dAndV_f a1
            | true =>
              rw [hb2] at a1
              refine (dAndV_t a1).trans ?_
              have str_of : ∀ {d : PyData}, isTy "str" d = true → ∃ x, d = .str x := fun {d} h => by
                cases d <;> first | exact ⟨_, rfl⟩ | (simp [isTy] at h)
              obtain ⟨x1, rfl⟩ := str_of ha
              obtain ⟨x2, rfl⟩ := str_of hb2
              have intsL : ∀ {l : List PyData}, goodA l = true → l.all isI = true → cleanA l = true ∧ PyData.depthAll l = 0 := fun {l} hg hl => by
                have e := ints_of hl
                generalize l.map intOf = js at e
                subst e
                refine ⟨cleanA_iff.mpr fun d hd => ?_, ?_⟩
                · have := goodA_iff.mp hg d hd
                  obtain ⟨j, _, rfl⟩ := List.mem_map.mp hd
                  simpa [good, clean] using this
                · have := dp_all (n := 0) (ds := js.map .int) fun d hd => by
                    obtain ⟨j, _, rfl⟩ := List.mem_map.mp hd
                    simp [PyData.depth]
                  omega
              rw [List.all_append, Bool.and_eq_true] at hi
              have i1 := intsL gx hi.1
              have i2 := intsL gr hi.2
              have cl : clean (.tuple (.str x1 :: .str x2 :: .tuple r :: rest)) = true := by
                simp only [good] at ga gb
                simp only [clean, cleanA, ga, gb, i1.1, i2.1, Bool.and_self]
              have dp : (PyData.tuple (.str x1 :: .str x2 :: .tuple r :: rest)).depth ≤ 64 := by
                simp only [PyData.depth, PyData.depthAll, i1.2, i2.2]
                decide
              exact dOpS rfl (dCallS rfl (cellsof O)) (in_cells O cl dp hb)
end
end DL
set_option Elab.async false
set_option linter.all false
set_option maxRecDepth 100000
set_option maxHeartbeats 1000000
/-! P20: a cell's number, value by value. -/
namespace DL
open PySem PySem.Spec L2
open PyProof.Rows hiding St
/-! ### what is shown can be looked at -/
def chB (c : Nat) : Bool := decide (c < 1114112)
def chA (x : Str) : Bool := x.cps.toList.all chB
theorem chA_app {x y : Str} : chA (x ++ y) = (chA x && chA y) := by
  unfold chA
  rw [str_app, List.all_append]
theorem chA_strOk {x : Str} (h : chA x = true) : PyData.strOk x = true := by
  unfold PyData.strOk
  rw [← Array.all_toList]
  exact h
theorem chA_text : ∀ {ts : List Str} {k : Nat} {acc : Str}, chA acc = true → (∀ t ∈ ts, chA t = true) → chA (textFrom k acc ts) = true
  | [], _, acc, h, _ => h
  | t :: ts, k, acc, h, ht => by
    rw [textFrom]
    refine chA_text ?_ fun u hu => ht u (List.mem_cons_of_mem _ hu)
    have : chA ((if k > 0 then ", " else "" : String) : Str) = true := by
      split
      · exact (by decide +kernel : chA ((", " : String) : Str) = true)
      · exact (by decide +kernel : chA (("" : String) : Str) = true)
    rw [chA_app, chA_app, h, this, ht t List.mem_cons_self]
    rfl
theorem chA_join : ∀ {ts : List Str}, (∀ t ∈ ts, chA t = true) → chA (Str.join ", " ts) = true
  | [], _ => by decide +kernel
  | [t], h => h t List.mem_cons_self
  | t :: u :: r, h => by
    have ih := chA_join (ts := u :: r) fun x hx => h x (List.mem_cons_of_mem _ hx)
    have : chA ((", " : String) : Str) = true := by decide +kernel
    show chA (t ++ ((", " : String) : Str) ++ Str.join ", " (u :: r)) = true
    rw [chA_app, chA_app, h t List.mem_cons_self, this, ih]
    rfl
theorem ch_pl {l : List Nat} (h : l.all plC = true) : l.all chB = true := by
  rw [List.all_eq_true] at h ⊢
  intro c hc
  have := h c hc
  unfold plC digC at this
  simp only [Bool.or_eq_true, Bool.and_eq_true, beq_iff_eq, decide_eq_true_eq] at this
  exact decide_eq_true (by omega)
theorem ch_dig {l : List Nat} (h : l.all digC = true) : l.all chB = true := ch_pl (by
  rw [List.all_eq_true] at h ⊢
  intro c hc
  unfold plC
  rw [h c hc]
  rfl)
theorem ch_str {x : Str} (h : okS x = true) : chA (PyData.str x).shown = true := by
  have e := sh_str' h
  unfold okS at h
  rw [Bool.and_eq_true] at h
  show (sh (.str x)).all chB = true
  rw [e, List.all_cons, List.all_append, ch_pl h.1]
  decide
theorem ch_int {i : Int} (h : okI i = true) : chA (PyData.int i).shown = true := ch_dig (int_facts h).2.1
mutual
theorem ch_good : ∀ {d : PyData}, good d = true → chA d.shown = true
  | .none, _ => by decide +kernel
  | .bool true, _ => by decide +kernel
  | .bool false, _ => by decide +kernel
  | .int i, h => ch_int (by simpa [good] using h)
  | .str x, h => ch_str (by simpa [good] using h)
  | .list ds, h => by
    simp only [good] at h
    have c1 : chA (("[" : String) : Str) = true := by decide +kernel
    have c2 : chA (("]" : String) : Str) = true := by decide +kernel
    show chA (listText (PyData.shownAll ds)) = true
    unfold listText
    rw [chA_app, chA_text c1 (ch_goodA h), c2]
    rfl
  | .tuple ds, h => by
    simp only [good] at h
    have c1 : chA (("(" : String) : Str) = true := by decide +kernel
    have c2 : chA ((if (PyData.shownAll ds).length == 1 then ",)" else ")" : String) : Str) = true := by
      split
      · exact (by decide +kernel : chA ((",)" : String) : Str) = true)
      · exact (by decide +kernel : chA ((")" : String) : Str) = true)
    show chA (tupleText (PyData.shownAll ds)) = true
    unfold tupleText
    rw [chA_app, chA_app, c1, chA_join (ch_goodA h), c2]
    rfl
  | .dict [], _ => by decide +kernel
  | .dict [(.str x, .int i)], h => by
    simp only [good, Bool.and_eq_true] at h
    have c1 : chA (("{" : String) : Str) = true := by decide +kernel
    have c2 : chA (("}" : String) : Str) = true := by decide +kernel
    have c3 : chA ((": " : String) : Str) = true := by decide +kernel
    show chA ((("{" : String) : Str) ++ (((PyData.str x).shown ++ ((": " : String) : Str)) ++ (PyData.int i).shown) ++ (("}" : String) : Str)) = true
    rw [chA_app, chA_app, chA_app, chA_app, c1, c2, c3, ch_str h.1, ch_int h.2]
    rfl
  | .dict ((.none, _) :: _), h => by simp [good] at h
  | .dict ((.bool _, _) :: _), h => by simp [good] at h
  | .dict ((.int _, _) :: _), h => by simp [good] at h
  | .dict ((.list _, _) :: _), h => by simp [good] at h
  | .dict ((.tuple _, _) :: _), h => by simp [good] at h
  | .dict ((.dict _, _) :: _), h => by simp [good] at h
  | .dict ((.str _, .none) :: _), h => by simp [good] at h
  | .dict ((.str _, .bool _) :: _), h => by simp [good] at h
  | .dict ((.str _, .str _) :: _), h => by simp [good] at h
  | .dict ((.str _, .list _) :: _), h => by simp [good] at h
  | .dict ((.str _, .tuple _) :: _), h => by simp [good] at h
  | .dict ((.str _, .dict _) :: _), h => by simp [good] at h
  | .dict ((.str _, .int _) :: _ :: _), h => by simp [good] at h
theorem ch_goodA : ∀ {ds : List PyData}, goodA ds = true → ∀ t ∈ PyData.shownAll ds, chA t = true
  | [], _, t, ht => by simp [PyData.shownAll] at ht
  | d :: ds, h, t, ht => by
    simp only [goodA, Bool.and_eq_true] at h
    rw [PyData.shownAll] at ht
    rcases List.mem_cons.mp ht with z | z
    · subst z; exact ch_good h.1
    · exact ch_goodA h.2 t z
end
theorem ok_shown {d : PyData} (h : good d = true) : PyData.strOk d.shown = true := chA_strOk (ch_good h)
theorem ne_same {x : Str} (h : PyData.strOk x = true) : neD (.str x) (.str x) = some (.bool false) := by
  unfold neD
  rw [(sh_str h).ok (by decide)]
  show some (PyData.bool (!(x == x))) = _
  simp
section
variable {k : Nat} {rs fs : List Sg}
theorem cellnumber_no (O : SgOk k rs fs) {v : PyData} (hg : good v = true) (hw : W v ≤ 2000) (h : ∀ c ∈ allC k rs fs, v ≠ eC c) : F_cell_number [eS rs fs, eN k, v] = some (.er "BadCell" v) := by
  have h1 := checksigns O
  have h2 := checksize O
  have h3 := iscell O hg hw (b := false) ⟨fun z => (by cases z), fun ⟨c, hc, e⟩ => absurd e (h c hc)⟩
  refine runX_er rfl ?_
  unfold S_cell_number
  refine (sSeq_nx (sDrop_ok (dCallS (ρ := [.dat (eS rs fs), .dat (eN k), .dat v]) (ds := [eS rs fs]) (z := .none) rfl (by unfold okOf; rw [h1])))).trans ?_
  refine (sSeq_nx (sDrop_ok (dCallS (ρ := [.dat (eS rs fs), .dat (eN k), .dat v]) (ds := [eS rs fs, eN k]) (z := .none) rfl (by unfold okOf; rw [h2])))).trans ?_
  exact sSeq_ex ((sIf_t (bNot_ok (b := false) (bVal_ok (dCallS (ρ := [.dat (eS rs fs), .dat (eN k), .dat v]) rfl h3)))).trans rfl)
theorem cellnumber_ok (O : SgOk k rs fs) {c : Ce} (hc : c ∈ allC k rs fs) : F_cell_number [eS rs fs, eN k, eC c] = some (.ok (.int (((allC k rs fs).idxOf c : Nat) + 1))) := by
  have h1 := checksigns O
  have h2 := checksize O
  have f := cell_facts O hc
  have h3 := iscell O (good_of (low_clean f.lw)) (Nat.le_trans f.wt (by decide)) (b := true) ⟨fun _ => ⟨c, hc, rfl⟩, fun _ => rfl⟩
  refine runX_rt (ρ := [.dat (eS rs fs), .dat (eN k), .dat (eC c)]) rfl ?_
  unfold S_cell_number
  refine (sSeq_nx (sDrop_ok (dCallS (ρ := [.dat (eS rs fs), .dat (eN k), .dat (eC c)]) (ds := [eS rs fs]) (z := .none) rfl (by unfold okOf; rw [h1])))).trans ?_
  refine (sSeq_nx (sDrop_ok (dCallS (ρ := [.dat (eS rs fs), .dat (eN k), .dat (eC c)]) (ds := [eS rs fs, eN k]) (z := .none) rfl (by unfold okOf; rw [h2])))).trans ?_
  refine (sSeq_nx ((sIf_f (bNot_ok (b := true) (bVal_ok (dCallS (ρ := [.dat (eS rs fs), .dat (eN k), .dat (eC c)]) rfl h3)))).trans rfl)).trans ?_
  exact sRet_ok (dOpS (dCallS rfl (numbersof O)) rfl (get_ok (allC_nd O) hc))
def papers (all : List Ce) : List PyData := all.map fun c => .str (eC c).shown
theorem sFr_ok {i : Nat} {S : DS} {ρ ρ1 : En} (h : frE i ρ = ρ1) : sFr i S ρ = S ρ1 := by unfold sFr; rw [h]
theorem papers_nd (O : SgOk k rs fs) : ((allC k rs fs).map fun c => (eC c).shown).Nodup := by
  rw [List.Nodup, List.pairwise_map]
  have nd := allC_nd O
  rw [List.Nodup] at nd
  refine List.Pairwise.imp_of_mem (fun {a b} ha hb hab he => hab ?_) nd
  exact eC_inj (shown_inj (cell_clean O hb) (good_of (cell_clean O ha)) he)
theorem sh_papers (O : SgOk k rs fs) : Sh 1 (.list (papers (allC k rs fs))) := sh_l fun d hd => by
  obtain ⟨c, hc, rfl⟩ := List.mem_map.mp hd
  exact sh_str (ok_shown (good_of (cell_clean O hc)))
theorem in_papers (O : SgOk k rs fs) {v : PyData} (hg : good v = true) {b : Bool} (hb : b = true ↔ ∃ c ∈ allC k rs fs, v = eC c) : inB (.str v.shown) (.list (papers (allC k rs fs))) = some b := by
  have h := in_list (d := .str v.shown) (es := papers (allC k rs fs)) ((sh_str (ok_shown hg)).ok (by decide)) ((sh_papers O).ok (by decide))
  have e : ((papers (allC k rs fs)).any fun z => PyData.eqv z (.str v.shown)) = b := by
    unfold papers
    rw [List.any_map, Bool.eq_iff_iff, hb, List.any_eq_true]
    constructor
    · rintro ⟨c, hc, e⟩
      have : ((eC c).shown == v.shown) = true := e
      exact ⟨c, hc, shown_inj (cell_clean O hc) hg (eq_of_beq this).symm⟩
    · rintro ⟨c, hc, rfl⟩
      refine ⟨c, hc, ?_⟩
      show ((eC c).shown == (eC c).shown) = true
      simp
  rw [e] at h
  unfold inD at h
  cases hh : inB (.str v.shown) (.list (papers (allC k rs fs))) with
  | none => rw [hh] at h; cases h
  | some z => rw [hh] at h; cases h; rfl
theorem index_papers (O : SgOk k rs fs) {c : Ce} (hc : c ∈ allC k rs fs) : idxD (papers (allC k rs fs)) [.str (eC c).shown] = some (.int ((allC k rs fs).idxOf c : Nat)) := by
  obtain ⟨j, h1, h2⟩ := fi_ok (key := fun c => (eC c).shown) hc (papers_nd O)
  unfold idxD
  show (if (SeqAt.shaped (.list (papers (allC k rs fs))) && SeqAt.shaped (.str (eC c).shown)) = true then _ else _) = _
  rw [(sh_papers O).ok (by decide), (sh_str (ok_shown (good_of (cell_clean O hc)))).ok (by decide)]
  show ((papers (allC k rs fs)).findIdx? _).map _ = _
  have h3 : (papers (allC k rs fs)).findIdx? (fun z => PyData.eqv z (.str (eC c).shown)) = some j := h1
  rw [h3]
  obtain ⟨hj, e⟩ := List.getElem?_eq_some_iff.mp h2
  have : (allC k rs fs).idxOf c = j := by
    rw [← e]
    exact (allC_nd O).idxOf_getElem j hj
  rw [this]
  rfl
def body1 : DS := (sSeq (sAsg (dCau caus (rCall F_cell_number (aCons (dVar 1) (aCons (dVar 2) (aCons (dVar 11) aNil))))) (gT 2 (gsCons (gN 13) (gsCons (gN 14) gsNil))))
    (sSeq (sFr 8 (sIf (bAnd (bVal (dOp inD (dUn reprD (dVar 11)) (dVw 8))) (bVal (dOp neD (dUn reprD (dVar 14)) (dUn reprD (dOp addD (dMet idxD (dVar 8) (aCons (dUn reprD (dVar 11)) aNil)) (dC (.int 1))))))) (sRet (dC (.bool false))) sNext))
    (sIf (bAnd (bVal (dOp notInD (dUn reprD (dVar 11)) (dVw 8))) (bOr (bNot (bVal (dUn (isxD isx_BadCell) (dVar 13)))) (bVal (dOp neD (dUn reprD (dUn (valD caus) (dVar 13))) (dUn reprD (dVar 11)))))) (sRet (dC (.bool false))) sNext)))
theorem rCall_ok {f : List PyData → Option Rs} {A : DFL} {ρ : En} {ds : List PyData} {r : Rs} (h : A ρ = some (ds, ρ)) (hf : f ds = some r) : rCall f A ρ = some (r, ρ) := by
  unfold rCall
  rw [h, Option.bind_some, hf]
  rfl
theorem dCau_ok {cs : List Str} {R : En → Option (Rs × En)} {ρ ρ1 : En} {d : PyData} (h : R ρ = some (.ok d, ρ1)) : dCau cs R ρ = some (.tuple [.none, d], ρ1) := by
  unfold dCau
  rw [h]
  rfl
theorem dCau_er {cs : List Str} {R : En → Option (Rs × En)} {ρ ρ1 : En} {c : Str} {d : PyData} (h : R ρ = some (.er c d, ρ1)) (hc : c ∈ cs) : dCau cs R ρ = some (.tuple [excD c d, .none], ρ1) := by
  unfold dCau
  rw [h]
  exact if_pos hc
theorem sAsg_ok {F : DF} {g : DG} {ρ ρ1 ρ2 : En} {d : PyData} (h : F ρ = some (d, ρ1)) (hg : g d ρ1 = some ρ2) : sAsg F g ρ = some (.nx ρ2) := by
  unfold sAsg
  rw [h, Option.bind_some, hg]
  rfl
theorem body1_ok (O : SgOk k rs fs) {v : PyData} (B : Bt 2000 30 v) {s0 s3 s4 s5 s6 s7 s8 s9 s10 s12 s13 s14 : SV} {rest : En} (h8 : s8 = .own (papers (allC k rs fs)) ∨ s8 = .dat (.list (papers (allC k rs fs)))) :
    ∃ t13 t14, body1 (s0 :: .dat (eS rs fs) :: .dat (eN k) :: s3 :: s4 :: s5 :: s6 :: s7 :: s8 :: s9 :: s10 :: .dat v :: s12 :: s13 :: s14 :: rest) = some (.nx (s0 :: .dat (eS rs fs) :: .dat (eN k) :: s3 :: s4 :: s5 :: s6 :: s7 :: .dat (.list (papers (allC k rs fs))) :: s9 :: s10 :: .dat v :: s12 :: t13 :: t14 :: rest)) := by
  have hr := B.repr (by decide) (by decide)
  have fr : ∀ {t13 t14 : SV}, frE 8 (s0 :: .dat (eS rs fs) :: .dat (eN k) :: s3 :: s4 :: s5 :: s6 :: s7 :: s8 :: s9 :: s10 :: .dat v :: s12 :: t13 :: t14 :: rest) = (s0 :: .dat (eS rs fs) :: .dat (eN k) :: s3 :: s4 :: s5 :: s6 :: s7 :: .dat (.list (papers (allC k rs fs))) :: s9 :: s10 :: .dat v :: s12 :: t13 :: t14 :: rest) := by
    intro t13 t14
    rcases h8 with rfl | rfl <;> rfl
  by_cases hv : ∃ c ∈ allC k rs fs, v = eC c
  · obtain ⟨c, hc, rfl⟩ := hv
    have hn := cellnumber_ok O hc
    have hin := in_papers O (v := eC c) B.gd (b := true) ⟨fun _ => ⟨c, hc, rfl⟩, fun _ => rfl⟩
    have l := idx_lt hc
    have l36 := allC_len O
    have bi := bt_int (i := (((allC k rs fs).idxOf c : Nat) : Int) + 1) (by omega) (by omega)
    have ri := bi.repr (by decide) (by decide)
    refine ⟨.dat .none, .dat (.int (((allC k rs fs).idxOf c : Nat) + 1)), ?_⟩
    unfold body1
    refine (sSeq_nx (sAsg_ok (dCau_ok (rCall_ok (ds := [eS rs fs, eN k, eC c]) rfl hn)) rfl)).trans ?_
    refine (sSeq_nx ((sFr_ok fr).trans ((sIf_f ((bAnd_t (bVal_ok (dOpS (dUnS rfl hr) rfl (by unfold inD; rw [hin]; rfl)))).trans (bVal_ok (dOpS (dUnS rfl ri) (dUnS (dOpS (dMet_ok rfl (aConsS (dUnS rfl hr) rfl) (index_papers O hc)) rfl add_int) ri) (ne_same (ok_shown bi.gd)))))).trans rfl))).trans ?_
    exact (sIf_f (bAnd_f (bVal_ok (dOpS (dUnS rfl hr) rfl (by unfold notInD; rw [hin]; rfl))))).trans rfl
  · have hv2 : ∀ c ∈ allC k rs fs, v ≠ eC c := fun c hc e => hv ⟨c, hc, e⟩
    have hn := cellnumber_no O B.gd B.wt hv2
    have hin := in_papers O (v := v) B.gd (b := false) ⟨fun z => (by cases z), fun z => absurd z hv⟩
    refine ⟨.dat (excD "BadCell" v), .dat .none, ?_⟩
    unfold body1
    refine (sSeq_nx (sAsg_ok (dCau_er (rCall_ok (ds := [eS rs fs, eN k, v]) rfl hn) (by decide +kernel)) rfl)).trans ?_
    refine (sSeq_nx ((sFr_ok fr).trans ((sIf_f (bAnd_f (bVal_ok (dOpS (dUnS rfl hr) rfl (by unfold inD; rw [hin]; rfl))))).trans rfl))).trans ?_
    have i1 : isxD isx_BadCell (excD "BadCell" v) = some (.bool true) := by
      show (List.lookup ("BadCell" : Str) isx_BadCell).map PyData.bool = _
      rw [show List.lookup ("BadCell" : Str) isx_BadCell = some true by decide +kernel]
      rfl
    have i2 : valD caus (excD "BadCell" v) = some v := by
      show (if ("BadCell" : Str) ∈ caus then some v else none) = some v
      exact if_pos (by decide +kernel)
    refine (sIf_f ((bAnd_t (bVal_ok (dOpS (dUnS rfl hr) rfl (by unfold notInD; rw [hin]; rfl)))).trans ((bOr_f (bNot_ok (b := true) (bVal_ok (dUnS rfl i1)))).trans (bVal_ok (dOpS (dUnS (dUnS rfl i2) hr) (dUnS rfl hr) (ne_same (ok_shown B.gd))))))).trans rfl
end
end DL
set_option Elab.async false
set_option linter.all false
set_option maxRecDepth 100000
set_option maxHeartbeats 1000000
/-! P21: a world by literals, value by value. -/
namespace DL
open PySem PySem.Spec L2
open PyProof.Rows hiding St
section
variable {k : Nat} {rs fs : List Sg} {bs : List Bool} {t : Ce → Bool}
theorem says_at (O : SgOk k rs fs) (hb : bs.length = (allC k rs fs).length) : bs = (allC k rs fs).map (says k rs fs bs) := by
  apply List.ext_getElem?
  intro i
  rw [List.getElem?_map]
  cases h : (allC k rs fs)[i]? with
  | none =>
    rw [List.getElem?_eq_none_iff] at h
    rw [List.getElem?_eq_none (by omega)]
    rfl
  | some c =>
    obtain ⟨hi, rfl⟩ := List.getElem?_eq_some_iff.mp h
    have hi2 : i < bs.length := by omega
    rw [Option.map_some, List.getElem?_eq_getElem hi2]
    unfold says
    rw [(allC_nd O).idxOf_getElem i hi, List.getD_eq_getElem?_getD, List.getElem?_eq_getElem hi2]
    rfl
/-- the number that tells a cell -/
def tell (all : List Ce) (t : Ce → Bool) (c : Ce) : Int := lit t (c, all.idxOf c)
theorem tell_pos {all : List Ce} {c : Ce} : decide (0 < tell all t c) = t c := by
  unfold tell lit
  cases h : t c with
  | true => rw [if_pos rfl]; exact decide_eq_true (by show (0 : Int) < (all.idxOf c : Nat) + 1; omega)
  | false => rw [if_neg (by simp)]; exact decide_eq_false (by show ¬ (0 : Int) < 0 - (all.idxOf c : Nat) - 1; omega)
theorem lits_tell (O : SgOk k rs fs) : litsB ((allC k rs fs).map t) = (allC k rs fs).map (tell (allC k rs fs) t) := by
  rw [← lits_B]
  unfold lits
  rw [zipIdx_nd (allC_nd O), List.map_map]
  rfl
theorem zip_known (O : SgOk k rs fs) : zipD ((litsB ((allC k rs fs).map t)).map .int) ((allC k rs fs).map eC) = (allC k rs fs).map fun c => .tuple [.int (tell (allC k rs fs) t c), eC c] := by
  unfold zipD
  rw [lits_tell O, List.map_map, List.zip_map', List.map_map]
  rfl
theorem known_ok (O : SgOk k rs fs) {s0 s4 s5 s8 s10 s11 s13 s14 s15 s16 s17 s18 s19 : SV} {cell : PyData} (h11 : s11 = .dat (eL ((allC k rs fs).map t))) :
    (lComp [9, 7] (iZpD (aCons (dVar 11) (aCons (dVar 3) aNil))) (gT 2 (gsCons (gN 9) (gsCons (gN 7) gsNil))) (bVal (dOp gtD (dVar 9) (dC (.int 0)))) (dVar 7)) [s0, .dat (eS rs fs), .dat (eN k), .dat (.list ((allC k rs fs).map eC)), s4, s5, .emp, .dat cell, s8, .emp, s10, s11, .emp, s13, s14, s15, s16, s17, s18, s19, .emp, .emp, .emp] = some (((allC k rs fs).filter t).map eC, [s0, .dat (eS rs fs), .dat (eN k), .dat (.list ((allC k rs fs).map eC)), s4, s5, .emp, .dat cell, s8, .emp, s10, .dat (eL ((allC k rs fs).map t)), .emp, s13, s14, s15, s16, s17, s18, s19, .emp, .emp, .emp]) := by
  subst h11
  have l := allC_len O
  have e := lComp_pureS (vs := [9, 7]) (I := (iZpD (aCons (dVar 11) (aCons (dVar 3) aNil)))) (g := (gT 2 (gsCons (gN 9) (gsCons (gN 7) gsNil)))) (C := (bVal (dOp gtD (dVar 9) (dC (.int 0))))) (F := dVar 7)
    (ρ := [s0, .dat (eS rs fs), .dat (eN k), .dat (.list ((allC k rs fs).map eC)), s4, s5, .emp, .dat cell, s8, .emp, s10, .dat (eL ((allC k rs fs).map t)), .emp, s13, s14, s15, s16, s17, s18, s19, .emp, .emp, .emp]) (xs := allC k rs fs) (enc := fun c => .tuple [.int (tell (allC k rs fs) t c), eC c]) (out := eC) (p := t) (by
      unfold iZpD
      rw [aConsS (d := eL ((allC k rs fs).map t)) rfl (aConsS (d := .list ((allC k rs fs).map eC)) rfl rfl), Option.bind_some]
      show some (zipD _ _, _) = _
      rw [zip_known O]) (by omega) (fun c hc => ⟨[s0, .dat (eS rs fs), .dat (eN k), .dat (.list ((allC k rs fs).map eC)), s4, s5, .emp, .dat (eC c), s8, .dat (.int (tell (allC k rs fs) t c)), s10, .dat (eL ((allC k rs fs).map t)), .emp, s13, s14, s15, s16, s17, s18, s19, .emp, .emp, .emp], rfl, bVal_ok (dOpS rfl rfl (by rw [gt_int, tell_pos])), rfl, fun _ => rfl⟩)
  simp only [e_back1, e_back0, e_wipe1, e_wipe0, List.getElem?_cons_succ, List.getElem?_cons_zero, List.set_cons_succ, List.set_cons_zero, nrmO_d, nrmO_e] at e
  exact e
theorem in_known (O : SgOk k rs fs) {c : Ce} (hc : c ∈ allC k rs fs) : inD (eC c) (.list (((allC k rs fs).filter t).map eC)) = some (.bool (t c)) := by
  have f := cell_facts O hc
  have hsub : ∀ d ∈ ((allC k rs fs).filter t).map eC, Sh 2 d := fun d hd => by
    obtain ⟨a, ha, rfl⟩ := List.mem_map.mp hd
    have ha := (List.mem_filter.mp ha).1
    exact sh_clean (cell_clean O ha) (cell_facts O ha).dp
  rw [in_list ((sh_clean (cell_clean O hc) f.dp).ok (by decide)) ((sh_l hsub).ok (by decide)), List.any_map]
  congr 2
  rw [Bool.eq_iff_iff, List.any_eq_true]
  constructor
  · rintro ⟨a, ha, e⟩
    obtain ⟨ha, hta⟩ := List.mem_filter.mp ha
    have := eC_inj (eqv_clean (cell_clean O ha) (cell_clean O hc) e)
    rw [← this]
    exact hta
  · intro h
    exact ⟨c, List.mem_filter.mpr ⟨hc, h⟩, eqv_refl (cell_clean O hc)⟩
theorem count_ok {p : Nat → Bool} {xs : List Nat} : cntD (xs.map fun x => .bool (p x)) [.bool true] = some (.int ((xs.filter p).length : Nat)) := by
  unfold cntD
  show (if (flatD (.bool true) && (xs.map fun x => PyData.bool (p x)).all flatD) = true then _ else _) = _
  rw [if_pos (by rw [List.all_map]; simp [flatD, List.all_eq_true])]
  rw [List.countP_map, List.countP_eq_length_filter]
  have : ((fun z => PyData.eqv z (.bool true)) ∘ fun x => PyData.bool (p x)) = p := by
    funext x
    show (p x == true) = p x
    simp
  rw [this]
/-- a function's rows counted -/
theorem rows_ok (O : SgOk k rs fs) {p : Sg} (hp : p ∈ fs) {s0 s4 s5 s8 s10 s11 s13 s14 s15 s16 s17 s18 s19 : SV} {cell : PyData} (h16 : s16 = .dat (.list (((allC k rs fs).filter t).map eC))) (h18 : s18 = .dat (.str p.1)) (h19 : s19 = .dat (.int p.2)) :
    (lComp [20] (iSeqD (dCall F__law_tuples (aCons (dVar 2) (aCons (dVar 19) aNil)))) (gN 20) bYes (dMet cntD (dFrz (lComp [21] (iR1 (aCons (dVar 2) aNil)) (gN 21) bYes (dOp inD (dTup (aCons (dC (.str "of")) (aCons (dVar 18) (aCons (dVar 20) (aCons (dVar 21) aNil))))) (dVar 16)))) (aCons (dC (.bool true)) aNil))) [s0, .dat (eS rs fs), .dat (eN k), .dat (.list ((allC k rs fs).map eC)), s4, s5, .emp, .dat cell, s8, .emp, s10, s11, .emp, s13, s14, s15, s16, s17, s18, s19, .emp, .emp, .emp] = some ((tup k p.2).map fun r => .int ((fits k t p r).length : Nat), [s0, .dat (eS rs fs), .dat (eN k), .dat (.list ((allC k rs fs).map eC)), s4, s5, .emp, .dat cell, s8, .emp, s10, s11, .emp, s13, s14, s15, .dat (.list (((allC k rs fs).filter t).map eC)), s17, .dat (.str p.1), .dat (.int p.2), .emp, .emp, .emp]) := by
  subst h16
  subst h18
  subst h19
  have k3 := O.k3
  have hp2 := Nat.le_trans (O.pf p hp) (show 1 ≤ 2 by decide)
  have l9 := (tup_len O.k1 O.k3 hp2).1
  have e := lComp_mapS (vs := [20]) (I := (iSeqD (dCall F__law_tuples (aCons (dVar 2) (aCons (dVar 19) aNil))))) (g := gN 20) (C := bYes) (F := (dMet cntD (dFrz (lComp [21] (iR1 (aCons (dVar 2) aNil)) (gN 21) bYes (dOp inD (dTup (aCons (dC (.str "of")) (aCons (dVar 18) (aCons (dVar 20) (aCons (dVar 21) aNil))))) (dVar 16)))) (aCons (dC (.bool true)) aNil)))
    (ρ := [s0, .dat (eS rs fs), .dat (eN k), .dat (.list ((allC k rs fs).map eC)), s4, s5, .emp, .dat cell, s8, .emp, s10, s11, .emp, s13, s14, s15, .dat (.list (((allC k rs fs).filter t).map eC)), s17, .dat (.str p.1), .dat (.int p.2), .emp, .emp, .emp]) (xs := tup k p.2) (enc := eRow) (out := fun r => .int ((fits k t p r).length : Nat)) (iSeq_ok (dCallS (aConsS rfl (aConsS rfl rfl)) (lawtup O.k1 O.k3 hp2))) (by omega) (fun r hr => by
      have e2 := lComp_mapS (vs := [21]) (I := (iR1 (aCons (dVar 2) aNil))) (g := gN 21) (C := bYes) (F := (dOp inD (dTup (aCons (dC (.str "of")) (aCons (dVar 18) (aCons (dVar 20) (aCons (dVar 21) aNil))))) (dVar 16)))
        (ρ := [s0, .dat (eS rs fs), .dat (eN k), .dat (.list ((allC k rs fs).map eC)), s4, s5, .emp, .dat cell, s8, .emp, s10, s11, .emp, s13, s14, s15, .dat (.list (((allC k rs fs).filter t).map eC)), s17, .dat (.str p.1), .dat (.int p.2), .dat (eRow r), .emp, .emp]) (xs := List.range k) (enc := eN) (out := fun x => .bool (t (.of p.1 r x))) (iR1_n (aConsS rfl rfl) (by omega)) (by simp; omega) (fun x hx => ⟨[s0, .dat (eS rs fs), .dat (eN k), .dat (.list ((allC k rs fs).map eC)), s4, s5, .emp, .dat cell, s8, .emp, s10, s11, .emp, s13, s14, s15, .dat (.list (((allC k rs fs).filter t).map eC)), s17, .dat (.str p.1), .dat (.int p.2), .dat (eRow r), .dat (eN x), .emp], rfl, rfl, rfl, dOpS (dTup_ok (aConsS rfl (aConsS rfl (aConsS rfl (aConsS rfl rfl)))) (by simp)) rfl (in_known O (mem_of hp hr (List.mem_range.mp hx)))⟩)
      exact ⟨[s0, .dat (eS rs fs), .dat (eN k), .dat (.list ((allC k rs fs).map eC)), s4, s5, .emp, .dat cell, s8, .emp, s10, s11, .emp, s13, s14, s15, .dat (.list (((allC k rs fs).filter t).map eC)), s17, .dat (.str p.1), .dat (.int p.2), .dat (eRow r), .emp, .emp], rfl, rfl, rfl, dMet_ok (dFrz_ok e2) rfl count_ok⟩)
  exact e
theorem ne_one {n : Nat} : neD (eN n) (.int 1) = some (.bool (!(n == 1))) := by
  show neD (.int (n : Int)) (.int 1) = _
  rw [ne_int, int1]
theorem eq_one {n : Nat} : eqD (eN n) (.int 1) = some (.bool (n == 1)) := by
  show eqD (.int (n : Int)) (.int 1) = _
  rw [eq_int, int1]
def rowsOf (k : Nat) (t : Ce → Bool) (fs : List Sg) : List Nat := fs.flatMap fun p => (tup k p.2).map fun r => (fits k t p r).length
theorem rows_all : (rowsOf k t fs).all (fun n => n == 1) = fs.all (fitF k t) := by
  unfold rowsOf
  rw [List.all_flatMap]
  congr 1
  funext p
  rw [List.all_map]
  rfl
theorem rows_any : (rowsOf k t fs).any (fun n => !(n == 1)) = !fs.all (fitF k t) := by
  rw [← rows_all, List.not_all_eq_any_not]
theorem rows_len (O : SgOk k rs fs) : (rowsOf k t fs).length ≤ 100 := by
  have := fm_len (f := fun p : Sg => (tup k p.2).map fun r => (fits k t p r).length) (m := 9) (xs := fs) fun p hp => by
    rw [List.length_map]
    exact (tup_len O.k1 O.k3 (Nat.le_trans (O.pf p hp) (by decide))).1
  have := O.f2
  unfold rowsOf
  omega
/-- the loop over the functions -/
theorem rowloop (O : SgOk k rs fs) {s0 s4 s5 s8 s10 s11 s13 s14 s15 s16 s17 s18 s19 : SV} {cell : PyData} (h16 : s16 = .dat (.list (((allC k rs fs).filter t).map eC))) :
    ∃ t18 t19, (sFor (iSeqD (dOp ixD (dVar 1) (dC (.int 1)))) (gT 2 (gsCons (gN 18) (gsCons (gN 19) gsNil))) (sExt 17 (dFrz (lComp [20] (iSeqD (dCall F__law_tuples (aCons (dVar 2) (aCons (dVar 19) aNil)))) (gN 20) bYes (dMet cntD (dFrz (lComp [21] (iR1 (aCons (dVar 2) aNil)) (gN 21) bYes (dOp inD (dTup (aCons (dC (.str "of")) (aCons (dVar 18) (aCons (dVar 20) (aCons (dVar 21) aNil))))) (dVar 16)))) (aCons (dC (.bool true)) aNil)))))) [s0, .dat (eS rs fs), .dat (eN k), .dat (.list ((allC k rs fs).map eC)), s4, s5, .emp, .dat cell, s8, .emp, s10, s11, .emp, s13, s14, s15, s16, .own [], s18, s19, .emp, .emp, .emp] = some (.nx [s0, .dat (eS rs fs), .dat (eN k), .dat (.list ((allC k rs fs).map eC)), s4, s5, .emp, .dat cell, s8, .emp, s10, s11, .emp, s13, s14, s15, s16, .own ((rowsOf k t fs).map eN), t18, t19, .emp, .emp, .emp]) := by
  have f2 := O.f2
  obtain ⟨ρ1, e1, t18, t19, rfl⟩ := sFor_invS (I := (iSeqD (dOp ixD (dVar 1) (dC (.int 1))))) (g := (gT 2 (gsCons (gN 18) (gsCons (gN 19) gsNil)))) (S := (sExt 17 (dFrz (lComp [20] (iSeqD (dCall F__law_tuples (aCons (dVar 2) (aCons (dVar 19) aNil)))) (gN 20) bYes (dMet cntD (dFrz (lComp [21] (iR1 (aCons (dVar 2) aNil)) (gN 21) bYes (dOp inD (dTup (aCons (dC (.str "of")) (aCons (dVar 18) (aCons (dVar 20) (aCons (dVar 21) aNil))))) (dVar 16)))) (aCons (dC (.bool true)) aNil))))))
    (ρ := [s0, .dat (eS rs fs), .dat (eN k), .dat (.list ((allC k rs fs).map eC)), s4, s5, .emp, .dat cell, s8, .emp, s10, s11, .emp, s13, s14, s15, s16, .own [], s18, s19, .emp, .emp, .emp]) (xs := fs) (enc := eR)
    (fun pre ρ => ∃ t18 t19, ρ = [s0, .dat (eS rs fs), .dat (eN k), .dat (.list ((allC k rs fs).map eC)), s4, s5, .emp, .dat cell, s8, .emp, s10, s11, .emp, s13, s14, s15, s16, .own ((rowsOf k t pre).map eN), t18, t19, .emp, .emp, .emp])
    (iSeqT_ok (dOpS rfl rfl ix1)) ⟨_, _, rfl⟩ (fun pre p post ρ e J => by
      obtain ⟨t18, t19, rfl⟩ := J
      have hp : p ∈ fs := by rw [e]; simp
      have e2 := rows_ok O hp (t := t) (s0 := s0) (s4 := s4) (s5 := s5) (s8 := s8) (s10 := s10) (s11 := s11) (s13 := s13) (s14 := s14) (s15 := s15) (s17 := .own ((rowsOf k t pre).map eN)) (cell := cell) h16 rfl rfl
      subst h16
      refine ⟨[s0, .dat (eS rs fs), .dat (eN k), .dat (.list ((allC k rs fs).map eC)), s4, s5, .emp, .dat cell, s8, .emp, s10, s11, .emp, s13, s14, s15, .dat (.list (((allC k rs fs).filter t).map eC)), .own ((rowsOf k t pre).map eN), .dat (.str p.1), .dat (.int p.2), .emp, .emp, .emp], _, rfl, sExt_ok (ds' := (rowsOf k t pre).map eN) (ds := (rowsOf k t pre).map eN) rfl (dFrz_ok e2) rfl ?_, .dat (.str p.1), .dat (.int p.2), ?_⟩
      · have h1 := rows_len (t := t) O
        rw [e] at h1
        unfold rowsOf at h1 ⊢
        rw [List.flatMap_append, List.flatMap_cons, List.length_append, List.length_append] at h1
        rw [List.length_map, List.length_map]
        rw [List.length_map] at h1
        omega
      · unfold rowsOf
        rw [List.flatMap_append, List.flatMap_cons, List.flatMap_nil, List.append_nil, List.map_append, List.map_map]
        rfl)
  subst h16
  exact ⟨t18, t19, e1⟩
end
end DL
set_option Elab.async false
set_option linter.all false
set_option maxRecDepth 100000
set_option maxHeartbeats 1000000
/-! P22: the second loop's turn. -/
namespace DL
open PySem PySem.Spec L2
open PyProof.Rows hiding St
section
variable {k : Nat} {rs fs : List Sg} {bs : List Bool}
def body2 : DS := (sSeq (sAsg (dCau caus (rCall F_world_by (aCons (dVar 1) (aCons (dVar 2) (aCons (dVar 11) aNil))))) (gT 2 (gsCons (gN 13) (gsCons (gN 14) gsNil))))
    (sIf (bNot (bVal (dCall F__law_are_literals (aCons (dVar 11) (aCons (dUn lenD (dVar 3)) aNil))))) (sIf (bOr (bNot (bVal (dUn (isxD isx_BadValues) (dVar 13)))) (bVal (dOp neD (dUn reprD (dUn (valD caus) (dVar 13))) (dUn reprD (dVar 11))))) (sRet (dC (.bool false))) sNext) (sSeq (sSet 16 (dFrz (lComp [9, 7] (iZpD (aCons (dVar 11) (aCons (dVar 3) aNil))) (gT 2 (gsCons (gN 9) (gsCons (gN 7) gsNil))) (bVal (dOp gtD (dVar 9) (dC (.int 0)))) (dVar 7))))
    (sSeq (sOwn 17 (lLst aNil))
    (sSeq (sFor (iSeqD (dOp ixD (dVar 1) (dC (.int 1)))) (gT 2 (gsCons (gN 18) (gsCons (gN 19) gsNil))) (sExt 17 (dFrz (lComp [20] (iSeqD (dCall F__law_tuples (aCons (dVar 2) (aCons (dVar 19) aNil)))) (gN 20) bYes (dMet cntD (dFrz (lComp [21] (iR1 (aCons (dVar 2) aNil)) (gN 21) bYes (dOp inD (dTup (aCons (dC (.str "of")) (aCons (dVar 18) (aCons (dVar 20) (aCons (dVar 21) aNil))))) (dVar 16)))) (aCons (dC (.bool true)) aNil))))))
    (sSeq (sFr 17 (sIf (bAnd (bVal (dUn anyD (dFrz (lComp [22] (iSeqD (dVar 17)) (gN 22) bYes (dOp neD (dVar 22) (dC (.int 1))))))) (bOr (bNot (bVal (dUn (isxD isx_NoWorld) (dVar 13)))) (bVal (dOp neD (dUn reprD (dUn (valD caus) (dVar 13))) (dUn reprD (dVar 11)))))) (sRet (dC (.bool false))) sNext))
    (sFr 17 (sIf (bAnd (bVal (dUn allD (dFrz (lComp [22] (iSeqD (dVar 17)) (gN 22) bYes (dOp eqD (dVar 22) (dC (.int 1))))))) (bOr (bVal (dOp isNotD (dVar 13) (dC .none))) (bVal (dOp neD (dFrz (lComp [7] (iSeqD (dVar 3)) (gN 7) (bVal (dCall F__law_so (aCons (dVar 1) (aCons (dVar 14) (aCons (dVar 7) aNil))))) (dVar 7))) (dVar 16))))) (sRet (dC (.bool false))) sNext))))))))
def body2e : DS := (sSeq (sSet 16 (dFrz (lComp [9, 7] (iZpD (aCons (dVar 11) (aCons (dVar 3) aNil))) (gT 2 (gsCons (gN 9) (gsCons (gN 7) gsNil))) (bVal (dOp gtD (dVar 9) (dC (.int 0)))) (dVar 7))))
    (sSeq (sOwn 17 (lLst aNil))
    (sSeq (sFor (iSeqD (dOp ixD (dVar 1) (dC (.int 1)))) (gT 2 (gsCons (gN 18) (gsCons (gN 19) gsNil))) (sExt 17 (dFrz (lComp [20] (iSeqD (dCall F__law_tuples (aCons (dVar 2) (aCons (dVar 19) aNil)))) (gN 20) bYes (dMet cntD (dFrz (lComp [21] (iR1 (aCons (dVar 2) aNil)) (gN 21) bYes (dOp inD (dTup (aCons (dC (.str "of")) (aCons (dVar 18) (aCons (dVar 20) (aCons (dVar 21) aNil))))) (dVar 16)))) (aCons (dC (.bool true)) aNil))))))
    (sSeq (sFr 17 (sIf (bAnd (bVal (dUn anyD (dFrz (lComp [22] (iSeqD (dVar 17)) (gN 22) bYes (dOp neD (dVar 22) (dC (.int 1))))))) (bOr (bNot (bVal (dUn (isxD isx_NoWorld) (dVar 13)))) (bVal (dOp neD (dUn reprD (dUn (valD caus) (dVar 13))) (dUn reprD (dVar 11)))))) (sRet (dC (.bool false))) sNext))
    (sFr 17 (sIf (bAnd (bVal (dUn allD (dFrz (lComp [22] (iSeqD (dVar 17)) (gN 22) bYes (dOp eqD (dVar 22) (dC (.int 1))))))) (bOr (bVal (dOp isNotD (dVar 13) (dC .none))) (bVal (dOp neD (dFrz (lComp [7] (iSeqD (dVar 3)) (gN 7) (bVal (dCall F__law_so (aCons (dVar 1) (aCons (dVar 14) (aCons (dVar 7) aNil))))) (dVar 7))) (dVar 16))))) (sRet (dC (.bool false))) sNext))))))
theorem lawso_wf (O : SgOk k rs fs) {t : Ce → Bool} (h : fs.all (fitF k t) = true) {c : Ce} (hc : c ∈ allC k rs fs) : F__law_so [eS rs fs, eW k (wsOf k t rs) (csOf k t fs), eC c] = some (.bool (t c)) := by
  have O2 : SgOk k (rsOf (wsOf k t rs)) (fsOf (csOf k t fs)) := by rw [rs_wf, fs_wf]; exact O
  have e := lawso O2 (wok_wf O h) (c := c) (by rw [rs_wf, fs_wf]; exact hc)
  rw [rs_wf, fs_wf, so_wf O h hc] at e
  exact e
theorem ne_list {l : List PyData} (h : cleanA l = true) (hd : ∀ d ∈ l, d.depth ≤ 5) : neD (.list l) (.list l) = some (.bool false) := by
  have s : Sh 6 (.list l) := sh_l fun d hd' => sh_clean (cleanA_iff.mp h d hd') (hd d hd')
  unfold neD
  rw [s.ok (by decide)]
  show some (PyData.bool (!PyData.eqvAll l l)) = _
  rw [eqvA_refl h]
  rfl
theorem any_rows {s0 s4 s5 s8 s10 s13 s14 s15 s16 s17 s18 s19 : SV} {cell : PyData} {L : List Nat} (hl : L.length ≤ 1000) (h17 : s17 = .dat (.list (L.map eN))) {s11 : SV} : (dUn anyD (dFrz (lComp [22] (iSeqD (dVar 17)) (gN 22) bYes (dOp neD (dVar 22) (dC (.int 1)))))) [s0, .dat (eS rs fs), .dat (eN k), .dat (.list ((allC k rs fs).map eC)), s4, s5, .emp, .dat cell, s8, .emp, s10, s11, .emp, s13, s14, s15, s16, s17, s18, s19, .emp, .emp, .emp] = some (.bool (L.any fun n => !(n == 1)), [s0, .dat (eS rs fs), .dat (eN k), .dat (.list ((allC k rs fs).map eC)), s4, s5, .emp, .dat cell, s8, .emp, s10, s11, .emp, s13, s14, s15, s16, s17, s18, s19, .emp, .emp, .emp]) := by
  subst h17
  have e := lComp_mapS (vs := [22]) (I := (iSeqD (dVar 17))) (g := gN 22) (C := bYes) (F := (dOp neD (dVar 22) (dC (.int 1)))) (ρ := [s0, .dat (eS rs fs), .dat (eN k), .dat (.list ((allC k rs fs).map eC)), s4, s5, .emp, .dat cell, s8, .emp, s10, s11, .emp, s13, s14, s15, s16, .dat (.list (L.map eN)), s18, s19, .emp, .emp, .emp]) (xs := L) (enc := eN) (out := fun n => .bool (!(n == 1))) (iSeq_ok rfl) (by omega) (fun n hn => ⟨[s0, .dat (eS rs fs), .dat (eN k), .dat (.list ((allC k rs fs).map eC)), s4, s5, .emp, .dat cell, s8, .emp, s10, s11, .emp, s13, s14, s15, s16, .dat (.list (L.map eN)), s18, s19, .emp, .emp, .dat (eN n)], rfl, rfl, rfl, dOpS rfl rfl ne_one⟩)
  exact dUn_ok (dFrz_ok e) anyD_ok
theorem all_rows {s0 s4 s5 s8 s10 s13 s14 s15 s16 s17 s18 s19 : SV} {cell : PyData} {L : List Nat} (hl : L.length ≤ 1000) (h17 : s17 = .dat (.list (L.map eN))) {s11 : SV} : (dUn allD (dFrz (lComp [22] (iSeqD (dVar 17)) (gN 22) bYes (dOp eqD (dVar 22) (dC (.int 1)))))) [s0, .dat (eS rs fs), .dat (eN k), .dat (.list ((allC k rs fs).map eC)), s4, s5, .emp, .dat cell, s8, .emp, s10, s11, .emp, s13, s14, s15, s16, s17, s18, s19, .emp, .emp, .emp] = some (.bool (L.all fun n => n == 1), [s0, .dat (eS rs fs), .dat (eN k), .dat (.list ((allC k rs fs).map eC)), s4, s5, .emp, .dat cell, s8, .emp, s10, s11, .emp, s13, s14, s15, s16, s17, s18, s19, .emp, .emp, .emp]) := by
  subst h17
  have e := lComp_mapS (vs := [22]) (I := (iSeqD (dVar 17))) (g := gN 22) (C := bYes) (F := (dOp eqD (dVar 22) (dC (.int 1)))) (ρ := [s0, .dat (eS rs fs), .dat (eN k), .dat (.list ((allC k rs fs).map eC)), s4, s5, .emp, .dat cell, s8, .emp, s10, s11, .emp, s13, s14, s15, s16, .dat (.list (L.map eN)), s18, s19, .emp, .emp, .emp]) (xs := L) (enc := eN) (out := fun n => .bool (n == 1)) (iSeq_ok rfl) (by omega) (fun n hn => ⟨[s0, .dat (eS rs fs), .dat (eN k), .dat (.list ((allC k rs fs).map eC)), s4, s5, .emp, .dat cell, s8, .emp, s10, s11, .emp, s13, s14, s15, s16, .dat (.list (L.map eN)), s18, s19, .emp, .emp, .dat (eN n)], rfl, rfl, rfl, dOpS rfl rfl eq_one⟩)
  exact dUn_ok (dFrz_ok e) allD_ok
theorem isx_no {v : PyData} : isxD isx_NoWorld (excD "NoWorld" v) = some (.bool true) := by
  show (List.lookup ("NoWorld" : Str) isx_NoWorld).map PyData.bool = _
  rw [show List.lookup ("NoWorld" : Str) isx_NoWorld = some true by decide +kernel]
  rfl
theorem isx_bv {v : PyData} : isxD isx_BadValues (excD "BadValues" v) = some (.bool true) := by
  show (List.lookup ("BadValues" : Str) isx_BadValues).map PyData.bool = _
  rw [show List.lookup ("BadValues" : Str) isx_BadValues = some true by decide +kernel]
  rfl
theorem val_no {v : PyData} : valD caus (excD "NoWorld" v) = some v := by
  show (if ("NoWorld" : Str) ∈ caus then some v else none) = some v
  exact if_pos (by decide +kernel)
theorem val_bv {v : PyData} : valD caus (excD "BadValues" v) = some v := by
  show (if ("BadValues" : Str) ∈ caus then some v else none) = some v
  exact if_pos (by decide +kernel)
theorem body2e_ok (O : SgOk k rs fs) (hb : bs.length = (allC k rs fs).length) (B : Bt 2000 30 (eL ((allC k rs fs).map (says k rs fs bs)))) {s0 s4 s5 s8 s10 s13 s14 s15 s16 s17 s18 s19 : SV} {cell : PyData}
    (h : (fs.all (fitF k (says k rs fs bs)) = true ∧ s13 = .dat .none ∧ s14 = .dat (eW k (wsOf k (says k rs fs bs) rs) (csOf k (says k rs fs bs) fs))) ∨ (fs.all (fitF k (says k rs fs bs)) = false ∧ s13 = .dat (excD "NoWorld" (eL ((allC k rs fs).map (says k rs fs bs)))))) :
    ∃ t16 t17 t18 t19, body2e [s0, .dat (eS rs fs), .dat (eN k), .dat (.list ((allC k rs fs).map eC)), s4, s5, .emp, .dat cell, s8, .emp, s10, .dat (eL ((allC k rs fs).map (says k rs fs bs))), .emp, s13, s14, s15, s16, s17, s18, s19, .emp, .emp, .emp] = some (.nx [s0, .dat (eS rs fs), .dat (eN k), .dat (.list ((allC k rs fs).map eC)), s4, s5, .emp, .dat cell, s8, .emp, s10, .dat (eL ((allC k rs fs).map (says k rs fs bs))), .emp, s13, s14, s15, t16, t17, t18, t19, .emp, .emp, .emp]) := by
  have hr := B.repr (by decide) (by decide)
  have l := allC_len O
  have lr := rows_len (t := says k rs fs bs) O
  have e1 := known_ok O (t := says k rs fs bs) (s0 := s0) (s4 := s4) (s5 := s5) (s8 := s8) (s10 := s10) (s13 := s13) (s14 := s14) (s15 := s15) (s16 := s16) (s17 := s17) (s18 := s18) (s19 := s19) (cell := cell) rfl
  obtain ⟨t18, t19, e2⟩ := rowloop O (t := says k rs fs bs) (s0 := s0) (s4 := s4) (s5 := s5) (s8 := s8) (s10 := s10) (s11 := .dat (eL ((allC k rs fs).map (says k rs fs bs)))) (s13 := s13) (s14 := s14) (s15 := s15) (s16 := (.dat (.list (((allC k rs fs).filter (says k rs fs bs)).map eC)))) (s17 := .emp) (s18 := s18) (s19 := s19) (cell := cell) rfl
  have a1 := any_rows (k := k) (rs := rs) (fs := fs) (s0 := s0) (s4 := s4) (s5 := s5) (s8 := s8) (s10 := s10) (s11 := .dat (eL ((allC k rs fs).map (says k rs fs bs)))) (s13 := s13) (s14 := s14) (s15 := s15) (s16 := (.dat (.list (((allC k rs fs).filter (says k rs fs bs)).map eC)))) (s18 := t18) (s19 := t19) (cell := cell) (L := rowsOf k (says k rs fs bs) fs) (by omega) rfl
  have a2 := all_rows (k := k) (rs := rs) (fs := fs) (s0 := s0) (s4 := s4) (s5 := s5) (s8 := s8) (s10 := s10) (s11 := .dat (eL ((allC k rs fs).map (says k rs fs bs)))) (s13 := s13) (s14 := s14) (s15 := s15) (s16 := (.dat (.list (((allC k rs fs).filter (says k rs fs bs)).map eC)))) (s18 := t18) (s19 := t19) (cell := cell) (L := rowsOf k (says k rs fs bs) fs) (by omega) rfl
  rw [rows_any] at a1
  rw [rows_all] at a2
  refine ⟨(.dat (.list (((allC k rs fs).filter (says k rs fs bs)).map eC))), (.dat (.list ((rowsOf k (says k rs fs bs) fs).map eN))), t18, t19, ?_⟩
  unfold body2e
  refine (sSeq_nx (sSet_ok (dFrz_ok e1))).trans ?_
  refine (sSeq_nx (ρ1 := [s0, .dat (eS rs fs), .dat (eN k), .dat (.list ((allC k rs fs).map eC)), s4, s5, .emp, .dat cell, s8, .emp, s10, .dat (eL ((allC k rs fs).map (says k rs fs bs))), .emp, s13, s14, s15, .dat (.list (((allC k rs fs).filter (says k rs fs bs)).map eC)), .own [], s18, s19, .emp, .emp, .emp]) rfl).trans ?_
  refine (sSeq_nx e2).trans ?_
  have cl : cleanA (((allC k rs fs).filter (says k rs fs bs)).map eC) = true := cleanA_iff.mpr fun d hd => by
    obtain ⟨c, hc, rfl⟩ := List.mem_map.mp hd
    exact cell_clean O (List.mem_filter.mp hc).1
  have dp : ∀ d ∈ ((allC k rs fs).filter (says k rs fs bs)).map eC, d.depth ≤ 5 := fun d hd => by
    obtain ⟨c, hc, rfl⟩ := List.mem_map.mp hd
    exact Nat.le_trans (cell_facts O (List.mem_filter.mp hc).1).dp (by decide)
  rcases h with ⟨hf, rfl, rfl⟩ | ⟨hf, rfl⟩
  · rw [hf] at a1 a2
    refine (sSeq_nx ((sFr_ok rfl).trans ((sIf_f (bAnd_f (bVal_ok a1))).trans rfl))).trans ?_
    refine (sFr_ok rfl).trans ?_
    have e3 := lComp_pureS (vs := [7]) (I := (iSeqD (dVar 3))) (g := gN 7) (C := (bVal (dCall F__law_so (aCons (dVar 1) (aCons (dVar 14) (aCons (dVar 7) aNil)))))) (F := dVar 7) (ρ := [s0, .dat (eS rs fs), .dat (eN k), .dat (.list ((allC k rs fs).map eC)), s4, s5, .emp, .dat cell, s8, .emp, s10, .dat (eL ((allC k rs fs).map (says k rs fs bs))), .emp, .dat .none, .dat (eW k (wsOf k (says k rs fs bs) rs) (csOf k (says k rs fs bs) fs)), s15, .dat (.list (((allC k rs fs).filter (says k rs fs bs)).map eC)), .dat (.list ((rowsOf k (says k rs fs bs) fs).map eN)), t18, t19, .emp, .emp, .emp]) (xs := allC k rs fs) (enc := eC) (out := eC) (p := says k rs fs bs) (iSeq_ok rfl) (by omega) (fun c hc => ⟨[s0, .dat (eS rs fs), .dat (eN k), .dat (.list ((allC k rs fs).map eC)), s4, s5, .emp, .dat (eC c), s8, .emp, s10, .dat (eL ((allC k rs fs).map (says k rs fs bs))), .emp, .dat .none, .dat (eW k (wsOf k (says k rs fs bs) rs) (csOf k (says k rs fs bs) fs)), s15, .dat (.list (((allC k rs fs).filter (says k rs fs bs)).map eC)), .dat (.list ((rowsOf k (says k rs fs bs) fs).map eN)), t18, t19, .emp, .emp, .emp], rfl, bVal_ok (dCallS (aConsS rfl (aConsS rfl (aConsS rfl rfl))) (lawso_wf O hf hc)), rfl, fun _ => rfl⟩)
    simp only [e_back1, e_back0, e_wipe1, e_wipe0, List.getElem?_cons_succ, List.getElem?_cons_zero, List.set_cons_succ, List.set_cons_zero, nrmO_d, nrmO_e] at e3
    exact (sIf_f ((bAnd_t (bVal_ok a2)).trans ((bOr_f (bVal_ok (dOpS (f := isNotD) (F := dVar 13) (G := dC .none) rfl rfl rfl))).trans (bVal_ok (dOpS (dFrz_ok e3) rfl (ne_list cl dp)))))).trans rfl
  · rw [hf] at a1 a2
    refine (sSeq_nx ((sFr_ok rfl).trans ((sIf_f ((bAnd_t (bVal_ok a1)).trans ((bOr_f (bNot_ok (b := true) (bVal_ok (dUnS rfl isx_no)))).trans (bVal_ok (dOpS (dUnS (dUnS rfl val_no) hr) (dUnS rfl hr) (ne_same (ok_shown B.gd))))))).trans rfl))).trans ?_
    exact (sFr_ok rfl).trans ((sIf_f (bAnd_f (bVal_ok a2))).trans rfl)
theorem body2_ok (O : SgOk k rs fs) {v : PyData} (B : Bt 2000 30 v) {s0 s4 s5 s8 s10 s13 s14 s15 s16 s17 s18 s19 : SV} {cell : PyData} : ∃ t13 t14 t16 t17 t18 t19, body2 [s0, .dat (eS rs fs), .dat (eN k), .dat (.list ((allC k rs fs).map eC)), s4, s5, .emp, .dat cell, s8, .emp, s10, .dat v, .emp, s13, s14, s15, s16, s17, s18, s19, .emp, .emp, .emp] = some (.nx [s0, .dat (eS rs fs), .dat (eN k), .dat (.list ((allC k rs fs).map eC)), s4, s5, .emp, .dat cell, s8, .emp, s10, .dat v, .emp, t13, t14, s15, t16, t17, t18, t19, .emp, .emp, .emp]) := by
  have hr := B.repr (by decide) (by decide)
  have l := allC_len O
  have la := lawarelits (n := (allC k rs fs).length) (B.noEx (by decide)) (by omega)
  have len : lenD (.list ((allC k rs fs).map eC)) = some (.int ((allC k rs fs).length : Nat)) := by
    rw [len_l, List.length_map]
  cases hl : isLit (allC k rs fs).length v with
  | false =>
    rw [hl] at la
    have hn := worldby_no O (B.noEx (by decide)) hl
    refine ⟨.dat (excD "BadValues" v), .dat .none, s16, s17, s18, s19, ?_⟩
    unfold body2
    refine (sSeq_nx (sAsg_ok (dCau_er (rCall_ok (ds := [eS rs fs, eN k, v]) rfl hn) (by decide +kernel)) rfl)).trans ?_
    refine (sIf_t (bNot_ok (b := false) (bVal_ok (dCallS (aConsS rfl (aConsS (dUnS rfl len) rfl)) la)))).trans ?_
    exact (sIf_f ((bOr_f (bNot_ok (b := true) (bVal_ok (dUnS rfl isx_bv)))).trans (bVal_ok (dOpS (dUnS (dUnS rfl val_bv) hr) (dUnS rfl hr) (ne_same (ok_shown B.gd)))))).trans rfl
  | true =>
    rw [hl] at la
    obtain ⟨bs, hb, rfl⟩ := isLit_bs hl
    have hw := worldby_ok O hb
    have hs := says_at O hb
    have tail : ∀ {t13 t14 : SV}, ((fs.all (fitF k (says k rs fs bs)) = true ∧ t13 = .dat .none ∧ t14 = .dat (eW k (wsOf k (says k rs fs bs) rs) (csOf k (says k rs fs bs) fs))) ∨ (fs.all (fitF k (says k rs fs bs)) = false ∧ t13 = .dat (excD "NoWorld" (eL bs)))) →
        ∃ t16 t17 t18 t19, (sIf (bNot (bVal (dCall F__law_are_literals (aCons (dVar 11) (aCons (dUn lenD (dVar 3)) aNil))))) (sIf (bOr (bNot (bVal (dUn (isxD isx_BadValues) (dVar 13)))) (bVal (dOp neD (dUn reprD (dUn (valD caus) (dVar 13))) (dUn reprD (dVar 11))))) (sRet (dC (.bool false))) sNext) body2e) [s0, .dat (eS rs fs), .dat (eN k), .dat (.list ((allC k rs fs).map eC)), s4, s5, .emp, .dat cell, s8, .emp, s10, .dat (eL bs), .emp, t13, t14, s15, s16, s17, s18, s19, .emp, .emp, .emp] = some (.nx [s0, .dat (eS rs fs), .dat (eN k), .dat (.list ((allC k rs fs).map eC)), s4, s5, .emp, .dat cell, s8, .emp, s10, .dat (eL bs), .emp, t13, t14, s15, t16, t17, t18, t19, .emp, .emp, .emp]) := by
      intro t13 t14 h
      have e0 := (sIf_f (S := (sIf (bOr (bNot (bVal (dUn (isxD isx_BadValues) (dVar 13)))) (bVal (dOp neD (dUn reprD (dUn (valD caus) (dVar 13))) (dUn reprD (dVar 11))))) (sRet (dC (.bool false))) sNext)) (T := body2e) (bNot_ok (b := true) (bVal_ok (dCallS (f := F__law_are_literals) (A := (aCons (dVar 11) (aCons (dUn lenD (dVar 3)) aNil))) (ρ := [s0, .dat (eS rs fs), .dat (eN k), .dat (.list ((allC k rs fs).map eC)), s4, s5, .emp, .dat cell, s8, .emp, s10, .dat (eL bs), .emp, t13, t14, s15, s16, s17, s18, s19, .emp, .emp, .emp]) (aConsS rfl (aConsS (dUnS rfl len) rfl)) la))))
      have B' := B
      have h' := h
      rw [e0]
      have e1 := body2e_ok O hb (by rw [← hs]; exact B') (s0 := s0) (s4 := s4) (s5 := s5) (s8 := s8) (s10 := s10) (s13 := t13) (s14 := t14) (s15 := s15) (s16 := s16) (s17 := s17) (s18 := s18) (s19 := s19) (cell := cell) (by rw [← hs]; exact h')
      rw [← hs] at e1
      exact e1
    cases hf : fs.all (fitF k (says k rs fs bs)) with
    | true =>
      rw [hf, if_pos rfl] at hw
      obtain ⟨t16, t17, t18, t19, e1⟩ := tail (t13 := .dat .none) (t14 := .dat (eW k (wsOf k (says k rs fs bs) rs) (csOf k (says k rs fs bs) fs))) (.inl ⟨hf, rfl, rfl⟩)
      refine ⟨.dat .none, .dat (eW k (wsOf k (says k rs fs bs) rs) (csOf k (says k rs fs bs) fs)), t16, t17, t18, t19, ?_⟩
      unfold body2
      exact (sSeq_nx (sAsg_ok (dCau_ok (rCall_ok (ds := [eS rs fs, eN k, eL bs]) rfl hw)) rfl)).trans e1
    | false =>
      rw [hf, if_neg (by simp)] at hw
      obtain ⟨t16, t17, t18, t19, e1⟩ := tail (t13 := .dat (excD "NoWorld" (eL bs))) (t14 := .dat .none) (.inr ⟨hf, rfl⟩)
      refine ⟨.dat (excD "NoWorld" (eL bs)), .dat .none, t16, t17, t18, t19, ?_⟩
      unfold body2
      exact (sSeq_nx (sAsg_ok (dCau_er (rCall_ok (ds := [eS rs fs, eN k, eL bs]) rfl hw) (by decide +kernel)) rfl)).trans e1
end
end DL
set_option Elab.async false
set_option linter.all false
set_option maxRecDepth 100000
set_option maxHeartbeats 1000000
/-! P23: the parts of law_right. -/
namespace DL
open PySem PySem.Spec L2
open PyProof.Rows hiding St
theorem repr_clean {d : PyData} (h : clean d = true) (hw : W d ≤ 10000) (hd : d.depth ≤ 60) : reprD d = some (.str d.shown) := (clean_bt h).repr hw hd
theorem WA_le {m : Nat} : ∀ {ds : List PyData}, (∀ d ∈ ds, W d ≤ m) → WA ds ≤ ds.length * (m + 2)
  | [], _ => by simp [WA]
  | d :: ds, h => by
    have h1 := h d List.mem_cons_self
    have h2 := WA_le fun e he => h e (List.mem_cons_of_mem _ he)
    rw [WA, List.length_cons, Nat.succ_mul]
    omega
theorem add_l {a b : List PyData} (h : a.length + b.length ≤ 1000000) : addD (.list a) (.list b) = some (.list (a ++ b)) := if_pos (decide_eq_true (by omega))
theorem ne_repr {F G : DF} {ρ : En} {d : PyData} (h1 : F ρ = some (d, ρ)) (h2 : G ρ = some (d, ρ)) (hc : clean d = true) (hw : W d ≤ 10000) (hd : d.depth ≤ 60) : bVal (dOp neD (dUn reprD F) (dUn reprD G)) ρ = some (false, ρ) :=
  bVal_ok (dOpS (dUnS h1 (repr_clean hc hw hd)) (dUnS h2 (repr_clean hc hw hd)) (ne_same (ok_shown (good_of hc))))
section
variable {k : Nat} {rs fs : List Sg}
theorem every_facts (O : SgOk k rs fs) : clean (.tuple ((allC k rs fs).map eC)) = true ∧ W (.tuple ((allC k rs fs).map eC)) ≤ 10000 ∧ (PyData.tuple ((allC k rs fs).map eC)).depth ≤ 60 := by
  have l := allC_len O
  refine ⟨?_, ?_, ?_⟩
  · simp only [clean]
    refine cleanA_iff.mpr fun d hd => ?_
    obtain ⟨c, hc, rfl⟩ := List.mem_map.mp hd
    exact cell_clean O hc
  · have := WA_le (m := 150) (ds := (allC k rs fs).map eC) fun d hd => by
      obtain ⟨c, hc, rfl⟩ := List.mem_map.mp hd
      exact (cell_facts O hc).wt
    rw [List.length_map] at this
    rw [W]
    omega
  · have := dp_all (n := 2) (ds := (allC k rs fs).map eC) fun d hd => by
      obtain ⟨c, hc, rfl⟩ := List.mem_map.mp hd
      exact (cell_facts O hc).dp
    simp only [PyData.depth]
    omega
theorem low_nat {n : Nat} (h : n ≤ 50) : low (eN n) = true := by
  show (decide (-50 ≤ (n : Int)) && decide ((n : Int) ≤ 50)) = true
  rw [decide_eq_true (by omega), decide_eq_true (by omega)]
  rfl
theorem low_int {i : Int} (h : -50 ≤ i) (h2 : i ≤ 50) : low (.int i) = true := by
  show (decide (-50 ≤ i) && decide (i ≤ 50)) = true
  rw [decide_eq_true h, decide_eq_true h2]
  rfl
theorem low_ints {js : List Int} (h : ∀ j ∈ js, -50 ≤ j ∧ j ≤ 50) : lowA (js.map .int) = true := lowA_iff.mpr fun d hd => by
  obtain ⟨j, hj, rfl⟩ := List.mem_map.mp hd
  exact low_int (h j hj).1 (h j hj).2
theorem WA_ints : ∀ {js : List Int}, WA (js.map .int) = 14 * js.length
  | [] => rfl
  | j :: js => by rw [List.map_cons, WA, WA_ints, W, List.length_cons]; omega
theorem dp_ints {js : List Int} : PyData.depthAll (js.map .int) = 0 := by
  have := dp_all (n := 0) (ds := js.map .int) fun d hd => by
    obtain ⟨j, _, rfl⟩ := List.mem_map.mp hd
    simp [PyData.depth]
  omega
theorem litsB_bd {bs : List Bool} (h : bs.length ≤ 40) : ∀ j ∈ litsB bs, -50 ≤ j ∧ j ≤ 50 := fun j hj => by
  obtain ⟨p, hp, rfl⟩ := List.mem_map.mp hj
  have := (mem_zipIdx hp).2
  unfold litB
  split <;> omega
theorem low_L {bs : List Bool} (h : bs.length ≤ 40) : low (eL bs) = true ∧ W (eL bs) ≤ 600 ∧ (eL bs).depth ≤ 1 := by
  refine ⟨low_ints (litsB_bd h), ?_, ?_⟩
  · show W (.tuple _) ≤ _
    rw [W, WA_ints, litsB_len]
    omega
  · show (PyData.tuple _).depth ≤ 1
    simp only [PyData.depth, dp_ints]
    decide
theorem world_facts {ws : List Tb} {cs : List Co} (O : SgOk k (rsOf ws) (fsOf cs)) (Wd : WOk k ws cs) : clean (eW k ws cs) = true ∧ W (eW k ws cs) ≤ 10000 ∧ (eW k ws cs).depth ≤ 60 := by
  have lw : ws.length ≤ 2 := by have := O.r2; simp at this; exact this
  have lc : cs.length ≤ 2 := by have := O.f2; simp at this; exact this
  have k3 := O.k3
  have rows : ∀ w ∈ ws, ∀ r ∈ w.2, low (eRow r) = true ∧ W (eRow r) ≤ 31 := fun w hw r hr => by
    have f := tup_row O.k1 O.k3 (prW O hw) r ((Wd.tab w hw).subset hr)
    have p2 := prW O hw
    refine ⟨low_row fun t ht => by have := f.2 t ht; omega, ?_⟩
    rw [W_row, f.1]
    omega
  have tabs : ∀ w ∈ ws, low (eT w) = true ∧ W (eT w) ≤ 300 ∧ (eT w).depth ≤ 2 := fun w hw => by
    have l9 := sub_len (Wd.tab w hw) (tup_len O.k1 O.k3 (prW O hw)).1
    refine ⟨?_, ?_, sh_rows.2⟩
    · show lowA (w.2.map eRow) = true
      refine lowA_iff.mpr fun d hd => ?_
      obtain ⟨r, hr, rfl⟩ := List.mem_map.mp hd
      exact (rows w hw r hr).1
    · show W (.tuple (w.2.map eRow)) ≤ _
      have := WA_le (m := 31) (ds := w.2.map eRow) fun d hd => by
        obtain ⟨r, hr, rfl⟩ := List.mem_map.mp hd
        exact (rows w hw r hr).2
      rw [List.length_map] at this
      rw [W]
      omega
  have cols : ∀ c ∈ cs, low (eCo c) = true ∧ W (eCo c) ≤ 300 ∧ (eCo c).depth ≤ 2 := fun c hc => by
    have l9 := (tup_len O.k1 O.k3 (Nat.le_trans (pfW O hc) (show 1 ≤ 2 by decide))).1
    have f := Wd.col c hc
    refine ⟨low_row fun t ht => by have := f.2 t ht; omega, ?_, Nat.le_trans dp_row (by decide)⟩
    show W (eRow c.2) ≤ _
    rw [W_row]
    omega
  have c1 : lowA (ws.map eT) = true := lowA_iff.mpr fun d hd => by
    obtain ⟨w, hw, rfl⟩ := List.mem_map.mp hd
    exact (tabs w hw).1
  have c2 : lowA (cs.map eCo) = true := lowA_iff.mpr fun d hd => by
    obtain ⟨w, hw, rfl⟩ := List.mem_map.mp hd
    exact (cols w hw).1
  refine ⟨low_clean ?_, ?_, ?_⟩
  · show lowA [eN k, .tuple (ws.map eT), .tuple (cs.map eCo)] = true
    simp only [lowA, low, c1, c2, low_nat (n := k) (by omega), Bool.and_self]
  · have w1 := WA_le (m := 300) (ds := ws.map eT) fun d hd => by
      obtain ⟨w, hw, rfl⟩ := List.mem_map.mp hd
      exact (tabs w hw).2.1
    have w2 := WA_le (m := 300) (ds := cs.map eCo) fun d hd => by
      obtain ⟨w, hw, rfl⟩ := List.mem_map.mp hd
      exact (cols w hw).2.1
    rw [List.length_map] at w1 w2
    show W (.tuple [eN k, .tuple (ws.map eT), .tuple (cs.map eCo)]) ≤ _
    rw [W, WA, WA, WA, WA, W, W]
    show 3 + (12 + 2 + _) ≤ _
    omega
  · have w1 := dp_all (n := 2) (ds := ws.map eT) fun d hd => by
      obtain ⟨w, hw, rfl⟩ := List.mem_map.mp hd
      exact (tabs w hw).2.2
    have w2 := dp_all (n := 2) (ds := cs.map eCo) fun d hd => by
      obtain ⟨w, hw, rfl⟩ := List.mem_map.mp hd
      exact (cols w hw).2.2
    show (PyData.tuple [eN k, .tuple (ws.map eT), .tuple (cs.map eCo)]).depth ≤ 60
    simp only [PyData.depth, PyData.depthAll, eN]
    omega
/-- eight bent values -/
theorem bents (hAll : True) {n : Nat} {xs : List PyData} {s4 s5 s8 s10 s11 s13 s14 s15 s16 s17 s18 s19 : SV} {cell : PyData} {d : PyData} {A : DFL} (hA : ∀ (ys : List PyData) (s12 : SV), A [.own ys, .dat (eS rs fs), .dat (eN k), .dat (.list ((allC k rs fs).map eC)), s4, s5, .emp, .dat cell, s8, .emp, s10, s11, s12, s13, s14, s15, s16, s17, s18, s19, .emp, .emp, .emp] = some ([d], [.own ys, .dat (eS rs fs), .dat (eN k), .dat (.list ((allC k rs fs).map eC)), s4, s5, .emp, .dat cell, s8, .emp, s10, s11, s12, s13, s14, s15, s16, s17, s18, s19, .emp, .emp, .emp])) (hl : low d = true) (hd : d.depth < 6) (hw : W d ≤ 700) (hn : n + 480 ≤ 1000000) (G : Good n xs) :
    ∃ (es ys : List PyData), (dFrz (lComp [12] (iR1 (aCons (dC (.int 8)) aNil)) (gN 12) bYes (dCallI (F__law_bent 6) 0 A))) [.own xs, .dat (eS rs fs), .dat (eN k), .dat (.list ((allC k rs fs).map eC)), s4, s5, .emp, .dat cell, s8, .emp, s10, s11, .emp, s13, s14, s15, s16, s17, s18, s19, .emp, .emp, .emp] = some (.list es, [.own ys, .dat (eS rs fs), .dat (eN k), .dat (.list ((allC k rs fs).map eC)), s4, s5, .emp, .dat cell, s8, .emp, s10, s11, .emp, s13, s14, s15, s16, s17, s18, s19, .emp, .emp, .emp]) ∧ es.length ≤ 8 ∧ (∀ e ∈ es, Bt 2000 30 e) ∧ Good (n + 480) ys := by
  obtain ⟨os, ρ', e, ys, h1, h2, h3, h4⟩ := lComp_inv (vs := [12]) (I := (iR1 (aCons (dC (.int 8)) aNil))) (g := gN 12) (C := bYes) (F := (dCallI (F__law_bent 6) 0 A))
    (ρ := [.own xs, .dat (eS rs fs), .dat (eN k), .dat (.list ((allC k rs fs).map eC)), s4, s5, .emp, .dat cell, s8, .emp, s10, s11, .emp, s13, s14, s15, s16, s17, s18, s19, .emp, .emp, .emp]) (ρ1 := [.own xs, .dat (eS rs fs), .dat (eN k), .dat (.list ((allC k rs fs).map eC)), s4, s5, .emp, .dat cell, s8, .emp, s10, s11, .emp, s13, s14, s15, s16, s17, s18, s19, .emp, .emp, .emp]) (xs := List.range 8) (enc := eN)
    (fun pr out ρ => ∃ (ys : List PyData), Good (n + 60 * pr.length) ys ∧ out.length = pr.length ∧ (∀ e ∈ out, Bt 2000 30 e) ∧ ρ = [.own ys, .dat (eS rs fs), .dat (eN k), .dat (.list ((allC k rs fs).map eC)), s4, s5, .emp, .dat cell, s8, .emp, s10, s11, .emp, s13, s14, s15, s16, s17, s18, s19, .emp, .emp, .emp])
    (iR1_n (m := 8) rfl (by decide)) (by simp) ⟨xs, G, rfl, (fun _ h => by cases h), rfl⟩ (fun pr x po out ρ e J => by
      obtain ⟨ys, G1, hlen, hb, rfl⟩ := J
      obtain ⟨rfl, hx⟩ := range_at e
      obtain ⟨b, zs, e1, B, G2⟩ := lawbent 6 (by decide) hl hd (by omega) (by omega) G1
      refine ⟨[.own ys, .dat (eS rs fs), .dat (eN k), .dat (.list ((allC k rs fs).map eC)), s4, s5, .emp, .dat cell, s8, .emp, s10, s11, .dat (eN pr.length), s13, s14, s15, s16, s17, s18, s19, .emp, .emp, .emp], true, _, rfl, rfl, fun _ => ⟨b, _, dCallI_ok rfl (hA ys (.dat (eN pr.length))) e1, zs, ?_, by simp [hlen], fun e he => ?_, rfl⟩, fun h => by cases h⟩
      · rw [List.length_append]; exact G2.mono (by simp; omega)
      · rcases List.mem_append.mp he with z | z
        · exact hb e z
        · rw [List.mem_singleton] at z; subst z; exact B.up (by omega) (by omega))
  subst h4
  simp only [List.length_range] at h1 h2
  exact ⟨os, ys, dFrz_ok e, by omega, h3, h1.mono (by omega)⟩
end
end DL
set_option Elab.async false
set_option linter.all false
set_option maxRecDepth 100000
set_option maxHeartbeats 1000000
/-! P24: law_right, stage by stage. -/
namespace DL
open PySem PySem.Spec L2
open PyProof.Rows hiding St
section
variable {k : Nat} {rs fs : List Sg} {t t' : Ce → Bool}
theorem fits_congr (h : ∀ c ∈ allC k rs fs, t c = t' c) {p : Sg} (hp : p ∈ fs) {r : List Nat} (hr : r ∈ tup k p.2) : fits k t p r = fits k t' p r :=
  List.filter_congr fun v hv => h _ (mem_of hp hr (List.mem_range.mp hv))
theorem ws_congr (h : ∀ c ∈ allC k rs fs, t c = t' c) : wsOf k t rs = wsOf k t' rs := by
  unfold wsOf
  refine List.map_congr_left fun p hp => ?_
  rw [List.filter_congr fun r hr => h _ (mem_is hp hr)]
theorem cs_congr (h : ∀ c ∈ allC k rs fs, t c = t' c) : csOf k t fs = csOf k t' fs := by
  unfold csOf
  refine List.map_congr_left fun p hp => ?_
  have : colOf k t p (tup k p.2) = colOf k t' p (tup k p.2) := by
    unfold colOf
    exact List.map_congr_left fun r hr => by rw [fits_congr h hp hr]
  rw [this]
theorem fit_congr (h : ∀ c ∈ allC k rs fs, t c = t' c) : fs.all (fitF k t) = fs.all (fitF k t') := by
  rw [Bool.eq_iff_iff, List.all_eq_true, List.all_eq_true]
  have : ∀ p ∈ fs, fitF k t p = fitF k t' p := fun p hp => by
    unfold fitF
    rw [Bool.eq_iff_iff, List.all_eq_true, List.all_eq_true]
    have h2 : ∀ r ∈ tup k p.2, fit1 k t p r = fit1 k t' p r := fun r hr => by unfold fit1; rw [fits_congr h hp hr]
    exact ⟨fun q r hr => by rw [← h2 r hr]; exact q r hr, fun q r hr => by rw [h2 r hr]; exact q r hr⟩
  exact ⟨fun q p hp => by rw [← this p hp]; exact q p hp, fun q p hp => by rw [this p hp]; exact q p hp⟩
theorem says_map {c : Ce} (hc : c ∈ allC k rs fs) : says k rs fs ((allC k rs fs).map t) c = t c := by
  unfold says
  rw [List.getD_eq_getElem?_getD, List.getElem?_map, List.getElem?_eq_getElem (idx_lt hc), List.getElem_idxOf (idx_lt hc)]
  rfl
theorem tup_ne {k p : Nat} (h1 : 1 ≤ k) (h2 : k ≤ 3) (h3 : p ≤ 2) : tup k p ≠ [] := by
  rcases three h1 h2 with rfl | rfl | rfl <;> rcases upto2 h3 with rfl | rfl | rfl <;> decide
theorem all_ne (O : SgOk k rs fs) : allC k rs fs ≠ [] := by
  have := O.r1
  cases rs with
  | nil => simp at this
  | cons p rs =>
    intro h
    have hp := O.pr p List.mem_cons_self
    obtain ⟨r, l, e⟩ := List.exists_cons_of_ne_nil (tup_ne O.k1 O.k3 hp)
    have : Ce.is p.1 r ∈ allC k (p :: rs) fs := mem_is List.mem_cons_self (by rw [e]; exact List.mem_cons_self)
    rw [h] at this
    cases this
end
section
variable {k : Nat} {ws : List Tb} {cs : List Co} {xs : List PyData} {cell : PyData}
theorem worldby_back (O : SgOk k (rsOf ws) (fsOf cs)) (W : WOk k ws cs) : F_world_by [eS (rsOf ws) (fsOf cs), eN k, (eL ((allC k (rsOf ws) (fsOf cs)).map (so k ws cs)))] = some (.ok (eW k ws cs)) := by
  have h := worldby_ok O (bs := (allC k (rsOf ws) (fsOf cs)).map (so k ws cs)) (by simp)
  have hs : ∀ c ∈ allC k (rsOf ws) (fsOf cs), says k (rsOf ws) (fsOf cs) ((allC k (rsOf ws) (fsOf cs)).map (so k ws cs)) c = so k ws cs c := fun c hc => says_map hc
  obtain ⟨w1, w2, w3⟩ := wf_so O W
  rw [fit_congr hs, ws_congr hs, cs_congr hs, w1, w2, w3, if_pos rfl] at h
  exact h
theorem stage4 (O : SgOk k (rsOf ws) (fsOf cs)) (W : WOk k ws cs) : (dUn tupleD (dFrz (lComp [6, 7] (iEnD (dVar 3)) (gT 2 (gsCons (gN 6) (gsCons (gN 7) gsNil))) bYes (dIf (bVal (dCall F__law_so (aCons (dVar 1) (aCons (dVar 4) (aCons (dVar 7) aNil))))) (dOp addD (dVar 6) (dC (.int 1))) (dOp subD (dUn negD (dVar 6)) (dC (.int 1))))))) [.own xs, .dat (eS (rsOf ws) (fsOf cs)), .dat (eN k), .dat (.list ((allC k (rsOf ws) (fsOf cs)).map eC)), .dat (eW k ws cs), .emp, .emp, .emp, .emp, .emp, .emp, .emp, .emp, .emp, .emp, .emp, .emp, .emp, .emp, .emp, .emp, .emp, .emp] = some ((eL ((allC k (rsOf ws) (fsOf cs)).map (so k ws cs))), [.own xs, .dat (eS (rsOf ws) (fsOf cs)), .dat (eN k), .dat (.list ((allC k (rsOf ws) (fsOf cs)).map eC)), .dat (eW k ws cs), .emp, .emp, .emp, .emp, .emp, .emp, .emp, .emp, .emp, .emp, .emp, .emp, .emp, .emp, .emp, .emp, .emp, .emp]) := by
  have l := allC_len O
  have e := lComp_mapS (vs := [6, 7]) (I := (iEnD (dVar 3))) (g := (gT 2 (gsCons (gN 6) (gsCons (gN 7) gsNil)))) (C := bYes) (F := (dIf (bVal (dCall F__law_so (aCons (dVar 1) (aCons (dVar 4) (aCons (dVar 7) aNil))))) (dOp addD (dVar 6) (dC (.int 1))) (dOp subD (dUn negD (dVar 6)) (dC (.int 1)))))
    (ρ := [.own xs, .dat (eS (rsOf ws) (fsOf cs)), .dat (eN k), .dat (.list ((allC k (rsOf ws) (fsOf cs)).map eC)), .dat (eW k ws cs), .emp, .emp, .emp, .emp, .emp, .emp, .emp, .emp, .emp, .emp, .emp, .emp, .emp, .emp, .emp, .emp, .emp, .emp]) (xs := (allC k (rsOf ws) (fsOf cs)).zipIdx) (enc := fun p => .tuple [.int p.2, eC p.1]) (out := fun p => .int (lit (so k ws cs) p)) (by
      show some (numbD _, _) = _
      rw [numb_ok]) (by rw [List.length_zipIdx]; omega) (fun p hp => ⟨[.own xs, .dat (eS (rsOf ws) (fsOf cs)), .dat (eN k), .dat (.list ((allC k (rsOf ws) (fsOf cs)).map eC)), .dat (eW k ws cs), .emp, .dat (.int p.2), .dat (eC p.1), .emp, .emp, .emp, .emp, .emp, .emp, .emp, .emp, .emp, .emp, .emp, .emp, .emp, .emp, .emp], rfl, rfl, rfl, by
        have hc := bVal_ok (dCallS (f := F__law_so) (A := (aCons (dVar 1) (aCons (dVar 4) (aCons (dVar 7) aNil)))) (ρ := [.own xs, .dat (eS (rsOf ws) (fsOf cs)), .dat (eN k), .dat (.list ((allC k (rsOf ws) (fsOf cs)).map eC)), .dat (eW k ws cs), .emp, .dat (.int p.2), .dat (eC p.1), .emp, .emp, .emp, .emp, .emp, .emp, .emp, .emp, .emp, .emp, .emp, .emp, .emp, .emp, .emp]) rfl (lawso O W (mem_zipIdx hp).1))
        unfold dIf
        rw [hc, Option.bind_some]
        unfold lit
        cases so k ws cs p.1 with
        | true => rfl
        | false =>
          rw [if_neg (by simp), if_neg (by simp)]
          refine dOpS (d := .int (-(p.2 : Int))) (dUnS rfl rfl) rfl ?_
          rw [sub_int', Int.zero_sub]⟩)
  simp only [e_back1, e_back0, e_wipe1, e_wipe0, List.getElem?_cons_succ, List.getElem?_cons_zero, List.set_cons_succ, List.set_cons_zero, nrmO_d, nrmO_e] at e
  refine dUn_ok (dFrz_ok e) ?_
  show some (PyData.tuple _) = some (eL _)
  unfold eL
  rw [← lits_B]
  unfold lits
  rw [List.map_map]
  rfl
theorem stage3 (O : SgOk k (rsOf ws) (fsOf cs)) : (sIf (bVal (dOp neD (dUn reprD (dCall F_cells (aCons (dVar 1) (aCons (dVar 2) aNil)))) (dUn reprD (dUn tupleD (dVar 3))))) (sRet (dC (.bool false))) sNext) [.own xs, .dat (eS (rsOf ws) (fsOf cs)), .dat (eN k), .dat (.list ((allC k (rsOf ws) (fsOf cs)).map eC)), .dat (eW k ws cs), .emp, .emp, .emp, .emp, .emp, .emp, .emp, .emp, .emp, .emp, .emp, .emp, .emp, .emp, .emp, .emp, .emp, .emp] = some (.nx [.own xs, .dat (eS (rsOf ws) (fsOf cs)), .dat (eN k), .dat (.list ((allC k (rsOf ws) (fsOf cs)).map eC)), .dat (eW k ws cs), .emp, .emp, .emp, .emp, .emp, .emp, .emp, .emp, .emp, .emp, .emp, .emp, .emp, .emp, .emp, .emp, .emp, .emp]) := by
  obtain ⟨h1, h2, h3⟩ := every_facts O
  exact (sIf_f (ne_repr (ρ := [.own xs, .dat (eS (rsOf ws) (fsOf cs)), .dat (eN k), .dat (.list ((allC k (rsOf ws) (fsOf cs)).map eC)), .dat (eW k ws cs), .emp, .emp, .emp, .emp, .emp, .emp, .emp, .emp, .emp, .emp, .emp, .emp, .emp, .emp, .emp, .emp, .emp, .emp]) (d := .tuple ((allC k (rsOf ws) (fsOf cs)).map eC)) (dCallS (aConsS rfl (aConsS rfl rfl)) (cells_ok O)) (dUnS (F := dVar 3) (d := .list ((allC k (rsOf ws) (fsOf cs)).map eC)) rfl rfl) h1 h2 h3)).trans rfl
theorem stage5 (O : SgOk k (rsOf ws) (fsOf cs)) (W : WOk k ws cs) : (sIf (bOr (bVal (dOp neD (dUn reprD (dCall F_cells_in (aCons (dVar 1) (aCons (dVar 4) aNil)))) (dUn reprD (dVar 5)))) (bVal (dOp neD (dUn reprD (dCall (okOf F_world_by) (aCons (dVar 1) (aCons (dVar 2) (aCons (dVar 5) aNil))))) (dUn reprD (dVar 4))))) (sRet (dC (.bool false))) sNext) [.own xs, .dat (eS (rsOf ws) (fsOf cs)), .dat (eN k), .dat (.list ((allC k (rsOf ws) (fsOf cs)).map eC)), .dat (eW k ws cs), .dat (eL ((allC k (rsOf ws) (fsOf cs)).map (so k ws cs))), .emp, .emp, .emp, .emp, .emp, .emp, .emp, .emp, .emp, .emp, .emp, .emp, .emp, .emp, .emp, .emp, .emp] = some (.nx [.own xs, .dat (eS (rsOf ws) (fsOf cs)), .dat (eN k), .dat (.list ((allC k (rsOf ws) (fsOf cs)).map eC)), .dat (eW k ws cs), .dat (eL ((allC k (rsOf ws) (fsOf cs)).map (so k ws cs))), .emp, .emp, .emp, .emp, .emp, .emp, .emp, .emp, .emp, .emp, .emp, .emp, .emp, .emp, .emp, .emp, .emp]) := by
  have l := allC_len O
  have f := low_L (bs := (allC k (rsOf ws) (fsOf cs)).map (so k ws cs)) (by rw [List.length_map]; omega)
  have h1 : F_cells_in [eS (rsOf ws) (fsOf cs), eW k ws cs] = some (eL ((allC k (rsOf ws) (fsOf cs)).map (so k ws cs))) := by
    rw [cellsin O W, lits_B]
    rfl
  have h2 := worldby_back O W
  obtain ⟨g1, g2, g3⟩ := world_facts O W
  refine (sIf_f ((bOr_f (ne_repr (d := (eL ((allC k (rsOf ws) (fsOf cs)).map (so k ws cs)))) (dCallS (aConsS rfl (aConsS rfl rfl)) h1) rfl (low_clean f.1) (Nat.le_trans f.2.1 (by decide)) (Nat.le_trans f.2.2 (by decide)))).trans (ne_repr (d := eW k ws cs) (dCallS (ds := [eS (rsOf ws) (fsOf cs), eN k, (eL ((allC k (rsOf ws) (fsOf cs)).map (so k ws cs)))]) rfl (by unfold okOf; rw [h2])) rfl g1 g2 g3))).trans rfl
theorem stage7 (O : SgOk k (rsOf ws) (fsOf cs)) : (lComp [9] (iSeqD (dVar 3)) (gN 9) bYes (dUn reprD (dVar 9))) [.own xs, .dat (eS (rsOf ws) (fsOf cs)), .dat (eN k), .dat (.list ((allC k (rsOf ws) (fsOf cs)).map eC)), .dat (eW k ws cs), .dat (eL ((allC k (rsOf ws) (fsOf cs)).map (so k ws cs))), .emp, .dat cell, .emp, .emp, .emp, .emp, .emp, .emp, .emp, .emp, .emp, .emp, .emp, .emp, .emp, .emp, .emp] = some ((papers (allC k (rsOf ws) (fsOf cs))), [.own xs, .dat (eS (rsOf ws) (fsOf cs)), .dat (eN k), .dat (.list ((allC k (rsOf ws) (fsOf cs)).map eC)), .dat (eW k ws cs), .dat (eL ((allC k (rsOf ws) (fsOf cs)).map (so k ws cs))), .emp, .dat cell, .emp, .emp, .emp, .emp, .emp, .emp, .emp, .emp, .emp, .emp, .emp, .emp, .emp, .emp, .emp]) := by
  have l := allC_len O
  have e := lComp_mapS (vs := [9]) (I := (iSeqD (dVar 3))) (g := gN 9) (C := bYes) (F := dUn reprD (dVar 9)) (ρ := [.own xs, .dat (eS (rsOf ws) (fsOf cs)), .dat (eN k), .dat (.list ((allC k (rsOf ws) (fsOf cs)).map eC)), .dat (eW k ws cs), .dat (eL ((allC k (rsOf ws) (fsOf cs)).map (so k ws cs))), .emp, .dat cell, .emp, .emp, .emp, .emp, .emp, .emp, .emp, .emp, .emp, .emp, .emp, .emp, .emp, .emp, .emp]) (xs := allC k (rsOf ws) (fsOf cs)) (enc := eC) (out := fun c => .str (eC c).shown) (iSeq_ok rfl) (by omega) (fun c hc => ⟨[.own xs, .dat (eS (rsOf ws) (fsOf cs)), .dat (eN k), .dat (.list ((allC k (rsOf ws) (fsOf cs)).map eC)), .dat (eW k ws cs), .dat (eL ((allC k (rsOf ws) (fsOf cs)).map (so k ws cs))), .emp, .dat cell, .emp, .dat (eC c), .emp, .emp, .emp, .emp, .emp, .emp, .emp, .emp, .emp, .emp, .emp, .emp, .emp], rfl, rfl, rfl, dUnS rfl (repr_clean (cell_clean O hc) (Nat.le_trans (cell_facts O hc).wt (by decide)) (Nat.le_trans (cell_facts O hc).dp (by decide)))⟩)
  simp only [e_back1, e_back0, e_wipe1, e_wipe0, List.getElem?_cons_succ, List.getElem?_cons_zero, List.set_cons_succ, List.set_cons_zero, nrmO_d, nrmO_e] at e
  exact e
theorem stage8 (O : SgOk k (rsOf ws) (fsOf cs)) {c0 : Ce} (hc0 : c0 ∈ allC k (rsOf ws) (fsOf cs)) (hcell : cell = eC c0) : ∃ vals, (dFrz (lLst (aCons (dVar 7) (aCons (dFrz (lUn itemsD (dVar 7))) (aCons (dSl (dVar 7) oNo (oI (dC (.int 2)))) (aCons (dOp addD (dVar 7) (dTup (aCons (dC (.int 0)) aNil))) (aCons (dTup (aCons (dC (.str "is")) (aCons (dC (.str "none")) (aCons (dTup aNil) aNil)))) (aCons (dTup (aCons (dC (.str "of")) (aCons (dOp ixD (dOp ixD (dOp ixD (dVar 1) (dC (.int 0))) (dC (.int 0))) (dC (.int 0))) (aCons (dTup aNil) (aCons (dC (.int 0)) aNil))))) (aCons (dC .none) (aCons (dTup (aCons (dC (.bool true)) aNil)) aNil)))))))))) [.own xs, .dat (eS (rsOf ws) (fsOf cs)), .dat (eN k), .dat (.list ((allC k (rsOf ws) (fsOf cs)).map eC)), .dat (eW k ws cs), .dat (eL ((allC k (rsOf ws) (fsOf cs)).map (so k ws cs))), .emp, .dat cell, .own (papers (allC k (rsOf ws) (fsOf cs))), .emp, .emp, .emp, .emp, .emp, .emp, .emp, .emp, .emp, .emp, .emp, .emp, .emp, .emp] = some (.list vals, [.own xs, .dat (eS (rsOf ws) (fsOf cs)), .dat (eN k), .dat (.list ((allC k (rsOf ws) (fsOf cs)).map eC)), .dat (eW k ws cs), .dat (eL ((allC k (rsOf ws) (fsOf cs)).map (so k ws cs))), .emp, .dat cell, .own (papers (allC k (rsOf ws) (fsOf cs))), .emp, .emp, .emp, .emp, .emp, .emp, .emp, .emp, .emp, .emp, .emp, .emp, .emp, .emp]) ∧ vals.length ≤ 8 ∧ ∀ v ∈ vals, Bt 2000 30 v := by
  subst hcell
  have f := cell_facts O hc0
  obtain ⟨ds, hds⟩ : ∃ ds, eC c0 = .tuple ds := by cases c0 <;> exact ⟨_, rfl⟩
  have fl := f.lw
  have fw := f.wt
  have fd := f.dp
  rw [hds] at fl fw fd
  simp only [low] at fl
  have cl := lowA_clean fl
  rw [W] at fw
  simp only [PyData.depth] at fd
  have len := WA_len (a := ds)
  have dep : ∀ e ∈ ds, e.depth + 1 ≤ 30 := fun e he => by have := dp_mem he; omega
  obtain ⟨r0, rr, hr⟩ : ∃ r0 rr, rsOf ws = r0 :: rr := List.exists_cons_of_ne_nil fun z => by have := O.r1; rw [z] at this; simp at this
  have hn := ok7 (O.nm r0 (List.mem_append_left _ (by rw [hr]; exact List.mem_cons_self)))
  have i1 : okS "is" = true := by decide +kernel
  have i2 : okS "of" = true := by decide +kernel
  have i3 : okS "none" = true := by decide +kernel
  have o0 : okI 0 = true := okI_nat (by decide) (by decide)
  have n0 : ixD (.tuple ((rsOf ws).map eR)) (.int 0) = some (eR r0) := by rw [hr]; exact ix0
  have e1 : dFrz (lUn itemsD (dVar 7)) [.own xs, .dat (eS (rsOf ws) (fsOf cs)), .dat (eN k), .dat (.list ((allC k (rsOf ws) (fsOf cs)).map eC)), .dat (eW k ws cs), .dat (eL ((allC k (rsOf ws) (fsOf cs)).map (so k ws cs))), .emp, .dat (eC c0), .own (papers (allC k (rsOf ws) (fsOf cs))), .emp, .emp, .emp, .emp, .emp, .emp, .emp, .emp, .emp, .emp, .emp, .emp, .emp, .emp] = some (.list ds, [.own xs, .dat (eS (rsOf ws) (fsOf cs)), .dat (eN k), .dat (.list ((allC k (rsOf ws) (fsOf cs)).map eC)), .dat (eW k ws cs), .dat (eL ((allC k (rsOf ws) (fsOf cs)).map (so k ws cs))), .emp, .dat (eC c0), .own (papers (allC k (rsOf ws) (fsOf cs))), .emp, .emp, .emp, .emp, .emp, .emp, .emp, .emp, .emp, .emp, .emp, .emp, .emp, .emp]) := dFrz_ok (lUn_ok (d := eC c0) rfl (by rw [hds]; rfl))
  have e2 : dSl (dVar 7) oNo (oI (dC (.int 2))) [.own xs, .dat (eS (rsOf ws) (fsOf cs)), .dat (eN k), .dat (.list ((allC k (rsOf ws) (fsOf cs)).map eC)), .dat (eW k ws cs), .dat (eL ((allC k (rsOf ws) (fsOf cs)).map (so k ws cs))), .emp, .dat (eC c0), .own (papers (allC k (rsOf ws) (fsOf cs))), .emp, .emp, .emp, .emp, .emp, .emp, .emp, .emp, .emp, .emp, .emp, .emp, .emp, .emp] = some (.tuple (cutD ds none (some 2)), [.own xs, .dat (eS (rsOf ws) (fsOf cs)), .dat (eN k), .dat (.list ((allC k (rsOf ws) (fsOf cs)).map eC)), .dat (eW k ws cs), .dat (eL ((allC k (rsOf ws) (fsOf cs)).map (so k ws cs))), .emp, .dat (eC c0), .own (papers (allC k (rsOf ws) (fsOf cs))), .emp, .emp, .emp, .emp, .emp, .emp, .emp, .emp, .emp, .emp, .emp, .emp, .emp, .emp]) := dSlS (d := eC c0) rfl rfl (oI_ok rfl) (by rw [hds]; rfl)
  have e3 : dOp addD (dVar 7) (dTup (aCons (dC (.int 0)) aNil)) [.own xs, .dat (eS (rsOf ws) (fsOf cs)), .dat (eN k), .dat (.list ((allC k (rsOf ws) (fsOf cs)).map eC)), .dat (eW k ws cs), .dat (eL ((allC k (rsOf ws) (fsOf cs)).map (so k ws cs))), .emp, .dat (eC c0), .own (papers (allC k (rsOf ws) (fsOf cs))), .emp, .emp, .emp, .emp, .emp, .emp, .emp, .emp, .emp, .emp, .emp, .emp, .emp, .emp] = some (.tuple (ds ++ [.int 0]), [.own xs, .dat (eS (rsOf ws) (fsOf cs)), .dat (eN k), .dat (.list ((allC k (rsOf ws) (fsOf cs)).map eC)), .dat (eW k ws cs), .dat (eL ((allC k (rsOf ws) (fsOf cs)).map (so k ws cs))), .emp, .dat (eC c0), .own (papers (allC k (rsOf ws) (fsOf cs))), .emp, .emp, .emp, .emp, .emp, .emp, .emp, .emp, .emp, .emp, .emp, .emp, .emp, .emp]) := dOpS (d := eC c0) rfl (dTup_ok rfl (by simp)) (by rw [hds]; exact add_t (by simp; omega))
  have e4 : dTup (aCons (dC (.str "is")) (aCons (dC (.str "none")) (aCons (dTup aNil) aNil))) [.own xs, .dat (eS (rsOf ws) (fsOf cs)), .dat (eN k), .dat (.list ((allC k (rsOf ws) (fsOf cs)).map eC)), .dat (eW k ws cs), .dat (eL ((allC k (rsOf ws) (fsOf cs)).map (so k ws cs))), .emp, .dat (eC c0), .own (papers (allC k (rsOf ws) (fsOf cs))), .emp, .emp, .emp, .emp, .emp, .emp, .emp, .emp, .emp, .emp, .emp, .emp, .emp, .emp] = some (.tuple [.str "is", .str "none", .tuple []], [.own xs, .dat (eS (rsOf ws) (fsOf cs)), .dat (eN k), .dat (.list ((allC k (rsOf ws) (fsOf cs)).map eC)), .dat (eW k ws cs), .dat (eL ((allC k (rsOf ws) (fsOf cs)).map (so k ws cs))), .emp, .dat (eC c0), .own (papers (allC k (rsOf ws) (fsOf cs))), .emp, .emp, .emp, .emp, .emp, .emp, .emp, .emp, .emp, .emp, .emp, .emp, .emp, .emp]) := dTup_ok (aConsS rfl (aConsS rfl (aConsS (dTup_ok rfl (by simp)) rfl))) (by simp)
  have e5 : dTup (aCons (dC (.str "of")) (aCons (dOp ixD (dOp ixD (dOp ixD (dVar 1) (dC (.int 0))) (dC (.int 0))) (dC (.int 0))) (aCons (dTup aNil) (aCons (dC (.int 0)) aNil)))) [.own xs, .dat (eS (rsOf ws) (fsOf cs)), .dat (eN k), .dat (.list ((allC k (rsOf ws) (fsOf cs)).map eC)), .dat (eW k ws cs), .dat (eL ((allC k (rsOf ws) (fsOf cs)).map (so k ws cs))), .emp, .dat (eC c0), .own (papers (allC k (rsOf ws) (fsOf cs))), .emp, .emp, .emp, .emp, .emp, .emp, .emp, .emp, .emp, .emp, .emp, .emp, .emp, .emp] = some (.tuple [.str "of", .str r0.1, .tuple [], .int 0], [.own xs, .dat (eS (rsOf ws) (fsOf cs)), .dat (eN k), .dat (.list ((allC k (rsOf ws) (fsOf cs)).map eC)), .dat (eW k ws cs), .dat (eL ((allC k (rsOf ws) (fsOf cs)).map (so k ws cs))), .emp, .dat (eC c0), .own (papers (allC k (rsOf ws) (fsOf cs))), .emp, .emp, .emp, .emp, .emp, .emp, .emp, .emp, .emp, .emp, .emp, .emp, .emp, .emp]) := dTup_ok (aConsS rfl (aConsS (dOpS (dOpS (dOpS rfl rfl ix0) rfl n0) rfl ix0) (aConsS (dTup_ok rfl (by simp)) (aConsS rfl rfl)))) (by simp)
  have e6 : dTup (aCons (dC (.bool true)) aNil) [.own xs, .dat (eS (rsOf ws) (fsOf cs)), .dat (eN k), .dat (.list ((allC k (rsOf ws) (fsOf cs)).map eC)), .dat (eW k ws cs), .dat (eL ((allC k (rsOf ws) (fsOf cs)).map (so k ws cs))), .emp, .dat (eC c0), .own (papers (allC k (rsOf ws) (fsOf cs))), .emp, .emp, .emp, .emp, .emp, .emp, .emp, .emp, .emp, .emp, .emp, .emp, .emp, .emp] = some (.tuple [.bool true], [.own xs, .dat (eS (rsOf ws) (fsOf cs)), .dat (eN k), .dat (.list ((allC k (rsOf ws) (fsOf cs)).map eC)), .dat (eW k ws cs), .dat (eL ((allC k (rsOf ws) (fsOf cs)).map (so k ws cs))), .emp, .dat (eC c0), .own (papers (allC k (rsOf ws) (fsOf cs))), .emp, .emp, .emp, .emp, .emp, .emp, .emp, .emp, .emp, .emp, .emp, .emp, .emp, .emp]) := dTup_ok rfl (by simp)
  refine ⟨[eC c0, .list ds, .tuple (cutD ds none (some 2)), .tuple (ds ++ [.int 0]), .tuple [.str "is", .str "none", .tuple []], .tuple [.str "of", .str r0.1, .tuple [], .int 0], .none, .tuple [.bool true]], dFrz_ok (lLst_ok (aConsS rfl (aConsS e1 (aConsS e2 (aConsS e3 (aConsS e4 (aConsS e5 (aConsS rfl (aConsS e6 rfl)))))))) (by simp)), by simp, fun v hv => ?_⟩
  simp only [List.mem_cons, List.not_mem_nil, or_false] at hv
  rcases hv with rfl | rfl | rfl | rfl | rfl | rfl | rfl | rfl
  · exact (low_bt f.lw).up (Nat.le_trans f.wt (by decide)) (Nat.le_trans f.dp (by decide))
  · exact bt_l cl (by omega) dep (by decide)
  · have s := cut_sub (xs := ds) (lo := none) (hi := some 2)
    have := WA_sub s
    exact bt_t (cleanA_sub s cl) (by omega) (fun e he => dep e (s.subset he)) (by decide)
  · refine bt_t (cleanA_app cl (cleanA_iff.mpr fun d hd => ?_)) (by rw [WA_app, WA, WA, W]; omega) (fun e he => ?_) (by decide)
    · rw [List.mem_singleton] at hd; subst hd; simp only [clean]; exact o0
    · rcases List.mem_append.mp he with z | z
      · exact dep e z
      · rw [List.mem_singleton] at z; subst z; simp [PyData.depth]
  · refine (clean_bt ?_).up (by simp [W, WA]) (by simp [PyData.depth, PyData.depthAll])
    simp only [clean, cleanA, i1, i3, Bool.and_self]
  · refine (clean_bt ?_).up (by simp [W, WA]) (by simp [PyData.depth, PyData.depthAll])
    simp only [clean, cleanA, i2, hn, o0, Bool.and_self]
  · exact ⟨by simp [good], by simp [W], by simp [PyData.depth], by simp [PyData.hasDict]⟩
  · exact ⟨by simp [good, goodA], by simp [W, WA], by simp [PyData.depth, PyData.depthAll], by simp [PyData.hasDict, PyData.hasDictAll]⟩
end
end DL
set_option Elab.async false
set_option linter.all false
set_option maxRecDepth 100000
set_option maxHeartbeats 1000000
/-! P25: law_right. -/
namespace DL
open PySem PySem.Spec L2
open PyProof.Rows hiding St
section
variable {k n : Nat} {rs fs : List Sg} {xs : List PyData}
theorem values {s4 s5 s8 s10 s11 s13 s14 s15 s16 s17 s18 s19 : SV} {cell : PyData} {d : PyData} {A : DFL} {F0 : DF} {vals : List PyData} (hF : F0 [.own xs, .dat (eS rs fs), .dat (eN k), .dat (.list ((allC k rs fs).map eC)), s4, s5, .emp, .dat cell, s8, .emp, s10, s11, .emp, s13, s14, s15, s16, s17, s18, s19, .emp, .emp, .emp] = some (.list vals, [.own xs, .dat (eS rs fs), .dat (eN k), .dat (.list ((allC k rs fs).map eC)), s4, s5, .emp, .dat cell, s8, .emp, s10, s11, .emp, s13, s14, s15, s16, s17, s18, s19, .emp, .emp, .emp])) (hlen : vals.length ≤ 8) (hv : ∀ v ∈ vals, Bt 2000 30 v) (hA : ∀ (ys : List PyData) (s12 : SV), A [.own ys, .dat (eS rs fs), .dat (eN k), .dat (.list ((allC k rs fs).map eC)), s4, s5, .emp, .dat cell, s8, .emp, s10, s11, s12, s13, s14, s15, s16, s17, s18, s19, .emp, .emp, .emp] = some ([d], [.own ys, .dat (eS rs fs), .dat (eN k), .dat (.list ((allC k rs fs).map eC)), s4, s5, .emp, .dat cell, s8, .emp, s10, s11, s12, s13, s14, s15, s16, s17, s18, s19, .emp, .emp, .emp])) (hl : low d = true) (hd : d.depth < 6) (hw : W d ≤ 700) (hn : n + 490 ≤ 1000000) (G : Good n xs) :
    ∃ (ds ys : List PyData), (iSeqD (dOp addD (dOp addD F0 (dFrz (lComp [12] (iR1 (aCons (dC (.int 8)) aNil)) (gN 12) bYes (dCallI (F__law_bent 6) 0 A)))) (dFrz (lLst (aCons (dCallI F__law_odd 0 aNil) aNil))))) [.own xs, .dat (eS rs fs), .dat (eN k), .dat (.list ((allC k rs fs).map eC)), s4, s5, .emp, .dat cell, s8, .emp, s10, s11, .emp, s13, s14, s15, s16, s17, s18, s19, .emp, .emp, .emp] = some (ds, [.own ys, .dat (eS rs fs), .dat (eN k), .dat (.list ((allC k rs fs).map eC)), s4, s5, .emp, .dat cell, s8, .emp, s10, s11, .emp, s13, s14, s15, s16, s17, s18, s19, .emp, .emp, .emp]) ∧ (∀ v ∈ ds, Bt 2000 30 v) ∧ Good (n + 490) ys := by
  obtain ⟨es, y1, e1, le, be, G1⟩ := bents (rs := rs) (fs := fs) (k := k) trivial (s4 := s4) (s5 := s5) (s8 := s8) (s10 := s10) (s11 := s11) (s13 := s13) (s14 := s14) (s15 := s15) (s16 := s16) (s17 := s17) (s18 := s18) (s19 := s19) (cell := cell) hA hl hd hw (by omega) G
  obtain ⟨o, y2, e2, bo, G2⟩ := lawodd (by omega) G1
  have e3 : dFrz (lLst (aCons (dCallI F__law_odd 0 aNil) aNil)) [.own y1, .dat (eS rs fs), .dat (eN k), .dat (.list ((allC k rs fs).map eC)), s4, s5, .emp, .dat cell, s8, .emp, s10, s11, .emp, s13, s14, s15, s16, s17, s18, s19, .emp, .emp, .emp] = some (.list [o], [.own y2, .dat (eS rs fs), .dat (eN k), .dat (.list ((allC k rs fs).map eC)), s4, s5, .emp, .dat cell, s8, .emp, s10, s11, .emp, s13, s14, s15, s16, s17, s18, s19, .emp, .emp, .emp]) := dFrz_ok (lLst_ok (aCons_ok (dCallI_ok rfl rfl e2) rfl) (by simp))
  refine ⟨vals ++ es ++ [o], y2, iSeq_ok (dOp_ok (dOp_ok hF e1 (add_l (by omega))) e3 (add_l (by simp; omega))), fun v hv' => ?_, G2.mono (by omega)⟩
  rcases List.mem_append.mp hv' with z | z
  · rcases List.mem_append.mp z with z | z
    · exact hv v z
    · exact be v z
  · rw [List.mem_singleton] at z; subst z; exact bo.up (by decide) (by decide)
theorem loop1 (O : SgOk k rs fs) {s4 s5 s8 s10 s11 s13 s14 s15 s16 s17 s18 s19 : SV} {cell : PyData} {ds : List PyData} {I : DFL} {ρ0 : En} (hb : ∀ v ∈ ds, Bt 2000 30 v) (hI : I ρ0 = some (ds, [.own xs, .dat (eS rs fs), .dat (eN k), .dat (.list ((allC k rs fs).map eC)), s4, s5, .emp, .dat cell, s8, .emp, s10, s11, .emp, s13, s14, s15, s16, s17, s18, s19, .emp, .emp, .emp])) (h8 : s8 = .own (papers (allC k rs fs)) ∨ s8 = .dat (.list (papers (allC k rs fs)))) :
    ∃ t8 t11 t13 t14, sFor I (gN 11) body1 ρ0 = some (.nx [.own xs, .dat (eS rs fs), .dat (eN k), .dat (.list ((allC k rs fs).map eC)), s4, s5, .emp, .dat cell, t8, .emp, s10, t11, .emp, t13, t14, s15, s16, s17, s18, s19, .emp, .emp, .emp]) := by
  obtain ⟨ρ', e, t8, t11, t13, t14, h, rfl⟩ := sFor_inv (I := I) (g := gN 11) (S := body1) (enc := id) (xs := ds) (ρ := ρ0) (ρ1 := [.own xs, .dat (eS rs fs), .dat (eN k), .dat (.list ((allC k rs fs).map eC)), s4, s5, .emp, .dat cell, s8, .emp, s10, s11, .emp, s13, s14, s15, s16, s17, s18, s19, .emp, .emp, .emp])
    (fun pre ρ => ∃ t8 t11 t13 t14, (t8 = .own (papers (allC k rs fs)) ∨ t8 = .dat (.list (papers (allC k rs fs)))) ∧ ρ = [.own xs, .dat (eS rs fs), .dat (eN k), .dat (.list ((allC k rs fs).map eC)), s4, s5, .emp, .dat cell, t8, .emp, s10, t11, .emp, t13, t14, s15, s16, s17, s18, s19, .emp, .emp, .emp])
    (by rw [List.map_id]; exact hI) ⟨s8, s11, s13, s14, h8, rfl⟩ (fun pre v post ρ e J => by
      obtain ⟨t8, t11, t13, t14, h, rfl⟩ := J
      have B := hb v (by rw [e]; simp)
      obtain ⟨u13, u14, e2⟩ := body1_ok O B (s0 := .own xs) (s3 := .dat (.list ((allC k rs fs).map eC))) (s4 := s4) (s5 := s5) (s6 := .emp) (s7 := .dat cell) (s8 := t8) (s9 := .emp) (s10 := s10) (s12 := .emp) (s13 := t13) (s14 := t14) (rest := [s15, s16, s17, s18, s19, .emp, .emp, .emp]) h
      exact ⟨_, _, rfl, e2, .dat (.list (papers (allC k rs fs))), .dat v, u13, u14, .inr rfl, rfl⟩)
  exact ⟨t8, t11, t13, t14, e⟩
theorem loop2 (O : SgOk k rs fs) {s4 s5 s8 s10 s11 s13 s14 s15 s16 s17 s18 s19 : SV} {cell : PyData} {ds : List PyData} {I : DFL} {ρ0 : En} (hb : ∀ v ∈ ds, Bt 2000 30 v) (hI : I ρ0 = some (ds, [.own xs, .dat (eS rs fs), .dat (eN k), .dat (.list ((allC k rs fs).map eC)), s4, s5, .emp, .dat cell, s8, .emp, s10, s11, .emp, s13, s14, s15, s16, s17, s18, s19, .emp, .emp, .emp])) :
    ∃ t11 t13 t14 t16 t17 t18 t19, sFor I (gN 11) body2 ρ0 = some (.nx [.own xs, .dat (eS rs fs), .dat (eN k), .dat (.list ((allC k rs fs).map eC)), s4, s5, .emp, .dat cell, s8, .emp, s10, t11, .emp, t13, t14, s15, t16, t17, t18, t19, .emp, .emp, .emp]) := by
  obtain ⟨ρ', e, t11, t13, t14, t16, t17, t18, t19, rfl⟩ := sFor_inv (I := I) (g := gN 11) (S := body2) (enc := id) (xs := ds) (ρ := ρ0) (ρ1 := [.own xs, .dat (eS rs fs), .dat (eN k), .dat (.list ((allC k rs fs).map eC)), s4, s5, .emp, .dat cell, s8, .emp, s10, s11, .emp, s13, s14, s15, s16, s17, s18, s19, .emp, .emp, .emp])
    (fun pre ρ => ∃ t11 t13 t14 t16 t17 t18 t19, ρ = [.own xs, .dat (eS rs fs), .dat (eN k), .dat (.list ((allC k rs fs).map eC)), s4, s5, .emp, .dat cell, s8, .emp, s10, t11, .emp, t13, t14, s15, t16, t17, t18, t19, .emp, .emp, .emp])
    (by rw [List.map_id]; exact hI) ⟨s11, s13, s14, s16, s17, s18, s19, rfl⟩ (fun pre v post ρ e J => by
      obtain ⟨t11, t13, t14, t16, t17, t18, t19, rfl⟩ := J
      have B := hb v (by rw [e]; simp)
      obtain ⟨u13, u14, u16, u17, u18, u19, e2⟩ := body2_ok O B (s0 := .own xs) (s4 := s4) (s5 := s5) (s8 := s8) (s10 := s10) (s13 := t13) (s14 := t14) (s15 := s15) (s16 := t16) (s17 := t17) (s18 := t18) (s19 := t19) (cell := cell)
      exact ⟨_, _, rfl, e2, .dat v, u13, u14, u16, u17, u18, u19, rfl⟩)
  exact ⟨t11, t13, t14, t16, t17, t18, t19, e⟩
/-- literals that are drawn -/
theorem loose_ok (O : SgOk k rs fs) {s4 s5 s8 s10 s11 s13 s14 s15 s16 s17 s18 s19 : SV} {cell : PyData} (hn : n + 40 ≤ 1000000) (G : Good n xs) :
    ∃ (js : List Int) (ys : List PyData), (dUn tupleD (dFrz (lComp [6] (iR1 (aCons (dUn lenD (dVar 3)) aNil)) (gN 6) bYes (dOp mulD (dOp addD (dVar 6) (dC (.int 1))) (dCallI F__law_of 0 (aCons (dFrz (lLst (aCons (dC (.int 1)) (aCons (dUn negD (dC (.int 1))) aNil)))) aNil)))))) [.own xs, .dat (eS rs fs), .dat (eN k), .dat (.list ((allC k rs fs).map eC)), s4, s5, .emp, .dat cell, s8, .emp, s10, s11, .emp, s13, s14, s15, s16, s17, s18, s19, .emp, .emp, .emp] = some (.tuple (js.map .int), [.own ys, .dat (eS rs fs), .dat (eN k), .dat (.list ((allC k rs fs).map eC)), s4, s5, .emp, .dat cell, s8, .emp, s10, s11, .emp, s13, s14, s15, s16, s17, s18, s19, .emp, .emp, .emp]) ∧ (∀ j ∈ js, -50 ≤ j ∧ j ≤ 50) ∧ js.length ≤ 36 ∧ Good (n + 40) ys := by
  have l := allC_len O
  obtain ⟨os, ρ', e, ys, js, h1, h2, h3, h4, h5⟩ := lComp_inv (vs := [6]) (I := (iR1 (aCons (dUn lenD (dVar 3)) aNil))) (g := gN 6) (C := bYes) (F := (dOp mulD (dOp addD (dVar 6) (dC (.int 1))) (dCallI F__law_of 0 (aCons (dFrz (lLst (aCons (dC (.int 1)) (aCons (dUn negD (dC (.int 1))) aNil)))) aNil))))
    (ρ := [.own xs, .dat (eS rs fs), .dat (eN k), .dat (.list ((allC k rs fs).map eC)), s4, s5, .emp, .dat cell, s8, .emp, s10, s11, .emp, s13, s14, s15, s16, s17, s18, s19, .emp, .emp, .emp]) (ρ1 := [.own xs, .dat (eS rs fs), .dat (eN k), .dat (.list ((allC k rs fs).map eC)), s4, s5, .emp, .dat cell, s8, .emp, s10, s11, .emp, s13, s14, s15, s16, s17, s18, s19, .emp, .emp, .emp]) (xs := List.range (allC k rs fs).length) (enc := eN)
    (fun pr out ρ => ∃ (ys : List PyData) (js : List Int), Good (n + pr.length) ys ∧ out = js.map .int ∧ (∀ j ∈ js, -50 ≤ j ∧ j ≤ 50) ∧ js.length = pr.length ∧ ρ = [.own ys, .dat (eS rs fs), .dat (eN k), .dat (.list ((allC k rs fs).map eC)), s4, s5, .emp, .dat cell, s8, .emp, s10, s11, .emp, s13, s14, s15, s16, s17, s18, s19, .emp, .emp, .emp])
    (iR1_n (aConsS (dUnS (d := .list ((allC k rs fs).map eC)) rfl (by rw [len_l, List.length_map]; rfl)) rfl) (by omega)) (by simp; omega) ⟨xs, [], G, rfl, (fun _ h => by cases h), rfl, rfl⟩ (fun pr x po out ρ e J => by
      obtain ⟨ys, js, G1, rfl, hj, hlen, rfl⟩ := J
      obtain ⟨rfl, hx⟩ := range_at e
      obtain ⟨d, zs, e1, hd, G2⟩ := of_ok (by omega) G1 (ds := [.int 1, .int (-1)]) (by simp) (by decide)
      have hd2 : ∃ q : Int, d = .int q ∧ (q = 1 ∨ q = -1) := by
        simp only [List.mem_cons, List.not_mem_nil, or_false] at hd
        rcases hd with rfl | rfl
        · exact ⟨1, rfl, .inl rfl⟩
        · exact ⟨-1, rfl, .inr rfl⟩
      obtain ⟨q, rfl, hq⟩ := hd2
      have m : mulD (.int ((pr.length : Int) + 1)) (.int q) = some (.int (((pr.length : Int) + 1) * q)) := mul_ok (p1000 (by omega)) (p1000 (by omega))
      refine ⟨[.own ys, .dat (eS rs fs), .dat (eN k), .dat (.list ((allC k rs fs).map eC)), s4, s5, .dat (eN pr.length), .dat cell, s8, .emp, s10, s11, .emp, s13, s14, s15, s16, s17, s18, s19, .emp, .emp, .emp], true, _, rfl, rfl, fun _ => ⟨.int (((pr.length : Int) + 1) * q), _, dOp_ok (dOpS rfl rfl add_int) (dCallI_ok rfl (aConsS (dFrz_ok (lLst_ok (aConsS rfl (aConsS (dUnS rfl rfl) rfl)) (by simp))) rfl) e1) m, zs, js ++ [((pr.length : Int) + 1) * q], ?_, by simp, fun j hj' => ?_, by simp [hlen], rfl⟩, fun h => by cases h⟩
      · rw [List.length_append]; exact G2.mono (by simp; omega)
      · rcases List.mem_append.mp hj' with z | z
        · exact hj j z
        · rw [List.mem_singleton] at z
          subst z
          rcases hq with rfl | rfl <;> omega)
  subst h5
  subst h2
  simp only [List.length_range] at h1 h4
  exact ⟨js, ys, dUn_ok (dFrz_ok e) rfl, h3, by omega, h1.mono (by omega)⟩
theorem stageL2 {s4 s5 s8 s10 s11 s13 s14 s15 s16 s17 s18 s19 : SV} {cell : PyData} {bs : List Bool} {js : List Int} (hbs : bs.length ≤ 40) (hj : ∀ j ∈ js, -50 ≤ j ∧ j ≤ 50) (hl : js.length ≤ 36) (h5 : s5 = .dat (eL bs)) (h15 : s15 = .dat (.tuple (js.map .int))) :
    ∃ vals, (dFrz (lLst (aCons (dVar 5) (aCons (dVar 15) (aCons (dFrz (lUn itemsD (dVar 5))) (aCons (dSl (dVar 5) (oI (dC (.int 1))) oNo) (aCons (dOp addD (dVar 5) (dTup (aCons (dC (.int 0)) aNil))) (aCons (dUn revD (dVar 5)) (aCons (dC .none) (aCons (dTup aNil) aNil)))))))))) [.own xs, .dat (eS rs fs), .dat (eN k), .dat (.list ((allC k rs fs).map eC)), s4, s5, .emp, .dat cell, s8, .emp, s10, s11, .emp, s13, s14, s15, s16, s17, s18, s19, .emp, .emp, .emp] = some (.list vals, [.own xs, .dat (eS rs fs), .dat (eN k), .dat (.list ((allC k rs fs).map eC)), s4, s5, .emp, .dat cell, s8, .emp, s10, s11, .emp, s13, s14, s15, s16, s17, s18, s19, .emp, .emp, .emp]) ∧ vals.length ≤ 8 ∧ ∀ v ∈ vals, Bt 2000 30 v := by
  subst h5
  subst h15
  have f := low_L hbs
  have ll : lowA ((litsB bs).map .int) = true := low_ints (litsB_bd hbs)
  have cl := lowA_clean ll
  have wl : WA ((litsB bs).map .int) ≤ 560 := by rw [WA_ints, litsB_len]; omega
  have dep : ∀ e ∈ (litsB bs).map PyData.int, e.depth + 1 ≤ 30 := fun e he => by
    obtain ⟨j, _, rfl⟩ := List.mem_map.mp he
    simp [PyData.depth]
  have o0 : okI 0 = true := okI_nat (by decide) (by decide)
  have e1 : dFrz (lUn itemsD (dVar 5)) [.own xs, .dat (eS rs fs), .dat (eN k), .dat (.list ((allC k rs fs).map eC)), s4, .dat (eL bs), .emp, .dat cell, s8, .emp, s10, s11, .emp, s13, s14, .dat (.tuple (js.map .int)), s16, s17, s18, s19, .emp, .emp, .emp] = some (.list ((litsB bs).map .int), [.own xs, .dat (eS rs fs), .dat (eN k), .dat (.list ((allC k rs fs).map eC)), s4, .dat (eL bs), .emp, .dat cell, s8, .emp, s10, s11, .emp, s13, s14, .dat (.tuple (js.map .int)), s16, s17, s18, s19, .emp, .emp, .emp]) := dFrz_ok (lUn_ok (d := eL bs) rfl rfl)
  have e2 : dSl (dVar 5) (oI (dC (.int 1))) oNo [.own xs, .dat (eS rs fs), .dat (eN k), .dat (.list ((allC k rs fs).map eC)), s4, .dat (eL bs), .emp, .dat cell, s8, .emp, s10, s11, .emp, s13, s14, .dat (.tuple (js.map .int)), s16, s17, s18, s19, .emp, .emp, .emp] = some (.tuple (cutD ((litsB bs).map .int) (some 1) none), [.own xs, .dat (eS rs fs), .dat (eN k), .dat (.list ((allC k rs fs).map eC)), s4, .dat (eL bs), .emp, .dat cell, s8, .emp, s10, s11, .emp, s13, s14, .dat (.tuple (js.map .int)), s16, s17, s18, s19, .emp, .emp, .emp]) := dSlS (d := eL bs) rfl (oI_ok rfl) rfl rfl
  have e3 : dOp addD (dVar 5) (dTup (aCons (dC (.int 0)) aNil)) [.own xs, .dat (eS rs fs), .dat (eN k), .dat (.list ((allC k rs fs).map eC)), s4, .dat (eL bs), .emp, .dat cell, s8, .emp, s10, s11, .emp, s13, s14, .dat (.tuple (js.map .int)), s16, s17, s18, s19, .emp, .emp, .emp] = some (.tuple ((litsB bs).map .int ++ [.int 0]), [.own xs, .dat (eS rs fs), .dat (eN k), .dat (.list ((allC k rs fs).map eC)), s4, .dat (eL bs), .emp, .dat cell, s8, .emp, s10, s11, .emp, s13, s14, .dat (.tuple (js.map .int)), s16, s17, s18, s19, .emp, .emp, .emp]) := dOpS (d := eL bs) rfl (dTup_ok rfl (by simp)) (add_t (by rw [List.length_map, litsB_len]; simp; omega))
  have e4 : dUn revD (dVar 5) [.own xs, .dat (eS rs fs), .dat (eN k), .dat (.list ((allC k rs fs).map eC)), s4, .dat (eL bs), .emp, .dat cell, s8, .emp, s10, s11, .emp, s13, s14, .dat (.tuple (js.map .int)), s16, s17, s18, s19, .emp, .emp, .emp] = some (.tuple ((litsB bs).map .int).reverse, [.own xs, .dat (eS rs fs), .dat (eN k), .dat (.list ((allC k rs fs).map eC)), s4, .dat (eL bs), .emp, .dat cell, s8, .emp, s10, s11, .emp, s13, s14, .dat (.tuple (js.map .int)), s16, s17, s18, s19, .emp, .emp, .emp]) := dUnS (d := eL bs) rfl rfl
  have e5 : dTup aNil [.own xs, .dat (eS rs fs), .dat (eN k), .dat (.list ((allC k rs fs).map eC)), s4, .dat (eL bs), .emp, .dat cell, s8, .emp, s10, s11, .emp, s13, s14, .dat (.tuple (js.map .int)), s16, s17, s18, s19, .emp, .emp, .emp] = some (.tuple [], [.own xs, .dat (eS rs fs), .dat (eN k), .dat (.list ((allC k rs fs).map eC)), s4, .dat (eL bs), .emp, .dat cell, s8, .emp, s10, s11, .emp, s13, s14, .dat (.tuple (js.map .int)), s16, s17, s18, s19, .emp, .emp, .emp]) := dTup_ok rfl (by simp)
  refine ⟨[eL bs, .tuple (js.map .int), .list ((litsB bs).map .int), .tuple (cutD ((litsB bs).map .int) (some 1) none), .tuple ((litsB bs).map .int ++ [.int 0]), .tuple ((litsB bs).map .int).reverse, .none, .tuple []], dFrz_ok (lLst_ok (aConsS rfl (aConsS rfl (aConsS e1 (aConsS e2 (aConsS e3 (aConsS e4 (aConsS rfl (aConsS e5 rfl)))))))) (by simp)), by simp, fun v hv => ?_⟩
  simp only [List.mem_cons, List.not_mem_nil, or_false] at hv
  rcases hv with rfl | rfl | rfl | rfl | rfl | rfl | rfl | rfl
  · exact (low_bt f.1).up (Nat.le_trans f.2.1 (by decide)) (Nat.le_trans f.2.2 (by decide))
  · exact bt_t (lowA_clean (low_ints hj)) (by rw [WA_ints]; omega) (fun e he => by obtain ⟨j, _, rfl⟩ := List.mem_map.mp he; simp [PyData.depth]) (by decide)
  · exact bt_l cl (by omega) dep (by decide)
  · have s := cut_sub (xs := (litsB bs).map PyData.int) (lo := some 1) (hi := none)
    have := WA_sub s
    exact bt_t (cleanA_sub s cl) (by omega) (fun e he => dep e (s.subset he)) (by decide)
  · refine bt_t (cleanA_app cl (cleanA_iff.mpr fun d hd => ?_)) (by rw [WA_app, WA, WA, W]; omega) (fun e he => ?_) (by decide)
    · rw [List.mem_singleton] at hd; subst hd; simp only [clean]; exact o0
    · rcases List.mem_append.mp he with z | z
      · exact dep e z
      · rw [List.mem_singleton] at z; subst z; simp [PyData.depth]
  · exact bt_t (cleanA_iff.mpr fun d hd => cleanA_iff.mp cl d (List.mem_reverse.mp hd)) (by rw [WA_rev]; omega) (fun e he => dep e (List.mem_reverse.mp he)) (by decide)
  · exact ⟨by simp [good], by simp [W], by simp [PyData.depth], by simp [PyData.hasDict]⟩
  · exact ⟨by simp [good, goodA], by simp [W, WA], by simp [PyData.depth, PyData.depthAll], by simp [PyData.hasDict, PyData.hasDictAll]⟩
end
theorem lawright {n : Nat} {xs : List PyData} (hn : n + 1200 ≤ 1000000) (G : Good n xs) : ∃ ys, F__law_right xs [] = some (.bool true, ys) ∧ Good (n + 1200) ys := by
  obtain ⟨rs, fs, y1, e1, HO, G1⟩ := lawsigns (by omega) G
  obtain ⟨v, y2, e2, hv, G2⟩ := take_nat (u := 3) (by omega) G1 (by decide) (by decide)
  have O := HO (1 + v) (by omega) (by omega)
  generalize hk : 1 + v = k at O
  obtain ⟨ws, cs, y3, e3, hw, hc, Wd, G3⟩ := lawworld O (by omega) G2
  subst hw
  subst hc
  have l36 := allC_len O
  -- one cell
  obtain ⟨cell, y4, e4, hcell, G4⟩ := of_ok (by omega) G3 (ds := (allC k (rsOf ws) (fsOf cs)).map eC) (by simpa using all_ne O) (by rw [List.length_map]; omega)
  obtain ⟨c0, hc0, hce⟩ := List.mem_map.mp hcell
  have hce := hce.symm
  have cf := cell_facts O hc0
  rw [← hce] at cf
  obtain ⟨vals, e8, lv, bv⟩ := stage8 O (xs := y4) hc0 hce
  obtain ⟨ds, y5, e9, b9, G5⟩ := values (rs := rsOf ws) (fs := fsOf cs) (k := k) (xs := y4) (s4 := .dat (eW k ws cs)) (s5 := .dat (eL ((allC k (rsOf ws) (fsOf cs)).map (so k ws cs)))) (s8 := .own (papers (allC k (rsOf ws) (fsOf cs)))) (s10 := .dat (.list vals)) (s11 := .emp) (s13 := .emp) (s14 := .emp) (s15 := .emp) (s16 := .emp) (s17 := .emp) (s18 := .emp) (s19 := .emp) (cell := cell) (F0 := dVar 10) (A := aCons (dVar 7) aNil) (d := cell) rfl lv bv (fun ys s12 => rfl) cf.lw (by have := cf.dp; omega) (by have := cf.wt; omega) (by omega) G4
  obtain ⟨t8, t11, t13, t14, e10⟩ := loop1 O (s4 := .dat (eW k ws cs)) (s5 := .dat (eL ((allC k (rsOf ws) (fsOf cs)).map (so k ws cs)))) (s8 := .own (papers (allC k (rsOf ws) (fsOf cs)))) (s10 := .dat (.list vals)) (s11 := .emp) (s13 := .emp) (s14 := .emp) (s15 := .emp) (s16 := .emp) (s17 := .emp) (s18 := .emp) (s19 := .emp) (cell := cell) b9 e9 (.inl rfl)
  obtain ⟨js, y6, e11, hj, lj, G6⟩ := loose_ok O (xs := y5) (s4 := .dat (eW k ws cs)) (s5 := .dat (eL ((allC k (rsOf ws) (fsOf cs)).map (so k ws cs)))) (s8 := t8) (s10 := .dat (.list vals)) (s11 := t11) (s13 := t13) (s14 := t14) (s15 := .emp) (s16 := .emp) (s17 := .emp) (s18 := .emp) (s19 := .emp) (cell := cell) (by omega) G5
  obtain ⟨vals2, e12, lv2, bv2⟩ := stageL2 (k := k) (rs := rsOf ws) (fs := fsOf cs) (xs := y6) (s4 := .dat (eW k ws cs)) (s5 := .dat (eL ((allC k (rsOf ws) (fsOf cs)).map (so k ws cs)))) (s8 := t8) (s10 := .dat (.list vals)) (s11 := t11) (s13 := t13) (s14 := t14) (s15 := .dat (.tuple (js.map .int))) (s16 := .emp) (s17 := .emp) (s18 := .emp) (s19 := .emp) (cell := cell) (bs := (allC k (rsOf ws) (fsOf cs)).map (so k ws cs)) (by rw [List.length_map]; omega) hj lj rfl rfl
  have lf := low_L (bs := (allC k (rsOf ws) (fsOf cs)).map (so k ws cs)) (by rw [List.length_map]; omega)
  obtain ⟨ds2, y7, e13, b13, G7⟩ := values (rs := rsOf ws) (fs := fsOf cs) (k := k) (xs := y6) (s4 := .dat (eW k ws cs)) (s5 := .dat (eL ((allC k (rsOf ws) (fsOf cs)).map (so k ws cs)))) (s8 := t8) (s10 := .dat (.list vals)) (s11 := t11) (s13 := t13) (s14 := t14) (s15 := .dat (.tuple (js.map .int))) (s16 := .emp) (s17 := .emp) (s18 := .emp) (s19 := .emp) (cell := cell) (A := aCons (dVar 5) aNil) (d := (eL ((allC k (rsOf ws) (fsOf cs)).map (so k ws cs)))) e12 lv2 bv2 (fun ys s12 => rfl) lf.1 (by have := lf.2.2; omega) (by have := lf.2.1; omega) (by omega) G6
  obtain ⟨u11, u13, u14, u16, u17, u18, u19, e14⟩ := loop2 O (s4 := .dat (eW k ws cs)) (s5 := .dat (eL ((allC k (rsOf ws) (fsOf cs)).map (so k ws cs)))) (s8 := t8) (s10 := .dat (.list vals)) (s11 := t11) (s13 := t13) (s14 := t14) (s15 := .dat (.tuple (js.map .int))) (s16 := .emp) (s17 := .emp) (s18 := .emp) (s19 := .emp) (cell := cell) b13 e13
  refine ⟨y7, ?_, G7.mono (by omega)⟩
  refine runI_eq (ρ := [.own y7, .dat (eS (rsOf ws) (fsOf cs)), .dat (eN k), .dat (.list ((allC k (rsOf ws) (fsOf cs)).map eC)), .dat (eW k ws cs), .dat (eL ((allC k (rsOf ws) (fsOf cs)).map (so k ws cs))), .emp, .dat cell, t8, .emp, .dat (.list vals), u11, .emp, u13, u14, .dat (.tuple (js.map .int)), u16, u17, u18, u19, .emp, .emp, .emp]) rfl ?_ rfl
  unfold S__law_right
  have kk : (1 : Int) + (v : Int) = ((k : Nat) : Int) := by omega
  have q1 : dOp addD (dC (.int 1)) (dCallI F__law_take 0 (aCons (dC (.int 3)) aNil)) [.own y1, .emp, .emp, .emp, .emp, .emp, .emp, .emp, .emp, .emp, .emp, .emp, .emp, .emp, .emp, .emp, .emp, .emp, .emp, .emp, .emp, .emp, .emp] = some (eN k, [.own y2, .emp, .emp, .emp, .emp, .emp, .emp, .emp, .emp, .emp, .emp, .emp, .emp, .emp, .emp, .emp, .emp, .emp, .emp, .emp, .emp, .emp, .emp]) := dOp_ok rfl (dCallI_ok (ρ := [.own y1, .emp, .emp, .emp, .emp, .emp, .emp, .emp, .emp, .emp, .emp, .emp, .emp, .emp, .emp, .emp, .emp, .emp, .emp, .emp, .emp, .emp, .emp]) rfl rfl e2) (by
    show some (PyData.int ((1 : Int) + (v : Int))) = _
    rw [kk]
    rfl)
  refine (sSeq_nx (ρ1 := [.own y2, .dat (eS (rsOf ws) (fsOf cs)), .dat (eN k), .emp, .emp, .emp, .emp, .emp, .emp, .emp, .emp, .emp, .emp, .emp, .emp, .emp, .emp, .emp, .emp, .emp, .emp, .emp, .emp]) (sAsg_ok (dTup_ok (aCons_ok (dCallI_ok (ρ := [.own xs, .emp, .emp, .emp, .emp, .emp, .emp, .emp, .emp, .emp, .emp, .emp, .emp, .emp, .emp, .emp, .emp, .emp, .emp, .emp, .emp, .emp, .emp]) rfl rfl e1) (aCons_ok q1 rfl)) (by simp)) rfl)).trans ?_
  refine (sSeq_nx (ρ1 := [.own y3, .dat (eS (rsOf ws) (fsOf cs)), .dat (eN k), .dat (.list ((allC k (rsOf ws) (fsOf cs)).map eC)), .dat (eW k ws cs), .emp, .emp, .emp, .emp, .emp, .emp, .emp, .emp, .emp, .emp, .emp, .emp, .emp, .emp, .emp, .emp, .emp, .emp]) (sAsg_ok (dTup_ok (aCons_ok (dCallS (ρ := [.own y2, .dat (eS (rsOf ws) (fsOf cs)), .dat (eN k), .emp, .emp, .emp, .emp, .emp, .emp, .emp, .emp, .emp, .emp, .emp, .emp, .emp, .emp, .emp, .emp, .emp, .emp, .emp, .emp]) rfl (lawall O)) (aCons_ok (dCallI_ok (ρ := [.own y2, .dat (eS (rsOf ws) (fsOf cs)), .dat (eN k), .emp, .emp, .emp, .emp, .emp, .emp, .emp, .emp, .emp, .emp, .emp, .emp, .emp, .emp, .emp, .emp, .emp, .emp, .emp, .emp]) rfl rfl e3) rfl)) (by simp)) rfl)).trans ?_
  refine (sSeq_nx (stage3 O)).trans ?_
  refine (sSeq_nx (ρ1 := [.own y3, .dat (eS (rsOf ws) (fsOf cs)), .dat (eN k), .dat (.list ((allC k (rsOf ws) (fsOf cs)).map eC)), .dat (eW k ws cs), .dat (eL ((allC k (rsOf ws) (fsOf cs)).map (so k ws cs))), .emp, .emp, .emp, .emp, .emp, .emp, .emp, .emp, .emp, .emp, .emp, .emp, .emp, .emp, .emp, .emp, .emp]) (sSet_ok (stage4 O Wd))).trans ?_
  refine (sSeq_nx (stage5 O Wd)).trans ?_
  refine (sSeq_nx (ρ1 := [.own y4, .dat (eS (rsOf ws) (fsOf cs)), .dat (eN k), .dat (.list ((allC k (rsOf ws) (fsOf cs)).map eC)), .dat (eW k ws cs), .dat (eL ((allC k (rsOf ws) (fsOf cs)).map (so k ws cs))), .emp, .dat cell, .emp, .emp, .emp, .emp, .emp, .emp, .emp, .emp, .emp, .emp, .emp, .emp, .emp, .emp, .emp]) (sSet_ok (dCallI_ok (ρ := [.own y3, .dat (eS (rsOf ws) (fsOf cs)), .dat (eN k), .dat (.list ((allC k (rsOf ws) (fsOf cs)).map eC)), .dat (eW k ws cs), .dat (eL ((allC k (rsOf ws) (fsOf cs)).map (so k ws cs))), .emp, .emp, .emp, .emp, .emp, .emp, .emp, .emp, .emp, .emp, .emp, .emp, .emp, .emp, .emp, .emp, .emp]) rfl rfl e4))).trans ?_
  refine (sSeq_nx (ρ1 := [.own y4, .dat (eS (rsOf ws) (fsOf cs)), .dat (eN k), .dat (.list ((allC k (rsOf ws) (fsOf cs)).map eC)), .dat (eW k ws cs), .dat (eL ((allC k (rsOf ws) (fsOf cs)).map (so k ws cs))), .emp, .dat cell, .own (papers (allC k (rsOf ws) (fsOf cs))), .emp, .emp, .emp, .emp, .emp, .emp, .emp, .emp, .emp, .emp, .emp, .emp, .emp, .emp]) (sOwn_ok (stage7 O))).trans ?_
  refine (sSeq_nx (ρ1 := [.own y4, .dat (eS (rsOf ws) (fsOf cs)), .dat (eN k), .dat (.list ((allC k (rsOf ws) (fsOf cs)).map eC)), .dat (eW k ws cs), .dat (eL ((allC k (rsOf ws) (fsOf cs)).map (so k ws cs))), .emp, .dat cell, .own (papers (allC k (rsOf ws) (fsOf cs))), .emp, .dat (.list vals), .emp, .emp, .emp, .emp, .emp, .emp, .emp, .emp, .emp, .emp, .emp, .emp]) (sSet_ok e8)).trans ?_
  refine (sSeq_nx e10).trans ?_
  refine (sSeq_nx (ρ1 := [.own y6, .dat (eS (rsOf ws) (fsOf cs)), .dat (eN k), .dat (.list ((allC k (rsOf ws) (fsOf cs)).map eC)), .dat (eW k ws cs), .dat (eL ((allC k (rsOf ws) (fsOf cs)).map (so k ws cs))), .emp, .dat cell, t8, .emp, .dat (.list vals), t11, .emp, t13, t14, .dat (.tuple (js.map .int)), .emp, .emp, .emp, .emp, .emp, .emp, .emp]) (sSet_ok e11)).trans ?_
  refine (sSeq_nx e14).trans ?_
  rfl
end DL
set_option Elab.async false
set_option linter.all false
set_option maxRecDepth 100000
set_option maxHeartbeats 1000000
/-! P26: the law. -/
namespace DL
open PySem PySem.Spec L2
open PyProof.Rows hiding St
theorem lCall_ok {f : List PyData → Option (List PyData)} {A : DFL} {ρ : En} {ds zs : List PyData} (h : A ρ = some (ds, ρ)) (hf : f ds = some zs) : lCall f A ρ = some (zs, ρ) := by
  unfold lCall
  rw [h, Option.bind_some, hf]
  rfl
theorem lawcells {ds : List PyData} : ∃ m : Nat, m ≤ 3 ∧ F__law_cells [.list ds, .int 3] = some (.list ((List.range m).map eN)) := by
  have h1 : minD [.int 3, .int (ds.length : Nat)] = some (.int (if (ds.length : Int) < 3 then (ds.length : Int) else 3)) := rfl
  generalize hx : (if (ds.length : Int) < 3 then (ds.length : Int) else 3) = x at h1
  have hx3 : x ≤ 3 := by rw [← hx]; split <;> omega
  have h2 : maxD [.int 1, .int x] = some (.int (if x > 1 then x else 1)) := rfl
  generalize hy : (if x > 1 then x else 1) = y at h2
  have hy3 : 1 ≤ y ∧ y ≤ 3 := by rw [← hy]; split <;> omega
  refine ⟨y.toNat, by omega, ?_⟩
  have e := lRg1_ok (F := (dCall maxD (aCons (dC (.int 1)) (aCons (dCall minD (aCons (dVar 1) (aCons (dUn lenD (dVar 0)) aNil))) aNil)))) (ρ := [.dat (.list ds), .dat (.int 3)]) (ρ1 := [.dat (.list ds), .dat (.int 3)]) (j := y) (dCallS (aConsS rfl (aConsS (dCallS (aConsS rfl (aConsS (dUnS rfl len_l) rfl)) h1) rfl)) h2) (by
    unfold rgB
    rw [small_ok (by decide) (by decide), small_ok (by omega) (by omega), decide_eq_true (by omega)]
    rfl)
  rw [rng0] at e
  exact runD_eq (ρ := [.dat (.list ds), .dat (.int 3)]) rfl (sRet_ok (dFrz_ok e))
theorem law_true (ns : List Int) : F_law [.list (ns.map .int)] = some (.bool true) := by
  obtain ⟨m, hm, hc⟩ := lawcells (ds := ns.map .int)
  obtain ⟨ρ1, e1, s1, s2, rfl⟩ := sFor_invS (I := (iSeqD (dCall F__law_cells (aCons (dVar 0) (aCons (dC (.int 3)) aNil))))) (g := gN 1) (S := (sSeq (sOwn 2 (lCall F__law_pot (aCons (dVar 0) (aCons (dVar 1) aNil))))
    (sIf (bNot (bVal (dUn allD (dFrz (lComp [3] (iR1 (aCons (dC (.int 7)) aNil)) (gN 3) bYes (dCallI F__law_right 2 aNil)))))) (sRet (dC (.bool false))) sNext)))
    (ρ := [.dat (.list (ns.map .int)), .emp, .emp, .emp]) (xs := List.range m) (enc := eN)
    (fun pre ρ => ∃ s1 s2, ρ = [.dat (.list (ns.map .int)), s1, s2, .emp])
    (iSeq_ok (dCallS (aConsS rfl (aConsS rfl rfl)) hc)) ⟨_, _, rfl⟩ (fun pre j post ρ e J => by
      obtain ⟨s1, s2, rfl⟩ := J
      have hj : j < 3 := by
        have := List.mem_range.mp (show j ∈ List.range m by rw [e]; simp)
        omega
      obtain ⟨p, hp, G⟩ := pot_ok (ns := ns) hj
      obtain ⟨os, ρ', e2, ys, h1, h2, h3⟩ := lComp_inv (vs := [3]) (I := (iR1 (aCons (dC (.int 7)) aNil))) (g := gN 3) (C := bYes) (F := (dCallI F__law_right 2 aNil))
        (ρ := [.dat (.list (ns.map .int)), .dat (eN j), .own p, .emp]) (ρ1 := [.dat (.list (ns.map .int)), .dat (eN j), .own p, .emp]) (xs := List.range 7) (enc := eN)
        (fun pr out ρ => ∃ (ys : List PyData), Good (1200 * pr.length) ys ∧ out = pr.map (fun _ => .bool ((fun _ => true) ())) ∧ ρ = [.dat (.list (ns.map .int)), .dat (eN j), .own ys, .emp])
        (iR1_n (m := 7) rfl (by decide)) (by simp) ⟨p, G, rfl, rfl⟩ (fun pr x po out ρ e J => by
          obtain ⟨ys, G1, rfl, rfl⟩ := J
          obtain ⟨rfl, hx⟩ := range_at e
          obtain ⟨zs, e3, G2⟩ := lawright (by omega) G1
          refine ⟨[.dat (.list (ns.map .int)), .dat (eN j), .own ys, .dat (eN pr.length)], true, _, rfl, rfl, fun _ => ⟨.bool true, _, dCallI_ok rfl rfl e3, zs, ?_, by simp, rfl⟩, fun h => by cases h⟩
          rw [List.length_append]
          exact G2.mono (by simp; omega))
      subst h3
      subst h2
      have q := bNot_ok (bVal_ok (dUn_ok (dFrz_ok e2) (allD_ok (p := fun _ => true))))
      have hall : (List.range 7).all (fun _ => true) = true := by decide
      rw [hall] at q
      refine ⟨[.dat (.list (ns.map .int)), .dat (eN j), s2, .emp], [.dat (.list (ns.map .int)), .dat (eN j), .own ys, .emp], rfl, ?_, .dat (eN j), .own ys, rfl⟩
      refine (sSeq_nx (sOwn_ok (lCall_ok (aConsS rfl (aConsS rfl rfl)) hp))).trans ?_
      exact (sIf_f q).trans rfl)
  refine runD_eq (ρ := [.dat (.list (ns.map .int)), s1, s2, .emp]) rfl ?_
  unfold S_law
  exact (sSeq_nx e1).trans rfl
end DL
set_option Elab.async false
set_option linter.all false
set_option maxRecDepth 100000
set_option maxHeartbeats 1000000
namespace DL
open PySem PySem.Spec L2
open PyProof.Rows hiding St
def top (i : Nat) : Stmt := PySem.Challenge.pw_nosuchthings_k09_whole_cells_and_their_n.main.body.getD i (.Pass ⟨0, 0, 0, 0⟩)
structure Tx (P : Program) (w : World) (K : PySem.W.Frag) (mg : Str → Option Value) (base : Heap) where
  b_abs : mg "abs" = none
  b_all : mg "all" = none
  b_any : mg "any" = none
  b_bool : mg "bool" = none
  b_dict : mg "dict" = none
  b_enumerate : mg "enumerate" = none
  b_int : mg "int" = none
  b_isinstance : mg "isinstance" = none
  b_len : mg "len" = none
  b_list : mg "list" = none
  b_max : mg "max" = none
  b_min : mg "min" = none
  b_range : mg "range" = none
  b_repr : mg "repr" = none
  b_set : mg "set" = none
  b_str : mg "str" = none
  b_sum : mg "sum" = none
  b_tuple : mg "tuple" = none
  b_zip : mg "zip" = none
  g_FIGURES : GDat K w mg "FIGURES" (.str "0123456789")
  g_FOUR : GDat K w mg "FOUR" (.int 4)
  g_IS : GDat K w mg "IS" (.str "is")
  g_LETTERS : GDat K w mg "LETTERS" (.str "abcdefghijklmnopqrstuvwxyz")
  g_MOST_ARGUMENTS : GDat K w mg "MOST_ARGUMENTS" (.int 2)
  g_MOST_CELLS : GDat K w mg "MOST_CELLS" (.int 64)
  g_MOST_FUNCTIONS : GDat K w mg "MOST_FUNCTIONS" (.int 4)
  g_MOST_PLACES : GDat K w mg "MOST_PLACES" (.int 3)
  g_MOST_RELATIONS : GDat K w mg "MOST_RELATIONS" (.int 6)
  g_MOST_SIGNS : GDat K w mg "MOST_SIGNS" (.int 8)
  g_MOST_THINGS : GDat K w mg "MOST_THINGS" (.int 5)
  g_OF : GDat K w mg "OF" (.str "of")
  g_RULING : GDat K w mg "RULING" ruling
  g_THREE_cells : GDat K w mg "THREE_cells" (.int 3)
  g_THREE_worlds : GDat K w mg "THREE_worlds" (.int 3)
  c_SayingError : Addr
  f_ini : Addr
  q_ini : Str
  d_ini : FuncData
  c_BadCell : Addr
  c_BadSigns : Addr
  c_BadSize : Addr
  c_BadValues : Addr
  c_BadWorld : Addr
  c_NoWorld : Addr
  c_TooGreat : Addr
  r_BadCell : RaiK P K mg "BadCell" c_BadCell c_SayingError f_ini q_ini d_ini
  r_BadSigns : RaiK P K mg "BadSigns" c_BadSigns c_SayingError f_ini q_ini d_ini
  r_BadSize : RaiK P K mg "BadSize" c_BadSize c_SayingError f_ini q_ini d_ini
  r_BadValues : RaiK P K mg "BadValues" c_BadValues c_SayingError f_ini q_ini d_ini
  r_BadWorld : RaiK P K mg "BadWorld" c_BadWorld c_SayingError f_ini q_ini d_ini
  r_NoWorld : RaiK P K mg "NoWorld" c_NoWorld c_SayingError f_ini q_ini d_ini
  r_TooGreat : RaiK P K mg "TooGreat" c_TooGreat c_SayingError f_ini q_ini d_ini
  m_BadCell : mg "BadCell" = some (.ref c_BadCell)
  isx_BadCell : IsxC K c_BadCell isx_BadCell
  m_BadValues : mg "BadValues" = some (.ref c_BadValues)
  isx_BadValues : IsxC K c_BadValues isx_BadValues
  m_NoWorld : mg "NoWorld" = some (.ref c_NoWorld)
  isx_NoWorld : IsxC K c_NoWorld isx_NoWorld
  clsg : ClsG K
  valc : ValC K caus
  cauc : CauC K mg c_SayingError caus
  cau : CauF K mg "_law_caught" "SayingError" c_SayingError
  lamC : Addr
  lamP : Addr
  tabB : LamX.TabB base mg lamC lamP
  a_is_integer : FAt K mg "is_integer" (top 26) ["value"]
  a_is_between : FAt K mg "is_between" (top 27) ["value", "low", "high"]
  a_are_between : FAt K mg "are_between" (top 28) ["value", "low", "high"]
  a_is_ascending : FAt K mg "is_ascending" (top 29) ["items"]
  a_is_name : FAt K mg "is_name" (top 30) ["value"]
  a_power : FAt K mg "power" (top 31) ["base", "times"]
  a_are_named : FAt K mg "are_named" (top 37) ["value", "many", "places"]
  a_is_signs : FAt K mg "is_signs" (top 38) ["value"]
  a_check_signs : FAt K mg "check_signs" (top 39) ["signs"]
  a_place_in : FAt K mg "place_in" (top 40) ["rows", "name"]
  a_tuples_of : FAt K mg "tuples_of" (top 47) ["things", "places"]
  a_place_of : FAt K mg "place_of" (top 48) ["things", "row"]
  a_many_cells : FAt K mg "many_cells" (top 49) ["signs", "things"]
  a_is_size : FAt K mg "is_size" (top 50) ["value"]
  a_check_size : FAt K mg "check_size" (top 51) ["signs", "things"]
  a_is_table : FAt K mg "is_table" (top 52) ["things", "places", "value"]
  a_is_column : FAt K mg "is_column" (top 53) ["things", "places", "value"]
  a_is_world_of : FAt K mg "is_world_of" (top 54) ["signs", "value"]
  a_check_world : FAt K mg "check_world" (top 55) ["signs", "world"]
  a_check_its_world : FAt K mg "check_its_world" (top 56) ["signs", "world"]
  a_cells_of : FAt K mg "cells_of" (top 60) ["signs", "things"]
  a_cells : FAt K mg "cells" (top 61) ["signs", "things"]
  a_numbers_of : FAt K mg "numbers_of" (top 62) ["signs", "things"]
  a_is_cell : FAt K mg "is_cell" (top 63) ["signs", "things", "value"]
  a_cell_number : FAt K mg "cell_number" (top 64) ["signs", "things", "cell"]
  a_is_cell_so : FAt K mg "is_cell_so" (top 65) ["signs", "world", "cell"]
  a_literals_of : FAt K mg "literals_of" (top 66) ["signs", "world"]
  a_cells_in : FAt K mg "cells_in" (top 67) ["signs", "world"]
  a_world_from : FAt K mg "world_from" (top 68) ["signs", "things", "so"]
  a_truths_of : FAt K mg "truths_of" (top 69) ["signs", "things", "literals"]
  a_are_literals : FAt K mg "are_literals" (top 70) ["value", "many"]
  a_world_by : FAt K mg "world_by" (top 71) ["signs", "things", "literals"]
  a__law_pot : FAt K mg "_law_pot" (top 73) ["script", "place"]
  a__law_take : FAt K mg "_law_take" (top 74) ["pot", "upto"]
  a__law_of : FAt K mg "_law_of" (top 75) ["pot", "some"]
  a__law_some : FAt K mg "_law_some" (top 76) ["pot", "some", "many"]
  a__law_cells : FAt K mg "_law_cells" (top 77) ["script", "most"]
  a__law_is_int : FAt K mg "_law_is_int" (top 78) ["value", "low", "high"]
  a__law_odd : FAt K mg "_law_odd" (top 79) ["pot"]
  a__law_bent : FAt K mg "_law_bent" (top 80) ["pot", "value"]
  a__law_signs : FAt K mg "_law_signs" (top 82) ["pot", "many", "functions"]
  a__law_tuples : FAt K mg "_law_tuples" (top 83) ["things", "places"]
  a__law_place : FAt K mg "_law_place" (top 84) ["things", "row"]
  a__law_world : FAt K mg "_law_world" (top 85) ["pot", "signs", "things"]
  a__law_all_cells : FAt K mg "_law_all_cells" (top 86) ["signs", "things"]
  a__law_so : FAt K mg "_law_so" (top 87) ["signs", "world", "cell"]
  a__law_are_literals : FAt K mg "_law_are_literals" (top 88) ["value", "many"]
  a__law_right : ∃ (f : Addr) (fd : FuncData), FunC K "_law_right" "_law_right" (top 89) f fd lamC ∧ mg "_law_right" = some (.ref f) ∧ Binds K fd ["pot"] []
def lamQ : Str := (envOfC "_law_right" (defScope (top 89)) 0 0 .none).qual ++ "<lambda>"
def Tx.tabs {P : Program} {w : World} {K : PySem.W.Frag} {mg : Str → Option Value} {base : Heap} (T : Tx P w K mg base) : List (Addr × Str) := [(T.lamP, lamQ)]
theorem Tx.tab_ne {P : Program} {w : World} {K : PySem.W.Frag} {mg : Str → Option Value} {base : Heap} (T : Tx P w K mg base) : T.tabs ≠ [] := by simp [Tx.tabs]
section
variable {P : Program} {w : World} {K : PySem.W.Frag} {mg : Str → Option Value} {base : Heap}
/-! ### is_integer -/
theorem sc_is_integer : FnScope ["value"] ["value"] (defScope (top 26)) := ⟨rfl, rfl, rfl, by decide +kernel, rfl, by decide +kernel, by decide +kernel⟩
theorem k_is_integer (T : Tx P w K mg base) : DOk P w K mg base "is_integer" 1 F_is_integer := by
  have nd := sc_is_integer.nd
  obtain ⟨f, fd, Fn, hm, hb⟩ := T.a_is_integer
  exact dok_mk (k := 0) Fn hm hb sc_is_integer (fun _ _ _ _ _ _ hr => ⟨_, (sms_one (sm_ret (pm_and (pm_isi (T := "int") (pv_of (pm_var 0)) T.b_isinstance T.b_int) (pm_one (pm_not (pm_isi (T := "bool") (pv_of (pm_var 0)) T.b_isinstance T.b_bool))))))⟩) runD_ok

/-! ### is_between -/
theorem sc_is_between : FnScope ["value", "low", "high"] ["value", "low", "high"] (defScope (top 27)) := ⟨rfl, rfl, rfl, by decide +kernel, rfl, by decide +kernel, by decide +kernel⟩
theorem k_is_between (T : Tx P w K mg base) : DOk P w K mg base "is_between" 2 F_is_between := by
  have nd := sc_is_between.nd
  obtain ⟨f, fd, Fn, hm, hb⟩ := T.a_is_between
  exact dok_mk (k := 1) Fn hm hb sc_is_between (fun _ _ _ _ _ _ hr => ⟨_, (sms_one (sm_ret (pm_and (pm_call (k_is_integer T) hr (am_cons (pm_var 0) am_nil)) (pm_one (pm_chain opD_le opD_le (pm_var 1) (pm_var 0) (pv_of (pm_var 2)))))))⟩) runD_ok

/-! ### are_between -/
theorem sc_are_between : FnScope ["value", "low", "high", "one"] ["value", "low", "high"] (defScope (top 28)) := ⟨rfl, rfl, rfl, by decide +kernel, rfl, by decide +kernel, by decide +kernel⟩
theorem k_are_between (T : Tx P w K mg base) : DOk P w K mg base "are_between" 3 F_are_between := by
  have nd := sc_are_between.nd
  obtain ⟨f, fd, Fn, hm, hb⟩ := T.a_are_between
  exact dok_mk (k := 2) Fn hm hb sc_are_between (fun _ _ _ _ _ _ hr => ⟨_, (sms_one (sm_ret (pm_and (pm_isi (T := "tuple") (pv_of (pm_var 0)) T.b_isinstance T.b_tuple) (pm_one (pm_callBV (cD_all rfl) T.b_all (pv_of (pm_frz (pf_lco [("one", 3)] (gName 3) tYes (tCall (spD K w F_is_between) [] L2.E0 (tCons (tVar 3) (tCons (tVar 1) (tCons (tVar 2) tNil)))) nd rfl rfl (im_seq (pm_var 0)) (fun _ _ _ _ _ _ => (gm_n 3 nd)) (fun _ _ _ _ _ _ => cm_nil) (fun _ _ _ _ _ _ => (pm_call (k_is_between T) hr (am_cons (pm_var 3) (am_cons (pm_var 1) (am_cons (pm_var 2) am_nil)))))))))))))⟩) runD_ok

/-! ### is_ascending -/
theorem sc_is_ascending : FnScope ["items", "one", "other"] ["items"] (defScope (top 29)) := ⟨rfl, rfl, rfl, by decide +kernel, rfl, by decide +kernel, by decide +kernel⟩
theorem k_is_ascending (T : Tx P w K mg base) : DOk P w K mg base "is_ascending" 1 F_is_ascending := by
  have nd := sc_is_ascending.nd
  obtain ⟨f, fd, Fn, hm, hb⟩ := T.a_is_ascending
  exact dok_mk (k := 0) Fn hm hb sc_is_ascending (fun _ _ _ _ _ _ hr => ⟨_, (sms_one (sm_ret (pm_callBV (cD_all rfl) T.b_all (pv_of (pm_frz (pf_lco [("one", 1), ("other", 2)] (gTup K 2 (gCons (gName 1) (gCons (gName 2) gNil))) tYes (tOp (rD K w ltD) (tVar 1) (tVar 2)) nd rfl rfl (im_zip (am_cons (pm_var 0) (am_cons (pm_sl (pm_var 0) (om_some pm_int) om_none) am_nil)) T.b_zip) (fun _ _ _ _ _ _ => (gm_t rfl (gms_cons (gm_n 1 nd) (gms_cons (gm_n 2 nd) gms_nil)))) (fun _ _ _ _ _ _ => cm_nil) (fun _ _ _ _ _ _ => (pm_cmp (opD_lt hr) (pm_var 1) (pv_of (pm_var 2))))))))))⟩) runD_ok

/-! ### is_name -/
theorem sc_is_name : FnScope ["value", "sign"] ["value"] (defScope (top 30)) := ⟨rfl, rfl, rfl, by decide +kernel, rfl, by decide +kernel, by decide +kernel⟩
theorem k_is_name (T : Tx P w K mg base) : DOk P w K mg base "is_name" 1 F_is_name := by
  have nd := sc_is_name.nd
  obtain ⟨f, fd, Fn, hm, hb⟩ := T.a_is_name
  exact dok_mk (k := 0) Fn hm hb sc_is_name (fun _ _ _ _ _ _ hr => ⟨_, (sms_cons (sm_if (tm_w (wm_or (tm_not (tm_val (pm_isi (T := "str") (pv_of (pm_var 0)) T.b_isinstance T.b_str))) (wm_or (tm_not (tm_chain opD_le opD_le pm_int (pm_callBV cD_len T.b_len (pv_of (pm_var 0))) (pv_of (pm_gd T.g_MOST_SIGNS)))) (wm_or1 (tm_cmp (opD_in hr) (pm_var 0) (pv_of (pm_gd T.g_RULING))))))) (sms_one (sm_ret pm_bl)) sms_nil)
    (sms_one (sm_ret (pm_and (pm_cmp (opD_in hr) (pm_ix ixR_D (pm_var 0) (pv_of pm_int)) (pv_of (pm_gd T.g_LETTERS))) (pm_one (pm_callBV (cD_all rfl) T.b_all (pv_of (pm_frz (pf_lco [("sign", 1)] (gName 1) tYes (tOrV (tOp (rD K w inD) (tVar 1) (tG K w (.str "abcdefghijklmnopqrstuvwxyz"))) (tOp (rD K w inD) (tVar 1) (tG K w (.str "0123456789")))) nd rfl rfl (im_seq (pm_var 0)) (fun _ _ _ _ _ _ => (gm_n 1 nd)) (fun _ _ _ _ _ _ => cm_nil) (fun _ _ _ _ _ _ => (pm_or (pm_cmp (opD_in hr) (pm_var 1) (pv_of (pm_gd T.g_LETTERS))) (pm_one (pm_cmp (opD_in hr) (pm_var 1) (pv_of (pm_gd T.g_FIGURES)))))))))))))))⟩) runD_ok

/-! ### power -/
theorem sc_power : FnScope ["base", "times", "found", "lap"] ["base", "times"] (defScope (top 31)) := ⟨rfl, rfl, rfl, by decide +kernel, rfl, by decide +kernel, by decide +kernel⟩
theorem k_power (T : Tx P w K mg base) : DOk P w K mg base "power" 1 F_power := by
  have nd := sc_power.nd
  obtain ⟨f, fd, Fn, hm, hb⟩ := T.a_power
  exact dok_mk (k := 0) Fn hm hb sc_power (fun _ _ _ _ _ _ hr => ⟨_, (sms_cons (sm_set 2 nd pm_int)
    (sms_cons (sm_for PassesOwn.never rfl (im_rng1 T.b_range (am_cons (pm_var 1) am_nil)) (gm_n 3 nd) (sms_one (sm_set 2 nd (pm_op opD_mul (pm_var 2) (pv_of (pm_var 0))))))
    (sms_one (sm_ret (pm_var 2)))))⟩) runD_ok

/-! ### are_named -/
theorem sc_are_named : FnScope ["value", "many", "places", "one", "name", "its"] ["value", "many", "places"] (defScope (top 37)) := ⟨rfl, rfl, rfl, by decide +kernel, rfl, by decide +kernel, by decide +kernel⟩
theorem k_are_named (T : Tx P w K mg base) : DOk P w K mg base "are_named" 3 F_are_named := by
  have nd := sc_are_named.nd
  obtain ⟨f, fd, Fn, hm, hb⟩ := T.a_are_named
  exact dok_mk (k := 2) Fn hm hb sc_are_named (fun _ _ _ _ _ _ hr => ⟨_, (sms_cons (sm_if (tm_w (wm_or (tm_not (tm_val (pm_isi (T := "tuple") (pv_of (pm_var 0)) T.b_isinstance T.b_tuple))) (wm_or1 (tm_cmp opD_gt (pm_callBV cD_len T.b_len (pv_of (pm_var 0))) (pv_of (pm_var 1)))))) (sms_one (sm_ret pm_bl)) sms_nil)
    (sms_cons (sm_if (tm_not (tm_val (pm_callBV (cD_all rfl) T.b_all (pv_of (pm_frz (pf_lco [("one", 3)] (gName 3) tYes (tAndV (tCB (rIsD K w "tuple") (tCons (tVar 3) (tCons (tC (.ty "tuple")) tNil))) (tOp (rD K w eqD) (tCB (rDV K w lenD) (tCons (tVar 3) tNil)) (tC (.int 2)))) nd rfl rfl (im_seq (pm_var 0)) (fun _ _ _ _ _ _ => (gm_n 3 nd)) (fun _ _ _ _ _ _ => cm_nil) (fun _ _ _ _ _ _ => (pm_and (pm_isi (T := "tuple") (pv_of (pm_var 3)) T.b_isinstance T.b_tuple) (pm_one (pm_cmp (opD_eq hr) (pm_callBV cD_len T.b_len (pv_of (pm_var 3))) (pv_of pm_int))))))))))) (sms_one (sm_ret pm_bl)) sms_nil)
    (sms_one (sm_ret (pm_callBV (cD_all rfl) T.b_all (pv_of (pm_frz (pf_lco [("name", 4), ("its", 5)] (gTup K 2 (gCons (gName 4) (gCons (gName 5) gNil))) tYes (tAndV (tCall (spD K w F_is_name) [] L2.E0 (tCons (tVar 4) tNil)) (tCall (spD K w F_is_between) [] L2.E0 (tCons (tVar 5) (tCons (tC (.int 0)) (tCons (tVar 2) tNil))))) nd rfl rfl (im_seq (pm_var 0)) (fun _ _ _ _ _ _ => (gm_t rfl (gms_cons (gm_n 4 nd) (gms_cons (gm_n 5 nd) gms_nil)))) (fun _ _ _ _ _ _ => cm_nil) (fun _ _ _ _ _ _ => (pm_and (pm_call (k_is_name T) hr (am_cons (pm_var 4) am_nil)) (pm_one (pm_call (k_is_between T) hr (am_cons (pm_var 5) (am_cons pm_int (am_cons (pm_var 2) am_nil)))))))))))))))⟩) runD_ok

/-! ### is_signs -/
theorem sc_is_signs : FnScope ["value", "names", "name", "its"] ["value"] (defScope (top 38)) := ⟨rfl, rfl, rfl, by decide +kernel, rfl, by decide +kernel, by decide +kernel⟩
theorem k_is_signs (T : Tx P w K mg base) : DOk P w K mg base "is_signs" 4 F_is_signs := by
  have nd := sc_is_signs.nd
  obtain ⟨f, fd, Fn, hm, hb⟩ := T.a_is_signs
  exact dok_mk (k := 3) Fn hm hb sc_is_signs (fun _ _ _ _ _ _ hr => ⟨_, (sms_cons (sm_if (tm_w (wm_or (tm_not (tm_val (pm_isi (T := "tuple") (pv_of (pm_var 0)) T.b_isinstance T.b_tuple))) (wm_or (tm_cmp (opD_ne hr) (pm_callBV cD_len T.b_len (pv_of (pm_var 0))) (pv_of pm_int)) (wm_or1 (tm_not (tm_val (pm_call (k_are_named T) hr (am_cons (pm_ix ixR_D (pm_var 0) (pv_of pm_int)) (am_cons (pm_gd T.g_MOST_RELATIONS) (am_cons (pm_gd T.g_MOST_PLACES) am_nil)))))))))) (sms_one (sm_ret pm_bl)) sms_nil)
    (sms_cons (sm_if (tm_not (tm_val (pm_call (k_are_named T) hr (am_cons (pm_ix ixR_D (pm_var 0) (pv_of pm_int)) (am_cons (pm_gd T.g_MOST_FUNCTIONS) (am_cons (pm_gd T.g_MOST_ARGUMENTS) am_nil)))))) (sms_one (sm_ret pm_bl)) sms_nil)
    (sms_cons (sm_setLco 1 [("name", 2), ("its", 3)] (gTup K 2 (gCons (gName 2) (gCons (gName 3) gNil))) tYes (tVar 2) nd rfl rfl (im_seq (pm_frz (pf_lst (am_star (pm_ix ixR_D (pm_var 0) (pv_of pm_int)) (am_star (pm_ix ixR_D (pm_var 0) (pv_of pm_int)) am_nil))))) (fun _ _ _ _ _ _ => (gm_t rfl (gms_cons (gm_n 2 nd) (gms_cons (gm_n 3 nd) gms_nil)))) (fun _ _ _ _ _ _ => cm_nil) (fun _ _ _ _ _ _ => (pm_var 2)))
    (sms_one (sm_ret (pm_cmp (opD_eq hr) (pm_lenSet rfl (pv_var 1) T.b_len T.b_set) (pv_of (pm_callBV cD_len T.b_len (pv_var 1)))))))))⟩) runD_ok

/-! ### check_signs -/
theorem sc_check_signs : FnScope ["signs"] ["signs"] (defScope (top 39)) := ⟨rfl, rfl, rfl, by decide +kernel, rfl, by decide +kernel, by decide +kernel⟩
theorem k_check_signs (T : Tx P w K mg base) : XOk P w K mg base "check_signs" 5 F_check_signs := by
  have nd := sc_check_signs.nd
  obtain ⟨f, fd, Fn, hm, hb⟩ := T.a_check_signs
  exact xok_mk (k := 4) Fn hm hb sc_check_signs (fun _ _ _ _ _ _ hr => ⟨_, (sms_one (sm_if (tm_not (tm_val (pm_call (k_is_signs T) hr (am_cons (pm_var 0) am_nil)))) (sms_one (sm_raise rfl (takes_of rfl rfl rfl rfl) T.r_BadSigns hr (pm_var 0))) sms_nil))⟩) runX_ok

/-! ### place_in -/
theorem sc_place_in : FnScope ["rows", "name", "its", "places"] ["rows", "name"] (defScope (top 40)) := ⟨rfl, rfl, rfl, by decide +kernel, rfl, by decide +kernel, by decide +kernel⟩
theorem k_place_in (T : Tx P w K mg base) : DOk P w K mg base "place_in" 1 F_place_in := by
  have nd := sc_place_in.nd
  obtain ⟨f, fd, Fn, hm, hb⟩ := T.a_place_in
  exact dok_mk (k := 0) Fn hm hb sc_place_in (fun _ _ _ _ _ _ hr => ⟨_, (sms_one (sm_ret (pm_index hr (pm_frz (pf_lco [("its", 2), ("places", 3)] (gTup K 2 (gCons (gName 2) (gCons (gName 3) gNil))) tYes (tVar 2) nd rfl rfl (im_seq (pm_var 0)) (fun _ _ _ _ _ _ => (gm_t rfl (gms_cons (gm_n 2 nd) (gms_cons (gm_n 3 nd) gms_nil)))) (fun _ _ _ _ _ _ => cm_nil) (fun _ _ _ _ _ _ => (pm_var 2)))) (am_cons (pm_var 1) am_nil))))⟩) runD_ok

/-! ### tuples_of -/
theorem sc_tuples_of : FnScope ["things", "places", "found", "place", "longer", "row", "thing"] ["things", "places"] (defScope (top 47)) := ⟨rfl, rfl, rfl, by decide +kernel, rfl, by decide +kernel, by decide +kernel⟩
theorem k_tuples_of (T : Tx P w K mg base) : DOk P w K mg base "tuples_of" 1 F_tuples_of := by
  have nd := sc_tuples_of.nd
  obtain ⟨f, fd, Fn, hm, hb⟩ := T.a_tuples_of
  exact dok_mk (k := 0) Fn hm hb sc_tuples_of (fun _ _ _ _ _ _ hr => ⟨_, (sms_cons (sm_set 2 nd (pm_frz (pf_lst (am_cons (pm_tup am_nil) am_nil))))
    (sms_cons (sm_for PassesOwn.never rfl (im_rng1 T.b_range (am_cons (pm_var 1) am_nil)) (gm_n 3 nd) (sms_cons (sm_own 4 nd (pf_lst am_nil))
    (sms_cons (sm_for PassesOwn.never rfl (im_seq (pm_var 2)) (gm_n 5 nd) (sms_one (sm_ext 4 (pm_frz (pf_lco [("thing", 6)] (gName 6) tYes (tTup (StX.tStar K (tVar 5) (tCons (tVar 6) tNil))) nd rfl rfl (im_rng1 T.b_range (am_cons (pm_var 0) am_nil)) (fun _ _ _ _ _ _ => (gm_n 6 nd)) (fun _ _ _ _ _ _ => cm_nil) (fun _ _ _ _ _ _ => (pm_tup (am_star (pm_var 5) (am_cons (pm_var 6) am_nil)))))))))
    (sms_one (sm_fr 4 (sm_set 2 nd (pm_var 4)))))))
    (sms_one (sm_ret (pm_var 2)))))⟩) runD_ok

/-! ### place_of -/
theorem sc_place_of : FnScope ["things", "row", "found", "thing"] ["things", "row"] (defScope (top 48)) := ⟨rfl, rfl, rfl, by decide +kernel, rfl, by decide +kernel, by decide +kernel⟩
theorem k_place_of (T : Tx P w K mg base) : DOk P w K mg base "place_of" 1 F_place_of := by
  have nd := sc_place_of.nd
  obtain ⟨f, fd, Fn, hm, hb⟩ := T.a_place_of
  exact dok_mk (k := 0) Fn hm hb sc_place_of (fun _ _ _ _ _ _ hr => ⟨_, (sms_cons (sm_set 2 nd pm_int)
    (sms_cons (sm_for PassesOwn.never rfl (im_seq (pm_var 1)) (gm_n 3 nd) (sms_one (sm_set 2 nd (pm_op opD_add (pm_op opD_mul (pm_var 2) (pv_of (pm_var 0))) (pv_of (pm_var 3))))))
    (sms_one (sm_ret (pm_var 2)))))⟩) runD_ok

/-! ### many_cells -/
theorem sc_many_cells : FnScope ["signs", "things", "found", "name", "places"] ["signs", "things"] (defScope (top 49)) := ⟨rfl, rfl, rfl, by decide +kernel, rfl, by decide +kernel, by decide +kernel⟩
theorem k_many_cells (T : Tx P w K mg base) : DOk P w K mg base "many_cells" 2 F_many_cells := by
  have nd := sc_many_cells.nd
  obtain ⟨f, fd, Fn, hm, hb⟩ := T.a_many_cells
  exact dok_mk (k := 1) Fn hm hb sc_many_cells (fun _ _ _ _ _ _ hr => ⟨_, (sms_cons (sm_set 2 nd (pm_callBV (cD_sum rfl) T.b_sum (pv_of (pm_frz (pf_lco [("name", 3), ("places", 4)] (gTup K 2 (gCons (gName 3) (gCons (gName 4) gNil))) tYes (tCall (spD K w F_power) [] L2.E0 (tCons (tVar 1) (tCons (tVar 4) tNil))) nd rfl rfl (im_seq (pm_ix ixR_D (pm_var 0) (pv_of pm_int))) (fun _ _ _ _ _ _ => (gm_t rfl (gms_cons (gm_n 3 nd) (gms_cons (gm_n 4 nd) gms_nil)))) (fun _ _ _ _ _ _ => cm_nil) (fun _ _ _ _ _ _ => (pm_call (k_power T) hr (am_cons (pm_var 1) (am_cons (pm_var 4) am_nil)))))))))
    (sms_one (sm_ret (pm_op opD_add (pm_var 2) (pv_of (pm_callBV (cD_sum rfl) T.b_sum (pv_of (pm_frz (pf_lco [("name", 3), ("places", 4)] (gTup K 2 (gCons (gName 3) (gCons (gName 4) gNil))) tYes (tOp (rD K w mulD) (tCall (spD K w F_power) [] L2.E0 (tCons (tVar 1) (tCons (tVar 4) tNil))) (tVar 1)) nd rfl rfl (im_seq (pm_ix ixR_D (pm_var 0) (pv_of pm_int))) (fun _ _ _ _ _ _ => (gm_t rfl (gms_cons (gm_n 3 nd) (gms_cons (gm_n 4 nd) gms_nil)))) (fun _ _ _ _ _ _ => cm_nil) (fun _ _ _ _ _ _ => (pm_op opD_mul (pm_call (k_power T) hr (am_cons (pm_var 1) (am_cons (pm_var 4) am_nil))) (pv_of (pm_var 1)))))))))))))⟩) runD_ok

/-! ### is_size -/
theorem sc_is_size : FnScope ["value"] ["value"] (defScope (top 50)) := ⟨rfl, rfl, rfl, by decide +kernel, rfl, by decide +kernel, by decide +kernel⟩
theorem k_is_size (T : Tx P w K mg base) : DOk P w K mg base "is_size" 3 F_is_size := by
  have nd := sc_is_size.nd
  obtain ⟨f, fd, Fn, hm, hb⟩ := T.a_is_size
  exact dok_mk (k := 2) Fn hm hb sc_is_size (fun _ _ _ _ _ _ hr => ⟨_, (sms_one (sm_ret (pm_call (k_is_between T) hr (am_cons (pm_var 0) (am_cons pm_int (am_cons (pm_gd T.g_MOST_THINGS) am_nil))))))⟩) runD_ok

/-! ### check_size -/
theorem sc_check_size : FnScope ["signs", "things"] ["signs", "things"] (defScope (top 51)) := ⟨rfl, rfl, rfl, by decide +kernel, rfl, by decide +kernel, by decide +kernel⟩
theorem k_check_size (T : Tx P w K mg base) : XOk P w K mg base "check_size" 4 F_check_size := by
  have nd := sc_check_size.nd
  obtain ⟨f, fd, Fn, hm, hb⟩ := T.a_check_size
  exact xok_mk (k := 3) Fn hm hb sc_check_size (fun _ _ _ _ _ _ hr => ⟨_, (sms_cons (sm_if (tm_not (tm_val (pm_call (k_is_size T) hr (am_cons (pm_var 1) am_nil)))) (sms_one (sm_raise rfl (takes_of rfl rfl rfl rfl) T.r_BadSize hr (pm_var 1))) sms_nil)
    (sms_one (sm_if (tm_cmp opD_gt (pm_call (k_many_cells T) hr (am_cons (pm_var 0) (am_cons (pm_var 1) am_nil))) (pv_of (pm_gd T.g_MOST_CELLS))) (sms_one (sm_raise rfl (takes_of rfl rfl rfl rfl) T.r_TooGreat hr (pm_gd T.g_MOST_CELLS))) sms_nil)))⟩) runX_ok

/-! ### is_table -/
theorem sc_is_table : FnScope ["things", "places", "value", "row"] ["things", "places", "value"] (defScope (top 52)) := ⟨rfl, rfl, rfl, by decide +kernel, rfl, by decide +kernel, by decide +kernel⟩
theorem k_is_table (T : Tx P w K mg base) : DOk P w K mg base "is_table" 4 F_is_table := by
  have nd := sc_is_table.nd
  obtain ⟨f, fd, Fn, hm, hb⟩ := T.a_is_table
  exact dok_mk (k := 3) Fn hm hb sc_is_table (fun _ _ _ _ _ _ hr => ⟨_, (sms_cons (sm_if (tm_w (wm_or (tm_not (tm_val (pm_isi (T := "tuple") (pv_of (pm_var 2)) T.b_isinstance T.b_tuple))) (wm_or1 (tm_not (tm_val (pm_callBV (cD_all rfl) T.b_all (pv_of (pm_frz (pf_lco [("row", 3)] (gName 3) tYes (tCall (spD K w F_are_between) [] L2.E0 (tCons (tVar 3) (tCons (tC (.int 0)) (tCons (tOp (rD K w subD) (tVar 0) (tC (.int 1))) tNil)))) nd rfl rfl (im_seq (pm_var 2)) (fun _ _ _ _ _ _ => (gm_n 3 nd)) (fun _ _ _ _ _ _ => cm_nil) (fun _ _ _ _ _ _ => (pm_call (k_are_between T) hr (am_cons (pm_var 3) (am_cons pm_int (am_cons (pm_op opD_sub (pm_var 0) (pv_of pm_int)) am_nil)))))))))))))) (sms_one (sm_ret pm_bl)) sms_nil)
    (sms_one (sm_ret (pm_and (pm_callBV (cD_all rfl) T.b_all (pv_of (pm_frz (pf_lco [("row", 3)] (gName 3) tYes (tOp (rD K w eqD) (tCB (rDV K w lenD) (tCons (tVar 3) tNil)) (tVar 1)) nd rfl rfl (im_seq (pm_var 2)) (fun _ _ _ _ _ _ => (gm_n 3 nd)) (fun _ _ _ _ _ _ => cm_nil) (fun _ _ _ _ _ _ => (pm_cmp (opD_eq hr) (pm_callBV cD_len T.b_len (pv_of (pm_var 3))) (pv_of (pm_var 1)))))))) (pm_one (pm_call (k_is_ascending T) hr (am_cons (pm_var 2) am_nil)))))))⟩) runD_ok

/-! ### is_column -/
theorem sc_is_column : FnScope ["things", "places", "value"] ["things", "places", "value"] (defScope (top 53)) := ⟨rfl, rfl, rfl, by decide +kernel, rfl, by decide +kernel, by decide +kernel⟩
theorem k_is_column (T : Tx P w K mg base) : DOk P w K mg base "is_column" 4 F_is_column := by
  have nd := sc_is_column.nd
  obtain ⟨f, fd, Fn, hm, hb⟩ := T.a_is_column
  exact dok_mk (k := 3) Fn hm hb sc_is_column (fun _ _ _ _ _ _ hr => ⟨_, (sms_one (sm_ret (pm_and (pm_call (k_are_between T) hr (am_cons (pm_var 2) (am_cons pm_int (am_cons (pm_op opD_sub (pm_var 0) (pv_of pm_int)) am_nil)))) (pm_one (pm_cmp (opD_eq hr) (pm_callBV cD_len T.b_len (pv_of (pm_var 2))) (pv_of (pm_call (k_power T) hr (am_cons (pm_var 0) (am_cons (pm_var 1) am_nil)))))))))⟩) runD_ok

/-! ### is_world_of -/
theorem sc_is_world_of : FnScope ["signs", "value", "things", "tables", "columns", "name", "places", "table", "column"] ["signs", "value"] (defScope (top 54)) := ⟨rfl, rfl, rfl, by decide +kernel, rfl, by decide +kernel, by decide +kernel⟩
theorem k_is_world_of (T : Tx P w K mg base) : DOk P w K mg base "is_world_of" 5 F_is_world_of := by
  have nd := sc_is_world_of.nd
  obtain ⟨f, fd, Fn, hm, hb⟩ := T.a_is_world_of
  exact dok_mk (k := 4) Fn hm hb sc_is_world_of (fun _ _ _ _ _ _ hr => ⟨_, (sms_cons (sm_if (tm_w (wm_or (tm_not (tm_val (pm_isi (T := "tuple") (pv_of (pm_var 1)) T.b_isinstance T.b_tuple))) (wm_or (tm_cmp (opD_ne hr) (pm_callBV cD_len T.b_len (pv_of (pm_var 1))) (pv_of (pm_gd T.g_THREE_worlds))) (wm_or1 (tm_not (tm_val (pm_call (k_is_size T) hr (am_cons (pm_ix ixR_D (pm_var 1) (pv_of pm_int)) am_nil)))))))) (sms_one (sm_ret pm_bl)) sms_nil)
    (sms_cons (sm_asg (pm_var 1) (gm_t rfl (gms_cons (gm_n 2 nd) (gms_cons (gm_n 3 nd) (gms_cons (gm_n 4 nd) gms_nil)))))
    (sms_cons (sm_if (tm_w (wm_or (tm_cmp opD_gt (pm_call (k_many_cells T) hr (am_cons (pm_var 0) (am_cons (pm_var 2) am_nil))) (pv_of (pm_gd T.g_MOST_CELLS))) (wm_or (tm_not (tm_val (pm_isi (T := "tuple") (pv_of (pm_var 3)) T.b_isinstance T.b_tuple))) (wm_or1 (tm_not (tm_val (pm_isi (T := "tuple") (pv_of (pm_var 4)) T.b_isinstance T.b_tuple))))))) (sms_one (sm_ret pm_bl)) sms_nil)
    (sms_cons (sm_if (tm_w (wm_or (tm_cmp (opD_ne hr) (pm_callBV cD_len T.b_len (pv_of (pm_var 3))) (pv_of (pm_callBV cD_len T.b_len (pv_of (pm_ix ixR_D (pm_var 0) (pv_of pm_int)))))) (wm_or1 (tm_cmp (opD_ne hr) (pm_callBV cD_len T.b_len (pv_of (pm_var 4))) (pv_of (pm_callBV cD_len T.b_len (pv_of (pm_ix ixR_D (pm_var 0) (pv_of pm_int))))))))) (sms_one (sm_ret pm_bl)) sms_nil)
    (sms_cons (sm_if (tm_not (tm_val (pm_callBV (cD_all rfl) T.b_all (pv_of (pm_frz (pf_lco [("name", 5), ("places", 6), ("table", 7)] (gTup K 2 (gCons (gTup K 2 (gCons (gName 5) (gCons (gName 6) gNil))) (gCons (gName 7) gNil))) tYes (tCall (spD K w F_is_table) [] L2.E0 (tCons (tVar 2) (tCons (tVar 6) (tCons (tVar 7) tNil)))) nd rfl rfl (im_zip (am_cons (pm_ix ixR_D (pm_var 0) (pv_of pm_int)) (am_cons (pm_var 3) am_nil)) T.b_zip) (fun _ _ _ _ _ _ => (gm_t rfl (gms_cons (gm_t rfl (gms_cons (gm_n 5 nd) (gms_cons (gm_n 6 nd) gms_nil))) (gms_cons (gm_n 7 nd) gms_nil)))) (fun _ _ _ _ _ _ => cm_nil) (fun _ _ _ _ _ _ => (pm_call (k_is_table T) hr (am_cons (pm_var 2) (am_cons (pm_var 6) (am_cons (pm_var 7) am_nil))))))))))) (sms_one (sm_ret pm_bl)) sms_nil)
    (sms_one (sm_ret (pm_callBV (cD_all rfl) T.b_all (pv_of (pm_frz (pf_lco [("name", 5), ("places", 6), ("column", 8)] (gTup K 2 (gCons (gTup K 2 (gCons (gName 5) (gCons (gName 6) gNil))) (gCons (gName 8) gNil))) tYes (tCall (spD K w F_is_column) [] L2.E0 (tCons (tVar 2) (tCons (tVar 6) (tCons (tVar 8) tNil)))) nd rfl rfl (im_zip (am_cons (pm_ix ixR_D (pm_var 0) (pv_of pm_int)) (am_cons (pm_var 4) am_nil)) T.b_zip) (fun _ _ _ _ _ _ => (gm_t rfl (gms_cons (gm_t rfl (gms_cons (gm_n 5 nd) (gms_cons (gm_n 6 nd) gms_nil))) (gms_cons (gm_n 8 nd) gms_nil)))) (fun _ _ _ _ _ _ => cm_nil) (fun _ _ _ _ _ _ => (pm_call (k_is_column T) hr (am_cons (pm_var 2) (am_cons (pm_var 6) (am_cons (pm_var 8) am_nil))))))))))))))))⟩) runD_ok

/-! ### check_its_world -/
theorem sc_check_its_world : FnScope ["signs", "world"] ["signs", "world"] (defScope (top 56)) := ⟨rfl, rfl, rfl, by decide +kernel, rfl, by decide +kernel, by decide +kernel⟩
theorem k_check_its_world (T : Tx P w K mg base) : XOk P w K mg base "check_its_world" 6 F_check_its_world := by
  have nd := sc_check_its_world.nd
  obtain ⟨f, fd, Fn, hm, hb⟩ := T.a_check_its_world
  exact xok_mk (k := 5) Fn hm hb sc_check_its_world (fun _ _ _ _ _ _ hr => ⟨_, (sms_one (sm_if (tm_not (tm_val (pm_call (k_is_world_of T) hr (am_cons (pm_var 0) (am_cons (pm_var 1) am_nil))))) (sms_one (sm_raise rfl (takes_of rfl rfl rfl rfl) T.r_BadWorld hr (pm_var 1))) sms_nil))⟩) runX_ok

/-! ### check_world -/
theorem sc_check_world : FnScope ["signs", "world"] ["signs", "world"] (defScope (top 55)) := ⟨rfl, rfl, rfl, by decide +kernel, rfl, by decide +kernel, by decide +kernel⟩
theorem k_check_world (T : Tx P w K mg base) : XOk P w K mg base "check_world" 7 F_check_world := by
  have nd := sc_check_world.nd
  obtain ⟨f, fd, Fn, hm, hb⟩ := T.a_check_world
  exact xok_mk (k := 6) Fn hm hb sc_check_world (fun _ _ _ _ _ _ hr => ⟨_, (sms_cons (sm_expr (pm_call (k_check_signs T).dok hr (am_cons (pm_var 0) am_nil)))
    (sms_one (sm_expr (pm_call (k_check_its_world T).dok hr (am_cons (pm_var 0) (am_cons (pm_var 1) am_nil))))))⟩) runX_ok

/-! ### cells_of -/
theorem sc_cells_of : FnScope ["signs", "things", "found", "name", "places", "row", "thing"] ["signs", "things"] (defScope (top 60)) := ⟨rfl, rfl, rfl, by decide +kernel, rfl, by decide +kernel, by decide +kernel⟩
theorem k_cells_of (T : Tx P w K mg base) : DOk P w K mg base "cells_of" 2 F_cells_of := by
  have nd := sc_cells_of.nd
  obtain ⟨f, fd, Fn, hm, hb⟩ := T.a_cells_of
  exact dok_mk (k := 1) Fn hm hb sc_cells_of (fun _ _ _ _ _ _ hr => ⟨_, (sms_cons (sm_own 2 nd (pf_lst am_nil))
    (sms_cons (sm_for PassesOwn.never rfl (im_seq (pm_ix ixR_D (pm_var 0) (pv_of pm_int))) (gm_t rfl (gms_cons (gm_n 3 nd) (gms_cons (gm_n 4 nd) gms_nil))) (sms_one (sm_ext 2 (pm_frz (pf_lco [("row", 5)] (gName 5) tYes (tTup (tCons (tG K w (.str "is")) (tCons (tVar 3) (tCons (tVar 5) tNil)))) nd rfl rfl (im_seq (pm_call (k_tuples_of T) hr (am_cons (pm_var 1) (am_cons (pm_var 4) am_nil)))) (fun _ _ _ _ _ _ => (gm_n 5 nd)) (fun _ _ _ _ _ _ => cm_nil) (fun _ _ _ _ _ _ => (pm_tup (am_cons (pm_gd T.g_IS) (am_cons (pm_var 3) (am_cons (pm_var 5) am_nil))))))))))
    (sms_cons (sm_for PassesOwn.never rfl (im_seq (pm_ix ixR_D (pm_var 0) (pv_of pm_int))) (gm_t rfl (gms_cons (gm_n 3 nd) (gms_cons (gm_n 4 nd) gms_nil))) (sms_one (sm_for PassesOwn.never rfl (im_seq (pm_call (k_tuples_of T) hr (am_cons (pm_var 1) (am_cons (pm_var 4) am_nil)))) (gm_n 5 nd) (sms_one (sm_ext 2 (pm_frz (pf_lco [("thing", 6)] (gName 6) tYes (tTup (tCons (tG K w (.str "of")) (tCons (tVar 3) (tCons (tVar 5) (tCons (tVar 6) tNil))))) nd rfl rfl (im_rng1 T.b_range (am_cons (pm_var 1) am_nil)) (fun _ _ _ _ _ _ => (gm_n 6 nd)) (fun _ _ _ _ _ _ => cm_nil) (fun _ _ _ _ _ _ => (pm_tup (am_cons (pm_gd T.g_OF) (am_cons (pm_var 3) (am_cons (pm_var 5) (am_cons (pm_var 6) am_nil)))))))))))))
    (sms_one (sm_fr 2 (sm_ret (pm_var 2)))))))⟩) runD_ok

/-! ### cells -/
theorem sc_cells : FnScope ["signs", "things"] ["signs", "things"] (defScope (top 61)) := ⟨rfl, rfl, rfl, by decide +kernel, rfl, by decide +kernel, by decide +kernel⟩
theorem k_cells (T : Tx P w K mg base) : DOk P w K mg base "cells" 6 F_cells := by
  have nd := sc_cells.nd
  obtain ⟨f, fd, Fn, hm, hb⟩ := T.a_cells
  exact dok_mk (k := 5) Fn hm hb sc_cells (fun _ _ _ _ _ _ hr => ⟨_, (sms_cons (sm_expr (pm_call (k_check_signs T).dok hr (am_cons (pm_var 0) am_nil)))
    (sms_cons (sm_expr (pm_call (k_check_size T).dok hr (am_cons (pm_var 0) (am_cons (pm_var 1) am_nil))))
    (sms_one (sm_ret (pm_callTV cD_tuple T.b_tuple (pv_of (pm_call (k_cells_of T) hr (am_cons (pm_var 0) (am_cons (pm_var 1) am_nil)))))))))⟩) runD_ok

/-! ### numbers_of -/
theorem sc_numbers_of : FnScope ["signs", "things", "place", "cell"] ["signs", "things"] (defScope (top 62)) := ⟨rfl, rfl, rfl, by decide +kernel, rfl, by decide +kernel, by decide +kernel⟩
theorem k_numbers_of (T : Tx P w K mg base) : DOk P w K mg base "numbers_of" 3 F_numbers_of := by
  have nd := sc_numbers_of.nd
  obtain ⟨f, fd, Fn, hm, hb⟩ := T.a_numbers_of
  exact dok_mk (k := 2) Fn hm hb sc_numbers_of (fun _ _ _ _ _ _ hr => ⟨_, (sms_one (sm_ret (pm_callTV (cD_dict rfl hr) T.b_dict (pv_of (pm_frz (pf_lco [("place", 2), ("cell", 3)] (gTup K 2 (gCons (gName 2) (gCons (gName 3) gNil))) tYes (tTup (tCons (tVar 3) (tCons (tOp (rD K w addD) (tVar 2) (tC (.int 1))) tNil))) nd rfl rfl (im_enum (pm_call (k_cells_of T) hr (am_cons (pm_var 0) (am_cons (pm_var 1) am_nil))) T.b_enumerate) (fun _ _ _ _ _ _ => (gm_t rfl (gms_cons (gm_n 2 nd) (gms_cons (gm_n 3 nd) gms_nil)))) (fun _ _ _ _ _ _ => cm_nil) (fun _ _ _ _ _ _ => (pm_tup (am_cons (pm_var 3) (am_cons (pm_op opD_add (pm_var 2) (pv_of pm_int)) am_nil))))))))))⟩) runD_ok

/-! ### is_cell -/
theorem sc_is_cell : FnScope ["signs", "things", "value", "thing"] ["signs", "things", "value"] (defScope (top 63)) := ⟨rfl, rfl, rfl, by decide +kernel, rfl, by decide +kernel, by decide +kernel⟩
theorem k_is_cell (T : Tx P w K mg base) : DOk P w K mg base "is_cell" 3 F_is_cell := by
  have nd := sc_is_cell.nd
  obtain ⟨f, fd, Fn, hm, hb⟩ := T.a_is_cell
  exact dok_mk (k := 2) Fn hm hb sc_is_cell (fun _ _ _ _ _ _ hr => ⟨_, (sms_cons (sm_if (tm_w (wm_or (tm_not (tm_val (pm_isi (T := "tuple") (pv_of (pm_var 2)) T.b_isinstance T.b_tuple))) (wm_or (tm_cmp (opD_notIn hr) (pm_callBV cD_len T.b_len (pv_of (pm_var 2))) (pv_of (pm_tup (am_cons (pm_gd T.g_THREE_cells) (am_cons (pm_gd T.g_FOUR) am_nil))))) (wm_or1 (tm_not (tm_val (pm_isi (T := "tuple") (pv_of (pm_ix ixR_D (pm_var 2) (pv_of pm_int))) T.b_isinstance T.b_tuple))))))) (sms_one (sm_ret pm_bl)) sms_nil)
    (sms_cons (sm_if (tm_not (tm_val (pm_callBV (cD_all rfl) T.b_all (pv_of (pm_frz (pf_lco [("thing", 3)] (gName 3) tYes (tCall (spD K w F_is_integer) [] L2.E0 (tCons (tVar 3) tNil)) nd rfl rfl (im_seq (pm_frz (pf_lst (am_star (pm_ix ixR_D (pm_var 2) (pv_of pm_int)) (am_star (pm_sl (pm_var 2) (om_some pm_int) om_none) am_nil))))) (fun _ _ _ _ _ _ => (gm_n 3 nd)) (fun _ _ _ _ _ _ => cm_nil) (fun _ _ _ _ _ _ => (pm_call (k_is_integer T) hr (am_cons (pm_var 3) am_nil))))))))) (sms_one (sm_ret pm_bl)) sms_nil)
    (sms_one (sm_ret (pm_and (pm_isi (T := "str") (pv_of (pm_ix ixR_D (pm_var 2) (pv_of pm_int))) T.b_isinstance T.b_str) (pm_and (pm_isi (T := "str") (pv_of (pm_ix ixR_D (pm_var 2) (pv_of pm_int))) T.b_isinstance T.b_str) (pm_one (pm_cmp (opD_in hr) (pm_var 2) (pv_of (pm_call (k_cells_of T) hr (am_cons (pm_var 0) (am_cons (pm_var 1) am_nil))))))))))))⟩) runD_ok

/-! ### cell_number -/
theorem sc_cell_number : FnScope ["signs", "things", "cell"] ["signs", "things", "cell"] (defScope (top 64)) := ⟨rfl, rfl, rfl, by decide +kernel, rfl, by decide +kernel, by decide +kernel⟩
theorem k_cell_number (T : Tx P w K mg base) : XOk P w K mg base "cell_number" 6 F_cell_number := by
  have nd := sc_cell_number.nd
  obtain ⟨f, fd, Fn, hm, hb⟩ := T.a_cell_number
  exact xok_mk (k := 5) Fn hm hb sc_cell_number (fun _ _ _ _ _ _ hr => ⟨_, (sms_cons (sm_expr (pm_call (k_check_signs T).dok hr (am_cons (pm_var 0) am_nil)))
    (sms_cons (sm_expr (pm_call (k_check_size T).dok hr (am_cons (pm_var 0) (am_cons (pm_var 1) am_nil))))
    (sms_cons (sm_if (tm_not (tm_val (pm_call (k_is_cell T) hr (am_cons (pm_var 0) (am_cons (pm_var 1) (am_cons (pm_var 2) am_nil)))))) (sms_one (sm_raise rfl (takes_of rfl rfl rfl rfl) T.r_BadCell hr (pm_var 2))) sms_nil)
    (sms_one (sm_ret (pm_ix (ixR_DD hr) (pm_call (k_numbers_of T) hr (am_cons (pm_var 0) (am_cons (pm_var 1) am_nil))) (pv_of (pm_var 2))))))))⟩) runX_ok

/-! ### is_cell_so -/
theorem sc_is_cell_so : FnScope ["signs", "world", "cell"] ["signs", "world", "cell"] (defScope (top 65)) := ⟨rfl, rfl, rfl, by decide +kernel, rfl, by decide +kernel, by decide +kernel⟩
theorem k_is_cell_so (T : Tx P w K mg base) : DOk P w K mg base "is_cell_so" 2 F_is_cell_so := by
  have nd := sc_is_cell_so.nd
  obtain ⟨f, fd, Fn, hm, hb⟩ := T.a_is_cell_so
  exact dok_mk (k := 1) Fn hm hb sc_is_cell_so (fun _ _ _ _ _ _ hr => ⟨_, (sms_cons (sm_if (tm_cmp (opD_eq hr) (pm_ix ixR_D (pm_var 2) (pv_of pm_int)) (pv_of (pm_gd T.g_IS))) (sms_one (sm_ret (pm_cmp (opD_in hr) (pm_ix ixR_D (pm_var 2) (pv_of pm_int)) (pv_of (pm_ix ixR_D (pm_ix ixR_D (pm_var 1) (pv_of pm_int)) (pv_of (pm_call (k_place_in T) hr (am_cons (pm_ix ixR_D (pm_var 0) (pv_of pm_int)) (am_cons (pm_ix ixR_D (pm_var 2) (pv_of pm_int)) am_nil))))))))) sms_nil)
    (sms_one (sm_ret (pm_cmp (opD_eq hr) (pm_ix ixR_D (pm_ix ixR_D (pm_ix ixR_D (pm_var 1) (pv_of pm_int)) (pv_of (pm_call (k_place_in T) hr (am_cons (pm_ix ixR_D (pm_var 0) (pv_of pm_int)) (am_cons (pm_ix ixR_D (pm_var 2) (pv_of pm_int)) am_nil))))) (pv_of (pm_call (k_place_of T) hr (am_cons (pm_ix ixR_D (pm_var 1) (pv_of pm_int)) (am_cons (pm_ix ixR_D (pm_var 2) (pv_of pm_int)) am_nil))))) (pv_of (pm_ix ixR_D (pm_var 2) (pv_of pm_int)))))))⟩) runD_ok

/-! ### literals_of -/
theorem sc_literals_of : FnScope ["signs", "world", "found", "place", "cell"] ["signs", "world"] (defScope (top 66)) := ⟨rfl, rfl, rfl, by decide +kernel, rfl, by decide +kernel, by decide +kernel⟩
theorem k_literals_of (T : Tx P w K mg base) : DOk P w K mg base "literals_of" 3 F_literals_of := by
  have nd := sc_literals_of.nd
  obtain ⟨f, fd, Fn, hm, hb⟩ := T.a_literals_of
  exact dok_mk (k := 2) Fn hm hb sc_literals_of (fun _ _ _ _ _ _ hr => ⟨_, (sms_cons (sm_own 2 nd (pf_lst am_nil))
    (sms_cons (sm_for PassesOwn.never rfl (im_enum (pm_call (k_cells_of T) hr (am_cons (pm_var 0) (am_cons (pm_ix ixR_D (pm_var 1) (pv_of pm_int)) am_nil))) T.b_enumerate) (gm_t rfl (gms_cons (gm_n 3 nd) (gms_cons (gm_n 4 nd) gms_nil))) (sms_one (sm_app 2 (pm_ifE (tm_val (pm_call (k_is_cell_so T) hr (am_cons (pm_var 0) (am_cons (pm_var 1) (am_cons (pm_var 4) am_nil))))) (pm_op opD_add (pm_var 3) (pv_of pm_int)) (pm_op opD_sub (pm_op opD_sub pm_int (pv_of (pm_var 3))) (pv_of pm_int))))))
    (sms_one (sm_fr 2 (sm_ret (pm_var 2))))))⟩) runD_ok

/-! ### cells_in -/
theorem sc_cells_in : FnScope ["signs", "world"] ["signs", "world"] (defScope (top 67)) := ⟨rfl, rfl, rfl, by decide +kernel, rfl, by decide +kernel, by decide +kernel⟩
theorem k_cells_in (T : Tx P w K mg base) : DOk P w K mg base "cells_in" 8 F_cells_in := by
  have nd := sc_cells_in.nd
  obtain ⟨f, fd, Fn, hm, hb⟩ := T.a_cells_in
  exact dok_mk (k := 7) Fn hm hb sc_cells_in (fun _ _ _ _ _ _ hr => ⟨_, (sms_cons (sm_expr (pm_call (k_check_world T).dok hr (am_cons (pm_var 0) (am_cons (pm_var 1) am_nil))))
    (sms_one (sm_ret (pm_callTV cD_tuple T.b_tuple (pv_of (pm_call (k_literals_of T) hr (am_cons (pm_var 0) (am_cons (pm_var 1) am_nil))))))))⟩) runD_ok

/-! ### world_from -/
theorem sc_world_from : FnScope ["signs", "things", "so", "tables", "columns", "name", "places", "row", "its", "some", "thing"] ["signs", "things", "so"] (defScope (top 68)) := ⟨rfl, rfl, rfl, by decide +kernel, rfl, by decide +kernel, by decide +kernel⟩
theorem k_world_from (T : Tx P w K mg base) : DOk P w K mg base "world_from" 2 F_world_from := by
  have nd := sc_world_from.nd
  obtain ⟨f, fd, Fn, hm, hb⟩ := T.a_world_from
  exact dok_mk (k := 1) Fn hm hb sc_world_from (fun _ _ _ _ _ _ hr => ⟨_, (sms_cons (sm_parFF 3 4 rfl nd (pf_lst am_nil) (fun _ => (pf_lst am_nil)))
    (sms_cons (sm_for PassesOwn.never rfl (im_seq (pm_ix ixR_D (pm_var 0) (pv_of pm_int))) (gm_t rfl (gms_cons (gm_n 5 nd) (gms_cons (gm_n 6 nd) gms_nil))) (sms_one (sm_app 3 (pm_callTV cD_tuple T.b_tuple (pv_of (pm_frz (pf_lco [("row", 7)] (gName 7) (tB (tOp (rD K w ixDD) (tVar 2) (tTup (tCons (tG K w (.str "is")) (tCons (tVar 5) (tCons (tVar 7) tNil)))))) (tVar 7) nd rfl rfl (im_seq (pm_call (k_tuples_of T) hr (am_cons (pm_var 1) (am_cons (pm_var 6) am_nil)))) (fun _ _ _ _ _ _ => (gm_n 7 nd)) (fun _ _ _ _ _ _ => (cm_one (tm_val (pm_ix (ixR_DD hr) (pm_var 2) (pv_of (pm_tup (am_cons (pm_gd T.g_IS) (am_cons (pm_var 5) (am_cons (pm_var 7) am_nil))))))))) (fun _ _ _ _ _ _ => (pm_var 7)))))))))
    (sms_cons (sm_for PassesOwn.never rfl (im_seq (pm_ix ixR_D (pm_var 0) (pv_of pm_int))) (gm_t rfl (gms_cons (gm_n 5 nd) (gms_cons (gm_n 6 nd) gms_nil))) (sms_cons (sm_own 8 nd (pf_lst am_nil))
    (sms_cons (sm_for PassesOwn.never rfl (im_seq (pm_call (k_tuples_of T) hr (am_cons (pm_var 1) (am_cons (pm_var 6) am_nil)))) (gm_n 7 nd) (sms_cons (sm_setLco 9 [("thing", 10)] (gName 10) (tB (tOp (rD K w ixDD) (tVar 2) (tTup (tCons (tG K w (.str "of")) (tCons (tVar 5) (tCons (tVar 7) (tCons (tVar 10) tNil))))))) (tVar 10) nd rfl rfl (im_rng1 T.b_range (am_cons (pm_var 1) am_nil)) (fun _ _ _ _ _ _ => (gm_n 10 nd)) (fun _ _ _ _ _ _ => (cm_one (tm_val (pm_ix (ixR_DD hr) (pm_var 2) (pv_of (pm_tup (am_cons (pm_gd T.g_OF) (am_cons (pm_var 5) (am_cons (pm_var 7) (am_cons (pm_var 10) am_nil)))))))))) (fun _ _ _ _ _ _ => (pm_var 10)))
    (sms_cons (sm_if (tm_cmp (opD_ne hr) (pm_callBV cD_len T.b_len (pv_var 9)) (pv_of pm_int)) (sms_one (sm_ret pm_non)) sms_nil)
    (sms_one (sm_app 8 (pm_ixN 9 ixR_D (pv_of pm_int)))))))
    (sms_one (sm_app 4 (pm_callTV cD_tuple T.b_tuple (pv_var 8)))))))
    (sms_one (sm_ret (pm_tup (am_cons (pm_var 1) (am_cons (pm_callTV cD_tuple T.b_tuple (pv_var 3)) (am_cons (pm_callTV cD_tuple T.b_tuple (pv_var 4)) am_nil)))))))))⟩) runD_ok

/-! ### truths_of -/
theorem sc_truths_of : FnScope ["signs", "things", "literals", "place", "cell"] ["signs", "things", "literals"] (defScope (top 69)) := ⟨rfl, rfl, rfl, by decide +kernel, rfl, by decide +kernel, by decide +kernel⟩
theorem k_truths_of (T : Tx P w K mg base) : DOk P w K mg base "truths_of" 3 F_truths_of := by
  have nd := sc_truths_of.nd
  obtain ⟨f, fd, Fn, hm, hb⟩ := T.a_truths_of
  exact dok_mk (k := 2) Fn hm hb sc_truths_of (fun _ _ _ _ _ _ hr => ⟨_, (sms_one (sm_ret (pm_callTV (cD_dict rfl hr) T.b_dict (pv_of (pm_frz (pf_lco [("place", 3), ("cell", 4)] (gTup K 2 (gCons (gName 3) (gCons (gName 4) gNil))) tYes (tTup (tCons (tVar 4) (tCons (tOp (rD K w inD) (tOp (rD K w addD) (tVar 3) (tC (.int 1))) (tVar 2)) tNil))) nd rfl rfl (im_enum (pm_call (k_cells_of T) hr (am_cons (pm_var 0) (am_cons (pm_var 1) am_nil))) T.b_enumerate) (fun _ _ _ _ _ _ => (gm_t rfl (gms_cons (gm_n 3 nd) (gms_cons (gm_n 4 nd) gms_nil)))) (fun _ _ _ _ _ _ => cm_nil) (fun _ _ _ _ _ _ => (pm_tup (am_cons (pm_var 4) (am_cons (pm_cmp (opD_in hr) (pm_op opD_add (pm_var 3) (pv_of pm_int)) (pv_of (pm_var 2))) am_nil))))))))))⟩) runD_ok

/-! ### are_literals -/
theorem sc_are_literals : FnScope ["value", "many", "one", "place"] ["value", "many"] (defScope (top 70)) := ⟨rfl, rfl, rfl, by decide +kernel, rfl, by decide +kernel, by decide +kernel⟩
theorem k_are_literals (T : Tx P w K mg base) : DOk P w K mg base "are_literals" 2 F_are_literals := by
  have nd := sc_are_literals.nd
  obtain ⟨f, fd, Fn, hm, hb⟩ := T.a_are_literals
  exact dok_mk (k := 1) Fn hm hb sc_are_literals (fun _ _ _ _ _ _ hr => ⟨_, (sms_cons (sm_if (tm_w (wm_or (tm_not (tm_val (pm_isi (T := "tuple") (pv_of (pm_var 0)) T.b_isinstance T.b_tuple))) (wm_or (tm_cmp (opD_ne hr) (pm_callBV cD_len T.b_len (pv_of (pm_var 0))) (pv_of (pm_var 1))) (wm_or1 (tm_not (tm_val (pm_callBV (cD_all rfl) T.b_all (pv_of (pm_frz (pf_lco [("one", 2)] (gName 2) tYes (tCall (spD K w F_is_integer) [] L2.E0 (tCons (tVar 2) tNil)) nd rfl rfl (im_seq (pm_var 0)) (fun _ _ _ _ _ _ => (gm_n 2 nd)) (fun _ _ _ _ _ _ => cm_nil) (fun _ _ _ _ _ _ => (pm_call (k_is_integer T) hr (am_cons (pm_var 2) am_nil))))))))))))) (sms_one (sm_ret pm_bl)) sms_nil)
    (sms_one (sm_ret (pm_callBV (cD_all rfl) T.b_all (pv_of (pm_frz (pf_lco [("place", 3), ("one", 2)] (gTup K 2 (gCons (gName 3) (gCons (gName 2) gNil))) tYes (tOp (rD K w inD) (tVar 2) (tTup (tCons (tOp (rD K w addD) (tVar 3) (tC (.int 1))) (tCons (tOp (rD K w subD) (tOp (rD K w subD) (tC (.int 0)) (tVar 3)) (tC (.int 1))) tNil)))) nd rfl rfl (im_enum (pm_var 0) T.b_enumerate) (fun _ _ _ _ _ _ => (gm_t rfl (gms_cons (gm_n 3 nd) (gms_cons (gm_n 2 nd) gms_nil)))) (fun _ _ _ _ _ _ => cm_nil) (fun _ _ _ _ _ _ => (pm_cmp (opD_in hr) (pm_var 2) (pv_of (pm_tup (am_cons (pm_op opD_add (pm_var 3) (pv_of pm_int)) (am_cons (pm_op opD_sub (pm_op opD_sub pm_int (pv_of (pm_var 3))) (pv_of pm_int)) am_nil)))))))))))))⟩) runD_ok

/-! ### world_by -/
theorem sc_world_by : FnScope ["signs", "things", "literals", "world"] ["signs", "things", "literals"] (defScope (top 71)) := ⟨rfl, rfl, rfl, by decide +kernel, rfl, by decide +kernel, by decide +kernel⟩
theorem k_world_by (T : Tx P w K mg base) : XOk P w K mg base "world_by" 6 F_world_by := by
  have nd := sc_world_by.nd
  obtain ⟨f, fd, Fn, hm, hb⟩ := T.a_world_by
  exact xok_mk (k := 5) Fn hm hb sc_world_by (fun _ _ _ _ _ _ hr => ⟨_, (sms_cons (sm_expr (pm_call (k_check_signs T).dok hr (am_cons (pm_var 0) am_nil)))
    (sms_cons (sm_expr (pm_call (k_check_size T).dok hr (am_cons (pm_var 0) (am_cons (pm_var 1) am_nil))))
    (sms_cons (sm_if (tm_not (tm_val (pm_call (k_are_literals T) hr (am_cons (pm_var 2) (am_cons (pm_call (k_many_cells T) hr (am_cons (pm_var 0) (am_cons (pm_var 1) am_nil))) am_nil))))) (sms_one (sm_raise rfl (takes_of rfl rfl rfl rfl) T.r_BadValues hr (pm_var 2))) sms_nil)
    (sms_cons (sm_set 3 nd (pm_call (k_world_from T) hr (am_cons (pm_var 0) (am_cons (pm_var 1) (am_cons (pm_call (k_truths_of T) hr (am_cons (pm_var 0) (am_cons (pm_var 1) (am_cons (pm_var 2) am_nil)))) am_nil)))))
    (sms_cons (sm_if (tm_cmp opD_is (pm_var 3) (pv_of pm_non)) (sms_one (sm_raise rfl (takes_of rfl rfl rfl rfl) T.r_NoWorld hr (pm_var 2))) sms_nil)
    (sms_one (sm_ret (pm_var 3))))))))⟩) runX_ok

/-! ### _law_pot -/
theorem sc__law_pot : FnScope ["script", "place", "cell", "own", "small"] ["script", "place"] (defScope (top 73)) := ⟨rfl, rfl, rfl, by decide +kernel, rfl, by decide +kernel, by decide +kernel⟩
theorem k__law_pot (T : Tx P w K mg base) : LOk P w K mg base "_law_pot" 1 F__law_pot := by
  have nd := sc__law_pot.nd
  obtain ⟨f, fd, Fn, hm, hb⟩ := T.a__law_pot
  exact lok_mk (k := 0) Fn hm hb sc__law_pot (fun _ _ _ _ _ _ hr => ⟨_, (sms_cons (sm_set 2 nd (pm_ifE (tm_cmp (opD_lt hr) (pm_var 1) (pv_of (pm_callBV cD_len T.b_len (pv_of (pm_var 0))))) (pm_ix ixR_D (pm_var 0) (pv_of (pm_var 1))) (pm_op opD_add (pm_op opD_add (pm_op opD_mod (pm_callBV (cD_sum rfl) T.b_sum (pv_of (pm_sl (pm_var 0) om_none (om_some pm_int)))) (pv_of pm_int)) (pv_of (pm_op opD_mul pm_int (pv_of (pm_var 1))))) (pv_of pm_int))))
    (sms_cons (sm_set 3 nd (pm_op opD_mul (pm_op opD_mod (pm_callTV cD_int T.b_int (pv_of (pm_callBV cD_abs T.b_abs (pv_of (pm_var 2))))) (pv_of (pm_op opD_pow (pm_op opD_pow pm_int (pv_of pm_int)) (pv_of pm_int)))) (pv_of (pm_callTV cD_int T.b_int (pv_of (pm_cmp opD_ge (pm_callBV cD_abs T.b_abs (pv_of (pm_var 2))) (pv_of (pm_op opD_pow pm_int (pv_of pm_int)))))))))
    (sms_cons (sm_set 4 nd (pm_op opD_mod (pm_callTV cD_int T.b_int (pv_of (pm_var 2))) (pv_of pm_int)))
    (sms_one (sm_retF (pf_lst (am_cons (pm_var 3) (am_cons (pm_op opD_mod (pm_callTV cD_int T.b_int (pv_of (pm_op opD_add (pm_op opD_add (pm_op opD_mul (pm_var 4) (pv_of pm_int)) (pv_of (pm_op opD_mul (pm_op opD_mul pm_int (pv_of (pm_var 1))) (pv_of (pm_var 1))))) (pv_of pm_int)))) (pv_of pm_int)) (am_cons pm_int am_nil)))))))))⟩) runL_ok

/-! ### _law_take -/
theorem sc__law_take : FnScope ["pot", "upto", "digit", "prime", "blend"] ["pot", "upto"] (defScope (top 74)) := ⟨rfl, rfl, rfl, by decide +kernel, rfl, by decide +kernel, by decide +kernel⟩
theorem k__law_take (T : Tx P w K mg base) : IOk P w K mg base "_law_take" 1 F__law_take := by
  have nd := sc__law_take.nd
  obtain ⟨f, fd, Fn, hm, hb⟩ := T.a__law_take
  exact iok_mk (k := 0) Fn hm hb sc__law_take (fun _ _ _ _ _ _ _ hr => ⟨_, (sms_cons (sm_if (tm_cmp opD_gt (pm_ixN 0 ixR_D (pv_of pm_int)) (pv_of pm_int)) (sms_cons (sm_set 2 nd (pm_op opD_mod (pm_callTV cD_int T.b_int (pv_of (pm_ixN 0 ixR_D (pv_of pm_int)))) (pv_of (pm_var 1))))
    (sms_cons (sm_put 0 (pm_op opD_fdiv (pm_ixN 0 ixR_D (pv_of pm_int)) (pv_of (pm_var 1))) pm_int)
    (sms_one (sm_ret (pm_var 2))))) sms_nil)
    (sms_cons (sm_put 0 (pm_op opD_add (pm_ixN 0 ixR_D (pv_of pm_int)) (pv_of pm_int)) pm_int)
    (sms_cons (sm_set 3 nd (pm_ix ixR_D (pm_frz (pf_lst (am_cons pm_int (am_cons pm_int (am_cons pm_int (am_cons pm_int (am_cons pm_int am_nil))))))) (pv_of (pm_op opD_mod (pm_callTV cD_int T.b_int (pv_of (pm_ixN 0 ixR_D (pv_of pm_int)))) (pv_of pm_int)))))
    (sms_cons (sm_set 4 nd (pm_op opD_mod (pm_callTV cD_int T.b_int (pv_of (pm_op opD_pow (pm_callTV cD_int T.b_int (pv_of (pm_op opD_add (pm_op opD_add (pm_ixN 0 ixR_D (pv_of pm_int)) (pv_of (pm_op opD_mul (pm_op opD_mul pm_int (pv_of (pm_ixN 0 ixR_D (pv_of pm_int)))) (pv_of (pm_ixN 0 ixR_D (pv_of pm_int)))))) (pv_of pm_int)))) (pv_of pm_int)))) (pv_of (pm_var 3))))
    (sms_cons (sm_set 4 nd (pm_op opD_mod (pm_callTV cD_int T.b_int (pv_of (pm_op opD_mul (pm_var 4) (pv_of (pm_op opD_add (pm_op opD_mod (pm_callTV cD_int T.b_int (pv_of (pm_var 4))) (pv_of pm_int)) (pv_of (pm_op opD_mul pm_int (pv_of (pm_ixN 0 ixR_D (pv_of pm_int)))))))))) (pv_of pm_int)))
    (sms_one (sm_ret (pm_op opD_mod (pm_callTV cD_int T.b_int (pv_of (pm_op opD_fdiv (pm_var 4) (pv_of pm_int)))) (pv_of (pm_var 1))))))))))⟩) runI_ok

/-! ### _law_of -/
theorem sc__law_of : FnScope ["pot", "some"] ["pot", "some"] (defScope (top 75)) := ⟨rfl, rfl, rfl, by decide +kernel, rfl, by decide +kernel, by decide +kernel⟩
theorem k__law_of (T : Tx P w K mg base) : IOk P w K mg base "_law_of" 2 F__law_of := by
  have nd := sc__law_of.nd
  obtain ⟨f, fd, Fn, hm, hb⟩ := T.a__law_of
  exact iok_mk (k := 1) Fn hm hb sc__law_of (fun _ _ _ _ _ _ _ hr => ⟨_, (sms_one (sm_ret (pm_ix ixR_D (pm_var 1) (pv_of (pm_callI 0 (k__law_take T) hr (am_cons (pm_callBV cD_len T.b_len (pv_of (pm_var 1))) am_nil))))))⟩) runI_ok

/-! ### _law_some -/
theorem sc__law_some : FnScope ["pot", "some", "many", "left", "found", "lap"] ["pot", "some", "many"] (defScope (top 76)) := ⟨rfl, rfl, rfl, by decide +kernel, rfl, by decide +kernel, by decide +kernel⟩
theorem k__law_some (T : Tx P w K mg base) : IOk P w K mg base "_law_some" 2 F__law_some := by
  have nd := sc__law_some.nd
  obtain ⟨f, fd, Fn, hm, hb⟩ := T.a__law_some
  exact iok_mk (k := 1) Fn hm hb sc__law_some (fun _ _ _ _ _ _ _ hr => ⟨_, (sms_cons (sm_parFF 3 4 rfl nd (pf_callT cD_list T.b_list (pv_of (pm_var 1))) (fun _ => (pf_lst am_nil)))
    (sms_cons (sm_for PassesOwn.never rfl (im_rng1 T.b_range (am_cons (pm_var 2) am_nil)) (gm_n 5 nd) (sms_one (sm_app 4 (pm_popAt 3 (pm_callI 0 (k__law_take T) hr (am_cons (pm_callBV cD_len T.b_len (pv_var 3)) am_nil))))))
    (sms_one (sm_fr 4 (sm_ret (pm_var 4))))))⟩) runI_ok

/-! ### _law_cells -/
theorem sc__law_cells : FnScope ["script", "most"] ["script", "most"] (defScope (top 77)) := ⟨rfl, rfl, rfl, by decide +kernel, rfl, by decide +kernel, by decide +kernel⟩
theorem k__law_cells (T : Tx P w K mg base) : DOk P w K mg base "_law_cells" 1 F__law_cells := by
  have nd := sc__law_cells.nd
  obtain ⟨f, fd, Fn, hm, hb⟩ := T.a__law_cells
  exact dok_mk (k := 0) Fn hm hb sc__law_cells (fun _ _ _ _ _ _ hr => ⟨_, (sms_one (sm_ret (pm_frz (pf_listRg1 rfl (pm_callB (cD_max rfl) T.b_max (am_cons pm_int (am_cons (pm_callB (cD_min rfl) T.b_min (am_cons (pm_var 1) (am_cons (pm_callBV cD_len T.b_len (pv_of (pm_var 0))) am_nil))) am_nil))) T.b_list T.b_range))))⟩) runD_ok

/-! ### _law_is_int -/
theorem sc__law_is_int : FnScope ["value", "low", "high"] ["value", "low", "high"] (defScope (top 78)) := ⟨rfl, rfl, rfl, by decide +kernel, rfl, by decide +kernel, by decide +kernel⟩
theorem k__law_is_int (T : Tx P w K mg base) : DOk P w K mg base "_law_is_int" 1 F__law_is_int := by
  have nd := sc__law_is_int.nd
  obtain ⟨f, fd, Fn, hm, hb⟩ := T.a__law_is_int
  exact dok_mk (k := 0) Fn hm hb sc__law_is_int (fun _ _ _ _ _ _ hr => ⟨_, (sms_one (sm_ret (pm_and (pm_isi (T := "int") (pv_of (pm_var 0)) T.b_isinstance T.b_int) (pm_and (pm_not (pm_isi (T := "bool") (pv_of (pm_var 0)) T.b_isinstance T.b_bool)) (pm_one (pm_chain opD_le opD_le (pm_var 1) (pm_var 0) (pv_of (pm_var 2))))))))⟩) runD_ok

/-! ### _law_odd -/
theorem sc__law_odd : FnScope ["pot", "some"] ["pot"] (defScope (top 79)) := ⟨rfl, rfl, rfl, by decide +kernel, rfl, by decide +kernel, by decide +kernel⟩
theorem k__law_odd (T : Tx P w K mg base) : IOk P w K mg base "_law_odd" 3 F__law_odd := by
  have nd := sc__law_odd.nd
  obtain ⟨f, fd, Fn, hm, hb⟩ := T.a__law_odd
  exact iok_mk (k := 2) Fn hm hb sc__law_odd (fun _ _ _ _ _ _ _ hr => ⟨_, (sms_cons (sm_set 1 nd (pm_frz (pf_lst (am_cons pm_non (am_cons pm_bl (am_cons pm_bl (am_cons pm_int (am_cons pm_int (am_cons (pm_un unD_neg (pv_of pm_int)) (am_cons pm_int (am_cons (pm_op opD_pow pm_int (pv_of pm_int)) (am_cons pm_str (am_cons pm_str (am_cons pm_str (am_cons pm_str (am_cons (pm_tup am_nil) (am_cons (pm_tup (am_cons pm_int am_nil)) (am_cons (pm_tup (am_cons pm_non am_nil)) (am_cons (pm_frz (pf_lst am_nil)) (am_cons (pm_frz (pf_lst (am_cons pm_int am_nil))) (am_cons pm_dict0 (am_cons (pm_dict1 pe_int (fun _ => .int _)) (am_cons (pm_tup (am_cons (pm_tup (am_cons pm_int (am_cons pm_int am_nil))) am_nil)) am_nil)))))))))))))))))))))))
    (sms_one (sm_ret (pm_callI 0 (k__law_of T) hr (am_cons (pm_var 1) am_nil)))))⟩) runI_ok

/-! ### _law_bent -/
theorem sc__law_bent : FnScope ["pot", "value", "at", "row"] ["pot", "value"] (defScope (top 80)) := ⟨rfl, rfl, rfl, by decide +kernel, rfl, by decide +kernel, by decide +kernel⟩
theorem k__law_bent (T : Tx P w K mg base) : ∀ n : Nat, IOk P w K mg base "_law_bent" (n + 3) (F__law_bent n)
  | 0 => T.a__law_bent.nothing
  | n + 1 => by
    have ih := k__law_bent T n
    have nd := sc__law_bent.nd
    obtain ⟨f, fd, Fn, hm, hb⟩ := T.a__law_bent
    exact iok_mk (k := n + 3) Fn hm hb sc__law_bent (fun _ _ _ _ _ _ _ hr => ⟨_, (sms_cons (sm_if (tm_w (wm_and (tm_val (pm_isi (T := "tuple") (pv_of (pm_var 1)) T.b_isinstance T.b_tuple)) (wm_and (tm_cmp (opD_ne hr) (pm_var 1) (pv_of (pm_tup am_nil))) (wm_and1 (tm_cmp (opD_ne hr) (pm_callI 0 (k__law_take T) hr (am_cons pm_int am_nil) (by omega)) (pv_of pm_int)))))) (sms_cons (sm_set 2 nd (pm_callI 0 (k__law_take T) hr (am_cons (pm_callBV cD_len T.b_len (pv_of (pm_var 1))) am_nil) (by omega)))
    (sms_one (sm_ret (pm_op opD_add (pm_op opD_add (pm_sl (pm_var 1) om_none (om_some (pm_var 2))) (pv_of (pm_tup (am_cons (pm_callI 0 ih hr (am_cons (pm_ix ixR_D (pm_var 1) (pv_of (pm_var 2))) am_nil) (Nat.le_refl _)) am_nil)))) (pv_of (pm_sl (pm_var 1) (om_some (pm_op opD_add (pm_var 2) (pv_of pm_int))) om_none)))))) sms_nil)
    (sms_cons (sm_if (tm_val (pm_isi (T := "tuple") (pv_of (pm_var 1)) T.b_isinstance T.b_tuple)) (sms_cons (sm_set 3 nd (pm_frz (pf_callT cD_list T.b_list (pv_of (pm_var 1)))))
    (sms_one (sm_ret (pm_callI 0 (k__law_of T) hr (am_cons (pm_frz (pf_lst (am_cons (pm_var 3) (am_cons (pm_sl (pm_var 1) om_none (om_some (pm_un unD_neg (pv_of pm_int)))) (am_cons (pm_op opD_add (pm_var 1) (pv_of (pm_sl (pm_var 1) om_none (om_some pm_int)))) (am_cons (pm_op opD_add (pm_var 1) (pv_of (pm_tup (am_cons pm_int am_nil)))) (am_cons (pm_rev (pm_var 1)) (am_cons (pm_tup (am_cons (pm_var 1) am_nil)) (am_cons (pm_sl (pm_var 3) om_none (om_some pm_int)) (am_cons (pm_callI 0 (k__law_odd T) hr am_nil (by omega)) am_nil)))))))))) am_nil) (by omega))))) sms_nil)
    (sms_cons (sm_if (tm_val (pm_call (k__law_is_int T) hr (am_cons (pm_var 1) (am_cons (pm_un unD_neg (pv_of (pm_op opD_pow pm_int (pv_of pm_int)))) (am_cons (pm_op opD_pow pm_int (pv_of pm_int)) am_nil))) (by omega))) (sms_one (sm_ret (pm_callI 0 (k__law_of T) hr (am_cons (pm_frz (pf_lst (am_cons (pm_op opD_add (pm_var 1) (pv_of pm_int)) (am_cons (pm_op opD_sub (pm_var 1) (pv_of pm_int)) (am_cons (pm_un unD_neg (pv_of (pm_var 1))) (am_cons (pm_callTV cD_str T.b_str (pv_of (pm_var 1))) (am_cons (pm_cmp (opD_eq hr) (pm_var 1) (pv_of pm_int)) (am_cons (pm_callI 0 (k__law_odd T) hr am_nil (by omega)) am_nil)))))))) am_nil) (by omega)))) sms_nil)
    (sms_one (sm_ret (pm_callI 0 (k__law_odd T) hr am_nil (by omega)))))))⟩) runI_ok

/-! ### _law_signs -/
theorem sc__law_signs : FnScope ["pot", "many", "functions", "names", "relations", "at", "its"] ["pot", "many", "functions"] (defScope (top 82)) := ⟨rfl, rfl, rfl, by decide +kernel, rfl, by decide +kernel, by decide +kernel⟩
theorem k__law_signs (T : Tx P w K mg base) : IOk P w K mg base "_law_signs" 3 F__law_signs := by
  have nd := sc__law_signs.nd
  obtain ⟨f, fd, Fn, hm, hb⟩ := T.a__law_signs
  exact iok_mk (k := 2) Fn hm hb sc__law_signs (fun _ _ _ _ _ _ _ hr => ⟨_, (sms_cons (sm_set 3 nd (pm_callI 0 (k__law_some T) hr (am_cons (pm_frz (pf_lst (am_cons pm_str (am_cons pm_str (am_cons pm_str (am_cons pm_str (am_cons pm_str (am_cons pm_str (am_cons pm_str am_nil))))))))) (am_cons (pm_op opD_add (pm_var 1) (pv_of (pm_var 2))) am_nil))))
    (sms_cons (sm_setLco 4 [("at", 5)] (gName 5) tYes (tTup (tCons (tOp (rD K w ixD) (tVar 3) (tVar 5)) (tCons (tCall (spI K w F__law_of) [] L2.E0 (tCons (tVar 0) (tCons (tFrz (tLst (tCons (tC (.int 1)) (tCons (tC (.int 1)) (tCons (tC (.int 2)) (tCons (tC (.int 0)) tNil)))))) tNil))) tNil))) nd rfl rfl (im_rng1 T.b_range (am_cons (pm_op opD_add pm_int (pv_of (pm_callI 0 (k__law_take T) hr (am_cons (pm_var 1) am_nil)))) am_nil)) (fun _ _ _ _ _ _ => (gm_n 5 nd)) (fun _ _ _ _ _ _ => cm_nil) (fun _ _ _ _ _ _ => (pm_tup (am_cons (pm_ix ixR_D (pm_var 3) (pv_of (pm_var 5))) (am_cons (pm_callI 0 (k__law_of T) hr (am_cons (pm_frz (pf_lst (am_cons pm_int (am_cons pm_int (am_cons pm_int (am_cons pm_int am_nil)))))) am_nil)) am_nil)))))
    (sms_cons (sm_setLco 6 [("at", 5)] (gName 5) tYes (tTup (tCons (tOp (rD K w ixD) (tVar 3) (tOp (rD K w addD) (tVar 1) (tVar 5))) (tCons (tCall (spI K w F__law_take) [] L2.E0 (tCons (tVar 0) (tCons (tC (.int 2)) tNil))) tNil))) nd rfl rfl (im_rng1 T.b_range (am_cons (pm_callI 0 (k__law_take T) hr (am_cons (pm_op opD_add (pm_var 2) (pv_of pm_int)) am_nil)) am_nil)) (fun _ _ _ _ _ _ => (gm_n 5 nd)) (fun _ _ _ _ _ _ => cm_nil) (fun _ _ _ _ _ _ => (pm_tup (am_cons (pm_ix ixR_D (pm_var 3) (pv_of (pm_op opD_add (pm_var 1) (pv_of (pm_var 5))))) (am_cons (pm_callI 0 (k__law_take T) hr (am_cons pm_int am_nil)) am_nil)))))
    (sms_one (sm_ret (pm_tup (am_cons (pm_callTV cD_tuple T.b_tuple (pv_var 4)) (am_cons (pm_callTV cD_tuple T.b_tuple (pv_var 6)) am_nil))))))))⟩) runI_ok

/-! ### _law_tuples -/
theorem sc__law_tuples : FnScope ["things", "places", "found", "place", "longer", "row", "thing"] ["things", "places"] (defScope (top 83)) := ⟨rfl, rfl, rfl, by decide +kernel, rfl, by decide +kernel, by decide +kernel⟩
theorem k__law_tuples (T : Tx P w K mg base) : DOk P w K mg base "_law_tuples" 1 F__law_tuples := by
  have nd := sc__law_tuples.nd
  obtain ⟨f, fd, Fn, hm, hb⟩ := T.a__law_tuples
  exact dok_mk (k := 0) Fn hm hb sc__law_tuples (fun _ _ _ _ _ _ hr => ⟨_, (sms_cons (sm_set 2 nd (pm_frz (pf_lst (am_cons (pm_tup am_nil) am_nil))))
    (sms_cons (sm_for PassesOwn.never rfl (im_rng1 T.b_range (am_cons (pm_var 1) am_nil)) (gm_n 3 nd) (sms_cons (sm_own 4 nd (pf_lst am_nil))
    (sms_cons (sm_for PassesOwn.never rfl (im_seq (pm_var 2)) (gm_n 5 nd) (sms_one (sm_ext 4 (pm_frz (pf_lco [("thing", 6)] (gName 6) tYes (tOp (rD K w addD) (tVar 5) (tTup (tCons (tVar 6) tNil))) nd rfl rfl (im_rng1 T.b_range (am_cons (pm_var 0) am_nil)) (fun _ _ _ _ _ _ => (gm_n 6 nd)) (fun _ _ _ _ _ _ => cm_nil) (fun _ _ _ _ _ _ => (pm_op opD_add (pm_var 5) (pv_of (pm_tup (am_cons (pm_var 6) am_nil))))))))))
    (sms_one (sm_fr 4 (sm_set 2 nd (pm_var 4)))))))
    (sms_one (sm_ret (pm_var 2)))))⟩) runD_ok

/-! ### _law_place -/
theorem sc__law_place : FnScope ["things", "row", "found", "thing"] ["things", "row"] (defScope (top 84)) := ⟨rfl, rfl, rfl, by decide +kernel, rfl, by decide +kernel, by decide +kernel⟩
theorem k__law_place (T : Tx P w K mg base) : DOk P w K mg base "_law_place" 1 F__law_place := by
  have nd := sc__law_place.nd
  obtain ⟨f, fd, Fn, hm, hb⟩ := T.a__law_place
  exact dok_mk (k := 0) Fn hm hb sc__law_place (fun _ _ _ _ _ _ hr => ⟨_, (sms_cons (sm_set 2 nd pm_int)
    (sms_cons (sm_for PassesOwn.never rfl (im_seq (pm_var 1)) (gm_n 3 nd) (sms_one (sm_set 2 nd (pm_op opD_add (pm_op opD_mul (pm_var 2) (pv_of (pm_var 0))) (pv_of (pm_var 3))))))
    (sms_one (sm_ret (pm_var 2)))))⟩) runD_ok

/-! ### _law_world -/
theorem sc__law_world : FnScope ["pot", "signs", "things", "tables", "columns", "name", "places", "row"] ["pot", "signs", "things"] (defScope (top 85)) := ⟨rfl, rfl, rfl, by decide +kernel, rfl, by decide +kernel, by decide +kernel⟩
theorem k__law_world (T : Tx P w K mg base) : IOk P w K mg base "_law_world" 2 F__law_world := by
  have nd := sc__law_world.nd
  obtain ⟨f, fd, Fn, hm, hb⟩ := T.a__law_world
  exact iok_mk (k := 1) Fn hm hb sc__law_world (fun _ _ _ _ _ _ _ hr => ⟨_, (sms_cons (sm_parFF 3 4 rfl nd (pf_lst am_nil) (fun _ => (pf_lst am_nil)))
    (sms_cons (sm_for PassesOwn.never rfl (im_seq (pm_ix ixR_D (pm_var 1) (pv_of pm_int))) (gm_t rfl (gms_cons (gm_n 5 nd) (gms_cons (gm_n 6 nd) gms_nil))) (sms_one (sm_app 3 (pm_callTV cD_tuple T.b_tuple (pv_of (pm_frz (pf_lco [("row", 7)] (gName 7) (tTest (tOp (rD K w eqD) (tCall (spI K w F__law_take) [] L2.E0 (tCons (tVar 0) (tCons (tC (.int 2)) tNil))) (tC (.int 0)))) (tVar 7) nd rfl rfl (im_seq (pm_call (k__law_tuples T) hr (am_cons (pm_var 2) (am_cons (pm_var 6) am_nil)))) (fun _ _ _ _ _ _ => (gm_n 7 nd)) (fun _ _ _ _ _ _ => (cm_one (tm_cmp (opD_eq hr) (pm_callI 0 (k__law_take T) hr (am_cons pm_int am_nil)) (pv_of pm_int)))) (fun _ _ _ _ _ _ => (pm_var 7)))))))))
    (sms_cons (sm_for PassesOwn.never rfl (im_seq (pm_ix ixR_D (pm_var 1) (pv_of pm_int))) (gm_t rfl (gms_cons (gm_n 5 nd) (gms_cons (gm_n 6 nd) gms_nil))) (sms_one (sm_app 4 (pm_callTV cD_tuple T.b_tuple (pv_of (pm_frz (pf_lco [("row", 7)] (gName 7) tYes (tCall (spI K w F__law_take) [] L2.E0 (tCons (tVar 0) (tCons (tVar 2) tNil))) nd rfl rfl (im_seq (pm_call (k__law_tuples T) hr (am_cons (pm_var 2) (am_cons (pm_var 6) am_nil)))) (fun _ _ _ _ _ _ => (gm_n 7 nd)) (fun _ _ _ _ _ _ => cm_nil) (fun _ _ _ _ _ _ => (pm_callI 0 (k__law_take T) hr (am_cons (pm_var 2) am_nil))))))))))
    (sms_one (sm_ret (pm_tup (am_cons (pm_var 2) (am_cons (pm_callTV cD_tuple T.b_tuple (pv_var 3)) (am_cons (pm_callTV cD_tuple T.b_tuple (pv_var 4)) am_nil)))))))))⟩) runI_ok

/-! ### _law_all_cells -/
theorem sc__law_all_cells : FnScope ["signs", "things", "found", "name", "places", "row", "thing"] ["signs", "things"] (defScope (top 86)) := ⟨rfl, rfl, rfl, by decide +kernel, rfl, by decide +kernel, by decide +kernel⟩
theorem k__law_all_cells (T : Tx P w K mg base) : DOk P w K mg base "_law_all_cells" 2 F__law_all_cells := by
  have nd := sc__law_all_cells.nd
  obtain ⟨f, fd, Fn, hm, hb⟩ := T.a__law_all_cells
  exact dok_mk (k := 1) Fn hm hb sc__law_all_cells (fun _ _ _ _ _ _ hr => ⟨_, (sms_cons (sm_own 2 nd (pf_lst am_nil))
    (sms_cons (sm_for PassesOwn.never rfl (im_seq (pm_ix ixR_D (pm_var 0) (pv_of pm_int))) (gm_t rfl (gms_cons (gm_n 3 nd) (gms_cons (gm_n 4 nd) gms_nil))) (sms_one (sm_ext 2 (pm_frz (pf_lco [("row", 5)] (gName 5) tYes (tTup (tCons (tC (.str "is")) (tCons (tVar 3) (tCons (tVar 5) tNil)))) nd rfl rfl (im_seq (pm_call (k__law_tuples T) hr (am_cons (pm_var 1) (am_cons (pm_var 4) am_nil)))) (fun _ _ _ _ _ _ => (gm_n 5 nd)) (fun _ _ _ _ _ _ => cm_nil) (fun _ _ _ _ _ _ => (pm_tup (am_cons pm_str (am_cons (pm_var 3) (am_cons (pm_var 5) am_nil))))))))))
    (sms_cons (sm_for PassesOwn.never rfl (im_seq (pm_ix ixR_D (pm_var 0) (pv_of pm_int))) (gm_t rfl (gms_cons (gm_n 3 nd) (gms_cons (gm_n 4 nd) gms_nil))) (sms_one (sm_for PassesOwn.never rfl (im_seq (pm_call (k__law_tuples T) hr (am_cons (pm_var 1) (am_cons (pm_var 4) am_nil)))) (gm_n 5 nd) (sms_one (sm_ext 2 (pm_frz (pf_lco [("thing", 6)] (gName 6) tYes (tTup (tCons (tC (.str "of")) (tCons (tVar 3) (tCons (tVar 5) (tCons (tVar 6) tNil))))) nd rfl rfl (im_rng1 T.b_range (am_cons (pm_var 1) am_nil)) (fun _ _ _ _ _ _ => (gm_n 6 nd)) (fun _ _ _ _ _ _ => cm_nil) (fun _ _ _ _ _ _ => (pm_tup (am_cons pm_str (am_cons (pm_var 3) (am_cons (pm_var 5) (am_cons (pm_var 6) am_nil)))))))))))))
    (sms_one (sm_fr 2 (sm_ret (pm_var 2)))))))⟩) runD_ok

/-! ### _law_so -/
theorem sc__law_so : FnScope ["signs", "world", "cell", "name", "places"] ["signs", "world", "cell"] (defScope (top 87)) := ⟨rfl, rfl, rfl, by decide +kernel, rfl, by decide +kernel, by decide +kernel⟩
theorem k__law_so (T : Tx P w K mg base) : DOk P w K mg base "_law_so" 2 F__law_so := by
  have nd := sc__law_so.nd
  obtain ⟨f, fd, Fn, hm, hb⟩ := T.a__law_so
  exact dok_mk (k := 1) Fn hm hb sc__law_so (fun _ _ _ _ _ _ hr => ⟨_, (sms_cons (sm_if (tm_cmp (opD_eq hr) (pm_ix ixR_D (pm_var 2) (pv_of pm_int)) (pv_of pm_str)) (sms_one (sm_ret (pm_cmp (opD_in hr) (pm_ix ixR_D (pm_var 2) (pv_of pm_int)) (pv_of (pm_ix ixR_D (pm_ix ixR_D (pm_var 1) (pv_of pm_int)) (pv_of (pm_index hr (pm_frz (pf_lco [("name", 3), ("places", 4)] (gTup K 2 (gCons (gName 3) (gCons (gName 4) gNil))) tYes (tVar 3) nd rfl rfl (im_seq (pm_ix ixR_D (pm_var 0) (pv_of pm_int))) (fun _ _ _ _ _ _ => (gm_t rfl (gms_cons (gm_n 3 nd) (gms_cons (gm_n 4 nd) gms_nil)))) (fun _ _ _ _ _ _ => cm_nil) (fun _ _ _ _ _ _ => (pm_var 3)))) (am_cons (pm_ix ixR_D (pm_var 2) (pv_of pm_int)) am_nil)))))))) sms_nil)
    (sms_one (sm_ret (pm_cmp (opD_eq hr) (pm_ix ixR_D (pm_ix ixR_D (pm_ix ixR_D (pm_var 1) (pv_of pm_int)) (pv_of (pm_index hr (pm_frz (pf_lco [("name", 3), ("places", 4)] (gTup K 2 (gCons (gName 3) (gCons (gName 4) gNil))) tYes (tVar 3) nd rfl rfl (im_seq (pm_ix ixR_D (pm_var 0) (pv_of pm_int))) (fun _ _ _ _ _ _ => (gm_t rfl (gms_cons (gm_n 3 nd) (gms_cons (gm_n 4 nd) gms_nil)))) (fun _ _ _ _ _ _ => cm_nil) (fun _ _ _ _ _ _ => (pm_var 3)))) (am_cons (pm_ix ixR_D (pm_var 2) (pv_of pm_int)) am_nil)))) (pv_of (pm_call (k__law_place T) hr (am_cons (pm_ix ixR_D (pm_var 1) (pv_of pm_int)) (am_cons (pm_ix ixR_D (pm_var 2) (pv_of pm_int)) am_nil))))) (pv_of (pm_ix ixR_D (pm_var 2) (pv_of pm_int)))))))⟩) runD_ok

/-! ### _law_are_literals -/
theorem sc__law_are_literals : FnScope ["value", "many", "one"] ["value", "many"] (defScope (top 88)) := ⟨rfl, rfl, rfl, by decide +kernel, rfl, by decide +kernel, by decide +kernel⟩
theorem k__law_are_literals (T : Tx P w K mg base) : DOk P w K mg base "_law_are_literals" 2 F__law_are_literals := by
  have nd := sc__law_are_literals.nd
  obtain ⟨f, fd, Fn, hm, hb⟩ := T.a__law_are_literals
  exact dok_mk (k := 1) Fn hm hb sc__law_are_literals (fun _ _ _ _ _ _ hr => ⟨_, (sms_cons (sm_if (tm_w (wm_or (tm_not (tm_val (pm_isi (T := "tuple") (pv_of (pm_var 0)) T.b_isinstance T.b_tuple))) (wm_or (tm_cmp (opD_ne hr) (pm_callBV cD_len T.b_len (pv_of (pm_var 0))) (pv_of (pm_var 1))) (wm_or1 (tm_not (tm_val (pm_callBV (cD_all rfl) T.b_all (pv_of (pm_frz (pf_lco [("one", 2)] (gName 2) tYes (tCall (spD K w F__law_is_int) [] L2.E0 (tCons (tVar 2) (tCons (tUn (rDU K w negD) (tVar 1)) (tCons (tVar 1) tNil)))) nd rfl rfl (im_seq (pm_var 0)) (fun _ _ _ _ _ _ => (gm_n 2 nd)) (fun _ _ _ _ _ _ => cm_nil) (fun _ _ _ _ _ _ => (pm_call (k__law_is_int T) hr (am_cons (pm_var 2) (am_cons (pm_un unD_neg (pv_of (pm_var 1))) (am_cons (pm_var 1) am_nil))))))))))))))) (sms_one (sm_ret pm_bl)) sms_nil)
    (sms_one (sm_ret (pm_cmp (opD_eq hr) (pm_frz (pf_lco [("one", 2)] (gName 2) tYes (tCB (rDV K w absD) (tCons (tVar 2) tNil)) nd rfl rfl (im_seq (pm_var 0)) (fun _ _ _ _ _ _ => (gm_n 2 nd)) (fun _ _ _ _ _ _ => cm_nil) (fun _ _ _ _ _ _ => (pm_callBV cD_abs T.b_abs (pv_of (pm_var 2)))))) (pv_of (pm_frz (pf_listRg2 rfl pm_int (pm_op opD_add (pm_var 1) (pv_of pm_int)) T.b_list T.b_range)))))))⟩) runD_ok

/-! ### _law_right -/
theorem sc__law_right : FnScope ["pot", "signs", "things", "every", "world", "literals", "at", "cell", "papers", "one", "values", "value", "lap", "caught", "told", "loose", "known", "rows", "name", "places", "row", "thing", "many"] ["pot"] (defScope (top 89)) := ⟨rfl, rfl, rfl, by decide +kernel, rfl, by decide +kernel, by decide +kernel⟩
theorem k__law_right (T : Tx P w K mg base) : KOk P w K mg base "_law_right" 12 (spIT T.tabs K w F__law_right) := by
  have nd := sc__law_right.nd
  obtain ⟨f, fd, Fn, hm, hb⟩ := T.a__law_right
  exact itok_mkC (k := 11) Fn hm hb sc__law_right (fun _ _ _ _ _ _ hr => ⟨_, (sms_cons (sm_asg (pm_tup (am_cons (pm_callI 0 (k__law_signs T) hr (am_cons pm_int (am_cons pm_int am_nil))) (am_cons (pm_op opD_add pm_int (pv_of (pm_callI 0 (k__law_take T) hr (am_cons pm_int am_nil)))) am_nil))) (gm_t rfl (gms_cons (gm_n 1 nd) (gms_cons (gm_n 2 nd) gms_nil))))
    (sms_cons (sm_asg (pm_tup (am_cons (pm_call (k__law_all_cells T) hr (am_cons (pm_var 1) (am_cons (pm_var 2) am_nil))) (am_cons (pm_callI 0 (k__law_world T) hr (am_cons (pm_var 1) (am_cons (pm_var 2) am_nil))) am_nil))) (gm_t rfl (gms_cons (gm_n 3 nd) (gms_cons (gm_n 4 nd) gms_nil))))
    (sms_cons (sm_if (tm_cmp (opD_ne hr) (pm_callBV (cD_repr hr) T.b_repr (pv_of (pm_call (k_cells T) hr (am_cons (pm_var 1) (am_cons (pm_var 2) am_nil))))) (pv_of (pm_callBV (cD_repr hr) T.b_repr (pv_of (pm_callTV cD_tuple T.b_tuple (pv_of (pm_var 3))))))) (sms_one (sm_ret pm_bl)) sms_nil)
    (sms_cons (sm_set 5 nd (pm_callTV cD_tuple T.b_tuple (pv_of (pm_frz (pf_lco [("at", 6), ("cell", 7)] (gTup K 2 (gCons (gName 6) (gCons (gName 7) gNil))) tYes (tIf (tB (tCall (spD K w F__law_so) [] L2.E0 (tCons (tVar 1) (tCons (tVar 4) (tCons (tVar 7) tNil))))) (tOp (rD K w addD) (tVar 6) (tC (.int 1))) (tOp (rD K w subD) (tUn (rDU K w negD) (tVar 6)) (tC (.int 1)))) nd rfl rfl (im_enum (pm_var 3) T.b_enumerate) (fun _ _ _ _ _ _ => (gm_t rfl (gms_cons (gm_n 6 nd) (gms_cons (gm_n 7 nd) gms_nil)))) (fun _ _ _ _ _ _ => cm_nil) (fun _ _ _ _ _ _ => (pm_ifE (tm_val (pm_call (k__law_so T) hr (am_cons (pm_var 1) (am_cons (pm_var 4) (am_cons (pm_var 7) am_nil))))) (pm_op opD_add (pm_var 6) (pv_of pm_int)) (pm_op opD_sub (pm_un unD_neg (pv_of (pm_var 6))) (pv_of pm_int)))))))))
    (sms_cons (sm_if (tm_w (wm_or (tm_cmp (opD_ne hr) (pm_callBV (cD_repr hr) T.b_repr (pv_of (pm_call (k_cells_in T) hr (am_cons (pm_var 1) (am_cons (pm_var 4) am_nil))))) (pv_of (pm_callBV (cD_repr hr) T.b_repr (pv_of (pm_var 5))))) (wm_or1 (tm_cmp (opD_ne hr) (pm_callBV (cD_repr hr) T.b_repr (pv_of (pm_call (k_world_by T).dok hr (am_cons (pm_var 1) (am_cons (pm_var 2) (am_cons (pm_var 5) am_nil)))))) (pv_of (pm_callBV (cD_repr hr) T.b_repr (pv_of (pm_var 4)))))))) (sms_one (sm_ret pm_bl)) sms_nil)
    (sms_cons (sm_set 7 nd (pm_callI 0 (k__law_of T) hr (am_cons (pm_var 3) am_nil)))
    (sms_cons (sm_setLco 8 [("one", 9)] (gName 9) tYes (tCB (rDV K w reprD) (tCons (tVar 9) tNil)) nd rfl rfl (im_seq (pm_var 3)) (fun _ _ _ _ _ _ => (gm_n 9 nd)) (fun _ _ _ _ _ _ => cm_nil) (fun _ _ _ _ _ _ => (pm_callBV (cD_repr hr) T.b_repr (pv_of (pm_var 9)))))
    (sms_cons (sm_set 10 nd (pm_frz (pf_lst (am_cons (pm_var 7) (am_cons (pm_frz (pf_callT cD_list T.b_list (pv_of (pm_var 7)))) (am_cons (pm_sl (pm_var 7) om_none (om_some pm_int)) (am_cons (pm_op opD_add (pm_var 7) (pv_of (pm_tup (am_cons pm_int am_nil)))) (am_cons (pm_tup (am_cons pm_str (am_cons pm_str (am_cons (pm_tup am_nil) am_nil)))) (am_cons (pm_tup (am_cons pm_str (am_cons (pm_ix ixR_D (pm_ix ixR_D (pm_ix ixR_D (pm_var 1) (pv_of pm_int)) (pv_of pm_int)) (pv_of pm_int)) (am_cons (pm_tup am_nil) (am_cons pm_int am_nil))))) (am_cons pm_non (am_cons (pm_tup (am_cons pm_bl am_nil)) am_nil)))))))))))
    (sms_cons (sm_for PassesOwn.never rfl (im_seq (pm_op opD_add (pm_op opD_add (pm_var 10) (pv_of (pm_frz (pf_lco [("lap", 12)] (gName 12) tYes (tCall (spI K w (F__law_bent 6)) [] L2.E0 (tCons (tVar 0) (tCons (tVar 7) tNil))) nd rfl rfl (im_rng1 T.b_range (am_cons pm_int am_nil)) (fun _ _ _ _ _ _ => (gm_n 12 nd)) (fun _ _ _ _ _ _ => cm_nil) (fun _ _ _ _ _ _ => (pm_callI 0 (k__law_bent T 6) hr (am_cons (pm_var 7) am_nil))))))) (pv_of (pm_frz (pf_lst (am_cons (pm_callI 0 (k__law_odd T) hr am_nil) am_nil)))))) (gm_n 11 nd) (sms_cons (sm_asg (pm_cauF (fun E => tCall (spX K w mg F_cell_number) [] E (tCons (tVar 1) (tCons (tVar 2) (tCons (tVar 11) tNil)))) T.cau hr T.tabB rfl T.cauc (fun _ _ _ _ _ _ _ hr => (lm_call (k_cell_number T) (takes_of rfl rfl rfl rfl) hr (am_cons (pm_var 1) (am_cons (pm_var 2) (am_cons (pm_var 11) am_nil)))))) (gm_t rfl (gms_cons (gm_n 13 nd) (gms_cons (gm_n 14 nd) gms_nil))))
    (sms_cons (sm_fr 8 (sm_if (tm_w (wm_and (tm_cmp (opD_in hr) (pm_callBV (cD_repr hr) T.b_repr (pv_of (pm_var 11))) (pv_var 8)) (wm_and1 (tm_cmp (opD_ne hr) (pm_callBV (cD_repr hr) T.b_repr (pv_of (pm_var 14))) (pv_of (pm_callBV (cD_repr hr) T.b_repr (pv_of (pm_op opD_add (pm_index hr (pm_var 8) (am_cons (pm_callBV (cD_repr hr) T.b_repr (pv_of (pm_var 11))) am_nil)) (pv_of pm_int))))))))) (sms_one (sm_ret pm_bl)) sms_nil))
    (sms_one (sm_if (tm_w (wm_and (tm_cmp (opD_notIn hr) (pm_callBV (cD_repr hr) T.b_repr (pv_of (pm_var 11))) (pv_var 8)) (wm_and1 (tm_w (wm_or (tm_not (tm_val (pm_isx T.clsg T.isx_BadCell (pv_of (pm_var 13)) T.b_isinstance T.m_BadCell))) (wm_or1 (tm_cmp (opD_ne hr) (pm_callBV (cD_repr hr) T.b_repr (pv_of (pm_valX T.valc (pv_of (pm_var 13))))) (pv_of (pm_callBV (cD_repr hr) T.b_repr (pv_of (pm_var 11))))))))))) (sms_one (sm_ret pm_bl)) sms_nil)))))
    (sms_cons (sm_set 15 nd (pm_callTV cD_tuple T.b_tuple (pv_of (pm_frz (pf_lco [("at", 6)] (gName 6) tYes (tOp (rD K w mulD) (tOp (rD K w addD) (tVar 6) (tC (.int 1))) (tCall (spI K w F__law_of) [] L2.E0 (tCons (tVar 0) (tCons (tFrz (tLst (tCons (tC (.int 1)) (tCons (tUn (rDU K w negD) (tC (.int 1))) tNil)))) tNil)))) nd rfl rfl (im_rng1 T.b_range (am_cons (pm_callBV cD_len T.b_len (pv_of (pm_var 3))) am_nil)) (fun _ _ _ _ _ _ => (gm_n 6 nd)) (fun _ _ _ _ _ _ => cm_nil) (fun _ _ _ _ _ _ => (pm_op opD_mul (pm_op opD_add (pm_var 6) (pv_of pm_int)) (pv_of (pm_callI 0 (k__law_of T) hr (am_cons (pm_frz (pf_lst (am_cons pm_int (am_cons (pm_un unD_neg (pv_of pm_int)) am_nil)))) am_nil))))))))))
    (sms_cons (sm_for PassesOwn.never rfl (im_seq (pm_op opD_add (pm_op opD_add (pm_frz (pf_lst (am_cons (pm_var 5) (am_cons (pm_var 15) (am_cons (pm_frz (pf_callT cD_list T.b_list (pv_of (pm_var 5)))) (am_cons (pm_sl (pm_var 5) (om_some pm_int) om_none) (am_cons (pm_op opD_add (pm_var 5) (pv_of (pm_tup (am_cons pm_int am_nil)))) (am_cons (pm_rev (pm_var 5)) (am_cons pm_non (am_cons (pm_tup am_nil) am_nil)))))))))) (pv_of (pm_frz (pf_lco [("lap", 12)] (gName 12) tYes (tCall (spI K w (F__law_bent 6)) [] L2.E0 (tCons (tVar 0) (tCons (tVar 5) tNil))) nd rfl rfl (im_rng1 T.b_range (am_cons pm_int am_nil)) (fun _ _ _ _ _ _ => (gm_n 12 nd)) (fun _ _ _ _ _ _ => cm_nil) (fun _ _ _ _ _ _ => (pm_callI 0 (k__law_bent T 6) hr (am_cons (pm_var 5) am_nil))))))) (pv_of (pm_frz (pf_lst (am_cons (pm_callI 0 (k__law_odd T) hr am_nil) am_nil)))))) (gm_n 11 nd) (sms_cons (sm_asg (pm_cauF (fun E => tCall (spX K w mg F_world_by) [] E (tCons (tVar 1) (tCons (tVar 2) (tCons (tVar 11) tNil)))) T.cau hr T.tabB rfl T.cauc (fun _ _ _ _ _ _ _ hr => (lm_call (k_world_by T) (takes_of rfl rfl rfl rfl) hr (am_cons (pm_var 1) (am_cons (pm_var 2) (am_cons (pm_var 11) am_nil)))))) (gm_t rfl (gms_cons (gm_n 13 nd) (gms_cons (gm_n 14 nd) gms_nil))))
    (sms_one (sm_if (tm_not (tm_val (pm_call (k__law_are_literals T) hr (am_cons (pm_var 11) (am_cons (pm_callBV cD_len T.b_len (pv_of (pm_var 3))) am_nil))))) (sms_one (sm_if (tm_w (wm_or (tm_not (tm_val (pm_isx T.clsg T.isx_BadValues (pv_of (pm_var 13)) T.b_isinstance T.m_BadValues))) (wm_or1 (tm_cmp (opD_ne hr) (pm_callBV (cD_repr hr) T.b_repr (pv_of (pm_valX T.valc (pv_of (pm_var 13))))) (pv_of (pm_callBV (cD_repr hr) T.b_repr (pv_of (pm_var 11)))))))) (sms_one (sm_ret pm_bl)) sms_nil)) (sms_cons (sm_set 16 nd (pm_frz (pf_lco [("one", 9), ("cell", 7)] (gTup K 2 (gCons (gName 9) (gCons (gName 7) gNil))) (tTest (tOp (rD K w gtD) (tVar 9) (tC (.int 0)))) (tVar 7) nd rfl rfl (im_zip (am_cons (pm_var 11) (am_cons (pm_var 3) am_nil)) T.b_zip) (fun _ _ _ _ _ _ => (gm_t rfl (gms_cons (gm_n 9 nd) (gms_cons (gm_n 7 nd) gms_nil)))) (fun _ _ _ _ _ _ => (cm_one (tm_cmp opD_gt (pm_var 9) (pv_of pm_int)))) (fun _ _ _ _ _ _ => (pm_var 7)))))
    (sms_cons (sm_own 17 nd (pf_lst am_nil))
    (sms_cons (sm_for PassesOwn.never rfl (im_seq (pm_ix ixR_D (pm_var 1) (pv_of pm_int))) (gm_t rfl (gms_cons (gm_n 18 nd) (gms_cons (gm_n 19 nd) gms_nil))) (sms_one (sm_ext 17 (pm_frz (pf_lco [("row", 20)] (gName 20) tYes (tBM K "list" (rMet K w cntD) (tFrz (tLc (iRng1 (tCons (tVar 2) tNil)) (gName 21) tYes (tOp (rD K w inD) (tTup (tCons (tC (.str "of")) (tCons (tVar 18) (tCons (tVar 20) (tCons (tVar 21) tNil))))) (tVar 16)) [21])) (tCons (tC (.bl true)) tNil)) nd rfl rfl (im_seq (pm_call (k__law_tuples T) hr (am_cons (pm_var 2) (am_cons (pm_var 19) am_nil)))) (fun _ _ _ _ _ _ => (gm_n 20 nd)) (fun _ _ _ _ _ _ => cm_nil) (fun _ _ _ _ _ _ => (pm_count (pm_frz (pf_lco [("thing", 21)] (gName 21) tYes (tOp (rD K w inD) (tTup (tCons (tC (.str "of")) (tCons (tVar 18) (tCons (tVar 20) (tCons (tVar 21) tNil))))) (tVar 16)) nd rfl rfl (im_rng1 T.b_range (am_cons (pm_var 2) am_nil)) (fun _ _ _ _ _ _ => (gm_n 21 nd)) (fun _ _ _ _ _ _ => cm_nil) (fun _ _ _ _ _ _ => (pm_cmp (opD_in hr) (pm_tup (am_cons pm_str (am_cons (pm_var 18) (am_cons (pm_var 20) (am_cons (pm_var 21) am_nil))))) (pv_of (pm_var 16)))))) (am_cons pm_bl am_nil))))))))
    (sms_cons (sm_fr 17 (sm_if (tm_w (wm_and (tm_val (pm_callBV (cD_any rfl) T.b_any (pv_of (pm_frz (pf_lco [("many", 22)] (gName 22) tYes (tOp (rD K w neD) (tVar 22) (tC (.int 1))) nd rfl rfl (im_seq (pm_var 17)) (fun _ _ _ _ _ _ => (gm_n 22 nd)) (fun _ _ _ _ _ _ => cm_nil) (fun _ _ _ _ _ _ => (pm_cmp (opD_ne hr) (pm_var 22) (pv_of pm_int)))))))) (wm_and1 (tm_w (wm_or (tm_not (tm_val (pm_isx T.clsg T.isx_NoWorld (pv_of (pm_var 13)) T.b_isinstance T.m_NoWorld))) (wm_or1 (tm_cmp (opD_ne hr) (pm_callBV (cD_repr hr) T.b_repr (pv_of (pm_valX T.valc (pv_of (pm_var 13))))) (pv_of (pm_callBV (cD_repr hr) T.b_repr (pv_of (pm_var 11))))))))))) (sms_one (sm_ret pm_bl)) sms_nil))
    (sms_one (sm_fr 17 (sm_if (tm_w (wm_and (tm_val (pm_callBV (cD_all rfl) T.b_all (pv_of (pm_frz (pf_lco [("many", 22)] (gName 22) tYes (tOp (rD K w eqD) (tVar 22) (tC (.int 1))) nd rfl rfl (im_seq (pm_var 17)) (fun _ _ _ _ _ _ => (gm_n 22 nd)) (fun _ _ _ _ _ _ => cm_nil) (fun _ _ _ _ _ _ => (pm_cmp (opD_eq hr) (pm_var 22) (pv_of pm_int)))))))) (wm_and1 (tm_w (wm_or (tm_cmp opD_isNot (pm_var 13) (pv_of pm_non)) (wm_or1 (tm_cmp (opD_ne hr) (pm_frz (pf_lco [("cell", 7)] (gName 7) (tB (tCall (spD K w F__law_so) [] L2.E0 (tCons (tVar 1) (tCons (tVar 14) (tCons (tVar 7) tNil))))) (tVar 7) nd rfl rfl (im_seq (pm_var 3)) (fun _ _ _ _ _ _ => (gm_n 7 nd)) (fun _ _ _ _ _ _ => (cm_one (tm_val (pm_call (k__law_so T) hr (am_cons (pm_var 1) (am_cons (pm_var 14) (am_cons (pm_var 7) am_nil))))))) (fun _ _ _ _ _ _ => (pm_var 7)))) (pv_of (pm_var 16))))))))) (sms_one (sm_ret pm_bl)) sms_nil)))))))))))
    (sms_one (sm_ret pm_bl)))))))))))))⟩) runI_ok

/-! ### law -/
theorem sc_law : FnScope ["script", "place", "pot", "lap"] ["script"] (defScope (top 90)) := ⟨rfl, rfl, rfl, by decide +kernel, rfl, by decide +kernel, by decide +kernel⟩
theorem k_law (T : Tx P w K mg base) {f : Addr} {fd : FuncData} (Fn : Fun K "law" "law" (top 90) f fd) : FnG P w K mg base CX0 13 f fd ["script"] (spDT T.tabs K w F_law) := by
  have nd := sc_law.nd
  exact dtok_mk (k := 12) Fn sc_law (fun _ _ _ _ _ _ hr => ⟨_, (sms_cons (sm_for PassesOwn.never rfl (im_seq (pm_call (k__law_cells T) hr (am_cons (pm_var 0) (am_cons pm_int am_nil)))) (gm_n 1 nd) (sms_cons (sm_own 2 nd (pf_call (k__law_pot T) hr (am_cons (pm_var 0) (am_cons (pm_var 1) am_nil))))
    (sms_one (sm_if (tm_not (tm_val (pm_callBV (cD_all rfl) T.b_all (pv_of (pm_frz (pf_lcoT [("lap", 3)] (gName 3) tYes (tCall (spIT T.tabs K w F__law_right) [] L2.E0 (tCons (tVar 2) tNil)) nd rfl rfl (im_rng1 T.b_range (am_cons pm_int am_nil)) (fun _ hh _ _ _ _ _ => (gm_n 3 nd)) (fun _ hh _ _ _ _ _ => cm_nil) (fun _ hh _ _ _ _ _ => (pm_callIT 2 (k__law_right T) hr (by first | rfl | exact hh) T.tab_ne am_nil)))))))) (sms_one (sm_ret pm_bl)) sms_nil))))
    (sms_one (sm_ret pm_bl)))⟩) runD_ok

end
end DL
set_option Elab.async false
set_option linter.all false
set_option maxRecDepth 100000
set_option maxHeartbeats 1000000
/-! K9X: what the written part of the program tells. -/
namespace DL
open PySem PySem.Spec L2
open PyProof.Rows hiding St
section
variable {P : Program} {w : World} {K : PySem.W.Frag} {h : Heap} {mg : Str → Option Value}
theorem fat_mk (X : K.In h) (G : h.Ns mainGlobals mg) {x : Str} {st : Stmt} {ps : List Str} {f : Addr} {oc : Value} {od an : Option Addr} {osl : Array (Option Value)} {kV doc pm cdv ct : Value}
    (a : PySem.W.nsIn K mainGlobals x = some (some (.ref f))) (l : K.lookup f = some ⟨oc, od, .func (PySem.W.fnOf x x (defArgs st) (defBody st) (defScope st) .none kV doc pm an cdv ct), osl⟩)
    (c : PySem.W.codeIn K cdv x = true) (k : PySem.W.keepIn K (.ref f) = true)
    (hb : ∀ (kV doc pm : Value) (an : Option Addr) (cdv ct : Value) (us : List Value), us.length = ps.length → bindArgs (PySem.W.fnOf x x (defArgs st) (defBody st) (defScope st) .none kV doc pm an cdv ct) ⟨us, []⟩ = pure (ps.zip us)) : FAt K mg x st ps :=
  have F := fun_mk (st := st) l c k
  ⟨f, _, F, PySem.W.mg_of X G a, F.binds hb⟩
theorem fatC_mk (X : K.In h) (G : h.Ns mainGlobals mg) {x : Str} {st : Stmt} {ps : List Str} {f : Addr} {oc : Value} {od an : Option Addr} {osl : Array (Option Value)} {kV doc pm ct : Value} {c0 : Addr}
    (a : PySem.W.nsIn K mainGlobals x = some (some (.ref f))) (l : K.lookup f = some ⟨oc, od, .func (PySem.W.fnOf x x (defArgs st) (defBody st) (defScope st) .none kV doc pm an (.ref c0) ct), osl⟩)
    (c : PySem.W.codeIn K (.ref c0) x = true) (k : PySem.W.keepIn K (.ref f) = true)
    (hb : ∀ (kV doc pm : Value) (an : Option Addr) (cdv ct : Value) (us : List Value), us.length = ps.length → bindArgs (PySem.W.fnOf x x (defArgs st) (defBody st) (defScope st) .none kV doc pm an cdv ct) ⟨us, []⟩ = pure (ps.zip us)) : ∃ (f : Addr) (fd : FuncData), FunC K x x st f fd c0 ∧ mg x = some (.ref f) ∧ Binds K fd ps [] :=
  have F := fun_mk (st := st) l c k
  ⟨f, _, ⟨⟨oc, od, kV, doc, pm, an, ct, osl, rfl, l, c⟩, k⟩, PySem.W.mg_of X G a, F.binds hb⟩
theorem gint_mk (X : K.In h) (G : h.Ns mainGlobals mg) {x : Str} {i : Int} {t : Tok} (a : PySem.W.nsIn K mainGlobals x = some (some (.int i t))) : GDat K w mg x (.int i) := ⟨.int i, _, PySem.W.mg_of X G a, ⟨t, rfl⟩, fun H => .int i⟩
theorem gstr_mk (X : K.In h) (G : h.Ns mainGlobals mg) {x : Str} {i : Str} {t : Tok} (a : PySem.W.nsIn K mainGlobals x = some (some (.str i t))) : GDat K w mg x (.str i) := ⟨.str i, _, PySem.W.mg_of X G a, ⟨t, rfl⟩, fun H => .str i⟩
theorem sup_eval {p0 p1 p2 p3 p4 : Pos} (hl : (p2.endLine == p4.line) = true) (env : Env) : eval (supCall p0 p1 p2 p3 p4) env = (do
      let ov ← attributeBase (.Call (.Name "super" p0) [] [] p1) "__init__" env (eval (.Call (.Name "super" p0) [] [] p1) env)
      standAt p2.atName
      let (f, first) ← holding [ov] (getMethod ov "__init__" (plainOf (.Call (.Name "super" p0) [] [] p1) env))
      callWith p4 f first (backTo p4 (starEach [.Name "value" p3] env)) []) := by
  have e := fun ov => mcall_line (o := .Call (.Name "super" p0) [] [] p1) (m := "__init__") (apos := p2) (pos := p4) (env := env) (ov := ov) (n := 1) (args := backTo p4 (starEach [.Name "value" p3] env)) (kws := []) rfl hl
  show (do
      let ov ← attributeBase (.Call (.Name "super" p0) [] [] p1) "__init__" env (eval (.Call (.Name "super" p0) [] [] p1) env)
      standAt p2.atName
      methodCall (.Call (.Name "super" p0) [] [] p1) "__init__" p2 p4 env ov 1 (backTo p4 (starEach [.Name "value" p3] env)) []) = _
  simp only [e]
/-- the class that makes the errors, and its __init__ -/
theorem sup_mk {f D cda cc : Addr} {params : Arguments} {kV doc pm ct oc : Value} {an od : Option Addr} {osl : Array (Option Value)} {p0 p1 p2 p3 p4 p5 p6 p7 p8 p9 : Pos} {ar : Arg} {qual : Str}
    {ccl : Value} {cdd : Option Addr} {vs : Array Value} {ccs : Array (Option Value)} {file : Str} {tf : Tok} {cl : Value} {cld : Option Addr} {csl : Array (Option Value)}
    (l : K.lookup f = some ⟨oc, od, .func (PySem.W.ksFn "__init__" qual params [.Expr (supCall p0 p1 p2 p3 p4) p5, supStore p6 p7 p8 p9] supScope .none kV doc pm an (.ref cda) ct cc), osl⟩)
    (c : PySem.W.codeIn K (.ref cda) qual = true) (hp : (params.posonlyargs ++ params.args).head? = some ar) (ha : ar.arg = "self")
    (lc : K.lookup cda = some ⟨ccl, cdd, .fields vs, ccs⟩) (hv : vs[2]? = some (.str file tf)) (hf : ((P.main.file : Str) == file) = true)
    (lcc : K.lookup cc = some ⟨cl, cld, .cell (some (.ref D)), csl⟩) (hl : (p2.endLine == p4.line) = true)
    (cls : (PySem.W.clsIn K D).isSome = true) (sup : PySem.W.nsIn K mainGlobals "super" = some none) (opq : PySem.W.nsIn K cStatics "thirdparty.any" = some none) (top : (P.main.scope.names.lookup ("super" : Str)).isSome = false) :
    SupK P K f D qual (PySem.W.ksFn "__init__" qual params [.Expr (supCall p0 p1 p2 p3 p4) p5, supStore p6 p7 p8 p9] supScope .none kV doc pm an (.ref cda) ct cc) :=
  ⟨⟨params, kV, doc, pm, ct, oc, an, od, osl, cda, cc, p0, p1, p2, p3, p4, p5, p6, p7, p8, p9, _, ar, rfl, l, c, hp, ha, ⟨ccl, cdd, vs, ccs, file, tf, lc, hv, hf⟩, ⟨cl, cld, csl, lcc⟩, sup_eval hl⟩, cls, sup, opq, top⟩
/-- an error's class -/
structure Cls (K : PySem.W.Frag) (x : Str) (C D f : Addr) : Prop where
  ns : PySem.W.nsIn K mainGlobals x = some (some (.ref C))
  sub : SubK K C D
  held : HeldC K C
  ini : PySem.W.findIn K (.ref C) "__init__" = some (some (.ref f))
theorem cls_mk {x : Str} {C D f : Addr} {nm q : Str} {N : Addr} {bs bm : List Value} {sn : List Str} {sub : List Value} {ab : Bool} {col : Option Bool} {dd : Option Addr} {k0 k1 k2 k3 k5 : Option Value}
    (ns : PySem.W.nsIn K mainGlobals x = some (some (.ref C)))
    (l : K.lookup C = some (excClassObj nm q C N bs bm true sn sub ab col dd k0 k1 k2 k3 k5 "ValueError.__new__")) (hb : HandSPX.refsVE bm = true)
    (sa : PySem.W.findIn K (.ref C) "__setattr__" = some (some (.builtin "object.__setattr__"))) (ga : PySem.W.findIn K (.ref C) "__getattribute__" = some (some (.builtin "BaseException.__getattribute__"))) (gg : PySem.W.findIn K (.ref C) "__getattr__" = some none) (nv : PySem.W.findIn K (.ref C) "value" = some none)
    (ca : PySem.W.findIn K (.ref C) "__class__" = some (some (.builtin "object.__class__"))) (ob : PySem.W.mroIn K C (.type "object") = some true)
    (ini : PySem.W.findIn K (.ref C) "__init__" = some (some (.ref f))) (exC : PySem.W.subIn K (.ref C) (.type "BaseException") = some true) (tyC : PySem.W.typeIn K (.ref C) = some (.type "type")) (kC : PySem.W.keepIn K (.ref C) = true) (hd : PySem.W.hasDictIn K C = true)
    (mro : PySem.W.mroIn K C (.ref D) = some true) (si : PySem.W.ks_superIn K C D "__init__" = some (some (.builtin "ValueError.__init__"))) (ve : PySem.W.subIn K (.ref C) (.type "ValueError") = some true) (cl : (PySem.W.clsIn K C).isSome = true) : Cls K x C D f :=
  ⟨ns, ⟨⟨⟨nm, q, N, bs, bm, sn, sub, ab, col, dd, k0, k1, k2, k3, k5, l, hb⟩, sa, exC, tyC, kC⟩, mro, si, ve, nv⟩, ⟨⟨ga, gg, exC, hd⟩, cl, nv, ca, ob⟩, ini⟩
theorem rai_mk (X : K.In h) (G : h.Ns mainGlobals mg) {x : Str} {C D f : Addr} {qual : Str} {fd : FuncData} (S : SupK P K f D qual fd) (c : Cls K x C D f) (t : PySem.W.typeIn K (.ref f) = some (.type "function")) (b : Binds K fd ["self", "value"] []) : RaiK P K mg x C D f qual fd :=
  ⟨PySem.W.mg_of X G c.ns, S, c.sub, c.ini, t, b⟩
theorem isx3 {D D0 f c1 c2 c3 : Addr} {x1 x2 x3 : Str} {b1 b2 b3 : Bool} (h1 : Cls K x1 c1 D0 f) (h2 : Cls K x2 c2 D0 f) (h3 : Cls K x3 c3 D0 f) (n : PySem.W.kitOne K (.type "NoneType") (.ref D) = some false)
    (k1 : PySem.W.kitOne K (.ref c1) (.ref D) = some b1) (k2 : PySem.W.kitOne K (.ref c2) (.ref D) = some b2) (k3 : PySem.W.kitOne K (.ref c3) (.ref D) = some b3) : IsxC K D [(x1, b1), (x2, b2), (x3, b3)] := by
  refine ⟨n, fun p hp => ?_⟩
  simp only [List.mem_cons, List.not_mem_nil, or_false] at hp
  rcases hp with rfl | rfl | rfl
  · exact ⟨_, h1.ns, h1.held, k1⟩
  · exact ⟨_, h2.ns, h2.held, k2⟩
  · exact ⟨_, h3.ns, h3.held, k3⟩
theorem valc3 {D0 f c1 c2 c3 : Addr} {x1 x2 x3 : Str} (h1 : Cls K x1 c1 D0 f) (h2 : Cls K x2 c2 D0 f) (h3 : Cls K x3 c3 D0 f) : ValC K [x1, x2, x3] := fun p hp => by
  simp only [List.mem_cons, List.not_mem_nil, or_false] at hp
  rcases hp with rfl | rfl | rfl
  · exact ⟨_, h1.ns, h1.held⟩
  · exact ⟨_, h2.ns, h2.held⟩
  · exact ⟨_, h3.ns, h3.held⟩
theorem cauc3 (X : K.In h) (G : h.Ns mainGlobals mg) {D0 f c1 c2 c3 CS : Addr} {x1 x2 x3 : Str} (h1 : Cls K x1 c1 D0 f) (h2 : Cls K x2 c2 D0 f) (h3 : Cls K x3 c3 D0 f)
    (k1 : PySem.W.exmOne K (.ref c1) (.ref CS) = some true) (k2 : PySem.W.exmOne K (.ref c2) (.ref CS) = some true) (k3 : PySem.W.exmOne K (.ref c3) (.ref CS) = some true) : CauC K mg CS [x1, x2, x3] := fun p hp C hC => by
  simp only [List.mem_cons, List.not_mem_nil, or_false] at hp
  rcases hp with rfl | rfl | rfl
  · rw [PySem.W.mg_of X G h1.ns] at hC; cases hC; exact ⟨h1.ns, k1⟩
  · rw [PySem.W.mg_of X G h2.ns] at hC; cases hC; exact ⟨h2.ns, k2⟩
  · rw [PySem.W.mg_of X G h3.ns] at hC; cases hC; exact ⟨h3.ns, k3⟩
def qCau (n : Nat) : Pos := [⟨240, 4, 240, 10⟩, ⟨240, 12, 240, 16⟩, ⟨240, 4, 240, 16⟩, ⟨240, 20, 240, 24⟩, ⟨240, 26, 240, 30⟩, ⟨240, 19, 240, 31⟩, ⟨240, 4, 240, 31⟩, ⟨242, 8, 242, 12⟩, ⟨242, 15, 242, 19⟩, ⟨242, 15, 242, 21⟩, ⟨242, 8, 242, 21⟩, ⟨243, 11, 243, 22⟩, ⟨244, 8, 244, 14⟩, ⟨244, 17, 244, 22⟩, ⟨244, 8, 244, 22⟩, ⟨243, 4, 244, 22⟩, ⟨241, 4, 244, 22⟩, ⟨245, 12, 245, 18⟩, ⟨245, 20, 245, 24⟩, ⟨245, 11, 245, 25⟩, ⟨245, 4, 245, 25⟩].getD n (⟨0, 0, 0, 0⟩ : Pos)
theorem scCau : FnScope cauN ["look"] (defScope (top 81)) := ⟨rfl, rfl, rfl, by decide +kernel, rfl, by decide +kernel, by decide +kernel⟩
theorem cau_mk (X : K.In h) (G : h.Ns mainGlobals mg) {f CS : Addr} {oc : Value} {od an : Option Addr} {osl : Array (Option Value)} {kV doc pm cdv ct : Value}
    (a : PySem.W.nsIn K mainGlobals "_law_caught" = some (some (.ref f))) (l : K.lookup f = some ⟨oc, od, .func (PySem.W.fnOf "_law_caught" "_law_caught" (defArgs (top 81)) (defBody (top 81)) (defScope (top 81)) .none kV doc pm an cdv ct), osl⟩)
    (c : PySem.W.codeIn K cdv "_law_caught" = true) (k : PySem.W.keepIn K (.ref f) = true) (e : PySem.W.nsIn K mainGlobals "SayingError" = some (some (.ref CS))) : CauF K mg "_law_caught" "SayingError" CS := by
  have hb : defBody (top 81) = cauBody "SayingError" qCau 0 0 0 0 0 := rfl
  rw [hb] at l
  refine ⟨f, defArgs (top 81), defScope (top 81), .none, kV, doc, pm, cdv, ct, oc, an, od, osl, qCau, 0, 0, 0, 0, 0, PySem.W.mg_of X G a, k, l, c, .all fun us hl => match us, hl with | [_], _ => rfl, scCau, ?_, ?_, ?_, ?_, ?_, PySem.W.mg_of X G e, ?_, fun L => ?_⟩
  · decide +kernel
  · decide +kernel
  · decide +kernel
  · decide +kernel
  · decide +kernel
  · decide
  · rfl
theorem law_at (X : K.In h) (G : h.Ns mainGlobals mg) {x y : Str} {st : Stmt} {f : Addr} {oc : Value} {od an : Option Addr} {osl : Array (Option Value)} {kV doc pm cdv ct : Value}
    (a : PySem.W.nsIn K mainGlobals x = some (some (.ref f))) (l : K.lookup f = some ⟨oc, od, .func (PySem.W.fnOf x x (defArgs st) (defBody st) (defScope st) .none kV doc pm an cdv ct), osl⟩)
    (c : PySem.W.codeIn K cdv x = true) (k : PySem.W.keepIn K (.ref f) = true)
    (hb : ∀ (kV doc pm : Value) (an : Option Addr) (cdv ct : Value) (u : Value), bindArgs (PySem.W.fnOf x x (defArgs st) (defBody st) (defScope st) .none kV doc pm an cdv ct) ⟨[u], []⟩ = pure [(y, u)]) :
    ∃ (f : Addr) (fd : FuncData), Fun K x x st f fd ∧ mg x = some (.ref f) ∧ ∀ (s : Shared) (u : Value), BindsTo s fd ⟨[u], []⟩ [(y, u)] :=
  ⟨f, _, fun_mk (st := st) l c k, PySem.W.mg_of X G a, fun s u => .of_eq (hb kV doc pm an cdv ct u)⟩
theorem cls_at (X : K.In h) {x : Str} {C D f : Addr} {nm q : Str} {N : Addr} {bs bm : List Value} {sn : List Str} {sub : List Value} {ab : Bool} {col : Option Bool} {dd : Option Addr} {k0 k1 k2 k3 k5 : Option Value}
    (ns : PySem.W.nsIn K mainGlobals x = some (some (.ref C)))
    (l : K.lookup C = some (excClassObj nm q C N bs bm true sn sub ab col dd k0 k1 k2 k3 k5 "ValueError.__new__")) (hb : HandSPX.refsVE bm = true)
    (sa : PySem.W.findIn K (.ref C) "__setattr__" = some (some (.builtin "object.__setattr__"))) (ga : PySem.W.findIn K (.ref C) "__getattribute__" = some (some (.builtin "BaseException.__getattribute__"))) (gg : PySem.W.findIn K (.ref C) "__getattr__" = some none) (nv : PySem.W.findIn K (.ref C) "value" = some none)
    (ca : PySem.W.findIn K (.ref C) "__class__" = some (some (.builtin "object.__class__"))) (ob : PySem.W.mroIn K C (.type "object") = some true)
    (ini : PySem.W.findIn K (.ref C) "__init__" = some (some (.ref f))) (exC : PySem.W.subIn K (.ref C) (.type "BaseException") = some true) (tyC : PySem.W.typeIn K (.ref C) = some (.type "type")) (kC : PySem.W.keepIn K (.ref C) = true) (hd : PySem.W.hasDictIn K C = true)
    (mro : PySem.W.mroIn K C (.ref D) = some true) (si : PySem.W.ks_superIn K C D "__init__" = some (some (.builtin "ValueError.__init__"))) (ve : PySem.W.subIn K (.ref C) (.type "ValueError") = some true) (cl : (PySem.W.clsIn K C).isSome = true) : Cls K x C D f :=
  cls_mk ns l hb sa ga gg nv ca ob ini exC tyC kC hd mro si ve cl
theorem clsg_at (X : K.In h) (h1 : PySem.W.specialIn K (.builtin "object.__class__") "__get__" = some (some (.builtin "getset_descriptor.__get__"))) (h2 : PySem.W.takesIn K (.builtin "object.__class__") = some true) : ClsG K := ⟨h1, h2⟩
theorem strs_dz {H : Hp} : ∀ {xs : List Str}, DzAll K w H (xs.map V.str) (xs.map PyData.str)
  | [] => .nil
  | x :: xs => .cons (.str x) strs_dz
theorem strs_vals : ∀ {xs : List (Str × Tok)}, Vals (xs.map fun p => V.str p.1) (xs.map fun p => Value.str p.1 p.2)
  | [] => .nil
  | x :: xs => .cons ⟨x.2, rfl⟩ strs_vals
theorem gruling_mk (X : K.In h) (G : h.Ns mainGlobals mg) {x : Str} {r : Addr} {n : Nat} {dd : Option Addr} {sl : Array (Option Value)} {t1 t2 t3 t4 t5 t6 t7 t8 t9 t10 t11 t12 : Tok}
    (a : PySem.W.nsIn K mainGlobals x = some (some (.ref r)))
    (l : K.lookup r = some ⟨.type "tuple", dd, .seq #[.str "yes" t1, .str "no" t2, .str "not" t3, .str "and" t4, .str "or" t5, .str "if" t6, .str "iff" t7, .str "all" t8, .str "some" t9, .str "least" t10, .str "most" t11, .str "same" t12] n, sl⟩) : GDat K w mg x ruling :=
  ⟨.ref r, _, PySem.W.mg_of X G a, rfl, fun H => .tup (.inr ⟨_, _, n, l, rfl, rfl, (by show 12 ≤ sizeLine; decide), strs_vals (xs := [("yes", t1), ("no", t2), ("not", t3), ("and", t4), ("or", t5), ("if", t6), ("iff", t7), ("all", t8), ("some", t9), ("least", t10), ("most", t11), ("same", t12)])⟩) (strs_dz (xs := ["yes", "no", "not", "and", "or", "if", "iff", "all", "some", "least", "most", "same"]))⟩
theorem tabs1 {H : Hp} {a : Addr} {q : Str} (h : H a = some (.tbl #[])) : LamX.Tabs [(a, q)] H := fun p hp => by
  cases List.mem_singleton.mp hp
  exact ⟨#[], h, trivial, fun pos cv e => by cases e⟩
/-- what the law's promise asks of the script -/
theorem law_asks {cs : List (Addr × Str)} {H : Hp} {a : Addr} {ns : List Int} (hT : LamX.Tabs cs H) (hl : Lz K H a (ns.map V.int)) {F : List PyData → Option PyData} (hF : F [.list (ns.map .int)] = some (.bool true)) : spDT cs K w F [.ref a] H (fun v _ => v = .bl true) L2.E0 := by
  have d : ∀ ms : List Int, DzAll K w H (ms.map V.int) (ms.map PyData.int) := fun ms => by
    induction ms with
    | nil => exact .nil
    | cons m ms ih => exact .cons (.int m) ih
  refine ⟨[.list (ns.map .int)], .bool true, hT, .cons (.lst hl (d ns)) .nil, hF, fun v H' _ _ _ hz => ?_⟩
  cases hz
  rfl
theorem typ_at (X : K.In h) {a : Addr} {T : String} (e : PySem.W.typeIn K (.ref a) = some (.type T)) : PySem.W.typeIn K (.ref a) = some (.type T) := e
theorem sup_at (X : K.In h) {f D cda cc : Addr} {params : Arguments} {kV doc pm ct oc : Value} {an od : Option Addr} {osl : Array (Option Value)} {p0 p1 p2 p3 p4 p5 p6 p7 p8 p9 : Pos} {ar : Arg} {qual : Str}
    {ccl : Value} {cdd : Option Addr} {vs : Array Value} {ccs : Array (Option Value)} {file : Str} {tf : Tok} {cl : Value} {cld : Option Addr} {csl : Array (Option Value)}
    (l : K.lookup f = some ⟨oc, od, .func (PySem.W.ksFn "__init__" qual params [.Expr (supCall p0 p1 p2 p3 p4) p5, supStore p6 p7 p8 p9] supScope .none kV doc pm an (.ref cda) ct cc), osl⟩)
    (c : PySem.W.codeIn K (.ref cda) qual = true) (hp : (params.posonlyargs ++ params.args).head? = some ar) (ha : ar.arg = "self")
    (lc : K.lookup cda = some ⟨ccl, cdd, .fields vs, ccs⟩) (hv : vs[2]? = some (.str file tf)) (hf : ((P.main.file : Str) == file) = true)
    (lcc : K.lookup cc = some ⟨cl, cld, .cell (some (.ref D)), csl⟩) (hl : (p2.endLine == p4.line) = true)
    (cls : (PySem.W.clsIn K D).isSome = true) (sup : PySem.W.nsIn K mainGlobals "super" = some none) (opq : PySem.W.nsIn K cStatics "thirdparty.any" = some none) (top : (P.main.scope.names.lookup ("super" : Str)).isSome = false)
    (hb : ∀ (kV doc pm ct : Value) (an : Option Addr) (us : List Value), us.length = (["self", "value"] : List Str).length → bindArgs (PySem.W.ksFn "__init__" qual params [.Expr (supCall p0 p1 p2 p3 p4) p5, supStore p6 p7 p8 p9] supScope .none kV doc pm an (.ref cda) ct cc) ⟨us, []⟩ = pure ((["self", "value"] : List Str).zip us)) :
    ∃ q fd, SupK P K f D q fd ∧ Binds K fd ["self", "value"] [] := ⟨qual, _, sup_mk l c hp ha lc hv hf lcc hl cls sup opq top, .all (hb kV doc pm ct an)⟩
end
end DL
set_option Elab.async false
set_option linter.all false
set_option maxRecDepth 100000
set_option maxHeartbeats 4000000
open PySem PySem.W PyProof.Rows
set_option maxRecDepth 100000 in
set_option maxHeartbeats 16000000 in
theorem PySem.Challenge.cw_nosuchthings_k09_whole_cells_and_their_n_holds : PySem.Challenge.rw_nosuchthings_k09_whole_cells_and_their_n.Holds := by
  w_on; o_law; k_head; (case hw => w_witness2); k_fill
  refine DL.walkGT (k := 13) (x := "script") rfl (by decide) rfl ⟨by decide, by decide, by decide⟩ (fun w h Y => PySem.W.km_in_of Y) ?F
  intro w mg fa h Y KX G hmg
  have hTab : h.get? 415 = some DL.tab0 := PySem.W.km_tabs_of Y 415 List.mem_cons_self
  obtain ⟨q, fi, sup, bnd⟩ := DL.sup_at (P := PySem.Challenge.rw_nosuchthings_k09_whole_cells_and_their_n.prog) KX (D := 33) (f := 30) rfl rfl rfl rfl rfl rfl rfl rfl rfl rfl rfl rfl rfl (fun _ _ _ _ _ us hl => match us, hl with | [_, _], _ => rfl)
  have k_BadCell := DL.cls_at KX (x := "BadCell") (C := 46) (D := 33) (f := 30) rfl rfl rfl rfl rfl rfl rfl rfl rfl rfl rfl rfl rfl rfl rfl rfl rfl rfl
  have k_BadSigns := DL.cls_at KX (x := "BadSigns") (C := 58) (D := 33) (f := 30) rfl rfl rfl rfl rfl rfl rfl rfl rfl rfl rfl rfl rfl rfl rfl rfl rfl rfl
  have k_BadSize := DL.cls_at KX (x := "BadSize") (C := 70) (D := 33) (f := 30) rfl rfl rfl rfl rfl rfl rfl rfl rfl rfl rfl rfl rfl rfl rfl rfl rfl rfl
  have k_BadValues := DL.cls_at KX (x := "BadValues") (C := 82) (D := 33) (f := 30) rfl rfl rfl rfl rfl rfl rfl rfl rfl rfl rfl rfl rfl rfl rfl rfl rfl rfl
  have k_BadWorld := DL.cls_at KX (x := "BadWorld") (C := 94) (D := 33) (f := 30) rfl rfl rfl rfl rfl rfl rfl rfl rfl rfl rfl rfl rfl rfl rfl rfl rfl rfl
  have k_NoWorld := DL.cls_at KX (x := "NoWorld") (C := 106) (D := 33) (f := 30) rfl rfl rfl rfl rfl rfl rfl rfl rfl rfl rfl rfl rfl rfl rfl rfl rfl rfl
  have k_TooGreat := DL.cls_at KX (x := "TooGreat") (C := 118) (D := 33) (f := 30) rfl rfl rfl rfl rfl rfl rfl rfl rfl rfl rfl rfl rfl rfl rfl rfl rfl rfl
  have hT := DL.typ_at KX (a := 30) (T := "function") rfl
  have b_abs : mg "abs" = none := PySem.W.mg_none_of KX G rfl
  have b_all : mg "all" = none := PySem.W.mg_none_of KX G rfl
  have b_any : mg "any" = none := PySem.W.mg_none_of KX G rfl
  have b_bool : mg "bool" = none := PySem.W.mg_none_of KX G rfl
  have b_dict : mg "dict" = none := PySem.W.mg_none_of KX G rfl
  have b_enumerate : mg "enumerate" = none := PySem.W.mg_none_of KX G rfl
  have b_int : mg "int" = none := PySem.W.mg_none_of KX G rfl
  have b_isinstance : mg "isinstance" = none := PySem.W.mg_none_of KX G rfl
  have b_len : mg "len" = none := PySem.W.mg_none_of KX G rfl
  have b_list : mg "list" = none := PySem.W.mg_none_of KX G rfl
  have b_max : mg "max" = none := PySem.W.mg_none_of KX G rfl
  have b_min : mg "min" = none := PySem.W.mg_none_of KX G rfl
  have b_range : mg "range" = none := PySem.W.mg_none_of KX G rfl
  have b_repr : mg "repr" = none := PySem.W.mg_none_of KX G rfl
  have b_set : mg "set" = none := PySem.W.mg_none_of KX G rfl
  have b_str : mg "str" = none := PySem.W.mg_none_of KX G rfl
  have b_sum : mg "sum" = none := PySem.W.mg_none_of KX G rfl
  have b_tuple : mg "tuple" = none := PySem.W.mg_none_of KX G rfl
  have b_zip : mg "zip" = none := PySem.W.mg_none_of KX G rfl
  have g_FIGURES : DL.GDat _ w mg "FIGURES" (.str "0123456789") := DL.gstr_mk KX G rfl
  have g_FOUR : DL.GDat _ w mg "FOUR" (.int 4) := DL.gint_mk KX G rfl
  have g_IS : DL.GDat _ w mg "IS" (.str "is") := DL.gstr_mk KX G rfl
  have g_LETTERS : DL.GDat _ w mg "LETTERS" (.str "abcdefghijklmnopqrstuvwxyz") := DL.gstr_mk KX G rfl
  have g_MOST_ARGUMENTS : DL.GDat _ w mg "MOST_ARGUMENTS" (.int 2) := DL.gint_mk KX G rfl
  have g_MOST_CELLS : DL.GDat _ w mg "MOST_CELLS" (.int 64) := DL.gint_mk KX G rfl
  have g_MOST_FUNCTIONS : DL.GDat _ w mg "MOST_FUNCTIONS" (.int 4) := DL.gint_mk KX G rfl
  have g_MOST_PLACES : DL.GDat _ w mg "MOST_PLACES" (.int 3) := DL.gint_mk KX G rfl
  have g_MOST_RELATIONS : DL.GDat _ w mg "MOST_RELATIONS" (.int 6) := DL.gint_mk KX G rfl
  have g_MOST_SIGNS : DL.GDat _ w mg "MOST_SIGNS" (.int 8) := DL.gint_mk KX G rfl
  have g_MOST_THINGS : DL.GDat _ w mg "MOST_THINGS" (.int 5) := DL.gint_mk KX G rfl
  have g_OF : DL.GDat _ w mg "OF" (.str "of") := DL.gstr_mk KX G rfl
  have g_RULING : DL.GDat _ w mg "RULING" DL.ruling := DL.gruling_mk KX G rfl rfl
  have g_THREE_cells : DL.GDat _ w mg "THREE_cells" (.int 3) := DL.gint_mk KX G rfl
  have g_THREE_worlds : DL.GDat _ w mg "THREE_worlds" (.int 3) := DL.gint_mk KX G rfl
  have a_is_integer : DL.FAt _ mg "is_integer" (DL.top 26) ["value"] := DL.fat_mk KX G rfl rfl rfl rfl (fun _ _ _ _ _ _ us hl => match us, hl with | [_], _ => rfl)
  have a_is_between : DL.FAt _ mg "is_between" (DL.top 27) ["value", "low", "high"] := DL.fat_mk KX G rfl rfl rfl rfl (fun _ _ _ _ _ _ us hl => match us, hl with | [_, _, _], _ => rfl)
  have a_are_between : DL.FAt _ mg "are_between" (DL.top 28) ["value", "low", "high"] := DL.fat_mk KX G rfl rfl rfl rfl (fun _ _ _ _ _ _ us hl => match us, hl with | [_, _, _], _ => rfl)
  have a_is_ascending : DL.FAt _ mg "is_ascending" (DL.top 29) ["items"] := DL.fat_mk KX G rfl rfl rfl rfl (fun _ _ _ _ _ _ us hl => match us, hl with | [_], _ => rfl)
  have a_is_name : DL.FAt _ mg "is_name" (DL.top 30) ["value"] := DL.fat_mk KX G rfl rfl rfl rfl (fun _ _ _ _ _ _ us hl => match us, hl with | [_], _ => rfl)
  have a_power : DL.FAt _ mg "power" (DL.top 31) ["base", "times"] := DL.fat_mk KX G rfl rfl rfl rfl (fun _ _ _ _ _ _ us hl => match us, hl with | [_, _], _ => rfl)
  have a_are_named : DL.FAt _ mg "are_named" (DL.top 37) ["value", "many", "places"] := DL.fat_mk KX G rfl rfl rfl rfl (fun _ _ _ _ _ _ us hl => match us, hl with | [_, _, _], _ => rfl)
  have a_is_signs : DL.FAt _ mg "is_signs" (DL.top 38) ["value"] := DL.fat_mk KX G rfl rfl rfl rfl (fun _ _ _ _ _ _ us hl => match us, hl with | [_], _ => rfl)
  have a_check_signs : DL.FAt _ mg "check_signs" (DL.top 39) ["signs"] := DL.fat_mk KX G rfl rfl rfl rfl (fun _ _ _ _ _ _ us hl => match us, hl with | [_], _ => rfl)
  have a_place_in : DL.FAt _ mg "place_in" (DL.top 40) ["rows", "name"] := DL.fat_mk KX G rfl rfl rfl rfl (fun _ _ _ _ _ _ us hl => match us, hl with | [_, _], _ => rfl)
  have a_tuples_of : DL.FAt _ mg "tuples_of" (DL.top 47) ["things", "places"] := DL.fat_mk KX G rfl rfl rfl rfl (fun _ _ _ _ _ _ us hl => match us, hl with | [_, _], _ => rfl)
  have a_place_of : DL.FAt _ mg "place_of" (DL.top 48) ["things", "row"] := DL.fat_mk KX G rfl rfl rfl rfl (fun _ _ _ _ _ _ us hl => match us, hl with | [_, _], _ => rfl)
  have a_many_cells : DL.FAt _ mg "many_cells" (DL.top 49) ["signs", "things"] := DL.fat_mk KX G rfl rfl rfl rfl (fun _ _ _ _ _ _ us hl => match us, hl with | [_, _], _ => rfl)
  have a_is_size : DL.FAt _ mg "is_size" (DL.top 50) ["value"] := DL.fat_mk KX G rfl rfl rfl rfl (fun _ _ _ _ _ _ us hl => match us, hl with | [_], _ => rfl)
  have a_check_size : DL.FAt _ mg "check_size" (DL.top 51) ["signs", "things"] := DL.fat_mk KX G rfl rfl rfl rfl (fun _ _ _ _ _ _ us hl => match us, hl with | [_, _], _ => rfl)
  have a_is_table : DL.FAt _ mg "is_table" (DL.top 52) ["things", "places", "value"] := DL.fat_mk KX G rfl rfl rfl rfl (fun _ _ _ _ _ _ us hl => match us, hl with | [_, _, _], _ => rfl)
  have a_is_column : DL.FAt _ mg "is_column" (DL.top 53) ["things", "places", "value"] := DL.fat_mk KX G rfl rfl rfl rfl (fun _ _ _ _ _ _ us hl => match us, hl with | [_, _, _], _ => rfl)
  have a_is_world_of : DL.FAt _ mg "is_world_of" (DL.top 54) ["signs", "value"] := DL.fat_mk KX G rfl rfl rfl rfl (fun _ _ _ _ _ _ us hl => match us, hl with | [_, _], _ => rfl)
  have a_check_world : DL.FAt _ mg "check_world" (DL.top 55) ["signs", "world"] := DL.fat_mk KX G rfl rfl rfl rfl (fun _ _ _ _ _ _ us hl => match us, hl with | [_, _], _ => rfl)
  have a_check_its_world : DL.FAt _ mg "check_its_world" (DL.top 56) ["signs", "world"] := DL.fat_mk KX G rfl rfl rfl rfl (fun _ _ _ _ _ _ us hl => match us, hl with | [_, _], _ => rfl)
  have a_cells_of : DL.FAt _ mg "cells_of" (DL.top 60) ["signs", "things"] := DL.fat_mk KX G rfl rfl rfl rfl (fun _ _ _ _ _ _ us hl => match us, hl with | [_, _], _ => rfl)
  have a_cells : DL.FAt _ mg "cells" (DL.top 61) ["signs", "things"] := DL.fat_mk KX G rfl rfl rfl rfl (fun _ _ _ _ _ _ us hl => match us, hl with | [_, _], _ => rfl)
  have a_numbers_of : DL.FAt _ mg "numbers_of" (DL.top 62) ["signs", "things"] := DL.fat_mk KX G rfl rfl rfl rfl (fun _ _ _ _ _ _ us hl => match us, hl with | [_, _], _ => rfl)
  have a_is_cell : DL.FAt _ mg "is_cell" (DL.top 63) ["signs", "things", "value"] := DL.fat_mk KX G rfl rfl rfl rfl (fun _ _ _ _ _ _ us hl => match us, hl with | [_, _, _], _ => rfl)
  have a_cell_number : DL.FAt _ mg "cell_number" (DL.top 64) ["signs", "things", "cell"] := DL.fat_mk KX G rfl rfl rfl rfl (fun _ _ _ _ _ _ us hl => match us, hl with | [_, _, _], _ => rfl)
  have a_is_cell_so : DL.FAt _ mg "is_cell_so" (DL.top 65) ["signs", "world", "cell"] := DL.fat_mk KX G rfl rfl rfl rfl (fun _ _ _ _ _ _ us hl => match us, hl with | [_, _, _], _ => rfl)
  have a_literals_of : DL.FAt _ mg "literals_of" (DL.top 66) ["signs", "world"] := DL.fat_mk KX G rfl rfl rfl rfl (fun _ _ _ _ _ _ us hl => match us, hl with | [_, _], _ => rfl)
  have a_cells_in : DL.FAt _ mg "cells_in" (DL.top 67) ["signs", "world"] := DL.fat_mk KX G rfl rfl rfl rfl (fun _ _ _ _ _ _ us hl => match us, hl with | [_, _], _ => rfl)
  have a_world_from : DL.FAt _ mg "world_from" (DL.top 68) ["signs", "things", "so"] := DL.fat_mk KX G rfl rfl rfl rfl (fun _ _ _ _ _ _ us hl => match us, hl with | [_, _, _], _ => rfl)
  have a_truths_of : DL.FAt _ mg "truths_of" (DL.top 69) ["signs", "things", "literals"] := DL.fat_mk KX G rfl rfl rfl rfl (fun _ _ _ _ _ _ us hl => match us, hl with | [_, _, _], _ => rfl)
  have a_are_literals : DL.FAt _ mg "are_literals" (DL.top 70) ["value", "many"] := DL.fat_mk KX G rfl rfl rfl rfl (fun _ _ _ _ _ _ us hl => match us, hl with | [_, _], _ => rfl)
  have a_world_by : DL.FAt _ mg "world_by" (DL.top 71) ["signs", "things", "literals"] := DL.fat_mk KX G rfl rfl rfl rfl (fun _ _ _ _ _ _ us hl => match us, hl with | [_, _, _], _ => rfl)
  have a__law_pot : DL.FAt _ mg "_law_pot" (DL.top 73) ["script", "place"] := DL.fat_mk KX G rfl rfl rfl rfl (fun _ _ _ _ _ _ us hl => match us, hl with | [_, _], _ => rfl)
  have a__law_take : DL.FAt _ mg "_law_take" (DL.top 74) ["pot", "upto"] := DL.fat_mk KX G rfl rfl rfl rfl (fun _ _ _ _ _ _ us hl => match us, hl with | [_, _], _ => rfl)
  have a__law_of : DL.FAt _ mg "_law_of" (DL.top 75) ["pot", "some"] := DL.fat_mk KX G rfl rfl rfl rfl (fun _ _ _ _ _ _ us hl => match us, hl with | [_, _], _ => rfl)
  have a__law_some : DL.FAt _ mg "_law_some" (DL.top 76) ["pot", "some", "many"] := DL.fat_mk KX G rfl rfl rfl rfl (fun _ _ _ _ _ _ us hl => match us, hl with | [_, _, _], _ => rfl)
  have a__law_cells : DL.FAt _ mg "_law_cells" (DL.top 77) ["script", "most"] := DL.fat_mk KX G rfl rfl rfl rfl (fun _ _ _ _ _ _ us hl => match us, hl with | [_, _], _ => rfl)
  have a__law_is_int : DL.FAt _ mg "_law_is_int" (DL.top 78) ["value", "low", "high"] := DL.fat_mk KX G rfl rfl rfl rfl (fun _ _ _ _ _ _ us hl => match us, hl with | [_, _, _], _ => rfl)
  have a__law_odd : DL.FAt _ mg "_law_odd" (DL.top 79) ["pot"] := DL.fat_mk KX G rfl rfl rfl rfl (fun _ _ _ _ _ _ us hl => match us, hl with | [_], _ => rfl)
  have a__law_bent : DL.FAt _ mg "_law_bent" (DL.top 80) ["pot", "value"] := DL.fat_mk KX G rfl rfl rfl rfl (fun _ _ _ _ _ _ us hl => match us, hl with | [_, _], _ => rfl)
  have a__law_signs : DL.FAt _ mg "_law_signs" (DL.top 82) ["pot", "many", "functions"] := DL.fat_mk KX G rfl rfl rfl rfl (fun _ _ _ _ _ _ us hl => match us, hl with | [_, _, _], _ => rfl)
  have a__law_tuples : DL.FAt _ mg "_law_tuples" (DL.top 83) ["things", "places"] := DL.fat_mk KX G rfl rfl rfl rfl (fun _ _ _ _ _ _ us hl => match us, hl with | [_, _], _ => rfl)
  have a__law_place : DL.FAt _ mg "_law_place" (DL.top 84) ["things", "row"] := DL.fat_mk KX G rfl rfl rfl rfl (fun _ _ _ _ _ _ us hl => match us, hl with | [_, _], _ => rfl)
  have a__law_world : DL.FAt _ mg "_law_world" (DL.top 85) ["pot", "signs", "things"] := DL.fat_mk KX G rfl rfl rfl rfl (fun _ _ _ _ _ _ us hl => match us, hl with | [_, _, _], _ => rfl)
  have a__law_all_cells : DL.FAt _ mg "_law_all_cells" (DL.top 86) ["signs", "things"] := DL.fat_mk KX G rfl rfl rfl rfl (fun _ _ _ _ _ _ us hl => match us, hl with | [_, _], _ => rfl)
  have a__law_so : DL.FAt _ mg "_law_so" (DL.top 87) ["signs", "world", "cell"] := DL.fat_mk KX G rfl rfl rfl rfl (fun _ _ _ _ _ _ us hl => match us, hl with | [_, _, _], _ => rfl)
  have a__law_are_literals : DL.FAt _ mg "_law_are_literals" (DL.top 88) ["value", "many"] := DL.fat_mk KX G rfl rfl rfl rfl (fun _ _ _ _ _ _ us hl => match us, hl with | [_, _], _ => rfl)
  have a__law_right := DL.fatC_mk KX G (x := "_law_right") (st := DL.top 89) (ps := ["pot"]) rfl rfl rfl rfl (fun _ _ _ _ _ _ us hl => match us, hl with | [_], _ => rfl)
  have a_law := DL.law_at KX G (x := "law") (y := "script") (st := DL.top 90) rfl rfl rfl rfl (fun _ _ _ _ _ _ _ => rfl)
  have clsg : DL.ClsG _ := DL.clsg_at KX rfl rfl
  have cau : DL.CauF _ mg "_law_caught" "SayingError" 33 := DL.cau_mk KX G rfl rfl rfl rfl rfl
  have valc : DL.ValC _ DL.caus := DL.valc3 k_BadCell k_BadValues k_NoWorld
  have cauc : DL.CauC _ mg 33 DL.caus := DL.cauc3 KX G k_BadCell k_BadValues k_NoWorld rfl rfl rfl
  have isx_BadCell : DL.IsxC _ 46 DL.isx_BadCell := DL.isx3 k_BadCell k_BadValues k_NoWorld rfl rfl rfl rfl
  have isx_BadValues : DL.IsxC _ 82 DL.isx_BadValues := DL.isx3 k_BadCell k_BadValues k_NoWorld rfl rfl rfl rfl
  have isx_NoWorld : DL.IsxC _ 106 DL.isx_NoWorld := DL.isx3 k_BadCell k_BadValues k_NoWorld rfl rfl rfl rfl
  have r_BadCell := DL.rai_mk KX G sup k_BadCell hT bnd
  have r_BadSigns := DL.rai_mk KX G sup k_BadSigns hT bnd
  have r_BadSize := DL.rai_mk KX G sup k_BadSize hT bnd
  have r_BadValues := DL.rai_mk KX G sup k_BadValues hT bnd
  have r_BadWorld := DL.rai_mk KX G sup k_BadWorld hT bnd
  have r_NoWorld := DL.rai_mk KX G sup k_NoWorld hT bnd
  have r_TooGreat := DL.rai_mk KX G sup k_TooGreat hT bnd
  obtain ⟨fl, fdl, Fl, hml, bl⟩ := a_law
  have efa : fa = fl := by have := hmg.symm.trans hml; cases this; rfl
  subst efa
  refine ⟨fdl, [(_, 415)], DL.spDT [(415, DL.lamQ)] _ w DL.F_law, ⟨fun p hp => by cases List.mem_singleton.mp hp; exact hTab, fun p hp => by cases List.mem_singleton.mp hp; rfl, fun p hp => by cases List.mem_singleton.mp hp; exact PySem.W.codeHd_of_K KX rfl⟩, bl, fun H a ns _ _ hH hz => DL.law_asks (DL.tabs1 (hH _ (List.mem_singleton.mpr rfl))) hz (DL.law_true ns), fun base kb nb hB => DL.k_law (T := { b_abs := b_abs, b_all := b_all, b_any := b_any, b_bool := b_bool, b_dict := b_dict, b_enumerate := b_enumerate, b_int := b_int, b_isinstance := b_isinstance, b_len := b_len, b_list := b_list, b_max := b_max, b_min := b_min, b_range := b_range, b_repr := b_repr, b_set := b_set, b_str := b_str, b_sum := b_sum, b_tuple := b_tuple, b_zip := b_zip, g_FIGURES := g_FIGURES, g_FOUR := g_FOUR, g_IS := g_IS, g_LETTERS := g_LETTERS, g_MOST_ARGUMENTS := g_MOST_ARGUMENTS, g_MOST_CELLS := g_MOST_CELLS, g_MOST_FUNCTIONS := g_MOST_FUNCTIONS, g_MOST_PLACES := g_MOST_PLACES, g_MOST_RELATIONS := g_MOST_RELATIONS, g_MOST_SIGNS := g_MOST_SIGNS, g_MOST_THINGS := g_MOST_THINGS, g_OF := g_OF, g_RULING := g_RULING, g_THREE_cells := g_THREE_cells, g_THREE_worlds := g_THREE_worlds, a_is_integer := a_is_integer, a_is_between := a_is_between, a_are_between := a_are_between, a_is_ascending := a_is_ascending, a_is_name := a_is_name, a_power := a_power, a_are_named := a_are_named, a_is_signs := a_is_signs, a_check_signs := a_check_signs, a_place_in := a_place_in, a_tuples_of := a_tuples_of, a_place_of := a_place_of, a_many_cells := a_many_cells, a_is_size := a_is_size, a_check_size := a_check_size, a_is_table := a_is_table, a_is_column := a_is_column, a_is_world_of := a_is_world_of, a_check_world := a_check_world, a_check_its_world := a_check_its_world, a_cells_of := a_cells_of, a_cells := a_cells, a_numbers_of := a_numbers_of, a_is_cell := a_is_cell, a_cell_number := a_cell_number, a_is_cell_so := a_is_cell_so, a_literals_of := a_literals_of, a_cells_in := a_cells_in, a_world_from := a_world_from, a_truths_of := a_truths_of, a_are_literals := a_are_literals, a_world_by := a_world_by, a__law_pot := a__law_pot, a__law_take := a__law_take, a__law_of := a__law_of, a__law_some := a__law_some, a__law_cells := a__law_cells, a__law_is_int := a__law_is_int, a__law_odd := a__law_odd, a__law_bent := a__law_bent, a__law_signs := a__law_signs, a__law_tuples := a__law_tuples, a__law_place := a__law_place, a__law_world := a__law_world, a__law_all_cells := a__law_all_cells, a__law_so := a__law_so, a__law_are_literals := a__law_are_literals, c_SayingError := 33, f_ini := 30, q_ini := q, d_ini := fi, c_BadCell := 46, c_BadSigns := 58, c_BadSize := 70, c_BadValues := 82, c_BadWorld := 94, c_NoWorld := 106, c_TooGreat := 118, r_BadCell := r_BadCell, r_BadSigns := r_BadSigns, r_BadSize := r_BadSize, r_BadValues := r_BadValues, r_BadWorld := r_BadWorld, r_NoWorld := r_NoWorld, r_TooGreat := r_TooGreat, m_BadCell := PySem.W.mg_of KX G k_BadCell.ns, isx_BadCell := isx_BadCell, m_BadValues := PySem.W.mg_of KX G k_BadValues.ns, isx_BadValues := isx_BadValues, m_NoWorld := PySem.W.mg_of KX G k_NoWorld.ns, isx_NoWorld := isx_NoWorld, clsg := clsg, valc := valc, cauc := cauc, cau := cau, lamC := _, lamP := 415, tabB := hB _ (List.mem_singleton.mpr rfl), a__law_right := a__law_right }) Fl⟩
#print axioms PySem.Challenge.cw_nosuchthings_k09_whole_cells_and_their_n_holds
