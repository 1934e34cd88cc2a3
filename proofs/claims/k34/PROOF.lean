import PyProof.Rows.All
import Wide.All
import OpenK.AllK
import Wide.FinOn
import HandS.ForMost
import HandS.Deep
import HandS.TupAny
import HandS.IsInst
import HandS.Conv
import HandS.Style
import HandS.Walk
import HandS.DictComp
import HandS.TupSets
import KE.KDictKeyed
import KE.SortData
import KE.GoesEnum
import KE.KDictCopyH
import HandS.Star
import KE.KStateDown
import HandS.Base
import HandS.Call
import HandS.Ends
import HandS.More
import HandS.Words
import HandS.WordsExc
import HandS.Defaults
import HandS.Head0
import HandS.Head1
import HandS.Head2
import HandS.HeadEnd
import HandS.HeadHook1
import HandS.HeadHook2
import PySem.Challenge.RW_allcalls_k34_whole_askers_and_answerers
-- part A1
set_option maxHeartbeats 4000000
set_option Elab.async false
set_option maxRecDepth 100000
set_option linter.all false
/-! Ac, part 1: weakest readings; data in a region of the abstract heap; owned slots. -/
namespace Ac
open PySem PySem.Spec PyProof.Rows L2

/-! ### weakest readings -/
/-- what must hold ahead of e so that Q holds of its value -/
def WE (X : Cx) (e : Expr) : TE := fun st H Q => ∀ (pins : List (Addr × Obj)) (s : Shared), Inv X pins st H s → wpAny (model X.prog X.w) X.A (eval e X.env) (EP X pins st Q) X.xe s
def WA (X : Cx) (es : List Expr) : TA := fun st H Q => ∀ (pos : Pos) (pins : List (Addr × Obj)) (s : Shared), Inv X pins st H s → wpAny (model X.prog X.w) X.A (spliced (backTo pos (starEach es X.env))) (AP X pins st Q) X.xe s
def WT (X : Cx) (e : Expr) : TT := fun st H Q => ∀ (pins : List (Addr × Obj)) (s : Shared), Inv X pins st H s → wpAny (model X.prog X.w) X.A (isTrue e X.env (eval e X.env)) (TP X pins st Q) X.xe s
def WS (X : Cx) (ss : List Stmt) : TS := fun D st H => ∀ (pins : List (Addr × Obj)) (s : Shared), Inv X pins st H s → wpAny (model X.prog X.w) X.A (execs ss X.env) (SP X pins D) X.xe s
def W1 (X : Cx) (ss : Stmt) : TS := fun D st H => ∀ (pins : List (Addr × Obj)) (s : Shared), Inv X pins st H s → wpAny (model X.prog X.w) X.A (exec ss X.env) (SP X pins D) X.xe s
def WI (X : Cx) (tg it : Expr) : TI := fun st H R => ∀ (pins : List (Addr × Obj)) (s : Shared), Inv X pins st H s →
  wpAny (model X.prog X.w) X.A (eval it X.env) (fun v s1 => wpAny (model X.prog X.w) X.A (pyIter v) (PIE X pins st tg R) X.xe s1) X.xe s
theorem peW {X : Cx} (e : Expr) : PE X e (WE X e) := ⟨fun pins s _ _ _ I h => h pins s I⟩
theorem paW {X : Cx} (es : List Expr) : PA X es (WA X es) := ⟨fun pos pins s _ _ _ I h => h pos pins s I⟩
theorem ptW {X : Cx} (e : Expr) : PT X e (WT X e) := ⟨fun pins s _ _ _ I h => h pins s I⟩
theorem pssW {X : Cx} (ss : List Stmt) : PSs X ss (WS X ss) := ⟨fun pins s _ _ _ I h => h pins s I⟩
theorem psW {X : Cx} (ss : Stmt) : PS X ss (W1 X ss) := ⟨fun pins s _ _ _ I h => h pins s I⟩
theorem piW {X : Cx} (tg it : Expr) : PI X tg it (WI X tg it) := ⟨fun pins s _ _ _ I h => h pins s I⟩
section
variable {X : Cx} {e tg it : Expr} {es : List Expr} {ss : List Stmt} {t1 : Stmt} {st : L2.St} {H : Hp}
theorem we_of {te : TE} {Q : VK} (h : PE X e te) (q : te st H Q) : WE X e st H Q := fun pins s I => h.run pins s st H Q I q
theorem wa_of {ta : TA} {Q : List V → Hp → Prop} (h : PA X es ta) (q : ta st H Q) : WA X es st H Q := fun pos pins s I => h.run pos pins s st H Q I q
theorem wt_of {tt : TT} {Q : Bool → Hp → Prop} (h : PT X e tt) (q : tt st H Q) : WT X e st H Q := fun pins s I => h.run pins s st H Q I q
theorem ws_of {ts : TS} {D : Ends} (h : PSs X ss ts) (q : ts D st H) : WS X ss D st H := fun pins s I => h.run pins s st H D I q
theorem w1_of {ts : TS} {D : Ends} (h : PS X t1 ts) (q : ts D st H) : W1 X t1 D st H := fun pins s I => h.run pins s st H D I q
theorem wi_of {ti : TI} {R : It → Hp → Prop} (h : PI X tg it ti) (q : ti st H R) : WI X tg it st H R := fun pins s I => h.run pins s st H R I q
theorem WE.mono {Q Q' : VK} (h : WE X e st H Q) (hq : ∀ v H', Q v H' → Q' v H') : WE X e st H Q' := fun pins s I =>
  thn (h pins s I) fun _ _ ⟨v, H', I', r, q⟩ => ⟨v, H', I', r, hq _ _ q⟩
theorem WA.mono {Q Q' : List V → Hp → Prop} (h : WA X es st H Q) (hq : ∀ v H', Q v H' → Q' v H') : WA X es st H Q' := fun pos pins s I =>
  thn (h pos pins s I) fun _ _ ⟨v, H', I', r, q⟩ => ⟨v, H', I', r, hq _ _ q⟩
theorem WT.mono {Q Q' : Bool → Hp → Prop} (h : WT X e st H Q) (hq : ∀ v H', Q v H' → Q' v H') : WT X e st H Q' := fun pins s I =>
  thn (h pins s I) fun _ _ ⟨H', I', q⟩ => ⟨H', I', hq _ _ q⟩
theorem WI.mono {Q Q' : It → Hp → Prop} (h : WI X tg it st H Q) (hq : ∀ v H', Q v H' → Q' v H') : WI X tg it st H Q' := fun pins s I =>
  thn (h pins s I) fun _ _ h1 => thn h1 fun _ _ ⟨i, fp, tn, J, H', e, I', T, t0, f, q⟩ => ⟨i, fp, tn, J, H', e, I', T, t0, f, hq _ _ q⟩
theorem sp_mono {pins : List (Addr × Obj)} {D D' : Ends} {f : Flow} {s' : Shared} (h : SP X pins D f s') (h1 : ∀ a b, D.nx a b → D'.nx a b) (h2 : ∀ a b, D.rt a b → D'.rt a b)
    (h3 : ∀ a b, D.bk a b → D'.bk a b) (h4 : ∀ a b, D.ct a b → D'.ct a b) : SP X pins D' f s' := by
  cases f with
  | next => obtain ⟨a, b, I, q⟩ := h; exact ⟨a, b, I, h1 _ _ q⟩
  | brk => obtain ⟨a, b, I, q⟩ := h; exact ⟨a, b, I, h3 _ _ q⟩
  | cont => obtain ⟨a, b, I, q⟩ := h; exact ⟨a, b, I, h4 _ _ q⟩
  | ret u => obtain ⟨v, a, b, I, r, q⟩ := h; exact ⟨v, a, b, I, r, h2 _ _ q⟩
theorem WS.mono {D D' : Ends} (h : WS X ss D st H) (h1 : ∀ a b, D.nx a b → D'.nx a b) (h2 : ∀ a b, D.rt a b → D'.rt a b)
    (h3 : ∀ a b, D.bk a b → D'.bk a b) (h4 : ∀ a b, D.ct a b → D'.ct a b) : WS X ss D' st H := fun pins s I => thn (h pins s I) fun _ _ q => sp_mono q h1 h2 h3 h4
theorem W1.mono {D D' : Ends} (h : W1 X t1 D st H) (h1 : ∀ a b, D.nx a b → D'.nx a b) (h2 : ∀ a b, D.rt a b → D'.rt a b)
    (h3 : ∀ a b, D.bk a b → D'.bk a b) (h4 : ∀ a b, D.ct a b → D'.ct a b) : W1 X t1 D' st H := fun pins s I => thn (h pins s I) fun _ _ q => sp_mono q h1 h2 h3 h4
end

/-! ### data in a heap grows with it -/
theorem sqL_mono {K : PySem.W.Frag} {H H' : Hp} {a : Addr} {xs : List V} (e : Same H H') (h : SqL K H a xs) : SqL K H' a xs := e.seq h
theorem sqT_mono {K : PySem.W.Frag} {H H' : Hp} {a : Addr} {xs : List V} (e : Same H H') (h : SqT K H a xs) : SqT K H' a xs := by
  rcases h with (h | ⟨o, h⟩) | h
  · exact .inl (.inl (e _ _ h))
  · exact .inl (.inr ⟨o, e _ _ h⟩)
  · exact .inr h
mutual
theorem dp_mono {K : PySem.W.Frag} {H H' : Hp} (e : Same H H') : ∀ (d : PyData) (v : V), Dp K H v d → Dp K H' v d
  | .none, _, h => by cases h; exact .non
  | .bool b, _, h => by cases h; exact .bl b
  | .int i, _, h => by cases h; exact .int i
  | .str x, _, h => by cases h; exact .str x
  | .list ds, _, h => by cases h with | lst hs ha => exact .lst (sqL_mono e hs) (dpa_mono e ds _ ha)
  | .tuple ds, _, h => by cases h with | tup hs ha => exact .tup (sqT_mono e hs) (dpa_mono e ds _ ha)
  | .dict _, _, h => by cases h
theorem dpa_mono {K : PySem.W.Frag} {H H' : Hp} (e : Same H H') : ∀ (ds : List PyData) (vs : List V), DpAll K H vs ds → DpAll K H' vs ds
  | [], _, h => by cases h; exact .nil
  | d :: ds, _, h => by cases h with | cons h1 h2 => exact .cons (dp_mono e d _ h1) (dpa_mono e ds _ h2)
end
theorem _root_.L2.Dp.up {K : PySem.W.Frag} {H H' : Hp} {v : V} {d : PyData} (h : Dp K H v d) (e : Same H H') : Dp K H' v d := dp_mono e d v h
theorem _root_.L2.DpAll.up {K : PySem.W.Frag} {H H' : Hp} {v : List V} {d : List PyData} (h : DpAll K H v d) (e : Same H H') : DpAll K H' v d := dpa_mono e d v h
section
variable {K : PySem.W.Frag} {H : Hp}
theorem dpa_len : ∀ {vs : List V} {ds : List PyData}, DpAll K H vs ds → vs.length = ds.length
  | _, _, .nil => rfl
  | _, _, .cons _ t => by rw [List.length_cons, List.length_cons, dpa_len t]
theorem dpa_get : ∀ {vs : List V} {ds : List PyData} {i : Nat} {d : PyData}, DpAll K H vs ds → ds[i]? = some d → ∃ v, vs[i]? = some v ∧ Dp K H v d
  | _, _, _, _, .nil, e => by simp at e
  | _, _, 0, _, .cons h _, e => by simp at e; subst e; exact ⟨_, rfl, h⟩
  | _, _, i + 1, _, .cons _ t, e => by
    obtain ⟨v, h1, h2⟩ := dpa_get (i := i) t (by simpa using e)
    exact ⟨v, by simpa using h1, h2⟩
theorem dpa_app : ∀ {vs ws : List V} {ds es : List PyData}, DpAll K H vs ds → DpAll K H ws es → DpAll K H (vs ++ ws) (ds ++ es)
  | _, _, _, _, .nil, h => h
  | _, _, _, _, .cons a t, h => .cons a (dpa_app t h)
theorem dpa_one {v : V} {d : PyData} (h : Dp K H v d) : DpAll K H [v] [d] := .cons h .nil
theorem dpa_snoc {vs : List V} {ds : List PyData} {v : V} {d : PyData} (h : DpAll K H vs ds) (h1 : Dp K H v d) : DpAll K H (vs ++ [v]) (ds ++ [d]) := dpa_app h (dpa_one h1)
theorem dpa_take : ∀ {vs : List V} {ds : List PyData} (n : Nat), DpAll K H vs ds → DpAll K H (vs.take n) (ds.take n)
  | _, _, 0, _ => .nil
  | _, _, _ + 1, .nil => .nil
  | _, _, n + 1, .cons a t => .cons a (dpa_take n t)
theorem dpa_drop : ∀ {vs : List V} {ds : List PyData} (n : Nat), DpAll K H vs ds → DpAll K H (vs.drop n) (ds.drop n)
  | _, _, 0, h => h
  | _, _, _ + 1, .nil => .nil
  | _, _, n + 1, .cons _ t => dpa_drop n t
theorem dpa_erase : ∀ {vs : List V} {ds : List PyData} (n : Nat), DpAll K H vs ds → DpAll K H (vs.eraseIdx n) (ds.eraseIdx n)
  | _, _, _, .nil => .nil
  | _, _, 0, .cons _ t => t
  | _, _, n + 1, .cons a t => .cons a (dpa_erase n t)
theorem dpa_dropLast {vs : List V} {ds : List PyData} (h : DpAll K H vs ds) : DpAll K H vs.dropLast ds.dropLast := by
  rw [List.dropLast_eq_take, List.dropLast_eq_take, dpa_len h]
  exact dpa_take _ h
/-- the items by places -/
theorem dpa_of : ∀ {vs : List V} {ds : List PyData}, vs.length = ds.length → (∀ (i : Nat) (v : V) (d : PyData), vs[i]? = some v → ds[i]? = some d → Dp K H v d) → DpAll K H vs ds
  | [], [], _, _ => .nil
  | [], _ :: _, h, _ => by simp at h
  | _ :: _, [], h, _ => by simp at h
  | v :: vs, d :: ds, h, f => .cons (f 0 v d rfl rfl) (dpa_of (by simpa using h) fun i v d h1 h2 => f (i + 1) v d (by simpa using h1) (by simpa using h2))
end

/-! ### a dict whose keys are nested tuples: its object is told; what its keys and values stand for is told beside -/
def DicO (a : Addr) (o : Obj) : HO := .ext fun h => h.get? a = some o
theorem DicO.obj {P : Program} {w : World} {H : Hp} {h : Heap} {a b : Addr} {o : Obj} (x : ObjOk P w H h b (DicO a o)) : h.get? a = some o := x.1
/-- an entry: its key's tuple at b, its value v -/
def EntI (w : World) (K : PySem.W.Frag) (G : Hp) (kv : NestedKey × PyData) (e : DictEntry) : Prop :=
  ∃ (b : Addr) (v : V), e.key = .ref b ∧ e.hash = kv.1.hash w ∧ kv.1.depth ≤ 8 ∧ Dp K G (.ref b) kv.1.data ∧ RelV v e.val ∧ Dp K G v kv.2
structure Ent (w : World) (K : PySem.W.Frag) (G : Hp) (o : Obj) (kvs : List (NestedKey × PyData)) : Prop where
  ex : o.ExactDict
  nd : (kvs.map (·.1)).Nodup
  sz : kvs.length ≤ 100000
  es : ∃ es ep, o.data = .dict es ep ∧ Paired (EntI w K G) kvs es.toList
theorem EntI.up {w : World} {K : PySem.W.Frag} {G G' : Hp} {kv : NestedKey × PyData} {e : DictEntry} (h : EntI w K G kv e) (s : Same G G') : EntI w K G' kv e :=
  let ⟨b, v, h1, h2, h3, h5, h6, h7⟩ := h; ⟨b, v, h1, h2, h3, h5.up s, h6, h7.up s⟩
theorem Ent.up {w : World} {K : PySem.W.Frag} {G G' : Hp} {o : Obj} {kvs : List (NestedKey × PyData)} (h : Ent w K G o kvs) (s : Same G G') : Ent w K G' o kvs :=
  ⟨h.ex, h.nd, h.sz, let ⟨es, ep, h1, h2⟩ := h.es; ⟨es, ep, h1, Paired.mapP h2 fun _ _ x => x.up s⟩⟩

/-! ### values -/
inductive T where
  /-- data -/
  | p (d : PyData)
  | dic (kvs : List (NestedKey × PyData))
  /-- a Box -/
  | box (s t : Int) (w : PyData)
  /-- the law's own dicts with text keys -/
  | scope (s t : Int) (w : PyData)
  | table (s t : Int) (w tops : PyData) (most : Int) (stands : PyData)
  /-- an address, whatever stands there -/
  | adr (a : Addr)
def boxF (s t : Int) (v : V) : List (Str × V) := [("sides", .int s), ("tracks", .int t), ("switches", v)]
def scopeK (s t : Int) (v : V) : List (Key × V) := [(.inr "sides", .int s), (.inr "many", .int t), (.inr "joined", v)]
def tableK (sc tops : V) (most : Int) (stands : V) : List (Key × V) := [(.inr "scope", sc), (.inr "tops", tops), (.inr "most", .int most), (.inr "stands", stands)]
/-- the value v stands for t, in the region G -/
def RT (w : World) (K : PySem.W.Frag) (mg : Str → Option Value) (G : Hp) (v : V) : T → Prop
  | .p d => Dp K G v d
  | .dic kvs => ∃ a o, v = .ref a ∧ (a == sysModules) = false ∧ G a = some (DicO a o) ∧ Ent w K G o kvs
  | .box s t d => ∃ a C dx u, v = .ref a ∧ mg "Box" = some (.ref C) ∧ G a = some (.ins C dx (boxF s t u)) ∧ Dp K G u d
  | .scope s t d => ∃ a u, v = .ref a ∧ G a = some (.dK (scopeK s t u)) ∧ Dp K G u d
  | .table s t d tops most stands => ∃ a b u ut us, v = .ref a ∧ G b = some (.dK (scopeK s t u)) ∧ Dp K G u d ∧ G a = some (.dK (tableK (.ref b) ut most us)) ∧ Dp K G ut tops ∧ Dp K G us stands
  | .adr a => v = .ref a
theorem RT.up {w : World} {K : PySem.W.Frag} {mg : Str → Option Value} {G G' : Hp} {v : V} {t : T} (h : RT w K mg G v t) (s : Same G G') : RT w K mg G' v t := by
  cases t with
  | p d => exact dp_mono s d v h
  | dic kvs => obtain ⟨a, o, h1, h2, h3, h4⟩ := h; exact ⟨a, o, h1, h2, s _ _ h3, h4.up s⟩
  | box a b d => obtain ⟨a, C, dx, u, h1, h2, h3, h4⟩ := h; exact ⟨a, C, dx, u, h1, h2, s _ _ h3, h4.up s⟩
  | scope a b d => obtain ⟨a, u, h1, h3, h4⟩ := h; exact ⟨a, u, h1, s _ _ h3, h4.up s⟩
  | table a b d _ _ _ => obtain ⟨a, b, u, ut, us, h1, h2, h3, h4, h5, h6⟩ := h; exact ⟨a, b, u, ut, us, h1, s _ _ h2, h3.up s, s _ _ h4, h5.up s, h6.up s⟩
  | adr a => exact h
/-- .. where the value's own list or dict may stand in the whole heap H (an owned slot's) -/
def RB (w : World) (K : PySem.W.Frag) (mg : Str → Option Value) (G H : Hp) (v : V) : T → Prop
  | .p (.list ds) => ∃ a vs, v = .ref a ∧ SqL K H a vs ∧ DpAll K G vs ds
  | .dic kvs => ∃ a o, v = .ref a ∧ (a == sysModules) = false ∧ H a = some (DicO a o) ∧ Ent w K G o kvs
  | t => RT w K mg G v t
theorem RT.b {w : World} {K : PySem.W.Frag} {mg : Str → Option Value} {G H : Hp} {v : V} {t : T} (h : RT w K mg G v t) (s : Same G H) : RB w K mg G H v t := by
  cases t with
  | p d =>
    cases d with
    | list ds => cases h with | lst hs ha => exact ⟨_, _, rfl, sqL_mono s hs, ha⟩
    | _ => exact h
  | dic kvs => obtain ⟨a, o, h1, h2, h3, h4⟩ := h; exact ⟨a, o, h1, h2, s _ _ h3, h4⟩
  | _ => exact h
theorem RB.up {w : World} {K : PySem.W.Frag} {mg : Str → Option Value} {G H G' H' : Hp} {v : V} {t : T} (h : RB w K mg G H v t) (s : Same G G') (s' : Same H H') : RB w K mg G' H' v t := by
  cases t with
  | p d =>
    cases d with
    | list ds => obtain ⟨a, vs, h1, h2, h3⟩ := h; exact ⟨a, vs, h1, sqL_mono s' h2, h3.up s⟩
    | _ => exact RT.up (w := w) (K := K) (mg := mg) (t := .p _) h s
  | dic kvs => obtain ⟨a, o, h1, h2, h3, h4⟩ := h; exact ⟨a, o, h1, h2, s' _ _ h3, h4.up s⟩
  | box _ _ _ => exact RT.up (w := w) (K := K) (mg := mg) (t := .box _ _ _) h s
  | scope _ _ _ => exact RT.up (w := w) (K := K) (mg := mg) (t := .scope _ _ _) h s
  | table _ _ _ _ _ _ => exact RT.up (w := w) (K := K) (mg := mg) (t := .table _ _ _ _ _ _) h s
  | adr _ => exact h
/-- plain data, wherever its own list stands -/
theorem RB.dp {w : World} {K : PySem.W.Frag} {mg : Str → Option Value} {G H : Hp} {v : V} {d : PyData} (h : RB w K mg G H v (.p d)) (s : Same G H) : Dp K H v d := by
  cases d with
  | list ds => obtain ⟨a, vs, rfl, h2, h3⟩ := h; exact .lst h2 (h3.up s)
  | _ => exact Dp.up (show Dp K G v _ from h) s
end Ac
-- part A2
set_option maxHeartbeats 4000000
set_option Elab.async false
set_option maxRecDepth 100000
set_option linter.all false
/-! Ac, part 2: slots, the state of a def's body told by data. -/
namespace Ac
open PySem PySem.Spec PyProof.Rows L2
open Classical in
/-- the heap without what the slots own and what is foreign -/
noncomputable def reg (own : Nat → List Addr) (F : Addr → Prop) (H : Hp) : Hp := fun a => if (∃ i, a ∈ own i) ∨ F a then none else H a
theorem reg_in {own : Nat → List Addr} {F : Addr → Prop} {H : Hp} {a : Addr} (h1 : ∀ i, a ∉ own i) (h2 : ¬ F a) : reg own F H a = H a := by
  unfold reg
  rw [if_neg (fun h => h.elim (fun ⟨i, q⟩ => h1 i q) h2)]
theorem reg_some {own : Nat → List Addr} {F : Addr → Prop} {H : Hp} {a : Addr} {o : HO} (h : reg own F H a = some o) : H a = some o ∧ (∀ i, a ∉ own i) ∧ ¬ F a := by
  unfold reg at h
  split at h
  · cases h
  · rename_i q
    exact ⟨h, fun i z => q (.inl ⟨i, z⟩), fun z => q (.inr z)⟩
theorem reg_sub {own : Nat → List Addr} {F : Addr → Prop} {H : Hp} : Same (reg own F H) H := fun _ _ e => (reg_some e).1
theorem reg_mono {own own' : Nat → List Addr} {F F' : Addr → Prop} {H H' : Hp} (s : ∀ a o, (∀ i, a ∉ own i) → ¬ F a → H a = some o → H' a = some o ∧ (∀ i, a ∉ own' i) ∧ ¬ F' a) : Same (reg own F H) (reg own' F' H') := fun a o e => by
  obtain ⟨h1, h2, h3⟩ := reg_some e
  obtain ⟨k1, k2, k3⟩ := s a o h2 h3 h1
  rw [reg_in k2 k3]
  exact k1
theorem reg_up {own : Nat → List Addr} {F : Addr → Prop} {H H' : Hp} (s : Same H H') : Same (reg own F H) (reg own F H') := reg_mono fun a o h1 h2 h3 => ⟨s a o h3, h1, h2⟩
def own0 : Nat → List Addr := fun _ => []
theorem reg0_none {H : Hp} {own : Nat → List Addr} (h : ∀ i, own i = []) : reg own (fun _ => False) H = H := by
  funext a
  exact reg_in (fun i => by rw [h i]; simp) (fun h => h)

/-- the state of the law's source of draws: at s the dict, at L the list of large numbers; at most n draws were made -/
def stK (L c : Addr) (left turn : Int) : List (Key × V) := [(.inr "large", .ref L), (.inr "cells", .ref c), (.inr "left", .int left), (.inr "turn", .int turn)]
structure StAt (K : PySem.W.Frag) (G H : Hp) (s L : Addr) (n : Nat) : Prop where
  ne : s ≠ L
  ex : ∃ (c : Addr) (large cells : List Int) (left turn : Int), H s = some (.dK (stK L c left turn)) ∧ H L = some (.lst (large.map V.int)) ∧ SqL K G c (cells.map V.int) ∧
    (∀ x ∈ large, 0 ≤ x) ∧ 0 ≤ left ∧ 0 ≤ turn ∧ turn ≤ n ∧ cells.length ≤ 63 ∧ ∀ x ∈ cells, 0 ≤ x

/-- a dict whose values are lists that nobody else knows: an entry; the dict at its address; the lists -/
def EntL (w : World) (K : PySem.W.Frag) (G : Hp) (x : NestedKey × Addr × List PyData) (e : DictEntry) : Prop := ∃ b : Addr, e.key = .ref b ∧ e.hash = x.1.hash w ∧ x.1.depth ≤ 8 ∧ Dp K G (.ref b) x.1.data ∧ e.val = .ref x.2.1
structure EntLs (w : World) (K : PySem.W.Frag) (G : Hp) (o : Obj) (kas : List (NestedKey × Addr × List PyData)) : Prop where
  ex : o.ExactDict
  nd : (kas.map (·.1)).Nodup
  sz : kas.length ≤ 100000
  es : ∃ es ep, o.data = .dict es ep ∧ Paired (EntL w K G) kas es.toList
structure DlsAt (w : World) (K : PySem.W.Frag) (G H : Hp) (p : Addr) (kas : List (NestedKey × Addr × List PyData)) : Prop where
  ns : (p == sysModules) = false
  nd : (p :: kas.map (·.2.1)).Nodup
  dic : ∃ o, H p = some (DicO p o) ∧ EntLs w K G o kas
  ls : ∀ x ∈ kas, ∃ vs, H x.2.1 = some (.lst vs) ∧ DpAll K G vs x.2.2
theorem EntLs.up {w : World} {K : PySem.W.Frag} {G G' : Hp} {o : Obj} {kas : List (NestedKey × Addr × List PyData)} (h : EntLs w K G o kas) (s : Same G G') : EntLs w K G' o kas :=
  ⟨h.ex, h.nd, h.sz, let ⟨es, ep, h1, h2⟩ := h.es; ⟨es, ep, h1, Paired.mapP h2 fun _ _ ⟨b, e1, e2, e3, e4, e5⟩ => ⟨b, e1, e2, e3, e4.up s, e5⟩⟩⟩
theorem DlsAt.up {w : World} {K : PySem.W.Frag} {G H G' H' : Hp} {p : Addr} {kas : List (NestedKey × Addr × List PyData)} (h : DlsAt w K G H p kas) (s : Same G G') (e : ∀ a o, a ∈ p :: kas.map (·.2.1) → H a = some o → H' a = some o) : DlsAt w K G' H' p kas :=
  ⟨h.ns, h.nd, let ⟨o, h1, h2⟩ := h.dic; ⟨o, e _ _ List.mem_cons_self h1, h2.up s⟩, fun x hx => let ⟨vs, h1, h2⟩ := h.ls x hx; ⟨vs, e _ _ (List.mem_cons_of_mem _ (List.mem_map.mpr ⟨x, hx, rfl⟩)) h1, h2.up s⟩⟩
/-- what a slot holds -/
inductive Sl where
  /-- nothing that is known -/
  | no
  /-- a value that stands in the region -/
  | t (t : T)
  /-- a list of data, the slot's own -/
  | ol (ds : List PyData)
  /-- a dict, the slot's own -/
  | od (kvs : List (NestedKey × PyData))
  /-- a dict of lists, all the slot's own -/
  | dls (kvs : List (NestedKey × List PyData))
  /-- the source of draws -/
  | st (s L : Addr) (n : Nat)
section
variable (w : World) (K : PySem.W.Frag) (mg : Str → Option Value) (G H : Hp)
def SlOk (x : Option V) : Sl → List Addr → Prop
  | .no, l => l = []
  | .t t, l => l = [] ∧ ∃ v, x = some v ∧ RT w K mg G v t
  | .ol ds, l => ∃ p vs, l = [p] ∧ x = some (.ref p) ∧ H p = some (.lst vs) ∧ DpAll K G vs ds
  | .od kvs, l => ∃ p o, l = [p] ∧ x = some (.ref p) ∧ (p == sysModules) = false ∧ H p = some (DicO p o) ∧ Ent w K G o kvs
  | .dls kvs, l => ∃ p kas, l = p :: kas.map (·.2.1) ∧ x = some (.ref p) ∧ kas.map (fun y => (y.1, y.2.2)) = kvs ∧ DlsAt w K G H p kas
  | .st s L n, l => l = [s, L] ∧ x = some (.ref s) ∧ StAt K G H s L n
end
theorem SlOk.up {w : World} {K : PySem.W.Frag} {mg : Str → Option Value} {G H G' H' : Hp} {x : Option V} {s : Sl} {l : List Addr} (h : SlOk w K mg G H x s l) (e : Same G G') (e' : ∀ a o, a ∈ l → H a = some o → H' a = some o) : SlOk w K mg G' H' x s l := by
  cases s with
  | no => exact h
  | t t => obtain ⟨h1, v, h2, h3⟩ := h; exact ⟨h1, v, h2, h3.up e⟩
  | ol ds => obtain ⟨p, vs, rfl, h2, h3, h4⟩ := h; exact ⟨p, vs, rfl, h2, e' _ _ (by simp) h3, h4.up e⟩
  | od ds => obtain ⟨p, o, rfl, h2, h5, h3, h4⟩ := h; exact ⟨p, o, rfl, h2, h5, e' _ _ (by simp) h3, h4.up e⟩
  | dls ds => obtain ⟨p, kas, rfl, h2, h3, h4⟩ := h; exact ⟨p, kas, rfl, h2, h3, h4.up e e'⟩
  | st s L n =>
    obtain ⟨rfl, h2, ⟨h0, c, la, ce, le, tu, h3, h4, h5, h6⟩⟩ := h
    exact ⟨rfl, h2, h0, c, la, ce, le, tu, e' _ _ (by simp) h3, e' _ _ (by simp) h4, sqL_mono e h5, h6⟩
theorem SlOk.there {w : World} {K : PySem.W.Frag} {mg : Str → Option Value} {G H : Hp} {x : Option V} {s : Sl} {l : List Addr} (h : SlOk w K mg G H x s l) {a : Addr} (ha : a ∈ l) : H a ≠ none := by
  cases s with
  | no => subst h; simp at ha
  | t t => obtain ⟨rfl, _⟩ := h; simp at ha
  | ol ds => obtain ⟨p, vs, rfl, h2, h3, h4⟩ := h; simp at ha; subst ha; rw [h3]; simp
  | od ds => obtain ⟨p, o, rfl, h2, h5, h3, h4⟩ := h; simp at ha; subst ha; rw [h3]; simp
  | dls ds =>
    obtain ⟨p, kas, rfl, h2, h3, h4⟩ := h
    rcases List.mem_cons.mp ha with rfl | ha
    · obtain ⟨o, h5, _⟩ := h4.dic; rw [h5]; simp
    · obtain ⟨x, hx, rfl⟩ := List.mem_map.mp ha
      obtain ⟨vs, h5, _⟩ := h4.ls x hx
      rw [h5]; simp
  | st s L n =>
    obtain ⟨rfl, h2, ⟨h0, c, la, ce, le, tu, h3, h4, h5, h6⟩⟩ := h
    simp at ha
    rcases ha with rfl | rfl
    · rw [h3]; simp
    · rw [h4]; simp

/-- THE STATE: kept: what stood at the entry and is left as it is; foreign: what this body may not name; own: what each slot owns -/
structure SE (X : Cx) (Kp : Hp) (F : Addr → Prop) (dl : List Sl) (own : Nat → List Addr) (H : Hp) (st : L2.St) : Prop where
  kp : Same Kp H
  fr : ∀ i a, a ∈ own i → Kp a = none
  fn : ∀ a, F a → H a ≠ none
  nf : ∀ i a, a ∈ own i → ¬ F a
  dis : ∀ i j a, a ∈ own i → a ∈ own j → i = j
  sl : ∀ i, SlOk X.w X.K X.mg (reg own F H) H (st.getD i none) (dl.getD i .no) (own i)
section
variable {X : Cx} {Kp : Hp} {F : Addr → Prop} {dl : List Sl} {own : Nat → List Addr} {H H' : Hp} {st : L2.St}
theorem SE.there (S : SE X Kp F dl own H st) {i : Nat} {a : Addr} (h : a ∈ own i) : H a ≠ none := (S.sl i).there h
/-- the heap grows -/
theorem SE.grow (S : SE X Kp F dl own H st) (e : Same H H') : SE X Kp F dl own H' st where
  kp := S.kp.trans e
  fr := S.fr
  fn := fun a h => by
    cases q : H a with
    | none => exact absurd q (S.fn a h)
    | some o => rw [e a o q]; simp
  nf := S.nf
  dis := S.dis
  sl := fun i => (S.sl i).up (reg_up e) fun a o _ q => e a o q
theorem SE.fresh (S : SE X Kp F dl own H st) {p : Addr} (h : H p = none) : (∀ i, p ∉ own i) ∧ ¬ F p := ⟨fun _ z => S.there z h, fun z => S.fn p z h⟩
theorem SE.reg_at (S : SE X Kp F dl own H st) {p : Addr} (h : H p = none) (H' : Hp) : reg own F H' p = H' p := reg_in (S.fresh h).1 (S.fresh h).2
theorem SE.get (S : SE X Kp F dl own H st) {i : Nat} {t : T} (h : dl.getD i .no = .t t) : ∃ v, st[i]? = some (some v) ∧ RT X.w X.K X.mg (reg own F H) v t := by
  have q := S.sl i
  rw [h] at q
  obtain ⟨_, v, h2, h3⟩ := q
  refine ⟨v, ?_, h3⟩
  rw [List.getD_eq_getElem?_getD] at h2
  cases z : st[i]? with
  | none => rw [z] at h2; cases h2
  | some o => rw [z] at h2; simpa using h2
theorem getD_set {α : Type} (l : List α) (i j : Nat) (x d : α) (h : i < l.length) : (l.set i x).getD j d = if j = i then x else l.getD j d := by
  rw [List.getD_eq_getElem?_getD, List.getD_eq_getElem?_getD, List.getElem?_set]
  by_cases e : i = j
  · subst e; simp [h]
  · rw [if_neg e, if_neg (Ne.symm e)]
/-- a slot takes a value that stands in the region; what it owned before it owns no more -/
theorem SE.put (S : SE X Kp F dl own H st) {i : Nat} {v : V} {t : T} (hi : i < dl.length) (hs : i < st.length) (r : RT X.w X.K X.mg (reg own F H) v t) :
    SE X Kp F (dl.set i (.t t)) (fun j => if j = i then [] else own j) H (st.set i (some v)) := by
  have up : Same (reg own F H) (reg (fun j => if j = i then [] else own j) F H) := reg_mono fun a o h1 h2 h3 => ⟨h3, fun j => by
    by_cases e : j = i
    · rw [if_pos e]; simp
    · rw [if_neg e]; exact h1 j, h2⟩
  refine ⟨S.kp, fun j a h => ?_, S.fn, fun j a h => ?_, fun j k a h1 h2 => ?_, fun j => ?_⟩
  · by_cases e : j = i
    · rw [if_pos e] at h; simp at h
    · rw [if_neg e] at h; exact S.fr j a h
  · by_cases e : j = i
    · rw [if_pos e] at h; simp at h
    · rw [if_neg e] at h; exact S.nf j a h
  · by_cases e : j = i
    · rw [if_pos e] at h1; simp at h1
    · rw [if_neg e] at h1
      by_cases e' : k = i
      · rw [if_pos e'] at h2; simp at h2
      · rw [if_neg e'] at h2; exact S.dis j k a h1 h2
  · rw [getD_set _ _ _ _ _ hi, getD_set _ _ _ _ _ hs]
    by_cases e : j = i
    · rw [if_pos e, if_pos e, if_pos e]; exact ⟨rfl, v, rfl, r.up up⟩
    · rw [if_neg e, if_neg e, if_neg e]; exact (S.sl j).up up fun _ _ _ q => q
/-- a slot is forgotten, or told as nothing -/
theorem SE.drop (S : SE X Kp F dl own H st) {i : Nat} (hi : i < dl.length) : SE X Kp F (dl.set i .no) (fun j => if j = i then [] else own j) H st := by
  have up : Same (reg own F H) (reg (fun j => if j = i then [] else own j) F H) := reg_mono fun a o h1 h2 h3 => ⟨h3, fun j => by
    by_cases e : j = i
    · rw [if_pos e]; simp
    · rw [if_neg e]; exact h1 j, h2⟩
  refine ⟨S.kp, fun j a h => ?_, S.fn, fun j a h => ?_, fun j k a h1 h2 => ?_, fun j => ?_⟩
  · by_cases e : j = i
    · rw [if_pos e] at h; simp at h
    · rw [if_neg e] at h; exact S.fr j a h
  · by_cases e : j = i
    · rw [if_pos e] at h; simp at h
    · rw [if_neg e] at h; exact S.nf j a h
  · by_cases e : j = i
    · rw [if_pos e] at h1; simp at h1
    · rw [if_neg e] at h1
      by_cases e' : k = i
      · rw [if_pos e'] at h2; simp at h2
      · rw [if_neg e'] at h2; exact S.dis j k a h1 h2
  · rw [getD_set _ _ _ _ _ hi]
    by_cases e : j = i
    · rw [if_pos e, if_pos e]; exact rfl
    · rw [if_neg e, if_neg e]; exact (S.sl j).up up fun _ _ _ q => q
end
end Ac
-- part A3
set_option maxHeartbeats 4000000
set_option Elab.async false
set_option maxRecDepth 100000
set_option linter.all false
/-! Ac, part 3: changes of a slot; the judgements on data; names, constants, operators. -/
namespace Ac
open PySem PySem.Spec PyProof.Rows L2
section
variable {X : Cx} {Kp : Hp} {F : Addr → Prop} {dl : List Sl} {own : Nat → List Addr} {H H' : Hp} {st st' : L2.St}
def ownS (own : Nat → List Addr) (i : Nat) (l : List Addr) : Nat → List Addr := fun j => if j = i then l else own j
theorem ownS_same {own : Nat → List Addr} {i : Nat} {l : List Addr} : ownS own i l i = l := if_pos rfl
theorem ownS_ne {own : Nat → List Addr} {i j : Nat} {l : List Addr} (h : j ≠ i) : ownS own i l j = own j := if_neg h
theorem SE.regS (S : SE X Kp F dl own H st) {i : Nat} {l : List Addr} (keep : ∀ a o, a ∉ own i → H a = some o → H' a = some o) (new : ∀ a ∈ l, a ∈ own i ∨ H a = none) : Same (reg own F H) (reg (ownS own i l) F H') :=
  reg_mono fun a o h1 h2 h3 => ⟨keep a o (h1 i) h3, fun j => by
    by_cases e : j = i
    · subst e
      rw [ownS_same]
      intro z
      rcases new a z with q | q
      · exact h1 _ q
      · rw [h3] at q; cases q
    · rw [ownS_ne e]; exact h1 j, h2⟩
/-- one slot and what it owns change -/
theorem SE.chg (S : SE X Kp F dl own H st) {i : Nat} {x : Option V} {s : Sl} {l : List Addr} (hi : i < dl.length) (keep : ∀ a o, a ∉ own i → H a = some o → H' a = some o) (new : ∀ a ∈ l, a ∈ own i ∨ H a = none)
    (hx : st'.getD i none = x) (hst : ∀ j, j ≠ i → st'.getD j none = st.getD j none) (ok : SlOk X.w X.K X.mg (reg (ownS own i l) F H') H' x s l) : SE X Kp F (dl.set i s) (ownS own i l) H' st' := by
  have up := S.regS keep new
  have nF : ∀ a ∈ l, ¬ F a := fun a h z => by
    rcases new a h with q | q
    · exact S.nf i a q z
    · exact S.fn a z q
  refine ⟨fun a o e => keep a o (fun z => by rw [S.fr i a z] at e; cases e) (S.kp a o e), fun j a h => ?_, fun a h => ?_, fun j a h => ?_, fun j k a h1 h2 => ?_, fun j => ?_⟩
  · by_cases e : j = i
    · subst e
      rw [ownS_same] at h
      rcases new a h with q | q
      · exact S.fr _ a q
      · exact S.kp.free q
    · rw [ownS_ne e] at h; exact S.fr j a h
  · cases q : H a with
    | none => exact absurd q (S.fn a h)
    | some o => rw [keep a o (fun z => S.nf i a z h) q]; simp
  · by_cases e : j = i
    · subst e
      rw [ownS_same] at h
      exact nF a h
    · rw [ownS_ne e] at h; exact S.nf j a h
  · have aux : ∀ k, k ≠ i → a ∈ l → a ∈ own k → False := fun k hk h1 h2 => by
      rcases new a h1 with q | q
      · exact hk (S.dis k i a h2 q)
      · exact S.there h2 q
    by_cases e : j = i
    · by_cases e' : k = i
      · rw [e, e']
      · subst e
        rw [ownS_same] at h1
        rw [ownS_ne e'] at h2
        exact (aux k e' h1 h2).elim
    · by_cases e' : k = i
      · subst e'
        rw [ownS_same] at h2
        rw [ownS_ne e] at h1
        exact (aux j e h2 h1).elim
      · rw [ownS_ne e] at h1
        rw [ownS_ne e'] at h2
        exact S.dis j k a h1 h2
  · rw [getD_set _ _ _ _ _ hi]
    by_cases e : j = i
    · subst e
      rw [if_pos rfl, ownS_same, hx]
      exact ok
    · rw [if_neg e, ownS_ne e, hst j e]
      exact (S.sl j).up up fun a o h q => keep a o (fun z => e (S.dis j i a h z)) q
theorem set_get {i : Nat} {x : V} (hs : i < st.length) : (st.set i (some x)).getD i none = some x := by rw [getD_set _ _ _ _ _ hs, if_pos rfl]
theorem set_ne {i j : Nat} {x : Option V} (hs : i < st.length) (h : j ≠ i) : (st.set i x).getD j none = st.getD j none := by rw [getD_set _ _ _ _ _ hs, if_neg h]
end

/-! ### the judgements -/
abbrev RX (X : Cx) (own : Nat → List Addr) (F : Addr → Prop) (H : Hp) (v : V) (t : T) : Prop := RT X.w X.K X.mg (reg own F H) v t
abbrev BX (X : Cx) (own : Nat → List Addr) (F : Addr → Prop) (H : Hp) (v : V) (t : T) : Prop := RB X.w X.K X.mg (reg own F H) H v t
/-- e comes to t; nothing that stands is changed -/
def DE (X : Cx) (e : Expr) (dl : List Sl) (t : T) : Prop := ∀ (Kp : Hp) (F : Addr → Prop) (own : Nat → List Addr) (H : Hp) (st : L2.St), SE X Kp F dl own H st → WE X e st H fun v H' => Same H H' ∧ RX X own F H' v t
/-- .. which may be a slot's own list or dict -/
def DB (X : Cx) (e : Expr) (dl : List Sl) (t : T) : Prop := ∀ (Kp : Hp) (F : Addr → Prop) (own : Nat → List Addr) (H : Hp) (st : L2.St), SE X Kp F dl own H st → WE X e st H fun v H' => Same H H' ∧ BX X own F H' v t
/-- a test -/
def DT (X : Cx) (e : Expr) (dl : List Sl) (b : Bool) : Prop := ∀ (Kp : Hp) (F : Addr → Prop) (own : Nat → List Addr) (H : Hp) (st : L2.St), SE X Kp F dl own H st → WT X e st H fun c H' => Same H H' ∧ c = b
inductive RTs (w : World) (K : PySem.W.Frag) (mg : Str → Option Value) (G : Hp) : List V → List T → Prop
  | nil : RTs w K mg G [] []
  | cons {v : V} {t : T} {vs : List V} {ts : List T} : RT w K mg G v t → RTs w K mg G vs ts → RTs w K mg G (v :: vs) (t :: ts)
theorem RTs.up {w : World} {K : PySem.W.Frag} {mg : Str → Option Value} {G G' : Hp} : ∀ {vs : List V} {ts : List T}, RTs w K mg G vs ts → Same G G' → RTs w K mg G' vs ts
  | _, _, .nil, _ => .nil
  | _, _, .cons h t, e => .cons (h.up e) (t.up e)
theorem RTs.len {w : World} {K : PySem.W.Frag} {mg : Str → Option Value} {G : Hp} : ∀ {vs : List V} {ts : List T}, RTs w K mg G vs ts → vs.length = ts.length
  | _, _, .nil => rfl
  | _, _, .cons _ t => by rw [List.length_cons, List.length_cons, t.len]
theorem RTs.dpa {w : World} {K : PySem.W.Frag} {mg : Str → Option Value} {G : Hp} : ∀ {vs : List V} {ds : List PyData}, RTs w K mg G vs (ds.map T.p) → DpAll K G vs ds
  | _, [], .nil => .nil
  | _, _ :: _, .cons h t => .cons h t.dpa
/-- arguments -/
def DA (X : Cx) (es : List Expr) (dl : List Sl) (ts : List T) : Prop := ∀ (Kp : Hp) (F : Addr → Prop) (own : Nat → List Addr) (H : Hp) (st : L2.St), SE X Kp F dl own H st → WA X es st H fun vs H' => Same H H' ∧ RTs X.w X.K X.mg (reg own F H') vs ts

section
variable {X : Cx} {e a b c : Expr} {es : List Expr} {dl : List Sl} {t u r : T} {pos : Pos}
theorem DE.lend (h : DE X e dl t) : DB X e dl t := fun Kp F own H st S => (h Kp F own H st S).mono fun _ _ ⟨s, q⟩ => ⟨s, q.b reg_sub⟩
/-- by another name of the same -/
theorem DE.is (h : DE X e dl t) (q : t = u) : DE X e dl u := q ▸ h
theorem DB.is (h : DB X e dl t) (q : t = u) : DB X e dl u := q ▸ h
theorem DT.is {k l : Bool} (h : DT X e dl k) (q : k = l) : DT X e dl l := q ▸ h
/-! ### names and constants -/
theorem dv (i : Nat) {x : Str} {pos : Pos} (hd : dl.getD i .no = .t t) (hN : X.N[i]? = some x := by rfl) (hv : Vis X.env.scope x := by first | exact Or.inl rfl | exact Or.inr (Or.inl rfl) | exact Or.inr (Or.inr rfl)) (h1 : (x == ("__debug__" : Str)) = false := by decide)
    (h2 : (x == ("__classdict__" : Str)) = false := by decide) : DE X (.Name x pos) dl t := fun Kp F own H st S => by
  obtain ⟨v, q, r⟩ := S.get hd
  exact we_of (pe_var (i := i) hN hv h1 h2) ⟨v, q, Same.refl H, r⟩
/-- an owned list, lent -/
theorem dvo (i : Nat) {ds : List PyData} {x : Str} {pos : Pos} (hd : dl.getD i .no = .ol ds) (hN : X.N[i]? = some x := by rfl) (hv : Vis X.env.scope x := by first | exact Or.inl rfl | exact Or.inr (Or.inl rfl) | exact Or.inr (Or.inr rfl)) (h1 : (x == ("__debug__" : Str)) = false := by decide)
    (h2 : (x == ("__classdict__" : Str)) = false := by decide) : DB X (.Name x pos) dl (.p (.list ds)) := fun Kp F own H st S => by
  have q := S.sl i
  rw [hd] at q
  obtain ⟨p, vs, _, e, hp, ha⟩ := q
  have e' : st[i]? = some (some (.ref p)) := by
    rw [List.getD_eq_getElem?_getD] at e
    cases z : st[i]? with
    | none => rw [z] at e; cases e
    | some o => rw [z] at e; simpa using e
  exact we_of (pe_var (i := i) hN hv h1 h2) ⟨_, e', Same.refl H, p, vs, rfl, SqL.of hp, ha⟩
theorem dvd (i : Nat) {kvs : List (NestedKey × PyData)} {x : Str} {pos : Pos} (hd : dl.getD i .no = .od kvs) (hN : X.N[i]? = some x := by rfl) (hv : Vis X.env.scope x := by first | exact Or.inl rfl | exact Or.inr (Or.inl rfl) | exact Or.inr (Or.inr rfl)) (h1 : (x == ("__debug__" : Str)) = false := by decide)
    (h2 : (x == ("__classdict__" : Str)) = false := by decide) : DB X (.Name x pos) dl (.dic kvs) := fun Kp F own H st S => by
  have q := S.sl i
  rw [hd] at q
  obtain ⟨p, o, _, e, hm, hp, ha⟩ := q
  have e' : st[i]? = some (some (.ref p)) := by
    rw [List.getD_eq_getElem?_getD] at e
    cases z : st[i]? with
    | none => rw [z] at e; cases e
    | some o => rw [z] at e; simpa using e
  exact we_of (pe_var (i := i) hN hv h1 h2) ⟨_, e', Same.refl H, p, o, rfl, hm, hp, ha⟩
theorem d_int {i : Int} {j : Nat} : DE X (.Constant (.int i) j pos) dl (.p (.int i)) := fun _ _ _ H _ _ => we_of pe_int ⟨Same.refl H, .int i⟩
theorem d_str {i : Str} {j : Nat} : DE X (.Constant (.str i) j pos) dl (.p (.str i)) := fun _ _ _ H _ _ => we_of pe_str ⟨Same.refl H, .str i⟩
theorem d_bl {i : Bool} {j : Nat} : DE X (.Constant (.bool i) j pos) dl (.p (.bool i)) := fun _ _ _ H _ _ => we_of pe_bl ⟨Same.refl H, .bl i⟩
theorem d_non {j : Nat} : DE X (.Constant .none j pos) dl (.p .none) := fun _ _ _ H _ _ => we_of pe_non ⟨Same.refl H, .non⟩
/-- a module's whole number -/
theorem d_glob {x : Str} {i : Int} {t : Tok} (hg : Gl X x) (hm : X.mg x = some (.int i t)) (hd : (x == ("__debug__" : Str)) = false := by decide) : DE X (.Name x pos) dl (.p (.int i)) :=
  fun _ _ _ H _ _ => we_of (pe_glob (v := .int i) hg hm ⟨_, rfl⟩ hd) ⟨Same.refl H, .int i⟩
/-! ### arguments -/
theorem da_nil : DA X [] dl [] := fun _ _ _ H _ _ => wa_of pa_nil ⟨Same.refl H, .nil⟩
theorem da_cons {ts : List T} (h : DE X e dl t) (hs : DA X es dl ts) (he : starEach (e :: es) X.env = (false, eval e X.env) :: starEach es X.env := by rfl) : DA X (e :: es) dl (t :: ts) := fun Kp F own H st S => by
  refine wa_of (pa_cons (peW e) (paW es) he) ?_
  refine (h Kp F own H st S).mono fun v H1 ⟨s1, q1⟩ => ?_
  refine (hs Kp F own H1 st (S.grow s1)).mono fun vs H2 ⟨s2, q2⟩ => ⟨s1.trans s2, .cons (q1.up (reg_up s2)) q2⟩
/-! ### two-place operations -/
/-- f of a t and a u is an r -/
def OpD (X : Cx) (f : Value → Value → Sem Value) (t u r : T) : Prop :=
  ∃ r2 : R2, OpR X f r2 ∧ ∀ (own : Nat → List Addr) (F : Addr → Prop) (H : Hp) (x y : V) (Q : VK), (∀ p, H p = none → (∀ i, p ∉ own i) ∧ ¬ F p) → BX X own F H x t → BX X own F H y u → (∀ z H', Same H H' → RX X own F H' z r → Q z H') → r2 x y H Q
theorem d_bin {op : Operator} (ho : OpD X (binaryOp op) t u r) (ha : DB X a dl t) (hb : DB X b dl u) : DE X (.BinOp a op b pos) dl r := fun Kp F own H st S => by
  obtain ⟨r2, h1, h2⟩ := ho
  refine we_of (pe_op h1 (peW a) (peW b)) ?_
  refine (ha Kp F own H st S).mono fun x H1 ⟨s1, q1⟩ => ?_
  have S1 := S.grow s1
  refine (hb Kp F own H1 st S1).mono fun y H2 ⟨s2, q2⟩ => ?_
  exact h2 own F H2 x y _ (fun p hp => (S1.grow s2).fresh hp) (q1.up (reg_up s2) s2) q2 fun z H3 s3 q3 => ⟨(s1.trans s2).trans s3, q3⟩
theorem d_cmp {op : CmpOp} (ho : OpD X (compareOp op) t u r) (ha : DB X a dl t) (hb : DB X b dl u) (hm : behindInMarks op b = false := by first | exact nomark _ | rfl) : DE X (.Compare a [op] [b] pos) dl r := fun Kp F own H st S => by
  obtain ⟨r2, h1, h2⟩ := ho
  refine we_of (pe_cmpR h1 (peW a) (peW b) hm) ?_
  refine (ha Kp F own H st S).mono fun x H1 ⟨s1, q1⟩ => ?_
  have S1 := S.grow s1
  refine (hb Kp F own H1 st S1).mono fun y H2 ⟨s2, q2⟩ => ?_
  exact h2 own F H2 x y _ (fun p hp => (S1.grow s2).fresh hp) (q1.up (reg_up s2) s2) q2 fun z H3 s3 q3 => ⟨(s1.trans s2).trans s3, q3⟩
theorem bl_of {K : PySem.W.Frag} {G : Hp} {z : V} {k : Bool} (h : Dp K G z (.bool k)) : z = .bl k := by cases h; rfl
theorem int_of {K : PySem.W.Frag} {G : Hp} {z : V} {k : Int} (h : Dp K G z (.int k)) : z = .int k := by cases h; rfl
theorem str_of {K : PySem.W.Frag} {G : Hp} {z : V} {k : Str} (h : Dp K G z (.str k)) : z = .str k := by cases h; rfl
theorem non_of {K : PySem.W.Frag} {G : Hp} {z : V} (h : Dp K G z .none) : z = .non := by cases h; rfl
theorem dt_cmp {op : CmpOp} {k : Bool} (ho : OpD X (compareOp op) t u (.p (.bool k))) (ha : DB X a dl t) (hb : DB X b dl u) (hm : behindInMarks op b = false := by first | exact nomark _ | rfl) : DT X (.Compare a [op] [b] pos) dl k := fun Kp F own H st S => by
  obtain ⟨r2, h1, h2⟩ := ho
  refine wt_of (pt_cmpR h1 (peW a) (peW b) hm) ?_
  refine (ha Kp F own H st S).mono fun x H1 ⟨s1, q1⟩ => ?_
  have S1 := S.grow s1
  refine (hb Kp F own H1 st S1).mono fun y H2 ⟨s2, q2⟩ => ?_
  exact h2 own F H2 x y _ (fun p hp => (S1.grow s2).fresh hp) (q1.up (reg_up s2) s2) q2 fun z H3 s3 q3 => ⟨k, bl_of q3, (s1.trans s2).trans s3, rfl⟩
/-- ints in, an int or a truth value out -/
theorem opd_I0 {f : Value → Value → Sem Value} {g : Int → Int → V} {d : PyData} {i j : Int} (h : OpR X f (rI0 g)) (hd : ∀ G, Dp X.K G (g i j) d) : OpD X f (.p (.int i)) (.p (.int j)) (.p d) :=
  ⟨_, h, fun own F H x y Q hn hx hy q => ⟨i, j, int_of hx, int_of hy, q _ H (Same.refl H) (hd _)⟩⟩
theorem opd_I {f : Value → Value → Sem Value} {C : Int → Int → Prop} {g : Int → Int → V} {d : PyData} {i j : Int} (h : OpR X f (rI C g)) (hc : C i j) (hd : ∀ G, Dp X.K G (g i j) d) : OpD X f (.p (.int i)) (.p (.int j)) (.p d) :=
  ⟨_, h, fun own F H x y Q hn hx hy q => ⟨i, j, int_of hx, int_of hy, hc, q _ H (Same.refl H) (hd _)⟩⟩
theorem o_add {i j : Int} : OpD X (binaryOp .Add) (.p (.int i)) (.p (.int j)) (.p (.int (i + j))) := opd_I0 op_add fun _ => .int _
theorem o_sub {i j : Int} : OpD X (binaryOp .Sub) (.p (.int i)) (.p (.int j)) (.p (.int (i - j))) := opd_I0 op_sub fun _ => .int _
theorem o_mul {i j : Int} (h : CMul i j) : OpD X (binaryOp .Mult) (.p (.int i)) (.p (.int j)) (.p (.int (i * j))) := opd_I op_mul h fun _ => .int _
theorem o_mod {i j : Int} (h : 0 < j) : OpD X (binaryOp .Mod) (.p (.int i)) (.p (.int j)) (.p (.int (i % j))) := opd_I op_mod h fun _ => .int _
theorem o_fdiv {i j : Int} (h : CDiv i j) : OpD X (binaryOp .FloorDiv) (.p (.int i)) (.p (.int j)) (.p (.int (i / j))) := opd_I op_fdiv h fun _ => .int _
theorem o_pow {i j : Int} (h : CPow i j) : OpD X (binaryOp .Pow) (.p (.int i)) (.p (.int j)) (.p (.int (i ^ j.toNat))) := opd_I op_pow h fun _ => .int _
theorem o_lt {i j : Int} : OpD X (compareOp .Lt) (.p (.int i)) (.p (.int j)) (.p (.bool (decide (i < j)))) := opd_I0 op_lt fun _ => .bl _
theorem o_le {i j : Int} : OpD X (compareOp .LtE) (.p (.int i)) (.p (.int j)) (.p (.bool (decide (i ≤ j)))) := opd_I0 op_le fun _ => .bl _
theorem o_gt {i j : Int} : OpD X (compareOp .Gt) (.p (.int i)) (.p (.int j)) (.p (.bool (decide (j < i)))) := opd_I0 op_gt fun _ => .bl _
theorem o_ge {i j : Int} : OpD X (compareOp .GtE) (.p (.int i)) (.p (.int j)) (.p (.bool (decide (j ≤ i)))) := opd_I0 op_ge fun _ => .bl _
/-- == and != of data -/
theorem o_eq {d f : PyData} (hu : X.A.units + 64 < cLine) (h1 : SeqAt.shaped d = true) (h2 : SeqAt.shaped f = true) : OpD X (compareOp .Eq) (.p d) (.p f) (.p (.bool (PyData.eqv d f))) :=
  ⟨_, op_eqD hu, fun own F H x y Q hn hx hy q => ⟨d, f, RB.dp hx reg_sub, RB.dp hy reg_sub, h1, h2, q _ H (Same.refl H) (.bl _)⟩⟩
theorem o_ne {d f : PyData} (hu : X.A.units + 64 < cLine) (h1 : SeqAt.shaped d = true) (h2 : SeqAt.shaped f = true) : OpD X (compareOp .NotEq) (.p d) (.p f) (.p (.bool (!PyData.eqv d f))) :=
  ⟨_, op_neD hu, fun own F H x y Q hn hx hy q => ⟨d, f, RB.dp hx reg_sub, RB.dp hy reg_sub, h1, h2, q _ H (Same.refl H) (.bl _)⟩⟩
/-- x in xs, a list of data -/
theorem o_in {d : PyData} {ds : List PyData} (hu : X.A.units + 65 < cLine) (h1 : SeqAt.shaped d = true) (h2 : SeqAt.shaped (.list ds) = true) : OpD X (compareOp .In) (.p d) (.p (.list ds)) (.p (.bool (ds.any fun z => PyData.eqv z d))) :=
  ⟨_, op_inD hu, fun own F H x y Q hn hx hy q => ⟨d, ds, RB.dp hx reg_sub, RB.dp (d := .list ds) hy reg_sub, h1, h2, q _ H (Same.refl H) (.bl _)⟩⟩
theorem o_nin {d : PyData} {ds : List PyData} (hu : X.A.units + 65 < cLine) (h1 : SeqAt.shaped d = true) (h2 : SeqAt.shaped (.list ds) = true) : OpD X (compareOp .NotIn) (.p d) (.p (.list ds)) (.p (.bool (!ds.any fun z => PyData.eqv z d))) :=
  ⟨_, op_notInD hu, fun own F H x y Q hn hx hy q => ⟨d, ds, RB.dp hx reg_sub, RB.dp (d := .list ds) hy reg_sub, h1, h2, q _ H (Same.refl H) (.bl _)⟩⟩
end
end Ac
-- part A4
set_option maxHeartbeats 4000000
set_option Elab.async false
set_option maxRecDepth 100000
set_option linter.all false
/-! Ac, part 4: dicts whose keys are nested tuples, by the model's own rules. -/
namespace Ac
open PySem PySem.Spec PyProof.Rows L2
section
variable {X : Cx} {pins : List (Addr × Obj)} {st : L2.St} {H G : Hp} {s : Shared}
mutual
/-- data that are keys, as the model's keys -/
theorem nest_of (I : Inv X pins st H s) : ∀ (k : NestedKey) (v : V) (u : Value), Dp X.K H v k.data → RelV v u → NestedIs s.heap k u
  | .none, _, _, h, r => by
    cases h
    cases r
    exact .none
  | .num i, _, _, h, r => by
    cases h
    obtain ⟨t, rfl⟩ := r
    exact .int i t
  | .text x, _, _, h, r => by
    cases h
    obtain ⟨t, rfl⟩ := r
    exact .text x t
  | .tup ks, _, _, h, r => by
    cases h with
    | tup hs ha =>
      cases r
      obtain ⟨its, rv, ⟨o, ho, hc, n, hd⟩, _⟩ := I.tuple hs
      exact .tup ho hc hd (nest_all I ks _ its ha rv)
theorem nest_all (I : Inv X pins st H s) : ∀ (ks : List NestedKey) (vs : List V) (us : List Value), DpAll X.K H vs (NestedKey.datas ks) → Vals vs us → NestedAll s.heap ks us
  | [], _, _, h, r => by
    cases h
    cases r
    exact .nil
  | k :: ks, _, _, h, r => by
    cases h with
    | cons h1 h2 =>
      cases r with
      | cons r1 r2 => exact .cons (nest_of I k _ _ h1 r1) (nest_all I ks _ _ h2 r2)
end
abbrev nk (X : Cx) := nestedKind X.prog X.w
theorem key_is (I : Inv X pins st H s) {k : NestedKey} {b : Addr} (h : Dp X.K H (.ref b) k.data) (hd : k.depth ≤ 8) : (nk X).is s.heap k b := ⟨nest_of I k _ _ h rfl, hd⟩

/-! ### what a dict of data holds -/
def lk (kvs : List (NestedKey × PyData)) (k : NestedKey) : Option PyData := (kvs.find? fun x => decide (x.1 = k)).map (·.2)
def putD (kvs : List (NestedKey × PyData)) (k : NestedKey) (d : PyData) : List (NestedKey × PyData) := if (lk kvs k).isSome then kvs.map fun x => if x.1 = k then (x.1, d) else x else kvs ++ [(k, d)]
/-- an entry as the model's rules tell it -/
def EntX (K : PySem.W.Frag) (G : Hp) (kv : NestedKey × PyData) (x : NestedKey × Addr × Value) : Prop := x.1 = kv.1 ∧ Dp K G (.ref x.2.1) kv.1.data ∧ ∃ v, RelV v x.2.2 ∧ Dp K G v kv.2
theorem entX_of {w : World} {K : PySem.W.Frag} : ∀ {kvs : List (NestedKey × PyData)} {es : List DictEntry}, Paired (EntI w K G) kvs es →
    ∃ xs : List (NestedKey × Addr × Value), Paired (EntX K G) kvs xs ∧ es = xs.map (fun x => ⟨x.1.hash w, .ref x.2.1, x.2.2⟩) ∧ xs.map (·.1) = kvs.map (·.1) ∧ ∀ x ∈ xs, x.1.depth ≤ 8 ∧ Dp K G (.ref x.2.1) x.1.data
  | _, _, .nil => ⟨[], .nil, rfl, rfl, fun _ h => (nomatch h)⟩
  | _, _, .cons (a := kv) (b := e) ⟨b, v, h1, h2, h3, h5, h6, h7⟩ t => by
    obtain ⟨xs, k1, k2, k3, k4⟩ := entX_of t
    refine ⟨(kv.1, b, e.val) :: xs, .cons ⟨rfl, h5, v, h6, h7⟩ k1, ?_, by simp [k3], fun x hx => ?_⟩
    · obtain ⟨eh, ek, ev⟩ := e
      simp only at h1 h2
      subst h1 h2
      simp [k2]
    · rcases List.mem_cons.mp hx with rfl | hx
      · exact ⟨h3, h5⟩
      · exact k4 x hx
/-- THE DICT of the model -/
theorem dict_of (I : Inv X pins st H s) {a : Addr} {o : Obj} {kvs : List (NestedKey × PyData)} (hp : H a = some (DicO a o)) (E : Ent X.w X.K G o kvs) (sG : Same G H) :
    ∃ xs : List (NestedKey × Addr × Value), Paired (EntX X.K G) kvs xs ∧ s.heap.DictOfH (nk X) a xs ∧ xs.length = kvs.length ∧ xs.map (·.1) = kvs.map (·.1) := by
  obtain ⟨es, ep, h1, h2⟩ := E.es
  obtain ⟨xs, k1, k2, k3, k4⟩ := entX_of h2
  refine ⟨xs, k1, ⟨o, es, ep, (DicO.obj (I.hok a _ hp)), E.ex, h1, k2, fun x hx => ?_, by rw [k3]; exact E.nd⟩, ?_, k3⟩
  · exact key_is I ((k4 x hx).2.up sG) (k4 x hx).1
  · rw [← List.length_map (f := (·.1)), k3, List.length_map]
theorem atKey_of {K : PySem.W.Frag} (k : NestedKey) : ∀ {kvs : List (NestedKey × PyData)} {xs : List (NestedKey × Addr × Value)}, Paired (EntX K G) kvs xs →
    (lk kvs k = none → atKey xs k = none) ∧ (∀ d, lk kvs k = some d → ∃ p, atKey xs k = some p ∧ ∃ v, RelV v p.2 ∧ Dp K G v d)
  | _, _, .nil => ⟨fun _ => rfl, fun _ h => nomatch h⟩
  | _, _, .cons (a := kv) (b := x) ⟨h1, h2, v, h3, h4⟩ t => by
    have ih := atKey_of k t
    unfold lk atKey at ih ⊢
    rw [List.find?_cons, List.find?_cons, h1]
    by_cases e : kv.1 = k
    · rw [decide_eq_true e]
      refine ⟨fun h => (by cases h), fun d h => ?_⟩
      have h' : kv.2 = d := by simpa using h
      subst h'
      exact ⟨x.2, rfl, v, h3, h4⟩
    · rw [decide_eq_false e]
      exact ih
theorem isSome_of {K : PySem.W.Frag} {k : NestedKey} {kvs : List (NestedKey × PyData)} {xs : List (NestedKey × Addr × Value)} (h : Paired (EntX K G) kvs xs) : (atKey xs k).isSome = (lk kvs k).isSome := by
  obtain ⟨h1, h2⟩ := atKey_of k h
  cases e : lk kvs k with
  | none => rw [h1 e]; rfl
  | some d => obtain ⟨p, h3, _⟩ := h2 d e; rw [h3]; rfl
theorem putAt_paired {K : PySem.W.Frag} {k : NestedKey} {d : PyData} {v : V} {u : Value} (r : RelV v u) (hd : Dp K G v d) : ∀ {kvs : List (NestedKey × PyData)} {xs : List (NestedKey × Addr × Value)}, Paired (EntX K G) kvs xs →
    Paired (EntX K G) (kvs.map fun x => if x.1 = k then (x.1, d) else x) (xs.map (putAt k u))
  | _, _, .nil => .nil
  | _, _, .cons (a := kv) (b := x) ⟨h1, h2, w, h3, h4⟩ t => by
    rw [List.map_cons, List.map_cons]
    refine .cons ?_ (putAt_paired r hd t)
    unfold putAt
    rw [h1]
    by_cases e : kv.1 = k
    · rw [if_pos e, if_pos e]; exact ⟨rfl, h2, v, r, hd⟩
    · rw [if_neg e, if_neg e]; exact ⟨h1, h2, w, h3, h4⟩
theorem paired_app {α β : Type} {R : α → β → Prop} : ∀ {as : List α} {bs : List β} {cs : List α} {ds : List β}, Paired R as bs → Paired R cs ds → Paired R (as ++ cs) (bs ++ ds)
  | _, _, _, _, .nil, h => h
  | _, _, _, _, .cons a t, h => .cons a (paired_app t h)
theorem put_paired {K : PySem.W.Frag} {k : NestedKey} {d : PyData} {b : Addr} {v : V} {u : Value} (r : RelV v u) (hd : Dp K G v d) (hk : Dp K G (.ref b) k.data) {kvs : List (NestedKey × PyData)} {xs : List (NestedKey × Addr × Value)}
    (h : Paired (EntX K G) kvs xs) : Paired (EntX K G) (putD kvs k d) (storedH xs k b u) := by
  unfold putD storedH
  have e := isSome_of (k := k) h
  cases q : lk kvs k with
  | none =>
    rw [q] at e
    have e' : (atKey xs k).isSome = false := e
    rw [if_neg (by simp)]
    simp only [e', Bool.false_eq_true, if_false]
    exact paired_app h (.cons ⟨rfl, hk, v, r, hd⟩ .nil)
  | some z =>
    rw [q] at e
    have e' : (atKey xs k).isSome = true := e
    rw [if_pos (by simp)]
    simp only [e', if_true]
    exact putAt_paired r hd h
theorem paired_nd {K : PySem.W.Frag} : ∀ {kvs : List (NestedKey × PyData)} {xs : List (NestedKey × Addr × Value)}, Paired (EntX K G) kvs xs → xs.map (·.1) = kvs.map (·.1)
  | _, _, .nil => rfl
  | _, _, .cons ⟨h1, _⟩ t => by rw [List.map_cons, List.map_cons, paired_nd t, h1]
/-- back: the model's dict, told -/
theorem ent_of {a : Addr} {h : Heap} {kvs : List (NestedKey × PyData)} {xs : List (NestedKey × Addr × Value)} (P : Paired (EntX X.K G) kvs xs) (D : h.DictOfH (nk X) a xs) (hz : kvs.length ≤ 100000) :
    ∃ o, h.get? a = some o ∧ Ent X.w X.K G o kvs := by
  obtain ⟨o, es, ep, h1, h2, h3, h4, h5, h6⟩ := D
  refine ⟨o, h1, h2, by rw [← paired_nd P]; exact h6, hz, es, ep, h3, ?_⟩
  rw [h4]
  have aux : ∀ {kvs : List (NestedKey × PyData)} {xs : List (NestedKey × Addr × Value)}, Paired (EntX X.K G) kvs xs → (∀ x ∈ xs, (nk X).is h x.1 x.2.1) → Paired (EntI X.w X.K G) kvs (xs.map (entryOfKey (nk X))) := by
    intro kvs xs P
    induction P with
    | nil => intro _; exact .nil
    | cons q t ih =>
      intro hx
      obtain ⟨q1, q2, v, q3, q4⟩ := q
      rw [List.map_cons]
      refine .cons ⟨_, v, rfl, by rw [← q1]; rfl, by rw [← q1]; exact (hx _ List.mem_cons_self).2, q2, q3, q4⟩ (ih fun x hm => hx x (List.mem_cons_of_mem _ hm))
  exact aux P h5
theorem dicO_new {P : Program} {w : World} {H : Hp} {h : Heap} {a : Addr} {o : Obj} (e : h.get? a = some o) : ObjOk P w H h a (DicO a o) := ⟨e, ⟨o, e⟩, fun h1 h2 p k => k o p⟩
theorem putD_len (kvs : List (NestedKey × PyData)) (k : NestedKey) (d : PyData) : (putD kvs k d).length ≤ kvs.length + 1 := by
  unfold putD
  split
  · rw [List.length_map]; omega
  · rw [List.length_append]; simp

/-! ### the operations -/
/-- the dict at a may be read as kvs; what it leans on stands in G -/
structure DicAt (X : Cx) (G H : Hp) (a : Addr) (kvs : List (NestedKey × PyData)) : Prop where
  ns : (a == sysModules) = false
  at_ : ∃ o, H a = some (DicO a o) ∧ Ent X.w X.K G o kvs
theorem RB.dicAt {own : Nat → List Addr} {F : Addr → Prop} {v : V} {kvs : List (NestedKey × PyData)} (h : BX X own F H v (.dic kvs)) : ∃ a, v = .ref a ∧ DicAt X (reg own F H) H a kvs := by
  obtain ⟨a, o, h1, h2, h3, h4⟩ := h
  exact ⟨a, h1, h2, o, h3, h4⟩
def rInN (X : Cx) (neg : Bool) : R2 := fun x y H Q => ∃ (b a : Addr) (k : NestedKey) (G : Hp) (kvs : List (NestedKey × PyData)), x = .ref b ∧ y = .ref a ∧ Same G H ∧ Dp X.K H (.ref b) k.data ∧ k.depth ≤ 8 ∧ DicAt X G H a kvs ∧
  Q (.bl (if neg then !(lk kvs k).isSome else (lk kvs k).isSome)) H
theorem op_inN (hu : X.A.units + 64 < cLine) : OpR X (compareOp .In) (rInN X false) := by
  intro pins s st H x y v u Q I rx ry h
  obtain ⟨b, a, k, G, kvs, rfl, rfl, sG, hk, hd, ⟨ns, o, ho, E⟩, q⟩ := h
  cases rx
  cases ry
  obtain ⟨xs, P, D, hl, _⟩ := dict_of I ho E sG
  refine wpAny_in_heap (knd := nk X) (by show X.A.units + 1 + 8 < cLine; omega) (key_is I hk hd) ns D ?_
  rw [isSome_of P]
  exact ⟨.bl _, H, I.tok _, rfl, q⟩
theorem op_ninN (hu : X.A.units + 64 < cLine) : OpR X (compareOp .NotIn) (rInN X true) := by
  intro pins s st H x y v u Q I rx ry h
  obtain ⟨b, a, k, G, kvs, rfl, rfl, sG, hk, hd, ⟨ns, o, ho, E⟩, q⟩ := h
  cases rx
  cases ry
  obtain ⟨xs, P, D, hl, _⟩ := dict_of I ho E sG
  refine notIn_keyed (knd := nk X) (kvs := pairsH xs) (by show X.A.units + 1 + 8 < cLine; omega) (key_is I hk hd) ns ⟨xs, D, rfl⟩ ?_
  have e : (valueAt (pairsH xs) k).isSome = (lk kvs k).isSome := by rw [valueAt_pairsH, Option.isSome_map, isSome_of P]
  rw [e]
  exact ⟨.bl _, H, I.tok _, rfl, q⟩
/-- d[k], there -/
def rIxN (X : Cx) : R2 := fun x y H Q => ∃ (b a : Addr) (k : NestedKey) (G : Hp) (kvs : List (NestedKey × PyData)) (d : PyData), x = .ref a ∧ y = .ref b ∧ Same G H ∧ Dp X.K H (.ref b) k.data ∧ k.depth ≤ 8 ∧ DicAt X G H a kvs ∧ lk kvs k = some d ∧
  ∀ z, Dp X.K G z d → Q z H
theorem pe_ixN {e i : Expr} {ta tb : TE} {pos : Pos} (hu : X.A.units + 64 < cLine) (ha : PE X e ta) (hb : PE X i tb) (hs : NoSl i) : PE X (.Subscript e i pos) (tOp (rIxN X) ta tb) := by
  refine ⟨fun pins s st H Q I h => ?_⟩
  refine subD_of PySem.F.slot_dict_getitem.lookup hs (thn (ha.run pins s st H _ I h) fun v s1 ⟨x, H1, I1, rx, q1⟩ => thn (hb.run pins s1 st H1 _ I1 q1) fun u s2 ⟨y, H2, I2, ry, q2⟩ => ?_)
  obtain ⟨b, a, k, G, kvs, d, rfl, rfl, sG, hk, hd, ⟨ns, o, ho, E⟩, hl, q⟩ := q2
  cases rx
  cases ry
  obtain ⟨xs, P, D, _, _⟩ := dict_of I2 ho E sG
  obtain ⟨p, hp, z, rz, hz⟩ := (atKey_of k P).2 d hl
  exact ⟨D.typeIs, wpAny_getItem_heap (knd := nk X) (by show X.A.units + 1 + 8 < cLine; omega) (key_is I2 hk hd) D hp ⟨z, H2, I2.tok _, rz, q z hz⟩⟩
/-- d[k] = v -/
theorem set_dic {Q : Unit → Shared → Prop} {E : Value → Shared → Prop} {A : Around} {a b : Addr} {k : NestedKey} {kvs : List (NestedKey × PyData)} {v : V} {u : Value} {d : PyData} (hu : A.units + 64 < cLine) (I : Inv X pins st H s) (sG : Same G H) (ga : G a = none) (hk : Dp X.K G (.ref b) k.data) (hd : k.depth ≤ 8)
    (D : DicAt X G H a kvs) (hz : kvs.length < 100000) (r : RelV v u) (hv : Dp X.K G v d) (h : ∀ s' o, Ent X.w X.K G o (putD kvs k d) → Inv X pins st (upd H a (DicO a o)) s' → Q () s') :
    wpAny (model X.prog X.w) A (setItem (.ref a) (.ref b) u) Q E s := by
  obtain ⟨ns, o, ho, E⟩ := D
  obtain ⟨xs, P, D, hl, _⟩ := dict_of I ho E sG
  refine wpAny_setItem_heap (knd := nk X) (by show A.units + 1 + 8 < cLine; omega) (key_is I (hk.up sG) hd) D (fun h' D' sb => ?_) (by rw [hl]; exact Nat.le_trans (Nat.le_of_lt hz) (by decide))
  obtain ⟨o', e', E'⟩ := ent_of (put_paired r hv hk P) D' (by have := putD_len kvs k d; omega)
  refine h _ o' E' (d_write I (by rw [ho]; exact True.intro) sb ⟨o', e'⟩ (dicO_new e'))
/-- {} -/
def tDNewN (X : Cx) : TE := fun _ H Q => ∀ p o, H p = none → (p == sysModules) = false → Ent X.w X.K (fun _ => none) o [] → Q (.ref p) (upd H p (DicO p o))
theorem pe_dnewN {pos : Pos} : PE X (.Dict [] [] pos) (tDNewN X) := ⟨fun pins s st H Q I h =>
  wpAny_Dict_empty ⟨.ref s.heap.objs.size, _, I.laid (a := s.heap.objs.size) (o := DicO s.heap.objs.size { cls := .type "dict", data := .dict #[] }) (t' := s.toks) (fun _ _ q => Heap.get?_push_of_some _ q) (Nat.le_refl _) (dicO_new (Heap.get?_push_size _ rfl)), rfl,
    h _ _ (I.hok.fresh (Nat.le_refl _)) (beq_eq_false_iff_ne.mpr (Ne.symm (Nat.ne_of_lt I.big))) ⟨⟨rfl, rfl, rfl⟩, List.nodup_nil, Nat.zero_le _, #[], 0, rfl, .nil⟩⟩⟩
end
end Ac
-- part A5
set_option maxHeartbeats 4000000
set_option Elab.async false
set_option maxRecDepth 100000
set_option linter.all false
/-! Ac, part 5: further expressions. -/
namespace Ac
open PySem PySem.Spec PyProof.Rows L2
theorem same_new {H : Hp} {p : Addr} {o : HO} (h : H p = none) : Same H (upd H p o) := fun a u e => by rw [upd_ne (ne_of_none e h)]; exact e
/-- what is new is neither owned nor foreign -/
def Frs (own : Nat → List Addr) (F : Addr → Prop) (H : Hp) : Prop := ∀ p, H p = none → (∀ i, p ∉ own i) ∧ ¬ F p
theorem Frs.up {own : Nat → List Addr} {F : Addr → Prop} {H H' : Hp} (h : Frs own F H) (s : Same H H') : Frs own F H' := fun p q => h p (s.free q)
theorem SE.frs {X : Cx} {Kp : Hp} {F : Addr → Prop} {dl : List Sl} {own : Nat → List Addr} {H : Hp} {st : L2.St} (S : SE X Kp F dl own H st) : Frs own F H := fun _ h => S.fresh h
theorem reg_new {own : Nat → List Addr} {F : Addr → Prop} {H : Hp} {p : Addr} {o : HO} (f : Frs own F H) (h : H p = none) : reg own F (upd H p o) p = some o := by
  rw [reg_in (f p h).1 (f p h).2, upd_same]
theorem new_list {K : PySem.W.Frag} {own : Nat → List Addr} {F : Addr → Prop} {H : Hp} {p : Addr} {vs : List V} {ds : List PyData} (f : Frs own F H) (h : H p = none) (a : DpAll K (reg own F H) vs ds) : Dp K (reg own F (upd H p (.lst vs))) (.ref p) (.list ds) :=
  .lst (SqL.of (reg_new f h)) (a.up (reg_up (same_new h)))
theorem new_tup {K : PySem.W.Frag} {own : Nat → List Addr} {F : Addr → Prop} {H : Hp} {p : Addr} {vs : List V} {ds : List PyData} (f : Frs own F H) (h : H p = none) (a : DpAll K (reg own F H) vs ds) : Dp K (reg own F (upd H p (.tup vs))) (.ref p) (.tuple ds) :=
  .tup (SqT.of (reg_new f h)) (a.up (reg_up (same_new h)))
section
variable {X : Cx} {e a b c : Expr} {es : List Expr} {dl : List Sl} {t u r : T} {pos : Pos}
/-! ### is None, is not True; in a tuple; in a dict; chains -/
def T.isNon : T → Bool
  | .p .none => true
  | _ => false
theorem RB.isNon {w : World} {K : PySem.W.Frag} {mg : Str → Option Value} {G H : Hp} {v : V} (h : RB w K mg G H v t) : decide (v = .non) = t.isNon := by
  cases t with
  | p d =>
    cases d with
    | list ds => obtain ⟨a, vs, rfl, _⟩ := h; rfl
    | none => cases h; rfl
    | bool _ => cases h; rfl
    | int _ => cases h; rfl
    | str _ => cases h; rfl
    | tuple _ => cases h; rfl
    | dict _ => cases h
  | dic kvs => obtain ⟨a, o, rfl, _⟩ := h; rfl
  | box _ _ _ => obtain ⟨a, C, dx, u, rfl, _⟩ := h; rfl
  | scope _ _ _ => obtain ⟨a, u, rfl, _⟩ := h; rfl
  | table _ _ _ _ _ _ => obtain ⟨a, b, u, ut, us, rfl, _⟩ := h; rfl
  | adr a => cases (show v = .ref a from h); rfl
theorem o_isN : OpD X (compareOp .Is) t (.p .none) (.p (.bool t.isNon)) :=
  ⟨_, op_isN, fun own F H x y Q hn hx hy q => ⟨by cases (show Dp X.K _ y .none from hy); rfl, by rw [RB.isNon hx]; exact q _ H (Same.refl H) (.bl _)⟩⟩
theorem o_notN : OpD X (compareOp .IsNot) t (.p .none) (.p (.bool (!t.isNon))) :=
  ⟨_, op_notN, fun own F H x y Q hn hx hy q => ⟨by cases (show Dp X.K _ y .none from hy); rfl, by rw [RB.isNon hx]; exact q _ H (Same.refl H) (.bl _)⟩⟩
theorem o_notBl {k l : Bool} : OpD X (compareOp .IsNot) (.p (.bool k)) (.p (.bool l)) (.p (.bool (!decide (k = l)))) :=
  ⟨_, op_notBl, fun own F H x y Q hn hx hy q => ⟨k, l, bl_of hx, bl_of hy, q _ H (Same.refl H) (.bl _)⟩⟩
def rInU (K : PySem.W.Frag) (neg : Bool) : R2 := fun x y H Q => ∃ d ds, Dp K H x d ∧ Dp K H y (.tuple ds) ∧ SeqAt.shaped d = true ∧ SeqAt.shaped (.tuple ds) = true ∧ Q (.bl (if neg then !(ds.any fun z => PyData.eqv z d) else ds.any fun z => PyData.eqv z d)) H
theorem op_inU (hu : X.A.units + 65 < cLine) : OpR X (compareOp .In) (rInU X.K false) := by
  intro pins s st H x y v u Q I rx ry h
  obtain ⟨d, ds, hd, he, sd, se, q⟩ := h
  obtain ⟨as, r1⟩ := Dp.reads I d x v hd rx
  obtain ⟨bs, r2⟩ := Dp.reads I (.tuple ds) y u he ry
  exact SeqAt.in_tuple_reads r2 r1 (SeqAt.canLay_of_shaped se) (SeqAt.canLay_of_shaped sd) (room_in_shaped sd hu) ⟨.bl _, H, I, rfl, q⟩
theorem op_ninU (hu : X.A.units + 65 < cLine) : OpR X (compareOp .NotIn) (rInU X.K true) := by
  intro pins s st H x y v u Q I rx ry h
  obtain ⟨d, ds, hd, he, sd, se, q⟩ := h
  obtain ⟨as, r1⟩ := Dp.reads I d x v hd rx
  obtain ⟨bs, r2⟩ := Dp.reads I (.tuple ds) y u he ry
  exact SeqAt.notIn_tuple_reads r2 r1 (SeqAt.canLay_of_shaped se) (SeqAt.canLay_of_shaped sd) (room_in_shaped sd hu) ⟨.bl _, H, I, rfl, q⟩
theorem o_inU {d : PyData} {ds : List PyData} (hu : X.A.units + 65 < cLine) (h1 : SeqAt.shaped d = true) (h2 : SeqAt.shaped (.tuple ds) = true) : OpD X (compareOp .In) (.p d) (.p (.tuple ds)) (.p (.bool (ds.any fun z => PyData.eqv z d))) :=
  ⟨_, op_inU hu, fun own F H x y Q hn hx hy q => ⟨d, ds, RB.dp hx reg_sub, RB.dp hy reg_sub, h1, h2, q _ H (Same.refl H) (.bl _)⟩⟩
theorem o_ninU {d : PyData} {ds : List PyData} (hu : X.A.units + 65 < cLine) (h1 : SeqAt.shaped d = true) (h2 : SeqAt.shaped (.tuple ds) = true) : OpD X (compareOp .NotIn) (.p d) (.p (.tuple ds)) (.p (.bool (!(ds.any fun z => PyData.eqv z d)))) :=
  ⟨_, op_ninU hu, fun own F H x y Q hn hx hy q => ⟨d, ds, RB.dp hx reg_sub, RB.dp hy reg_sub, h1, h2, q _ H (Same.refl H) (.bl _)⟩⟩
theorem ref_of {K : PySem.W.Frag} {G : Hp} {v : V} {ds : List PyData} (h : Dp K G v (.tuple ds)) : ∃ b, v = .ref b := by cases h; exact ⟨_, rfl⟩
/-- k in a dict: the key d as k -/
theorem o_inN {ds : List PyData} {kvs : List (NestedKey × PyData)} (k : NestedKey) (hu : X.A.units + 64 < cLine) (hk : k.data = .tuple ds) (hd : k.depth ≤ 8) : OpD X (compareOp .In) (.p (.tuple ds)) (.dic kvs) (.p (.bool (lk kvs k).isSome)) :=
  ⟨_, op_inN hu, fun own F H x y Q hn hx hy q => by
    obtain ⟨a, rfl, D⟩ := RB.dicAt hy
    have hx' := RB.dp hx reg_sub
    obtain ⟨b, rfl⟩ := ref_of hx'
    exact ⟨b, a, k, _, kvs, rfl, rfl, reg_sub, by rw [hk]; exact hx', hd, D, q _ H (Same.refl H) (.bl _)⟩⟩
theorem o_ninN {ds : List PyData} {kvs : List (NestedKey × PyData)} (k : NestedKey) (hu : X.A.units + 64 < cLine) (hk : k.data = .tuple ds) (hd : k.depth ≤ 8) : OpD X (compareOp .NotIn) (.p (.tuple ds)) (.dic kvs) (.p (.bool (!(lk kvs k).isSome))) :=
  ⟨_, op_ninN hu, fun own F H x y Q hn hx hy q => by
    obtain ⟨a, rfl, D⟩ := RB.dicAt hy
    have hx' := RB.dp hx reg_sub
    obtain ⟨b, rfl⟩ := ref_of hx'
    exact ⟨b, a, k, _, kvs, rfl, rfl, reg_sub, by rw [hk]; exact hx', hd, D, q _ H (Same.refl H) (.bl _)⟩⟩
/-- a op b op' c -/
theorem d_chain {op op' : CmpOp} {k l : Bool} {r' : T} (ho : OpD X (compareOp op) t u (.p (.bool k))) (ho' : OpD X (compareOp op') u r' (.p (.bool l))) (ha : DE X a dl t) (hb : DE X b dl u) (hc : DE X c dl r')
    (hm : lastMarks [op, op'] [b, c] = false := by with_unfolding_all rfl) : DE X (.Compare a [op, op'] [b, c] pos) dl (.p (.bool (k && l))) := fun Kp F own H st S => by
  obtain ⟨r2, h1, h2⟩ := ho
  obtain ⟨r3, h3, h4⟩ := ho'
  refine we_of (pe_chain h1 h3 (peW a) (peW b) (peW c) hm) ?_
  refine (ha Kp F own H st S).mono fun x H1 ⟨s1, q1⟩ => ?_
  have S1 := S.grow s1
  refine (hb Kp F own H1 st S1).mono fun y H2 ⟨s2, q2⟩ => ?_
  have S2 := S1.grow s2
  refine h2 own F H2 x y _ S2.frs ((q1.up (reg_up s2)).b reg_sub) (q2.b reg_sub) fun z H3 s3 q3 => ⟨k, bl_of q3, ?_⟩
  cases k with
  | true =>
    rw [if_pos rfl]
    refine (hc Kp F own H3 st (S2.grow s3)).mono fun w H4 ⟨s4, q4⟩ => ?_
    exact h4 own F H4 y w _ ((S2.grow s3).grow s4).frs ((q2.up (reg_up (s3.trans s4))).b reg_sub) (q4.b reg_sub) fun z H5 s5 q5 => ⟨(((s1.trans s2).trans s3).trans s4).trans s5, q5⟩
  | false =>
    rw [if_neg Bool.false_ne_true]
    exact ⟨(s1.trans s2).trans s3, .bl _⟩
/-! ### and, or, not, if .. else as values -/
theorem d_one {op : BoolOp} (h : DE X a dl t) : DE X (.BoolOp op [a] pos) dl t := fun Kp F own H st S => we_of (pe_one (peW a)) (h Kp F own H st S)
theorem d_and {rest : List Expr} {k l : Bool} (ha : DE X a dl (.p (.bool k))) (hb : k = true → DE X (.BoolOp .And (b :: rest) pos) dl (.p (.bool l))) : DE X (.BoolOp .And (a :: b :: rest) pos) dl (.p (.bool (k && l))) := fun Kp F own H st S => by
  refine we_of (pe_and (peW a) (peW _)) ?_
  refine (ha Kp F own H st S).mono fun x H1 ⟨s1, q1⟩ => ⟨k, bl_of q1, ?_⟩
  cases k with
  | true => rw [if_pos rfl]; exact (hb rfl Kp F own H1 st (S.grow s1)).mono fun y H2 ⟨s2, q2⟩ => ⟨s1.trans s2, q2⟩
  | false => rw [if_neg Bool.false_ne_true]; exact ⟨s1, .bl _⟩
theorem d_or {rest : List Expr} {k l : Bool} (ha : DE X a dl (.p (.bool k))) (hb : k = false → DE X (.BoolOp .Or (b :: rest) pos) dl (.p (.bool l))) : DE X (.BoolOp .Or (a :: b :: rest) pos) dl (.p (.bool (k || l))) := fun Kp F own H st S => by
  refine we_of (pe_or (peW a) (peW _)) ?_
  refine (ha Kp F own H st S).mono fun x H1 ⟨s1, q1⟩ => ⟨k, bl_of q1, ?_⟩
  cases k with
  | false => rw [if_neg Bool.false_ne_true]; exact (hb rfl Kp F own H1 st (S.grow s1)).mono fun y H2 ⟨s2, q2⟩ => ⟨s1.trans s2, q2⟩
  | true => rw [if_pos rfl]; exact ⟨s1, .bl _⟩
theorem d_not {k : Bool} (ha : DE X a dl (.p (.bool k))) : DE X (.UnaryOp .Not a pos) dl (.p (.bool (!k))) := fun Kp F own H st S =>
  we_of (pe_not (peW a)) ((ha Kp F own H st S).mono fun x H1 ⟨s1, q1⟩ => ⟨k, bl_of q1, s1, .bl _⟩)
theorem d_neg {i : Int} (ha : DE X a dl (.p (.int i))) : DE X (.UnaryOp .USub a pos) dl (.p (.int (-i))) := fun Kp F own H st S =>
  we_of (pe_un un_neg (peW a)) ((ha Kp F own H st S).mono fun x H1 ⟨s1, q1⟩ => ⟨i, int_of q1, s1, .int _⟩)
theorem d_if {k : Bool} (hc : DT X c dl k) (ha : k = true → DE X a dl t) (hb : k = false → DE X b dl t) : DE X (.IfExp c a b pos) dl t := fun Kp F own H st S => by
  refine we_of (pe_ifExp (ptW c) (peW a) (peW b)) ?_
  refine (hc Kp F own H st S).mono fun x H1 ⟨s1, q1⟩ => ?_
  subst q1
  cases x with
  | true => rw [if_pos rfl]; exact (ha rfl Kp F own H1 st (S.grow s1)).mono fun y H2 ⟨s2, q2⟩ => ⟨s1.trans s2, q2⟩
  | false => rw [if_neg Bool.false_ne_true]; exact (hb rfl Kp F own H1 st (S.grow s1)).mono fun y H2 ⟨s2, q2⟩ => ⟨s1.trans s2, q2⟩
/-! ### tests -/
theorem dt_val {k : Bool} (h : DE X e dl (.p (.bool k))) (he : ∀ whole, isTrue e X.env whole = (do let v ← whole; standAt e.pos; holding [v] (truthy v)) := by intro _; rfl) : DT X e dl k := fun Kp F own H st S =>
  wt_of (pt_val (peW e) he) ((h Kp F own H st S).mono fun x H1 ⟨s1, q1⟩ => ⟨k, bl_of q1, s1, rfl⟩)
theorem dt_not {k : Bool} (h : DT X a dl k) : DT X (.UnaryOp .Not a pos) dl (!k) := fun Kp F own H st S =>
  wt_of (pt_not (ptW a)) ((h Kp F own H st S).mono fun x H1 ⟨s1, q1⟩ => ⟨s1, by rw [q1]⟩)
def WW (X : Cx) (e : Expr) : TT := fun st H Q => ∀ (whole : Sem Value) (pins : List (Addr × Obj)) (s : Shared), Inv X pins st H s → wpAny (model X.prog X.w) X.A (isTrue e X.env whole) (TP X pins st Q) X.xe s
theorem pwW (e : Expr) : PW X e (WW X e) := ⟨fun wh pins s _ _ _ I h => h wh pins s I⟩
/-- a chain of and, or, as a test -/
def DW (X : Cx) (e : Expr) (dl : List Sl) (k : Bool) : Prop := ∀ (Kp : Hp) (F : Addr → Prop) (own : Nat → List Addr) (H : Hp) (st : L2.St), SE X Kp F dl own H st → WW X e st H fun c H' => Same H H' ∧ c = k
theorem WW.mono {st : L2.St} {H : Hp} {Q Q' : Bool → Hp → Prop} (h : WW X e st H Q) (hq : ∀ v H', Q v H' → Q' v H') : WW X e st H Q' := fun wh pins s I =>
  thn (h wh pins s I) fun _ _ ⟨H', I', q⟩ => ⟨H', I', hq _ _ q⟩
theorem DW.test {k : Bool} (h : DW X e dl k) : DT X e dl k := fun Kp F own H st S => wt_of (pwW e).pt (h Kp F own H st S)
theorem dw_and1 {k : Bool} (h : DT X a dl k) : DW X (.BoolOp .And [a] pos) dl k := fun Kp F own H st S => fun wh pins s I => (pw_and1 (ptW a)).run wh pins s st H _ I (h Kp F own H st S)
theorem dw_or1 {k : Bool} (h : DT X a dl k) : DW X (.BoolOp .Or [a] pos) dl k := fun Kp F own H st S => fun wh pins s I => (pw_or1 (ptW a)).run wh pins s st H _ I (h Kp F own H st S)
theorem dw_and {rest : List Expr} {k l : Bool} (ha : DT X a dl k) (hb : k = true → DW X (.BoolOp .And (b :: rest) pos) dl l) : DW X (.BoolOp .And (a :: b :: rest) pos) dl (k && l) := fun Kp F own H st S => fun wh pins s I => by
  refine (pw_and (ptW a) (pwW _)).run wh pins s st H _ I ?_
  refine (ha Kp F own H st S).mono fun x H1 ⟨s1, q1⟩ => ?_
  subst q1
  cases x with
  | true => rw [if_pos rfl]; exact (hb rfl Kp F own H1 st (S.grow s1)).mono fun y H2 ⟨s2, q2⟩ => ⟨s1.trans s2, q2⟩
  | false => rw [if_neg Bool.false_ne_true]; exact ⟨s1, rfl⟩
theorem dw_or {rest : List Expr} {k l : Bool} (ha : DT X a dl k) (hb : k = false → DW X (.BoolOp .Or (b :: rest) pos) dl l) : DW X (.BoolOp .Or (a :: b :: rest) pos) dl (k || l) := fun Kp F own H st S => fun wh pins s I => by
  refine (pw_or (ptW a) (pwW _)).run wh pins s st H _ I ?_
  refine (ha Kp F own H st S).mono fun x H1 ⟨s1, q1⟩ => ?_
  subst q1
  cases x with
  | false => rw [if_neg Bool.false_ne_true]; exact (hb rfl Kp F own H1 st (S.grow s1)).mono fun y H2 ⟨s2, q2⟩ => ⟨s1.trans s2, q2⟩
  | true => rw [if_pos rfl]; exact ⟨s1, rfl⟩
/-! ### subscripts -/
theorem atI_dpa {K : PySem.W.Frag} {G : Hp} {vs : List V} {ds : List PyData} {i : Int} {d : PyData} (h : DpAll K G vs ds) (e : atI ds i = some d) : ∃ v, atI vs i = some v ∧ Dp K G v d := by
  unfold atI at e ⊢
  rw [dpa_len h]
  cases q : ixN ds.length i with
  | none => rw [q] at e; cases e
  | some j =>
    rw [q] at e
    obtain ⟨v, h1, h2⟩ := dpa_get h (show ds[j]? = some d from e)
    exact ⟨v, h1, h2⟩
theorem d_ixL {ds : List PyData} {i : Int} {d : PyData} (ha : DB X a dl (.p (.list ds))) (hb : DE X b dl (.p (.int i))) (hi : atI ds i = some d) (hs : PlainIx b := by intro _ _; rfl) : DE X (.Subscript a b pos) dl (.p d) := fun Kp F own H st S => by
  refine we_of (pe_ix ix_list (peW a) (peW b) hs) ?_
  refine (ha Kp F own H st S).mono fun x H1 ⟨s1, q1⟩ => ?_
  refine (hb Kp F own H1 st (S.grow s1)).mono fun y H2 ⟨s2, q2⟩ => ?_
  obtain ⟨p, vs, rfl, h1, h2⟩ := q1
  obtain ⟨v, h3, h4⟩ := atI_dpa h2 hi
  exact ⟨p, vs, i, v, rfl, int_of q2, sqL_mono s2 h1, h3, s1.trans s2, h4.up (reg_up s2)⟩
theorem d_ixT {ds : List PyData} {i : Int} {d : PyData} (ha : DE X a dl (.p (.tuple ds))) (hb : DE X b dl (.p (.int i))) (hi : atI ds i = some d) (hs : PlainIx b := by intro _ _; rfl) : DE X (.Subscript a b pos) dl (.p d) := fun Kp F own H st S => by
  refine we_of (pe_ix ix_tup (peW a) (peW b) hs) ?_
  refine (ha Kp F own H st S).mono fun x H1 ⟨s1, q1⟩ => ?_
  refine (hb Kp F own H1 st (S.grow s1)).mono fun y H2 ⟨s2, q2⟩ => ?_
  cases (show Dp X.K (reg own F H1) x (.tuple ds) from q1) with
  | tup h1 h2 =>
    obtain ⟨v, h3, h4⟩ := atI_dpa h2 hi
    exact ⟨_, _, i, v, rfl, int_of q2, sqT_mono (reg_sub.trans s2) h1, h3, s1.trans s2, h4.up (reg_up s2)⟩
/-- d[k] of a dict of data -/
theorem d_ixN {ds : List PyData} {kvs : List (NestedKey × PyData)} {d : PyData} (k : NestedKey) (hu : X.A.units + 64 < cLine) (ha : DB X a dl (.dic kvs)) (hb : DE X b dl (.p (.tuple ds))) (hk : k.data = .tuple ds) (hd : k.depth ≤ 8) (hl : lk kvs k = some d)
    (hs : NoSl b := by intro _ _; rfl) : DE X (.Subscript a b pos) dl (.p d) := fun Kp F own H st S => by
  refine we_of (pe_ixN hu (peW a) (peW b) hs) ?_
  refine (ha Kp F own H st S).mono fun x H1 ⟨s1, q1⟩ => ?_
  refine (hb Kp F own H1 st (S.grow s1)).mono fun y H2 ⟨s2, q2⟩ => ?_
  obtain ⟨p, rfl, D⟩ := RB.dicAt (q1.up (reg_up s2) s2)
  have q2' : Dp X.K (reg own F H2) y (.tuple ds) := q2
  obtain ⟨b', rfl⟩ := ref_of q2'
  exact ⟨b', p, k, _, kvs, d, rfl, rfl, reg_sub, by rw [hk]; exact q2'.up reg_sub, hd, D, hl, fun z hz => ⟨s1.trans s2, hz⟩⟩
/-! ### tuples and lists that are written -/
/-- the items of a display: data -/
def DP (X : Cx) (es : List Expr) (dl : List Sl) (ds : List PyData) : Prop := ∀ (Kp : Hp) (F : Addr → Prop) (own : Nat → List Addr) (H : Hp) (st : L2.St), SE X Kp F dl own H st → WA X es st H fun vs H' => Same H H' ∧ DpAll X.K (reg own F H') vs ds
theorem dp_nil : DP X [] dl [] := fun _ _ _ H _ _ => wa_of pa_nil ⟨Same.refl H, .nil⟩
theorem dp_cons {d : PyData} {ds : List PyData} (h : DE X e dl (.p d)) (hs : DP X es dl ds) (he : starEach (e :: es) X.env = (false, eval e X.env) :: starEach es X.env := by rfl) : DP X (e :: es) dl (d :: ds) := fun Kp F own H st S => by
  refine wa_of (pa_cons (peW e) (paW es) he) ?_
  refine (h Kp F own H st S).mono fun v H1 ⟨s1, q1⟩ => ?_
  refine (hs Kp F own H1 st (S.grow s1)).mono fun vs H2 ⟨s2, q2⟩ => ⟨s1.trans s2, .cons (Dp.up q1 (reg_up s2)) q2⟩
theorem d_tup {ds : List PyData} {k : Nat} (h : DP X es dl ds) (hz : ds.length ≤ 100000) : DE X (.Tuple es k pos) dl (.p (.tuple ds)) := fun Kp F own H st S => by
  refine we_of (pe_tup (paW es)) ?_
  refine (h Kp F own H st S).mono fun vs H1 ⟨s1, q1⟩ => ⟨by rw [dpa_len q1]; exact Nat.le_trans hz (by decide), fun p hp => ⟨s1.trans (same_new hp), new_tup (S.grow s1).frs hp q1⟩⟩
theorem d_lst {ds : List PyData} (h : DP X es dl ds) (hz : ds.length ≤ 100000) : DE X (.List es pos) dl (.p (.list ds)) := fun Kp F own H st S => by
  refine we_of (pe_lst (paW es)) ?_
  refine (h Kp F own H st S).mono fun vs H1 ⟨s1, q1⟩ => ⟨by rw [dpa_len q1]; exact Nat.le_trans hz (by decide), fun p hp => ⟨s1.trans (same_new hp), new_list (S.grow s1).frs hp q1⟩⟩
theorem d_dnew : DE X (.Dict [] [] pos) dl (.dic []) := fun Kp F own H st S =>
  we_of pe_dnewN fun p o hp hm E => ⟨same_new hp, p, o, rfl, hm, reg_new S.frs hp, E.up fun _ _ z => nomatch z⟩
/-! ### the Box's attributes, the law's dicts -/
def BoxF (K : PySem.W.Frag) (mg : Str → Option Value) : Prop := ∀ C, mg "Box" = some (.ref C) → Cls K C ∧ NoAttr K C "sides" ∧ NoAttr K C "tracks" ∧ NoAttr K C "switches"
theorem boxF1 (s t : Int) (v : V) : (boxF s t v).lookup ("sides" : Str) = some (V.int s) := by simp [boxF, List.lookup]
theorem boxF2 (s t : Int) (v : V) : (boxF s t v).lookup ("tracks" : Str) = some (V.int t) := by
  have h : (("tracks" : Str) == ("sides" : Str)) = false := by decide +kernel
  simp [boxF, List.lookup, h]
theorem boxF3 (s t : Int) (v : V) : (boxF s t v).lookup ("switches" : Str) = some v := by
  have h : (("switches" : Str) == ("sides" : Str)) = false := by decide +kernel
  have h' : (("switches" : Str) == ("tracks" : Str)) = false := by decide +kernel
  simp [boxF, List.lookup, h, h']
theorem d_sides {s t : Int} {w : PyData} (B : BoxF X.K X.mg) (ha : DE X a dl (.box s t w)) (hb : attributeBase a "sides" X.env (eval a X.env) = eval a X.env := by rfl) : DE X (.Attribute a "sides" pos) dl (.p (.int s)) := fun Kp F own H st S => by
  refine we_of (pe_fld (peW a) hb) ?_
  refine (ha Kp F own H st S).mono fun x H1 ⟨s1, q1⟩ => ?_
  obtain ⟨p, C, dx, u, rfl, h1, h2, h3⟩ := q1
  exact ⟨p, C, dx, _, _, rfl, reg_sub _ _ h2, (B C h1).1, (B C h1).2.1, boxF1 _ _ _, s1, .int _⟩
theorem d_tracks {s t : Int} {w : PyData} (B : BoxF X.K X.mg) (ha : DE X a dl (.box s t w)) (hb : attributeBase a "tracks" X.env (eval a X.env) = eval a X.env := by rfl) : DE X (.Attribute a "tracks" pos) dl (.p (.int t)) := fun Kp F own H st S => by
  refine we_of (pe_fld (peW a) hb) ?_
  refine (ha Kp F own H st S).mono fun x H1 ⟨s1, q1⟩ => ?_
  obtain ⟨p, C, dx, u, rfl, h1, h2, h3⟩ := q1
  exact ⟨p, C, dx, _, _, rfl, reg_sub _ _ h2, (B C h1).1, (B C h1).2.2.1, boxF2 _ _ _, s1, .int _⟩
theorem d_switches {s t : Int} {w : PyData} (B : BoxF X.K X.mg) (ha : DE X a dl (.box s t w)) (hb : attributeBase a "switches" X.env (eval a X.env) = eval a X.env := by rfl) : DE X (.Attribute a "switches" pos) dl (.p w) := fun Kp F own H st S => by
  refine we_of (pe_fld (peW a) hb) ?_
  refine (ha Kp F own H st S).mono fun x H1 ⟨s1, q1⟩ => ?_
  obtain ⟨p, C, dx, u, rfl, h1, h2, h3⟩ := q1
  exact ⟨p, C, dx, _, _, rfl, reg_sub _ _ h2, (B C h1).1, (B C h1).2.2.2, boxF3 _ _ _, s1, h3⟩
end
end Ac
-- part A6
set_option maxHeartbeats 4000000
set_option Elab.async false
set_option maxRecDepth 100000
set_option linter.all false
/-! Ac, part 6: calls; what is walked; list comprehensions. -/
namespace Ac
open PySem PySem.Spec PyProof.Rows L2
theorem reg_merge {own : Nat → List Addr} {F : Addr → Prop} {H : Hp} : reg own0 (fun a => (∃ i, a ∈ own i) ∨ F a) H = reg own F H := by
  funext a
  unfold reg own0
  by_cases h : (∃ i, a ∈ own i) ∨ F a
  · rw [if_pos h, if_pos (.inr h)]
  · rw [if_neg h, if_neg (by rintro (⟨i, z⟩ | z); exact (nomatch z); exact h z)]
/-! ### a def without effects, by what it hands back -/
def spT (w : World) (K : PySem.W.Frag) (mg : Str → Option Value) {I : Type} (arg : I → List T) (ok : I → Prop) (res : I → T) : Sp := fun vs H Q _ =>
  ∃ (F : Addr → Prop) (i : I), (∀ a, F a → H a ≠ none) ∧ RTs w K mg (reg own0 F H) vs (arg i) ∧ ok i ∧ ∀ v H', Same H H' → RT w K mg (reg own0 F H') v (res i) → Q v H'
/-- the def x of the module keeps this promise -/
structure Fn (P : Program) (w : World) (K : PySem.W.Frag) (mg : Str → Option Value) (base : Heap) (x : Str) (k : Nat) {I : Type} (arg : I → List T) (ok : I → Prop) (res : I → T) : Prop where
  ex : ∃ (f : Addr) (fd : FuncData) (ps : List Str), mg x = some (.ref f) ∧ PySem.W.keepIn K (.ref f) = true ∧ Binds K fd ps [] ∧ FnOk P w K mg base CX0 k f fd ps (spT w K mg arg ok res)
abbrev FnX (X : Cx) (x : Str) (k : Nat) {I : Type} (arg : I → List T) (ok : I → Prop) (res : I → T) : Prop := Fn X.prog X.w X.K X.mg X.base x k arg ok res
section
variable {X : Cx} {e a b c : Expr} {es : List Expr} {dl : List Sl} {t u r : T} {pos p : Pos}
theorem d_call {I : Type} {arg : I → List T} {ok : I → Prop} {res : I → T} {x : Str} {k : Nat} (G : FnX X x k arg ok res) (hr : Room k X.A) (i : I) (ha : DA X (e :: es) dl (arg i)) (hok : ok i) (hg : Gl X x := by rfl) (hdb : (x == ("__debug__" : Str)) = false := by decide)
    (he : starEach (e :: es) X.env = (false, eval e X.env) :: starEach es X.env := by rfl) (hpl : (backTo pos (starEach es X.env)).any (·.1) = false := by rfl) : DE X (.Call (.Name x p) (e :: es) [] pos) dl (res i) := fun Kp F own H st S => by
  obtain ⟨f, fd, ps, hm, hk, hb, G⟩ := G.ex
  refine we_of (pe_call G hr hg hm hk hb .nil pass0 (paW (e :: es)) hdb he hpl) ?_
  refine (ha Kp F own H st S).mono fun vs H1 ⟨s1, q1⟩ => ?_
  have S1 := S.grow s1
  rw [List.append_nil]
  refine ⟨fun a => (∃ i, a ∈ own i) ∨ F a, i, fun a h => ?_, by rw [reg_merge]; exact q1, hok, fun v H' s2 q2 => ⟨s1.trans s2, by rw [reg_merge] at q2; exact q2⟩⟩
  rcases h with ⟨j, h⟩ | h
  · exact S1.there h
  · exact S1.fn a h
/-! ### built-in functions of one argument -/
def CallD1 (X : Cx) (f : Value) (t r : T) : Prop :=
  ∃ r', CallR X f r' ∧ ∀ (own : Nat → List Addr) (F : Addr → Prop) (H : Hp) (x : V) (Q : VK), Frs own F H → BX X own F H x t → (∀ z H', Same H H' → RX X own F H' z r → Q z H') → r' [x] H Q
theorem d_callB {x : Str} {id : String} (hc : CallD1 X (.builtin id) t r) (ha : DB X a dl t) (hm : X.mg x = none) (hg : Gl X x := by rfl) (hv : bootBuiltins x = some (.builtin id) := by decide +kernel) (hn : x ≠ "__name__" := by decide) (hdb : (x == ("__debug__" : Str)) = false := by decide)
    (he : starEach [a] X.env = (false, eval a X.env) :: starEach [] X.env := by rfl) : DE X (.Call (.Name x p) [a] [] pos) dl r := fun Kp F own H st S => by
  obtain ⟨r', h1, h2⟩ := hc
  refine we_of (pe_callB h1 hg hm hv (pa_cons (peW a) pa_nil he) hn hdb he rfl) ?_
  refine (ha Kp F own H st S).mono fun v H1 ⟨s1, q1⟩ => ?_
  exact h2 own F H1 v _ (S.grow s1).frs q1 fun z H' s2 q2 => ⟨s1.trans s2, q2⟩
theorem d_callT {x : Str} {id : String} (hc : CallD1 X (.type id) t r) (ha : DB X a dl t) (hm : X.mg x = none) (hg : Gl X x := by rfl) (hv : bootBuiltins x = some (.type id) := by decide +kernel) (hn : x ≠ "__name__" := by decide) (hdb : (x == ("__debug__" : Str)) = false := by decide)
    (he : starEach [a] X.env = (false, eval a X.env) :: starEach [] X.env := by rfl) : DE X (.Call (.Name x p) [a] [] pos) dl r := fun Kp F own H st S => by
  obtain ⟨r', h1, h2⟩ := hc
  refine we_of (pe_callTy h1 hg hm hv (pa_cons (peW a) pa_nil he) hn hdb he rfl) ?_
  refine (ha Kp F own H st S).mono fun v H1 ⟨s1, q1⟩ => ?_
  exact h2 own F H1 v _ (S.grow s1).frs q1 fun z H' s2 q2 => ⟨s1.trans s2, q2⟩
theorem dpa_bls {K : PySem.W.Frag} {G : Hp} : ∀ {bs : List Bool} {vs : List V}, DpAll K G vs (bs.map .bool) → vs = bs.map V.bl
  | [], _, .nil => rfl
  | b :: bs, _, .cons h t => by cases h; rw [dpa_bls t]; rfl
theorem dpa_ints {K : PySem.W.Frag} {G : Hp} : ∀ {bs : List Int} {vs : List V}, DpAll K G vs (bs.map .int) → vs = bs.map V.int
  | [], _, .nil => rfl
  | b :: bs, _, .cons h t => by cases h; rw [dpa_ints t]; rfl
theorem ints_dpa {K : PySem.W.Frag} {G : Hp} : ∀ (bs : List Int), DpAll K G (bs.map V.int) (bs.map .int)
  | [] => .nil
  | b :: bs => .cons (.int b) (ints_dpa bs)
theorem c_all {bs : List Bool} (hc : X.calm = true) : CallD1 X (.builtin "all") (.p (.list (bs.map .bool))) (.p (.bool (bs.all id))) :=
  ⟨_, cr_all hc, fun own F H x Q f hx q => by
    obtain ⟨a, vs, rfl, h1, h2⟩ := hx
    exact ⟨a, bs, rfl, by rw [← dpa_bls h2]; exact h1, q _ H (Same.refl H) (.bl _)⟩⟩
theorem c_any {bs : List Bool} (hc : X.calm = true) : CallD1 X (.builtin "any") (.p (.list (bs.map .bool))) (.p (.bool (bs.any id))) :=
  ⟨_, cr_any hc, fun own F H x Q f hx q => by
    obtain ⟨a, vs, rfl, h1, h2⟩ := hx
    exact ⟨a, bs, rfl, by rw [← dpa_bls h2]; exact h1, q _ H (Same.refl H) (.bl _)⟩⟩
theorem c_max {m : Int} {ns : List Int} (hc : X.calm = true) (h0 : 0 < ns.length) (hm : ∀ k, k ∈ ns → (∀ y, y ∈ ns → y ≤ k) → k = m) : CallD1 X (.builtin "max") (.p (.list (ns.map .int))) (.p (.int m)) :=
  ⟨_, cr_max hc, fun own F H x Q f hx q => by
    obtain ⟨a, vs, rfl, h1, h2⟩ := hx
    exact ⟨a, ns, rfl, by rw [← dpa_ints h2]; exact h1, h0, fun k k1 k2 => q _ H (Same.refl H) (by rw [hm k k1 k2]; exact .int m)⟩⟩
theorem c_abs {i : Int} : CallD1 X (.builtin "abs") (.p (.int i)) (.p (.int (if i < 0 then -i else i))) :=
  ⟨_, call_abs, fun own F H x Q f hx q => ⟨i, by rw [int_of hx], q _ H (Same.refl H) (.int _)⟩⟩
theorem c_int {i : Int} : CallD1 X (.type "int") (.p (.int i)) (.p (.int i)) :=
  ⟨_, call_int1, fun own F H x Q f hx q => .inl ⟨i, by rw [int_of hx], q _ H (Same.refl H) (.int _)⟩⟩
theorem c_intB {k : Bool} : CallD1 X (.type "int") (.p (.bool k)) (.p (.int (if k then 1 else 0))) :=
  ⟨_, call_int1, fun own F H x Q f hx q => .inr ⟨k, by rw [bl_of hx], q _ H (Same.refl H) (.int _)⟩⟩
theorem c_lenL {ds : List PyData} : CallD1 X (.builtin "len") (.p (.list ds)) (.p (.int ds.length)) :=
  ⟨_, call_len_seq, fun own F H x Q f hx q => by
    obtain ⟨a, vs, rfl, h1, h2⟩ := hx
    exact ⟨a, vs, rfl, .inl h1, by rw [dpa_len h2]; exact q _ H (Same.refl H) (.int _)⟩⟩
theorem c_lenT {ds : List PyData} : CallD1 X (.builtin "len") (.p (.tuple ds)) (.p (.int ds.length)) :=
  ⟨_, call_len_seq, fun own F H x Q f hx q => by
    cases (show Dp X.K (reg own F H) x (.tuple ds) from hx) with
    | tup h1 h2 => exact ⟨_, _, rfl, .inr (sqT_mono reg_sub h1), by rw [dpa_len h2]; exact q _ H (Same.refl H) (.int _)⟩⟩
theorem c_tuple {ds : List PyData} : CallD1 X (.type "tuple") (.p (.list ds)) (.p (.tuple ds)) :=
  ⟨_, call_tuple_of, fun own F H x Q f hx q => by
    obtain ⟨a, vs, rfl, h1, h2⟩ := hx
    exact ⟨a, vs, rfl, .inl ⟨h1, fun l hl => q _ _ (same_new hl) (new_tup f hl h2)⟩⟩⟩
theorem c_list {ds : List PyData} : CallD1 X (.type "list") (.p (.list ds)) (.p (.list ds)) :=
  ⟨_, call_list_of, fun own F H x Q f hx q => by
    obtain ⟨a, vs, rfl, h1, h2⟩ := hx
    exact ⟨a, vs, rfl, .inl h1, fun l hl => q _ _ (same_new hl) (new_list f hl h2)⟩⟩
theorem c_listT {ds : List PyData} : CallD1 X (.type "list") (.p (.tuple ds)) (.p (.list ds)) :=
  ⟨_, call_list_of, fun own F H x Q f hx q => by
    cases (show Dp X.K (reg own F H) x (.tuple ds) from hx) with
    | tup h1 h2 => exact ⟨_, _, rfl, .inr (sqT_mono reg_sub h1), fun l hl => q _ _ (same_new hl) (new_list f hl h2)⟩⟩
/-! ### isinstance -/
/-- isinstance(x, T), T a built-in class that x is not hidden from: k by computing -/
inductive TyD : T → String → Prop where
  | int (i : Int) : TyD (.p (.int i)) "int"
  | bool (i : Bool) : TyD (.p (.bool i)) "bool"
  | str (i : Str) : TyD (.p (.str i)) "str"
  | tup (ds : List PyData) : TyD (.p (.tuple ds)) "tuple"
theorem TyD.x {own : Nat → List Addr} {F : Addr → Prop} {H : Hp} {v : V} {n : String} (h : TyD t n) (hx : BX X own F H v t) : TyX X.K H v (.type n) := by
  cases h with
  | int i => rw [int_of hx]; exact .base (.int i)
  | bool i => rw [bl_of hx]; exact .base (.bl i)
  | str i => rw [str_of hx]; exact .base (.str i)
  | tup ds =>
    cases (show Dp X.K (reg own F H) v (.tuple ds) from hx) with
    | tup h1 h2 =>
      rcases sqT_mono reg_sub h1 with (h | ⟨o, h⟩) | ⟨o, its, n, h, h3, _⟩
      · exact .base (.tup h)
      · exact .fTuple h
      · exact .kTuple h h3
theorem d_isi {cl n : String} {x y : Str} {k : Bool} {p2 : Pos} (hn : TyD t n) (hk : kitB n cl = some k) (ha : DE X a dl t) (hm : X.mg x = none) (hmy : X.mg y = none) (hx : x = "isinstance" := by rfl) (hy : bootBuiltins y = some (.type cl) := by decide +kernel)
    (hg : Gl X x := by rfl) (hgy : Gl X y := by rfl) (hn2 : y ≠ "__name__" := by decide) (hdb : (y == ("__debug__" : Str)) = false := by decide) (hs : starEach [a, .Name y p2] X.env = (false, eval a X.env) :: starEach [.Name y p2] X.env := by rfl) : DE X (.Call (.Name x p) [a, .Name y p2] [] pos) dl (.p (.bool k)) := fun Kp F own H st S => by
  subst hx
  refine we_of (pe_callB call_isi hg hm (by decide +kernel) (pa_cons (peW a) (pa_cons (pe_bltn (v := .ty cl) hgy hmy hy rfl hn2 hdb) pa_nil) hs) (by decide) (by decide) hs rfl) ?_
  refine (ha Kp F own H st S).mono fun v H1 ⟨s1, q1⟩ => ?_
  exact ⟨v, .ty cl, .type n, .type cl, k, rfl, .ty cl, hn.x (q1.b reg_sub), kit_ty hk, s1, .bl k⟩
/-! ### what a loop walks -/
/-- e, walked with the target tg, gives the data ds -/
def DI (X : Cx) (tg e : Expr) (dl : List Sl) (ds : List PyData) : Prop := ∀ (Kp : Hp) (F : Addr → Prop) (own : Nat → List Addr) (H : Hp) (st : L2.St), SE X Kp F dl own H st → WI X tg e st H fun J H1 => Same H H1 ∧
  ∃ (G : Hp → Prop) (Y : Nat → Hp → V → Hp → Prop), Walk J ds.length G Y ∧ (∀ H2, Same (reg own F H1) H2 → G H2) ∧
    ∀ (i : Nat) (H2 : Hp) (x : V) (H3 : Hp) (d : PyData), ds[i]? = some d → Y i H2 x H3 → Same H2 H3 ∧ ∀ R, Same (reg own F H1) R → (∀ a o, H2 a = none → H3 a = some o → R a = some o) → Dp X.K R x d
theorem di_list {tg : Expr} {ds : List PyData} (h : DE X e dl (.p (.list ds))) : DI X tg e dl ds := fun Kp F own H st S => by
  refine wi_of (pi_list (peW e)) ?_
  refine (h Kp F own H st S).mono fun v H1 ⟨s1, q1⟩ => ?_
  cases (show Dp X.K (reg own F H1) v (.list ds) from q1) with
  | @lst a xs _ h1 h2 =>
    refine ⟨a, rfl, ⟨xs, sqL_mono reg_sub h1⟩, s1, fun H2 => SqL X.K H2 a xs, YAt xs, by rw [← dpa_len h2]; exact walk_list, fun H2 s2 => sqL_mono s2 h1, fun i H2 x H3 d hd ⟨e1, e2⟩ => ?_⟩
    subst e1
    obtain ⟨v, h3, h4⟩ := dpa_get h2 hd
    rw [e2] at h3
    cases h3
    exact ⟨Same.refl _, fun R s3 _ => h4.up s3⟩
theorem di_tup {tg : Expr} {ds : List PyData} (h : DE X e dl (.p (.tuple ds))) : DI X tg e dl ds := fun Kp F own H st S => by
  refine wi_of (pi_tup (peW e)) ?_
  refine (h Kp F own H st S).mono fun v H1 ⟨s1, q1⟩ => ?_
  cases (show Dp X.K (reg own F H1) v (.tuple ds) from q1) with
  | @tup a xs _ h1 h2 =>
    refine ⟨a, rfl, ⟨xs, sqT_mono reg_sub h1⟩, s1, fun H2 => SqT X.K H2 a xs, YAt xs, by rw [← dpa_len h2]; exact walk_tup, fun H2 s2 => sqT_mono s2 h1, fun i H2 x H3 d hd ⟨e1, e2⟩ => ?_⟩
    subst e1
    obtain ⟨v, h3, h4⟩ := dpa_get h2 hd
    rw [e2] at h3
    cases h3
    exact ⟨Same.refl _, fun R s3 _ => h4.up s3⟩
/-- lo, lo + 1, .. -/
def rgD (lo : Int) (n : Nat) : List PyData := (List.range n).map fun i => .int (lo + (i : Nat))
theorem rgD_len (lo : Int) (n : Nat) : (rgD lo n).length = n := by unfold rgD; rw [List.length_map, List.length_range]
theorem rgD_get {lo : Int} {n i : Nat} {d : PyData} (h : (rgD lo n)[i]? = some d) : d = .int (lo + i) := by
  unfold rgD at h
  rw [List.getElem?_map] at h
  cases q : (List.range n)[i]? with
  | none => rw [q] at h; cases h
  | some j =>
    rw [q] at h
    obtain ⟨h1, h2⟩ := List.getElem?_eq_some_iff.mp q
    rw [List.getElem_range] at h2
    subst h2
    exact (Option.some.inj h).symm
theorem di_range1 {tg : Expr} {n : Int} (h : DE X a dl (.p (.int n))) (h1 : -(2 ^ 62) ≤ n) (h2 : n < 2 ^ 62) (hm : X.mg "range" = none) (hg : Gl X "range" := by rfl) (hs : starEach [a] X.env = [(false, eval a X.env)] := by rfl) : DI X tg (.Call (.Name "range" p) [a] [] pos) dl (rgD 0 n.toNat) := fun Kp F own H st S => by
  refine wi_of (pi_range1 hg hm (pa_cons (peW a) pa_nil hs) hs) ?_
  refine (h Kp F own H st S).mono fun v H1 ⟨s1, q1⟩ => ?_
  refine ⟨n, by rw [int_of q1], h1, h2, s1, fun _ => True, YFn fun i => .int (0 + i), by rw [rgD_len]; exact walk_range, fun _ _ => True.intro, fun i H2 x H3 d hd ⟨e1, e2⟩ => ?_⟩
  subst e1 e2
  rw [rgD_get hd]
  exact ⟨Same.refl _, fun R _ _ => .int _⟩
theorem di_range2 {tg : Expr} {n m : Int} (h : DE X a dl (.p (.int n))) (h' : DE X b dl (.p (.int m))) (hb : -(2 ^ 62) ≤ n ∧ n < 2 ^ 62 ∧ -(2 ^ 62) ≤ m ∧ m < 2 ^ 62) (hm : X.mg "range" = none) (hg : Gl X "range" := by rfl) (hs : starEach [a, b] X.env = [(false, eval a X.env), (false, eval b X.env)] := by rfl)
    (hs2 : starEach [b] X.env = [(false, eval b X.env)] := by rfl) : DI X tg (.Call (.Name "range" p) [a, b] [] pos) dl (rgD n (m - n).toNat) := fun Kp F own H st S => by
  refine wi_of (pi_range2 hg hm (pa_cons (peW a) (pa_cons (peW b) pa_nil hs2) (by rw [hs, hs2])) hs hs2) ?_
  refine (h Kp F own H st S).mono fun v H1 ⟨s1, q1⟩ => ?_
  refine (h' Kp F own H1 st (S.grow s1)).mono fun v' H1' ⟨s1', q1'⟩ => ?_
  refine ⟨n, m, by rw [int_of q1, int_of q1'], hb, s1.trans s1', fun _ => True, YFn fun i => .int (n + i), by rw [rgD_len]; exact walk_range, fun _ _ => True.intro, fun i H2 x H3 d hd ⟨e1, e2⟩ => ?_⟩
  subst e1 e2
  rw [rgD_get hd]
  exact ⟨Same.refl _, fun R _ _ => .int _⟩
end
end Ac
-- part A7
set_option maxHeartbeats 4000000
set_option Elab.async false
set_option maxRecDepth 100000
set_option linter.all false
/-! Ac, part 7: zip, enumerate, targets, list comprehensions. -/
namespace Ac
open PySem PySem.Spec PyProof.Rows L2
/-! ### zip of a list or a tuple with a list or a tuple -/
def SqX (K : PySem.W.Frag) (H : Hp) (k : Bool) (a : Addr) (xs : List V) : Prop := if k = true then SqL K H a xs else SqT K H a xs
def ItX (h : Heap) (k : Bool) (it a : Addr) (i : Nat) : Prop := if k = true then h.IsListIter it a i else h.IsTupleIter it a i
def ObX (h : Heap) (k : Bool) (a : Addr) (items : Array Value) : Prop := if k = true then h.IsList a items else h.IsTuple a items
theorem SqX.up {K : PySem.W.Frag} {H H' : Hp} {k : Bool} {a : Addr} {xs : List V} (h : SqX K H k a xs) (s : Same H H') : SqX K H' k a xs := by
  cases k
  · exact sqT_mono s h
  · exact sqL_mono s h
theorem SqX.ob {X : Cx} {pins : List (Addr × Obj)} {st : L2.St} {H : Hp} {s : Shared} {k : Bool} {a : Addr} {xs : List V} (I : Inv X pins st H s) (h : SqX X.K H k a xs) : ∃ its : List Value, Vals xs its ∧ ObX s.heap k a its.toArray ∧ a < s.heap.objs.size := by
  cases k
  · obtain ⟨its, r, p, _⟩ := I.tuple (show SqT X.K H a xs from h)
    exact ⟨its, r, p, p.lt⟩
  · obtain ⟨its, r, p, _⟩ := I.list (show SqL X.K H a xs from h)
    exact ⟨its, r, p.isList, p.lt⟩
theorem ItX.obj {h : Heap} {k : Bool} {it a : Addr} {i : Nat} (x : ItX h k it a i) : ∃ o, h.get? it = some o ∧ ∀ v, o.data ≠ .cell v := by
  cases k
  · obtain ⟨o, e, _, d⟩ := (show h.IsTupleIter it a i from x)
    exact ⟨o, e, fun v q => by rw [d] at q; cases q⟩
  · obtain ⟨o, e, _, d⟩ := (show h.IsListIter it a i from x)
    exact ⟨o, e, fun v q => by rw [d] at q; cases q⟩
theorem ItX.keep {h h' : Heap} {k : Bool} {it a : Addr} {i : Nat} (x : ItX h k it a i) (q : ∀ o, h.get? it = some o → h'.get? it = some o) : ItX h' k it a i := by
  cases k
  · exact (show h.IsTupleIter it a i from x).at q
  · exact (show h.IsListIter it a i from x).at q
theorem draws_x {prog : Program} {w : World} {A : Around} (hh : A.handled = none) (k : Bool) (it a : Addr) (hne : a ≠ it) (items : Array Value) :
    Draws prog w A it [it, a] items.size (fun i v => items[i]? = some v) (fun i h => ItX h k it a i ∧ ObX h k a items) := by
  cases k
  · exact Draws.tuple hh it a hne items
  · exact Draws.list hh it a hne items
def ItzM (K : PySem.W.Frag) (k1 k2 : Bool) (a b : Addr) (xs ys : List V) : It :=
  ⟨fun i H => SqX K H k1 a xs ∧ SqX K H k2 b ys ∧ i < min xs.length ys.length,
    fun i H v H' => ∃ T x y, v = .ref T ∧ H T = none ∧ H' = upd H T (.tup [x, y]) ∧ xs[i]? = some x ∧ ys[i]? = some y,
    fun i H => SqX K H k1 a xs ∧ SqX K H k2 b ys ∧ i = min xs.length ys.length⟩
theorem turn_zipM {P : Program} {w : World} {K : PySem.W.Frag} {elts : List Expr} {kk : Nat} {tpos : Pos} {k1 k2 : Bool} {a b z TI TO i1 i2 : Addr} {xs ys : List V} (Z : ZipSep2 z TI TO i1 i2 [i1, a] [i2, b]) (ha : a ≠ i1) (hb : b ≠ i2) :
    Turn P w K (.Tuple elts kk tpos) (ItzM K k1 k2 a b xs ys) [z, TI, TO, i1, i2] z (fun i h => IsZip h z TI TO .none ∧ IsTupOf2 h TI (.ref i1) (.ref i2) ∧ (∃ x y, IsTupOf2 h TO x y) ∧ ItX h k1 i1 a i ∧ ItX h k2 i2 b i) where
  mem := by simp
  obj := fun i h st c hc => by
    obtain ⟨hz, hTI, ⟨x, y, hTO⟩, h1, h2⟩ := st
    have e' : c = z ∨ c = TI ∨ c = TO ∨ c = i1 ∨ c = i2 := by simpa using hc
    rcases e' with rfl | rfl | rfl | rfl | rfl
    · exact ⟨_, hz, fun v q => nomatch q⟩
    · exact ⟨_, hTI, fun v q => nomatch q⟩
    · exact ⟨_, hTO, fun v q => nomatch q⟩
    · exact h1.obj
    · exact h2.obj
  keep := fun i h h' st k => by
    obtain ⟨hz, hTI, ⟨x, y, hTO⟩, h1, h2⟩ := st
    exact ⟨k z (by simp) _ hz, k TI (by simp) _ hTI, ⟨x, y, k TO (by simp) _ hTO⟩, h1.keep fun o q => k i1 (by simp) o q, h2.keep fun o q => k i2 (by simp) o q⟩
  item := by
    intro X hP hw hK hc i pins s st H E I hf q hg
    subst hP hw hK
    obtain ⟨hqx, hqy, hi⟩ := hg
    obtain ⟨its, rv, p, _⟩ := SqX.ob I hqx
    obtain ⟨its2, rv2, p2, _⟩ := SqX.ob I hqy
    have W := WalksT.zipD2 Z (draws_x (prog := X.prog) (w := X.w) (A := X.A.in1) (by exact I.ok.hd hc) k1 i1 a ha its.toArray) (draws_x (by exact I.ok.hd hc) k2 i2 b hb its2.toArray)
    have l1 := rv.length
    have l2 := rv2.length
    refine W.item i s _ _ (by simp; omega) ⟨q.1, q.2.1, q.2.2.1, ⟨q.2.2.2.1, p⟩, q.2.2.2.2, p2⟩ fun T vals h' tk hP hT hTt hm hk => ?_
    obtain ⟨u, u2, hu, hu2, rfl⟩ := hP
    have hu' : its[i]? = some u := by simpa using hu
    have hu2' : its2[i]? = some u2 := by simpa using hu2
    obtain ⟨x, hx, ru⟩ : ∃ x, xs[i]? = some x ∧ RelV x u := by
      cases e : xs[i]? with
      | none => rw [rv.none_of e] at hu'; cases hu'
      | some x => obtain ⟨u', e1, r1⟩ := rv.get e; rw [hu'] at e1; cases e1; exact ⟨x, rfl, r1⟩
    obtain ⟨y, hy, ru2⟩ : ∃ y, ys[i]? = some y ∧ RelV y u2 := by
      cases e : ys[i]? with
      | none => rw [rv2.none_of e] at hu2'; cases hu2'
      | some y => obtain ⟨u', e1, r1⟩ := rv2.get e; rw [hu2'] at e1; cases e1; exact ⟨y, rfl, r1⟩
    refine ⟨_, rfl, ?_⟩
    refine W.go elts kk tpos i T { s with heap := h', toks := tk } _ _ hm fun h'' st'' hk'' => ?_
    have hT'' : h''.IsTuple T #[u, u2] := hTt.at fun o e => hk'' T o (W.apart i T h' hm) e
    have new : ObjOk X.prog X.w (upd H T (.tup [x, y])) h'' T (.tup [x, y]) := ⟨by show 2 ≤ sizeLine; decide, [u, u2], .cons ru (.cons ru2 .nil), hT''⟩
    have I1 : Inv X pins st (upd H T (.tup [x, y])) { s with heap := h'', toks := tk } :=
      I.turnedNew (ch := [z, TI, TO, i1, i2]) (fun c o hb q => by
        have hb' : c ∉ [z, TO, i1, i2] := fun m => hb (by simp at m ⊢; rcases m with m | m | m | m <;> simp [m])
        exact hk'' c o hb' (hk c o hb' q)) hf hT new
    refine ⟨.ref T, _, I1, rfl, ⟨T, x, y, rfl, I.hok.fresh hT, rfl, hx, hy⟩, ⟨st''.1, st''.2.1, st''.2.2.1, st''.2.2.2.1.1, st''.2.2.2.2.1⟩, fun c hcm => ?_⟩
    have hlt : c < s.heap.objs.size := by
      have e' : c = z ∨ c = TI ∨ c = TO ∨ c = i1 ∨ c = i2 := by simpa using hcm
      rcases e' with rfl | rfl | rfl | rfl | rfl
      · exact Heap.lt_size q.1
      · exact Heap.lt_size q.2.1
      · obtain ⟨x, y, e⟩ := q.2.2.1; exact Heap.lt_size e
      · obtain ⟨o, e, _⟩ := q.2.2.2.1.obj; exact Heap.lt_size e
      · obtain ⟨o, e, _⟩ := q.2.2.2.2.obj; exact Heap.lt_size e
    rw [upd_ne (Nat.ne_of_lt (Nat.lt_of_lt_of_le hlt hT))]
    exact (hf c hcm).1
  done := by
    intro X hP hw hK hc i pins s st H E I hf q hg
    subst hP hw hK
    obtain ⟨hqx, hqy, hi⟩ := hg
    obtain ⟨its, rv, p, _⟩ := SqX.ob I hqx
    obtain ⟨its2, rv2, p2, _⟩ := SqX.ob I hqy
    have W := WalksT.zipD2 Z (draws_x (prog := X.prog) (w := X.w) (A := X.A.in1) (by exact I.ok.hd hc) k1 i1 a ha its.toArray) (draws_x (by exact I.ok.hd hc) k2 i2 b hb its2.toArray)
    have e : min its.toArray.size its2.toArray.size = i := by rw [hi, rv.length, rv2.length]; simp
    rw [← e] at q
    exact W.done s _ _ ⟨q.1, q.2.1, q.2.2.1, ⟨q.2.2.2.1, p⟩, q.2.2.2.2, p2⟩ fun h' tk hk => ⟨rfl, I.turnedL (ch := [z, TI, TO, i1, i2]) (fun c o hb q => hk c o (fun m => hb (by simp at m ⊢; rcases m with m | m | m | m <;> simp [m])) q) hf⟩
  self := fun A i s Q E st h => wpAny_pyIter_zip st.1 h
theorem begins_x (k : Bool) (a : Addr) (items : Array Value) : ∃ o : Obj, Begins (.ref a) o (fun h => ObX h k a items) ∧ ∀ (h : Heap) (it : Addr), h.get? it = some o → ItX h k it a 0 := by
  cases k
  · exact ⟨_, begins_tuple a items, fun h it e => ⟨_, e, rfl, rfl⟩⟩
  · exact ⟨_, begins_list a items, fun h it e => ⟨_, e, rfl, rfl⟩⟩
def iZipM (K : PySem.W.Frag) (ta : TA) : TI := fun st H R => ta st H fun vs H1 => ∃ (k1 k2 : Bool) (a b : Addr) (xs ys : List V), vs = [.ref a, .ref b] ∧ SqX K H1 k1 a xs ∧ SqX K H1 k2 b ys ∧ R (ItzM K k1 k2 a b xs ys) H1
theorem pi_zipM {X : Cx} {e e2 : Expr} {ta : TA} {p pos tpos : Pos} {elts : List Expr} {kk : Nat} (hg : Gl X "zip") (hm : X.mg "zip" = none) (ha : PA X [e, e2] ta)
    (hs : starEach [e, e2] X.env = (false, eval e X.env) :: starEach [e2] X.env := by rfl) (hpl : (backTo pos (starEach [e2] X.env)).any (·.1) = false := by rfl) :
    PI X (.Tuple elts kk tpos) (.Call (.Name "zip" p) [e, e2] [] pos) (iZipM X.K ta) := by
  refine ⟨fun pins s st H R I h => ?_⟩
  refine Call_ (ld_blt I hg hm PyProof.Rows.boot_zip (PyProof.Rows.callWith_type1 (thn (ha.run pos pins s st H _ I h) fun us s1 ⟨vs, H1, I1, r1, q1⟩ => ?_) hs hpl))
  obtain ⟨k1, k2, a, b, xs, ys, rfl, hqx, hqy, q⟩ := q1
  cases r1 with
  | cons r rr =>
    cases rr with
    | cons r' rr =>
      cases rr
      cases r
      cases r'
      obtain ⟨its, rv, p1, la⟩ := SqX.ob I1 hqx
      obtain ⟨its2, rv2, p2, lb⟩ := SqX.ob I1 hqy
      obtain ⟨o1, B1, k1'⟩ := begins_x k1 a its.toArray
      obtain ⟨o2, B2, k2'⟩ := begins_x k2 b its2.toArray
      refine zip_begins2 B1 B2 p1 p2 fun h' hz hTI hTO h1 h2 hsz hk => wpAny_pyIter_zip hz ?_
      have I2 : Inv X pins st H1 { s1 with heap := h' } := I1.kept (t' := s1.toks) hk
      refine ⟨s1.heap.objs.size + 4, [s1.heap.objs.size + 4, s1.heap.objs.size + 2, s1.heap.objs.size + 3, s1.heap.objs.size, s1.heap.objs.size + 1], _, _, H1, rfl, I2,
        turn_zipM (zip_sep2 (fp1 := [a]) (fp2 := [b]) (by simpa using la) (by simpa using lb)) (Nat.ne_of_lt la) (Nat.ne_of_lt (Nat.lt_succ_of_lt lb)), ⟨hz, hTI, ⟨_, _, hTO⟩, k1' _ _ h1, k2' _ _ h2⟩, fun c hcm => ?_, q⟩
      have e' : c = s1.heap.objs.size + 4 ∨ c = s1.heap.objs.size + 2 ∨ c = s1.heap.objs.size + 3 ∨ c = s1.heap.objs.size ∨ c = s1.heap.objs.size + 1 := by simpa using hcm
      have hle : s1.heap.objs.size ≤ c := by
        rcases e' with rfl | rfl | rfl | rfl | rfl
        · exact Nat.le_add_right _ 4
        · exact Nat.le_add_right _ 2
        · exact Nat.le_add_right _ 3
        · exact Nat.le_refl _
        · exact Nat.le_add_right _ 1
      exact I1.fpOk hle (I1.hok.fresh hle)
theorem walk_zipM {K : PySem.W.Frag} {k1 k2 : Bool} {a b : Addr} {xs ys : List V} : Walk (ItzM K k1 k2 a b xs ys) (min xs.length ys.length) (fun H => SqX K H k1 a xs ∧ SqX K H k2 b ys) (YPair (fun i => xs[i]?) (fun i => ys[i]?)) :=
  ⟨fun _ _ hi q => ⟨q.1, q.2, hi⟩, fun _ q => ⟨q.1, q.2, rfl⟩, fun _ _ _ _ _ _ y => y⟩
/-- a list or a tuple of data -/
def sq (k : Bool) (ds : List PyData) : T := .p (if k = true then .list ds else .tuple ds)
section
variable {X : Cx} {e a b c : Expr} {es : List Expr} {dl : List Sl} {t u r : T} {pos p : Pos}
theorem sq_at {K : PySem.W.Frag} {G : Hp} {w : World} {mg : Str → Option Value} {k : Bool} {ds : List PyData} {v : V} (h : RT w K mg G v (sq k ds)) : ∃ p vs, v = .ref p ∧ SqX K G k p vs ∧ DpAll K G vs ds := by
  cases k
  · cases (show Dp K G v (.tuple ds) from h) with | tup h1 h2 => exact ⟨_, _, rfl, h1, h2⟩
  · cases (show Dp K G v (.list ds) from h) with | lst h1 h2 => exact ⟨_, _, rfl, h1, h2⟩
def pairD (p : PyData × PyData) : PyData := .tuple [p.1, p.2]
theorem di_zip {elts : List Expr} {kk : Nat} {tpos : Pos} {k1 k2 : Bool} {ds es' : List PyData} (ha : DE X a dl (sq k1 ds)) (hb : DE X b dl (sq k2 es')) (hm : X.mg "zip" = none) (hg : Gl X "zip" := by rfl)
    (hs : starEach [a, b] X.env = (false, eval a X.env) :: starEach [b] X.env := by rfl) (hs2 : starEach [b] X.env = (false, eval b X.env) :: starEach [] X.env := by rfl) (hpl : (backTo pos (starEach [b] X.env)).any (·.1) = false := by rfl) :
    DI X (.Tuple elts kk tpos) (.Call (.Name "zip" p) [a, b] [] pos) dl ((ds.zip es').map pairD) := fun Kp F own H st S => by
  refine wi_of (pi_zipM hg hm (pa_cons (peW a) (pa_cons (peW b) pa_nil hs2) hs) hs hpl) ?_
  refine (ha Kp F own H st S).mono fun v H1 ⟨s1, q1⟩ => ?_
  refine (hb Kp F own H1 st (S.grow s1)).mono fun v' H1' ⟨s1', q1'⟩ => ?_
  obtain ⟨p1, vs, rfl, h1, h2⟩ := sq_at (q1.up (reg_up s1'))
  obtain ⟨p2, ws, rfl, h3, h4⟩ := sq_at q1'
  refine ⟨k1, k2, p1, p2, vs, ws, rfl, h1.up reg_sub, h3.up reg_sub, s1.trans s1', fun H2 => SqX X.K H2 k1 p1 vs ∧ SqX X.K H2 k2 p2 ws, YPair (fun i => vs[i]?) (fun i => ws[i]?), ?_, fun H2 s2 => ⟨h1.up s2, h3.up s2⟩, ?_⟩
  · have e : ((ds.zip es').map pairD).length = min vs.length ws.length := by rw [List.length_map, List.length_zip, dpa_len h2, dpa_len h4]
    rw [e]
    exact walk_zipM
  · rintro i H2 x H3 d hd ⟨T, x1, y1, rfl, hT, rfl, hx, hy⟩
    refine ⟨same_new hT, fun R s3 f3 => ?_⟩
    rw [List.getElem?_map] at hd
    cases q : (ds.zip es')[i]? with
    | none => rw [q] at hd; cases hd
    | some pr =>
      rw [q] at hd
      obtain ⟨z1, z2⟩ := pr
      have hd' : pairD (z1, z2) = d := Option.some.inj hd
      subst hd'
      rw [List.getElem?_zip_eq_some] at q
      obtain ⟨v1, e1, d1⟩ := dpa_get h2 q.1
      obtain ⟨v2, e2, d2⟩ := dpa_get h4 q.2
      have hx' : vs[i]? = some x1 := hx
      have hy' : ws[i]? = some y1 := hy
      rw [e1] at hx'; cases hx'
      rw [e2] at hy'; cases hy'
      exact .tup (SqT.of (f3 T _ hT upd_same)) (.cons (d1.up s3) (.cons (d2.up s3) .nil))
def enumD (p : Nat × PyData) : PyData := .tuple [.int (p.1 : Nat), p.2]
theorem di_enum {elts : List Expr} {kk : Nat} {tpos : Pos} {ds : List PyData} (ha : DE X a dl (.p (.list ds))) (hm : X.mg "enumerate" = none) (hg : Gl X "enumerate" := by rfl) (hs : starEach [a] X.env = [(false, eval a X.env)] := by rfl) :
    DI X (.Tuple elts kk tpos) (.Call (.Name "enumerate" p) [a] [] pos) dl (((List.range ds.length).zip ds).map enumD) := fun Kp F own H st S => by
  refine wi_of (pi_enum hg hm (pa_cons (peW a) pa_nil hs) hs) ?_
  refine (ha Kp F own H st S).mono fun v H1 ⟨s1, q1⟩ => ?_
  cases (show Dp X.K (reg own F H1) v (.list ds) from q1) with
  | @lst a xs _ h1 h2 =>
    refine ⟨a, xs, rfl, sqL_mono reg_sub h1, s1, fun H2 => SqL X.K H2 a xs, YPair (fun i => some (.int (i : Nat))) (fun i => xs[i]?), ?_, fun H2 s2 => sqL_mono s2 h1, ?_⟩
    · have e : (((List.range ds.length).zip ds).map enumD).length = xs.length := by rw [List.length_map, List.length_zip, List.length_range, dpa_len h2, Nat.min_self]
      rw [e]
      exact walk_enum
    · rintro i H2 x H3 d hd ⟨T, x1, y1, rfl, hT, rfl, hx, hy⟩
      refine ⟨same_new hT, fun R s3 f3 => ?_⟩
      rw [List.getElem?_map] at hd
      cases q : ((List.range ds.length).zip ds)[i]? with
      | none => rw [q] at hd; cases hd
      | some pr =>
        rw [q] at hd
        obtain ⟨z1, z2⟩ := pr
        have hd' : enumD (z1, z2) = d := Option.some.inj hd
        subst hd'
        rw [List.getElem?_zip_eq_some] at q
        obtain ⟨v2, e2, d2⟩ := dpa_get h2 q.2
        have hy' : xs[i]? = some y1 := hy
        rw [e2] at hy'; cases hy'
        have hx' : V.int (i : Nat) = x1 := Option.some.inj hx
        subst hx'
        have hz : z1 = i := by
          obtain ⟨l1, l2⟩ := List.getElem?_eq_some_iff.mp q.1
          rw [List.getElem_range] at l2
          exact l2.symm
        subst hz
        exact .tup (SqT.of (f3 T _ hT upd_same)) (.cons (.int _) (.cons (d2.up s3) .nil))
end
end Ac
-- part B4
set_option maxHeartbeats 4000000
set_option Elab.async false
set_option maxRecDepth 100000
set_option linter.all false
/-! Ac, part 13: sets of tuples of whole numbers, from long lists and tuples with few that differ. -/
namespace Ac
open PySem PySem.Spec PyProof.Rows L2
theorem len_in {α : Type} [DecidableEq α] : ∀ (l D : List α), l.Nodup → (∀ x ∈ l, x ∈ D) → l.length ≤ D.length
  | [], _, _, _ => Nat.zero_le _
  | x :: l, D, hn, hs => by
    obtain ⟨h1, h2⟩ := List.nodup_cons.mp hn
    have hx := hs x List.mem_cons_self
    have ih := len_in l (D.erase x) h2 fun y hy => (List.mem_erase_of_ne (by intro e; subst e; exact h1 hy)).2 (hs y (List.mem_cons_of_mem _ hy))
    have e := List.length_erase_of_mem hx
    have := List.length_pos_of_mem hx
    simp only [List.length_cons]
    omega
section
variable {P : Program} {w : World} {A : Around} {E : Value → Shared → Prop} {s : Shared}
/-- what stands in the set is of ks, and its keys differ: there are few -/
theorem few_of {ks L : List (Addr × List Int)} {D : List (List Int)} {i : Nat} (g : Got ks i L) (hD : ∀ p ∈ ks, p.2 ∈ D) (hn : (L.map (·.2)).Nodup) : L.length ≤ D.length := by
  have := len_in (L.map (·.2)) D hn fun q hq => by
    obtain ⟨p, hp, rfl⟩ := List.mem_map.mp hq
    exact hD p (List.mem_of_mem_take (g.sub p hp))
  rwa [List.length_map] at this
theorem loopD {I : Addr} {fp wr : List Addr} {G : Array GenState → Array GenState → Prop} {n : Nat} {Pv : Nat → Value → Prop} {St : Nat → Shared → Prop} {R : Result → Shared → Prop}
    (W : WalksS P w A.in1 I fp wr G n Pv St) (S : Addr) (out : S ∉ fp) (ks : List (Addr × List Int)) (D : List (List Int)) (hn : n = ks.length) (hD : ∀ p ∈ ks, p.2 ∈ D) (hl : D.length ≤ 62)
    (hv : ∀ i v, Pv i v → ∃ p, ks[i]? = some p ∧ v = .ref p.1) (h0 : Heap) (hk : ∀ p ∈ ks, IsT P w h0 p.2 p.1) (hS : h0.get? S = none) (hw : ∀ b ∈ wr, h0.get? b = none) (hu : A.in1.units < cLine) :
    ∀ (k i : Nat) (s : Shared), n = i + k → St i s → (∀ b o, h0.get? b = some o → s.heap.get? b = some o) → (∃ L es ep t, SetTR P w s.heap S L es ep t ∧ Got ks i L) →
      (∀ s' L es ep t, Moved (S :: wr) G s s' → SetTR P w s'.heap S L es ep t → Got ks n L → (∀ b o, h0.get? b = some o → s'.heap.get? b = some o) → R (.ok (.ret .none)) s') →
      codeAny (model P w) A (.builtin "set.update.loop" ⟨[.ref S, .ref I], []⟩) R s := by
  have nW : S ∉ wr := fun h => out (W.sub _ h)
  have kept : ∀ {s s' : Shared}, Moved wr G s s' → (∀ b o, h0.get? b = some o → s.heap.get? b = some o) → ∀ b o, h0.get? b = some o → s'.heap.get? b = some o := fun m k b o e =>
    m.heap b o (fun z => by rw [hw b z] at e; cases e) (k b o e)
  have ofks : ∀ {i : Nat} {L : List (Addr × List Int)}, Got ks i L → ∀ p ∈ L, p ∈ ks := fun g p hp => List.mem_of_mem_take (g.sub p hp)
  intro k
  induction k with
  | zero =>
    rintro i s rfl st hkp ⟨L, es, ep, t, q, g⟩ hR
    refine codeAny_builtin F.entry_set_update_loop ?_
    rw [Around.under_plainId F.plain_set_update_loop _]
    show wpAny _ A.in1 (pyNext (.ref I) >>= _) _ _ s
    refine wpAny_bind (W.done s _ _ st fun s' m => ?_)
    show wpAny _ A.in1 (ret Value.none) _ _ s'
    have k2 := kept m hkp
    exact wpAny_pure (hR s' L es ep t (m.mono fun b hb => List.mem_cons_of_mem _ hb) (q.keep (fun o e => m.heap S o nW e) fun p hp => isT_keep (hk p (ofks g p hp)) k2) g k2)
  | succ k ih =>
    rintro i s hni st hkp ⟨L, es, ep, t, q, g⟩ hR
    refine codeAny_builtin F.entry_set_update_loop ?_
    rw [Around.under_plainId F.plain_set_update_loop _]
    show wpAny _ A.in1 (pyNext (.ref I) >>= _) _ _ s
    refine wpAny_bind (W.item i s _ _ (by omega) st fun v s' pv st' m => ?_)
    obtain ⟨p, hp, rfl⟩ := hv i v pv
    have k2 := kept m hkp
    have q' : SetTR P w s'.heap S L es ep t := q.keep (fun o e => m.heap S o nW e) fun r hr => isT_keep (hk r (ofks g r hr)) k2
    have hx : IsT P w s'.heap p.2 p.1 := isT_keep (hk p (List.mem_of_getElem? hp)) k2
    show wpAny _ A.in1 (holding [Value.ref p.1] (setAdd S (.ref p.1)) >>= _) _ _ s'
    refine wpAny_bind (wpAny_holding ?_)
    unfold setAdd
    refine wpAny_holding (wpAny_bind (wpAny_pyHash_tuple hu hx ?_))
    have few := few_of g hD q.nd
    refine add_at (s := { s' with toks := s'.toks + (p.2.length + 1) }) q' hx hu (by omega) fun b h' L' es' ep' t' sb q2 c1 c2 => ?_
    have g' : Got ks (i + 1) L' := by
      by_cases c : p.2 ∈ L.map (·.2)
      · rw [c1 c]; exact g.same hp c
      · exact g.more hp (c2 c)
    have k3 : ∀ b o, h0.get? b = some o → h'.get? b = some o := fun b o e => (sb.2 b fun z => by rw [z, hS] at e; cases e).trans (k2 b o e)
    refine wpAny_pure ⟨plainId_quiet F.plain_set_update_loop _, ih (i + 1) _ (by omega) (W.frame _ s' _ _ st' (Nat.le_add_right _ _) fun b hb o e => (sb.2 b fun z => out (z ▸ hb)).trans e) k3 ⟨L', es', ep', t', q2, g'⟩ fun s'' L2 es2 ep2 t2 m2 q3 g3 k4 => ?_⟩
    exact hR s'' L2 es2 ep2 t2 (Moved.trans W.gtrans ((m.mono fun b hb => List.mem_cons_of_mem _ hb).then_heap (Nat.le_add_right _ _) fun b o hb e => (sb.2 b fun z => hb (by rw [z]; exact List.mem_cons_self)).trans e) m2) q3 g3 k4

set_option maxHeartbeats 3200000 in
theorem call_setL {l : Addr} {items : Array Value} (ks : List (Addr × List Int)) (D : List (List Int)) {Q : Value → Shared → Prop} (hh : A.handled = none) (hl : s.heap.IsList l items) (hit : items.toList = ks.map fun p => Value.ref p.1)
    (hk : ∀ p ∈ ks, IsT P w s.heap p.2 p.1) (hD : ∀ p ∈ ks, p.2 ∈ D) (hD2 : D.length ≤ 62) (hu : A.units + 3 < cLine)
    (h : ∀ (h' : Heap) (tk : Nat) L es ep t, SetTR P w h' s.heap.objs.size L es ep t → Got ks ks.length L → (∀ b o, s.heap.get? b = some o → h'.get? b = some o) → Q (.ref s.heap.objs.size) { s with heap := h', toks := tk }) :
    wpAny (model P w) A (call (.type "set") [.ref l]) Q E s := by
  have hz : items.size = ks.length := by
    rw [← Array.length_toList, hit, List.length_map]
  obtain ⟨c, tl, hmro⟩ := F.called_set.mro
  have hmade := F.called_set.made
  have hsub := F.called_set.sub
  refine wpAny_call (codeAny_of_tree ?_)
  show wpAny _ _ (callAny (.type "set") _) _ _ _
  refine wpAny_pure ⟨Code.quiet_builtin _ (by decide +kernel), codeAny_builtin F.entry_type_call ?_⟩
  rw [Around.under_plain (weight_type_call_type "set" [.ref l] []) rfl]
  have h1 := F.called_set.notType
  have h2 := F.called_set.canCreate
  have hct := F.typeCall_set_1 (.ref l)
  repeat (any_goals (first | assumption | wp_step))
  generalize hem : ({ cls := .type "set", dict := none, data := .set #[] 0 (.fresh 0 0 (!w.params.followText "set-order")) } : Obj) = em
  refine codeAny_mono (code_set_led1 (.ref l) (E := E) (Q₁ := fun obj s₁ => obj = .ref s.heap.objs.size ∧ s₁ = { s with heap := s.heap.push em }) ⟨rfl, by rw [hem]⟩) fun r s₁ hr => ?_
  cases r with
  | error e => exact hr
  | ok fl =>
    cases fl with
    | ret obj =>
      obtain ⟨rfl, rfl⟩ := hr
      have hS : (s.heap.push em).get? s.heap.objs.size = some em := Heap.get?_push_size _ (by rw [← hem]; rfl)
      have hT : Shared.TypeIs { s with heap := s.heap.push em } (.ref s.heap.objs.size) "set" := ⟨_, hS, by rw [← hem]⟩
      have hli := F.called_set.init.lookup
      have hbi := F.called_set.init.bind (.ref s.heap.objs.size)
      repeat (any_goals (first | assumption | wp_step))
      refine codeAny_mono (codeAny_call_builtin (R := wants (fun r s₂ => r = .none ∧ ∃ h' tk L es ep t, s₂ = { s with heap := h', toks := tk } ∧ SetTR P w h' s.heap.objs.size L es ep t ∧ Got ks ks.length L ∧
          (∀ b o, s.heap.get? b = some o → h'.get? b = some o)) E) F.called_set.init.plain F.entry_set_init (check_set_init_1 hT ?_)) fun r₂ s₂ hr₂ => ?_
      · obtain ⟨⟨ocls, odict, odata, oslots⟩, hol, hcl, nl, hdl⟩ := hl
        simp only at hcl hdl
        subst hcl; subst hdl
        have hol' : (s.heap.push em).get? l = some { cls := .type "list", dict := odict, data := .seq items nl, slots := oslots } := Heap.get?_push_of_some _ hol
        have f1 := F.sub_list_set
        have f2 := F.sub_list_frozenset
        have hne : (Value.type "list" == Value.type "dict") = false := by decide
        have hl1 : (s.heap.push em).IsList l items := ⟨_, hol', rfl, nl, rfl⟩
        subst hem
        unfold Builtin.«set.__init__» noKeywords Builtin.Frozenset.updateFrom
        generalize hPI : pyIter = PI
        wp_walk
        subst hPI
        refine wpAny_pyIter_list hl1 ?_
        refine wpAny_bind (wpAny_runValue ?_)
        have hlS : l < s.heap.objs.size := Heap.lt_size hol
        have hh3 : A.in1.in1.in1.handled = none := by simp [hh]
        generalize hem : ({ cls := .type "set", dict := none, data := .set #[] 0 (.fresh 0 0 (!w.params.followText "set-order")) } : Obj) = em at hl1 hS ⊢
        have sz : (s.heap.push em).objs.size = s.heap.objs.size + 1 := Heap.size_push ..
        have none_of : ∀ b, s.heap.objs.size ≤ b → s.heap.get? b = none := fun b hb => by
          cases q : s.heap.get? b with
          | none => rfl
          | some o => exact absurd (Nat.lt_of_lt_of_le (Heap.lt_size q) hb) (Nat.lt_irrefl _)
        have hval : ∀ (i : Nat) (v : Value), items[i]? = some v → ∃ p, ks[i]? = some p ∧ v = .ref p.1 := fun i v hv => by
          have q : items.toList[i]? = some v := by rw [Array.getElem?_toList]; exact hv
          rw [hit, List.getElem?_map] at q
          cases hq : ks[i]? with
          | none => rw [hq] at q; cases q
          | some p => rw [hq] at q; exact ⟨p, rfl, (Option.some.inj q).symm⟩
        refine loopD (Walks.list hh3 (s.heap.push em).objs.size l (by rw [sz]; exact Nat.ne_of_lt (Nat.lt_succ_of_lt hlS)) items).toS s.heap.objs.size (by
            rw [sz]; simp only [List.mem_cons, List.not_mem_nil, or_false, not_or]
            exact ⟨Nat.ne_of_lt (Nat.lt_succ_self _), Nat.ne_of_gt hlS⟩) ks D hz hD hD2 hval s.heap hk (none_of _ (Nat.le_refl _)) (fun b hb => none_of b (by
            rw [List.mem_singleton.mp hb, sz]
            exact Nat.le_succ _)) hu items.size 0 _ (Nat.zero_add _).symm
          ⟨⟨_, Heap.get?_push_size _ rfl, rfl, rfl⟩, hl1.push _⟩ (fun b o e => Heap.get?_push_of_some _ (Heap.get?_push_of_some _ e)) ?hS0 ?hR
        case hS0 =>
          refine ⟨[], #[], 0, _, setTR_fresh ?_, Got.zero ks⟩
          rw [hem]
          exact Heap.get?_push_of_some _ hS
        case hR =>
          rintro ⟨h', g2, d', tk', os'⟩ L es ep t hm q3 g' hkp
          obtain rfl : g2 = s.gens := hm.gens
          obtain rfl : d' = s.drawn := hm.drawn
          obtain rfl : os' = s.os := hm.os
          show wpAny _ _ _ _ _ _
          refine wpAny_pure ?_
          show wpAny _ _ (ret Value.none) _ _ _
          rw [hz] at g'
          exact wpAny_pure ⟨rfl, h', tk', L, es, ep, t, rfl, q3, g', hkp⟩
      · cases r₂ with
        | error e => exact hr₂
        | ok fl₂ =>
          cases fl₂ with
          | ret r =>
            obtain ⟨rfl, h', tk, L, es, ep, t, rfl, q3, g', k⟩ := hr₂
            repeat (any_goals (first | assumption | wp_step))
            exact h _ _ _ _ _ _ q3 g' k
          | _ => exact hr₂.elim
    | _ => exact hr.elim

set_option maxHeartbeats 3200000 in
theorem call_setT {l : Addr} {items : Array Value} (ks : List (Addr × List Int)) (D : List (List Int)) {Q : Value → Shared → Prop} (hh : A.handled = none) (hl : s.heap.IsTuple l items) (hit : items.toList = ks.map fun p => Value.ref p.1)
    (hk : ∀ p ∈ ks, IsT P w s.heap p.2 p.1) (hD : ∀ p ∈ ks, p.2 ∈ D) (hD2 : D.length ≤ 62) (hu : A.units + 3 < cLine)
    (h : ∀ (h' : Heap) (tk : Nat) L es ep t, SetTR P w h' s.heap.objs.size L es ep t → Got ks ks.length L → (∀ b o, s.heap.get? b = some o → h'.get? b = some o) → Q (.ref s.heap.objs.size) { s with heap := h', toks := tk }) :
    wpAny (model P w) A (call (.type "set") [.ref l]) Q E s := by
  have hz : items.size = ks.length := by
    rw [← Array.length_toList, hit, List.length_map]
  obtain ⟨c, tl, hmro⟩ := F.called_set.mro
  have hmade := F.called_set.made
  have hsub := F.called_set.sub
  refine wpAny_call (codeAny_of_tree ?_)
  show wpAny _ _ (callAny (.type "set") _) _ _ _
  refine wpAny_pure ⟨Code.quiet_builtin _ (by decide +kernel), codeAny_builtin F.entry_type_call ?_⟩
  rw [Around.under_plain (weight_type_call_type "set" [.ref l] []) rfl]
  have h1 := F.called_set.notType
  have h2 := F.called_set.canCreate
  have hct := F.typeCall_set_1 (.ref l)
  repeat (any_goals (first | assumption | wp_step))
  generalize hem : ({ cls := .type "set", dict := none, data := .set #[] 0 (.fresh 0 0 (!w.params.followText "set-order")) } : Obj) = em
  refine codeAny_mono (code_set_led1 (.ref l) (E := E) (Q₁ := fun obj s₁ => obj = .ref s.heap.objs.size ∧ s₁ = { s with heap := s.heap.push em }) ⟨rfl, by rw [hem]⟩) fun r s₁ hr => ?_
  cases r with
  | error e => exact hr
  | ok fl =>
    cases fl with
    | ret obj =>
      obtain ⟨rfl, rfl⟩ := hr
      have hS : (s.heap.push em).get? s.heap.objs.size = some em := Heap.get?_push_size _ (by rw [← hem]; rfl)
      have hT : Shared.TypeIs { s with heap := s.heap.push em } (.ref s.heap.objs.size) "set" := ⟨_, hS, by rw [← hem]⟩
      have hli := F.called_set.init.lookup
      have hbi := F.called_set.init.bind (.ref s.heap.objs.size)
      repeat (any_goals (first | assumption | wp_step))
      refine codeAny_mono (codeAny_call_builtin (R := wants (fun r s₂ => r = .none ∧ ∃ h' tk L es ep t, s₂ = { s with heap := h', toks := tk } ∧ SetTR P w h' s.heap.objs.size L es ep t ∧ Got ks ks.length L ∧
          (∀ b o, s.heap.get? b = some o → h'.get? b = some o)) E) F.called_set.init.plain F.entry_set_init (check_set_init_1 hT ?_)) fun r₂ s₂ hr₂ => ?_
      · obtain ⟨⟨ocls, odict, odata, oslots⟩, hol, hcl, nl, hdl⟩ := hl
        simp only at hcl hdl
        subst hcl; subst hdl
        have hol' : (s.heap.push em).get? l = some { cls := .type "tuple", dict := odict, data := .seq items nl, slots := oslots } := Heap.get?_push_of_some _ hol
        have f1 := F.sub_tuple_set
        have f2 := F.sub_tuple_frozenset
        have hne : (Value.type "tuple" == Value.type "dict") = false := by decide
        have hl1 : (s.heap.push em).IsTuple l items := ⟨_, hol', rfl, nl, rfl⟩
        subst hem
        unfold Builtin.«set.__init__» noKeywords Builtin.Frozenset.updateFrom
        generalize hPI : pyIter = PI
        wp_walk
        subst hPI
        refine wpAny_pyIter_tuple hl1 ?_
        refine wpAny_bind (wpAny_runValue ?_)
        have hlS : l < s.heap.objs.size := Heap.lt_size hol
        have hh3 : A.in1.in1.in1.handled = none := by simp [hh]
        generalize hem : ({ cls := .type "set", dict := none, data := .set #[] 0 (.fresh 0 0 (!w.params.followText "set-order")) } : Obj) = em at hl1 hS ⊢
        have sz : (s.heap.push em).objs.size = s.heap.objs.size + 1 := Heap.size_push ..
        have none_of : ∀ b, s.heap.objs.size ≤ b → s.heap.get? b = none := fun b hb => by
          cases q : s.heap.get? b with
          | none => rfl
          | some o => exact absurd (Nat.lt_of_lt_of_le (Heap.lt_size q) hb) (Nat.lt_irrefl _)
        have hval : ∀ (i : Nat) (v : Value), items[i]? = some v → ∃ p, ks[i]? = some p ∧ v = .ref p.1 := fun i v hv => by
          have q : items.toList[i]? = some v := by rw [Array.getElem?_toList]; exact hv
          rw [hit, List.getElem?_map] at q
          cases hq : ks[i]? with
          | none => rw [hq] at q; cases q
          | some p => rw [hq] at q; exact ⟨p, rfl, (Option.some.inj q).symm⟩
        refine loopD (Walks.tuple hh3 (s.heap.push em).objs.size l (by rw [sz]; exact Nat.ne_of_lt (Nat.lt_succ_of_lt hlS)) items).toS s.heap.objs.size (by
            rw [sz]; simp only [List.mem_cons, List.not_mem_nil, or_false, not_or]
            exact ⟨Nat.ne_of_lt (Nat.lt_succ_self _), Nat.ne_of_gt hlS⟩) ks D hz hD hD2 hval s.heap hk (none_of _ (Nat.le_refl _)) (fun b hb => none_of b (by
            rw [List.mem_singleton.mp hb, sz]
            exact Nat.le_succ _)) hu items.size 0 _ (Nat.zero_add _).symm
          ⟨⟨_, Heap.get?_push_size _ rfl, rfl, rfl⟩, hl1.push _⟩ (fun b o e => Heap.get?_push_of_some _ (Heap.get?_push_of_some _ e)) ?hS0 ?hR
        case hS0 =>
          refine ⟨[], #[], 0, _, setTR_fresh ?_, Got.zero ks⟩
          rw [hem]
          exact Heap.get?_push_of_some _ hS
        case hR =>
          rintro ⟨h', g2, d', tk', os'⟩ L es ep t hm q3 g' hkp
          obtain rfl : g2 = s.gens := hm.gens
          obtain rfl : d' = s.drawn := hm.drawn
          obtain rfl : os' = s.os := hm.os
          show wpAny _ _ _ _ _ _
          refine wpAny_pure ?_
          show wpAny _ _ (ret Value.none) _ _ _
          rw [hz] at g'
          exact wpAny_pure ⟨rfl, h', tk', L, es, ep, t, rfl, q3, g', hkp⟩
      · cases r₂ with
        | error e => exact hr₂
        | ok fl₂ =>
          cases fl₂ with
          | ret r =>
            obtain ⟨rfl, h', tk, L, es, ep, t, rfl, q3, g', k⟩ := hr₂
            repeat (any_goals (first | assumption | wp_step))
            exact h _ _ _ _ _ _ q3 g' k
          | _ => exact hr₂.elim
    | _ => exact hr.elim

end
/-! ### as rules -/
def tupI (q : List Int) : PyData := .tuple (q.map .int)
theorem keyed_of {K : PySem.W.Frag} {G : Hp} : ∀ {kss : List (List Int)} {vs : List V}, DpAll K G vs (kss.map tupI) → ∃ ks : List (Addr × List Int), vs = ks.map (fun p => V.ref p.1) ∧ ks.map (·.2) = kss ∧ ∀ p ∈ ks, SqT K G p.1 (p.2.map V.int)
  | [], _, .nil => ⟨[], rfl, rfl, fun _ h => nomatch h⟩
  | q :: kss, _, .cons h t => by
    obtain ⟨ks, e1, e2, h3⟩ := keyed_of t
    cases (show Dp K G _ (.tuple (q.map .int)) from h) with
    | @tup a xs _ hs ha =>
      refine ⟨(a, q) :: ks, by rw [e1]; rfl, by rw [← e2]; rfl, fun p hp => ?_⟩
      rcases List.mem_cons.mp hp with rfl | hp
      · show SqT K G a (q.map V.int)
        rw [← dpa_ints ha]; exact hs
      · exact h3 p hp
theorem keyed_dp {K : PySem.W.Frag} {G : Hp} : ∀ (ks : List (Addr × List Int)), (∀ p ∈ ks, SqT K G p.1 (p.2.map V.int)) → DpAll K G (ks.map fun p => V.ref p.1) ((ks.map (·.2)).map tupI)
  | [], _ => .nil
  | p :: ks, h => .cons (.tup (h p List.mem_cons_self) (ints_dpa p.2)) (keyed_dp ks fun q hq => h q (List.mem_cons_of_mem _ hq))
section
variable {X : Cx} {a : Expr} {dl : List Sl} {pos p p2 pos2 : Pos}
def rSetD (K : PySem.W.Frag) (P : Program) (w : World) : List V → Hp → VK → Prop := fun xs H Q => ∃ (k : Bool) (l : Addr) (ks : List (Addr × List Int)) (D : List (List Int)), xs = [V.ref l] ∧ SqX K H k l (ks.map fun p => V.ref p.1) ∧ (∀ p ∈ ks, SqT K H p.1 (p.2.map V.int)) ∧ (∀ p ∈ ks, p.2 ∈ D) ∧ D.length ≤ 62 ∧
  ∀ a L, H a = none → (∀ p ∈ L, p ∈ ks) → (∀ p ∈ ks, p.2 ∈ L.map (·.2)) → (L.map (·.2)).Nodup → Q (.ref a) (upd H a (SetTO P w a L))
theorem cr_setD (hc : X.calm = true) (hu : X.A.units + 64 < cLine) : CallR X (.type "set") (rSetD X.K X.prog X.w) := by
  intro pins s σ H xs us Q I r h
  obtain ⟨k, l, ks, D, rfl, hl, hk, hD, hf, q⟩ := h
  rw [Vals.ref1 r]
  obtain ⟨its, rv, ob, hlt⟩ := hl.ob I
  have hn : H s.heap.objs.size = none := I.hok.fresh (Nat.le_refl _)
  have fin : ∀ (h' : Heap) (tk : Nat) L es ep t, SetTR X.prog X.w h' s.heap.objs.size L es ep t → Got ks ks.length L → (∀ b o, s.heap.get? b = some o → h'.get? b = some o) → ∃ v H', Inv X pins σ H' { s with heap := h', toks := tk } ∧ RelV v (.ref s.heap.objs.size) ∧ Q v H' := fun h' tk L es ep t R g k =>
    ⟨.ref s.heap.objs.size, upd H s.heap.objs.size (SetTO X.prog X.w s.heap.objs.size L), I.laid (t' := tk) k (Nat.le_refl _) (setTO_new R.t0), rfl, q _ L hn (fun p hp => List.mem_of_mem_take (g.sub p hp)) (fun p hp => g.all p (by rw [List.take_length]; exact hp)) R.nd⟩
  cases k
  · exact call_setT (P := X.prog) (w := X.w) ks D (I.ok.hd hc) ob (by simpa using refs_of_vals rv) (fun p hp => Inv.isT I (hk p hp)) hD hf (by omega) fin
  · exact call_setL (P := X.prog) (w := X.w) ks D (I.ok.hd hc) ob (by simpa using refs_of_vals rv) (fun p hp => Inv.isT I (hk p hp)) hD hf (by omega) fin
/-- len of such a set -/
theorem cr_lenS (hc : X.calm = true) : CallR X (.builtin "len") fun vs H Q => ∃ (a : Addr) (L : List (Addr × List Int)), vs = [V.ref a] ∧ H a = some (SetTO X.prog X.w a L) ∧ (∀ p ∈ L, SqT X.K H p.1 (p.2.map V.int)) ∧ Q (.int L.length) H := by
  intro pins s σ H vs us Q I r h
  obtain ⟨a, L, rfl, ha, hk, q⟩ := h
  rw [Vals.ref1 r]
  obtain ⟨es, ep, t, R⟩ := (show SetT0 X.prog X.w s.heap a L from (I.hok a _ ha).1).full fun p hp => Inv.isT I (hk p hp)
  obtain ⟨o, ho, hex, hd⟩ := R.ob
  have hs := R.size
  have hf := R.few
  exact call_len_set ho hex hd R.fits (by omega) ⟨.int L.length, H, I.tok _, ⟨_, by rw [hs]⟩, q⟩
/-- what e's set holds -/
theorem set_step {k : Bool} {kss D : List (List Int)} (hc : X.calm = true) (hu : X.A.units + 64 < cLine) (ha : DE X a dl (sq k (kss.map tupI))) (hD : ∀ q ∈ kss, q ∈ D) (hl : D.length ≤ 62) (hm : X.mg "set" = none) (hg : Gl X "set")
    (hs : starEach [a] X.env = (false, eval a X.env) :: starEach [] X.env) :
    ∀ (Kp : Hp) (F : Addr → Prop) (own : Nat → List Addr) (H : Hp) (st : L2.St), SE X Kp F dl own H st → WE X (.Call (.Name "set" p2) [a] [] pos2) st H fun v H' => ∃ b L, v = .ref b ∧ Same H H' ∧ Frs own F H' ∧ H' b = some (SetTO X.prog X.w b L) ∧ (∀ p ∈ L, SqT X.K (reg own F H') p.1 (p.2.map V.int)) ∧ (L.map (·.2)).Nodup ∧ ∀ q, q ∈ L.map (·.2) ↔ q ∈ kss := fun Kp F own H st S => by
  refine we_of (pe_callTy (cr_setD hc hu) hg hm (by decide +kernel) (pa_cons (peW a) pa_nil hs) (by decide) (by decide) hs rfl) ?_
  refine (ha Kp F own H st S).mono fun v H1 ⟨s1, q1⟩ => ?_
  obtain ⟨l, vs, rfl, h1, h2⟩ := sq_at q1
  obtain ⟨ks, rfl, rfl, hk⟩ := keyed_of h2
  refine ⟨k, l, ks, D, rfl, h1.up reg_sub, fun p hp => sqT_mono reg_sub (hk p hp), fun p hp => hD _ (List.mem_map.mpr ⟨p, hp, rfl⟩), hl, fun b L hb hL hL2 hn => ?_⟩
  have fr := (S.grow s1).frs
  refine ⟨b, L, rfl, s1.trans (same_new hb), fr.up (same_new hb), upd_same, fun p hp => sqT_mono (reg_up (same_new hb)) (hk p (hL p hp)), hn, fun q => ⟨fun hq => ?_, fun hq => ?_⟩⟩
  · obtain ⟨p, hp, rfl⟩ := List.mem_map.mp hq
    exact List.mem_map.mpr ⟨p, hL p hp, rfl⟩
  · obtain ⟨p, hp, rfl⟩ := List.mem_map.mp hq
    exact hL2 p hp
/-- sorted(set(e)) -/
theorem d_sortSet {k : Bool} {kss ys : List (List Int)} (n : Nat) (hc : X.calm = true) (hu : X.A.units + 64 < cLine) (ha : DE X a dl (sq k (kss.map tupI))) (hn : 1 ≤ n) (hB : ∀ q ∈ kss, q.length = n ∧ TS.Bd 256 q) (hl : ys.length ≤ 62) (hmem : ∀ q, q ∈ ys ↔ q ∈ kss)
    (hys : ∀ zs : List (List Int), zs.Pairwise (fun q r => TS.code 256 q ≤ TS.code 256 r) → zs.Nodup → (∀ q, q ∈ zs ↔ q ∈ ys) → zs = ys) (hm : X.mg "set" = none) (hms : X.mg "sorted" = none) (hg : Gl X "set" := by rfl) (hgs : Gl X "sorted" := by rfl)
    (hs : starEach [a] X.env = (false, eval a X.env) :: starEach [] X.env := by rfl) (hs2 : starEach [Expr.Call (.Name "set" p2) [a] [] pos2] X.env = (false, eval (Expr.Call (.Name "set" p2) [a] [] pos2) X.env) :: starEach [] X.env := by rfl) :
    DE X (.Call (.Name "sorted" p) [.Call (.Name "set" p2) [a] [] pos2] [] pos) dl (.p (.list (ys.map tupI))) := fun Kp F own H st S => by
  refine we_of (pe_callB (cr_sortedT hc) hgs hms (by decide +kernel) (pa_cons (peW _) pa_nil hs2) (by decide) (by decide) hs2 rfl) ?_
  refine (set_step hc hu ha (fun q hq => (hmem q).mpr hq) hl hm hg hs Kp F own H st S).mono fun v H1 ⟨b, L, e, s1, fr, hb, hL, hnd, hq⟩ => ?_
  refine ⟨b, L, n, 256, by rw [e], hb, fun p hp => sqT_mono reg_sub (hL p hp), hn, fun p hp => hB _ ((hq _).mp (List.mem_map.mpr ⟨p, hp, rfl⟩)), fun L' l pm nd _ pw hl0 => ⟨s1.trans (same_new hl0), ?_⟩⟩
  have e2 : L'.map (·.2) = ys := hys _ (List.pairwise_map.mpr pw) nd fun q => by rw [(pm.map (·.2)).mem_iff, hq, hmem]
  rw [← e2]
  exact new_list fr hl0 (keyed_dp L' fun p hp => hL p (pm.mem_iff.mp hp))
/-- len(set(e)) -/
theorem d_lenSet {k : Bool} {kss ys : List (List Int)} (hc : X.calm = true) (hu : X.A.units + 64 < cLine) (ha : DE X a dl (sq k (kss.map tupI))) (hl : ys.length ≤ 62) (hnd : ys.Nodup) (hmem : ∀ q, q ∈ ys ↔ q ∈ kss) (hm : X.mg "set" = none) (hms : X.mg "len" = none) (hg : Gl X "set" := by rfl) (hgs : Gl X "len" := by rfl)
    (hs : starEach [a] X.env = (false, eval a X.env) :: starEach [] X.env := by rfl) (hs2 : starEach [Expr.Call (.Name "set" p2) [a] [] pos2] X.env = (false, eval (Expr.Call (.Name "set" p2) [a] [] pos2) X.env) :: starEach [] X.env := by rfl) :
    DE X (.Call (.Name "len" p) [.Call (.Name "set" p2) [a] [] pos2] [] pos) dl (.p (.int ys.length)) := fun Kp F own H st S => by
  refine we_of (pe_callB (cr_lenS hc) hgs hms (by decide +kernel) (pa_cons (peW _) pa_nil hs2) (by decide) (by decide) hs2 rfl) ?_
  refine (set_step hc hu ha (fun q hq => (hmem q).mpr hq) hl hm hg hs Kp F own H st S).mono fun v H1 ⟨b, L, e, s1, fr, hb, hL, hn, hq⟩ => ?_
  have e2 : (L.length : Int) = (ys.length : Nat) := by
    rw [← List.length_map (f := (·.2))]
    exact congrArg _ (Nat.le_antisymm (len_in _ _ hn fun q h => (hmem q).mpr ((hq q).mp h)) (len_in _ _ hnd fun q h => (hq q).mpr ((hmem q).mp h)))
  exact ⟨b, L, by rw [e], hb, fun p hp => sqT_mono reg_sub (hL p hp), s1, by rw [e2]; exact Dp.int _⟩
end
end Ac
-- part A8
set_option maxHeartbeats 4000000
set_option Elab.async false
set_option maxRecDepth 100000
set_option linter.all false
/-! Ac, part 8: targets; list comprehensions. -/
namespace Ac
open PySem PySem.Spec PyProof.Rows L2
/-! ### targets -/
def WG (X : Cx) (tg : Expr) : TG := fun v st H Q => ∀ (pins : List (Addr × Obj)) (s : Shared) (u : Value), Inv X pins st H s → RelV v u →
  wpAny (model X.prog X.w) X.A (assign tg X.env u) (fun _ s' => ∃ σ' H', Inv X pins σ' H' s' ∧ Q σ' H') X.xe s
theorem pgW {X : Cx} (tg : Expr) : PG X tg (WG X tg) := ⟨fun pins s _ _ _ u _ I r h => h pins s u I r⟩
theorem wg_of {X : Cx} {tg : Expr} {g : TG} {v : V} {st : L2.St} {H : Hp} {Q : L2.St → Hp → Prop} (h : PG X tg g) (q : g v st H Q) : WG X tg v st H Q := fun pins s u I r => h.run pins s st H v u Q I r q
theorem WG.mono {X : Cx} {tg : Expr} {v : V} {st : L2.St} {H : Hp} {Q Q' : L2.St → Hp → Prop} (h : WG X tg v st H Q) (hq : ∀ a b, Q a b → Q' a b) : WG X tg v st H Q' := fun pins s u I r => thn (h pins s u I r) fun _ _ ⟨a, b, I', q⟩ => ⟨a, b, I', hq _ _ q⟩
def slFree : Sl → Bool
  | .no => true
  | .t _ => true
  | _ => false
theorem free_own {w : World} {K : PySem.W.Frag} {mg : Str → Option Value} {G H : Hp} {x : Option V} {s : Sl} {l : List Addr} (h : SlOk w K mg G H x s l) (f : slFree s = true) : l = [] := by
  cases s with
  | no => exact h
  | t t => exact h.1
  | _ => cases f
theorem ownS_nil {own : Nat → List Addr} {i : Nat} (h : own i = []) : ownS own i [] = own := by
  funext j
  unfold ownS
  split
  · rename_i e; rw [e, h]
  · rfl
theorem wipe_set {st : L2.St} {i : Nat} {x : Option V} : ∀ {vs : List Nat}, i ∈ vs → wipe (st.set i x) vs = wipe st vs
  | [], h => by cases h
  | v :: vs, h => by
    unfold wipe
    by_cases hv : i ∈ vs
    · rw [wipe_set hv]
    · have e : i = v := by rcases List.mem_cons.mp h with e | e; exact e; exact absurd e hv
      subst e
      have aux : ∀ vs : List Nat, i ∉ vs → wipe (st.set i x) vs = (wipe st vs).set i x := by
        intro vs
        induction vs with
        | nil => intro _; rfl
        | cons w ws ih =>
          intro hn
          unfold wipe
          rw [ih (fun m => hn (List.mem_cons_of_mem _ m)), List.set_comm]
          exact fun e => hn (by rw [e]; exact List.mem_cons_self)
      rw [aux vs hv, List.set_set]
/-- data given to the target: the slots is, which own nothing, are changed alone -/
def GT (X : Cx) (tg : Expr) (is : List Nat) (dl : List Sl) (d : PyData) (dl' : List Sl) : Prop :=
  ∀ (Kp : Hp) (F : Addr → Prop) (own : Nat → List Addr) (H : Hp) (st : L2.St) (v : V), SE X Kp F dl own H st → st.length = X.N.length → Dp X.K (reg own F H) v d →
    WG X tg v st H fun st' H' => H' = H ∧ SE X Kp F dl' own H st' ∧ st'.length = st.length ∧ ∀ vs, (∀ i ∈ is, i ∈ vs) → wipe st' vs = wipe st vs
section
variable {X : Cx} {e tg : Expr} {dl dl1 dl2 : List Sl} {is js : List Nat} {pos : Pos}
theorem SE.putF {Kp : Hp} {F : Addr → Prop} {own : Nat → List Addr} {H : Hp} {st : L2.St} (S : SE X Kp F dl own H st) {i : Nat} {v : V} {t : T} (hi : i < dl.length) (hs : i < st.length) (hf : slFree (dl.getD i .no) = true) (r : RT X.w X.K X.mg (reg own F H) v t) :
    SE X Kp F (dl.set i (.t t)) own H (st.set i (some v)) := by
  have e := free_own (S.sl i) hf
  have S' := S.chg (H' := H) (st' := st.set i (some v)) (x := some v) (s := .t t) (l := []) hi (fun _ _ _ q => q) (fun _ h => nomatch h) (set_get hs) (fun j hj => set_ne hs hj) ⟨rfl, v, rfl, by rw [ownS_nil e]; exact r⟩
  rw [ownS_nil e] at S'
  exact S'
theorem gt_name (i : Nat) {x : Str} {d : PyData} (hN : X.N.Nodup) (hf : slFree (dl.getD i .no) = true := by rfl) (hi : i < dl.length := by exact Nat.le_of_ble_eq_true rfl) (hx : X.N[i]? = some x := by rfl) (hl : Loc X.env.scope x := by first | exact .inl rfl | exact .inr rfl)
    (hfn : X.fn x = true ∨ X.env.scope.names.lookup x = some .local := by first | exact .inl rfl | exact .inr rfl) : GT X (.Name x pos) [i] dl d (dl.set i (.t (.p d))) := fun Kp F own H st v S hlen r => by
  have hs : i < st.length := by rw [hlen]; exact (List.getElem?_eq_some_iff.mp hx).1
  exact wg_of (pg_name hN hx hl hfn) ⟨rfl, S.putF hi hs hf r, by simp, fun vs h => wipe_set (h i (by simp))⟩
/-- several targets, data by data -/
def GTs (X : Cx) (tgs : List Expr) (is : List Nat) (dl : List Sl) (ds : List PyData) (dl' : List Sl) : Prop :=
  ∀ (Kp : Hp) (F : Addr → Prop) (own : Nat → List Addr) (H : Hp) (st : L2.St) (vs : List V), SE X Kp F dl own H st → st.length = X.N.length → DpAll X.K (reg own F H) vs ds →
    ∃ g : TGs, PGs X tgs g ∧ g vs st H fun st' H' => H' = H ∧ SE X Kp F dl' own H st' ∧ st'.length = st.length ∧ ∀ ws, (∀ i ∈ is, i ∈ ws) → wipe st' ws = wipe st ws
theorem gts_nil : GTs X [] [] dl [] dl := fun Kp F own H st vs S _ r => by
  cases r
  exact ⟨gNil, pgs_nil, rfl, rfl, S, rfl, fun _ _ => rfl⟩
theorem gts_cons {tgs : List Expr} {d : PyData} {ds : List PyData} (h : GT X tg is dl d dl1) (hs : GTs X tgs js dl1 ds dl2) (ha : (assignEach (tg :: tgs) X.env).map (·.2) = assign tg X.env :: (assignEach tgs X.env).map (·.2) := by rfl) : GTs X (tg :: tgs) (is ++ js) dl (d :: ds) dl2 := fun Kp F own H st vs S hlen r => by
  cases r with
  | @cons v vs' _ _ r1 r2 =>
    -- the rest's reading, whatever the slots are
    refine ⟨gCons (WG X tg) (fun ws s' H' Q => ∃ g : TGs, PGs X tgs g ∧ g ws s' H' Q), pgs_cons (pgW tg) ⟨fun pins s s' H' ws us Q I rr ⟨g, hg, q⟩ => hg.run pins s s' H' ws us Q I rr q⟩ ha, v, vs', rfl, ?_⟩
    refine (h Kp F own H st v S hlen r1).mono fun s1 H1 ⟨e1, S1, l1, w1⟩ => ?_
    subst e1
    obtain ⟨g, hg, q⟩ := hs Kp F own H1 s1 vs' S1 (l1.trans hlen) r2
    have mono : ∀ Q : L2.St → Hp → Prop, (∀ a b, (b = H1 ∧ SE X Kp F dl2 own H1 a ∧ a.length = s1.length ∧ ∀ ws, (∀ i ∈ js, i ∈ ws) → wipe a ws = wipe s1 ws) → Q a b) → ∃ g : TGs, PGs X tgs g ∧ g vs' s1 H1 Q := fun Q hQ =>
      ⟨fun ws s' H' Q => ∀ (pins : List (Addr × Obj)) (s : Shared) (us : List Value), Inv X pins s' H' s → Vals ws us → wpAny (model X.prog X.w) X.A (assignInOrder ((assignEach tgs X.env).map (·.2)) us) (fun _ s'' => ∃ σ' H', Inv X pins σ' H' s'' ∧ Q σ' H') X.xe s,
        ⟨fun pins s s' H' ws us Q I rr q => q pins s us I rr⟩, fun pins s us I rr => thn (hg.run pins s s1 H1 vs' us _ I rr q) fun _ _ ⟨a, b, I', z⟩ => ⟨a, b, I', hQ a b z⟩⟩
    exact mono _ fun a b ⟨e2, S2, l2, w2⟩ => ⟨e2, S2, l2.trans l1, fun ws hw => (w2 ws fun i hi => hw i (by simp [hi])).trans (w1 ws fun i hi => hw i (by simp [hi]))⟩
theorem gt_tup {tgs : List Expr} {k : Nat} {ds : List PyData} (hc : X.calm = true) (h : GTs X tgs is dl ds dl1) (hn : (assignEach tgs X.env).length = ds.length := by rfl) (hst : (assignEach tgs X.env).findIdx? (·.1) = none := by rfl) : GT X (.Tuple tgs k pos) is dl (.tuple ds) dl1 := fun Kp F own H st v S hlen r => by
  cases r with
  | @tup a xs _ h1 h2 =>
    obtain ⟨g, hg, q⟩ := h Kp F own H st xs S hlen h2
    exact wg_of (pg_tup hc hg hn hst) ⟨a, xs, rfl, sqT_mono reg_sub h1, by rw [dpa_len h2], q⟩
end
/-! ### a block of a comprehension -/
def wipeS (dl : List Sl) : List Nat → List Sl
  | [] => dl
  | v :: vs => (wipeS dl vs).set v .no
theorem wipeS_length (dl : List Sl) : ∀ vs : List Nat, (wipeS dl vs).length = dl.length
  | [] => rfl
  | v :: vs => by unfold wipeS; rw [List.length_set, wipeS_length dl vs]
theorem wipeS_free {dl : List Sl} : ∀ {vs : List Nat}, (∀ i ∈ vs, slFree (dl.getD i .no) = true) → ∀ i ∈ vs, slFree ((wipeS dl vs).getD i .no) = true
  | [], _, i, h => by cases h
  | v :: vs, hf, i, h => by
    unfold wipeS
    by_cases hl : v < (wipeS dl vs).length
    · rw [getD_set _ _ _ _ _ hl]
      by_cases e : i = v
      · rw [if_pos e]; rfl
      · rw [if_neg e]
        exact wipeS_free (fun j hj => hf j (List.mem_cons_of_mem _ hj)) i ((List.mem_cons.mp h).resolve_left e)
    · rw [List.set_eq_of_length_le (by omega)]
      by_cases e : i = v
      · have : (wipeS dl vs).getD i .no = .no := by rw [List.getD_eq_getElem?_getD, List.getElem?_eq_none (by omega)]; rfl
        rw [this]; rfl
      · exact wipeS_free (fun j hj => hf j (List.mem_cons_of_mem _ hj)) i ((List.mem_cons.mp h).resolve_left e)
section
variable {X : Cx} {e : Expr} {dl : List Sl}
theorem SE.setNo {Kp : Hp} {F : Addr → Prop} {own : Nat → List Addr} {H : Hp} {st : L2.St} (S : SE X Kp F dl own H st) {i : Nat} (hf : slFree (dl.getD i .no) = true) : SE X Kp F (dl.set i .no) own H (st.set i none) := by
  by_cases hi : i < dl.length
  · have e := free_own (S.sl i) hf
    refine ⟨S.kp, S.fr, S.fn, S.nf, S.dis, fun j => ?_⟩
    rw [getD_set _ _ _ _ _ hi]
    by_cases ej : j = i
    · subst ej; rw [if_pos rfl]; exact e
    · rw [if_neg ej]
      by_cases hs : i < st.length
      · rw [getD_set _ _ _ _ _ hs, if_neg ej]; exact S.sl j
      · rw [List.set_eq_of_length_le (by omega)]; exact S.sl j
  · rw [List.set_eq_of_length_le (by omega)]
    refine ⟨S.kp, S.fr, S.fn, S.nf, S.dis, fun j => ?_⟩
    by_cases ej : j = i
    · subst ej
      have q := S.sl j
      have z : dl.getD j .no = .no := by rw [List.getD_eq_getElem?_getD, List.getElem?_eq_none (by omega)]; rfl
      rw [z] at q ⊢
      exact q
    · by_cases hs : i < st.length
      · rw [getD_set _ _ _ _ _ hs, if_neg ej]; exact S.sl j
      · rw [List.set_eq_of_length_le (by omega)]; exact S.sl j
theorem SE.wipe {Kp : Hp} {F : Addr → Prop} {own : Nat → List Addr} {H : Hp} {st : L2.St} (S : SE X Kp F dl own H st) : ∀ {vs : List Nat}, (∀ i ∈ vs, slFree (dl.getD i .no) = true) → SE X Kp F (wipeS dl vs) own H (L2.wipe st vs)
  | [], _ => S
  | v :: vs, hf => by
    have ih := S.wipe (vs := vs) fun i hi => hf i (List.mem_cons_of_mem _ hi)
    refine ih.setNo ?_
    by_cases m : v ∈ vs
    · exact wipeS_free (fun i hi => hf i (List.mem_cons_of_mem _ hi)) v m
    · have aux : ∀ vs : List Nat, v ∉ vs → (wipeS dl vs).getD v .no = dl.getD v .no := by
        intro vs
        induction vs with
        | nil => intro _; rfl
        | cons w ws ih =>
          intro hn
          unfold wipeS
          have hvw : v ≠ w := fun e => hn (by rw [e]; exact List.mem_cons_self)
          by_cases hl : w < (wipeS dl ws).length
          · rw [getD_set _ _ _ _ _ hl, if_neg hvw]; exact ih fun m => hn (List.mem_cons_of_mem _ m)
          · rw [List.set_eq_of_length_le (by omega)]; exact ih fun m => hn (List.mem_cons_of_mem _ m)
      rw [aux vs m]
      exact hf v List.mem_cons_self
/-- the same state, told of another context of the same module -/
theorem SE.cx {X' : Cx} {Kp : Hp} {F : Addr → Prop} {own : Nat → List Addr} {H : Hp} {st : L2.St} (S : SE X Kp F dl own H st) (h1 : X'.w = X.w) (h2 : X'.K = X.K) (h3 : X'.mg = X.mg) : SE X' Kp F dl own H st :=
  ⟨S.kp, S.fr, S.fn, S.nf, S.dis, by rw [h1, h2, h3]; exact S.sl⟩
/-- one object more is foreign: one that the kept heap does not know and no slot owns -/
theorem SE.hide {Kp : Hp} {F : Addr → Prop} {own : Nat → List Addr} {H : Hp} {st : L2.St} {D : Addr} {o : HO} (S : SE X Kp F dl own H st) (hD : H D = none) : SE X Kp (fun a => F a ∨ a = D) dl own (upd H D o) st := by
  have f := S.fresh hD
  have s := same_new (o := o) hD
  have r : Same (reg own F H) (reg own (fun a => F a ∨ a = D) (upd H D o)) := reg_mono fun a u h1 h2 h3 => ⟨s a u h3, h1, fun z => z.elim h2 fun e => by rw [e, hD] at h3; cases h3⟩
  refine ⟨S.kp.trans s, S.fr, fun a h => ?_, fun i a h z => ?_, S.dis, fun i => (S.sl i).up r fun a u _ q => s a u q⟩
  · rcases h with h | h
    · cases q : H a with
      | none => exact absurd q (S.fn a h)
      | some u => rw [s a u q]; simp
    · rw [h, upd_same]; simp
  · rcases z with z | z
    · exact S.nf i a h z
    · exact f.1 i (z ▸ h)
/-- the foreign object changes -/
theorem SE.hidden {Kp : Hp} {F : Addr → Prop} {own : Nat → List Addr} {H : Hp} {st : L2.St} {D : Addr} {o : HO} (S : SE X Kp F dl own H st) (hF : F D) (hK : Kp D = none) : SE X Kp F dl own (upd H D o) st := by
  have r : Same (reg own F H) (reg own F (upd H D o)) := reg_mono fun a u h1 h2 h3 => ⟨by rw [upd_ne (show a ≠ D from fun e => h2 (by rw [e]; exact hF))]; exact h3, h1, h2⟩
  refine ⟨fun a u e => ?_, S.fr, fun a h => ?_, S.nf, S.dis, fun i => (S.sl i).up r fun a u hm q => ?_⟩
  · rw [upd_ne (fun z => by rw [z, hK] at e; cases e)]; exact S.kp a u e
  · by_cases e : a = D
    · rw [e, upd_same]; simp
    · rw [upd_ne e]; exact S.fn a h
  · rw [upd_ne (show a ≠ D from fun z => S.nf i a hm (by rw [z]; exact hF))]; exact q
def WTs (X : Cx) (ifs : List Expr) : TT := fun st H Q => ∀ (pins : List (Addr × Obj)) (s : Shared), Inv X pins st H s →
  wpAny (model X.prog X.w) X.A (forIn ifs true fun c r => if r = true then do let ok ← isTrue c X.env (eval c X.env); pure (ForInStep.yield ok) else pure (ForInStep.yield r)) (TP X pins st Q) X.xe s
theorem wts_of {ifs : List Expr} {st : L2.St} {H : Hp} {tt : TT} {Q : Bool → Hp → Prop} (h : PTs X ifs tt) (q : tt st H Q) : WTs X ifs st H Q := fun pins s I => h.run pins s st H Q I q
theorem WTs.mono {ifs : List Expr} {st : L2.St} {H : Hp} {Q Q' : Bool → Hp → Prop} (h : WTs X ifs st H Q) (hq : ∀ a b, Q a b → Q' a b) : WTs X ifs st H Q' := fun pins s I => thn (h pins s I) fun _ _ ⟨H', I', q⟩ => ⟨H', I', hq _ _ q⟩
/-- a comprehension's tests -/
def DTs (X : Cx) (ifs : List Expr) (dl : List Sl) (k : Bool) : Prop := ∀ (Kp : Hp) (F : Addr → Prop) (own : Nat → List Addr) (H : Hp) (st : L2.St), SE X Kp F dl own H st → WTs X ifs st H fun c H' => Same H H' ∧ c = k
theorem dts_nil : DTs X [] dl true := fun Kp F own H st S => wts_of pts_nil ⟨Same.refl H, rfl⟩
theorem dts_one {k : Bool} (h : DT X e dl k) : DTs X [e] dl k := fun Kp F own H st S => wts_of (pts_one (ptW e)) (h Kp F own H st S)
end
end Ac
-- part A9
set_option maxHeartbeats 4000000
set_option Elab.async false
set_option maxRecDepth 100000
set_option linter.all false
/-! Ac, part 9: list comprehensions. -/
namespace Ac
open PySem PySem.Spec PyProof.Rows L2
/-- the context of a comprehension's block -/
abbrev BK (X : Cx) (s : Shared) (H : Hp) (scope : Scope) (C : Addr) (cl : List (Str × Addr)) (fp : List Addr) : Cx := X.blk s H scope (compEnvC scope cl C X.env) fp
/-- the parts of a block, whatever its own objects are -/
def gB (X : Cx) (scope : Scope) (tg : Expr) : TG := fun v st H Q => ∀ (s : Shared) (H0 : Hp) (C : Addr) (cl : List (Str × Addr)) (fp : List Addr), WG (BK X s H0 scope C cl fp) tg v st H Q
def tB2 (X : Cx) (scope : Scope) (ifs : List Expr) : TT := fun st H Q => ∀ (s : Shared) (H0 : Hp) (C : Addr) (cl : List (Str × Addr)) (fp : List Addr), WTs (BK X s H0 scope C cl fp) ifs st H Q
def eB (X : Cx) (scope : Scope) (elt : Expr) : TE := fun st H Q => ∀ (s : Shared) (H0 : Hp) (C : Addr) (cl : List (Str × Addr)) (fp : List Addr), WE (BK X s H0 scope C cl fp) elt st H Q
theorem pgB {X : Cx} {scope : Scope} {tg : Expr} (s : Shared) (H : Hp) (C : Addr) (cl : List (Str × Addr)) (fp : List Addr) : PG (BK X s H scope C cl fp) tg (gB X scope tg) := ⟨fun pins s' st' H' v u Q I r h => h s H C cl fp pins s' u I r⟩
theorem ptB {X : Cx} {scope : Scope} {ifs : List Expr} (s : Shared) (H : Hp) (C : Addr) (cl : List (Str × Addr)) (fp : List Addr) : PTs (BK X s H scope C cl fp) ifs (tB2 X scope ifs) := ⟨fun pins s' st' H' Q I h => h s H C cl fp pins s' I⟩
theorem peB {X : Cx} {scope : Scope} {elt : Expr} (s : Shared) (H : Hp) (C : Addr) (cl : List (Str × Addr)) (fp : List Addr) : PE (BK X s H scope C cl fp) elt (eB X scope elt) := ⟨fun pins s' st' H' Q I h => h s H C cl fp pins s' I⟩
section
variable {X : Cx} {e a b c : Expr} {es : List Expr} {dl : List Sl} {t u r : T} {pos p : Pos}
theorem getElem?_filter_map {α : Type} (xs : List α) (b : α → Bool) (i : Nat) (x : α) (h : xs[i]? = some x) (f : α → PyData) : ((xs.take (i + 1)).filter b).map f = ((xs.take i).filter b).map f ++ (if b x = true then [f x] else []) := by
  have e : xs.take (i + 1) = xs.take i ++ [x] := by
    obtain ⟨h1, h2⟩ := List.getElem?_eq_some_iff.mp h
    rw [List.take_succ, h]
    rfl
  rw [e, List.filter_append, List.map_append]
  by_cases hb : b x = true
  · rw [if_pos hb, List.filter_cons, if_pos hb]; rfl
  · rw [if_neg hb, List.filter_cons, if_neg hb]; rfl
/-- what a comprehension asks, in one -/
def DL (X : Cx) (elt tg it : Expr) (ifs : List Expr) (scope : Scope) (vs : List Nat) (dl : List Sl) (ds : List PyData) : Prop := ∀ (Kp : Hp) (F : Addr → Prop) (own : Nat → List Addr) (H : Hp) (st : L2.St), SE X Kp F dl own H st → st.length = X.N.length →
  tLc (WI X tg it) (gB X scope tg) (tB2 X scope ifs) (eB X scope elt) vs st H fun v H' => Same H H' ∧ RX X own F H' v (.p (.list ds))
theorem dl_lc {elt tg it : Expr} {ifs : List Expr} {scope : Scope} {onm : List (Str × Nat)} {A : Type} {enc : A → PyData} {xs : List A} {f : A → PyData} {k : A → Bool} {dl1 : A → List Sl}
    (hc : X.calm = true) (hN : X.N.Nodup) (hi : DI X tg it dl (xs.map enc)) (ok : BlkOk X.N X.env.scope scope onm) (hfree : ∀ i ∈ onm.map (·.2), slFree (dl.getD i .no) = true)
    (hg : ∀ (s : Shared) (H : Hp) (C : Addr) (cl : List (Str × Addr)) (fp : List Addr) (x : A), x ∈ xs → ∃ is : List Nat, (∀ i ∈ is, i ∈ onm.map (·.2)) ∧ GT (BK X s H scope C cl fp) tg is (wipeS dl (onm.map (·.2))) (enc x) (dl1 x))
    (ht : ∀ (s : Shared) (H : Hp) (C : Addr) (cl : List (Str × Addr)) (fp : List Addr) (x : A), x ∈ xs → DTs (BK X s H scope C cl fp) ifs (dl1 x) (k x))
    (he : ∀ (s : Shared) (H : Hp) (C : Addr) (cl : List (Str × Addr)) (fp : List Addr) (x : A), x ∈ xs → k x = true → DE (BK X s H scope C cl fp) elt (dl1 x) (.p (f x)))
    (hz : xs.length ≤ 100000) :
    DL X elt tg it ifs scope (onm.map (·.2)) dl ((xs.filter k).map f) := fun Kp F own H st S hlen => by
  refine WI.mono (hi Kp F own H st S) fun J H1 ⟨s1, G, Y, W, hG, hY⟩ => ?_
  intro D hD
  have S1 := S.grow s1
  have fD := S1.fresh hD
  have kD : Kp D = none := S1.kp.free hD
  have n : xs.length = (xs.map enc).length := (List.length_map _).symm
  rw [← n] at W
  refine lc_it (H1 := H1) (D := D) (σ := st) (vs := onm.map (·.2)) (g := gB X scope tg) (tt := tB2 X scope ifs) (te := eB X scope elt) (Qd := fun H' => Same H H' ∧ RX X own F H' (.ref D) (.p (.list ((xs.filter k).map f)))) W (fun i H2 => Same H1 H2 ∧ ∃ acc, H2 D = some (.lst acc) ∧ DpAll X.K (reg own (fun a => F a ∨ a = D) H2) acc (((xs.take i).filter k).map f) ∧ SE X Kp (fun a => F a ∨ a = D) dl own H2 st) ?_ ?_ ?_ ?_
  · exact ⟨same_new hD, [], upd_same, by rw [List.take_zero]; exact .nil, S1.hide hD⟩
  · rintro i H2 _ ⟨s2, _⟩
    exact hG H2 (reg_sub.trans s2)
  · rintro i x H2 H3 hi ⟨s2, acc, hD2, hacc, S2⟩ y
    obtain ⟨z, hz'⟩ : ∃ z, xs[i]? = some z := ⟨xs[i], List.getElem?_eq_getElem hi⟩
    have hm : z ∈ xs := List.mem_of_getElem? hz'
    obtain ⟨s3, hx⟩ := hY i H2 x H3 (enc z) (by rw [List.getElem?_map, hz']; rfl) y
    have S3 := S2.grow s3
    have nD : ∀ a o, H1 a = some o → a ≠ D := fun a o q e => by rw [e, hD] at q; cases q
    have hx' : Dp X.K (reg own (fun a => F a ∨ a = D) H3) x (enc z) := hx _ (reg_mono fun a o h1 h2 h3 => ⟨s3 _ _ (s2 _ _ h3), h1, fun q => q.elim h2 (nD a o h3)⟩) fun a o h1 h2 => by
      rw [reg_in (S2.fresh h1).1 (S2.fresh h1).2]
      exact h2
    intro s' H0 C cl fp
    obtain ⟨is, his, hgt⟩ := hg s' H0 C cl fp z hm
    have Sw : SE (BK X s' H0 scope C cl fp) Kp (fun a => F a ∨ a = D) (wipeS dl (onm.map (·.2))) own H3 (L2.wipe st (onm.map (·.2))) := (S3.wipe hfree).cx rfl rfl rfl
    refine (hgt Kp _ own H3 _ x Sw (by rw [wipe_length]; exact hlen) hx').mono fun st4 H4 ⟨e4, S4, l4, w4⟩ => ?_
    subst e4
    refine ⟨(w4 _ his).trans ?_, fun s5 H05 C5 cl5 fp5 => ?_⟩
    · -- twice wiped
      have aux : ∀ (ws : List Nat) (i : Nat), i ∈ ws → (L2.wipe st ws)[i]? = if i < st.length then some none else none := by
        intro ws
        induction ws with
        | nil => intro i h; cases h
        | cons w ws ih =>
          intro i h
          unfold L2.wipe
          rw [List.getElem?_set]
          by_cases e : w = i
          · subst e; rw [if_pos rfl, wipe_length]
          · rw [if_neg e]; exact ih i ((List.mem_cons.mp h).resolve_left (Ne.symm e))
      refine List.ext_getElem? fun i => ?_
      by_cases m : i ∈ onm.map (·.2)
      · have a1 : ∀ ws : List Nat, i ∈ ws → ∀ q : L2.St, (L2.wipe q ws)[i]? = if i < q.length then some none else none := by
          intro ws hw q
          induction ws with
          | nil => cases hw
          | cons w ws ih =>
            unfold L2.wipe
            rw [List.getElem?_set]
            by_cases e : w = i
            · subst e; rw [if_pos rfl, wipe_length]
            · rw [if_neg e]; exact ih ((List.mem_cons.mp hw).resolve_left (Ne.symm e))
        rw [a1 _ m, a1 _ m, wipe_length]
      · rw [wipe_out m]
    · have Sv : SE (BK X s5 H05 scope C5 cl5 fp5) Kp (fun a => F a ∨ a = D) (dl1 z) own H4 st4 := S4.cx rfl rfl rfl
      refine (ht s5 H05 C5 cl5 fp5 z hm Kp _ own H4 st4 Sv).mono fun bb H5 ⟨s5', e5⟩ => ?_
      subst e5
      have hp : (xs.take (i + 1)).filter k = (xs.take (i + 1)).filter k := rfl
      have next := getElem?_filter_map xs k i z hz' f
      cases hk : k z with
      | false =>
        rw [if_neg Bool.false_ne_true]
        rw [hk, if_neg Bool.false_ne_true, List.append_nil] at next
        have s25 := s3.trans s5'
        exact ⟨s2.trans s25, acc, s25 _ _ hD2, by rw [next]; exact hacc.up (reg_up s25), (S2.grow s25)⟩
      | true =>
        rw [if_pos rfl]
        rw [hk, if_pos rfl] at next
        intro s6 H06 C6 cl6 fp6
        refine (he s6 H06 C6 cl6 fp6 z hm hk Kp _ own H5 st4 ((Sv.grow s5').cx rfl rfl rfl)).mono fun v H6 ⟨s6', r6⟩ => ?_
        have s26 := (s3.trans s5').trans s6'
        have S6 := S2.grow s26
        have eqr : ∀ o, reg own (fun a => F a ∨ a = D) (upd H6 D o) = reg own (fun a => F a ∨ a = D) H6 := fun o => by
          funext a
          by_cases e : a = D
          · subst e
            unfold reg
            rw [if_pos (.inr (.inr rfl)), if_pos (.inr (.inr rfl))]
          · unfold reg
            rw [upd_ne e]
        have hal : (DpAll X.K (reg own (fun a => F a ∨ a = D) H6) acc (((xs.take i).filter k).map f)) := hacc.up (reg_up s26)
        refine ⟨acc, s26 _ _ hD2, ?_, fun a o q => ?_, _, upd_same, ?_, S6.hidden (.inr rfl) kD⟩
        · rw [dpa_len hal, List.length_map]
          refine Nat.lt_of_le_of_lt (List.length_filter_le _ _) (Nat.lt_of_le_of_lt (List.length_take_le _ _) ?_)
          exact Nat.lt_of_le_of_lt (Nat.le_trans (Nat.le_of_lt hi) hz) (by decide)
        · rw [upd_ne (nD a o q)]; exact s26 _ _ (s2 _ _ q)
        · rw [next, eqr]
          exact dpa_snoc hal r6
  · rintro H2 ⟨s2, acc, hD2, hacc, S2⟩
    rw [List.take_length] at hacc
    have sr : Same (reg own (fun a => F a ∨ a = D) H2) (reg own F H2) := reg_mono fun a o h1 h2 h3 => ⟨h3, h1, fun q => h2 (.inl q)⟩
    exact ⟨s1.trans s2, .lst (SqL.of (by rw [reg_in fD.1 fD.2]; exact hD2)) (hacc.up sr)⟩
theorem d_lc {elt tg it : Expr} {ifs : List Expr} {scope : Scope} {onm : List (Str × Nat)} {ds : List PyData} (hc : X.calm = true) (hN : X.N.Nodup) (ok : BlkOk X.N X.env.scope scope onm) (h : DL X elt tg it ifs scope (onm.map (·.2)) dl ds)
    (hs : ∀ x, foldedSetIterable it X.env x = pure x := by intro _; rfl) : DE X (.ListComp elt [⟨tg, it, ifs, 0⟩] scope pos) dl (.p (.list ds)) := fun Kp F own H st S => fun pins s I =>
  (pe_lc hc hN (piW tg it) ok pgB ptB peB hs).run pins s st H _ I (h Kp F own H st S I.len)
end
end Ac
-- part B1
set_option maxHeartbeats 4000000
set_option Elab.async false
set_option maxRecDepth 100000
set_option linter.all false
/-! Ac, part 10: statements. -/
namespace Ac
open PySem PySem.Spec PyProof.Rows L2
/-- what is wanted behind a statement, on data -/
structure DK where
  nx : List Sl → Prop
  rt : T → List Sl → Prop
  bk : List Sl → Prop := fun _ => False
  ct : List Sl → Prop := fun _ => False
/-- .. on slots and heaps -/
def conc (X : Cx) (Kp : Hp) (F : Addr → Prop) (D : DK) : Ends where
  nx := fun st H => ∃ dl own, SE X Kp F dl own H st ∧ D.nx dl
  rt := fun v H => ∃ t dl own st, SE X Kp F dl own H st ∧ RX X own F H v t ∧ D.rt t dl
  bk := fun st H => ∃ dl own, SE X Kp F dl own H st ∧ D.bk dl
  ct := fun st H => ∃ dl own, SE X Kp F dl own H st ∧ D.ct dl
/-- a block, a statement -/
def SW (X : Cx) (ss : List Stmt) (D : DK) (dl : List Sl) : Prop := ∀ (Kp : Hp) (F : Addr → Prop) (own : Nat → List Addr) (H : Hp) (st : L2.St), SE X Kp F dl own H st → WS X ss (conc X Kp F D) st H
def SX (X : Cx) (ss : Stmt) (D : DK) (dl : List Sl) : Prop := ∀ (Kp : Hp) (F : Addr → Prop) (own : Nat → List Addr) (H : Hp) (st : L2.St), SE X Kp F dl own H st → st.length = X.N.length → W1 X ss (conc X Kp F D) st H
section
variable {X : Cx} {e a b c : Expr} {es : List Expr} {dl dl' : List Sl} {t u r : T} {pos p : Pos} {D D' : DK} {ss : List Stmt} {s1 : Stmt}
theorem sw_nil (h : D.nx dl) : SW X [] D dl := fun Kp F own H st S => ws_of pss_nil ⟨dl, own, S, h⟩
theorem sw_cons (h : SX X s1 { D with nx := fun dl' => SW X ss D dl' } dl) : SW X (s1 :: ss) D dl := fun Kp F own H st S => fun pins s I => by
  refine (pss_cons (psW s1) (pssW ss)).run pins s st H _ I ?_
  exact (h Kp F own H st S I.len).mono (fun st' H' ⟨dl', own', S', q⟩ => q Kp F own' H' st' S') (fun _ _ q => q) (fun _ _ q => q) (fun _ _ q => q)
theorem sw_one (h : SX X s1 D dl) : SW X [s1] D dl := fun Kp F own H st S => fun pins s I => (pss_one (psW s1)).run pins s st H _ I (h Kp F own H st S I.len)
theorem SW.mono (h : SW X ss D dl) (h1 : ∀ d, D.nx d → D'.nx d) (h2 : ∀ t d, D.rt t d → D'.rt t d) (h3 : ∀ d, D.bk d → D'.bk d) (h4 : ∀ d, D.ct d → D'.ct d) : SW X ss D' dl := fun Kp F own H st S =>
  (h Kp F own H st S).mono (fun _ _ ⟨dl', own', S', q⟩ => ⟨dl', own', S', h1 _ q⟩) (fun _ _ ⟨t, dl', own', st', S', r, q⟩ => ⟨t, dl', own', st', S', r, h2 _ _ q⟩)
    (fun _ _ ⟨dl', own', S', q⟩ => ⟨dl', own', S', h3 _ q⟩) (fun _ _ ⟨dl', own', S', q⟩ => ⟨dl', own', S', h4 _ q⟩)
/-! ### a state that says less -/
/-- a slot's own list becomes a value that stands; a slot is forgotten -/
inductive Wk : List Sl → List Sl → Prop
  | refl (dl : List Sl) : Wk dl dl
  | no {dl dl' : List Sl} (i : Nat) : Wk dl dl' → Wk dl (dl'.set i .no)
  | ol {dl dl' : List Sl} (i : Nat) {ds : List PyData} : Wk dl dl' → dl'.getD i .no = .ol ds → Wk dl (dl'.set i (.t (.p (.list ds))))
  | od {dl dl' : List Sl} (i : Nat) {kvs : List (NestedKey × PyData)} : Wk dl dl' → dl'.getD i .no = .od kvs → Wk dl (dl'.set i (.t (.dic kvs)))
theorem SE.share {Kp : Hp} {F : Addr → Prop} {own : Nat → List Addr} {H : Hp} {st : L2.St} {i : Nat} (S : SE X Kp F dl own H st) (hi : i < dl.length) {x : Option V} {t : T} (hx : st.getD i none = x) (ok : ∀ G, Same (reg own F H) G → (∀ a o, a ∈ own i → H a = some o → G a = some o) → ∃ v, x = some v ∧ RT X.w X.K X.mg G v t) :
    SE X Kp F (dl.set i (.t t)) (ownS own i []) H st := by
  refine S.chg (H' := H) (st' := st) (x := x) (s := .t t) (l := []) hi (fun _ _ _ q => q) (fun _ h => nomatch h) hx (fun _ _ => rfl) ⟨rfl, ok _ (S.regS (fun _ _ _ q => q) (fun _ h => nomatch h)) fun a o h q => ?_⟩
  rw [reg_in (fun j z => ?_) (S.nf i a h)]
  · exact q
  · by_cases e : j = i
    · subst e; rw [ownS_same] at z; cases z
    · rw [ownS_ne e] at z; exact e (S.dis j i a z h)
theorem getD_lt {dl : List Sl} {i : Nat} {s : Sl} (h : dl.getD i .no = s) (hs : s ≠ .no) : i < dl.length := by
  by_cases q : i < dl.length
  · exact q
  · rw [List.getD_eq_getElem?_getD, List.getElem?_eq_none (by omega)] at h
    exact absurd h.symm hs
theorem SE.weak {Kp : Hp} {F : Addr → Prop} {own : Nat → List Addr} {H : Hp} {st : L2.St} (S : SE X Kp F dl own H st) (w : Wk dl dl') : ∃ own', SE X Kp F dl' own' H st := by
  induction w with
  | refl => exact ⟨own, S⟩
  | @no d1 i _ ih =>
    obtain ⟨o, S'⟩ := ih
    by_cases hi : i < d1.length
    · exact ⟨_, S'.drop hi⟩
    · rw [List.set_eq_of_length_le (by omega)]; exact ⟨o, S'⟩
  | @ol _ i ds _ hd ih =>
    obtain ⟨o, S'⟩ := ih
    have q := S'.sl i
    rw [hd] at q
    obtain ⟨p, vs, e1, e2, h3, h4⟩ := q
    exact ⟨_, S'.share (getD_lt hd (by intro z; cases z)) e2 fun G g1 g2 => ⟨_, rfl, .lst (SqL.of (g2 p _ (by rw [e1]; simp) h3)) (h4.up g1)⟩⟩
  | @od _ i kvs _ hd ih =>
    obtain ⟨o, S'⟩ := ih
    have q := S'.sl i
    rw [hd] at q
    obtain ⟨p, ob, e1, e2, hm, h3, h4⟩ := q
    exact ⟨_, S'.share (getD_lt hd (by intro z; cases z)) e2 fun G g1 g2 => ⟨_, rfl, p, ob, rfl, hm, g2 p _ (by rw [e1]; simp) h3, h4.up g1⟩⟩
theorem sw_weak (w : Wk dl dl') (h : SW X ss D dl') : SW X ss D dl := fun Kp F own H st S => let ⟨own', S'⟩ := S.weak w; h Kp F own' H st S'
theorem sx_weak (w : Wk dl dl') (h : SX X s1 D dl') : SX X s1 D dl := fun Kp F own H st S hl => let ⟨own', S'⟩ := S.weak w; h Kp F own' H st S' hl
/-! ### small statements -/
theorem s_ret (h : DE X e dl t) (q : D.rt t dl) : SX X (.Return (some e) pos) D dl := fun Kp F own H st S _ =>
  w1_of (ps_ret (peW e)) ((h Kp F own H st S).mono fun v H1 ⟨s1, r1⟩ => ⟨t, dl, own, st, S.grow s1, r1, q⟩)
theorem s_if {th el : List Stmt} {k : Bool} (hc : DT X c dl k) (h1 : k = true → SW X th D dl) (h2 : k = false → SW X el D dl) : SX X (.If c th el pos) D dl := fun Kp F own H st S _ => by
  refine w1_of (ps_if (ptW c) (pssW th) (pssW el)) ?_
  refine (hc Kp F own H st S).mono fun x H1 ⟨s1, q1⟩ => ?_
  subst q1
  cases x with
  | true => rw [if_pos rfl]; exact h1 rfl Kp F own H1 st (S.grow s1)
  | false => rw [if_neg Bool.false_ne_true]; exact h2 rfl Kp F own H1 st (S.grow s1)
theorem s_expr (h : DE X e dl t) (q : D.nx dl) (hs : swapsWith e none pos.line X.env = pure false := by rfl) : SX X (.Expr e pos) D dl := fun Kp F own H st S _ =>
  w1_of (ps_expr (peW e) hs) ((h Kp F own H st S).mono fun v H1 ⟨s1, r1⟩ => ⟨dl, own, S.grow s1, q⟩)
theorem s_asg (i : Nat) {x : Str} {pos' : Pos} (hN : X.N.Nodup) (h : DE X e dl t) (q : D.nx (dl.set i (.t t))) (hi : i < dl.length := by exact Nat.le_of_ble_eq_true rfl) (hx : X.N[i]? = some x := by rfl) (hl : Loc X.env.scope x := by first | exact .inl rfl | exact .inr rfl)
    (hs : swapsWith e (some (.Name x pos')) pos.line X.env = pure false := by rfl) (hfn : X.fn x = true ∨ X.env.scope.names.lookup x = some .local := by first | exact .inl rfl | exact .inr rfl) : SX X (.Assign [.Name x pos'] e pos) D dl := fun Kp F own H st S hlen =>
  w1_of (ps_set hN hx hl (peW e) hs hfn) ((h Kp F own H st S).mono fun v H1 ⟨s1, r1⟩ => ⟨_, _, (S.grow s1).put hi (by rw [hlen]; exact (List.getElem?_eq_some_iff.mp hx).1) r1, q⟩)
/-- name = [.. for ..], where the comprehension is stored as it ends -/
theorem s_lc (i : Nat) {x : Str} {pos' cpos : Pos} {elt tg it : Expr} {ifs : List Expr} {scope : Scope} {onm : List (Str × Nat)} {ds : List PyData} (hc : X.calm = true) (hN : X.N.Nodup) (ok : BlkOk X.N X.env.scope scope onm) (h : DL X elt tg it ifs scope (onm.map (·.2)) dl ds)
    (q : D.nx (dl.set i (.t (.p (.list ds))))) (hi : i < dl.length := by exact Nat.le_of_ble_eq_true rfl) (hx : X.N[i]? = some x := by rfl) (hl : X.env.scope.names.lookup x = some .local := by rfl)
    (hs : swapsWith (.ListComp elt [⟨tg, it, ifs, 0⟩] scope cpos) (some (.Name x pos')) pos.line X.env = pure true := by exact sw_true rfl rfl rfl (by decide +kernel)) (hf : ∀ x, foldedSetIterable it X.env x = pure x := by intro _; rfl) :
    SX X (.Assign [.Name x pos'] (.ListComp elt [⟨tg, it, ifs, 0⟩] scope cpos) pos) D dl := fun Kp F own H st S hlen => by
  refine w1_of (ps_setLc hc hN hx hl hs (piW tg it) ok pgB ptB peB hf) ?_
  show tLc _ _ _ _ _ st H _
  have z := h Kp F own H st S hlen
  refine WI.mono z fun J H1 q1 => ?_
  intro DD hD
  obtain ⟨W, w0, w1⟩ := q1 DD hD
  refine ⟨W, w0, fun j m H2 hw => ?_⟩
  rcases w1 j m H2 hw with ⟨k1, k2, k3⟩ | k
  · exact .inl ⟨k1, _, _, (S.grow k2).put hi (by rw [hlen]; exact (List.getElem?_eq_some_iff.mp hx).1) k3, q⟩
  · exact .inr k
/-- target = a value of data -/
theorem s_tg {tg : Expr} {is : List Nat} {d : PyData} (h : DE X e dl (.p d)) (g : GT X tg is dl d dl') (q : D.nx dl') (hs : swapsWithSole [tg] e pos.line X.env = pure false := by rfl) (hw : swappedStores [tg] e X.env = pure none := by rfl)
    (h1 : (assignEach [tg] X.env).map (·.2) = [assign tg X.env] := by rfl) : SX X (.Assign [tg] e pos) D dl := fun Kp F own H st S hlen => by
  refine w1_of (ps_asg (peW e) (pgW tg) hs hw h1) ?_
  refine (h Kp F own H st S).mono fun v H1 ⟨s1, r1⟩ => ?_
  exact (g Kp F own H1 st v (S.grow s1) hlen r1).mono fun st' H' ⟨e', S', _, _⟩ => ⟨dl', own, by rw [e']; exact S', q⟩
/-- name op= e, whole numbers -/
theorem s_aug (i : Nat) {x : Str} {pos' : Pos} {k j : Int} (hN : X.N.Nodup) (hd : dl.getD i .no = .t (.p (.int k))) (h : DE X e dl (.p (.int j))) (q : D.nx (dl.set i (.t (.p (.int (k + j)))))) (hx : X.N[i]? = some x := by rfl) (hl : Loc X.env.scope x := by first | exact .inl rfl | exact .inr rfl)
    (hfn : X.fn x = true ∨ X.env.scope.names.lookup x = some .local := by first | exact .inl rfl | exact .inr rfl) : SX X (.AugAssign (.Name x pos') .Add e pos) D dl := fun Kp F own H st S hlen => by
  refine w1_of (ps_aug (ti := rI0 fun i j => .int (i + j)) hN hx hl (peW e) iop_add hfn) ?_
  obtain ⟨v, hv, r⟩ := S.get hd
  refine ⟨v, hv, ?_⟩
  refine (h Kp F own H st S).mono fun w H1 ⟨s1, r1⟩ => ⟨k, j, int_of r, int_of r1, _, _, SE.put (t := .p (.int (k + j))) (S.grow s1) (getD_lt hd (by intro z; cases z)) (by rw [hlen]; exact (List.getElem?_eq_some_iff.mp hx).1) (by exact Dp.int (k + j)), q⟩
theorem s_never {hF : False} : SX X s1 D dl := hF.elim
theorem s_break (q : D.bk dl) : SX X (.Break pos) D dl := fun Kp F own H st S _ => w1_of ps_break ⟨dl, own, S, q⟩
/-! ### fresh lists and dicts -/
def NewS (w : World) (K : PySem.W.Frag) (G : Hp) (p : Addr) (o : HO) : Sl → Prop
  | .ol ds => ∃ xs, o = .lst xs ∧ DpAll K G xs ds
  | .od kvs => ∃ ob, o = DicO p ob ∧ (p == sysModules) = false ∧ Ent w K G ob kvs
  | _ => False
/-- e makes the slot's own list or dict s -/
def DF (X : Cx) (e : Expr) (dl : List Sl) (s : Sl) : Prop := ∀ (Kp : Hp) (F : Addr → Prop) (own : Nat → List Addr) (H : Hp) (st : L2.St), SE X Kp F dl own H st →
  WE X e st H fun v H' => ∃ (H0 : Hp) (p : Addr) (o : HO), Same H H0 ∧ H0 p = none ∧ H' = upd H0 p o ∧ v = .ref p ∧ NewS X.w X.K (reg own F H0) p o s
theorem df_lst {ds : List PyData} (h : DP X es dl ds) (hz : ds.length ≤ 100000) : DF X (.List es pos) dl (.ol ds) := fun Kp F own H st S => by
  refine we_of (pe_lst (paW es)) ?_
  exact (h Kp F own H st S).mono fun vs H1 ⟨s1, q1⟩ => ⟨by rw [dpa_len q1]; exact Nat.le_trans hz (by decide), fun p hp => ⟨H1, p, _, s1, hp, rfl, rfl, vs, rfl, q1⟩⟩
theorem df_dict : DF X (.Dict [] [] pos) dl (.od []) := fun Kp F own H st S =>
  we_of pe_dnewN fun p o hp hm E => ⟨H, p, _, Same.refl H, hp, rfl, rfl, o, rfl, hm, E.up fun _ _ z => nomatch z⟩
/-- list(xs) -/
theorem df_list {x : Str} {ds : List PyData} (ha : DB X a dl (.p (.list ds))) (hm : X.mg x = none) (hxe : x = "list" := by rfl) (hg : Gl X x := by rfl) (he : starEach [a] X.env = (false, eval a X.env) :: starEach [] X.env := by rfl) : DF X (.Call (.Name x p) [a] [] pos) dl (.ol ds) := fun Kp F own H st S => by
  subst hxe
  refine we_of (pe_callTy call_list_of hg hm (by decide +kernel) (pa_cons (peW a) pa_nil he) (by decide) (by decide) he rfl) ?_
  refine (ha Kp F own H st S).mono fun v H1 ⟨s1, q1⟩ => ?_
  obtain ⟨q, vs, rfl, h1, h2⟩ := q1
  exact ⟨q, vs, rfl, .inl h1, fun l hl => ⟨H1, l, _, s1, hl, rfl, rfl, vs, rfl, h2⟩⟩
theorem SE.own1 {Kp : Hp} {F : Addr → Prop} {own : Nat → List Addr} {H H0 : Hp} {st : L2.St} {i : Nat} {p : Addr} {o : HO} {s : Sl} (S : SE X Kp F dl own H st) (hi : i < dl.length) (hs : i < st.length) (s0 : Same H H0) (hp : H0 p = none) (n : NewS X.w X.K (reg own F H0) p o s) :
    SE X Kp F (dl.set i s) (ownS own i [p]) (upd H0 p o) (st.set i (some (.ref p))) := by
  have S0 := S.grow s0
  have sr := S0.regS (i := i) (H' := upd H0 p o) (l := [p]) (fun a u _ q => same_new hp a u q) fun a h => .inr (by simp at h; rw [h]; exact hp)
  refine S0.chg hi (fun a u _ q => same_new hp a u q) (fun a h => .inr (by simp at h; rw [h]; exact hp)) (set_get hs) (fun j hj => set_ne hs hj) ?_
  cases s with
  | ol ds => obtain ⟨xs, rfl, h2⟩ := n; exact ⟨p, xs, rfl, rfl, upd_same, h2.up sr⟩
  | od kvs => obtain ⟨ob, rfl, h2, h3⟩ := n; exact ⟨p, ob, rfl, rfl, h2, upd_same, h3.up sr⟩
  | _ => exact n.elim
theorem s_new (i : Nat) {x : Str} {pos' : Pos} {s : Sl} (hN : X.N.Nodup) (h : DF X e dl s) (q : D.nx (dl.set i s)) (hi : i < dl.length := by exact Nat.le_of_ble_eq_true rfl) (hx : X.N[i]? = some x := by rfl) (hl : Loc X.env.scope x := by first | exact .inl rfl | exact .inr rfl)
    (hs : swapsWith e (some (.Name x pos')) pos.line X.env = pure false := by rfl) (hfn : X.fn x = true ∨ X.env.scope.names.lookup x = some .local := by first | exact .inl rfl | exact .inr rfl) : SX X (.Assign [.Name x pos'] e pos) D dl := fun Kp F own H st S hlen =>
  w1_of (ps_set hN hx hl (peW e) hs hfn) ((h Kp F own H st S).mono fun v H1 ⟨H0, p, o, s0, hp, e1, e2, n⟩ => ⟨dl.set i s, ownS own i [p], by
    subst e1 e2
    exact S.own1 hi (by rw [hlen]; exact (List.getElem?_eq_some_iff.mp hx).1) s0 hp n, q⟩)
/-! ### a slot's own list grows -/
theorem s_app (i : Nat) {x : Str} {ds : List PyData} {d : PyData} {npos apos : Pos} (hd : dl.getD i .no = .ol ds) (he : DE X e dl (.p d)) (hz : ds.length < 100000) (q : D.nx (dl.set i (.ol (ds ++ [d]))))
    (h : ∀ (r : V → List V → Hp → VK → Prop) (to : TE) (t : TA), MtR X "list.append" r → PE X (.Name x npos) to → PA X [e] t → PE X (.Call (.Attribute (.Name x npos) "append" apos) [e] [] p) (tBM X.K "list" r to t) := by intro r to t h1 h2 h3; exact pe_bm PySem.F.plainAttrs_list PySem.F.slot_list_append PySem.F.type_list_append h1 h2 h3)
    (hN : X.N[i]? = some x := by rfl) (hv : Vis X.env.scope x := by first | exact Or.inl rfl | exact Or.inr (Or.inl rfl)) (h1 : (x == ("__debug__" : Str)) = false := by decide) (h2 : (x == ("__classdict__" : Str)) = false := by decide)
    (hs : swapsWith (.Call (.Attribute (.Name x npos) "append" apos) [e] [] p) none pos.line X.env = pure false := by rfl) (hse : starEach [e] X.env = (false, eval e X.env) :: starEach [] X.env := by rfl) : SX X (.Expr (.Call (.Attribute (.Name x npos) "append" apos) [e] [] p) pos) D dl := fun Kp F own H st S hlen => by
  refine w1_of (ps_expr (h rAppend (tVar i) (WA X [e]) mt_append (pe_var hN hv h1 h2) (paW [e])) hs) ?_
  have ok := S.sl i
  rw [hd] at ok
  obtain ⟨l, vs, e1, e2, h3, h4⟩ := ok
  have e' : st[i]? = some (some (.ref l)) := by
    rw [List.getD_eq_getElem?_getD] at e2
    cases z : st[i]? with
    | none => rw [z] at e2; cases e2
    | some o => rw [z] at e2; simpa using e2
  refine ⟨_, e', .inl ⟨rfl, vs, SqL.of h3⟩, ?_⟩
  refine ((da_cons he da_nil hse : DA X [e] dl [.p d]) Kp F own H st S).mono fun ws H1 ⟨s1, q1⟩ => ?_
  cases q1 with
  | @cons w _ _ _ r1 r2 =>
    cases r2
    have S1 := S.grow s1
    refine ⟨l, vs, w, rfl, rfl, s1 _ _ h3, by rw [dpa_len h4]; exact Nat.lt_of_lt_of_le hz (by decide), ?_⟩
    have keep : ∀ a u, a ∉ own i → H1 a = some u → upd H1 l (.lst (vs ++ [w])) a = some u := fun a u ha q => by rw [upd_ne (show a ≠ l from fun z => ha (by rw [e1, z]; simp))]; exact q
    have new : ∀ a ∈ own i, a ∈ own i ∨ H1 a = none := fun a h => .inl h
    have sr := S1.regS keep new
    refine ⟨_, _, S1.chg (s := .ol (ds ++ [d])) (getD_lt hd (by intro z; cases z)) keep new e2 (fun _ _ => rfl) ⟨l, vs ++ [w], e1, rfl, upd_same, ?_⟩, q⟩
    exact dpa_snoc (h4.up ((reg_up s1).trans sr)) (Dp.up r1 sr)
end
end Ac
-- part B2
set_option maxHeartbeats 4000000
set_option Elab.async false
set_option maxRecDepth 100000
set_option linter.all false
/-! Ac, part 11: loops; a def by its body. -/
namespace Ac
open PySem PySem.Spec PyProof.Rows L2
open Classical in
/-- all that no slot owns -/
noncomputable def wo (own : Nat → List Addr) (H : Hp) : Hp := fun a => if ∃ i, a ∈ own i then none else H a
section
variable {X : Cx} {e a b c : Expr} {es : List Expr} {dl dl' : List Sl} {t u r : T} {pos p : Pos} {D D' : DK} {ss : List Stmt} {s1 : Stmt} {Kp Kp' : Hp} {F : Addr → Prop} {own : Nat → List Addr} {H : Hp} {st : L2.St}
theorem wo_some {a : Addr} {o : HO} (h : wo own H a = some o) : H a = some o ∧ ∀ i, a ∉ own i := by
  unfold wo at h
  split at h
  · cases h
  · rename_i q; exact ⟨h, fun i z => q ⟨i, z⟩⟩
theorem wo_in {a : Addr} (h : ∀ i, a ∉ own i) : wo own H a = H a := by
  unfold wo
  rw [if_neg (fun ⟨i, z⟩ => h i z)]
theorem SE.all (S : SE X Kp F dl own H st) : SE X (wo own H) F dl own H st ∧ Same Kp (wo own H) := by
  refine ⟨⟨fun a o e => (wo_some e).1, fun i a h => ?_, S.fn, S.nf, S.dis, S.sl⟩, fun a o e => ?_⟩
  · unfold wo
    rw [if_pos ⟨i, h⟩]
  · rw [wo_in fun i z => by rw [S.fr i a z] at e; cases e]
    exact S.kp a o e
theorem SE.base (S : SE X Kp' F dl own H st) (k : Same Kp Kp') : SE X Kp F dl own H st := ⟨k.trans S.kp, fun i a h => k.free (S.fr i a h), S.fn, S.nf, S.dis, S.sl⟩
theorem s_for {tg it : Expr} {body : List Stmt} {ds : List PyData} (hc : X.calm = true) (hi : DI X tg it dl ds) (inv : Nat → List Sl → Prop) (h0 : inv 0 dl)
    (step : ∀ (i : Nat) (d : PyData) (dl1 : List Sl), ds[i]? = some d → inv i dl1 → ∃ is dl2, GT X tg is dl1 d dl2 ∧ SW X body ⟨inv (i + 1), D.rt, D.nx, inv (i + 1)⟩ dl2) (hend : ∀ dl1, inv ds.length dl1 → D.nx dl1)
    (hp : PassesOwn (model X.prog X.w) X.A X.env X.xe := by exact PassesOwn.never) (hs : ∀ x, foldedSetIterable it X.env x = pure x := by intro _; rfl) : SX X (.For tg it body [] pos) D dl := fun Kp F own H st S hlen => by
  refine w1_of (ps_for hp hc (piW tg it) (pgW tg) (pssW body) hs) ?_
  refine WI.mono (hi Kp F own H st S) fun J H1 ⟨s1, G, Y, W, hG, hY⟩ => ?_
  obtain ⟨S1, k1⟩ := (S.grow s1).all
  have sub : Same (reg own F H1) (wo own H1) := fun a o q => by
    obtain ⟨q1, q2, _⟩ := reg_some q
    rw [wo_in q2]; exact q1
  refine for_it W (fun i σ H2 => ∃ dl1 own1, SE X (wo own H1) F dl1 own1 H2 σ ∧ inv i dl1) ⟨dl, own, S1, h0⟩ ?_ ?_ ?_
  · rintro i σ H2 _ ⟨dl1, own1, S2, _⟩
    exact hG H2 (sub.trans S2.kp)
  · rintro i x σ H2 H3 hi ⟨dl1, own1, S2, hv⟩ y
    obtain ⟨d, hd⟩ : ∃ d, ds[i]? = some d := ⟨ds[i], List.getElem?_eq_getElem hi⟩
    obtain ⟨s3, hx⟩ := hY i H2 x H3 d hd y
    have S3 := S2.grow s3
    have hx' : Dp X.K (reg own1 F H3) x d := hx _ (fun a o q => by
      obtain ⟨_, _, q3⟩ := reg_some q
      have q4 := sub a o q
      rw [reg_in (fun j z => by rw [S3.fr j a z] at q4; cases q4) q3]
      exact S3.kp a o q4) fun a o h1 h2 => by
        rw [reg_in (S2.fresh h1).1 (S2.fresh h1).2]
        exact h2
    obtain ⟨is, dl2, hgt, hb⟩ := step i d dl1 hd hv
    intro pins s u I r
    refine (hgt (wo own H1) F own1 H3 σ x S3 I.len hx').mono (fun σ4 H4 ⟨e4, S4, _, _⟩ => ?_) pins s u I r
    subst e4
    refine (hb (wo own H1) F own1 H4 σ4 S4).mono (fun _ _ q => q) (fun v H5 ⟨t, d5, o5, st5, S5, r5, q5⟩ => ⟨t, d5, o5, st5, S5.base k1, r5, q5⟩) (fun σ5 H5 ⟨d5, o5, S5, q5⟩ => ⟨d5, o5, S5.base k1, q5⟩) (fun _ _ q => q)
  · rintro σ H2 ⟨dl1, own1, S2, hv⟩
    exact ⟨dl1, own1, S2.base k1, hend dl1 hv⟩
theorem s_while {body : List Stmt} (inv : List Sl → Prop) (mu : List Sl → Nat) (h0 : inv dl)
    (step : ∀ dl1, inv dl1 → ∃ k, DT X c dl1 k ∧ (k = true → SW X body ⟨fun d => inv d ∧ mu d < mu dl1, D.rt, D.nx, fun d => inv d ∧ mu d < mu dl1⟩ dl1) ∧ (k = false → D.nx dl1))
    (hp : PassesOwn (model X.prog X.w) X.A X.env X.xe := by exact PassesOwn.never) : SX X (.While c body [] pos) D dl := fun Kp F own H st S hlen => by
  refine w1_of (ps_while hp (ptW c) (pssW body)) ?_
  refine ⟨fun m σ H => ∃ dl1 own1, SE X Kp F dl1 own1 H σ ∧ inv dl1 ∧ m = mu dl1, ⟨_, dl, own, S, h0, rfl⟩, ?_⟩
  rintro m σ H1 ⟨dl1, own1, S1, hv, rfl⟩
  obtain ⟨k, hk, hb, hn⟩ := step dl1 hv
  refine (hk Kp F own1 H1 σ S1).mono fun x H2 ⟨s2, e2⟩ => ?_
  subst e2
  cases x with
  | false => rw [if_neg Bool.false_ne_true]; exact ⟨dl1, own1, S1.grow s2, hn rfl⟩
  | true =>
    rw [if_pos rfl]
    refine ⟨fun σ' H' => ∃ d o, SE X Kp F d o H' σ' ∧ inv d ∧ mu d < mu dl1, fun σ' H' ⟨d, o, S', q1, q2⟩ => ⟨mu d, q2, d, o, S', q1, rfl⟩, ?_⟩
    exact (hb rfl Kp F own1 H2 σ (S1.grow s2)).mono (fun _ _ ⟨d, o, S', q⟩ => ⟨d, o, S', q⟩) (fun _ _ q => q) (fun _ _ q => q) (fun _ _ ⟨d, o, S', q⟩ => ⟨d, o, S', q⟩)
end
/-! ### a def by its body -/
/-- the context of a body -/
abbrev CB (P : Program) (w : World) (K : PySem.W.Frag) (mg : Str → Option Value) (base : Heap) (N : List Str) (x : Str) (sd : Stmt) (f : Addr) (cdv : Value) (A : Around) (outer : List Env) (s : Shared) (H : Hp) (E : XK) : Cx :=
  (cxOf CX0 P w K mg base N x (defScope sd) f cdv A outer s H E).nox
theorem rts_get {w : World} {K : PySem.W.Frag} {mg : Str → Option Value} {G : Hp} : ∀ {vs : List V} {ts : List T} {i : Nat} {t : T}, RTs w K mg G vs ts → ts[i]? = some t → ∃ v, vs[i]? = some v ∧ RT w K mg G v t
  | _, _, _, _, .nil, e => by simp at e
  | _, _, 0, _, .cons h _, e => by simp at e; subst e; exact ⟨_, rfl, h⟩
  | _, _, i + 1, _, .cons _ t, e => by
    obtain ⟨v, h1, h2⟩ := rts_get (i := i) t (by simpa using e)
    exact ⟨v, by simpa using h1, h2⟩
theorem start_get {N : List Str} {vs : List V} {i : Nat} {v : V} (h : vs[i]? = some v) : (L2.start N vs).getD i none = some v := by
  have hl : i < vs.length := (List.getElem?_eq_some_iff.mp h).1
  unfold L2.start
  rw [List.getD_eq_getElem?_getD, List.getElem?_append_left (by simpa using hl), List.getElem?_map, h]
  rfl
/-- the slots at the entry: the parameters' values, then nothing -/
def dl0 (ts : List T) (n : Nat) : List Sl := ts.map .t ++ List.replicate (n - ts.length) .no
theorem se_start {P : Program} {w : World} {K : PySem.W.Frag} {mg : Str → Option Value} {base : Heap} {N : List Str} {x : Str} {sd : Stmt} {f : Addr} {cdv : Value} {A : Around} {outer : List Env} {s : Shared} {H : Hp} {E : XK} {F : Addr → Prop} {vs : List V} {ts : List T}
    (hF : ∀ a, F a → H a ≠ none) (hr : RTs w K mg (reg own0 F H) vs ts) : SE (CB P w K mg base N x sd f cdv A outer s H E) H F (dl0 ts N.length) own0 H (L2.start N vs) := by
  refine ⟨Same.refl H, fun i a h => (nomatch h), hF, fun i a h => (nomatch h), fun i j a h => (nomatch h), fun i => ?_⟩
  have hl := hr.len
  by_cases q : i < ts.length
  · have e : (dl0 ts N.length).getD i .no = .t ts[i] := by
      unfold dl0
      rw [List.getD_eq_getElem?_getD, List.getElem?_append_left (by simpa using q), List.getElem?_map, List.getElem?_eq_getElem q]
      rfl
    obtain ⟨v, h1, h2⟩ := rts_get hr (List.getElem?_eq_getElem q)
    rw [e, start_get h1]
    exact ⟨rfl, v, rfl, h2⟩
  · have e : (dl0 ts N.length).getD i .no = .no := by
      unfold dl0
      rw [List.getD_eq_getElem?_getD, List.getElem?_append_right (by simpa using q)]
      cases z : (List.replicate (N.length - ts.length) Sl.no)[i - (ts.map Sl.t).length]? with
      | none => rfl
      | some o => rw [List.getElem?_replicate] at z; split at z; cases z; rfl; cases z
    rw [e]
    exact rfl
/-- a def of the module as the top has left it -/
structure TopF (K : PySem.W.Frag) (mg : Str → Option Value) (x : Str) (sd : Stmt) : Prop where
  ex : ∃ f fd, mg x = some (.ref f) ∧ Fun K x x sd f fd
theorem fn_body {P : Program} {w : World} {K : PySem.W.Frag} {mg : Str → Option Value} {base : Heap} {x : Str} {sd : Stmt} {N ps : List Str} {k : Nat} {I : Type} {arg : I → List T} {ok : I → Prop} {res : I → T} (TF : TopF K mg x sd) (S : FnScope N ps (defScope sd))
    (hlen : ∀ i, (arg i).length = ps.length)
    (hbind : ∀ (kV doc pm : Value) (an : Option Addr) (cdv ct : Value) (us : List Value), us.length = ps.length → bindArgs (PySem.W.fnOf x x (defArgs sd) (defBody sd) (defScope sd) .none kV doc pm an cdv ct) ⟨us, []⟩ = pure (ps.zip us))
    (hb : ∀ (f : Addr) (cdv : Value) (A : Around) (outer : List Env) (s : Shared) (H : Hp) (E : XK) (i : I), Room k (CB P w K mg base N x sd f cdv A outer s H E).A → ok i →
      SW (CB P w K mg base N x sd f cdv A outer s H E) (defBody sd) ⟨fun _ => res i = .p .none, fun t _ => t = res i, fun _ => False, fun _ => False⟩ (dl0 (arg i) N.length)) :
    Fn P w K mg base x (k + 1) arg ok res := by
  obtain ⟨f, fd, hm, FF⟩ := TF.ex
  refine ⟨f, fd, ps, hm, FF.kp, FF.binds hbind, FF.ok S (fun vs H Q E h => ?_) (fun cdv A outer s H vs Q E hr h => ?_)⟩
  · obtain ⟨F, i, _, hr, _⟩ := h
    rw [hr.len, hlen]
  · obtain ⟨F, i, hF, hrt, hok, q⟩ := h
    have S0 := se_start (P := P) (base := base) (N := N) (x := x) (sd := sd) (f := f) (cdv := cdv) (A := A) (outer := outer) (s := s) (E := E) hF hrt
    refine ⟨_, pssW _, ?_⟩
    have fin : ∀ (dl1 : List Sl) (own1 : Nat → List Addr) (H' : Hp) (st1 : L2.St), SE (CB P w K mg base N x sd f cdv A outer s H E) H F dl1 own1 H' st1 → Same (reg own1 F H') (reg own0 F H') := fun dl1 own1 H' st1 S' => reg_mono fun a o h1 h2 h3 => ⟨h3, fun i z => (nomatch z), h2⟩
    refine (hb f cdv A outer s H E i hr hok H F own0 H (L2.start N vs) S0).mono (fun σ' H' ⟨dl1, own1, S', e⟩ => ?_) (fun v H' ⟨t, dl1, own1, st1, S', r1, e⟩ => ?_) (fun _ _ ⟨_, _, _, z⟩ => z.elim) (fun _ _ ⟨_, _, _, z⟩ => z.elim)
    · exact q .non H' S'.kp (by rw [e]; exact Dp.non)
    · subst e
      exact q v H' S'.kp (r1.up (fin dl1 own1 H' st1 S'))
end Ac
-- part B3
set_option maxHeartbeats 4000000
set_option Elab.async false
set_option maxRecDepth 100000
set_option linter.all false
/-! Ac, part 12: sorting. -/
namespace Ac
open PySem PySem.Spec PyProof.Rows L2
open PySem.SeqAt (ReadsAll.length room_here room_in)
section
variable {prog : Program} {w : World} {A : Around} {E : Value → Shared → Prop} {s : Shared}
theorem call_tuple_lt {Q : Value → Shared → Prop} {l b : Addr} {items items2 : Array Value} {e r : Nat → Bool} (hl : s.heap.IsTuple l items) (hb : s.heap.IsTuple b items2)
    (he : ∀ j (h1 : j < items.size) (h2 : j < items2.size), SeqAt.EqAt A.in1 s items[j] items2[j] (e j)) (hr : ∀ j (h1 : j < items.size) (h2 : j < items2.size), e j = false → SeqAt.RcLt A.in1 s items[j] items2[j] (r j))
    (h : Q (.bool (SeqAt.firstLt e r (decide (items.size < items2.size)) (List.range (min items.size items2.size)))) s) : wpAny (model prog w) A (call (.builtin "tuple.__lt__") [.ref l, .ref b]) Q E s := by
  obtain ⟨⟨cls, dd, data, sl⟩, ho, hc, n, hd⟩ := id hl
  obtain ⟨⟨cls2, dd2, data2, sl2⟩, ho2, hc2, n2, hd2⟩ := id hb
  simp only at hc hd hc2 hd2
  subst hc hd hc2 hd2
  exact call_meets F.slot_tuple_lt ⟨_, ho, rfl⟩ F.entry_tuple_lt (F.args_tuple_lt_2 _ _) (SeqAt.tuple_ltAt l b items items2 n n2 dd dd2 sl sl2 e r) ⟨ho, ho2, he, hr, h⟩
theorem oneLt_tup {xs ys : List PyData} {a b : Value} {as bs : List Addr} {Q : Bool → Shared → Prop} (ra : Reads s.heap a (.tuple xs) as) (rb : Reads s.heap b (.tuple ys) bs) (hal : PySem.W.alikeAll xs ys = true)
    (hu : A.units + min (PyData.tuple xs).depth (PyData.tuple ys).depth < cLine) (hq : Q (PySem.W.dataLt (.tuple xs) (.tuple ys)) s) : wpAny (model prog w) A (oneLt' true a b) Q E s := by
  cases ra with
  | @tuple l o vs n _ as₁ h1 h2 h3 h4 =>
    cases rb with
    | @tuple l' o' vs' n' _ bs₁ k1 k2 k3 k4 =>
      have n1 : vs.size = xs.length := by simpa using SeqAt.ReadsAll.length _ _ _ h4
      have n2 : vs'.size = ys.length := by simpa using SeqAt.ReadsAll.length _ _ _ k4
      rw [PySem.W.dataLt_tuple, ← PySem.W.firstLt_toks xs ys hal, ← n1, ← n2] at hq
      rw [oneLt'_eq]
      simp only [if_true]
      refine wpAny_bind (wpAny_cRoomFor (SeqAt.room_here hu) ?_)
      refine wpAny_bind (wpAny_callSpecialIfBound?_slot (T := "tuple") ⟨_, h1, h2⟩ F.slot_tuple_lt (call_tuple_lt (e := SeqAt.pairEq xs ys) (r := fun j => PySem.W.dataLt (xs.getD j .none) (ys.getD j .none)) ⟨_, h1, h2, _, h3⟩ ⟨_, k1, k2, _, k3⟩ (fun j j1 j2 => ?_) (fun j j1 j2 hj => ?_) ?_))
      · have := PySem.W.eqAt_alikeAll xs ys A.in1 s vs.toList vs'.toList _ _ h4 k4 hal (SeqAt.room_in hu) j (by simpa using j1) (by simpa using j2)
        simpa using this
      · have := PySem.W.rcLt_alikeAll xs ys A.in1 s vs.toList vs'.toList _ _ h4 k4 hal (SeqAt.room_in hu) j (by simpa using j1) (by simpa using j2) hj
        simpa using this
      · exact wpAny_truthy_bool hq
theorem keyLt'_general (x y : Value) : keyLt' general' x y = oneLt' false x y := rfl
/-- the first items of tuples, some of which are empty -/
theorem firsts_tups {M : Model} : ∀ (vs : List Value) (ds : List PyData) {Q : List (Option Value) → Shared → Prop}, PySem.W.EachIs (fun v d => ∃ as, Reads s.heap v d as) vs ds → (∀ d ∈ ds, ∃ xs, d = .tuple xs) →
    (∀ fs : List (Option Value), fs.length = ds.length → (∀ (i : Nat) (f : Option Value) (d : PyData), fs[i]? = some f → ds[i]? = some d → (f = none ↔ d = PyData.tuple [])) → Q fs s) → wpAny M A (vs.mapM firstOfTuple') Q E s
  | _, _, Q, .nil, _, h => by rw [List.mapM_nil]; exact wpAny_pure (h [] rfl fun i f d h => by simp at h)
  | v :: vs, d :: ds, Q, .cons ⟨as, r⟩ t, ht, h => by
    obtain ⟨xs, rfl⟩ := ht d List.mem_cons_self
    cases r with
    | @tuple a o its n _ _ ho hc hd hr =>
      rw [List.mapM_cons]
      refine wpAny_bind ?_
      rw [PySem.W.kas_first_eq]
      refine wpAny_bind (PySem.W.Looks.here (show PySem.W.Looks M s.heap (typeOf (.ref a)) o.cls from (PySem.W.Looks.ld ho).andThen .now) ?_)
      rw [hc, if_neg (by first | decide | simp)]
      refine wpAny_bind (listItems_at ho hd (wpAny_pure ?_))
      refine wpAny_bind (firsts_tups vs ds t (fun d hd => ht d (List.mem_cons_of_mem _ hd)) fun fs hl hf => wpAny_pure (h _ (by simp [hl]) fun i f d h1 h2 => ?_))
      cases i with
      | zero =>
        have e1 : its[0]? = f := by simpa using h1
        have e2 : PyData.tuple xs = d := by simpa using h2
        subst e1 e2
        rw [← Array.getElem?_toList]
        cases q : its.toList with
        | nil =>
          rw [q] at hr
          cases hr
          simp
        | cons f fr =>
          rw [q] at hr
          cases hr
          simp
      | succ i => exact hf i f d (by simpa using h1) (by simpa using h2)
/-- alike tuples, some of them empty, can be sorted -/
theorem sortsAt_tups {vs : List Value} {ds : List PyData} (e : PySem.W.EachIs (fun v d => ∃ as, Reads s.heap v d as) vs ds) (hal : PySem.W.AllAlike ds) (ht : ∀ d ∈ ds, ∃ xs, d = .tuple xs) (hu : ∀ d, d ∈ ds → A.units + d.depth < cLine) : PySem.W.SortsAt prog w A s (PySem.W.dataKind s.heap ds) vs := by
  by_cases hne : ∀ d ∈ ds, d ≠ .tuple []
  · refine PySem.W.SortsAt.data e hal (.inl fun d hd => ?_) hu
    obtain ⟨xs, rfl⟩ := ht d hd
    cases xs with
    | nil => exact absurd rfl (hne _ hd)
    | cons x r => exact ⟨x, r, rfl⟩
  have hz : ∃ d ∈ ds, d = .tuple [] := by
    by_cases q : ∃ d ∈ ds, d = .tuple []
    · exact q
    · exact absurd (fun d hd e => q ⟨d, hd, e⟩) hne
  have room : ∀ {d d' : PyData}, d ∈ ds → A.units + min d.depth d'.depth < cLine := fun {d d'} hd => Nat.lt_of_le_of_lt (Nat.add_le_add_left (Nat.min_le_left _ _) _) (hu d hd)
  refine ⟨fun v hv => ?_, ?_⟩
  · obtain ⟨d, hd, as, r⟩ := e.left v hv
    exact ⟨_, PySem.W.dataKind_some hal hd r⟩
  have l1 : PyProof.Rows.H.LtAt prog w A s (PySem.W.dataKind s.heap ds) general' := by
    intro E x y a b Q ha hb hq
    obtain ⟨d, as, hd, ra, rfl⟩ := PySem.W.dataKind_inv ha
    obtain ⟨d', as', hd', rb, rfl⟩ := PySem.W.dataKind_inv hb
    obtain ⟨x1, rfl⟩ := ht d hd
    rw [keyLt'_general]
    exact PySem.W.oneLt_alike (f := false) (fun h => (Bool.false_ne_true h).elim) ra rb (hal _ hd d' hd') (by intro z; cases z) (room hd) hq
  have l2 : PyProof.Rows.H.LtAt prog w A s (PySem.W.dataKind s.heap ds) oneType' := by
    intro E x y a b Q ha hb hq
    obtain ⟨d, as, hd, ra, rfl⟩ := PySem.W.dataKind_inv ha
    obtain ⟨d', as', hd', rb, rfl⟩ := PySem.W.dataKind_inv hb
    obtain ⟨x1, rfl⟩ := ht d hd
    obtain ⟨x2, rfl⟩ := ht d' hd'
    rw [keyLt'_oneType]
    exact oneLt_tup ra rb (by simpa [PySem.W.alike] using hal _ hd _ hd') (room hd) hq
  obtain ⟨d₀, ds₀, rfl⟩ : ∃ d₀ ds₀, ds = d₀ :: ds₀ := by
    cases ds with
    | nil => obtain ⟨d, hd, _⟩ := hz; cases hd
    | cons a b => exact ⟨a, b, rfl⟩
  have notall : ∀ fs : List (Option Value), fs.length = (d₀ :: ds₀).length → (∀ (i : Nat) (f : Option Value) (d : PyData), fs[i]? = some f → (d₀ :: ds₀)[i]? = some d → (f = none ↔ d = PyData.tuple [])) → ¬ (fs.toArray.all fun x => x.isSome) = true := by
    intro fs hl hf q
    obtain ⟨d, hd, rfl⟩ := hz
    obtain ⟨i, hi, he⟩ := List.mem_iff_getElem.mp hd
    have hi' : i < fs.length := by rw [hl]; exact hi
    have z := (hf i fs[i] _ (List.getElem?_eq_getElem hi') (by rw [List.getElem?_eq_getElem hi, he])).mpr rfl
    simp only [List.all_toArray, List.all_eq_true] at q
    have := q fs[i] (List.getElem_mem hi')
    rw [z] at this
    cases this
  by_cases h0 : d₀ = .tuple []
  · refine ⟨oneType', l2, fun h2 E Q hq => ?_⟩
    rw [PyProof.Rows.kat_kind_eq, List.mapM_toArray, map_eq_pure_bind]
    refine wpAny_bind (wpAny_bind (firsts_tups vs _ e ht fun fs hl hf => wpAny_pure ?_))
    rw [if_neg (notall fs hl hf)]
    have hfst : ¬ ((fs.toArray[0]?.bind id).isSome) = true := by
      cases fs with
      | nil => simp
      | cons f fr =>
        have := (hf 0 f d₀ rfl rfl).mpr h0
        subst this
        simp
    rw [if_neg hfst]
    rw [oneTypeOnly'_eq, List.mapM_toArray, map_eq_pure_bind]
    refine wpAny_bind (wpAny_bind (wpAny_bind (PySem.W.kas_mapM (r := Value.type "tuple") _ (fun v hv Q' hq => ?_) (wpAny_pure ?_))))
    · obtain ⟨d, hd, as, r⟩ := e.left v hv
      obtain ⟨xs, rfl⟩ := ht d hd
      exact (PySem.W.looks_reads r).here hq
    · have hall2 : ((List.map (fun _ => Value.type "tuple") vs).toArray.all fun x => x == Value.type "tuple") = true := by
        simp only [List.all_toArray, List.all_map, List.all_eq_true]
        intro _ _
        rfl
      have h01 : (List.map (fun _ => Value.type "tuple") vs).toArray[0]? = some (Value.type "tuple") := by
        cases vs with
        | nil => simp at h2
        | cons v r => simp
      rw [h01]
      simp only [hall2, if_true]
      exact wpAny_pure (wpAny_pure hq)
  · refine ⟨general', l1, fun h2 E Q hq => ?_⟩
    rw [PyProof.Rows.kat_kind_eq, List.mapM_toArray, map_eq_pure_bind]
    refine wpAny_bind (wpAny_bind (firsts_tups vs _ e ht fun fs hl hf => wpAny_pure ?_))
    rw [if_neg (notall fs hl hf)]
    have hfst : ((fs.toArray[0]?.bind id).isSome) = true := by
      cases fs with
      | nil => simp at hl
      | cons f fr =>
        have := hf 0 f d₀ rfl rfl
        cases f with
        | none => exact absurd (this.mp rfl) h0
        | some f => simp
    rw [if_pos hfst]
    exact wpAny_pure hq
end
/-- what sorted may be asked for: all tuples, or none a tuple or None -/
def SortK (ds : List PyData) : Prop := (∀ d ∈ ds, ∃ xs, d = .tuple xs) ∨ ∀ d ∈ ds, d ≠ .none ∧ ∀ xs, d ≠ .tuple xs
theorem sortsAt {prog : Program} {w : World} {A : Around} {s : Shared} {vs : List Value} {ds : List PyData} (e : PySem.W.EachIs (fun v d => ∃ as, Reads s.heap v d as) vs ds) (hal : PySem.W.AllAlike ds) (hk : SortK ds) (hu : ∀ d, d ∈ ds → A.units + d.depth < cLine) : PySem.W.SortsAt prog w A s (PySem.W.dataKind s.heap ds) vs := by
  rcases hk with h | h
  · exact sortsAt_tups e hal h hu
  · exact PySem.W.SortsAt.data e hal (.inr h) hu
/-- ds, sorted -/
noncomputable def srt (ds : List PyData) : List PyData := ds.mergeSort (PySem.W.dataLe false id)
/-- a value of the machine that stands for data -/
def ReD (K : PySem.W.Frag) (G : Hp) (u : Value) (d : PyData) : Prop := ∃ v, RelV v u ∧ Dp K G v d
theorem each_red {K : PySem.W.Frag} {G : Hp} : ∀ {vs : List V} {us : List Value} {ds : List PyData}, Vals vs us → DpAll K G vs ds → PySem.W.EachIs (ReD K G) us ds
  | _, _, _, .nil, .nil => .nil
  | _, _, _, .cons r t, .cons h t' => .cons ⟨_, r, h⟩ (each_red t t')
theorem red_each {K : PySem.W.Frag} {G : Hp} : ∀ {us : List Value} {ds : List PyData}, PySem.W.EachIs (ReD K G) us ds → ∃ vs, Vals vs us ∧ DpAll K G vs ds
  | _, _, .nil => ⟨[], .nil, .nil⟩
  | _, _, .cons ⟨v, r, h⟩ t => let ⟨vs, r', t'⟩ := red_each t; ⟨v :: vs, .cons r r', .cons h t'⟩
section
variable {X : Cx}
theorem c_sorted {ds : List PyData} (hu : X.A.units + 64 < cLine) (hal : PySem.W.AllAlike ds) (hk : SortK ds) (hd : ∀ d ∈ ds, d.depth ≤ 32) : CallD1 X (.builtin "sorted") (.p (.list ds)) (.p (.list (srt ds))) := by
  refine ⟨fun xs H Q => ∃ (a : Addr) (vs : List V) (G : Hp), xs = [.ref a] ∧ Same G H ∧ SqL X.K H a vs ∧ DpAll X.K G vs ds ∧ ∀ p ys, H p = none → DpAll X.K G ys (srt ds) → Q (.ref p) (upd H p (.lst ys)), ?_, ?_⟩
  · intro pins s σ H vs us Q I r h
    obtain ⟨a, xs, G, rfl, sG, hs, ha, q⟩ := h
    obtain ⟨its, rv, hl, hz⟩ := I.list hs
    obtain ⟨u, rfl, ru⟩ := vals1 r
    obtain rfl : u = Value.ref a := ru
    have e0 := each_red rv ha
    have er : PySem.W.EachIs (fun v d => ∃ as, Reads s.heap v d as) its ds := e0.mono fun u d ⟨v, r, h⟩ => Dp.reads I d v u (h.up sG) r
    have er' : PySem.W.EachIs (fun v d => ∃ as, Reads (PySem.W.sortingHeap (PySem.W.copyHeap s.heap its) (s.heap.objs.size + 1) its) v d as) its ds := er.mono fun _ _ ⟨as, r⟩ => ⟨as, PyProof.Rows.Reads.keeps (fun _ _ => PySem.W.sorting_copy_old) r⟩
    refine PySem.W.sorted_vals hl.isList (sortsAt (s := { s with heap := PySem.W.sortingHeap (PySem.W.copyHeap s.heap its) (s.heap.objs.size + 1) its }) er' hal hk fun d h => ?_) (by rw [← rv.length]; exact hz) ?_
    · have := hd d h
      show X.A.units + 1 + 1 + d.depth < cLine
      omega
    · have eo := PySem.W.sortVals_data (β := PyData) (enc := id) (h' := PySem.W.sortingHeap (PySem.W.copyHeap s.heap its) (s.heap.objs.size + 1) its) false e0 (er'.mono fun _ _ h => h) (by rw [List.map_id]; exact hal)
      rw [List.map_id] at eo
      obtain ⟨ys, r1, r2⟩ := red_each eo
      obtain ⟨c, hc⟩ := sortedAll_at s.heap its (PySem.W.sortVals (PySem.W.dataKind (PySem.W.sortingHeap (PySem.W.copyHeap s.heap its) (s.heap.objs.size + 1) its) ds) false its its).toArray
      have hlen : ys.length ≤ sizeLine := by
        rw [r1.length, PySem.W.sortVals_length false rfl, ← rv.length]; exact hz
      refine ⟨.ref (s.heap.objs.size + 1), _, I.laid (o := .lst ys) (fun _ _ => sortedAll_old) (Nat.le_succ _) ⟨hlen, _, c, r1, ?_⟩, rfl, q _ ys (I.hok.fresh (Nat.le_succ _)) r2⟩
      exact hc
  · intro own F H x Q f hx q
    obtain ⟨a, vs, rfl, h1, h2⟩ := hx
    exact ⟨a, vs, _, rfl, reg_sub, h1, h2, fun p ys hp hy => q _ _ (same_new hp) (new_list f hp hy)⟩
end
end Ac
-- part B5
set_option maxHeartbeats 4000000
set_option Elab.async false
set_option maxRecDepth 100000
set_option linter.all false
/-! Ac, part 14: dicts walked, sorted, comprehended. -/
namespace Ac
open PySem PySem.Spec PyProof.Rows L2
def keysD (kvs : List (NestedKey × PyData)) : List PyData := kvs.map fun x => x.1.data
section
variable {P : Program} {w : World} {K : PySem.W.Frag} {G : Hp}
theorem keys_of : ∀ {kvs : List (NestedKey × PyData)} {es : List DictEntry}, Paired (EntI w K G) kvs es → ∃ bs : List Addr, es.map (·.key) = bs.map Value.ref ∧ DpAll K G (bs.map V.ref) (keysD kvs)
  | _, _, .nil => ⟨[], rfl, .nil⟩
  | _, _, .cons ⟨b, v, h1, h2, h3, h5, _⟩ t => by
    obtain ⟨bs, e1, e2⟩ := keys_of t
    exact ⟨b :: bs, by rw [List.map_cons, e1, h1]; rfl, .cons h5 e2⟩
/-! ### the keys, walked -/
def ItN (a : Addr) (o : Obj) (bs : List Addr) : It := ⟨fun i H => H a = some (DicO a o) ∧ i < bs.length, fun i H x H' => H' = H ∧ (bs.map V.ref)[i]? = some x, fun i H => H a = some (DicO a o) ∧ bs.length ≤ i⟩
theorem walk_keysN {a : Addr} {o : Obj} {bs : List Addr} : Walk (ItN a o bs) bs.length (fun H => H a = some (DicO a o)) (YAt (bs.map V.ref)) :=
  ⟨fun _ _ hi q => ⟨q, hi⟩, fun _ q => ⟨q, Nat.le_refl _⟩, fun _ _ _ _ _ _ y => y⟩
theorem turn_keysN {tg : Expr} {a it : Addr} {o : Obj} {bs : List Addr} {es : Array DictEntry} {ep : Nat} (hd : o.data = .dict es ep) (hk : es.toList.map (·.key) = bs.map Value.ref) : Turn P w K tg (ItN a o bs) [it] it (fun i h => h.IsKeyIter it a i bs.length ep) where
  mem := by simp
  obj := fun i h st b hb => by
    obtain rfl : b = it := by simpa using hb
    obtain ⟨oi, e, c, dd⟩ := st
    exact ⟨oi, e, fun v z => by rw [dd] at z; cases z⟩
  keep := fun i h h' st k => st.at fun oi e => k it (by simp) oi e
  item := by
    intro X hP hw hK hc i pins s σ H E I hf st ⟨hg, hi⟩
    subst hP hw hK
    obtain ⟨f0, f1, f2, f3, f4, f5⟩ := hf it (by simp)
    have sz : es.size = bs.length := by rw [← Array.length_toList, ← List.length_map (f := (·.key)), hk, List.length_map]
    have hi2 : i < es.size := by omega
    have ek : es[i].key = .ref bs[i] := by
      have q : (es.toList.map (·.key))[i]? = (bs.map Value.ref)[i]? := by rw [hk]
      rw [List.getElem?_map, List.getElem?_map, Array.getElem?_toList, Array.getElem?_eq_getElem hi2, List.getElem?_eq_getElem hi] at q
      exact Option.some.inj q
    refine next_key_item st (DicO.obj (I.hok a _ hg)) hd sz (Array.getElem?_eq_getElem hi2) fun h' st' sb => ?_
    have I1 : Inv X pins σ H { s with heap := h' } := I.turned (t' := s.toks) (fun b ob hb e => (sb.2 b hb).trans e) f0 f1 f3 f4 f5
    obtain ⟨oi, e, c, dd⟩ := id st'
    exact ⟨es[i].key, rfl, go_of (s := { s with heap := h' }) e c dd (by decide) ⟨.ref bs[i], H, I1, by rw [ek]; rfl, ⟨rfl, by rw [List.getElem?_map, List.getElem?_eq_getElem hi]; rfl⟩, st', fun b hb => (hf b hb).1⟩⟩
  done := by
    intro X hP hw hK hc i pins s σ H E I hf st ⟨hg, hi⟩
    subst hP hw hK
    obtain ⟨f0, f1, f2, f3, f4, f5⟩ := hf it (by simp)
    have sz : es.size = bs.length := by rw [← Array.length_toList, ← List.length_map (f := (·.key)), hk, List.length_map]
    exact next_key_end (I.ok.hd hc) st (DicO.obj (I.hok a _ hg)) hd sz hi fun h' eb => ⟨rfl, I.turned (t' := s.toks) (fun b ob hb e => eb b ob hb e) f0 f1 f3 f4 f5⟩
  self := fun A i s Q E st h => by
    refine wpAny_pyIter_slot st.typeIs F.slot_dict_keyiterator_iter (wpAny_call_entry F.slot_dict_keyiterator_iter st.typeIs F.entry_dict_keyiterator_iter ?_ (F.args_dict_keyiterator_iter_1 _))
    show wpAny _ _ (ret (.ref it)) _ _ s
    exact wpAny_pure ⟨_, rfl, "dict_keyiterator", _, st.typeIs, F.slot_dict_keyiterator_next.lookup, h⟩
end
section
variable {X : Cx} {e a b c : Expr} {es : List Expr} {dl : List Sl} {t u r : T} {pos p : Pos}
def iKeysN (X : Cx) (td : TE) : TI := fun σ H R => td σ H fun x H1 => ∃ (a : Addr) (G : Hp) (kvs : List (NestedKey × PyData)), x = .ref a ∧ DicAt X G H1 a kvs ∧ ∀ o bs, H1 a = some (DicO a o) → DpAll X.K G (bs.map V.ref) (keysD kvs) → R (ItN a o bs) H1
theorem pi_keysN {tg : Expr} {td : TE} (he : PE X e td) : PI X tg e (iKeysN X td) := by
  refine ⟨fun pins s σ H R I h => ?_⟩
  refine thn (he.run pins s σ H _ I h) fun u s1 ⟨x, H1, I1, rx, a, G, kvs, ex, ⟨ns, o, ho, En⟩, q⟩ => ?_
  subst ex
  obtain rfl : u = Value.ref a := rx
  obtain ⟨es, ep, hd, pe⟩ := En.es
  obtain ⟨bs, hk, hb⟩ := keys_of pe
  have hgo := DicO.obj (I1.hok a _ ho)
  have sz : es.size = bs.length := by rw [← Array.length_toList, ← List.length_map (f := (·.key)), hk, List.length_map]
  refine iter_keys ns hgo En.ex hd (pi_one (tk := s1.toks) I1 _ (turn_keysN hd hk) ⟨_, Heap.get?_push_size _ rfl, rfl, by rw [sz] <;> rfl⟩ (q o bs ho hb))
/-- for k in d -/
theorem di_keys {tg : Expr} {kvs : List (NestedKey × PyData)} (h : DE X e dl (.dic kvs)) : DI X tg e dl (keysD kvs) := fun Kp F own H st S => by
  refine wi_of (pi_keysN (peW e)) ?_
  refine (h Kp F own H st S).mono fun v H1 ⟨s1, q1⟩ => ?_
  obtain ⟨a, o, rfl, h2, h3, h4⟩ := q1
  refine ⟨a, reg own F H1, kvs, rfl, ⟨h2, o, reg_sub _ _ h3, h4⟩, fun o' bs ho hb => ⟨s1, fun H2 => H2 a = some (DicO a o'), YAt (bs.map V.ref), ?_, fun H2 s2 => ?_, fun i H2 x H3 d hd ⟨e1, e2⟩ => ?_⟩⟩
  · have e : (keysD kvs).length = bs.length := by rw [← dpa_len hb, List.length_map]
    rw [e]
    exact walk_keysN
  · have eo : some (DicO a o) = some (DicO a o') := (reg_sub _ _ h3).symm.trans ho
    rw [← eo]
    exact s2 _ _ h3
  · subst e1
    obtain ⟨v, h5, h6⟩ := dpa_get hb hd
    rw [h5] at e2
    cases e2
    exact ⟨Same.refl _, fun R s3 _ => h6.up s3⟩
/-- sorted(d) -/
theorem c_sortedN {kvs : List (NestedKey × PyData)} (hc : X.calm = true) (hu : X.A.units + 64 < cLine) (hal : PySem.W.AllAlike (keysD kvs)) (hk : SortK (keysD kvs)) (hd : ∀ d ∈ keysD kvs, d.depth ≤ 32) : CallD1 X (.builtin "sorted") (.dic kvs) (.p (.list (srt (keysD kvs)))) := by
  refine ⟨fun xs H Q => ∃ (a : Addr) (G : Hp), xs = [.ref a] ∧ Same G H ∧ DicAt X G H a kvs ∧ ∀ p ys, H p = none → DpAll X.K G ys (srt (keysD kvs)) → Q (.ref p) (upd H p (.lst ys)), ?_, ?_⟩
  · intro pins s σ H vs us Q I r h
    obtain ⟨a, G, rfl, sG, ⟨ns, o, ho, En⟩, q⟩ := h
    obtain ⟨u, rfl, ru⟩ := vals1 r
    obtain rfl : u = Value.ref a := ru
    obtain ⟨es, ep, hdt, pe⟩ := En.es
    obtain ⟨bs, hbs, hb⟩ := keys_of pe
    have hgo := DicO.obj (I.hok a _ ho)
    have sz : es.size = bs.length := by rw [← Array.length_toList, ← List.length_map (f := (·.key)), hbs, List.length_map]
    have sz2 : bs.length = kvs.length := by
      have := dpa_len hb
      rw [List.length_map] at this
      rw [this]; exact List.length_map _
    have hz : bs.length ≤ 100000 := by rw [sz2]; exact En.sz
    have h100 : (100000 : Nat) ≤ sizeLine := by decide
    refine Calls.call_function_entry PyProof.Rows.kind_sorted PyProof.Rows.plain_sorted PyProof.Rows.entry_sorted (PyProof.Rows.args_sorted1 _) ?_
    unfold Builtin.«sorted»
    refine wpAny_bind (m := checkCount "sorted" 1 1 _) (wpAny_pure ?_)
    refine wpAny_bind (PySem.W.kdu_collect (A := X.A.in1) (kdl_raw ns En.ex hdt) (I.ok.hd hc) hgo (by omega) fun h' tk acc hkp hacc => ?_)
    have ea : acc.toList = bs.map Value.ref := by
      rw [← hbs]
      refine List.ext_getElem? fun j => ?_
      rw [List.getElem?_map, Array.getElem?_toList, Array.getElem?_toList]
      by_cases hj : j < es.size
      · have hj2 : j < acc.size := by rw [hacc.1]; exact hj
        obtain ⟨en, e1, e2⟩ := hacc.2 j acc[j] (Array.getElem?_eq_getElem hj2)
        rw [Array.getElem?_eq_getElem hj2, e1, e2]; rfl
      · rw [Array.getElem?_eq_none (by rw [hacc.1]; omega), Array.getElem?_eq_none (by omega)]; rfl
    have I1 : Inv X pins σ H { s with heap := h', toks := tk } := I.kept hkp
    rw [ea]
    refine wpAny_bind (wpAny_newList ?_ (by rw [List.length_map]; omega))
    have hoL : (h'.push (seqObj "list" (bs.map Value.ref).toArray 0)).get? h'.objs.size = some (seqObj "list" (bs.map Value.ref).toArray 0) := Heap.get?_push_size _ rfl
    show wpAny _ _ _ _ _ { s with heap := h'.push (seqObj "list" (bs.map Value.ref).toArray 0), toks := tk }
    have rv := vals_refs bs
    have e0 := each_red rv hb
    have er0 : PySem.W.EachIs (fun v d => ∃ as, Reads h' v d as) (bs.map Value.ref) (keysD kvs) := e0.mono fun u d ⟨v, r, h⟩ => Dp.reads I1 d v u (h.up sG) r
    have er : PySem.W.EachIs (fun v d => ∃ as, Reads (PySem.W.sortingHeap (h'.push (seqObj "list" (bs.map Value.ref).toArray 0)) h'.objs.size (bs.map Value.ref)) v d as) (bs.map Value.ref) (keysD kvs) :=
      er0.mono fun _ _ ⟨as, r⟩ => ⟨as, PyProof.Rows.Reads.keeps (fun b o e => PySem.W.sortingHeap_old (Nat.ne_of_lt (Heap.lt_size e)) (Heap.get?_push_of_some _ e)) r⟩
    refine wpAny_bind (wpAny_holding (wpAny_call_entry PyProof.Rows.slot_list_sort ⟨_, hoL, rfl⟩ PyProof.Rows.entry_list_sort
      (PySem.W.list_sort_vals (s := { s with heap := h'.push (seqObj "list" (bs.map Value.ref).toArray 0), toks := tk }) hoL (sortsAt (s := { s with heap := PySem.W.sortingHeap (h'.push (seqObj "list" (bs.map Value.ref).toArray 0)) h'.objs.size (bs.map Value.ref), toks := tk }) er hal hk fun d h => ?_) (by rw [List.length_map]; omega) ⟨_, rfl, ?_⟩)
      (PyProof.Rows.args_list_sort _)))
    · have := hd d h
      show X.A.units + 1 + 1 + d.depth < cLine
      omega
    · have eo := PySem.W.sortVals_data (β := PyData) (enc := id) (h' := PySem.W.sortingHeap (h'.push (seqObj "list" (bs.map Value.ref).toArray 0)) h'.objs.size (bs.map Value.ref)) false e0 (er.mono fun _ _ h => h) (by rw [List.map_id]; exact hal)
      rw [List.map_id] at eo
      obtain ⟨ys, r1, r2⟩ := red_each eo
      obtain ⟨c, hc2⟩ := PyProof.Rows.sortedHeap_at (vs := bs.map Value.ref) (out := (PySem.W.sortVals (PySem.W.dataKind (PySem.W.sortingHeap (h'.push (seqObj "list" (bs.map Value.ref).toArray 0)) h'.objs.size (bs.map Value.ref)) (keysD kvs)) false (bs.map Value.ref) (bs.map Value.ref)).toArray) hoL
      have hlen : ys.length ≤ sizeLine := by
        rw [r1.length, PySem.W.sortVals_length false rfl, List.length_map]; omega
      refine wpAny_pure ⟨_, rfl, .ref h'.objs.size, upd H h'.objs.size (.lst ys), I1.laid (t' := tk) (fun b u e => ?_) (Nat.le_refl _) ⟨hlen, _, c, r1, hc2⟩, rfl, q _ ys (I1.hok.fresh (Nat.le_refl _)) r2⟩
      have hlt := Heap.lt_size e
      rw [PyProof.Rows.sortedHeap_old (Nat.ne_of_lt hlt) (by rw [size_push']; exact Nat.lt_succ_of_lt hlt)]
      exact Heap.get?_push_of_some _ e
  · intro own F H x Q f hx q
    obtain ⟨a, rfl, D⟩ := RB.dicAt hx
    exact ⟨a, _, rfl, reg_sub, D, fun p ys hp hy => q _ _ (same_new hp) (new_list f hp hy)⟩
end
end Ac
-- part B6
set_option maxHeartbeats 4000000
set_option Elab.async false
set_option maxRecDepth 100000
set_option linter.all false
/-! Ac, part 15: dict comprehensions with keys that are nested tuples (one for, no tests). -/
namespace Ac
open PySem PySem.Spec PyProof.Rows L2
section
variable {X : Cx}
/-- d[k] = v, as a comprehension does it -/
theorem dset_dic {pins : List (Addr × Obj)} {st : L2.St} {H G : Hp} {s : Shared} {Q : Unit → Shared → Prop} {E : Value → Shared → Prop} {A : Around} {a b : Addr} {k : NestedKey} {kvs : List (NestedKey × PyData)} {v : V} {u : Value} {d : PyData} (hu : A.units + 64 < cLine) (I : Inv X pins st H s) (sG : Same G H) (hk : Dp X.K G (.ref b) k.data) (hd : k.depth ≤ 8)
    (D : DicAt X G H a kvs) (hz : kvs.length < 100000) (r : RelV v u) (hv : Dp X.K G v d) (h : ∀ s' o, Ent X.w X.K G o (putD kvs k d) → Inv X pins st (upd H a (DicO a o)) s' → Q () s') :
    wpAny (model X.prog X.w) A (dictSet a (.ref b) u) Q E s := by
  obtain ⟨ns, o, ho, En⟩ := D
  obtain ⟨xs, P, D, hl, _⟩ := dict_of I ho En sG
  refine wpAny_dictSet_heap (knd := nk X) (by show A.units + 8 < cLine; omega) (key_is I (hk.up sG) hd) D (fun h' D' sb => ?_) (by rw [hl]; exact Nat.le_trans (Nat.le_of_lt hz) (by decide))
  obtain ⟨o', e', E'⟩ := ent_of (put_paired r hv hk P) D' (by have := putD_len kvs k d; omega)
  exact h _ o' E' (d_write I (by rw [ho]; exact True.intro) sb ⟨o', e'⟩ (dicO_new e'))
/-- {k: v for target in iter} -/
def tDcN (X : Cx) (wi : TI) (g : TG) (tk tv : TE) (vs : List Nat) : TE := fun σ H Q => wi σ H fun J H1 => ∀ D o, H1 D = none → (D == sysModules) = false → Ent X.w X.K (fun _ => none) o [] → ∃ W : Nat → Nat → Hp → Prop, (∃ m, W 0 m (upd H1 D (DicO D o))) ∧ ∀ i m H, W i m H →
  (J.stop i H ∧ Q (.ref D) H) ∨ (J.go i H ∧ ∃ Nx : Hp → Prop, (∀ H', Nx H' → ∃ m', m' < m ∧ W (i + 1) m' H') ∧ ∀ x H', J.yld i H x H' → g x (wipe σ vs) H' fun σ2 H2 => wipe σ2 vs = wipe σ vs ∧
    tk σ2 H2 fun y H4 => tv σ2 H4 fun z H5 => ∃ (b : Addr) (k : NestedKey) (kvs : List (NestedKey × PyData)) (d : PyData) (G : Hp), y = .ref b ∧ Same G H5 ∧ Dp X.K G (.ref b) k.data ∧ k.depth ≤ 8 ∧ DicAt X G H5 D kvs ∧ kvs.length < 100000 ∧ Dp X.K G z d ∧
      ∀ o', Ent X.w X.K G o' (putD kvs k d) → Nx (upd H5 D (DicO D o')))
theorem pe_dcN {kx vx tg iter : Expr} {scope : Scope} {own : List (Str × Nat)} {pos : Pos} {wi : TI} {g : TG} {tk tv : TE} (hc : X.calm = true) (hu : X.A.units + 64 < cLine) (hN : X.N.Nodup) (hi : PI X tg iter wi) (ok : BlkOk X.N X.env.scope scope own)
    (hg : ∀ (s : Shared) (H : Hp) (C : Addr) (cl : List (Str × Addr)) (fp : List Addr), PG (BK X s H scope C cl fp) tg g)
    (hk : ∀ (s : Shared) (H : Hp) (C : Addr) (cl : List (Str × Addr)) (fp : List Addr), PE (BK X s H scope C cl fp) kx tk)
    (he : ∀ (s : Shared) (H : Hp) (C : Addr) (cl : List (Str × Addr)) (fp : List Addr), PE (BK X s H scope C cl fp) vx tv) (hs : ∀ x, foldedSetIterable iter X.env x = pure x := by intro _; rfl) :
    PE X (.DictComp kx vx [⟨tg, iter, [], 0⟩] scope pos) (tDcN X wi g tk tv (own.map (·.2))) := by
  refine ⟨fun pins s σ H Q I h => ?_⟩
  rw [arm_eval_DictComp]
  have free : ∀ y ∈ scope.names, y.2 = .free → ∃ c, X.env.cells.lookup y.1 = some c := fun y hy e => (ok.free y hy e).elim (fun k => I.ok.has _ (.inl k)) fun k => I.ok.has _ (.inr k)
  refine wpAny_comprehension_free (use := none) rfl hs (closure_ok free) ok.kind (fun y hy e => by rw [ok.uniq y hy, e]) (thn (hi.run pins s σ H _ I h) fun xv s1 hx => thn hx fun itv s2 h2 => ?_)
  obtain ⟨it, fp, tn, J, H2, e, I2, T, st2, f2, q⟩ := h2
  subst e
  refine wpAny_newObj_type (newEnv_comp ?_)
  generalize hD : s2.heap.objs.size = D
  have hDn : H2 D = none := I2.hok.fresh (Nat.le_of_eq hD)
  obtain ⟨W, ⟨m0, w0⟩, turn⟩ := q D { cls := .type "dict", data := .dict #[] } hDn (by rw [← hD]; exact beq_eq_false_iff_ne.mpr (Ne.symm (Nat.ne_of_lt I2.big))) ⟨⟨rfl, rfl, rfl⟩, List.nodup_nil, Nat.zero_le _, #[], 0, rfl, .nil⟩
  generalize hs3 : ({ s2 with heap := s2.heap.push { cls := .type "dict", data := .dict #[] } } : Shared) = s3
  have I3 : Inv X pins σ (upd H2 D (DicO D { cls := .type "dict", data := .dict #[] })) s3 := by
    rw [← hs3, ← hD]
    exact I2.laid (t' := s2.toks) (fun b o e => Heap.get?_push_of_some _ e) (Nat.le_refl _) (dicO_new (Heap.get?_push_size _ rfl))
  have h3 : s3.heap = s2.heap.push { cls := .type "dict", data := .dict #[] } := by rw [← hs3]
  generalize hH3 : upd H2 D (DicO D { cls := .type "dict", data := .dict #[] }) = H3 at I3 w0
  have sz : ∀ b ∈ fp, b < s2.heap.objs.size := fun b hb => by
    obtain ⟨o, e, _⟩ := T.obj _ _ st2 b hb
    exact Heap.lt_size e
  have f3 : ∀ b ∈ fp, FpOk X pins H3 b ∧ b < s3.heap.objs.size := fun b hb => by
    have hlt := sz b hb
    refine ⟨⟨?_, (f2 b hb).2⟩, by rw [h3, Heap.size_push]; exact Nat.lt_succ_of_lt hlt⟩
    rw [← hH3, upd_ne (by rw [← hD]; exact Nat.ne_of_lt hlt)]
    exact (f2 b hb).1
  have st3 : tn 0 s3.heap := T.keep _ _ _ st2 fun b _ o e => by rw [h3]; exact Heap.get?_push_of_some _ e
  have I4 := block_start I3 ok hN f3
  show codeAny _ _ (.compStart (.DictComp kx vx [⟨tg, iter, [], 0⟩] scope pos) 0 (.ref it) (.ref D) (compEnvC scope (cellsFrom (s3.heap.objs.size + 1) scope.names (cloFrom X.env.cells scope.names [])) s3.heap.objs.size X.env)) (compPost (model X.prog X.w) X.A X.xe none _ (.ref D) s3.heap.objs.size) { s3 with heap := pushCells (s3.heap.push { cls := .type "dict", data := .dict #[] }) scope.names }
  have pg := hg s3 H3 s3.heap.objs.size (cellsFrom (s3.heap.objs.size + 1) scope.names (cloFrom X.env.cells scope.names [])) fp
  have pk := hk s3 H3 s3.heap.objs.size (cellsFrom (s3.heap.objs.size + 1) scope.names (cloFrom X.env.cells scope.names [])) fp
  have pe := he s3 H3 s3.heap.objs.size (cellsFrom (s3.heap.objs.size + 1) scope.names (cloFrom X.env.cells scope.names [])) fp
  have nfp : ∀ b ∈ fp, H3 b = none := fun b hb => (f3 b hb).1.1
  unfold BK at pg pk pe
  generalize hce : compEnvC scope (cellsFrom (s3.heap.objs.size + 1) scope.names (cloFrom X.env.cells scope.names [])) s3.heap.objs.size X.env = ce at I4 pg pk pe ⊢
  have cL : ce.locals = s3.heap.objs.size := by subst hce; rfl
  generalize hs4 : ({ s3 with heap := pushCells (s3.heap.push { cls := .type "dict", data := .dict #[] }) scope.names } : Shared) = s4 at I4 ⊢
  have st4 : tn 0 s4.heap := T.keep _ _ _ st3 fun b _ o e => by rw [← hs4]; exact pushCells_keeps _ _ _ _ (Heap.get?_push_of_some _ e)
  have stat : ∀ {σ' : L2.St} {H' : Hp} {s' : Shared}, Inv (X.blk s3 H3 scope ce fp) [] σ' H' s' → (∀ b ∈ fp, H' b = none) → ∀ b ∈ fp, FpOk (X.blk s3 H3 scope ce fp) [] H' b := fun {σ' H' s'} I' hn b hb =>
    ⟨hn b hb, (I'.ok.exf b hb).1, I'.ok.exfs b hb, .inl hb, fun x c e => (I'.ok.exf b hb).2 x c e, fun p hp => absurd (show p ∈ ([] : List (Addr × Obj)) ++ [] from hp) (by simp)⟩
  refine codeAny_compStart_dict ?_ (T.self X.A 0 _ _ _ st4 ?_)
  all_goals
    refine compLoop_anyD (fun n s' => ∃ i H', Inv (X.blk s3 H3 scope ce fp) [] (wipe σ (own.map (·.2))) H' s' ∧ tn i s'.heap ∧ (∀ b ∈ fp, H' b = none) ∧ W i n H') ?_ m0 ⟨0, H3, I4, st4, nfp, w0⟩
    rintro n s5 ⟨i, H5, I5, st5, n5, w5⟩
    rcases turn i n H5 w5 with ⟨stop, qq⟩ | ⟨go, Nx, hNx, step⟩
    · refine thnF (T.done (X.blk s3 H3 scope ce fp) rfl rfl rfl hc i [] s5 _ H5 (fun _ _ => False) I5 (stat I5 n5) st5 stop) fun r s6 ⟨hr, I6⟩ => ?_
      subst hr
      have I7 : Inv X pins σ H5 s6 := I3.call' (ch := fp) I6.os I6.base I6.hok I6.bare fun b hb => ⟨(f3 b hb).1.2.2.2.1, (f3 b hb).1.2.1, (f3 b hb).1.2.2.2.2.1, (f3 b hb).1.2.2.2.2.2⟩
      have nC : H5 s3.heap.objs.size = none := by
        have z : H5 ce.locals = none := I6.free
        rwa [cL] at z
      obtain ⟨m, hn, _⟩ := I6.loc
      have hn : s6.heap.Ns ce.locals m := hn
      rw [cL] at hn
      obtain ⟨f0, f1, f2', f3', f4, f5⟩ := I3.fpOk (Nat.le_refl _) nC
      exact ⟨m, hn, fun h'' sb => ⟨.ref D, H5, I7.turned (t' := s6.toks) (fun b o hb e => (sb.2 b hb).trans e) f0 f1 f3' f4 f5, rfl, qq⟩⟩
    · refine thnF (T.item (X.blk s3 H3 scope ce fp) rfl rfl rfl hc i [] s5 _ H5 (fun _ _ => False) I5 (stat I5 n5) st5 go) fun r s6 ⟨u, hr, h6⟩ => ?_
      subst hr
      refine thnF h6 fun _ s7 ⟨x, H7, I7, r7, y7, st7, n7⟩ => ?_
      have I7' := I7.pinned (stat I7 n7) (T.obj _ _ st7)
      refine thnF (pg.run _ s7 _ H7 x u _ I7' r7 (step x H7 y7)) fun _ s8 ⟨σ8, H8, I8, hw8, q8⟩ => ?_
      rw [List.forIn_nil]
      refine wpAny_pure ?_
      rw [if_pos rfl]
      refine thnF (pk.run _ s8 σ8 H8 _ I8 q8) fun z s10 ⟨yk, H10, I10, r10, q10⟩ => ?_
      refine thnF (pe.run _ s10 σ8 H10 _ I10 q10) fun z2 s11 ⟨yv, H11, I11, r11, b, k, kvs, d, G, ek, sG, hkd, hdp, hDA, hz11, hv, nx⟩ => ?_
      subst ek
      obtain rfl : z = .ref b := r10
      refine dset_dic (X := X.blk s3 H3 scope ce fp) hu I11 sG hkd hdp ⟨hDA.1, hDA.2⟩ hz11 r11 hv fun s12 o' En I12 => ?_
      obtain ⟨m', hm, w'⟩ := hNx _ (nx o' En)
      have pin' : ∀ b ∈ fp, ∀ o, s7.heap.get? b = some o → s12.heap.get? b = some o ∧ (upd H11 D (DicO D o')) b = none := fun b hb o e =>
        let z := I12.pin (b, o) (List.mem_append_right _ (List.mem_append_right _ (mem_pinsAt hb e)))
        ⟨z.1, z.2.1⟩
      have hl : (wipe σ (own.map (·.2))).length = σ8.length := by rw [← hw8, wipe_length]
      refine ⟨m', hm, i + 1, _, (I12.unpinned (pins := [])).weak hl (fun j v e => ?_), T.keep _ _ _ st7 fun b hb o e => (pin' b hb o e).1, fun b hb => ?_, w'⟩
      · rw [← hw8] at e
        exact (wipe_some e).1
      · obtain ⟨o, e, _⟩ := T.obj _ _ st7 b hb
        exact (pin' b hb o e).2
/-- what a comprehension of these pairs makes -/
def dcD (l : List (NestedKey × PyData)) : List (NestedKey × PyData) := l.foldl (fun kvs p => putD kvs p.1 p.2) []
theorem dcD_snoc (l : List (NestedKey × PyData)) (p : NestedKey × PyData) : dcD (l ++ [p]) = putD (dcD l) p.1 p.2 := by
  unfold dcD
  rw [List.foldl_append]
  rfl
theorem dcD_len (l : List (NestedKey × PyData)) : (dcD l).length ≤ l.length := by
  have aux : ∀ (l acc : List (NestedKey × PyData)), (l.foldl (fun kvs p => putD kvs p.1 p.2) acc).length ≤ acc.length + l.length := by
    intro l
    induction l with
    | nil => intro acc; exact Nat.le_refl _
    | cons p l ih =>
      intro acc
      have := ih (putD acc p.1 p.2)
      have := putD_len acc p.1 p.2
      simp only [List.foldl_cons, List.length_cons]
      omega
  have := aux l []
  simpa [dcD] using this
theorem take_snoc {α : Type} {l : List α} {i : Nat} {x : α} (h : l[i]? = some x) : l.take (i + 1) = l.take i ++ [x] := by
  rw [List.take_succ, h] <;> rfl
variable {dl : List Sl} {pos : Pos}
theorem df_dc {kx vx tg it : Expr} {scope : Scope} {onm : List (Str × Nat)} {A : Type} {enc : A → PyData} {xs : List A} {key : A → NestedKey} {val : A → PyData} {dl1 : A → List Sl}
    (hc : X.calm = true) (hu : X.A.units + 64 < cLine) (hN : X.N.Nodup) (hi : DI X tg it dl (xs.map enc)) (ok : BlkOk X.N X.env.scope scope onm) (hfree : ∀ i ∈ onm.map (·.2), slFree (dl.getD i .no) = true)
    (hg : ∀ (s : Shared) (H : Hp) (C : Addr) (cl : List (Str × Addr)) (fp : List Addr) (x : A), x ∈ xs → ∃ is : List Nat, (∀ i ∈ is, i ∈ onm.map (·.2)) ∧ GT (BK X s H scope C cl fp) tg is (wipeS dl (onm.map (·.2))) (enc x) (dl1 x))
    (hk : ∀ (s : Shared) (H : Hp) (C : Addr) (cl : List (Str × Addr)) (fp : List Addr) (x : A), x ∈ xs → DE (BK X s H scope C cl fp) kx (dl1 x) (.p (key x).data))
    (hv : ∀ (s : Shared) (H : Hp) (C : Addr) (cl : List (Str × Addr)) (fp : List Addr) (x : A), x ∈ xs → DE (BK X s H scope C cl fp) vx (dl1 x) (.p (val x)))
    (hkt : ∀ x ∈ xs, (∃ ds, (key x).data = .tuple ds) ∧ (key x).depth ≤ 8) (hz : xs.length < 100000) (hs : ∀ x, foldedSetIterable it X.env x = pure x := by intro _; rfl) :
    DF X (.DictComp kx vx [⟨tg, it, [], 0⟩] scope pos) dl (.od (dcD (xs.map fun x => (key x, val x)))) := fun Kp F own H st S => fun pins s I => by
  have hlen := I.len
  refine (pe_dcN hc hu hN (piW tg it) ok (fun s H C cl fp => pgB s H C cl fp) (fun s H C cl fp => peB s H C cl fp) (fun s H C cl fp => peB s H C cl fp) hs).run pins s st H _ I ?_
  refine WI.mono (hi Kp F own H st S) fun J H1 ⟨s1, G, Y, W, hG, hY⟩ => ?_
  intro D o0 hD hsy E0
  have S1 := S.grow s1
  have fD := S1.fresh hD
  have kD : Kp D = none := S1.kp.free hD
  have n : xs.length = (xs.map enc).length := (List.length_map _).symm
  rw [← n] at W
  let F' : Addr → Prop := fun a => F a ∨ a = D
  let pr : A → NestedKey × PyData := fun x => (key x, val x)
  have nD : ∀ a u, H1 a = some u → a ≠ D := fun a u q e => by rw [e, hD] at q; cases q
  refine ⟨fun i m H2 => m = xs.length - i ∧ i ≤ xs.length ∧ Same H1 H2 ∧ ∃ o, H2 D = some (DicO D o) ∧ Ent X.w X.K (reg own F' H2) o (dcD ((xs.take i).map pr)) ∧ SE X Kp F' dl own H2 st,
    ⟨xs.length, by simp, Nat.zero_le _, same_new hD, o0, upd_same, by rw [List.take_zero]; exact E0.up (fun _ _ z => nomatch z), S1.hide hD⟩, ?_⟩
  rintro i m H2 ⟨rfl, hi', s2, o, hD2, En, S2⟩
  have hGG := hG H2 (reg_sub.trans s2)
  by_cases hlt : i < xs.length
  · refine .inr ⟨W.goes i H2 hlt hGG, fun H' => Same H1 H' ∧ ∃ o, H' D = some (DicO D o) ∧ Ent X.w X.K (reg own F' H') o (dcD ((xs.take (i + 1)).map pr)) ∧ SE X Kp F' dl own H' st, fun H' ⟨a1, a2⟩ => ⟨xs.length - (i + 1), by omega, rfl, hlt, a1, a2⟩, fun x H3 y => ?_⟩
    have y' := W.yields i H2 x H3 hlt hGG y
    obtain ⟨z, hz'⟩ : ∃ z, xs[i]? = some z := ⟨xs[i], List.getElem?_eq_getElem hlt⟩
    have hm : z ∈ xs := List.mem_of_getElem? hz'
    obtain ⟨s3, hx⟩ := hY i H2 x H3 (enc z) (by rw [List.getElem?_map, hz']; rfl) y'
    have S3 := S2.grow s3
    have hx' : Dp X.K (reg own F' H3) x (enc z) := hx _ (reg_mono fun a u h1 h2 h3 => ⟨s3 _ _ (s2 _ _ h3), h1, fun q => q.elim h2 (nD a u h3)⟩) fun a u h1 h2 => by
      rw [reg_in (S2.fresh h1).1 (S2.fresh h1).2]
      exact h2
    intro s' H0 C cl fp
    obtain ⟨is, his, hgt⟩ := hg s' H0 C cl fp z hm
    have Sw : SE (BK X s' H0 scope C cl fp) Kp F' (wipeS dl (onm.map (·.2))) own H3 (L2.wipe st (onm.map (·.2))) := (S3.wipe hfree).cx rfl rfl rfl
    refine (hgt Kp _ own H3 _ x Sw (by rw [wipe_length]; exact hlen) hx').mono fun st4 H4 ⟨e4, S4, l4, w4⟩ => ?_
    subst e4
    refine ⟨(w4 _ his).trans ?_, fun s5 H05 C5 cl5 fp5 => ?_⟩
    · refine List.ext_getElem? fun i => ?_
      by_cases m : i ∈ onm.map (·.2)
      · have a1 : ∀ ws : List Nat, i ∈ ws → ∀ q : L2.St, (L2.wipe q ws)[i]? = if i < q.length then some none else none := by
          intro ws hw q
          induction ws with
          | nil => cases hw
          | cons w ws ih =>
            unfold L2.wipe
            rw [List.getElem?_set]
            by_cases e : w = i
            · subst e; rw [if_pos rfl, wipe_length]
            · rw [if_neg e]; exact ih ((List.mem_cons.mp hw).resolve_left (Ne.symm e))
        rw [a1 _ m, a1 _ m, wipe_length]
      · rw [wipe_out m]
    · have Sv : SE (BK X s5 H05 scope C5 cl5 fp5) Kp F' (dl1 z) own H4 st4 := S4.cx rfl rfl rfl
      refine (hk s5 H05 C5 cl5 fp5 z hm Kp _ own H4 st4 Sv).mono fun kv H5 ⟨s5', r5⟩ => ?_
      intro s6 H06 C6 cl6 fp6
      refine (hv s6 H06 C6 cl6 fp6 z hm Kp _ own H5 st4 ((Sv.grow s5').cx rfl rfl rfl)).mono fun v H6 ⟨s6', r6⟩ => ?_
      have s26 := (s3.trans s5').trans s6'
      have S6 := S2.grow s26
      obtain ⟨ds, hds⟩ := (hkt z hm).1
      have r5' : Dp X.K (reg own F' H6) kv (key z).data := Dp.up r5 (reg_up s6')
      obtain ⟨b, rfl⟩ : ∃ b, kv = .ref b := by rw [hds] at r5'; exact ref_of r5'
      have fin : ∀ o, reg own F' (upd H6 D (DicO D o)) = reg own F' H6 := fun o => by
        funext a
        by_cases e : a = D
        · subst e; unfold reg; rw [if_pos (.inr (.inr rfl)), if_pos (.inr (.inr rfl))]
        · unfold reg; rw [upd_ne e]
      have hl := dcD_len ((xs.take i).map pr)
      rw [List.length_map, List.length_take] at hl
      refine ⟨b, key z, dcD ((xs.take i).map pr), val z, reg own F' H6, rfl, reg_sub, r5', (hkt z hm).2, ⟨hsy, o, s26 _ _ hD2, En.up (reg_up s26)⟩, by omega, r6, fun o' E' => ⟨fun a u q => ?_, o', upd_same, ?_, S6.hidden (.inr rfl) kD⟩⟩
      · rw [upd_ne (nD a u q)]; exact s26 _ _ (s2 _ _ q)
      · rw [take_snoc hz', List.map_append, fin]
        have := dcD_snoc ((xs.take i).map pr) (pr z)
        rw [show [z].map pr = [pr z] from rfl, this]
        exact E'
  · have e : i = xs.length := by omega
    subst e
    rw [List.take_length] at En
    refine .inl ⟨W.stops H2 hGG, fun a => if a = D then none else H2 a, D, DicO D o, fun a u q => ?_, if_pos rfl, ?_, rfl, o, rfl, hsy, En.up fun a u q => ?_⟩
    · have q1 := s1 a u q
      show (if a = D then none else H2 a) = some u
      rw [if_neg (nD a u q1)]
      exact s2 _ _ q1
    · funext a
      by_cases e : a = D
      · subst e; rw [upd_same, hD2]
      · rw [upd_ne e, if_neg e]
    · obtain ⟨q1, q2, q3⟩ := reg_some q
      rw [reg_in q2 (fun z => q3 (.inl z)), if_neg (fun z => q3 (.inr z))]
      exact q1
end
end Ac
-- part B7
set_option maxHeartbeats 4000000
set_option Elab.async false
set_option maxRecDepth 100000
set_option linter.all false
/-! Ac, part 16: what is done with dicts whose keys are nested tuples. -/
namespace Ac
open PySem PySem.Spec PyProof.Rows L2
section
variable {X : Cx} {e a b c : Expr} {es : List Expr} {dl : List Sl} {t u r : T} {pos p : Pos} {D : DK}
/-! ### d[k] = v -/
def gSetN (X : Cx) : TSet := fun o i v H Q => ∃ (b a : Addr) (k : NestedKey) (kvs : List (NestedKey × PyData)) (d : PyData) (G : Hp), o = .ref a ∧ i = .ref b ∧ Same G H ∧ G a = none ∧ Dp X.K G (.ref b) k.data ∧ k.depth ≤ 8 ∧ DicAt X G H a kvs ∧ kvs.length < 100000 ∧ Dp X.K G v d ∧
  ∀ ob, Ent X.w X.K G ob (putD kvs k d) → Q (upd H a (DicO a ob))
theorem pset_N (hu : X.A.units + 64 < cLine) : PSet X (gSetN X) := by
  intro pins s σ H x y v ov iv u Q I rx ry rv h
  obtain ⟨b, a, k, kvs, d, G, rfl, rfl, sG, ga, hk, hd, D, hz, hv, q⟩ := h
  cases rx
  cases ry
  exact set_dic hu I sG ga hk hd D hz rv hv fun s' o En I' => ⟨_, I', q o En⟩
theorem s_setN (i : Nat) {x : Str} {px pos2 : Pos} {ke : Expr} {kvs : List (NestedKey × PyData)} {ds : List PyData} {d : PyData} (k : NestedKey) (hu : X.A.units + 64 < cLine) (hd : dl.getD i .no = .od kvs) (he : DE X e dl (.p d)) (hk : DE X ke dl (.p (.tuple ds))) (hkd : k.data = .tuple ds) (hdp : k.depth ≤ 8) (hz : kvs.length < 100000)
    (q : D.nx (dl.set i (.od (putD kvs k d)))) (hN : X.N[i]? = some x := by rfl) (hv : Vis X.env.scope x := by first | exact Or.inl rfl | exact Or.inr (Or.inl rfl)) (h1 : (x == ("__debug__" : Str)) = false := by decide) (h2 : (x == ("__classdict__" : Str)) = false := by decide)
    (ha : ∀ v, assign (.Subscript (.Name x px) ke pos2) X.env v = (do
      let ov ← holding [v] (eval (.Name x px) X.env)
      let iv ← holding [v, ov] (eval ke X.env)
      standAt pos2
      holding [v, ov, iv] (setItem ov iv v)
      release [v, ov, iv] []) := by intro _; rfl)
    (hs : swapsWithSole [.Subscript (.Name x px) ke pos2] e pos.line X.env = pure false := by rfl) (hw : swappedStores [.Subscript (.Name x px) ke pos2] e X.env = pure none := by rfl)
    (h3 : (assignEach [.Subscript (.Name x px) ke pos2] X.env).map (·.2) = [assign (.Subscript (.Name x px) ke pos2) X.env] := by rfl) : SX X (.Assign [.Subscript (.Name x px) ke pos2] e pos) D dl := fun Kp F own H st S hlen => by
  refine w1_of (ps_asg (peW e) (pg_sub (pe_var (i := i) hN hv h1 h2) (peW ke) (pset_N hu) ha) hs hw h3) ?_
  refine (he Kp F own H st S).mono fun v H1 ⟨s1, r1⟩ => ?_
  have S1 := S.grow s1
  have ok := S1.sl i
  rw [hd] at ok
  obtain ⟨l, o, e1, e2, hm, h4, h5⟩ := ok
  have e' : st[i]? = some (some (.ref l)) := by
    rw [List.getD_eq_getElem?_getD] at e2
    cases z : st[i]? with
    | none => rw [z] at e2; cases e2
    | some o => rw [z] at e2; simpa using e2
  refine ⟨_, e', ?_⟩
  refine (hk Kp F own H1 st S1).mono fun kv H2 ⟨s2, r2⟩ => ?_
  have S2 := S1.grow s2
  obtain ⟨b, rfl⟩ := ref_of (show Dp X.K (reg own F H2) kv (.tuple ds) from r2)
  have hl : l ∈ own i := by rw [e1]; simp
  refine ⟨b, l, k, kvs, d, reg own F H2, rfl, rfl, reg_sub, ?_, by rw [hkd]; exact r2, hdp, ⟨hm, o, s2 _ _ h4, h5.up (reg_up s2)⟩, hz, Dp.up r1 (reg_up s2), fun ob En => ?_⟩
  · unfold reg; rw [if_pos (.inl ⟨i, hl⟩)]
  · have keep : ∀ a u, a ∉ own i → H2 a = some u → upd H2 l (DicO l ob) a = some u := fun a u ha q => by rw [upd_ne (show a ≠ l from fun z => ha (by rw [z]; exact hl))]; exact q
    have new : ∀ a ∈ own i, a ∈ own i ∨ H2 a = none := fun a h => .inl h
    exact ⟨_, _, S2.chg (s := .od (putD kvs k d)) (getD_lt hd (by intro z; cases z)) keep new e2 (fun _ _ => rfl) ⟨l, ob, e1, rfl, hm, upd_same, En.up (S2.regS keep new)⟩, q⟩
/-! ### a method of such a dict -/
def tBMD (r : V → List V → Hp → VK → Prop) (to : TE) (t : TA) : TE := fun σ H Q => to σ H fun x H1 => (∃ a o, x = .ref a ∧ H1 a = some (DicO a o) ∧ o.ExactDict) ∧ t σ H1 fun xs H2 => r x xs H2 Q
theorem pe_bmD {o : Expr} {to : TE} {ta : TA} {name : Str} {apos cpos : Pos} {id : String} {rr : V → List V → Hp → VK → Prop} (slot : Slot "dict" name id) (hty : typeOf (.builtin id) = pure (.type "method_descriptor")) (hm : MtR X id rr) (ho : PE X o to) (ha : PA X (e :: es) ta)
    (hbase : attributeBase o name X.env (eval o X.env) = eval o X.env := by rfl)
    (hfew : ((backTo cpos (starEach (e :: es) X.env)).all (fun x => !x.1) && (backToKw cpos (keywordEach [] X.env)).all (fun x => x.1.isSome)
      && decide ((e :: es).length + ([] : List Keyword).length + (if ([] : List Keyword).isEmpty then 0 else 1) < 30)) = true := by rfl)
    (hline : (apos.endLine == cpos.line) = true := by rfl) (hs : starEach (e :: es) X.env = (false, eval e X.env) :: starEach es X.env := by rfl) (hplain : (backTo cpos (starEach es X.env)).any (·.1) = false := by rfl) :
    PE X (.Call (.Attribute o name apos) (e :: es) [] cpos) (tBMD rr to ta) := by
  refine ⟨fun pins s σ H Q I h => ?_⟩
  refine wpAny_Call_method_late hbase hfew hline rfl (thn (ho.run pins s σ H _ I h) fun v s1 ⟨x, H1, I1, r1, ⟨a, ob, ex, hgo, hex⟩, q1⟩ => ?_)
  subst ex
  obtain rfl : v = .ref a := r1
  have go := DicO.obj (I1.hok a _ hgo)
  refine ⟨"dict", id, F.plainAttrs_dict, slot, hty, ⟨ob, go, hex.1⟩, fun a' ea => ⟨ob, by cases ea; exact go, hex.2.1⟩, ?_⟩
  have hA := ha.run cpos pins s1 σ H1 _ I1 q1
  rw [hs] at hA ⊢
  refine Calls.callWith_builtin (by show (false || (backTo cpos (starEach es X.env)).any (·.1)) = false; rw [hplain] <;> rfl) (Calls.evalArgs_plain ?_)
  exact thn hA fun us s2 ⟨vs, H2, I2, r2, q2⟩ => hm pins s2 σ H2 (.ref a) vs (.ref a) us Q I2 rfl r2 q2
/-- d.get(k, f) -/
def rGetN (X : Cx) : V → List V → Hp → VK → Prop := fun x vs H Q => ∃ (b a : Addr) (k : NestedKey) (G : Hp) (kvs : List (NestedKey × PyData)) (f : V) (fd : PyData), x = .ref a ∧ vs = [.ref b, f] ∧ Same G H ∧ Dp X.K G (.ref b) k.data ∧ k.depth ≤ 8 ∧ DicAt X G H a kvs ∧ Dp X.K G f fd ∧
  ∀ z, Dp X.K G z ((lk kvs k).getD fd) → Q z H
theorem mt_getN (hu : X.A.units + 64 < cLine) : MtR X "dict.get" (rGetN X) := by
  intro pins s σ H x vs v us Q I rx rs h
  obtain ⟨b, a, k, G, kvs, f, fd, rfl, rfl, sG, hk, hd, ⟨ns, o, ho, En⟩, hf, q⟩ := h
  cases rx
  obtain ⟨u1, u2, rfl, r1, r2⟩ := vals2 rs
  cases r1
  obtain ⟨xs, P, D, hl, _⟩ := dict_of I ho En sG
  refine call_meetsIn F.slot_dict_get D.typeIs F.entry_dict_get (F.args_dict_get_3 _ _ _) (meetsH_dict_get_default (nk X) a b ns u2) ⟨by show X.A.units + 1 + 8 < cLine; omega, k, xs, key_is I (hk.up sG) hd, D, ?_⟩
  obtain ⟨h1, h2⟩ := atKey_of k P
  cases e : lk kvs k with
  | none =>
    rw [h1 e]
    rw [e] at q
    exact ⟨f, H, I.tok _, r2, q f hf⟩
  | some d =>
    obtain ⟨pp, e2, z, rz, hz⟩ := h2 d e
    rw [e2]
    rw [e] at q
    exact ⟨z, H, I.tok _, rz, q z hz⟩
theorem d_getN {o ke fe : Expr} {apos : Pos} {kvs : List (NestedKey × PyData)} {ds : List PyData} {fd : PyData} (k : NestedKey) (hu : X.A.units + 64 < cLine) (ho : DE X o dl (.dic kvs)) (hk : DE X ke dl (.p (.tuple ds))) (hf : DE X fe dl (.p fd)) (hkd : k.data = .tuple ds) (hdp : k.depth ≤ 8)
    (h : ∀ (r : V → List V → Hp → VK → Prop) (to : TE) (t : TA), MtR X "dict.get" r → PE X o to → PA X [ke, fe] t → PE X (.Call (.Attribute o "get" apos) [ke, fe] [] p) (tBMD r to t) := by intro r to t h1 h2 h3; exact pe_bmD PySem.F.slot_dict_get PySem.F.type_dict_get h1 h2 h3)
    (hs : starEach [ke, fe] X.env = (false, eval ke X.env) :: starEach [fe] X.env := by rfl) (hs2 : starEach [fe] X.env = (false, eval fe X.env) :: starEach [] X.env := by rfl) : DE X (.Call (.Attribute o "get" apos) [ke, fe] [] p) dl (.p ((lk kvs k).getD fd)) := fun Kp F own H st S => by
  refine we_of (h (rGetN X) (WE X o) (WA X [ke, fe]) (mt_getN hu) (peW o) (paW _)) ?_
  refine (ho Kp F own H st S).mono fun v H1 ⟨s1, q1⟩ => ?_
  obtain ⟨a, ob, rfl, hns, ho1, En⟩ := q1
  refine ⟨⟨a, ob, rfl, reg_sub _ _ ho1, En.ex⟩, ?_⟩
  have hA : DA X [ke, fe] dl [.p (.tuple ds), .p fd] := da_cons hk (da_cons hf da_nil hs2) hs
  refine (hA Kp F own H1 st (S.grow s1)).mono fun ws H2 ⟨s2, q2⟩ => ?_
  cases q2 with
  | @cons w _ _ _ r1 r2 =>
    cases r2 with
    | @cons w2 _ _ _ r3 r4 =>
      cases r4
      obtain ⟨b, rfl⟩ := ref_of (show Dp X.K (reg own F H2) w (.tuple ds) from r1)
      exact ⟨b, a, k, reg own F H2, kvs, w2, fd, rfl, rfl, reg_sub, by rw [hkd]; exact r1, hdp, ⟨hns, ob, s2 _ _ (reg_sub _ _ ho1), En.up (reg_up s2)⟩, r3, fun z hz => ⟨s1.trans s2, hz⟩⟩
/-! ### d.update(f) -/
def putAll (kvs more : List (NestedKey × PyData)) : List (NestedKey × PyData) := more.foldl (fun acc x => putD acc x.1 x.2) kvs
theorem putAll_paired {K : PySem.W.Frag} {G : Hp} : ∀ {more kvs : List (NestedKey × PyData)} {ps xs : List (NestedKey × Addr × Value)}, Paired (EntX K G) kvs xs → Paired (EntX K G) more ps → Paired (EntX K G) (putAll kvs more) (storedAllH xs ps)
  | _, _, _, _, h, .nil => h
  | _, _, _, _, h, .cons (a := kv) (b := q) ⟨e1, h2, v, h3, h4⟩ t => by
    unfold putAll storedAllH
    rw [List.foldl_cons, List.foldl_cons]
    have := putAll_paired (put_paired (k := kv.1) h3 h4 h2 h) t
    rw [← e1] at this
    rw [← e1]
    exact this
theorem putAll_len (more : List (NestedKey × PyData)) : ∀ kvs : List (NestedKey × PyData), (putAll kvs more).length ≤ kvs.length + more.length := by
  induction more with
  | nil => intro kvs; exact Nat.le_refl _
  | cons p l ih =>
    intro kvs
    have := ih (putD kvs p.1 p.2)
    have := putD_len kvs p.1 p.2
    show (putAll (putD kvs p.1 p.2) l).length ≤ _
    simp only [List.length_cons]
    omega
def rUpdN (X : Cx) : V → List V → Hp → VK → Prop := fun x vs H Q => ∃ (a b : Addr) (G : Hp) (kvs more : List (NestedKey × PyData)), x = .ref a ∧ vs = [.ref b] ∧ a ≠ b ∧ Same G H ∧ DicAt X G H a kvs ∧ DicAt X G H b more ∧ kvs.length + more.length ≤ 100000 ∧
  (kvs ≠ [] ∨ ((∀ x ∈ more, ∃ ds, x.1.data = .tuple ds) ∧ (more.map fun x => x.1.hash X.w).Nodup)) ∧ ∀ o, Ent X.w X.K G o (putAll kvs more) → Q .non (upd H a (DicO a o))
theorem mt_updN (hu : X.A.units + 64 < cLine) : MtR X "dict.update" (rUpdN X) := by
  intro pins s σ H x vs v us Q I rx rs h
  obtain ⟨a, b, G, kvs, more, rfl, rfl, hab, sG, ⟨ns, o, ho, En⟩, ⟨ns2, o2, ho2, En2⟩, hz, hap, q⟩ := h
  cases rx
  obtain ⟨u1, rfl, r1⟩ := vals1 rs
  cases r1
  obtain ⟨xs, P, D, hl, _⟩ := dict_of I ho En sG
  obtain ⟨ys, P2, D2, hl2, hk2⟩ := dict_of I ho2 En2 sG
  have h100 : (100000 : Nat) ≤ sizeLine := by decide
  refine PySem.call_update_dictH (knd := nk X) (by show X.A.units + 1 + 8 < cLine; omega) hab ns2 D D2 ?_ (by rw [hl, hl2]; omega) fun h' D' _ sb => ?_
  · rcases hap with hne | ⟨ht, hn⟩
    · exact .inl fun z => hne (by rw [z] at hl; exact List.eq_nil_of_length_eq_zero hl.symm)
    · refine .inr ⟨fun y hy => ?_, ?_⟩
      · have aux : ∀ {kvs : List (NestedKey × PyData)} {xs : List (NestedKey × Addr × Value)}, Paired (EntX X.K G) kvs xs → ∀ y ∈ xs, ∃ x ∈ kvs, y.1 = x.1 ∧ Dp X.K G (.ref y.2.1) x.1.data := by
          intro kvs xs P
          induction P with
          | nil => intro y h; cases h
          | cons q t ih =>
            intro y hy
            obtain ⟨q1, q2, _⟩ := q
            rcases List.mem_cons.mp hy with rfl | hy
            · exact ⟨_, List.mem_cons_self, q1, q2⟩
            · obtain ⟨x, m, r⟩ := ih y hy
              exact ⟨x, List.mem_cons_of_mem _ m, r⟩
        obtain ⟨x, hx, e1, hd⟩ := aux P2 y hy
        obtain ⟨ds, hds⟩ := ht x hx
        rw [hds] at hd
        cases hd with
        | tup hs ha =>
          obtain ⟨its, rv, ⟨oo, hoo, hc, _⟩, _⟩ := I.tuple (sqT_mono sG hs)
          exact ⟨oo, hoo, hc⟩
      · have e : (ys.map fun x => (nk X).hash x.1) = more.map fun x => x.1.hash X.w := by
          have e2 : (more.map (·.1)).map (fun k => NestedKey.hash X.w k) = (ys.map (·.1)).map (fun k => NestedKey.hash X.w k) := by rw [hk2]
          rw [List.map_map, List.map_map] at e2
          exact e2.symm
        rw [e]
        exact hn
  · obtain ⟨o', e', E'⟩ := ent_of (putAll_paired P P2) D' (by have := putAll_len more kvs; omega)
    exact ⟨.non, _, d_write (t' := s.toks) I (by rw [ho]; exact True.intro) sb ⟨o', e'⟩ (dicO_new e'), rfl, q o' E'⟩
/-- found.update(fresh), both slots' own -/
theorem s_updN (i j : Nat) {x y : Str} {kvs more : List (NestedKey × PyData)} {npos ypos apos : Pos} (hu : X.A.units + 64 < cLine) (hij : i ≠ j) (hd : dl.getD i .no = .od kvs) (hd2 : dl.getD j .no = .od more) (hz : kvs.length + more.length ≤ 100000)
    (hap : kvs ≠ [] ∨ ((∀ x ∈ more, ∃ ds, x.1.data = .tuple ds) ∧ (more.map fun x => x.1.hash X.w).Nodup)) (q : D.nx (dl.set i (.od (putAll kvs more))))
    (h : ∀ (r : V → List V → Hp → VK → Prop) (to : TE) (t : TA), MtR X "dict.update" r → PE X (.Name x npos) to → PA X [.Name y ypos] t → PE X (.Call (.Attribute (.Name x npos) "update" apos) [.Name y ypos] [] p) (tBMD r to t) := by intro r to t h1 h2 h3; exact pe_bmD PySem.F.slot_dict_update PySem.F.type_dict_update h1 h2 h3)
    (hN : X.N[i]? = some x := by rfl) (hv : Vis X.env.scope x := by first | exact Or.inl rfl | exact Or.inr (Or.inl rfl)) (h1 : (x == ("__debug__" : Str)) = false := by decide) (h2 : (x == ("__classdict__" : Str)) = false := by decide)
    (hN' : X.N[j]? = some y := by rfl) (hv' : Vis X.env.scope y := by first | exact Or.inl rfl | exact Or.inr (Or.inl rfl)) (h1' : (y == ("__debug__" : Str)) = false := by decide) (h2' : (y == ("__classdict__" : Str)) = false := by decide)
    (hs : swapsWith (.Call (.Attribute (.Name x npos) "update" apos) [.Name y ypos] [] p) none pos.line X.env = pure false := by rfl) (hse : starEach [.Name y ypos] X.env = (false, eval (.Name y ypos) X.env) :: starEach [] X.env := by rfl) :
    SX X (.Expr (.Call (.Attribute (.Name x npos) "update" apos) [.Name y ypos] [] p) pos) D dl := fun Kp F own H st S hlen => by
  refine w1_of (ps_expr (h (rUpdN X) (tVar i) (tCons (tVar j) tNil) (mt_updN hu) (pe_var hN hv h1 h2) (pa_cons (pe_var hN' hv' h1' h2') pa_nil hse)) hs) ?_
  have slot : ∀ (i : Nat) (kvs : List (NestedKey × PyData)), dl.getD i .no = .od kvs → ∃ l o, own i = [l] ∧ st[i]? = some (some (.ref l)) ∧ st.getD i none = some (.ref l) ∧ (l == sysModules) = false ∧ H l = some (DicO l o) ∧ Ent X.w X.K (reg own F H) o kvs := fun i kvs hd => by
    have ok := S.sl i
    rw [hd] at ok
    obtain ⟨l, o, e1, e2, hm, h4, h5⟩ := ok
    refine ⟨l, o, e1, ?_, e2, hm, h4, h5⟩
    rw [List.getD_eq_getElem?_getD] at e2
    cases z : st[i]? with
    | none => rw [z] at e2; cases e2
    | some o => rw [z] at e2; simpa using e2
  obtain ⟨l, o, e1, e2, e3, hm, h4, h5⟩ := slot i kvs hd
  obtain ⟨l', o', f1, f2, f3, hm', g4, g5⟩ := slot j more hd2
  have hl : l ∈ own i := by rw [e1]; simp
  have hl' : l' ∈ own j := by rw [f1]; simp
  refine ⟨_, e2, ⟨l, o, rfl, h4, h5.ex⟩, _, f2, l, l', reg own F H, kvs, more, rfl, rfl, fun z => hij (S.dis i j l hl (z ▸ hl')), reg_sub, ⟨hm, o, h4, h5⟩, ⟨hm', o', g4, g5⟩, hz, hap, fun ob En => ?_⟩
  have keep : ∀ a u, a ∉ own i → H a = some u → upd H l (DicO l ob) a = some u := fun a u ha q => by rw [upd_ne (show a ≠ l from fun z => ha (by rw [z]; exact hl))]; exact q
  have new : ∀ a ∈ own i, a ∈ own i ∨ H a = none := fun a h => .inl h
  exact ⟨_, _, S.chg (s := .od (putAll kvs more)) (getD_lt hd (by intro z; cases z)) keep new e3 (fun _ _ => rfl) ⟨l, ob, e1, rfl, hm, upd_same, En.up (S.regS keep new)⟩, q⟩
/-! ### d == {}, d != {} -/
theorem same_empty {prog : Program} {w : World} {A : Around} {E : Value → Shared → Prop} {s : Shared} {nm : String} {a b : Addr} {oa ob : Obj} {es : Array DictEntry} {ep ep' : Nat} {Q : Bool → Shared → Prop} (ha : (a == sysModules) = false) (hb : (b == sysModules) = false)
    (hoa : s.heap.get? a = some oa) (hda : oa.data = .dict es ep) (hob : s.heap.get? b = some ob) (hdb : ob.data = .dict #[] ep') (h : Q (es.size == 0) s) : wpAny (model prog w) A (Builtin.Dict.samePairs nm a b) Q E s := by
  unfold Builtin.Dict.samePairs Builtin.Dict.showsAll
  rw [if_neg (show ¬ (a == sysModules) = true by rw [ha]; exact Bool.false_ne_true), if_neg (show ¬ (b == sysModules) = true by rw [hb]; exact Bool.false_ne_true)]
  refine wpAny_bind (wpAny_pure (wpAny_bind (wpAny_pure ?_)))
  refine wpAny_bind (wpAny_dictEntries hoa hda ?_)
  dsimp only
  refine wpAny_bind (wpAny_dictEntries hob hdb ?_)
  by_cases z : es.size = 0
  · rw [if_neg (by simp [z])]
    refine wpAny_bind (wpAny_dictEpoch hoa hda ?_)
    rw [z] at h ⊢
    refine wpAny_bind ?_
    rw [Std.Legacy.Range.forIn_eq_forIn_range']
    simp only [Std.Legacy.Range.size, Nat.sub_zero, Nat.add_sub_cancel, Nat.div_one]
    rw [List.range'_zero, List.forIn_nil]
    exact wpAny_pure (wpAny_pure h)
  · rw [if_pos (by simpa using z)]
    have e : (es.size == 0) = false := by simpa using z
    rw [e] at h
    exact wpAny_bind (wpAny_rule (wpAny_pure h))
theorem eq_empty {prog : Program} {w : World} {A : Around} {E : Value → Shared → Prop} {s : Shared} {a b : Addr} {oa ob : Obj} {es : Array DictEntry} {ep ep' : Nat} {Q : Value → Shared → Prop} (ha : (a == sysModules) = false) (hb : (b == sysModules) = false) (hu : A.units < cLine)
    (hoa : s.heap.get? a = some oa) (ca : oa.cls = .type "dict") (hda : oa.data = .dict es ep) (hob : s.heap.get? b = some ob) (cb : ob.cls = .type "dict") (hdb : ob.data = .dict #[] ep') (h : Q (.bool (es.size == 0)) s) : wpAny (model prog w) A (compareOp .Eq (.ref a) (.ref b)) Q E s := by
  have ta : s.TypeIs (.ref a) "dict" := ⟨_, hoa, ca⟩
  have tb : s.TypeIs (.ref b) "dict" := ⟨_, hob, cb⟩
  refine wpAny_richCompare_same_room (op := .Eq) ta tb PySem.F.slot_dict_eq (wpAny_call_entry PySem.F.slot_dict_eq ta PySem.F.entry_dict_eq ?_ (PySem.F.args_dict_eq_2 _ _)) hu
  show wpAny _ _ (Builtin.Dict.dictSlotArgs "__eq__" ⟨[.ref a, .ref b], []⟩ >>= _) _ _ s
  refine wpAny_bind ?_
  unfold Builtin.Dict.dictSlotArgs
  refine wpAny_bind (wpAny_notOrdered_dict ta ?_)
  show wpAny _ _ (pure (Value.ref a, Value.ref b)) _ _ s
  refine wpAny_pure (wpAny_bind (wpAny_isInstance (T := "dict") tb PySem.F.sub_dict_dict ?_))
  simp only [Bool.not_true, Bool.false_eq_true, if_false]
  refine wpAny_bind (wpAny_pure (wpAny_bind (wpAny_pure (wpAny_bind (same_empty ha hb hoa hda hob hdb (wpAny_pure ⟨_, rfl, ?_, ?_⟩))))))
  · exact fun x => nomatch x
  · simpa using h
theorem ne_empty {prog : Program} {w : World} {A : Around} {E : Value → Shared → Prop} {s : Shared} {a b : Addr} {oa ob : Obj} {es : Array DictEntry} {ep ep' : Nat} {Q : Value → Shared → Prop} (ha : (a == sysModules) = false) (hb : (b == sysModules) = false) (hu : A.units < cLine)
    (hoa : s.heap.get? a = some oa) (ca : oa.cls = .type "dict") (hda : oa.data = .dict es ep) (hob : s.heap.get? b = some ob) (cb : ob.cls = .type "dict") (hdb : ob.data = .dict #[] ep') (h : Q (.bool (!(es.size == 0))) s) : wpAny (model prog w) A (compareOp .NotEq (.ref a) (.ref b)) Q E s := by
  have ta : s.TypeIs (.ref a) "dict" := ⟨_, hoa, ca⟩
  have tb : s.TypeIs (.ref b) "dict" := ⟨_, hob, cb⟩
  refine wpAny_richCompare_same_room (op := .NotEq) ta tb PySem.F.slot_dict_ne (wpAny_call_entry PySem.F.slot_dict_ne ta PySem.F.entry_dict_ne ?_ (PySem.F.args_dict_ne_2 _ _)) hu
  show wpAny _ _ (Builtin.Dict.dictSlotArgs "__ne__" ⟨[.ref a, .ref b], []⟩ >>= _) _ _ s
  refine wpAny_bind ?_
  unfold Builtin.Dict.dictSlotArgs
  refine wpAny_bind (wpAny_notOrdered_dict ta ?_)
  show wpAny _ _ (pure (Value.ref a, Value.ref b)) _ _ s
  refine wpAny_pure (wpAny_bind (wpAny_isInstance (T := "dict") tb PySem.F.sub_dict_dict ?_))
  simp only [Bool.not_true, Bool.false_eq_true, if_false]
  refine wpAny_bind (wpAny_pure (wpAny_bind (wpAny_pure (wpAny_bind (same_empty ha hb hoa hda hob hdb (wpAny_pure ⟨_, rfl, ?_, ?_⟩))))))
  · exact fun x => nomatch x
  · simpa using h
theorem ent_size {w : World} {K : PySem.W.Frag} {G : Hp} {o : Obj} {kvs : List (NestedKey × PyData)} (E : Ent w K G o kvs) : ∃ es ep, o.data = .dict es ep ∧ es.size = kvs.length := by
  obtain ⟨es, ep, h1, h2⟩ := E.es
  exact ⟨es, ep, h1, by rw [← Array.length_toList]; exact (Paired.length h2).symm⟩
def rEmp (X : Cx) (neg : Bool) : R2 := fun x y H Q => ∃ (a b : Addr) (G G' : Hp) (kvs : List (NestedKey × PyData)), x = .ref a ∧ y = .ref b ∧ DicAt X G H a kvs ∧ DicAt X G' H b [] ∧ Q (.bl (if neg then !kvs.isEmpty else kvs.isEmpty)) H
theorem op_empN (hu : X.A.units + 64 < cLine) : OpR X (compareOp .Eq) (rEmp X false) := by
  intro pins s st H x y v u Q I rx ry h
  obtain ⟨a, b, G, G', kvs, rfl, rfl, ⟨ns, o, ho, E⟩, ⟨ns2, o2, ho2, E2⟩, q⟩ := h
  cases rx
  cases ry
  obtain ⟨es, ep, h1, h2⟩ := ent_size E
  obtain ⟨es2, ep2, h3, h4⟩ := ent_size E2
  have e0 : es2 = #[] := Array.eq_empty_of_size_eq_zero h4
  subst e0
  refine eq_empty ns ns2 (by omega) (DicO.obj (I.hok a _ ho)) E.ex.1 h1 (DicO.obj (I.hok b _ ho2)) E2.ex.1 h3 ⟨.bl _, H, I, rfl, ?_⟩
  have e : (es.size == 0) = kvs.isEmpty := by rw [h2]; cases kvs <;> rfl
  rw [e]
  exact q
theorem op_nempN (hu : X.A.units + 64 < cLine) : OpR X (compareOp .NotEq) (rEmp X true) := by
  intro pins s st H x y v u Q I rx ry h
  obtain ⟨a, b, G, G', kvs, rfl, rfl, ⟨ns, o, ho, E⟩, ⟨ns2, o2, ho2, E2⟩, q⟩ := h
  cases rx
  cases ry
  obtain ⟨es, ep, h1, h2⟩ := ent_size E
  obtain ⟨es2, ep2, h3, h4⟩ := ent_size E2
  have e0 : es2 = #[] := Array.eq_empty_of_size_eq_zero h4
  subst e0
  refine ne_empty ns ns2 (by omega) (DicO.obj (I.hok a _ ho)) E.ex.1 h1 (DicO.obj (I.hok b _ ho2)) E2.ex.1 h3 ⟨.bl _, H, I, rfl, ?_⟩
  have e : (es.size == 0) = kvs.isEmpty := by rw [h2]; cases kvs <;> rfl
  rw [e]
  exact q
theorem o_eqE {kvs : List (NestedKey × PyData)} (hu : X.A.units + 64 < cLine) : OpD X (compareOp .Eq) (.dic kvs) (.dic []) (.p (.bool kvs.isEmpty)) :=
  ⟨_, op_empN hu, fun own F H x y Q hn hx hy q => by
    obtain ⟨a, rfl, D1⟩ := RB.dicAt hx
    obtain ⟨b, rfl, D2⟩ := RB.dicAt hy
    exact ⟨a, b, _, _, kvs, rfl, rfl, D1, D2, q _ H (Same.refl H) (.bl _)⟩⟩
theorem o_neE {kvs : List (NestedKey × PyData)} (hu : X.A.units + 64 < cLine) : OpD X (compareOp .NotEq) (.dic kvs) (.dic []) (.p (.bool (!kvs.isEmpty))) :=
  ⟨_, op_nempN hu, fun own F H x y Q hn hx hy q => by
    obtain ⟨a, rfl, D1⟩ := RB.dicAt hx
    obtain ⟨b, rfl, D2⟩ := RB.dicAt hy
    exact ⟨a, b, _, _, kvs, rfl, rfl, D1, D2, q _ H (Same.refl H) (.bl _)⟩⟩
/-! ### isinstance of a dict, of a Box -/
theorem call_isiD : CallR X (.builtin "isinstance") fun xs H Q => ∃ a o, xs = [.ref a, .ty "dict"] ∧ H a = some (DicO a o) ∧ o.ExactDict ∧ Q (.bl true) H := by
  intro pins s σ H xs us Q I r h
  obtain ⟨a, o, rfl, ho, hx, q⟩ := h
  obtain ⟨u1, u2, rfl, r1, r2⟩ := vals2 r
  cases r1
  obtain rfl : u2 = .type "dict" := r2
  exact PyProof.Rows.call_isinstance_yes ⟨o, DicO.obj (I.hok a _ ho), hx.1⟩ PySem.F.isi_meta_dict PySem.F.sub_dict_dict ⟨.bl true, H, I, rfl, q⟩
theorem d_isiD {kvs : List (NestedKey × PyData)} {p2 : Pos} (ha : DB X a dl (.dic kvs)) (hm : X.mg "isinstance" = none) (hmy : X.mg "dict" = none) (hg : Gl X "isinstance" := by rfl) (hgy : Gl X "dict" := by rfl)
    (hs : starEach [a, .Name "dict" p2] X.env = (false, eval a X.env) :: starEach [.Name "dict" p2] X.env := by rfl) : DE X (.Call (.Name "isinstance" p) [a, .Name "dict" p2] [] pos) dl (.p (.bool true)) := fun Kp F own H st S => by
  refine we_of (pe_callB call_isiD hg hm (by decide +kernel) (pa_cons (peW a) (pa_cons (pe_bltn (v := .ty "dict") hgy hmy (by decide +kernel) rfl (by decide) (by decide)) pa_nil) hs) (by decide) (by decide) hs rfl) ?_
  refine (ha Kp F own H st S).mono fun v H1 ⟨s1, q1⟩ => ?_
  obtain ⟨q, rfl, _, o, ho, E⟩ := RB.dicAt q1
  exact ⟨q, o, rfl, ho, E.ex, s1, .bl true⟩
/-- what isinstance asks of the class Box -/
def BoxI (K : PySem.W.Frag) (mg : Str → Option Value) : Prop := ∀ C, mg "Box" = some (.ref C) → PySem.W.findIn K (.ref C) "__class__" = some (some (.builtin "object.__class__")) ∧ PySem.W.specialIn K (.builtin "object.__class__") "__get__" = some (some (.builtin "getset_descriptor.__get__")) ∧
  PySem.W.takesIn K (.builtin "object.__class__") = some true ∧ PySem.W.mroIn K C (.type "object") = some true
theorem d_isiB {s t : Int} {w : PyData} {p2 : Pos} (B : BoxF X.K X.mg) (BI : BoxI X.K X.mg) (ha : DE X a dl (.box s t w)) (hm : X.mg "isinstance" = none) (hg : Gl X "isinstance" := by rfl) (hgy : Gl X "Box" := by rfl)
    (hs : starEach [a, .Name "Box" p2] X.env = (false, eval a X.env) :: starEach [.Name "Box" p2] X.env := by rfl) (hs2 : starEach [Expr.Name "Box" p2] X.env = (false, eval (Expr.Name "Box" p2) X.env) :: starEach [] X.env := by rfl) (hb : ∃ C, X.mg "Box" = some (.ref C)) : DE X (.Call (.Name "isinstance" p) [a, .Name "Box" p2] [] pos) dl (.p (.bool true)) := fun Kp F own H st S => by
  obtain ⟨C, hC⟩ := hb
  refine we_of (pe_callB call_isi hg hm (by decide +kernel) (pa_cons (peW a) (pa_cons (pe_glob (v := .ref C) hgy hC rfl (by decide)) pa_nil hs2) hs) (by decide) (by decide) hs rfl) ?_
  refine (ha Kp F own H st S).mono fun v H1 ⟨s1, q1⟩ => ?_
  obtain ⟨p, C', dx, u, rfl, h1, h2, h3⟩ := q1
  rw [hC] at h1
  cases h1
  obtain ⟨b1, b2, b3, b4⟩ := BI C hC
  exact ⟨.ref p, .ref C, .ref C, .ref C, true, rfl, .own C, .base (.ins (reg_sub _ _ h2) (B C hC).1 b1 b2 b3 b4), by unfold PySem.W.kitOne; rw [if_pos (by simp)], s1, .bl true⟩
end
end Ac
-- part B8
set_option maxHeartbeats 4000000
set_option Elab.async false
set_option maxRecDepth 100000
set_option linter.all false
/-! Ac, part 17: lists and tuples joined, cut, counted, summed. -/
namespace Ac
open PySem PySem.Spec PyProof.Rows L2
theorem h100 : (100000 : Nat) ≤ sizeLine := by decide
section
variable {X : Cx} {e a b c : Expr} {es : List Expr} {dl dl' : List Sl} {t u r : T} {pos p : Pos} {D : DK}
/-! ### xs + ys -/
def rCatL (K : PySem.W.Frag) : R2 := fun x y H Q => ∃ l b xs zs, x = .ref l ∧ y = .ref b ∧ SqL K H l xs ∧ SqL K H b zs ∧ xs.length + zs.length ≤ sizeLine ∧ ∀ p, H p = none → Q (.ref p) (upd H p (.lst (xs ++ zs)))
theorem op_catL : OpR X (binaryOp .Add) (rCatL X.K) := by
  intro pins s σ H x y v u Q I rx ry h
  obtain ⟨l, b, xs, zs, rfl, rfl, hH, hB, hz, q⟩ := h
  cases rx
  cases ry
  obtain ⟨its, r, ⟨⟨cl, dd, da, sl⟩, n, ho, hc, hd, hdt⟩, _⟩ := I.list hH
  obtain ⟨its2, r2, ⟨⟨cl2, dd2, da2, sl2⟩, n2, ho2, hc2, hd2, hdt2⟩, _⟩ := I.list hB
  simp only at hc hd hdt hc2 hd2 hdt2
  subst hc hd hdt hc2 hd2 hdt2
  have l1 := r.length
  have l2 := r2.length
  refine concat_meets ⟨_, ho, rfl⟩ ⟨_, ho2, rfl⟩ noFill_list_add seq_list_add PySem.F.slot_list_add PySem.F.entry_list_add (PySem.F.args_list_add_2 _ _) (list_addW l b its.toArray its2.toArray n n2 _ _ sl sl2 (by show its.length + its2.length ≤ sizeLine; omega)) ⟨ho, ho2, ?_⟩
  have ea : its.toArray ++ its2.toArray = (its ++ its2).toArray := by simp
  rw [ea]
  exact ⟨.ref _, _, I.lnew (t' := s.toks) (r.append r2) (by rw [List.length_append]; omega), rfl, q _ I.fresh⟩
theorem o_catL {xs zs : List PyData} (hz : xs.length + zs.length ≤ 100000) : OpD X (binaryOp .Add) (.p (.list xs)) (.p (.list zs)) (.p (.list (xs ++ zs))) :=
  ⟨_, op_catL, fun own F H x y Q hn hx hy q => by
    obtain ⟨l, vs, rfl, h1, h2⟩ := hx
    obtain ⟨l', ws, rfl, h3, h4⟩ := hy
    exact ⟨l, l', vs, ws, rfl, rfl, h1, h3, by rw [dpa_len h2, dpa_len h4]; exact Nat.le_trans hz h100, fun p hp => q _ _ (same_new hp) (new_list hn hp (dpa_app h2 h4))⟩⟩
theorem o_catT {xs zs : List PyData} (hz : xs.length + zs.length ≤ 100000) : OpD X (binaryOp .Add) (.p (.tuple xs)) (.p (.tuple zs)) (.p (.tuple (xs ++ zs))) :=
  ⟨_, op_catA, fun own F H x y Q hn hx hy q => by
    have hx' : Dp X.K (reg own F H) x (.tuple xs) := hx
    have hy' : Dp X.K (reg own F H) y (.tuple zs) := hy
    cases hx' with
    | @tup l vs _ h1 h2 =>
      cases hy' with
      | @tup l' ws _ h3 h4 =>
        refine ⟨l, l', vs, ws, rfl, rfl, sqT_mono reg_sub h1, sqT_mono reg_sub h3, by rw [dpa_len h2, dpa_len h4]; exact Nat.le_trans hz h100, fun e0 => ?_, fun e0 e1 => ?_, fun e0 e1 p hp => ?_⟩
        · subst e0; cases h2; exact q _ _ (Same.refl H) (.tup h3 h4)
        · subst e1; cases h4; rw [List.append_nil] at q; exact q _ _ (Same.refl H) (.tup h1 h2)
        · exact q _ _ (same_new hp) (new_tup hn hp (dpa_app h2 h4))⟩
/-! ### xs[:n] -/
theorem d_cut {ds : List PyData} {n : Nat} {p2 : Pos} (ha : DE X a dl (.p (.list ds))) (hb : DE X b dl (.p (.int (n : Nat)))) : DE X (.Subscript a (.Slice none (some b) none p2) pos) dl (.p (.list (ds.take n))) := fun Kp F own H st S => by
  refine we_of (pe_slice sl_list (peW a) po_none (po_some (peW b))) ?_
  refine (ha Kp F own H st S).mono fun v H1 ⟨s1, q1⟩ => ?_
  refine (hb Kp F own H1 st (S.grow s1)).mono fun w H2 ⟨s2, q2⟩ => ⟨_, int_of q2, ?_⟩
  cases (show Dp X.K (reg own F H1) v (.list ds) from q1) with
  | @lst l xs _ h1 h2 =>
    refine ⟨l, xs, rfl, sqL_mono (reg_sub.trans s2) h1, fun p hp => ⟨(s1.trans s2).trans (same_new hp), ?_⟩⟩
    have e : cutV xs none (some (n : Nat)) = xs.take n := by
      unfold cutV
      rw [HT.sIx_none, HT.sIx_nat, List.drop_zero, Nat.sub_zero]
      rcases Nat.le_total n xs.length with z | z
      · rw [Nat.min_eq_left z]
      · rw [Nat.min_eq_right z, List.take_length, List.take_of_length_le z]
    rw [e]
    exact new_list ((S.grow s1).grow s2).frs hp (dpa_take n (h2.up (reg_up s2)))
/-! ### stars in displays -/
theorem dp_starL {ds es' : List PyData} {p : Pos} (h : DB X e dl (.p (.list ds))) (hs : DP X es dl es') (he : starEach (.Starred e p :: es) X.env = (true, eval e X.env) :: starEach es X.env := by rfl) : DP X (.Starred e p :: es) dl (ds ++ es') := fun Kp F own H st S => by
  refine wa_of (StX.pa_star (peW e) (paW es) he) ?_
  refine (h Kp F own H st S).mono fun v H1 ⟨s1, q1⟩ => ?_
  obtain ⟨l, xs, rfl, h1, h2⟩ := q1
  exact ⟨l, xs, rfl, .inr h1, (hs Kp F own H1 st (S.grow s1)).mono fun vs H2 ⟨s2, q2⟩ => ⟨s1.trans s2, dpa_app (h2.up (reg_up s2)) q2⟩⟩
theorem dp_starT {ds es' : List PyData} {p : Pos} (h : DE X e dl (.p (.tuple ds))) (hs : DP X es dl es') (he : starEach (.Starred e p :: es) X.env = (true, eval e X.env) :: starEach es X.env := by rfl) : DP X (.Starred e p :: es) dl (ds ++ es') := fun Kp F own H st S => by
  refine wa_of (StX.pa_star (peW e) (paW es) he) ?_
  refine (h Kp F own H st S).mono fun v H1 ⟨s1, q1⟩ => ?_
  cases (show Dp X.K (reg own F H1) v (.tuple ds) from q1) with
  | @tup l xs _ h1 h2 =>
    exact ⟨l, xs, rfl, .inl (sqT_mono reg_sub h1), (hs Kp F own H1 st (S.grow s1)).mono fun vs H2 ⟨s2, q2⟩ => ⟨s1.trans s2, dpa_app (h2.up (reg_up s2)) q2⟩⟩
/-! ### sum of a tuple, min of two, list(range(n)) -/
theorem cr_sumT (hc : X.calm = true) : CallR X (.builtin "sum") fun vs H Q => ∃ (a : Addr) (ns : List Int), vs = [V.ref a] ∧ SqT X.K H a (ns.map V.int) ∧ Q (.int ns.sum) H := by
  intro pins s σ H vs us Q I r h
  obtain ⟨a, ns, rfl, hs, q⟩ := h
  obtain ⟨its, rv, hl, _⟩ := I.tuple hs
  rw [Vals.ref1 r]
  have hi := rv.ints
  obtain ⟨xs, hx⟩ := hi.allInts.items
  have hn : numsOf its = ns := hi.numsOf
  have hl' : s.heap.IsTuple a (intItems xs) := by rw [← hx]; obtain ⟨o, ho, hcc, hd⟩ := hl; exact ⟨o, ho, hcc, hd⟩
  have hn2 : numsOf (intItems xs).toList = ns := by rw [← hx]; exact hn
  rw [nums_intItems] at hn2
  refine PySem.W.ktm_sumG (I.ok.hd hc) hl' fun h' tk t' hk => ?_
  rw [preSum_eq, List.take_of_length_le (by simp), hn2]
  exact ⟨.int _, H, I.kept hk, ⟨_, rfl⟩, q⟩
theorem c_sumT {ns : List Int} (hc : X.calm = true) : CallD1 X (.builtin "sum") (.p (tupI ns)) (.p (.int ns.sum)) :=
  ⟨_, cr_sumT hc, fun own F H x Q f hx q => by
    cases (show Dp X.K (reg own F H) x (.tuple (ns.map .int)) from hx) with
    | @tup l xs _ h1 h2 => exact ⟨l, ns, rfl, by rw [← dpa_ints h2]; exact sqT_mono reg_sub h1, q _ H (Same.refl H) (.int _)⟩⟩
theorem d_min2 {i j : Int} (hc : X.calm = true) (ha : DE X a dl (.p (.int i))) (hb : DE X b dl (.p (.int j))) (hm : X.mg "min" = none) (hg : Gl X "min" := by rfl) (hs : starEach [a, b] X.env = (false, eval a X.env) :: starEach [b] X.env := by rfl)
    (hs2 : starEach [b] X.env = (false, eval b X.env) :: starEach [] X.env := by rfl) (hpl : (backTo pos (starEach [b] X.env)).any (·.1) = false := by rfl) : DE X (.Call (.Name "min" p) [a, b] [] pos) dl (.p (.int (if j < i then j else i))) := fun Kp F own H st S => by
  refine we_of (pe_callB (call_min2 hc) hg hm (by decide +kernel) (pa_cons (peW a) (pa_cons (peW b) pa_nil hs2) hs) (by decide) (by decide) hs hpl) ?_
  refine (ha Kp F own H st S).mono fun v H1 ⟨s1, q1⟩ => ?_
  refine (hb Kp F own H1 st (S.grow s1)).mono fun w H2 ⟨s2, q2⟩ => ?_
  exact ⟨i, j, by rw [int_of q1, int_of q2], s1.trans s2, .int _⟩
theorem rgV_dp {K : PySem.W.Frag} {G : Hp} (n : Nat) : DpAll K G (rgV 0 n) (rgD 0 n) := by
  refine dpa_of (by rw [rgV_length, rgD_len]; omega) fun i v d h1 h2 => ?_
  rw [rgD_get h2]
  have hi : i < n := by
    have := (List.getElem?_eq_some_iff.mp h1).1
    rw [rgV_length] at this
    omega
  unfold rgV at h1
  rw [List.getElem?_map, List.getElem?_range (by omega)] at h1
  have h1' : V.int (0 + (i : Nat)) = v := Option.some.inj h1
  rw [← h1']
  exact .int _
theorem d_listRg {n : Nat} {p2 pos2 : Pos} (hc : X.calm = true) (hn : n ≤ 100000) (ha : DE X a dl (.p (.int (n : Nat)))) (hm : X.mg "list" = none) (hm2 : X.mg "range" = none) (hg : Gl X "list" := by rfl) (hg2 : Gl X "range" := by rfl) (na : starEach [a] X.env = (false, eval a X.env) :: starEach [] X.env := by rfl)
    (na2 : starEach [Expr.Call (.Name "range" p2) [a] [] pos2] X.env = (false, eval (Expr.Call (.Name "range" p2) [a] [] pos2) X.env) :: starEach [] X.env := by rfl) : DE X (.Call (.Name "list" p) [.Call (.Name "range" p2) [a] [] pos2] [] pos) dl (.p (.list (rgD 0 n))) := fun Kp F own H st S => by
  refine we_of (pe_listRg hc hg hm (prg_1 hg2 hm2 (peW a) na) na2) ?_
  refine (ha Kp F own H st S).mono fun v H1 ⟨s1, q1⟩ => ?_
  exact ⟨n, int_of q1, RgOk.of_le (by omega) (by omega) (by omega) (by omega), fun q hq => ⟨s1.trans (same_new hq), new_list (S.grow s1).frs hq (rgV_dp n)⟩⟩
/-! ### xs.count(d) -/
def rCount (K : PySem.W.Frag) : V → List V → Hp → VK → Prop := fun x vs H Q => ∃ (l : Addr) (xs : List V) (ds : List PyData) (y : V) (d : PyData), x = .ref l ∧ vs = [y] ∧ SqL K H l xs ∧ DpAll K H xs ds ∧ Dp K H y d ∧ PySem.W.AllAlike (d :: ds) ∧ (∀ z ∈ d :: ds, z.depth ≤ 32) ∧ Q (.int (ds.countP fun z => PyData.eqv z d)) H
theorem countP_each {h : Heap} {d : PyData} {e : Value → Bool} : ∀ {us : List Value} {ds : List PyData}, PySem.W.EachIs (fun v d => ∃ as, Reads h v d as) us ds → (∀ u z, z ∈ ds → (∃ as, Reads h u z as) → e u = PyData.eqv z d) → us.countP e = ds.countP fun z => PyData.eqv z d
  | _, _, .nil, _ => rfl
  | u :: us, z :: ds, .cons r t, he => by
    rw [List.countP_cons, List.countP_cons, countP_each t fun u z hz r => he u z (List.mem_cons_of_mem _ hz) r, he u z List.mem_cons_self r]
open Classical in
theorem mt_count (hu : X.A.units + 64 < cLine) : MtR X "list.count" (rCount X.K) := by
  intro pins s σ H x vs v us Q I rx rs h
  obtain ⟨l, xs, ds, y, d, rfl, rfl, hs, ha, hd, hal, hdp, q⟩ := h
  cases rx
  obtain ⟨u, rfl, ru⟩ := vals1 rs
  obtain ⟨its, rv, ⟨⟨cl, dd, da, sl⟩, n, ho, hc, hdd, hdt⟩, hz⟩ := I.list hs
  simp only at hc hdd hdt
  subst hc hdd hdt
  obtain ⟨as, rd⟩ := Dp.reads I d y u hd ru
  have e0 : PySem.W.EachIs (fun v d => ∃ as, Reads s.heap v d as) its ds := (each_red rv ha).mono fun u d ⟨v, r, h⟩ => Dp.reads I d v u h r
  let e : Value → Bool := fun z => decide (∃ c, c ∈ ds ∧ (∃ as, Reads s.heap z c as) ∧ PyData.eqv c d = true)
  have he : ∀ u z, z ∈ ds → (∃ as, Reads s.heap u z as) → e u = PyData.eqv z d := fun u z hz ⟨as1, r1⟩ => by
    by_cases k : PyData.eqv z d = true
    · rw [k]; exact decide_eq_true ⟨z, hz, ⟨as1, r1⟩, k⟩
    · have k' : PyData.eqv z d = false := by cases q : PyData.eqv z d; rfl; exact absurd q k
      rw [k']
      refine decide_eq_false fun ⟨c, hc, ⟨as2, r2⟩, hk⟩ => k ?_
      rw [PySem.W.alike_unique z c u as1 as2 (hal z (List.mem_cons_of_mem _ hz) c (List.mem_cons_of_mem _ hc)) r1 r2]
      exact hk
  refine call_meets PySem.F.slot_list_count ⟨_, ho, rfl⟩ PySem.F.entry_list_count (PySem.F.args_list_count_2 _ _) (SeqAt.list_countAt l its.toArray n _ _ u e) ⟨ho, fun z hz => ?_, ?_⟩
  · obtain ⟨c, hc, as1, r1⟩ := e0.left z (by simpa using hz)
    have hcm := List.mem_cons_of_mem d hc
    rw [he z c hc ⟨as1, r1⟩]
    refine PySem.W.eqAt_alike c d _ s z u as1 as r1 rd (hal c hcm d List.mem_cons_self) ?_
    have := hdp c hcm
    have : min c.depth d.depth ≤ c.depth := Nat.min_le_left _ _
    show X.A.units + 1 + min c.depth d.depth < cLine
    omega
  · show EP X pins σ Q (.int (its.countP e : Nat) s.toks) _
    rw [countP_each e0 he]
    exact ⟨.int _, H, I.tok _, ⟨_, rfl⟩, q⟩
theorem d_count {o ke : Expr} {apos : Pos} {ds : List PyData} {d : PyData} (hu : X.A.units + 64 < cLine) (ho : DE X o dl (.p (.list ds))) (hk : DE X ke dl (.p d)) (hal : PySem.W.AllAlike (d :: ds)) (hdp : ∀ z ∈ d :: ds, z.depth ≤ 32)
    (h : ∀ (r : V → List V → Hp → VK → Prop) (to : TE) (t : TA), MtR X "list.count" r → PE X o to → PA X [ke] t → PE X (.Call (.Attribute o "count" apos) [ke] [] p) (tBM X.K "list" r to t) := by intro r to t h1 h2 h3; exact pe_bm PySem.F.plainAttrs_list PySem.F.slot_list_count PySem.F.type_list_count h1 h2 h3)
    (hs : starEach [ke] X.env = (false, eval ke X.env) :: starEach [] X.env := by rfl) : DE X (.Call (.Attribute o "count" apos) [ke] [] p) dl (.p (.int (ds.countP fun z => PyData.eqv z d))) := fun Kp F own H st S => by
  refine we_of (h (rCount X.K) (WE X o) (WA X [ke]) (mt_count hu) (peW o) (paW _)) ?_
  refine (ho Kp F own H st S).mono fun v H1 ⟨s1, q1⟩ => ?_
  cases (show Dp X.K (reg own F H1) v (.list ds) from q1) with
  | @lst l xs _ h1 h2 =>
    refine ⟨.inl ⟨rfl, xs, sqL_mono reg_sub h1⟩, ?_⟩
    refine ((da_cons hk da_nil hs : DA X [ke] dl [.p d]) Kp F own H1 st (S.grow s1)).mono fun ws H2 ⟨s2, q2⟩ => ?_
    cases q2 with
    | @cons w _ _ _ r1 r2 =>
      cases r2
      exact ⟨l, xs, ds, w, d, rfl, rfl, sqL_mono (reg_sub.trans s2) h1, h2.up (reg_sub.trans s2), Dp.up r1 reg_sub, hal, hdp, s1.trans s2, .int _⟩
/-! ### target = name.pop() -/
theorem s_popTo (i : Nat) {x : Str} {tg : Expr} {is : List Nat} {ds : List PyData} {d : PyData} {npos apos : Pos} (hd : dl.getD i .no = .ol ds) (hl : ds.getLast? = some d) (g : GT X tg is (dl.set i (.ol ds.dropLast)) d dl') (q : D.nx dl')
    (h : ∀ (r : V → List V → Hp → VK → Prop) (to : TE), MtR X "list.pop" r → PE X (.Name x npos) to → PE X (.Call (.Attribute (.Name x npos) "pop" apos) [] [] p) (tBM0 X.K "list" r to) := by intro r to h1 h2; exact pe_bm0 PySem.F.plainAttrs_list PySem.F.slot_list_pop PySem.F.type_list_pop h1 h2)
    (hN : X.N[i]? = some x := by rfl) (hv : Vis X.env.scope x := by first | exact Or.inl rfl | exact Or.inr (Or.inl rfl)) (h1 : (x == ("__debug__" : Str)) = false := by decide) (h2 : (x == ("__classdict__" : Str)) = false := by decide)
    (hs : swapsWithSole [tg] (.Call (.Attribute (.Name x npos) "pop" apos) [] [] p) pos.line X.env = pure false := by rfl) (hw : swappedStores [tg] (.Call (.Attribute (.Name x npos) "pop" apos) [] [] p) X.env = pure none := by rfl)
    (h3 : (assignEach [tg] X.env).map (·.2) = [assign tg X.env] := by rfl) : SX X (.Assign [tg] (.Call (.Attribute (.Name x npos) "pop" apos) [] [] p) pos) D dl := fun Kp F own H st S hlen => by
  refine w1_of (ps_asg (h rPop (tVar i) mt_pop (pe_var hN hv h1 h2)) (pgW tg) hs hw h3) ?_
  have ok := S.sl i
  rw [hd] at ok
  obtain ⟨l, vs, e1, e2, h4, h5⟩ := ok
  have e' : st[i]? = some (some (.ref l)) := by
    rw [List.getD_eq_getElem?_getD] at e2
    cases z : st[i]? with
    | none => rw [z] at e2; cases e2
    | some o => rw [z] at e2; simpa using e2
  have hll : l ∈ own i := by rw [e1]; simp
  have hlen2 := dpa_len h5
  obtain ⟨y, hy, hyd⟩ : ∃ y, vs[vs.length - 1]? = some y ∧ Dp X.K (reg own F H) y d := by
    rw [List.getLast?_eq_getElem?] at hl
    rw [hlen2]
    exact dpa_get h5 hl
  refine ⟨_, e', .inl ⟨rfl, vs, SqL.of h4⟩, l, vs, y, rfl, rfl, h4, hy, ?_⟩
  have keep : ∀ a u, a ∉ own i → H a = some u → upd H l (.lst vs.dropLast) a = some u := fun a u ha q => by rw [upd_ne (show a ≠ l from fun z => ha (by rw [z]; exact hll))]; exact q
  have new : ∀ a ∈ own i, a ∈ own i ∨ H a = none := fun a h => .inl h
  have sr := S.regS keep new
  have S' := S.chg (s := .ol ds.dropLast) (getD_lt hd (by intro z; cases z)) keep new e2 (fun _ _ => rfl) ⟨l, vs.dropLast, e1, rfl, upd_same, dpa_dropLast (h5.up sr)⟩
  exact (g Kp F _ _ st y S' hlen (hyd.up sr)).mono fun st' H' ⟨e', S2, _, _⟩ => by subst e'; exact ⟨dl', _, S2, q⟩
end
end Ac
-- part B9
set_option maxHeartbeats 4000000
set_option Elab.async false
set_option maxRecDepth 100000
set_option linter.all false
/-! Ac, part 18: list comprehensions with two fors. -/
namespace Ac
open PySem PySem.Spec PyProof.Rows L2
def iB (X : Cx) (scope : Scope) (tg it : Expr) : TI := fun st H R => ∀ (s : Shared) (H0 : Hp) (C : Addr) (cl : List (Str × Addr)) (fp : List Addr), WI (BK X s H0 scope C cl fp) tg it st H R
theorem piB {X : Cx} {scope : Scope} {tg it : Expr} (s : Shared) (H : Hp) (C : Addr) (cl : List (Str × Addr)) (fp : List Addr) : PI (BK X s H scope C cl fp) tg it (iB X scope tg it) := ⟨fun pins s' st' H' R I h => h s H C cl fp pins s' I⟩
theorem wipe_twice (st : L2.St) (vs : List Nat) : L2.wipe (L2.wipe st vs) vs = L2.wipe st vs := by
  refine List.ext_getElem? fun i => ?_
  by_cases m : i ∈ vs
  · have a1 : ∀ ws : List Nat, i ∈ ws → ∀ q : L2.St, (L2.wipe q ws)[i]? = if i < q.length then some none else none := by
      intro ws hw q
      induction ws with
      | nil => cases hw
      | cons w ws ih =>
        unfold L2.wipe
        rw [List.getElem?_set]
        by_cases e : w = i
        · subst e; rw [if_pos rfl, wipe_length]
        · rw [if_neg e]; exact ih ((List.mem_cons.mp hw).resolve_left (Ne.symm e))
    rw [a1 _ m, a1 _ m, wipe_length]
  · rw [wipe_out m]
section
variable {X : Cx} {dl : List Sl} {pos : Pos}
def DL2 (X : Cx) (elt tg it tg1 it1 : Expr) (scope : Scope) (vs vs1 : List Nat) (dl : List Sl) (ds : List PyData) : Prop := ∀ (Kp : Hp) (F : Addr → Prop) (own : Nat → List Addr) (H : Hp) (st : L2.St), SE X Kp F dl own H st → st.length = X.N.length →
  tLc2 (WI X tg it) (gB X scope tg) (tB2 X scope []) (iB X scope tg1 it1) (gB X scope tg1) (tB2 X scope []) (eB X scope elt) vs vs1 st H fun v H' => Same H H' ∧ RX X own F H' v (.p (.list ds))
theorem dl_lc2 {elt tg it tg1 it1 : Expr} {scope : Scope} {onm : List (Str × Nat)} {vs1 : List Nat} {A B : Type} {enc : A → PyData} {xs : List A} {encB : B → PyData} {ys : A → List B} {f : A → B → PyData} {dl1 : A → List Sl} {dl2 : A → B → List Sl}
    (hi : DI X tg it dl (xs.map enc)) (hfree : ∀ i ∈ onm.map (·.2), slFree (dl.getD i .no) = true) (hfree1 : ∀ x ∈ xs, ∀ i ∈ vs1, slFree ((dl1 x).getD i .no) = true)
    (hg : ∀ (s : Shared) (H : Hp) (C : Addr) (cl : List (Str × Addr)) (fp : List Addr) (x : A), x ∈ xs → ∃ is : List Nat, (∀ i ∈ is, i ∈ onm.map (·.2)) ∧ GT (BK X s H scope C cl fp) tg is (wipeS dl (onm.map (·.2))) (enc x) (dl1 x))
    (hi1 : ∀ (s : Shared) (H : Hp) (C : Addr) (cl : List (Str × Addr)) (fp : List Addr) (x : A), x ∈ xs → DI (BK X s H scope C cl fp) tg1 it1 (dl1 x) ((ys x).map encB))
    (hg1 : ∀ (s : Shared) (H : Hp) (C : Addr) (cl : List (Str × Addr)) (fp : List Addr) (x : A), x ∈ xs → ∀ y ∈ ys x, ∃ is : List Nat, (∀ i ∈ is, i ∈ vs1) ∧ GT (BK X s H scope C cl fp) tg1 is (wipeS (dl1 x) vs1) (encB y) (dl2 x y))
    (he : ∀ (s : Shared) (H : Hp) (C : Addr) (cl : List (Str × Addr)) (fp : List Addr) (x : A), x ∈ xs → ∀ y ∈ ys x, DE (BK X s H scope C cl fp) elt (dl2 x y) (.p (f x y)))
    (hz : (xs.flatMap fun x => (ys x).map (f x)).length ≤ 100000) : DL2 X elt tg it tg1 it1 scope (onm.map (·.2)) vs1 dl (xs.flatMap fun x => (ys x).map (f x)) := fun Kp F own H st S hlen => by
  refine WI.mono (hi Kp F own H st S) fun J H1 ⟨s1, G, Y, W, hG, hY⟩ => ?_
  intro D hD
  have S1 := S.grow s1
  have fD := S1.fresh hD
  have kD : Kp D = none := S1.kp.free hD
  have n : xs.length = (xs.map enc).length := (List.length_map _).symm
  rw [← n] at W
  let F' : Addr → Prop := fun a => F a ∨ a = D
  let g : A → List PyData := fun x => (ys x).map (f x)
  have nD : ∀ a u, H1 a = some u → a ≠ D := fun a u q e => by rw [e, hD] at q; cases q
  have eqr : ∀ (H : Hp) (o : HO), reg own F' (upd H D o) = reg own F' H := fun H o => by
    funext a
    by_cases e : a = D
    · subst e
      unfold reg
      rw [if_pos (.inr (.inr rfl)), if_pos (.inr (.inr rfl))]
    · unfold reg
      rw [upd_ne e]
  refine ⟨fun i m H2 => m = xs.length - i ∧ i ≤ xs.length ∧ Same H1 H2 ∧ ∃ acc, H2 D = some (.lst acc) ∧ DpAll X.K (reg own F' H2) acc ((xs.take i).flatMap g) ∧ SE X Kp F' dl own H2 st,
    ⟨xs.length, by simp, Nat.zero_le _, same_new hD, [], upd_same, by rw [List.take_zero]; exact .nil, S1.hide hD⟩, ?_⟩
  rintro i m H2 ⟨rfl, hi', s2, acc, hD2, hacc, S2⟩
  have hGG := hG H2 (reg_sub.trans s2)
  by_cases hlt : i < xs.length
  · refine .inr ⟨W.goes i H2 hlt hGG, fun H' => Same H1 H' ∧ ∃ acc, H' D = some (.lst acc) ∧ DpAll X.K (reg own F' H') acc ((xs.take (i + 1)).flatMap g) ∧ SE X Kp F' dl own H' st, fun H' ⟨a1, a2⟩ => ⟨xs.length - (i + 1), by omega, rfl, hlt, a1, a2⟩, fun x H3 y => ?_⟩
    have y' := W.yields i H2 x H3 hlt hGG y
    obtain ⟨z, hz'⟩ : ∃ z, xs[i]? = some z := ⟨xs[i], List.getElem?_eq_getElem hlt⟩
    have hm : z ∈ xs := List.mem_of_getElem? hz'
    obtain ⟨s3, hx⟩ := hY i H2 x H3 (enc z) (by rw [List.getElem?_map, hz']; rfl) y'
    have S3 := S2.grow s3
    have hx' : Dp X.K (reg own F' H3) x (enc z) := hx _ (reg_mono fun a u h1 h2 h3 => ⟨s3 _ _ (s2 _ _ h3), h1, fun q => q.elim h2 (nD a u h3)⟩) fun a u h1 h2 => by
      rw [reg_in (S2.fresh h1).1 (S2.fresh h1).2]
      exact h2
    have nxt : (xs.take (i + 1)).flatMap g = (xs.take i).flatMap g ++ (ys z).map (f z) := by
      rw [take_snoc hz', List.flatMap_append]
      show _ ++ [z].flatMap g = _
      rw [List.flatMap_cons, List.flatMap_nil, List.append_nil]
    have hbound : ((xs.take i).flatMap g).length + (ys z).length ≤ 100000 := by
      refine Nat.le_trans ?_ hz
      have e : xs = xs.take (i + 1) ++ xs.drop (i + 1) := (List.take_append_drop _ _).symm
      have e2 : (xs.flatMap fun x => (ys x).map (f x)) = (xs.take (i + 1)).flatMap g ++ (xs.drop (i + 1)).flatMap g := by rw [← List.flatMap_append, ← e]
      rw [e2, nxt, List.length_append, List.length_append, List.length_map]
      omega
    intro s' H0 C cl fp
    obtain ⟨is, his, hgt⟩ := hg s' H0 C cl fp z hm
    have Sw : SE (BK X s' H0 scope C cl fp) Kp F' (wipeS dl (onm.map (·.2))) own H3 (L2.wipe st (onm.map (·.2))) := (S3.wipe hfree).cx rfl rfl rfl
    refine (hgt Kp _ own H3 _ x Sw (by rw [wipe_length]; exact hlen) hx').mono fun st4 H4 ⟨e4, S4, l4, w4⟩ => ?_
    subst e4
    have len4 : st4.length = X.N.length := by rw [l4, wipe_length]; exact hlen
    refine ⟨(w4 _ his).trans (wipe_twice _ _), fun s5 H05 C5 cl5 fp5 => ?_⟩
    refine WTs.mono (dts_nil Kp F' own H4 st4 (S4.cx (X' := BK X s5 H05 scope C5 cl5 fp5) rfl rfl rfl)) fun bb H5 ⟨s45, eb⟩ => ?_
    subst eb
    rw [if_pos rfl]
    intro s6 H06 C6 cl6 fp6
    refine WI.mono (hi1 s6 H06 C6 cl6 fp6 z hm Kp F' own H5 st4 ((S4.grow s45).cx rfl rfl rfl)) fun J1 H6 ⟨s56, G1, Y1, W1, hG1, hY1⟩ => ?_
    have n1 : (ys z).length = ((ys z).map encB).length := (List.length_map _).symm
    rw [← n1] at W1
    have s26 : Same H2 H6 := (s3.trans s45).trans s56
    have S6 : SE X Kp F' dl own H6 st := S2.grow s26
    have S6v : SE (BK X s6 H06 scope C6 cl6 fp6) Kp F' (dl1 z) own H6 st4 := ((S4.grow s45).grow s56).cx rfl rfl rfl
    refine ⟨fun j k H => k = (ys z).length - j ∧ j ≤ (ys z).length ∧ Same H1 H ∧ Same (reg own F' H6) (reg own F' H) ∧ ∃ acc, H D = some (.lst acc) ∧ DpAll X.K (reg own F' H) acc ((xs.take i).flatMap g ++ ((ys z).take j).map (f z)) ∧ SE X Kp F' dl own H st ∧ SE (BK X s6 H06 scope C6 cl6 fp6) Kp F' (dl1 z) own H st4,
      ⟨(ys z).length, by simp, Nat.zero_le _, s2.trans s26, Same.refl _, acc, s26 _ _ hD2, by rw [List.take_zero, List.map_nil, List.append_nil]; exact hacc.up (reg_up s26), S6, S6v⟩, ?_⟩
    rintro j k H7 ⟨rfl, hj', s17, r67, acc7, hD7, hacc7, S7, S7v⟩
    have hGG1 := hG1 H7 (r67.trans reg_sub)
    by_cases hlj : j < (ys z).length
    · refine .inr ⟨W1.goes j H7 hlj hGG1, fun H => Same H1 H ∧ Same (reg own F' H6) (reg own F' H) ∧ ∃ acc, H D = some (.lst acc) ∧ DpAll X.K (reg own F' H) acc ((xs.take i).flatMap g ++ ((ys z).take (j + 1)).map (f z)) ∧ SE X Kp F' dl own H st ∧ SE (BK X s6 H06 scope C6 cl6 fp6) Kp F' (dl1 z) own H st4,
        fun H' ⟨a1, a2⟩ => ⟨(ys z).length - (j + 1), by omega, rfl, hlj, a1, a2⟩, fun x1 H8 y1 => ?_⟩
      have y1' := W1.yields j H7 x1 H8 hlj hGG1 y1
      obtain ⟨w, hw⟩ : ∃ w, (ys z)[j]? = some w := ⟨(ys z)[j], List.getElem?_eq_getElem hlj⟩
      have hwm : w ∈ ys z := List.mem_of_getElem? hw
      obtain ⟨s78, hx1⟩ := hY1 j H7 x1 H8 (encB w) (by rw [List.getElem?_map, hw]; rfl) y1'
      have hx1' : Dp X.K (reg own F' H8) x1 (encB w) := hx1 _ (r67.trans (reg_up s78)) fun a u h1 h2 => by
        rw [reg_in (S7.fresh h1).1 (S7.fresh h1).2]
        exact h2
      intro s8 H08 C8 cl8 fp8
      obtain ⟨is1, his1, hgt1⟩ := hg1 s8 H08 C8 cl8 fp8 z hm w hwm
      have Sw1 : SE (BK X s8 H08 scope C8 cl8 fp8) Kp F' (wipeS (dl1 z) vs1) own H8 (L2.wipe st4 vs1) := ((S7v.grow s78).wipe (hfree1 z hm)).cx rfl rfl rfl
      refine (hgt1 Kp _ own H8 _ x1 Sw1 (by rw [wipe_length]; exact len4) hx1').mono fun st9 H9 ⟨e9, S9, l9, w9⟩ => ?_
      subst e9
      refine ⟨(w9 _ his1).trans (wipe_twice _ _), fun s10 H010 C10 cl10 fp10 => ?_⟩
      refine WTs.mono (dts_nil Kp F' own H9 st9 (S9.cx (X' := BK X s10 H010 scope C10 cl10 fp10) rfl rfl rfl)) fun bb H10 ⟨s910, eb⟩ => ?_
      subst eb
      rw [if_pos rfl]
      intro s11 H011 C11 cl11 fp11
      refine (he s11 H011 C11 cl11 fp11 z hm w hwm Kp F' own H10 st9 ((S9.grow s910).cx rfl rfl rfl)).mono fun v H11 ⟨s1011, r11⟩ => ?_
      have s711 := (s78.trans s910).trans s1011
      have nxt1 : ((ys z).take (j + 1)).map (f z) = ((ys z).take j).map (f z) ++ [f z w] := by rw [take_snoc hw, List.map_append]; rfl
      have hal := hacc7.up (reg_up (own := own) (F := F') s711)
      refine ⟨acc7, s711 _ _ hD7, ?_, fun a u q => ?_, ?_, _, upd_same, ?_, (S7.grow s711).hidden (.inr rfl) kD, (S7v.grow s711).hidden (.inr rfl) kD⟩
      · rw [dpa_len hal, List.length_append, List.length_map, List.length_take]
        have := h100
        omega
      · rw [upd_ne (nD a u q)]; exact s711 _ _ (s17 _ _ q)
      · rw [eqr]; exact r67.trans (reg_up s711)
      · rw [nxt1, ← List.append_assoc, eqr]
        exact dpa_snoc hal r11
    · have e : j = (ys z).length := by omega
      subst e
      rw [List.take_length] at hacc7
      exact .inl ⟨W1.stops H7 hGG1, s17, acc7, hD7, by rw [nxt]; exact hacc7, S7⟩
  · have e : i = xs.length := by omega
    subst e
    rw [List.take_length] at hacc
    have sr : Same (reg own F' H2) (reg own F H2) := reg_mono fun a o h1 h2 h3 => ⟨h3, h1, fun q => h2 (.inl q)⟩
    exact .inl ⟨W.stops H2 hGG, s1.trans s2, .lst (SqL.of (by rw [reg_in fD.1 fD.2]; exact hD2)) (hacc.up sr)⟩
theorem d_lc2 {elt tg it tg1 it1 : Expr} {scope : Scope} {onm : List (Str × Nat)} {vs1 : List Nat} {ds : List PyData} (hc : X.calm = true) (hN : X.N.Nodup) (ok : BlkOk X.N X.env.scope scope onm) (hv : ∀ i ∈ vs1, i ∈ onm.map (·.2)) (h : DL2 X elt tg it tg1 it1 scope (onm.map (·.2)) vs1 dl ds)
    (hs : ∀ x, foldedSetIterable it X.env x = pure x := by intro _; rfl) (hs1 : ∀ env x, foldedSetIterable it1 env x = pure x := by intro _ _; rfl) : DE X (.ListComp elt [⟨tg, it, [], 0⟩, ⟨tg1, it1, [], 0⟩] scope pos) dl (.p (.list ds)) := fun Kp F own H st S => fun pins s I =>
  (pe_lc2 hc hN (piW tg it) ok hv pgB ptB piB pgB ptB peB hs hs1).run pins s st H _ I (h Kp F own H st S I.len)
end
end Ac
-- part D1
set_option maxHeartbeats 4000000
set_option Elab.async false
set_option maxRecDepth 100000
set_option linter.all false
/-! Ac, part 19: several names at once. -/
namespace Ac
open PySem PySem.Spec PyProof.Rows L2
/-- the values of a display: data that stand, or new lists and dicts that nobody else knows -/
inductive FS (w : World) (K : PySem.W.Frag) (mg : Str → Option Value) (H G H' : Hp) : List V → List Sl → List Addr → Prop
  | nil : FS w K mg H G H' [] [] []
  | val {v : V} {t : T} {vs : List V} {ss : List Sl} {ps : List Addr} : RT w K mg G v t → FS w K mg H G H' vs ss ps → FS w K mg H G H' (v :: vs) (.t t :: ss) ps
  | own {p : Addr} {o : HO} {s : Sl} {vs : List V} {ss : List Sl} {ps : List Addr} : H p = none → H' p = some o → NewS w K G p o s → p ∉ ps → FS w K mg H G H' vs ss ps → FS w K mg H G H' (.ref p :: vs) (s :: ss) (p :: ps)
theorem NewS.up {w : World} {K : PySem.W.Frag} {G G' : Hp} {p : Addr} {o : HO} {s : Sl} (h : NewS w K G p o s) (e : Same G G') : NewS w K G' p o s := by
  cases s with
  | ol ds => obtain ⟨xs, h1, h2⟩ := h; exact ⟨xs, h1, h2.up e⟩
  | od kvs => obtain ⟨ob, h1, h2, h3⟩ := h; exact ⟨ob, h1, h2, h3.up e⟩
  | _ => exact h.elim
section
variable {w : World} {K : PySem.W.Frag} {mg : Str → Option Value} {H G H' G' H'' H0 : Hp}
theorem FS.up : ∀ {vs : List V} {ss : List Sl} {ps : List Addr}, FS w K mg H G H' vs ss ps → Same G G' → Same H' H'' → FS w K mg H G' H'' vs ss ps
  | _, _, _, .nil, _, _ => .nil
  | _, _, _, .val r t, e, e' => .val (r.up e) (t.up e e')
  | _, _, _, .own h1 h2 h3 h4 t, e, e' => .own h1 (e' _ _ h2) (h3.up e) h4 (t.up e e')
theorem FS.from : ∀ {vs : List V} {ss : List Sl} {ps : List Addr}, FS w K mg H G H' vs ss ps → Same H0 H → FS w K mg H0 G H' vs ss ps
  | _, _, _, .nil, _ => .nil
  | _, _, _, .val r t, e => .val r (t.from e)
  | _, _, _, .own h1 h2 h3 h4 t, e => .own (e.free h1) h2 h3 h4 (t.from e)
theorem FS.fresh : ∀ {vs : List V} {ss : List Sl} {ps : List Addr}, FS w K mg H G H' vs ss ps → ∀ p ∈ ps, H p = none ∧ H' p ≠ none
  | _, _, _, .nil, _, h => nomatch h
  | _, _, _, .val r t, p, h => t.fresh p h
  | _, _, _, .own h1 h2 h3 h4 t, p, h => by
    rcases List.mem_cons.mp h with rfl | h
    · exact ⟨h1, by rw [h2]; simp⟩
    · exact t.fresh p h
end
def hid (F : Addr → Prop) (ps : List Addr) : Addr → Prop := fun a => F a ∨ a ∈ ps
theorem hid_nil {F : Addr → Prop} : hid F [] = F := by
  funext a
  simp [hid]
/-- the items of a display, kept apart -/
def DFs (X : Cx) (es : List Expr) (dl : List Sl) (ss : List Sl) : Prop := ∀ (Kp : Hp) (F : Addr → Prop) (own : Nat → List Addr) (H : Hp) (st : L2.St), SE X Kp F dl own H st →
  WA X es st H fun vs H' => Same H H' ∧ ∃ ps, FS X.w X.K X.mg H (reg own (hid F ps) H') H' vs ss ps
section
variable {X : Cx} {e a b c : Expr} {es : List Expr} {dl dl' : List Sl} {t u r : T} {pos p : Pos} {D : DK} {Kp : Hp} {F : Addr → Prop} {own : Nat → List Addr} {H H' : Hp} {st : L2.St}
theorem dfs_nil : DFs X [] dl [] := fun _ F own H _ _ => wa_of pa_nil ⟨Same.refl H, [], .nil⟩
theorem dfs_val {ss : List Sl} (h : DE X e dl t) (hs : DFs X es dl ss) (he : starEach (e :: es) X.env = (false, eval e X.env) :: starEach es X.env := by rfl) : DFs X (e :: es) dl (.t t :: ss) := fun Kp F own H st S => by
  refine wa_of (pa_cons (peW e) (paW es) he) ?_
  refine (h Kp F own H st S).mono fun v H1 ⟨s1, q1⟩ => ?_
  refine (hs Kp F own H1 st (S.grow s1)).mono fun vs H2 ⟨s2, ps, q2⟩ => ⟨s1.trans s2, ps, .val (q1.up (reg_mono fun a o h1 h2 h3 => ⟨s2 a o h3, h1, fun z => z.elim h2 fun z => ?_⟩)) (q2.from s1)⟩
  rw [(q2.fresh a z).1] at h3; cases h3
theorem dfs_own {s : Sl} {ss : List Sl} (h : DF X e dl s) (hs : DFs X es dl ss) (he : starEach (e :: es) X.env = (false, eval e X.env) :: starEach es X.env := by rfl) : DFs X (e :: es) dl (s :: ss) := fun Kp F own H st S => by
  refine wa_of (pa_cons (peW e) (paW es) he) ?_
  refine (h Kp F own H st S).mono fun v H1 ⟨H0, p, o, s0, hp, e1, e2, n⟩ => ?_
  subst e1 e2
  have S1 := (S.grow s0).hide (o := o) hp
  refine (hs Kp _ own _ st S1).mono fun vs H2 ⟨s2, ps, q2⟩ => ⟨(s0.trans (same_new hp)).trans s2, p :: ps, ?_⟩
  have eq : hid (fun a => F a ∨ a = p) ps = hid F (p :: ps) := by
    funext a
    unfold hid
    rw [List.mem_cons, ← or_assoc]
  rw [eq] at q2
  have hpn : p ∉ ps := fun z => by
    have := (q2.fresh p z).1
    rw [upd_same] at this; cases this
  refine .own (s0.free hp) (s2 _ _ upd_same) (n.up (reg_mono fun a u h1 h2 h3 => ⟨s2 _ _ (same_new hp a u h3), h1, fun z => z.elim h2 fun z => ?_⟩)) hpn (q2.from (s0.trans (same_new hp)))
  rcases List.mem_cons.mp z with rfl | z
  · rw [hp] at h3; cases h3
  · have := (q2.fresh a z).1
    rw [same_new hp a u h3] at this; cases this
theorem SE.hideAll (S : SE X Kp F dl own H st) (s : Same H H') {ps : List Addr} (hp : ∀ p ∈ ps, H p = none ∧ H' p ≠ none) : SE X Kp (hid F ps) dl own H' st := by
  have r : Same (reg own F H) (reg own (hid F ps) H') := reg_mono fun a u h1 h2 h3 => ⟨s a u h3, h1, fun z => z.elim h2 fun z => by rw [(hp a z).1] at h3; cases h3⟩
  refine ⟨S.kp.trans s, S.fr, fun a h => ?_, fun i a h z => ?_, S.dis, fun i => (S.sl i).up r fun a u _ q => s a u q⟩
  · rcases h with h | h
    · cases q : H a with
      | none => exact absurd q (S.fn a h)
      | some u => rw [s a u q]; simp
    · exact (hp a h).2
  · rcases z with z | z
    · exact S.nf i a h z
    · exact S.there h (hp a z).1
theorem SE.claim {i : Nat} {p : Addr} {ps : List Addr} {o : HO} {s : Sl} (S : SE X Kp (hid F (p :: ps)) dl own H st) (hi : i < dl.length) (hs : i < st.length) (hF : ¬ F p) (hp : p ∉ ps) (kp : Kp p = none) (hH : H p = some o) (n : NewS X.w X.K (reg own (hid F (p :: ps)) H) p o s) :
    SE X Kp (hid F ps) (dl.set i s) (ownS own i [p]) H (st.set i (some (.ref p))) ∧ Same (reg own (hid F (p :: ps)) H) (reg (ownS own i [p]) (hid F ps) H) := by
  have r : Same (reg own (hid F (p :: ps)) H) (reg (ownS own i [p]) (hid F ps) H) := reg_mono fun a u h1 h2 h3 => ⟨h3, fun j z => by
    by_cases e : j = i
    · subst e
      rw [ownS_same] at z
      exact h2 (.inr (by rw [List.mem_singleton.mp z]; exact List.mem_cons_self))
    · rw [ownS_ne e] at z; exact h1 j z, fun z => h2 (z.imp id fun z => List.mem_cons_of_mem _ z)⟩
  refine ⟨⟨S.kp, fun j a h => ?_, fun a h => S.fn a (h.imp id fun z => List.mem_cons_of_mem _ z), fun j a h z => ?_, fun j k a h1 h2 => ?_, fun j => ?_⟩, r⟩
  · by_cases e : j = i
    · subst e; rw [ownS_same] at h; rw [List.mem_singleton.mp h]; exact kp
    · rw [ownS_ne e] at h; exact S.fr j a h
  · by_cases e : j = i
    · subst e; rw [ownS_same] at h
      obtain rfl := List.mem_singleton.mp h
      exact z.elim hF hp
    · rw [ownS_ne e] at h; exact S.nf j a h (z.imp id fun z => List.mem_cons_of_mem _ z)
  · have aux : ∀ k, a ∈ own k → a = p → False := fun k h e => S.nf k a h (.inr (by rw [e]; exact List.mem_cons_self))
    by_cases e : j = i
    · by_cases e' : k = i
      · rw [e, e']
      · subst e; rw [ownS_same] at h1; rw [ownS_ne e'] at h2
        exact (aux k h2 (List.mem_singleton.mp h1)).elim
    · by_cases e' : k = i
      · subst e'; rw [ownS_same] at h2; rw [ownS_ne e] at h1
        exact (aux j h1 (List.mem_singleton.mp h2)).elim
      · rw [ownS_ne e] at h1; rw [ownS_ne e'] at h2; exact S.dis j k a h1 h2
  · rw [getD_set _ _ _ _ _ hi, getD_set _ _ _ _ _ hs]
    by_cases e : j = i
    · subst e
      rw [if_pos rfl, if_pos rfl, ownS_same]
      cases s with
      | ol ds => obtain ⟨xs, rfl, h2⟩ := n; exact ⟨p, xs, rfl, rfl, hH, h2.up r⟩
      | od kvs => obtain ⟨ob, rfl, h2, h3⟩ := n; exact ⟨p, ob, rfl, rfl, h2, hH, h3.up r⟩
      | _ => exact n.elim
    · rw [if_neg e, if_neg e, ownS_ne e]
      exact (S.sl j).up r fun _ _ _ q => q
def setL (dl : List Sl) : List Nat → List Sl → List Sl
  | i :: is, s :: ss => setL (dl.set i s) is ss
  | _, _ => dl
def setV (st : L2.St) : List Nat → List V → L2.St
  | i :: is, v :: vs => setV (st.set i (some v)) is vs
  | _, _ => st
theorem SE.claims {Hs : Hp} {vs : List V} {ss : List Sl} {ps : List Addr} {G : Hp} (f : FS X.w X.K X.mg Hs G H vs ss ps) : ∀ {is : List Nat} {dl : List Sl} {own : Nat → List Addr} {st : L2.St}, is.length = ss.length → (∀ i ∈ is, i < dl.length ∧ i < st.length) → SE X Kp (hid F ps) dl own H st → Same G (reg own (hid F ps) H) → (∀ p, Hs p = none → ¬ F p ∧ Kp p = none) →
    ∃ own', SE X Kp F (setL dl is ss) own' H (setV st is vs) := by
  induction f with
  | nil =>
    intro is dl own st hl _ S _ _
    cases is with
    | nil => rw [hid_nil] at S; exact ⟨own, S⟩
    | cons _ _ => simp at hl
  | @val v t vs ss ps r _ ih =>
    intro is dl own st hl hb S sG hF
    cases is with
    | nil => simp at hl
    | cons i is =>
      have hi := hb i List.mem_cons_self
      have S' := S.put hi.1 hi.2 (r.up sG)
      refine ih (by simpa using hl) (fun j hj => ?_) S' (sG.trans (reg_mono fun a o h1 h2 h3 => ⟨h3, fun j => ?_, h2⟩)) hF
      · have := hb j (List.mem_cons_of_mem _ hj)
        simpa using this
      · by_cases e : j = i
        · rw [if_pos e]; simp
        · rw [if_neg e]; exact h1 j
  | @own p o s vs ss ps h1 h2 h3 h4 _ ih =>
    intro is dl own st hl hb S sG hF
    cases is with
    | nil => simp at hl
    | cons i is =>
      have hi := hb i List.mem_cons_self
      obtain ⟨S', r⟩ := S.claim hi.1 hi.2 (hF p h1).1 h4 (hF p h1).2 h2 (h3.up sG)
      refine ih (by simpa using hl) (fun j hj => ?_) S' (sG.trans r) hF
      have := hb j (List.mem_cons_of_mem _ hj)
      simpa using this
theorem SE.claims0 {vs : List V} {ss : List Sl} {ps : List Addr} {is : List Nat} (S : SE X Kp F dl own H st) (s : Same H H') (f : FS X.w X.K X.mg H (reg own (hid F ps) H') H' vs ss ps) (hl : is.length = ss.length) (hb : ∀ i ∈ is, i < dl.length ∧ i < st.length) : ∃ own', SE X Kp F (setL dl is ss) own' H' (setV st is vs) :=
  SE.claims f hl hb (S.hideAll s f.fresh) (Same.refl _) fun p h => ⟨(S.fresh h).2, S.kp.free h⟩
theorem FS.lens {w : World} {K : PySem.W.Frag} {mg : Str → Option Value} {H G H' : Hp} : ∀ {vs : List V} {ss : List Sl} {ps : List Addr}, FS w K mg H G H' vs ss ps → vs.length = ss.length
  | _, _, _, .nil => rfl
  | _, _, _, .val _ t => by rw [List.length_cons, List.length_cons, t.lens]
  | _, _, _, .own _ _ _ _ t => by rw [List.length_cons, List.length_cons, t.lens]
/-- x, y = a, b; plain local names -/
theorem s_par (i j : Nat) {x y : Str} {s1 s2 : Sl} {px py pt : Pos} {kt k2 : Nat} {pt2 : Pos} (hc : X.calm = true) (hN : X.N.Nodup) (h : DFs X [a, b] dl [s1, s2]) (q : D.nx ((dl.set i s1).set j s2)) (hid : i < dl.length := by exact Nat.le_of_ble_eq_true rfl) (hjd : j < dl.length := by exact Nat.le_of_ble_eq_true rfl) (hi : X.N[i]? = some x := by rfl) (hj : X.N[j]? = some y := by rfl) (hij : i ≠ j := by decide)
    (hx : X.env.scope.names.lookup x = some .local := by rfl) (hy : X.env.scope.names.lookup y = some .local := by rfl)
    (hw : swappedStores [.Tuple [.Name x px, .Name y py] kt pt] (.Tuple [a, b] k2 pt2) X.env = pure (some [x, y]) := by rfl)
    (hs : swapsWithSole [.Tuple [.Name x px, .Name y py] kt pt] (.Tuple [a, b] k2 pt2) pos.line X.env = pure false := by rfl) : SX X (.Assign [.Tuple [.Name x px, .Name y py] kt pt] (.Tuple [a, b] k2 pt2) pos) D dl := fun Kp F own H st S hlen => by
  refine w1_of (ps_par hc hN hi hj hij hx hy (paW [a, b]) hw hs) ?_
  refine (h Kp F own H st S).mono fun vs H1 ⟨s1', ps, f⟩ => ?_
  have l := f.lens
  match vs, l with
  | [v, w'], _ =>
    obtain ⟨own', S'⟩ := S.claims0 (is := [i, j]) s1' f rfl fun k hk => by
      have e : st.length = X.N.length := hlen
      rcases List.mem_cons.mp hk with rfl | hk
      · exact ⟨hid, by rw [e]; exact (List.getElem?_eq_some_iff.mp hi).1⟩
      · obtain rfl := List.mem_singleton.mp hk
        exact ⟨hjd, by rw [e]; exact (List.getElem?_eq_some_iff.mp hj).1⟩
    exact ⟨v, w', rfl, _, own', S', q⟩
theorem s_par3 (i j k : Nat) {x y z : Str} {s1 s2 s3 : Sl} {px py pz pt : Pos} {kt k2 : Nat} {pt2 : Pos} (hc : X.calm = true) (hN : X.N.Nodup) (h : DFs X [a, b, c] dl [s1, s2, s3]) (q : D.nx (((dl.set i s1).set j s2).set k s3)) (hid : i < dl.length := by exact Nat.le_of_ble_eq_true rfl) (hjd : j < dl.length := by exact Nat.le_of_ble_eq_true rfl) (hkd : k < dl.length := by exact Nat.le_of_ble_eq_true rfl)
    (hi : X.N[i]? = some x := by rfl) (hj : X.N[j]? = some y := by rfl) (hk : X.N[k]? = some z := by rfl) (hij : i ≠ j := by decide) (hik : i ≠ k := by decide) (hjk : j ≠ k := by decide)
    (hx : X.env.scope.names.lookup x = some .local := by rfl) (hy : X.env.scope.names.lookup y = some .local := by rfl) (hz : X.env.scope.names.lookup z = some .local := by rfl)
    (hw : swappedStores [.Tuple [.Name x px, .Name y py, .Name z pz] kt pt] (.Tuple [a, b, c] k2 pt2) X.env = pure (some [x, y, z]) := by rfl)
    (hs : swapsWithSole [.Tuple [.Name x px, .Name y py, .Name z pz] kt pt] (.Tuple [a, b, c] k2 pt2) pos.line X.env = pure false := by rfl) : SX X (.Assign [.Tuple [.Name x px, .Name y py, .Name z pz] kt pt] (.Tuple [a, b, c] k2 pt2) pos) D dl := fun Kp F own H st S hlen => by
  refine w1_of (ps_par3 hc hN hi hj hk hij hik hjk hx hy hz (paW [a, b, c]) hw hs) ?_
  refine (h Kp F own H st S).mono fun vs H1 ⟨s1', ps, f⟩ => ?_
  have l := f.lens
  match vs, l with
  | [v, w', v3], _ =>
    obtain ⟨own', S'⟩ := S.claims0 (is := [i, j, k]) s1' f rfl fun n hn => by
      have e : st.length = X.N.length := hlen
      simp only [List.mem_cons, List.not_mem_nil, or_false] at hn
      rcases hn with rfl | rfl | rfl
      · exact ⟨hid, by rw [e]; exact (List.getElem?_eq_some_iff.mp hi).1⟩
      · exact ⟨hjd, by rw [e]; exact (List.getElem?_eq_some_iff.mp hj).1⟩
      · exact ⟨hkd, by rw [e]; exact (List.getElem?_eq_some_iff.mp hk).1⟩
    exact ⟨v, w', v3, rfl, _, own', S', q⟩
/-- names that take values in their order -/
def GNs (X : Cx) (tgs : List Expr) (is : List Nat) : Prop := ∃ g : TGs, PGs X tgs g ∧ ∀ (vs : List V) (st : L2.St) (H : Hp) (Q : L2.St → Hp → Prop), vs.length = is.length → Q (setV st is vs) H → g vs st H Q
theorem gns_nil : GNs X [] [] := ⟨gNil, pgs_nil, fun vs st H Q hl q => by
  cases vs with
  | nil => exact ⟨rfl, q⟩
  | cons _ _ => simp at hl⟩
theorem gns_cons (i : Nat) {x : Str} {tgs : List Expr} {is : List Nat} {p : Pos} (hN : X.N.Nodup) (h : GNs X tgs is) (hx : X.N[i]? = some x := by rfl) (hl : Loc X.env.scope x := by first | exact .inl rfl | exact .inr rfl)
    (hfn : X.fn x = true ∨ X.env.scope.names.lookup x = some .local := by first | exact .inl rfl | exact .inr rfl) (ha : (assignEach (.Name x p :: tgs) X.env).map (·.2) = assign (.Name x p) X.env :: (assignEach tgs X.env).map (·.2) := by rfl) : GNs X (.Name x p :: tgs) (i :: is) := by
  obtain ⟨g, h1, h2⟩ := h
  refine ⟨_, pgs_cons (pg_name hN hx hl hfn) h1 ha, fun vs st H Q hl q => ?_⟩
  cases vs with
  | nil => simp at hl
  | cons v vs => exact ⟨v, vs, rfl, h2 vs _ H Q (by simpa using hl) q⟩
/-- x, y, .. = a, b, .., whatever the names are, in order -/
theorem s_tup {tgs : List Expr} {is : List Nat} {ss : List Sl} {kt k2 : Nat} {pt pt2 : Pos} (hc : X.calm = true) (g : GNs X tgs is) (h : DFs X es dl ss) (hl : is.length = ss.length) (hz : ss.length ≤ 100) (hb : ∀ i ∈ is, i < dl.length ∧ i < X.N.length) (q : D.nx (setL dl is ss))
    (hn : (assignEach tgs X.env).length = ss.length := by rfl) (hst : (assignEach tgs X.env).findIdx? (·.1) = none := by rfl)
    (hs : swapsWithSole [.Tuple tgs kt pt] (.Tuple es k2 pt2) pos.line X.env = pure false := by rfl) (hw : swappedStores [.Tuple tgs kt pt] (.Tuple es k2 pt2) X.env = pure none := by rfl)
    (h3 : (assignEach [.Tuple tgs kt pt] X.env).map (·.2) = [assign (.Tuple tgs kt pt) X.env] := by rfl) : SX X (.Assign [.Tuple tgs kt pt] (.Tuple es k2 pt2) pos) D dl := fun Kp F own H st S hlen => by
  obtain ⟨g, h1, h2⟩ := g
  refine w1_of (ps_asg (pe_tup (paW es)) (pg_tup hc h1 hn hst) hs hw h3) ?_
  refine (h Kp F own H st S).mono fun vs H1 ⟨s1, ps, f⟩ => ⟨?_, fun p hp => ?_⟩
  · rw [f.lens]; exact Nat.le_trans hz (by decide)
  · have s2 := same_new (o := HO.tup vs) hp
    refine ⟨p, vs, rfl, SqT.of upd_same, f.lens, ?_⟩
    have f' := f.up (G' := reg own (hid F ps) (upd H1 p (.tup vs))) (reg_up s2) s2
    obtain ⟨own', S'⟩ := S.claims0 (is := is) (s1.trans s2) f' hl fun i hi => ⟨(hb i hi).1, by rw [hlen]; exact (hb i hi).2⟩
    exact h2 vs st _ _ (by rw [f.lens, hl]) ⟨_, own', S', q⟩
end
end Ac
-- part D2
set_option maxHeartbeats 4000000
set_option Elab.async false
set_option maxRecDepth 100000
set_option linter.all false
/-! Ac, part 20: d.setdefault(k, []).append(x). -/
namespace Ac
open PySem PySem.Spec PyProof.Rows L2
section
variable {X : Cx}
theorem entL_of {w : World} {K : PySem.W.Frag} {G : Hp} : ∀ {kas : List (NestedKey × Addr × List PyData)} {es : List DictEntry}, Paired (EntL w K G) kas es →
    ∃ xs : List (NestedKey × Addr × Value), Paired (fun (x : NestedKey × Addr × List PyData) (y : NestedKey × Addr × Value) => y.1 = x.1 ∧ y.2.2 = .ref x.2.1 ∧ x.1.depth ≤ 8 ∧ Dp K G (.ref y.2.1) x.1.data) kas xs ∧ es = xs.map fun x => ⟨x.1.hash w, .ref x.2.1, x.2.2⟩
  | _, _, .nil => ⟨[], .nil, rfl⟩
  | _, _, .cons (a := x) (b := e) ⟨b, h1, h2, h3, h4, h5⟩ t => by
    obtain ⟨xs, k1, k2⟩ := entL_of t
    refine ⟨(x.1, b, .ref x.2.1) :: xs, .cons ⟨rfl, rfl, h3, h4⟩ k1, ?_⟩
    obtain ⟨eh, ek, ev⟩ := e
    simp only at h1 h2 h5
    subst h1 h2 h5
    simp [k2]
abbrev PL (K : PySem.W.Frag) (G : Hp) : NestedKey × Addr × List PyData → NestedKey × Addr × Value → Prop := fun x y => y.1 = x.1 ∧ y.2.2 = .ref x.2.1 ∧ x.1.depth ≤ 8 ∧ Dp K G (.ref y.2.1) x.1.data
theorem pl_keys {K : PySem.W.Frag} {G : Hp} : ∀ {kas : List (NestedKey × Addr × List PyData)} {xs : List (NestedKey × Addr × Value)}, Paired (PL K G) kas xs → xs.map (·.1) = kas.map (·.1)
  | _, _, .nil => rfl
  | _, _, .cons h t => by rw [List.map_cons, List.map_cons, pl_keys t, h.1]
theorem pl_mem {K : PySem.W.Frag} {G : Hp} : ∀ {kas : List (NestedKey × Addr × List PyData)} {xs : List (NestedKey × Addr × Value)}, Paired (PL K G) kas xs → ∀ y ∈ xs, ∃ x ∈ kas, PL K G x y
  | _, _, .nil, _, h => nomatch h
  | _, _, .cons h t, y, hy => by
    rcases List.mem_cons.mp hy with rfl | hy
    · exact ⟨_, List.mem_cons_self, h⟩
    · obtain ⟨x, m, q⟩ := pl_mem t y hy
      exact ⟨x, List.mem_cons_of_mem _ m, q⟩
theorem pl_at {K : PySem.W.Frag} {G : Hp} (k : NestedKey) : ∀ {kas : List (NestedKey × Addr × List PyData)} {xs : List (NestedKey × Addr × Value)}, Paired (PL K G) kas xs → ∀ p, atKey xs k = some p → ∃ x ∈ kas, x.1 = k ∧ p.2 = .ref x.2.1
  | _, _, .nil, _, h => nomatch h
  | _, _, .cons (a := x) (b := y) q t, p, h => by
    unfold atKey at h
    rw [List.find?_cons] at h
    by_cases e : y.1 = k
    · rw [decide_eq_true e] at h
      have h' : y.2 = p := by simpa using h
      subst h'
      exact ⟨x, List.mem_cons_self, by rw [← q.1]; exact e, q.2.1⟩
    · rw [decide_eq_false e] at h
      obtain ⟨z, m, r⟩ := pl_at k t p h
      exact ⟨z, List.mem_cons_of_mem _ m, r⟩
theorem pl_none {K : PySem.W.Frag} {G : Hp} {k : NestedKey} {kas : List (NestedKey × Addr × List PyData)} {xs : List (NestedKey × Addr × Value)} (P : Paired (PL K G) kas xs) (h : atKey xs k = none) : ∀ x ∈ kas, x.1 ≠ k := by
  intro x hx e
  have hk : k ∈ xs.map (·.1) := by rw [pl_keys P, ← e]; exact List.mem_map.mpr ⟨x, hx, rfl⟩
  obtain ⟨y, hy, ey⟩ := List.mem_map.mp hk
  unfold atKey at h
  rw [Option.map_eq_none_iff, List.find?_eq_none] at h
  exact h y hy (by simp [ey])
/-- d.setdefault(k, l) -/
def rSetdL (X : Cx) : V → List V → Hp → VK → Prop := fun x vs H Q => ∃ (b p l : Addr) (k : NestedKey) (G : Hp) (kas : List (NestedKey × Addr × List PyData)) (o : Obj), x = .ref p ∧ vs = [.ref b, .ref l] ∧ Same G H ∧ Dp X.K G (.ref b) k.data ∧ k.depth ≤ 8 ∧ (p == sysModules) = false ∧ H p = some (DicO p o) ∧ EntLs X.w X.K G o kas ∧ kas.length < 100000 ∧
  (∀ x ∈ kas, x.1 = k → Q (.ref x.2.1) H) ∧ ((∀ x ∈ kas, x.1 ≠ k) → ∀ o', EntLs X.w X.K G o' (kas ++ [(k, l, [])]) → Q (.ref l) (upd H p (DicO p o')))
theorem mt_setdL (hu : X.A.units + 64 < cLine) : MtR X "dict.setdefault" (rSetdL X) := by
  intro pins s σ H x vs v us Q I rx rs h
  obtain ⟨b, p, l, k, G, kas, o, rfl, rfl, sG, hk, hd, ns, ho, En, hz, q1, q2⟩ := h
  cases rx
  obtain ⟨u1, u2, rfl, r1, r2⟩ := vals2 rs
  cases r1
  cases r2
  obtain ⟨es, ep, h1, h2⟩ := En.es
  obtain ⟨xs, P, k2⟩ := entL_of h2
  have hgo := DicO.obj (I.hok p _ ho)
  have D : s.heap.DictOfH (nk X) p xs := ⟨o, es, ep, hgo, En.ex, h1, k2, fun y hy => by
    obtain ⟨x, hx, e1, e2, e3, e4⟩ := pl_mem P y hy
    rw [e1]
    exact key_is I (e4.up sG) e3, by rw [pl_keys P]; exact En.nd⟩
  have hl : xs.length = kas.length := by rw [← List.length_map (f := (·.1)), pl_keys P, List.length_map]
  have := h100
  refine call_setdefault_heap (knd := nk X) (by show X.A.units + 1 + 8 < cLine; omega) (key_is I (hk.up sG) hd) ns D (fun pp hp => ?_) (fun hn h' D' sb => ?_) (by rw [hl]; omega)
  · obtain ⟨x, hx, e1, e2⟩ := pl_at k P pp hp
    rw [e2]
    exact ⟨.ref x.2.1, H, I.tok _, rfl, q1 x hx e1⟩
  · have P' : Paired (PL X.K G) (kas ++ [(k, l, [])]) (xs ++ [(k, b, .ref l)]) := paired_app P (.cons ⟨rfl, rfl, hd, hk⟩ .nil)
    have es' : storedH xs k b (.ref l) = xs ++ [(k, b, .ref l)] := by
      unfold storedH
      rw [hn]
      rfl
    rw [es'] at D'
    obtain ⟨o', es2, ep2, f1, f2, f3, f4, f5, f6⟩ := D'
    have E' : EntLs X.w X.K G o' (kas ++ [(k, l, [])]) := by
      refine ⟨f2, by rw [← pl_keys P']; exact f6, by rw [List.length_append, List.length_singleton]; omega, es2, ep2, f3, ?_⟩
      rw [f4]
      have aux : ∀ {kas : List (NestedKey × Addr × List PyData)} {xs : List (NestedKey × Addr × Value)}, Paired (PL X.K G) kas xs → Paired (EntL X.w X.K G) kas (xs.map (entryOfKey (nk X))) := by
        intro kas xs P
        induction P with
        | nil => exact .nil
        | cons q t ih => exact .cons ⟨_, rfl, by rw [← q.1]; rfl, q.2.2.1, q.2.2.2, q.2.1⟩ ih
      exact aux P'
    exact ⟨.ref l, _, d_write (t' := s.toks + (nk X).draws k) I (by rw [ho]; exact True.intro) sb ⟨o', f1⟩ (dicO_new f1), rfl, q2 (pl_none P hn) o' E'⟩
/-- {k: [.., ]} with d behind k's list -/
def addD (kvs : List (NestedKey × List PyData)) (k : NestedKey) (d : PyData) : List (NestedKey × List PyData) := if kvs.any (fun x => decide (x.1 = k)) then kvs.map fun x => if x.1 = k then (x.1, x.2 ++ [d]) else x else kvs ++ [(k, [d])]
variable {e a b c : Expr} {es : List Expr} {dl dl' : List Sl} {t u r : T} {pos p : Pos} {D : DK} {Kp : Hp} {F : Addr → Prop} {own : Nat → List Addr} {H H' : Hp} {st : L2.St}
/-- {} as such a dict -/
theorem sw_dls {ss : List Stmt} (i : Nat) (hd : dl.getD i .no = .od []) (h : SW X ss D (dl.set i (.dls []))) : SW X ss D dl := fun Kp F own H st S => by
  have ok := S.sl i
  rw [hd] at ok
  obtain ⟨p, o, e1, e2, hm, h4, h5⟩ := ok
  have S' := S.chg (H' := H) (st' := st) (s := .dls []) (l := own i) (x := st.getD i none) (getD_lt hd (by intro z; cases z)) (fun _ _ _ q => q) (fun a h => .inl h) rfl (fun _ _ => rfl)
    ⟨p, [], e1, e2, rfl, hm, by simp, ⟨o, h4, h5.ex, List.nodup_nil, Nat.zero_le _, let ⟨es, ep, g1, g2⟩ := h5.es; ⟨es, ep, g1, by
      cases hh : es.toList with
      | nil => exact .nil
      | cons x y => rw [hh] at g2; cases g2⟩⟩, fun _ h => nomatch h⟩
  exact h Kp F _ H st S'
theorem s_setdApp (i : Nat) {x : Str} {ke xe : Expr} {npos apos apos2 lpos cpos : Pos} {kvs : List (NestedKey × List PyData)} {ds : List PyData} {d : PyData} (k : NestedKey) (hu : X.A.units + 64 < cLine) (hd : dl.getD i .no = .dls kvs) (hk : DE X ke dl (.p (.tuple ds))) (hkd : k.data = .tuple ds) (hdp : k.depth ≤ 8)
    (hx : ∀ dl', (∀ j, j ≠ i → dl'.getD j .no = dl.getD j .no) → DE X xe dl' (.p d)) (hz : kvs.length < 100000) (hz2 : ∀ x ∈ kvs, x.2.length < 100000) (q : D.nx (dl.set i (.dls (addD kvs k d))))
    (h : ∀ (r : V → List V → Hp → VK → Prop) (to : TE) (t : TA), MtR X "dict.setdefault" r → PE X (.Name x npos) to → PA X [ke, .List [] lpos] t → PE X (.Call (.Attribute (.Name x npos) "setdefault" apos) [ke, .List [] lpos] [] cpos) (tBMD r to t) := by intro r to t h1 h2 h3; exact pe_bmD PySem.F.slot_dict_setdefault PySem.F.type_dict_setdefault h1 h2 h3)
    (h' : ∀ (r : V → List V → Hp → VK → Prop) (to : TE) (t : TA), MtR X "list.append" r → PE X (.Call (.Attribute (.Name x npos) "setdefault" apos) [ke, .List [] lpos] [] cpos) to → PA X [xe] t → PE X (.Call (.Attribute (.Call (.Attribute (.Name x npos) "setdefault" apos) [ke, .List [] lpos] [] cpos) "append" apos2) [xe] [] p) (tBM X.K "list" r to t) := by intro r to t h1 h2 h3; exact pe_bm PySem.F.plainAttrs_list PySem.F.slot_list_append PySem.F.type_list_append h1 h2 h3)
    (hN : X.N[i]? = some x := by rfl) (hv : Vis X.env.scope x := by first | exact Or.inl rfl | exact Or.inr (Or.inl rfl)) (h1 : (x == ("__debug__" : Str)) = false := by decide) (h2 : (x == ("__classdict__" : Str)) = false := by decide)
    (hs : swapsWith (.Call (.Attribute (.Call (.Attribute (.Name x npos) "setdefault" apos) [ke, .List [] lpos] [] cpos) "append" apos2) [xe] [] p) none pos.line X.env = pure false := by rfl)
    (hse : starEach [ke, Expr.List [] lpos] X.env = (false, eval ke X.env) :: starEach [Expr.List [] lpos] X.env := by rfl) (hse2 : starEach [Expr.List [] lpos] X.env = (false, eval (Expr.List [] lpos) X.env) :: starEach [] X.env := by rfl)
    (hse3 : starEach [xe] X.env = (false, eval xe X.env) :: starEach [] X.env := by rfl) :
    SX X (.Expr (.Call (.Attribute (.Call (.Attribute (.Name x npos) "setdefault" apos) [ke, .List [] lpos] [] cpos) "append" apos2) [xe] [] p) pos) D dl := fun Kp F own H st S hlen => by
  refine w1_of (ps_expr (h' rAppend _ (WA X [xe]) mt_append (h (rSetdL X) (tVar i) (tCons (WE X ke) (tCons (WE X (.List [] lpos)) tNil)) (mt_setdL hu) (pe_var hN hv h1 h2) (pa_cons (peW ke) (pa_cons (peW _) pa_nil hse2) hse)) (paW [xe])) hs) ?_
  have ok := S.sl i
  rw [hd] at ok
  obtain ⟨pp, kas, e1, e2, e3, A⟩ := ok
  have e' : st[i]? = some (some (.ref pp)) := by
    rw [List.getD_eq_getElem?_getD] at e2
    cases z : st[i]? with
    | none => rw [z] at e2; cases e2
    | some o => rw [z] at e2; simpa using e2
  obtain ⟨o, ho, En⟩ := A.dic
  have hid : i < dl.length := getD_lt hd (by intro z; cases z)
  have hpp : pp ∈ own i := by rw [e1]; exact List.mem_cons_self
  have hin : ∀ y ∈ kas, y.2.1 ∈ own i := fun y hy => by rw [e1]; exact List.mem_cons_of_mem _ (List.mem_map.mpr ⟨y, hy, rfl⟩)
  refine ⟨_, e', ⟨pp, o, rfl, ho, En.ex⟩, ?_⟩
  refine (hk Kp F own H st S).mono fun kv H1 ⟨s1, r1⟩ => ?_
  have S1 := S.grow s1
  refine ((df_lst dp_nil (Nat.zero_le _) : DF X (.List [] lpos) dl (.ol [])) Kp F own H1 st S1).mono fun lv H2 ⟨H0, l, ob, s0, hl0, eH, el, n⟩ => ?_
  obtain ⟨xs0, ex0, hx0⟩ := n
  subst ex0 eH el
  cases hx0
  obtain ⟨b, rfl⟩ := ref_of (show Dp X.K (reg own F H1) kv (.tuple ds) from r1)
  have S0 := S1.grow s0
  have sl := same_new (o := HO.lst []) hl0
  have S2 := S0.grow sl
  have A2 : DlsAt X.w X.K (reg own F (upd H0 l (.lst []))) (upd H0 l (.lst [])) pp kas := A.up (reg_up ((s1.trans s0).trans sl)) fun a o _ q => sl _ _ (s0 _ _ (s1 _ _ q))
  obtain ⟨o2, ho2, En2⟩ := A2.dic
  have hlo : ∀ j, l ∉ own j := (S0.fresh hl0).1
  have hlF : ¬ F l := (S0.fresh hl0).2
  have hkl : kas.length = kvs.length := by rw [← e3, List.length_map]
  -- behind setdefault: the slot is told anew, its list at a of d's
  have main : ∀ (kas' : List (NestedKey × Addr × List PyData)) (own' : Nat → List Addr) (H3 : Hp) (a : Addr) (xs : List PyData), (∀ j, j ≠ i → own' j = own j) → own' i = pp :: kas'.map (·.2.1) → SE X Kp F (dl.set i (.dls (kas'.map fun y => (y.1, y.2.2)))) own' H3 st → DlsAt X.w X.K (reg own' F H3) H3 pp kas' →
      (k, a, xs) ∈ kas' → xs.length < 100000 → (kas'.map fun y => if y.1 = k then (y.1, y.2.2 ++ [d]) else (y.1, y.2.2)) = addD kvs k d →
      (tyV X.K "list" (.ref a) H3 ∧ WA X [xe] st H3 fun vs H4 => rAppend (.ref a) vs H4 fun v H5 => (conc X Kp F D).nx st H5) := by
    intro kas' own' H3 a xs ho' hoi S3 A3 hm hxl hfin
    obtain ⟨vs, hvs, hvd⟩ := A3.ls _ hm
    refine ⟨.inl ⟨rfl, vs, SqL.of hvs⟩, ?_⟩
    have hx' := hx (dl.set i (.dls (kas'.map fun y => (y.1, y.2.2)))) fun j hj => by rw [getD_set _ _ _ _ _ hid, if_neg hj]
    refine ((da_cons hx' da_nil hse3 : DA X [xe] _ [.p d]) Kp F own' H3 st S3).mono fun ws H4 ⟨s34, q4⟩ => ?_
    cases q4 with
    | @cons w _ _ _ r1 r2 =>
      cases r2
      have S4 := S3.grow s34
      have A4 := A3.up (reg_up (own := own') (F := F) s34) fun a o _ q => s34 a o q
      have := h100
      refine ⟨a, vs, w, rfl, rfl, s34 _ _ hvs, by rw [dpa_len hvd]; exact Nat.lt_of_lt_of_le hxl this, ?_⟩
      have hai : a ∈ own' i := by rw [hoi]; exact List.mem_cons_of_mem _ (List.mem_map.mpr ⟨_, hm, rfl⟩)
      have keep : ∀ c u, c ∉ own' i → H4 c = some u → upd H4 a (.lst (vs ++ [w])) c = some u := fun c u hc q => by rw [upd_ne (show c ≠ a from fun z => hc (by rw [z]; exact hai))]; exact q
      have new : ∀ c ∈ own' i, c ∈ own' i ∨ H4 c = none := fun c h => .inl h
      have sr := S4.regS keep new
      have nd := A4.nd
      rw [List.nodup_cons] at nd
      have app : a ≠ pp := fun z => nd.1 (by rw [← z]; exact List.mem_map.mpr ⟨_, hm, rfl⟩)
      obtain ⟨o4, ho4, En4⟩ := A4.dic
      let kas2 := kas'.map fun y => if y.1 = k then (y.1, y.2.1, y.2.2 ++ [d]) else y
      have a1 : kas2.map (·.2.1) = kas'.map (·.2.1) := by
        rw [List.map_map]; refine List.map_congr_left fun y _ => ?_
        show (if y.1 = k then (y.1, y.2.1, y.2.2 ++ [d]) else y).2.1 = y.2.1
        split <;> rfl
      have a2 : kas2.map (·.1) = kas'.map (·.1) := by
        rw [List.map_map]; refine List.map_congr_left fun y _ => ?_
        show (if y.1 = k then (y.1, y.2.1, y.2.2 ++ [d]) else y).1 = y.1
        split <;> rfl
      have one : ∀ y ∈ kas', y.1 = k → y = (k, a, xs) := fun y hy e => by
        have hn := En4.nd
        have aux : ∀ (l : List (NestedKey × Addr × List PyData)), (l.map (·.1)).Nodup → ∀ y ∈ l, ∀ z ∈ l, y.1 = z.1 → y = z := by
          intro l
          induction l with
          | nil => intro _ y h; cases h
          | cons c l ih =>
            intro hn y hy z hz e
            rw [List.map_cons, List.nodup_cons] at hn
            rcases List.mem_cons.mp hy with rfl | hy
            · rcases List.mem_cons.mp hz with rfl | hz
              · rfl
              · exact absurd (List.mem_map.mpr ⟨z, hz, e.symm⟩) hn.1
            · rcases List.mem_cons.mp hz with ez | hz
              · exact absurd (List.mem_map.mpr ⟨y, hy, by rw [e, ez]⟩) hn.1
              · exact ih hn.2 y hy z hz e
        exact aux _ hn y hy _ hm e
      have hz3 : kas2.length = kas'.length := List.length_map _
      have A5 : DlsAt X.w X.K (reg (ownS own' i (own' i)) F (upd H4 a (.lst (vs ++ [w])))) (upd H4 a (.lst (vs ++ [w]))) pp kas2 := by
        refine ⟨A4.ns, by rw [a1]; exact A4.nd, ⟨o4, by rw [upd_ne (Ne.symm app)]; exact ho4, En4.ex, by rw [a2]; exact En4.nd, by rw [hz3]; exact En4.sz, ?_⟩, fun y hy => ?_⟩
        · obtain ⟨es, ep, g1, g2⟩ := (En4.up sr).es
          refine ⟨es, ep, g1, ?_⟩
          have aux : ∀ {l : List (NestedKey × Addr × List PyData)} {es : List DictEntry}, Paired (EntL X.w X.K (reg (ownS own' i (own' i)) F (upd H4 a (.lst (vs ++ [w]))))) l es → Paired (EntL X.w X.K (reg (ownS own' i (own' i)) F (upd H4 a (.lst (vs ++ [w]))))) (l.map fun y => if y.1 = k then (y.1, y.2.1, y.2.2 ++ [d]) else y) es := by
            intro l es P
            induction P with
            | nil => exact .nil
            | @cons y e l es q t ih =>
              refine .cons ?_ ih
              show EntL _ _ _ (if y.1 = k then (y.1, y.2.1, y.2.2 ++ [d]) else y) e
              by_cases hh : y.1 = k
              · rw [if_pos hh]; exact q
              · rw [if_neg hh]; exact q
          exact aux g2
        · obtain ⟨z, hz, rfl⟩ := List.mem_map.mp hy
          by_cases hh : z.1 = k
          · rw [if_pos hh]
            have ez := one z hz hh
            subst ez
            exact ⟨vs ++ [w], upd_same, dpa_snoc (hvd.up ((reg_up s34).trans sr)) (Dp.up r1 sr)⟩
          · rw [if_neg hh]
            obtain ⟨us, g1, g2⟩ := A4.ls z hz
            refine ⟨us, ?_, g2.up sr⟩
            rw [upd_ne (fun e => hh ?_)]
            · exact g1
            · -- two keys, two lists
              have hn := nd.2
              have aux : ∀ (l : List (NestedKey × Addr × List PyData)), (l.map (·.2.1)).Nodup → ∀ y ∈ l, ∀ z ∈ l, y.2.1 = z.2.1 → y = z := by
                intro l
                induction l with
                | nil => intro _ y h; cases h
                | cons c l ih =>
                  intro hn y hy z hz e
                  rw [List.map_cons, List.nodup_cons] at hn
                  rcases List.mem_cons.mp hy with rfl | hy
                  · rcases List.mem_cons.mp hz with rfl | hz
                    · rfl
                    · exact absurd (List.mem_map.mpr ⟨z, hz, e.symm⟩) hn.1
                  · rcases List.mem_cons.mp hz with ez | hz
                    · exact absurd (List.mem_map.mpr ⟨y, hy, by rw [e, ez]⟩) hn.1
                    · exact ih hn.2 y hy z hz e
              rw [aux _ hn z hz _ hm e]
      have S5 := S4.chg (s := .dls (addD kvs k d)) (l := own' i) (st' := st) (H' := upd H4 a (.lst (vs ++ [w]))) (x := st.getD i none) (by rw [List.length_set]; exact hid) keep new rfl (fun _ _ => rfl)
        ⟨pp, kas2, by rw [a1]; exact hoi, e2, by rw [← hfin, List.map_map]; exact List.map_congr_left fun y _ => by show ((if y.1 = k then (y.1, y.2.1, y.2.2 ++ [d]) else y).1, (if y.1 = k then (y.1, y.2.1, y.2.2 ++ [d]) else y).2.2) = _; split <;> rfl, A5⟩
      rw [List.set_set] at S5
      exact ⟨_, _, S5, q⟩
  have A0 : DlsAt X.w X.K (reg own F H0) H0 pp kas := A.up (reg_up (s1.trans s0)) fun a o _ q => s0 _ _ (s1 _ _ q)
  obtain ⟨o0, ho0, En0⟩ := A0.dic
  refine ⟨b, pp, l, k, reg own F H0, kas, o0, rfl, rfl, reg_sub.trans sl, by rw [hkd]; exact Dp.up r1 (reg_up s0), hdp, A.ns, sl _ _ ho0, En0, by rw [hkl]; exact hz, fun y hy ey => ?_, fun hn ob' E' => ?_⟩
  · -- the key is there
    have Sx : SE X Kp F (dl.set i (.dls (kas.map fun y => (y.1, y.2.2)))) (ownS own i (own i)) (upd H0 l (.lst [])) st := by
      refine S2.chg hid (fun _ _ _ q => q) (fun a h => .inl h) rfl (fun _ _ => rfl) ⟨pp, kas, e1, e2, rfl, ?_⟩
      exact A2.up (S2.regS (i := i) (fun _ _ _ q => q) fun a h => .inl h) fun a o _ q => q
    have es : (k, y.2.1, y.2.2) = y := by obtain ⟨y1, y2, y3⟩ := y; simp only at ey; rw [ey]
    refine main kas (ownS own i (own i)) _ y.2.1 y.2.2 (fun j hj => ownS_ne hj) (by rw [ownS_same]; exact e1) Sx (A2.up (S2.regS (i := i) (fun _ _ _ q => q) fun a h => .inl h) fun a o _ q => q) (by rw [es]; exact hy) ?_ ?_
    · exact hz2 (y.1, y.2.2) (by rw [← e3]; exact List.mem_map.mpr ⟨y, hy, rfl⟩)
    · unfold addD
      have : kvs.any (fun x => decide (x.1 = k)) = true := by
        rw [List.any_eq_true]
        exact ⟨(y.1, y.2.2), by rw [← e3]; exact List.mem_map.mpr ⟨y, hy, rfl⟩, by simp [ey]⟩
      rw [if_pos this, ← e3, List.map_map]
      rfl
  · -- a new key
    have hll : l ∉ own i := hlo i
    have lpp : l ≠ pp := fun z => hll (by rw [z]; exact hpp)
    let H3 := upd (upd H0 l (.lst [])) pp (DicO pp ob')
    have keep : ∀ c u, c ∉ own i → H0 c = some u → H3 c = some u := fun c u hc q => by
      show upd (upd H0 l (.lst [])) pp (DicO pp ob') c = some u
      rw [upd_ne (show c ≠ pp from fun z => hc (by rw [z]; exact hpp))]
      exact sl _ _ q
    have new : ∀ c ∈ own i ++ [l], c ∈ own i ∨ H0 c = none := fun c h => by
      rcases List.mem_append.mp h with h | h
      · exact .inl h
      · rw [List.mem_singleton.mp h]; exact .inr hl0
    have eown : own i ++ [l] = pp :: (kas ++ [(k, l, ([] : List PyData))]).map (·.2.1) := by rw [e1, List.map_append]; rfl
    have sr := S0.regS (i := i) (H' := H3) keep new
    have A3 : DlsAt X.w X.K (reg (ownS own i (own i ++ [l])) F H3) H3 pp (kas ++ [(k, l, [])]) := by
      refine ⟨A.ns, ?_, ⟨ob', upd_same, ?_⟩, fun y hy => ?_⟩
      · rw [← eown, List.nodup_append]
        refine ⟨by rw [e1]; exact A.nd, by simp, fun a ha b hb => ?_⟩
        rw [List.mem_singleton.mp hb]
        exact fun z => hll (z ▸ ha)
      · exact E'.up sr
      · rcases List.mem_append.mp hy with hy | hy
        · obtain ⟨vs, g1, g2⟩ := A.ls y hy
          refine ⟨vs, ?_, g2.up ((reg_up (s1.trans s0)).trans sr)⟩
          show upd (upd H0 l (.lst [])) pp (DicO pp ob') y.2.1 = _
          have nd := A.nd
          rw [List.nodup_cons] at nd
          rw [upd_ne (show y.2.1 ≠ pp from fun z => nd.1 (by rw [← z]; exact List.mem_map.mpr ⟨y, hy, rfl⟩))]
          exact sl _ _ (s0 _ _ (s1 _ _ g1))
        · rw [List.mem_singleton.mp hy]
          refine ⟨[], ?_, .nil⟩
          show upd (upd H0 l (.lst [])) pp (DicO pp ob') l = _
          rw [upd_ne lpp, upd_same]
    have S3 : SE X Kp F (dl.set i (.dls ((kas ++ [(k, l, ([] : List PyData))]).map fun y => (y.1, y.2.2)))) (ownS own i (own i ++ [l])) H3 st :=
      S0.chg hid keep new rfl (fun _ _ => rfl) ⟨pp, _, eown, e2, rfl, A3⟩
    refine main _ _ H3 l [] (fun j hj => ownS_ne hj) (by rw [ownS_same]; exact eown) S3 A3 (by simp) (by simp) ?_
    unfold addD
    have : ¬ kvs.any (fun x => decide (x.1 = k)) = true := by
      rw [List.any_eq_true]
      rintro ⟨z, hz, ez⟩
      rw [← e3] at hz
      obtain ⟨y, hy, rfl⟩ := List.mem_map.mp hz
      exact hn y hy (by simpa using ez)
    rw [if_neg this, List.map_append]
    congr 1
    · rw [← e3]
      refine List.map_congr_left fun y hy => ?_
      rw [if_neg (hn y hy)]
    · show [if k = k then (k, [] ++ [d]) else (k, [])] = [(k, [d])]
      rw [if_pos rfl]; rfl
/-- the dict of lists becomes a value that stands -/
theorem sw_dlsT {ss : List Stmt} (i : Nat) {kvs : List (NestedKey × List PyData)} (hd : dl.getD i .no = .dls kvs) (h : SW X ss D (dl.set i (.t (.dic (kvs.map fun x => (x.1, .list x.2)))))) : SW X ss D dl := fun Kp F own H st S => by
  have ok := S.sl i
  rw [hd] at ok
  obtain ⟨p, kas, e1, e2, e3, A⟩ := ok
  refine h Kp F _ H st (S.share (getD_lt hd (by intro z; cases z)) e2 fun G g1 g2 => ?_)
  have A' : DlsAt X.w X.K G G p kas := A.up g1 fun a o ha q => g2 a o (by rw [e1]; exact ha) q
  obtain ⟨o, ho, En⟩ := A'.dic
  refine ⟨_, rfl, p, o, rfl, A.ns, ho, En.ex, ?_, ?_, ?_⟩
  · rw [← e3, List.map_map, List.map_map]
    exact En.nd
  · rw [← e3, List.length_map, List.length_map]; exact En.sz
  · obtain ⟨es, ep, g3, g4⟩ := En.es
    refine ⟨es, ep, g3, ?_⟩
    rw [← e3, List.map_map]
    have aux : ∀ {l : List (NestedKey × Addr × List PyData)} {es : List DictEntry}, Paired (EntL X.w X.K G) l es → (∀ x ∈ l, ∃ vs, G x.2.1 = some (.lst vs) ∧ DpAll X.K G vs x.2.2) → Paired (EntI X.w X.K G) (l.map ((fun x => (x.1, PyData.list x.2)) ∘ fun y => (y.1, y.2.2))) es := by
      intro l es P
      induction P with
      | nil => intro _; exact .nil
      | @cons y e l es q t ih =>
        intro hl
        obtain ⟨b, k1, k2, k3, k4, k5⟩ := q
        obtain ⟨vs, k6, k7⟩ := hl y List.mem_cons_self
        exact .cons ⟨b, .ref y.2.1, k1, k2, k3, k4, by rw [k5]; rfl, .lst (SqL.of k6) k7⟩ (ih fun x hx => hl x (List.mem_cons_of_mem _ hx))
    exact aux g4 A'.ls
end
end Ac
-- part M1
set_option maxHeartbeats 4000000
set_option Elab.async false
set_option maxRecDepth 100000
set_option linter.all false
/-! Ac: the program's things, typed; how they are told as data. -/
namespace Ac
open PySem PySem.Spec PyProof.Rows L2
abbrev Pin := Int × Int
abbrev Sw := Pin × Pin
abbrev Way := List Sw
inductive Ask where
  | fin (s : Sw)
  | want (p : Pin)
  deriving DecidableEq
def pPin (p : Pin) : PyData := .tuple [.int p.1, .int p.2]
def pSw (s : Sw) : PyData := .tuple [pPin s.1, pPin s.2]
def pWay (w : Way) : PyData := .tuple (w.map pSw)
def pAsk : Ask → PyData
  | .fin s => .tuple [.str "end", pSw s]
  | .want p => .tuple [.str "want", pPin p]
/-! ### == -/
theorem eqv_int (i j : Int) : PyData.eqv (.int i) (.int j) = decide (i = j) := by
  simp [PyData.eqv]
  by_cases h : i = j <;> simp [h]
theorem eqv_str (i j : Str) : PyData.eqv (.str i) (.str j) = decide (i = j) := by
  simp [PyData.eqv]
  by_cases h : i = j <;> simp [h]
theorem eqv_pin (p q : Pin) : PyData.eqv (pPin p) (pPin q) = decide (p = q) := by
  unfold pPin
  rw [PyData.eqv, PyData.eqvAll, PyData.eqvAll, PyData.eqvAll, eqv_int, eqv_int]
  by_cases h1 : p.1 = q.1 <;> by_cases h2 : p.2 = q.2 <;> simp [h1, h2, Prod.ext_iff]
theorem eqv_sw (p q : Sw) : PyData.eqv (pSw p) (pSw q) = decide (p = q) := by
  unfold pSw
  rw [PyData.eqv, PyData.eqvAll, PyData.eqvAll, PyData.eqvAll, eqv_pin, eqv_pin]
  by_cases h1 : p.1 = q.1 <;> by_cases h2 : p.2 = q.2 <;> simp [h1, h2, Prod.ext_iff]
theorem eqvAll_map {α : Type} [DecidableEq α] {f : α → PyData} (h : ∀ a b, PyData.eqv (f a) (f b) = decide (a = b)) : ∀ xs ys : List α, PyData.eqvAll (xs.map f) (ys.map f) = decide (xs = ys)
  | [], [] => by simp [PyData.eqvAll]
  | [], y :: ys => by simp [PyData.eqvAll]
  | x :: xs, [] => by simp [PyData.eqvAll]
  | x :: xs, y :: ys => by
    rw [List.map_cons, List.map_cons, PyData.eqvAll, h, eqvAll_map h xs ys]
    by_cases h1 : x = y <;> by_cases h2 : xs = ys <;> simp [h1, h2]
theorem eqv_way (p q : Way) : PyData.eqv (pWay p) (pWay q) = decide (p = q) := by
  unfold pWay
  rw [PyData.eqv]
  exact eqvAll_map eqv_sw p q
theorem eqv_tupI (p q : List Int) : PyData.eqv (tupI p) (tupI q) = decide (p = q) := by
  unfold tupI
  rw [PyData.eqv]
  exact eqvAll_map eqv_int p q
theorem eqv_listOf {α : Type} [DecidableEq α] {f : α → PyData} (h : ∀ a b, PyData.eqv (f a) (f b) = decide (a = b)) (xs ys : List α) : PyData.eqv (.list (xs.map f)) (.list (ys.map f)) = decide (xs = ys) := by
  rw [PyData.eqv]
  exact eqvAll_map h xs ys
theorem eqv_tupOf {α : Type} [DecidableEq α] {f : α → PyData} (h : ∀ a b, PyData.eqv (f a) (f b) = decide (a = b)) (xs ys : List α) : PyData.eqv (.tuple (xs.map f)) (.tuple (ys.map f)) = decide (xs = ys) := by
  rw [PyData.eqv]
  exact eqvAll_map h xs ys
/-- whether x stands in xs -/
def mem {α : Type} [DecidableEq α] (x : α) (xs : List α) : Bool := xs.any fun y => decide (y = x)
theorem mem_iff {α : Type} [DecidableEq α] {x : α} {xs : List α} : mem x xs = true ↔ x ∈ xs := by
  unfold mem
  rw [List.any_eq_true]
  exact ⟨fun ⟨y, h1, h2⟩ => by have := of_decide_eq_true h2; subst this; exact h1, fun h => ⟨x, h, decide_eq_true rfl⟩⟩
theorem mem_no {α : Type} [DecidableEq α] {x : α} {xs : List α} : mem x xs = false ↔ x ∉ xs := by
  rw [← mem_iff]
  cases mem x xs <;> simp
theorem any_eqv {α : Type} [DecidableEq α] {f : α → PyData} (h : ∀ a b, PyData.eqv (f a) (f b) = decide (a = b)) (xs : List α) (x : α) : ((xs.map f).any fun z => PyData.eqv z (f x)) = mem x xs := by
  unfold mem
  rw [List.any_map]
  refine congrArg (fun p => List.any xs p) (funext fun y => ?_)
  exact h y x
/-- how often x stands in xs -/
def cnt {α : Type} [DecidableEq α] (xs : List α) (x : α) : Int := ((xs.countP fun y => decide (y = x) : Nat) : Int)
theorem count_eqv {α : Type} [DecidableEq α] {f : α → PyData} (h : ∀ a b, PyData.eqv (f a) (f b) = decide (a = b)) (xs : List α) (x : α) : (((xs.map f).countP fun z => PyData.eqv z (f x) : Nat) : Int) = cnt xs x := by
  unfold cnt
  rw [List.countP_map]
  congr 1
  refine congrArg (fun p => List.countP p xs) (funext fun y => ?_)
  exact h y x
/-! ### what may be laid -/
/-- no dict inside, at most n deep -/
def Lay (n : Nat) (d : PyData) : Prop := d.canLay0 = true ∧ d.depth ≤ n
theorem layAll {n : Nat} : ∀ {ds : List PyData}, (∀ d ∈ ds, Lay n d) → PyData.canLayAll0 ds = true ∧ PyData.depthAll ds ≤ n
  | [], _ => ⟨by simp [PyData.canLayAll0], by simp [PyData.depthAll]⟩
  | d :: ds, h => by
    obtain ⟨h1, h2⟩ := layAll fun x hx => h x (List.mem_cons_of_mem _ hx)
    obtain ⟨h3, h4⟩ := h d List.mem_cons_self
    refine ⟨by rw [PyData.canLayAll0, h1, h3]; rfl, ?_⟩
    rw [PyData.depthAll]
    omega
theorem lay_int (i : Int) : Lay 0 (.int i) := ⟨by simp [PyData.canLay0], by simp [PyData.depth]⟩
theorem lay_bool (i : Bool) : Lay 0 (.bool i) := ⟨by simp [PyData.canLay0], by simp [PyData.depth]⟩
theorem lay_none : Lay 0 .none := ⟨by simp [PyData.canLay0], by simp [PyData.depth]⟩
theorem lay_str (x : Str) (h : PyData.canLay0 (.str x) = true) : Lay 0 (.str x) := ⟨h, by simp [PyData.depth]⟩
theorem Lay.mono {n m : Nat} {d : PyData} (h : Lay n d) (e : n ≤ m) : Lay m d := ⟨h.1, Nat.le_trans h.2 e⟩
theorem lay_tup {n : Nat} {ds : List PyData} (h : ∀ d ∈ ds, Lay n d) : Lay (n + 1) (.tuple ds) := by
  obtain ⟨h1, h2⟩ := layAll h
  exact ⟨by rw [PyData.canLay0]; exact h1, by rw [PyData.depth]; omega⟩
theorem lay_lst {n : Nat} {ds : List PyData} (h : ∀ d ∈ ds, Lay n d) : Lay (n + 1) (.list ds) := by
  obtain ⟨h1, h2⟩ := layAll h
  exact ⟨by rw [PyData.canLay0]; exact h1, by rw [PyData.depth]; omega⟩
theorem lay_map {α : Type} {n : Nat} {f : α → PyData} (h : ∀ a, Lay n (f a)) (xs : List α) : ∀ d ∈ xs.map f, Lay n d := fun d hd => by
  obtain ⟨a, _, rfl⟩ := List.mem_map.mp hd
  exact h a
theorem lay_pin (p : Pin) : Lay 1 (pPin p) := lay_tup fun d hd => by
  simp only [List.mem_cons, List.not_mem_nil, or_false] at hd
  rcases hd with rfl | rfl <;> exact lay_int _
theorem lay_sw (p : Sw) : Lay 2 (pSw p) := lay_tup fun d hd => by
  simp only [List.mem_cons, List.not_mem_nil, or_false] at hd
  rcases hd with rfl | rfl <;> exact lay_pin _
theorem lay_way (p : Way) : Lay 3 (pWay p) := lay_tup (lay_map lay_sw p)
theorem lay_tupI (p : List Int) : Lay 1 (tupI p) := lay_tup (lay_map lay_int p)
theorem lay_ask (a : Ask) : Lay 3 (pAsk a) := by
  cases a with
  | fin s =>
    refine lay_tup fun d hd => ?_
    simp only [List.mem_cons, List.not_mem_nil, or_false] at hd
    rcases hd with rfl | rfl
    · exact (lay_str _ (by decide +kernel)).mono (by omega)
    · exact lay_sw s
  | want p =>
    refine (lay_tup (n := 1) fun d hd => ?_).mono (by omega)
    simp only [List.mem_cons, List.not_mem_nil, or_false] at hd
    rcases hd with rfl | rfl
    · exact (lay_str _ (by decide +kernel)).mono (by omega)
    · exact lay_pin p
theorem Lay.sh {n : Nat} {d : PyData} (h : Lay n d) (e : n ≤ 64) : SeqAt.shaped d = true := by
  unfold SeqAt.shaped
  rw [h.1, Bool.true_and]
  exact decide_eq_true (Nat.le_trans h.2 e)
/-! ### as keys -/
def kPin (p : Pin) : NestedKey := .tup [.num p.1, .num p.2]
def kSw (s : Sw) : NestedKey := .tup [kPin s.1, kPin s.2]
def kWay (w : Way) : NestedKey := .tup (w.map kSw)
def kLoad (l : List Int) : NestedKey := .tup (l.map .num)
def kWP (x : Way × Pin) : NestedKey := .tup [kWay x.1, kPin x.2]
theorem datas_map {α : Type} {f : α → NestedKey} {g : α → PyData} (h : ∀ a, (f a).data = g a) : ∀ xs : List α, NestedKey.datas (xs.map f) = xs.map g
  | [] => by simp [NestedKey.datas]
  | x :: xs => by rw [List.map_cons, List.map_cons, NestedKey.datas, h, datas_map h xs]
theorem kPin_data (p : Pin) : (kPin p).data = pPin p := by simp [kPin, pPin, NestedKey.data, NestedKey.datas]
theorem kSw_data (p : Sw) : (kSw p).data = pSw p := by simp [kSw, pSw, NestedKey.data, NestedKey.datas, kPin_data]
theorem kWay_data (p : Way) : (kWay p).data = pWay p := by
  unfold kWay pWay
  rw [NestedKey.data, datas_map kSw_data]
theorem kLoad_data (p : List Int) : (kLoad p).data = tupI p := by
  unfold kLoad tupI
  rw [NestedKey.data, datas_map (g := .int) (fun a => by rw [NestedKey.data])]
def pWP (x : Way × Pin) : PyData := .tuple [pWay x.1, pPin x.2]
theorem kWP_data (p : Way × Pin) : (kWP p).data = pWP p := by simp [kWP, pWP, NestedKey.data, NestedKey.datas, kPin_data, kWay_data]
theorem depthAll_map {α : Type} {f : α → NestedKey} {n : Nat} (h : ∀ a, (f a).depth ≤ n) : ∀ xs : List α, NestedKey.depthAll (xs.map f) ≤ n
  | [] => by simp [NestedKey.depthAll]
  | x :: xs => by
    have := h x
    have := depthAll_map h xs
    rw [List.map_cons, NestedKey.depthAll]
    omega
theorem kPin_depth (p : Pin) : (kPin p).depth ≤ 1 := by simp [kPin, NestedKey.depth, NestedKey.depthAll]
theorem kSw_depth (p : Sw) : (kSw p).depth ≤ 2 := by
  have := kPin_depth p.1
  have := kPin_depth p.2
  unfold kSw
  rw [NestedKey.depth, NestedKey.depthAll, NestedKey.depthAll, NestedKey.depthAll]
  omega
theorem kWay_depth (p : Way) : (kWay p).depth ≤ 3 := by
  have := depthAll_map kSw_depth p
  unfold kWay
  rw [NestedKey.depth]
  omega
theorem kLoad_depth (p : List Int) : (kLoad p).depth ≤ 1 := by
  have := depthAll_map (n := 0) (f := NestedKey.num) (fun a => by simp [NestedKey.depth]) p
  unfold kLoad
  rw [NestedKey.depth]
  omega
theorem kWP_depth (p : Way × Pin) : (kWP p).depth ≤ 4 := by
  have := kPin_depth p.2
  have := kWay_depth p.1
  unfold kWP
  rw [NestedKey.depth, NestedKey.depthAll, NestedKey.depthAll, NestedKey.depthAll]
  omega
theorem kPin_inj {p q : Pin} (h : kPin p = kPin q) : p = q := by
  unfold kPin at h
  injection h with h
  injection h with h1 h
  injection h with h2 _
  injection h1 with h1
  injection h2 with h2
  exact Prod.ext h1 h2
theorem kSw_inj {p q : Sw} (h : kSw p = kSw q) : p = q := by
  unfold kSw at h
  injection h with h
  injection h with h1 h
  injection h with h2 _
  exact Prod.ext (kPin_inj h1) (kPin_inj h2)
theorem map_inj {α β : Type} {f : α → β} (h : ∀ a b, f a = f b → a = b) : ∀ {xs ys : List α}, xs.map f = ys.map f → xs = ys
  | [], [], _ => rfl
  | [], _ :: _, e => by simp at e
  | _ :: _, [], e => by simp at e
  | x :: xs, y :: ys, e => by
    rw [List.map_cons, List.map_cons] at e
    injection e with e1 e2
    rw [h _ _ e1, map_inj h e2]
theorem kWay_inj {p q : Way} (h : kWay p = kWay q) : p = q := by
  unfold kWay at h
  injection h with h
  exact map_inj (fun _ _ => kSw_inj) h
theorem kLoad_inj {p q : List Int} (h : kLoad p = kLoad q) : p = q := by
  unfold kLoad at h
  injection h with h
  exact map_inj (fun _ _ e => by injection e) h
theorem kWP_inj {p q : Way × Pin} (h : kWP p = kWP q) : p = q := by
  unfold kWP at h
  injection h with h
  injection h with h1 h
  injection h with h2 _
  exact Prod.ext (kWay_inj h1) (kPin_inj h2)
/-! ### dicts with typed keys -/
/-- a dict by its typed entries -/
def dk {α β : Type} (k : α → NestedKey) (f : β → PyData) (l : List (α × β)) : List (NestedKey × PyData) := l.map fun x => (k x.1, f x.2)
def look {α β : Type} [DecidableEq α] (l : List (α × β)) (a : α) : Option β := (l.find? fun x => decide (x.1 = a)).map (·.2)
def put {α β : Type} [DecidableEq α] (l : List (α × β)) (a : α) (b : β) : List (α × β) := if (look l a).isSome then l.map fun x => if x.1 = a then (x.1, b) else x else l ++ [(a, b)]
section
variable {α β : Type} [DecidableEq α] {k : α → NestedKey} {f : β → PyData} (hk : ∀ a b, k a = k b → a = b)
include hk
theorem lk_dk (l : List (α × β)) (a : α) : lk (dk k f l) (k a) = (look l a).map f := by
  unfold lk dk look
  induction l with
  | nil => rfl
  | cons x xs ih =>
    rw [List.map_cons, List.find?_cons, List.find?_cons]
    by_cases h : x.1 = a
    · subst h; simp
    · have h' : ¬ k x.1 = k a := fun e => h (hk _ _ e)
      simp only [h, h', decide_false]
      exact ih
theorem putD_dk (l : List (α × β)) (a : α) (b : β) : putD (dk k f l) (k a) (f b) = dk k f (put l a b) := by
  unfold putD put
  rw [lk_dk hk, Option.isSome_map]
  split
  · unfold dk
    rw [List.map_map, List.map_map]
    refine List.map_congr_left fun x _ => ?_
    show (if k x.1 = k a then (k x.1, f b) else (k x.1, f x.2)) = (k (if x.1 = a then (x.1, b) else x).1, f (if x.1 = a then (x.1, b) else x).2)
    by_cases h : x.1 = a
    · rw [if_pos h, if_pos (by rw [h])]
    · rw [if_neg h, if_neg (fun e => h (hk _ _ e))]
  · unfold dk
    rw [List.map_append]
    rfl
end
end Ac
-- part M2
set_option maxHeartbeats 4000000
set_option Elab.async false
set_option maxRecDepth 100000
set_option linter.all false
/-! Ac: shorter forms of the rules. -/
namespace Ac
open PySem PySem.Spec PyProof.Rows L2
theorem _root_.L2.Room.u65 {k : Nat} {A : Around} (r : Room k A) : A.units + 65 < cLine := by have := r.un; omega
section
variable {X : Cx} {e a b c : Expr} {es : List Expr} {dl dl' : List Sl} {t u r : T} {pos p : Pos} {D : DK}
theorem o_eqI {i j : Int} {A : Around} (hu : A.units + 64 < cLine) (hA : X.A = A := by rfl) : OpD X (compareOp .Eq) (.p (.int i)) (.p (.int j)) (.p (.bool (decide (i = j)))) := by
  subst hA
  have := o_eq (X := X) hu ((lay_int i).sh (by omega)) ((lay_int j).sh (by omega))
  rwa [eqv_int] at this
theorem o_neI {i j : Int} {A : Around} (hu : A.units + 64 < cLine) (hA : X.A = A := by rfl) : OpD X (compareOp .NotEq) (.p (.int i)) (.p (.int j)) (.p (.bool (!decide (i = j)))) := by
  subst hA
  have := o_ne (X := X) hu ((lay_int i).sh (by omega)) ((lay_int j).sh (by omega))
  rwa [eqv_int] at this
theorem o_eqS {i j : Str} {A : Around} (hu : A.units + 64 < cLine) (hi : PyData.canLay0 (.str i) = true) (hj : PyData.canLay0 (.str j) = true) (hA : X.A = A := by rfl) : OpD X (compareOp .Eq) (.p (.str i)) (.p (.str j)) (.p (.bool (decide (i = j)))) := by
  subst hA
  have := o_eq (X := X) hu ((lay_str i hi).sh (by omega)) ((lay_str j hj).sh (by omega))
  rwa [eqv_str] at this
theorem o_neS {i j : Str} {A : Around} (hu : A.units + 64 < cLine) (hi : PyData.canLay0 (.str i) = true) (hj : PyData.canLay0 (.str j) = true) (hA : X.A = A := by rfl) : OpD X (compareOp .NotEq) (.p (.str i)) (.p (.str j)) (.p (.bool (!decide (i = j)))) := by
  subst hA
  have := o_ne (X := X) hu ((lay_str i hi).sh (by omega)) ((lay_str j hj).sh (by omega))
  rwa [eqv_str] at this
/-- == of typed things -/
theorem o_eqD {α : Type} [DecidableEq α] {f : α → PyData} {n : Nat} (h : ∀ a b, PyData.eqv (f a) (f b) = decide (a = b)) (l : ∀ a, Lay n (f a)) (hn : n ≤ 60) {A : Around} (hu : A.units + 64 < cLine) {x y : α} (hA : X.A = A := by rfl) : OpD X (compareOp .Eq) (.p (f x)) (.p (f y)) (.p (.bool (decide (x = y)))) := by
  subst hA
  have := o_eq (X := X) hu ((l x).sh (by omega)) ((l y).sh (by omega))
  rwa [h] at this
theorem o_neD {α : Type} [DecidableEq α] {f : α → PyData} {n : Nat} (h : ∀ a b, PyData.eqv (f a) (f b) = decide (a = b)) (l : ∀ a, Lay n (f a)) (hn : n ≤ 60) {A : Around} (hu : A.units + 64 < cLine) {x y : α} (hA : X.A = A := by rfl) : OpD X (compareOp .NotEq) (.p (f x)) (.p (f y)) (.p (.bool (!decide (x = y)))) := by
  subst hA
  have := o_ne (X := X) hu ((l x).sh (by omega)) ((l y).sh (by omega))
  rwa [h] at this
theorem o_inD {α : Type} [DecidableEq α] {f : α → PyData} {n : Nat} (h : ∀ a b, PyData.eqv (f a) (f b) = decide (a = b)) (l : ∀ a, Lay n (f a)) (hn : n ≤ 60) {A : Around} (hu : A.units + 65 < cLine) {x : α} {xs : List α} (hA : X.A = A := by rfl) : OpD X (compareOp .In) (.p (f x)) (.p (.list (xs.map f))) (.p (.bool (mem x xs))) := by
  subst hA
  have := o_in (X := X) hu ((l x).sh (by omega)) ((lay_lst (lay_map l xs)).sh (by omega))
  rwa [any_eqv h] at this
theorem o_ninD {α : Type} [DecidableEq α] {f : α → PyData} {n : Nat} (h : ∀ a b, PyData.eqv (f a) (f b) = decide (a = b)) (l : ∀ a, Lay n (f a)) (hn : n ≤ 60) {A : Around} (hu : A.units + 65 < cLine) {x : α} {xs : List α} (hA : X.A = A := by rfl) : OpD X (compareOp .NotIn) (.p (f x)) (.p (.list (xs.map f))) (.p (.bool (!mem x xs))) := by
  subst hA
  have := o_nin (X := X) hu ((l x).sh (by omega)) ((lay_lst (lay_map l xs)).sh (by omega))
  rwa [any_eqv h] at this
theorem o_inUD {α : Type} [DecidableEq α] {f : α → PyData} {n : Nat} (h : ∀ a b, PyData.eqv (f a) (f b) = decide (a = b)) (l : ∀ a, Lay n (f a)) (hn : n ≤ 60) {A : Around} (hu : A.units + 65 < cLine) {x : α} {xs : List α} (hA : X.A = A := by rfl) : OpD X (compareOp .In) (.p (f x)) (.p (.tuple (xs.map f))) (.p (.bool (mem x xs))) := by
  subst hA
  have := o_inU (X := X) hu ((l x).sh (by omega)) ((lay_tup (lay_map l xs)).sh (by omega))
  rwa [any_eqv h] at this
theorem o_ninUD {α : Type} [DecidableEq α] {f : α → PyData} {n : Nat} (h : ∀ a b, PyData.eqv (f a) (f b) = decide (a = b)) (l : ∀ a, Lay n (f a)) (hn : n ≤ 60) {A : Around} (hu : A.units + 65 < cLine) {x : α} {xs : List α} (hA : X.A = A := by rfl) : OpD X (compareOp .NotIn) (.p (f x)) (.p (.tuple (xs.map f))) (.p (.bool (!mem x xs))) := by
  subst hA
  have := o_ninU (X := X) hu ((l x).sh (by omega)) ((lay_tup (lay_map l xs)).sh (by omega))
  rwa [any_eqv h] at this
/-- k in a dict of typed keys -/
theorem o_inK {α β : Type} [DecidableEq α] {k : α → NestedKey} {f : β → PyData} {g : α → PyData} (hk : ∀ a b, k a = k b → a = b) (hd : ∀ a, (k a).data = g a) (hg : ∀ a, ∃ ds, g a = .tuple ds) (hp : ∀ a, (k a).depth ≤ 8) {A : Around} (hu : A.units + 64 < cLine) {x : α} {l : List (α × β)} (hA : X.A = A := by rfl) :
    OpD X (compareOp .In) (.p (g x)) (.dic (dk k f l)) (.p (.bool (look l x).isSome)) := by
  subst hA
  obtain ⟨ds, e⟩ := hg x
  have := o_inN (X := X) (ds := ds) (kvs := dk k f l) (k x) hu ((hd x).trans e) (hp x)
  rwa [lk_dk hk, Option.isSome_map, ← e] at this
theorem o_ninK {α β : Type} [DecidableEq α] {k : α → NestedKey} {f : β → PyData} {g : α → PyData} (hk : ∀ a b, k a = k b → a = b) (hd : ∀ a, (k a).data = g a) (hg : ∀ a, ∃ ds, g a = .tuple ds) (hp : ∀ a, (k a).depth ≤ 8) {A : Around} (hu : A.units + 64 < cLine) {x : α} {l : List (α × β)} (hA : X.A = A := by rfl) :
    OpD X (compareOp .NotIn) (.p (g x)) (.dic (dk k f l)) (.p (.bool (!(look l x).isSome))) := by
  subst hA
  obtain ⟨ds, e⟩ := hg x
  have := o_ninN (X := X) (ds := ds) (kvs := dk k f l) (k x) hu ((hd x).trans e) (hp x)
  rwa [lk_dk hk, Option.isSome_map, ← e] at this
/-- a def of the module -/
theorem d_cl {I : Type} {arg : I → List T} {ok : I → Prop} {res : I → T} {x : Str} {k k' : Nat} {P : Program} {w : World} {K : PySem.W.Frag} {mg : Str → Option Value} {base : Heap} {A : Around} (G : Fn P w K mg base x k arg ok res) (hr : Room k' A) (i : I) (ha : DA X (e :: es) dl (arg i)) (hok : ok i)
    (hk : k ≤ k' := by decide) (hP : X.prog = P := by rfl) (hw : X.w = w := by rfl) (hK : X.K = K := by rfl) (hm : X.mg = mg := by rfl) (hb : X.base = base := by rfl) (hA : X.A = A := by rfl) (hg : Gl X x := by rfl) (hdb : (x == ("__debug__" : Str)) = false := by decide)
    (he : starEach (e :: es) X.env = (false, eval e X.env) :: starEach es X.env := by rfl) (hpl : (backTo pos (starEach es X.env)).any (·.1) = false := by rfl) : DE X (.Call (.Name x p) (e :: es) [] pos) dl (res i) := by
  subst hP hw hK hm hb hA
  exact d_call G (hr.mono hk) i ha hok hg hdb he hpl
theorem d_cnt {α : Type} [DecidableEq α] {f : α → PyData} {n : Nat} (h : ∀ a b, PyData.eqv (f a) (f b) = decide (a = b)) (l : ∀ a, Lay n (f a)) (hn : n ≤ 30) (hal : ∀ a b, PySem.W.alike (f a) (f b) = true) {o ke : Expr} {apos : Pos} {xs : List α} {x : α} {A : Around} (hu : A.units + 64 < cLine) (ho : DE X o dl (.p (.list (xs.map f)))) (hk : DE X ke dl (.p (f x)))
    (hA : X.A = A := by rfl) (hh : ∀ (r : V → List V → Hp → VK → Prop) (to : TE) (t : TA), MtR X "list.count" r → PE X o to → PA X [ke] t → PE X (.Call (.Attribute o "count" apos) [ke] [] p) (tBM X.K "list" r to t) := by intro r to t h1 h2 h3; exact pe_bm PySem.F.plainAttrs_list PySem.F.slot_list_count PySem.F.type_list_count h1 h2 h3)
    (hs : starEach [ke] X.env = (false, eval ke X.env) :: starEach [] X.env := by rfl) : DE X (.Call (.Attribute o "count" apos) [ke] [] p) dl (.p (.int (cnt xs x))) := by
  subst hA
  have := d_count (p := p) (d := f x) hu ho hk (fun a ha b hb => by
    rw [← List.map_cons] at ha hb
    obtain ⟨a', _, rfl⟩ := List.mem_map.mp ha
    obtain ⟨b', _, rfl⟩ := List.mem_map.mp hb
    exact hal a' b') (fun z hz => by
    rw [← List.map_cons] at hz
    obtain ⟨a', _, rfl⟩ := List.mem_map.mp hz
    have := (l a').2
    omega) hh hs
  rwa [count_eqv h] at this
/-- d[k], typed keys -/
theorem d_ixK {α β : Type} [DecidableEq α] {k : α → NestedKey} {f : β → PyData} {g : α → PyData} (hk : ∀ a b, k a = k b → a = b) (hd : ∀ a, (k a).data = g a) (hg : ∀ a, ∃ ds, g a = .tuple ds) (hp : ∀ a, (k a).depth ≤ 8) {A : Around} (hu : A.units + 64 < cLine) {x : α} {y : β} {l : List (α × β)} (ha : DB X a dl (.dic (dk k f l))) (hb : DE X b dl (.p (g x))) (hl : look l x = some y)
    (hA : X.A = A := by rfl) (hs : NoSl b := by intro _ _; rfl) : DE X (.Subscript a b pos) dl (.p (f y)) := by
  subst hA
  obtain ⟨ds, e⟩ := hg x
  rw [e] at hb
  exact d_ixN (k x) hu ha hb ((hd x).trans e) (hp x) (by rw [lk_dk hk, hl]; rfl) hs
/-- a block's own names -/
def blkB (N : List Str) (sc scope : Scope) (own : List (Str × Nat)) : Bool :=
  decide (scope.kind = .function) && scope.names.all (fun y => decide (scope.names.lookup y.1 = some y.2)) && own.all (fun p => decide (N[p.2]? = some p.1)) &&
  scope.names.all (fun y => !decide (y.2 = .free) || decide (sc.names.lookup y.1 = some .cell) || decide (sc.names.lookup y.1 = some .free)) &&
  scope.names.all (fun y => !(decide (y.2 = .local) || decide (y.2 = .cell)) || decide (y.1 ∈ own.map (·.1)) || decide (y.1 ∉ N))
theorem blk_of {N : List Str} {sc scope : Scope} {own : List (Str × Nat)} (h : blkB N sc scope own = true) : BlkOk N sc scope own := by
  unfold blkB at h
  rw [Bool.and_eq_true, Bool.and_eq_true, Bool.and_eq_true, Bool.and_eq_true] at h
  obtain ⟨⟨⟨⟨h1, h2⟩, h3⟩, h4⟩, h5⟩ := h
  refine ⟨of_decide_eq_true h1, fun y hy => of_decide_eq_true (List.all_eq_true.mp h2 y hy), fun p hp => of_decide_eq_true (List.all_eq_true.mp h3 p hp), fun y hy e => ?_, fun y hy e => ?_⟩
  · have := List.all_eq_true.mp h4 y hy
    simp only [e, decide_true, Bool.not_true, Bool.false_or, Bool.or_eq_true, decide_eq_true_eq] at this
    exact this
  · have := List.all_eq_true.mp h5 y hy
    rcases e with e | e
    · simpa [e] using this
    · simpa [e] using this
theorem filter_tt {α : Type} (xs : List α) : xs.filter (fun _ => true) = xs := List.filter_eq_self.mpr fun _ _ => rfl
/-- [f x for x in xs] -/
theorem d_lcA {elt tg it : Expr} {scope : Scope} {onm : List (Str × Nat)} {A : Type} {enc : A → PyData} {xs : List A} {f : A → PyData} {dl1 : A → List Sl}
    (hN : X.N.Nodup) (ok : BlkOk X.N X.env.scope scope onm) (hi : DI X tg it dl (xs.map enc)) (hfree : ((onm.map (·.2)).all fun i => slFree (dl.getD i .no)) = true)
    (hg : ∀ (s : Shared) (H : Hp) (C : Addr) (cl : List (Str × Addr)) (fp : List Addr) (x : A), x ∈ xs → ∃ is : List Nat, (∀ i ∈ is, i ∈ onm.map (·.2)) ∧ GT (BK X s H scope C cl fp) tg is (wipeS dl (onm.map (·.2))) (enc x) (dl1 x))
    (he : ∀ (s : Shared) (H : Hp) (C : Addr) (cl : List (Str × Addr)) (fp : List Addr) (x : A), x ∈ xs → DE (BK X s H scope C cl fp) elt (dl1 x) (.p (f x))) (hz : xs.length ≤ 100000)
    (hs : ∀ x, foldedSetIterable it X.env x = pure x := by intro _; rfl) (hc : X.calm = true := by rfl) : DE X (.ListComp elt [⟨tg, it, [], 0⟩] scope pos) dl (.p (.list (xs.map f))) := by
  have := d_lc (pos := pos) hc hN ok (dl_lc (k := fun _ => true) (f := f) hc hN hi ok (List.all_eq_true.mp hfree) hg (fun _ _ _ _ _ _ _ => dts_nil) (fun s H C cl fp x hx _ => he s H C cl fp x hx) hz) hs
  rwa [filter_tt] at this
/-- [f x for x in xs if k x] -/
theorem d_lcF {elt tg it test : Expr} {scope : Scope} {onm : List (Str × Nat)} {A : Type} {enc : A → PyData} {xs : List A} {f : A → PyData} {k : A → Bool} {dl1 : A → List Sl}
    (hN : X.N.Nodup) (ok : BlkOk X.N X.env.scope scope onm) (hi : DI X tg it dl (xs.map enc)) (hfree : ((onm.map (·.2)).all fun i => slFree (dl.getD i .no)) = true)
    (hg : ∀ (s : Shared) (H : Hp) (C : Addr) (cl : List (Str × Addr)) (fp : List Addr) (x : A), x ∈ xs → ∃ is : List Nat, (∀ i ∈ is, i ∈ onm.map (·.2)) ∧ GT (BK X s H scope C cl fp) tg is (wipeS dl (onm.map (·.2))) (enc x) (dl1 x))
    (ht : ∀ (s : Shared) (H : Hp) (C : Addr) (cl : List (Str × Addr)) (fp : List Addr) (x : A), x ∈ xs → DT (BK X s H scope C cl fp) test (dl1 x) (k x))
    (he : ∀ (s : Shared) (H : Hp) (C : Addr) (cl : List (Str × Addr)) (fp : List Addr) (x : A), x ∈ xs → k x = true → DE (BK X s H scope C cl fp) elt (dl1 x) (.p (f x))) (hz : xs.length ≤ 100000)
    (hs : ∀ x, foldedSetIterable it X.env x = pure x := by intro _; rfl) (hc : X.calm = true := by rfl) : DE X (.ListComp elt [⟨tg, it, [test], 0⟩] scope pos) dl (.p (.list ((xs.filter k).map f))) :=
  d_lc (pos := pos) hc hN ok (dl_lc hc hN hi ok (List.all_eq_true.mp hfree) hg (fun s H C cl fp x hx => dts_one (ht s H C cl fp x hx)) he hz) hs
/-- all(..), any(..) of truth values -/
theorem d_all {A : Type} {xs : List A} {g : A → Bool} (h : DE X a dl (.p (.list (xs.map fun x => .bool (g x))))) (hm : X.mg "all" = none) (hc : X.calm = true := by rfl) (hg : Gl X "all" := by rfl) (he : starEach [a] X.env = (false, eval a X.env) :: starEach [] X.env := by rfl) : DE X (.Call (.Name "all" p) [a] [] pos) dl (.p (.bool (xs.all g))) := by
  have h' : DB X a dl (.p (.list ((xs.map g).map .bool))) := h.lend.is (by rw [List.map_map]; rfl)
  have := d_callB (x := "all") (pos := pos) (p := p) (c_all hc) h' hm hg (by decide +kernel) (by decide) (by decide) he
  rwa [List.all_map] at this
theorem d_any {A : Type} {xs : List A} {g : A → Bool} (h : DE X a dl (.p (.list (xs.map fun x => .bool (g x))))) (hm : X.mg "any" = none) (hc : X.calm = true := by rfl) (hg : Gl X "any" := by rfl) (he : starEach [a] X.env = (false, eval a X.env) :: starEach [] X.env := by rfl) : DE X (.Call (.Name "any" p) [a] [] pos) dl (.p (.bool (xs.any g))) := by
  have h' : DB X a dl (.p (.list ((xs.map g).map .bool))) := h.lend.is (by rw [List.map_map]; rfl)
  have := d_callB (x := "any") (pos := pos) (p := p) (c_any hc) h' hm hg (by decide +kernel) (by decide) (by decide) he
  rwa [List.any_map] at this
theorem d_len {k : Bool} {ds : List PyData} {n : Int} (h : DE X a dl (sq k ds)) (hn : (ds.length : Int) = n) (hm : X.mg "len" = none) (hg : Gl X "len" := by rfl) (he : starEach [a] X.env = (false, eval a X.env) :: starEach [] X.env := by rfl) : DE X (.Call (.Name "len" p) [a] [] pos) dl (.p (.int n)) := by
  subst hn
  cases k
  · exact d_callB (c_lenT (ds := ds)) h.lend hm hg (by decide +kernel) (by decide) (by decide) he
  · exact d_callB (c_lenL (ds := ds)) h.lend hm hg (by decide +kernel) (by decide) (by decide) he
theorem d_lenO {ds : List PyData} {n : Int} (h : DB X a dl (.p (.list ds))) (hn : (ds.length : Int) = n) (hm : X.mg "len" = none) (hg : Gl X "len" := by rfl) (he : starEach [a] X.env = (false, eval a X.env) :: starEach [] X.env := by rfl) : DE X (.Call (.Name "len" p) [a] [] pos) dl (.p (.int n)) := by
  subst hn
  exact d_callB (c_lenL (ds := ds)) h hm hg (by decide +kernel) (by decide) (by decide) he
theorem d_tuple {ds : List PyData} (h : DB X a dl (.p (.list ds))) (hm : X.mg "tuple" = none) (hg : Gl X "tuple" := by rfl) (he : starEach [a] X.env = (false, eval a X.env) :: starEach [] X.env := by rfl) : DE X (.Call (.Name "tuple" p) [a] [] pos) dl (.p (.tuple ds)) :=
  d_callT (c_tuple (ds := ds)) h hm hg (by decide +kernel) (by decide) (by decide) he
theorem d_list {ds : List PyData} (h : DE X a dl (.p (.tuple ds))) (hm : X.mg "list" = none) (hg : Gl X "list" := by rfl) (he : starEach [a] X.env = (false, eval a X.env) :: starEach [] X.env := by rfl) : DE X (.Call (.Name "list" p) [a] [] pos) dl (.p (.list ds)) :=
  d_callT (c_listT (ds := ds)) h.lend hm hg (by decide +kernel) (by decide) (by decide) he
/-- e is what is not called for -/
theorem dt_is {k : Bool} (h : DT X e dl k) {l : Bool} (q : k = l) : DT X e dl l := q ▸ h
/-- a test that fails, nothing behind it -/
theorem s_ifNo {th : List Stmt} {k : Bool} (hc : DT X c dl k) (hk : k = false) (q : D.nx dl) : SX X (.If c th [] pos) D dl := s_if hc (fun h => by rw [hk] at h; cases h) fun _ => sw_nil q
theorem s_ifYes {th el : List Stmt} {k : Bool} (hc : DT X c dl k) (hk : k = true) (q : SW X th D dl) : SX X (.If c th el pos) D dl := s_if hc (fun _ => q) fun h => by rw [hk] at h; cases h
end
end Ac
-- part M3
set_option maxHeartbeats 4000000
set_option Elab.async false
set_option maxRecDepth 100000
set_option linter.all false
/-! Ac: further rules; loops by a state. -/
namespace Ac
open PySem PySem.Spec PyProof.Rows L2
section
variable {X : Cx} {e a b c : Expr} {es : List Expr} {dl dl' : List Sl} {t u r : T} {pos p : Pos} {D : DK}
/-! ### < of alike data -/
def rLtD (K : PySem.W.Frag) : R2 := fun x y H Q => ∃ d f, Dp K H x d ∧ Dp K H y f ∧ PySem.W.alike d f = true ∧ d ≠ .none ∧ d.depth ≤ 32 ∧ Q (.bl (PySem.W.dataLt d f)) H
theorem op_ltD (hu : X.A.units + 64 < cLine) : OpR X (compareOp .Lt) (rLtD X.K) := by
  intro pins s st H x y v u Q I rx ry h
  obtain ⟨d, f, hd, hf, hal, hn, hdp, q⟩ := h
  obtain ⟨as, r1⟩ := Dp.reads I d x v hd rx
  obtain ⟨bs, r2⟩ := Dp.reads I f y u hf ry
  refine PySem.W.rcLt_alike d f X.A s v u as bs r1 r2 hal hn ?_ X.prog X.w _ _ ⟨.bl _, H, I, rfl, q⟩
  have : min d.depth f.depth ≤ d.depth := Nat.min_le_left _ _
  omega
theorem o_ltD {d f : PyData} {A : Around} (hu : A.units + 64 < cLine) (h1 : PySem.W.alike d f = true) (h2 : d ≠ .none) (h3 : d.depth ≤ 32) (hA : X.A = A := by rfl) : OpD X (compareOp .Lt) (.p d) (.p f) (.p (.bool (PySem.W.dataLt d f))) := by
  subst hA
  exact ⟨_, op_ltD hu, fun own F H x y Q hn hx hy q => ⟨d, f, RB.dp hx reg_sub, RB.dp hy reg_sub, h1, h2, h3, q _ H (Same.refl H) (.bl _)⟩⟩
theorem d_tp {ds : List PyData} {k : Nat} (h : DP X es dl ds) (hz : ds.length ≤ 100000 := by exact Nat.le_of_ble_eq_true rfl) : DE X (.Tuple es k pos) dl (.p (.tuple ds)) := d_tup h hz
theorem d_ls {ds : List PyData} (h : DP X es dl ds) (hz : ds.length ≤ 100000 := by exact Nat.le_of_ble_eq_true rfl) : DE X (.List es pos) dl (.p (.list ds)) := d_lst h hz
/-! ### what is walked -/
theorem di_sq {tg : Expr} {k : Bool} {ds : List PyData} (h : DE X e dl (sq k ds)) : DI X tg e dl ds := by
  cases k
  · exact di_tup h
  · exact di_list h
theorem DI.is {tg : Expr} {ds es' : List PyData} (h : DI X tg e dl ds) (q : ds = es') : DI X tg e dl es' := q ▸ h
theorem zip_pair {α β : Type} (f : α → PyData) (g : β → PyData) : ∀ (xs : List α) (ys : List β), ((xs.map f).zip (ys.map g)).map pairD = (xs.zip ys).map fun p => .tuple [f p.1, g p.2]
  | [], _ => by simp
  | _ :: _, [] => by simp
  | x :: xs, y :: ys => by
    rw [List.map_cons, List.map_cons, List.zip_cons_cons, List.map_cons, zip_pair f g xs ys]
    rfl
theorem di_zipT {α β : Type} {f : α → PyData} {g : β → PyData} {xs : List α} {ys : List β} {elts : List Expr} {kk : Nat} {tpos : Pos} (k1 k2 : Bool) (ha : DE X a dl (sq k1 (xs.map f))) (hb : DE X b dl (sq k2 (ys.map g))) (hm : X.mg "zip" = none) (hg : Gl X "zip" := by rfl)
    (hs : starEach [a, b] X.env = (false, eval a X.env) :: starEach [b] X.env := by rfl) (hs2 : starEach [b] X.env = (false, eval b X.env) :: starEach [] X.env := by rfl) (hpl : (backTo pos (starEach [b] X.env)).any (·.1) = false := by rfl) :
    DI X (.Tuple elts kk tpos) (.Call (.Name "zip" p) [a, b] [] pos) dl ((xs.zip ys).map fun p => .tuple [f p.1, g p.2]) := (di_zip ha hb hm hg hs hs2 hpl).is (zip_pair f g xs ys)
theorem rgD_eq (lo : Int) (n : Nat) : rgD lo n = (List.range n).map fun i => PyData.int (lo + (i : Nat)) := rfl
/-! ### loops -/
theorem Wk.of {dl dl' : List Sl} : ∀ (is : List Nat), dl' = wipeS dl is → Wk dl dl'
  | [], h => by rw [h]; exact .refl _
  | i :: is, h => by rw [h]; exact .no i (Wk.of is rfl)
theorem SW.nxw {ss : List Stmt} {D' : DK} (h : SW X ss D' dl) (h1 : ∀ d, D'.nx d → D.nx d) (h2 : ∀ t d, D'.rt t d → D.rt t d) (h3 : ∀ d, D'.bk d → D.bk d) (h4 : ∀ d, D'.ct d → D.ct d) : SW X ss D dl := h.mono h1 h2 h3 h4
/-- if c: th else: el; rest -/
theorem sw_if {S : Type} {th el rest : List Stmt} {k : Bool} (canon : S → List Sl) (Iv : S → Prop) (hc : DT X c dl k) (h1 : k = true → SW X th ⟨fun d => ∃ s, Wk d (canon s) ∧ Iv s, D.rt, D.bk, D.ct⟩ dl) (h2 : k = false → SW X el ⟨fun d => ∃ s, Wk d (canon s) ∧ Iv s, D.rt, D.bk, D.ct⟩ dl)
    (hr : ∀ s, Iv s → SW X rest D (canon s)) : SW X (.If c th el pos :: rest) D dl :=
  sw_cons (s_if hc (fun h => (h1 h).mono (fun d ⟨s, w, q⟩ => sw_weak w (hr s q)) (fun _ _ q => q) (fun _ q => q) (fun _ q => q)) fun h => (h2 h).mono (fun d ⟨s, w, q⟩ => sw_weak w (hr s q)) (fun _ _ q => q) (fun _ q => q) (fun _ q => q))
/-- while c: body; rest -/
theorem sw_while {S : Type} {body rest : List Stmt} (canon : S → List Sl) (Iv : S → Prop) (mu : S → Nat) (s0 : S) (hw : Wk dl (canon s0)) (h0 : Iv s0)
    (step : ∀ s, Iv s → ∃ k, DT X c (canon s) k ∧ (k = true → SW X body ⟨fun d => ∃ s', Wk d (canon s') ∧ Iv s' ∧ mu s' < mu s, D.rt, fun _ => False, fun _ => False⟩ (canon s)) ∧ (k = false → SW X rest D (canon s)))
    (hp : PassesOwn (model X.prog X.w) X.A X.env X.xe := by exact PassesOwn.never) : SW X (.While c body [] pos :: rest) D dl := by
  refine sw_weak hw (sw_cons fun Kp F own H st S hlen => ?_)
  refine w1_of (ps_while hp (ptW c) (pssW body)) ?_
  refine ⟨fun m σ H => ∃ s own1, SE X Kp F (canon s) own1 H σ ∧ Iv s ∧ m = mu s, ⟨_, s0, own, S, h0, rfl⟩, ?_⟩
  rintro m σ H1 ⟨s, own1, S1, hv, rfl⟩
  obtain ⟨k, hk, hb, hn⟩ := step s hv
  refine (hk Kp F own1 H1 σ S1).mono fun x H2 ⟨s2, e2⟩ => ?_
  subst e2
  cases x with
  | false => rw [if_neg Bool.false_ne_true]; exact ⟨canon s, own1, S1.grow s2, hn rfl⟩
  | true =>
    rw [if_pos rfl]
    refine ⟨fun σ' H' => ∃ s' o, SE X Kp F (canon s') o H' σ' ∧ Iv s' ∧ mu s' < mu s, fun σ' H' ⟨s', o, S', q1, q2⟩ => ⟨mu s', q2, s', o, S', q1, rfl⟩, ?_⟩
    refine (hb rfl Kp F own1 H2 σ (S1.grow s2)).mono (fun _ _ ⟨d, o, S', s', w', q1, q2⟩ => ?_) (fun _ _ q => q) (fun _ _ ⟨_, _, _, z⟩ => z.elim) (fun _ _ ⟨_, _, _, z⟩ => z.elim)
    obtain ⟨o', S''⟩ := S'.weak w'
    exact ⟨s', o', S'', q1, q2⟩
/-- for tg in it: body; rest -/
theorem sw_for {S : Type} {tg it : Expr} {body rest : List Stmt} {ds : List PyData} (hi : DI X tg it dl ds) (canon : S → List Sl) (Iv : Nat → S → Prop) (s0 : S) (hw : Wk dl (canon s0)) (h0 : Iv 0 s0)
    (step : ∀ (i : Nat) (d : PyData) (s : S), ds[i]? = some d → Iv i s → ∃ is dl2, GT X tg is (canon s) d dl2 ∧ SW X body ⟨fun d => ∃ s', Wk d (canon s') ∧ Iv (i + 1) s', D.rt, fun _ => False, fun _ => False⟩ dl2)
    (hend : ∀ s, Iv ds.length s → SW X rest D (canon s)) (hc : X.calm = true := by rfl) (hp : PassesOwn (model X.prog X.w) X.A X.env X.xe := by exact PassesOwn.never) (hs : ∀ x, foldedSetIterable it X.env x = pure x := by intro _; rfl) : SW X (.For tg it body [] pos :: rest) D dl := by
  refine sw_cons fun Kp F own H st S hlen => ?_
  refine w1_of (ps_for hp hc (piW tg it) (pgW tg) (pssW body) hs) ?_
  refine WI.mono (hi Kp F own H st S) fun J H1 ⟨s1, G, Y, W, hG, hY⟩ => ?_
  obtain ⟨S1, k1⟩ := (S.grow s1).all
  obtain ⟨own0', S0⟩ := S1.weak hw
  have sub : Same (reg own F H1) (wo own H1) := fun a o q => by
    obtain ⟨q1, q2, _⟩ := reg_some q
    rw [wo_in q2]; exact q1
  refine for_it W (fun i σ H2 => ∃ s own1, SE X (wo own H1) F (canon s) own1 H2 σ ∧ Iv i s) ⟨s0, own0', S0, h0⟩ ?_ ?_ ?_
  · rintro i σ H2 _ ⟨s, own1, S2, _⟩
    exact hG H2 (sub.trans S2.kp)
  · rintro i x σ H2 H3 hi ⟨s, own1, S2, hv⟩ y
    obtain ⟨d, hd⟩ : ∃ d, ds[i]? = some d := ⟨ds[i], List.getElem?_eq_getElem hi⟩
    obtain ⟨s3, hx⟩ := hY i H2 x H3 d hd y
    have S3 := S2.grow s3
    have hx' : Dp X.K (reg own1 F H3) x d := hx _ (fun a o q => by
      obtain ⟨_, _, q3⟩ := reg_some q
      have q4 := sub a o q
      rw [reg_in (fun j z => by rw [S3.fr j a z] at q4; cases q4) q3]
      exact S3.kp a o q4) fun a o h1 h2 => by
        rw [reg_in (S2.fresh h1).1 (S2.fresh h1).2]
        exact h2
    obtain ⟨is, dl2, hgt, hb⟩ := step i d s hd hv
    intro pins s' u I r
    refine (hgt (wo own H1) F own1 H3 σ x S3 I.len hx').mono (fun σ4 H4 ⟨e4, S4, _, _⟩ => ?_) pins s' u I r
    subst e4
    refine (hb (wo own H1) F own1 H4 σ4 S4).mono (fun σ5 H5 ⟨d5, o5, S5, s5, w5, q5⟩ => ?_) (fun v H5 ⟨t, d5, o5, st5, S5, r5, q5⟩ => ⟨t, d5, o5, st5, S5.base k1, r5, q5⟩) (fun _ _ ⟨_, _, _, z⟩ => z.elim) (fun _ _ ⟨_, _, _, z⟩ => z.elim)
    obtain ⟨o6, S6⟩ := S5.weak w5
    exact ⟨s5, o6, S6, q5⟩
  · rintro σ H2 ⟨s, own1, S2, hv⟩
    exact ⟨canon s, own1, S2.base k1, hend s hv⟩
end
end Ac
-- part M4
set_option maxHeartbeats 4000000
set_option Elab.async false
set_option maxRecDepth 100000
set_option linter.all false
namespace Ac
open PySem PySem.Spec PyProof.Rows L2
/-! ### alike -/
theorem alikeAll_map {α : Type} {f : α → PyData} (h : ∀ a b, PySem.W.alike (f a) (f b) = true) : ∀ xs ys : List α, PySem.W.alikeAll (xs.map f) (ys.map f) = true
  | [], _ => by simp [PySem.W.alikeAll]
  | _ :: _, [] => by simp [PySem.W.alikeAll]
  | x :: xs, y :: ys => by
    rw [List.map_cons, List.map_cons, PySem.W.alikeAll, h, alikeAll_map h xs ys]
    rfl
theorem al_int (a b : Int) : PySem.W.alike (.int a) (.int b) = true := by simp [PySem.W.alike]
theorem al_pin (p q : Pin) : PySem.W.alike (pPin p) (pPin q) = true := by simp [pPin, PySem.W.alike, PySem.W.alikeAll]
theorem al_sw (p q : Sw) : PySem.W.alike (pSw p) (pSw q) = true := by
  unfold pSw
  rw [PySem.W.alike, PySem.W.alikeAll, PySem.W.alikeAll, PySem.W.alikeAll, al_pin, al_pin]
  rfl
theorem al_way (p q : Way) : PySem.W.alike (pWay p) (pWay q) = true := by
  unfold pWay
  rw [PySem.W.alike]
  exact alikeAll_map al_sw p q
theorem al_tupI (p q : List Int) : PySem.W.alike (tupI p) (tupI q) = true := by
  unfold tupI
  rw [PySem.W.alike]
  exact alikeAll_map al_int p q
/-! ### plain -/
/-- the pairs of sides -/
def from_ (s a : Int) : List Int := (List.range (s - (a + 1)).toNat).map fun b => a + 1 + (b : Nat)
def pairs (s : Int) : List Pin := (List.range s.toNat).flatMap fun a => (from_ s (0 + (a : Nat))).map fun b => (0 + (a : Nat), b)
theorem pairs_le (s : Int) (h : s ≤ 5) : (pairs s).length ≤ 25 := by
  unfold pairs
  rw [List.length_flatMap]
  have : ∀ (l : List Nat), (l.map fun a => ((from_ s (0 + (a : Nat))).map fun b => ((0 : Int) + (a : Nat), b)).length).sum ≤ l.length * 5 := by
    intro l
    induction l with
    | nil => simp
    | cons x l ih =>
      rw [List.map_cons, List.sum_cons, List.length_cons, List.length_map]
      have : (from_ s (0 + (x : Nat))).length ≤ 5 := by unfold from_; rw [List.length_map, List.length_range]; omega
      omega
  have := this (List.range s.toNat)
  rw [List.length_range] at this
  omega
/-- the sides that a switch joins -/
def ends (w : Sw) : Pin := (w.1.1, w.2.1)
def loadOf (s : Int) (w : Way) : List Int := (pairs s).map fun p => cnt (w.map ends) p
def pinsOf (w : Way) : List Pin := w.flatMap fun s => [s.1, s.2]
def below (l o : List Int) : Bool := (l.zip o).all fun p => decide (p.1 ≤ p.2)
def isOf (l : List Int) (fr : List (List Int)) : Bool := fr.any fun o => below l o
def withP (s : Int) (l : List Int) (p : Pin) : List Int := ((pairs s).zip l).map fun x => x.2 + (if x.1 = p then 1 else 0)
def moved (w o : Way) : Nat := (w.filter fun s => !mem s o).length
def leftBy (w : Way) (s : Sw) : Way := w.filter fun x => !decide (x = s)
def asksAt (s : Int) (fr : List (List Int)) (w : Way) : List Ask := w.map .fin ++ ((pairs s).filter fun p => isOf (withP s (loadOf s w) p) fr).map .want
end Ac
-- part C1
set_option maxHeartbeats 4000000
set_option Elab.async false
set_option maxRecDepth 100000
set_option linter.all false
namespace Ac
open PySem PySem.Spec PyProof.Rows L2
def top (i : Nat) : Stmt := PySem.Challenge.pw_allcalls_k34_whole_askers_and_answerers.main.body.getD i (.Pass ⟨0, 0, 0, 0⟩)
/-- the names of built-ins that the module leaves alone -/
structure Bi (mg : Str → Option Value) : Prop where
  isinstance_ : mg "isinstance" = none
  int_ : mg "int" = none
  bool_ : mg "bool" = none
  tuple_ : mg "tuple" = none
  str_ : mg "str" = none
  dict_ : mg "dict" = none
  len_ : mg "len" = none
  all_ : mg "all" = none
  any_ : mg "any" = none
  range_ : mg "range" = none
  zip_ : mg "zip" = none
  list_ : mg "list" = none
  sorted_ : mg "sorted" = none
  set_ : mg "set" = none
  sum_ : mg "sum" = none
  max_ : mg "max" = none
  min_ : mg "min" = none
  abs_ : mg "abs" = none
  enumerate_ : mg "enumerate" = none
/-- the module's numbers -/
structure Nu (mg : Str → Option Value) : Prop where
  ls : ∃ t, mg "LEAST_SIDES" = some (.int 2 t)
  ms : ∃ t, mg "MOST_SIDES" = some (.int 5 t)
  mt : ∃ t, mg "MOST_TRACKS" = some (.int 6 t)
  mw : ∃ t, mg "MOST_WIRES" = some (.int 99 t)
  mm : ∃ t, mg "MOST_MOVES" = some (.int 20 t)
  mst : ∃ t, mg "MOST_STANDINGS" = some (.int 5000 t)
section
variable {P : Program} {w : World} {K : PySem.W.Frag} {mg : Str → Option Value} {base : Heap}
abbrev sd_is_number : Stmt := top 16
theorem sc_is_number : FnScope ["thing"] ["thing"] (defScope sd_is_number) := ⟨rfl, rfl, rfl, by decide +kernel, rfl, by decide +kernel, by decide +kernel⟩
abbrev Fis_number (P : Program) (w : World) (K : PySem.W.Frag) (mg : Str → Option Value) (base : Heap) : Prop := Fn P w K mg base "is_number" 1 (fun i : Int => [.p (.int i)]) (fun _ => True) (fun _ => .p (.bool true))
theorem ok_is_number (TF : TopF K mg "is_number" sd_is_number) (B : Bi mg) : Fis_number P w K mg base := by
  refine fn_body TF sc_is_number (fun _ => rfl) (fun _ _ _ _ _ _ us hl => match us, hl with | [_], _ => rfl) fun f cdv A outer s H E i hr _ => ?_
  exact sw_one (s_ret (d_and (d_isi (cl := "int") (.int i) rfl (dv 0 rfl) B.isinstance_ B.int_) (fun _ => d_one (d_not (d_isi (cl := "bool") (.int i) rfl (dv 0 rfl) B.isinstance_ B.bool_)))) rfl)
abbrev sd_is_between : Stmt := top 17
theorem sc_is_between : FnScope ["thing", "low", "high"] ["thing", "low", "high"] (defScope sd_is_between) := ⟨rfl, rfl, rfl, by decide +kernel, rfl, by decide +kernel, by decide +kernel⟩
def between (i lo hi : Int) : Bool := decide (lo ≤ i) && decide (i ≤ hi)
abbrev Fis_between (P : Program) (w : World) (K : PySem.W.Frag) (mg : Str → Option Value) (base : Heap) : Prop := Fn P w K mg base "is_between" 2 (fun i : Int × Int × Int => [.p (.int i.1), .p (.int i.2.1), .p (.int i.2.2)]) (fun _ => True) (fun i => .p (.bool (between i.1 i.2.1 i.2.2)))
theorem ok_is_between (TF : TopF K mg "is_between" sd_is_between) (G1 : Fis_number P w K mg base) : Fis_between P w K mg base := by
  refine fn_body TF sc_is_between (fun _ => rfl) (fun _ _ _ _ _ _ us hl => match us, hl with | [_, _, _], _ => rfl) fun f cdv A outer s H E i hr _ => ?_
  exact sw_one (s_ret (d_and (d_cl G1 hr i.1 (da_cons (dv 0 rfl) da_nil) True.intro) (fun _ => d_one (d_chain o_le o_le (dv 1 rfl) (dv 0 rfl) (dv 2 rfl)))) rfl)
/-- a pin of a box -/
def pinOk (p : Pin) (s t : Int) : Bool := between p.1 0 (s - 1) && between p.2 0 (t - 1)
abbrev sd_is_pin : Stmt := top 18
theorem sc_is_pin : FnScope ["thing", "sides", "tracks"] ["thing", "sides", "tracks"] (defScope sd_is_pin) := ⟨rfl, rfl, rfl, by decide +kernel, rfl, by decide +kernel, by decide +kernel⟩
abbrev Fis_pin (P : Program) (w : World) (K : PySem.W.Frag) (mg : Str → Option Value) (base : Heap) : Prop := Fn P w K mg base "is_pin" 3 (fun i : Pin × Int × Int => [.p (pPin i.1), .p (.int i.2.1), .p (.int i.2.2)]) (fun _ => True) (fun i => .p (.bool (pinOk i.1 i.2.1 i.2.2)))
theorem ok_is_pin (TF : TopF K mg "is_pin" sd_is_pin) (B : Bi mg) (G1 : Fis_between P w K mg base) : Fis_pin P w K mg base := by
  refine fn_body TF sc_is_pin (fun _ => rfl) (fun _ _ _ _ _ _ us hl => match us, hl with | [_, _, _], _ => rfl) fun f cdv A outer s H E i hr _ => ?_
  have hu := hr.units
  refine sw_cons (s_ifNo (dw_or (dt_not (dt_val (d_isi (cl := "tuple") (.tup _) rfl (dv 0 rfl) B.isinstance_ B.tuple_))) fun _ => dw_or1 (dt_cmp (o_neI hu) (d_len (k := false) (dv 0 rfl) rfl B.len_).lend d_int.lend)).test rfl ?_)
  exact sw_one (s_ret (d_and (d_cl G1 hr (i.1.1, 0, i.2.1 - 1) (da_cons (d_ixT (dv 0 rfl) d_int rfl) (da_cons d_int (da_cons (d_bin o_sub (dv 1 rfl).lend d_int.lend) da_nil))) True.intro) (fun _ => d_one (d_cl G1 hr (i.1.2, 0, i.2.2 - 1) (da_cons (d_ixT (dv 0 rfl) d_int rfl) (da_cons d_int (da_cons (d_bin o_sub (dv 2 rfl).lend d_int.lend) da_nil))) True.intro))) rfl)
/-- a switch of a box -/
def swOk (w : Sw) (s t : Int) : Bool := pinOk w.1 s t && pinOk w.2 s t && decide (w.1.1 < w.2.1)
abbrev sd_is_switch : Stmt := top 19
theorem sc_is_switch : FnScope ["thing", "sides", "tracks", "pin"] ["thing", "sides", "tracks"] (defScope sd_is_switch) := ⟨rfl, rfl, rfl, by decide +kernel, rfl, by decide +kernel, by decide +kernel⟩
abbrev Fis_switch (P : Program) (w : World) (K : PySem.W.Frag) (mg : Str → Option Value) (base : Heap) : Prop := Fn P w K mg base "is_switch" 4 (fun i : Sw × Int × Int => [.p (pSw i.1), .p (.int i.2.1), .p (.int i.2.2)]) (fun i => swOk i.1 i.2.1 i.2.2 = true) (fun _ => .p (.bool true))
theorem ok_is_switch (TF : TopF K mg "is_switch" sd_is_switch) (B : Bi mg) (G1 : Fis_pin P w K mg base) : Fis_switch P w K mg base := by
  refine fn_body TF sc_is_switch (fun _ => rfl) (fun _ _ _ _ _ _ us hl => match us, hl with | [_, _, _], _ => rfl) fun f cdv A outer s H E i hr hok => ?_
  have hu := hr.units
  have hN := sc_is_switch.nd
  unfold swOk at hok
  rw [Bool.and_eq_true, Bool.and_eq_true] at hok
  refine sw_cons (s_ifNo (dw_or (dt_not (dt_val (d_isi (cl := "tuple") (.tup _) rfl (dv 0 rfl) B.isinstance_ B.tuple_))) fun _ => dw_or (dt_cmp (o_neI hu) (d_len (k := false) (dv 0 rfl) rfl B.len_).lend d_int.lend) fun _ => dw_or1 (dt_not (dt_val (d_all (xs := [i.1.1, i.1.2]) (g := fun p => pinOk p i.2.1 i.2.2)
    (d_lcA (onm := [("pin", 3)]) (enc := pPin) hN (blk_of (N := ["thing", "sides", "tracks", "pin"]) (sc := defScope sd_is_switch) (by decide +kernel)) (di_tup (dv 0 rfl)) rfl (fun _ _ _ _ _ x _ => ⟨[3], by decide, gt_name 3 hN⟩)
      (fun _ _ _ _ _ x _ => d_cl G1 hr (x, i.2.1, i.2.2) (da_cons (dv 3 rfl) (da_cons (dv 1 rfl) (da_cons (dv 2 rfl) da_nil))) True.intro) (by simp)) B.all_)))).test (by simp [hok.1.1, hok.1.2]) ?_)
  exact sw_one (s_ret ((d_cmp o_lt (d_ixT (d_ixT (dv 0 rfl) d_int rfl) d_int rfl).lend (d_ixT (d_ixT (dv 0 rfl) d_int rfl) d_int rfl).lend).is (by rw [hok.2])) rfl)
end
end Ac
-- part C2
set_option maxHeartbeats 4000000
set_option Elab.async false
set_option maxRecDepth 100000
set_option linter.all false
namespace Ac
open PySem PySem.Spec PyProof.Rows L2
theorem atI_nat {α : Type} (l : List α) (k : Nat) : atI l ((k : Nat) : Int) = l[k]? := by
  unfold atI ixN
  rw [if_pos (Int.natCast_nonneg k)]
  by_cases h : (k : Int) < l.length
  · rw [if_pos h]; rfl
  · rw [if_neg h, List.getElem?_eq_none (by omega)]; rfl
/-- what ascends, item by item -/
structure Rising (ds : List PyData) : Prop where
  al : PySem.W.AllAlike ds
  ok : ∀ d ∈ ds, d ≠ .none ∧ d.depth ≤ 32
  lt : ∀ (i : Nat) (a b : PyData), ds[i]? = some a → ds[i + 1]? = some b → PySem.W.dataLt a b = true
  sz : ds.length ≤ 100000
section
variable {P : Program} {w : World} {K : PySem.W.Frag} {mg : Str → Option Value} {base : Heap}
abbrev sd_is_rising : Stmt := top 20
abbrev N_is_rising : List Str := ["row", "at"]
theorem sc_is_rising : FnScope N_is_rising ["row"] (defScope sd_is_rising) := ⟨rfl, rfl, rfl, by decide +kernel, rfl, by decide +kernel, by decide +kernel⟩
abbrev Fis_rising (P : Program) (w : World) (K : PySem.W.Frag) (mg : Str → Option Value) (base : Heap) : Prop := Fn P w K mg base "is_rising" 1 (fun i : List PyData => [.p (.tuple i)]) Rising (fun _ => .p (.bool true))
theorem ok_is_rising (TF : TopF K mg "is_rising" sd_is_rising) (B : Bi mg) : Fis_rising P w K mg base := by
  refine fn_body TF sc_is_rising (fun _ => rfl) (fun _ _ _ _ _ _ us hl => match us, hl with | [_], _ => rfl) fun f cdv A outer s H E i hr hok => ?_
  have hu := hr.units
  have hN := sc_is_rising.nd
  have hz := hok.sz
  refine sw_one (s_ret (t := .p (.bool ((List.range (((i.length : Int) - 1).toNat)).all fun _ => true))) (d_all (xs := List.range (((i.length : Int) - 1).toNat)) (g := fun _ => true)
    (d_lcA (onm := [("at", 1)]) (enc := fun k : Nat => .int (0 + (k : Nat))) hN (blk_of (N := N_is_rising) (sc := defScope sd_is_rising) (by decide +kernel)) (di_range1 (d_bin o_sub (d_len (k := false) (dv 0 rfl) rfl B.len_).lend d_int.lend) (by omega) (by omega) B.range_) rfl (fun _ _ _ _ _ x _ => ⟨[1], by decide, gt_name 1 hN⟩)
      (fun _ _ _ _ _ x hx => ?_) (by rw [List.length_range]; omega)) B.all_) (by simp))
  have hx' : x + 1 < i.length := by have := List.mem_range.mp hx; omega
  have h1 : i[x]? = some i[x] := List.getElem?_eq_getElem (by omega)
  have h2 : i[x + 1]? = some i[x + 1] := List.getElem?_eq_getElem (by omega)
  have m1 : i[x] ∈ i := List.getElem_mem _
  refine (d_cmp (o_ltD (d := i[x]) (f := i[x + 1]) hu (hok.al _ m1 _ (List.getElem_mem _)) (hok.ok _ m1).1 (hok.ok _ m1).2) (d_ixT (dv 0 rfl) (dv 1 rfl) ?_).lend (d_ixT (dv 0 rfl) (d_bin o_add (dv 1 rfl).lend d_int.lend) ?_).lend).is (by rw [hok.lt x _ _ h1 h2])
  · rw [Int.zero_add, atI_nat, h1]
  · rw [Int.zero_add]
    have : ((x : Int) + 1) = ((x + 1 : Nat) : Int) := by omega
    rw [this, atI_nat, h2]
abbrev sd_need_sides : Stmt := top 22
theorem sc_need_sides : FnScope ["sides"] ["sides"] (defScope sd_need_sides) := ⟨rfl, rfl, rfl, by decide +kernel, rfl, by decide +kernel, by decide +kernel⟩
abbrev Fneed_sides (P : Program) (w : World) (K : PySem.W.Frag) (mg : Str → Option Value) (base : Heap) : Prop := Fn P w K mg base "need_sides" 3 (fun i : Int => [.p (.int i)]) (fun i => 2 ≤ i ∧ i ≤ 5) (fun _ => .p .none)
theorem ok_need_sides (TF : TopF K mg "need_sides" sd_need_sides) (NU : Nu mg) (G1 : Fis_between P w K mg base) : Fneed_sides P w K mg base := by
  refine fn_body TF sc_need_sides (fun _ => rfl) (fun _ _ _ _ _ _ us hl => match us, hl with | [_], _ => rfl) fun f cdv A outer s H E i hr hok => ?_
  obtain ⟨t1, h1⟩ := NU.ls
  obtain ⟨t2, h2⟩ := NU.ms
  exact sw_one (s_ifNo (dt_not (dt_val (d_cl G1 hr (i, 2, 5) (da_cons (dv 0 rfl) (da_cons (d_glob rfl h1) (da_cons (d_glob rfl h2) da_nil))) True.intro))) (by simp [between, hok.1, hok.2]) rfl)
abbrev sd_need_tracks : Stmt := top 23
theorem sc_need_tracks : FnScope ["tracks"] ["tracks"] (defScope sd_need_tracks) := ⟨rfl, rfl, rfl, by decide +kernel, rfl, by decide +kernel, by decide +kernel⟩
abbrev Fneed_tracks (P : Program) (w : World) (K : PySem.W.Frag) (mg : Str → Option Value) (base : Heap) : Prop := Fn P w K mg base "need_tracks" 3 (fun i : Int => [.p (.int i)]) (fun i => 1 ≤ i ∧ i ≤ 6) (fun _ => .p .none)
theorem ok_need_tracks (TF : TopF K mg "need_tracks" sd_need_tracks) (NU : Nu mg) (G1 : Fis_between P w K mg base) : Fneed_tracks P w K mg base := by
  refine fn_body TF sc_need_tracks (fun _ => rfl) (fun _ _ _ _ _ _ us hl => match us, hl with | [_], _ => rfl) fun f cdv A outer s H E i hr hok => ?_
  obtain ⟨t1, h1⟩ := NU.mt
  exact sw_one (s_ifNo (dt_not (dt_val (d_cl G1 hr (i, 1, 6) (da_cons (dv 0 rfl) (da_cons d_int (da_cons (d_glob rfl h1) da_nil))) True.intro))) (by simp [between, hok.1, hok.2]) rfl)
/-- a box -/
structure Bx where
  s : Int
  t : Int
  sw : List Sw
def Bx.t_ (b : Bx) : T := .box b.s b.t (pWay b.sw)
abbrev sd_need_box : Stmt := top 24
theorem sc_need_box : FnScope ["box"] ["box"] (defScope sd_need_box) := ⟨rfl, rfl, rfl, by decide +kernel, rfl, by decide +kernel, by decide +kernel⟩
abbrev Fneed_box (P : Program) (w : World) (K : PySem.W.Frag) (mg : Str → Option Value) (base : Heap) : Prop := Fn P w K mg base "need_box" 1 (fun i : Bx => [i.t_]) (fun i => True) (fun _ => .p .none)
/-- what is known of the class Box -/
structure BoxK (K : PySem.W.Frag) (mg : Str → Option Value) : Prop where
  f : BoxF K mg
  i : BoxI K mg
  e : ∃ C, mg "Box" = some (.ref C)
theorem ok_need_box (TF : TopF K mg "need_box" sd_need_box) (B : Bi mg) (BK : BoxK K mg) : Fneed_box P w K mg base := by
  refine fn_body TF sc_need_box (fun _ => rfl) (fun _ _ _ _ _ _ us hl => match us, hl with | [_], _ => rfl) fun f cdv A outer s H E i hr hok => ?_
  exact sw_one (s_ifNo (dt_not (dt_val (d_isiB BK.f BK.i (dv 0 rfl) B.isinstance_ (hb := BK.e)))) rfl rfl)
abbrev sd_pairs_of : Stmt := top 25
abbrev N_pairs_of : List Str := ["sides", "one", "other"]
theorem sc_pairs_of : FnScope N_pairs_of ["sides"] (defScope sd_pairs_of) := ⟨rfl, rfl, rfl, by decide +kernel, rfl, by decide +kernel, by decide +kernel⟩
abbrev Fpairs_of (P : Program) (w : World) (K : PySem.W.Frag) (mg : Str → Option Value) (base : Heap) : Prop := Fn P w K mg base "pairs_of" 1 (fun i : Int => [.p (.int i)]) (fun i => 0 ≤ i ∧ i ≤ 5) (fun i => .p (.list ((pairs i).map pPin)))
theorem ok_pairs_of (TF : TopF K mg "pairs_of" sd_pairs_of) (B : Bi mg) : Fpairs_of P w K mg base := by
  refine fn_body TF sc_pairs_of (fun _ => rfl) (fun _ _ _ _ _ _ us hl => match us, hl with | [_], _ => rfl) fun f cdv A outer s H E i hr hok => ?_
  have hN := sc_pairs_of.nd
  have e : (pairs i).map pPin = (List.range i.toNat).flatMap fun a => (from_ i (0 + (a : Nat))).map fun b => pPin (0 + (a : Nat), b) := by
    unfold pairs
    rw [List.map_flatMap]
    refine congrArg (fun f => List.flatMap f _) (funext fun a => ?_)
    rw [List.map_map]
    rfl
  refine sw_one (s_ret ((d_lc2 (onm := [("one", 1), ("other", 2)]) (vs1 := [2]) rfl hN (blk_of (N := N_pairs_of) (sc := defScope sd_pairs_of) (by decide +kernel)) (by decide)
    (dl_lc2 (xs := List.range i.toNat) (enc := fun k : Nat => .int (0 + (k : Nat))) (ys := fun a => from_ i (0 + (a : Nat))) (encB := fun k : Int => .int k) (f := fun a b => pPin (0 + (a : Nat), b))
      (di_range1 (dv 0 rfl) (by omega) (by omega) B.range_) (List.all_eq_true.mp rfl) (fun _ _ => List.all_eq_true.mp rfl) (fun _ _ _ _ _ x _ => ⟨[1], by decide, gt_name 1 hN⟩)
      (fun _ _ _ _ _ x hx => (di_range2 (d_bin o_add (dv 1 rfl).lend d_int.lend) (dv 0 rfl) (by have := List.mem_range.mp hx; omega) B.range_).is (by unfold from_; rw [List.map_map]; rfl))
      (fun _ _ _ _ _ x _ y _ => ⟨[2], by decide, gt_name 2 hN⟩) (fun _ _ _ _ _ x _ y _ => d_tp (dp_cons (dv 1 rfl) (dp_cons (dv 2 rfl) dp_nil))) ?_)).is (by rw [e])) rfl)
  rw [← e, List.length_map]
  have := pairs_le i hok.2
  omega
end
end Ac
-- part C3
set_option maxHeartbeats 4000000
set_option Elab.async false
set_option maxRecDepth 100000
set_option linter.all false
namespace Ac
open PySem PySem.Spec PyProof.Rows L2
section
variable {P : Program} {w : World} {K : PySem.W.Frag} {mg : Str → Option Value} {base : Heap}
abbrev sd_is_load_of : Stmt := top 30
abbrev N_is_load_of : List Str := ["sides", "thing", "most", "number"]
theorem sc_is_load_of : FnScope N_is_load_of ["sides", "thing", "most"] (defScope sd_is_load_of) := ⟨rfl, rfl, rfl, by decide +kernel, rfl, by decide +kernel, by decide +kernel⟩
abbrev Fis_load_of (P : Program) (w : World) (K : PySem.W.Frag) (mg : Str → Option Value) (base : Heap) : Prop := Fn P w K mg base "is_load_of" 3 (fun i : Int × List Int × Int => [.p (.int i.1), .p (tupI i.2.1), .p (.int i.2.2)]) (fun i => 0 ≤ i.1 ∧ i.1 ≤ 5 ∧ i.2.1.length = (pairs i.1).length ∧ ∀ n ∈ i.2.1, 0 ≤ n ∧ n ≤ i.2.2) (fun _ => .p (.bool true))
theorem ok_is_load_of (TF : TopF K mg "is_load_of" sd_is_load_of) (B : Bi mg) (G1 : Fis_between P w K mg base) (G2 : Fpairs_of P w K mg base) : Fis_load_of P w K mg base := by
  refine fn_body TF sc_is_load_of (fun _ => rfl) (fun _ _ _ _ _ _ us hl => match us, hl with | [_, _, _], _ => rfl) fun f cdv A outer s H E i hr hok => ?_
  have hu := hr.units
  have hu5 := hr.u65
  have hN := sc_is_load_of.nd
  obtain ⟨h0, h5, hl, hn⟩ := hok
  have hz := pairs_le i.1 h5
  refine sw_cons (s_ifNo (dw_or (dt_not (dt_val (d_isi (cl := "tuple") (.tup _) rfl (dv 1 rfl) B.isinstance_ B.tuple_))) fun _ => dw_or1 (dt_cmp (o_neI hu) (d_len (k := false) (dv 1 rfl) rfl B.len_).lend (d_len (k := true) (d_cl G2 hr i.1 (da_cons (dv 0 rfl) da_nil) ⟨h0, h5⟩) rfl B.len_).lend)).test (by simp [hl]) ?_)
  refine sw_one (s_ret ((d_all (xs := i.2.1) (g := fun n => between n 0 i.2.2) (d_lcA (onm := [("number", 3)]) (enc := .int) hN (blk_of (N := N_is_load_of) (sc := defScope sd_is_load_of) (by decide +kernel)) (di_tup (dv 1 rfl)) rfl (fun _ _ _ _ _ _ _ => ⟨[3], by decide, gt_name 3 hN⟩) (fun _ _ _ _ _ x _ => d_cl G1 hr (x, 0, i.2.2) (da_cons (dv 3 rfl) (da_cons d_int (da_cons (dv 2 rfl) da_nil))) True.intro) (by omega)) B.all_).is ?_) rfl)
  rw [List.all_eq_true.mpr fun n h => by simp [between, hn n h]]
abbrev sd_is_below : Stmt := top 31
abbrev N_is_below : List Str := ["load", "other", "number", "more"]
theorem sc_is_below : FnScope N_is_below ["load", "other"] (defScope sd_is_below) := ⟨rfl, rfl, rfl, by decide +kernel, rfl, by decide +kernel, by decide +kernel⟩
abbrev Fis_below (P : Program) (w : World) (K : PySem.W.Frag) (mg : Str → Option Value) (base : Heap) : Prop := Fn P w K mg base "is_below" 1 (fun i : List Int × List Int => [.p (tupI i.1), .p (tupI i.2)]) (fun i => i.1.length ≤ 100) (fun i => .p (.bool (below i.1 i.2)))
theorem ok_is_below (TF : TopF K mg "is_below" sd_is_below) (B : Bi mg) : Fis_below P w K mg base := by
  refine fn_body TF sc_is_below (fun _ => rfl) (fun _ _ _ _ _ _ us hl => match us, hl with | [_, _], _ => rfl) fun f cdv A outer s H E i hr hok => ?_
  have hu := hr.units
  have hu5 := hr.u65
  have hN := sc_is_below.nd
  exact sw_one (s_ret (d_all (xs := i.1.zip i.2) (g := fun p => decide (p.1 ≤ p.2)) (d_lcA (onm := [("number", 2), ("more", 3)]) (enc := fun p : Int × Int => .tuple [.int p.1, .int p.2]) hN (blk_of (N := N_is_below) (sc := defScope sd_is_below) (by decide +kernel)) (di_zipT (f := .int) (g := .int) false false (dv 0 rfl) (dv 1 rfl) B.zip_) rfl
    (fun _ _ _ _ _ _ _ => ⟨[2, 3], by decide, gt_tup rfl (gts_cons (gt_name 2 hN) (gts_cons (gt_name 3 hN) gts_nil))⟩) (fun _ _ _ _ _ x _ => d_cmp o_le (dv 2 rfl).lend (dv 3 rfl).lend) (by rw [List.length_zip]; omega)) B.all_) rfl)
abbrev sd_is_of : Stmt := top 32
abbrev N_is_of : List Str := ["load", "frame", "other"]
theorem sc_is_of : FnScope N_is_of ["load", "frame"] (defScope sd_is_of) := ⟨rfl, rfl, rfl, by decide +kernel, rfl, by decide +kernel, by decide +kernel⟩
abbrev Fis_of (P : Program) (w : World) (K : PySem.W.Frag) (mg : Str → Option Value) (base : Heap) : Prop := Fn P w K mg base "is_of" 2 (fun i : List Int × Bool × List (List Int) => [.p (tupI i.1), sq i.2.1 (i.2.2.map tupI)]) (fun i => i.1.length ≤ 100 ∧ i.2.2.length ≤ 1000) (fun i => .p (.bool (isOf i.1 i.2.2)))
theorem ok_is_of (TF : TopF K mg "is_of" sd_is_of) (B : Bi mg) (G1 : Fis_below P w K mg base) : Fis_of P w K mg base := by
  refine fn_body TF sc_is_of (fun _ => rfl) (fun _ _ _ _ _ _ us hl => match us, hl with | [_, _], _ => rfl) fun f cdv A outer s H E i hr hok => ?_
  have hu := hr.units
  have hu5 := hr.u65
  have hN := sc_is_of.nd
  exact sw_one (s_ret (d_any (xs := i.2.2) (g := fun o => below i.1 o) (d_lcA (onm := [("other", 2)]) (enc := tupI) hN (blk_of (N := N_is_of) (sc := defScope sd_is_of) (by decide +kernel)) (di_sq (dv 1 rfl)) rfl (fun _ _ _ _ _ _ _ => ⟨[2], by decide, gt_name 2 hN⟩) (fun _ _ _ _ _ x _ => d_cl G1 hr (i.1, x) (da_cons (dv 0 rfl) (da_cons (dv 2 rfl) da_nil)) hok.1) (by omega)) B.any_) rfl)
abbrev sd_need_moves : Stmt := top 36
abbrev N_need_moves : List Str := ["moves"]
theorem sc_need_moves : FnScope N_need_moves ["moves"] (defScope sd_need_moves) := ⟨rfl, rfl, rfl, by decide +kernel, rfl, by decide +kernel, by decide +kernel⟩
abbrev Fneed_moves (P : Program) (w : World) (K : PySem.W.Frag) (mg : Str → Option Value) (base : Heap) : Prop := Fn P w K mg base "need_moves" 3 (fun i : Int => [.p (.int i)]) (fun i => 0 ≤ i ∧ i ≤ 20) (fun _ => .p .none)
theorem ok_need_moves (TF : TopF K mg "need_moves" sd_need_moves) (NU : Nu mg) (G1 : Fis_between P w K mg base) : Fneed_moves P w K mg base := by
  refine fn_body TF sc_need_moves (fun _ => rfl) (fun _ _ _ _ _ _ us hl => match us, hl with | [_], _ => rfl) fun f cdv A outer s H E i hr hok => ?_
  have hu := hr.units
  have hu5 := hr.u65
  have hN := sc_need_moves.nd
  obtain ⟨t1, h1⟩ := NU.mm
  exact sw_one (s_ifNo (dt_not (dt_val (d_cl G1 hr (i, 0, 20) (da_cons (dv 0 rfl) (da_cons d_int (da_cons (d_glob rfl h1) da_nil))) True.intro))) (by simp [between, hok.1, hok.2]) rfl)
abbrev sd_sides_of : Stmt := top 37
abbrev N_sides_of : List Str := ["switch"]
theorem sc_sides_of : FnScope N_sides_of ["switch"] (defScope sd_sides_of) := ⟨rfl, rfl, rfl, by decide +kernel, rfl, by decide +kernel, by decide +kernel⟩
abbrev Fsides_of (P : Program) (w : World) (K : PySem.W.Frag) (mg : Str → Option Value) (base : Heap) : Prop := Fn P w K mg base "sides_of" 1 (fun i : Sw => [.p (pSw i)]) (fun i => True) (fun i => .p (pPin (ends i)))
theorem ok_sides_of (TF : TopF K mg "sides_of" sd_sides_of) : Fsides_of P w K mg base := by
  refine fn_body TF sc_sides_of (fun _ => rfl) (fun _ _ _ _ _ _ us hl => match us, hl with | [_], _ => rfl) fun f cdv A outer s H E i hr hok => ?_
  have hu := hr.units
  have hu5 := hr.u65
  have hN := sc_sides_of.nd
  exact sw_one (s_ret (d_tp (dp_cons (d_ixT (d_ixT (dv 0 rfl) d_int rfl) d_int rfl) (dp_cons (d_ixT (d_ixT (dv 0 rfl) d_int rfl) d_int rfl) dp_nil))) rfl)
abbrev sd_load_of : Stmt := top 38
abbrev N_load_of : List Str := ["sides", "way", "joined", "switch", "pair"]
theorem sc_load_of : FnScope N_load_of ["sides", "way"] (defScope sd_load_of) := ⟨rfl, rfl, rfl, by decide +kernel, rfl, by decide +kernel, by decide +kernel⟩
abbrev Fload_of (P : Program) (w : World) (K : PySem.W.Frag) (mg : Str → Option Value) (base : Heap) : Prop := Fn P w K mg base "load_of" 2 (fun i : Int × Way => [.p (.int i.1), .p (pWay i.2)]) (fun i => 0 ≤ i.1 ∧ i.1 ≤ 5 ∧ i.2.length ≤ 1000) (fun i => .p (tupI (loadOf i.1 i.2)))
theorem ok_load_of (TF : TopF K mg "load_of" sd_load_of) (B : Bi mg) (G1 : Fsides_of P w K mg base) (G2 : Fpairs_of P w K mg base) : Fload_of P w K mg base := by
  refine fn_body TF sc_load_of (fun _ => rfl) (fun _ _ _ _ _ _ us hl => match us, hl with | [_, _], _ => rfl) fun f cdv A outer s H E i hr hok => ?_
  have hu := hr.units
  have hu5 := hr.u65
  have hN := sc_load_of.nd
  obtain ⟨h0, h5, hl⟩ := hok
  have hz := pairs_le i.1 h5
  refine sw_cons (s_asg 2 hN ((d_lcA (xs := i.2) (f := fun w => pPin (ends w)) (onm := [("switch", 3)]) (enc := pSw) hN (blk_of (N := N_load_of) (sc := defScope sd_load_of) (by decide +kernel)) (di_tup (dv 1 rfl)) rfl (fun _ _ _ _ _ _ _ => ⟨[3], by decide, gt_name 3 hN⟩) (fun _ _ _ _ _ x _ => d_cl G1 hr x (da_cons (dv 3 rfl) da_nil) True.intro) (by omega)).is (u := .p (.list ((i.2.map ends).map pPin))) (by rw [List.map_map]; rfl)) ?_)
  refine sw_one (s_ret (d_tuple ((d_lcA (xs := pairs i.1) (f := fun p => .int (cnt (i.2.map ends) p)) (onm := [("pair", 4)]) (enc := pPin) hN (blk_of (N := N_load_of) (sc := defScope sd_load_of) (by decide +kernel)) (di_list (d_cl G2 hr i.1 (da_cons (dv 0 rfl) da_nil) ⟨h0, h5⟩)) rfl (fun _ _ _ _ _ _ _ => ⟨[4], by decide, gt_name 4 hN⟩)
    (fun _ _ _ _ _ x _ => d_cnt eqv_pin lay_pin (by omega) al_pin hu (dv 2 rfl) (dv 4 rfl)) (by omega)).is (u := .p (.list ((loadOf i.1 i.2).map .int))) (by unfold loadOf; rw [List.map_map]; rfl)).lend B.tuple_) rfl)
abbrev sd_pins_of : Stmt := top 39
abbrev N_pins_of : List Str := ["way", "switch", "pin"]
theorem sc_pins_of : FnScope N_pins_of ["way"] (defScope sd_pins_of) := ⟨rfl, rfl, rfl, by decide +kernel, rfl, by decide +kernel, by decide +kernel⟩
abbrev Fpins_of (P : Program) (w : World) (K : PySem.W.Frag) (mg : Str → Option Value) (base : Heap) : Prop := Fn P w K mg base "pins_of" 1 (fun i : Way => [.p (pWay i)]) (fun i => i.length ≤ 1000) (fun i => .p (.list ((pinsOf i).map pPin)))
theorem pinsOf_len (w : Way) : (pinsOf w).length = 2 * w.length := by
  unfold pinsOf
  induction w with
  | nil => rfl
  | cons x w ih => rw [List.flatMap_cons, List.length_append, ih]; simp; omega
theorem ok_pins_of (TF : TopF K mg "pins_of" sd_pins_of) : Fpins_of P w K mg base := by
  refine fn_body TF sc_pins_of (fun _ => rfl) (fun _ _ _ _ _ _ us hl => match us, hl with | [_], _ => rfl) fun f cdv A outer s H E i hr hok => ?_
  have hu := hr.units
  have hu5 := hr.u65
  have hN := sc_pins_of.nd
  have e : (pinsOf i).map pPin = i.flatMap fun s => [s.1, s.2].map pPin := by unfold pinsOf; rw [List.map_flatMap]
  refine sw_one (s_ret ((d_lc2 (onm := [("switch", 1), ("pin", 2)]) (vs1 := [2]) rfl hN (blk_of (N := N_pins_of) (sc := defScope sd_pins_of) (by decide +kernel)) (by decide)
    (dl_lc2 (xs := i) (enc := pSw) (ys := fun s => [s.1, s.2]) (encB := pPin) (f := fun _ p => pPin p) (di_tup (dv 0 rfl)) (List.all_eq_true.mp rfl) (fun _ _ => List.all_eq_true.mp rfl) (fun _ _ _ _ _ _ _ => ⟨[1], by decide, gt_name 1 hN⟩)
      (fun _ _ _ _ _ x hx => di_tup (dv 1 rfl)) (fun _ _ _ _ _ x _ y _ => ⟨[2], by decide, gt_name 2 hN⟩) (fun _ _ _ _ _ x _ y _ => dv 2 rfl) ?_)).is (by rw [e])) rfl)
  have := pinsOf_len i
  rw [← e, List.length_map]
  omega
abbrev sd_load_with : Stmt := top 44
abbrev N_load_with : List Str := ["sides", "load", "pair", "one", "number"]
theorem sc_load_with : FnScope N_load_with ["sides", "load", "pair"] (defScope sd_load_with) := ⟨rfl, rfl, rfl, by decide +kernel, rfl, by decide +kernel, by decide +kernel⟩
abbrev Fload_with (P : Program) (w : World) (K : PySem.W.Frag) (mg : Str → Option Value) (base : Heap) : Prop := Fn P w K mg base "load_with" 2 (fun i : Int × List Int × Pin => [.p (.int i.1), .p (tupI i.2.1), .p (pPin i.2.2)]) (fun i => 0 ≤ i.1 ∧ i.1 ≤ 5) (fun i => .p (tupI (withP i.1 i.2.1 i.2.2)))
theorem ok_load_with (TF : TopF K mg "load_with" sd_load_with) (B : Bi mg) (G2 : Fpairs_of P w K mg base) : Fload_with P w K mg base := by
  refine fn_body TF sc_load_with (fun _ => rfl) (fun _ _ _ _ _ _ us hl => match us, hl with | [_, _, _], _ => rfl) fun f cdv A outer s H E i hr hok => ?_
  have hu := hr.units
  have hu5 := hr.u65
  have hN := sc_load_with.nd
  obtain ⟨h0, h5⟩ := hok
  have hz := pairs_le i.1 h5
  refine sw_one (s_ret (d_tuple ((d_lcA (xs := (pairs i.1).zip i.2.1) (f := fun x => .int (x.2 + (if decide (x.1 = i.2.2) = true then 1 else 0))) (onm := [("one", 3), ("number", 4)]) (enc := fun p : Pin × Int => .tuple [pPin p.1, .int p.2]) hN (blk_of (N := N_load_with) (sc := defScope sd_load_with) (by decide +kernel)) (di_zipT (f := pPin) (g := .int) true false (d_cl G2 hr i.1 (da_cons (dv 0 rfl) da_nil) ⟨h0, h5⟩) (dv 1 rfl) B.zip_) rfl
    (fun _ _ _ _ _ _ _ => ⟨[3, 4], by decide, gt_tup rfl (gts_cons (gt_name 3 hN) (gts_cons (gt_name 4 hN) gts_nil))⟩)
    (fun _ _ _ _ _ x _ => d_bin o_add (dv 4 rfl).lend (d_callT c_intB (d_cmp (o_eqD eqv_pin lay_pin (by omega) hu) (dv 3 rfl).lend (dv 2 rfl).lend).lend B.int_).lend) (by rw [List.length_zip]; omega)).is (u := .p (.list ((withP i.1 i.2.1 i.2.2).map .int))) (by unfold withP; rw [List.map_map]; simp only [decide_eq_true_eq]; rfl)).lend B.tuple_) rfl)
abbrev sd_moved_in : Stmt := top 48
abbrev N_moved_in : List Str := ["standing", "other", "switch"]
theorem sc_moved_in : FnScope N_moved_in ["standing", "other"] (defScope sd_moved_in) := ⟨rfl, rfl, rfl, by decide +kernel, rfl, by decide +kernel, by decide +kernel⟩
abbrev Fmoved_in (P : Program) (w : World) (K : PySem.W.Frag) (mg : Str → Option Value) (base : Heap) : Prop := Fn P w K mg base "moved_in" 1 (fun i : Way × Way => [.p (pWay i.1), .p (pWay i.2)]) (fun i => i.1.length ≤ 1000) (fun i => .p (.int ((moved i.1 i.2 : Nat) : Int)))
theorem ok_moved_in (TF : TopF K mg "moved_in" sd_moved_in) (B : Bi mg) : Fmoved_in P w K mg base := by
  refine fn_body TF sc_moved_in (fun _ => rfl) (fun _ _ _ _ _ _ us hl => match us, hl with | [_, _], _ => rfl) fun f cdv A outer s H E i hr hok => ?_
  have hu := hr.units
  have hu5 := hr.u65
  have hN := sc_moved_in.nd
  refine sw_one (s_ret (d_len (k := true) (d_lcF (xs := i.1) (f := pSw) (k := fun s => !mem s i.2) (onm := [("switch", 2)]) (enc := pSw) hN (blk_of (N := N_moved_in) (sc := defScope sd_moved_in) (by decide +kernel)) (di_tup (dv 0 rfl)) rfl (fun _ _ _ _ _ _ _ => ⟨[2], by decide, gt_name 2 hN⟩)
    (fun _ _ _ _ _ x _ => dt_cmp (o_ninUD eqv_sw lay_sw (by omega) hu5) (dv 2 rfl).lend (dv 1 rfl).lend) (fun _ _ _ _ _ x _ _ => dv 2 rfl) (by omega)) (by rw [List.length_map]; rfl) B.len_) rfl)
abbrev sd_left_by : Stmt := top 49
abbrev N_left_by : List Str := ["standing", "switch", "wire"]
theorem sc_left_by : FnScope N_left_by ["standing", "switch"] (defScope sd_left_by) := ⟨rfl, rfl, rfl, by decide +kernel, rfl, by decide +kernel, by decide +kernel⟩
abbrev Fleft_by (P : Program) (w : World) (K : PySem.W.Frag) (mg : Str → Option Value) (base : Heap) : Prop := Fn P w K mg base "left_by" 1 (fun i : Way × Sw => [.p (pWay i.1), .p (pSw i.2)]) (fun i => i.1.length ≤ 1000) (fun i => .p (pWay (leftBy i.1 i.2)))
theorem ok_left_by (TF : TopF K mg "left_by" sd_left_by) (B : Bi mg) : Fleft_by P w K mg base := by
  refine fn_body TF sc_left_by (fun _ => rfl) (fun _ _ _ _ _ _ us hl => match us, hl with | [_, _], _ => rfl) fun f cdv A outer s H E i hr hok => ?_
  have hu := hr.units
  have hu5 := hr.u65
  have hN := sc_left_by.nd
  exact sw_one (s_ret (d_tuple (d_lcF (xs := i.1) (f := pSw) (k := fun s => !decide (s = i.2)) (onm := [("wire", 2)]) (enc := pSw) hN (blk_of (N := N_left_by) (sc := defScope sd_left_by) (by decide +kernel)) (di_tup (dv 0 rfl)) rfl (fun _ _ _ _ _ _ _ => ⟨[2], by decide, gt_name 2 hN⟩)
    (fun _ _ _ _ _ x _ => dt_cmp (o_neD eqv_sw lay_sw (by omega) hu) (dv 2 rfl).lend (dv 1 rfl).lend) (fun _ _ _ _ _ x _ _ => dv 2 rfl) (by omega)).lend B.tuple_) rfl)
end
end Ac
-- part L1
set_option maxHeartbeats 4000000
set_option Elab.async false
set_option maxRecDepth 100000
set_option linter.all false
/-! Ac, plain: what sorting gives. -/
namespace Ac
open PySem PySem.Spec PyProof.Rows L2
abbrev dle (a b : PyData) : Bool := PySem.W.dataLe false id a b
theorem dle_eq (a b : PyData) : dle a b = !PySem.W.dataLt b a := rfl
theorem dle_total : PySem.W.TotalLe dle := PySem.W.sortLe_total (listOrd itemOrd) false (fun d : PyData => PySem.W.keyToks d)
theorem lt_le {a b : PyData} (h : PySem.W.dataLt a b = true) : dle a b = true := by
  rcases dle_total.total a b with q | q
  · exact q
  · rw [dle_eq, h] at q; cases q
theorem lt_irr (a : PyData) : PySem.W.dataLt a a = false := by
  have := dle_total.refl a
  rw [dle_eq] at this
  cases h : PySem.W.dataLt a a
  · rfl
  · rw [h] at this; cases this
theorem lt_tr {a b c : PyData} (h1 : PySem.W.dataLt a b = true) (h2 : PySem.W.dataLt b c = true) : PySem.W.dataLt a c = true := by
  cases h : PySem.W.dataLt a c with
  | true => rfl
  | false =>
    have q : dle c a = true := by rw [dle_eq, h]; rfl
    have q2 := dle_total.trans _ _ _ q (lt_le h1)
    rw [dle_eq, h2] at q2
    cases q2
/-- strictly ascending -/
abbrev Asc (ds : List PyData) : Prop := ds.Pairwise fun a b => PySem.W.dataLt a b = true
theorem srt_perm (ds : List PyData) : (srt ds).Perm ds := List.mergeSort_perm _ _
theorem srt_pw (ds : List PyData) : (srt ds).Pairwise fun a b => dle a b = true := PySem.W.sort_pairwise dle_total ds
theorem asc_anti {ds : List PyData} (h : Asc ds) : ∀ a ∈ ds, ∀ b ∈ ds, dle a b = true → dle b a = true → a = b := by
  intro a ha b hb h1 h2
  rw [dle_eq] at h1 h2
  induction h with
  | nil => cases ha
  | @cons x l hx _ ih =>
    rcases List.mem_cons.mp ha with e | ha
    · rcases List.mem_cons.mp hb with e' | hb
      · rw [e, e']
      · have := hx b hb; rw [← e] at this; rw [this] at h2; cases h2
    · rcases List.mem_cons.mp hb with e' | hb
      · have := hx a ha; rw [← e'] at this; rw [this] at h1; cases h1
      · exact ih ha hb
/-- sorting what is a rearrangement of an ascending list gives that list -/
theorem srt_uniq {xs ys : List PyData} (p : xs.Perm ys) (h : Asc ys) : srt xs = ys := by
  have pp : (srt xs).Perm ys := (srt_perm xs).trans p
  refine List.Perm.eq_of_pairwise (le := fun a b => dle a b = true) ?_ (srt_pw xs) (h.imp fun q => lt_le q) pp
  intro a b ha hb h1 h2
  exact asc_anti h a (pp.mem_iff.mp ha) b hb h1 h2
/-- sorting things that differ: ascending -/
theorem srt_asc {xs : List PyData} (hn : xs.Nodup) (hs : ∀ a ∈ xs, ∀ b ∈ xs, dle a b = true → dle b a = true → a = b) : Asc (srt xs) := by
  have hn' : (srt xs).Nodup := (srt_perm xs).nodup_iff.mpr hn
  have hm : ∀ a, a ∈ srt xs → a ∈ xs := fun a h => (srt_perm xs).mem_iff.mp h
  have q := srt_pw xs
  generalize srt xs = ys at hn' hm q
  induction q with
  | nil => exact .nil
  | @cons x l hx _ ih =>
    rw [List.nodup_cons] at hn'
    refine .cons (fun b hb => ?_) (ih hn'.2 fun a h => hm a (List.mem_cons_of_mem _ h))
    cases h : PySem.W.dataLt x b with
    | true => rfl
    | false =>
      have e := hs x (hm x List.mem_cons_self) b (hm b (List.mem_cons_of_mem _ hb)) (hx b hb) (by rw [dle_eq, h]; rfl)
      rw [e] at hn'
      exact absurd hb hn'.1
theorem asc_rising {ds : List PyData} (h : Asc ds) : ∀ (i : Nat) (a b : PyData), ds[i]? = some a → ds[i + 1]? = some b → PySem.W.dataLt a b = true := by
  intro i a b h1 h2
  obtain ⟨l1, e1⟩ := List.getElem?_eq_some_iff.mp h1
  obtain ⟨l2, e2⟩ := List.getElem?_eq_some_iff.mp h2
  have := List.pairwise_iff_getElem.mp h i (i + 1) l1 l2 (by omega)
  rw [e1, e2] at this
  exact this
theorem asc_nodup {ds : List PyData} (h : Asc ds) : ds.Nodup := h.imp fun {a b} q e => by rw [e, lt_irr] at q; cases q
/-- typed things, by their data -/
abbrev AscT {α : Type} (f : α → PyData) (xs : List α) : Prop := Asc (xs.map f)
theorem ascT_iff {α : Type} {f : α → PyData} {xs : List α} : AscT f xs ↔ xs.Pairwise fun a b => PySem.W.dataLt (f a) (f b) = true := List.pairwise_map
noncomputable def srtT {α : Type} (f : α → PyData) (xs : List α) : List α := xs.mergeSort fun a b => dle (f a) (f b)
theorem srtT_map {α : Type} (f : α → PyData) (xs : List α) : srt (xs.map f) = (srtT f xs).map f := (PySem.W.sort_maps f fun _ _ _ _ => rfl).symm
theorem srtT_perm {α : Type} (f : α → PyData) (xs : List α) : (srtT f xs).Perm xs := List.mergeSort_perm _ _
theorem eqv_ne {α : Type} [DecidableEq α] {f : α → PyData} (h : ∀ a b, PyData.eqv (f a) (f b) = decide (a = b)) (hal : ∀ a b, PySem.W.alike (f a) (f b) = true) {a b : α} (h1 : dle (f a) (f b) = true) (h2 : dle (f b) (f a) = true) : a = b := by
  by_cases e : a = b
  · exact e
  · exfalso
    have q : PyData.eqv (f a) (f b) = false := by rw [h]; exact decide_eq_false e
    have t : PySem.W.keyToks (f a) = PySem.W.keyToks (f b) := by
      refine (listOrd itemOrd).total _ _ ?_ ?_
      · rw [dle_eq, Bool.not_eq_true'] at h2; exact h2
      · rw [dle_eq, Bool.not_eq_true'] at h1; exact h1
    have z := (PySem.W.toks_eqv _ _ (hal a b)).2 q [] [.inl 0]
    rw [← t, PySem.W.lex_pre] at z
    have z2 : PyProof.Rows.lexLt itemOrd (PySem.W.keyToks (f a)) (PySem.W.keyToks (f a)) = false := lex_irrefl _
    rw [z2] at z
    exact absurd z (by decide)
/-- typed things that differ: sorted, they ascend -/
theorem srtT_asc {α : Type} [DecidableEq α] {f : α → PyData} (h : ∀ a b, PyData.eqv (f a) (f b) = decide (a = b)) (hal : ∀ a b, PySem.W.alike (f a) (f b) = true) {xs : List α} (hn : xs.Nodup) : AscT f (srtT f xs) := by
  have hi : ∀ a b, f a = f b → a = b := fun a b e => eqv_ne h hal (by rw [e]; exact dle_total.refl _) (by rw [e]; exact dle_total.refl _)
  unfold AscT
  rw [← srtT_map]
  refine srt_asc ?_ fun x hx y hy h1 h2 => ?_
  · exact List.pairwise_map.mpr (hn.imp fun {a b} hne e => hne (hi a b e))
  · obtain ⟨a, _, rfl⟩ := List.mem_map.mp hx
    obtain ⟨b, _, rfl⟩ := List.mem_map.mp hy
    rw [eqv_ne h hal h1 h2]
theorem inj_of {α : Type} [DecidableEq α] {f : α → PyData} (h : ∀ a b, PyData.eqv (f a) (f b) = decide (a = b)) (hal : ∀ a b, PySem.W.alike (f a) (f b) = true) {a b : α} (e : f a = f b) : a = b := eqv_ne h hal (by rw [e]; exact dle_total.refl _) (by rw [e]; exact dle_total.refl _)
theorem srtT_uniq {α : Type} [DecidableEq α] {f : α → PyData} (h : ∀ a b, PyData.eqv (f a) (f b) = decide (a = b)) (hal : ∀ a b, PySem.W.alike (f a) (f b) = true) {xs ys : List α} (p : xs.Perm ys) (ha : AscT f ys) : srtT f xs = ys :=
  map_inj (f := f) (fun a b => inj_of h hal) (by rw [← srtT_map]; exact srt_uniq (p.map f) ha)
theorem srtT_perm_eq {α : Type} [DecidableEq α] {f : α → PyData} (h : ∀ a b, PyData.eqv (f a) (f b) = decide (a = b)) (hal : ∀ a b, PySem.W.alike (f a) (f b) = true) {xs ys : List α} (p : xs.Perm ys) (hn : xs.Nodup) : srtT f xs = srtT f ys :=
  srtT_uniq h hal (p.trans (srtT_perm f ys).symm) (srtT_asc h hal (p.nodup_iff.mp hn))
/-! ### loads: the order by code -/
theorem code_ltI {B : Int} : ∀ {a b : List Int}, a.length = b.length → TS.Bd B a → TS.Bd B b → TS.code B a < TS.code B b → a < b
  | [], [], _, _, _, h => absurd h (Int.lt_irrefl _)
  | [], _ :: _, hl, _, _, _ => by simp at hl
  | _ :: _, [], hl, _, _, _ => by simp at hl
  | x :: xs, y :: ys, hl, h1, h2, h => by
    have hl' : xs.length = ys.length := by simpa using hl
    rw [List.cons_lt_cons_iff]
    rcases Int.lt_trichotomy x y with q | q | q
    · exact .inl q
    · subst q
      exact .inr ⟨rfl, code_ltI hl' h1.tail h2.tail ((TS.code_same hl').mp h)⟩
    · have := TS.code_lt hl'.symm h2.tail h1.tail q
      omega
theorem code_inj {B : Int} : ∀ {a b : List Int}, a.length = b.length → TS.Bd B a → TS.Bd B b → TS.code B a = TS.code B b → a = b
  | [], [], _, _, _, h => rfl
  | [], _ :: _, hl, _, _, _ => by simp at hl
  | _ :: _, [], hl, _, _, _ => by simp at hl
  | x :: xs, y :: ys, hl, h1, h2, h => by
    have hl' : xs.length = ys.length := by simpa using hl
    rcases Int.lt_trichotomy x y with q | q | q
    · have := TS.code_lt hl' h1.tail h2.tail q
      omega
    · subst q
      have e : TS.code B xs = TS.code B ys := by
        have h' : x * B ^ xs.length + TS.code B xs = x * B ^ ys.length + TS.code B ys := h
        rw [hl'] at h'
        omega
      rw [code_inj hl' h1.tail h2.tail e]
    · have := TS.code_lt hl'.symm h2.tail h1.tail q
      omega
theorem dataLt_tupI (a b : List Int) : PySem.W.dataLt (tupI a) (tupI b) = decide (a < b) := by
  unfold tupI
  rw [PySem.W.dataLt_tuple]
  exact PySem.W.dataLt_ints a b
/-- loads of one length, small -/
def LoadsOk (n : Nat) (ls : List (List Int)) : Prop := ∀ q ∈ ls, q.length = n ∧ TS.Bd 256 q
/-- in the order of their codes: THE list -/
theorem codes_uniq {n : Nat} {ys zs : List (List Int)} (ok : LoadsOk n ys) (ha : AscT tupI ys) (hz : zs.Pairwise fun q r => TS.code 256 q ≤ TS.code 256 r) (hn : zs.Nodup) (hm : ∀ q, q ∈ zs ↔ q ∈ ys) : zs = ys := by
  have okz : LoadsOk n zs := fun q hq => ok q ((hm q).mp hq)
  have az : AscT tupI zs := by
    rw [ascT_iff]
    refine (List.Pairwise.and hz hn).imp_of_mem fun {a b} h1 h2 ⟨q, ne⟩ => ?_
    rw [dataLt_tupI]
    obtain ⟨l1, b1⟩ := okz a h1
    obtain ⟨l2, b2⟩ := okz b h2
    refine decide_eq_true (code_ltI (l1.trans l2.symm) b1 b2 ?_)
    rcases Int.lt_or_eq_of_le q with z | z
    · exact z
    · exact absurd (code_inj (l1.trans l2.symm) b1 b2 z) ne
  have hy : ys.Nodup := (ascT_iff.mp ha).imp fun {a b} q e => by rw [e, lt_irr] at q; cases q
  have p : zs.Perm ys := (List.perm_ext_iff_of_nodup hn hy).mpr hm
  exact map_inj (f := tupI) (fun a b => inj_of eqv_tupI al_tupI) (List.Perm.eq_of_pairwise (le := fun a b => PySem.W.dataLt a b = true) (fun a b _ _ h1 h2 => by have := lt_tr h1 h2; rw [lt_irr] at this; cases this) az ha (p.map tupI))
end Ac
-- part C4
set_option maxHeartbeats 4000000
set_option Elab.async false
set_option maxRecDepth 100000
set_option linter.all false
namespace Ac
open PySem PySem.Spec PyProof.Rows L2
section
variable {X : Cx} {a : Expr} {dl : List Sl} {pos p p2 pos2 : Pos}
/-- sorted, of typed tuples -/
theorem d_sortT {α : Type} {f : α → PyData} {n : Nat} {xs : List α} {A : Around} (hal : ∀ a b, PySem.W.alike (f a) (f b) = true) (ht : ∀ a, ∃ ds, f a = .tuple ds) (hl : ∀ a, Lay n (f a)) (hn : n ≤ 30) (hu : A.units + 64 < cLine) (h : DB X a dl (.p (.list (xs.map f)))) (hm : X.mg "sorted" = none) (hA : X.A = A := by rfl) (hg : Gl X "sorted" := by rfl)
    (he : starEach [a] X.env = (false, eval a X.env) :: starEach [] X.env := by rfl) : DE X (.Call (.Name "sorted" p) [a] [] pos) dl (.p (.list ((srtT f xs).map f))) := by
  subst hA
  rw [← srtT_map]
  refine d_callB (c_sorted hu (fun d hd d' hd' => ?_) (.inl fun d hd => ?_) fun d hd => ?_) h hm hg (by decide +kernel) (by decide) (by decide) he
  · obtain ⟨x, _, rfl⟩ := List.mem_map.mp hd
    obtain ⟨y, _, rfl⟩ := List.mem_map.mp hd'
    exact hal x y
  · obtain ⟨x, _, rfl⟩ := List.mem_map.mp hd
    exact ht x
  · obtain ⟨x, _, rfl⟩ := List.mem_map.mp hd
    have := (hl x).2
    omega
/-- sorted(set(..)) of loads -/
theorem d_sortSetT {k : Bool} {n : Nat} {kss ys : List (List Int)} {A : Around} (hu : A.units + 64 < cLine) (ha : DE X a dl (sq k (kss.map tupI))) (hn : 1 ≤ n) (ok : LoadsOk n ys) (hy : AscT tupI ys) (hl : ys.length ≤ 62) (hmem : ∀ q, q ∈ ys ↔ q ∈ kss) (hm : X.mg "set" = none) (hms : X.mg "sorted" = none) (hA : X.A = A := by rfl) (hc : X.calm = true := by rfl) (hg : Gl X "set" := by rfl) (hgs : Gl X "sorted" := by rfl)
    (hs : starEach [a] X.env = (false, eval a X.env) :: starEach [] X.env := by rfl) (hs2 : starEach [Expr.Call (.Name "set" p2) [a] [] pos2] X.env = (false, eval (Expr.Call (.Name "set" p2) [a] [] pos2) X.env) :: starEach [] X.env := by rfl) :
    DE X (.Call (.Name "sorted" p) [.Call (.Name "set" p2) [a] [] pos2] [] pos) dl (.p (.list (ys.map tupI))) := by
  subst hA
  exact d_sortSet n hc hu ha hn (fun q hq => ok q ((hmem q).mpr hq)) hl hmem (fun zs h1 h2 h3 => codes_uniq ok hy h1 h2 h3) hm hms hg hgs hs hs2
end
theorem tup_way (w : Way) : ∃ ds, pWay w = .tuple ds := ⟨_, rfl⟩
theorem tup_tupI (w : List Int) : ∃ ds, tupI w = .tuple ds := ⟨_, rfl⟩
theorem tup_sw (w : Sw) : ∃ ds, pSw w = .tuple ds := ⟨_, rfl⟩
/-- (-sum, load) -/
def pTot (l : List Int) : PyData := .tuple [.int (-l.sum), tupI l]
theorem al_tot (a b : List Int) : PySem.W.alike (pTot a) (pTot b) = true := by
  unfold pTot
  rw [PySem.W.alike, PySem.W.alikeAll, PySem.W.alikeAll, PySem.W.alikeAll, al_tupI, al_int]
  rfl
theorem lay_tot (l : List Int) : Lay 2 (pTot l) := lay_tup fun d hd => by
  simp only [List.mem_cons, List.not_mem_nil, or_false] at hd
  rcases hd with rfl | rfl
  · exact (lay_int _).mono (by omega)
  · exact lay_tupI l
/-- greatest loads: none below another, ascending -/
structure Tops (n : Nat) (ls : List (List Int)) : Prop where
  ok : LoadsOk n ls
  asc : AscT tupI ls
  anti : ∀ a ∈ ls, ∀ b ∈ ls, below a b = true → a = b
  few : ls.length ≤ 62
section
variable {P : Program} {w : World} {K : PySem.W.Frag} {mg : Str → Option Value} {base : Heap}
abbrev sd_greatest_of : Stmt := top 33
abbrev N_greatest_of : List Str := ["loads", "kept", "last", "last_total", "load", "total"]
theorem sc_greatest_of : FnScope N_greatest_of ["loads"] (defScope sd_greatest_of) := ⟨rfl, rfl, rfl, by decide +kernel, rfl, by decide +kernel, by decide +kernel⟩
abbrev Fgreatest_of (P : Program) (w : World) (K : PySem.W.Frag) (mg : Str → Option Value) (base : Heap) : Prop := Fn P w K mg base "greatest_of" 3 (fun i : Nat × List (List Int) => [.p (.tuple (i.2.map tupI))]) (fun i => 1 ≤ i.1 ∧ i.1 ≤ 100 ∧ Tops i.1 i.2) (fun i => .p (.list (i.2.map tupI)))
/-- the slots in the loop -/
def cGreat (ls : List (List Int)) (s : List (List Int) × List (List Int) × PyData) : List Sl := [.t (.p (.tuple (ls.map tupI))), .t (.p (.list (s.1.map tupI))), .ol (s.2.1.map tupI), .t (.p s.2.2), .no, .no]
theorem ok_greatest_of (TF : TopF K mg "greatest_of" sd_greatest_of) (B : Bi mg) (G1 : Fis_of P w K mg base) : Fgreatest_of P w K mg base := by
  refine fn_body TF sc_greatest_of (fun _ => rfl) (fun _ _ _ _ _ _ us hl => match us, hl with | [_], _ => rfl) fun f cdv A outer s H E i hr hok => ?_
  have hu := hr.units
  have hu5 := hr.u65
  have hN := sc_greatest_of.nd
  obtain ⟨h1, h100', tp⟩ := hok
  obtain ⟨n, ls⟩ := i
  have hfew : ls.length ≤ 62 := tp.few
  refine sw_cons (s_par3 1 2 3 rfl hN (dfs_val (d_ls dp_nil) (dfs_own (df_lst dp_nil (Nat.zero_le _)) (dfs_val d_non dfs_nil))) ?_)
  have pq := srtT_perm pTot ls
  refine sw_for (ds := (srtT pTot ls).map pTot) (S := List (List Int) × List (List Int) × PyData)
    (di_list (d_sortT al_tot (fun _ => ⟨_, rfl⟩) lay_tot (by omega) hu
      (d_lcA (xs := ls) (f := pTot) (onm := [("load", 4)]) (enc := tupI) hN (blk_of (N := N_greatest_of) (sc := defScope sd_greatest_of) (by decide +kernel)) (di_list (d_sortSetT (k := false) (kss := ls) hu (dv 0 rfl) h1 tp.ok tp.asc tp.few (fun _ => Iff.rfl) B.set_ B.sorted_)) rfl (fun _ _ _ _ _ _ _ => ⟨[4], by decide, gt_name 4 hN⟩)
        (fun _ _ _ _ _ x _ => d_tp (dp_cons (d_neg (d_callB (c_sumT rfl) (dv 4 rfl).lend B.sum_)) (dp_cons (dv 4 rfl) dp_nil))) (by omega)).lend B.sorted_))
    (cGreat ls) (fun i s => s.1 ++ s.2.1 = (srtT pTot ls).take i ∧ Lay 0 s.2.2) ([], [], .none) (.refl _) ⟨rfl, lay_none⟩ (fun i d s hd hs => ?_) (fun s hs => ?_)
  · rw [List.getElem?_map] at hd
    obtain ⟨q, hq, rfl⟩ := Option.map_eq_some_iff.mp hd
    obtain ⟨kept, last, lt⟩ := s
    obtain ⟨hs, hlay⟩ := hs
    have hs' : kept ++ last = (srtT pTot ls).take i := hs
    have hlay' : Lay 0 lt := hlay
    have nd : (srtT pTot ls).Nodup := (pq.nodup_iff).mpr ((ascT_iff.mp tp.asc).imp fun {a b} q e => by rw [e, lt_irr] at q; cases q)
    have hi : i < (srtT pTot ls).length := (List.getElem?_eq_some_iff.mp hq).1
    have hlen : (srtT pTot ls).length = ls.length := pq.length_eq
    have sub : ∀ k ∈ kept, k ∈ ls ∧ k ≠ q := fun k hk => by
      have m : k ∈ (srtT pTot ls).take i := by rw [← hs']; exact List.mem_append_left _ hk
      refine ⟨pq.mem_iff.mp (List.mem_of_mem_take m), fun e => ?_⟩
      subst e
      obtain ⟨j, hj, ej⟩ := List.mem_iff_getElem.mp m
      rw [List.length_take] at hj
      rw [List.getElem_take] at ej
      have ei := (List.getElem?_eq_some_iff.mp hq).2
      have := (List.pairwise_iff_getElem.mp nd) j i (by omega) hi (by omega)
      exact this (ej.trans ei.symm)
    have hq' : q ∈ ls := pq.mem_iff.mp (List.mem_of_getElem? hq)
    have hlk : kept.length + last.length ≤ 62 := by
      have e := congrArg List.length hs'
      rw [List.length_append, List.length_take] at e
      have : min i (srtT pTot ls).length ≤ (srtT pTot ls).length := Nat.min_le_right _ _
      omega
    have nx : (srtT pTot ls).take (i + 1) = (srtT pTot ls).take i ++ [q] := take_snoc hq
    refine ⟨[5, 4], _, gt_tup rfl (gts_cons (gt_name 5 hN) (gts_cons (gt_name 4 hN) gts_nil)), ?_⟩
    refine sw_if (S := List (List Int) × List (List Int) × PyData) (fun s => [.t (.p (.tuple (ls.map tupI))), .t (.p (.list (s.1.map tupI))), .ol (s.2.1.map tupI), .t (.p s.2.2), .t (.p (tupI q)), .t (.p (.int (-q.sum)))])
      (fun s => s.1 ++ s.2.1 = kept ++ last ∧ Lay 0 s.2.2) (dt_cmp (o_ne hu ((lay_int _).sh (by omega)) (hlay'.sh (by omega))) (dv 5 rfl).lend (dv 3 rfl).lend) (fun _ => ?_) (fun _ => sw_nil ⟨(kept, last, lt), .refl _, rfl, hlay'⟩) fun s hs2 => ?_
    · refine sw_one (s_par3 1 2 3 rfl hN (dfs_val (d_lst (dp_starL (dv 1 rfl).lend (dp_starL (dvo 2 rfl) dp_nil)) (by simp; omega)) (dfs_own (df_lst dp_nil (Nat.zero_le _)) (dfs_val (dv 5 rfl) dfs_nil))) ?_)
      refine ⟨(kept ++ last, [], .int (-q.sum)), ?_, by simp, lay_int _⟩
      have e : (kept ++ last).map tupI = kept.map tupI ++ (last.map tupI ++ []) := by rw [List.append_nil, List.map_append]
      rw [show ((kept ++ last, ([] : List (List Int)), PyData.int (-q.sum)) : List (List Int) × List (List Int) × PyData).1 = kept ++ last from rfl, e]
      exact .refl _
    · obtain ⟨kept', last', lt'⟩ := s
      obtain ⟨hs3, hlay3⟩ := hs2
      have hs3' : kept' ++ last' = kept ++ last := hs3
      have hk : ∀ k ∈ kept', below q k = false := fun k hk => by
        have m : k ∈ kept' ++ last' := List.mem_append_left _ hk
        rw [hs3', hs'] at m
        have hkl : k ∈ ls := pq.mem_iff.mp (List.mem_of_mem_take m)
        cases hb : below q k with
        | false => rfl
        | true =>
          exfalso
          have e := tp.anti q hq' k hkl hb
          subst e
          obtain ⟨j, hj, ej⟩ := List.mem_iff_getElem.mp m
          rw [List.length_take] at hj
          rw [List.getElem_take] at ej
          have ei := (List.getElem?_eq_some_iff.mp hq).2
          exact (List.pairwise_iff_getElem.mp nd) j i (by omega) hi (by omega) (ej.trans ei.symm)
      have hl3 : kept'.length + last'.length ≤ 62 := by
        have e := congrArg List.length hs3'
        rw [List.length_append, List.length_append] at e
        omega
      have hiof : isOf q kept' = false := by
        unfold isOf
        rw [List.any_eq_false]
        intro k hk'
        rw [hk k hk']
        decide
      have hql := (tp.ok q hq').1
      refine sw_one (s_ifYes (dt_not (dt_val (d_cl G1 hr (q, true, kept') (da_cons (dv 4 rfl) (da_cons (dv 1 rfl) da_nil)) ⟨by show q.length ≤ 100; omega, by show kept'.length ≤ 1000; omega⟩))) (by rw [show isOf (q, true, kept').1 (q, true, kept').2.2 = isOf q kept' from rfl, hiof]; rfl) ?_)
      refine sw_one (s_app 2 rfl (dv 4 rfl) (by rw [List.length_map]; show last'.length < 100000; omega) ⟨(kept', last' ++ [q], lt'), ?_, ?_, hlay3⟩)
      · have e : (last' ++ [q]).map tupI = last'.map tupI ++ [tupI q] := by rw [List.map_append]; rfl
        refine Wk.of [4, 5] ?_
        unfold cGreat
        rw [show ((kept', last' ++ [q], lt') : List (List Int) × List (List Int) × PyData).2.1 = last' ++ [q] from rfl, e]
        rfl
      · show kept' ++ (last' ++ [q]) = _
        rw [← List.append_assoc, hs3', hs', nx]
  · obtain ⟨kept, last, lt⟩ := s
    obtain ⟨hs, hlay⟩ := hs
    have hs' : kept ++ last = (srtT pTot ls).take _ := hs
    rw [List.length_map, List.take_length] at hs'
    have hl3 : kept.length + last.length ≤ 62 := by
      have e := congrArg List.length hs'
      rw [List.length_append, pq.length_eq] at e
      omega
    refine sw_one (s_ret ((d_sortT (xs := kept ++ last) al_tupI tup_tupI lay_tupI (by omega) hu ((d_lst (dp_starL (dv 1 rfl).lend (dp_starL (dvo 2 rfl) dp_nil)) (by simp; omega)).is (by rw [List.append_nil, List.map_append])).lend B.sorted_).is ?_) rfl)
    rw [srtT_uniq eqv_tupI al_tupI (by rw [hs']; exact pq) tp.asc]
end
end Ac
-- part C5
set_option maxHeartbeats 4000000
set_option Elab.async false
set_option maxRecDepth 100000
set_option linter.all false
namespace Ac
open PySem PySem.Spec PyProof.Rows L2
/-- a frame of a box of so many sides -/
structure FrOk (s : Int) (fr : List (List Int)) : Prop where
  tops : Tops (pairs s).length fr
  ne : fr ≠ []
  w99 : ∀ q ∈ fr, ∀ n ∈ q, 0 ≤ n ∧ n ≤ 99
/-- a box's numbers and switches -/
structure BxOk (b : Bx) : Prop where
  s2 : 2 ≤ b.s
  s5 : b.s ≤ 5
  t1 : 1 ≤ b.t
  t6 : b.t ≤ 6
  few : b.sw.length ≤ 8
  ok : ∀ s ∈ b.sw, swOk s b.s b.t = true
  asc : AscT pSw b.sw
/-- a way of a box -/
structure WayOk (b : Bx) (w : Way) : Prop where
  sub : ∀ s ∈ w, s ∈ b.sw
  asc : AscT pSw w
  pins : (pinsOf w).Nodup
  few : w.length ≤ 30
/-- a standing -/
structure StOk (b : Bx) (fr : List (List Int)) (w : Way) : Prop where
  way : WayOk b w
  of_ : isOf (loadOf b.s w) fr = true
theorem loadOf_len (s : Int) (w : Way) : (loadOf s w).length = (pairs s).length := by unfold loadOf; rw [List.length_map]
theorem rising_of {α : Type} {f : α → PyData} {n : Nat} {xs : List α} (hal : ∀ a b, PySem.W.alike (f a) (f b) = true) (hl : ∀ a, Lay n (f a)) (hn : n ≤ 30) (ht : ∀ a, ∃ ds, f a = .tuple ds) (h : AscT f xs) (hz : xs.length ≤ 100000) : Rising (xs.map f) := by
  refine ⟨fun d hd d' hd' => ?_, fun d hd => ?_, asc_rising h, by rw [List.length_map]; exact hz⟩
  · obtain ⟨a, _, rfl⟩ := List.mem_map.mp hd
    obtain ⟨b, _, rfl⟩ := List.mem_map.mp hd'
    exact hal a b
  · obtain ⟨a, _, rfl⟩ := List.mem_map.mp hd
    obtain ⟨ds, e⟩ := ht a
    have := (hl a).2
    exact ⟨(by rw [e]; intro z; injection z), (by omega)⟩
theorem pairs_lt {s : Int} {p : Pin} (h : p ∈ pairs s) : 0 ≤ p.1 ∧ p.1 < p.2 ∧ p.2 < s := by
  unfold pairs at h
  obtain ⟨a, ha, hp⟩ := List.mem_flatMap.mp h
  obtain ⟨b, hb, rfl⟩ := List.mem_map.mp hp
  unfold from_ at hb
  obtain ⟨c, hc, rfl⟩ := List.mem_map.mp hb
  have h1 := List.mem_range.mp ha
  have h2 := List.mem_range.mp hc
  show 0 ≤ 0 + (a : Int) ∧ 0 + (a : Int) < 0 + (a : Int) + 1 + (c : Int) ∧ 0 + (a : Int) + 1 + (c : Int) < s
  omega
theorem pairs_pos {s : Int} (h2 : 2 ≤ s) (h5 : s ≤ 5) : 1 ≤ (pairs s).length := by
  have : s = 2 ∨ s = 3 ∨ s = 4 ∨ s = 5 := by omega
  rcases this with rfl | rfl | rfl | rfl <;> decide
section
variable {P : Program} {w : World} {K : PySem.W.Frag} {mg : Str → Option Value} {base : Heap}
abbrev sd_is_frame_of : Stmt := top 34
abbrev N_is_frame_of : List Str := ["sides", "thing", "load"]
theorem sc_is_frame_of : FnScope N_is_frame_of ["sides", "thing"] (defScope sd_is_frame_of) := ⟨rfl, rfl, rfl, by decide +kernel, rfl, by decide +kernel, by decide +kernel⟩
abbrev Fis_frame_of (P : Program) (w : World) (K : PySem.W.Frag) (mg : Str → Option Value) (base : Heap) : Prop := Fn P w K mg base "is_frame_of" 4 (fun i : Int × List (List Int) => [.p (.int i.1), .p (.tuple (i.2.map tupI))]) (fun i => 2 ≤ i.1 ∧ i.1 ≤ 5 ∧ FrOk i.1 i.2) (fun _ => .p (.bool true))
theorem ok_is_frame_of (TF : TopF K mg "is_frame_of" sd_is_frame_of) (B : Bi mg) (NU : Nu mg) (G1 : Fis_load_of P w K mg base) (G2 : Fgreatest_of P w K mg base) : Fis_frame_of P w K mg base := by
  refine fn_body TF sc_is_frame_of (fun _ => rfl) (fun _ _ _ _ _ _ us hl => match us, hl with | [_, _], _ => rfl) fun f cdv A outer s H E i hr hok => ?_
  have hu := hr.units
  have hu5 := hr.u65
  have hN := sc_is_frame_of.nd
  obtain ⟨s, fr⟩ := i
  obtain ⟨h2, h5, fo⟩ := hok
  have h2' : 2 ≤ s := h2
  have h5' : s ≤ 5 := h5
  have fo' : FrOk s fr := fo
  have hfew := fo'.tops.few
  obtain ⟨t1, e1⟩ := NU.mw
  have hp := pairs_le s h5'
  have lf : Lay 2 (.tuple (fr.map tupI)) := lay_tup (lay_map lay_tupI fr)
  refine sw_cons (s_ifNo (dw_or (dt_not (dt_val (d_isi (cl := "tuple") (.tup _) rfl (dv 1 rfl) B.isinstance_ B.tuple_))) fun _ => dw_or1 (dt_cmp (o_eq hu (lf.sh (by omega)) ((lay_tup (n := 0) (ds := []) (fun _ h => nomatch h)).sh (by omega))) (dv 1 rfl).lend (d_tp dp_nil).lend)).test
    (by rw [show PyData.eqv (.tuple (fr.map tupI)) (.tuple []) = decide (fr = []) from eqv_tupOf eqv_tupI fr []]; simp [fo'.ne]) ?_)
  refine sw_cons (s_ifNo (dt_not (dt_val (d_all (xs := fr) (g := fun _ => true) (d_lcA (onm := [("load", 2)]) (enc := tupI) hN (blk_of (N := N_is_frame_of) (sc := defScope sd_is_frame_of) (by decide +kernel)) (di_tup (dv 1 rfl)) rfl (fun _ _ _ _ _ _ _ => ⟨[2], by decide, gt_name 2 hN⟩)
    (fun _ _ _ _ _ x hx => d_cl G1 hr (s, x, 99) (da_cons (dv 0 rfl) (da_cons (dv 2 rfl) (da_cons (d_glob rfl e1) da_nil))) ⟨by show 0 ≤ s; omega, h5', (fo'.tops.ok x hx).1, fo'.w99 x hx⟩) (by omega)) B.all_))) (by simp) ?_)
  refine sw_one (s_ret ((d_cmp (o_eq hu ((lay_lst (lay_map lay_tupI fr)).sh (by omega)) ((lay_lst (lay_map lay_tupI fr)).sh (by omega))) (d_list (dv 1 rfl) B.list_).lend (d_cl G2 hr ((pairs s).length, fr) (da_cons (dv 1 rfl) da_nil) ⟨pairs_pos h2' h5', by show (pairs s).length ≤ 100; omega, fo'.tops⟩).lend).is ?_) rfl)
  rw [show PyData.eqv (.list (fr.map tupI)) (.list (fr.map tupI)) = decide (fr = fr) from eqv_listOf eqv_tupI fr fr]
  simp
abbrev sd_need_frame : Stmt := top 35
abbrev N_need_frame : List Str := ["sides", "frame"]
theorem sc_need_frame : FnScope N_need_frame ["sides", "frame"] (defScope sd_need_frame) := ⟨rfl, rfl, rfl, by decide +kernel, rfl, by decide +kernel, by decide +kernel⟩
abbrev Fneed_frame (P : Program) (w : World) (K : PySem.W.Frag) (mg : Str → Option Value) (base : Heap) : Prop := Fn P w K mg base "need_frame" 5 (fun i : Int × List (List Int) => [.p (.int i.1), .p (.tuple (i.2.map tupI))]) (fun i => 2 ≤ i.1 ∧ i.1 ≤ 5 ∧ FrOk i.1 i.2) (fun _ => .p .none)
theorem ok_need_frame (TF : TopF K mg "need_frame" sd_need_frame) (G1 : Fis_frame_of P w K mg base) : Fneed_frame P w K mg base := by
  refine fn_body TF sc_need_frame (fun _ => rfl) (fun _ _ _ _ _ _ us hl => match us, hl with | [_, _], _ => rfl) fun f cdv A outer s H E i hr hok => ?_
  have hu := hr.units
  have hu5 := hr.u65
  have hN := sc_need_frame.nd
  exact sw_one (s_ifNo (dt_not (dt_val (d_cl G1 hr i (da_cons (dv 0 rfl) (da_cons (dv 1 rfl) da_nil)) hok))) rfl rfl)
abbrev sd_is_way_of : Stmt := top 40
abbrev N_is_way_of : List Str := ["box", "thing", "switch"]
theorem sc_is_way_of : FnScope N_is_way_of ["box", "thing"] (defScope sd_is_way_of) := ⟨rfl, rfl, rfl, by decide +kernel, rfl, by decide +kernel, by decide +kernel⟩
abbrev Fis_way_of (P : Program) (w : World) (K : PySem.W.Frag) (mg : Str → Option Value) (base : Heap) : Prop := Fn P w K mg base "is_way_of" 5 (fun i : Bx × Way => [i.1.t_, .p (pWay i.2)]) (fun i => BxOk i.1 ∧ WayOk i.1 i.2) (fun _ => .p (.bool true))
theorem ok_is_way_of (TF : TopF K mg "is_way_of" sd_is_way_of) (B : Bi mg) (BX : BoxK K mg) (G1 : Fis_switch P w K mg base) (G2 : Fis_rising P w K mg base) (G3 : Fpins_of P w K mg base) : Fis_way_of P w K mg base := by
  refine fn_body TF sc_is_way_of (fun _ => rfl) (fun _ _ _ _ _ _ us hl => match us, hl with | [_, _], _ => rfl) fun f cdv A outer s H E i hr hok => ?_
  have hu := hr.units
  have hu5 := hr.u65
  have hN := sc_is_way_of.nd
  obtain ⟨b, v⟩ := i
  obtain ⟨hb, hv⟩ := hok
  have hb' : BxOk b := hb
  have hv' : WayOk b v := hv
  have hfew := hv'.few
  have hpl := pinsOf_len v
  refine sw_cons (s_ifNo (dw_or (dt_not (dt_val (d_isi (cl := "tuple") (.tup _) rfl (dv 1 rfl) B.isinstance_ B.tuple_))) fun _ => dw_or1 (dt_not (dt_val (d_all (xs := v) (g := fun _ => true) (d_lcA (onm := [("switch", 2)]) (enc := pSw) hN (blk_of (N := N_is_way_of) (sc := defScope sd_is_way_of) (by decide +kernel)) (di_tup (dv 1 rfl)) rfl (fun _ _ _ _ _ _ _ => ⟨[2], by decide, gt_name 2 hN⟩)
    (fun _ _ _ _ _ x hx => d_cl G1 hr (x, b.s, b.t) (da_cons (dv 2 rfl) (da_cons (d_sides BX.f (dv 0 rfl)) (da_cons (d_tracks BX.f (dv 0 rfl)) da_nil))) (hb'.ok x (hv'.sub x hx))) (by omega)) B.all_)))).test (by simp) ?_)
  refine sw_cons (s_ifNo (dw_or (dt_not (dt_val (d_cl G2 hr (v.map pSw) (da_cons (dv 1 rfl) da_nil) (rising_of al_sw lay_sw (by omega) tup_sw hv'.asc (by omega))))) fun _ => dw_or1 (dt_not (dt_val (d_all (xs := v) (g := fun _ => true) (d_lcA (onm := [("switch", 2)]) (enc := pSw) hN (blk_of (N := N_is_way_of) (sc := defScope sd_is_way_of) (by decide +kernel)) (di_tup (dv 1 rfl)) rfl (fun _ _ _ _ _ _ _ => ⟨[2], by decide, gt_name 2 hN⟩)
    (fun _ _ _ _ _ x hx => (d_cmp (o_inUD eqv_sw lay_sw (by omega) hu5) (dv 2 rfl).lend (d_switches BX.f (dv 0 rfl)).lend).is (by rw [mem_iff.mpr (hv'.sub x hx)])) (by omega)) B.all_)))).test (by simp) ?_)
  have hps : (pinsOf v).map pPin = ((pinsOf v).map fun p => [p.1, p.2]).map tupI := by rw [List.map_map]; rfl
  have hnd : ((pinsOf v).map fun p => [p.1, p.2]).Nodup := List.pairwise_map.mpr (hv'.pins.imp fun {a b} ne e => ne (by injection e with e1 e2; injection e2 with e2 _; exact Prod.ext e1 e2))
  refine sw_one (s_ret ((d_cmp (o_eqI hu) (d_lenSet (k := true) (kss := (pinsOf v).map fun p => [p.1, p.2]) (ys := (pinsOf v).map fun p => [p.1, p.2]) rfl hu ((d_cl G3 hr v (da_cons (dv 1 rfl) da_nil) (by show v.length ≤ 1000; omega)).is (by rw [hps]; rfl)) (by rw [List.length_map]; omega) hnd (fun _ => Iff.rfl) B.set_ B.len_).lend
    (d_bin (o_mul (.inl (by decide))) d_int.lend (d_len (k := false) (dv 1 rfl) rfl B.len_).lend).lend).is ?_) rfl)
  rw [List.length_map, List.length_map, hpl]
  simp
abbrev sd_is_standing_of : Stmt := top 41
abbrev N_is_standing_of : List Str := ["box", "frame", "thing"]
theorem sc_is_standing_of : FnScope N_is_standing_of ["box", "frame", "thing"] (defScope sd_is_standing_of) := ⟨rfl, rfl, rfl, by decide +kernel, rfl, by decide +kernel, by decide +kernel⟩
abbrev Fis_standing_of (P : Program) (w : World) (K : PySem.W.Frag) (mg : Str → Option Value) (base : Heap) : Prop := Fn P w K mg base "is_standing_of" 6 (fun i : Bx × List (List Int) × Way => [i.1.t_, .p (.tuple (i.2.1.map tupI)), .p (pWay i.2.2)]) (fun i => BxOk i.1 ∧ i.2.1.length ≤ 62 ∧ StOk i.1 i.2.1 i.2.2) (fun _ => .p (.bool true))
theorem ok_is_standing_of (TF : TopF K mg "is_standing_of" sd_is_standing_of) (BX : BoxK K mg) (G1 : Fis_way_of P w K mg base) (G2 : Fis_of P w K mg base) (G3 : Fload_of P w K mg base) : Fis_standing_of P w K mg base := by
  refine fn_body TF sc_is_standing_of (fun _ => rfl) (fun _ _ _ _ _ _ us hl => match us, hl with | [_, _, _], _ => rfl) fun f cdv A outer s H E i hr hok => ?_
  have hu := hr.units
  have hu5 := hr.u65
  have hN := sc_is_standing_of.nd
  obtain ⟨b, fr, v⟩ := i
  obtain ⟨hb, hf, hv⟩ := hok
  have hb' : BxOk b := hb
  have hf' : fr.length ≤ 62 := hf
  have hv' : StOk b fr v := hv
  have hfew := hv'.way.few
  have h2 := hb'.s2
  have h5 := hb'.s5
  have hp := pairs_le b.s h5
  have hl := loadOf_len b.s v
  refine sw_one (s_ret ((d_and (d_cl G1 hr (b, v) (da_cons (dv 0 rfl) (da_cons (dv 2 rfl) da_nil)) ⟨hb', hv'.way⟩) fun _ => d_one (d_cl G2 hr (loadOf b.s v, false, fr) (da_cons (d_cl G3 hr (b.s, v) (da_cons (d_sides BX.f (dv 0 rfl)) (da_cons (dv 2 rfl) da_nil)) ⟨by show 0 ≤ b.s; omega, h5, by show v.length ≤ 1000; omega⟩) (da_cons (dv 1 rfl) da_nil)) ⟨by show (loadOf b.s v).length ≤ 100; omega, by show fr.length ≤ 1000; omega⟩)).is ?_) rfl)
  rw [show isOf (loadOf b.s v, false, fr).1 (loadOf b.s v, false, fr).2.2 = isOf (loadOf b.s v) fr from rfl, hv'.of_]
  rfl
abbrev sd_need_standing : Stmt := top 42
abbrev N_need_standing : List Str := ["box", "frame", "standing"]
theorem sc_need_standing : FnScope N_need_standing ["box", "frame", "standing"] (defScope sd_need_standing) := ⟨rfl, rfl, rfl, by decide +kernel, rfl, by decide +kernel, by decide +kernel⟩
abbrev Fneed_standing (P : Program) (w : World) (K : PySem.W.Frag) (mg : Str → Option Value) (base : Heap) : Prop := Fn P w K mg base "need_standing" 7 (fun i : Bx × List (List Int) × Way => [i.1.t_, .p (.tuple (i.2.1.map tupI)), .p (pWay i.2.2)]) (fun i => BxOk i.1 ∧ i.2.1.length ≤ 62 ∧ StOk i.1 i.2.1 i.2.2) (fun _ => .p .none)
theorem ok_need_standing (TF : TopF K mg "need_standing" sd_need_standing) (G1 : Fis_standing_of P w K mg base) : Fneed_standing P w K mg base := by
  refine fn_body TF sc_need_standing (fun _ => rfl) (fun _ _ _ _ _ _ us hl => match us, hl with | [_, _, _], _ => rfl) fun f cdv A outer s H E i hr hok => ?_
  have hu := hr.units
  have hu5 := hr.u65
  have hN := sc_need_standing.nd
  exact sw_one (s_ifNo (dt_not (dt_val (d_cl G1 hr i (da_cons (dv 0 rfl) (da_cons (dv 1 rfl) (da_cons (dv 2 rfl) da_nil))) hok))) rfl rfl)
abbrev sd_are_standings : Stmt := top 54
abbrev N_are_standings : List Str := ["box", "frame", "thing", "standing"]
theorem sc_are_standings : FnScope N_are_standings ["box", "frame", "thing"] (defScope sd_are_standings) := ⟨rfl, rfl, rfl, by decide +kernel, rfl, by decide +kernel, by decide +kernel⟩
abbrev Fare_standings (P : Program) (w : World) (K : PySem.W.Frag) (mg : Str → Option Value) (base : Heap) : Prop := Fn P w K mg base "are_standings" 7 (fun i : Bx × List (List Int) × List Way => [i.1.t_, .p (.tuple (i.2.1.map tupI)), .p (.tuple (i.2.2.map pWay))]) (fun i => BxOk i.1 ∧ i.2.1.length ≤ 62 ∧ (∀ v ∈ i.2.2, StOk i.1 i.2.1 v) ∧ AscT pWay i.2.2 ∧ i.2.2.length ≤ 5000) (fun _ => .p (.bool true))
theorem ok_are_standings (TF : TopF K mg "are_standings" sd_are_standings) (B : Bi mg) (G1 : Fis_standing_of P w K mg base) (G2 : Fis_rising P w K mg base) : Fare_standings P w K mg base := by
  refine fn_body TF sc_are_standings (fun _ => rfl) (fun _ _ _ _ _ _ us hl => match us, hl with | [_, _, _], _ => rfl) fun f cdv A outer s H E i hr hok => ?_
  have hu := hr.units
  have hu5 := hr.u65
  have hN := sc_are_standings.nd
  obtain ⟨b, fr, vs⟩ := i
  obtain ⟨hb, hf, hv, ha, hz⟩ := hok
  have hz' : vs.length ≤ 5000 := hz
  refine sw_cons (s_ifNo (dw_or (dt_not (dt_val (d_isi (cl := "tuple") (.tup _) rfl (dv 2 rfl) B.isinstance_ B.tuple_))) fun _ => dw_or1 (dt_not (dt_val (d_all (xs := vs) (g := fun _ => true) (d_lcA (onm := [("standing", 3)]) (enc := pWay) hN (blk_of (N := N_are_standings) (sc := defScope sd_are_standings) (by decide +kernel)) (di_tup (dv 2 rfl)) rfl (fun _ _ _ _ _ _ _ => ⟨[3], by decide, gt_name 3 hN⟩)
    (fun _ _ _ _ _ x hx => d_cl G1 hr (b, fr, x) (da_cons (dv 0 rfl) (da_cons (dv 1 rfl) (da_cons (dv 3 rfl) da_nil))) ⟨hb, hf, hv x hx⟩) (by omega)) B.all_)))).test (by simp) ?_)
  exact sw_one (s_ret (d_cl G2 hr (vs.map pWay) (da_cons (dv 2 rfl) da_nil) (rising_of al_way lay_way (by omega) tup_way ha (by omega))) rfl)
abbrev sd_need_game : Stmt := top 55
abbrev N_need_game : List Str := ["box", "frame", "moves", "barred"]
theorem sc_need_game : FnScope N_need_game ["box", "frame", "moves", "barred"] (defScope sd_need_game) := ⟨rfl, rfl, rfl, by decide +kernel, rfl, by decide +kernel, by decide +kernel⟩
abbrev Fneed_game (P : Program) (w : World) (K : PySem.W.Frag) (mg : Str → Option Value) (base : Heap) : Prop := Fn P w K mg base "need_game" 8 (fun i : Bx × List (List Int) × Int × List Way => [i.1.t_, .p (.tuple (i.2.1.map tupI)), .p (.int i.2.2.1), .p (.tuple (i.2.2.2.map pWay))]) (fun i => BxOk i.1 ∧ FrOk i.1.s i.2.1 ∧ 0 ≤ i.2.2.1 ∧ i.2.2.1 ≤ 20 ∧ (∀ v ∈ i.2.2.2, StOk i.1 i.2.1 v) ∧ AscT pWay i.2.2.2 ∧ i.2.2.2.length ≤ 5000) (fun _ => .p .none)
theorem ok_need_game (TF : TopF K mg "need_game" sd_need_game) (BX : BoxK K mg) (G1 : Fneed_box P w K mg base) (G2 : Fneed_frame P w K mg base) (G3 : Fneed_moves P w K mg base) (G4 : Fare_standings P w K mg base) : Fneed_game P w K mg base := by
  refine fn_body TF sc_need_game (fun _ => rfl) (fun _ _ _ _ _ _ us hl => match us, hl with | [_, _, _, _], _ => rfl) fun f cdv A outer s H E i hr hok => ?_
  have hu := hr.units
  have hu5 := hr.u65
  have hN := sc_need_game.nd
  obtain ⟨b, fr, m, vs⟩ := i
  obtain ⟨hb, hf, h0, h20, hv, ha, hz⟩ := hok
  have hb' : BxOk b := hb
  have hf' : FrOk b.s fr := hf
  refine sw_cons (s_expr (d_cl G1 hr b (da_cons (dv 0 rfl) da_nil) True.intro) ?_)
  refine sw_cons (s_expr (d_cl G2 hr (b.s, fr) (da_cons (d_sides BX.f (dv 0 rfl)) (da_cons (dv 1 rfl) da_nil)) ⟨hb'.s2, hb'.s5, hf'⟩) ?_)
  refine sw_cons (s_expr (d_cl G3 hr m (da_cons (dv 2 rfl) da_nil) ⟨h0, h20⟩) ?_)
  exact sw_one (s_ifNo (dt_not (dt_val (d_cl G4 hr (b, fr, vs) (da_cons (dv 0 rfl) (da_cons (dv 1 rfl) (da_cons (dv 3 rfl) da_nil))) ⟨hb, hf'.tops.few, hv, ha, hz⟩))) rfl rfl)
end
end Ac
-- part L2
set_option maxHeartbeats 4000000
set_option Elab.async false
set_option maxRecDepth 100000
set_option linter.all false
/-! Ac, plain: how the ways are searched. -/
namespace Ac
open PySem PySem.Spec PyProof.Rows L2
/-- the ways behind w with switches of l, in the order of the search; e: whether a switch may join -/
def kids (e : Way → Sw → Bool) : Way → List Sw → List Way
  | _, [] => []
  | w, s :: r => (if e w s = true then (w ++ [s]) :: kids e (w ++ [s]) r else []) ++ kids e w r
def gen (e : Way → Sw → Bool) (w : Way) (l : List Sw) : List Way := w :: kids e w l
theorem kids_cons (e : Way → Sw → Bool) (w : Way) (s : Sw) (r : List Sw) : kids e w (s :: r) = (if e w s = true then gen e (w ++ [s]) r else []) ++ kids e w r := rfl
theorem gen_len (e : Way → Sw → Bool) : ∀ (l : List Sw) (w : Way), (gen e w l).length ≤ 2 ^ l.length
  | [], w => by simp [gen, kids]
  | s :: r, w => by
    have h1 := gen_len e r (w ++ [s])
    have h2 := gen_len e r w
    unfold gen at h2 ⊢
    rw [kids_cons]
    rw [List.length_cons] at h2
    rw [List.length_cons, List.length_append, List.length_cons, Nat.pow_succ]
    split
    · omega
    · rw [List.length_nil]; omega
/-- .. where a way that has come is not gone on from -/
def kidsL (e : Way → Sw → Bool) (g : Way → Bool) : Way → List Sw → List Way
  | _, [] => []
  | w, s :: r => (if e w s = true then (if g (w ++ [s]) = true then [w ++ [s]] else kidsL e g (w ++ [s]) r) else []) ++ kidsL e g w r
def genL (e : Way → Sw → Bool) (g : Way → Bool) (w : Way) (l : List Sw) : List Way := if g w = true then [w] else kidsL e g w l
theorem kidsL_cons (e : Way → Sw → Bool) (g : Way → Bool) (w : Way) (s : Sw) (r : List Sw) : kidsL e g w (s :: r) = (if e w s = true then genL e g (w ++ [s]) r else []) ++ kidsL e g w r := rfl
/-- the stack's weight -/
def mass (n : Nat) (left : List (Way × Nat)) : Nat := (left.map fun x => 2 ^ (n - x.2)).sum
theorem mass_app (n : Nat) (a b : List (Way × Nat)) : mass n (a ++ b) = mass n a + mass n b := by unfold mass; rw [List.map_append, List.sum_append]
theorem mass_one (n : Nat) (x : Way × Nat) : mass n [x] = 2 ^ (n - x.2) := by simp [mass]
/-- children -/
def chil (e : Way → Sw → Bool) (sw : List Sw) (w : Way) (b : Nat) : Nat → List (Way × Nat)
  | 0 => []
  | k + 1 => chil e sw w b k ++ (match sw[b + k]? with
    | some s => if e w s = true then [(w ++ [s], b + k + 1)] else []
    | none => [])
theorem chil_succ (e : Way → Sw → Bool) (sw : List Sw) (w : Way) (b k : Nat) : chil e sw w b (k + 1) = chil e sw w b k ++ (match sw[b + k]? with
    | some s => if e w s = true then [(w ++ [s], b + k + 1)] else []
    | none => []) := rfl
theorem chil_mass (e : Way → Sw → Bool) (sw : List Sw) (w : Way) (b : Nat) : ∀ k, b + k ≤ sw.length → mass sw.length (chil e sw w b k) + 2 ^ (sw.length - (b + k)) ≤ 2 ^ (sw.length - b)
  | 0, _ => by simp [chil, mass]
  | k + 1, h => by
    have ih := chil_mass e sw w b k (by omega)
    have hk : b + k < sw.length := by omega
    have e1 : sw.length - (b + k) = (sw.length - (b + (k + 1))) + 1 := by omega
    rw [e1, Nat.pow_succ] at ih
    rw [chil_succ, mass_app, List.getElem?_eq_getElem hk]
    show mass sw.length (chil e sw w b k) + mass sw.length (if e w sw[b + k] = true then [(w ++ [sw[b + k]], b + k + 1)] else []) + _ ≤ _
    split
    · rw [mass_one]
      show _ + 2 ^ (sw.length - (b + k + 1)) + _ ≤ _
      have e2 : b + k + 1 = b + (k + 1) := by omega
      rw [e2]
      omega
    · have : mass sw.length ([] : List (Way × Nat)) = 0 := rfl
      rw [this]
      omega
theorem chil_kids (e : Way → Sw → Bool) (sw : List Sw) (w : Way) (b : Nat) : ∀ k, b + k ≤ sw.length → (chil e sw w b k).flatMap (fun x => gen e x.1 (sw.drop x.2)) ++ kids e w (sw.drop (b + k)) = kids e w (sw.drop b)
  | 0, _ => by simp [chil]
  | k + 1, h => by
    have ih := chil_kids e sw w b k (by omega)
    have hk : b + k < sw.length := by omega
    rw [List.drop_eq_getElem_cons hk, kids_cons] at ih
    rw [← ih]
    rw [chil_succ, List.flatMap_append, List.getElem?_eq_getElem hk, List.append_assoc]
    congr 1
    show List.flatMap _ (if e w sw[b + k] = true then [(w ++ [sw[b + k]], b + k + 1)] else []) ++ kids e w (sw.drop (b + (k + 1))) = _
    split
    · rw [List.flatMap_cons, List.flatMap_nil, List.append_nil]; rfl
    · rfl
theorem chil_kidsL (e : Way → Sw → Bool) (g : Way → Bool) (sw : List Sw) (w : Way) (b : Nat) : ∀ k, b + k ≤ sw.length → (chil e sw w b k).flatMap (fun x => genL e g x.1 (sw.drop x.2)) ++ kidsL e g w (sw.drop (b + k)) = kidsL e g w (sw.drop b)
  | 0, _ => by simp [chil]
  | k + 1, h => by
    have ih := chil_kidsL e g sw w b k (by omega)
    have hk : b + k < sw.length := by omega
    rw [List.drop_eq_getElem_cons hk, kidsL_cons] at ih
    rw [← ih]
    rw [chil_succ, List.flatMap_append, List.getElem?_eq_getElem hk, List.append_assoc]
    congr 1
    show List.flatMap _ (if e w sw[b + k] = true then [(w ++ [sw[b + k]], b + k + 1)] else []) ++ kidsL e g w (sw.drop (b + (k + 1))) = _
    split
    · rw [List.flatMap_cons, List.flatMap_nil, List.append_nil]; rfl
    · rfl
theorem chil_len (e : Way → Sw → Bool) (sw : List Sw) (w : Way) (b : Nat) : ∀ k, (chil e sw w b k).length ≤ k
  | 0 => Nat.le_refl _
  | k + 1 => by
    have := chil_len e sw w b k
    rw [chil_succ, List.length_append]
    have : (match sw[b + k]? with | some s => if e w s = true then [(w ++ [s], b + k + 1)] else [] | none => ([] : List (Way × Nat))).length ≤ 1 := by
      split
      · split <;> simp
      · simp
    omega
theorem chil_b (e : Way → Sw → Bool) (sw : List Sw) (w : Way) (b : Nat) : ∀ k, b + k ≤ sw.length → ∀ x ∈ chil e sw w b k, b + 1 ≤ x.2 ∧ x.2 ≤ sw.length ∧ x.1.length = w.length + 1
  | 0, _ => fun _ h => nomatch h
  | k + 1, h => by
    intro x hx
    rw [chil_succ] at hx
    rcases List.mem_append.mp hx with hx | hx
    · exact chil_b e sw w b k (by omega) x hx
    · rw [List.getElem?_eq_getElem (show b + k < sw.length by omega)] at hx
      have hx' : x ∈ (if e w sw[b + k] = true then [(w ++ [sw[b + k]], b + k + 1)] else []) := hx
      split at hx'
      · rw [List.mem_singleton.mp hx']
        exact ⟨by show b + 1 ≤ b + k + 1; omega, by show b + k + 1 ≤ sw.length; omega, by simp⟩
      · cases hx'
theorem kids_form (e : Way → Sw → Bool) : ∀ (l : List Sw) (w : Way), ∀ x ∈ kids e w l, ∃ s u, s ∈ l ∧ x = w ++ s :: u
  | [], _, _, h => nomatch h
  | s :: r, w, x, h => by
    rw [kids_cons] at h
    rcases List.mem_append.mp h with h | h
    · split at h
      · rcases List.mem_cons.mp h with rfl | h
        · exact ⟨s, [], List.mem_cons_self, rfl⟩
        · obtain ⟨s', u, _, rfl⟩ := kids_form e r _ x h
          exact ⟨s, s' :: u, List.mem_cons_self, by simp⟩
      · cases h
    · obtain ⟨s', u, h1, rfl⟩ := kids_form e r w x h
      exact ⟨s', u, List.mem_cons_of_mem _ h1, rfl⟩
theorem gen_nodup (e : Way → Sw → Bool) : ∀ (l : List Sw) (w : Way), l.Nodup → (gen e w l).Nodup
  | [], w, _ => by simp [gen, kids]
  | s :: r, w, hn => by
    rw [List.nodup_cons] at hn
    have h1 := gen_nodup e r (w ++ [s]) hn.2
    have h2 := gen_nodup e r w hn.2
    unfold gen at h2
    rw [List.nodup_cons] at h2
    have hs : (kids e w (s :: r)).Nodup := by
      rw [kids_cons]
      refine List.nodup_append.mpr ⟨?_, h2.2, fun a ha b hb e' => ?_⟩
      · split
        · exact h1
        · exact List.nodup_nil
      · split at ha
        · obtain ⟨s', u, hs', rfl⟩ := kids_form e r w b hb
          rcases List.mem_cons.mp ha with rfl | ha
          · have := List.append_cancel_left e'
            injection this with q _
            exact hn.1 (q ▸ hs')
          · obtain ⟨s2, u2, _, rfl⟩ := kids_form e r _ a ha
            rw [List.append_assoc] at e'
            have := List.append_cancel_left e'
            injection this with q _
            exact hn.1 (q ▸ hs')
        · cases ha
    unfold gen
    refine List.nodup_cons.mpr ⟨fun h => ?_, hs⟩
    obtain ⟨s', u, _, e'⟩ := kids_form e (s :: r) w w h
    have := congrArg List.length e'
    rw [List.length_append, List.length_cons] at this
    omega
theorem kidsL_form (e : Way → Sw → Bool) (g : Way → Bool) : ∀ (l : List Sw) (w : Way), ∀ x ∈ kidsL e g w l, ∃ s u, s ∈ l ∧ x = w ++ s :: u
  | [], _, _, h => nomatch h
  | s :: r, w, x, h => by
    rw [kidsL_cons] at h
    rcases List.mem_append.mp h with h | h
    · split at h
      · unfold genL at h
        split at h
        · rw [List.mem_singleton.mp h]
          exact ⟨s, [], List.mem_cons_self, rfl⟩
        · obtain ⟨s', u, _, rfl⟩ := kidsL_form e g r _ x h
          exact ⟨s, s' :: u, List.mem_cons_self, by simp⟩
      · cases h
    · obtain ⟨s', u, h1, rfl⟩ := kidsL_form e g r w x h
      exact ⟨s', u, List.mem_cons_of_mem _ h1, rfl⟩
theorem kidsL_nodup (e : Way → Sw → Bool) (g : Way → Bool) : ∀ (l : List Sw) (w : Way), l.Nodup → (kidsL e g w l).Nodup
  | [], w, _ => by simp [kidsL]
  | s :: r, w, hn => by
    rw [List.nodup_cons] at hn
    have h1 := kidsL_nodup e g r (w ++ [s]) hn.2
    have h2 := kidsL_nodup e g r w hn.2
    rw [kidsL_cons]
    refine List.nodup_append.mpr ⟨?_, h2, fun a ha b hb e' => ?_⟩
    · split
      · unfold genL
        split
        · simp
        · exact h1
      · exact List.nodup_nil
    · split at ha
      · obtain ⟨s', u, hs', rfl⟩ := kidsL_form e g r w b hb
        unfold genL at ha
        split at ha
        · rw [List.mem_singleton.mp ha] at e'
          have := List.append_cancel_left e'
          injection this with q _
          exact hn.1 (q ▸ hs')
        · obtain ⟨s2, u2, _, rfl⟩ := kidsL_form e g r _ a ha
          rw [List.append_assoc] at e'
          have := List.append_cancel_left e'
          injection this with q _
          exact hn.1 (q ▸ hs')
      · cases ha
theorem genL_nodup (e : Way → Sw → Bool) (g : Way → Bool) (l : List Sw) (w : Way) (hn : l.Nodup) : (genL e g w l).Nodup := by
  unfold genL
  split
  · simp
  · exact kidsL_nodup e g l w hn
theorem kidsL_len (e : Way → Sw → Bool) (g : Way → Bool) : ∀ (l : List Sw) (w : Way), (kidsL e g w l).length + 1 ≤ 2 ^ l.length
  | [], w => by simp [kidsL]
  | s :: r, w => by
    have h1 := kidsL_len e g r (w ++ [s])
    have h2 := kidsL_len e g r w
    rw [kidsL_cons, List.length_append, List.length_cons, Nat.pow_succ]
    have h3 : (if e w s = true then genL e g (w ++ [s]) r else []).length ≤ 2 ^ r.length := by
      split
      · unfold genL
        split
        · rw [List.length_singleton]; omega
        · omega
      · rw [List.length_nil]; omega
    omega
theorem genL_len (e : Way → Sw → Bool) (g : Way → Bool) (l : List Sw) (w : Way) : (genL e g w l).length ≤ 2 ^ l.length := by
  unfold genL
  have := kidsL_len e g l w
  split
  · rw [List.length_singleton]; omega
  · omega
theorem mem_dropLast {α : Type} {l : List α} {x : α} (h : x ∈ l.dropLast) : x ∈ l := by
  rw [List.dropLast_eq_take] at h
  exact List.mem_of_mem_take h
theorem ascT_nodup {α : Type} {f : α → PyData} {xs : List α} (h : AscT f xs) : xs.Nodup := (ascT_iff.mp h).imp fun {a b} q e => by rw [e, lt_irr] at q; cases q
/-- a node of the stack -/
def pNode (x : Way × Nat) : PyData := .tuple [pWay x.1, .int (x.2 : Nat)]
theorem lay_node (x : Way × Nat) : Lay 4 (pNode x) := lay_tup fun d hd => by
  simp only [List.mem_cons, List.not_mem_nil, or_false] at hd
  rcases hd with rfl | rfl
  · exact lay_way _
  · exact (lay_int _).mono (by omega)
theorem eqv_node (x y : Way × Nat) : PyData.eqv (pNode x) (pNode y) = decide (x = y) := by
  unfold pNode
  rw [PyData.eqv, PyData.eqvAll, PyData.eqvAll, PyData.eqvAll, eqv_way, eqv_int]
  by_cases h1 : x.1 = y.1 <;> by_cases h2 : x.2 = y.2 <;> simp [h1, h2, Prod.ext_iff] <;> omega
/-- whether a switch's pins are free -/
def free_ (w : Way) (s : Sw) : Bool := !mem s.1 (pinsOf w) && !mem s.2 (pinsOf w)
/-- may join, in a frame -/
def extF (bs : Int) (fr : List (List Int)) (w : Way) (s : Sw) : Bool := !mem s.1 (pinsOf w) && (!mem s.2 (pinsOf w) && isOf (loadOf bs (w ++ [s])) fr)
/-- may join, towards a load -/
def extL (bs : Int) (load : List Int) (w : Way) (s : Sw) : Bool := !mem s.1 (pinsOf w) && (!mem s.2 (pinsOf w) && below (withP bs (loadOf bs w) (ends s)) load)
end Ac
-- part C6
set_option Elab.async false
set_option maxRecDepth 100000
set_option maxHeartbeats 4000000
set_option linter.all false
namespace Ac
open PySem PySem.Spec PyProof.Rows L2
def Tb (b : Bx) : Sl := .t b.t_
def Tf (fr : List (List Int)) : Sl := .t (.p (.tuple (fr.map tupI)))
/-- the standings, as they are found -/
def cSt (b : Bx) (fr : List (List Int)) (most : Int) (s : List Way × List (Way × Nat)) : List Sl := [Tb b, Tf fr, .t (.p (.int most)), .ol (s.1.map pWay), .ol (s.2.map pNode), .no, .no, .no, .no, .no, .no]
def cStF (b : Bx) (fr : List (List Int)) (most : Int) (found : List Way) (w : Way) (at_ : Nat) (left : List (Way × Nat)) : List Sl := [Tb b, Tf fr, .t (.p (.int most)), .ol (found.map pWay), .ol (left.map pNode), .t (.p (pWay w)), .t (.p (.int (at_ : Nat))), .t (.p (.list ((pinsOf w).map pPin))), .no, .no, .no]
theorem pWay_snoc (w : Way) (s : Sw) : PyData.tuple (w.map pSw ++ [pSw s]) = pWay (w ++ [s]) := by unfold pWay; rw [List.map_append]; rfl
theorem getLast_snoc {α : Type} {l : List α} (h : l ≠ []) : ∃ x, l.getLast? = some x ∧ l = l.dropLast ++ [x] := by
  refine ⟨l.getLast h, List.getLast?_eq_some_getLast h, (List.dropLast_concat_getLast h).symm⟩
noncomputable def stands (b : Bx) (fr : List (List Int)) : List Way := srtT pWay (gen (extF b.s fr) [] b.sw)
noncomputable def waysTo (b : Bx) (load : List Int) : List Way := srtT pWay (genL (extL b.s load) (fun w => decide (loadOf b.s w = load)) [] b.sw)
section
variable {P : Program} {w : World} {K : PySem.W.Frag} {mg : Str → Option Value} {base : Heap}
abbrev sd_standings_up_to : Stmt := top 43
abbrev N_standings_up_to : List Str := ["box", "frame", "most", "found", "left", "way", "begin", "taken", "at", "switch", "more"]
theorem sc_standings_up_to : FnScope N_standings_up_to ["box", "frame", "most"] (defScope sd_standings_up_to) := ⟨rfl, rfl, rfl, by decide +kernel, rfl, by decide +kernel, by decide +kernel⟩
abbrev Fstandings_up_to (P : Program) (w : World) (K : PySem.W.Frag) (mg : Str → Option Value) (base : Heap) : Prop := Fn P w K mg base "standings_up_to" 3 (fun i : Bx × List (List Int) × Int => [i.1.t_, .p (.tuple (i.2.1.map tupI)), .p (.int i.2.2)]) (fun i => BxOk i.1 ∧ i.2.1.length ≤ 62 ∧ 256 ≤ i.2.2) (fun i => .p (.list ((stands i.1 i.2.1).map pWay)))
theorem ok_standings_up_to (TF : TopF K mg "standings_up_to" sd_standings_up_to) (B : Bi mg) (BX : BoxK K mg) (G1 : Fpins_of P w K mg base) (G2 : Fis_of P w K mg base) (G3 : Fload_of P w K mg base) : Fstandings_up_to P w K mg base := by
  refine fn_body TF sc_standings_up_to (fun _ => rfl) (fun _ _ _ _ _ _ us hl => match us, hl with | [_, _, _], _ => rfl) fun f cdv A outer s H E i hr hok => ?_
  have hu := hr.units
  have hu5 := hr.u65
  have hN := sc_standings_up_to.nd
  obtain ⟨b, fr, most⟩ := i
  obtain ⟨hb, hf, hm⟩ := hok
  have hb' : BxOk b := hb
  have hf' : fr.length ≤ 62 := hf
  have hm' : 256 ≤ most := hm
  have h8 := hb'.few
  have h2 := hb'.s2
  have h5 := hb'.s5
  have hp := pairs_le b.s h5
  have all : (gen (extF b.s fr) [] b.sw).length ≤ 256 := by
    have := gen_len (extF b.s fr) b.sw []
    have : 2 ^ b.sw.length ≤ 2 ^ 8 := Nat.pow_le_pow_right (by omega) h8
    omega
  let Iv : List Way × List (Way × Nat) → Prop := fun s => (s.1 ++ s.2.flatMap fun x => gen (extF b.s fr) x.1 (b.sw.drop x.2)).Perm (gen (extF b.s fr) [] b.sw) ∧ ∀ x ∈ s.2, x.2 ≤ b.sw.length ∧ x.1.length ≤ x.2
  refine sw_cons (s_par 3 4 rfl hN (dfs_own (df_lst dp_nil (Nat.zero_le _)) (dfs_own (df_lst (dp_cons (d_tp (dp_cons (d_tp dp_nil) (dp_cons d_int dp_nil))) dp_nil) (Nat.le_of_ble_eq_true rfl)) dfs_nil)) ?_)
  refine sw_while (S := List Way × List (Way × Nat)) (cSt b fr most) Iv (fun s => mass b.sw.length s.2) ([], [([], 0)]) (.refl _) ⟨?_, ?_⟩ (fun s hs => ?_)
  · show ([] ++ List.flatMap _ [([], 0)]).Perm _
    rw [List.nil_append, List.flatMap_cons, List.flatMap_nil, List.append_nil]
    exact List.Perm.refl _
  · intro x hx
    rw [List.mem_singleton.mp hx]
    exact ⟨Nat.zero_le _, Nat.le_refl _⟩
  obtain ⟨found, left⟩ := s
  obtain ⟨hpm, hlb⟩ := hs
  have hpm' : (found ++ left.flatMap fun x => gen (extF b.s fr) x.1 (b.sw.drop x.2)).Perm (gen (extF b.s fr) [] b.sw) := hpm
  have hlb' : ∀ x ∈ left, x.2 ≤ b.sw.length ∧ x.1.length ≤ x.2 := hlb
  have hfl : found.length + left.length ≤ 256 := by
    have e := hpm'.length_eq
    rw [List.length_append, List.length_flatMap] at e
    have : ∀ l : List (Way × Nat), l.length ≤ (l.map fun x => (gen (extF b.s fr) x.1 (b.sw.drop x.2)).length).sum := by
      intro l
      induction l with
      | nil => exact Nat.le_refl _
      | cons x l ih => rw [List.length_cons, List.map_cons, List.sum_cons]; unfold gen at ih ⊢; rw [List.length_cons]; omega
    have := this left
    omega
  refine ⟨!decide (left = []), (dt_cmp (o_ne (d := .list (left.map pNode)) (f := .list []) hu ((lay_lst (lay_map lay_node left)).sh (by omega)) ((lay_lst (n := 0) (ds := []) (fun _ h => nomatch h)).sh (by omega))) (dvo 4 rfl) (d_ls dp_nil).lend).is ?_, fun hk => ?_, fun hk => ?_⟩
  · rw [show PyData.eqv (.list (left.map pNode)) (.list []) = decide (left = []) from eqv_listOf eqv_node left []]
  · have hne : left ≠ [] := by intro e; rw [e] at hk; simp at hk
    obtain ⟨⟨v, bg⟩, hlast, hsn⟩ := getLast_snoc hne
    have hmem : (v, bg) ∈ left := by rw [hsn]; exact List.mem_append_right _ (List.mem_singleton.mpr rfl)
    obtain ⟨hbg, hvl⟩ := hlb' _ hmem
    have hbg' : bg ≤ b.sw.length := hbg
    have hvl' : v.length ≤ bg := hvl
    have hdl : left.dropLast.length + 1 = left.length := by
      have e := congrArg List.length hsn
      rw [List.length_append] at e
      simpa using e.symm
    refine sw_cons (s_popTo 4 rfl (d := pNode (v, bg)) (by rw [List.getLast?_map, hlast]; rfl) (gt_tup rfl (gts_cons (gt_name 5 hN) (gts_cons (gt_name 6 hN) gts_nil))) ?_)
    have edl : (left.map pNode).dropLast = left.dropLast.map pNode := (List.map_dropLast ..).symm
    rw [edl]
    refine sw_cons (s_app 3 rfl (dv 5 rfl) (by rw [List.length_map]; show found.length < 100000; omega) ?_)
    have efd : found.map pWay ++ [pWay v] = (found ++ [v]).map pWay := by rw [List.map_append]; rfl
    rw [efd]
    refine sw_cons (s_ifNo (dt_cmp o_gt (d_lenO (n := ((found ++ [v]).length : Int)) (dvo 3 rfl) (by rw [List.length_map]) B.len_).lend (dv 2 rfl).lend) (by
      refine decide_eq_false ?_
      have := hdl
      rw [List.length_append, List.length_singleton]
      show ¬ most < ((found.length + 1 : Nat) : Int)
      omega) ?_)
    refine sw_cons (s_asg 7 hN (d_cl G1 hr v (da_cons (dv 5 rfl) da_nil) (by show v.length ≤ 1000; omega)) ?_)
    have hrange : (List.range (((b.sw.length : Int) - (bg : Int)).toNat)) = List.range (b.sw.length - bg) := by congr 1; omega
    refine sw_for (S := List (Way × Nat)) (ds := (List.range (b.sw.length - bg)).map fun k => PyData.int ((bg : Int) + (k : Nat)))
      ((di_range2 (dv 6 rfl) (d_len (k := false) (ds := b.sw.map pSw) (n := (b.sw.length : Int)) (d_switches BX.f (dv 0 rfl)) (by rw [List.length_map]) B.len_) (by omega) B.range_).is (by rw [rgD_eq, hrange]))
      (cStF b fr most (found ++ [v]) v bg) (fun k l => l = left.dropLast ++ chil (extF b.s fr) b.sw v bg k) left.dropLast (.refl _) (by simp [chil]) (fun k d l hd hl => ?_) (fun l hl => ?_)
    · rw [List.getElem?_map] at hd
      obtain ⟨k', hk', rfl⟩ := Option.map_eq_some_iff.mp hd
      obtain ⟨hk1, hk2⟩ := List.getElem?_eq_some_iff.mp hk'
      rw [List.length_range] at hk1
      rw [List.getElem_range] at hk2
      subst hk2
      subst hl
      have hsw : b.sw[bg + k]? = some b.sw[bg + k] := List.getElem?_eq_getElem (by omega)
      have hix : atI (b.sw.map pSw) ((bg : Int) + (k : Nat)) = some (pSw b.sw[bg + k]) := by
        have e : ((bg : Int) + (k : Nat)) = ((bg + k : Nat) : Int) := by omega
        rw [e, atI_nat, List.getElem?_map, hsw]; rfl
      have hcl := chil_len (extF b.s fr) b.sw v bg k
      refine ⟨[8], _, gt_name 8 hN, ?_⟩
      refine sw_cons (s_asg 9 hN (d_ixT (ds := b.sw.map pSw) (d_switches BX.f (dv 0 rfl)) (dv 8 rfl) hix) ?_)
      refine sw_cons (s_asg 10 hN ((d_tup (dp_starT (ds := v.map pSw) (dv 5 rfl) (dp_cons (dv 9 rfl) dp_nil)) (by rw [List.length_append, List.length_map]; simp; omega)).is (by rw [pWay_snoc])) ?_)
      have hll := loadOf_len b.s (v ++ [b.sw[bg + k]])
      refine sw_one (s_if (k := extF b.s fr v b.sw[bg + k]) (dw_and (dt_cmp (o_ninD eqv_pin lay_pin (by omega) hu5) (d_ixT (dv 9 rfl) d_int rfl).lend (dv 7 rfl).lend) fun _ => dw_and (dt_cmp (o_ninD eqv_pin lay_pin (by omega) hu5) (d_ixT (dv 9 rfl) d_int rfl).lend (dv 7 rfl).lend) fun _ => dw_and1 (dt_val (d_cl G2 hr (loadOf b.s (v ++ [b.sw[bg + k]]), false, fr)
        (da_cons (d_cl G3 hr (b.s, v ++ [b.sw[bg + k]]) (da_cons (d_sides BX.f (dv 0 rfl)) (da_cons (dv 10 rfl) da_nil)) ⟨by show 0 ≤ b.s; omega, h5, by show (v ++ [b.sw[bg + k]]).length ≤ 1000; rw [List.length_append, List.length_singleton]; omega⟩) (da_cons (dv 1 rfl) da_nil)) ⟨by show (loadOf b.s _).length ≤ 100; omega, by show fr.length ≤ 1000; omega⟩))).test (fun he => ?_) fun he => ?_)
      · refine sw_one (s_app 4 rfl (d_tp (dp_cons (dv 10 rfl) (dp_cons (d_bin o_add (dv 8 rfl).lend d_int.lend) dp_nil))) (by rw [List.length_map, List.length_append]; omega) ⟨left.dropLast ++ chil (extF b.s fr) b.sw v bg (k + 1), Wk.of [8, 9, 10] ?_, rfl⟩)
        have e1 : (left.dropLast ++ chil (extF b.s fr) b.sw v bg (k + 1)).map pNode = (left.dropLast ++ chil (extF b.s fr) b.sw v bg k).map pNode ++ [.tuple [pWay (v ++ [b.sw[bg + k]]), .int ((bg : Int) + (k : Nat) + 1)]] := by
          rw [chil_succ, hsw, ← List.append_assoc, List.map_append (l₂ := match some b.sw[bg + k] with | some s => if extF b.s fr v s = true then [(v ++ [s], bg + k + 1)] else [] | none => [])]
          congr 1
          show List.map pNode (if extF b.s fr v b.sw[bg + k] = true then [(v ++ [b.sw[bg + k]], bg + k + 1)] else []) = _
          rw [if_pos he]
          show [PyData.tuple [pWay (v ++ [b.sw[bg + k]]), .int ((bg + k + 1 : Nat) : Int)]] = _
          have : ((bg + k + 1 : Nat) : Int) = (bg : Int) + (k : Nat) + 1 := by omega
          rw [this]
        unfold cStF
        rw [e1]
        rfl
      · refine sw_nil ⟨left.dropLast ++ chil (extF b.s fr) b.sw v bg (k + 1), Wk.of [8, 9, 10] ?_, rfl⟩
        have e1 : chil (extF b.s fr) b.sw v bg (k + 1) = chil (extF b.s fr) b.sw v bg k := by
          rw [chil_succ, hsw]
          show _ ++ (if extF b.s fr v b.sw[bg + k] = true then [(v ++ [b.sw[bg + k]], bg + k + 1)] else []) = _
          rw [he, if_neg Bool.false_ne_true, List.append_nil]
        unfold cStF
        rw [e1]
        rfl
    · rw [List.length_map, List.length_range] at hl
      have hkk : bg + (b.sw.length - bg) = b.sw.length := by omega
      refine sw_nil ⟨(found ++ [v], l), Wk.of [5, 6, 7] rfl, ⟨?_, ?_⟩, ?_⟩
      · show ((found ++ [v]) ++ l.flatMap fun x => gen (extF b.s fr) x.1 (b.sw.drop x.2)).Perm _
        refine List.Perm.trans ?_ hpm'
        have hck := chil_kids (extF b.s fr) b.sw v bg (b.sw.length - bg) (by omega)
        rw [hkk, List.drop_length, show kids (extF b.s fr) v [] = [] from rfl, List.append_nil] at hck
        have e2 : left.flatMap (fun x => gen (extF b.s fr) x.1 (b.sw.drop x.2)) = left.dropLast.flatMap (fun x => gen (extF b.s fr) x.1 (b.sw.drop x.2)) ++ gen (extF b.s fr) v (b.sw.drop bg) := by
          rw [hsn, List.flatMap_append, List.flatMap_cons, List.flatMap_nil, List.append_nil, List.dropLast_concat]
        rw [e2, hl, List.flatMap_append, hck]
        unfold gen
        rw [List.append_assoc, List.singleton_append]
        refine List.Perm.append_left _ ?_
        exact List.perm_middle.symm
      · intro x hx
        rw [hl] at hx
        rcases List.mem_append.mp hx with hx | hx
        · exact hlb' x (mem_dropLast hx)
        · have q := chil_b (extF b.s fr) b.sw v bg (b.sw.length - bg) (by omega) x hx
          exact ⟨q.2.1, by have := q.1; have := q.2.2; omega⟩
      · show mass b.sw.length l < mass b.sw.length left
        have q := chil_mass (extF b.s fr) b.sw v bg (b.sw.length - bg) (by omega)
        rw [hl, mass_app, hsn, mass_app, mass_one, List.dropLast_concat]
        have : 0 < 2 ^ (b.sw.length - (bg + (b.sw.length - bg))) := Nat.two_pow_pos _
        show _ < mass b.sw.length left.dropLast + 2 ^ (b.sw.length - bg)
        omega
  · have he : left = [] := by simpa using hk
    subst he
    rw [List.flatMap_nil, List.append_nil] at hpm'
    refine sw_one (s_ret ((d_sortT al_way tup_way lay_way (by omega) hu (dvo 3 rfl) B.sorted_).is ?_) rfl)
    rw [srtT_perm_eq eqv_way al_way hpm' (hpm'.nodup_iff.mpr (gen_nodup _ _ _ (ascT_nodup hb'.asc)))]
    rfl
end
end Ac
-- part C7
set_option Elab.async false
set_option maxRecDepth 100000
set_option maxHeartbeats 4000000
set_option linter.all false
namespace Ac
open PySem PySem.Spec PyProof.Rows L2
def cWa (b : Bx) (ld : List Int) (s : List Way × List (Way × Nat)) : List Sl := [Tb b, .t (.p (tupI ld)), .ol (s.1.map pWay), .ol (s.2.map pNode), .no, .no, .no, .no, .no, .no, .no]
def cWaF (b : Bx) (ld : List Int) (found : List Way) (w : Way) (at_ : Nat) (left : List (Way × Nat)) : List Sl := [Tb b, .t (.p (tupI ld)), .ol (found.map pWay), .ol (left.map pNode), .t (.p (pWay w)), .t (.p (.int (at_ : Nat))), .t (.p (tupI (loadOf b.s w))), .t (.p (.list ((pinsOf w).map pPin))), .no, .no, .no]
section
variable {P : Program} {w : World} {K : PySem.W.Frag} {mg : Str → Option Value} {base : Heap}
abbrev sd_ways_of : Stmt := top 51
abbrev N_ways_of : List Str := ["box", "load", "found", "left", "way", "begin", "told", "taken", "at", "switch", "more"]
theorem sc_ways_of : FnScope N_ways_of ["box", "load"] (defScope sd_ways_of) := ⟨rfl, rfl, rfl, by decide +kernel, rfl, by decide +kernel, by decide +kernel⟩
abbrev Fways_of (P : Program) (w : World) (K : PySem.W.Frag) (mg : Str → Option Value) (base : Heap) : Prop := Fn P w K mg base "ways_of" 3 (fun i : Bx × List Int => [i.1.t_, .p (tupI i.2)]) (fun i => BxOk i.1) (fun i => .p (.list ((waysTo i.1 i.2).map pWay)))
theorem ok_ways_of (TF : TopF K mg "ways_of" sd_ways_of) (B : Bi mg) (BX : BoxK K mg) (G1 : Fpins_of P w K mg base) (G2 : Fload_with P w K mg base) (G3 : Fload_of P w K mg base) (G4 : Fsides_of P w K mg base) (G5 : Fis_below P w K mg base) : Fways_of P w K mg base := by
  refine fn_body TF sc_ways_of (fun _ => rfl) (fun _ _ _ _ _ _ us hl => match us, hl with | [_, _], _ => rfl) fun f cdv A outer s H E i hr hok => ?_
  have hu := hr.units
  have hu5 := hr.u65
  have hN := sc_ways_of.nd
  obtain ⟨b, ld⟩ := i
  have hb' : BxOk b := hok
  have h8 := hb'.few
  have h2 := hb'.s2
  have h5 := hb'.s5
  have hp := pairs_le b.s h5
  let ex := extL b.s ld
  let g : Way → Bool := fun w => decide (loadOf b.s w = ld)
  have all : (genL ex g [] b.sw).length ≤ 256 := by
    have := genL_len ex g b.sw []
    have : 2 ^ b.sw.length ≤ 2 ^ 8 := Nat.pow_le_pow_right (by omega) h8
    omega
  let Iv : List Way × List (Way × Nat) → Prop := fun s => (s.1 ++ s.2.flatMap fun x => genL ex g x.1 (b.sw.drop x.2)).Perm (genL ex g [] b.sw) ∧ ∀ x ∈ s.2, x.2 ≤ b.sw.length ∧ x.1.length ≤ x.2
  refine sw_cons (s_par 2 3 rfl hN (dfs_own (df_lst dp_nil (Nat.zero_le _)) (dfs_own (df_lst (dp_cons (d_tp (dp_cons (d_tp dp_nil) (dp_cons d_int dp_nil))) dp_nil) (Nat.le_of_ble_eq_true rfl)) dfs_nil)) ?_)
  refine sw_while (S := List Way × List (Way × Nat)) (cWa b ld) (fun s => Iv s ∧ s.2.length ≤ mass b.sw.length s.2 ∧ mass b.sw.length s.2 ≤ 256) (fun s => mass b.sw.length s.2) ([], [([], 0)]) (.refl _) ⟨⟨?_, ?_⟩, ?_, ?_⟩ (fun s hs => ?_)
  · show ([] ++ List.flatMap _ [([], 0)]).Perm _
    rw [List.nil_append, List.flatMap_cons, List.flatMap_nil, List.append_nil]
    exact List.Perm.refl _
  · intro x hx
    rw [List.mem_singleton.mp hx]
    exact ⟨Nat.zero_le _, Nat.le_refl _⟩
  · rw [mass_one]
    exact Nat.two_pow_pos _
  · rw [mass_one]
    exact Nat.pow_le_pow_right (n := 2) (by omega) (show b.sw.length - 0 ≤ 8 by omega)
  obtain ⟨found, left⟩ := s
  obtain ⟨⟨hpm, hlb⟩, hm1, hm2⟩ := hs
  have hpm' : (found ++ left.flatMap fun x => genL ex g x.1 (b.sw.drop x.2)).Perm (genL ex g [] b.sw) := hpm
  have hlb' : ∀ x ∈ left, x.2 ≤ b.sw.length ∧ x.1.length ≤ x.2 := hlb
  have hm1' : left.length ≤ mass b.sw.length left := hm1
  have hm2' : mass b.sw.length left ≤ 256 := hm2
  have hff : found.length ≤ 256 := by
    have e := hpm'.length_eq
    rw [List.length_append] at e
    omega
  refine ⟨!decide (left = []), (dt_cmp (o_ne (d := .list (left.map pNode)) (f := .list []) hu ((lay_lst (lay_map lay_node left)).sh (by omega)) ((lay_lst (n := 0) (ds := []) (fun _ h => nomatch h)).sh (by omega))) (dvo 3 rfl) (d_ls dp_nil).lend).is ?_, fun hk => ?_, fun hk => ?_⟩
  · rw [show PyData.eqv (.list (left.map pNode)) (.list []) = decide (left = []) from eqv_listOf eqv_node left []]
  · have hne : left ≠ [] := by intro e; rw [e] at hk; simp at hk
    obtain ⟨⟨v, bg⟩, hlast, hsn⟩ := getLast_snoc hne
    have hmem : (v, bg) ∈ left := by rw [hsn]; exact List.mem_append_right _ (List.mem_singleton.mpr rfl)
    obtain ⟨hbg, hvl⟩ := hlb' _ hmem
    have hbg' : bg ≤ b.sw.length := hbg
    have hvl' : v.length ≤ bg := hvl
    have hdl : left.dropLast.length + 1 = left.length := by
      have e := congrArg List.length hsn
      rw [List.length_append] at e
      simpa using e.symm
    have hms : mass b.sw.length left = mass b.sw.length left.dropLast + 2 ^ (b.sw.length - bg) := by
      conv => lhs; rw [hsn]
      rw [mass_app, mass_one]
    have e2 : left.flatMap (fun x => genL ex g x.1 (b.sw.drop x.2)) = left.dropLast.flatMap (fun x => genL ex g x.1 (b.sw.drop x.2)) ++ genL ex g v (b.sw.drop bg) := by
      conv => lhs; rw [hsn]
      rw [List.flatMap_append, List.flatMap_cons, List.flatMap_nil, List.append_nil]
    have hmd : left.dropLast.length ≤ mass b.sw.length left.dropLast := by
      have : ∀ l : List (Way × Nat), l.length ≤ mass b.sw.length l := by
        intro l
        induction l with
        | nil => exact Nat.le_refl _
        | cons x l ih =>
          have := Nat.two_pow_pos (b.sw.length - x.2)
          show l.length + 1 ≤ mass b.sw.length ([x] ++ l)
          rw [mass_app, mass_one]
          omega
      exact this _
    have hpos := Nat.two_pow_pos (b.sw.length - bg)
    refine sw_cons (s_popTo 3 rfl (d := pNode (v, bg)) (by rw [List.getLast?_map, hlast]; rfl) (gt_tup rfl (gts_cons (gt_name 4 hN) (gts_cons (gt_name 5 hN) gts_nil))) ?_)
    have edl : (left.map pNode).dropLast = left.dropLast.map pNode := (List.map_dropLast ..).symm
    rw [edl]
    refine sw_cons (s_par 6 7 rfl hN (dfs_val (d_cl G3 hr (b.s, v) (da_cons (d_sides BX.f (dv 0 rfl)) (da_cons (dv 4 rfl) da_nil)) ⟨by show 0 ≤ b.s; omega, h5, by show v.length ≤ 1000; omega⟩) (dfs_val (d_cl G1 hr v (da_cons (dv 4 rfl) da_nil) (by show v.length ≤ 1000; omega)) dfs_nil)) ?_)
    refine sw_one (s_if (k := g v) ((dt_cmp (o_eqD eqv_tupI lay_tupI (by omega) hu) (dv 6 rfl).lend (dv 1 rfl).lend)) (fun hg => ?_) fun hg => ?_)
    · have efd : found.map pWay ++ [pWay v] = (found ++ [v]).map pWay := by rw [List.map_append]; rfl
      refine sw_one (s_app 2 rfl (dv 4 rfl) (by rw [List.length_map]; show found.length < 100000; omega) ⟨(found ++ [v], left.dropLast), Wk.of [4, 5, 6, 7] (by unfold cWa; rw [← efd]; rfl), ⟨⟨?_, fun x hx => hlb' x (mem_dropLast hx)⟩, hmd, ?_⟩, ?_⟩)
      · show ((found ++ [v]) ++ left.dropLast.flatMap fun x => genL ex g x.1 (b.sw.drop x.2)).Perm _
        refine List.Perm.trans ?_ hpm'
        rw [e2, show genL ex g v (b.sw.drop bg) = [v] by unfold genL; rw [if_pos hg], List.append_assoc]
        exact List.Perm.append_left _ List.perm_append_comm
      · show mass b.sw.length left.dropLast ≤ 256
        omega
      · show mass b.sw.length left.dropLast < mass b.sw.length left
        omega
    · have hrange : (List.range (((b.sw.length : Int) - (bg : Int)).toNat)) = List.range (b.sw.length - bg) := by congr 1; omega
      refine sw_for (S := List (Way × Nat)) (ds := (List.range (b.sw.length - bg)).map fun k => PyData.int ((bg : Int) + (k : Nat)))
        ((di_range2 (dv 5 rfl) (d_len (k := false) (ds := b.sw.map pSw) (n := (b.sw.length : Int)) (d_switches BX.f (dv 0 rfl)) (by rw [List.length_map]) B.len_) (by omega) B.range_).is (by rw [rgD_eq, hrange]))
        (cWaF b ld found v bg) (fun k l => l = left.dropLast ++ chil ex b.sw v bg k) left.dropLast (.refl _) (by simp [chil]) (fun k d l hd hl => ?_) (fun l hl => ?_)
      · rw [List.getElem?_map] at hd
        obtain ⟨k', hk', rfl⟩ := Option.map_eq_some_iff.mp hd
        obtain ⟨hk1, hk2⟩ := List.getElem?_eq_some_iff.mp hk'
        rw [List.length_range] at hk1
        rw [List.getElem_range] at hk2
        subst hk2
        subst hl
        have hsw : b.sw[bg + k]? = some b.sw[bg + k] := List.getElem?_eq_getElem (by omega)
        have hix : atI (b.sw.map pSw) ((bg : Int) + (k : Nat)) = some (pSw b.sw[bg + k]) := by
          have e : ((bg : Int) + (k : Nat)) = ((bg + k : Nat) : Int) := by omega
          rw [e, atI_nat, List.getElem?_map, hsw]; rfl
        have hcl := chil_len ex b.sw v bg k
        refine ⟨[8], _, gt_name 8 hN, ?_⟩
        refine sw_cons (s_asg 9 hN (d_ixT (ds := b.sw.map pSw) (d_switches BX.f (dv 0 rfl)) (dv 8 rfl) hix) ?_)
        refine sw_cons (s_asg 10 hN (d_cl G2 hr (b.s, loadOf b.s v, ends b.sw[bg + k]) (da_cons (d_sides BX.f (dv 0 rfl)) (da_cons (dv 6 rfl) (da_cons (d_cl G4 hr b.sw[bg + k] (da_cons (dv 9 rfl) da_nil) True.intro) da_nil))) ⟨by show 0 ≤ b.s; omega, h5⟩) ?_)
        have hll : (withP b.s (loadOf b.s v) (ends b.sw[bg + k])).length ≤ 100 := by
          unfold withP
          rw [List.length_map, List.length_zip]
          omega
        refine sw_one (s_if (k := ex v b.sw[bg + k]) (dw_and (dt_cmp (o_ninD eqv_pin lay_pin (by omega) hu5) (d_ixT (dv 9 rfl) d_int rfl).lend (dv 7 rfl).lend) fun _ => dw_and (dt_cmp (o_ninD eqv_pin lay_pin (by omega) hu5) (d_ixT (dv 9 rfl) d_int rfl).lend (dv 7 rfl).lend) fun _ => dw_and1 (dt_val (d_cl G5 hr (withP b.s (loadOf b.s v) (ends b.sw[bg + k]), ld) (da_cons (dv 10 rfl) (da_cons (dv 1 rfl) da_nil)) hll))).test (fun he => ?_) fun he => ?_)
        · refine sw_one (s_app 3 rfl (d_tp (dp_cons ((d_tup (dp_starT (ds := v.map pSw) (dv 4 rfl) (dp_cons (dv 9 rfl) dp_nil)) (by rw [List.length_append, List.length_map]; simp; omega)).is (by rw [pWay_snoc])) (dp_cons (d_bin o_add (dv 8 rfl).lend d_int.lend) dp_nil))) (by rw [List.length_map, List.length_append]; omega) ⟨left.dropLast ++ chil ex b.sw v bg (k + 1), Wk.of [8, 9, 10] ?_, rfl⟩)
          have e1 : (left.dropLast ++ chil ex b.sw v bg (k + 1)).map pNode = (left.dropLast ++ chil ex b.sw v bg k).map pNode ++ [.tuple [pWay (v ++ [b.sw[bg + k]]), .int ((bg : Int) + (k : Nat) + 1)]] := by
            rw [chil_succ, hsw, ← List.append_assoc, List.map_append (l₂ := match some b.sw[bg + k] with | some s => if ex v s = true then [(v ++ [s], bg + k + 1)] else [] | none => [])]
            congr 1
            show List.map pNode (if ex v b.sw[bg + k] = true then [(v ++ [b.sw[bg + k]], bg + k + 1)] else []) = _
            rw [if_pos he]
            show [PyData.tuple [pWay (v ++ [b.sw[bg + k]]), .int ((bg + k + 1 : Nat) : Int)]] = _
            have : ((bg + k + 1 : Nat) : Int) = (bg : Int) + (k : Nat) + 1 := by omega
            rw [this]
          unfold cWaF
          rw [e1]
          rfl
        · refine sw_nil ⟨left.dropLast ++ chil ex b.sw v bg (k + 1), Wk.of [8, 9, 10] ?_, rfl⟩
          have e1 : chil ex b.sw v bg (k + 1) = chil ex b.sw v bg k := by
            rw [chil_succ, hsw]
            show _ ++ (if ex v b.sw[bg + k] = true then [(v ++ [b.sw[bg + k]], bg + k + 1)] else []) = _
            rw [he, if_neg Bool.false_ne_true, List.append_nil]
          unfold cWaF
          rw [e1]
          rfl
      · rw [List.length_map, List.length_range] at hl
        have hkk : bg + (b.sw.length - bg) = b.sw.length := by omega
        have q := chil_mass ex b.sw v bg (b.sw.length - bg) (by omega)
        have : 0 < 2 ^ (b.sw.length - (bg + (b.sw.length - bg))) := Nat.two_pow_pos _
        have hml : mass b.sw.length l < mass b.sw.length left := by
          rw [hl, mass_app]
          omega
        have hll : l.length ≤ mass b.sw.length l := by
          have : ∀ l : List (Way × Nat), l.length ≤ mass b.sw.length l := by
            intro l
            induction l with
            | nil => exact Nat.le_refl _
            | cons x l ih =>
              have := Nat.two_pow_pos (b.sw.length - x.2)
              show l.length + 1 ≤ mass b.sw.length ([x] ++ l)
              rw [mass_app, mass_one]
              omega
          exact this _
        refine sw_nil ⟨(found, l), Wk.of [4, 5, 6, 7] rfl, ⟨⟨?_, ?_⟩, hll, by show mass b.sw.length l ≤ 256; omega⟩, hml⟩
        · show (found ++ l.flatMap fun x => genL ex g x.1 (b.sw.drop x.2)).Perm _
          refine List.Perm.trans ?_ hpm'
          have hck := chil_kidsL ex g b.sw v bg (b.sw.length - bg) (by omega)
          rw [hkk, List.drop_length, show kidsL ex g v [] = [] from rfl, List.append_nil] at hck
          have hgl : genL ex g v (b.sw.drop bg) = kidsL ex g v (b.sw.drop bg) := by
            unfold genL
            rw [hg, if_neg Bool.false_ne_true]
          rw [e2, hl, List.flatMap_append, hck, hgl]
        · intro x hx
          rw [hl] at hx
          rcases List.mem_append.mp hx with hx | hx
          · exact hlb' x (mem_dropLast hx)
          · have q := chil_b ex b.sw v bg (b.sw.length - bg) (by omega) x hx
            exact ⟨q.2.1, by have := q.1; have := q.2.2; omega⟩
  · have he : left = [] := by simpa using hk
    subst he
    rw [List.flatMap_nil, List.append_nil] at hpm'
    refine sw_one (s_ret ((d_sortT al_way tup_way lay_way (by omega) hu (dvo 2 rfl) B.sorted_).is ?_) rfl)
    rw [srtT_perm_eq eqv_way al_way hpm' (hpm'.nodup_iff.mpr (genL_nodup _ _ _ _ (ascT_nodup hb'.asc)))]
    rfl
end
end Ac
-- part L3
set_option maxHeartbeats 4000000
set_option Elab.async false
set_option maxRecDepth 100000
set_option linter.all false
/-! Ac, plain: grouping by loads; what answers an asking. -/
namespace Ac
open PySem PySem.Spec PyProof.Rows L2
def addG {α β : Type} [DecidableEq α] (g : List (α × List β)) (k : α) (w : β) : List (α × List β) := if (g.any fun x => decide (x.1 = k)) = true then g.map fun x => if x.1 = k then (x.1, x.2 ++ [w]) else x else g ++ [(k, [w])]
def group (s : Int) (ws : List Way) : List (List Int × List Way) := ws.foldl (fun g w => addG g (loadOf s w) w) []
theorem group_snoc (s : Int) (ws : List Way) (w : Way) : group s (ws ++ [w]) = addG (group s ws) (loadOf s w) w := by unfold group; rw [List.foldl_append]; rfl
def ofLoad (s : Int) (ws : List Way) (k : List Int) : List Way := ws.filter fun w => decide (loadOf s w = k)
theorem look_cons {α β : Type} [DecidableEq α] (x : α × β) (l : List (α × β)) (a : α) : look (x :: l) a = if x.1 = a then some x.2 else look l a := by
  unfold look
  rw [List.find?_cons]
  by_cases h : x.1 = a <;> simp [h]
theorem look_app {α β : Type} [DecidableEq α] (l m : List (α × β)) (a : α) : look (l ++ m) a = (look l a).or (look m a) := by
  induction l with
  | nil => rfl
  | cons x l ih =>
    rw [List.cons_append, look_cons, look_cons, ih]
    by_cases h : x.1 = a <;> simp [h]
theorem look_any {α β : Type} [DecidableEq α] (l : List (α × β)) (a : α) : (l.any fun x => decide (x.1 = a)) = (look l a).isSome := by
  induction l with
  | nil => rfl
  | cons x l ih =>
    rw [List.any_cons, look_cons, ih]
    by_cases h : x.1 = a <;> simp [h]
theorem look_map {α β γ : Type} [DecidableEq α] (f : α × β → γ) (l : List (α × β)) (a : α) : look (l.map fun x => (x.1, f x)) a = ((l.find? fun x => decide (x.1 = a)).map f) := by
  unfold look
  induction l with
  | nil => rfl
  | cons x l ih =>
    rw [List.map_cons, List.find?_cons, List.find?_cons]
    by_cases h : x.1 = a
    · simp [h]
    · simp only [h, decide_false]
      exact ih
theorem look_addG {α β : Type} [DecidableEq α] (g : List (α × List β)) (k a : α) (w : β) : look (addG g k w) a = if k = a then some ((look g k).getD [] ++ [w]) else look g a := by
  unfold addG
  rw [look_any]
  cases hk : look g k with
  | none =>
    rw [if_neg (by simp), look_app, look_cons]
    by_cases h : k = a
    · subst h; rw [hk]; simp
    · rw [if_neg h, if_neg h]; cases look g a <;> rfl
  | some v =>
    rw [if_pos (show (some v).isSome = true from rfl)]
    have aux : ∀ g : List (α × List β), look (g.map fun x => if x.1 = k then (x.1, x.2 ++ [w]) else x) a = if k = a then (look g k).map (· ++ [w]) else look g a := by
      intro g
      induction g with
      | nil => by_cases h : k = a <;> simp [h, look]
      | cons x g ih =>
        rw [List.map_cons, look_cons, look_cons, look_cons, ih]
        by_cases hx : x.1 = k
        · rw [if_pos hx]
          by_cases h : k = a
          · subst h; simp [hx]
          · have : ¬ x.1 = a := fun e => h (hx.symm.trans e)
            simp [this, h, hx]
        · rw [if_neg hx]
          by_cases h : k = a
          · subst h; simp [hx]
          · simp [h, hx]
    rw [aux, hk]
    by_cases h : k = a
    · rw [if_pos h, if_pos h]; rfl
    · rw [if_neg h, if_neg h]
/-- those of one load, by the grouping -/
theorem look_group (s : Int) (ws : List Way) (k : List Int) : (look (group s ws) k).getD [] = ofLoad s ws k := by
  have snoc : ∀ (l : List Way) (x : Way), ofLoad s (l ++ [x]) k = ofLoad s l k ++ (if loadOf s x = k then [x] else []) := by
    intro l x
    unfold ofLoad
    rw [List.filter_append, List.filter_cons, List.filter_nil]
    by_cases h : loadOf s x = k <;> simp [h]
  have aux : ∀ n, ∀ ws : List Way, ws.length = n → (look (group s ws) k).getD [] = ofLoad s ws k := by
    intro n
    induction n with
    | zero => intro ws h; rw [List.eq_nil_of_length_eq_zero h]; rfl
    | succ n ih =>
      intro ws h
      have hne : ws ≠ [] := by intro e; rw [e] at h; simp at h
      have e : ws = ws.dropLast ++ [ws.getLast hne] := (List.dropLast_concat_getLast hne).symm
      have hl : ws.dropLast.length = n := by rw [List.length_dropLast, h]; rfl
      rw [e, group_snoc, look_addG, snoc, ← ih _ hl]
      by_cases hk : loadOf s (ws.getLast hne) = k
      · rw [if_pos hk, if_pos hk, hk]; rfl
      · rw [if_neg hk, if_neg hk, List.append_nil]
  exact aux _ ws rfl
theorem group_len (s : Int) (ws : List Way) : (group s ws).length ≤ ws.length ∧ ∀ x ∈ group s ws, x.2.length ≤ ws.length := by
  have aux : ∀ (ws : List Way) (g : List (List Int × List Way)) (n : Nat), (g.length ≤ n ∧ ∀ x ∈ g, x.2.length ≤ n) → ((ws.foldl (fun g w => addG g (loadOf s w) w) g).length ≤ n + ws.length ∧ ∀ x ∈ ws.foldl (fun g w => addG g (loadOf s w) w) g, x.2.length ≤ n + ws.length) := by
    intro ws
    induction ws with
    | nil => intro g n h; exact h
    | cons w ws ih =>
      intro g n ⟨h1, h2⟩
      have := ih (addG g (loadOf s w) w) (n + 1) (by
        unfold addG
        split
        · rw [List.length_map]
          refine ⟨by omega, fun x hx => ?_⟩
          obtain ⟨y, hy, rfl⟩ := List.mem_map.mp hx
          have := h2 y hy
          split
          · show (y.2 ++ [w]).length ≤ n + 1
            rw [List.length_append, List.length_singleton]; omega
          · omega
        · rw [List.length_append, List.length_singleton]
          refine ⟨by omega, fun x hx => ?_⟩
          rcases List.mem_append.mp hx with hx | hx
          · have := h2 x hx; omega
          · rw [List.mem_singleton.mp hx]; show 1 ≤ n + 1; omega)
      rw [List.foldl_cons, List.length_cons]
      have e : n + 1 + ws.length = n + (ws.length + 1) := by omega
      rw [e] at this
      exact this
  have := aux ws [] 0 ⟨Nat.le_refl _, fun _ h => nomatch h⟩
  rw [Nat.zero_add] at this
  exact this
/-- what answers, among ws -/
def ansL (s m : Int) (ws : List Way) (st : Way) : Ask → List Way
  | .fin x => [leftBy st x]
  | .want p => (ofLoad s ws (withP s (loadOf s st) p)).filter fun o => decide (((moved st o : Nat) : Int) ≤ m)
end Ac
-- part L4
set_option maxHeartbeats 4000000
set_option Elab.async false
set_option maxRecDepth 100000
set_option linter.all false
/-! Ac, plain: games, ranks, what is kept. -/
namespace Ac
open PySem PySem.Spec PyProof.Rows L2
abbrev Rows := List (Ask × List Way)
def pWays (ws : List Way) : PyData := .list (ws.map pWay)
def pAsks (ws : List Ask) : PyData := .list (ws.map pAsk)
def pRow (r : Ask × List Way) : PyData := .tuple [pAsk r.1, pWays r.2]
def pRows (rs : Rows) : PyData := .list (rs.map pRow)
def pRank (r : Nat × Ask) : PyData := .tuple [.int (r.1 : Nat), pAsk r.2]
/-! ### dict comprehensions of distinct keys -/
theorem lk_none {kvs : List (NestedKey × PyData)} {k : NestedKey} (h : k ∉ kvs.map (·.1)) : lk kvs k = none := by
  unfold lk
  rw [Option.map_eq_none_iff, List.find?_eq_none]
  intro x hx e
  exact h (List.mem_map.mpr ⟨x, hx, of_decide_eq_true e⟩)
theorem putD_new {kvs : List (NestedKey × PyData)} {k : NestedKey} {d : PyData} (h : k ∉ kvs.map (·.1)) : putD kvs k d = kvs ++ [(k, d)] := by
  unfold putD
  rw [lk_none h]
  rfl
theorem dcD_nodup : ∀ {l : List (NestedKey × PyData)}, (l.map (·.1)).Nodup → dcD l = l := by
  have aux : ∀ (l acc : List (NestedKey × PyData)), ((acc ++ l).map (·.1)).Nodup → l.foldl (fun kvs p => putD kvs p.1 p.2) acc = acc ++ l := by
    intro l
    induction l with
    | nil => intro acc _; simp
    | cons p l ih =>
      intro acc h
      rw [List.foldl_cons, putD_new, ih]
      · rw [List.append_assoc]; rfl
      · rw [List.append_assoc]; exact h
      · intro hm
        rw [List.map_append, List.map_cons, List.nodup_append] at h
        exact h.2.2 _ hm _ List.mem_cons_self rfl
  intro l h
  exact aux l [] h
theorem putAll_nodup : ∀ {more kvs : List (NestedKey × PyData)}, ((kvs ++ more).map (·.1)).Nodup → putAll kvs more = kvs ++ more := by
  intro more
  induction more with
  | nil => intro kvs _; simp [putAll]
  | cons p l ih =>
    intro kvs h
    show putAll (putD kvs p.1 p.2) l = _
    rw [putD_new, ih]
    · rw [List.append_assoc]; rfl
    · rw [List.append_assoc]; exact h
    · intro hm
      rw [List.map_append, List.map_cons, List.nodup_append] at h
      exact h.2.2 _ hm _ List.mem_cons_self rfl
theorem dk_keys {α β : Type} (k : α → NestedKey) (f : β → PyData) (l : List (α × β)) : (dk k f l).map (·.1) = (l.map (·.1)).map k := by unfold dk; rw [List.map_map, List.map_map]; rfl
theorem dk_app {α β : Type} (k : α → NestedKey) (f : β → PyData) (l m : List (α × β)) : dk k f (l ++ m) = dk k f l ++ dk k f m := by unfold dk; rw [List.map_append]
theorem nodup_key {α : Type} {k : α → NestedKey} (hk : ∀ a b, k a = k b → a = b) {l : List α} (h : l.Nodup) : (l.map k).Nodup := List.pairwise_map.mpr (h.imp fun {a b} ne e => ne (hk a b e))
theorem look_mem {α β : Type} [DecidableEq α] {l : List (α × β)} {a : α} {b : β} (h : look l a = some b) : (a, b) ∈ l := by
  unfold look at h
  obtain ⟨x, hx, e⟩ := Option.map_eq_some_iff.mp h
  have h1 := List.mem_of_find?_eq_some hx
  have h2 := List.find?_some hx
  have h3 : x.1 = a := by simpa using h2
  rw [← h3, ← e]
  exact h1
theorem look_some {α β : Type} [DecidableEq α] {l : List (α × β)} {a : α} {b : β} (hn : (l.map (·.1)).Nodup) (h : (a, b) ∈ l) : look l a = some b := by
  induction l with
  | nil => cases h
  | cons x l ih =>
    rw [List.map_cons, List.nodup_cons] at hn
    rw [look_cons]
    rcases List.mem_cons.mp h with e | h
    · rw [← e, if_pos rfl]
    · rw [if_neg (fun e => hn.1 (by rw [e]; exact List.mem_map.mpr ⟨_, h, rfl⟩)), ih hn.2 h]
theorem look_isSome {α β : Type} [DecidableEq α] {l : List (α × β)} {a : α} : (look l a).isSome = true ↔ a ∈ l.map (·.1) := by
  rw [← look_any, List.any_eq_true, List.mem_map]
  exact ⟨fun ⟨x, h, e⟩ => ⟨x, h, of_decide_eq_true e⟩, fun ⟨x, h, e⟩ => ⟨x, h, decide_eq_true e⟩⟩
theorem look_none {α β : Type} [DecidableEq α] {l : List (α × β)} {a : α} : look l a = none ↔ a ∉ l.map (·.1) := by
  rw [← look_isSome]
  cases look l a <;> simp
/-- a set of ways as a dict -/
def marks (ws : List Way) : List (Way × Bool) := ws.map fun w => (w, true)
theorem look_marks (ws : List Way) (v : Way) : (look (marks ws) v).isSome = mem v ws := by
  rw [← look_any]
  unfold marks mem
  rw [List.any_map]
  rfl
/-! ### the game -/
def rowsOf_ (s m : Int) (fr : List (List Int)) (ws barred : List Way) (v : Way) : Rows := (asksAt s fr v).map fun a => (a, (ansL s m ws v a).filter fun o => !mem o barred)
def gameOf (s m : Int) (fr : List (List Int)) (ws barred : List Way) : List (Way × Rows) := (ws.filter fun v => !mem v barred).map fun v => (v, rowsOf_ s m fr ws barred v)
/-! ### ranks -/
def badOf (found : List (Way × (Nat × Ask))) (rs : Rows) : List Ask := (rs.filter fun r => r.2.all fun o => (look found o).isSome).map (·.1)
def freshOf (rank : Nat) (found : List (Way × (Nat × Ask))) : List (Way × Rows) → List (Way × (Nat × Ask))
  | [] => []
  | x :: g => (if (look found x.1).isSome = true then [] else match badOf found x.2 with
    | [] => []
    | a :: _ => [(x.1, (rank, a))]) ++ freshOf rank found g
theorem freshOf_cons (rank : Nat) (found : List (Way × (Nat × Ask))) (x : Way × Rows) (g : List (Way × Rows)) : freshOf rank found (x :: g) = (if (look found x.1).isSome = true then [] else match badOf found x.2 with
    | [] => []
    | a :: _ => [(x.1, (rank, a))]) ++ freshOf rank found g := rfl
theorem freshOf_app (rank : Nat) (found : List (Way × (Nat × Ask))) (g h : List (Way × Rows)) : freshOf rank found (g ++ h) = freshOf rank found g ++ freshOf rank found h := by
  induction g with
  | nil => rfl
  | cons x g ih => rw [List.cons_append, freshOf_cons, freshOf_cons, ih, List.append_assoc]
theorem freshOf_keys (rank : Nat) (found : List (Way × (Nat × Ask))) : ∀ g : List (Way × Rows), ((freshOf rank found g).map (·.1)).Sublist (g.map (·.1)) ∧ ∀ x ∈ freshOf rank found g, (look found x.1).isSome = false
  | [] => ⟨.slnil, fun _ h => nomatch h⟩
  | x :: g => by
    obtain ⟨h1, h2⟩ := freshOf_keys rank found g
    rw [freshOf_cons, List.map_append, List.map_cons]
    by_cases h : (look found x.1).isSome = true
    · rw [if_pos h]
      exact ⟨h1.cons _, h2⟩
    · rw [if_neg h]
      cases badOf found x.2 with
      | nil => exact ⟨h1.cons _, h2⟩
      | cons a r =>
        refine ⟨h1.cons₂ _, fun y hy => ?_⟩
        rcases List.mem_append.mp hy with hy | hy
        · rw [List.mem_singleton.mp hy]
          cases q : (look found x.1).isSome with
          | false => rfl
          | true => exact absurd q h
        · exact h2 y hy
def rounds (g : List (Way × Rows)) : Nat → Nat → List (Way × (Nat × Ask)) → List (Way × (Nat × Ask))
  | 0, _, found => found
  | n + 1, rank, found => if freshOf rank found g = [] then found else rounds g n (rank + 1) (found ++ freshOf rank found g)
/-- what is found in the end, in the order in which it was found -/
def lostRaw (g : List (Way × Rows)) : List (Way × (Nat × Ask)) := rounds g (g.length + 1) 0 []
def noRank : Nat × Ask := (0, .want (0, 0))
/-- by the standings' order -/
noncomputable def lostOf (g : List (Way × Rows)) : List (Way × (Nat × Ask)) := (srtT pWay ((lostRaw g).map (·.1))).map fun v => (v, (look (lostRaw g) v).getD noRank)
noncomputable def keptOf (g : List (Way × Rows)) : Option (List Way) :=
  if (!(look g []).isSome || (look (lostOf g) []).isSome) = true then none else some ((srtT pWay (g.map (·.1))).filter fun v => !(look (lostOf g) v).isSome)
theorem eqv_ask (x y : Ask) : PyData.eqv (pAsk x) (pAsk y) = decide (x = y) := by
  cases x <;> cases y <;> unfold pAsk <;> rw [PyData.eqv, PyData.eqvAll, PyData.eqvAll, PyData.eqvAll, eqv_str]
  · rw [eqv_sw]; simp
  · have : decide (("end" : Str) = "want") = false := by decide +kernel
    rw [this]; simp
  · have : decide (("want" : Str) = "end") = false := by decide +kernel
    rw [this]; simp
  · rw [eqv_pin]; simp
theorem badOf_len (found : List (Way × (Nat × Ask))) (rs : Rows) : (badOf found rs).length ≤ rs.length := by
  unfold badOf
  rw [List.length_map]
  exact List.length_filter_le _ _
/-- a game in bounds -/
structure GameOk (g : List (Way × Rows)) : Prop where
  nd : (g.map (·.1)).Nodup
  few : g.length ≤ 256
  rows : ∀ x ∈ g, x.2.length ≤ 60 ∧ ∀ r ∈ x.2, r.2.length ≤ 257
theorem fresh_len (rank : Nat) (found : List (Way × (Nat × Ask))) (g : List (Way × Rows)) : (freshOf rank found g).length ≤ g.length := by
  have := (freshOf_keys rank found g).1.length_le
  rwa [List.length_map, List.length_map] at this
/-- found so far: of the game, each once -/
structure FoundOk (g : List (Way × Rows)) (found : List (Way × (Nat × Ask))) : Prop where
  nd : (found.map (·.1)).Nodup
  sub : ∀ x ∈ found, x.1 ∈ g.map (·.1)
theorem FoundOk.len {g : List (Way × Rows)} {found : List (Way × (Nat × Ask))} (h : FoundOk g found) : found.length ≤ g.length := by
  have := len_in (found.map (·.1)) (g.map (·.1)) h.nd fun x hx => by
    obtain ⟨y, hy, rfl⟩ := List.mem_map.mp hx
    exact h.sub y hy
  rwa [List.length_map, List.length_map] at this
theorem FoundOk.next {g : List (Way × Rows)} {found : List (Way × (Nat × Ask))} (G : (g.map (·.1)).Nodup) (h : FoundOk g found) (rank : Nat) : FoundOk g (found ++ freshOf rank found g) := by
  obtain ⟨h1, h2⟩ := freshOf_keys rank found g
  refine ⟨?_, fun x hx => ?_⟩
  · rw [List.map_append, List.nodup_append]
    refine ⟨h.nd, G.sublist h1, fun a ha b hb e => ?_⟩
    obtain ⟨y, hy, rfl⟩ := List.mem_map.mp hb
    have := look_none.mp (Option.isSome_eq_false_iff.mp (h2 y hy) |> fun q => by cases z : look found y.1 with | none => rfl | some w => rw [z] at q; cases q)
    exact this (e ▸ ha)
  · rcases List.mem_append.mp hx with hx | hx
    · exact h.sub x hx
    · exact h1.subset (List.mem_map.mpr ⟨x, hx, rfl⟩)
end Ac
-- part C8
set_option Elab.async false
set_option maxRecDepth 100000
set_option maxHeartbeats 4000000
set_option linter.all false
namespace Ac
open PySem PySem.Spec PyProof.Rows L2
section
variable {X : Cx} {a b c : Expr} {dl : List Sl} {pos p : Pos}
/-- d.get(k, f), typed -/
theorem d_getK {α β : Type} [DecidableEq α] {k : α → NestedKey} {f : β → PyData} {g : α → PyData} (hk : ∀ a b, k a = k b → a = b) (hd : ∀ a, (k a).data = g a) (hg : ∀ a, ∃ ds, g a = .tuple ds) (hp : ∀ a, (k a).depth ≤ 8) {A : Around} (hu : A.units + 64 < cLine) {o ke fe : Expr} {apos : Pos} {x : α} {y : β} {l : List (α × β)}
    (ho : DE X o dl (.dic (dk k f l))) (hke : DE X ke dl (.p (g x))) (hf : DE X fe dl (.p (f y))) (hA : X.A = A := by rfl)
    (h : ∀ (r : V → List V → Hp → VK → Prop) (to : TE) (t : TA), MtR X "dict.get" r → PE X o to → PA X [ke, fe] t → PE X (.Call (.Attribute o "get" apos) [ke, fe] [] p) (tBMD r to t) := by intro r to t h1 h2 h3; exact pe_bmD PySem.F.slot_dict_get PySem.F.type_dict_get h1 h2 h3)
    (hs : starEach [ke, fe] X.env = (false, eval ke X.env) :: starEach [fe] X.env := by rfl) (hs2 : starEach [fe] X.env = (false, eval fe X.env) :: starEach [] X.env := by rfl) : DE X (.Call (.Attribute o "get" apos) [ke, fe] [] p) dl (.p (f ((look l x).getD y))) := by
  subst hA
  obtain ⟨ds, e⟩ := hg x
  rw [e] at hke
  have := d_getN (p := p) (k x) hu ho hke hf ((hd x).trans e) (hp x) h hs hs2
  rw [lk_dk hk] at this
  cases q : look l x with
  | none => rw [q] at this; exact this
  | some z => rw [q] at this; exact this
end
noncomputable def ansW (b : Bx) (m : Int) (st : Way) : Ask → List Way
  | .fin x => [leftBy st x]
  | .want p => (waysTo b (withP b.s (loadOf b.s st) p)).filter fun o => decide (((moved st o : Nat) : Int) ≤ m)
/-- an asking that may be made at a standing -/
def AskOk (b : Bx) (fr : List (List Int)) (st : Way) (a : Ask) : Prop := a ∈ asksAt b.s fr st
theorem askOk_fin {b : Bx} {fr : List (List Int)} {st : Way} {s : Sw} (h : AskOk b fr st (.fin s)) : s ∈ st := by
  unfold AskOk asksAt at h
  rcases List.mem_append.mp h with h | h
  · obtain ⟨x, hx, e⟩ := List.mem_map.mp h
    injection e with e
    exact e ▸ hx
  · obtain ⟨x, _, e⟩ := List.mem_map.mp h
    cases e
theorem askOk_want {b : Bx} {fr : List (List Int)} {st : Way} {p : Pin} (h : AskOk b fr st (.want p)) : p ∈ pairs b.s ∧ isOf (withP b.s (loadOf b.s st) p) fr = true := by
  unfold AskOk asksAt at h
  rcases List.mem_append.mp h with h | h
  · obtain ⟨x, _, e⟩ := List.mem_map.mp h
    cases e
  · obtain ⟨x, hx, e⟩ := List.mem_map.mp h
    injection e with e
    subst e
    exact List.mem_filter.mp hx
theorem withP_len (s : Int) (l : List Int) (p : Pin) : (withP s l p).length ≤ (pairs s).length := by
  unfold withP
  rw [List.length_map, List.length_zip]
  omega
section
variable {P : Program} {w : World} {K : PySem.W.Frag} {mg : Str → Option Value} {base : Heap}
abbrev sd_askings_at : Stmt := top 45
abbrev N_askings_at : List Str := ["box", "frame", "standing", "load", "wants", "pair", "switch"]
theorem sc_askings_at : FnScope N_askings_at ["box", "frame", "standing"] (defScope sd_askings_at) := ⟨rfl, rfl, rfl, by decide +kernel, rfl, by decide +kernel, by decide +kernel⟩
abbrev Faskings_at (P : Program) (w : World) (K : PySem.W.Frag) (mg : Str → Option Value) (base : Heap) : Prop := Fn P w K mg base "askings_at" 3 (fun i : Bx × List (List Int) × Way => [i.1.t_, .p (.tuple (i.2.1.map tupI)), .p (pWay i.2.2)]) (fun i => BxOk i.1 ∧ i.2.1.length ≤ 62 ∧ i.2.2.length ≤ 30) (fun i => .p (pAsks (asksAt i.1.s i.2.1 i.2.2)))
theorem ok_askings_at (TF : TopF K mg "askings_at" sd_askings_at) (B : Bi mg) (BX : BoxK K mg) (G1 : Fload_of P w K mg base) (G2 : Fpairs_of P w K mg base) (G3 : Fis_of P w K mg base) (G4 : Fload_with P w K mg base) : Faskings_at P w K mg base := by
  refine fn_body TF sc_askings_at (fun _ => rfl) (fun _ _ _ _ _ _ us hl => match us, hl with | [_, _, _], _ => rfl) fun f cdv A outer s H E i hr hok => ?_
  have hu := hr.units
  have hu5 := hr.u65
  have hN := sc_askings_at.nd
  obtain ⟨b, fr, v⟩ := i
  obtain ⟨hb, hf, hv⟩ := hok
  have hb' : BxOk b := hb
  have hf' : fr.length ≤ 62 := hf
  have hv' : v.length ≤ 30 := hv
  have h2 := hb'.s2
  have h5 := hb'.s5
  have hp := pairs_le b.s h5
  refine sw_cons (s_asg 3 hN (d_cl G1 hr (b.s, v) (da_cons (d_sides BX.f (dv 0 rfl)) (da_cons (dv 2 rfl) da_nil)) ⟨by show 0 ≤ b.s; omega, h5, by show v.length ≤ 1000; omega⟩) ?_)
  refine sw_cons (s_lc 4 rfl hN (blk_of (N := N_askings_at) (sc := defScope sd_askings_at) (by decide +kernel)) (dl_lc (onm := [("pair", 5)]) (xs := pairs b.s) (f := fun p => pAsk (.want p)) (k := fun p => isOf (withP b.s (loadOf b.s v) p) fr) rfl hN (di_list (d_cl G2 hr b.s (da_cons (d_sides BX.f (dv 0 rfl)) da_nil) ⟨by show 0 ≤ b.s; omega, h5⟩)) (blk_of (N := N_askings_at) (sc := defScope sd_askings_at) (by decide +kernel)) (List.all_eq_true.mp rfl) (fun _ _ _ _ _ _ _ => ⟨[5], by decide, gt_name 5 hN⟩)
    (fun _ _ _ _ _ x _ => dts_one (dt_val (d_cl G3 hr (withP b.s (loadOf b.s v) x, false, fr) (da_cons (d_cl G4 hr (b.s, loadOf b.s v, x) (da_cons (d_sides BX.f (dv 0 rfl)) (da_cons (dv 3 rfl) (da_cons (dv 5 rfl) da_nil))) ⟨by show 0 ≤ b.s; omega, h5⟩) (da_cons (dv 1 rfl) da_nil)) ⟨by have := withP_len b.s (loadOf b.s v) x; show (withP b.s _ _).length ≤ 100; omega, by show fr.length ≤ 1000; omega⟩)))
    (fun _ _ _ _ _ x _ _ => d_tp (dp_cons d_str (dp_cons (dv 5 rfl) dp_nil))) (by omega)) ?_)
  refine sw_one (s_ret ((d_lst (dp_starL (d_lcA (xs := v) (f := fun s => pAsk (.fin s)) (onm := [("switch", 6)]) (enc := pSw) hN (blk_of (N := N_askings_at) (sc := defScope sd_askings_at) (by decide +kernel)) (di_tup (dv 2 rfl)) rfl (fun _ _ _ _ _ _ _ => ⟨[6], by decide, gt_name 6 hN⟩) (fun _ _ _ _ _ x _ => d_tp (dp_cons d_str (dp_cons (dv 6 rfl) dp_nil))) (by omega)).lend (dp_starL (dv 4 rfl).lend dp_nil)) ?_).is ?_) rfl)
  · rw [List.length_append, List.length_map, List.length_append, List.length_map]
    have := List.length_filter_le (fun p => isOf (withP b.s (loadOf b.s v) p) fr) (pairs b.s)
    rw [List.length_nil]
    omega
  · unfold pAsks asksAt
    rw [List.append_nil, List.map_append, List.map_map, List.map_map]
    rfl
abbrev sd_askings : Stmt := top 46
abbrev N_askings : List Str := ["box", "frame", "standing"]
theorem sc_askings : FnScope N_askings ["box", "frame", "standing"] (defScope sd_askings) := ⟨rfl, rfl, rfl, by decide +kernel, rfl, by decide +kernel, by decide +kernel⟩
abbrev Faskings (P : Program) (w : World) (K : PySem.W.Frag) (mg : Str → Option Value) (base : Heap) : Prop := Fn P w K mg base "askings" 8 (fun i : Bx × List (List Int) × Way => [i.1.t_, .p (.tuple (i.2.1.map tupI)), .p (pWay i.2.2)]) (fun i => BxOk i.1 ∧ FrOk i.1.s i.2.1 ∧ StOk i.1 i.2.1 i.2.2) (fun i => .p (pAsks (asksAt i.1.s i.2.1 i.2.2)))
theorem ok_askings (TF : TopF K mg "askings" sd_askings) (BX : BoxK K mg) (G1 : Fneed_box P w K mg base) (G2 : Fneed_frame P w K mg base) (G3 : Fneed_standing P w K mg base) (G4 : Faskings_at P w K mg base) : Faskings P w K mg base := by
  refine fn_body TF sc_askings (fun _ => rfl) (fun _ _ _ _ _ _ us hl => match us, hl with | [_, _, _], _ => rfl) fun f cdv A outer s H E i hr hok => ?_
  have hu := hr.units
  have hu5 := hr.u65
  have hN := sc_askings.nd
  obtain ⟨b, fr, v⟩ := i
  obtain ⟨hb, hf, hv⟩ := hok
  have hb' : BxOk b := hb
  have hf' : FrOk b.s fr := hf
  have hv' : StOk b fr v := hv
  refine sw_cons (s_expr (d_cl G1 hr b (da_cons (dv 0 rfl) da_nil) True.intro) ?_)
  refine sw_cons (s_expr (d_cl G2 hr (b.s, fr) (da_cons (d_sides BX.f (dv 0 rfl)) (da_cons (dv 1 rfl) da_nil)) ⟨hb'.s2, hb'.s5, hf'⟩) ?_)
  refine sw_cons (s_expr (d_cl G3 hr (b, fr, v) (da_cons (dv 0 rfl) (da_cons (dv 1 rfl) (da_cons (dv 2 rfl) da_nil))) ⟨hb', hf'.tops.few, hv'⟩) ?_)
  exact sw_one (s_ret (d_cl G4 hr (b, fr, v) (da_cons (dv 0 rfl) (da_cons (dv 1 rfl) (da_cons (dv 2 rfl) da_nil))) ⟨hb', hf'.tops.few, hv'.way.few⟩) rfl)
abbrev sd_is_asking_at : Stmt := top 47
abbrev N_is_asking_at : List Str := ["box", "frame", "standing", "thing", "side"]
theorem sc_is_asking_at : FnScope N_is_asking_at ["box", "frame", "standing", "thing"] (defScope sd_is_asking_at) := ⟨rfl, rfl, rfl, by decide +kernel, rfl, by decide +kernel, by decide +kernel⟩
abbrev Fis_asking_at (P : Program) (w : World) (K : PySem.W.Frag) (mg : Str → Option Value) (base : Heap) : Prop := Fn P w K mg base "is_asking_at" 5 (fun i : Bx × List (List Int) × Way × Ask => [i.1.t_, .p (.tuple (i.2.1.map tupI)), .p (pWay i.2.2.1), .p (pAsk i.2.2.2)]) (fun i => BxOk i.1 ∧ FrOk i.1.s i.2.1 ∧ StOk i.1 i.2.1 i.2.2.1 ∧ AskOk i.1 i.2.1 i.2.2.1 i.2.2.2) (fun i => .p (.bool true))
theorem ok_is_asking_at (TF : TopF K mg "is_asking_at" sd_is_asking_at) (B : Bi mg) (BX : BoxK K mg) (G1 : Fis_switch P w K mg base) (G2 : Fis_between P w K mg base) (G3 : Fis_of P w K mg base) (G4 : Fload_with P w K mg base) (G5 : Fload_of P w K mg base) : Fis_asking_at P w K mg base := by
  refine fn_body TF sc_is_asking_at (fun _ => rfl) (fun _ _ _ _ _ _ us hl => match us, hl with | [_, _, _, _], _ => rfl) fun f cdv A outer s H E i hr hok => ?_
  have hu := hr.units
  have hu5 := hr.u65
  have hN := sc_is_asking_at.nd
  obtain ⟨b, fr, v, a⟩ := i
  obtain ⟨hb, hf, hv, ha⟩ := hok
  have hb' : BxOk b := hb
  have hf' : FrOk b.s fr := hf
  have hv' : StOk b fr v := hv
  have ha' : AskOk b fr v a := ha
  have h2 := hb'.s2
  have h5 := hb'.s5
  have hp := pairs_le b.s h5
  have hfew := hf'.tops.few
  have hvf := hv'.way.few
  cases a with
  | fin s =>
    have hs := askOk_fin ha'
    refine sw_cons (s_ifNo (dw_or (dt_not (dt_val (d_isi (cl := "tuple") (.tup _) rfl (dv 3 rfl) B.isinstance_ B.tuple_))) fun _ => dw_or (dt_cmp (o_neI hu) (d_len (k := false) (ds := [.str "end", pSw s]) (dv 3 rfl) rfl B.len_).lend d_int.lend) fun _ => dw_or1 (dt_not (dt_val (d_isi (cl := "str") (.str "end") rfl (d_ixT (ds := [.str "end", pSw s]) (dv 3 rfl) d_int rfl) B.isinstance_ B.str_)))).test rfl ?_)
    refine sw_cons (s_ifYes (dt_cmp (o_eqS hu (by decide +kernel) (by decide +kernel)) (d_ixT (ds := [.str "end", pSw s]) (dv 3 rfl) d_int rfl).lend d_str.lend) (by decide) ?_)
    refine sw_one (s_ret ((d_and (d_cl G1 hr (s, b.s, b.t) (da_cons (d_ixT (ds := [.str "end", pSw s]) (dv 3 rfl) d_int rfl) (da_cons (d_sides BX.f (dv 0 rfl)) (da_cons (d_tracks BX.f (dv 0 rfl)) da_nil))) (hb'.ok s (hv'.way.sub s hs))) fun _ => d_one (d_cmp (o_inUD eqv_sw lay_sw (by omega) hu5) (d_ixT (ds := [.str "end", pSw s]) (dv 3 rfl) d_int rfl).lend (dv 2 rfl).lend)).is (by rw [mem_iff.mpr hs]; rfl)) rfl)
  | want p =>
    obtain ⟨hpm, hof⟩ := askOk_want ha'
    obtain ⟨l1, l2, l3⟩ := pairs_lt hpm
    refine sw_cons (s_ifNo (dw_or (dt_not (dt_val (d_isi (cl := "tuple") (.tup _) rfl (dv 3 rfl) B.isinstance_ B.tuple_))) fun _ => dw_or (dt_cmp (o_neI hu) (d_len (k := false) (ds := [.str "want", pPin p]) (dv 3 rfl) rfl B.len_).lend d_int.lend) fun _ => dw_or1 (dt_not (dt_val (d_isi (cl := "str") (.str "want") rfl (d_ixT (ds := [.str "want", pPin p]) (dv 3 rfl) d_int rfl) B.isinstance_ B.str_)))).test rfl ?_)
    refine sw_cons (s_ifNo (dt_cmp (o_eqS hu (by decide +kernel) (by decide +kernel)) (d_ixT (ds := [.str "want", pPin p]) (dv 3 rfl) d_int rfl).lend d_str.lend) (by decide) ?_)
    refine sw_cons (s_ifNo (dw_or (dt_cmp (o_neS hu (by decide +kernel) (by decide +kernel)) (d_ixT (ds := [.str "want", pPin p]) (dv 3 rfl) d_int rfl).lend d_str.lend) fun _ => dw_or (dt_not (dt_val (d_isi (cl := "tuple") (.tup [.int p.1, .int p.2]) rfl (d_ixT (ds := [.str "want", pPin p]) (dv 3 rfl) d_int rfl) B.isinstance_ B.tuple_))) fun _ => dw_or1 (dt_cmp (o_neI hu) (d_len (k := false) (ds := [.int p.1, .int p.2]) (d_ixT (ds := [.str "want", pPin p]) (dv 3 rfl) d_int rfl) rfl B.len_).lend d_int.lend)).test (by simp) ?_)
    refine sw_cons (s_ifNo (dw_or (dt_not (dt_val (d_all (xs := [p.1, p.2]) (g := fun n => between n 0 (b.s - 1)) (d_lcA (onm := [("side", 4)]) (enc := .int) hN (blk_of (N := N_is_asking_at) (sc := defScope sd_is_asking_at) (by decide +kernel)) (di_tup (d_ixT (ds := [.str "want", pPin p]) (dv 3 rfl) d_int rfl)) rfl (fun _ _ _ _ _ _ _ => ⟨[4], by decide, gt_name 4 hN⟩) (fun _ _ _ _ _ x _ => d_cl G2 hr (x, 0, b.s - 1) (da_cons (dv 4 rfl) (da_cons d_int (da_cons (d_bin o_sub (d_sides BX.f (dv 0 rfl)).lend d_int.lend) da_nil))) True.intro) (by simp)) B.all_)))
      fun _ => dw_or1 (dt_cmp o_ge (d_ixT (ds := [.int p.1, .int p.2]) (d_ixT (ds := [.str "want", pPin p]) (dv 3 rfl) d_int rfl) d_int rfl).lend (d_ixT (ds := [.int p.1, .int p.2]) (d_ixT (ds := [.str "want", pPin p]) (dv 3 rfl) d_int rfl) d_int rfl).lend)).test ?_ ?_)
    · simp [between]
      omega
    · refine sw_one (s_ret ((d_cl G3 hr (withP b.s (loadOf b.s v) p, false, fr) (da_cons (d_cl G4 hr (b.s, loadOf b.s v, p) (da_cons (d_sides BX.f (dv 0 rfl)) (da_cons (d_cl G5 hr (b.s, v) (da_cons (d_sides BX.f (dv 0 rfl)) (da_cons (dv 2 rfl) da_nil)) ⟨by show 0 ≤ b.s; omega, h5, by show v.length ≤ 1000; omega⟩) (da_cons (d_ixT (ds := [.str "want", pPin p]) (dv 3 rfl) d_int rfl) da_nil))) ⟨by show 0 ≤ b.s; omega, h5⟩) (da_cons (dv 1 rfl) da_nil)) ⟨by have := withP_len b.s (loadOf b.s v) p; show (withP b.s _ _).length ≤ 100; omega, by show fr.length ≤ 1000; omega⟩).is ?_) rfl)
      show T.p (.bool (isOf (withP b.s (loadOf b.s v) p) fr)) = _
      rw [hof]
abbrev sd_answers_at : Stmt := top 50
abbrev N_answers_at : List Str := ["box", "moves", "standing", "asking", "load", "way"]
theorem sc_answers_at : FnScope N_answers_at ["box", "moves", "standing", "asking"] (defScope sd_answers_at) := ⟨rfl, rfl, rfl, by decide +kernel, rfl, by decide +kernel, by decide +kernel⟩
abbrev Fanswers_at (P : Program) (w : World) (K : PySem.W.Frag) (mg : Str → Option Value) (base : Heap) : Prop := Fn P w K mg base "answers_at" 4 (fun i : Bx × Int × Way × Ask => [i.1.t_, .p (.int i.2.1), .p (pWay i.2.2.1), .p (pAsk i.2.2.2)]) (fun i => BxOk i.1 ∧ i.2.2.1.length ≤ 30) (fun i => .p (pWays (ansW i.1 i.2.1 i.2.2.1 i.2.2.2)))
theorem ok_answers_at (TF : TopF K mg "answers_at" sd_answers_at) (B : Bi mg) (BX : BoxK K mg) (G1 : Fleft_by P w K mg base) (G2 : Fload_with P w K mg base) (G3 : Fload_of P w K mg base) (G4 : Fways_of P w K mg base) (G5 : Fmoved_in P w K mg base) : Fanswers_at P w K mg base := by
  refine fn_body TF sc_answers_at (fun _ => rfl) (fun _ _ _ _ _ _ us hl => match us, hl with | [_, _, _, _], _ => rfl) fun f cdv A outer s H E i hr hok => ?_
  have hu := hr.units
  have hu5 := hr.u65
  have hN := sc_answers_at.nd
  obtain ⟨b, m, v, a⟩ := i
  obtain ⟨hb, hv⟩ := hok
  have hb' : BxOk b := hb
  have hv' : v.length ≤ 30 := hv
  have h2 := hb'.s2
  have h5 := hb'.s5
  cases a with
  | fin s =>
    refine sw_cons (s_ifYes (dt_cmp (o_eqS hu (by decide +kernel) (by decide +kernel)) (d_ixT (ds := [.str "end", pSw s]) (dv 3 rfl) d_int rfl).lend d_str.lend) (by decide) ?_)
    exact sw_one (s_ret (d_ls (dp_cons (d_cl G1 hr (v, s) (da_cons (dv 2 rfl) (da_cons (d_ixT (ds := [.str "end", pSw s]) (dv 3 rfl) d_int rfl) da_nil)) (by show v.length ≤ 1000; omega)) dp_nil)) rfl)
  | want p =>
    have hw : (waysTo b (withP b.s (loadOf b.s v) p)).length ≤ 256 := by
      unfold waysTo
      rw [(srtT_perm _ _).length_eq]
      have := genL_len (extL b.s (withP b.s (loadOf b.s v) p)) (fun w => decide (loadOf b.s w = withP b.s (loadOf b.s v) p)) b.sw []
      have : 2 ^ b.sw.length ≤ 2 ^ 8 := Nat.pow_le_pow_right (by omega) hb'.few
      omega
    refine sw_cons (s_ifNo (dt_cmp (o_eqS hu (by decide +kernel) (by decide +kernel)) (d_ixT (ds := [.str "want", pPin p]) (dv 3 rfl) d_int rfl).lend d_str.lend) (by decide) ?_)
    refine sw_cons (s_asg 4 hN (d_cl G2 hr (b.s, loadOf b.s v, p) (da_cons (d_sides BX.f (dv 0 rfl)) (da_cons (d_cl G3 hr (b.s, v) (da_cons (d_sides BX.f (dv 0 rfl)) (da_cons (dv 2 rfl) da_nil)) ⟨by show 0 ≤ b.s; omega, h5, by show v.length ≤ 1000; omega⟩) (da_cons (d_ixT (ds := [.str "want", pPin p]) (dv 3 rfl) d_int rfl) da_nil))) ⟨by show 0 ≤ b.s; omega, h5⟩) ?_)
    exact sw_one (s_ret (d_lcF (xs := waysTo b (withP b.s (loadOf b.s v) p)) (f := pWay) (k := fun o => decide (((moved v o : Nat) : Int) ≤ m)) (onm := [("way", 5)]) (enc := pWay) hN (blk_of (N := N_answers_at) (sc := defScope sd_answers_at) (by decide +kernel)) (di_list (d_cl G4 hr (b, withP b.s (loadOf b.s v) p) (da_cons (dv 0 rfl) (da_cons (dv 4 rfl) da_nil)) hb')) rfl (fun _ _ _ _ _ _ _ => ⟨[5], by decide, gt_name 5 hN⟩)
      (fun _ _ _ _ _ x _ => dt_cmp o_le (d_cl G5 hr (v, x) (da_cons (dv 2 rfl) (da_cons (dv 5 rfl) da_nil)) (by show v.length ≤ 1000; omega)).lend (dv 1 rfl).lend) (fun _ _ _ _ _ x _ _ => dv 5 rfl) (by omega)) rfl)
abbrev sd_answers : Stmt := top 52
abbrev N_answers : List Str := ["box", "frame", "moves", "standing", "asking"]
theorem sc_answers : FnScope N_answers ["box", "frame", "moves", "standing", "asking"] (defScope sd_answers) := ⟨rfl, rfl, rfl, by decide +kernel, rfl, by decide +kernel, by decide +kernel⟩
abbrev Fanswers (P : Program) (w : World) (K : PySem.W.Frag) (mg : Str → Option Value) (base : Heap) : Prop := Fn P w K mg base "answers" 8 (fun i : Bx × List (List Int) × Int × Way × Ask => [i.1.t_, .p (.tuple (i.2.1.map tupI)), .p (.int i.2.2.1), .p (pWay i.2.2.2.1), .p (pAsk i.2.2.2.2)]) (fun i => BxOk i.1 ∧ FrOk i.1.s i.2.1 ∧ (0 ≤ i.2.2.1 ∧ i.2.2.1 ≤ 20) ∧ StOk i.1 i.2.1 i.2.2.2.1 ∧ AskOk i.1 i.2.1 i.2.2.2.1 i.2.2.2.2) (fun i => .p (pWays (ansW i.1 i.2.2.1 i.2.2.2.1 i.2.2.2.2)))
theorem ok_answers (TF : TopF K mg "answers" sd_answers) (BX : BoxK K mg) (G1 : Fneed_box P w K mg base) (G2 : Fneed_frame P w K mg base) (G3 : Fneed_moves P w K mg base) (G4 : Fneed_standing P w K mg base) (G5 : Fis_asking_at P w K mg base) (G6 : Fanswers_at P w K mg base) : Fanswers P w K mg base := by
  refine fn_body TF sc_answers (fun _ => rfl) (fun _ _ _ _ _ _ us hl => match us, hl with | [_, _, _, _, _], _ => rfl) fun f cdv A outer s H E i hr hok => ?_
  have hu := hr.units
  have hu5 := hr.u65
  have hN := sc_answers.nd
  obtain ⟨b, fr, m, v, a⟩ := i
  obtain ⟨hb, hf, hm, hv, ha⟩ := hok
  have hb' : BxOk b := hb
  have hf' : FrOk b.s fr := hf
  have hv' : StOk b fr v := hv
  refine sw_cons (s_expr (d_cl G1 hr b (da_cons (dv 0 rfl) da_nil) True.intro) ?_)
  refine sw_cons (s_expr (d_cl G2 hr (b.s, fr) (da_cons (d_sides BX.f (dv 0 rfl)) (da_cons (dv 1 rfl) da_nil)) ⟨hb'.s2, hb'.s5, hf'⟩) ?_)
  refine sw_cons (s_expr (d_cl G3 hr m (da_cons (dv 2 rfl) da_nil) hm) ?_)
  refine sw_cons (s_expr (d_cl G4 hr (b, fr, v) (da_cons (dv 0 rfl) (da_cons (dv 1 rfl) (da_cons (dv 3 rfl) da_nil))) ⟨hb', hf'.tops.few, hv'⟩) ?_)
  refine sw_cons (s_ifNo (dt_not (dt_val (d_cl G5 hr (b, fr, v, a) (da_cons (dv 0 rfl) (da_cons (dv 1 rfl) (da_cons (dv 3 rfl) (da_cons (dv 4 rfl) da_nil)))) ⟨hb', hf', hv', ha⟩))) rfl ?_)
  exact sw_one (s_ret (d_cl G6 hr (b, m, v, a) (da_cons (dv 0 rfl) (da_cons (dv 2 rfl) (da_cons (dv 3 rfl) (da_cons (dv 4 rfl) da_nil)))) ⟨hb', hv'.way.few⟩) rfl)
end
end Ac
-- part C9
set_option Elab.async false
set_option maxRecDepth 100000
set_option maxHeartbeats 4000000
set_option linter.all false
namespace Ac
open PySem PySem.Spec PyProof.Rows L2
theorem ansL_len (s m : Int) (ws : List Way) (v : Way) (a : Ask) : (ansL s m ws v a).length ≤ ws.length + 1 := by
  cases a with
  | fin x => show 1 ≤ _; omega
  | want p =>
    unfold ansL ofLoad
    have h1 := List.length_filter_le (fun w => decide (loadOf s w = withP s (loadOf s v) p)) ws
    have h2 := List.length_filter_le (fun o => decide (((moved v o : Nat) : Int) ≤ m)) (ws.filter fun w => decide (loadOf s w = withP s (loadOf s v) p))
    show (List.filter _ (List.filter _ _)).length ≤ _
    omega
theorem addD_group {g : List (List Int × List Way)} {k : List Int} {v : Way} : addD (g.map fun x => (kLoad x.1, x.2.map pWay)) (kLoad k) (pWay v) = (addG g k v).map fun x => (kLoad x.1, x.2.map pWay) := by
  unfold addD addG
  have e : ((g.map fun x => (kLoad x.1, x.2.map pWay)).any fun x => decide (x.1 = kLoad k)) = g.any fun x => decide (x.1 = k) := by
    rw [List.any_map]
    refine congrArg (fun p => List.any g p) (funext fun x => ?_)
    show decide (kLoad x.1 = kLoad k) = decide (x.1 = k)
    exact decide_eq_decide.mpr ⟨kLoad_inj, fun h => by rw [h]⟩
  rw [e]
  split
  · rw [List.map_map, List.map_map]
    refine List.map_congr_left fun x _ => ?_
    show (if kLoad x.1 = kLoad k then (kLoad x.1, x.2.map pWay ++ [pWay v]) else (kLoad x.1, x.2.map pWay)) = (kLoad (if x.1 = k then (x.1, x.2 ++ [v]) else x).1, (if x.1 = k then (x.1, x.2 ++ [v]) else x).2.map pWay)
    by_cases h : x.1 = k
    · rw [if_pos h, if_pos (by rw [h]), List.map_append]; rfl
    · rw [if_neg h, if_neg (fun e => h (kLoad_inj e))]
  · rw [List.map_append]; rfl
section
variable {P : Program} {w : World} {K : PySem.W.Frag} {mg : Str → Option Value} {base : Heap}
abbrev sd_by_loads : Stmt := top 56
abbrev N_by_loads : List Str := ["box", "some", "found", "standing"]
theorem sc_by_loads : FnScope N_by_loads ["box", "some"] (defScope sd_by_loads) := ⟨rfl, rfl, rfl, by decide +kernel, rfl, by decide +kernel, by decide +kernel⟩
abbrev Tloads (s : Int) (ws : List Way) : T := .dic (dk kLoad pWays (group s ws))
abbrev Fby_loads (P : Program) (w : World) (K : PySem.W.Frag) (mg : Str → Option Value) (base : Heap) : Prop := Fn P w K mg base "by_loads" 3 (fun i : Bx × Bool × List Way => [i.1.t_, sq i.2.1 (i.2.2.map pWay)]) (fun i => BxOk i.1 ∧ i.2.2.length ≤ 5000 ∧ ∀ v ∈ i.2.2, v.length ≤ 30) (fun i => Tloads i.1.s i.2.2)
theorem ok_by_loads (TF : TopF K mg "by_loads" sd_by_loads) (BX : BoxK K mg) (G1 : Fload_of P w K mg base) : Fby_loads P w K mg base := by
  refine fn_body TF sc_by_loads (fun _ => rfl) (fun _ _ _ _ _ _ us hl => match us, hl with | [_, _], _ => rfl) fun f cdv A outer s H E i hr hok => ?_
  have hu := hr.units
  have hu5 := hr.u65
  have hN := sc_by_loads.nd
  obtain ⟨b, kk, ws⟩ := i
  obtain ⟨hb, hz, hv⟩ := hok
  have hb' : BxOk b := hb
  have hz' : ws.length ≤ 5000 := hz
  have hv' : ∀ v ∈ ws, v.length ≤ 30 := hv
  have h2 := hb'.s2
  have h5 := hb'.s5
  refine sw_cons (s_new 2 hN df_dict ?_)
  refine sw_dls 2 rfl ?_
  refine sw_for (S := List Way) (di_sq (k := kk) (ds := ws.map pWay) (dv 1 rfl)) (fun l => [Tb b, .t (sq kk (ws.map pWay)), .dls ((group b.s l).map fun x => (kLoad x.1, x.2.map pWay)), .no]) (fun i l => l = ws.take i) [] (.refl _) rfl (fun i d l hd hl => ?_) (fun l hl => ?_)
  · rw [List.getElem?_map] at hd
    obtain ⟨v, hv1, rfl⟩ := Option.map_eq_some_iff.mp hd
    subst hl
    have hvm := List.mem_of_getElem? hv1
    have hvl := hv' v hvm
    have gl := group_len b.s (ws.take i)
    have htl : (ws.take i).length ≤ 5000 := (by rw [List.length_take]; omega)
    refine ⟨[3], _, gt_name 3 hN, ?_⟩
    refine sw_one (s_setdApp 2 (ds := (loadOf b.s v).map .int) (d := pWay v) (kLoad (loadOf b.s v)) hu rfl (d_cl G1 hr (b.s, v) (da_cons (d_sides BX.f (dv 0 rfl)) (da_cons (dv 3 rfl) da_nil)) ⟨by show 0 ≤ b.s; omega, h5, by show v.length ≤ 1000; omega⟩) ((kLoad_data _).trans rfl) (Nat.le_trans (kLoad_depth _) (by omega))
      (fun dl' h => dv 3 ((h 3 (by decide)).trans rfl)) (by rw [List.length_map]; have := gl.1; omega) (fun x hx => ?_) ⟨ws.take (i + 1), Wk.of [3] ?_, rfl⟩)
    · obtain ⟨y, hy, rfl⟩ := List.mem_map.mp hx
      have := gl.2 y hy
      show (y.2.map pWay).length < 100000
      rw [List.length_map]
      omega
    · rw [take_snoc hv1, group_snoc, ← addD_group]
      rfl
  · rw [List.length_map, List.take_length] at hl
    subst hl
    refine sw_dlsT 2 rfl ?_
    refine sw_one (s_ret (dv 2 rfl) ?_)
    show T.dic _ = T.dic _
    unfold dk pWays
    rw [List.map_map]
    rfl
abbrev sd_answered : Stmt := top 57
abbrev N_answered : List Str := ["box", "loads", "moves", "standing", "asking", "more", "other"]
theorem sc_answered : FnScope N_answered ["box", "loads", "moves", "standing", "asking"] (defScope sd_answered) := ⟨rfl, rfl, rfl, by decide +kernel, rfl, by decide +kernel, by decide +kernel⟩
abbrev Fanswered (P : Program) (w : World) (K : PySem.W.Frag) (mg : Str → Option Value) (base : Heap) : Prop := Fn P w K mg base "answered" 4 (fun i : Bx × List Way × Int × Way × Ask => [i.1.t_, Tloads i.1.s i.2.1, .p (.int i.2.2.1), .p (pWay i.2.2.2.1), .p (pAsk i.2.2.2.2)]) (fun i => BxOk i.1 ∧ i.2.1.length ≤ 5000 ∧ i.2.2.2.1.length ≤ 30) (fun i => .p (pWays (ansL i.1.s i.2.2.1 i.2.1 i.2.2.2.1 i.2.2.2.2)))
theorem ok_answered (TF : TopF K mg "answered" sd_answered) (BX : BoxK K mg) (G1 : Fleft_by P w K mg base) (G2 : Fload_with P w K mg base) (G3 : Fload_of P w K mg base) (G5 : Fmoved_in P w K mg base) : Fanswered P w K mg base := by
  refine fn_body TF sc_answered (fun _ => rfl) (fun _ _ _ _ _ _ us hl => match us, hl with | [_, _, _, _, _], _ => rfl) fun f cdv A outer s H E i hr hok => ?_
  have hu := hr.units
  have hu5 := hr.u65
  have hN := sc_answered.nd
  obtain ⟨b, ws, m, v, a⟩ := i
  obtain ⟨hb, hz, hv⟩ := hok
  have hb' : BxOk b := hb
  have hz' : ws.length ≤ 5000 := hz
  have hv' : v.length ≤ 30 := hv
  have h2 := hb'.s2
  have h5 := hb'.s5
  cases a with
  | fin s =>
    refine sw_cons (s_ifYes (dt_cmp (o_eqS hu (by decide +kernel) (by decide +kernel)) (d_ixT (ds := [.str "end", pSw s]) (dv 4 rfl) d_int rfl).lend d_str.lend) (by decide) ?_)
    exact sw_one (s_ret (d_ls (dp_cons (d_cl G1 hr (v, s) (da_cons (dv 3 rfl) (da_cons (d_ixT (ds := [.str "end", pSw s]) (dv 4 rfl) d_int rfl) da_nil)) (by show v.length ≤ 1000; omega)) dp_nil)) rfl)
  | want p =>
    refine sw_cons (s_ifNo (dt_cmp (o_eqS hu (by decide +kernel) (by decide +kernel)) (d_ixT (ds := [.str "want", pPin p]) (dv 4 rfl) d_int rfl).lend d_str.lend) (by decide) ?_)
    refine sw_cons (s_asg 5 hN (d_cl G2 hr (b.s, loadOf b.s v, p) (da_cons (d_sides BX.f (dv 0 rfl)) (da_cons (d_cl G3 hr (b.s, v) (da_cons (d_sides BX.f (dv 0 rfl)) (da_cons (dv 3 rfl) da_nil)) ⟨by show 0 ≤ b.s; omega, h5, by show v.length ≤ 1000; omega⟩) (da_cons (d_ixT (ds := [.str "want", pPin p]) (dv 4 rfl) d_int rfl) da_nil))) ⟨by show 0 ≤ b.s; omega, h5⟩) ?_)
    have hg := look_group b.s ws (withP b.s (loadOf b.s v) p)
    have hgl : (ofLoad b.s ws (withP b.s (loadOf b.s v) p)).length ≤ 5000 := Nat.le_trans (List.length_filter_le _ _) hz'
    exact sw_one (s_ret (d_lcF (xs := ofLoad b.s ws (withP b.s (loadOf b.s v) p)) (f := pWay) (k := fun o => decide (((moved v o : Nat) : Int) ≤ m)) (onm := [("other", 6)]) (enc := pWay) hN (blk_of (N := N_answered) (sc := defScope sd_answered) (by decide +kernel))
      (di_list ((d_getK (k := kLoad) (f := pWays) (g := tupI) (y := []) (x := withP b.s (loadOf b.s v) p) (l := group b.s ws) (fun _ _ => kLoad_inj) kLoad_data tup_tupI (fun a => Nat.le_trans (kLoad_depth a) (by omega)) hu (dv 1 rfl) (dv 5 rfl) (d_ls dp_nil)).is (by rw [hg]; rfl))) rfl (fun _ _ _ _ _ _ _ => ⟨[6], by decide, gt_name 6 hN⟩)
      (fun _ _ _ _ _ x _ => dt_cmp o_le (d_cl G5 hr (v, x) (da_cons (dv 3 rfl) (da_cons (dv 6 rfl) da_nil)) (by show v.length ≤ 1000; omega)).lend (dv 2 rfl).lend) (fun _ _ _ _ _ x _ _ => dv 6 rfl) (by omega)) rfl)
abbrev sd_game_of : Stmt := top 58
abbrev N_game_of : List Str := ["box", "frame", "moves", "barred", "standing", "some", "gone", "loads", "found", "rows", "asking", "several", "other"]
theorem sc_game_of : FnScope N_game_of ["box", "frame", "moves", "barred"] (defScope sd_game_of) := ⟨rfl, rfl, rfl, by decide +kernel, rfl, by decide +kernel, by decide +kernel⟩
/-- the slots while the standings are gone through -/
def cGame (b : Bx) (fr : List (List Int)) (m : Int) (barred : List Way) (ws : List Way) (found : List (Way × Rows)) : List Sl := [Tb b, Tf fr, .t (.p (.int m)), .t (.p (.tuple (barred.map pWay))), .no, .t (.p (pWays ws)), .t (.dic (dk kWay .bool (marks barred))), .t (Tloads b.s ws), .od (dk kWay pRows found), .no, .no, .no, .no]
def cGameR (b : Bx) (fr : List (List Int)) (m : Int) (barred : List Way) (ws : List Way) (found : List (Way × Rows)) (v : Way) (rs : Rows) : List Sl := [Tb b, Tf fr, .t (.p (.int m)), .t (.p (.tuple (barred.map pWay))), .t (.p (pWay v)), .t (.p (pWays ws)), .t (.dic (dk kWay .bool (marks barred))), .t (Tloads b.s ws), .od (dk kWay pRows found), .ol (rs.map pRow), .no, .no, .no]
theorem way_key (v : Way) : (kWay v).data = .tuple (v.map pSw) := kWay_data v
abbrev kWd (a : Way) : (kWay a).depth ≤ 8 := Nat.le_trans (kWay_depth a) (by omega)
structure StandsOk (b : Bx) (ws : List Way) : Prop where
  few : ws.length ≤ 256
  nd : ws.Nodup
  len : ∀ v ∈ ws, v.length ≤ 30
abbrev Fgame_of (P : Program) (w : World) (K : PySem.W.Frag) (mg : Str → Option Value) (base : Heap) : Prop := Fn P w K mg base "game_of" 5 (fun i : Bx × List (List Int) × Int × List Way => [i.1.t_, .p (.tuple (i.2.1.map tupI)), .p (.int i.2.2.1), .p (.tuple (i.2.2.2.map pWay))]) (fun i => BxOk i.1 ∧ i.2.1.length ≤ 62 ∧ i.2.2.2.length ≤ 5000 ∧ i.2.2.2.Nodup ∧ StandsOk i.1 (stands i.1 i.2.1)) (fun i => .dic (dk kWay pRows (gameOf i.1.s i.2.2.1 i.2.1 (stands i.1 i.2.1) i.2.2.2)))
theorem ok_game_of (TF : TopF K mg "game_of" sd_game_of) (BX : BoxK K mg) (NU : Nu mg) (G1 : Fstandings_up_to P w K mg base) (G2 : Fby_loads P w K mg base) (G3 : Faskings_at P w K mg base) (G4 : Fanswered P w K mg base) : Fgame_of P w K mg base := by
  refine fn_body TF sc_game_of (fun _ => rfl) (fun _ _ _ _ _ _ us hl => match us, hl with | [_, _, _, _], _ => rfl) fun f cdv A outer s H E i hr hok => ?_
  have hu := hr.units
  have hu5 := hr.u65
  have hN := sc_game_of.nd
  obtain ⟨b, fr, m, barred⟩ := i
  obtain ⟨hb, hf, hz, hnd, hS⟩ := hok
  have hb' : BxOk b := hb
  have hf' : fr.length ≤ 62 := hf
  have hz' : barred.length ≤ 5000 := hz
  have hnd' : barred.Nodup := hnd
  have hS' : StandsOk b (stands b fr) := hS
  have h5 := hb'.s5
  have hp := pairs_le b.s h5
  obtain ⟨t1, e1⟩ := NU.mst
  generalize hws : stands b fr = ws at hS'
  have hfew := hS'.few
  have emarks : dcD (barred.map fun x => (kWay x, PyData.bool true)) = dk kWay .bool (marks barred) := by
    have e : (barred.map fun x => (kWay x, PyData.bool true)) = dk kWay .bool (marks barred) := by unfold dk marks; rw [List.map_map]; rfl
    rw [e, dcD_nodup]
    rw [dk_keys]
    refine nodup_key (fun _ _ => kWay_inj) ?_
    unfold marks
    rw [List.map_map]
    have : barred.map ((·.1) ∘ fun w => (w, true)) = barred := by rw [show ((·.1) ∘ fun w : Way => (w, true)) = id from rfl, List.map_id]
    rw [this]
    exact hnd'
  refine sw_cons (s_tup (is := [5, 6]) rfl (gns_cons 5 hN (gns_cons 6 hN gns_nil)) (dfs_val (d_cl G1 hr (b, fr, 5000) (da_cons (dv 0 rfl) (da_cons (dv 1 rfl) (da_cons (d_glob rfl e1) da_nil))) ⟨hb', hf', (by show (256 : Int) ≤ 5000; decide)⟩) (dfs_own (df_dc (onm := [("standing", 4)]) (enc := pWay) (xs := barred) (key := kWay) (val := fun _ => .bool true) rfl hu hN (di_tup (dv 3 rfl)) (blk_of (N := N_game_of) (sc := defScope sd_game_of) (by decide +kernel)) (List.all_eq_true.mp rfl) (fun _ _ _ _ _ _ _ => ⟨[4], by decide, gt_name 4 hN⟩)
    (fun _ _ _ _ _ x _ => (dv 4 rfl).is (by rw [kWay_data])) (fun _ _ _ _ _ x _ => d_bl) (fun x _ => ⟨⟨_, kWay_data x⟩, kWd x⟩) (by omega)) dfs_nil)) rfl (Nat.le_of_ble_eq_true rfl) (fun i hi => ?_) ?_)
  · simp only [List.mem_cons, List.not_mem_nil, or_false] at hi
    rcases hi with rfl | rfl <;> exact ⟨Nat.le_of_ble_eq_true rfl, Nat.le_of_ble_eq_true rfl⟩
  rw [emarks, hws]
  refine sw_weak (dl' := [Tb b, Tf fr, .t (.p (.int m)), .t (.p (.tuple (barred.map pWay))), .no, .t (.p (pWays ws)), .t (.dic (dk kWay .bool (marks barred))), .no, .no, .no, .no, .no, .no]) (.od 6 (.refl _) rfl) ?_
  refine sw_cons (s_par 7 8 rfl hN (dfs_val (d_cl G2 hr (b, true, ws) (da_cons (dv 0 rfl) (da_cons (dv 5 rfl) da_nil)) ⟨hb', by show ws.length ≤ 5000; omega, hS'.len⟩) (dfs_own df_dict dfs_nil)) ?_)
  have inM : ∀ v : Way, (!(look (marks barred) v).isSome) = !mem v barred := fun v => by rw [look_marks]
  refine sw_for (S := List (Way × Rows)) (ds := (ws.filter fun v => !mem v barred).map pWay)
    (di_list (d_lcF (xs := ws) (f := pWay) (k := fun v => !mem v barred) (onm := [("standing", 4)]) (enc := pWay) hN (blk_of (N := N_game_of) (sc := defScope sd_game_of) (by decide +kernel)) (di_list (dv 5 rfl)) rfl (fun _ _ _ _ _ _ _ => ⟨[4], by decide, gt_name 4 hN⟩)
      (fun _ _ _ _ _ x _ => dt_is (dt_cmp (o_ninK (k := kWay) (g := pWay) (fun _ _ => kWay_inj) kWay_data tup_way kWd hu) (dv 4 rfl).lend (dv 6 rfl).lend) (inM x)) (fun _ _ _ _ _ x _ _ => dv 4 rfl) (by omega)))
    (cGame b fr m barred ws) (fun i found => found = ((ws.filter fun v => !mem v barred).take i).map fun v => (v, rowsOf_ b.s m fr ws barred v)) [] (.refl _) rfl (fun i d found hd hfo => ?_) (fun found hfo => ?_)
  · rw [List.getElem?_map] at hd
    obtain ⟨v, hv1, rfl⟩ := Option.map_eq_some_iff.mp hd
    subst hfo
    have hvm : v ∈ ws := (List.mem_filter.mp (List.mem_of_getElem? hv1)).1
    have hvl := hS'.len v hvm
    have hal : (asksAt b.s fr v).length ≤ 60 := by
      unfold asksAt
      rw [List.length_append, List.length_map, List.length_map]
      have := List.length_filter_le (fun p => isOf (withP b.s (loadOf b.s v) p) fr) (pairs b.s)
      omega
    refine ⟨[4], _, gt_name 4 hN, ?_⟩
    refine sw_cons (s_new 9 hN (df_lst dp_nil (Nat.zero_le _)) ?_)
    generalize hfd : (((ws.filter fun v => !mem v barred).take i).map fun v => (v, rowsOf_ b.s m fr ws barred v)) = found
    refine sw_for (S := Rows) (ds := (asksAt b.s fr v).map pAsk) (di_list (d_cl G3 hr (b, fr, v) (da_cons (dv 0 rfl) (da_cons (dv 1 rfl) (da_cons (dv 4 rfl) da_nil))) ⟨hb', hf', hvl⟩)) (cGameR b fr m barred ws found v)
      (fun j rs => rs = ((asksAt b.s fr v).take j).map fun a => (a, (ansL b.s m ws v a).filter fun o => !mem o barred)) [] (.refl _) rfl (fun j d rs hd2 hrs => ?_) (fun rs hrs => ?_)
    · rw [List.getElem?_map] at hd2
      obtain ⟨a, ha1, rfl⟩ := Option.map_eq_some_iff.mp hd2
      subst hrs
      have hla := ansL_len b.s m ws v a
      refine ⟨[10], _, gt_name 10 hN, ?_⟩
      refine sw_cons (s_asg 11 hN (d_cl G4 hr (b, ws, m, v, a) (da_cons (dv 0 rfl) (da_cons (dv 7 rfl) (da_cons (dv 2 rfl) (da_cons (dv 4 rfl) (da_cons (dv 10 rfl) da_nil))))) ⟨hb', by show ws.length ≤ 5000; omega, hvl⟩) ?_)
      refine sw_one (s_app 9 rfl (d_tp (dp_cons (dv 10 rfl) (dp_cons (d_lcF (xs := ansL b.s m ws v a) (f := pWay) (k := fun o => !mem o barred) (onm := [("other", 12)]) (enc := pWay) hN (blk_of (N := N_game_of) (sc := defScope sd_game_of) (by decide +kernel)) (di_list (dv 11 rfl)) rfl (fun _ _ _ _ _ _ _ => ⟨[12], by decide, gt_name 12 hN⟩)
        (fun _ _ _ _ _ x _ => dt_is (dt_cmp (o_ninK (k := kWay) (g := pWay) (fun _ _ => kWay_inj) kWay_data tup_way kWd hu) (dv 12 rfl).lend (dv 6 rfl).lend) (inM x)) (fun _ _ _ _ _ x _ _ => dv 12 rfl) (by omega)) dp_nil))) (by rw [List.length_map, List.length_map, List.length_take]; omega)
        ⟨((asksAt b.s fr v).take (j + 1)).map fun a => (a, (ansL b.s m ws v a).filter fun o => !mem o barred), Wk.of [10, 11] ?_, rfl⟩)
      rw [take_snoc ha1, List.map_append]
      unfold cGameR
      rw [List.map_append]
      rfl
    · rw [List.length_map, List.take_length] at hrs
      subst hrs
      have hnew : kWay v ∉ (dk kWay pRows found).map (·.1) := by
        rw [dk_keys]
        intro hm
        obtain ⟨u, hu1, hu2⟩ := List.mem_map.mp hm
        have := kWay_inj hu2
        subst this
        rw [← hfd, List.map_map] at hu1
        have e : ((·.1) ∘ fun v => (v, rowsOf_ b.s m fr ws barred v)) = (id : Way → Way) := rfl
        rw [e, List.map_id] at hu1
        obtain ⟨j, hj, ej⟩ := List.mem_iff_getElem.mp hu1
        rw [List.length_take] at hj
        rw [List.getElem_take] at ej
        obtain ⟨hi1, hi2⟩ := List.getElem?_eq_some_iff.mp hv1
        have nd : (ws.filter fun v => !mem v barred).Nodup := hS'.nd.filter _
        exact (List.pairwise_iff_getElem.mp nd) j i (by omega) hi1 (by omega) (ej.trans hi2.symm)
      have hfl : found.length ≤ 256 := by
        rw [← hfd, List.length_map]
        have h1 := List.length_take_le i (ws.filter fun v => !mem v barred)
        have h2 := List.length_filter_le (fun v => !mem v barred) ws
        have h3 : ((ws.filter fun v => !mem v barred).take i).length ≤ (ws.filter fun v => !mem v barred).length := by rw [List.length_take]; omega
        omega
      refine sw_weak (dl' := [Tb b, Tf fr, .t (.p (.int m)), .t (.p (.tuple (barred.map pWay))), .t (.p (pWay v)), .t (.p (pWays ws)), .t (.dic (dk kWay .bool (marks barred))), .t (Tloads b.s ws), .od (dk kWay pRows found), .t (.p (pRows ((asksAt b.s fr v).map fun a => (a, (ansL b.s m ws v a).filter fun o => !mem o barred)))), .no, .no, .no]) (.ol 9 (.refl _) rfl) ?_
      refine sw_one (s_setN 8 (ds := v.map pSw) (kWay v) hu rfl (dv 9 rfl) (dv 4 rfl) (way_key v) (kWd v) (by unfold dk; rw [List.length_map]; omega) ⟨((ws.filter fun v => !mem v barred).take (i + 1)).map fun v => (v, rowsOf_ b.s m fr ws barred v), Wk.of [4, 9] ?_, rfl⟩)
      rw [putD_new hnew, take_snoc hv1, List.map_append, hfd]
      unfold cGame
      rw [dk_app]
      rfl
  · rw [List.length_map, List.take_length] at hfo
    subst hfo
    refine sw_weak (dl' := [Tb b, Tf fr, .t (.p (.int m)), .t (.p (.tuple (barred.map pWay))), .no, .t (.p (pWays ws)), .t (.dic (dk kWay .bool (marks barred))), .t (Tloads b.s ws), .t (.dic (dk kWay pRows ((ws.filter fun v => !mem v barred).map fun v => (v, rowsOf_ b.s m fr ws barred v)))), .no, .no, .no, .no]) (.od 8 (.refl _) rfl) ?_
    refine sw_one (s_ret (dv 8 rfl) ?_)
    rw [← hws]
    rfl
end
end Ac
-- part C10
set_option Elab.async false
set_option maxRecDepth 100000
set_option maxHeartbeats 4000000
set_option linter.all false
namespace Ac
open PySem PySem.Spec PyProof.Rows L2
section
variable {X : Cx} {a b e : Expr} {dl : List Sl} {pos p : Pos}
/-- what is new is a value too -/
theorem DF.od {kvs : List (NestedKey × PyData)} (h : DF X e dl (.od kvs)) : DE X e dl (.dic kvs) := fun Kp F own H st S =>
  (h Kp F own H st S).mono fun v H' ⟨H0, p, o, s0, hp, e1, e2, n⟩ => by
    obtain ⟨ob, rfl, h2, h3⟩ := n
    subst e1 e2
    exact ⟨s0.trans (same_new hp), p, ob, rfl, h2, reg_new (S.grow s0).frs hp, h3.up (reg_up (same_new hp))⟩
/-- sorted(d), typed -/
theorem d_sortK {α β : Type} {k : α → NestedKey} {f : β → PyData} {g : α → PyData} {n : Nat} {A : Around} (hd : ∀ a, (k a).data = g a) (hal : ∀ a b, PySem.W.alike (g a) (g b) = true) (ht : ∀ a, ∃ ds, g a = .tuple ds) (hl : ∀ a, Lay n (g a)) (hn : n ≤ 30) (hu : A.units + 64 < cLine) {l : List (α × β)} (h : DB X a dl (.dic (dk k f l))) (hm : X.mg "sorted" = none) (hA : X.A = A := by rfl) (hc : X.calm = true := by rfl) (hg : Gl X "sorted" := by rfl)
    (he : starEach [a] X.env = (false, eval a X.env) :: starEach [] X.env := by rfl) : DE X (.Call (.Name "sorted" p) [a] [] pos) dl (.p (.list ((srtT g (l.map (·.1))).map g))) := by
  subst hA
  have e : keysD (dk k f l) = (l.map (·.1)).map g := by
    unfold keysD dk
    rw [List.map_map, List.map_map]
    exact List.map_congr_left fun x _ => hd x.1
  rw [← srtT_map, ← e]
  refine d_callB (c_sortedN hc hu (fun d hd' d' hd2 => ?_) (.inl fun d hd' => ?_) fun d hd' => ?_) h hm hg (by decide +kernel) (by decide) (by decide) he
  · rw [e] at hd' hd2
    obtain ⟨x, _, rfl⟩ := List.mem_map.mp hd'
    obtain ⟨y, _, rfl⟩ := List.mem_map.mp hd2
    exact hal x y
  · rw [e] at hd'
    obtain ⟨x, _, rfl⟩ := List.mem_map.mp hd'
    exact ht x
  · rw [e] at hd'
    obtain ⟨x, _, rfl⟩ := List.mem_map.mp hd'
    have := (hl x).2
    omega
end
theorem keysD_dk {α β : Type} {k : α → NestedKey} {f : β → PyData} {g : α → PyData} (hd : ∀ a, (k a).data = g a) (l : List (α × β)) : keysD (dk k f l) = (l.map (·.1)).map g := by
  unfold keysD dk
  rw [List.map_map, List.map_map]
  exact List.map_congr_left fun x _ => hd x.1
section
variable {P : Program} {w : World} {K : PySem.W.Frag} {mg : Str → Option Value} {base : Heap}
theorem blk_at {X : Cx} {N : List Str} {sc scope : Scope} {own : List (Str × Nat)} (h : blkB N sc scope own = true) (hN : X.N = N := by rfl) (hs : X.env.scope = sc := by rfl) : BlkOk X.N X.env.scope scope own := by
  subst hN hs
  exact blk_of h
abbrev sd_ranked : Stmt := top 59
abbrev N_ranked : List Str := ["game", "found", "rank", "fresh", "standing", "bad", "asking", "several", "other"]
theorem sc_ranked : FnScope N_ranked ["game"] (defScope sd_ranked) := ⟨rfl, rfl, rfl, by decide +kernel, rfl, by decide +kernel, by decide +kernel⟩
abbrev Tgame (g : List (Way × Rows)) : T := .dic (dk kWay pRows g)
abbrev Tlost (g : List (Way × (Nat × Ask))) : T := .dic (dk kWay pRank g)
def cRank (g : List (Way × Rows)) (s : List (Way × (Nat × Ask)) × Nat × List (Way × (Nat × Ask))) : List Sl := [.t (Tgame g), .od (dk kWay pRank s.1), .t (.p (.int (s.2.1 : Nat))), .od (dk kWay pRank s.2.2), .no, .no, .no, .no, .no]
abbrev Franked (P : Program) (w : World) (K : PySem.W.Frag) (mg : Str → Option Value) (base : Heap) : Prop := Fn P w K mg base "ranked" 2 (fun g : List (Way × Rows) => [Tgame g]) (fun g => GameOk g ∧ (g.map fun x => (kWay x.1).hash w).Nodup) (fun g => Tlost (lostOf g))
theorem ok_ranked (TF : TopF K mg "ranked" sd_ranked) (B : Bi mg) : Franked P w K mg base := by
  refine fn_body TF sc_ranked (fun _ => rfl) (fun _ _ _ _ _ _ us hl => match us, hl with | [_], _ => rfl) fun f cdv A outer s H E i hr hok => ?_
  have hu := hr.units
  have hu5 := hr.u65
  have hN := sc_ranked.nd
  obtain ⟨G, hh⟩ := hok
  have hfew := G.few
  let L := lostRaw i
  let Iv : List (Way × (Nat × Ask)) × Nat × List (Way × (Nat × Ask)) → Prop := fun s => FoundOk i s.1 ∧ s.2.2.length ≤ 256 ∧ ((s.2.1 = 0 ∨ s.2.2 ≠ []) → ∃ n, rounds i n s.2.1 s.1 = L ∧ i.length + 1 ≤ n + s.1.length) ∧ ((s.2.1 ≠ 0 ∧ s.2.2 = []) → s.1 = L)
  refine sw_cons (s_tup (is := [1, 2, 3]) rfl (gns_cons 1 hN (gns_cons 2 hN (gns_cons 3 hN gns_nil))) (dfs_own df_dict (dfs_val d_int (dfs_own df_dict dfs_nil))) rfl (Nat.le_of_ble_eq_true rfl) (fun j hj => ?_) ?_)
  · simp only [List.mem_cons, List.not_mem_nil, or_false] at hj
    rcases hj with rfl | rfl | rfl <;> exact ⟨Nat.le_of_ble_eq_true rfl, Nat.le_of_ble_eq_true rfl⟩
  refine sw_while (S := List (Way × (Nat × Ask)) × Nat × List (Way × (Nat × Ask))) (cRank i) Iv (fun s => 2 * (i.length - s.1.length) + (if s.2.1 = 0 then 2 else if s.2.2 = [] then 0 else 1)) ([], 0, []) (.refl _)
    ⟨⟨List.nodup_nil, fun _ h => nomatch h⟩, Nat.zero_le _, fun _ => ⟨i.length + 1, rfl, Nat.le_refl _⟩, fun h => absurd rfl h.1⟩ (fun s hs => ?_)
  obtain ⟨found, rank, fresh⟩ := s
  obtain ⟨hF, hfl, hgo, hend⟩ := hs
  have hF' : FoundOk i found := hF
  have hgo' : (rank = 0 ∨ fresh ≠ []) → ∃ n, rounds i n rank found = L ∧ i.length + 1 ≤ n + found.length := hgo
  have hend' : (rank ≠ 0 ∧ fresh = []) → found = L := hend
  have hfd := hF'.len
  have inF : ∀ v : Way, OpD _ (compareOp .In) (.p (pWay v)) (.dic (dk kWay pRank found)) (.p (.bool (look found v).isSome)) := fun v => o_inK (k := kWay) (g := pWay) (fun _ _ => kWay_inj) kWay_data tup_way kWd hu
  refine ⟨decide (((rank : Nat) : Int) = 0) || !(dk kWay pRank fresh).isEmpty, (dw_or (dt_cmp (o_eqI hu) (dv 2 rfl).lend d_int.lend) fun _ => dw_or1 (dt_cmp (o_neE hu) (dvd 3 rfl) d_dnew.lend)).test, fun hk => ?_, fun hk => ?_⟩
  · have hk' : rank = 0 ∨ fresh ≠ [] := by
      rw [Bool.or_eq_true, decide_eq_true_eq] at hk
      rcases hk with hk | hk
      · exact .inl (by omega)
      · refine .inr fun e => ?_
        rw [e] at hk
        exact absurd hk (by decide)
    obtain ⟨n, hn1, hn2⟩ := hgo' hk'
    refine sw_cons (s_new 3 hN df_dict ?_)
    refine sw_for (S := List (Way × (Nat × Ask))) ((di_keys (dv 0 rfl)).is (keysD_dk kWay_data i)) (fun fr => [.t (Tgame i), .od (dk kWay pRank found), .t (.p (.int (rank : Nat))), .od (dk kWay pRank fr), .no, .no, .no, .no, .no]) (fun j fr => fr = freshOf rank found (i.take j)) [] (.refl _) rfl (fun j d fr hd hfr => ?_) (fun fr hfr => ?_)
    · rw [List.getElem?_map, List.getElem?_map] at hd
      obtain ⟨v, hv, rfl⟩ := Option.map_eq_some_iff.mp hd
      obtain ⟨x, hx, rfl⟩ := Option.map_eq_some_iff.mp hv
      subst hfr
      have hxm : x ∈ i := List.mem_of_getElem? hx
      have hlk : look i x.1 = some x.2 := look_some G.nd (by cases x; exact hxm)
      obtain ⟨hr1, hr2⟩ := G.rows x hxm
      have nx : freshOf rank found (i.take (j + 1)) = freshOf rank found (i.take j) ++ freshOf rank found [x] := by rw [take_snoc hx, freshOf_app]
      have hfl2 : (freshOf rank found (i.take j)).length ≤ 256 := by
        have := fresh_len rank found (i.take j)
        rw [List.length_take] at this
        omega
      refine ⟨[4], _, gt_name 4 hN, ?_⟩
      refine sw_one (s_if (k := !(look found x.1).isSome) (dt_cmp (o_ninK (k := kWay) (g := pWay) (fun _ _ => kWay_inj) kWay_data tup_way kWd hu) (dv 4 rfl).lend (dvd 1 rfl)) (fun hq => ?_) fun hq => ?_)
      · have hq' : ¬ (look found x.1).isSome = true := by rw [Bool.not_eq_true'] at hq; rw [hq]; exact Bool.false_ne_true
        have hbl := badOf_len found x.2
        refine sw_cons (s_lc 5 rfl hN (blk_of (N := N_ranked) (sc := defScope sd_ranked) (by decide +kernel)) (dl_lc (onm := [("asking", 6), ("several", 7)]) (xs := x.2) (enc := pRow) (f := fun r => pAsk r.1) (k := fun r => r.2.all fun o => (look found o).isSome) rfl hN
          (di_list (d_ixK (k := kWay) (g := pWay) (f := pRows) (fun _ _ => kWay_inj) kWay_data tup_way kWd hu (dv 0 rfl).lend (dv 4 rfl) hlk)) (blk_of (N := N_ranked) (sc := defScope sd_ranked) (by decide +kernel)) (List.all_eq_true.mp rfl)
          (fun _ _ _ _ _ r _ => ⟨[6, 7], by decide, gt_tup rfl (gts_cons (gt_name 6 hN) (gts_cons (gt_name 7 hN) gts_nil))⟩)
          (fun _ _ _ _ _ r hr' => dts_one (dt_val (d_all (xs := r.2) (g := fun o => (look found o).isSome) (d_lcA (onm := [("other", 8)]) (enc := pWay) hN (blk_at (N := N_ranked) (sc := { kind := .function, names := [(".0", .local), ("asking", .local), ("several", .local), ("all", .globalImplicit), ("found", .cell)], isGenerator := false, isCoroutine := false }) (by decide +kernel)) (di_list (dv 7 rfl)) rfl (fun _ _ _ _ _ _ _ => ⟨[8], by decide, gt_name 8 hN⟩)
            (fun _ _ _ _ _ o _ => d_cmp (o_inK (k := kWay) (g := pWay) (fun _ _ => kWay_inj) kWay_data tup_way kWd hu) (dv 8 rfl).lend (dvd 1 rfl)) (by have := hr2 r hr'; omega)) B.all_)))
          (fun _ _ _ _ _ r _ _ => dv 6 rfl) (by omega)) ?_)
        have eb : (x.2.filter fun r => r.2.all fun o => (look found o).isSome).map (fun r => pAsk r.1) = (badOf found x.2).map pAsk := by unfold badOf; rw [List.map_map]; rfl
        rw [eb]
        refine sw_one (s_if (k := !decide (badOf found x.2 = [])) (dt_is (dt_cmp (o_ne (d := .list ((badOf found x.2).map pAsk)) (f := .list []) hu ((lay_lst (lay_map lay_ask _)).sh (by omega)) ((lay_lst (n := 0) (ds := []) (fun _ h => nomatch h)).sh (by omega))) (dv 5 rfl).lend (d_ls dp_nil).lend) ?_) (fun hb => ?_) fun hb => ?_)
        · rw [show PyData.eqv (.list ((badOf found x.2).map pAsk)) (.list []) = decide (badOf found x.2 = []) from eqv_listOf eqv_ask _ []]
        · obtain ⟨a, r, ear⟩ : ∃ a r, badOf found x.2 = a :: r := by
            cases q : badOf found x.2 with
            | nil => rw [q] at hb; exact absurd hb (by decide)
            | cons a r => exact ⟨a, r, rfl⟩
          have efr : freshOf rank found [x] = [(x.1, (rank, a))] := by rw [freshOf_cons, if_neg hq', ear]; rfl
          have hnew : kWay x.1 ∉ (dk kWay pRank (freshOf rank found (i.take j))).map (·.1) := by
            rw [dk_keys]
            intro hm
            obtain ⟨u, hu1, hu2⟩ := List.mem_map.mp hm
            have := kWay_inj hu2
            subst this
            have h3 := (freshOf_keys rank found (i.take j)).1.subset hu1
            rw [List.map_take] at h3
            obtain ⟨l, hl, el⟩ := List.mem_iff_getElem.mp h3
            rw [List.length_take, List.length_map] at hl
            rw [List.getElem_take] at el
            obtain ⟨hi1, hi2⟩ := List.getElem?_eq_some_iff.mp (show (i.map (·.1))[j]? = some x.1 by rw [List.getElem?_map]; exact hv)
            exact (List.pairwise_iff_getElem.mp G.nd) l j (by rw [List.length_map]; omega) hi1 (by omega) (el.trans hi2.symm)
          refine sw_one (s_setN 3 (ds := x.1.map pSw) (kWay x.1) hu rfl (d_tp (dp_cons (dv 2 rfl) (dp_cons (d_ixL (ds := (badOf found x.2).map pAsk) (d := pAsk a) (dv 5 rfl).lend d_int (by rw [ear, List.map_cons]; exact (atI_nat _ 0).trans rfl)) dp_nil))) (dv 4 rfl) (way_key x.1) (kWd x.1) (by unfold dk; rw [List.length_map]; omega)
            ⟨freshOf rank found (i.take (j + 1)), Wk.of [4, 5] ?_, rfl⟩)
          rw [putD_new hnew, nx, efr, dk_app]
          rfl
        · refine sw_nil ⟨freshOf rank found (i.take (j + 1)), Wk.of [4, 5] ?_, rfl⟩
          have eb2 : badOf found x.2 = [] := by
            cases q : badOf found x.2 with
            | nil => rfl
            | cons a r => rw [q] at hb; simp at hb
          have efr : freshOf rank found [x] = [] := by rw [freshOf_cons, if_neg hq', eb2]; rfl
          rw [nx, efr, List.append_nil]
          rfl
      · refine sw_nil ⟨freshOf rank found (i.take (j + 1)), Wk.of [4] ?_, rfl⟩
        have hq' : (look found x.1).isSome = true := by
          cases q : (look found x.1).isSome with
          | true => rfl
          | false => rw [q] at hq; cases hq
        have efr : freshOf rank found [x] = [] := by rw [freshOf_cons, if_pos hq']; rfl
        rw [nx, efr, List.append_nil]
        rfl
    · rw [List.length_map, List.length_map, List.take_length] at hfr
      subst hfr
      have hN2 := hF'.next G.nd rank
      have hfl2 := fresh_len rank found i
      have hnd : ((dk kWay pRank found ++ dk kWay pRank (freshOf rank found i)).map (·.1)).Nodup := by
        rw [← dk_app, dk_keys]
        exact nodup_key (fun _ _ => kWay_inj) hN2.nd
      refine sw_cons (s_updN 1 3 hu (by decide) rfl rfl (by unfold dk; rw [List.length_map, List.length_map]; omega) ?_ ?_)
      · by_cases hz : found = []
        · refine .inr ⟨fun y hy => ?_, ?_⟩
          · obtain ⟨z, _, rfl⟩ := List.mem_map.mp hy
            exact ⟨_, kWay_data z.1⟩
          · have e : (dk kWay pRank (freshOf rank found i)).map (fun x => x.1.hash w) = ((freshOf rank found i).map (·.1)).map fun v => (kWay v).hash w := by unfold dk; rw [List.map_map, List.map_map]; rfl
            have e2 : (i.map fun x => (kWay x.1).hash w) = (i.map (·.1)).map fun v => (kWay v).hash w := by rw [List.map_map]; rfl
            show ((dk kWay pRank (freshOf rank found i)).map fun x => x.1.hash w).Nodup
            rw [e]
            rw [e2] at hh
            exact hh.sublist ((freshOf_keys rank found i).1.map _)
        · refine .inl fun e => hz ?_
          unfold dk at e
          exact List.map_eq_nil_iff.mp e
      · rw [putAll_nodup hnd, ← dk_app]
        refine sw_one (s_aug 2 hN rfl d_int ⟨(found ++ freshOf rank found i, rank + 1, freshOf rank found i), .refl _, ⟨hN2, by show (freshOf rank found i).length ≤ 256; omega, fun h => ?_, fun h => ?_⟩, ?_⟩)
        · rcases h with h | h
          · exact absurd h (by show ¬ rank + 1 = 0; omega)
          · cases n with
            | zero =>
              exfalso
              have := hN2.len
              rw [List.length_append] at this
              have : 0 < (freshOf rank found i).length := List.length_pos_iff.mpr h
              omega
            | succ n =>
              refine ⟨n, ?_, ?_⟩
              · rw [← hn1]
                show _ = if freshOf rank found i = [] then found else rounds i n (rank + 1) (found ++ freshOf rank found i)
                rw [if_neg h]
              · show i.length + 1 ≤ n + (found ++ freshOf rank found i).length
                have : 0 < (freshOf rank found i).length := List.length_pos_iff.mpr h
                rw [List.length_append]
                omega
        · have h2 : freshOf rank found i = [] := h.2
          show found ++ freshOf rank found i = L
          rw [← hn1, h2, List.append_nil]
          cases n with
          | zero => rfl
          | succ n =>
            show _ = if freshOf rank found i = [] then found else _
            rw [if_pos h2]
        · show 2 * (i.length - (found ++ freshOf rank found i).length) + (if rank + 1 = 0 then 2 else if freshOf rank found i = [] then 0 else 1) < 2 * (i.length - found.length) + (if rank = 0 then 2 else if fresh = [] then 0 else 1)
          have h3 : 1 ≤ (if rank = 0 then 2 else if fresh = [] then 0 else 1) := by
            rcases hk' with h | h
            · rw [if_pos h]; omega
            · by_cases hr0 : rank = 0
              · rw [if_pos hr0]; omega
              · rw [if_neg hr0, if_neg h]; omega
          have hl2 := hN2.len
          rw [List.length_append] at hl2 ⊢
          rw [if_neg (by omega)]
          by_cases hz : freshOf rank found i = []
          · rw [if_pos hz, hz, List.length_nil]; omega
          · rw [if_neg hz]
            have : 0 < (freshOf rank found i).length := List.length_pos_iff.mpr hz
            omega
  · have hk' : rank ≠ 0 ∧ fresh = [] := by
      rw [Bool.or_eq_false_iff, decide_eq_false_iff_not] at hk
      refine ⟨by omega, ?_⟩
      cases q : fresh with
      | nil => rfl
      | cons a r => rw [q] at hk; exact absurd hk.2 (by simp [dk])
    have eL := hend' hk'
    have hsl : (srtT pWay (found.map (·.1))).length ≤ 256 := by rw [(srtT_perm _ _).length_eq, List.length_map]; omega
    refine sw_one (s_ret ((df_dc (onm := [("standing", 4)]) (enc := pWay) (xs := srtT pWay (found.map (·.1))) (key := kWay) (val := fun v => pRank ((look found v).getD noRank)) rfl hu hN
      (di_list (d_sortK (k := kWay) (g := pWay) kWay_data al_way tup_way lay_way (by omega) hu (dvd 1 rfl) B.sorted_)) (blk_of (N := N_ranked) (sc := defScope sd_ranked) (by decide +kernel)) (List.all_eq_true.mp rfl) (fun _ _ _ _ _ _ _ => ⟨[4], by decide, gt_name 4 hN⟩) (fun _ _ _ _ _ v _ => (dv 4 rfl).is (by rw [kWay_data]))
      (fun _ _ _ _ _ v hv => ?_) (fun v _ => ⟨⟨_, kWay_data v⟩, kWd v⟩) (by omega)).od.is ?_) rfl)
    · have hvm : v ∈ found.map (·.1) := (srtT_perm _ _).mem_iff.mp hv
      obtain ⟨r, hr'⟩ := Option.isSome_iff_exists.mp (look_isSome.mpr hvm)
      rw [hr']
      exact d_ixK (k := kWay) (g := pWay) (f := pRank) (fun _ _ => kWay_inj) kWay_data tup_way kWd hu (dvd 1 rfl) (dv 4 rfl) hr'
    · have e : ((srtT pWay (found.map (·.1))).map fun v => (kWay v, pRank ((look found v).getD noRank))) = dk kWay pRank (lostOf i) := by
        unfold dk lostOf
        rw [List.map_map, ← show L = lostRaw i from rfl, ← eL]
        rfl
      rw [e, dcD_nodup]
      rw [dk_keys]
      refine nodup_key (fun _ _ => kWay_inj) ?_
      unfold lostOf
      rw [List.map_map, ← show L = lostRaw i from rfl, ← eL]
      have : ((·.1) ∘ fun v => (v, (look found v).getD noRank)) = (id : Way → Way) := rfl
      rw [this, List.map_id]
      exact (srtT_perm _ _).nodup_iff.mpr hF'.nd
end
end Ac
-- part L5
set_option maxHeartbeats 4000000
set_option Elab.async false
set_option maxRecDepth 100000
set_option linter.all false
/-! Ac, plain: what the game's answers are. -/
namespace Ac
open PySem PySem.Spec PyProof.Rows L2
noncomputable def doomOf (g : List (Way × Rows)) : Option (List (Way × (Nat × Ask))) := if (!(look g []).isSome) = true then some [] else if (look (lostOf g) []).isSome = true then some (lostOf g) else none
/-- the plan's entries of one standing -/
def planRow (ws : List Way) (v : Way) (r : Ask × List Way) : List ((Way × Pin) × Way) := match r.1 with
  | .want p => [((v, p), (r.2.filter fun o => mem o ws).headD [])]
  | .fin _ => []
def planAt (g : List (Way × Rows)) (ws : List Way) (v : Way) : List ((Way × Pin) × Way) := ((look g v).getD []).flatMap (planRow ws v)
def planOf (g : List (Way × Rows)) (ws : List Way) : List ((Way × Pin) × Way) := ws.flatMap (planAt g ws)
theorem head_of {α : Type} {l : List α} {d : α} (h : l ≠ []) : l[0]? = some (l.headD d) := by
  cases l with
  | nil => exact absurd rfl h
  | cons a r => rfl
end Ac
-- part C11
set_option Elab.async false
set_option maxRecDepth 100000
set_option maxHeartbeats 4000000
set_option linter.all false
namespace Ac
open PySem PySem.Spec PyProof.Rows L2
/-- a game: the box, its frame, the moves, the barred -/
structure Gm where
  b : Bx
  fr : List (List Int)
  m : Int
  bar : List Way
noncomputable def Gm.ws (i : Gm) : List Way := stands i.b i.fr
noncomputable def Gm.g (i : Gm) : List (Way × Rows) := gameOf i.b.s i.m i.fr i.ws i.bar
structure GmOk (w : World) (i : Gm) : Prop where
  b : BxOk i.b
  fr : FrOk i.b.s i.fr
  m0 : 0 ≤ i.m
  m20 : i.m ≤ 20
  bst : ∀ v ∈ i.bar, StOk i.b i.fr v
  basc : AscT pWay i.bar
  bfew : i.bar.length ≤ 5000
  so : StandsOk i.b i.ws
  go : GameOk i.g
  hh : (i.g.map fun x => (kWay x.1).hash w).Nodup
def optW : Option (List Way) → T
  | none => .p .none
  | some ws => .p (.tuple (ws.map pWay))
def optL : Option (List (Way × (Nat × Ask))) → T
  | none => .p .none
  | some l => Tlost l
def optP : Option (List ((Way × Pin) × Way)) → T
  | none => .p .none
  | some l => .dic (dk kWP pWay l)
abbrev argG (i : Gm) : List T := [i.b.t_, .p (.tuple (i.fr.map tupI)), .p (.int i.m), .p (.tuple (i.bar.map pWay))]
theorem kWPd (a : Way × Pin) : (kWP a).depth ≤ 8 := Nat.le_trans (kWP_depth a) (by omega)
section
variable {P : Program} {w : World} {K : PySem.W.Frag} {mg : Str → Option Value} {base : Heap}
abbrev sd_kept_in : Stmt := top 60
abbrev N_kept_in : List Str := ["game", "lost", "standing"]
theorem sc_kept_in : FnScope N_kept_in ["game"] (defScope sd_kept_in) := ⟨rfl, rfl, rfl, by decide +kernel, rfl, by decide +kernel, by decide +kernel⟩
abbrev Fkept_in (P : Program) (w : World) (K : PySem.W.Frag) (mg : Str → Option Value) (base : Heap) : Prop := Fn P w K mg base "kept_in" 3 (fun g : List (Way × Rows) => [Tgame g]) (fun g => GameOk g ∧ (g.map fun x => (kWay x.1).hash w).Nodup) (fun g => optW (keptOf g))
theorem ok_kept_in (TF : TopF K mg "kept_in" sd_kept_in) (B : Bi mg) (G1 : Franked P w K mg base) : Fkept_in P w K mg base := by
  refine fn_body TF sc_kept_in (fun _ => rfl) (fun _ _ _ _ _ _ us hl => match us, hl with | [_], _ => rfl) fun f cdv A outer s H E i hr hok => ?_
  have hu := hr.units
  have hu5 := hr.u65
  have hN := sc_kept_in.nd
  have G := hok.1
  have hfew := G.few
  refine sw_cons (s_asg 1 hN (d_cl G1 hr i (da_cons (dv 0 rfl) da_nil) hok) ?_)
  refine sw_cons (s_if (k := !(look i []).isSome || (look (lostOf i) []).isSome) (dw_or (dt_cmp (o_ninK (x := ([] : Way)) (k := kWay) (g := pWay) (fun _ _ => kWay_inj) kWay_data tup_way kWd hu) (d_tp dp_nil).lend (dv 0 rfl).lend) fun _ => dw_or1 (dt_cmp (o_inK (x := ([] : Way)) (k := kWay) (g := pWay) (fun _ _ => kWay_inj) kWay_data tup_way kWd hu) (d_tp dp_nil).lend (dv 1 rfl).lend)).test (fun hk => sw_one (s_ret d_non ?_)) fun hk => sw_nil ?_)
  · show T.p .none = optW (keptOf i)
    unfold keptOf
    rw [if_pos hk]
    rfl
  · have hsl : (srtT pWay (i.map (·.1))).length ≤ 256 := by rw [(srtT_perm _ _).length_eq, List.length_map]; exact hfew
    refine sw_one (s_ret (d_tuple (d_lcF (xs := srtT pWay (i.map (·.1))) (f := pWay) (k := fun v => !(look (lostOf i) v).isSome) (onm := [("standing", 2)]) (enc := pWay) hN (blk_of (N := N_kept_in) (sc := defScope sd_kept_in) (by decide +kernel)) (di_list (d_sortK (k := kWay) (g := pWay) kWay_data al_way tup_way lay_way (by omega) hu (dv 0 rfl).lend B.sorted_)) rfl (fun _ _ _ _ _ _ _ => ⟨[2], by decide, gt_name 2 hN⟩)
      (fun _ _ _ _ _ v _ => dt_cmp (o_ninK (k := kWay) (g := pWay) (fun _ _ => kWay_inj) kWay_data tup_way kWd hu) (dv 2 rfl).lend (dv 1 rfl).lend) (fun _ _ _ _ _ v _ _ => dv 2 rfl) (by omega)).lend B.tuple_) ?_)
    show _ = optW (keptOf i)
    unfold keptOf
    rw [if_neg (by rw [hk]; exact Bool.false_ne_true)]
    rfl
abbrev sd_greatest_keeping : Stmt := top 61
abbrev N_greatest_keeping : List Str := ["box", "frame", "moves", "barred"]
theorem sc_greatest_keeping : FnScope N_greatest_keeping ["box", "frame", "moves", "barred"] (defScope sd_greatest_keeping) := ⟨rfl, rfl, rfl, by decide +kernel, rfl, by decide +kernel, by decide +kernel⟩
abbrev Fgreatest_keeping (P : Program) (w : World) (K : PySem.W.Frag) (mg : Str → Option Value) (base : Heap) : Prop := Fn P w K mg base "greatest_keeping" 9 argG (GmOk w) (fun i => optW (keptOf i.g))
theorem ok_greatest_keeping (TF : TopF K mg "greatest_keeping" sd_greatest_keeping) (G1 : Fneed_game P w K mg base) (G2 : Fgame_of P w K mg base) (G3 : Fkept_in P w K mg base) : Fgreatest_keeping P w K mg base := by
  refine fn_body TF sc_greatest_keeping (fun _ => rfl) (fun _ _ _ _ _ _ us hl => match us, hl with | [_, _, _, _], _ => rfl) fun f cdv A outer s H E i hr hok => ?_
  have hu := hr.units
  have hu5 := hr.u65
  have hN := sc_greatest_keeping.nd
  refine sw_cons (s_expr (d_cl G1 hr (i.b, i.fr, i.m, i.bar) (da_cons (dv 0 rfl) (da_cons (dv 1 rfl) (da_cons (dv 2 rfl) (da_cons (dv 3 rfl) da_nil)))) ⟨hok.b, hok.fr, hok.m0, hok.m20, hok.bst, hok.basc, hok.bfew⟩) ?_)
  exact sw_one (s_ret (d_cl G3 hr i.g (da_cons (d_cl G2 hr (i.b, i.fr, i.m, i.bar) (da_cons (dv 0 rfl) (da_cons (dv 1 rfl) (da_cons (dv 2 rfl) (da_cons (dv 3 rfl) da_nil)))) ⟨hok.b, hok.fr.tops.few, hok.bfew, ascT_nodup hok.basc, hok.so⟩) da_nil) ⟨hok.go, hok.hh⟩) rfl)
abbrev sd_doom_in : Stmt := top 67
abbrev N_doom_in : List Str := ["game", "lost"]
theorem sc_doom_in : FnScope N_doom_in ["game"] (defScope sd_doom_in) := ⟨rfl, rfl, rfl, by decide +kernel, rfl, by decide +kernel, by decide +kernel⟩
abbrev Fdoom_in (P : Program) (w : World) (K : PySem.W.Frag) (mg : Str → Option Value) (base : Heap) : Prop := Fn P w K mg base "doom_in" 3 (fun g : List (Way × Rows) => [Tgame g]) (fun g => GameOk g ∧ (g.map fun x => (kWay x.1).hash w).Nodup) (fun g => optL (doomOf g))
theorem ok_doom_in (TF : TopF K mg "doom_in" sd_doom_in) (G1 : Franked P w K mg base) : Fdoom_in P w K mg base := by
  refine fn_body TF sc_doom_in (fun _ => rfl) (fun _ _ _ _ _ _ us hl => match us, hl with | [_], _ => rfl) fun f cdv A outer s H E i hr hok => ?_
  have hu := hr.units
  have hu5 := hr.u65
  have hN := sc_doom_in.nd
  refine sw_cons (s_asg 1 hN (d_cl G1 hr i (da_cons (dv 0 rfl) da_nil) hok) ?_)
  refine sw_cons (s_if (k := !(look i []).isSome) (dt_cmp (o_ninK (x := ([] : Way)) (k := kWay) (g := pWay) (fun _ _ => kWay_inj) kWay_data tup_way kWd hu) (d_tp dp_nil).lend (dv 0 rfl).lend) (fun hk => sw_one (s_ret d_dnew ?_)) fun hk => sw_nil ?_)
  · show T.dic [] = optL (doomOf i)
    unfold doomOf
    rw [if_pos hk]
    rfl
  · refine sw_one (s_ret (t := optL (doomOf i)) (d_if (dt_cmp (o_inK (x := ([] : Way)) (k := kWay) (g := pWay) (fun _ _ => kWay_inj) kWay_data tup_way kWd hu) (d_tp dp_nil).lend (dv 1 rfl).lend) (fun hc => (dv 1 rfl).is ?_) fun hc => d_non.is ?_) rfl)
    · unfold doomOf
      rw [if_neg (by rw [hk]; exact Bool.false_ne_true), if_pos hc]
      rfl
    · unfold doomOf
      rw [if_neg (by rw [hk]; exact Bool.false_ne_true), if_neg (by rw [hc]; exact Bool.false_ne_true)]
      rfl
abbrev sd_doom : Stmt := top 68
abbrev N_doom : List Str := ["box", "frame", "moves", "barred"]
theorem sc_doom : FnScope N_doom ["box", "frame", "moves", "barred"] (defScope sd_doom) := ⟨rfl, rfl, rfl, by decide +kernel, rfl, by decide +kernel, by decide +kernel⟩
abbrev Fdoom (P : Program) (w : World) (K : PySem.W.Frag) (mg : Str → Option Value) (base : Heap) : Prop := Fn P w K mg base "doom" 9 argG (GmOk w) (fun i => optL (doomOf i.g))
theorem ok_doom (TF : TopF K mg "doom" sd_doom) (G1 : Fneed_game P w K mg base) (G2 : Fgame_of P w K mg base) (G3 : Fdoom_in P w K mg base) : Fdoom P w K mg base := by
  refine fn_body TF sc_doom (fun _ => rfl) (fun _ _ _ _ _ _ us hl => match us, hl with | [_, _, _, _], _ => rfl) fun f cdv A outer s H E i hr hok => ?_
  have hu := hr.units
  have hu5 := hr.u65
  have hN := sc_doom.nd
  refine sw_cons (s_expr (d_cl G1 hr (i.b, i.fr, i.m, i.bar) (da_cons (dv 0 rfl) (da_cons (dv 1 rfl) (da_cons (dv 2 rfl) (da_cons (dv 3 rfl) da_nil)))) ⟨hok.b, hok.fr, hok.m0, hok.m20, hok.bst, hok.basc, hok.bfew⟩) ?_)
  exact sw_one (s_ret (d_cl G3 hr i.g (da_cons (d_cl G2 hr (i.b, i.fr, i.m, i.bar) (da_cons (dv 0 rfl) (da_cons (dv 1 rfl) (da_cons (dv 2 rfl) (da_cons (dv 3 rfl) da_nil)))) ⟨hok.b, hok.fr.tops.few, hok.bfew, ascT_nodup hok.basc, hok.so⟩) da_nil) ⟨hok.go, hok.hh⟩) rfl)
abbrev sd_is_held : Stmt := top 62
abbrev N_is_held : List Str := ["box", "frame", "moves", "loads", "inside", "standing", "asking", "other"]
theorem sc_is_held : FnScope N_is_held ["box", "frame", "moves", "loads", "inside", "standing"] (defScope sd_is_held) := ⟨rfl, rfl, rfl, by decide +kernel, rfl, by decide +kernel, by decide +kernel⟩
abbrev Tmarks (ws : List Way) : T := .dic (dk kWay .bool (marks ws))
abbrev Fis_held (P : Program) (w : World) (K : PySem.W.Frag) (mg : Str → Option Value) (base : Heap) : Prop := Fn P w K mg base "is_held" 5 (fun i : Bx × List (List Int) × Int × List Way × Way => [i.1.t_, .p (.tuple (i.2.1.map tupI)), .p (.int i.2.2.1), Tloads i.1.s i.2.2.2.1, Tmarks i.2.2.2.1, .p (pWay i.2.2.2.2)])
  (fun i => BxOk i.1 ∧ i.2.1.length ≤ 62 ∧ i.2.2.2.1.length ≤ 5000 ∧ i.2.2.2.2.length ≤ 30 ∧ ∀ a ∈ asksAt i.1.s i.2.1 i.2.2.2.2, ((ansL i.1.s i.2.2.1 i.2.2.2.1 i.2.2.2.2 a).any fun o => mem o i.2.2.2.1) = true) (fun _ => .p (.bool true))
theorem ok_is_held (TF : TopF K mg "is_held" sd_is_held) (B : Bi mg) (G1 : Faskings_at P w K mg base) (G2 : Fanswered P w K mg base) : Fis_held P w K mg base := by
  refine fn_body TF sc_is_held (fun _ => rfl) (fun _ _ _ _ _ _ us hl => match us, hl with | [_, _, _, _, _, _], _ => rfl) fun f cdv A outer s H E i hr hok => ?_
  have hu := hr.units
  have hu5 := hr.u65
  have hN := sc_is_held.nd
  obtain ⟨b, fr, m, ws, v⟩ := i
  obtain ⟨hb, hf, hz, hv, ha⟩ := hok
  have hz' : ws.length ≤ 5000 := hz
  have ha' : ∀ a ∈ asksAt b.s fr v, ((ansL b.s m ws v a).any fun o => mem o ws) = true := ha
  refine sw_for (S := Unit) (ds := (asksAt b.s fr v).map pAsk) (di_list (d_cl G1 hr (b, fr, v) (da_cons (dv 0 rfl) (da_cons (dv 1 rfl) (da_cons (dv 5 rfl) da_nil))) ⟨hb, hf, hv⟩)) (fun _ => [Tb b, Tf fr, .t (.p (.int m)), .t (Tloads b.s ws), .t (Tmarks ws), .t (.p (pWay v)), .no, .no]) (fun _ _ => True) () (.refl _) True.intro (fun j d s hd _ => ?_) (fun s _ => sw_one (s_ret d_bl rfl))
  rw [List.getElem?_map] at hd
  obtain ⟨a, ha1, rfl⟩ := Option.map_eq_some_iff.mp hd
  have hla := ansL_len b.s m ws v a
  refine ⟨[6], _, gt_name 6 hN, ?_⟩
  refine sw_one (s_ifNo (dt_not (dt_val (d_any (xs := ansL b.s m ws v a) (g := fun o => mem o ws) (d_lcA (onm := [("other", 7)]) (enc := pWay) hN (blk_of (N := N_is_held) (sc := defScope sd_is_held) (by decide +kernel)) (di_list (d_cl G2 hr (b, ws, m, v, a) (da_cons (dv 0 rfl) (da_cons (dv 3 rfl) (da_cons (dv 2 rfl) (da_cons (dv 5 rfl) (da_cons (dv 6 rfl) da_nil))))) ⟨hb, hz', hv⟩)) rfl (fun _ _ _ _ _ _ _ => ⟨[7], by decide, gt_name 7 hN⟩)
    (fun _ _ _ _ _ o _ => (d_cmp (o_inK (k := kWay) (g := pWay) (fun _ _ => kWay_inj) kWay_data tup_way kWd hu) (dv 7 rfl).lend (dv 4 rfl).lend).is (by rw [look_marks])) (by omega)) B.any_))) (by rw [ha' a (List.mem_of_getElem? ha1)]; rfl) ⟨(), Wk.of [6] rfl, True.intro⟩)
abbrev sd_is_keeping_of : Stmt := top 63
abbrev N_is_keeping_of : List Str := ["box", "frame", "moves", "barred", "thing", "loads", "inside", "standing"]
theorem sc_is_keeping_of : FnScope N_is_keeping_of ["box", "frame", "moves", "barred", "thing"] (defScope sd_is_keeping_of) := ⟨rfl, rfl, rfl, by decide +kernel, rfl, by decide +kernel, by decide +kernel⟩
abbrev Fis_keeping_of (P : Program) (w : World) (K : PySem.W.Frag) (mg : Str → Option Value) (base : Heap) : Prop := Fn P w K mg base "is_keeping_of" 8 (fun i : Gm × List Way => argG i.1 ++ [.p (.tuple (i.2.map pWay))]) (fun i => GmOk w i.1 ∧ (∀ v ∈ i.2, StOk i.1.b i.1.fr v) ∧ AscT pWay i.2 ∧ i.2.length ≤ 256 ∧ ([] : Way) ∈ i.2 ∧ (∀ v ∈ i.2, v ∉ i.1.bar) ∧ ∀ v ∈ i.2, ∀ a ∈ asksAt i.1.b.s i.1.fr v, ((ansL i.1.b.s i.1.m i.2 v a).any fun o => mem o i.2) = true) (fun _ => .p (.bool true))
theorem ok_is_keeping_of (TF : TopF K mg "is_keeping_of" sd_is_keeping_of) (B : Bi mg) (BX : BoxK K mg) (G1 : Fare_standings P w K mg base) (G2 : Fby_loads P w K mg base) (G3 : Fis_held P w K mg base) : Fis_keeping_of P w K mg base := by
  refine fn_body TF sc_is_keeping_of (fun _ => rfl) (fun _ _ _ _ _ _ us hl => match us, hl with | [_, _, _, _, _], _ => rfl) fun f cdv A outer s H E i hr hok => ?_
  have hu := hr.units
  have hu5 := hr.u65
  have hN := sc_is_keeping_of.nd
  obtain ⟨gm, ws⟩ := i
  obtain ⟨hg, hst, hasc, hfew, hnil, hbar, hheld⟩ := hok
  have hg' : GmOk w gm := hg
  have hfew' : ws.length ≤ 256 := hfew
  have hst' : ∀ v ∈ ws, StOk gm.b gm.fr v := hst
  have hb := hg'.b
  refine sw_cons (s_ifNo (dw_or (dt_not (dt_val (d_cl G1 hr (gm.b, gm.fr, ws) (da_cons (dv 0 rfl) (da_cons (dv 1 rfl) (da_cons (dv 4 rfl) da_nil))) ⟨hb, hg'.fr.tops.few, hst', hasc, by show ws.length ≤ 5000; omega⟩))) fun _ => dw_or (dt_cmp (o_ninUD (x := ([] : Way)) (xs := ws) eqv_way lay_way (by omega) hu5) (d_tp dp_nil).lend (dv 4 rfl).lend) fun _ => dw_or1 (dt_val (d_any (xs := ws) (g := fun v => mem v gm.bar) (d_lcA (onm := [("standing", 7)]) (enc := pWay) hN (blk_of (N := N_is_keeping_of) (sc := defScope sd_is_keeping_of) (by decide +kernel)) (di_tup (dv 4 rfl)) rfl (fun _ _ _ _ _ _ _ => ⟨[7], by decide, gt_name 7 hN⟩)
    (fun _ _ _ _ _ v _ => d_cmp (o_inUD eqv_way lay_way (by omega) hu5) (dv 7 rfl).lend (dv 3 rfl).lend) (by omega)) B.any_))).test (by
      have e1 : mem ([] : Way) ws = true := mem_iff.mpr hnil
      have e2 : (ws.any fun v => mem v gm.bar) = false := List.any_eq_false.mpr fun v hv => by rw [mem_no.mpr (hbar v hv)]; exact Bool.false_ne_true
      rw [e1, e2]; rfl) ?_)
  have emarks : dcD (ws.map fun x => (kWay x, PyData.bool true)) = dk kWay .bool (marks ws) := by
    have e : (ws.map fun x => (kWay x, PyData.bool true)) = dk kWay .bool (marks ws) := by unfold dk marks; rw [List.map_map]; rfl
    rw [e, dcD_nodup]
    rw [dk_keys]
    refine nodup_key (fun _ _ => kWay_inj) ?_
    unfold marks
    rw [List.map_map]
    have : ((·.1) ∘ fun w : Way => (w, true)) = (id : Way → Way) := rfl
    rw [this, List.map_id]
    exact ascT_nodup hasc
  refine sw_cons (s_tup (is := [5, 6]) rfl (gns_cons 5 hN (gns_cons 6 hN gns_nil)) (dfs_val (d_cl G2 hr (gm.b, false, ws) (da_cons (dv 0 rfl) (da_cons (dv 4 rfl) da_nil)) ⟨hb, by show ws.length ≤ 5000; omega, fun v hv => (hst' v hv).way.few⟩) (dfs_own (df_dc (onm := [("standing", 7)]) (enc := pWay) (xs := ws) (key := kWay) (val := fun _ => .bool true) rfl hu hN (di_tup (dv 4 rfl)) (blk_of (N := N_is_keeping_of) (sc := defScope sd_is_keeping_of) (by decide +kernel)) (List.all_eq_true.mp rfl) (fun _ _ _ _ _ _ _ => ⟨[7], by decide, gt_name 7 hN⟩)
    (fun _ _ _ _ _ x _ => (dv 7 rfl).is (by rw [kWay_data])) (fun _ _ _ _ _ x _ => d_bl) (fun x _ => ⟨⟨_, kWay_data x⟩, kWd x⟩) (by omega)) dfs_nil)) rfl (Nat.le_of_ble_eq_true rfl) (fun j hj => ?_) ?_)
  · simp only [List.mem_cons, List.not_mem_nil, or_false] at hj
    rcases hj with rfl | rfl <;> exact ⟨Nat.le_of_ble_eq_true rfl, Nat.le_of_ble_eq_true rfl⟩
  rw [emarks]
  refine sw_weak (dl' := [Tb gm.b, Tf gm.fr, .t (.p (.int gm.m)), .t (.p (.tuple (gm.bar.map pWay))), .t (.p (.tuple (ws.map pWay))), .t (Tloads gm.b.s ws), .t (Tmarks ws), .no]) (.od 6 (.refl _) rfl) ?_
  refine sw_one (s_ret ((d_all (xs := ws) (g := fun _ => true) (d_lcA (onm := [("standing", 7)]) (enc := pWay) hN (blk_of (N := N_is_keeping_of) (sc := defScope sd_is_keeping_of) (by decide +kernel)) (di_tup (dv 4 rfl)) rfl (fun _ _ _ _ _ _ _ => ⟨[7], by decide, gt_name 7 hN⟩)
    (fun _ _ _ _ _ v hv => d_cl G3 hr (gm.b, gm.fr, gm.m, ws, v) (da_cons (dv 0 rfl) (da_cons (dv 1 rfl) (da_cons (dv 2 rfl) (da_cons (dv 5 rfl) (da_cons (dv 6 rfl) (da_cons (dv 7 rfl) da_nil)))))) ⟨hb, hg'.fr.tops.few, by show ws.length ≤ 5000; omega, (hst' v hv).way.few, hheld v hv⟩) (by omega)) B.all_).is (by simp)) rfl)
abbrev sd_is_keeping : Stmt := top 64
abbrev N_is_keeping : List Str := ["box", "frame", "moves", "barred", "thing"]
theorem sc_is_keeping : FnScope N_is_keeping ["box", "frame", "moves", "barred", "thing"] (defScope sd_is_keeping) := ⟨rfl, rfl, rfl, by decide +kernel, rfl, by decide +kernel, by decide +kernel⟩
abbrev Fis_keeping (P : Program) (w : World) (K : PySem.W.Frag) (mg : Str → Option Value) (base : Heap) : Prop := Fn P w K mg base "is_keeping" 9 (fun i : Gm × List Way => argG i.1 ++ [.p (.tuple (i.2.map pWay))]) (fun i => GmOk w i.1 ∧ (∀ v ∈ i.2, StOk i.1.b i.1.fr v) ∧ AscT pWay i.2 ∧ i.2.length ≤ 256 ∧ ([] : Way) ∈ i.2 ∧ (∀ v ∈ i.2, v ∉ i.1.bar) ∧ ∀ v ∈ i.2, ∀ a ∈ asksAt i.1.b.s i.1.fr v, ((ansL i.1.b.s i.1.m i.2 v a).any fun o => mem o i.2) = true) (fun _ => .p (.bool true))
theorem ok_is_keeping (TF : TopF K mg "is_keeping" sd_is_keeping) (G1 : Fneed_game P w K mg base) (G2 : Fis_keeping_of P w K mg base) : Fis_keeping P w K mg base := by
  refine fn_body TF sc_is_keeping (fun _ => rfl) (fun _ _ _ _ _ _ us hl => match us, hl with | [_, _, _, _, _], _ => rfl) fun f cdv A outer s H E i hr hok => ?_
  have hu := hr.units
  have hu5 := hr.u65
  have hN := sc_is_keeping.nd
  have h := hok.1
  refine sw_cons (s_expr (d_cl G1 hr (i.1.b, i.1.fr, i.1.m, i.1.bar) (da_cons (dv 0 rfl) (da_cons (dv 1 rfl) (da_cons (dv 2 rfl) (da_cons (dv 3 rfl) da_nil)))) ⟨h.b, h.fr, h.m0, h.m20, h.bst, h.basc, h.bfew⟩) ?_)
  exact sw_one (s_ret (d_cl G2 hr i (da_cons (dv 0 rfl) (da_cons (dv 1 rfl) (da_cons (dv 2 rfl) (da_cons (dv 3 rfl) (da_cons (dv 4 rfl) da_nil))))) hok) rfl)
end
end Ac
-- part C12
set_option Elab.async false
set_option maxRecDepth 100000
set_option maxHeartbeats 4000000
set_option linter.all false
namespace Ac
open PySem PySem.Spec PyProof.Rows L2
theorem al_ask (a b : Ask) : True := True.intro
theorem tup_WP (x : Way × Pin) : ∃ ds, pWP x = .tuple ds := ⟨_, rfl⟩
/-- what strategy leans on -/
structure PlanOk (g : List (Way × Rows)) (ws : List Way) : Prop where
  few : ws.length ≤ 256
  nd : ws.Nodup
  rows : ∀ v ∈ ws, ∃ rs, look g v = some rs ∧ rs.length ≤ 60 ∧ (∀ r ∈ rs, r.2.length ≤ 257 ∧ ∀ p, r.1 = .want p → (r.2.filter fun o => mem o ws) ≠ [])
  keys : ((planOf g ws).map (·.1)).Nodup
/-- a row's entries while the rows are gone through -/
theorem planAt_app (ws : List Way) (v : Way) (rs : Rows) (r : Ask × List Way) : (rs ++ [r]).flatMap (planRow ws v) = rs.flatMap (planRow ws v) ++ planRow ws v r := by
  rw [List.flatMap_append, List.flatMap_cons, List.flatMap_nil, List.append_nil]
theorem planRow_len (ws : List Way) (v : Way) (r : Ask × List Way) : (planRow ws v r).length ≤ 1 := by
  unfold planRow
  split <;> simp
theorem planRows_len (ws : List Way) (v : Way) : ∀ rs : Rows, (rs.flatMap (planRow ws v)).length ≤ rs.length
  | [] => Nat.le_refl _
  | r :: rs => by
    have h1 := planRow_len ws v r
    have h2 := planRows_len ws v rs
    rw [List.flatMap_cons, List.length_append, List.length_cons]
    omega
theorem nodup_pre {α : Type} {a b : List α} (h : (a ++ b).Nodup) : a.Nodup := (List.nodup_append.mp h).1
section
variable {P : Program} {w : World} {K : PySem.W.Frag} {mg : Str → Option Value} {base : Heap}
abbrev sd_strategy : Stmt := top 65
abbrev N_strategy : List Str := ["box", "frame", "moves", "barred", "game", "kept", "standing", "inside", "found", "asking", "several", "other"]
theorem sc_strategy : FnScope N_strategy ["box", "frame", "moves", "barred"] (defScope sd_strategy) := ⟨rfl, rfl, rfl, by decide +kernel, rfl, by decide +kernel, by decide +kernel⟩
noncomputable def cPlan (i : Gm) (ws : List Way) (found : List ((Way × Pin) × Way)) : List Sl := [Tb i.b, Tf i.fr, .t (.p (.int i.m)), .t (.p (.tuple (i.bar.map pWay))), .t (Tgame i.g), .t (.p (.tuple (ws.map pWay))), .no, .t (Tmarks ws), .od (dk kWP pWay found), .no, .no, .no]
noncomputable def cPlanR (i : Gm) (ws : List Way) (v : Way) (found : List ((Way × Pin) × Way)) : List Sl := [Tb i.b, Tf i.fr, .t (.p (.int i.m)), .t (.p (.tuple (i.bar.map pWay))), .t (Tgame i.g), .t (.p (.tuple (ws.map pWay))), .t (.p (pWay v)), .t (Tmarks ws), .od (dk kWP pWay found), .no, .no, .no]
abbrev Fstrategy (P : Program) (w : World) (K : PySem.W.Frag) (mg : Str → Option Value) (base : Heap) : Prop := Fn P w K mg base "strategy" 9 argG (fun i => GmOk w i ∧ ∀ ws, keptOf i.g = some ws → PlanOk i.g ws) (fun i => optP ((keptOf i.g).map (planOf i.g)))
theorem ok_strategy (TF : TopF K mg "strategy" sd_strategy) (B : Bi mg) (G1 : Fneed_game P w K mg base) (G2 : Fgame_of P w K mg base) (G3 : Fkept_in P w K mg base) : Fstrategy P w K mg base := by
  refine fn_body TF sc_strategy (fun _ => rfl) (fun _ _ _ _ _ _ us hl => match us, hl with | [_, _, _, _], _ => rfl) fun f cdv A outer s H E i hr hok => ?_
  have hu := hr.units
  have hu5 := hr.u65
  have hN := sc_strategy.nd
  obtain ⟨h, hp⟩ := hok
  refine sw_cons (s_expr (d_cl G1 hr (i.b, i.fr, i.m, i.bar) (da_cons (dv 0 rfl) (da_cons (dv 1 rfl) (da_cons (dv 2 rfl) (da_cons (dv 3 rfl) da_nil)))) ⟨h.b, h.fr, h.m0, h.m20, h.bst, h.basc, h.bfew⟩) ?_)
  refine sw_cons (s_asg 4 hN (d_cl G2 hr (i.b, i.fr, i.m, i.bar) (da_cons (dv 0 rfl) (da_cons (dv 1 rfl) (da_cons (dv 2 rfl) (da_cons (dv 3 rfl) da_nil)))) ⟨h.b, h.fr.tops.few, h.bfew, ascT_nodup h.basc, h.so⟩) ?_)
  refine sw_cons (s_asg 5 hN (d_cl G3 hr i.g (da_cons (dv 4 rfl) da_nil) ⟨h.go, h.hh⟩) ?_)
  cases hk : keptOf i.g with
  | none =>
    refine sw_cons (s_ifYes (dt_cmp o_isN (dv 5 rfl).lend d_non.lend) rfl (sw_one (s_ret d_non ?_)))
    rfl
  | some ws =>
    have pk := hp ws hk
    have hfew := pk.few
    refine sw_cons (s_ifNo (dt_cmp o_isN (dv 5 rfl).lend d_non.lend) rfl ?_)
    have emarks : dcD (ws.map fun x => (kWay x, PyData.bool true)) = dk kWay .bool (marks ws) := by
      have e : (ws.map fun x => (kWay x, PyData.bool true)) = dk kWay .bool (marks ws) := by unfold dk marks; rw [List.map_map]; rfl
      rw [e, dcD_nodup]
      rw [dk_keys]
      refine nodup_key (fun _ _ => kWay_inj) ?_
      unfold marks
      rw [List.map_map]
      have : ((·.1) ∘ fun w : Way => (w, true)) = (id : Way → Way) := rfl
      rw [this, List.map_id]
      exact pk.nd
    refine sw_cons (s_tup (is := [7, 8]) rfl (gns_cons 7 hN (gns_cons 8 hN gns_nil)) (dfs_own (df_dc (onm := [("standing", 6)]) (enc := pWay) (xs := ws) (key := kWay) (val := fun _ => .bool true) rfl hu hN (di_tup (dv 5 rfl)) (blk_of (N := N_strategy) (sc := defScope sd_strategy) (by decide +kernel)) (List.all_eq_true.mp rfl) (fun _ _ _ _ _ _ _ => ⟨[6], by decide, gt_name 6 hN⟩)
      (fun _ _ _ _ _ x _ => (dv 6 rfl).is (by rw [kWay_data])) (fun _ _ _ _ _ x _ => d_bl) (fun x _ => ⟨⟨_, kWay_data x⟩, kWd x⟩) (by omega)) (dfs_own df_dict dfs_nil)) rfl (Nat.le_of_ble_eq_true rfl) (fun j hj => ?_) ?_)
    · simp only [List.mem_cons, List.not_mem_nil, or_false] at hj
      rcases hj with rfl | rfl <;> exact ⟨Nat.le_of_ble_eq_true rfl, Nat.le_of_ble_eq_true rfl⟩
    rw [emarks]
    refine sw_weak (dl' := cPlan i ws []) (.od 7 (.refl _) rfl) ?_
    have hall : ∀ n, ((ws.take n).flatMap (planAt i.g ws)).length ≤ n * 60 := by
      intro n
      induction n with
      | zero => simp
      | succ n ih =>
        cases hv : ws[n]? with
        | none =>
          rw [List.take_of_length_le (by have := List.getElem?_eq_none_iff.mp hv; omega)]
          rw [List.take_of_length_le (by have := List.getElem?_eq_none_iff.mp hv; omega)] at ih
          omega
        | some v =>
          rw [take_snoc hv, List.flatMap_append, List.length_append, List.flatMap_cons, List.flatMap_nil, List.append_nil]
          obtain ⟨rs, hrs, hl, _⟩ := pk.rows v (List.mem_of_getElem? hv)
          have : (planAt i.g ws v).length ≤ 60 := by
            unfold planAt
            rw [hrs]
            exact Nat.le_trans (planRows_len ws v rs) hl
          omega
    have hsplit : ∀ n, n ≤ ws.length → ∃ r, planOf i.g ws = (ws.take n).flatMap (planAt i.g ws) ++ r := fun n _ => ⟨(ws.drop n).flatMap (planAt i.g ws), by
      have e : (ws.take n ++ ws.drop n).flatMap (planAt i.g ws) = (ws.take n).flatMap (planAt i.g ws) ++ (ws.drop n).flatMap (planAt i.g ws) := List.flatMap_append
      rw [List.take_append_drop] at e
      exact e⟩
    refine sw_for (S := List ((Way × Pin) × Way)) (ds := ws.map pWay) (di_tup (dv 5 rfl)) (cPlan i ws) (fun n found => found = (ws.take n).flatMap (planAt i.g ws)) [] (.refl _) rfl (fun n d found hd hfo => ?_) (fun found hfo => ?_)
    · rw [List.getElem?_map] at hd
      obtain ⟨v, hv1, rfl⟩ := Option.map_eq_some_iff.mp hd
      subst hfo
      obtain ⟨rs, hrs, hrl, hrr⟩ := pk.rows v (List.mem_of_getElem? hv1)
      have hn : n < ws.length := (List.getElem?_eq_some_iff.mp hv1).1
      have hln := hall n
      have eat : planAt i.g ws v = rs.flatMap (planRow ws v) := by unfold planAt; rw [hrs]; rfl
      refine ⟨[6], _, gt_name 6 hN, ?_⟩
      refine sw_for (S := List ((Way × Pin) × Way)) (ds := rs.map pRow) (di_list (d_ixK (k := kWay) (g := pWay) (f := pRows) (fun _ _ => kWay_inj) kWay_data tup_way kWd hu (dv 4 rfl).lend (dv 6 rfl) hrs)) (cPlanR i ws v)
        (fun j found => found = (ws.take n).flatMap (planAt i.g ws) ++ (rs.take j).flatMap (planRow ws v)) ((ws.take n).flatMap (planAt i.g ws)) (.refl _) (List.append_nil _).symm (fun j d found hd2 hfo => ?_) (fun found hfo => ?_)
      · rw [List.getElem?_map] at hd2
        obtain ⟨r, hr1, rfl⟩ := Option.map_eq_some_iff.mp hd2
        subst hfo
        have hrm := List.mem_of_getElem? hr1
        have hj : j < rs.length := (List.getElem?_eq_some_iff.mp hr1).1
        obtain ⟨hr2, hr3⟩ := hrr r hrm
        have nx : (rs.take (j + 1)).flatMap (planRow ws v) = (rs.take j).flatMap (planRow ws v) ++ planRow ws v r := by rw [take_snoc hr1, planAt_app]
        have hlj := planRows_len ws v (rs.take j)
        rw [List.length_take] at hlj
        obtain ⟨a, several⟩ := r
        refine ⟨[9, 10], _, gt_tup rfl (gts_cons (gt_name 9 hN) (gts_cons (gt_name 10 hN) gts_nil)), ?_⟩
        cases a with
        | fin s =>
          refine sw_one (s_ifNo (dt_cmp (o_eqS hu (by decide +kernel) (by decide +kernel)) (d_ixT (ds := [.str "end", pSw s]) (dv 9 rfl) d_int rfl).lend d_str.lend) (by decide) ⟨(ws.take n).flatMap (planAt i.g ws) ++ (rs.take (j + 1)).flatMap (planRow ws v), Wk.of [9, 10] ?_, rfl⟩)
          rw [nx, show planRow ws v (.fin s, several) = [] from rfl, List.append_nil]
          rfl
        | want p =>
          have hne : (several.filter fun o => mem o ws) ≠ [] := hr3 p rfl
          have hsl : several.length ≤ 257 := hr2
          have hnew : kWP (v, p) ∉ (dk kWP pWay ((ws.take n).flatMap (planAt i.g ws) ++ (rs.take j).flatMap (planRow ws v))).map (·.1) := by
            rw [dk_keys]
            intro hm
            obtain ⟨u, hu1, hu2⟩ := List.mem_map.mp hm
            have hu3 := kWP_inj hu2
            subst hu3
            -- the whole plan's keys differ
            have hk2 := pk.keys
            obtain ⟨r2, hr2'⟩ := hsplit (n + 1) (by omega)
            rw [hr2', take_snoc hv1, List.flatMap_append, List.flatMap_cons, List.flatMap_nil, List.append_nil, eat] at hk2
            have e3 : rs = rs.take (j + 1) ++ rs.drop (j + 1) := (List.take_append_drop _ _).symm
            have e4 : rs.flatMap (planRow ws v) = (rs.take j).flatMap (planRow ws v) ++ (planRow ws v (.want p, several) ++ (rs.drop (j + 1)).flatMap (planRow ws v)) := by
              conv => lhs; rw [e3]
              rw [List.flatMap_append, nx, List.append_assoc]
            rw [e4, ← List.append_assoc, List.append_assoc, List.map_append, List.nodup_append] at hk2
            refine hk2.2.2 _ hu1 (v, p) ?_ rfl
            rw [List.map_append, List.map_append]
            exact List.mem_append_left _ (List.mem_append_left _ (List.mem_singleton.mpr rfl))
          refine sw_one (s_ifYes (dt_cmp (o_eqS hu (by decide +kernel) (by decide +kernel)) (d_ixT (ds := [.str "want", pPin p]) (dv 9 rfl) d_int rfl).lend d_str.lend) (by decide) ?_)
          refine sw_one (s_setN 8 (ds := [pWay v, pPin p]) (kWP (v, p)) hu rfl (d_ixL (ds := (several.filter fun o => mem o ws).map pWay) (d := pWay ((several.filter fun o => mem o ws).headD [])) (d_lcF (xs := several) (f := pWay) (k := fun o => mem o ws) (onm := [("other", 11)]) (enc := pWay) hN (blk_of (N := N_strategy) (sc := defScope sd_strategy) (by decide +kernel)) (di_list (dv 10 rfl)) rfl (fun _ _ _ _ _ _ _ => ⟨[11], by decide, gt_name 11 hN⟩)
            (fun _ _ _ _ _ o _ => dt_is (dt_cmp (o_inK (k := kWay) (g := pWay) (fun _ _ => kWay_inj) kWay_data tup_way kWd hu) (dv 11 rfl).lend (dv 7 rfl).lend) (by rw [look_marks])) (fun _ _ _ _ _ o _ _ => dv 11 rfl) (by omega)).lend d_int ((atI_nat _ 0).trans (by rw [List.getElem?_map, head_of hne]; rfl)))
            (d_tp (dp_cons (dv 6 rfl) (dp_cons (d_ixT (ds := [.str "want", pPin p]) (dv 9 rfl) d_int rfl) dp_nil))) ((kWP_data (v, p)).trans rfl) (kWPd (v, p)) (by unfold dk; rw [List.length_map, List.length_append]; omega)
            ⟨(ws.take n).flatMap (planAt i.g ws) ++ (rs.take (j + 1)).flatMap (planRow ws v), Wk.of [9, 10] ?_, rfl⟩)
          rw [putD_new hnew, nx, show planRow ws v (.want p, several) = [((v, p), (several.filter fun o => mem o ws).headD [])] from rfl, ← List.append_assoc]
          unfold cPlanR
          rw [dk_app (m := [((v, p), (several.filter fun o => mem o ws).headD [])])]
          rfl
      · rw [List.length_map, List.take_length] at hfo
        subst hfo
        refine sw_nil ⟨(ws.take (n + 1)).flatMap (planAt i.g ws), Wk.of [6] ?_, rfl⟩
        rw [take_snoc hv1, List.flatMap_append, List.flatMap_cons, List.flatMap_nil, List.append_nil, eat]
        rfl
    · rw [List.length_map, List.take_length] at hfo
      subst hfo
      refine sw_weak (dl' := (cPlan i ws (ws.flatMap (planAt i.g ws))).set 8 (.t (.dic (dk kWP pWay (planOf i.g ws))))) (.od 8 (.refl _) rfl) ?_
      exact sw_one (s_ret (dv 8 rfl) rfl)
abbrev sd_is_row : Stmt := top 69
abbrev N_is_row : List Str := ["box", "frame", "barred", "key", "told"]
theorem sc_is_row : FnScope N_is_row ["box", "frame", "barred", "key", "told"] (defScope sd_is_row) := ⟨rfl, rfl, rfl, by decide +kernel, rfl, by decide +kernel, by decide +kernel⟩
abbrev Fis_row (P : Program) (w : World) (K : PySem.W.Frag) (mg : Str → Option Value) (base : Heap) : Prop := Fn P w K mg base "is_row" 7 (fun i : Gm × Way × (Nat × Ask) => [i.1.b.t_, .p (.tuple (i.1.fr.map tupI)), .p (.tuple (i.1.bar.map pWay)), .p (pWay i.2.1), .p (pRank i.2.2)]) (fun i => BxOk i.1.b ∧ FrOk i.1.b.s i.1.fr ∧ i.1.bar.length ≤ 5000 ∧ StOk i.1.b i.1.fr i.2.1 ∧ i.2.1 ∉ i.1.bar ∧ AskOk i.1.b i.1.fr i.2.1 i.2.2.2) (fun _ => .p (.bool true))
theorem ok_is_row (TF : TopF K mg "is_row" sd_is_row) (B : Bi mg) (G1 : Fis_standing_of P w K mg base) (G2 : Fis_number P w K mg base) (G3 : Fis_asking_at P w K mg base) : Fis_row P w K mg base := by
  refine fn_body TF sc_is_row (fun _ => rfl) (fun _ _ _ _ _ _ us hl => match us, hl with | [_, _, _, _, _], _ => rfl) fun f cdv A outer s H E i hr hok => ?_
  have hu := hr.units
  have hu5 := hr.u65
  have hN := sc_is_row.nd
  obtain ⟨gm, v, n, a⟩ := i
  obtain ⟨hb, hf, hz, hst, hnb, ha⟩ := hok
  have hf' : FrOk gm.b.s gm.fr := hf
  refine sw_cons (s_ifNo (dw_or (dt_not (dt_val (d_cl G1 hr (gm.b, gm.fr, v) (da_cons (dv 0 rfl) (da_cons (dv 1 rfl) (da_cons (dv 3 rfl) da_nil))) ⟨hb, hf'.tops.few, hst⟩))) fun _ => dw_or (dt_cmp (o_inUD eqv_way lay_way (by omega) hu5) (dv 3 rfl).lend (dv 2 rfl).lend) fun _ => dw_or (dt_not (dt_val (d_isi (cl := "tuple") (.tup _) rfl (dv 4 rfl) B.isinstance_ B.tuple_))) fun _ => dw_or1 (dt_cmp (o_neI hu) (d_len (k := false) (ds := [.int (n : Nat), pAsk a]) (dv 4 rfl) rfl B.len_).lend d_int.lend)).test
    (by rw [mem_no.mpr hnb]; simp) ?_)
  refine sw_one (s_ret ((d_and (d_cl G2 hr (n : Int) (da_cons (d_ixT (ds := [.int (n : Nat), pAsk a]) (dv 4 rfl) d_int rfl) da_nil) True.intro) fun _ => d_and (d_cmp o_ge (d_ixT (ds := [.int (n : Nat), pAsk a]) (dv 4 rfl) d_int rfl).lend d_int.lend) fun _ => d_one (d_cl G3 hr (gm.b, gm.fr, v, a) (da_cons (dv 0 rfl) (da_cons (dv 1 rfl) (da_cons (dv 3 rfl) (da_cons (d_ixT (ds := [.int (n : Nat), pAsk a]) (dv 4 rfl) d_int rfl) da_nil)))) ⟨hb, hf', hst, ha⟩)).is ?_) rfl)
  rw [show decide ((0 : Int) ≤ (n : Nat)) = true from decide_eq_true (by omega)]
  rfl
abbrev sd_does_fall : Stmt := top 70
abbrev N_does_fall : List Str := ["box", "moves", "barred", "thing", "standing", "rank", "asking", "several", "other"]
theorem sc_does_fall : FnScope N_does_fall ["box", "moves", "barred", "thing", "standing"] (defScope sd_does_fall) := ⟨rfl, rfl, rfl, by decide +kernel, rfl, by decide +kernel, by decide +kernel⟩
/-- the asking of v falls, by the paper l -/
def Falls (b : Bx) (m : Int) (bar : List Way) (l : List (Way × (Nat × Ask))) (v : Way) (n : Nat) (a : Ask) : Prop := ∀ o ∈ ansW b m v a, o ∉ bar → ∃ r, look l o = some r ∧ r.1 < n
abbrev Fdoes_fall (P : Program) (w : World) (K : PySem.W.Frag) (mg : Str → Option Value) (base : Heap) : Prop := Fn P w K mg base "does_fall" 5 (fun i : Gm × List (Way × (Nat × Ask)) × Way × (Nat × Ask) => [i.1.b.t_, .p (.int i.1.m), .p (.tuple (i.1.bar.map pWay)), Tlost i.2.1, .p (pWay i.2.2.1)]) (fun i => BxOk i.1.b ∧ i.1.bar.length ≤ 5000 ∧ i.2.2.1.length ≤ 30 ∧ look i.2.1 i.2.2.1 = some i.2.2.2 ∧ Falls i.1.b i.1.m i.1.bar i.2.1 i.2.2.1 i.2.2.2.1 i.2.2.2.2) (fun _ => .p (.bool true))
theorem ansW_len {b : Bx} (hb : BxOk b) (m : Int) (v : Way) (a : Ask) : (ansW b m v a).length ≤ 257 := by
  cases a with
  | fin x => show 1 ≤ 257; omega
  | want p =>
    have hw : (waysTo b (withP b.s (loadOf b.s v) p)).length ≤ 256 := by
      unfold waysTo
      rw [(srtT_perm _ _).length_eq]
      have := genL_len (extL b.s (withP b.s (loadOf b.s v) p)) (fun w => decide (loadOf b.s w = withP b.s (loadOf b.s v) p)) b.sw []
      have : 2 ^ b.sw.length ≤ 2 ^ 8 := Nat.pow_le_pow_right (by omega) hb.few
      omega
    have := List.length_filter_le (fun o => decide (((moved v o : Nat) : Int) ≤ m)) (waysTo b (withP b.s (loadOf b.s v) p))
    show (List.filter _ _).length ≤ 257
    omega
theorem ok_does_fall (TF : TopF K mg "does_fall" sd_does_fall) (B : Bi mg) (G1 : Fanswers_at P w K mg base) : Fdoes_fall P w K mg base := by
  refine fn_body TF sc_does_fall (fun _ => rfl) (fun _ _ _ _ _ _ us hl => match us, hl with | [_, _, _, _, _], _ => rfl) fun f cdv A outer s H E i hr hok => ?_
  have hu := hr.units
  have hu5 := hr.u65
  have hN := sc_does_fall.nd
  obtain ⟨gm, l, v, n, a⟩ := i
  obtain ⟨hb, hz, hv, hl, hf⟩ := hok
  have hf' : Falls gm.b gm.m gm.bar l v n a := hf
  have hl' : look l v = some (n, a) := hl
  have hal : (ansW gm.b gm.m v a).length ≤ 257 := ansW_len hb gm.m v a
  refine sw_cons (s_tg (d_ixK (k := kWay) (g := pWay) (f := pRank) (fun _ _ => kWay_inj) kWay_data tup_way kWd hu (dv 3 rfl).lend (dv 4 rfl) hl') (gt_tup rfl (gts_cons (gt_name 5 hN) (gts_cons (gt_name 6 hN) gts_nil))) ?_)
  refine sw_cons (s_lc 7 rfl hN (blk_of (N := N_does_fall) (sc := defScope sd_does_fall) (by decide +kernel)) (dl_lc (onm := [("other", 8)]) (xs := ansW gm.b gm.m v a) (enc := pWay) (f := pWay) (k := fun o => !mem o gm.bar) rfl hN (di_list (d_cl G1 hr (gm.b, gm.m, v, a) (da_cons (dv 0 rfl) (da_cons (dv 1 rfl) (da_cons (dv 4 rfl) (da_cons (dv 6 rfl) da_nil)))) ⟨hb, hv⟩)) (blk_of (N := N_does_fall) (sc := defScope sd_does_fall) (by decide +kernel)) (List.all_eq_true.mp rfl) (fun _ _ _ _ _ _ _ => ⟨[8], by decide, gt_name 8 hN⟩)
    (fun _ _ _ _ _ o _ => dts_one (dt_cmp (o_ninUD eqv_way lay_way (by omega) hu5) (dv 8 rfl).lend (dv 2 rfl).lend)) (fun _ _ _ _ _ o _ _ => dv 8 rfl) (by omega)) ?_)
  have hfl := List.length_filter_le (fun o => !mem o gm.bar) (ansW gm.b gm.m v a)
  refine sw_one (s_ret ((d_all (xs := (ansW gm.b gm.m v a).filter fun o => !mem o gm.bar) (g := fun _ => true) (d_lcA (onm := [("other", 8)]) (enc := pWay) hN (blk_of (N := N_does_fall) (sc := defScope sd_does_fall) (by decide +kernel)) (di_list (dv 7 rfl)) rfl (fun _ _ _ _ _ _ _ => ⟨[8], by decide, gt_name 8 hN⟩) (fun _ _ _ _ _ o ho => ?_) (by omega)) B.all_).is (by simp)) rfl)
  obtain ⟨ho1, ho2⟩ := List.mem_filter.mp ho
  obtain ⟨r, hr1, hr2⟩ := hf' o ho1 (mem_no.mp (by rw [Bool.not_eq_true'] at ho2; exact ho2))
  refine (d_and (d_cmp (o_inK (k := kWay) (g := pWay) (f := pRank) (fun _ _ => kWay_inj) kWay_data tup_way kWd hu) (dv 8 rfl).lend (dv 3 rfl).lend) fun _ => d_one (d_cmp o_lt (d_ixT (ds := [.int (r.1 : Nat), pAsk r.2]) (d_ixK (k := kWay) (g := pWay) (f := pRank) (y := r) (fun _ _ => kWay_inj) kWay_data tup_way kWd hu (dv 3 rfl).lend (dv 8 rfl) hr1) d_int rfl).lend (dv 5 rfl).lend)).is ?_
  rw [hr1, show decide (((r.1 : Nat) : Int) < ((n : Nat) : Int)) = true from decide_eq_true (by omega)]
  rfl
abbrev sd_is_doom_of : Stmt := top 71
abbrev N_is_doom_of : List Str := ["box", "frame", "moves", "barred", "thing", "key", "standing"]
theorem sc_is_doom_of : FnScope N_is_doom_of ["box", "frame", "moves", "barred", "thing"] (defScope sd_is_doom_of) := ⟨rfl, rfl, rfl, by decide +kernel, rfl, by decide +kernel, by decide +kernel⟩
/-- what makes a paper good -/
structure PaperOk (i : Gm) (l : List (Way × (Nat × Ask))) : Prop where
  few : l.length ≤ 256
  nd : (l.map (·.1)).Nodup
  nil : (look l []).isSome = true
  row : ∀ x ∈ l, StOk i.b i.fr x.1 ∧ x.1 ∉ i.bar ∧ AskOk i.b i.fr x.1 x.2.2
  fall : ∀ x ∈ l, Falls i.b i.m i.bar l x.1 x.2.1 x.2.2
def DoomCase (i : Gm × List (Way × (Nat × Ask)) × Bool) : Prop := (([] : Way) ∈ i.1.bar ∧ i.2.1 = [] ∧ i.2.2 = true) ∨ (([] : Way) ∉ i.1.bar ∧ PaperOk i.1 i.2.1 ∧ i.2.2 = true) ∨ (([] : Way) ∉ i.1.bar ∧ i.2.1 = [] ∧ i.2.2 = false)
abbrev Fis_doom_of (P : Program) (w : World) (K : PySem.W.Frag) (mg : Str → Option Value) (base : Heap) : Prop := Fn P w K mg base "is_doom_of" 8 (fun i : Gm × List (Way × (Nat × Ask)) × Bool => argG i.1 ++ [Tlost i.2.1]) (fun i => GmOk w i.1 ∧ DoomCase i) (fun i => .p (.bool i.2.2))
theorem ok_is_doom_of (TF : TopF K mg "is_doom_of" sd_is_doom_of) (B : Bi mg) (G1 : Fis_row P w K mg base) (G2 : Fdoes_fall P w K mg base) : Fis_doom_of P w K mg base := by
  refine fn_body TF sc_is_doom_of (fun _ => rfl) (fun _ _ _ _ _ _ us hl => match us, hl with | [_, _, _, _, _], _ => rfl) fun f cdv A outer s H E i hr hok => ?_
  have hu := hr.units
  have hu5 := hr.u65
  have hN := sc_is_doom_of.nd
  obtain ⟨gm, l, q⟩ := i
  obtain ⟨h, hc⟩ := hok
  have h' : GmOk w gm := h
  refine sw_cons (s_ifNo (dt_not (dt_val (d_isiD (dv 4 rfl).lend B.isinstance_ B.dict_))) rfl ?_)
  rcases hc with ⟨c1, c2, c3⟩ | ⟨c1, c2, c3⟩ | ⟨c1, c2, c3⟩
  · have c2' : l = [] := c2
    have c3' : q = true := c3
    subst c2' c3'
    refine sw_cons (s_ifYes (dt_cmp (o_inUD (x := ([] : Way)) (xs := gm.bar) eqv_way lay_way (by omega) hu5) (d_tp dp_nil).lend (dv 3 rfl).lend) (mem_iff.mpr c1) ?_)
    exact sw_one (s_ret (d_cmp (o_eqE hu) (dv 4 rfl).lend d_dnew.lend) rfl)
  · have c2' : PaperOk gm l := c2
    have c3' : q = true := c3
    subst c3'
    have hfew := c2'.few
    have hkeys : keysD (dk kWay pRank l) = l.map fun x => pWay x.1 := by rw [keysD_dk kWay_data, List.map_map]; rfl
    refine sw_cons (s_ifNo (dt_cmp (o_inUD (x := ([] : Way)) (xs := gm.bar) eqv_way lay_way (by omega) hu5) (d_tp dp_nil).lend (dv 3 rfl).lend) (mem_no.mpr c1) ?_)
    refine sw_cons (s_ifNo (dw_or (dt_not (dt_val (d_all (xs := l) (g := fun _ => true) (d_lcA (onm := [("key", 5)]) (enc := fun x => pWay x.1) hN (blk_of (N := N_is_doom_of) (sc := defScope sd_is_doom_of) (by decide +kernel)) ((di_keys (dv 4 rfl)).is hkeys) rfl (fun _ _ _ _ _ _ _ => ⟨[5], by decide, gt_name 5 hN⟩)
      (fun _ _ _ _ _ x hx => d_cl G1 hr (gm, x) (da_cons (dv 0 rfl) (da_cons (dv 1 rfl) (da_cons (dv 3 rfl) (da_cons (dv 5 rfl) (da_cons (d_ixK (k := kWay) (g := pWay) (f := pRank) (y := x.2) (fun _ _ => kWay_inj) kWay_data tup_way kWd hu (dv 4 rfl).lend (dv 5 rfl) (look_some c2'.nd hx)) da_nil))))) ⟨h'.b, h'.fr, h'.bfew, c2'.row x hx⟩) (by omega)) B.all_)))
      fun _ => dw_or1 (dt_cmp (o_ninK (x := ([] : Way)) (k := kWay) (g := pWay) (f := pRank) (fun _ _ => kWay_inj) kWay_data tup_way kWd hu) (d_tp dp_nil).lend (dv 4 rfl).lend)).test (by rw [c2'.nil]; simp) ?_)
    exact sw_one (s_ret ((d_all (xs := l) (g := fun _ => true) (d_lcA (onm := [("standing", 6)]) (enc := fun x => pWay x.1) hN (blk_of (N := N_is_doom_of) (sc := defScope sd_is_doom_of) (by decide +kernel)) ((di_keys (dv 4 rfl)).is hkeys) rfl (fun _ _ _ _ _ _ _ => ⟨[6], by decide, gt_name 6 hN⟩)
      (fun _ _ _ _ _ x hx => d_cl G2 hr (gm, l, x) (da_cons (dv 0 rfl) (da_cons (dv 2 rfl) (da_cons (dv 3 rfl) (da_cons (dv 4 rfl) (da_cons (dv 6 rfl) da_nil))))) ⟨h'.b, h'.bfew, (c2'.row x hx).1.way.few, look_some c2'.nd hx, c2'.fall x hx⟩) (by omega)) B.all_).is (by simp)) rfl)
  · have c2' : l = [] := c2
    have c3' : q = false := c3
    subst c2' c3'
    refine sw_cons (s_ifNo (dt_cmp (o_inUD (x := ([] : Way)) (xs := gm.bar) eqv_way lay_way (by omega) hu5) (d_tp dp_nil).lend (dv 3 rfl).lend) (mem_no.mpr c1) ?_)
    refine sw_cons (s_ifYes (dw_or (dt_not (dt_val (d_all (xs := ([] : List (Way × (Nat × Ask)))) (g := fun _ => true) (d_lcA (onm := [("key", 5)]) (enc := fun x => pWay x.1) hN (blk_of (N := N_is_doom_of) (sc := defScope sd_is_doom_of) (by decide +kernel)) (di_keys (kvs := []) (dv 4 rfl)) rfl (fun _ _ _ _ _ _ _ => ⟨[5], by decide, gt_name 5 hN⟩) (fun _ _ _ _ _ x hx => nomatch hx) (by simp)) B.all_)))
      fun _ => dw_or1 (dt_cmp (o_ninK (x := ([] : Way)) (l := ([] : List (Way × (Nat × Ask)))) (k := kWay) (g := pWay) (f := pRank) (fun _ _ => kWay_inj) kWay_data tup_way kWd hu) (d_tp dp_nil).lend (dv 4 rfl).lend)).test rfl (sw_one (s_ret d_bl rfl)))
abbrev sd_is_doom : Stmt := top 72
abbrev N_is_doom : List Str := ["box", "frame", "moves", "barred", "thing"]
theorem sc_is_doom : FnScope N_is_doom ["box", "frame", "moves", "barred", "thing"] (defScope sd_is_doom) := ⟨rfl, rfl, rfl, by decide +kernel, rfl, by decide +kernel, by decide +kernel⟩
abbrev Fis_doom (P : Program) (w : World) (K : PySem.W.Frag) (mg : Str → Option Value) (base : Heap) : Prop := Fn P w K mg base "is_doom" 9 (fun i : Gm × List (Way × (Nat × Ask)) × Bool => argG i.1 ++ [Tlost i.2.1]) (fun i => GmOk w i.1 ∧ DoomCase i) (fun i => .p (.bool i.2.2))
theorem ok_is_doom (TF : TopF K mg "is_doom" sd_is_doom) (G1 : Fneed_game P w K mg base) (G2 : Fis_doom_of P w K mg base) : Fis_doom P w K mg base := by
  refine fn_body TF sc_is_doom (fun _ => rfl) (fun _ _ _ _ _ _ us hl => match us, hl with | [_, _, _, _, _], _ => rfl) fun f cdv A outer s H E i hr hok => ?_
  have hu := hr.units
  have hu5 := hr.u65
  have hN := sc_is_doom.nd
  have h := hok.1
  refine sw_cons (s_expr (d_cl G1 hr (i.1.b, i.1.fr, i.1.m, i.1.bar) (da_cons (dv 0 rfl) (da_cons (dv 1 rfl) (da_cons (dv 2 rfl) (da_cons (dv 3 rfl) da_nil)))) ⟨h.b, h.fr, h.m0, h.m20, h.bst, h.basc, h.bfew⟩) ?_)
  exact sw_one (s_ret (d_cl G2 hr i (da_cons (dv 0 rfl) (da_cons (dv 1 rfl) (da_cons (dv 2 rfl) (da_cons (dv 3 rfl) (da_cons (dv 4 rfl) da_nil))))) hok) rfl)
end
end Ac
-- part L6
set_option maxHeartbeats 4000000
set_option Elab.async false
set_option maxRecDepth 100000
set_option linter.all false
/-! Ac, plain: the law's own enumerations. -/
namespace Ac
open PySem PySem.Spec PyProof.Rows L2
def mate (t m : Int) : Int := if (if t % 2 = 0 then t + 1 else t - 1) < m then (if t % 2 = 0 then t + 1 else t - 1) else t
inductive Fash where
  | plain
  | crossed
  | full
  | some_
  deriving DecidableEq
def Fash.str : Fash → Str
  | .plain => "plain"
  | .crossed => "crossed"
  | .full => "full"
  | .some_ => "some"
def far (m : Nat) (f : Fash) (t : Int) : List Int := match f with
  | .full => (List.range m).map fun k : Nat => (0 + (k : Int))
  | .crossed => [mate t m]
  | _ => [t]
def joinAt (m : Nat) (f : Fash) (p : Pin) (t : Int) : List Sw := (far m f t).map fun e => ((p.1, t), (p.2, e))
def joinPair (m : Nat) (f : Fash) (p : Pin) : List Sw := (List.range m).flatMap fun t : Nat => joinAt m f p (0 + (t : Int))
def joinRaw (s : Int) (m : Nat) (f : Fash) : List Sw := (pairs s).flatMap (joinPair m f)
noncomputable def joined (s : Int) (m : Nat) (f : Fash) : List Sw := srtT pSw (joinRaw s m f)
/-- all ways, switch by switch -/
def grow (found : List Way) (s : Sw) : List Way := found ++ (found.filter fun w => free_ w s).map (· ++ [s])
def waysRaw (sw : List Sw) : List Way := sw.foldl grow [[]]
noncomputable def allWays (sw : List Sw) : List Way := srtT pWay (waysRaw sw)
def isTop (ys : List (List Int)) (l : List Int) : Bool := ((ys.filter fun o => !decide (o = l) && below l o) == [])
def topsOf (ys : List (List Int)) : List (List Int) := ys.filter (isTop ys)
theorem waysRaw_snoc (sw : List Sw) (s : Sw) : waysRaw (sw ++ [s]) = grow (waysRaw sw) s := by unfold waysRaw; rw [List.foldl_append]; rfl
theorem waysRaw_len (sw : List Sw) : (waysRaw sw).length ≤ 2 ^ sw.length ∧ ∀ w ∈ waysRaw sw, w.length ≤ sw.length := by
  have aux : ∀ (n : Nat) (sw : List Sw), sw.length = n → (waysRaw sw).length ≤ 2 ^ n ∧ ∀ w ∈ waysRaw sw, w.length ≤ n := by
    intro n
    induction n with
    | zero => intro sw h; rw [List.eq_nil_of_length_eq_zero h]; exact ⟨by decide, fun w hw => by rw [List.mem_singleton.mp hw]; exact Nat.le_refl _⟩
    | succ n ih =>
      intro sw h
      have hne : sw ≠ [] := by intro e; rw [e] at h; simp at h
      have e : sw = sw.dropLast ++ [sw.getLast hne] := (List.dropLast_concat_getLast hne).symm
      obtain ⟨h1, h2⟩ := ih sw.dropLast (by rw [List.length_dropLast, h]; rfl)
      rw [e, waysRaw_snoc]
      unfold grow
      refine ⟨?_, fun w hw => ?_⟩
      · rw [List.length_append, List.length_map, Nat.pow_succ]
        have := List.length_filter_le (fun w => free_ w (sw.getLast hne)) (waysRaw sw.dropLast)
        omega
      · rcases List.mem_append.mp hw with hw | hw
        · have := h2 w hw; omega
        · obtain ⟨v, hv, rfl⟩ := List.mem_map.mp hw
          have := h2 v (List.mem_filter.mp hv).1
          show (v ++ [_]).length ≤ n + 1
          rw [List.length_append, List.length_singleton]; omega
  exact aux _ sw rfl
end Ac
-- part E1
set_option maxHeartbeats 4000000
set_option Elab.async false
set_option maxRecDepth 100000
set_option linter.all false
/-! Ac: the law's own dicts, with text keys. -/
namespace Ac
open PySem PySem.Spec PyProof.Rows L2
theorem kne {a b : Str} (h : a ≠ b) : ¬ ((Sum.inr a : Key) = Sum.inr b) := fun e => h (by injection e)
theorem sc1 (s t : Int) (v : V) : valV (scopeK s t v) (.inr "sides") = some (.int s) := valV_pos rfl
theorem sc2 (s t : Int) (v : V) : valV (scopeK s t v) (.inr "many") = some (.int t) := (valV_neg (kne (by decide +kernel))).trans (valV_pos rfl)
theorem sc3 (s t : Int) (v : V) : valV (scopeK s t v) (.inr "joined") = some v := (valV_neg (kne (by decide +kernel))).trans ((valV_neg (kne (by decide +kernel))).trans (valV_pos rfl))
theorem tb1 (a b : V) (m : Int) (c : V) : valV (tableK a b m c) (.inr "scope") = some a := valV_pos rfl
theorem tb2 (a b : V) (m : Int) (c : V) : valV (tableK a b m c) (.inr "tops") = some b := (valV_neg (kne (by decide +kernel))).trans (valV_pos rfl)
theorem tb3 (a b : V) (m : Int) (c : V) : valV (tableK a b m c) (.inr "most") = some (.int m) := (valV_neg (kne (by decide +kernel))).trans ((valV_neg (kne (by decide +kernel))).trans (valV_pos rfl))
theorem tb4 (a b : V) (m : Int) (c : V) : valV (tableK a b m c) (.inr "stands") = some c := (valV_neg (kne (by decide +kernel))).trans ((valV_neg (kne (by decide +kernel))).trans ((valV_neg (kne (by decide +kernel))).trans (valV_pos rfl)))
section
variable {X : Cx} {a : Expr} {dl : List Sl} {pos p : Pos} {j : Nat} {t r : T}
/-- d["x"], by what the dict holds -/
theorem d_key {x : Str} {A : Around} (hu : A.units + 64 < cLine) (ha : DE X a dl t) (hv : ∀ (own : Nat → List Addr) (F : Addr → Prop) (H : Hp) (v : V), RX X own F H v t → ∃ b kvs u, v = .ref b ∧ H b = some (.dK kvs) ∧ valV kvs (.inr x) = some u ∧ RX X own F H u r) (hA : X.A = A := by rfl)
    (hs : NoSl (.Constant (.str x) j p) := by intro _ _; rfl) : DE X (.Subscript a (.Constant (.str x) j p) pos) dl r := fun Kp F own H st S => by
  subst hA
  refine we_of (pe_dget (by omega) (peW a) pe_str hs) ?_
  refine (ha Kp F own H st S).mono fun v H1 ⟨s1, q1⟩ => ?_
  obtain ⟨b, kvs, u, rfl, h1, h2, h3⟩ := hv own F H1 v q1
  exact ⟨b, u, rfl, by rw [← h2]; exact DGet.k (k := .inr x) h1, s1, h3⟩
theorem d_scS {s m : Int} {d : PyData} {A : Around} (hu : A.units + 64 < cLine) (ha : DE X a dl (.scope s m d)) (hA : X.A = A := by rfl) : DE X (.Subscript a (.Constant (.str "sides") j p) pos) dl (.p (.int s)) :=
  d_key hu ha (fun own F H v h => let ⟨b, u, h1, h2, h3⟩ := h; ⟨b, _, _, h1, reg_sub _ _ h2, sc1 _ _ _, .int s⟩) hA
theorem d_scM {s m : Int} {d : PyData} {A : Around} (hu : A.units + 64 < cLine) (ha : DE X a dl (.scope s m d)) (hA : X.A = A := by rfl) : DE X (.Subscript a (.Constant (.str "many") j p) pos) dl (.p (.int m)) :=
  d_key hu ha (fun own F H v h => let ⟨b, u, h1, h2, h3⟩ := h; ⟨b, _, _, h1, reg_sub _ _ h2, sc2 _ _ _, .int m⟩) hA
theorem d_scJ {s m : Int} {d : PyData} {A : Around} (hu : A.units + 64 < cLine) (ha : DE X a dl (.scope s m d)) (hA : X.A = A := by rfl) : DE X (.Subscript a (.Constant (.str "joined") j p) pos) dl (.p d) :=
  d_key hu ha (fun own F H v h => let ⟨b, u, h1, h2, h3⟩ := h; ⟨b, _, _, h1, reg_sub _ _ h2, sc3 _ _ _, h3⟩) hA
theorem d_tbSc {s m most : Int} {d tops st : PyData} {A : Around} (hu : A.units + 64 < cLine) (ha : DE X a dl (.table s m d tops most st)) (hA : X.A = A := by rfl) : DE X (.Subscript a (.Constant (.str "scope") j p) pos) dl (.scope s m d) :=
  d_key hu ha (fun own F H v h => let ⟨b, c, u, ut, us, h1, h2, h3, h4, h5, h6⟩ := h; ⟨b, _, _, h1, reg_sub _ _ h4, tb1 _ _ _ _, c, u, rfl, h2, h3⟩) hA
theorem d_tbT {s m most : Int} {d tops st : PyData} {A : Around} (hu : A.units + 64 < cLine) (ha : DE X a dl (.table s m d tops most st)) (hA : X.A = A := by rfl) : DE X (.Subscript a (.Constant (.str "tops") j p) pos) dl (.p tops) :=
  d_key hu ha (fun own F H v h => let ⟨b, c, u, ut, us, h1, h2, h3, h4, h5, h6⟩ := h; ⟨b, _, _, h1, reg_sub _ _ h4, tb2 _ _ _ _, h5⟩) hA
theorem d_tbM {s m most : Int} {d tops st : PyData} {A : Around} (hu : A.units + 64 < cLine) (ha : DE X a dl (.table s m d tops most st)) (hA : X.A = A := by rfl) : DE X (.Subscript a (.Constant (.str "most") j p) pos) dl (.p (.int most)) :=
  d_key hu ha (fun own F H v h => let ⟨b, c, u, ut, us, h1, h2, h3, h4, h5, h6⟩ := h; ⟨b, _, _, h1, reg_sub _ _ h4, tb3 _ _ _ _, .int most⟩) hA
theorem d_tbSt {s m most : Int} {d tops st : PyData} {A : Around} (hu : A.units + 64 < cLine) (ha : DE X a dl (.table s m d tops most st)) (hA : X.A = A := by rfl) : DE X (.Subscript a (.Constant (.str "stands") j p) pos) dl (.p st) :=
  d_key hu ha (fun own F H v h => let ⟨b, c, u, ut, us, h1, h2, h3, h4, h5, h6⟩ := h; ⟨b, _, _, h1, reg_sub _ _ h4, tb4 _ _ _ _, h6⟩) hA
end
end Ac
-- part C13
set_option Elab.async false
set_option maxRecDepth 100000
set_option maxHeartbeats 4000000
set_option linter.all false
namespace Ac
open PySem PySem.Spec PyProof.Rows L2
def pairsAt (s : Int) (a : Nat) : List Pin := (from_ s (0 + (a : Nat))).map fun b => (0 + (a : Nat), b)
theorem from_len (s a : Int) (h : s ≤ 5) (h0 : 0 ≤ a) : (from_ s a).length ≤ 5 := by unfold from_; rw [List.length_map, List.length_range]; omega
theorem range_fm {α : Type} (f : Nat → List α) (n : Nat) : (List.range (n + 1)).flatMap f = (List.range n).flatMap f ++ f n := by
  rw [List.range_succ, List.flatMap_append, List.flatMap_cons, List.flatMap_nil, List.append_nil]
theorem range_fm_len {α : Type} (f : Nat → List α) (k : Nat) : ∀ n, (∀ j, j < n → (f j).length ≤ k) → ((List.range n).flatMap f).length ≤ n * k
  | 0, _ => Nat.zero_le _
  | n + 1, h => by
    rw [range_fm, List.length_append]
    have := range_fm_len f k n fun j hj => h j (by omega)
    have := h n (by omega)
    rw [Nat.succ_mul]
    omega
theorem fm_snoc {α β : Type} (f : α → List β) (xs : List α) (x : α) : (xs ++ [x]).flatMap f = xs.flatMap f ++ f x := by
  rw [List.flatMap_append, List.flatMap_cons, List.flatMap_nil, List.append_nil]
theorem fm_len {α β : Type} (f : α → List β) (k : Nat) : ∀ xs : List α, (∀ x ∈ xs, (f x).length ≤ k) → (xs.flatMap f).length ≤ xs.length * k
  | [], _ => by simp
  | x :: xs, h => by
    have := fm_len f k xs fun y hy => h y (List.mem_cons_of_mem _ hy)
    have := h x List.mem_cons_self
    rw [List.flatMap_cons, List.length_append, List.length_cons, Nat.succ_mul]
    omega
def far1 (m : Nat) (f : Fash) (t : Int) : List Int := if f.str = "full" then (List.range m).map fun k : Nat => (0 + (k : Int)) else [t]
theorem far_eq (m : Nat) (f : Fash) (t : Int) : far m f t = if f.str = "crossed" then [mate t m] else far1 m f t := by
  cases f with
  | plain => unfold far1; rw [if_neg (show ¬ (Fash.plain.str = "crossed") by decide +kernel), if_neg (show ¬ (Fash.plain.str = "full") by decide +kernel)]; rfl
  | crossed => rw [if_pos (show Fash.crossed.str = "crossed" from rfl)]; rfl
  | full => unfold far1; rw [if_neg (show ¬ (Fash.full.str = "crossed") by decide +kernel), if_pos (show Fash.full.str = "full" from rfl)]; rfl
  | some_ => unfold far1; rw [if_neg (show ¬ (Fash.some_.str = "crossed") by decide +kernel), if_neg (show ¬ (Fash.some_.str = "full") by decide +kernel)]; rfl
theorem far_len (m : Nat) (f : Fash) (t : Int) : (far m f t).length ≤ m + 1 := by
  cases f <;> simp [far]
theorem joinAt_len (m : Nat) (f : Fash) (p : Pin) (t : Int) : (joinAt m f p t).length ≤ m + 1 := by
  unfold joinAt; rw [List.length_map]; exact far_len m f t
section
variable {P : Program} {w : World} {K : PySem.W.Frag} {mg : Str → Option Value} {base : Heap}
abbrev sd__law_pairs : Stmt := top 78
abbrev N__law_pairs : List Str := ["_law_sides_here", "_law_found", "_law_one", "_law_other"]
theorem sc__law_pairs : FnScope N__law_pairs ["_law_sides_here"] (defScope sd__law_pairs) := ⟨rfl, rfl, rfl, by decide +kernel, rfl, by decide +kernel, by decide +kernel⟩
abbrev F_law_pairs (P : Program) (w : World) (K : PySem.W.Frag) (mg : Str → Option Value) (base : Heap) : Prop := Fn P w K mg base "_law_pairs" 1 (fun i : Int => [.p (.int i)]) (fun i => 0 ≤ i ∧ i ≤ 5) (fun i => .p (.list ((pairs i).map pPin)))
def cLpairs (s : Int) (found : List Pin) : List Sl := [.t (.p (.int s)), .t (.p (.list (found.map pPin))), .no, .no]
theorem ok__law_pairs (TF : TopF K mg "_law_pairs" sd__law_pairs) (B : Bi mg) : F_law_pairs P w K mg base := by
  refine fn_body TF sc__law_pairs (fun _ => rfl) (fun _ _ _ _ _ _ us hl => match us, hl with | [_], _ => rfl) fun f cdv A outer s H E i hr hok => ?_
  have hu := hr.units
  have hu5 := hr.u65
  have hN := sc__law_pairs.nd
  obtain ⟨h0, h5⟩ := hok
  refine sw_cons (s_asg 1 hN (d_ls dp_nil) ?_)
  refine sw_for (S := List Pin) (ds := rgD 0 i.toNat) (di_range1 (dv 0 rfl) (by omega) (by omega) B.range_) (cLpairs i) (fun n found => found = (List.range n).flatMap (pairsAt i)) [] (.refl _) rfl (fun n d found hd hfo => ?_) (fun found hfo => ?_)
  · have ed := rgD_get hd
    have hn : n < i.toNat := by have := (List.getElem?_eq_some_iff.mp hd).1; rw [rgD_len] at this; exact this
    subst ed
    subst hfo
    have hl := range_fm_len (pairsAt i) 5 n fun j _ => by unfold pairsAt; rw [List.length_map]; exact from_len _ _ h5 (by omega)
    have hl2 := from_len i (0 + (n : Int)) h5 (by omega)
    refine ⟨[2], _, gt_name 2 hN, ?_⟩
    refine sw_one (s_asg 1 hN (d_bin (o_catL ?_) (dv 1 rfl).lend (d_lcA (xs := from_ i (0 + (n : Int))) (f := fun b => pPin (0 + (n : Int), b)) (onm := [("_law_other", 3)]) (enc := .int) hN (blk_of (N := N__law_pairs) (sc := defScope sd__law_pairs) (by decide +kernel))
      ((di_range2 (d_bin o_add (dv 2 rfl).lend d_int.lend) (dv 0 rfl) (by omega) B.range_).is (by unfold from_; rw [List.map_map]; rfl)) rfl (fun _ _ _ _ _ _ _ => ⟨[3], by decide, gt_name 3 hN⟩) (fun _ _ _ _ _ x _ => d_tp (dp_cons (dv 2 rfl) (dp_cons (dv 3 rfl) dp_nil))) (by omega)).lend) ?_)
    · rw [List.length_map, List.length_map]; omega
    · refine ⟨_, ?_, rfl⟩
      refine Wk.of [2] ?_
      unfold cLpairs
      rw [range_fm, List.map_append]
      unfold pairsAt
      rw [List.map_map]
      rfl
  · rw [rgD_len] at hfo
    subst hfo
    exact sw_one (s_ret (dv 1 rfl) rfl)
abbrev sd__law_mate : Stmt := top 79
abbrev N__law_mate : List Str := ["_law_track", "_law_many", "_law_other"]
theorem sc__law_mate : FnScope N__law_mate ["_law_track", "_law_many"] (defScope sd__law_mate) := ⟨rfl, rfl, rfl, by decide +kernel, rfl, by decide +kernel, by decide +kernel⟩
abbrev F_law_mate (P : Program) (w : World) (K : PySem.W.Frag) (mg : Str → Option Value) (base : Heap) : Prop := Fn P w K mg base "_law_mate" 1 (fun i : Int × Int => [.p (.int i.1), .p (.int i.2)]) (fun _ => True) (fun i => .p (.int (mate i.1 i.2)))
theorem ok__law_mate (TF : TopF K mg "_law_mate" sd__law_mate) (B : Bi mg) : F_law_mate P w K mg base := by
  refine fn_body TF sc__law_mate (fun _ => rfl) (fun _ _ _ _ _ _ us hl => match us, hl with | [_, _], _ => rfl) fun f cdv A outer s H E i hr hok => ?_
  have hu := hr.units
  have hu5 := hr.u65
  have hN := sc__law_mate.nd
  refine sw_cons (s_asg 2 hN (d_if (t := .p (.int (if i.1 % 2 = 0 then i.1 + 1 else i.1 - 1))) (dt_cmp (o_eqI hu) (d_bin (o_mod (by decide)) (d_callT c_int (dv 0 rfl).lend B.int_).lend d_int.lend).lend d_int.lend)
    (fun h => (d_bin o_add (dv 0 rfl).lend d_int.lend).is (by rw [if_pos (of_decide_eq_true h)])) (fun h => (d_bin o_sub (dv 0 rfl).lend d_int.lend).is (by rw [if_neg (of_decide_eq_false h)]))) ?_)
  exact sw_one (s_ret (d_if (t := .p (.int (mate i.1 i.2))) (dt_cmp o_lt (dv 2 rfl).lend (dv 1 rfl).lend) (fun h => (dv 2 rfl).is (by unfold mate; rw [if_pos (c := _ < i.2) (of_decide_eq_true h)])) (fun h => (dv 0 rfl).is (by unfold mate; rw [if_neg (c := _ < i.2) (of_decide_eq_false h)]))) rfl)
abbrev sd__law_joined : Stmt := top 80
abbrev N__law_joined : List Str := ["_law_sides_here", "_law_many", "_law_fashion", "_law_found", "_law_one", "_law_other", "_law_track", "_law_far", "_law_end"]
theorem sc__law_joined : FnScope N__law_joined ["_law_sides_here", "_law_many", "_law_fashion"] (defScope sd__law_joined) := ⟨rfl, rfl, rfl, by decide +kernel, rfl, by decide +kernel, by decide +kernel⟩
abbrev F_law_joined (P : Program) (w : World) (K : PySem.W.Frag) (mg : Str → Option Value) (base : Heap) : Prop := Fn P w K mg base "_law_joined" 3 (fun i : Int × Nat × Fash => [.p (.int i.1), .p (.int (i.2.1 : Nat)), .p (.str i.2.2.str)]) (fun i => 0 ≤ i.1 ∧ i.1 ≤ 5 ∧ i.2.1 ≤ 6) (fun i => .p (.list ((joined i.1 i.2.1 i.2.2).map pSw)))
def cJo (i : Int × Nat × Fash) (found : List Sw) : List Sl := [.t (.p (.int i.1)), .t (.p (.int (i.2.1 : Nat))), .t (.p (.str i.2.2.str)), .t (.p (.list (found.map pSw))), .no, .no, .no, .no, .no]
def cJoI (i : Int × Nat × Fash) (p : Pin) (found : List Sw) : List Sl := [.t (.p (.int i.1)), .t (.p (.int (i.2.1 : Nat))), .t (.p (.str i.2.2.str)), .t (.p (.list (found.map pSw))), .t (.p (.int p.1)), .t (.p (.int p.2)), .no, .no, .no]
theorem ok__law_joined (TF : TopF K mg "_law_joined" sd__law_joined) (B : Bi mg) (G1 : F_law_pairs P w K mg base) (G2 : F_law_mate P w K mg base) : F_law_joined P w K mg base := by
  refine fn_body TF sc__law_joined (fun _ => rfl) (fun _ _ _ _ _ _ us hl => match us, hl with | [_, _, _], _ => rfl) fun f cdv A outer s H E i hr hok => ?_
  have hu := hr.units
  have hu5 := hr.u65
  have hN := sc__law_joined.nd
  obtain ⟨h0, h5, h6⟩ := hok
  have hz := pairs_le i.1 h5
  have hlj : ∀ p : Pin, (joinPair i.2.1 i.2.2 p).length ≤ 42 := fun p => by
    have := range_fm_len (fun t : Nat => joinAt i.2.1 i.2.2 p (0 + (t : Int))) 7 i.2.1 fun j _ => by have := joinAt_len i.2.1 i.2.2 p (0 + (j : Int)); omega
    unfold joinPair
    omega
  refine sw_cons (s_asg 3 hN (d_ls dp_nil) ?_)
  refine sw_for (S := List Sw) (ds := (pairs i.1).map pPin) (di_list (d_cl G1 hr i.1 (da_cons (dv 0 rfl) da_nil) ⟨h0, h5⟩)) (cJo i) (fun n found => found = ((pairs i.1).take n).flatMap (joinPair i.2.1 i.2.2)) [] (.refl _) rfl (fun n d found hd hfo => ?_) (fun found hfo => ?_)
  · rw [List.getElem?_map] at hd
    obtain ⟨p, hp, rfl⟩ := Option.map_eq_some_iff.mp hd
    subst hfo
    have hl1 := fm_len (joinPair i.2.1 i.2.2) 42 ((pairs i.1).take n) fun x _ => hlj x
    have hl2 : ((pairs i.1).take n).length ≤ 25 := by rw [List.length_take]; omega
    refine ⟨[4, 5], _, gt_tup rfl (gts_cons (gt_name 4 hN) (gts_cons (gt_name 5 hN) gts_nil)), ?_⟩
    refine sw_for (S := List Sw) (ds := rgD 0 i.2.1) ((di_range1 (dv 1 rfl) (by omega) (by omega) B.range_).is (by rw [Int.toNat_natCast])) (cJoI i p) (fun k found => found = ((pairs i.1).take n).flatMap (joinPair i.2.1 i.2.2) ++ (List.range k).flatMap fun t : Nat => joinAt i.2.1 i.2.2 p (0 + (t : Int)))
      (((pairs i.1).take n).flatMap (joinPair i.2.1 i.2.2)) (.refl _) (List.append_nil _).symm (fun k d found hd2 hfo => ?_) (fun found hfo => ?_)
    · have ed := rgD_get hd2
      have hk : k < i.2.1 := by have := (List.getElem?_eq_some_iff.mp hd2).1; rw [rgD_len] at this; exact this
      subst ed
      subst hfo
      have hl3 := range_fm_len (fun t : Nat => joinAt i.2.1 i.2.2 p (0 + (t : Int))) 7 k fun j _ => by have := joinAt_len i.2.1 i.2.2 p (0 + (j : Int)); omega
      have hl4 := joinAt_len i.2.1 i.2.2 p (0 + (k : Int))
      have hl5 := far_len i.2.1 i.2.2 (0 + (k : Int))
      have hcan : PyData.canLay0 (.str i.2.2.str) = true := by cases i.2.2 <;> decide +kernel
      refine ⟨[6], _, gt_name 6 hN, ?_⟩
      refine sw_cons (s_asg 7 hN (d_if (t := .p (.list ((far1 i.2.1 i.2.2 (0 + (k : Int))).map .int))) (dt_cmp (o_eqS hu hcan (by decide +kernel)) (dv 2 rfl).lend d_str.lend)
        (fun h => (d_listRg rfl (by omega) (dv 1 rfl) B.list_ B.range_).is (by unfold far1; rw [if_pos (of_decide_eq_true h), rgD_eq, List.map_map]; rfl))
        (fun h => (d_ls (dp_cons (dv 6 rfl) dp_nil)).is (by unfold far1; rw [if_neg (of_decide_eq_false h)]; rfl))) ?_)
      refine sw_cons (s_asg 7 hN (d_if (t := .p (.list ((far i.2.1 i.2.2 (0 + (k : Int))).map .int))) (dt_cmp (o_eqS hu hcan (by decide +kernel)) (dv 2 rfl).lend d_str.lend)
        (fun h => (d_ls (dp_cons (d_cl G2 hr (0 + (k : Int), (i.2.1 : Int)) (da_cons (dv 6 rfl) (da_cons (dv 1 rfl) da_nil)) True.intro) dp_nil)).is (by rw [far_eq, if_pos (of_decide_eq_true h)]; rfl))
        (fun h => (dv 7 rfl).is (by rw [far_eq, if_neg (of_decide_eq_false h)]))) ?_)
      refine sw_one (s_asg 3 hN (d_bin (o_catL ?_) (dv 3 rfl).lend (d_lcA (xs := far i.2.1 i.2.2 (0 + (k : Int))) (f := fun e => pSw ((p.1, 0 + (k : Int)), (p.2, e))) (onm := [("_law_end", 8)]) (enc := .int) hN (blk_of (N := N__law_joined) (sc := defScope sd__law_joined) (by decide +kernel))
        (di_list (dv 7 rfl)) rfl (fun _ _ _ _ _ _ _ => ⟨[8], by decide, gt_name 8 hN⟩) (fun _ _ _ _ _ x _ => d_tp (dp_cons (d_tp (dp_cons (dv 4 rfl) (dp_cons (dv 6 rfl) dp_nil))) (dp_cons (d_tp (dp_cons (dv 5 rfl) (dp_cons (dv 8 rfl) dp_nil))) dp_nil))) (by omega)).lend) ?_)
      · rw [List.length_map, List.length_map, List.length_append]; omega
      · refine ⟨_, ?_, rfl⟩
        refine Wk.of [6, 7] ?_
        unfold cJoI
        rw [range_fm, ← List.append_assoc, List.map_append (l₂ := joinAt _ _ _ _)]
        unfold joinAt
        rw [List.map_map]
        rfl
    · rw [rgD_len] at hfo
      subst hfo
      refine sw_nil ⟨_, Wk.of [4, 5] ?_, rfl⟩
      rw [take_snoc hp, fm_snoc]
      rfl
  · rw [List.length_map, List.take_length] at hfo
    subst hfo
    exact sw_one (s_ret (d_sortT (xs := joinRaw i.1 i.2.1 i.2.2) al_sw tup_sw lay_sw (by omega) hu (dv 3 rfl).lend B.sorted_) rfl)
end
end Ac
-- part C14
set_option Elab.async false
set_option maxRecDepth 100000
set_option maxHeartbeats 4000000
set_option linter.all false
namespace Ac
open PySem PySem.Spec PyProof.Rows L2
theorem below_nil (a b : List Int) : decide ((((a.zip b).filter fun p => decide (p.2 < p.1)).map fun _ => (1 : Int)) = []) = below a b := by
  unfold below
  rw [Bool.eq_iff_iff, decide_eq_true_iff, List.map_eq_nil_iff, List.filter_eq_nil_iff, List.all_eq_true]
  refine ⟨fun h x hx => ?_, fun h x hx => ?_⟩
  · have := h x hx
    simp only [decide_eq_true_eq] at this ⊢
    omega
  · have := h x hx
    simp only [decide_eq_true_eq] at this ⊢
    omega
theorem isOf_ne (l : List Int) (fr : List (List Int)) : (!decide (((fr.filter fun o => below l o).map fun _ => (1 : Int)) = [])) = isOf l fr := by
  unfold isOf
  rw [Bool.eq_iff_iff, Bool.not_eq_true', decide_eq_false_iff_not, List.map_eq_nil_iff, List.filter_eq_nil_iff, List.any_eq_true]
  refine ⟨fun h => ?_, fun ⟨x, h1, h2⟩ h => h x h1 h2⟩
  refine Decidable.byContradiction fun q => h fun x hx hb => q ⟨x, hx, hb⟩
theorem isTop_eq (ys : List (List Int)) (l : List Int) : decide (((ys.filter fun o => !decide (o = l) && below l o).map fun _ => (1 : Int)) = []) = isTop ys l := by
  unfold isTop
  rw [Bool.eq_iff_iff, decide_eq_true_iff, List.map_eq_nil_iff, beq_iff_eq]
def underC (l : List Int) : Int := l.foldl (fun a x => a * (x + 1)) 1
def lInts (xs : List Int) : PyData := .list (xs.map .int)
theorem eqv_lInts (a b : List Int) : PyData.eqv (lInts a) (lInts b) = decide (a = b) := eqv_listOf eqv_int a b
theorem lay_lInts (a : List Int) : Lay 1 (lInts a) := lay_lst (lay_map lay_int a)
section
variable {P : Program} {w : World} {K : PySem.W.Frag} {mg : Str → Option Value} {base : Heap}
abbrev sd__law_pins : Stmt := top 84
abbrev N__law_pins : List Str := ["_law_told", "_law_found", "_law_switch"]
theorem sc__law_pins : FnScope N__law_pins ["_law_told"] (defScope sd__law_pins) := ⟨rfl, rfl, rfl, by decide +kernel, rfl, by decide +kernel, by decide +kernel⟩
abbrev F_law_pins (P : Program) (w : World) (K : PySem.W.Frag) (mg : Str → Option Value) (base : Heap) : Prop := Fn P w K mg base "_law_pins" 1 (fun i : Way => [.p (pWay i)]) (fun i => i.length ≤ 1000) (fun i => .p (.list ((pinsOf i).map pPin)))
def cLpins (i : Way) (found : List Pin) : List Sl := [.t (.p (pWay i)), .t (.p (.list (found.map pPin))), .no]
theorem pinsOf_snoc (xs : Way) (x : Sw) : pinsOf (xs ++ [x]) = pinsOf xs ++ [x.1, x.2] := fm_snoc _ _ _
theorem ok__law_pins (TF : TopF K mg "_law_pins" sd__law_pins) : F_law_pins P w K mg base := by
  refine fn_body TF sc__law_pins (fun _ => rfl) (fun _ _ _ _ _ _ us hl => match us, hl with | [_], _ => rfl) fun f cdv A outer s H E i hr hok => ?_
  have hu := hr.units
  have hu5 := hr.u65
  have hN := sc__law_pins.nd
  refine sw_cons (s_asg 1 hN (d_ls dp_nil) ?_)
  refine sw_for (S := List Pin) (ds := i.map pSw) (di_tup (dv 0 rfl)) (cLpins i) (fun n found => found = pinsOf (i.take n)) [] (.refl _) rfl (fun n d found hd hfo => ?_) (fun found hfo => ?_)
  · rw [List.getElem?_map] at hd
    obtain ⟨p, hp, rfl⟩ := Option.map_eq_some_iff.mp hd
    subst hfo
    have hl := pinsOf_len (i.take n)
    have hl2 : (i.take n).length ≤ i.length := by rw [List.length_take]; omega
    refine ⟨[2], _, gt_name 2 hN, ?_⟩
    refine sw_one (s_asg 1 hN (d_bin (o_catL ?_) (dv 1 rfl).lend (d_ls (dp_cons (d_ixT (d := pPin p.1) (dv 2 rfl) d_int rfl) (dp_cons (d_ixT (d := pPin p.2) (dv 2 rfl) d_int rfl) dp_nil))).lend) ?_)
    · rw [List.length_map]; show _ + 2 ≤ _; omega
    · refine ⟨_, ?_, rfl⟩
      refine Wk.of [2] ?_
      unfold cLpins
      rw [take_snoc hp, pinsOf_snoc, List.map_append]
      rfl
  · rw [List.length_map, List.take_length] at hfo
    subst hfo
    exact sw_one (s_ret (dv 1 rfl) rfl)
abbrev sd__law_load : Stmt := top 85
abbrev N__law_load : List Str := ["_law_scope_here", "_law_told", "_law_ends_here", "_law_switch", "_law_pair"]
theorem sc__law_load : FnScope N__law_load ["_law_scope_here", "_law_told"] (defScope sd__law_load) := ⟨rfl, rfl, rfl, by decide +kernel, rfl, by decide +kernel, by decide +kernel⟩
abbrev F_law_load (P : Program) (w : World) (K : PySem.W.Frag) (mg : Str → Option Value) (base : Heap) : Prop := Fn P w K mg base "_law_load" 2 (fun i : Int × Int × PyData × Way => [.scope i.1 i.2.1 i.2.2.1, .p (pWay i.2.2.2)]) (fun i => 0 ≤ i.1 ∧ i.1 ≤ 5 ∧ i.2.2.2.length ≤ 1000) (fun i => .p (tupI (loadOf i.1 i.2.2.2)))
theorem ok__law_load (TF : TopF K mg "_law_load" sd__law_load) (B : Bi mg) (G1 : F_law_pairs P w K mg base) : F_law_load P w K mg base := by
  refine fn_body TF sc__law_load (fun _ => rfl) (fun _ _ _ _ _ _ us hl => match us, hl with | [_, _], _ => rfl) fun f cdv A outer s H E i hr hok => ?_
  have hu := hr.units
  have hu5 := hr.u65
  have hN := sc__law_load.nd
  obtain ⟨h0, h5, hl⟩ := hok
  have hz := pairs_le i.1 h5
  refine sw_cons (s_asg 2 hN ((d_lcA (xs := i.2.2.2) (f := fun w => pPin (ends w)) (onm := [("_law_switch", 3)]) (enc := pSw) hN (blk_of (N := N__law_load) (sc := defScope sd__law_load) (by decide +kernel)) (di_tup (dv 1 rfl)) rfl (fun _ _ _ _ _ _ _ => ⟨[3], by decide, gt_name 3 hN⟩) (fun _ _ _ _ _ x _ => d_tp (dp_cons (d_ixT (d_ixT (dv 3 rfl) d_int rfl) d_int rfl) (dp_cons (d_ixT (d_ixT (dv 3 rfl) d_int rfl) d_int rfl) dp_nil))) (by omega)).is (u := .p (.list ((i.2.2.2.map ends).map pPin))) (by rw [List.map_map]; rfl)) ?_)
  refine sw_one (s_ret (d_tuple ((d_lcA (xs := pairs i.1) (f := fun p => .int (cnt (i.2.2.2.map ends) p)) (onm := [("_law_pair", 4)]) (enc := pPin) hN (blk_of (N := N__law_load) (sc := defScope sd__law_load) (by decide +kernel)) (di_list (d_cl G1 hr i.1 (da_cons (d_scS hu (dv 0 rfl)) da_nil) ⟨h0, h5⟩)) rfl (fun _ _ _ _ _ _ _ => ⟨[4], by decide, gt_name 4 hN⟩)
    (fun _ _ _ _ _ x _ => d_cnt eqv_pin lay_pin (by omega) al_pin hu (dv 2 rfl) (dv 4 rfl)) (by omega)).is (u := .p (.list ((loadOf i.1 i.2.2.2).map .int))) (by unfold loadOf; rw [List.map_map]; rfl)).lend B.tuple_) rfl)
abbrev sd__law_under : Stmt := top 86
abbrev N__law_under : List Str := ["_law_load_here", "_law_other", "_law_item", "_law_more"]
theorem sc__law_under : FnScope N__law_under ["_law_load_here", "_law_other"] (defScope sd__law_under) := ⟨rfl, rfl, rfl, by decide +kernel, rfl, by decide +kernel, by decide +kernel⟩
abbrev F_law_under (P : Program) (w : World) (K : PySem.W.Frag) (mg : Str → Option Value) (base : Heap) : Prop := Fn P w K mg base "_law_under" 1 (fun i : List Int × List Int => [.p (tupI i.1), .p (tupI i.2)]) (fun i => i.1.length ≤ 100) (fun i => .p (.bool (below i.1 i.2)))
theorem ok__law_under (TF : TopF K mg "_law_under" sd__law_under) (B : Bi mg) : F_law_under P w K mg base := by
  refine fn_body TF sc__law_under (fun _ => rfl) (fun _ _ _ _ _ _ us hl => match us, hl with | [_, _], _ => rfl) fun f cdv A outer s H E i hr hok => ?_
  have hu := hr.units
  have hu5 := hr.u65
  have hN := sc__law_under.nd
  refine sw_one (s_ret ((d_cmp (o_eqD (f := lInts) (x := ((i.1.zip i.2).filter fun p => decide (p.2 < p.1)).map fun _ => (1 : Int)) (y := []) eqv_lInts lay_lInts (by omega) hu)
    ((d_lcF (xs := i.1.zip i.2) (f := fun _ => .int 1) (k := fun p => decide (p.2 < p.1)) (onm := [("_law_item", 2), ("_law_more", 3)]) (enc := fun p : Int × Int => .tuple [.int p.1, .int p.2]) hN (blk_of (N := N__law_under) (sc := defScope sd__law_under) (by decide +kernel)) (di_zipT (f := .int) (g := .int) false false (dv 0 rfl) (dv 1 rfl) B.zip_) rfl
    (fun _ _ _ _ _ _ _ => ⟨[2, 3], by decide, gt_tup rfl (gts_cons (gt_name 2 hN) (gts_cons (gt_name 3 hN) gts_nil))⟩) (fun _ _ _ _ _ x _ => dt_cmp o_gt (dv 2 rfl).lend (dv 3 rfl).lend) (fun _ _ _ _ _ x _ _ => d_int) (by rw [List.length_zip]; omega)).is (by unfold lInts; rw [List.map_map]; rfl)).lend (d_ls dp_nil).lend).is (by rw [below_nil])) rfl)
abbrev sd__law_tops : Stmt := top 87
abbrev N__law_tops : List Str := ["_law_loads_here", "_law_some", "_law_found", "_law_load_here", "_law_other"]
theorem sc__law_tops : FnScope N__law_tops ["_law_loads_here"] (defScope sd__law_tops) := ⟨rfl, rfl, rfl, by decide +kernel, rfl, by decide +kernel, by decide +kernel⟩
abbrev F_law_tops (P : Program) (w : World) (K : PySem.W.Frag) (mg : Str → Option Value) (base : Heap) : Prop := Fn P w K mg base "_law_tops" 2 (fun i : Nat × List (List Int) × List (List Int) => [.p (.list (i.2.1.map tupI))])
  (fun i => 1 ≤ i.1 ∧ i.1 ≤ 100 ∧ LoadsOk i.1 i.2.2 ∧ AscT tupI i.2.2 ∧ i.2.2.length ≤ 62 ∧ ∀ q, q ∈ i.2.2 ↔ q ∈ i.2.1) (fun i => .p (.list ((topsOf i.2.2).map tupI)))
def cLtops (kss ys found : List (List Int)) : List Sl := [.t (.p (.list (kss.map tupI))), .t (.p (.list (ys.map tupI))), .ol (found.map tupI), .no, .no]
theorem ok__law_tops (TF : TopF K mg "_law_tops" sd__law_tops) (B : Bi mg) (G1 : F_law_under P w K mg base) : F_law_tops P w K mg base := by
  refine fn_body TF sc__law_tops (fun _ => rfl) (fun _ _ _ _ _ _ us hl => match us, hl with | [_], _ => rfl) fun f cdv A outer s H E i hr hok => ?_
  have hu := hr.units
  have hu5 := hr.u65
  have hN := sc__law_tops.nd
  obtain ⟨h1, h100', ok, asc, few, hm⟩ := hok
  obtain ⟨n, kss, ys⟩ := i
  have few' : ys.length ≤ 62 := few
  refine sw_cons (s_asg 1 hN (d_sortSetT (k := true) (kss := kss) hu (dv 0 rfl) h1 ok asc few hm B.set_ B.sorted_) ?_)
  refine sw_cons (s_new 2 hN (df_lst dp_nil (Nat.zero_le _)) ?_)
  refine sw_for (S := List (List Int)) (ds := ys.map tupI) (di_list (dv 1 rfl)) (cLtops kss ys) (fun n found => found = (ys.take n).filter (isTop ys)) [] (.refl _) rfl (fun j d found hd hfo => ?_) (fun found hfo => ?_)
  · rw [List.getElem?_map] at hd
    obtain ⟨l, hl, rfl⟩ := Option.map_eq_some_iff.mp hd
    subst hfo
    have hlm := List.mem_of_getElem? hl
    have hll := (ok l hlm).1
    have hll' : l.length = n := hll
    have h100 : n ≤ 100 := h100'
    have hfl := List.length_filter_le (isTop ys) (ys.take j)
    rw [List.length_take] at hfl
    have nx : (ys.take (j + 1)).filter (isTop ys) = (ys.take j).filter (isTop ys) ++ (if isTop ys l = true then [l] else []) := by
      rw [take_snoc hl, List.filter_append]
      cases ht : isTop ys l with
      | true => rw [if_pos rfl, List.filter_cons_of_pos ht, List.filter_nil]
      | false => rw [if_neg (by decide), List.filter_cons_of_neg (by rw [ht]; decide), List.filter_nil]
    refine ⟨[3], _, gt_name 3 hN, ?_⟩
    refine sw_one (s_if (k := isTop ys l) ((dt_cmp (o_eqD (f := lInts) (x := (ys.filter fun o => !decide (o = l) && below l o).map fun _ => (1 : Int)) (y := []) eqv_lInts lay_lInts (by omega) hu)
      ((d_lcF (xs := ys) (f := fun _ => .int 1) (k := fun o => !decide (o = l) && below l o) (onm := [("_law_other", 4)]) (enc := tupI) hN (blk_of (N := N__law_tops) (sc := defScope sd__law_tops) (by decide +kernel)) (di_list (dv 1 rfl)) rfl (fun _ _ _ _ _ _ _ => ⟨[4], by decide, gt_name 4 hN⟩)
        (fun _ _ _ _ _ x _ => (dw_and (dt_cmp (o_neD eqv_tupI lay_tupI (by omega) hu) (dv 4 rfl).lend (dv 3 rfl).lend) fun _ => dw_and1 (dt_val (d_cl G1 hr (l, x) (da_cons (dv 3 rfl) (da_cons (dv 4 rfl) da_nil)) (by show l.length ≤ 100; omega)))).test)
        (fun _ _ _ _ _ x _ _ => d_int) (by omega)).is (by unfold lInts; rw [List.map_map]; rfl)).lend (d_ls dp_nil).lend).is (isTop_eq ys l)) (fun ht => ?_) (fun ht => ?_))
    · refine sw_one (s_app 2 rfl (dv 3 rfl) (by rw [List.length_map]; omega) ⟨_, ?_, rfl⟩)
      refine Wk.of [3] ?_
      unfold cLtops
      rw [nx, if_pos ht, List.map_append]
      rfl
    · refine sw_nil ⟨_, ?_, rfl⟩
      refine Wk.of [3] ?_
      unfold cLtops
      rw [nx, if_neg (by rw [ht]; decide), List.append_nil]
      rfl
  · rw [List.length_map, List.take_length] at hfo
    subst hfo
    exact sw_weak (.ol 2 (.refl _) rfl) (sw_one (s_ret (dv 2 rfl) rfl))
end
end Ac
-- part C15
set_option Elab.async false
set_option maxRecDepth 100000
set_option maxHeartbeats 4000000
set_option linter.all false
namespace Ac
open PySem PySem.Spec PyProof.Rows L2
theorem filter_map_snoc (found : List Way) (s : Sw) {j : Nat} {w : Way} (h : found[j]? = some w) : ((found.take (j + 1)).filter fun w => free_ w s).map (· ++ [s]) = ((found.take j).filter fun w => free_ w s).map (· ++ [s]) ++ (if free_ w s = true then [w ++ [s]] else []) := by
  rw [take_snoc h, List.filter_append, List.map_append]
  cases ht : free_ w s with
  | true => rw [if_pos rfl, List.filter_cons_of_pos (p := fun w => free_ w s) ht, List.filter_nil]; rfl
  | false => rw [if_neg (by decide), List.filter_cons_of_neg (p := fun w => free_ w s) (by rw [ht]; decide), List.filter_nil]; rfl
theorem pow8 {n : Nat} (h : n ≤ 8) : 2 ^ n ≤ 256 := Nat.pow_le_pow_right (by omega) h
def standsL (s : Int) (sw : List Sw) (fr : List (List Int)) (ws : List Way) : List Way := ws.filter fun w => isOf (loadOf s w) fr
section
variable {P : Program} {w : World} {K : PySem.W.Frag} {mg : Str → Option Value} {base : Heap}
abbrev sd__law_all_ways : Stmt := top 88
abbrev N__law_all_ways : List Str := ["_law_joined_here", "_law_found", "_law_switch", "_law_more", "_law_told", "_law_pins_here"]
theorem sc__law_all_ways : FnScope N__law_all_ways ["_law_joined_here"] (defScope sd__law_all_ways) := ⟨rfl, rfl, rfl, by decide +kernel, rfl, by decide +kernel, by decide +kernel⟩
abbrev F_law_all_ways (P : Program) (w : World) (K : PySem.W.Frag) (mg : Str → Option Value) (base : Heap) : Prop := Fn P w K mg base "_law_all_ways" 2 (fun i : List Sw => [.p (.tuple (i.map pSw))]) (fun i => i.length ≤ 8) (fun i => .p (.list ((allWays i).map pWay)))
def cAw (sw : List Sw) (found : List Way) : List Sl := [.t (.p (.tuple (sw.map pSw))), .t (.p (.list (found.map pWay))), .no, .no, .no, .no]
def cAwI (sw : List Sw) (found : List Way) (s : Sw) (more : List Way) : List Sl := [.t (.p (.tuple (sw.map pSw))), .t (.p (.list (found.map pWay))), .t (.p (pSw s)), .ol (more.map pWay), .no, .no]
theorem ok__law_all_ways (TF : TopF K mg "_law_all_ways" sd__law_all_ways) (B : Bi mg) (G1 : F_law_pins P w K mg base) : F_law_all_ways P w K mg base := by
  refine fn_body TF sc__law_all_ways (fun _ => rfl) (fun _ _ _ _ _ _ us hl => match us, hl with | [_], _ => rfl) fun f cdv A outer s H E i hr hok => ?_
  have hu := hr.units
  have hu5 := hr.u65
  have hN := sc__law_all_ways.nd
  have hz : ∀ n, (waysRaw (i.take n)).length ≤ 256 ∧ ∀ w ∈ waysRaw (i.take n), w.length ≤ 8 := fun n => by
    obtain ⟨h1, h2⟩ := waysRaw_len (i.take n)
    have : (i.take n).length ≤ 8 := by rw [List.length_take]; omega
    exact ⟨Nat.le_trans h1 (pow8 this), fun w hw => Nat.le_trans (h2 w hw) this⟩
  refine sw_cons (s_asg 1 hN (d_ls (dp_cons (d_tp dp_nil) dp_nil)) ?_)
  refine sw_for (S := List Way) (ds := i.map pSw) (di_tup (dv 0 rfl)) (cAw i) (fun n found => found = waysRaw (i.take n)) [[]] (.refl _) rfl (fun n d found hd hfo => ?_) (fun found hfo => ?_)
  · rw [List.getElem?_map] at hd
    obtain ⟨s, hs, rfl⟩ := Option.map_eq_some_iff.mp hd
    obtain ⟨hz1, hz2⟩ := hz n
    rw [← hfo] at hz1 hz2
    refine ⟨[2], _, gt_name 2 hN, ?_⟩
    refine sw_cons (s_new 3 hN (df_lst dp_nil (Nat.zero_le _)) ?_)
    refine sw_for (S := List Way) (ds := found.map pWay) (di_list (dv 1 rfl)) (cAwI i found s) (fun j more => more = ((found.take j).filter fun w => free_ w s).map (· ++ [s])) [] (.refl _) rfl (fun j d more hd2 hmo => ?_) (fun more hmo => ?_)
    · rw [List.getElem?_map] at hd2
      obtain ⟨w, hw, rfl⟩ := Option.map_eq_some_iff.mp hd2
      subst hmo
      have hwl := hz2 w (List.mem_of_getElem? hw)
      have hln : (((found.take j).filter fun w => free_ w s).map (· ++ [s])).length ≤ 256 := by
        rw [List.length_map]
        refine Nat.le_trans (List.length_filter_le _ _) ?_
        rw [List.length_take]
        omega
      have nx := filter_map_snoc found s hw
      refine ⟨[4], _, gt_name 4 hN, ?_⟩
      refine sw_cons (s_asg 5 hN (d_cl G1 hr w (da_cons (dv 4 rfl) da_nil) (by omega)) ?_)
      refine sw_one (s_if (k := free_ w s) ((dw_and (dt_cmp (o_ninD eqv_pin lay_pin (by omega) hu5) (d_ixT (d := pPin s.1) (dv 2 rfl) d_int rfl).lend (dv 5 rfl).lend) fun _ => dw_and1 (dt_cmp (o_ninD eqv_pin lay_pin (by omega) hu5) (d_ixT (d := pPin s.2) (dv 2 rfl) d_int rfl).lend (dv 5 rfl).lend)).test.is rfl) (fun ht => ?_) (fun ht => ?_))
      · refine sw_one (s_app 3 rfl ((d_bin (o_catT (xs := w.map pSw) (zs := [pSw s]) (by rw [List.length_map]; show w.length + 1 ≤ _; omega)) (dv 4 rfl).lend (d_tp (dp_cons (dv 2 rfl) dp_nil)).lend).is (u := .p (pWay (w ++ [s]))) (by unfold pWay; rw [List.map_append]; rfl)) (by rw [List.length_map]; omega) ⟨_, ?_, rfl⟩)
        refine Wk.of [4, 5] ?_
        unfold cAwI
        rw [nx, if_pos ht, List.map_append (l₂ := [w ++ [s]])]
        rfl
      · refine sw_nil ⟨_, ?_, rfl⟩
        refine Wk.of [4, 5] ?_
        unfold cAwI
        rw [nx, if_neg (by rw [ht]; decide), List.append_nil]
        rfl
    · rw [List.length_map, List.take_length] at hmo
      subst hmo
      have hln := List.length_filter_le (fun w => free_ w s) found
      refine sw_one (s_asg 1 hN (d_bin (o_catL ?_) (dv 1 rfl).lend (dvo 3 rfl)) ⟨_, ?_, rfl⟩)
      · rw [List.length_map, List.length_map, List.length_map]; omega
      · refine Wk.of [2, 3] ?_
        unfold cAw
        rw [take_snoc hs, waysRaw_snoc, ← hfo]
        unfold grow
        rw [List.map_append]
        rfl
  · rw [List.length_map, List.take_length] at hfo
    subst hfo
    exact sw_one (s_ret (d_sortT (xs := waysRaw i) al_way tup_way lay_way (by omega) hu (dv 1 rfl).lend B.sorted_) rfl)
abbrev sd__law_is_of : Stmt := top 89
abbrev N__law_is_of : List Str := ["_law_load_here", "_law_tops_here", "_law_top"]
theorem sc__law_is_of : FnScope N__law_is_of ["_law_load_here", "_law_tops_here"] (defScope sd__law_is_of) := ⟨rfl, rfl, rfl, by decide +kernel, rfl, by decide +kernel, by decide +kernel⟩
abbrev F_law_is_of (P : Program) (w : World) (K : PySem.W.Frag) (mg : Str → Option Value) (base : Heap) : Prop := Fn P w K mg base "_law_is_of" 2 (fun i : List Int × List (List Int) => [.p (tupI i.1), .p (.tuple (i.2.map tupI))]) (fun i => i.1.length ≤ 100 ∧ i.2.length ≤ 1000) (fun i => .p (.bool (isOf i.1 i.2)))
theorem ok__law_is_of (TF : TopF K mg "_law_is_of" sd__law_is_of) (B : Bi mg) (G1 : F_law_under P w K mg base) : F_law_is_of P w K mg base := by
  refine fn_body TF sc__law_is_of (fun _ => rfl) (fun _ _ _ _ _ _ us hl => match us, hl with | [_, _], _ => rfl) fun f cdv A outer s H E i hr hok => ?_
  have hu := hr.units
  have hu5 := hr.u65
  have hN := sc__law_is_of.nd
  obtain ⟨h1, h2⟩ := hok
  exact sw_one (s_ret ((d_cmp (o_neD (f := lInts) (x := (i.2.filter fun o => below i.1 o).map fun _ => (1 : Int)) (y := []) eqv_lInts lay_lInts (by omega) hu)
    ((d_lcF (xs := i.2) (f := fun _ => .int 1) (k := fun o => below i.1 o) (onm := [("_law_top", 2)]) (enc := tupI) hN (blk_of (N := N__law_is_of) (sc := defScope sd__law_is_of) (by decide +kernel)) (di_tup (dv 1 rfl)) rfl (fun _ _ _ _ _ _ _ => ⟨[2], by decide, gt_name 2 hN⟩)
      (fun _ _ _ _ _ x _ => dt_val (d_cl G1 hr (i.1, x) (da_cons (dv 0 rfl) (da_cons (dv 2 rfl) da_nil)) h1)) (fun _ _ _ _ _ x _ _ => d_int) (by omega)).is (by unfold lInts; rw [List.map_map]; rfl)).lend (d_ls dp_nil).lend).is (by rw [isOf_ne])) rfl)
abbrev sd__law_stands : Stmt := top 90
abbrev N__law_stands : List Str := ["_law_scope_here", "_law_tops_here", "_law_told"]
theorem sc__law_stands : FnScope N__law_stands ["_law_scope_here", "_law_tops_here"] (defScope sd__law_stands) := ⟨rfl, rfl, rfl, by decide +kernel, rfl, by decide +kernel, by decide +kernel⟩
abbrev F_law_stands (P : Program) (w : World) (K : PySem.W.Frag) (mg : Str → Option Value) (base : Heap) : Prop := Fn P w K mg base "_law_stands" 3 (fun i : Int × Int × List Sw × List (List Int) => [.scope i.1 i.2.1 (.tuple (i.2.2.1.map pSw)), .p (.tuple (i.2.2.2.map tupI))])
  (fun i => 0 ≤ i.1 ∧ i.1 ≤ 5 ∧ i.2.2.1.length ≤ 8 ∧ i.2.2.2.length ≤ 1000) (fun i => .p (.list ((standsL i.1 i.2.2.1 i.2.2.2 (allWays i.2.2.1)).map pWay)))
theorem allWays_len {sw : List Sw} (h : sw.length ≤ 8) : (allWays sw).length ≤ 256 ∧ ∀ w ∈ allWays sw, w.length ≤ 8 := by
  obtain ⟨h1, h2⟩ := waysRaw_len sw
  have p := srtT_perm pWay (waysRaw sw)
  unfold allWays
  rw [p.length_eq]
  exact ⟨Nat.le_trans h1 (pow8 h), fun w hw => Nat.le_trans (h2 w (p.mem_iff.mp hw)) h⟩
theorem ok__law_stands (TF : TopF K mg "_law_stands" sd__law_stands) (B : Bi mg) (G1 : F_law_all_ways P w K mg base) (G2 : F_law_is_of P w K mg base) (G3 : F_law_load P w K mg base) : F_law_stands P w K mg base := by
  refine fn_body TF sc__law_stands (fun _ => rfl) (fun _ _ _ _ _ _ us hl => match us, hl with | [_, _], _ => rfl) fun f cdv A outer s H E i hr hok => ?_
  have hu := hr.units
  have hu5 := hr.u65
  have hN := sc__law_stands.nd
  obtain ⟨h0, h5, h8, hf⟩ := hok
  obtain ⟨a1, a2⟩ := allWays_len h8
  have hz := pairs_le i.1 h5
  exact sw_one (s_ret (d_lcF (xs := allWays i.2.2.1) (f := pWay) (k := fun w => isOf (loadOf i.1 w) i.2.2.2) (onm := [("_law_told", 2)]) (enc := pWay) hN (blk_of (N := N__law_stands) (sc := defScope sd__law_stands) (by decide +kernel)) (di_list (d_cl G1 hr i.2.2.1 (da_cons (d_scJ hu (dv 0 rfl)) da_nil) h8)) rfl (fun _ _ _ _ _ _ _ => ⟨[2], by decide, gt_name 2 hN⟩)
    (fun _ _ _ _ _ x hx => dt_val (d_cl G2 hr (loadOf i.1 x, i.2.2.2) (da_cons (d_cl G3 hr (i.1, i.2.1, .tuple (i.2.2.1.map pSw), x) (da_cons (dv 0 rfl) (da_cons (dv 2 rfl) da_nil)) ⟨h0, h5, by have := a2 x hx; show x.length ≤ 1000; omega⟩) (da_cons (dv 1 rfl) da_nil)) ⟨by show (loadOf i.1 x).length ≤ 100; rw [loadOf_len]; omega, hf⟩))
    (fun _ _ _ _ _ x _ _ => dv 2 rfl) (by omega)) rfl)
abbrev sd__law_under_count : Stmt := top 93
abbrev N__law_under_count : List Str := ["_law_top", "_law_found", "_law_item"]
theorem sc__law_under_count : FnScope N__law_under_count ["_law_top"] (defScope sd__law_under_count) := ⟨rfl, rfl, rfl, by decide +kernel, rfl, by decide +kernel, by decide +kernel⟩
abbrev F_law_under_count (P : Program) (w : World) (K : PySem.W.Frag) (mg : Str → Option Value) (base : Heap) : Prop := Fn P w K mg base "_law_under_count" 1 (fun i : List Int => [.p (tupI i)]) (fun i => ∀ n ∈ i, 0 ≤ n ∧ n ≤ 1000) (fun i => .p (.int (underC i)))
def cUc (l : List Int) (a : Int) : List Sl := [.t (.p (tupI l)), .t (.p (.int a)), .no]
theorem ok__law_under_count (TF : TopF K mg "_law_under_count" sd__law_under_count) : F_law_under_count P w K mg base := by
  refine fn_body TF sc__law_under_count (fun _ => rfl) (fun _ _ _ _ _ _ us hl => match us, hl with | [_], _ => rfl) fun f cdv A outer s H E i hr hok => ?_
  have hu := hr.units
  have hu5 := hr.u65
  have hN := sc__law_under_count.nd
  refine sw_cons (s_asg 1 hN d_int ?_)
  refine sw_for (S := Int) (ds := i.map .int) (di_tup (dv 0 rfl)) (cUc i) (fun n a => a = underC (i.take n)) 1 (.refl _) rfl (fun n d a hd ha => ?_) (fun a ha => ?_)
  · rw [List.getElem?_map] at hd
    obtain ⟨x, hx, rfl⟩ := Option.map_eq_some_iff.mp hd
    have hb := hok x (List.mem_of_getElem? hx)
    refine ⟨[2], _, gt_name 2 hN, ?_⟩
    refine sw_one (s_asg 1 hN (d_bin (o_mul (.inr ⟨by omega, by omega⟩)) (dv 1 rfl).lend (d_bin o_add (dv 2 rfl).lend d_int.lend).lend) ⟨_, Wk.of [2] rfl, ?_⟩)
    rw [take_snoc hx]
    unfold underC
    rw [List.foldl_append, ha]
    rfl
  · rw [List.length_map, List.take_length] at ha
    subst ha
    exact sw_one (s_ret (dv 1 rfl) rfl)
end
end Ac
-- part E2
set_option Elab.async false
set_option maxRecDepth 100000
set_option maxHeartbeats 4000000
set_option linter.all false
/-! Ac: a Box is made. -/
namespace Ac
open PySem PySem.Spec PyProof.Rows L2
def clsBody (s : Stmt) : List Stmt := match s with
  | .ClassDef _ _ _ b _ _ _ _ _ _ _ => b
  | _ => []
def gAttr (K : PySem.W.Frag) (t : TE) (f : Str) : TG := fun v st H Q => t st H fun x H1 => ∃ a C dx fs, x = .ref a ∧ H1 a = some (.ins C dx fs) ∧ Cls K C ∧ NoAttr K C f ∧ fs.length < 1000 ∧ Q st (upd H1 a (.ins C dx (putF f v fs)))
theorem pg_attr {X : Cx} {o : Expr} {f : Str} {pos : Pos} {t : TE} (ho : PE X o t) : PG X (.Attribute o f pos) (gAttr X.K t f) := by
  refine ⟨fun pins s st H v u Q I r h => ?_⟩
  rw [PySem.assign_Attribute]
  refine wpAny_bind (wpAny_holding (thn (ho.run pins s st H _ I h) fun ov s1 ⟨x, H1, I1, r1, a, C, dx, fs, e1, e2, c, n, l, q⟩ => ?_))
  subst e1
  obtain rfl : ov = Value.ref a := r1
  refine wpAny_bind (wpAny_standAt (wpAny_bind (wpAny_holding (setattr_ok I1 e2 c n l r fun s2 I2 => ?_))))
  exact wpAny_release ⟨st, _, I2, q⟩
theorem putBox (s t : Int) (u : V) : putF "switches" u (putF "tracks" (.int t) (putF "sides" (.int s) [])) = boxF s t u := by
  have h1 : ¬ ("sides" : Str) = "tracks" := by decide +kernel
  have h2 : ¬ ("sides" : Str) = "switches" := by decide +kernel
  have h3 : ¬ ("tracks" : Str) = "switches" := by decide +kernel
  simp only [putF, if_neg h1, if_neg h2, if_neg h3]
  rfl
theorem ws_step {X : Cx} {Kp : Hp} {F : Addr → Prop} {own : Nat → List Addr} {H : Hp} {st : L2.St} {dl dl' : List Sl} {s1 : Stmt} {ss : List Stmt} {D : Ends} (h : SX X s1 ⟨fun d => d = dl', fun _ _ => False, fun _ => False, fun _ => False⟩ dl) (S : SE X Kp F dl own H st)
    (q : ∀ own' H' st', SE X Kp F dl' own' H' st' → WS X ss D st' H') : WS X (s1 :: ss) D st H := fun pins s I => by
  refine (pss_cons (psW s1) (pssW ss)).run pins s st H _ I ?_
  exact (h Kp F own H st S I.len).mono (fun st' H' ⟨d, own', S', e⟩ => by subst e; exact q own' H' st' S') (fun _ _ ⟨_, _, _, _, _, _, z⟩ => z.elim) (fun _ _ ⟨_, _, _, z⟩ => z.elim) (fun _ _ ⟨_, _, _, z⟩ => z.elim)
section
variable {P : Program} {w : World} {K : PySem.W.Frag} {mg : Str → Option Value} {base : Heap}
abbrev sd_Box : Stmt := (clsBody (top 21)).getD 0 (.Pass ⟨0, 0, 0, 0⟩)
abbrev N_Box : List Str := ["self", "sides", "tracks", "switches", "switch"]
theorem sc_Box : FnScope N_Box ["self", "sides", "tracks", "switches"] (defScope sd_Box) := ⟨rfl, rfl, rfl, by decide +kernel, rfl, by decide +kernel, by decide +kernel⟩
def spInit (w : World) (K : PySem.W.Frag) (mg : Str → Option Value) : Sp := fun vs H Q _ => ∃ (F : Addr → Prop) (b : Bx) (a dx C : Addr) (ws : List V), vs = .ref a :: ws ∧ mg "Box" = some (.ref C) ∧ H a = some (.ins C dx []) ∧ (∀ x, F x → H x ≠ none) ∧ BxOk b ∧
  RTs w K mg (reg own0 (fun x => F x ∨ x = a) H) ws [.p (.int b.s), .p (.int b.t), .p (.tuple (b.sw.map pSw))] ∧
  ∀ H' u, (∀ x o, x ≠ a → H x = some o → H' x = some o) → H' a = some (.ins C dx (boxF b.s b.t u)) → Dp K (reg own0 F H') u (.tuple (b.sw.map pSw)) → Q .non H'
/-- the class Box as the top has left it -/
structure BoxM (K : PySem.W.Frag) (mg : Str → Option Value) : Prop where
  m : ∃ C f fd, mg "Box" = some (.ref C) ∧ Mk K C f ∧ Fun K "__init__" "Box.__init__" sd_Box f fd
theorem box_init {f : Addr} {fd : FuncData} (BK : BoxK K mg) (FF : Fun K "__init__" "Box.__init__" sd_Box f fd) (B : Bi mg) (G1 : Fneed_sides P w K mg base) (G2 : Fneed_tracks P w K mg base) (G3 : Fis_switch P w K mg base) (G4 : Fis_rising P w K mg base) :
    FnOk P w K mg base CX0 5 f fd ["self", "sides", "tracks", "switches"] (spInit w K mg) := by
  refine FF.ok sc_Box (fun vs H Q E h => ?_) (fun cdv A outer s H vs Q E hr h => ?_)
  · obtain ⟨F, b, a, dx, C, ws, rfl, _, _, _, _, h1, _⟩ := h
    rw [List.length_cons, h1.len]
    rfl
  · obtain ⟨F, b, a, dx, C, ws, rfl, hC, hH, hF, hb, hrt, q⟩ := h
    have hF2 : ∀ x, (F x ∨ x = a) → H x ≠ none := fun x hx => by
      rcases hx with hx | rfl
      · exact hF x hx
      · rw [hH]; exact fun e => nomatch e
    have S0 := se_start (P := P) (base := base) (N := N_Box) (x := "Box.__init__") (sd := sd_Box) (f := f) (cdv := cdv) (A := A) (outer := outer) (s := s) (E := E) (F := fun x => F x ∨ x = a) (H := H) (vs := .ref a :: ws) (ts := [.adr a, .p (.int b.s), .p (.int b.t), .p (.tuple (b.sw.map pSw))]) hF2 (.cons rfl hrt)
    refine ⟨_, pssW _, ?_⟩
    have hu := hr.units
    have hN := sc_Box.nd
    obtain ⟨c0, n1, n2, n3⟩ := BK.f C hC
    let dl := dl0 [.adr a, .p (.int b.s), .p (.int b.t), .p (.tuple (b.sw.map pSw))] N_Box.length
    refine ws_step (dl' := dl) (s_expr (d_cl G1 hr b.s (da_cons (dv 1 rfl) da_nil) ⟨hb.s2, hb.s5⟩) rfl) S0 fun own1 H1 st1 S1 => ?_
    refine ws_step (dl' := dl) (s_expr (d_cl G2 hr b.t (da_cons (dv 2 rfl) da_nil) ⟨hb.t1, hb.t6⟩) rfl) S1 fun own2 H2 st2 S2 => ?_
    refine ws_step (dl' := dl) (s_ifNo (dw_or (dt_not (dt_val (d_isi (cl := "tuple") (.tup _) rfl (dv 3 rfl) B.isinstance_ B.tuple_))) fun _ => dw_or1 (dt_not (dt_val (d_all (xs := b.sw) (g := fun _ => true) (d_lcA (onm := [("switch", 4)]) (enc := pSw) hN (blk_of (N := N_Box) (sc := defScope sd_Box) (by decide +kernel)) (di_tup (dv 3 rfl)) rfl (fun _ _ _ _ _ _ _ => ⟨[4], by decide, gt_name 4 hN⟩)
        (fun _ _ _ _ _ x hx => d_cl G3 hr (x, b.s, b.t) (da_cons (dv 4 rfl) (da_cons (dv 1 rfl) (da_cons (dv 2 rfl) da_nil))) (hb.ok x hx)) (by have := hb.few; omega)) B.all_)))).test (by simp) rfl) S2 fun own3 H3 st3 S3 => ?_
    refine ws_step (dl' := dl) (s_ifNo (dt_not (dt_val (d_cl G4 hr (b.sw.map pSw) (da_cons (dv 3 rfl) da_nil) (rising_of al_sw lay_sw (by omega) tup_sw hb.asc (by have := hb.few; omega))))) rfl rfl) S3 fun own4 H4 st4 S4 => ?_
    refine ws_of (pss_one (psW _)) (w1_of (ps_asg (peW _) (pg_tup rfl (pgs_cons (pg_attr (f := "sides") (pe_var (i := 0) rfl (.inl rfl))) (pgs_cons (pg_attr (f := "tracks") (pe_var (i := 0) rfl (.inl rfl))) (pgs_cons (pg_attr (f := "switches") (pe_var (i := 0) rfl (.inl rfl))) pgs_nil))))) ?_)
    refine (show DE _ _ dl (.p (.tuple [.int b.s, .int b.t, .tuple (b.sw.map pSw)])) from d_tp (dp_cons (dv 1 rfl) (dp_cons (dv 2 rfl) (dp_cons (dv 3 rfl) dp_nil)))) H _ own4 H4 st4 S4 |>.mono fun v H5 ⟨s5, r5⟩ => ?_
    have S5 := S4.grow s5
    obtain ⟨v0, hv0, r0⟩ := S5.get (i := 0) (t := .adr a) rfl
    have ev : v0 = .ref a := r0
    subst ev
    have ha5 : H5 a = some (.ins C dx []) := S5.kp a _ hH
    cases r5 with
    | @tup p xs _ h1 h2 =>
      cases h2 with
      | cons i1 h2 =>
        cases h2 with
        | cons i2 h2 =>
          cases h2 with
          | cons i3 h2 =>
            cases h2
            cases i1
            cases i2
            refine ⟨p, _, rfl, sqT_mono reg_sub h1, rfl, _, _, rfl, _, hv0, a, C, dx, [], rfl, ha5, c0, n1, by decide, _, _, rfl, _, hv0, a, C, dx, _, rfl, upd_same, c0, n2, by have h1 := length_putF "sides" (.int b.s) []; simp only [List.length_nil] at h1; omega, _, _, rfl, _, hv0, a, C, dx, _, rfl, upd_same, c0, n3, by have h1 := length_putF "sides" (.int b.s) []; have h2 := length_putF "tracks" (.int b.t) (putF "sides" (.int b.s) []); simp only [List.length_nil] at h1; omega, rfl, ?_⟩
            rw [upd_upd, upd_upd, putBox]
            refine q _ _ (fun x o hx e => by rw [upd_ne hx]; exact S5.kp x o e) upd_same (i3.up fun x o e => ?_)
            obtain ⟨e1, e2, e3⟩ := reg_some e
            have hxa : x ≠ a := fun z => e3 (.inr z)
            rw [reg_in (own := own0) (fun i z => nomatch (show x ∈ ([] : List Addr) from z)) (fun z => e3 (.inl z)), upd_ne hxa]
            exact e1
/-- Box(..) -/
theorem d_make {X : Cx} {e1 e2 e3 : Expr} {dl : List Sl} {p pos : Pos} {b : Bx} {k' : Nat} {A : Around} (BM : BoxM X.K X.mg) (BK : BoxK X.K X.mg) (B : Bi X.mg) (G1 : Fneed_sides X.prog X.w X.K X.mg X.base) (G2 : Fneed_tracks X.prog X.w X.K X.mg X.base) (G3 : Fis_switch X.prog X.w X.K X.mg X.base) (G4 : Fis_rising X.prog X.w X.K X.mg X.base)
    (hr : Room k' A) (ha : DA X [e1, e2, e3] dl [.p (.int b.s), .p (.int b.t), .p (.tuple (b.sw.map pSw))]) (hb : BxOk b) (hk : 6 ≤ k' := by decide) (hA : X.A = A := by rfl) (hg : Gl X "Box" := by rfl)
    (he : starEach [e1, e2, e3] X.env = (false, eval e1 X.env) :: starEach [e2, e3] X.env := by rfl) (hpl : (backTo pos (starEach [e2, e3] X.env)).any (·.1) = false := by rfl) : DE X (.Call (.Name "Box" p) [e1, e2, e3] [] pos) dl b.t_ := fun Kp F own H st S => by
  subst hA
  obtain ⟨C, f, fd, hm, M, FF⟩ := BM.m
  have hbn : Binds X.K fd ["self", "sides", "tracks", "switches"] [] := FF.binds fun _ _ _ _ _ _ us hl => match us, hl with | [_, _, _, _], _ => rfl
  refine we_of (pe_make M (box_init BK FF B G1 G2 G3 G4) (hr.mono hk) hg hm hbn .nil pass0 (paW _) (by decide) he hpl) ?_
  refine (ha Kp F own H st S).mono fun vs H1 ⟨s1, q1⟩ => fun x dx hx hdx hne => ?_
  have S1 := S.grow s1
  rw [List.append_nil]
  have up : Same H1 (upd (upd H1 dx (.own x)) x (.ins C dx [])) := (same_new hdx).trans (same_new (by rw [upd_ne (Ne.symm hne)]; exact hx))
  refine ⟨fun y => (∃ i, y ∈ own i) ∨ F y, b, x, dx, C, vs, rfl, hm, upd_same, fun y hy => ?_, hb, q1.up fun y o e => ?_, fun H2 u h1 h2 h3 => ⟨rfl, ?_, ?_⟩⟩
  · have : H1 y ≠ none := by
      rcases hy with ⟨j, h⟩ | h
      · exact S1.there h
      · exact S1.fn y h
    intro e
    cases z : H1 y with
    | none => exact this z
    | some o => rw [up y o z] at e; cases e
  · obtain ⟨e1, e2, e3⟩ := reg_some e
    have hyx : y ≠ x := fun z => by rw [z, hx] at e1; cases e1
    rw [reg_in (own := own0) (fun i z => nomatch (show y ∈ ([] : List Addr) from z)) (by rintro ((⟨i, z⟩ | z) | z); exact e2 i z; exact e3 z; exact hyx z)]
    exact up y o e1
  · refine s1.trans fun y o e => ?_
    have hyx : y ≠ x := fun z => by rw [z, hx] at e; cases e
    exact h1 y o hyx (up y o e)
  · refine ⟨x, C, dx, u, rfl, hm, ?_, ?_⟩
    · rw [reg_in (S1.fresh hx).1 (S1.fresh hx).2]; exact h2
    · rw [reg_merge] at h3; exact h3
abbrev sd__law_made : Stmt := top 83
abbrev N__law_made : List Str := ["_law_scope_here"]
theorem sc__law_made : FnScope N__law_made ["_law_scope_here"] (defScope sd__law_made) := ⟨rfl, rfl, rfl, by decide +kernel, rfl, by decide +kernel, by decide +kernel⟩
abbrev F_law_made (P : Program) (w : World) (K : PySem.W.Frag) (mg : Str → Option Value) (base : Heap) : Prop := Fn P w K mg base "_law_made" 7 (fun b : Bx => [.scope b.s b.t (.tuple (b.sw.map pSw))]) BxOk (fun b => b.t_)
theorem ok__law_made (TF : TopF K mg "_law_made" sd__law_made) (B : Bi mg) (BM : BoxM K mg) (BK : BoxK K mg) (G1 : Fneed_sides P w K mg base) (G2 : Fneed_tracks P w K mg base) (G3 : Fis_switch P w K mg base) (G4 : Fis_rising P w K mg base) : F_law_made P w K mg base := by
  refine fn_body TF sc__law_made (fun _ => rfl) (fun _ _ _ _ _ _ us hl => match us, hl with | [_], _ => rfl) fun f cdv A outer s H E i hr hok => ?_
  have hu := hr.units
  have hu5 := hr.u65
  have hN := sc__law_made.nd
  exact sw_one (s_ret (d_make BM BK B G1 G2 G3 G4 hr (da_cons (d_scS hu (dv 0 rfl)) (da_cons (d_scM hu (dv 0 rfl)) (da_cons (d_scJ hu (dv 0 rfl)) da_nil))) hok) rfl)
end
end Ac
-- part E3
set_option Elab.async false
set_option maxRecDepth 100000
set_option maxHeartbeats 4000000
set_option linter.all false
/-! Ac: the source of draws, by plain values; _law_draw. -/
namespace Ac
open PySem PySem.Spec PyProof.Rows L2
abbrev hid2 (F : Addr → Prop) (s L : Addr) : Addr → Prop := fun a => F a ∨ a = s ∨ a = L
/-- a def whose first argument is the source of draws -/
def spS (w : World) (K : PySem.W.Frag) (mg : Str → Option Value) {I : Type} (arg : I → List T) (ok : I → Prop) (cost : I → Nat) (res : I → T → Prop) : Sp := fun vs H Q _ =>
  ∃ (F : Addr → Prop) (s L : Addr) (n : Nat) (ws : List V) (i : I), vs = .ref s :: ws ∧ (∀ a, F a → H a ≠ none) ∧ StAt K (reg own0 (hid2 F s L) H) H s L n ∧ RTs w K mg (reg own0 (hid2 F s L) H) ws (arg i) ∧ ok i ∧ n + cost i ≤ 1000000000 ∧
  ∀ v H' t, (∀ a o, a ≠ s → a ≠ L → H a = some o → H' a = some o) → StAt K (reg own0 (hid2 F s L) H') H' s L (n + cost i) → res i t → RT w K mg (reg own0 (hid2 F s L) H') v t → Q v H'
structure FnS (P : Program) (w : World) (K : PySem.W.Frag) (mg : Str → Option Value) (base : Heap) (x : Str) (k : Nat) {I : Type} (arg : I → List T) (ok : I → Prop) (cost : I → Nat) (res : I → T → Prop) : Prop where
  ex : ∃ (f : Addr) (fd : FuncData) (ps : List Str), mg x = some (.ref f) ∧ PySem.W.keepIn K (.ref f) = true ∧ Binds K fd ps [] ∧ FnOk P w K mg base CX0 k f fd ps (spS w K mg arg ok cost res)
section
variable {X : Cx} {a b c e : Expr} {st : L2.St} {A : Hp → Prop} {v u : V} {pos p : Pos} {j : Nat}
/-- an expression's value, whatever heap A holds of -/
def PV (X : Cx) (e : Expr) (st : L2.St) (A : Hp → Prop) (v : V) : Prop := ∀ H, A H → WE X e st H fun v' H' => v' = v ∧ Same H H'
def PB (X : Cx) (e : Expr) (st : L2.St) (A : Hp → Prop) (k : Bool) : Prop := ∀ H, A H → WT X e st H fun v' H' => v' = k ∧ Same H H'
def Up (A : Hp → Prop) : Prop := ∀ H H', A H → Same H H' → A H'
theorem pv_var (i : Nat) {x : Str} (h : st[i]? = some (some v)) (hN : X.N[i]? = some x := by rfl) (hv : Vis X.env.scope x := by first | exact Or.inl rfl | exact Or.inr (Or.inl rfl)) (h1 : (x == ("__debug__" : Str)) = false := by decide)
    (h2 : (x == ("__classdict__" : Str)) = false := by decide) : PV X (.Name x pos) st A v := fun H _ => we_of (pe_var (i := i) hN hv h1 h2) ⟨v, h, rfl, Same.refl H⟩
theorem pv_int {i : Int} : PV X (.Constant (.int i) j pos) st A (.int i) := fun H _ => we_of pe_int ⟨rfl, Same.refl H⟩
theorem pv_key {x : Str} {s : Addr} (hu : X.A.units + 64 < cLine) (up : Up A) (ho : PV X a st A (.ref s)) (hd : ∀ H, A H → ∃ kvs, H s = some (.dK kvs) ∧ valV kvs (.inr x) = some v)
    (hs : NoSl (.Constant (.str x) j p) := by intro _ _; rfl) : PV X (.Subscript a (.Constant (.str x) j p) pos) st A v := fun H h => by
  refine we_of (pe_dget (by omega) (peW a) pe_str hs) ?_
  refine (ho H h).mono fun v' H1 ⟨e1, s1⟩ => ?_
  subst e1
  obtain ⟨kvs, h1, h2⟩ := hd H1 (up H H1 h s1)
  exact ⟨s, v, rfl, by rw [← h2]; exact DGet.k (k := .inr x) h1, rfl, s1⟩
theorem pv_binC {op : Operator} {C : Int → Int → Prop} {g : Int → Int → V} {x y : Int} (h : OpR X (binaryOp op) (rI C g)) (up : Up A) (ha : PV X a st A (.int x)) (hb : PV X b st A (.int y)) (hc : C x y) : PV X (.BinOp a op b pos) st A (g x y) := fun H q => by
  refine we_of (pe_op h (peW a) (peW b)) ?_
  refine (ha H q).mono fun v1 H1 ⟨e1, s1⟩ => ?_
  refine (hb H1 (up H H1 q s1)).mono fun v2 H2 ⟨e2, s2⟩ => ?_
  exact ⟨x, y, e1, e2, hc, rfl, s1.trans s2⟩
theorem pv_bin0 {op : Operator} {g : Int → Int → V} {x y : Int} (h : OpR X (binaryOp op) (rI0 g)) (up : Up A) (ha : PV X a st A (.int x)) (hb : PV X b st A (.int y)) : PV X (.BinOp a op b pos) st A (g x y) := fun H q => by
  refine we_of (pe_op h (peW a) (peW b)) ?_
  refine (ha H q).mono fun v1 H1 ⟨e1, s1⟩ => ?_
  refine (hb H1 (up H H1 q s1)).mono fun v2 H2 ⟨e2, s2⟩ => ?_
  exact ⟨x, y, e1, e2, rfl, s1.trans s2⟩
theorem pv_callI {x : Int} (ha : PV X a st A (.int x)) (hm : X.mg "int" = none) (hg : Gl X "int" := by rfl) (he : starEach [a] X.env = (false, eval a X.env) :: starEach [] X.env := by rfl) : PV X (.Call (.Name "int" p) [a] [] pos) st A (.int x) := fun H q => by
  refine we_of (pe_callTy call_int1 hg hm (by decide +kernel) (pa_cons (peW a) pa_nil he) (by decide) (by decide) he rfl) ?_
  refine (ha H q).mono fun v1 H1 ⟨e1, s1⟩ => ?_
  subst e1
  exact .inl ⟨x, rfl, rfl, s1⟩
theorem pv_len {q : Addr} {xs : List V} (up : Up A) (ha : PV X a st A (.ref q)) (hl : ∀ H, A H → SqL X.K H q xs) (hm : X.mg "len" = none) (hg : Gl X "len" := by rfl) (he : starEach [a] X.env = (false, eval a X.env) :: starEach [] X.env := by rfl) : PV X (.Call (.Name "len" p) [a] [] pos) st A (.int xs.length) := fun H h => by
  refine we_of (pe_callB call_len_seq hg hm (by decide +kernel) (pa_cons (peW a) pa_nil he) (by decide) (by decide) he rfl) ?_
  refine (ha H h).mono fun v1 H1 ⟨e1, s1⟩ => ?_
  subst e1
  exact ⟨q, xs, rfl, .inl (hl H1 (up H H1 h s1)), rfl, s1⟩
theorem pv_ix {q : Addr} {xs : List V} {i : Int} (up : Up A) (ha : PV X a st A (.ref q)) (hb : PV X b st A (.int i)) (hl : ∀ H, A H → SqL X.K H q xs) (hv : atI xs i = some v) (hs : PlainIx b := by intro _ _; rfl) : PV X (.Subscript a b pos) st A v := fun H h => by
  refine we_of (pe_ix ix_list (peW a) (peW b) hs) ?_
  refine (ha H h).mono fun v1 H1 ⟨e1, s1⟩ => ?_
  refine (hb H1 (up H H1 h s1)).mono fun v2 H2 ⟨e2, s2⟩ => ?_
  exact ⟨q, xs, i, v, e1, e2, hl H2 (up H H2 h (s1.trans s2)), hv, rfl, s1.trans s2⟩
theorem pb_cmp0 {op : CmpOp} {g : Int → Int → Bool} {x y : Int} (h : OpR X (compareOp op) (rI0 fun i j => .bl (g i j))) (up : Up A) (ha : PV X a st A (.int x)) (hb : PV X b st A (.int y)) (hm : behindInMarks op b = false := by first | exact nomark _ | rfl) : PB X (.Compare a [op] [b] pos) st A (g x y) := fun H q => by
  refine wt_of (pt_cmpR h (peW a) (peW b) hm) ?_
  refine (ha H q).mono fun v1 H1 ⟨e1, s1⟩ => ?_
  refine (hb H1 (up H H1 q s1)).mono fun v2 H2 ⟨e2, s2⟩ => ?_
  exact ⟨x, y, e1, e2, g x y, rfl, rfl, s1.trans s2⟩
/-- list != [] -/
theorem se_nil {H : Hp} {st : L2.St} : SE X H (fun _ => False) [] own0 H st := ⟨Same.refl H, fun _ _ h => (nomatch h), fun _ h => h.elim, fun _ _ h => (nomatch h), fun _ _ _ h => (nomatch h), fun _ => rfl⟩
theorem pb_neNil {q : Addr} {xs : List Int} {pl : Pos} (hu : X.A.units + 64 < cLine) (up : Up A) (ha : PV X a st A (.ref q)) (hl : ∀ H, A H → SqL X.K H q (xs.map V.int)) : PB X (.Compare a [.NotEq] [.List [] pl] pos) st A (!decide (xs = [])) := fun H h => by
  refine wt_of (pt_cmpR (op_neD hu) (peW a) (peW _) rfl) ?_
  refine (ha H h).mono fun v1 H1 ⟨e1, s1⟩ => ?_
  refine ((d_ls dp_nil : DE X (.List [] pl) [] (.p (.list []))) H1 (fun _ => False) own0 H1 st se_nil).mono fun v2 H2 ⟨s2, r2⟩ => ?_
  subst e1
  refine ⟨lInts xs, .list [], .lst (hl H2 (up H H2 h (s1.trans s2))) (ints_dpa xs), Dp.up r2 reg_sub, (lay_lInts xs).sh (by omega), (lay_lInts []).sh (by omega), _, rfl, ?_, s1.trans s2⟩
  rw [show PyData.list [] = lInts [] from rfl, eqv_lInts]
theorem pv_if {k : Bool} (up : Up A) (hc : PB X c st A k) (ha : k = true → PV X a st A v) (hb : k = false → PV X b st A v) : PV X (.IfExp c a b pos) st A v := fun H q => by
  refine we_of (pe_ifExp (ptW c) (peW a) (peW b)) ?_
  refine (hc H q).mono fun x H1 ⟨e1, s1⟩ => ?_
  subst e1
  cases x with
  | true => rw [if_pos rfl]; exact (ha rfl H1 (up H H1 q s1)).mono fun y H2 ⟨e2, s2⟩ => ⟨e2, s1.trans s2⟩
  | false => rw [if_neg Bool.false_ne_true]; exact (hb rfl H1 (up H H1 q s1)).mono fun y H2 ⟨e2, s2⟩ => ⟨e2, s1.trans s2⟩
theorem ws_cons {s1 : Stmt} {ss : List Stmt} {D : Ends} {st : L2.St} {H : Hp} (h : W1 X s1 { D with nx := fun st' H' => WS X ss D st' H' } st H) : WS X (s1 :: ss) D st H := ws_of (pss_cons (psW s1) (pssW ss)) h
theorem ws_one {s1 : Stmt} {D : Ends} {st : L2.St} {H : Hp} (h : W1 X s1 D st H) : WS X [s1] D st H := ws_of (pss_one (psW s1)) h
theorem w1_set (i : Nat) {x : Str} {pos' : Pos} {D : Ends} {H : Hp} (hN : X.N.Nodup) (hA : A H) (h : PV X e st A v) (q : ∀ H', Same H H' → D.nx (st.set i (some v)) H') (hx : X.N[i]? = some x := by rfl) (hl : Loc X.env.scope x := by first | exact .inl rfl | exact .inr rfl)
    (hs : swapsWith e (some (.Name x pos')) pos.line X.env = pure false := by rfl) (hfn : X.fn x = true ∨ X.env.scope.names.lookup x = some .local := by first | exact .inl rfl | exact .inr rfl) : W1 X (.Assign [.Name x pos'] e pos) D st H :=
  w1_of (ps_set hN hx hl (peW e) hs hfn) ((h H hA).mono fun v1 H1 ⟨e1, s1⟩ => by subst e1; exact q H1 s1)
theorem w1_ret {D : Ends} {H : Hp} (hA : A H) (h : PV X e st A v) (q : ∀ H', Same H H' → D.rt v H') : W1 X (.Return (some e) pos) D st H :=
  w1_of (ps_ret (peW e)) ((h H hA).mono fun v1 H1 ⟨e1, s1⟩ => by subst e1; exact q H1 s1)
theorem w1_put {x : Str} {s : Addr} {kvs : List (Key × V)} {pos' : Pos} {o : Expr} {D : Ends} {H : Hp} (hu : X.A.units + 64 < cLine) (up : Up A) (hA : A H) (ho : PV X o st A (.ref s)) (h : PV X e st A v) (hd : ∀ H, A H → H s = some (.dK kvs)) (hz : kvs.length < 100)
    (q : ∀ H', Same H H' → D.nx st (upd H' s (.dK (putK kvs (.inr x) v)))) (hs : swapsWith e (some (.Subscript o (.Constant (.str x) j p) pos')) pos.line X.env = pure false := by rfl) : W1 X (.Assign [.Subscript o (.Constant (.str x) j p) pos'] e pos) D st H := by
  refine w1_of (ps_dput (by omega) (peW o) pe_str (peW e) hs) ?_
  refine (h H hA).mono fun v1 H1 ⟨e1, s1⟩ => ?_
  refine (ho H1 (up H H1 hA s1)).mono fun v2 H2 ⟨e2, s2⟩ => ?_
  subst e1
  exact ⟨s, _, e2, DPut.k (k := .inr x) (hd H2 (up H H2 hA (s1.trans s2))) (Nat.lt_trans hz (by decide)), q H2 (s1.trans s2)⟩
end
/-- what is known of the source -/
structure Dr (K : PySem.W.Frag) (F : Addr → Prop) (H0 : Hp) (s L c : Addr) (large cells : List Int) (left turn : Int) (H : Hp) : Prop where
  hs : H s = some (.dK (stK L c left turn))
  hL : H L = some (.lst (large.map V.int))
  hc : SqL K (reg own0 (hid2 F s L) H) c (cells.map V.int)
  keep : ∀ a o, a ≠ s → a ≠ L → H0 a = some o → H a = some o
section
variable {K : PySem.W.Frag} {F : Addr → Prop} {H0 H : Hp} {s L c : Addr} {large cells : List Int} {left turn : Int}
theorem dr_up : Up (Dr K F H0 s L c large cells left turn) := fun H H' h sm => ⟨sm _ _ h.hs, sm _ _ h.hL, sqL_mono (reg_up sm) h.hc, fun a o h1 h2 h3 => sm _ _ (h.keep a o h1 h2 h3)⟩
theorem reg2 {H H' : Hp} (h : ∀ a o, a ≠ s → a ≠ L → H a = some o → H' a = some o) : Same (reg own0 (hid2 F s L) H) (reg own0 (hid2 F s L) H') := fun a o e => by
  obtain ⟨e1, e2, e3⟩ := reg_some e
  rw [reg_in e2 e3]
  exact h a o (fun z => e3 (.inr (.inl z))) (fun z => e3 (.inr (.inr z))) e1
theorem kne1 : ¬ ((Sum.inr "large" : Key) = .inr "cells") := kne (by decide +kernel)
theorem kne2 : ¬ ((Sum.inr "large" : Key) = .inr "left") := kne (by decide +kernel)
theorem kne3 : ¬ ((Sum.inr "large" : Key) = .inr "turn") := kne (by decide +kernel)
theorem kne4 : ¬ ((Sum.inr "cells" : Key) = .inr "left") := kne (by decide +kernel)
theorem kne5 : ¬ ((Sum.inr "cells" : Key) = .inr "turn") := kne (by decide +kernel)
theorem kne6 : ¬ ((Sum.inr "left" : Key) = .inr "turn") := kne (by decide +kernel)
theorem st1 : valV (stK L c left turn) (.inr "large") = some (.ref L) := valV_pos rfl
theorem st2 : valV (stK L c left turn) (.inr "cells") = some (.ref c) := (valV_neg kne1).trans (valV_pos rfl)
theorem st3 : valV (stK L c left turn) (.inr "left") = some (.int left) := (valV_neg kne2).trans ((valV_neg kne4).trans (valV_pos rfl))
theorem st4 : valV (stK L c left turn) (.inr "turn") = some (.int turn) := (valV_neg kne3).trans ((valV_neg kne5).trans ((valV_neg kne6).trans (valV_pos rfl)))
theorem stPutL (x : Int) : putK (stK L c left turn) (.inr "left") (.int x) = stK L c x turn := by
  unfold putK stK
  rw [if_pos (by simp)]
  simp only [List.map_cons, List.map_nil, if_neg kne2, if_neg kne4, if_neg (Ne.symm kne6), if_true]
theorem stPutT (x : Int) : putK (stK L c left turn) (.inr "turn") (.int x) = stK L c left x := by
  unfold putK stK
  rw [if_pos (by simp)]
  simp only [List.map_cons, List.map_nil, if_neg kne3, if_neg kne5, if_neg kne6, if_true]
theorem dr_put (h : Dr K F H0 s L c large cells left turn H) (ne : s ≠ L) (l2 t2 : Int) : Dr K F H0 s L c large cells l2 t2 (upd H s (.dK (stK L c l2 t2))) :=
  have k : ∀ a o, a ≠ s → a ≠ L → H a = some o → upd H s (.dK (stK L c l2 t2)) a = some o := fun a o h1 _ h3 => by rw [upd_ne h1]; exact h3
  ⟨upd_same, by rw [upd_ne (Ne.symm ne)]; exact h.hL, sqL_mono (reg2 k) h.hc, fun a o h1 h2 h3 => k a o h1 h2 (h.keep a o h1 h2 h3)⟩
theorem dr_list (h : Dr K F H0 s L c large cells left turn H) (ne : s ≠ L) (la : List Int) : Dr K F H0 s L c la cells left turn (upd H L (.lst (la.map V.int))) :=
  have k : ∀ a o, a ≠ s → a ≠ L → H a = some o → upd H L (.lst (la.map V.int)) a = some o := fun a o _ h2 h3 => by rw [upd_ne h2]; exact h3
  ⟨by rw [upd_ne ne]; exact h.hs, upd_same, sqL_mono (reg2 k) h.hc, fun a o h1 h2 h3 => k a o h1 h2 (h.keep a o h1 h2 h3)⟩
end
end Ac
-- part C16
set_option Elab.async false
set_option maxRecDepth 100000
set_option maxHeartbeats 4000000
set_option linter.all false
namespace Ac
open PySem PySem.Spec PyProof.Rows L2
section
variable {X : Cx} {a b c e : Expr} {st : L2.St} {A : Hp → Prop} {v u : V} {pos p : Pos} {j : Nat}
theorem pb_and2 {k l : Bool} (up : Up A) (ha : PB X a st A k) (hb : k = true → PB X b st A l) : PB X (.BoolOp .And [a, b] pos) st A (k && l) := fun H h => by
  refine wt_of (pw_and (ptW a) (pw_and1 (ptW b))).pt ?_
  refine (ha H h).mono fun x H1 ⟨e1, s1⟩ => ?_
  subst e1
  cases x with
  | true => rw [if_pos rfl]; exact (hb rfl H1 (up H H1 h s1)).mono fun y H2 ⟨e2, s2⟩ => ⟨e2, s1.trans s2⟩
  | false => rw [if_neg Bool.false_ne_true]; exact ⟨rfl, s1⟩
theorem pb_eqI {x y : Int} (hu : X.A.units + 64 < cLine) (up : Up A) (ha : PV X a st A (.int x)) (hb : PV X b st A (.int y)) (hm : behindInMarks .Eq b = false := by first | exact nomark _ | rfl) : PB X (.Compare a [.Eq] [b] pos) st A (decide (x = y)) := fun H q => by
  refine wt_of (pt_cmpR (op_eqD hu) (peW a) (peW b) hm) ?_
  refine (ha H q).mono fun v1 H1 ⟨e1, s1⟩ => ?_
  refine (hb H1 (up H H1 q s1)).mono fun v2 H2 ⟨e2, s2⟩ => ?_
  subst e1 e2
  refine ⟨.int x, .int y, .int x, .int y, (lay_int x).sh (by omega), (lay_int y).sh (by omega), _, rfl, ?_, s1.trans s2⟩
  rw [eqv_int]
theorem pv_at {H : Hp} {Q : VK} (h : PV X e st A v) (hA : A H) (q : ∀ H', Same H H' → Q v H') : WE X e st H Q := (h H hA).mono fun v1 H1 ⟨e1, s1⟩ => by subst e1; exact q H1 s1
theorem pb_at {k : Bool} {H : Hp} {Q : Bool → Hp → Prop} (h : PB X e st A k) (hA : A H) (q : ∀ x H', x = k → Same H H' → Q x H') : WT X e st H Q := (h H hA).mono fun v1 H1 ⟨e1, s1⟩ => q v1 H1 e1 s1
theorem pv_is {v' : V} (h : PV X e st A v) (q : v = v') : PV X e st A v' := q ▸ h
theorem atI_ints {xs : List Int} {k : Int} (h0 : 0 ≤ k) (h1 : k < xs.length) : atI (xs.map V.int) k = some (.int (xs.getD k.toNat 0)) := by
  have e : k = ((k.toNat : Nat) : Int) := by omega
  rw [e, atI_nat, List.getElem?_map, List.getD_eq_getElem?_getD]
  have hk : k.toNat < xs.length := by omega
  rw [show ((k.toNat : Nat) : Int).toNat = k.toNat from by omega, List.getElem?_eq_getElem hk]
  rfl
end
section
variable {P : Program} {w : World} {K : PySem.W.Frag} {mg : Str → Option Value} {base : Heap}
abbrev sd__law_draw : Stmt := top 75
abbrev N__law_draw : List Str := ["_law_state", "_law_size_here", "_law_found", "_law_turn", "_law_cell", "_law_mixed_here"]
theorem sc__law_draw : FnScope N__law_draw ["_law_state", "_law_size_here"] (defScope sd__law_draw) := ⟨rfl, rfl, rfl, by decide +kernel, rfl, by decide +kernel, by decide +kernel⟩
def resDraw (i : Int) (t : T) : Prop := ∃ r, t = .p (.int r) ∧ 0 ≤ r ∧ r < i
abbrev F_law_draw (P : Program) (w : World) (K : PySem.W.Frag) (mg : Str → Option Value) (base : Heap) : Prop := FnS P w K mg base "_law_draw" 1 (fun i : Int => [.p (.int i)]) (fun i => 1 ≤ i ∧ i < 1000000) (fun _ => 1) resDraw
theorem ok__law_draw (TF : TopF K mg "_law_draw" sd__law_draw) (B : Bi mg) : F_law_draw P w K mg base := by
  obtain ⟨f, fd, hm, FF⟩ := TF.ex
  refine ⟨f, fd, ["_law_state", "_law_size_here"], hm, FF.kp, FF.binds (fun _ _ _ _ _ _ us hl => match us, hl with | [_, _], _ => rfl), FF.ok sc__law_draw (fun vs H Q E h => ?_) (fun cdv A outer sh H vs Q E hr h => ?_)⟩
  · obtain ⟨F, s, L, n, ws, i, rfl, _, _, h1, _⟩ := h
    rw [List.length_cons, h1.len]
    rfl
  · obtain ⟨F, s, L, n, ws, i, rfl, hF, hS, hrt, ⟨h1, h2⟩, hn, q⟩ := h
    obtain ⟨ne, c, large, cells, left, turn, e1, e2, e3, p1, p2, p3, p4, p5, p6⟩ := hS
    have ews : ws = [V.int i] := by
      cases hrt with
      | cons a b => cases b; rw [int_of a]
    subst ews
    have hn' : (n : Int) ≤ 1000000000 := by omega
    have hu := hr.units
    have hN := sc__law_draw.nd
    refine ⟨_, pssW _, ?_⟩
    have A0 : Dr K F H s L c large cells left turn H := ⟨e1, e2, e3, fun a o _ _ h => h⟩
    refine ws_cons (w1_of (ps_while PassesOwn.never (ptW _) (pssW _)) ?_)
    refine ⟨fun m σ H1 => σ = L2.start N__law_draw [.ref s, .int i] ∧ ∃ la le, m = la.length ∧ Dr K F H s L c la cells le turn H1 ∧ (∀ x ∈ la, 0 ≤ x) ∧ 0 ≤ le, ⟨_, rfl, large, left, rfl, A0, p1, p2⟩, ?_⟩
    rintro m σ H1 ⟨rfl, la, le, rfl, D1, l1, l2⟩
    have hu1 := Nat.lt_of_le_of_lt (Nat.add_le_add_left (show 1 ≤ 64 by decide) _) hu
    refine pb_at (pb_and2 dr_up (pb_eqI hu dr_up (pv_key hu dr_up (pv_var 0 rfl) fun H h => ⟨_, h.hs, st3⟩) pv_int)
      (fun _ => pb_neNil hu dr_up (pv_key hu dr_up (pv_var 0 rfl) fun H h => ⟨_, h.hs, st1⟩) fun H h => SqL.of h.hL)) D1 fun x H2 ex s2 => ?_
    have D2 := dr_up _ _ D1 s2
    have up0 := @dr_up K F H s L c la cells le turn
    cases x with
    | true =>
      rw [if_pos rfl]
      have hla : la ≠ [] := by
        intro e
        rw [e] at ex
        simp at ex
      obtain ⟨y, la', rfl⟩ := List.exists_cons_of_ne_nil hla
      refine ⟨fun σ' H' => σ' = L2.start N__law_draw [.ref s, .int i] ∧ Dr K F H s L c la' cells y turn H', fun σ' H' ⟨z1, z2⟩ => ⟨la'.length, by rw [List.length_cons]; omega, z1, la', y, rfl, z2, fun x hx => l1 x (List.mem_cons_of_mem _ hx), l1 y List.mem_cons_self⟩, ?_⟩
      refine ws_one (w1_of (ps_dput hu1 (peW _) pe_str (pe_bm PySem.F.plainAttrs_list PySem.F.slot_list_pop PySem.F.type_list_pop mt_popAt (peW _) (pa_cons (peW _) pa_nil)) rfl) ?_)
      refine pv_at (pv_key hu up0 (pv_var 0 rfl) fun H h => ⟨_, h.hs, st1⟩) D2 fun H3 s3 => ?_
      have D3 := dr_up _ _ D2 s3
      refine ⟨.inl ⟨rfl, _, SqL.of D3.hL⟩, ?_⟩
      refine pv_at (A := Dr K F H s L c (y :: la') cells le turn) pv_int D3 fun H4 s4 => ?_
      have D4 := dr_up _ _ D3 s4
      refine ⟨L, _, 0, 0, .int y, rfl, rfl, D4.hL, by decide, by decide, ?_, rfl, ?_⟩
      · unfold seqIndex?
        simp
      have D5 := dr_list D4 ne la'
      refine pv_at (A := Dr K F H s L c la' cells le turn) (pv_var 0 rfl) D5 fun H6 s6 => ?_
      have D6 := dr_up _ _ D5 s6
      refine ⟨s, _, rfl, DPut.k (k := .inr "left") D6.hs (by show 4 < _; decide), rfl, ?_⟩
      rw [stPutL]
      exact dr_put D6 ne y turn
    | false =>
      rw [if_neg Bool.false_ne_true]
      clear ex
      have fin : ∀ H' l' t', Dr K F H s L c la cells l' t' H' → 0 ≤ l' → 0 ≤ t' → t' ≤ ((n + 1 : Nat) : Int) → ∀ r, 0 ≤ r → r < i → Q (.int r) H' := fun H' l' t' D w1 w2 w3 r w4 w5 =>
        q (.int r) H' (.p (.int r)) D.keep ⟨ne, c, la, cells, l', t', D.hs, D.hL, D.hc, l1, w1, w2, w3, p5, p6⟩ ⟨r, rfl, w4, w5⟩ (.int r)
      refine ws_cons (w1_of (ps_if (ptW _) (pssW _) pss_nil) ?_)
      refine pb_at (pb_cmp0 (g := fun i j => decide (j < i)) op_gt up0 (pv_key hu up0 (pv_var 0 rfl) fun H h => ⟨_, h.hs, st3⟩) pv_int) D2 fun x H3 ex s3 => ?_
      have D3 := dr_up _ _ D2 s3
      cases x with
      | true =>
        rw [if_pos rfl]
        have hi0 : 0 < i := by omega
        refine ws_cons (w1_set 2 hN D3 (pv_binC op_mod up0 (pv_callI (pv_key hu up0 (pv_var 0 rfl) fun H h => ⟨_, h.hs, st3⟩) B.int_) (pv_var 1 rfl) hi0) fun H4 s4 => ?_)
        have D4 := dr_up _ _ D3 s4
        refine ws_cons (w1_put hu up0 D4 (pv_var 0 rfl) (pv_binC op_fdiv up0 (pv_key hu up0 (pv_var 0 rfl) fun H h => ⟨_, h.hs, st3⟩) (pv_var 1 rfl) ⟨hi0, by omega⟩) (fun H h => h.hs) (by show 4 < 100; decide) fun H5 s5 => ?_)
        rw [stPutL]
        have D5 := dr_put (dr_up _ _ D4 s5) ne (le / i) turn
        refine ws_one (w1_ret D5 (pv_var 2 rfl) fun H6 s6 => ?_)
        exact fin H6 _ _ (dr_up _ _ D5 s6) (Int.ediv_nonneg l2 (by omega)) p3 (by omega) _ (Int.emod_nonneg _ (by omega)) (Int.emod_lt_of_pos _ hi0)
      | false =>
        rw [if_neg Bool.false_ne_true]
        refine ws_cons (w1_set 3 hN D3 (pv_bin0 op_add up0 (pv_key hu up0 (pv_var 0 rfl) fun H h => ⟨_, h.hs, st4⟩) pv_int) fun H4 s4 => ?_)
        have D4 := dr_up _ _ D3 s4
        refine ws_cons (w1_put hu up0 D4 (pv_var 0 rfl) (pv_var 3 rfl) (fun H h => h.hs) (by show 4 < 100; decide) fun H5 s5 => ?_)
        rw [stPutT]
        have D5 := dr_put (dr_up _ _ D4 s5) ne le (turn + 1)
        have up1 := @dr_up K F H s L c la cells le (turn + 1)
        have hi0 : 0 < i := by omega
        have hcc : ∀ H', Dr K F H s L c la cells le (turn + 1) H' → SqL K H' c (cells.map V.int) := fun H' h => sqL_mono reg_sub h.hc
        refine ws_cons (w1_set (v := .int (if cells = [] then 0 else cells.getD ((turn + 1) % (cells.length : Int)).toNat 0)) 4 hN D5 (pv_if (k := !decide (cells = [])) up1 (pb_neNil hu up1 (pv_key hu up1 (pv_var 0 rfl) fun H h => ⟨_, h.hs, st2⟩) hcc)
          (fun hk => ?_) (fun hk => ?_)) fun H6 s6 => ?_)
        · have hne : cells ≠ [] := by simpa using hk
          have hlp : 0 < (cells.length : Int) := by
            have := List.length_pos_iff.mpr hne
            omega
          refine pv_is (pv_ix (i := (turn + 1) % (cells.length : Int)) up1 (pv_key hu up1 (pv_var 0 rfl) fun H h => ⟨_, h.hs, st2⟩) (pv_binC op_mod up1 (pv_callI (pv_var 3 rfl) B.int_) (pv_is (pv_len up1 (pv_key hu up1 (pv_var 0 rfl) fun H h => ⟨_, h.hs, st2⟩) hcc B.len_) (by rw [List.length_map])) hlp) hcc
            (atI_ints (Int.emod_nonneg _ (by omega)) (Int.emod_lt_of_pos _ hlp))) (by rw [if_neg hne])
        · have he : cells = [] := by simpa using hk
          exact pv_is pv_int (by rw [if_pos he])
        · have D6 := dr_up _ _ D5 s6
          generalize (if cells = [] then 0 else cells.getD ((turn + 1) % (cells.length : Int)).toNat 0) = cell at *
          have b1 := Int.emod_nonneg cell (show (2147483563 : Int) ≠ 0 by decide)
          have b2 := Int.emod_lt_of_pos cell (show (0 : Int) < 2147483563 by decide)
          refine ws_cons (w1_set 5 hN D6 (pv_binC op_mod up1 (pv_callI (pv_binC op_pow up1 (pv_bin0 op_add up1 (pv_bin0 op_add up1 (pv_binC op_mod up1 (pv_callI (pv_var 4 rfl) B.int_) pv_int (by decide)) (pv_binC op_mul up1 pv_int (pv_var 3 rfl) (.inl ⟨by decide, by decide⟩))) pv_int) pv_int ⟨by decide, by decide, by omega⟩) B.int_) pv_int (by decide)) fun H7 s7 => ?_)
          have D7 := dr_up _ _ D6 s7
          generalize hmx : (cell % 2147483563 + 40692 * (turn + 1) + 24681) ^ (3 : Int).toNat % 2147483629 = mx at *
          have b3 : 0 ≤ mx := by rw [← hmx]; exact Int.emod_nonneg _ (by decide)
          have b4 : mx < 2147483629 := by rw [← hmx]; exact Int.emod_lt_of_pos _ (by decide)
          refine ws_one (w1_ret D7 (pv_binC op_mod up1 (pv_callI (pv_binC op_fdiv up1 (pv_binC op_mod up1 (pv_callI (pv_binC op_pow up1 (pv_bin0 op_add up1 (pv_var 5 rfl) (pv_binC op_mul up1 pv_int (pv_var 3 rfl) (.inl ⟨by decide, by decide⟩))) pv_int ⟨by decide, by decide, by omega⟩) B.int_) pv_int (by decide)) pv_int ⟨by decide, by decide⟩) B.int_) (pv_var 1 rfl) hi0) fun H8 s8 => ?_)
          exact fin H8 _ _ (dr_up _ _ D7 s8) l2 (by omega) (by omega) _ (Int.emod_nonneg _ (by omega)) (Int.emod_lt_of_pos _ hi0)
end
end Ac
-- part E4
set_option Elab.async false
set_option maxRecDepth 100000
set_option maxHeartbeats 4000000
set_option linter.all false
/-! Ac: defs that take the source of draws; expressions with effects on it. -/
namespace Ac
open PySem PySem.Spec PyProof.Rows L2
theorem reg_congr {own own' : Nat → List Addr} {F F' : Addr → Prop} (h : ∀ a, ((∃ i, a ∈ own i) ∨ F a) ↔ ((∃ i, a ∈ own' i) ∨ F' a)) (H : Hp) : reg own F H = reg own' F' H := by
  funext a
  unfold reg
  by_cases q : (∃ i, a ∈ own i) ∨ F a
  · rw [if_pos q, if_pos ((h a).mp q)]
  · rw [if_neg q, if_neg fun z => q ((h a).mpr z)]
def own1 (s L : Addr) : Nat → List Addr := fun i => if i = 0 then [s, L] else []
def minus (F : Addr → Prop) (s L : Addr) : Addr → Prop := fun a => F a ∧ a ≠ s ∧ a ≠ L
theorem own0_no {a : Addr} : ¬ ∃ i, a ∈ own0 i := fun ⟨i, z⟩ => nomatch (show a ∈ ([] : List Addr) from z)
theorem own1_iff {s L a : Addr} : (∃ i, a ∈ own1 s L i) ↔ (a = s ∨ a = L) := by
  constructor
  · rintro ⟨i, z⟩
    unfold own1 at z
    split at z
    · simpa using z
    · exact nomatch z
  · intro z
    exact ⟨0, by unfold own1; simpa using z⟩
theorem reg_start {F : Addr → Prop} {s L : Addr} (H : Hp) : reg (own1 s L) (minus F s L) H = reg own0 (hid2 F s L) H := reg_congr (fun a => by
  rw [own1_iff]
  unfold minus hid2
  have := @own0_no a
  constructor
  · rintro (z | z)
    · exact .inr (.inr z)
    · exact .inr (.inl z.1)
  · rintro (z | z)
    · exact (this z).elim
    · by_cases q : a = s ∨ a = L
      · exact .inl q
      · rcases z with z | z
        · exact .inr ⟨z, fun e => q (.inl e), fun e => q (.inr e)⟩
        · exact .inl z) H
theorem se_startS {P : Program} {w : World} {K : PySem.W.Frag} {mg : Str → Option Value} {base : Heap} {N : List Str} {x : Str} {sd : Stmt} {f : Addr} {cdv : Value} {A : Around} {outer : List Env} {sh : Shared} {H : Hp} {E : XK} {F : Addr → Prop} {s L : Addr} {n : Nat} {ws : List V} {ts : List T}
    (hF : ∀ a, F a → H a ≠ none) (hS : StAt K (reg own0 (hid2 F s L) H) H s L n) (hr : RTs w K mg (reg own0 (hid2 F s L) H) ws ts) :
    SE (CB P w K mg base N x sd f cdv A outer sh H E) (reg own0 (hid2 (fun _ => False) s L) H) (minus F s L) (.st s L n :: dl0 ts (N.length - 1)) (own1 s L) H (L2.start N (.ref s :: ws)) := by
  refine ⟨reg_sub, fun i a h => ?_, fun a h => hF a h.1, fun i a h z => ?_, fun i j a h1 h2 => ?_, fun i => ?_⟩
  · have := own1_iff.mp ⟨i, h⟩
    unfold reg
    rw [if_pos (.inr (.inr this))]
  · rcases own1_iff.mp ⟨i, h⟩ with e | e
    · exact z.2.1 e
    · exact z.2.2 e
  · unfold own1 at h1 h2
    split at h1
    · split at h2
      · omega
      · exact nomatch h2
    · exact nomatch h1
  · rw [reg_start]
    cases i with
    | zero => exact ⟨rfl, start_get (i := 0) rfl, hS⟩
    | succ i =>
      have hl := hr.len
      have eo : own1 s L (i + 1) = [] := rfl
      rw [eo]
      show SlOk _ _ _ _ _ _ ((dl0 ts (N.length - 1)).getD i .no) []
      by_cases q : i < ts.length
      · have e : (dl0 ts (N.length - 1)).getD i .no = .t ts[i] := by
          unfold dl0
          rw [List.getD_eq_getElem?_getD, List.getElem?_append_left (by simpa using q), List.getElem?_map, List.getElem?_eq_getElem q]
          rfl
        obtain ⟨v, h1, h2⟩ := rts_get hr (List.getElem?_eq_getElem q)
        rw [e, start_get (i := i + 1) (v := v) (by rw [List.getElem?_cons_succ]; exact h1)]
        exact ⟨rfl, v, rfl, h2⟩
      · have e : (dl0 ts (N.length - 1)).getD i .no = .no := by
          unfold dl0
          rw [List.getD_eq_getElem?_getD, List.getElem?_append_right (by simpa using q)]
          cases z : (List.replicate (N.length - 1 - ts.length) Sl.no)[i - (ts.map Sl.t).length]? with
          | none => rfl
          | some o => rw [List.getElem?_replicate] at z; split at z; cases z; rfl; cases z
        rw [e]
        exact rfl
theorem StAt.le {K : PySem.W.Frag} {G H : Hp} {s L : Addr} {n m : Nat} (h : StAt K G H s L n) (q : n ≤ m) : StAt K G H s L m := by
  obtain ⟨h0, c, la, ce, le, tu, h3, h4, h5, h6, h7, h8, h9, h10⟩ := h
  exact ⟨h0, c, la, ce, le, tu, h3, h4, h5, h6, h7, h8, by omega, h10⟩
theorem keep_start {F : Addr → Prop} {s L : Addr} {H H' : Hp} (h : Same (reg own0 (hid2 (fun _ => False) s L) H) H') : ∀ a o, a ≠ s → a ≠ L → H a = some o → H' a = some o := fun a o h1 h2 e => h a o (by
  rw [reg_in (own := own0) (fun i z => nomatch (show a ∈ ([] : List Addr) from z)) (by rintro (z | z | z); exact z; exact h1 z; exact h2 z)]
  exact e)
theorem reg_end {F : Addr → Prop} {s L : Addr} {own' : Nat → List Addr} {H : Hp} (e : own' 0 = [s, L]) : Same (reg own' (minus F s L) H) (reg own0 (hid2 F s L) H) := reg_mono fun a o h1 h2 h3 => (And.intro h3 (And.intro (fun i z => nomatch (show a ∈ ([] : List Addr) from z)) (show ¬ hid2 F s L a from fun z => by
  have h0 := h1 0
  rw [e] at h0
  have hs : a ≠ s := fun q => h0 (by rw [q]; exact List.mem_cons_self)
  have hL : a ≠ L := fun q => h0 (by rw [q]; exact List.mem_cons_of_mem _ List.mem_cons_self)
  rcases z with z | z | z
  · exact h2 ⟨z, hs, hL⟩
  · exact hs z
  · exact hL z)))
theorem fnS_body {P : Program} {w : World} {K : PySem.W.Frag} {mg : Str → Option Value} {base : Heap} {x : Str} {sd : Stmt} {N ps : List Str} {k : Nat} {I : Type} {arg : I → List T} {ok : I → Prop} {cost : I → Nat} {res : I → T → Prop} (TF : TopF K mg x sd) (S : FnScope N ps (defScope sd))
    (hlen : ∀ i, (arg i).length + 1 = ps.length)
    (hbind : ∀ (kV doc pm : Value) (an : Option Addr) (cdv ct : Value) (us : List Value), us.length = ps.length → bindArgs (PySem.W.fnOf x x (defArgs sd) (defBody sd) (defScope sd) .none kV doc pm an cdv ct) ⟨us, []⟩ = pure (ps.zip us))
    (hb : ∀ (f : Addr) (cdv : Value) (A : Around) (outer : List Env) (sh : Shared) (H : Hp) (E : XK) (i : I) (s L : Addr) (n : Nat), Room k (CB P w K mg base N x sd f cdv A outer sh H E).A → ok i → n + cost i ≤ 1000000000 →
      SW (CB P w K mg base N x sd f cdv A outer sh H E) (defBody sd) ⟨fun _ => False, fun t d => res i t ∧ ∃ m, m ≤ n + cost i ∧ d.getD 0 .no = .st s L m, fun _ => False, fun _ => False⟩ (.st s L n :: dl0 (arg i) (N.length - 1))) :
    FnS P w K mg base x (k + 1) arg ok cost res := by
  obtain ⟨f, fd, hm, FF⟩ := TF.ex
  refine ⟨f, fd, ps, hm, FF.kp, FF.binds hbind, FF.ok S (fun vs H Q E h => ?_) (fun cdv A outer sh H vs Q E hr h => ?_)⟩
  · obtain ⟨F, s, L, n, ws, i, rfl, _, _, h1, _⟩ := h
    rw [List.length_cons, h1.len, hlen]
  · obtain ⟨F, s, L, n, ws, i, rfl, hF, hS, hrt, hok, hn, q⟩ := h
    have S0 := se_startS (P := P) (base := base) (N := N) (x := x) (sd := sd) (f := f) (cdv := cdv) (A := A) (outer := outer) (sh := sh) (E := E) hF hS hrt
    refine ⟨_, pssW _, ?_⟩
    refine (hb f cdv A outer sh H E i s L n hr hok hn _ _ _ H (L2.start N (.ref s :: ws)) S0).mono (fun σ' H' ⟨dl1, own', S', e⟩ => e.elim) (fun v H' ⟨t, dl1, own', st1, S', r1, e1, m, hm, e2⟩ => ?_) (fun _ _ ⟨_, _, _, z⟩ => z.elim) (fun _ _ ⟨_, _, _, z⟩ => z.elim)
    have ok0 := S'.sl 0
    rw [e2] at ok0
    obtain ⟨eo, _, hS'⟩ := ok0
    have up := reg_end (F := F) (H := H') eo
    refine q v H' t (keep_start (F := F) S'.kp) ?_ e1 (r1.up up)
    obtain ⟨h0, c, la, ce, le, tu, h3, h4, h5, h6⟩ := hS'.le hm
    exact ⟨h0, c, la, ce, le, tu, h3, h4, sqL_mono up h5, h6⟩
/-- an expression that may draw -/
def EV (X : Cx) (e : Expr) (dl : List Sl) (Q : T → List Sl → Prop) : Prop := ∀ (Kp : Hp) (F : Addr → Prop) (own : Nat → List Addr) (H : Hp) (st : L2.St), SE X Kp F dl own H st → WE X e st H fun v H' =>
  ∃ t dl' own', SE X Kp F dl' own' H' st ∧ Same (reg own F H) (reg own' F H') ∧ RX X own' F H' v t ∧ Q t dl'
def ET (X : Cx) (e : Expr) (dl : List Sl) (Q : Bool → List Sl → Prop) : Prop := ∀ (Kp : Hp) (F : Addr → Prop) (own : Nat → List Addr) (H : Hp) (st : L2.St), SE X Kp F dl own H st → WT X e st H fun v H' =>
  ∃ dl' own', SE X Kp F dl' own' H' st ∧ Same (reg own F H) (reg own' F H') ∧ Q v dl'
section
variable {X : Cx} {a b c e : Expr} {es : List Expr} {dl dl' : List Sl} {t u r : T} {pos p : Pos} {D : DK} {Q Q' : T → List Sl → Prop}
theorem EV.mono (h : EV X e dl Q) (q : ∀ t d, Q t d → Q' t d) : EV X e dl Q' := fun Kp F own H st S => (h Kp F own H st S).mono fun _ _ ⟨t, d, o, S', s, r, z⟩ => ⟨t, d, o, S', s, r, q t d z⟩
theorem e_de (h : DE X e dl t) (q : Q t dl) : EV X e dl Q := fun Kp F own H st S => (h Kp F own H st S).mono fun _ _ ⟨s, r⟩ => ⟨t, dl, own, S.grow s, reg_up s, r, q⟩
theorem st_at {st : L2.St} {j : Nat} {v : V} (e : st.getD j none = some v) : st[j]? = some (some v) := by
  rw [List.getD_eq_getElem?_getD] at e
  cases z : st[j]? with
  | none => rw [z] at e; cases e
  | some o => rw [z] at e; simpa using e
/-- f(state, ..) -/
theorem e_call {I : Type} {arg : I → List T} {ok : I → Prop} {cost : I → Nat} {res : I → T → Prop} {x y : Str} {k k' : Nat} {P : Program} {w : World} {K : PySem.W.Frag} {mg : Str → Option Value} {base : Heap} {A : Around} {sp : Pos} {s L : Addr} {n : Nat} (j : Nat) (i : I) (G : FnS P w K mg base x k arg ok cost res) (hr : Room k' A)
    (hd : dl.getD j .no = .st s L n) (ha : DA X es dl (arg i)) (hok : ok i) (hn : n + cost i ≤ 1000000000) (q : ∀ t, res i t → Q t (dl.set j (.st s L (n + cost i))))
    (hk : k ≤ k' := by decide) (hP : X.prog = P := by rfl) (hw : X.w = w := by rfl) (hK : X.K = K := by rfl) (hm : X.mg = mg := by rfl) (hb : X.base = base := by rfl) (hA : X.A = A := by rfl) (hg : Gl X x := by rfl) (hdb : (x == ("__debug__" : Str)) = false := by decide)
    (hN : X.N[j]? = some y := by rfl) (hv : Vis X.env.scope y := by first | exact Or.inl rfl | exact Or.inr (Or.inl rfl) | exact Or.inr (Or.inr rfl)) (h1 : (y == ("__debug__" : Str)) = false := by decide) (h2 : (y == ("__classdict__" : Str)) = false := by decide)
    (he : starEach (.Name y sp :: es) X.env = (false, eval (.Name y sp) X.env) :: starEach es X.env := by rfl) (hpl : (backTo pos (starEach es X.env)).any (·.1) = false := by rfl) : EV X (.Call (.Name x p) (.Name y sp :: es) [] pos) dl Q := fun Kp F own H st S => by
  subst hP hw hK hm hb hA
  obtain ⟨f, fd, ps, hm, hkp, hb, G⟩ := G.ex
  refine we_of (pe_call G (hr.mono hk) hg hm hkp hb .nil pass0 (pa_cons (pe_var (i := j) hN hv h1 h2) (paW es) he) hdb he hpl) ?_
  have ok0 := S.sl j
  rw [hd] at ok0
  obtain ⟨eo, ev, hS⟩ := ok0
  refine ⟨_, st_at ev, ?_⟩
  refine (ha Kp F own H st S).mono fun vs H1 ⟨s1, q1⟩ => ?_
  have S1 := S.grow s1
  have ok1 := S1.sl j
  rw [hd] at ok1
  obtain ⟨_, _, hS1⟩ := ok1
  refine (show spS X.w X.K X.mg arg ok cost res (V.ref s :: (vs ++ [])) H1 _ _ from ?_)
  rw [List.append_nil]
  have hs : ∀ a, (a = s ∨ a = L) → ∃ i, a ∈ own i := fun a z => ⟨j, by rw [eo]; simpa using z⟩
  have er : ∀ H', reg own0 (hid2 (fun a => (∃ i, a ∈ own i) ∨ F a) s L) H' = reg own F H' := fun H' => reg_congr (fun a => by
    have := @own0_no a
    unfold hid2
    constructor
    · rintro (z | z | z)
      · exact (this z).elim
      · exact z
      · exact .inl (hs a z)
    · intro z
      exact .inr (.inl z)) H'
  refine ⟨fun a => (∃ i, a ∈ own i) ∨ F a, s, L, n, vs, i, rfl, fun a h => ?_, by rw [er]; exact hS1, by rw [er]; exact q1, hok, hn, fun v H' t k1 k2 k3 k4 => ?_⟩
  · rcases h with ⟨j, h⟩ | h
    · exact S1.there h
    · exact S1.fn a h
  · rw [er] at k2 k4
    have keep : ∀ a u, a ∉ own j → H1 a = some u → H' a = some u := fun a u ha e => k1 a u (fun z => ha (by rw [eo, z]; exact List.mem_cons_self)) (fun z => ha (by rw [eo, z]; exact List.mem_cons_of_mem _ List.mem_cons_self)) e
    have new : ∀ a ∈ own j, a ∈ own j ∨ H1 a = none := fun a h => .inl h
    have eown : ownS own j (own j) = own := funext fun i => by
      by_cases z : i = j
      · rw [z, ownS_same]
      · rw [ownS_ne z]
    have S2 := S1.chg (s := .st s L (n + cost i)) (l := own j) (H' := H') (st' := st) (getD_lt hd (by intro z; cases z)) keep new ev (fun _ _ => rfl) ⟨eo, rfl, by rw [eown]; exact k2⟩
    rw [eown] at S2
    refine ⟨t, _, own, S2, ?_, k4, q t k3⟩
    have := S1.regS (l := own j) keep new
    rw [eown] at this
    exact (reg_up s1).trans this
theorem s_retE (h : EV X e dl D.rt) : SX X (.Return (some e) pos) D dl := fun Kp F own H st S _ =>
  w1_of (ps_ret (peW e)) ((h Kp F own H st S).mono fun _ _ ⟨t, d, o, S', _, r, z⟩ => ⟨t, d, o, st, S', r, z⟩)
theorem s_asgE (i : Nat) {x : Str} {pos' : Pos} (hN : X.N.Nodup) (h : EV X e dl fun t d => i < d.length ∧ D.nx (d.set i (.t t))) (hx : X.N[i]? = some x := by rfl) (hl : Loc X.env.scope x := by first | exact .inl rfl | exact .inr rfl)
    (hs : swapsWith e (some (.Name x pos')) pos.line X.env = pure false := by rfl) (hfn : X.fn x = true ∨ X.env.scope.names.lookup x = some .local := by first | exact .inl rfl | exact .inr rfl) : SX X (.Assign [.Name x pos'] e pos) D dl := fun Kp F own H st S hlen =>
  w1_of (ps_set hN hx hl (peW e) hs hfn) ((h Kp F own H st S).mono fun v H1 ⟨t, d, o, S', _, r, hi, z⟩ => ⟨_, _, S'.put hi (by rw [hlen]; exact (List.getElem?_eq_some_iff.mp hx).1) r, z⟩)
theorem s_tgE {tg : Expr} (h : EV X e dl fun t d => ∃ dd is d2, t = .p dd ∧ GT X tg is d dd d2 ∧ D.nx d2) (hs : swapsWithSole [tg] e pos.line X.env = pure false := by rfl) (hw : swappedStores [tg] e X.env = pure none := by rfl)
    (h1 : (assignEach [tg] X.env).map (·.2) = [assign tg X.env] := by rfl) : SX X (.Assign [tg] e pos) D dl := fun Kp F own H st S hlen => by
  refine w1_of (ps_asg (peW e) (pgW tg) hs hw h1) ?_
  refine (h Kp F own H st S).mono fun v H1 ⟨t, d, o, S', _, r, dd, is, d2, e1, g, z⟩ => ?_
  subst e1
  exact (g Kp F o H1 st v S' hlen r).mono fun st' H' ⟨e', S2, _, _⟩ => ⟨d2, o, by rw [e']; exact S2, z⟩
theorem e_ixL {ds : List PyData} (ha : DE X a dl (.p (.list ds))) (hb : EV X b dl fun t d => ∃ i y, t = .p (.int i) ∧ atI ds i = some y ∧ Q (.p y) d) (hs : PlainIx b := by intro _ _; rfl) : EV X (.Subscript a b pos) dl Q := fun Kp F own H st S => by
  refine we_of (pe_ix ix_list (peW a) (peW b) hs) ?_
  refine (ha Kp F own H st S).mono fun x H1 ⟨s1, q1⟩ => ?_
  refine (hb Kp F own H1 st (S.grow s1)).mono fun y H2 ⟨t, d, o, S', s2, r, i, z, e1, hi, q⟩ => ?_
  subst e1
  have q1' := RT.up q1 s2
  cases q1' with
  | @lst p vs _ h1 h2 =>
    obtain ⟨v, h3, h4⟩ := atI_dpa h2 hi
    exact ⟨p, vs, i, v, rfl, int_of r, sqL_mono reg_sub h1, h3, .p z, d, o, S', (reg_up s1).trans s2, h4, q⟩
end
end Ac
-- part E5
set_option Elab.async false
set_option maxRecDepth 100000
set_option maxHeartbeats 4000000
set_option linter.all false
/-! Ac: more expressions that may draw. -/
namespace Ac
open PySem PySem.Spec PyProof.Rows L2
section
variable {X : Cx} {a b c e : Expr} {es : List Expr} {dl dl' : List Sl} {t u r : T} {pos p : Pos} {D : DK} {Q Q' : T → List Sl → Prop}
/-- the reading that holds whenever any does -/
def rAny (X : Cx) (f : Value) : List V → Hp → VK → Prop := fun xs H Q => ∀ (pins : List (Addr × Obj)) (s : Shared) (σ : L2.St) (us : List Value), Inv X pins σ H s → Vals xs us → wpAny (model X.prog X.w) X.A (call f us) (EP X pins σ Q) X.xe s
theorem cr_any' {f : Value} : CallR X f (rAny X f) := fun pins s σ H xs us Q I r h => h pins s σ us I r
theorem rAny_of {f : Value} {r : List V → Hp → VK → Prop} (h : CallR X f r) {xs : List V} {H : Hp} {Q : VK} (q : r xs H Q) : rAny X f xs H Q := fun pins s σ us I rv => h pins s σ H xs us Q I rv q
theorem e_cut {p2 : Pos} (ha : EV X a dl fun t d1 => ∃ ds, t = .p (.list ds) ∧ EV X b d1 fun u d2 => ∃ n : Nat, u = .p (.int (n : Nat)) ∧ Q (.p (.list (ds.take n))) d2) : EV X (.Subscript a (.Slice none (some b) none p2) pos) dl Q := fun Kp F own H st S => by
  refine we_of (pe_slice sl_list (peW a) po_none (po_some (peW b))) ?_
  refine (ha Kp F own H st S).mono fun v H1 ⟨t1, d1, o1, S1, s1, r1, ds, e1, hb⟩ => ?_
  subst e1
  refine (hb Kp F o1 H1 st S1).mono fun w H2 ⟨t2, d2, o2, S2, s2, r2, n, e2, q⟩ => ?_
  subst e2
  refine ⟨_, int_of r2, ?_⟩
  cases (show Dp X.K (reg o2 F H2) v (.list ds) from RT.up r1 s2) with
  | @lst l xs _ h1 h2 =>
    refine ⟨l, xs, rfl, sqL_mono reg_sub h1, fun p hp => ⟨_, d2, o2, S2.grow (same_new hp), (s1.trans s2).trans (reg_up (same_new hp)), ?_, q⟩⟩
    have e : cutV xs none (some (n : Nat)) = xs.take n := by
      unfold cutV
      rw [HT.sIx_none, HT.sIx_nat, List.drop_zero, Nat.sub_zero]
      rcases Nat.le_total n xs.length with z | z
      · rw [Nat.min_eq_left z]
      · rw [Nat.min_eq_right z, List.take_length, List.take_of_length_le z]
    rw [e]
    exact new_list S2.frs hp (dpa_take n h2)
theorem e_callB {x : Str} {id : String} (ha : EV X a dl fun t d => ∃ r, CallD1 X (.builtin id) t r ∧ Q r d) (hm : X.mg x = none) (hg : Gl X x := by rfl) (hv : bootBuiltins x = some (.builtin id) := by decide +kernel) (hn : x ≠ "__name__" := by decide) (hdb : (x == ("__debug__" : Str)) = false := by decide)
    (he : starEach [a] X.env = (false, eval a X.env) :: starEach [] X.env := by rfl) : EV X (.Call (.Name x p) [a] [] pos) dl Q := fun Kp F own H st S => by
  refine we_of (pe_callB cr_any' hg hm hv (pa_cons (peW a) pa_nil he) hn hdb he rfl) ?_
  refine (ha Kp F own H st S).mono fun v H1 ⟨t1, d1, o1, S1, s1, r1, r, ⟨r', k1, k2⟩, q⟩ => ?_
  exact rAny_of k1 (k2 o1 F H1 v _ S1.frs (r1.b reg_sub) fun z H' s2 q2 => ⟨r, d1, o1, S1.grow s2, s1.trans (reg_up s2), q2, q⟩)
theorem e_callT {x : Str} {id : String} (ha : EV X a dl fun t d => ∃ r, CallD1 X (.type id) t r ∧ Q r d) (hm : X.mg x = none) (hg : Gl X x := by rfl) (hv : bootBuiltins x = some (.type id) := by decide +kernel) (hn : x ≠ "__name__" := by decide) (hdb : (x == ("__debug__" : Str)) = false := by decide)
    (he : starEach [a] X.env = (false, eval a X.env) :: starEach [] X.env := by rfl) : EV X (.Call (.Name x p) [a] [] pos) dl Q := fun Kp F own H st S => by
  refine we_of (pe_callTy cr_any' hg hm hv (pa_cons (peW a) pa_nil he) hn hdb he rfl) ?_
  refine (ha Kp F own H st S).mono fun v H1 ⟨t1, d1, o1, S1, s1, r1, r, ⟨r', k1, k2⟩, q⟩ => ?_
  exact rAny_of k1 (k2 o1 F H1 v _ S1.frs (r1.b reg_sub) fun z H' s2 q2 => ⟨r, d1, o1, S1.grow s2, s1.trans (reg_up s2), q2, q⟩)
def rAny2 (X : Cx) (f : Value → Value → Sem Value) : R2 := fun x y H Q => ∀ (pins : List (Addr × Obj)) (s : Shared) (σ : L2.St) (u v : Value), Inv X pins σ H s → RelV x u → RelV y v → wpAny (model X.prog X.w) X.A (f u v) (EP X pins σ Q) X.xe s
theorem or_any {f : Value → Value → Sem Value} : OpR X f (rAny2 X f) := by
  intro pins s σ H x y u v Q I r1 r2 h
  first | exact h pins s σ u v I r1 r2 | exact h pins s σ v u I r2 r1 | exact h pins s σ v u I r1 r2 | exact h pins s σ u v I r2 r1
theorem rAny2_of {f : Value → Value → Sem Value} {r : R2} (h : OpR X f r) {x y : V} {H : Hp} {Q : VK} (q : r x y H Q) : rAny2 X f x y H Q := by
  intro pins s σ u v I r1 r2
  first | exact h pins s σ H x y u v Q I r1 r2 q | exact h pins s σ H x y v u Q I r1 r2 q
theorem e_bin {op : Operator} (ha : EV X a dl fun t d1 => EV X b d1 fun u d2 => ∃ r, OpD X (binaryOp op) t u r ∧ Q r d2) : EV X (.BinOp a op b pos) dl Q := fun Kp F own H st S => by
  refine we_of (pe_op or_any (peW a) (peW b)) ?_
  refine (ha Kp F own H st S).mono fun x H1 ⟨t1, d1, o1, S1, s1, r1, hb⟩ => ?_
  refine (hb Kp F o1 H1 st S1).mono fun y H2 ⟨t2, d2, o2, S2, s2, r2, r, ⟨rr, k1, k2⟩, q⟩ => ?_
  exact rAny2_of k1 (k2 o2 F H2 x y _ S2.frs ((RT.up r1 s2).b reg_sub) (r2.b reg_sub) fun z H3 s3 q3 => ⟨r, d2, o2, S2.grow s3, (s1.trans s2).trans (reg_up s3), q3, q⟩)
theorem et_cmp {op : CmpOp} {Q : Bool → List Sl → Prop} (ha : EV X a dl fun t d1 => EV X b d1 fun u d2 => ∃ k, OpD X (compareOp op) t u (.p (.bool k)) ∧ Q k d2) (hm : behindInMarks op b = false := by first | exact nomark _ | rfl) : ET X (.Compare a [op] [b] pos) dl Q := fun Kp F own H st S => by
  refine wt_of (pt_cmpR or_any (peW a) (peW b) hm) ?_
  refine (ha Kp F own H st S).mono fun x H1 ⟨t1, d1, o1, S1, s1, r1, hb⟩ => ?_
  refine (hb Kp F o1 H1 st S1).mono fun y H2 ⟨t2, d2, o2, S2, s2, r2, k, ⟨rr, k1, k2⟩, q⟩ => ?_
  exact rAny2_of k1 (k2 o2 F H2 x y _ S2.frs ((RT.up r1 s2).b reg_sub) (r2.b reg_sub) fun z H3 s3 q3 => ⟨k, bl_of q3, d2, o2, S2.grow s3, (s1.trans s2).trans (reg_up s3), q⟩)
theorem e_if (hc : ET X c dl fun k d1 => (k = true → EV X a d1 Q) ∧ (k = false → EV X b d1 Q)) : EV X (.IfExp c a b pos) dl Q := fun Kp F own H st S => by
  refine we_of (pe_ifExp (ptW c) (peW a) (peW b)) ?_
  refine (hc Kp F own H st S).mono fun x H1 ⟨d1, o1, S1, s1, h1, h2⟩ => ?_
  cases x with
  | true => rw [if_pos rfl]; exact (h1 rfl Kp F o1 H1 st S1).mono fun y H2 ⟨t, d, o, S2, s2, q⟩ => ⟨t, d, o, S2, s1.trans s2, q⟩
  | false => rw [if_neg Bool.false_ne_true]; exact (h2 rfl Kp F o1 H1 st S1).mono fun y H2 ⟨t, d, o, S2, s2, q⟩ => ⟨t, d, o, S2, s1.trans s2, q⟩
theorem et_val {Q : Bool → List Sl → Prop} (h : EV X e dl fun t d => ∃ k, t = .p (.bool k) ∧ Q k d) (he : ∀ whole, isTrue e X.env whole = (do let v ← whole; standAt e.pos; holding [v] (truthy v)) := by intro _; rfl) : ET X e dl Q := fun Kp F own H st S =>
  wt_of (pt_val (peW e) he) ((h Kp F own H st S).mono fun x H1 ⟨t, d, o, S1, s1, r, k, e1, q⟩ => by subst e1; exact ⟨k, bl_of r, d, o, S1, s1, q⟩)
theorem et_not {Q : Bool → List Sl → Prop} (h : ET X a dl fun k d => Q (!k) d) : ET X (.UnaryOp .Not a pos) dl Q := fun Kp F own H st S =>
  wt_of (pt_not (ptW a)) ((h Kp F own H st S).mono fun x H1 ⟨d, o, S1, s1, q⟩ => ⟨d, o, S1, s1, q⟩)
theorem s_ifE {th el : List Stmt} (hc : ET X c dl fun k d => (k = true → SW X th D d) ∧ (k = false → SW X el D d)) : SX X (.If c th el pos) D dl := fun Kp F own H st S _ => by
  refine w1_of (ps_if (ptW c) (pssW th) (pssW el)) ?_
  refine (hc Kp F own H st S).mono fun x H1 ⟨d, o, S1, s1, h1, h2⟩ => ?_
  cases x with
  | true => rw [if_pos rfl]; exact h1 rfl Kp F o H1 st S1
  | false => rw [if_neg Bool.false_ne_true]; exact h2 rfl Kp F o H1 st S1
end
end Ac
-- part E6
set_option Elab.async false
set_option maxRecDepth 100000
set_option maxHeartbeats 4000000
set_option linter.all false
/-! Ac: list.pop and list.append with draws inside. -/
namespace Ac
open PySem PySem.Spec PyProof.Rows L2
section
variable {X : Cx} {a b c e : Expr} {es : List Expr} {dl dl' : List Sl} {t u r : T} {pos p : Pos} {D : DK} {Q Q' : T → List Sl → Prop}
theorem seqIx_nat {i n : Nat} (h : i < n) : seqIndex? (i : Int) n = some i := by
  have h0 : ¬ (i : Int) < 0 := by omega
  have h1 : (0 : Int) ≤ i := by omega
  have h2 : (i : Int) < n := by omega
  unfold seqIndex?
  simp only [if_neg h0, decide_eq_true h1, decide_eq_true h2, Bool.and_self, if_true, Int.toNat_natCast]
/-- name.pop(e) -/
theorem e_pop (j : Nat) {x : Str} {npos apos : Pos} {ds0 : List PyData} (hd : dl.getD j .no = .ol ds0) (hb : EV X b dl fun t d => ∃ (i : Nat) (ds : List PyData) (y : PyData), t = .p (.int (i : Nat)) ∧ d.getD j .no = .ol ds ∧ ds[i]? = some y ∧ ds.length < 1000000 ∧ Q (.p y) (d.set j (.ol (ds.eraseIdx i))))
    (h : ∀ (r : V → List V → Hp → VK → Prop) (to : TE) (t : TA), MtR X "list.pop" r → PE X (.Name x npos) to → PA X [b] t → PE X (.Call (.Attribute (.Name x npos) "pop" apos) [b] [] p) (tBM X.K "list" r to t) := by intro r to t h1 h2 h3; exact pe_bm PySem.F.plainAttrs_list PySem.F.slot_list_pop PySem.F.type_list_pop h1 h2 h3)
    (hN : X.N[j]? = some x := by rfl) (hv : Vis X.env.scope x := by first | exact Or.inl rfl | exact Or.inr (Or.inl rfl)) (h1 : (x == ("__debug__" : Str)) = false := by decide) (h2 : (x == ("__classdict__" : Str)) = false := by decide)
    (hse : starEach [b] X.env = (false, eval b X.env) :: starEach [] X.env := by rfl) : EV X (.Call (.Attribute (.Name x npos) "pop" apos) [b] [] p) dl Q := fun Kp F own H st S => by
  refine we_of (h rPopAt (tVar j) _ mt_popAt (pe_var hN hv h1 h2) (pa_cons (peW b) pa_nil hse)) ?_
  have ok := S.sl j
  rw [hd] at ok
  obtain ⟨l, vs, e1, e2, h3, h4⟩ := ok
  refine ⟨_, st_at e2, .inl ⟨rfl, vs, SqL.of h3⟩, ?_⟩
  refine (hb Kp F own H st S).mono fun v H1 ⟨t, d, o, S1, s1, r1, i, ds, y, ei, hd1, hy, hz, q⟩ => ?_
  subst ei
  have ok1 := S1.sl j
  rw [hd1] at ok1
  obtain ⟨l', xs, f1, f2, f3, f4⟩ := ok1
  have el : l' = l := by rw [e2] at f2; injection f2 with z; injection z with z; exact z.symm
  subst el
  have hlen := dpa_len f4
  obtain ⟨z, hz1, hz2⟩ := dpa_get f4 hy
  have hi : i < xs.length := (List.getElem?_eq_some_iff.mp hz1).1
  refine ⟨l', xs, (i : Int), i, z, rfl, by rw [int_of r1], f3, by omega, by omega, seqIx_nat hi, hz1, ?_⟩
  have hll : l' ∈ o j := by rw [f1]; simp
  have keep : ∀ a u, a ∉ o j → H1 a = some u → upd H1 l' (.lst (xs.eraseIdx i)) a = some u := fun a u ha q => by rw [upd_ne (show a ≠ l' from fun z => ha (by rw [z]; exact hll))]; exact q
  have new : ∀ a ∈ o j, a ∈ o j ∨ H1 a = none := fun a h => .inl h
  have sr := S1.regS keep new
  exact ⟨.p y, _, _, S1.chg (s := .ol (ds.eraseIdx i)) (getD_lt hd1 (by intro z; cases z)) keep new f2 (fun _ _ => rfl) ⟨l', _, f1, rfl, upd_same, dpa_erase i (f4.up sr)⟩, s1.trans sr, hz2.up sr, q⟩
/-- name.append(e) -/
theorem s_appE (i : Nat) {x : Str} {npos apos : Pos} {ds0 : List PyData} (hd : dl.getD i .no = .ol ds0) (he : EV X e dl fun t d => ∃ (ds : List PyData) (y : PyData), t = .p y ∧ d.getD i .no = .ol ds ∧ ds.length < 100000 ∧ D.nx (d.set i (.ol (ds ++ [y]))))
    (h : ∀ (r : V → List V → Hp → VK → Prop) (to : TE) (t : TA), MtR X "list.append" r → PE X (.Name x npos) to → PA X [e] t → PE X (.Call (.Attribute (.Name x npos) "append" apos) [e] [] p) (tBM X.K "list" r to t) := by intro r to t h1 h2 h3; exact pe_bm PySem.F.plainAttrs_list PySem.F.slot_list_append PySem.F.type_list_append h1 h2 h3)
    (hN : X.N[i]? = some x := by rfl) (hv : Vis X.env.scope x := by first | exact Or.inl rfl | exact Or.inr (Or.inl rfl)) (h1 : (x == ("__debug__" : Str)) = false := by decide) (h2 : (x == ("__classdict__" : Str)) = false := by decide)
    (hs : swapsWith (.Call (.Attribute (.Name x npos) "append" apos) [e] [] p) none pos.line X.env = pure false := by rfl) (hse : starEach [e] X.env = (false, eval e X.env) :: starEach [] X.env := by rfl) : SX X (.Expr (.Call (.Attribute (.Name x npos) "append" apos) [e] [] p) pos) D dl := fun Kp F own H st S hlen => by
  refine w1_of (ps_expr (h rAppend (tVar i) _ mt_append (pe_var hN hv h1 h2) (pa_cons (peW e) pa_nil hse)) hs) ?_
  have ok := S.sl i
  rw [hd] at ok
  obtain ⟨l, vs, e1, e2, h3, h4⟩ := ok
  refine ⟨_, st_at e2, .inl ⟨rfl, vs, SqL.of h3⟩, ?_⟩
  refine (he Kp F own H st S).mono fun w H1 ⟨t, d, o, S1, s1, r1, ds, y, ei, hd1, hz, q⟩ => ?_
  subst ei
  have ok1 := S1.sl i
  rw [hd1] at ok1
  obtain ⟨l', xs, f1, f2, f3, f4⟩ := ok1
  have el : l' = l := by rw [e2] at f2; injection f2 with z; injection z with z; exact z.symm
  subst el
  refine ⟨l', xs, w, rfl, rfl, f3, by rw [dpa_len f4]; exact Nat.lt_of_lt_of_le hz (by decide), ?_⟩
  have keep : ∀ a u, a ∉ o i → H1 a = some u → upd H1 l' (.lst (xs ++ [w])) a = some u := fun a u ha q => by rw [upd_ne (show a ≠ l' from fun z => ha (by rw [f1, z]; simp))]; exact q
  have new : ∀ a ∈ o i, a ∈ o i ∨ H1 a = none := fun a h => .inl h
  have sr := S1.regS keep new
  exact ⟨_, _, S1.chg (s := .ol (ds ++ [y])) (getD_lt hd1 (by intro z; cases z)) keep new f2 (fun _ _ => rfl) ⟨l', xs ++ [w], f1, rfl, upd_same, dpa_snoc (f4.up sr) (Dp.up r1 sr)⟩, q⟩
end
end Ac
-- part C17
set_option Elab.async false
set_option maxRecDepth 100000
set_option maxHeartbeats 4000000
set_option linter.all false
namespace Ac
open PySem PySem.Spec PyProof.Rows L2
theorem eqv_nil (l : List PyData) : PyData.eqv (.list l) (.list []) = decide (l = []) := by
  cases l <;> simp [PyData.eqv, PyData.eqvAll]
theorem perm_pick {α : Type} : ∀ (l : List α) (k : Nat) (h : k < l.length), (l[k] :: l.eraseIdx k).Perm l
  | x :: l, 0, _ => List.Perm.refl _
  | x :: l, k + 1, h => by
    have := perm_pick l k (by simpa using h)
    exact (List.Perm.swap _ _ _).trans (List.Perm.cons x this)
section
variable {P : Program} {w : World} {K : PySem.W.Frag} {mg : Str → Option Value} {base : Heap}
abbrev sd__law_pick : Stmt := top 76
abbrev N__law_pick : List Str := ["_law_state", "_law_several"]
theorem sc__law_pick : FnScope N__law_pick ["_law_state", "_law_several"] (defScope sd__law_pick) := ⟨rfl, rfl, rfl, by decide +kernel, rfl, by decide +kernel, by decide +kernel⟩
def resPick (ds : List PyData) (t : T) : Prop := ∃ d, d ∈ ds ∧ t = .p d
abbrev F_law_pick (P : Program) (w : World) (K : PySem.W.Frag) (mg : Str → Option Value) (base : Heap) : Prop := FnS P w K mg base "_law_pick" 2 (fun i : List PyData => [.p (.list i)]) (fun i => 0 < i.length ∧ i.length < 100000) (fun _ => 1) resPick
theorem ok__law_pick (TF : TopF K mg "_law_pick" sd__law_pick) (B : Bi mg) (G1 : F_law_draw P w K mg base) : F_law_pick P w K mg base := by
  refine fnS_body TF sc__law_pick (fun _ => rfl) (fun _ _ _ _ _ _ us hl => match us, hl with | [_, _], _ => rfl) fun f cdv A outer sh H E i s L n hr hok hn => ?_
  obtain ⟨h1, h2⟩ := hok
  refine sw_one (s_retE (e_ixL (dv 1 rfl) (e_call 0 (i.length : Int) G1 hr rfl (da_cons (d_len (k := true) (dv 1 rfl) rfl B.len_) da_nil) ⟨by omega, by omega⟩ hn fun t ht => ?_)))
  obtain ⟨r, rfl, h0, h3⟩ := ht
  have hk : r.toNat < i.length := by omega
  refine ⟨r, i[r.toNat], rfl, ?_, ⟨_, List.getElem_mem hk, rfl⟩, _, Nat.le_refl _, rfl⟩
  have e := atI_nat i r.toNat
  rw [Int.toNat_of_nonneg h0] at e
  rw [e]
  exact List.getElem?_eq_getElem hk
abbrev sd__law_mixed : Stmt := top 77
abbrev N__law_mixed : List Str := ["_law_state", "_law_several", "_law_left", "_law_found"]
theorem sc__law_mixed : FnScope N__law_mixed ["_law_state", "_law_several"] (defScope sd__law_mixed) := ⟨rfl, rfl, rfl, by decide +kernel, rfl, by decide +kernel, by decide +kernel⟩
def resMix (ds : List PyData) (t : T) : Prop := ∃ es, t = .p (.list es) ∧ es.Perm ds
def cMix (s L : Addr) (n : Nat) (ds : List PyData) (q : List PyData × List PyData) : List Sl := [.st s L (n + q.2.length), .t (.p (.list ds)), .ol q.1, .ol q.2]
abbrev F_law_mixed (P : Program) (w : World) (K : PySem.W.Frag) (mg : Str → Option Value) (base : Heap) : Prop := FnS P w K mg base "_law_mixed" 2 (fun i : List PyData => [.p (.list i)]) (fun i => i.length < 1000 ∧ ∀ d ∈ i, Lay 5 d) (fun i => i.length) resMix
theorem ok__law_mixed (TF : TopF K mg "_law_mixed" sd__law_mixed) (B : Bi mg) (G1 : F_law_draw P w K mg base) : F_law_mixed P w K mg base := by
  refine fnS_body TF sc__law_mixed (fun _ => rfl) (fun _ _ _ _ _ _ us hl => match us, hl with | [_, _], _ => rfl) fun f cdv A outer sh H E i s L n hr hok hn => ?_
  have hu := hr.units
  have hN := sc__law_mixed.nd
  obtain ⟨h1, h2⟩ := hok
  refine sw_cons (s_par 2 3 rfl hN (dfs_own (df_list (dv 1 rfl).lend B.list_) (dfs_own (df_lst dp_nil (Nat.zero_le _)) dfs_nil)) ?_)
  refine sw_while (S := List PyData × List PyData) (cMix s L n i) (fun q => (q.2 ++ q.1).Perm i) (fun q => q.1.length) (i, []) (.refl _) (List.Perm.refl _) (fun q hq => ?_)
  obtain ⟨l, fnd⟩ := q
  have hq' : (fnd ++ l).Perm i := hq
  have hlen := hq'.length_eq
  rw [List.length_append] at hlen
  have hll : Lay 6 (.list l) := lay_lst fun d hd => h2 d (hq'.mem_iff.mp (List.mem_append_right _ hd))
  refine ⟨!decide (l = []), (dt_cmp (o_ne hu (hll.sh (by omega)) ((lay_lst (n := 0) (ds := []) fun _ h => nomatch h).sh (by omega))) (dvo 2 rfl) (d_ls dp_nil).lend).is (by rw [eqv_nil]), fun hk => ?_, fun hk => ?_⟩
  · have hne : l ≠ [] := by simpa using hk
    have hpos := List.length_pos_iff.mpr hne
    refine sw_one (s_appE 3 rfl (e_pop 2 rfl (e_call 0 (l.length : Int) G1 hr rfl (da_cons (d_lenO (dvo 2 rfl) rfl B.len_) da_nil) ⟨by omega, by omega⟩ (by show n + fnd.length + 1 ≤ _; have : n + i.length ≤ 1000000000 := hn; omega) fun t ht => ?_)))
    obtain ⟨r, rfl, h0, h3⟩ := ht
    have hk : r.toNat < l.length := by omega
    refine ⟨r.toNat, l, l[r.toNat], by rw [Int.toNat_of_nonneg h0], rfl, List.getElem?_eq_getElem hk, by omega, fnd, _, rfl, rfl, by omega, (l.eraseIdx r.toNat, fnd ++ [l[r.toNat]]), ?_, ?_, ?_⟩
    · have e : n + (fnd ++ [l[r.toNat]]).length = n + fnd.length + 1 := by rw [List.length_append, List.length_singleton]; omega
      unfold cMix
      show Wk _ [.st s L (n + (fnd ++ [l[r.toNat]]).length), _, _, _]
      rw [e]
      exact .refl _
    · show (fnd ++ [l[r.toNat]] ++ l.eraseIdx r.toNat).Perm i
      rw [List.append_assoc]
      exact ((List.Perm.append_left fnd (perm_pick l _ hk)).trans hq')
    · show (l.eraseIdx r.toNat).length < l.length
      rw [List.length_eraseIdx]
      rw [if_pos hk]
      omega
  · have he : l = [] := by simpa using hk
    subst he
    rw [List.append_nil] at hq'
    refine sw_weak (.ol 3 (.refl _) rfl) (sw_one (s_ret (dv 3 rfl) ⟨⟨fnd, rfl, hq'⟩, _, ?_, rfl⟩))
    rw [hq'.length_eq]
    exact Nat.le_refl _
end
end Ac
-- part E7
set_option Elab.async false
set_option maxRecDepth 100000
set_option maxHeartbeats 4000000
set_option linter.all false
/-! Ac: loops over what was drawn; comprehensions whose items draw. -/
namespace Ac
open PySem PySem.Spec PyProof.Rows L2
/-- what is walked, told by draws -/
def EI (X : Cx) (tg e : Expr) (dl : List Sl) (Q : List PyData → List Sl → Prop) : Prop := ∀ (Kp : Hp) (F : Addr → Prop) (own : Nat → List Addr) (H : Hp) (st : L2.St), SE X Kp F dl own H st → WI X tg e st H fun J H1 => ∃ ds dl' own',
  SE X Kp F dl' own' H1 st ∧ Same (reg own F H) (reg own' F H1) ∧ (∃ (G : Hp → Prop) (Y : Nat → Hp → V → Hp → Prop), Walk J ds.length G Y ∧ (∀ H2, Same (reg own' F H1) H2 → G H2) ∧
    ∀ (i : Nat) (H2 : Hp) (x : V) (H3 : Hp) (d : PyData), ds[i]? = some d → Y i H2 x H3 → Same H2 H3 ∧ ∀ R, Same (reg own' F H1) R → (∀ a o, H2 a = none → H3 a = some o → R a = some o) → Dp X.K R x d) ∧ Q ds dl'
section
variable {X : Cx} {e a b c : Expr} {es : List Expr} {dl dl' : List Sl} {t u r : T} {pos p : Pos} {D : DK} {Q : T → List Sl → Prop}
theorem ei_di {tg : Expr} {ds : List PyData} {Q : List PyData → List Sl → Prop} (h : DI X tg e dl ds) (q : Q ds dl) : EI X tg e dl Q := fun Kp F own H st S =>
  WI.mono (h Kp F own H st S) fun J H1 ⟨s1, G, Y, W, hG, hY⟩ => ⟨ds, dl, own, S.grow s1, reg_up s1, ⟨G, Y, W, hG, hY⟩, q⟩
theorem ei_range1 {tg : Expr} {Q : List PyData → List Sl → Prop} (h : EV X a dl fun t d => ∃ n, t = .p (.int n) ∧ -(2 ^ 62) ≤ n ∧ n < 2 ^ 62 ∧ Q (rgD 0 n.toNat) d) (hm : X.mg "range" = none) (hg : Gl X "range" := by rfl) (hs : starEach [a] X.env = [(false, eval a X.env)] := by rfl) : EI X tg (.Call (.Name "range" p) [a] [] pos) dl Q := fun Kp F own H st S => by
  refine wi_of (pi_range1 hg hm (pa_cons (peW a) pa_nil hs) hs) ?_
  refine (h Kp F own H st S).mono fun v H1 ⟨t, d, o, S1, s1, r1, n, e1, h1, h2, q⟩ => ?_
  subst e1
  refine ⟨n, by rw [int_of r1], h1, h2, _, d, o, S1, s1, ⟨fun _ => True, YFn fun i => .int (0 + i), by rw [rgD_len]; exact walk_range, fun _ _ => True.intro, fun i H2 x H3 d hd ⟨e1, e2⟩ => ?_⟩, q⟩
  subst e1 e2
  rw [rgD_get hd]
  exact ⟨Same.refl _, fun R _ _ => .int _⟩
theorem sw_forE {S : Type} {tg it : Expr} {body rest : List Stmt} (canon : S → List Sl) (hi : EI X tg it dl fun ds d0 => ∃ (Iv : Nat → S → Prop) (s0 : S), Wk d0 (canon s0) ∧ Iv 0 s0 ∧
    (∀ (i : Nat) (d : PyData) (s : S), ds[i]? = some d → Iv i s → ∃ is dl2, GT X tg is (canon s) d dl2 ∧ SW X body ⟨fun d => ∃ s', Wk d (canon s') ∧ Iv (i + 1) s', D.rt, fun _ => False, fun _ => False⟩ dl2) ∧
    (∀ s, Iv ds.length s → SW X rest D (canon s))) (hc : X.calm = true := by rfl) (hp : PassesOwn (model X.prog X.w) X.A X.env X.xe := by exact PassesOwn.never) (hs : ∀ x, foldedSetIterable it X.env x = pure x := by intro _; rfl) : SW X (.For tg it body [] pos :: rest) D dl := by
  refine sw_cons fun Kp F own H st S hlen => ?_
  refine w1_of (ps_for hp hc (piW tg it) (pgW tg) (pssW body) hs) ?_
  refine WI.mono (hi Kp F own H st S) fun J H1 ⟨ds, d0, own, S1, s1, ⟨G, Y, W, hG, hY⟩, Iv, s0, hw, h0, step, hend⟩ => ?_
  obtain ⟨S1, k1⟩ := S1.all
  obtain ⟨own0', S0⟩ := S1.weak hw
  have sub : Same (reg own F H1) (wo own H1) := fun a o q => by
    obtain ⟨q1, q2, _⟩ := reg_some q
    rw [wo_in q2]; exact q1
  refine for_it W (fun i σ H2 => ∃ s own1, SE X (wo own H1) F (canon s) own1 H2 σ ∧ Iv i s) ⟨s0, own0', S0, h0⟩ ?_ ?_ ?_
  · rintro i σ H2 _ ⟨s, own1, S2, _⟩
    exact hG H2 (sub.trans S2.kp)
  · rintro i x σ H2 H3 hi ⟨s, own1, S2, hv⟩ y
    obtain ⟨d, hd⟩ : ∃ d, ds[i]? = some d := ⟨ds[i], List.getElem?_eq_getElem hi⟩
    obtain ⟨s3, hx⟩ := hY i H2 x H3 d hd y
    have S3 := S2.grow s3
    have hx' : Dp X.K (reg own1 F H3) x d := hx _ (fun a o q => by
      obtain ⟨_, _, q3⟩ := reg_some q
      have q4 := sub a o q
      rw [reg_in (fun j z => by rw [S3.fr j a z] at q4; cases q4) q3]
      exact S3.kp a o q4) fun a o h1 h2 => by
        rw [reg_in (S2.fresh h1).1 (S2.fresh h1).2]
        exact h2
    obtain ⟨is, dl2, hgt, hb⟩ := step i d s hd hv
    intro pins s' u I r
    refine (hgt (wo own H1) F own1 H3 σ x S3 I.len hx').mono (fun σ4 H4 ⟨e4, S4, _, _⟩ => ?_) pins s' u I r
    subst e4
    refine (hb (wo own H1) F own1 H4 σ4 S4).mono (fun σ5 H5 ⟨d5, o5, S5, s5, w5, q5⟩ => ?_) (fun v H5 ⟨t, d5, o5, st5, S5, r5, q5⟩ => ⟨t, d5, o5, st5, S5.base k1, r5, q5⟩) (fun _ _ ⟨_, _, _, z⟩ => z.elim) (fun _ _ ⟨_, _, _, z⟩ => z.elim)
    obtain ⟨o6, S6⟩ := S5.weak w5
    exact ⟨s5, o6, S6, q5⟩
  · rintro σ H2 ⟨s, own1, S2, hv⟩
    exact ⟨canon s, own1, S2.base k1, hend s hv⟩
theorem SE.rekp {Kp : Hp} {F : Addr → Prop} {own : Nat → List Addr} {H : Hp} {st : L2.St} {D : Addr} {o : HO} (S : SE X Kp F dl own H st) (hD : H D = some o) (hF : F D) : SE X (upd Kp D o) F dl own H st :=
  ⟨fun a u q => by
    by_cases z : a = D
    · subst z; rw [upd_same] at q; rw [hD]; exact q
    · rw [upd_ne z] at q; exact S.kp a u q, fun i a h => by rw [upd_ne (fun z => S.nf i a h (by rw [z]; exact hF))]; exact S.fr i a h, S.fn, S.nf, S.dis, S.sl⟩
/-- the slots outside a block again -/
structure Agree (vs : List Nat) (d d' : List Sl) : Prop where
  out : ∀ i, i ∉ vs → d.getD i .no = d'.getD i .no
  inn : ∀ i ∈ vs, slFree (d.getD i .no) = true ∧ d'.getD i .no = .no
theorem SE.unwipe {Kp : Hp} {F : Addr → Prop} {own : Nat → List Addr} {H : Hp} {st st4 : L2.St} {vs : List Nat} (S : SE X Kp F dl own H st4) (hw : L2.wipe st4 vs = L2.wipe st vs) (ag : Agree vs dl dl') : SE X Kp F dl' own H st :=
  ⟨S.kp, S.fr, S.fn, S.nf, S.dis, fun i => by
    by_cases m : i ∈ vs
    · obtain ⟨h1, h2⟩ := ag.inn i m
      rw [h2]
      exact free_own (S.sl i) h1
    · have e : st4.getD i none = st.getD i none := by
        have := congrArg (fun l => l[i]?) hw
        simp only [wipe_out m] at this
        rw [List.getD_eq_getElem?_getD, List.getD_eq_getElem?_getD, this]
      rw [← ag.out i m, ← e]
      exact S.sl i⟩
inductive All2 {α β : Type} (R : α → β → Prop) : List α → List β → Prop
  | nil : All2 R [] []
  | snoc {xs : List α} {ys : List β} {x : α} {y : β} : All2 R xs ys → R x y → All2 R (xs ++ [x]) (ys ++ [y])
end
end Ac
-- part E8
set_option Elab.async false
set_option maxRecDepth 100000
set_option maxHeartbeats 4000000
set_option linter.all false
/-! Ac: comprehensions whose items draw. -/
namespace Ac
open PySem PySem.Spec PyProof.Rows L2
section
variable {X : Cx} {e a b c : Expr} {es : List Expr} {dl dl' : List Sl} {t u r : T} {pos p : Pos} {D : DK} {Q : T → List Sl → Prop}
theorem wipe_twice' (st st4 : L2.St) (vs is : List Nat) (his : ∀ i ∈ is, i ∈ vs) (w4 : ∀ ws, (∀ i ∈ is, i ∈ ws) → L2.wipe st4 ws = L2.wipe (L2.wipe st vs) ws) : L2.wipe st4 vs = L2.wipe st vs := (w4 _ his).trans (wipe_twice st vs)
/-- what must hold of a block that draws -/
structure LcOk (X : Cx) (elt tg : Expr) (scope : Scope) (vs : List Nat) {A : Type} (enc : A → PyData) (R : A → PyData → Prop) (xs : List A) (dlc : Nat → List Sl) (dl1 : Nat → A → List Sl) : Prop where
  free : ∀ k, ∀ i ∈ vs, slFree ((dlc k).getD i .no) = true
  tgt : ∀ (k : Nat) (s : Shared) (H : Hp) (C : Addr) (cl : List (Str × Addr)) (fp : List Addr) (x : A), x ∈ xs → ∃ is : List Nat, (∀ i ∈ is, i ∈ vs) ∧ GT (BK X s H scope C cl fp) tg is (wipeS (dlc k) vs) (enc x) (dl1 k x)
  el : ∀ (k : Nat) (s : Shared) (H : Hp) (C : Addr) (cl : List (Str × Addr)) (fp : List Addr) (x : A), k < xs.length → x ∈ xs → EV (BK X s H scope C cl fp) elt (dl1 k x) fun t d => ∃ y, t = .p y ∧ R x y ∧ Agree vs d (dlc (k + 1))
  few : xs.length ≤ 100000
theorem all2_len {α β : Type} {R : α → β → Prop} {xs : List α} {ys : List β} (h : All2 R xs ys) : xs.length = ys.length := by
  induction h with
  | nil => rfl
  | snoc _ _ ih => rw [List.length_append, List.length_append, ih]; rfl
theorem e_lc {elt tg it : Expr} {scope : Scope} {onm : List (Str × Nat)} {A : Type} {enc : A → PyData} {R : A → PyData → Prop} (hN : X.N.Nodup) (ok : BlkOk X.N X.env.scope scope onm)
    (hi : EI X tg it dl fun ds d0 => ∃ (xs : List A) (dlc : Nat → List Sl) (dl1 : Nat → A → List Sl), ds = xs.map enc ∧ d0 = dlc 0 ∧ LcOk X elt tg scope (onm.map (·.2)) enc R xs dlc dl1 ∧ ∀ ys, All2 R xs ys → Q (.p (.list ys)) (dlc xs.length))
    (hs : ∀ x, foldedSetIterable it X.env x = pure x := by intro _; rfl) (hc : X.calm = true := by rfl) : EV X (.ListComp elt [⟨tg, it, [], 0⟩] scope pos) dl Q := fun Kp F own0' H st S => fun pins sh I => by
  refine (pe_lc hc hN (piW tg it) ok pgB ptB peB hs).run pins sh st H _ I ?_
  have hlen := I.len
  refine WI.mono (hi Kp F own0' H st S) fun J H1 ⟨ds, d0, own, S1, s1, ⟨G, Y, W, hG, hY⟩, xs, dlc, dl1, e1, e2, lc, hq⟩ => ?_
  subst e1 e2
  intro D hD
  have fD := S1.fresh hD
  have kD : Kp D = none := S1.kp.free hD
  have n : xs.length = (xs.map enc).length := (List.length_map _).symm
  rw [← n] at W
  refine lc_it (H1 := H1) (D := D) (σ := st) (vs := onm.map (·.2)) (g := gB X scope tg) (tt := tB2 X scope []) (te := eB X scope elt) (Qd := fun H' => ∃ t dl' own', SE X Kp F dl' own' H' st ∧ Same (reg own0' F H) (reg own' F H') ∧ RX X own' F H' (.ref D) t ∧ Q t dl') W
    (fun i H2 => ∃ ownI acc ys, SE X Kp (fun a => F a ∨ a = D) (dlc i) ownI H2 st ∧ Same (reg own F H1) (reg ownI (fun a => F a ∨ a = D) H2) ∧ H2 D = some (.lst acc) ∧ DpAll X.K (reg ownI (fun a => F a ∨ a = D) H2) acc ys ∧ All2 R (xs.take i) ys) ?_ ?_ ?_ ?_
  · refine ⟨own, [], [], S1.hide hD, reg_mono fun a o h1 h2 h3 => ?_, upd_same, .nil, by rw [List.take_zero]; exact .nil⟩
    have ne : a ≠ D := fun e => by rw [e, hD] at h3; cases h3
    exact ⟨by rw [upd_ne ne]; exact h3, h1, fun q => q.elim h2 ne⟩
  · rintro i H2 _ ⟨ownI, acc, ys, S2, s2, _⟩
    exact hG H2 (s2.trans reg_sub)
  · rintro i x H2 H3 hi ⟨ownI, acc, ys, S2, s2, hD2, hacc, hys⟩ y
    obtain ⟨z, hz'⟩ : ∃ z, xs[i]? = some z := ⟨xs[i], List.getElem?_eq_getElem hi⟩
    have hm : z ∈ xs := List.mem_of_getElem? hz'
    obtain ⟨s3, hx⟩ := hY i H2 x H3 (enc z) (by rw [List.getElem?_map, hz']; rfl) y
    have S3 := S2.grow s3
    have hx' : Dp X.K (reg ownI (fun a => F a ∨ a = D) H3) x (enc z) := hx _ (s2.trans (reg_up s3)) fun a o h1 h2 => by
      rw [reg_in (S2.fresh h1).1 (S2.fresh h1).2]
      exact h2
    intro s' H0 C cl fp
    obtain ⟨is, his, hgt⟩ := lc.tgt i s' H0 C cl fp z hm
    have Sw : SE (BK X s' H0 scope C cl fp) Kp (fun a => F a ∨ a = D) (wipeS (dlc i) (onm.map (·.2))) ownI H3 (L2.wipe st (onm.map (·.2))) := (S3.wipe (lc.free i)).cx rfl rfl rfl
    refine (hgt Kp _ ownI H3 _ x Sw (by rw [wipe_length]; exact hlen) hx').mono fun st4 H4 ⟨e4, S4, l4, w4⟩ => ?_
    subst e4
    have hw4 := wipe_twice' st st4 _ _ his w4
    refine ⟨hw4, fun s5 H05 C5 cl5 fp5 => ?_⟩
    refine (dts_nil Kp _ ownI H4 st4 ((S4.cx rfl rfl rfl : SE (BK X s5 H05 scope C5 cl5 fp5) _ _ _ _ _ _))).mono fun bb H5 ⟨s5', e5⟩ => ?_
    subst e5
    rw [if_pos rfl]
    intro s6 H06 C6 cl6 fp6
    have hD5 : H5 D = some (.lst acc) := s5' _ _ (s3 _ _ hD2)
    have S5 : SE (BK X s6 H06 scope C6 cl6 fp6) Kp (fun a => F a ∨ a = D) (dl1 i z) ownI H5 st4 := (S4.grow s5').cx rfl rfl rfl
    refine (lc.el i s6 H06 C6 cl6 fp6 z hi hm (upd Kp D (.lst acc)) _ ownI H5 st4 (S5.rekp hD5 (.inr rfl))).mono fun v H6 ⟨t, d6, own6, S6, s6', r6, y, ey, hR, ag⟩ => ?_
    subst ey
    have hD6 : H6 D = some (.lst acc) := S6.kp D _ upd_same
    have S7 : SE X Kp (fun a => F a ∨ a = D) (dlc (i + 1)) own6 H6 st := ((S6.base (same_new kD)).unwipe hw4 ag).cx rfl rfl rfl
    have eqr : ∀ o, reg own6 (fun a => F a ∨ a = D) (upd H6 D o) = reg own6 (fun a => F a ∨ a = D) H6 := fun o => by
      funext a
      by_cases e : a = D
      · subst e
        unfold reg
        rw [if_pos (.inr (.inr rfl)), if_pos (.inr (.inr rfl))]
      · unfold reg
        rw [upd_ne e]
    have up : Same (reg ownI (fun a => F a ∨ a = D) H2) (reg own6 (fun a => F a ∨ a = D) H6) := (reg_up (s3.trans s5')).trans s6'
    have hal : DpAll X.K (reg own6 (fun a => F a ∨ a = D) H6) acc ys := hacc.up up
    refine ⟨acc, hD6, ?_, own6, _, ys ++ [y], S7.hidden (.inr rfl) kD, ?_, upd_same, ?_, ?_⟩
    · rw [dpa_len hal, ← all2_len hys, List.length_take]
      have := lc.few
      exact Nat.lt_of_le_of_lt (show min i xs.length ≤ 100000 by omega) (by decide)
    · rw [eqr]; exact s2.trans up
    · rw [eqr]; exact dpa_snoc hal r6
    · rw [take_snoc hz']; exact .snoc hys hR
  · rintro H2 ⟨ownI, acc, ys, S2, s2, hD2, hacc, hys⟩
    rw [List.take_length] at hys
    have fD2 : ∀ i, D ∉ ownI i := fun i z => S2.nf i D z (.inr rfl)
    have sr : Same (reg ownI (fun a => F a ∨ a = D) H2) (reg ownI F H2) := reg_mono fun a o h1 h2 h3 => ⟨h3, h1, fun q => h2 (.inl q)⟩
    refine ⟨.p (.list ys), dlc xs.length, ownI, ⟨S2.kp, S2.fr, fun a h => S2.fn a (.inl h), fun i a h q => S2.nf i a h (.inl q), S2.dis, fun i => (S2.sl i).up sr fun a o _ q => q⟩, s1.trans (s2.trans sr), .lst (SqL.of (by rw [reg_in fD2 fD.2]; exact hD2)) (hacc.up sr), hq ys hys⟩
end
end Ac
-- part E9
set_option Elab.async false
set_option maxRecDepth 100000
set_option maxHeartbeats 4000000
set_option linter.all false
/-! Ac: dicts with text keys are made. -/
namespace Ac
open PySem PySem.Spec PyProof.Rows L2
theorem nk1 : ¬ ((Sum.inr "sides" : Key) = .inr "many") := kne (by decide +kernel)
theorem nk2 : ¬ ((Sum.inr "sides" : Key) = .inr "joined") := kne (by decide +kernel)
theorem nk3 : ¬ ((Sum.inr "many" : Key) = .inr "joined") := kne (by decide +kernel)
theorem nk4 : ¬ ((Sum.inr "scope" : Key) = .inr "tops") := kne (by decide +kernel)
theorem nk5 : ¬ ((Sum.inr "scope" : Key) = .inr "most") := kne (by decide +kernel)
theorem nk6 : ¬ ((Sum.inr "scope" : Key) = .inr "stands") := kne (by decide +kernel)
theorem nk7 : ¬ ((Sum.inr "tops" : Key) = .inr "most") := kne (by decide +kernel)
theorem nk8 : ¬ ((Sum.inr "tops" : Key) = .inr "stands") := kne (by decide +kernel)
theorem nk9 : ¬ ((Sum.inr "most" : Key) = .inr "stands") := kne (by decide +kernel)
theorem merge3 {a b c : Key} {x y z : V} (h1 : ¬ a = b) (h2 : ¬ a = c) (h3 : ¬ b = c) : mergeK [] [(a, x), (b, y), (c, z)] = [(a, x), (b, y), (c, z)] := by
  simp [mergeK, putK, h1, h2, h3]
theorem merge4 {a b c d : Key} {x y z v : V} (h1 : ¬ a = b) (h2 : ¬ a = c) (h3 : ¬ a = d) (h4 : ¬ b = c) (h5 : ¬ b = d) (h6 : ¬ c = d) : mergeK [] [(a, x), (b, y), (c, z), (d, v)] = [(a, x), (b, y), (c, z), (d, v)] := by
  simp [mergeK, putK, h1, h2, h3, h4, h5, h6]
section
variable {X : Cx} {e1 e2 e3 e4 : Expr} {dl : List Sl} {pos p1 p2 p3 p4 : Pos} {j1 j2 j3 j4 : Nat}
/-- a new empty dict hidden beside the state -/
theorem SE.hideN {Kp : Hp} {F : Addr → Prop} {own : Nat → List Addr} {H : Hp} {st : L2.St} {p : Addr} (S : SE X Kp F dl own H st) (hp : H p = none) : SE X (upd Kp p (.dK [])) (fun a => F a ∨ a = p) dl own (upd H p (.dK [])) st :=
  (S.hide hp).rekp upd_same (.inr rfl)
theorem hid_reg {own : Nat → List Addr} {F : Addr → Prop} {p : Addr} {H : Hp} : Same (reg own (fun a => F a ∨ a = p) H) (reg own F H) := reg_mono fun a o h1 h2 h3 => ⟨h3, h1, fun q => h2 (.inl q)⟩
theorem d_scope {s m : Int} {d : PyData} (h1 : DE X e1 dl (.p (.int s))) (h2 : DE X e2 dl (.p (.int m))) (h3 : DE X e3 dl (.p d)) : DE X (.Dict [some (.Constant (.str "sides") j1 p1), some (.Constant (.str "many") j2 p2), some (.Constant (.str "joined") j3 p3)] [e1, e2, e3] pos) dl (.scope s m d) := fun Kp F own H st S => by
  refine we_of (pe_disp (pps_cons pe_str (peW e1) (pps_cons pe_str (peW e2) (pps_cons pe_str (peW e3) pps_nil))) rfl rfl (by simp) (by show 3 ≤ 15; decide)) ?_
  intro p hp
  have S0 := S.hideN hp
  refine (h1 _ _ own _ st S0).mono fun v1 H1 ⟨s1, r1⟩ => ?_
  refine (h2 _ _ own _ st (S0.grow s1)).mono fun v2 H2 ⟨s2, r2⟩ => ?_
  refine (h3 _ _ own _ st ((S0.grow s1).grow s2)).mono fun v3 H3 ⟨s3, r3⟩ => ?_
  have hp3 : H3 p = some (.dK []) := s3 _ _ (s2 _ _ (s1 _ _ upd_same))
  have e1 : v1 = .int s := int_of r1
  have e2 : v2 = .int m := int_of r2
  subst e1 e2
  refine ⟨hp3, [(.inr "sides", .int s), (.inr "many", .int m), (.inr "joined", v3)], rfl, by show 3 ≤ 15; decide, ?_⟩
  rw [merge3 nk1 nk2 nk3]
  have fp := S.fresh hp
  have up : ∀ o, Same (reg own (fun a => F a ∨ a = p) H3) (reg own F (upd H3 p o)) := fun o => reg_mono fun a u k1 k2 k3 => ⟨by rw [upd_ne (fun e => k2 (.inr e))]; exact k3, k1, fun q => k2 (.inl q)⟩
  refine ⟨fun a o q => ?_, p, v3, rfl, by rw [reg_in fp.1 fp.2, upd_same]; rfl, Dp.up r3 (up _)⟩
  have ne : a ≠ p := fun e => by rw [e, hp] at q; cases q
  rw [upd_ne ne]
  exact s3 _ _ (s2 _ _ (s1 _ _ (by rw [upd_ne ne]; exact q)))
theorem d_table {s m most : Int} {d tops stands : PyData} (h1 : DE X e1 dl (.scope s m d)) (h2 : DE X e2 dl (.p tops)) (h3 : DE X e3 dl (.p (.int most))) (h4 : DE X e4 dl (.p stands)) :
    DE X (.Dict [some (.Constant (.str "scope") j1 p1), some (.Constant (.str "tops") j2 p2), some (.Constant (.str "most") j3 p3), some (.Constant (.str "stands") j4 p4)] [e1, e2, e3, e4] pos) dl (.table s m d tops most stands) := fun Kp F own H st S => by
  refine we_of (pe_disp (pps_cons pe_str (peW e1) (pps_cons pe_str (peW e2) (pps_cons pe_str (peW e3) (pps_cons pe_str (peW e4) pps_nil)))) rfl rfl (by simp) (by show 4 ≤ 15; decide)) ?_
  intro p hp
  have S0 := S.hideN hp
  refine (h1 _ _ own _ st S0).mono fun v1 H1 ⟨s1, r1⟩ => ?_
  refine (h2 _ _ own _ st (S0.grow s1)).mono fun v2 H2 ⟨s2, r2⟩ => ?_
  refine (h3 _ _ own _ st ((S0.grow s1).grow s2)).mono fun v3 H3 ⟨s3, r3⟩ => ?_
  refine (h4 _ _ own _ st (((S0.grow s1).grow s2).grow s3)).mono fun v4 H4 ⟨s4, r4⟩ => ?_
  have hp4 : H4 p = some (.dK []) := s4 _ _ (s3 _ _ (s2 _ _ (s1 _ _ upd_same)))
  have e3 : v3 = .int most := int_of r3
  subst e3
  have fp := S.fresh hp
  have up : ∀ o, Same (reg own (fun a => F a ∨ a = p) H4) (reg own F (upd H4 p o)) := fun o => reg_mono fun a u k1 k2 k3 => ⟨by rw [upd_ne (fun e => k2 (.inr e))]; exact k3, k1, fun q => k2 (.inl q)⟩
  obtain ⟨b, u, rfl, g1, g2⟩ := RT.up (t := .scope s m d) r1 (reg_up ((s2.trans s3).trans s4))
  refine ⟨hp4, [(.inr "scope", .ref b), (.inr "tops", v2), (.inr "most", .int most), (.inr "stands", v4)], rfl, by show 4 ≤ 15; decide, ?_⟩
  rw [merge4 nk4 nk5 nk6 nk7 nk8 nk9]
  refine ⟨fun a o q => ?_, p, b, u, v2, v4, rfl, up _ _ _ g1, Dp.up g2 (up _), by rw [reg_in fp.1 fp.2, upd_same]; rfl, (Dp.up r2 (reg_up (s3.trans s4))).up (up _), Dp.up r4 (up _)⟩
  have ne : a ≠ p := fun e => by rw [e, hp] at q; cases q
  rw [upd_ne ne]
  exact s4 _ _ (s3 _ _ (s2 _ _ (s1 _ _ (by rw [upd_ne ne]; exact q))))
end
end Ac
-- part C18
set_option Elab.async false
set_option maxRecDepth 100000
set_option maxHeartbeats 4000000
set_option linter.all false
namespace Ac
open PySem PySem.Spec PyProof.Rows L2
theorem rgD_lay (n : Nat) : ∀ d ∈ rgD 0 n, Lay 5 d := fun d hd => by
  unfold rgD at hd
  obtain ⟨k, _, rfl⟩ := List.mem_map.mp hd
  exact (lay_int _).mono (by omega)
theorem sub_enum {α : Type} (k : Nat × α → Bool) : ∀ (l : List (Nat × α)), ((l.filter k).map (·.2)).Sublist (l.map (·.2)) := fun l => List.Sublist.map _ List.filter_sublist
section
variable {P : Program} {w : World} {K : PySem.W.Frag} {mg : Str → Option Value} {base : Heap}
abbrev sd__law_few : Stmt := top 81
abbrev N__law_few : List Str := ["_law_state", "_law_several", "_law_most", "_law_chosen", "_law_spot", "_law_item"]
theorem sc__law_few : FnScope N__law_few ["_law_state", "_law_several", "_law_most"] (defScope sd__law_few) := ⟨rfl, rfl, rfl, by decide +kernel, rfl, by decide +kernel, by decide +kernel⟩
def resFew (i : List PyData × Nat) (t : T) : Prop := ∃ es, t = .p (.list es) ∧ es.Sublist i.1
abbrev F_law_few (P : Program) (w : World) (K : PySem.W.Frag) (mg : Str → Option Value) (base : Heap) : Prop := FnS P w K mg base "_law_few" 3 (fun i : List PyData × Nat => [.p (.list i.1), .p (.int (i.2 : Nat))]) (fun i => i.1.length < 1000 ∧ i.2 < 1000) (fun i => i.1.length + 1) resFew
theorem ok__law_few (TF : TopF K mg "_law_few" sd__law_few) (B : Bi mg) (G1 : F_law_draw P w K mg base) (G2 : F_law_mixed P w K mg base) : F_law_few P w K mg base := by
  refine fnS_body TF sc__law_few (fun _ => rfl) (fun _ _ _ _ _ _ us hl => match us, hl with | [_, _, _], _ => rfl) fun f cdv A outer sh H E i s L n hr hok hn => ?_
  have hu := hr.units
  have hu5 := hr.u65
  have hN := sc__law_few.nd
  obtain ⟨h1, h2⟩ := hok
  have hn' : n + (i.1.length + 1) ≤ 1000000000 := hn
  refine sw_cons (s_asgE 3 hN (e_cut (e_call 0 (rgD 0 i.1.length) G2 hr rfl (da_cons (d_listRg rfl (by omega) (d_len (k := true) (dv 1 rfl) rfl B.len_) B.list_ B.range_) da_nil) ⟨by rw [rgD_len]; exact h1, rgD_lay _⟩ (by rw [rgD_len]; omega) fun t ht => ?_)))
  obtain ⟨es, rfl, hp⟩ := ht
  have hel : es.length = i.1.length := by rw [hp.length_eq, rgD_len]
  refine ⟨es, rfl, e_call 0 ((i.2 : Int) + 1) G1 hr rfl (da_cons (d_bin o_add (dv 2 rfl).lend d_int.lend) da_nil) ⟨by omega, by omega⟩ (by rw [rgD_len]; omega) fun t ht => ?_⟩
  obtain ⟨r, rfl, h0, h3⟩ := ht
  refine ⟨r.toNat, by rw [Int.toNat_of_nonneg h0], Nat.le_of_ble_eq_true rfl, ?_⟩
  have hlay : Lay 6 (.list (es.take r.toNat)) := lay_lst fun d hd => rgD_lay _ d (hp.mem_iff.mp (List.mem_of_mem_take hd))
  have hzl : ((List.range i.1.length).zip i.1).length ≤ 100000 := by rw [List.length_zip, List.length_range]; omega
  have hz2 : ((List.range i.1.length).zip i.1).map (·.2) = i.1 := List.map_snd_zip (by rw [List.length_range]; exact Nat.le_refl _)
  refine sw_one (s_ret (d_lcF (xs := (List.range i.1.length).zip i.1) (f := fun q => q.2) (k := fun q => (es.take r.toNat).any fun z => PyData.eqv z (.int (q.1 : Nat))) (onm := [("_law_spot", 4), ("_law_item", 5)]) (enc := enumD) hN (blk_of (N := N__law_few) (sc := defScope sd__law_few) (by decide +kernel)) (di_enum (dv 1 rfl) B.enumerate_) rfl
    (fun _ _ _ _ _ _ _ => ⟨[4, 5], by decide, gt_tup rfl (gts_cons (gt_name 4 hN) (gts_cons (gt_name 5 hN) gts_nil))⟩) (fun _ _ _ _ _ x _ => dt_cmp (o_in hu5 ((lay_int _).sh (by omega)) (hlay.sh (by omega))) (dv 4 rfl).lend (dv 3 rfl).lend) (fun _ _ _ _ _ x _ _ => dv 5 rfl) hzl) ⟨⟨_, rfl, ?_⟩, _, ?_, rfl⟩)
  · have := sub_enum (fun q : Nat × PyData => (es.take r.toNat).any fun z => PyData.eqv z (.int (q.1 : Nat))) ((List.range i.1.length).zip i.1)
    rw [hz2] at this
    exact this
  · rw [rgD_len]; omega
end
end Ac
-- part L7
set_option maxHeartbeats 4000000
set_option Elab.async false
set_option maxRecDepth 100000
set_option linter.all false
/-! Ac, plain: what the searches find. -/
namespace Ac
open PySem PySem.Spec PyProof.Rows L2
/-! ### the searches, by their results -/
def okS (e : Way → Sw → Bool) : Way → Way → Prop
  | _, [] => True
  | w, s :: u => e w s = true ∧ okS e (w ++ [s]) u
theorem gen_step (e : Way → Sw → Bool) (w : Way) (s : Sw) (r : List Sw) (x : Way) : x ∈ gen e w (s :: r) ↔ (e w s = true ∧ x ∈ gen e (w ++ [s]) r) ∨ x ∈ gen e w r := by
  have h1 : gen e w (s :: r) = w :: ((if e w s = true then gen e (w ++ [s]) r else []) ++ kids e w r) := rfl
  have h2 : gen e w r = w :: kids e w r := rfl
  rw [h1, h2, List.mem_cons, List.mem_append, List.mem_cons]
  by_cases h : e w s = true
  · rw [if_pos h]
    constructor
    · rintro (z | z | z)
      · exact .inr (.inl z)
      · exact .inl ⟨h, z⟩
      · exact .inr (.inr z)
    · rintro (⟨_, z⟩ | z | z)
      · exact .inr (.inl z)
      · exact .inl z
      · exact .inr (.inr z)
  · rw [if_neg h]
    constructor
    · rintro (z | z | z)
      · exact .inr (.inl z)
      · cases z
      · exact .inr (.inr z)
    · rintro (⟨q, _⟩ | z | z)
      · exact absurd q h
      · exact .inl z
      · exact .inr (.inr z)
theorem mem_gen (e : Way → Sw → Bool) : ∀ (l : List Sw) (w x : Way), x ∈ gen e w l ↔ ∃ u, x = w ++ u ∧ u.Sublist l ∧ okS e w u
  | [], w, x => by
    have h : gen e w [] = [w] := rfl
    rw [h, List.mem_singleton]
    constructor
    · rintro rfl
      exact ⟨[], (List.append_nil _).symm, .slnil, True.intro⟩
    · rintro ⟨u, rfl, hs, _⟩
      rw [List.sublist_nil.mp hs, List.append_nil]
  | s :: r, w, x => by
    rw [gen_step, mem_gen e r, mem_gen e r]
    constructor
    · rintro (⟨h, u, rfl, hs, hu⟩ | ⟨u, rfl, hs, hu⟩)
      · exact ⟨s :: u, by simp, hs.cons₂ _, h, hu⟩
      · exact ⟨u, rfl, hs.cons _, hu⟩
    · rintro ⟨u, rfl, hs, hu⟩
      cases hs with
      | cons _ h => exact .inr ⟨u, rfl, h, hu⟩
      | @cons_cons u' _ _ h => exact .inl ⟨hu.1, u', by simp, h, hu.2⟩
def okG (e : Way → Sw → Bool) (g : Way → Bool) : Way → Way → Prop
  | w, [] => g w = true
  | w, s :: u => g w = false ∧ e w s = true ∧ okG e g (w ++ [s]) u
theorem mem_genL (e : Way → Sw → Bool) (g : Way → Bool) : ∀ (l : List Sw) (w x : Way), x ∈ genL e g w l ↔ ∃ u, x = w ++ u ∧ u.Sublist l ∧ okG e g w u
  | [], w, x => by
    have h : genL e g w [] = if g w = true then [w] else [] := rfl
    rw [h]
    by_cases hg : g w = true
    · rw [if_pos hg, List.mem_singleton]
      constructor
      · rintro rfl
        exact ⟨[], (List.append_nil _).symm, .slnil, hg⟩
      · rintro ⟨u, rfl, hs, _⟩
        rw [List.sublist_nil.mp hs, List.append_nil]
    · rw [if_neg hg]
      constructor
      · intro z; cases z
      · rintro ⟨u, rfl, hs, hu⟩
        rw [List.sublist_nil.mp hs] at hu
        exact absurd hu hg
  | s :: r, w, x => by
    have ih1 := mem_genL e g r (w ++ [s]) x
    have ih2 := mem_genL e g r w x
    by_cases hg : g w = true
    · have h : genL e g w (s :: r) = [w] := by unfold genL; rw [if_pos hg]
      rw [h, List.mem_singleton]
      constructor
      · rintro rfl
        exact ⟨[], (List.append_nil _).symm, List.nil_sublist _, hg⟩
      · rintro ⟨u, rfl, hs, hu⟩
        cases u with
        | nil => rw [List.append_nil]
        | cons t u => rw [hu.1] at hg; cases hg
    · have hg' : g w = false := by cases q : g w with | true => exact absurd q hg | false => rfl
      have h : genL e g w (s :: r) = (if e w s = true then genL e g (w ++ [s]) r else []) ++ genL e g w r := by
        have h1 : genL e g w (s :: r) = kidsL e g w (s :: r) := by unfold genL; rw [if_neg hg]
        have h2 : genL e g w r = kidsL e g w r := by unfold genL; rw [if_neg hg]
        rw [h1, h2, kidsL_cons]
      rw [h, List.mem_append]
      constructor
      · rintro (z | z)
        · split at z
          · rename_i he
            obtain ⟨u, rfl, hs, hu⟩ := ih1.mp z
            exact ⟨s :: u, by simp, hs.cons₂ _, hg', he, hu⟩
          · cases z
        · obtain ⟨u, rfl, hs, hu⟩ := ih2.mp z
          exact ⟨u, rfl, hs.cons _, hu⟩
      · rintro ⟨u, rfl, hs, hu⟩
        cases hs with
        | cons _ h => exact .inr (ih2.mpr ⟨u, rfl, h, hu⟩)
        | @cons_cons u' _ _ h =>
          obtain ⟨_, h2, h3⟩ := hu
          rw [if_pos h2]
          exact .inl (ih1.mpr ⟨u', by simp, h, h3⟩)
/-! ### ascending parts -/
theorem asc_sub {α : Type} {f : α → PyData} : ∀ {ys xs : List α}, AscT f xs → AscT f ys → (∀ x ∈ xs, x ∈ ys) → xs.Sublist ys := by
  intro ys
  induction ys with
  | nil =>
    intro xs _ _ h
    cases xs with
    | nil => exact .slnil
    | cons x _ => exact absurd (h x List.mem_cons_self) (by simp)
  | cons y t ih =>
    intro xs hx hy h
    cases xs with
    | nil => exact List.nil_sublist _
    | cons x r =>
      have hx' := List.pairwise_cons.mp (ascT_iff.mp hx)
      have hy' := List.pairwise_cons.mp (ascT_iff.mp hy)
      rcases List.mem_cons.mp (h x List.mem_cons_self) with e | hm
      · subst e
        refine (ih (ascT_iff.mpr hx'.2) (ascT_iff.mpr hy'.2) fun z hz => ?_).cons₂ _
        rcases List.mem_cons.mp (h z (List.mem_cons_of_mem _ hz)) with e | hz'
        · have := hx'.1 z hz
          rw [e, lt_irr] at this
          cases this
        · exact hz'
      · refine (ih hx (ascT_iff.mpr hy'.2) fun z hz => ?_).cons _
        rcases List.mem_cons.mp (h z hz) with e | hz'
        · subst e
          exfalso
          have h1 := hy'.1 x hm
          rcases List.mem_cons.mp hz with e | hz
          · rw [e, lt_irr] at h1; cases h1
          · have h2 := lt_tr h1 (hx'.1 z hz)
            rw [lt_irr] at h2; cases h2
        · exact hz'
theorem asc_of_sub {α : Type} {f : α → PyData} {xs ys : List α} (h : xs.Sublist ys) (ha : AscT f ys) : AscT f xs := ascT_iff.mpr ((ascT_iff.mp ha).sublist h)
/-! ### pins -/
theorem pinsOf_app (a b : Way) : pinsOf (a ++ b) = pinsOf a ++ pinsOf b := by unfold pinsOf; rw [List.flatMap_append]
theorem pinsOf_one (s : Sw) : pinsOf [s] = [s.1, s.2] := rfl
theorem pinsOf_sub : ∀ {a b : Way}, a.Sublist b → (pinsOf a).Sublist (pinsOf b)
  | _, _, .slnil => .slnil
  | a, _ :: b, .cons s h => by
    have := pinsOf_sub h
    have e : pinsOf (s :: b) = [s.1, s.2] ++ pinsOf b := rfl
    rw [e]
    exact this.trans (List.sublist_append_right _ _)
  | _ :: a, _ :: b, .cons₂ s h => by
    have := pinsOf_sub h
    have e : pinsOf (s :: b) = [s.1, s.2] ++ pinsOf b := rfl
    have e2 : pinsOf (s :: a) = [s.1, s.2] ++ pinsOf a := rfl
    rw [e, e2]
    exact List.Sublist.append (List.Sublist.refl _) this
theorem pins_free {w u : Way} {s : Sw} (h : (pinsOf (w ++ s :: u)).Nodup) : s.1 ∉ pinsOf w ∧ s.2 ∉ pinsOf w := by
  have e : w ++ s :: u = w ++ ([s] ++ u) := rfl
  rw [e, pinsOf_app, pinsOf_app, pinsOf_one, List.nodup_append] at h
  exact ⟨fun z => h.2.2 _ z s.1 (by simp) rfl, fun z => h.2.2 _ z s.2 (by simp) rfl⟩
theorem pins_snoc {w : Way} {s : Sw} (hn : (pinsOf w).Nodup) (h1 : s.1 ∉ pinsOf w) (h2 : s.2 ∉ pinsOf w) (ne : s.1 ≠ s.2) : (pinsOf (w ++ [s])).Nodup := by
  rw [pinsOf_app, pinsOf_one, List.nodup_append]
  refine ⟨hn, by simp [ne], fun a ha b hb e => ?_⟩
  subst e
  simp at hb
  rcases hb with rfl | rfl
  · exact h1 ha
  · exact h2 ha
/-! ### loads -/
theorem cnt_app {α : Type} [DecidableEq α] (a b : List α) (x : α) : cnt (a ++ b) x = cnt a x + cnt b x := by
  unfold cnt
  rw [List.countP_append]
  omega
theorem cnt_nonneg {α : Type} [DecidableEq α] (a : List α) (x : α) : 0 ≤ cnt a x := by unfold cnt; omega
theorem cnt_one {α : Type} [DecidableEq α] (a x : α) : cnt [a] x = if a = x then 1 else 0 := by
  unfold cnt
  by_cases h : a = x <;> simp [h]
theorem below_map {α : Type} {f g : α → Int} : ∀ {l : List α}, (∀ x ∈ l, f x ≤ g x) → below (l.map f) (l.map g) = true
  | [], _ => rfl
  | x :: l, h => by
    have ih := below_map (l := l) fun y hy => h y (List.mem_cons_of_mem _ hy)
    unfold below at ih ⊢
    rw [List.map_cons, List.map_cons, List.zip_cons_cons, List.all_cons, ih, Bool.and_true]
    exact decide_eq_true (h x List.mem_cons_self)
theorem below_refl (l : List Int) : below l l = true := by
  have := below_map (f := id) (g := id) (l := l) fun _ _ => Int.le_refl _
  rwa [List.map_id] at this
theorem below_trans : ∀ {a b c : List Int}, a.length = b.length → below a b = true → below b c = true → below a c = true
  | [], _, _, _, _, _ => by simp [below]
  | _ :: _, [], _, h, _, _ => by simp at h
  | _ :: _, _ :: _, [], _, _, _ => by simp [below]
  | x :: a, y :: b, z :: c, hl, h1, h2 => by
    unfold below at h1 h2 ⊢
    rw [List.zip_cons_cons, List.all_cons, Bool.and_eq_true] at h1 h2 ⊢
    have ih := below_trans (a := a) (b := b) (c := c) (by simpa using hl) h1.2 h2.2
    refine ⟨?_, ih⟩
    have q1 := of_decide_eq_true h1.1
    have q2 := of_decide_eq_true h2.1
    exact decide_eq_true (Int.le_trans q1 q2)
theorem load_sub (s : Int) {a b : Way} (h : ∀ p, cnt (a.map ends) p ≤ cnt (b.map ends) p) : below (loadOf s a) (loadOf s b) = true := below_map fun p _ => h p
theorem load_pre (s : Int) (a b : Way) : below (loadOf s a) (loadOf s (a ++ b)) = true := load_sub s fun p => by
  rw [List.map_append, cnt_app]
  have := cnt_nonneg (b.map ends) p
  omega
theorem cnt_sublist {α : Type} [DecidableEq α] {a b : List α} (h : a.Sublist b) (x : α) : cnt a x ≤ cnt b x := by
  unfold cnt
  have := h.countP_le (p := fun y => decide (y = x))
  omega
theorem load_sublist (s : Int) {a b : Way} (h : a.Sublist b) : below (loadOf s a) (loadOf s b) = true := load_sub s fun p => cnt_sublist (h.map ends) p
theorem isOf_mono {a b : List Int} {fr : List (List Int)} (hl : a.length = b.length) (h : below a b = true) (hb : isOf b fr = true) : isOf a fr = true := by
  unfold isOf at hb ⊢
  obtain ⟨o, ho, h2⟩ := List.any_eq_true.mp hb
  exact List.any_eq_true.mpr ⟨o, ho, below_trans hl h h2⟩
theorem withP_load (s : Int) (w : Way) (x : Sw) : withP s (loadOf s w) (ends x) = loadOf s (w ++ [x]) := by
  unfold withP loadOf
  have : ∀ l : List Pin, (l.zip (l.map fun p => cnt (w.map ends) p)).map (fun y => y.2 + (if y.1 = ends x then 1 else 0)) = l.map fun p => cnt ((w ++ [x]).map ends) p := by
    intro l
    induction l with
    | nil => rfl
    | cons p l ih =>
      rw [List.map_cons, List.zip_cons_cons, List.map_cons, ih, List.map_cons]
      congr 1
      rw [List.map_append, cnt_app]
      show _ = _ + cnt [ends x] p
      rw [cnt_one]
      by_cases h : p = ends x
      · subst h; simp
      · rw [if_neg h, if_neg (Ne.symm h)]
  exact this (pairs s)
theorem load_grows {s : Int} {w u : Way} {x : Sw} (hx : ends x ∈ pairs s) : loadOf s w ≠ loadOf s (w ++ x :: u) := by
  intro e
  unfold loadOf at e
  have := List.map_inj_left.mp e (ends x) hx
  rw [List.map_append, List.map_cons, cnt_app] at this
  have e2 : cnt (ends x :: u.map ends) (ends x) = cnt [ends x] (ends x) + cnt (u.map ends) (ends x) := cnt_app [ends x] (u.map ends) (ends x)
  rw [e2, cnt_one, if_pos rfl] at this
  have := cnt_nonneg (u.map ends) (ends x)
  omega
end Ac
-- part L8
set_option maxHeartbeats 4000000
set_option Elab.async false
set_option maxRecDepth 100000
set_option linter.all false
/-! Ac, plain: the standings and the answers, told by what they are. -/
namespace Ac
open PySem PySem.Spec PyProof.Rows L2
theorem between_iff {i lo hi : Int} : between i lo hi = true ↔ lo ≤ i ∧ i ≤ hi := by
  unfold between
  rw [Bool.and_eq_true, decide_eq_true_iff, decide_eq_true_iff]
/-- a switch of a box: its sides, its pins -/
theorem sw_facts {x : Sw} {s t : Int} (h : swOk x s t = true) : x.1 ≠ x.2 ∧ 0 ≤ x.1.1 ∧ x.1.1 < x.2.1 ∧ x.2.1 < s := by
  unfold swOk pinOk at h
  simp only [Bool.and_eq_true, between_iff, decide_eq_true_eq] at h
  obtain ⟨⟨⟨h1, h2⟩, h3, h4⟩, h5⟩ := h
  refine ⟨fun e => ?_, by omega, h5, by omega⟩
  rw [e] at h5
  omega
theorem mem_pairs {s : Int} {p : Pin} (h0 : 0 ≤ p.1) (h1 : p.1 < p.2) (h2 : p.2 < s) : p ∈ pairs s := by
  unfold pairs
  refine List.mem_flatMap.mpr ⟨p.1.toNat, List.mem_range.mpr (by omega), ?_⟩
  refine List.mem_map.mpr ⟨p.2, ?_, ?_⟩
  · unfold from_
    refine List.mem_map.mpr ⟨(p.2 - (p.1 + 1)).toNat, List.mem_range.mpr (by omega), by omega⟩
  · exact Prod.ext (by show 0 + ((p.1.toNat : Nat) : Int) = p.1; omega) rfl
theorem ends_pairs {x : Sw} {s t : Int} (h : swOk x s t = true) : ends x ∈ pairs s := by
  obtain ⟨_, h1, h2, h3⟩ := sw_facts h
  exact mem_pairs h1 h2 h3
/-- a list of switches, each with its two pins apart -/
def Apart (l : List Sw) : Prop := ∀ s ∈ l, s.1 ≠ s.2
theorem bx_apart {b : Bx} (h : BxOk b) : Apart b.sw := fun s hs => (sw_facts (h.ok s hs)).1
theorem okS_of {bs : Int} {fr : List (List Int)} : ∀ {u w : Way}, (pinsOf (w ++ u)).Nodup → isOf (loadOf bs (w ++ u)) fr = true → okS (extF bs fr) w u
  | [], _, _, _ => True.intro
  | s :: u, w, hp, hf => by
    obtain ⟨h1, h2⟩ := pins_free hp
    have e : w ++ s :: u = w ++ [s] ++ u := by simp
    refine ⟨?_, okS_of (by rw [← e]; exact hp) (by rw [← e]; exact hf)⟩
    unfold extF
    rw [mem_no.mpr h1, mem_no.mpr h2]
    have : isOf (loadOf bs (w ++ [s])) fr = true := isOf_mono (by rw [loadOf_len, loadOf_len]) (load_pre bs (w ++ [s]) u) (by rw [← e]; exact hf)
    rw [this]
    rfl
theorem of_okS {bs : Int} {fr : List (List Int)} : ∀ {u w : Way}, Apart u → (pinsOf w).Nodup → isOf (loadOf bs w) fr = true → okS (extF bs fr) w u → (pinsOf (w ++ u)).Nodup ∧ isOf (loadOf bs (w ++ u)) fr = true
  | [], w, _, hp, hf, _ => by rw [List.append_nil]; exact ⟨hp, hf⟩
  | s :: u, w, ap, hp, hf, ⟨h1, h2⟩ => by
    have e : w ++ s :: u = w ++ [s] ++ u := by simp
    unfold extF at h1
    simp only [Bool.and_eq_true, Bool.not_eq_true'] at h1
    rw [e]
    exact of_okS (fun z hz => ap z (List.mem_cons_of_mem _ hz)) (pins_snoc hp (mem_no.mp h1.1) (mem_no.mp h1.2.1) (ap s List.mem_cons_self)) h1.2.2 h2
theorem load_nil (s : Int) : loadOf s [] = (pairs s).map fun _ => (0 : Int) := by
  unfold loadOf
  refine List.map_congr_left fun p _ => rfl
theorem below_zero : ∀ {α : Type} (l : List α) (o : List Int), (∀ n ∈ o, 0 ≤ n) → below (l.map fun _ => (0 : Int)) o = true
  | _, [], _, _ => by simp [below]
  | _, _ :: _, [], _ => by simp [below]
  | _, x :: l, n :: o, h => by
    have ih := below_zero l o fun z hz => h z (List.mem_cons_of_mem _ hz)
    unfold below at ih ⊢
    rw [List.map_cons, List.zip_cons_cons, List.all_cons, ih, Bool.and_true]
    exact decide_eq_true (h n List.mem_cons_self)
theorem isOf_nil {s : Int} {fr : List (List Int)} (h : FrOk s fr) : isOf (loadOf s []) fr = true := by
  obtain ⟨q, r, e⟩ := List.exists_cons_of_ne_nil h.ne
  unfold isOf
  refine List.any_eq_true.mpr ⟨q, by rw [e]; exact List.mem_cons_self, ?_⟩
  rw [load_nil]
  exact below_zero _ _ fun n hn => (h.w99 q (by rw [e]; exact List.mem_cons_self) n hn).1
theorem way_len {b : Bx} (hb : BxOk b) {v : Way} (h : v.Sublist b.sw) : v.length ≤ 8 := Nat.le_trans h.length_le hb.few
theorem way_sub {b : Bx} (hb : BxOk b) {v : Way} (h : WayOk b v) : v.Sublist b.sw := asc_sub h.asc hb.asc h.sub
theorem wayOk_of {b : Bx} (hb : BxOk b) {v : Way} (h : v.Sublist b.sw) (hp : (pinsOf v).Nodup) : WayOk b v := ⟨fun s hs => h.subset hs, asc_of_sub h hb.asc, hp, by have := way_len hb h; omega⟩
theorem sub_apart {l m : List Sw} (h : l.Sublist m) (ap : Apart m) : Apart l := fun s hs => ap s (h.subset hs)
/-- THE STANDINGS -/
theorem mem_stands {b : Bx} {fr : List (List Int)} (hb : BxOk b) (hf : FrOk b.s fr) {v : Way} : v ∈ stands b fr ↔ StOk b fr v := by
  unfold stands
  rw [(srtT_perm _ _).mem_iff, mem_gen]
  constructor
  · rintro ⟨u, rfl, hs, hu⟩
    obtain ⟨h1, h2⟩ := of_okS (w := []) (sub_apart hs (bx_apart hb)) List.nodup_nil (isOf_nil hf) hu
    exact ⟨wayOk_of hb hs h1, h2⟩
  · rintro ⟨hw, ho⟩
    exact ⟨v, rfl, way_sub hb hw, okS_of (w := []) hw.pins ho⟩
theorem stands_nodup {b : Bx} {fr : List (List Int)} (hb : BxOk b) : (stands b fr).Nodup := by
  unfold stands
  rw [(srtT_perm _ _).nodup_iff]
  exact gen_nodup _ _ _ (ascT_nodup hb.asc)
theorem stands_asc {b : Bx} {fr : List (List Int)} (hb : BxOk b) : AscT pWay (stands b fr) := by
  unfold stands
  exact srtT_asc eqv_way al_way (gen_nodup _ _ _ (ascT_nodup hb.asc))
theorem stands_few {b : Bx} {fr : List (List Int)} (hb : BxOk b) : (stands b fr).length ≤ 256 := by
  unfold stands
  rw [(srtT_perm _ _).length_eq]
  have := gen_len (extF b.s fr) b.sw []
  have : 2 ^ b.sw.length ≤ 2 ^ 8 := Nat.pow_le_pow_right (by omega) hb.few
  omega
/-- THE WAYS OF A LOAD -/
theorem okG_of {b : Bx} (hb : BxOk b) {ld : List Int} : ∀ {u w : Way}, (∀ x ∈ u, x ∈ b.sw) → (pinsOf (w ++ u)).Nodup → loadOf b.s (w ++ u) = ld → okG (extL b.s ld) (fun w => decide (loadOf b.s w = ld)) w u
  | [], w, _, _, hl => by rw [List.append_nil] at hl; exact decide_eq_true hl
  | s :: u, w, hs, hp, hl => by
    obtain ⟨h1, h2⟩ := pins_free hp
    have e : w ++ s :: u = w ++ [s] ++ u := by simp
    have hsw := hb.ok s (hs s List.mem_cons_self)
    refine ⟨decide_eq_false fun q => load_grows (w := w) (u := u) (ends_pairs hsw) (q.trans hl.symm), ?_, okG_of hb (fun x hx => hs x (List.mem_cons_of_mem _ hx)) (by rw [← e]; exact hp) (by rw [← e]; exact hl)⟩
    unfold extL
    rw [mem_no.mpr h1, mem_no.mpr h2, withP_load]
    have : below (loadOf b.s (w ++ [s])) ld = true := by rw [← hl, e]; exact load_pre b.s (w ++ [s]) u
    rw [this]
    rfl
theorem of_okG {bs : Int} {ld : List Int} : ∀ {u w : Way}, Apart u → (pinsOf w).Nodup → okG (extL bs ld) (fun w => decide (loadOf bs w = ld)) w u → (pinsOf (w ++ u)).Nodup ∧ loadOf bs (w ++ u) = ld
  | [], w, _, hp, h => by rw [List.append_nil]; exact ⟨hp, of_decide_eq_true h⟩
  | s :: u, w, ap, hp, ⟨_, h1, h2⟩ => by
    have e : w ++ s :: u = w ++ [s] ++ u := by simp
    unfold extL at h1
    simp only [Bool.and_eq_true, Bool.not_eq_true'] at h1
    rw [e]
    exact of_okG (fun z hz => ap z (List.mem_cons_of_mem _ hz)) (pins_snoc hp (mem_no.mp h1.1) (mem_no.mp h1.2.1) (ap s List.mem_cons_self)) h2
theorem mem_waysTo {b : Bx} {ld : List Int} (hb : BxOk b) {v : Way} : v ∈ waysTo b ld ↔ WayOk b v ∧ loadOf b.s v = ld := by
  unfold waysTo
  rw [(srtT_perm _ _).mem_iff, mem_genL]
  constructor
  · rintro ⟨u, rfl, hs, hu⟩
    obtain ⟨h1, h2⟩ := of_okG (w := []) (sub_apart hs (bx_apart hb)) List.nodup_nil hu
    exact ⟨wayOk_of hb hs h1, h2⟩
  · rintro ⟨hw, ho⟩
    exact ⟨v, rfl, way_sub hb hw, okG_of hb (w := []) hw.sub hw.pins ho⟩
/-! ### what answers -/
theorem leftBy_sub (v : Way) (x : Sw) : (leftBy v x).Sublist v := List.filter_sublist
theorem left_st {b : Bx} {fr : List (List Int)} {v : Way} (x : Sw) (hb : BxOk b) (h : StOk b fr v) : StOk b fr (leftBy v x) := by
  have hs := leftBy_sub v x
  refine ⟨wayOk_of hb (hs.trans (way_sub hb h.way)) (h.way.pins.sublist (pinsOf_sub hs)), ?_⟩
  exact isOf_mono (by rw [loadOf_len, loadOf_len]) (load_sublist b.s hs) h.of_
theorem mem_ansW {b : Bx} {fr : List (List Int)} {m : Int} {v o : Way} {p : Pin} (hb : BxOk b) (ho : isOf (withP b.s (loadOf b.s v) p) fr = true) : o ∈ ansW b m v (.want p) ↔ StOk b fr o ∧ loadOf b.s o = withP b.s (loadOf b.s v) p ∧ ((moved v o : Nat) : Int) ≤ m := by
  show o ∈ (waysTo b (withP b.s (loadOf b.s v) p)).filter _ ↔ _
  rw [List.mem_filter, mem_waysTo hb, decide_eq_true_iff]
  constructor
  · rintro ⟨⟨h1, h2⟩, h3⟩
    exact ⟨⟨h1, by rw [h2]; exact ho⟩, h2, h3⟩
  · rintro ⟨h1, h2, h3⟩
    exact ⟨⟨h1.way, h2⟩, h3⟩
theorem mem_ansL {s m : Int} {ws : List Way} {v o : Way} {p : Pin} : o ∈ ansL s m ws v (.want p) ↔ o ∈ ws ∧ loadOf s o = withP s (loadOf s v) p ∧ ((moved v o : Nat) : Int) ≤ m := by
  show o ∈ (ofLoad s ws (withP s (loadOf s v) p)).filter _ ↔ _
  unfold ofLoad
  rw [List.mem_filter, List.mem_filter, decide_eq_true_iff, decide_eq_true_iff, and_assoc]
/-- answers by loads: the same -/
theorem ans_same {b : Bx} {fr : List (List Int)} {m : Int} {v : Way} {a : Ask} (hb : BxOk b) (hf : FrOk b.s fr) (ha : AskOk b fr v a) {o : Way} : o ∈ ansW b m v a ↔ o ∈ ansL b.s m (stands b fr) v a := by
  cases a with
  | fin x => exact Iff.rfl
  | want p =>
    obtain ⟨_, h⟩ := askOk_want ha
    rw [mem_ansW hb h, mem_ansL, mem_stands hb hf]
theorem ans_st {b : Bx} {fr : List (List Int)} {m : Int} {v : Way} {a : Ask} (hb : BxOk b) (hv : StOk b fr v) (ha : AskOk b fr v a) {o : Way} (ho : o ∈ ansW b m v a) : StOk b fr o := by
  cases a with
  | fin x =>
    have ho' : o ∈ [leftBy v x] := ho
    rw [List.mem_singleton.mp ho']
    exact left_st x hb hv
  | want p =>
    obtain ⟨_, h⟩ := askOk_want ha
    exact ((mem_ansW hb h).mp ho).1
end Ac
-- part L9
set_option maxHeartbeats 4000000
set_option Elab.async false
set_option maxRecDepth 100000
set_option linter.all false
/-! Ac, plain: what is lost, what is kept. -/
namespace Ac
open PySem PySem.Spec PyProof.Rows L2
abbrev Lost := List (Way × (Nat × Ask))
/-- by found things each rank is grounded -/
structure RInv (g : List (Way × Rows)) (found : Lost) (rank : Nat) : Prop where
  ok : FoundOk g found
  gr : ∀ x ∈ found, x.2.1 < rank ∧ ∃ rs sv, (x.1, rs) ∈ g ∧ (x.2.2, sv) ∈ rs ∧ ∀ o ∈ sv, ∃ r, look found o = some r ∧ r.1 < x.2.1
theorem look_app_some {α β : Type} [DecidableEq α] {l m : List (α × β)} {a : α} {b : β} (h : look l a = some b) : look (l ++ m) a = some b := by rw [look_app, h]; rfl
theorem badOf_mem {found : Lost} {rs : Rows} {a : Ask} (h : a ∈ badOf found rs) : ∃ sv, (a, sv) ∈ rs ∧ ∀ o ∈ sv, (look found o).isSome = true := by
  unfold badOf at h
  obtain ⟨r, hr, rfl⟩ := List.mem_map.mp h
  obtain ⟨h1, h2⟩ := List.mem_filter.mp hr
  exact ⟨r.2, h1, fun o ho => List.all_eq_true.mp h2 o ho⟩
theorem fresh_mem {rank : Nat} {found : Lost} : ∀ {g : List (Way × Rows)} {x : Way × (Nat × Ask)}, x ∈ freshOf rank found g → x.2.1 = rank ∧ ∃ rs, (x.1, rs) ∈ g ∧ x.2.2 ∈ badOf found rs
  | [], _, h => nomatch h
  | y :: g, x, h => by
    rw [freshOf_cons] at h
    rcases List.mem_append.mp h with h | h
    · split at h
      · cases h
      · revert h
        cases hb : badOf found y.2 with
        | nil => intro h; cases h
        | cons a r =>
          intro h
          rw [List.mem_singleton.mp h]
          exact ⟨rfl, y.2, List.mem_cons_self, by rw [hb]; exact List.mem_cons_self⟩
    · obtain ⟨h1, rs, h2, h3⟩ := fresh_mem h
      exact ⟨h1, rs, List.mem_cons_of_mem _ h2, h3⟩
theorem fresh_nil {rank : Nat} {found : Lost} : ∀ {g : List (Way × Rows)}, freshOf rank found g = [] → ∀ x ∈ g, look found x.1 = none → badOf found x.2 = []
  | [], _, _, h, _ => nomatch h
  | y :: g, h, x, hx, hn => by
    rw [freshOf_cons] at h
    obtain ⟨h1, h2⟩ := List.append_eq_nil_iff.mp h
    rcases List.mem_cons.mp hx with e | hx
    · subst e
      rw [if_neg (by rw [hn]; exact Bool.false_ne_true)] at h1
      revert h1
      cases badOf found x.2 with
      | nil => intro _; rfl
      | cons a r => intro h1; cases h1
    · exact fresh_nil h2 x hx hn
theorem RInv.next {g : List (Way × Rows)} (G : (g.map (·.1)).Nodup) {found : Lost} {rank : Nat} (h : RInv g found rank) : RInv g (found ++ freshOf rank found g) (rank + 1) := by
  refine ⟨h.ok.next G rank, fun x hx => ?_⟩
  rcases List.mem_append.mp hx with hx | hx
  · obtain ⟨h1, rs, sv, h2, h3, h4⟩ := h.gr x hx
    exact ⟨by omega, rs, sv, h2, h3, fun o ho => let ⟨r, q1, q2⟩ := h4 o ho; ⟨r, look_app_some q1, q2⟩⟩
  · obtain ⟨h1, rs, h2, h3⟩ := fresh_mem hx
    obtain ⟨sv, h4, h5⟩ := badOf_mem h3
    refine ⟨by omega, rs, sv, h2, h4, fun o ho => ?_⟩
    obtain ⟨r, hr⟩ := Option.isSome_iff_exists.mp (h5 o ho)
    have := (h.gr (o, r) (look_mem hr)).1
    exact ⟨r, look_app_some hr, by rw [h1]; exact this⟩
theorem rounds_end {g : List (Way × Rows)} (G : (g.map (·.1)).Nodup) : ∀ (n rank : Nat) (found : Lost), RInv g found rank → g.length + 1 ≤ n + found.length → ∃ r', RInv g (rounds g n rank found) r' ∧ freshOf r' (rounds g n rank found) g = []
  | 0, rank, found, h, hl => by
    have := h.ok.len
    omega
  | n + 1, rank, found, h, hl => by
    show ∃ r', RInv g (if freshOf rank found g = [] then found else rounds g n (rank + 1) (found ++ freshOf rank found g)) r' ∧ _
    have e : rounds g (n + 1) rank found = if freshOf rank found g = [] then found else rounds g n (rank + 1) (found ++ freshOf rank found g) := rfl
    rw [e]
    by_cases q : freshOf rank found g = []
    · rw [if_pos q]
      exact ⟨rank, h, q⟩
    · rw [if_neg q]
      refine rounds_end G n (rank + 1) _ (h.next G) ?_
      have := List.length_pos_iff.mpr q
      rw [List.length_append]
      omega
theorem lostRaw_inv {g : List (Way × Rows)} (G : (g.map (·.1)).Nodup) : ∃ r', RInv g (lostRaw g) r' ∧ freshOf r' (lostRaw g) g = [] :=
  rounds_end G _ _ _ ⟨⟨List.nodup_nil, fun _ h => nomatch h⟩, fun _ h => nomatch h⟩ (by simp)
theorem look_keys {β : Type} (f : Way → β) : ∀ (l : List Way) (v : Way), look (l.map fun v => (v, f v)) v = if v ∈ l then some (f v) else none
  | [], v => by simp [look]
  | w :: l, v => by
    rw [List.map_cons, look_cons, look_keys f l v]
    by_cases h : w = v
    · subst h; simp
    · have : ¬ v = w := fun e => h e.symm
      simp [h, this]
theorem look_lost (g : List (Way × Rows)) (v : Way) : look (lostOf g) v = look (lostRaw g) v := by
  unfold lostOf
  rw [look_keys fun v => (look (lostRaw g) v).getD noRank]
  have hm : v ∈ srtT pWay ((lostRaw g).map (·.1)) ↔ v ∈ (lostRaw g).map (·.1) := (srtT_perm _ _).mem_iff
  by_cases h : v ∈ (lostRaw g).map (·.1)
  · rw [if_pos (hm.mpr h)]
    obtain ⟨r, hr⟩ := Option.isSome_iff_exists.mp (look_isSome.mpr h)
    rw [hr]
    rfl
  · rw [if_neg fun q => h (hm.mp q), look_none.mpr h]
/-- what is not lost has an answer that is not lost -/
theorem lost_not {g : List (Way × Rows)} (G : (g.map (·.1)).Nodup) {v : Way} {rs : Rows} (hv : (v, rs) ∈ g) (hn : look (lostOf g) v = none) : ∀ r ∈ rs, ∃ o ∈ r.2, look (lostOf g) o = none := by
  obtain ⟨r', h1, h2⟩ := lostRaw_inv G
  rw [look_lost] at hn
  have hb := fresh_nil h2 (v, rs) hv hn
  intro r hr
  refine Decidable.byContradiction fun q => ?_
  have : r.1 ∈ badOf (lostRaw g) rs := by
    unfold badOf
    refine List.mem_map.mpr ⟨r, List.mem_filter.mpr ⟨hr, List.all_eq_true.mpr fun o ho => ?_⟩, rfl⟩
    cases z : look (lostRaw g) o with
    | some _ => rfl
    | none => exact absurd ⟨o, ho, by rw [look_lost]; exact z⟩ q
  rw [hb] at this
  cases this
/-- what is lost falls -/
theorem lost_is {g : List (Way × Rows)} (G : (g.map (·.1)).Nodup) {v : Way} {r : Nat × Ask} (h : look (lostOf g) v = some r) : ∃ rs sv, (v, rs) ∈ g ∧ (r.2, sv) ∈ rs ∧ ∀ o ∈ sv, ∃ r', look (lostOf g) o = some r' ∧ r'.1 < r.1 := by
  obtain ⟨r0, h1, _⟩ := lostRaw_inv G
  rw [look_lost] at h
  obtain ⟨_, rs, sv, h2, h3, h4⟩ := h1.gr (v, r) (look_mem h)
  exact ⟨rs, sv, h2, h3, fun o ho => let ⟨r', q1, q2⟩ := h4 o ho; ⟨r', by rw [look_lost]; exact q1, q2⟩⟩
theorem lost_keys {g : List (Way × Rows)} (G : (g.map (·.1)).Nodup) : ((lostOf g).map (·.1)).Nodup ∧ (lostOf g).length ≤ g.length := by
  obtain ⟨r0, h1, _⟩ := lostRaw_inv G
  have e : (lostOf g).map (·.1) = srtT pWay ((lostRaw g).map (·.1)) := by
    unfold lostOf
    rw [List.map_map]
    exact List.map_id _
  rw [e, (srtT_perm _ _).nodup_iff]
  refine ⟨h1.ok.nd, ?_⟩
  have := h1.ok.len
  unfold lostOf
  rw [List.length_map, (srtT_perm _ _).length_eq, List.length_map]
  exact this
/-! ### the game of a box -/
theorem game_key {s m : Int} {fr : List (List Int)} {ws bar : List Way} : (gameOf s m fr ws bar).map (·.1) = ws.filter fun v => !mem v bar := by
  unfold gameOf
  rw [List.map_map]
  exact List.map_id _
theorem game_nodup {s m : Int} {fr : List (List Int)} {ws bar : List Way} (h : ws.Nodup) : ((gameOf s m fr ws bar).map (·.1)).Nodup := by
  rw [game_key]
  exact h.sublist List.filter_sublist
theorem game_mem {s m : Int} {fr : List (List Int)} {ws bar : List Way} {v : Way} {rs : Rows} : (v, rs) ∈ gameOf s m fr ws bar ↔ v ∈ ws ∧ v ∉ bar ∧ rs = rowsOf_ s m fr ws bar v := by
  unfold gameOf
  rw [List.mem_map]
  constructor
  · rintro ⟨u, hu, e⟩
    obtain ⟨h1, h2⟩ := List.mem_filter.mp hu
    injection e with e1 e2
    subst e1
    exact ⟨h1, mem_no.mp (by rw [Bool.not_eq_true'] at h2; exact h2), e2.symm⟩
  · rintro ⟨h1, h2, rfl⟩
    exact ⟨v, List.mem_filter.mpr ⟨h1, by rw [mem_no.mpr h2]; rfl⟩, rfl⟩
theorem game_look {s m : Int} {fr : List (List Int)} {ws bar : List Way} (hn : ws.Nodup) {v : Way} (h1 : v ∈ ws) (h2 : v ∉ bar) : look (gameOf s m fr ws bar) v = some (rowsOf_ s m fr ws bar v) :=
  look_some (game_nodup hn) (game_mem.mpr ⟨h1, h2, rfl⟩)
theorem game_look_iff {s m : Int} {fr : List (List Int)} {ws bar : List Way} {v : Way} : (look (gameOf s m fr ws bar) v).isSome = true ↔ v ∈ ws ∧ v ∉ bar := by
  rw [look_isSome, game_key, List.mem_filter, Bool.not_eq_true', mem_no]
theorem row_mem {s m : Int} {fr : List (List Int)} {ws bar : List Way} {v : Way} {a : Ask} {sv : List Way} : (a, sv) ∈ rowsOf_ s m fr ws bar v ↔ a ∈ asksAt s fr v ∧ sv = (ansL s m ws v a).filter fun o => !mem o bar := by
  unfold rowsOf_
  rw [List.mem_map]
  constructor
  · rintro ⟨u, hu, e⟩
    injection e with e1 e2
    subst e1
    exact ⟨hu, e2.symm⟩
  · rintro ⟨h1, rfl⟩
    exact ⟨a, h1, rfl⟩
theorem several_mem {s m : Int} {ws bar : List Way} {v o : Way} {a : Ask} : o ∈ (ansL s m ws v a).filter (fun o => !mem o bar) ↔ o ∈ ansL s m ws v a ∧ o ∉ bar := by
  rw [List.mem_filter, Bool.not_eq_true', mem_no]
end Ac
-- part L10
set_option maxHeartbeats 4000000
set_option Elab.async false
set_option maxRecDepth 100000
set_option linter.all false
/-! Ac, plain: a game of a box: keeping, plan, paper. -/
namespace Ac
open PySem PySem.Spec PyProof.Rows L2
/-- a game as it is drawn -/
structure GmIn (i : Gm) : Prop where
  b : BxOk i.b
  fr : FrOk i.b.s i.fr
  m0 : 0 ≤ i.m
  m20 : i.m ≤ 20
  bst : ∀ v ∈ i.bar, StOk i.b i.fr v
  basc : AscT pWay i.bar
theorem pairs_nodup {s : Int} (h2 : 2 ≤ s) (h5 : s ≤ 5) : (pairs s).Nodup := by
  have : s = 2 ∨ s = 3 ∨ s = 4 ∨ s = 5 := by omega
  rcases this with rfl | rfl | rfl | rfl <;> decide +kernel
theorem asks_len {b : Bx} (hb : BxOk b) (fr : List (List Int)) {v : Way} (hv : v.length ≤ 8) : (asksAt b.s fr v).length ≤ 33 := by
  unfold asksAt
  rw [List.length_append, List.length_map, List.length_map]
  have h1 := List.length_filter_le (fun p => isOf (withP b.s (loadOf b.s v) p) fr) (pairs b.s)
  have h2 := pairs_le b.s hb.s5
  omega
section
variable {i : Gm} (h : GmIn i)
include h
theorem gm_ws {v : Way} : v ∈ i.ws ↔ StOk i.b i.fr v := mem_stands h.b h.fr
theorem gm_nil : StOk i.b i.fr [] := ⟨wayOk_of h.b (List.nil_sublist _) List.nodup_nil, isOf_nil h.fr⟩
theorem gm_nd : i.ws.Nodup := stands_nodup h.b
theorem gm_G : (i.g.map (·.1)).Nodup := game_nodup (gm_nd h)
theorem gm_standsOk : StandsOk i.b i.ws := ⟨stands_few h.b, gm_nd h, fun v hv => ((gm_ws h).mp hv).way.few⟩
theorem gm_gfew : i.g.length ≤ 256 := by
  have e : i.g.length = (i.g.map (·.1)).length := (List.length_map _).symm
  have e2 : i.g.map (·.1) = i.ws.filter fun v => !mem v i.bar := game_key
  rw [e, e2]
  have h1 := List.length_filter_le (fun v => !mem v i.bar) i.ws
  have h2 := (gm_standsOk h).few
  omega
theorem gm_rows_len {v : Way} (hv : StOk i.b i.fr v) : (rowsOf_ i.b.s i.m i.fr i.ws i.bar v).length ≤ 60 ∧ ∀ r ∈ rowsOf_ i.b.s i.m i.fr i.ws i.bar v, r.2.length ≤ 257 := by
  constructor
  · unfold rowsOf_
    rw [List.length_map]
    have := asks_len h.b i.fr (way_len h.b (way_sub h.b hv.way))
    omega
  · rintro ⟨a, sv⟩ hr
    obtain ⟨_, rfl⟩ := row_mem.mp hr
    have h1 := ansL_len i.b.s i.m i.ws v a
    have h2 := List.length_filter_le (fun o => !mem o i.bar) (ansL i.b.s i.m i.ws v a)
    have h3 := (gm_standsOk h).few
    show (List.filter _ _).length ≤ 257
    omega
theorem gm_gameOk : GameOk i.g := ⟨gm_G h, gm_gfew h, fun ⟨v, rs⟩ hx => by
  obtain ⟨h1, _, rfl⟩ := game_mem.mp hx
  exact gm_rows_len h ((gm_ws h).mp h1)⟩
theorem gm_bfew : i.bar.length ≤ 256 := by
  have h1 := len_in i.bar i.ws (ascT_nodup h.basc) fun v hv => (gm_ws h).mpr (h.bst v hv)
  have h2 := (gm_standsOk h).few
  omega
theorem gmOk_of {w : World} (hh : (i.g.map fun x => (kWay x.1).hash w).Nodup) : GmOk w i := ⟨h.b, h.fr, h.m0, h.m20, h.bst, h.basc, by have := gm_bfew h; omega, gm_standsOk h, gm_gameOk h, hh⟩
/-- answers in the game -/
theorem gm_ans {v : Way} {a : Ask} (hv : StOk i.b i.fr v) (ha : AskOk i.b i.fr v a) {o : Way} : o ∈ ansW i.b i.m v a ↔ o ∈ ansL i.b.s i.m i.ws v a := ans_same h.b h.fr ha
/-! ### what is kept -/
theorem kept_iff {ks : List Way} (hk : keptOf i.g = some ks) : (([] : Way) ∉ i.bar ∧ look (lostOf i.g) [] = none) ∧ AscT pWay ks ∧ ∀ v, v ∈ ks ↔ v ∈ i.ws ∧ v ∉ i.bar ∧ look (lostOf i.g) v = none := by
  unfold keptOf at hk
  split at hk
  · cases hk
  · rename_i q
    injection hk with e
    subst e
    have q' : (!(look i.g []).isSome || (look (lostOf i.g) []).isSome) = false := by
      cases z : (!(look i.g []).isSome || (look (lostOf i.g) []).isSome) with
      | true => exact absurd z q
      | false => rfl
    rw [Bool.or_eq_false_iff, Bool.not_eq_false'] at q'
    obtain ⟨q1, q2⟩ := q'
    have q3 := game_look_iff.mp q1
    refine ⟨⟨q3.2, Option.isSome_eq_false_iff.mp q2 |> fun z => by cases y : look (lostOf i.g) [] with | none => rfl | some _ => rw [y] at z; cases z⟩, ?_, fun v => ?_⟩
    · exact asc_of_sub List.filter_sublist (srtT_asc eqv_way al_way (gm_G h))
    · have e2 : i.g.map (·.1) = i.ws.filter fun v => !mem v i.bar := game_key
      rw [List.mem_filter, (srtT_perm _ _).mem_iff, e2, List.mem_filter, Bool.not_eq_true', Bool.not_eq_true', mem_no, and_assoc]
      constructor
      · rintro ⟨a, b, c⟩
        refine ⟨a, b, ?_⟩
        cases z : look (lostOf i.g) v with
        | none => rfl
        | some _ => rw [z] at c; cases c
      · rintro ⟨a, b, c⟩
        exact ⟨a, b, by rw [c]; rfl⟩
theorem kept_ans {ks : List Way} (hk : keptOf i.g = some ks) {v : Way} (hv : v ∈ ks) {a : Ask} (ha : a ∈ asksAt i.b.s i.fr v) : ∃ o, o ∈ ansL i.b.s i.m i.ws v a ∧ o ∉ i.bar ∧ o ∈ ks := by
  obtain ⟨_, _, hm⟩ := kept_iff h hk
  obtain ⟨h1, h2, h3⟩ := (hm v).mp hv
  have hst := (gm_ws h).mp h1
  obtain ⟨o, ho, hn⟩ := lost_not (gm_G h) (game_mem.mpr ⟨h1, h2, rfl⟩) h3 (a, _) (row_mem.mpr ⟨ha, rfl⟩)
  obtain ⟨o1, o2⟩ := several_mem.mp ho
  exact ⟨o, o1, o2, (hm o).mpr ⟨(gm_ws h).mpr (ans_st h.b hst ha ((gm_ans h hst ha).mpr o1)), o2, hn⟩⟩
theorem kept_held {ks : List Way} (hk : keptOf i.g = some ks) : ∀ v ∈ ks, ∀ a ∈ asksAt i.b.s i.fr v, ((ansL i.b.s i.m ks v a).any fun o => mem o ks) = true := fun v hv a ha => by
  obtain ⟨o, o1, o2, o3⟩ := kept_ans h hk hv ha
  refine List.any_eq_true.mpr ⟨o, ?_, mem_iff.mpr o3⟩
  cases a with
  | fin x => exact o1
  | want p =>
    obtain ⟨_, h2⟩ := mem_ansL.mp o1
    exact mem_ansL.mpr ⟨o3, h2⟩
theorem kept_st {ks : List Way} (hk : keptOf i.g = some ks) : ∀ v ∈ ks, StOk i.b i.fr v := fun v hv => (gm_ws h).mp ((kept_iff h hk).2.2 v |>.mp hv).1
theorem kept_few {ks : List Way} (hk : keptOf i.g = some ks) : ks.length ≤ 256 := by
  obtain ⟨_, ha, hm⟩ := kept_iff h hk
  have h1 := len_in ks i.ws (ascT_nodup ha) fun v hv => ((hm v).mp hv).1
  have h2 := (gm_standsOk h).few
  omega
theorem kept_nil {ks : List Way} (hk : keptOf i.g = some ks) : ([] : Way) ∈ ks := by
  obtain ⟨⟨h1, h2⟩, _, hm⟩ := kept_iff h hk
  exact (hm []).mpr ⟨(gm_ws h).mpr (gm_nil h), h1, h2⟩
/-! ### the plan -/
def wantsOf : Ask → List Pin
  | .want p => [p]
  | .fin _ => []
omit h in
theorem wants_asks (s : Int) (fr : List (List Int)) (v : Way) : (asksAt s fr v).flatMap wantsOf = (pairs s).filter fun p => isOf (withP s (loadOf s v) p) fr := by
  unfold asksAt
  rw [List.flatMap_append]
  have h1 : ∀ l : List Sw, (l.map Ask.fin).flatMap wantsOf = [] := by
    intro l
    induction l with
    | nil => rfl
    | cons x l ih => rw [List.map_cons, List.flatMap_cons, ih]; rfl
  have h2 : ∀ l : List Pin, (l.map Ask.want).flatMap wantsOf = l := by
    intro l
    induction l with
    | nil => rfl
    | cons x l ih => rw [List.map_cons, List.flatMap_cons, ih]; rfl
  rw [h1, h2]
  rfl
omit h in
theorem planRows_keys (ks : List Way) (v : Way) (f : Ask → List Way) : ∀ as : List Ask, ((as.map fun a => (a, f a)).flatMap (planRow ks v)).map (·.1) = (as.flatMap wantsOf).map fun p => (v, p)
  | [] => rfl
  | a :: as => by
    rw [List.map_cons, List.flatMap_cons, List.map_append, planRows_keys ks v f as, List.flatMap_cons, List.map_append]
    cases a <;> rfl
theorem plan_at {ks : List Way} {v : Way} (h1 : v ∈ i.ws) (h2 : v ∉ i.bar) : planAt i.g ks v = (rowsOf_ i.b.s i.m i.fr i.ws i.bar v).flatMap (planRow ks v) := by
  unfold planAt
  have e : look i.g v = some (rowsOf_ i.b.s i.m i.fr i.ws i.bar v) := game_look (gm_nd h) h1 h2
  rw [e]
  rfl
theorem plan_keys {ks : List Way} {v : Way} (h1 : v ∈ i.ws) (h2 : v ∉ i.bar) : (planAt i.g ks v).map (·.1) = ((pairs i.b.s).filter fun p => isOf (withP i.b.s (loadOf i.b.s v) p) i.fr).map fun p => (v, p) := by
  rw [plan_at h h1 h2]
  unfold rowsOf_
  rw [planRows_keys ks v (fun a => (ansL i.b.s i.m i.ws v a).filter fun o => !mem o i.bar), wants_asks]
theorem plan_nodup {ks : List Way} (hn : ks.Nodup) (hm : ∀ v ∈ ks, v ∈ i.ws ∧ v ∉ i.bar) : ((planOf i.g ks).map (·.1)).Nodup := by
  have aux : ∀ l : List Way, l.Nodup → (∀ v ∈ l, v ∈ i.ws ∧ v ∉ i.bar) → ((l.flatMap (planAt i.g ks)).map (·.1)).Nodup ∧ ∀ x ∈ (l.flatMap (planAt i.g ks)).map (·.1), x.1 ∈ l := by
    intro l
    induction l with
    | nil => intro _ _; exact ⟨List.nodup_nil, fun _ z => nomatch z⟩
    | cons v l ih =>
      intro hn hm
      obtain ⟨n1, n2⟩ := List.nodup_cons.mp hn
      obtain ⟨i1, i2⟩ := ih n2 fun z hz => hm z (List.mem_cons_of_mem _ hz)
      obtain ⟨v1, v2⟩ := hm v List.mem_cons_self
      rw [List.flatMap_cons, List.map_append, plan_keys h v1 v2]
      refine ⟨List.nodup_append.mpr ⟨?_, i1, fun a ha b hb e => ?_⟩, fun x hx => ?_⟩
      · refine List.pairwise_map.mpr (((pairs_nodup h.b.s2 h.b.s5).sublist List.filter_sublist).imp fun {a b} ne e => ne (by injection e))
      · obtain ⟨p, _, rfl⟩ := List.mem_map.mp ha
        have := i2 b hb
        rw [← e] at this
        exact n1 this
      · rcases List.mem_append.mp hx with hx | hx
        · obtain ⟨p, _, rfl⟩ := List.mem_map.mp hx
          exact List.mem_cons_self
        · exact List.mem_cons_of_mem _ (i2 x hx)
  exact (aux ks hn hm).1
theorem kept_several {ks : List Way} (hk : keptOf i.g = some ks) {v : Way} (hv : v ∈ ks) {a : Ask} (ha : a ∈ asksAt i.b.s i.fr v) : (((ansL i.b.s i.m i.ws v a).filter fun o => !mem o i.bar).filter fun o => mem o ks) ≠ [] := fun e => by
  obtain ⟨o, o1, o2, o3⟩ := kept_ans h hk hv ha
  have : o ∈ ((ansL i.b.s i.m i.ws v a).filter fun o => !mem o i.bar).filter fun o => mem o ks := List.mem_filter.mpr ⟨several_mem.mpr ⟨o1, o2⟩, mem_iff.mpr o3⟩
  rw [e] at this
  cases this
theorem kept_planOk {ks : List Way} (hk : keptOf i.g = some ks) : PlanOk i.g ks := by
  obtain ⟨_, ha, hm⟩ := kept_iff h hk
  refine ⟨kept_few h hk, ascT_nodup ha, fun v hv => ?_, plan_nodup h (ascT_nodup ha) fun v hv => ⟨((hm v).mp hv).1, ((hm v).mp hv).2.1⟩⟩
  obtain ⟨v1, v2, _⟩ := (hm v).mp hv
  obtain ⟨l1, l2⟩ := gm_rows_len h ((gm_ws h).mp v1)
  refine ⟨_, game_look (gm_nd h) v1 v2, l1, fun ⟨a, sv⟩ hr => ⟨l2 _ hr, fun p e => ?_⟩⟩
  obtain ⟨q1, rfl⟩ := row_mem.mp hr
  exact kept_several h hk hv q1
theorem plan_look {ks : List Way} (hk : keptOf i.g = some ks) {v : Way} (hv : v ∈ ks) {p : Pin} (ha : Ask.want p ∈ asksAt i.b.s i.fr v) : ∃ o, look (planOf i.g ks) (v, p) = some o ∧ o ∈ ks ∧ o ∈ ansW i.b i.m v (.want p) ∧ o ∉ i.bar := by
  obtain ⟨_, hasc, hm⟩ := kept_iff h hk
  obtain ⟨v1, v2, _⟩ := (hm v).mp hv
  have hst := (gm_ws h).mp v1
  have hne := kept_several h hk hv ha
  refine ⟨(((ansL i.b.s i.m i.ws v (.want p)).filter fun o => !mem o i.bar).filter fun o => mem o ks).headD [], ?_, ?_⟩
  · refine look_some (kept_planOk h hk).keys (List.mem_flatMap.mpr ⟨v, hv, ?_⟩)
    rw [plan_at h v1 v2]
    exact List.mem_flatMap.mpr ⟨(.want p, _), row_mem.mpr ⟨ha, rfl⟩, List.mem_singleton.mpr rfl⟩
  · have hmem : ∀ l : List Way, l ≠ [] → l.headD [] ∈ l := fun l hl => by
      cases l with
      | nil => exact absurd rfl hl
      | cons a r => exact List.mem_cons_self
    obtain ⟨m1, m2⟩ := List.mem_filter.mp (hmem _ hne)
    obtain ⟨m3, m4⟩ := several_mem.mp m1
    exact ⟨mem_iff.mp m2, (gm_ans h hst ha).mpr m3, m4⟩
/-! ### the paper -/
theorem doom_paper (hn : ([] : Way) ∉ i.bar) (hl : (look (lostOf i.g) []).isSome = true) : PaperOk i (lostOf i.g) := by
  obtain ⟨k1, k2⟩ := lost_keys (gm_G h)
  have hg := gm_gfew h
  have key : ∀ x ∈ lostOf i.g, ∃ sv, x.1 ∈ i.ws ∧ x.1 ∉ i.bar ∧ x.2.2 ∈ asksAt i.b.s i.fr x.1 ∧ sv = (ansL i.b.s i.m i.ws x.1 x.2.2).filter (fun o => !mem o i.bar) ∧ ∀ o ∈ sv, ∃ r', look (lostOf i.g) o = some r' ∧ r'.1 < x.2.1 := fun x hx => by
    obtain ⟨rs, sv, q1, q2, q3⟩ := lost_is (gm_G h) (look_some k1 hx)
    obtain ⟨w1, w2, rfl⟩ := game_mem.mp q1
    obtain ⟨a1, a2⟩ := row_mem.mp q2
    exact ⟨sv, w1, w2, a1, a2, q3⟩
  refine ⟨by omega, k1, hl, fun x hx => ?_, fun x hx => ?_⟩
  · obtain ⟨sv, w1, w2, a1, _⟩ := key x hx
    exact ⟨(gm_ws h).mp w1, w2, a1⟩
  · obtain ⟨sv, w1, w2, a1, rfl, q3⟩ := key x hx
    intro o ho hob
    exact q3 o (several_mem.mpr ⟨(gm_ans h ((gm_ws h).mp w1) a1).mp ho, hob⟩)
/-- there is a keeping or a doom, never both -/
theorem either : (∃ ks, keptOf i.g = some ks ∧ doomOf i.g = none ∧ ([] : Way) ∉ i.bar) ∨ (keptOf i.g = none ∧ ∃ l, doomOf i.g = some l ∧ ((([] : Way) ∈ i.bar ∧ l = []) ∨ (([] : Way) ∉ i.bar ∧ PaperOk i l))) := by
  by_cases hb : ([] : Way) ∈ i.bar
  · right
    have hg : (look i.g []).isSome = false := by
      cases z : (look i.g []).isSome with
      | false => rfl
      | true => exact absurd hb (game_look_iff.mp z).2
    refine ⟨by unfold keptOf; rw [hg]; rfl, [], by unfold doomOf; rw [hg]; rfl, .inl ⟨hb, rfl⟩⟩
  · have hg : (look i.g []).isSome = true := game_look_iff.mpr ⟨(gm_ws h).mpr (gm_nil h), hb⟩
    cases hl : (look (lostOf i.g) []).isSome with
    | true =>
      right
      refine ⟨by unfold keptOf; rw [hg, hl]; rfl, lostOf i.g, by unfold doomOf; rw [hg, hl]; rfl, .inr ⟨hb, doom_paper h hb hl⟩⟩
    | false =>
      left
      refine ⟨(srtT pWay (i.g.map (·.1))).filter fun v => !(look (lostOf i.g) v).isSome, by unfold keptOf; rw [hg, hl]; rfl, by unfold doomOf; rw [hg, hl]; rfl, hb⟩
end
end Ac
-- part L11
set_option maxHeartbeats 4000000
set_option Elab.async false
set_option maxRecDepth 100000
set_option linter.all false
/-! Ac, plain: the full boxes, gone through. -/
namespace Ac
open PySem PySem.Spec PyProof.Rows L2
/-! ### hashes -/
def hPin (p : Pin) : Int := reduceHash (Builtin.Tuple.tupleHashOf [hashInt p.1, hashInt p.2])
def hSw (s : Sw) : Int := reduceHash (Builtin.Tuple.tupleHashOf [hPin s.1, hPin s.2])
def hWay (v : Way) : Int := reduceHash (Builtin.Tuple.tupleHashOf (v.map hSw))
theorem hash_pin (w : World) (p : Pin) : (kPin p).hash w = hPin p := by
  unfold kPin hPin
  rw [NestedKey.hash, NestedKey.hashes, NestedKey.hashes, NestedKey.hashes, NestedKey.hash, NestedKey.hash]
theorem hash_sw (w : World) (s : Sw) : (kSw s).hash w = hSw s := by
  unfold kSw hSw
  rw [NestedKey.hash, NestedKey.hashes, NestedKey.hashes, NestedKey.hashes, hash_pin, hash_pin]
theorem hashes_map (w : World) : ∀ v : Way, NestedKey.hashes w (v.map kSw) = v.map hSw
  | [] => by rw [List.map_nil, NestedKey.hashes]; rfl
  | s :: v => by rw [List.map_cons, List.map_cons, NestedKey.hashes, hash_sw, hashes_map w v]
theorem hash_way (w : World) (v : Way) : (kWay v).hash w = hWay v := by
  unfold kWay hWay
  rw [NestedKey.hash, hashes_map]
/-! ### a tree of numbers -/
inductive Tr where
  | leaf
  | node (l : Tr) (k : Nat) (r : Tr)
def Tr.toL : Tr → List Nat
  | .leaf => []
  | .node l k r => l.toL ++ k :: r.toL
def Tr.ins (x : Nat) : Tr → Option Tr
  | .leaf => some (.node .leaf x .leaf)
  | .node l k r => match Nat.blt x k with
    | true => (match l.ins x with | some l' => some (.node l' k r) | none => none)
    | false => match Nat.blt k x with
      | true => (match r.ins x with | some r' => some (.node l k r') | none => none)
      | false => none
theorem blt_iff {a b : Nat} : Nat.blt a b = true ↔ a < b := by rw [Nat.blt_eq]
theorem Tr.ins_ok (x : Nat) : ∀ {t t' : Tr}, t.toL.Pairwise (· < ·) → t.ins x = some t' → t'.toL.Pairwise (· < ·) ∧ t'.toL.Perm (x :: t.toL)
  | .leaf, t', _, h => by
    injection h with h
    subst h
    exact ⟨List.pairwise_singleton _ _, List.Perm.refl _⟩
  | .node l k r, t', hs, h => by
    unfold Tr.ins at h
    have hs' : (l.toL ++ k :: r.toL).Pairwise (· < ·) := hs
    obtain ⟨s1, s2, s3⟩ := List.pairwise_append.mp hs'
    obtain ⟨s4, s5⟩ := List.pairwise_cons.mp s2
    cases q : Nat.blt x k with
    | true =>
      rw [q] at h
      have lt := blt_iff.mp q
      cases z : l.ins x with
      | none => rw [z] at h; cases h
      | some l' =>
        rw [z] at h
        injection h with h
        subst h
        obtain ⟨o1, o2⟩ := Tr.ins_ok x s1 z
        refine ⟨List.pairwise_append.mpr ⟨o1, s2, fun a ha b hb => ?_⟩, ?_⟩
        · rcases List.mem_cons.mp (o2.mem_iff.mp ha) with e | ha
          · subst e
            rcases List.mem_cons.mp hb with e | hb
            · rw [e]; exact lt
            · exact Nat.lt_trans lt (s4 b hb)
          · exact s3 a ha b hb
        · show (l'.toL ++ k :: r.toL).Perm (x :: (l.toL ++ k :: r.toL))
          exact List.Perm.append_right (k :: r.toL) o2
    | false =>
      rw [q] at h
      cases q2 : Nat.blt k x with
      | false => rw [q2] at h; cases h
      | true =>
        rw [q2] at h
        have lt := blt_iff.mp q2
        cases z : r.ins x with
        | none => rw [z] at h; cases h
        | some r' =>
          rw [z] at h
          injection h with h
          subst h
          obtain ⟨o1, o2⟩ := Tr.ins_ok x s5 z
          refine ⟨List.pairwise_append.mpr ⟨s1, List.pairwise_cons.mpr ⟨fun b hb => ?_, o1⟩, fun a ha b hb => ?_⟩, ?_⟩
          · rcases List.mem_cons.mp (o2.mem_iff.mp hb) with e | hb
            · rw [e]; exact lt
            · exact s4 b hb
          · rcases List.mem_cons.mp hb with e | hb
            · rw [e]; exact s3 a ha k List.mem_cons_self
            · rcases List.mem_cons.mp (o2.mem_iff.mp hb) with e | hb
              · rw [e]; exact Nat.lt_trans (s3 a ha k List.mem_cons_self) lt
              · exact s3 a ha b (List.mem_cons_of_mem _ hb)
          · show (l.toL ++ k :: r'.toL).Perm (x :: (l.toL ++ k :: r.toL))
            have p1 : (l.toL ++ k :: r'.toL).Perm (l.toL ++ (x :: k :: r.toL)) := List.Perm.append_left _ ((List.Perm.cons k o2).trans (List.Perm.swap _ _ _))
            exact p1.trans List.perm_middle
def Tr.all : List Nat → Tr → Bool
  | [], _ => true
  | x :: l, t => match t.ins x with
    | some t' => Tr.all l t'
    | none => false
theorem Tr.all_ok : ∀ {l : List Nat} {t : Tr}, t.toL.Pairwise (· < ·) → Tr.all l t = true → (l ++ t.toL).Nodup
  | [], t, hs, _ => hs.imp fun h e => by omega
  | x :: l, t, hs, h => by
    unfold Tr.all at h
    cases z : t.ins x with
    | none => rw [z] at h; cases h
    | some t' =>
      rw [z] at h
      obtain ⟨o1, o2⟩ := Tr.ins_ok x hs z
      have ih := Tr.all_ok o1 h
      have p1 : (l ++ t'.toL).Perm (l ++ x :: t.toL) := List.Perm.append_left _ o2
      have p2 : (l ++ x :: t.toL).Perm (x :: (l ++ t.toL)) := List.perm_middle
      exact (p1.trans p2).nodup_iff.mp ih
def codeH (h : Int) : Nat := (h + 9223372036854775808).toNat
theorem nodup_of_map {α β : Type} {f : α → β} {l : List α} (h : (l.map f).Nodup) : l.Nodup := (List.pairwise_map.mp h).imp fun ne e => ne (by rw [e])
/-! ### full boxes -/
def fullSw (s : Int) (m : Nat) : List Sw := (List.range s.toNat).flatMap fun a => (List.range m).flatMap fun t => (from_ s (0 + (a : Nat))).flatMap fun o => (List.range m).map fun e => (((0 + (a : Nat) : Int), (0 + (t : Nat) : Int)), (o, (0 + (e : Nat) : Int)))
def allF (s : Int) (m : Nat) : List Way := gen free_ [] (fullSw s m)
def difL : List (List Int) → List (List Int) → List (List Int)
  | [], acc => acc
  | l :: r, acc => match acc.any fun o => decide (o = l) with
    | true => difL r acc
    | false => difL r (l :: acc)
theorem difL_mem : ∀ {ls acc : List (List Int)} {x : List Int}, x ∈ ls ∨ x ∈ acc → x ∈ difL ls acc
  | [], acc, x, h => h.resolve_left (by simp)
  | l :: r, acc, x, h => by
    unfold difL
    cases q : (acc.any fun o => decide (o = l)) with
    | true =>
      obtain ⟨o, ho, e⟩ := List.any_eq_true.mp q
      have e := of_decide_eq_true e
      subst e
      rcases h with h | h
      · rcases List.mem_cons.mp h with e | h
        · rw [e]; exact difL_mem (.inr ho)
        · exact difL_mem (.inl h)
      · exact difL_mem (.inr h)
    | false =>
      rcases h with h | h
      · rcases List.mem_cons.mp h with e | h
        · rw [e]; exact difL_mem (.inr List.mem_cons_self)
        · exact difL_mem (.inl h)
      · exact difL_mem (.inr (List.mem_cons_of_mem _ h))
def goodB (p : Pin) : Bool := Tr.all ((allF p.1 p.2.toNat).map fun v => codeH (hWay v)) .leaf && Nat.ble (difL ((allF p.1 p.2.toNat).map (loadOf p.1)) []).length 62
def boxesD : List Pin := [(2, 2), (3, 2), (3, 3), (4, 2), (2, 3), (4, 1), (5, 1), (3, 1)]
theorem good22 : goodB (2, 2) = true := by decide +kernel
theorem good32 : goodB (3, 2) = true := by decide +kernel
theorem good23 : goodB (2, 3) = true := by decide +kernel
theorem good41 : goodB (4, 1) = true := by decide +kernel
theorem good51 : goodB (5, 1) = true := by decide +kernel
theorem good42 : goodB (4, 2) = true := by decide +kernel
theorem good33 : goodB (3, 3) = true := by decide +kernel
theorem good31 : goodB (3, 1) = true := by decide +kernel
end Ac
-- part C19
set_option Elab.async false
set_option maxRecDepth 100000
set_option maxHeartbeats 4000000
set_option linter.all false
namespace Ac
open PySem PySem.Spec PyProof.Rows L2
theorem perm_map_ex {α β : Type} {f : α → β} {l l' : List β} (h : l.Perm l') : ∀ xs : List α, l' = xs.map f → ∃ zs : List α, l = zs.map f ∧ zs.Perm xs := by
  induction h with
  | nil => intro xs e; exact ⟨[], rfl, by rw [List.map_eq_nil_iff.mp e.symm]⟩
  | cons x h ih =>
    intro xs e
    cases xs with
    | nil => simp at e
    | cons y ys =>
      rw [List.map_cons] at e
      injection e with e1 e2
      obtain ⟨zs, h1, h2⟩ := ih ys e2
      exact ⟨y :: zs, by rw [h1, e1]; rfl, h2.cons y⟩
  | swap x y l =>
    intro xs e
    match xs, e with
    | [], e => simp at e
    | [a], e => simp at e
    | a :: b :: ys, e =>
      simp only [List.map_cons, List.cons.injEq] at e
      obtain ⟨e1, e2, e3⟩ := e
      exact ⟨b :: a :: ys, by rw [e1, e2, e3]; rfl, List.Perm.swap a b ys⟩
  | trans h1 h2 ih1 ih2 =>
    intro xs e
    obtain ⟨zs, g1, g2⟩ := ih2 xs e
    obtain ⟨us, k1, k2⟩ := ih1 zs g1
    exact ⟨us, k1, k2.trans g2⟩
def boxesL : List Pin := [(2, 2), (3, 2), (3, 2), (3, 3), (4, 2), (2, 3), (4, 1), (5, 1), (3, 1)]
def fashL : List Fash := [.plain, .crossed, .crossed, .full, .some_, .some_]
def Fash.drop : Fash → Fash
  | .some_ => .full
  | f => f
/-- a drawn box -/
structure Sco (s m : Int) (sw : List Sw) (most : Nat) : Prop where
  b : (s, m) ∈ boxesL
  asc : AscT pSw sw
  sub : ∃ f : Fash, f ≠ .some_ ∧ ∀ x ∈ sw, x ∈ joinRaw s m.toNat f
  few : sw.length ≤ most
theorem joinRaw_nd : ∀ p ∈ boxesL, ∀ f : Fash, f ≠ .some_ → (joinRaw p.1 p.2.toNat f).Nodup := by
  intro p hp f hf
  have h : (boxesL.all fun p => decide (joinRaw p.1 p.2.toNat .plain).Nodup && decide (joinRaw p.1 p.2.toNat .crossed).Nodup && decide (joinRaw p.1 p.2.toNat .full).Nodup) = true := by decide +kernel
  have := List.all_eq_true.mp h p hp
  simp only [Bool.and_eq_true, decide_eq_true_eq] at this
  cases f with
  | plain => exact this.1.1
  | crossed => exact this.1.2
  | full => exact this.2
  | some_ => exact absurd rfl hf
theorem joinRaw_le : ∀ p ∈ boxesL, ∀ f : Fash, (joinRaw p.1 p.2.toNat f).length ≤ 30 := by
  intro p hp f
  have h : (boxesL.all fun p => Nat.ble (joinRaw p.1 p.2.toNat .plain).length 30 && Nat.ble (joinRaw p.1 p.2.toNat .crossed).length 30 && Nat.ble (joinRaw p.1 p.2.toNat .full).length 30 && Nat.ble (joinRaw p.1 p.2.toNat .some_).length 30) = true := by decide +kernel
  have := List.all_eq_true.mp h p hp
  simp only [Bool.and_eq_true, Nat.ble_eq] at this
  cases f with
  | plain => exact this.1.1.1
  | crossed => exact this.1.1.2
  | full => exact this.1.2
  | some_ => exact this.2
theorem boxes_nat : ∀ p ∈ boxesL, ∃ (a : Int) (k : Nat), p = (a, (k : Int)) ∧ 2 ≤ a ∧ a ≤ 5 ∧ 1 ≤ k ∧ k ≤ 3 := by
  intro p hp
  have h : (boxesL.all fun p => decide (2 ≤ p.1 ∧ p.1 ≤ 5 ∧ 1 ≤ p.2 ∧ p.2 ≤ 3)) = true := by decide +kernel
  have := of_decide_eq_true (List.all_eq_true.mp h p hp)
  exact ⟨p.1, p.2.toNat, Prod.ext rfl (by show p.2 = ((p.2.toNat : Nat) : Int); omega), this.1, this.2.1, by omega, by omega⟩
theorem sE_L {elts es : List Expr} {pos : Pos} {env : Env} : starEach (.List elts pos :: es) env = (false, eval (.List elts pos) env) :: starEach es env := rfl
theorem da_lst1 {X : Cx} {elts : List Expr} {pos : Pos} {dl : List Sl} {t : T} (h : DE X (.List elts pos) dl t) : DA X [.List elts pos] dl [t] := da_cons h da_nil sE_L
theorem drop_ne (f : Fash) : f.drop ≠ .some_ := by cases f <;> exact fun h => nomatch h
section
variable {P : Program} {w : World} {K : PySem.W.Frag} {mg : Str → Option Value} {base : Heap}
abbrev sd__law_scope : Stmt := top 82
abbrev N__law_scope : List Str := ["_law_state", "_law_most", "_law_sides_here", "_law_many", "_law_fashion", "_law_joined_here"]
theorem sc__law_scope : FnScope N__law_scope ["_law_state", "_law_most"] (defScope sd__law_scope) := ⟨rfl, rfl, rfl, by decide +kernel, rfl, by decide +kernel, by decide +kernel⟩
def resScope (most : Nat) (t : T) : Prop := ∃ s m sw, t = .scope s m (.tuple (sw.map pSw)) ∧ Sco s m sw most
abbrev F_law_scope (P : Program) (w : World) (K : PySem.W.Frag) (mg : Str → Option Value) (base : Heap) : Prop := FnS P w K mg base "_law_scope" 4 (fun i : Nat => [.p (.int (i : Nat))]) (fun i => 1 ≤ i ∧ i ≤ 100) (fun _ => 200) resScope
def cScp (s0 L : Addr) (most : Nat) (a : Int) (k : Nat) (f : Fash) (q : Nat × List Sw) : List Sl := [.st s0 L q.1, .t (.p (.int (most : Nat))), .t (.p (.int a)), .t (.p (.int (k : Nat))), .t (.p (.str f.str)), .t (.p (.list (q.2.map pSw)))]
theorem ok__law_scope (TF : TopF K mg "_law_scope" sd__law_scope) (B : Bi mg) (G1 : F_law_pick P w K mg base) (G2 : F_law_joined P w K mg base) (G3 : F_law_mixed P w K mg base) (G4 : F_law_draw P w K mg base) : F_law_scope P w K mg base := by
  refine fnS_body TF sc__law_scope (fun _ => rfl) (fun _ _ _ _ _ _ us hl => match us, hl with | [_, _], _ => rfl) fun f cdv A outer sh H E i s L n hr hok hn => ?_
  have hu := hr.units
  have hu5 := hr.u65
  have hN := sc__law_scope.nd
  obtain ⟨h1, h2⟩ := hok
  have hn' : n + 200 ≤ 1000000000 := hn
  refine sw_cons (s_tgE (e_call 0 (boxesL.map pPin) G1 hr rfl ?a ⟨by decide, by decide⟩ (by show n + 1 ≤ _; omega) fun t ht => ?_))
  case a =>
    refine da_lst1 ?_
    refine d_ls ?_
    iterate 9 (refine dp_cons ?_ ?_; exact d_tp (dp_cons d_int (dp_cons d_int dp_nil)))
    exact dp_nil
  obtain ⟨d, hd, rfl⟩ := ht
  obtain ⟨p, hp, rfl⟩ := List.mem_map.mp hd
  obtain ⟨a, k, rfl, ha2, ha5, hk1, hk3⟩ := boxes_nat p hp
  refine ⟨_, [2, 3], _, rfl, gt_tup rfl (gts_cons (gt_name 2 hN) (gts_cons (gt_name 3 hN) gts_nil)), ?_⟩
  refine sw_cons (s_asgE 4 hN (e_call 0 (fashL.map fun f => PyData.str f.str) G1 hr rfl ?a ⟨by decide, by decide⟩ (by show n + 1 + 1 ≤ _; omega) fun t ht => ?_))
  case a =>
    refine da_lst1 ?_
    refine d_ls ?_
    iterate 6 (refine dp_cons ?_ ?_; exact d_str)
    exact dp_nil
  obtain ⟨d, hd, rfl⟩ := ht
  obtain ⟨fa, hfa, rfl⟩ := List.mem_map.mp hd
  refine ⟨Nat.le_of_ble_eq_true rfl, ?_⟩
  have hcan : PyData.canLay0 (.str fa.str) = true := by cases fa <;> decide +kernel
  have hsome : decide (fa.str = ("some" : Str)) = decide (fa = .some_) := by cases fa <;> decide +kernel
  have hjn := joinRaw_nd _ hp fa.drop (drop_ne fa)
  have hjl := joinRaw_le _ hp fa.drop
  have hjl' : (joinRaw a k fa.drop).length ≤ 30 := hjl
  have hjn' : (joinRaw a k fa.drop).Nodup := hjn
  have hjp : (joined a k fa.drop).Perm (joinRaw a k fa.drop) := srtT_perm _ _
  have hJl : (joined a k fa.drop).length ≤ 30 := by rw [hjp.length_eq]; exact hjl'
  refine sw_cons (s_asg 5 hN (d_cl G2 hr (a, k, fa.drop) (da_cons (dv 2 rfl) (da_cons (dv 3 rfl) (da_cons (d_if (t := .p (.str fa.drop.str)) (dt_cmp (o_eqS hu hcan (by decide +kernel)) (dv 4 rfl).lend d_str.lend)
    (fun h => d_str.is (by rw [hsome] at h; rw [of_decide_eq_true h]; rfl)) (fun h => (dv 4 rfl).is (by rw [hsome] at h; have := of_decide_eq_false h; cases fa <;> first | rfl | exact absurd rfl this))) da_nil))) ⟨by show 0 ≤ a; omega, ha5, by show k ≤ 6; omega⟩) ?_)
  refine sw_if (S := Nat × List Sw) (cScp s L i a k fa) (fun q => q.1 ≤ n + 200 ∧ Sco a k q.2 i) ((dw_or (dt_cmp (o_eqS hu hcan (by decide +kernel)) (dv 4 rfl).lend d_str.lend) fun _ => dw_or1 (dt_cmp o_gt (d_len (k := true) (dv 5 rfl) rfl B.len_).lend (dv 1 rfl).lend)).test) (fun hk => ?_) (fun hk => ?_) (fun q hq => ?_)
  · refine sw_one (s_asgE 5 hN (e_callB (id := "sorted") (e_cut (e_call 0 ((joined a k fa.drop).map pSw) G3 hr rfl (da_cons (dv 5 rfl) da_nil) ⟨by rw [List.length_map]; omega, fun d hd => ?_⟩ (by rw [List.length_map]; show n + 1 + 1 + _ ≤ _; omega) fun t ht => ?_)) B.sorted_))
    · obtain ⟨x, _, rfl⟩ := List.mem_map.mp hd
      exact (lay_sw x).mono (by omega)
    · obtain ⟨es, rfl, hes⟩ := ht
      obtain ⟨zs, rfl, hzs⟩ := perm_map_ex hes (joined a k fa.drop) rfl
      refine ⟨_, rfl, e_bin (e_de d_int (e_call 0 (i : Int) G4 hr rfl (da_cons (dv 1 rfl) da_nil) ⟨by omega, by omega⟩ (by rw [List.length_map]; show n + 1 + 1 + _ + 1 ≤ _; omega) fun t ht => ?_))⟩
      obtain ⟨r, rfl, h0, h3⟩ := ht
      refine ⟨.p (.int (1 + r)), o_add, (1 + r).toNat, by rw [Int.toNat_of_nonneg (by omega)], ?_⟩
      rw [← List.map_take]
      have hper : (zs.take (1 + r).toNat).Nodup := ((hzs.trans hjp).nodup_iff.mpr hjn').sublist (List.take_sublist _ _)
      refine ⟨_, c_sorted hu (fun d hd d' hd' => ?_) (.inl fun d hd => ?_) (fun d hd => ?_), Nat.le_of_ble_eq_true rfl, (n + 1 + 1 + ((joined a k fa.drop).map pSw).length + 1, srtT pSw (zs.take (1 + r).toNat)), ?_, ?_, ?_⟩
      · obtain ⟨x, _, rfl⟩ := List.mem_map.mp hd
        obtain ⟨y, _, rfl⟩ := List.mem_map.mp hd'
        exact al_sw x y
      · obtain ⟨x, _, rfl⟩ := List.mem_map.mp hd
        exact tup_sw x
      · obtain ⟨x, _, rfl⟩ := List.mem_map.mp hd
        have := (lay_sw x).2
        omega
      · rw [srtT_map]
        exact .refl _
      · show n + 1 + 1 + _ + 1 ≤ n + 200
        rw [List.length_map]
        omega
      · refine ⟨hp, srtT_asc eqv_sw al_sw hper, ⟨fa.drop, drop_ne fa, fun x hx => ?_⟩, ?_⟩
        · exact hjp.mem_iff.mp (hzs.mem_iff.mp (List.mem_of_mem_take ((srtT_perm _ _).mem_iff.mp hx)))
        · rw [(srtT_perm _ _).length_eq, List.length_take]
          omega
  · have hk' : ¬ ((i : Int) < ((joined a k fa.drop).map pSw).length) := by
      rw [Bool.or_eq_false_iff] at hk
      exact of_decide_eq_false hk.2
    rw [List.length_map] at hk'
    refine sw_nil ⟨(n + 1 + 1, joined a k fa.drop), .refl _, ?_, hp, srtT_asc eqv_sw al_sw hjn', ⟨fa.drop, drop_ne fa, fun x hx => hjp.mem_iff.mp hx⟩, ?_⟩
    · show n + 1 + 1 ≤ n + 200
      omega
    · show (joined a k fa.drop).length ≤ i
      omega
  · exact sw_one (s_ret (d_scope (dv 2 rfl) (dv 3 rfl) (d_tuple (dv 5 rfl).lend B.tuple_)) ⟨⟨a, k, q.2, rfl, hq.2⟩, _, hq.1, rfl⟩)
end
end Ac
-- part L12
set_option maxHeartbeats 4000000
set_option Elab.async false
set_option maxRecDepth 100000
set_option linter.all false
/-! Ac, plain: drawn boxes and frames. -/
namespace Ac
open PySem PySem.Spec PyProof.Rows L2
theorem boxes_good : ∀ p ∈ boxesL, goodB p = true := by
  intro p hp
  simp only [boxesL, List.mem_cons, List.not_mem_nil, or_false] at hp
  rcases hp with rfl | rfl | rfl | rfl | rfl | rfl | rfl | rfl | rfl
  · exact good22
  · exact good32
  · exact good32
  · exact good33
  · exact good42
  · exact good23
  · exact good41
  · exact good51
  · exact good31
/-- the full box's switches ascend -/
def chainB : List Sw → Bool
  | [] => true
  | [_] => true
  | a :: b :: r => PySem.W.dataLt (pSw a) (pSw b) && chainB (b :: r)
theorem chain_asc : ∀ {l : List Sw}, chainB l = true → AscT pSw l
  | [], _ => ascT_iff.mpr .nil
  | [_], _ => ascT_iff.mpr (List.pairwise_singleton _ _)
  | a :: b :: r, h => by
    obtain ⟨h1, h2⟩ := Bool.and_eq_true_iff.mp (show (PySem.W.dataLt (pSw a) (pSw b) && chainB (b :: r)) = true from h)
    have ih := ascT_iff.mp (chain_asc h2)
    refine ascT_iff.mpr (List.pairwise_cons.mpr ⟨fun c hc => ?_, ih⟩)
    rcases List.mem_cons.mp hc with rfl | hc
    · exact h1
    · exact lt_tr h1 ((List.pairwise_cons.mp ih).1 c hc)
theorem full_asc : ∀ p ∈ boxesL, AscT pSw (fullSw p.1 p.2.toNat) := by
  have h : (boxesD.all fun p => chainB (fullSw p.1 p.2.toNat)) = true := by decide +kernel
  intro p hp
  refine chain_asc (List.all_eq_true.mp h p ?_)
  simp only [boxesL, List.mem_cons, List.not_mem_nil, or_false] at hp
  rcases hp with rfl | rfl | rfl | rfl | rfl | rfl | rfl | rfl | rfl <;> decide
theorem full_ok : ∀ p ∈ boxesL, ∀ x ∈ fullSw p.1 p.2.toNat, swOk x p.1 p.2 = true := by
  have h : (boxesD.all fun p => (fullSw p.1 p.2.toNat).all fun x => swOk x p.1 p.2) = true := by decide +kernel
  intro p hp x hx
  refine List.all_eq_true.mp (List.all_eq_true.mp h p ?_) x hx
  simp only [boxesL, List.mem_cons, List.not_mem_nil, or_false] at hp
  rcases hp with rfl | rfl | rfl | rfl | rfl | rfl | rfl | rfl | rfl <;> decide
theorem raw_full : ∀ p ∈ boxesL, ∀ f : Fash, f ≠ .some_ → ∀ x ∈ joinRaw p.1 p.2.toNat f, x ∈ fullSw p.1 p.2.toNat := by
  have h : (boxesD.all fun p => [Fash.plain, .crossed, .full].all fun f => (joinRaw p.1 p.2.toNat f).all fun x => mem x (fullSw p.1 p.2.toNat)) = true := by decide +kernel
  intro p hp f hf x hx
  have h1 := List.all_eq_true.mp h p (by
    simp only [boxesL, List.mem_cons, List.not_mem_nil, or_false] at hp
    rcases hp with rfl | rfl | rfl | rfl | rfl | rfl | rfl | rfl | rfl <;> decide)
  have h2 := List.all_eq_true.mp h1 f (by cases f <;> first | decide | exact absurd rfl hf)
  exact mem_iff.mp (List.all_eq_true.mp h2 x hx)
theorem inj_of_nodup {α β : Type} {f : α → β} : ∀ {l : List α}, (l.map f).Nodup → ∀ {a b : α}, a ∈ l → b ∈ l → f a = f b → a = b
  | [], _, _, _, h, _, _ => nomatch h
  | x :: l, hn, a, b, ha, hb, e => by
    rw [List.map_cons, List.nodup_cons] at hn
    rcases List.mem_cons.mp ha with ea | ha
    · rcases List.mem_cons.mp hb with eb | hb
      · rw [ea, eb]
      · exact absurd (List.mem_map.mpr ⟨b, hb, by rw [← e, ea]⟩) hn.1
    · rcases List.mem_cons.mp hb with eb | hb
      · exact absurd (List.mem_map.mpr ⟨a, ha, by rw [e, eb]⟩) hn.1
      · exact inj_of_nodup hn.2 ha hb e
section
variable {s m : Int} {sw : List Sw}
theorem sco_full (h : Sco s m sw 8) : sw.Sublist (fullSw s m.toNat) := by
  obtain ⟨f, hf, hx⟩ := h.sub
  exact asc_sub h.asc (full_asc (s, m) h.b) fun x hm => raw_full (s, m) h.b f hf x (hx x hm)
theorem sco_box (h : Sco s m sw 8) : BxOk ⟨s, m, sw⟩ := by
  obtain ⟨a, k, e, h2, h5, k1, k3⟩ := boxes_nat _ h.b
  injection e with e1 e2
  subst e1 e2
  exact ⟨h2, h5, by show (1 : Int) ≤ k; omega, by show (k : Int) ≤ 6; omega, h.few, fun x hx => full_ok _ h.b x ((sco_full h).subset hx), h.asc⟩
theorem okS_free : ∀ {u w : Way}, (pinsOf (w ++ u)).Nodup → okS free_ w u
  | [], _, _ => True.intro
  | x :: u, w, hp => by
    obtain ⟨h1, h2⟩ := pins_free hp
    have e : w ++ x :: u = w ++ [x] ++ u := by simp
    refine ⟨?_, okS_free (by rw [← e]; exact hp)⟩
    unfold free_
    rw [mem_no.mpr h1, mem_no.mpr h2]
    rfl
theorem all_full (h : Sco s m sw 8) {v : Way} (hs : v.Sublist sw) (hp : (pinsOf v).Nodup) : v ∈ allF s m.toNat :=
  (mem_gen _ _ _ _).mpr ⟨v, rfl, hs.trans (sco_full h), okS_free (w := []) hp⟩
/-- different ways have different hashes -/
theorem way_hash (h : Sco s m sw 8) {u v : Way} (hu : u ∈ allF s m.toNat) (hv : v ∈ allF s m.toNat) (e : hWay u = hWay v) : u = v := by
  have g := boxes_good _ h.b
  have g1 := (Bool.and_eq_true_iff.mp (show (Tr.all ((allF s m.toNat).map fun v => codeH (hWay v)) .leaf && Nat.ble (difL ((allF s m.toNat).map (loadOf s)) []).length 62) = true from g)).1
  have nd := Tr.all_ok (t := .leaf) .nil g1
  rw [show Tr.leaf.toL = [] from rfl, List.append_nil] at nd
  exact inj_of_nodup nd hu hv (by rw [e])
theorem hash_nodup (w : World) (h : Sco s m sw 8) {ws : List Way} (hn : ws.Nodup) (hs : ∀ v ∈ ws, v ∈ allF s m.toNat) : (ws.map fun v => (kWay v).hash w).Nodup := by
  refine List.pairwise_map.mpr ((List.Pairwise.and_mem.mp hn).imp fun {a b} ⟨ha, hb, ne⟩ e => ne ?_)
  rw [hash_way, hash_way] at e
  exact way_hash h (hs a ha) (hs b hb) e
end
/-! ### all ways -/
theorem raw_mem : ∀ {sw : List Sw}, Apart sw → ∀ v ∈ waysRaw sw, v.Sublist sw ∧ (pinsOf v).Nodup := by
  have aux : ∀ (n : Nat) (sw : List Sw), sw.length = n → Apart sw → ∀ v ∈ waysRaw sw, v.Sublist sw ∧ (pinsOf v).Nodup := by
    intro n
    induction n with
    | zero => intro sw h _ v hv; rw [List.eq_nil_of_length_eq_zero h] at hv; rw [List.mem_singleton.mp hv]; exact ⟨List.nil_sublist _, List.nodup_nil⟩
    | succ n ih =>
      intro sw h ap
      have hne : sw ≠ [] := by intro e; rw [e] at h; simp at h
      have e : sw = sw.dropLast ++ [sw.getLast hne] := (List.dropLast_concat_getLast hne).symm
      generalize sw.getLast hne = x at e
      generalize hd : sw.dropLast = d at e
      have hl : d.length = n := by rw [← hd, List.length_dropLast, h]; rfl
      subst e
      have ih' := ih d hl fun z hz => ap z (List.mem_append_left _ hz)
      intro v hv
      rw [waysRaw_snoc] at hv
      rcases List.mem_append.mp hv with hv | hv
      · obtain ⟨q1, q2⟩ := ih' v hv
        exact ⟨q1.trans (List.sublist_append_left _ _), q2⟩
      · obtain ⟨u, hu, rfl⟩ := List.mem_map.mp hv
        obtain ⟨hu1, hu2⟩ := List.mem_filter.mp hu
        obtain ⟨q1, q2⟩ := ih' u hu1
        unfold free_ at hu2
        simp only [Bool.and_eq_true, Bool.not_eq_true'] at hu2
        exact ⟨List.Sublist.append q1 (List.Sublist.refl _), pins_snoc q2 (mem_no.mp hu2.1) (mem_no.mp hu2.2) (ap x (List.mem_append_right _ List.mem_cons_self))⟩
  intro sw
  exact aux _ sw rfl
theorem raw_nodup : ∀ {sw : List Sw}, sw.Nodup → (waysRaw sw).Nodup ∧ ∀ v ∈ waysRaw sw, ∀ x ∈ v, x ∈ sw := by
  have aux : ∀ (n : Nat) (sw : List Sw), sw.length = n → sw.Nodup → (waysRaw sw).Nodup ∧ ∀ v ∈ waysRaw sw, ∀ x ∈ v, x ∈ sw := by
    intro n
    induction n with
    | zero => intro sw h _; rw [List.eq_nil_of_length_eq_zero h]; exact ⟨by simp [waysRaw], fun v hv x hx => by rw [List.mem_singleton.mp hv] at hx; cases hx⟩
    | succ n ih =>
      intro sw h nd
      have hne : sw ≠ [] := by intro e; rw [e] at h; simp at h
      have e : sw = sw.dropLast ++ [sw.getLast hne] := (List.dropLast_concat_getLast hne).symm
      generalize sw.getLast hne = x at e
      generalize hd : sw.dropLast = d at e
      have hl : d.length = n := by rw [← hd, List.length_dropLast, h]; rfl
      subst e
      obtain ⟨n1, n2, n3⟩ := List.nodup_append.mp nd
      obtain ⟨i1, i2⟩ := ih d hl n1
      have hx : x ∉ d := fun z => n3 x z x List.mem_cons_self rfl
      rw [waysRaw_snoc]
      refine ⟨List.nodup_append.mpr ⟨i1, ?_, fun a ha b hb e => ?_⟩, fun v hv z hz => ?_⟩
      · exact List.pairwise_map.mpr ((i1.sublist List.filter_sublist).imp fun {a b} ne e => ne (List.append_cancel_right e))
      · obtain ⟨u, hu, rfl⟩ := List.mem_map.mp hb
        subst e
        exact hx (i2 _ ha x (List.mem_append_right _ List.mem_cons_self))
      · rcases List.mem_append.mp hv with hv | hv
        · exact List.mem_append_left _ (i2 v hv z hz)
        · obtain ⟨u, hu, rfl⟩ := List.mem_map.mp hv
          rcases List.mem_append.mp hz with hz | hz
          · exact List.mem_append_left _ (i2 u (List.mem_filter.mp hu).1 z hz)
          · exact List.mem_append_right _ hz
  intro sw
  exact aux _ sw rfl
/-! ### frames -/
noncomputable def ysOf (kss : List (List Int)) : List (List Int) := srtT tupI (difL kss [])
theorem difL_nodup : ∀ {ls acc : List (List Int)}, acc.Nodup → (difL ls acc).Nodup ∧ ∀ x ∈ difL ls acc, x ∈ ls ∨ x ∈ acc
  | [], acc, h => ⟨h, fun x hx => .inr hx⟩
  | l :: r, acc, h => by
    unfold difL
    cases q : (acc.any fun o => decide (o = l)) with
    | true =>
      obtain ⟨h1, h2⟩ := difL_nodup (ls := r) h
      exact ⟨h1, fun x hx => (h2 x hx).imp (List.mem_cons_of_mem _) id⟩
    | false =>
      have hl : l ∉ acc := fun z => by
        have := List.any_eq_false.mp q l z
        exact this (decide_eq_true rfl)
      obtain ⟨h1, h2⟩ := difL_nodup (ls := r) (List.nodup_cons.mpr ⟨hl, h⟩)
      refine ⟨h1, fun x hx => ?_⟩
      rcases h2 x hx with z | z
      · exact .inl (List.mem_cons_of_mem _ z)
      · rcases List.mem_cons.mp z with e | z
        · exact .inl (by rw [e]; exact List.mem_cons_self)
        · exact .inr z
theorem ysOf_mem (kss : List (List Int)) (q : List Int) : q ∈ ysOf kss ↔ q ∈ kss := by
  unfold ysOf
  rw [(srtT_perm _ _).mem_iff]
  exact ⟨fun h => ((difL_nodup List.nodup_nil).2 q h).resolve_right (by simp), fun h => difL_mem (.inl h)⟩
theorem ysOf_asc (kss : List (List Int)) : AscT tupI (ysOf kss) := srtT_asc eqv_tupI al_tupI (difL_nodup List.nodup_nil).1
/-- loads of so many sides, few different -/
structure FewL (s : Int) (kss : List (List Int)) : Prop where
  ok : ∀ q ∈ kss, q.length = (pairs s).length ∧ ∀ n ∈ q, 0 ≤ n ∧ n ≤ 99
  few : ∃ D : List (List Int), D.length ≤ 62 ∧ ∀ q ∈ kss, q ∈ D
  ne : kss ≠ []
theorem few_ys {s : Int} {kss : List (List Int)} (h : FewL s kss) : LoadsOk (pairs s).length (ysOf kss) ∧ (ysOf kss).length ≤ 62 := by
  refine ⟨fun q hq => ?_, ?_⟩
  · obtain ⟨h1, h2⟩ := h.ok q ((ysOf_mem kss q).mp hq)
    exact ⟨h1, fun n hn => by have := h2 n hn; omega⟩
  · obtain ⟨D, h1, h2⟩ := h.few
    have := len_in (ysOf kss) D (ascT_nodup (ysOf_asc kss)) fun q hq => h2 q ((ysOf_mem kss q).mp hq)
    omega
theorem below_sum : ∀ {a b : List Int}, a.length = b.length → below a b = true → a ≠ b → a.sum < b.sum
  | [], [], _, _, ne => absurd rfl ne
  | [], _ :: _, h, _, _ => by simp at h
  | _ :: _, [], h, _, _ => by simp at h
  | x :: a, y :: b, hl, h, ne => by
    unfold below at h
    rw [List.zip_cons_cons, List.all_cons, Bool.and_eq_true] at h
    have h1 : x ≤ y := of_decide_eq_true h.1
    have hl' : a.length = b.length := by simpa using hl
    rw [List.sum_cons, List.sum_cons]
    by_cases e : a = b
    · subst e
      have : x ≠ y := fun q => ne (by rw [q])
      omega
    · have := below_sum hl' h.2 e
      omega
theorem max_sum : ∀ {l : List (List Int)}, l ≠ [] → ∃ a ∈ l, ∀ b ∈ l, b.sum ≤ a.sum
  | [], h => absurd rfl h
  | [x], _ => ⟨x, List.mem_cons_self, fun b hb => by rw [List.mem_singleton.mp hb]; exact Int.le_refl _⟩
  | x :: y :: r, _ => by
    obtain ⟨a, ha, hm⟩ := max_sum (l := y :: r) (by simp)
    by_cases h : x.sum ≤ a.sum
    · refine ⟨a, List.mem_cons_of_mem _ ha, fun b hb => ?_⟩
      rcases List.mem_cons.mp hb with e | hb
      · rw [e]; exact h
      · exact hm b hb
    · refine ⟨x, List.mem_cons_self, fun b hb => ?_⟩
      rcases List.mem_cons.mp hb with e | hb
      · rw [e]; exact Int.le_refl _
      · have := hm b hb; omega
theorem isTop_iff {ys : List (List Int)} {a : List Int} : isTop ys a = true ↔ ∀ o ∈ ys, below a o = true → o = a := by
  unfold isTop
  rw [beq_iff_eq, List.filter_eq_nil_iff]
  constructor
  · intro h o ho hb
    have := h o ho
    rw [hb, Bool.and_true, Bool.not_eq_true'] at this
    refine Decidable.byContradiction fun q => this (decide_eq_false q)
  · intro h o ho hk
    rw [Bool.and_eq_true, Bool.not_eq_true', decide_eq_false_iff_not] at hk
    exact hk.1 (h o ho hk.2)
/-- a drawn frame -/
theorem tops_fr {s : Int} {kss : List (List Int)} (h : FewL s kss) : FrOk s (topsOf (ysOf kss)) := by
  obtain ⟨h1, h2⟩ := few_ys h
  have hs : (topsOf (ysOf kss)).Sublist (ysOf kss) := List.filter_sublist
  refine ⟨⟨fun q hq => h1 q (hs.subset hq), asc_of_sub hs (ysOf_asc kss), fun a ha b hb q => ?_, Nat.le_trans hs.length_le h2⟩, fun e => ?_, fun q hq => ((h.ok q ((ysOf_mem kss q).mp (hs.subset hq))).2)⟩
  · obtain ⟨_, ta⟩ := List.mem_filter.mp ha
    exact (isTop_iff.mp ta b (hs.subset hb) q).symm
  · have ne : ysOf kss ≠ [] := fun z => by
      obtain ⟨q, r, e2⟩ := List.exists_cons_of_ne_nil h.ne
      have := (ysOf_mem kss q).mpr (by rw [e2]; exact List.mem_cons_self)
      rw [z] at this
      cases this
    obtain ⟨a, ha, hm⟩ := max_sum ne
    have : a ∈ topsOf (ysOf kss) := List.mem_filter.mpr ⟨ha, isTop_iff.mpr fun o ho hb => Decidable.byContradiction fun q => by
      have := below_sum ((h1 a ha).1.trans (h1 o ho).1.symm) hb (Ne.symm q)
      have := hm o ho
      omega⟩
    rw [e] at this
    cases this
/-- the loads of the ways -/
theorem cnt_le {α : Type} [DecidableEq α] (l : List α) (x : α) : cnt l x ≤ l.length := by
  unfold cnt
  have := List.countP_le_length (p := fun y => decide (y = x)) (l := l)
  omega
theorem ways_few {s m : Int} {sw : List Sw} (h : Sco s m sw 8) {kss : List (List Int)} (hk : ∀ q ∈ kss, ∃ v ∈ allWays sw, q = loadOf s v) (ne : kss ≠ []) : FewL s kss := by
  have ap := bx_apart (sco_box h)
  have way : ∀ v ∈ allWays sw, v.Sublist sw ∧ (pinsOf v).Nodup := fun v hv => raw_mem ap v ((srtT_perm _ _).mem_iff.mp hv)
  refine ⟨fun q hq => ?_, ⟨difL ((allF s m.toNat).map (loadOf s)) [], ?_, fun q hq => ?_⟩, ne⟩
  · obtain ⟨v, hv, rfl⟩ := hk q hq
    refine ⟨loadOf_len s v, fun n hn => ?_⟩
    unfold loadOf at hn
    obtain ⟨p, _, rfl⟩ := List.mem_map.mp hn
    have h1 := cnt_nonneg (v.map ends) p
    have h2 := cnt_le (v.map ends) p
    rw [List.length_map] at h2
    have h3 := (way v hv).1.length_le
    have h4 := h.few
    omega
  · have g := boxes_good _ h.b
    exact Nat.ble_eq.mp (Bool.and_eq_true_iff.mp (show (Tr.all ((allF s m.toNat).map fun v => codeH (hWay v)) .leaf && Nat.ble (difL ((allF s m.toNat).map (loadOf s)) []).length 62) = true from g)).2
  · obtain ⟨v, hv, rfl⟩ := hk q hq
    exact difL_mem (.inl (List.mem_map.mpr ⟨v, all_full h (way v hv).1 (way v hv).2, rfl⟩))
theorem allWays_ne (sw : List Sw) : allWays sw ≠ [] := fun e => by
  have h : ([] : Way) ∈ waysRaw sw := by
    have aux : ∀ (l : List Sw) (f : List Way), ([] : Way) ∈ f → ([] : Way) ∈ l.foldl grow f := by
      intro l
      induction l with
      | nil => intro f h; exact h
      | cons x l ih => intro f h; exact ih _ (List.mem_append_left _ h)
    exact aux sw [[]] List.mem_cons_self
  have := (srtT_perm pWay (waysRaw sw)).mem_iff.mpr h
  unfold allWays at e
  rw [e] at this
  cases this
end Ac
-- part E10
set_option Elab.async false
set_option maxRecDepth 100000
set_option maxHeartbeats 4000000
set_option linter.all false
/-! Ac: several values that may draw; a def of the module called with what was drawn. -/
namespace Ac
open PySem PySem.Spec PyProof.Rows L2
section
variable {X : Cx} {a b c e : Expr} {es : List Expr} {dl dl' : List Sl} {t u r : T} {pos p : Pos} {D : DK} {Q : T → List Sl → Prop}
/-- values of a row of expressions -/
def EVs (X : Cx) (es : List Expr) (dl : List Sl) (Q : List T → List Sl → Prop) : Prop := ∀ (Kp : Hp) (F : Addr → Prop) (own : Nat → List Addr) (H : Hp) (st : L2.St), SE X Kp F dl own H st → WA X es st H fun vs H' =>
  ∃ ts dl' own', SE X Kp F dl' own' H' st ∧ Same (reg own F H) (reg own' F H') ∧ RTs X.w X.K X.mg (reg own' F H') vs ts ∧ Q ts dl'
theorem evs_nil {Q : List T → List Sl → Prop} (q : Q [] dl) : EVs X [] dl Q := fun _ _ own H _ S => wa_of pa_nil ⟨[], dl, own, S, fun _ _ h => h, .nil, q⟩
theorem evs_cons {Q : List T → List Sl → Prop} (h : EV X e dl fun t d => EVs X es d fun ts d2 => Q (t :: ts) d2) (he : starEach (e :: es) X.env = (false, eval e X.env) :: starEach es X.env := by rfl) : EVs X (e :: es) dl Q := fun Kp F own H st S => by
  refine wa_of (pa_cons (peW e) (paW es) he) ?_
  refine (h Kp F own H st S).mono fun v H1 ⟨t, d, o, S1, s1, r1, h2⟩ => ?_
  refine (h2 Kp F o H1 st S1).mono fun vs H2 ⟨ts, d2, o2, S2, s2, r2, q⟩ => ?_
  exact ⟨t :: ts, d2, o2, S2, s1.trans s2, .cons (r1.up s2) r2, q⟩
theorem evs_pure {Q : List T → List Sl → Prop} (h : DE X e dl t) (hs : EVs X es dl fun ts d2 => Q (t :: ts) d2) (he : starEach (e :: es) X.env = (false, eval e X.env) :: starEach es X.env := by rfl) : EVs X (e :: es) dl Q := evs_cons (e_de h hs) he
/-- x, y = a, b; plain local names -/
theorem s_parE (i j : Nat) {x y : Str} {px py pt : Pos} {kt k2 : Nat} {pt2 : Pos} (hc : X.calm = true) (hN : X.N.Nodup) (h : EVs X [a, b] dl fun ts d => ∃ t u, ts = [t, u] ∧ i < d.length ∧ j < d.length ∧ D.nx ((d.set i (.t t)).set j (.t u))) (hi : X.N[i]? = some x := by rfl) (hj : X.N[j]? = some y := by rfl) (hij : i ≠ j := by decide)
    (hx : X.env.scope.names.lookup x = some .local := by rfl) (hy : X.env.scope.names.lookup y = some .local := by rfl)
    (hw : swappedStores [.Tuple [.Name x px, .Name y py] kt pt] (.Tuple [a, b] k2 pt2) X.env = pure (some [x, y]) := by rfl)
    (hs : swapsWithSole [.Tuple [.Name x px, .Name y py] kt pt] (.Tuple [a, b] k2 pt2) pos.line X.env = pure false := by rfl) : SX X (.Assign [.Tuple [.Name x px, .Name y py] kt pt] (.Tuple [a, b] k2 pt2) pos) D dl := fun Kp F own H st S hlen => by
  refine w1_of (ps_par hc hN hi hj hij hx hy (paW [a, b]) hw hs) ?_
  refine (h Kp F own H st S).mono fun vs H1 ⟨ts, d, o, S1, s1, r1, t, u, e1, h1, h2, q⟩ => ?_
  subst e1
  have e : st.length = X.N.length := hlen
  have li : i < st.length := by rw [e]; exact (List.getElem?_eq_some_iff.mp hi).1
  have lj : j < st.length := by rw [e]; exact (List.getElem?_eq_some_iff.mp hj).1
  cases r1 with
  | cons ra rb =>
    cases rb with
    | cons rb rn =>
      cases rn
      have S2 := S1.put h1 li ra
      have up : Same (reg o F H1) (reg (fun j => if j = i then [] else o j) F H1) := reg_mono fun a u k1 k2 k3 => ⟨k3, fun j => by
        by_cases e : j = i
        · rw [if_pos e]; simp
        · rw [if_neg e]; exact k1 j, k2⟩
      have S3 := S2.put (i := j) (by rw [List.length_set]; exact h2) (by rw [List.length_set]; exact lj) (rb.up up)
      exact ⟨_, _, rfl, _, _, S3, q⟩
theorem fs_of {w : World} {K : PySem.W.Frag} {mg : Str → Option Value} {H G H' : Hp} : ∀ {vs : List V} {ts : List T}, RTs w K mg G vs ts → FS w K mg H G H' vs (ts.map .t) []
  | _, _, .nil => .nil
  | _, _, .cons h t => .val h (fs_of t)
/-- x, y, .. = a, b, .. in order -/
theorem s_tupE {tgs : List Expr} {is : List Nat} {kt k2 : Nat} {pt pt2 : Pos} (hc : X.calm = true) (g : GNs X tgs is) (h : EVs X es dl fun ts d => is.length = ts.length ∧ ts.length ≤ 100 ∧ (∀ i ∈ is, i < d.length ∧ i < X.N.length) ∧ D.nx (setL d is (ts.map .t)))
    (hn : (assignEach tgs X.env).length = is.length := by rfl) (hst : (assignEach tgs X.env).findIdx? (·.1) = none := by rfl)
    (hs : swapsWithSole [.Tuple tgs kt pt] (.Tuple es k2 pt2) pos.line X.env = pure false := by rfl) (hw : swappedStores [.Tuple tgs kt pt] (.Tuple es k2 pt2) X.env = pure none := by rfl)
    (h3 : (assignEach [.Tuple tgs kt pt] X.env).map (·.2) = [assign (.Tuple tgs kt pt) X.env] := by rfl) : SX X (.Assign [.Tuple tgs kt pt] (.Tuple es k2 pt2) pos) D dl := fun Kp F own H st S hlen => by
  obtain ⟨g, h1, h2⟩ := g
  refine w1_of (ps_asg (pe_tup (paW es)) (pg_tup (n := is.length) hc h1 hn hst) hs hw h3) ?_
  refine (h Kp F own H st S).mono fun vs H1 ⟨ts, d, o, S1, s1, r1, hl, hz, hb, q⟩ => ⟨?_, fun p hp => ?_⟩
  · rw [r1.len]; exact Nat.le_trans hz (by decide)
  · have s2 := same_new (o := HO.tup vs) hp
    refine ⟨p, vs, rfl, SqT.of upd_same, by rw [r1.len, hl], ?_⟩
    have f : FS X.w X.K X.mg H1 (reg o (hid F []) (upd H1 p (.tup vs))) (upd H1 p (.tup vs)) vs (ts.map .t) [] := by
      rw [hid_nil]
      exact fs_of (r1.up (reg_up s2))
    obtain ⟨own', S'⟩ := S1.claims0 (is := is) s2 f (by rw [List.length_map]; exact hl) fun i hi => ⟨(hb i hi).1, by rw [hlen]; exact (hb i hi).2⟩
    exact h2 vs st _ _ (by rw [r1.len, hl]) ⟨_, own', S', q⟩
/-- f(e), f a def of the module that draws nothing itself -/
theorem e_cl1 {I : Type} {arg : I → List T} {ok : I → Prop} {res : I → T} {x : Str} {k k' : Nat} {P : Program} {w : World} {K : PySem.W.Frag} {mg : Str → Option Value} {base : Heap} {A : Around} (G : Fn P w K mg base x k arg ok res) (hr : Room k' A) (ha : EV X a dl fun t d => ∃ i, arg i = [t] ∧ ok i ∧ Q (res i) d)
    (hk : k ≤ k' := by decide) (hP : X.prog = P := by rfl) (hw : X.w = w := by rfl) (hK : X.K = K := by rfl) (hm : X.mg = mg := by rfl) (hb : X.base = base := by rfl) (hA : X.A = A := by rfl) (hg : Gl X x := by rfl) (hdb : (x == ("__debug__" : Str)) = false := by decide)
    (he : starEach [a] X.env = (false, eval a X.env) :: starEach [] X.env := by rfl) (hpl : (backTo pos (starEach [] X.env)).any (·.1) = false := by rfl) : EV X (.Call (.Name x p) [a] [] pos) dl Q := fun Kp F own H st S => by
  subst hP hw hK hm hb hA
  obtain ⟨f, fd, ps, hm, hkp, hb, G⟩ := G.ex
  refine we_of (pe_call G (hr.mono hk) hg hm hkp hb .nil pass0 (pa_cons (peW a) pa_nil he) hdb he hpl) ?_
  refine (ha Kp F own H st S).mono fun v H1 ⟨t, d, o, S1, s1, r1, i, ei, hok, q⟩ => ?_
  refine ⟨fun a => (∃ i, a ∈ o i) ∨ F a, i, fun a h => ?_, by rw [reg_merge, ei]; exact .cons r1 .nil, hok, fun v H' s2 q2 => ⟨res i, d, o, S1.grow s2, s1.trans (reg_up s2), by rw [reg_merge] at q2; exact q2, q⟩⟩
  rcases h with ⟨j, h⟩ | h
  · exact S1.there h
  · exact S1.fn a h
end
end Ac
-- part C20
set_option Elab.async false
set_option maxRecDepth 100000
set_option maxHeartbeats 4000000
set_option linter.all false
namespace Ac
open PySem PySem.Spec PyProof.Rows L2
theorem all2_map {α β γ : Type} {R : α → β → Prop} {g : γ → β} {Pz : γ → Prop} (hR : ∀ x y, R x y → ∃ z, Pz z ∧ y = g z) : ∀ {xs : List α} {ys : List β}, All2 R xs ys → ∃ zs : List γ, ys = zs.map g ∧ zs.length = xs.length ∧ ∀ z ∈ zs, Pz z := by
  intro xs ys h
  induction h with
  | nil => exact ⟨[], rfl, rfl, fun _ z => by cases z⟩
  | snoc _ hr ih =>
    obtain ⟨zs, e1, e2, e3⟩ := ih
    obtain ⟨z, hz, ez⟩ := hR _ _ hr
    refine ⟨zs ++ [z], by rw [List.map_append, e1, ez]; rfl, by rw [List.length_append, List.length_append, e2]; rfl, fun y hy => ?_⟩
    rcases List.mem_append.mp hy with hy | hy
    · exact e3 y hy
    · rw [List.mem_singleton.mp hy]; exact hz
theorem tops_args {s : Int} (h2 : 2 ≤ s) (h5 : s ≤ 5) {kss : List (List Int)} (h : FewL s kss) : 1 ≤ (pairs s).length ∧ (pairs s).length ≤ 100 ∧ LoadsOk (pairs s).length (ysOf kss) ∧ AscT tupI (ysOf kss) ∧ (ysOf kss).length ≤ 62 ∧ ∀ q, q ∈ ysOf kss ↔ q ∈ kss :=
  ⟨pairs_pos h2 h5, by have := pairs_le s h5; omega, (few_ys h).1, ysOf_asc kss, (few_ys h).2, ysOf_mem kss⟩
theorem small_few {s : Int} {kss : List (List Int)} (h : ∀ q ∈ kss, q.length = (pairs s).length ∧ ∀ n ∈ q, 0 ≤ n ∧ n ≤ 2) (hl : kss.length ≤ 10) (ne : kss ≠ []) : FewL s kss :=
  ⟨fun q hq => ⟨(h q hq).1, fun n hn => by have := (h q hq).2 n hn; omega⟩, ⟨kss, by omega, fun _ hq => hq⟩, ne⟩
section
variable {P : Program} {w : World} {K : PySem.W.Frag} {mg : Str → Option Value} {base : Heap}
abbrev sd__law_tops_drawn : Stmt := top 91
abbrev N__law_tops_drawn : List Str := ["_law_state", "_law_scope_here", "_law_fashion", "_law_loads_here", "_law_drawn", "_law_lap", "_law_told", "_law_pair"]
theorem sc__law_tops_drawn : FnScope N__law_tops_drawn ["_law_state", "_law_scope_here"] (defScope sd__law_tops_drawn) := ⟨rfl, rfl, rfl, by decide +kernel, rfl, by decide +kernel, by decide +kernel⟩
def resFr (i : Int × Int × List Sw) (t : T) : Prop := ∃ fr, t = .p (.tuple (fr.map tupI)) ∧ FrOk i.1 fr
abbrev F_law_tops_drawn (P : Program) (w : World) (K : PySem.W.Frag) (mg : Str → Option Value) (base : Heap) : Prop := FnS P w K mg base "_law_tops_drawn" 4 (fun i : Int × Int × List Sw => [.scope i.1 i.2.1 (.tuple (i.2.2.map pSw))]) (fun i => Sco i.1 i.2.1 i.2.2 8) (fun _ => 200) resFr
noncomputable def kssOf (a : Int) (sw : List Sw) : List (List Int) := (allWays sw).map (loadOf a)
noncomputable def cTd (s0 L : Addr) (a m : Int) (sw : List Sw) (r : Int) (q : Nat × List (List Int)) : List Sl := [.st s0 L q.1, .t (.scope a m (.tuple (sw.map pSw))), .t (.p (.int r)), .t (.p (.list ((kssOf a sw).map tupI))), .ol (q.2.map tupI), .no, .no, .no]
noncomputable def cTdI (s0 L : Addr) (a m : Int) (sw : List Sw) (r : Int) (d : PyData) (fnd : List (List Int)) (k : Nat) : List Sl := [.st s0 L k, .t (.scope a m (.tuple (sw.map pSw))), .t (.p (.int r)), .t (.p (.list ((kssOf a sw).map tupI))), .ol (fnd.map tupI), .t (.p d), .no, .no]
noncomputable def cTdL (s0 L : Addr) (a m : Int) (sw : List Sw) (r : Int) (k : Nat) : List Sl := [.st s0 L k, .t (.scope a m (.tuple (sw.map pSw))), .t (.p (.int r)), .t (.p (.list ((kssOf a sw).map tupI))), .no, .no, .no, .no]
theorem kss_few {a m : Int} {sw : List Sw} (h : Sco a m sw 8) : FewL a (kssOf a sw) := ways_few h (fun q hq => by
  obtain ⟨v, hv, rfl⟩ := List.mem_map.mp hq
  exact ⟨v, hv, rfl⟩) fun e => allWays_ne sw (List.map_eq_nil_iff.mp e)
theorem ok__law_tops_drawn (TF : TopF K mg "_law_tops_drawn" sd__law_tops_drawn) (B : Bi mg) (G1 : F_law_draw P w K mg base) (G2 : F_law_pick P w K mg base) (G3 : F_law_all_ways P w K mg base) (G4 : F_law_load P w K mg base) (G5 : F_law_tops P w K mg base) (G6 : F_law_pairs P w K mg base) : F_law_tops_drawn P w K mg base := by
  refine fnS_body TF sc__law_tops_drawn (fun _ => rfl) (fun _ _ _ _ _ _ us hl => match us, hl with | [_, _], _ => rfl) fun f cdv A outer sh H E i s L n hr hok hn => ?_
  have hu := hr.units
  have hu5 := hr.u65
  have hN := sc__law_tops_drawn.nd
  obtain ⟨a, m, sw⟩ := i
  have ho : Sco a m sw 8 := hok
  have hb := sco_box ho
  have ha2 : 2 ≤ a := hb.s2
  have ha5 : a ≤ 5 := hb.s5
  have h8 : sw.length ≤ 8 := ho.few
  have hn' : n + 200 ≤ 1000000000 := hn
  obtain ⟨w1, w2⟩ := allWays_len h8
  have hkl : (kssOf a sw).length ≤ 256 := by unfold kssOf; rw [List.length_map]; exact w1
  have hfew := kss_few ho
  have hpl := pairs_le a ha5
  refine sw_cons (s_asgE 2 hN (e_call 0 (4 : Int) G1 hr rfl (da_cons d_int da_nil) ⟨by decide, by decide⟩ (by show n + 1 ≤ _; omega) fun t ht => ?_))
  obtain ⟨r, rfl, h0, h4⟩ := ht
  refine ⟨Nat.le_of_ble_eq_true rfl, ?_⟩
  refine sw_cons (s_asg 3 hN ((d_lcA (xs := allWays sw) (f := fun v => tupI (loadOf a v)) (onm := [("_law_told", 6)]) (enc := pWay) hN (blk_of (N := N__law_tops_drawn) (sc := defScope sd__law_tops_drawn) (by decide +kernel)) (di_list (d_cl G3 hr sw (da_cons (d_scJ hu (dv 1 rfl)) da_nil) h8)) rfl (fun _ _ _ _ _ _ _ => ⟨[6], by decide, gt_name 6 hN⟩)
    (fun _ _ _ _ _ v hv => d_cl G4 hr (a, m, .tuple (sw.map pSw), v) (da_cons (dv 1 rfl) (da_cons (dv 6 rfl) da_nil)) ⟨by show 0 ≤ a; omega, ha5, by have := w2 v hv; show v.length ≤ 1000; omega⟩) (by omega)).is (u := .p (.list ((kssOf a sw).map tupI))) (by unfold kssOf; rw [List.map_map]; rfl)) ?_)
  refine sw_cons (s_if (dt_cmp (o_eqI hu) (dv 2 rfl).lend d_int.lend) (fun hk => sw_one (s_ret (d_tuple (d_cl G5 hr ((pairs a).length, kssOf a sw, ysOf (kssOf a sw)) (da_cons (dv 3 rfl) da_nil) (tops_args ha2 ha5 hfew)).lend B.tuple_) ⟨⟨_, rfl, tops_fr hfew⟩, n + 1, (by show n + 1 ≤ n + 200; omega), rfl⟩)) fun hk => sw_nil ?_)
  refine sw_weak (dl' := cTdL s L a m sw r (n + 1)) (.refl _) ?_
  refine sw_cons (s_if (dt_cmp (o_eqI hu) (dv 2 rfl).lend d_int.lend) (fun hk => ?_) fun hk => sw_nil ?_)
  · refine sw_cons (s_new 4 hN (df_lst dp_nil (Nat.zero_le _)) ?_)
    refine sw_forE (S := Nat × List (List Int)) (cTd s L a m sw r) (ei_range1 (e_bin (e_de d_int (e_call 0 (3 : Int) G1 hr rfl (da_cons d_int da_nil) ⟨by decide, by decide⟩ (by show n + 1 + 1 ≤ _; omega) fun t ht => ?_))) B.range_)
    obtain ⟨r2, rfl, h20, h23⟩ := ht
    refine ⟨.p (.int (1 + r2)), o_add, 1 + r2, rfl, by omega, by omega, fun j q => q.1 ≤ n + 2 + 25 * j ∧ j ≤ 3 ∧ q.2.length = j ∧ ∀ l ∈ q.2, l.length = (pairs a).length ∧ ∀ x ∈ l, 0 ≤ x ∧ x ≤ 2, (n + 1 + 1, []), .refl _, ⟨by show n + 1 + 1 ≤ n + 2 + 25 * 0; omega, by omega, rfl, fun _ z => nomatch z⟩, fun j d q hd hq => ?_, fun q hq => ?_⟩
    · obtain ⟨c, fnd⟩ := q
      obtain ⟨q1, q2, q3, q4⟩ := hq
      have q1' : c ≤ n + 2 + 25 * j := q1
      have q3' : fnd.length = j := q3
      have q4' : ∀ l ∈ fnd, l.length = (pairs a).length ∧ ∀ x ∈ l, 0 ≤ x ∧ x ≤ 2 := q4
      have hj : j < 3 := by
        have := (List.getElem?_eq_some_iff.mp hd).1
        rw [rgD_len] at this
        omega
      refine ⟨[5], _, gt_name 5 hN, ?_⟩
      refine sw_one (s_appE 4 (ds0 := fnd.map tupI) rfl (e_callT (id := "tuple") (e_lc (A := Pin) (enc := pPin) (R := fun _ y => ∃ z : Int, (0 ≤ z ∧ z ≤ 2) ∧ y = .int z) (onm := [("_law_pair", 7)]) hN (blk_of (N := N__law_tops_drawn) (sc := defScope sd__law_tops_drawn) (by decide +kernel)) (ei_di (di_list (d_cl G6 hr a (da_cons (d_scS hu (dv 1 rfl)) da_nil) ⟨by omega, ha5⟩)) ⟨pairs a, fun k => cTdI s L a m sw r d fnd (c + k), fun k x => (cTdI s L a m sw r d fnd (c + k)).set 7 (.t (.p (pPin x))), rfl, rfl, ⟨fun k i hi => ?_, fun k _ _ _ _ _ x _ => ⟨[7], by decide, gt_name 7 hN⟩, fun k _ _ _ _ _ x hk hx => ?_, by omega⟩, fun ys hys => ?_⟩)) B.tuple_))
      · rw [List.mem_singleton.mp hi]; rfl
      · refine e_call 0 [.int 0, .int 0, .int 1, .int 1, .int 2] G2 hr rfl ?a ⟨by decide, by decide⟩ (by show c + k + 1 ≤ _; omega) fun t ht => ?_
        case a =>
          refine da_lst1 ?_
          refine d_ls ?_
          iterate 5 (refine dp_cons ?_ ?_; exact d_int)
          exact dp_nil
        obtain ⟨y, hy, rfl⟩ := ht
        refine ⟨y, rfl, ?_, ⟨fun i hi => ?_, fun i hi => ?_⟩⟩
        · simp only [List.mem_cons, List.not_mem_nil, or_false] at hy
          rcases hy with rfl | rfl | rfl | rfl | rfl
          · exact ⟨0, by decide, rfl⟩
          · exact ⟨0, by decide, rfl⟩
          · exact ⟨1, by decide, rfl⟩
          · exact ⟨1, by decide, rfl⟩
          · exact ⟨2, by decide, rfl⟩
        · match i, hi with
          | 0, _ => rfl
          | 1, _ => rfl
          | 2, _ => rfl
          | 3, _ => rfl
          | 4, _ => rfl
          | 5, _ => rfl
          | 6, _ => rfl
          | 7, h => exact absurd List.mem_cons_self h
          | k + 8, _ => rfl
        · rw [List.mem_singleton.mp hi]; exact ⟨rfl, rfl⟩
      · obtain ⟨zs, rfl, e2, e3⟩ := all2_map (g := PyData.int) (Pz := fun z => 0 ≤ z ∧ z ≤ 2) (fun _ _ h => h) hys
        refine ⟨_, c_tuple, fnd.map tupI, tupI zs, rfl, rfl, by rw [List.length_map]; omega, (c + (pairs a).length, fnd ++ [zs]), ?_, ?_, ?_, ?_, fun l hl => ?_⟩
        · refine Wk.of [5] ?_
          unfold cTd
          rw [List.map_append]
          rfl
        · show c + (pairs a).length ≤ n + 2 + 25 * (j + 1); omega
        · show j + 1 ≤ 3; omega
        · show (fnd ++ [zs]).length = j + 1
          rw [List.length_append, q3']; rfl
        · rcases List.mem_append.mp hl with hl | hl
          · exact q4' l hl
          · rw [List.mem_singleton.mp hl]; exact ⟨e2, e3⟩
    · rw [rgD_len] at hq
      obtain ⟨q1, q2, q3, q4⟩ := hq
      have hf : FewL a q.2 := small_few q4 (by omega) fun e => by rw [e] at q3; simp at q3; omega
      refine sw_weak (.ol 4 (.refl _) rfl) ?_
      exact sw_one (s_ret (d_tuple (d_cl G5 hr ((pairs a).length, q.2, ysOf q.2) (da_cons (dv 4 rfl) da_nil) (tops_args ha2 ha5 hf)).lend B.tuple_) ⟨⟨_, rfl, tops_fr hf⟩, q.1, (by show q.1 ≤ n + 200; omega), rfl⟩)
  · refine sw_one (s_retE (e_callT (id := "tuple") (e_cl1 G5 hr (e_lc (A := Nat) (enc := fun i : Nat => .int (0 + (i : Nat))) (R := fun _ y => ∃ q, q ∈ kssOf a sw ∧ y = tupI q) (onm := [("_law_lap", 5)]) hN (blk_of (N := N__law_tops_drawn) (sc := defScope sd__law_tops_drawn) (by decide +kernel)) (ei_range1 (e_bin (e_de d_int (e_call 0 (4 : Int) G1 hr rfl (da_cons d_int da_nil) ⟨by decide, by decide⟩ (by show n + 1 + 1 ≤ _; omega) fun t ht => ?_))) B.range_))) B.tuple_))
    obtain ⟨r2, rfl, h20, h23⟩ := ht
    refine ⟨.p (.int (1 + r2)), o_add, 1 + r2, rfl, by omega, by omega, List.range (1 + r2).toNat, fun k => cTdL s L a m sw r (n + 1 + 1 + k), fun k x => (cTdL s L a m sw r (n + 1 + 1 + k)).set 5 (.t (.p (.int (0 + (x : Nat))))), rfl, rfl, ⟨fun k i hi => ?_, fun k _ _ _ _ _ x _ => ⟨[5], by decide, gt_name 5 hN⟩, fun k _ _ _ _ _ x hk hx => ?_, by rw [List.length_range]; omega⟩, fun ys hys => ?_⟩
    · rw [List.mem_singleton.mp hi]; rfl
    · rw [List.length_range] at hk
      refine e_call 0 ((kssOf a sw).map tupI) G2 hr rfl (da_cons (dv 3 rfl) da_nil) ⟨by rw [List.length_map]; exact List.length_pos_iff.mpr hfew.ne, by rw [List.length_map]; omega⟩ (by show n + 1 + 1 + k + 1 ≤ _; omega) fun t ht => ?_
      obtain ⟨y, hy, rfl⟩ := ht
      obtain ⟨q, hq, rfl⟩ := List.mem_map.mp hy
      refine ⟨_, rfl, ⟨q, hq, rfl⟩, ⟨fun i hi => ?_, fun i hi => ?_⟩⟩
      · match i, hi with
        | 0, _ => rfl
        | 1, _ => rfl
        | 2, _ => rfl
        | 3, _ => rfl
        | 4, _ => rfl
        | 5, h => exact absurd List.mem_cons_self h
        | 6, _ => rfl
        | 7, _ => rfl
        | k + 8, _ => rfl
      · rw [List.mem_singleton.mp hi]; exact ⟨rfl, rfl⟩
    · obtain ⟨qs, rfl, e2, e3⟩ := all2_map (g := tupI) (Pz := fun q => q ∈ kssOf a sw) (fun _ _ h => h) hys
      rw [List.length_range] at e2
      have hf : FewL a qs := ⟨fun q hq => hfew.ok q (e3 q hq), let ⟨D, d1, d2⟩ := hfew.few; ⟨D, d1, fun q hq => d2 q (e3 q hq)⟩, fun e => by rw [e] at e2; simp at e2; omega⟩
      refine ⟨((pairs a).length, qs, ysOf qs), rfl, tops_args ha2 ha5 hf, _, c_tuple, ⟨_, rfl, tops_fr hf⟩, n + 1 + 1 + (List.range (1 + r2).toNat).length, ?_, rfl⟩
      rw [List.length_range]
      show _ ≤ n + 200
      omega
end
end Ac
-- part C21
set_option Elab.async false
set_option maxRecDepth 100000
set_option maxHeartbeats 4000000
set_option linter.all false
namespace Ac
open PySem PySem.Spec PyProof.Rows L2
theorem max_int : ∀ {l : List Int}, l ≠ [] → ∃ a ∈ l, ∀ b ∈ l, b ≤ a
  | [], h => absurd rfl h
  | [x], _ => ⟨x, List.mem_cons_self, fun b hb => by rw [List.mem_singleton.mp hb]; exact Int.le_refl _⟩
  | x :: y :: r, _ => by
    obtain ⟨a, ha, hm⟩ := max_int (l := y :: r) (by simp)
    by_cases h : x ≤ a
    · refine ⟨a, List.mem_cons_of_mem _ ha, fun b hb => ?_⟩
      rcases List.mem_cons.mp hb with e | hb
      · rw [e]; exact h
      · exact hm b hb
    · refine ⟨x, List.mem_cons_self, fun b hb => ?_⟩
      rcases List.mem_cons.mp hb with e | hb
      · rw [e]; exact Int.le_refl _
      · have := hm b hb; omega
/-- what a table tells -/
structure Tab where
  s : Int
  m : Int
  sw : List Sw
  fr : List (List Int)
  most : Int
noncomputable def Tab.st (x : Tab) : List Way := standsL x.s x.sw x.fr (allWays x.sw)
noncomputable def Tab.t (x : Tab) : T := .table x.s x.m (.tuple (x.sw.map pSw)) (.tuple (x.fr.map tupI)) x.most (.list (x.st.map pWay))
structure TabOk (x : Tab) : Prop where
  sco : Sco x.s x.m x.sw 8
  fr : FrOk x.s x.fr
  m0 : 0 ≤ x.most
  m20 : x.most ≤ 20
theorem tab_len {x : Tab} (h : TabOk x) : x.st.length ≤ 256 := Nat.le_trans (List.length_filter_le _ _) (allWays_len h.sco.few).1
section
variable {P : Program} {w : World} {K : PySem.W.Frag} {mg : Str → Option Value} {base : Heap}
abbrev sd__law_table : Stmt := top 92
abbrev N__law_table : List Str := ["_law_state", "_law_most_switches", "_law_scope_here", "_law_tops_here", "_law_most", "_law_top", "_law_told"]
theorem sc__law_table : FnScope N__law_table ["_law_state", "_law_most_switches"] (defScope sd__law_table) := ⟨rfl, rfl, rfl, by decide +kernel, rfl, by decide +kernel, by decide +kernel⟩
def resTab (t : T) : Prop := ∃ x : Tab, t = x.t ∧ TabOk x
abbrev F_law_table (P : Program) (w : World) (K : PySem.W.Frag) (mg : Str → Option Value) (base : Heap) : Prop := FnS P w K mg base "_law_table" 5 (fun _ : Unit => [.p (.int 8)]) (fun _ => True) (fun _ => 500) (fun _ => resTab)
noncomputable def cTab (s0 L : Addr) (n : Nat) (s m : Int) (sw : List Sw) (most : Int) (fr : List (List Int)) : List Sl := [.st s0 L n, .t (.p (.int 8)), .t (.scope s m (.tuple (sw.map pSw))), .t (.p (.tuple (fr.map tupI))), .t (.p (.int most)), .no, .no]
theorem ok__law_table (TF : TopF K mg "_law_table" sd__law_table) (B : Bi mg) (G1 : F_law_scope P w K mg base) (G2 : F_law_tops_drawn P w K mg base) (G3 : F_law_pick P w K mg base) (G4 : F_law_under_count P w K mg base) (G5 : F_law_tops P w K mg base) (G6 : F_law_load P w K mg base) (G7 : F_law_all_ways P w K mg base) (G8 : F_law_stands P w K mg base) : F_law_table P w K mg base := by
  refine fnS_body TF sc__law_table (fun _ => rfl) (fun _ _ _ _ _ _ us hl => match us, hl with | [_, _], _ => rfl) fun f cdv A outer sh H E i s L n hr hok hn => ?_
  have hu := hr.units
  have hu5 := hr.u65
  have hN := sc__law_table.nd
  have hn' : n + 500 ≤ 1000000000 := hn
  refine sw_cons (s_asgE 2 hN (e_call 0 (8 : Nat) G1 hr rfl (da_cons (dv 1 rfl) da_nil) ⟨by decide, by decide⟩ (by show n + 200 ≤ _; omega) fun t ht => ?_))
  obtain ⟨a, m, sw, rfl, ho⟩ := ht
  refine ⟨Nat.le_of_ble_eq_true rfl, ?_⟩
  have hb := sco_box ho
  have ha2 : 2 ≤ a := hb.s2
  have ha5 : a ≤ 5 := hb.s5
  have h8 : sw.length ≤ 8 := ho.few
  obtain ⟨w1, w2⟩ := allWays_len h8
  have hfew := kss_few ho
  refine sw_cons (s_parE 3 4 rfl hN (evs_cons (e_call 0 (a, m, sw) G2 hr rfl (da_cons (dv 2 rfl) da_nil) ho (by show n + 200 + 200 ≤ _; omega) fun t ht => ?_)))
  obtain ⟨fr, rfl, hfr⟩ := ht
  refine evs_cons (e_call 0 [.int 0, .int 0, .int 0, .int 1, .int 1, .int 2, .int 20] G3 hr rfl ?a ⟨by decide, by decide⟩ (by show n + 200 + 200 + 1 ≤ _; omega) fun t ht => evs_nil ?_)
  case a =>
    refine da_lst1 ?_
    refine d_ls ?_
    iterate 7 (refine dp_cons ?_ ?_; exact d_int)
    exact dp_nil
  obtain ⟨y, hy, rfl⟩ := ht
  have hy2 : ∃ q : Int, y = .int q ∧ 0 ≤ q ∧ q ≤ 20 := by
    simp only [List.mem_cons, List.not_mem_nil, or_false] at hy
    rcases hy with rfl | rfl | rfl | rfl | rfl | rfl | rfl <;> exact ⟨_, rfl, by decide, by decide⟩
  obtain ⟨q, rfl, q0, q20⟩ := hy2
  refine ⟨_, _, rfl, Nat.le_of_ble_eq_true rfl, Nat.le_of_ble_eq_true rfl, ?_⟩
  have hfr' : FrOk a fr := hfr
  have hfl := hfr'.tops.few
  obtain ⟨mx, _, hmx⟩ := max_int (l := fr.map underC) fun e => hfr'.ne (List.map_eq_nil_iff.mp e)
  rename_i hmx1
  refine sw_if (S := List (List Int)) (cTab s L (n + 200 + 200 + 1) a m sw q) (fun fr => FrOk a fr) (dt_cmp o_gt (d_callB (c_max (m := mx) (ns := fr.map underC) rfl (by rw [List.length_map]; exact List.length_pos_iff.mpr hfr'.ne) fun k hk hk2 => ?_) ((d_lcA (xs := fr) (f := fun l => .int (underC l)) (onm := [("_law_top", 5)]) (enc := tupI) hN (blk_of (N := N__law_table) (sc := defScope sd__law_table) (by decide +kernel)) (di_tup (dv 3 rfl)) rfl (fun _ _ _ _ _ _ _ => ⟨[5], by decide, gt_name 5 hN⟩)
    (fun _ _ _ _ _ l hl => d_cl G4 hr l (da_cons (dv 5 rfl) da_nil) fun z hz => by have := hfr'.w99 l hl z hz; omega) (by omega)).is (by rw [List.map_map]; rfl)).lend B.max_).lend d_int.lend) (fun hk => ?_) (fun hk => ?_) (fun fr2 hf2 => ?_)
  · have h1 := hk2 mx hmx1
    have h2 := hmx k hk
    omega
  · refine sw_one (s_asg 3 hN (d_tuple (d_cl G5 hr ((pairs a).length, kssOf a sw, ysOf (kssOf a sw)) (da_cons ((d_lcA (xs := allWays sw) (f := fun v => tupI (loadOf a v)) (onm := [("_law_told", 6)]) (enc := pWay) hN (blk_of (N := N__law_table) (sc := defScope sd__law_table) (by decide +kernel)) (di_list (d_cl G7 hr sw (da_cons (d_scJ hu (dv 2 rfl)) da_nil) h8)) rfl (fun _ _ _ _ _ _ _ => ⟨[6], by decide, gt_name 6 hN⟩)
      (fun _ _ _ _ _ v hv => d_cl G6 hr (a, m, .tuple (sw.map pSw), v) (da_cons (dv 2 rfl) (da_cons (dv 6 rfl) da_nil)) ⟨by show 0 ≤ a; omega, ha5, by have := w2 v hv; show v.length ≤ 1000; omega⟩) (by omega)).is (u := .p (.list ((kssOf a sw).map tupI))) (by unfold kssOf; rw [List.map_map]; rfl)) da_nil) (tops_args ha2 ha5 hfew)).lend B.tuple_) ⟨topsOf (ysOf (kssOf a sw)), .refl _, tops_fr hfew⟩)
  · exact sw_nil ⟨fr, .refl _, hfr'⟩
  · have hf2l := hf2.tops.few
    exact sw_one (s_ret (d_table (dv 2 rfl) (dv 3 rfl) (dv 4 rfl) (d_cl G8 hr (a, m, sw, fr2) (da_cons (dv 2 rfl) (da_cons (dv 3 rfl) da_nil)) ⟨by show 0 ≤ a; omega, ha5, h8, by show fr2.length ≤ 1000; omega⟩)) ⟨⟨⟨a, m, sw, fr2, q⟩, rfl, ho, hf2, q0, q20⟩, n + 200 + 200 + 1, (by show _ ≤ n + 500; omega), rfl⟩)
abbrev sd__law_barred : Stmt := top 94
abbrev N__law_barred : List Str := ["_law_state", "_law_table_here", "_law_some"]
theorem sc__law_barred : FnScope N__law_barred ["_law_state", "_law_table_here"] (defScope sd__law_barred) := ⟨rfl, rfl, rfl, by decide +kernel, rfl, by decide +kernel, by decide +kernel⟩
def resBar (x : Tab) (t : T) : Prop := ∃ bar : List Way, t = .p (.tuple (bar.map pWay)) ∧ bar.Sublist x.st
abbrev F_law_barred (P : Program) (w : World) (K : PySem.W.Frag) (mg : Str → Option Value) (base : Heap) : Prop := FnS P w K mg base "_law_barred" 4 (fun x : Tab => [x.t]) TabOk (fun _ => 300) resBar
theorem ok__law_barred (TF : TopF K mg "_law_barred" sd__law_barred) (B : Bi mg) (G1 : F_law_draw P w K mg base) (G2 : F_law_few P w K mg base) : F_law_barred P w K mg base := by
  refine fnS_body TF sc__law_barred (fun _ => rfl) (fun _ _ _ _ _ _ us hl => match us, hl with | [_, _], _ => rfl) fun f cdv A outer sh H E i s L n hr hok hn => ?_
  have hu := hr.units
  have hN := sc__law_barred.nd
  have hn' : n + 300 ≤ 1000000000 := hn
  have hl := tab_len hok
  have fin : ∀ (k : Nat) (bar : List Way), k ≤ n + 300 → bar.Sublist i.st → SW (CB P w K mg base N__law_barred "_law_barred" sd__law_barred f cdv A outer sh H E) ((defBody sd__law_barred).drop 1) ⟨fun _ => False, fun t d => resBar i t ∧ ∃ m, m ≤ n + 300 ∧ d.getD 0 .no = .st s L m, fun _ => False, fun _ => False⟩ [.st s L k, .t i.t, .t (.p (.list (bar.map pWay)))] := fun k bar hk hs =>
    sw_one (s_ret (d_tuple (dv 2 rfl).lend B.tuple_) ⟨⟨bar, rfl, hs⟩, k, hk, rfl⟩)
  refine sw_cons (s_asgE 2 hN (e_if (et_cmp (e_call 0 (3 : Int) G1 hr rfl (da_cons d_int da_nil) ⟨by decide, by decide⟩ (by show n + 1 ≤ _; omega) fun t ht => ?_))))
  obtain ⟨r, rfl, h0, h3⟩ := ht
  refine e_de d_int ⟨_, o_eqI hu, fun hk => ?_, fun hk => ?_⟩
  · refine e_call 0 (i.st.map pWay, 2) G2 hr rfl (da_cons (d_tbSt hu (dv 1 rfl)) (da_cons d_int da_nil)) ⟨by show (i.st.map pWay).length < 1000; rw [List.length_map]; omega, by show 2 < 1000; omega⟩ (by show n + 1 + ((i.st.map pWay).length + 1) ≤ _; rw [List.length_map]; omega) fun t ht => ?_
    obtain ⟨es, rfl, hs⟩ := ht
    obtain ⟨bar, hb1, rfl⟩ := List.sublist_map_iff.mp hs
    refine ⟨Nat.le_of_ble_eq_true rfl, fin (n + 1 + ((i.st.map pWay).length + 1)) bar ?_ hb1⟩
    rw [List.length_map]
    omega
  · exact e_de (d_ls dp_nil) ⟨Nat.le_of_ble_eq_true rfl, fin (n + 1) [] (by omega) (List.nil_sublist _)⟩
end
end Ac
-- part L13
set_option maxHeartbeats 4000000
set_option Elab.async false
set_option maxRecDepth 100000
set_option linter.all false
/-! Ac, plain: the game of a table. -/
namespace Ac
open PySem PySem.Spec PyProof.Rows L2
theorem rounds_rank (g : List (Way × Rows)) : ∀ (n rank : Nat) (found : Lost), (∀ x ∈ found, x.2.1 < rank + n) → ∀ x ∈ rounds g n rank found, x.2.1 < rank + n
  | 0, _, _, h, x, hx => h x hx
  | n + 1, rank, found, h, x, hx => by
    have e : rounds g (n + 1) rank found = if freshOf rank found g = [] then found else rounds g n (rank + 1) (found ++ freshOf rank found g) := rfl
    rw [e] at hx
    split at hx
    · exact h x hx
    · have := rounds_rank g n (rank + 1) (found ++ freshOf rank found g) (fun y hy => by
        rcases List.mem_append.mp hy with hy | hy
        · have := h y hy; omega
        · have := (fresh_mem hy).1; omega) x hx
      omega
theorem lost_rank {g : List (Way × Rows)} {v : Way} {r : Nat × Ask} (h : look (lostOf g) v = some r) : r.1 ≤ g.length := by
  rw [look_lost] at h
  have := rounds_rank g (g.length + 1) 0 [] (fun _ z => nomatch z) (v, r) (look_mem h)
  have h2 : r.1 < 0 + (g.length + 1) := this
  omega
def Tab.b (x : Tab) : Bx := ⟨x.s, x.m, x.sw⟩
def Tab.gm (x : Tab) (bar : List Way) : Gm := ⟨x.b, x.fr, x.most, bar⟩
theorem tab_st {x : Tab} (h : TabOk x) {v : Way} (hv : v ∈ x.st) : StOk x.b x.fr v := by
  have hb : BxOk x.b := sco_box h.sco
  obtain ⟨h1, h2⟩ := List.mem_filter.mp (show v ∈ (allWays x.sw).filter fun w => isOf (loadOf x.s w) x.fr from hv)
  obtain ⟨h3, h4⟩ := raw_mem (bx_apart hb) v ((srtT_perm _ _).mem_iff.mp h1)
  exact ⟨wayOk_of hb h3 h4, h2⟩
theorem tab_asc {x : Tab} (h : TabOk x) : AscT pWay x.st := by
  have hb : BxOk x.b := sco_box h.sco
  have hn : x.sw.Nodup := ascT_nodup hb.asc
  exact asc_of_sub (show ((allWays x.sw).filter fun w => isOf (loadOf x.s w) x.fr).Sublist (allWays x.sw) from List.filter_sublist) (srtT_asc eqv_way al_way (raw_nodup hn).1)
theorem tab_in {x : Tab} (h : TabOk x) {bar : List Way} (hs : bar.Sublist x.st) : GmIn (x.gm bar) :=
  ⟨sco_box h.sco, h.fr, h.m0, h.m20, fun v hv => tab_st h (hs.subset hv), asc_of_sub hs (tab_asc h)⟩
theorem tab_ok {x : Tab} (h : TabOk x) {bar : List Way} (hs : bar.Sublist x.st) (w : World) : GmOk w (x.gm bar) := by
  have hi := tab_in h hs
  refine gmOk_of hi ?_
  have e : ((x.gm bar).g.map fun y => (kWay y.1).hash w) = ((x.gm bar).g.map (·.1)).map fun v => (kWay v).hash w := by rw [List.map_map]; rfl
  rw [e]
  refine hash_nodup w h.sco (gm_G hi) fun v hv => ?_
  have e2 : (x.gm bar).g.map (·.1) = (x.gm bar).ws.filter fun v => !mem v (x.gm bar).bar := game_key
  rw [e2] at hv
  have hst := (gm_ws hi).mp (List.mem_filter.mp hv).1
  exact all_full h.sco (way_sub hi.b hst.way) hst.way.pins
/-- answers of a kept standing's end -/
theorem kept_fin {i : Gm} (h : GmIn i) {ks : List Way} (hk : keptOf i.g = some ks) {v : Way} (hv : v ∈ ks) {x : Sw} (ha : Ask.fin x ∈ asksAt i.b.s i.fr v) : leftBy v x ∈ ks ∧ leftBy v x ∉ i.bar := by
  obtain ⟨o, o1, o2, o3⟩ := kept_ans h hk hv ha
  have o1' : o ∈ [leftBy v x] := o1
  rw [List.mem_singleton.mp o1'] at o2 o3
  exact ⟨o3, o2⟩
theorem asks_nil {s : Int} {fr : List (List Int)} {v : Way} (h : asksAt s fr v = []) : v = [] := by
  unfold asksAt at h
  exact List.map_eq_nil_iff.mp (List.append_eq_nil_iff.mp h).1
/-- a paper with its ranks in bounds -/
def PaperCase (i : Gm) (l : List (Way × (Nat × Ask))) : Prop := (([] : Way) ∈ i.bar ∧ l = []) ∨ (([] : Way) ∉ i.bar ∧ PaperOk i l ∧ ∀ x ∈ l, x.2.1 ≤ 256)
theorem doom_case {i : Gm} (h : GmIn i) {l : List (Way × (Nat × Ask))} (hd : doomOf i.g = some l) (hc : (([] : Way) ∈ i.bar ∧ l = []) ∨ (([] : Way) ∉ i.bar ∧ PaperOk i l)) : PaperCase i l := by
  rcases hc with hc | ⟨h1, h2⟩
  · exact .inl hc
  · refine .inr ⟨h1, h2, fun x hx => ?_⟩
    unfold doomOf at hd
    split at hd
    · injection hd with e
      rw [← e] at hx
      cases hx
    · split at hd
      · injection hd with e
        rw [← e] at hx
        have := lost_rank (look_some (lost_keys (gm_G h)).1 hx)
        have := gm_gfew h
        omega
      · cases hd
end Ac
-- part C22
set_option Elab.async false
set_option maxRecDepth 100000
set_option maxHeartbeats 4000000
set_option linter.all false
namespace Ac
open PySem PySem.Spec PyProof.Rows L2
section
variable {P : Program} {w : World} {K : PySem.W.Frag} {mg : Str → Option Value} {base : Heap}
abbrev sd__law_answered : Stmt := top 95
abbrev N__law_answered : List Str := ["_law_state", "_law_table_here", "_law_box", "_law_barred_here", "_law_base", "_law_plan", "_law_told", "_law_lap", "_law_several", "_law_asked", "_law_some", "_law_other"]
theorem sc__law_answered : FnScope N__law_answered ["_law_state", "_law_table_here", "_law_box", "_law_barred_here", "_law_base", "_law_plan"] (defScope sd__law_answered) := ⟨rfl, rfl, rfl, by decide +kernel, rfl, by decide +kernel, by decide +kernel⟩
structure AnsIn (i : Tab × List Way × List Way) : Prop where
  tab : TabOk i.1
  bar : i.2.1.Sublist i.1.st
  kept : keptOf (i.1.gm i.2.1).g = some i.2.2
abbrev F_law_answered (P : Program) (w : World) (K : PySem.W.Frag) (mg : Str → Option Value) (base : Heap) : Prop := FnS P w K mg base "_law_answered" 9 (fun i : Tab × List Way × List Way => [i.1.t, i.1.b.t_, .p (.tuple (i.2.1.map pWay)), .p (.tuple (i.2.2.map pWay)), .dic (dk kWP pWay (planOf (i.1.gm i.2.1).g i.2.2))]) AnsIn (fun _ => 40) (fun _ t => t = .p (.bool true))
noncomputable def cAns (s0 L : Addr) (i : Tab × List Way × List Way) (q : Nat × Way) : List Sl := [.st s0 L q.1, .t i.1.t, .t i.1.b.t_, .t (.p (.tuple (i.2.1.map pWay))), .t (.p (.tuple (i.2.2.map pWay))), .t (.dic (dk kWP pWay (planOf (i.1.gm i.2.1).g i.2.2))), .t (.p (pWay q.2)), .no, .no, .no, .no, .no]
theorem ok__law_answered (TF : TopF K mg "_law_answered" sd__law_answered) (B : Bi mg) (G1 : Faskings P w K mg base) (G2 : F_law_pick P w K mg base) (G3 : Fanswers P w K mg base) : F_law_answered P w K mg base := by
  refine fnS_body TF sc__law_answered (fun _ => rfl) (fun _ _ _ _ _ _ us hl => match us, hl with | [_, _, _, _, _, _], _ => rfl) fun f cdv A outer sh H E i s L n hr hok hn => ?_
  have hu := hr.units
  have hu5 := hr.u65
  have hN := sc__law_answered.nd
  have hn' : n + 40 ≤ 1000000000 := hn
  obtain ⟨x, bar, ks⟩ := i
  obtain ⟨tab, hbar, hk⟩ := hok
  have hin : GmIn (x.gm bar) := tab_in tab hbar
  have hb : BxOk x.b := hin.b
  have hfr : FrOk x.b.s x.fr := hin.fr
  refine sw_cons (s_asg 6 hN (d_tp dp_nil) ?_)
  refine sw_for (S := Nat × Way) (ds := rgD 0 40) (di_range1 (d_int (i := 40)) (by decide) (by decide) B.range_) (cAns s L (x, bar, ks)) (fun j q => q.1 ≤ n + j ∧ j ≤ 40 ∧ q.2 ∈ ks) (n, []) (.refl _) ⟨Nat.le_refl _, by omega, kept_nil hin hk⟩ (fun j d q hd hq => ?_) (fun q hq => ?_)
  · obtain ⟨c, v⟩ := q
    obtain ⟨q1, q2, q3⟩ := hq
    have q1' : c ≤ n + j := q1
    have hv : v ∈ ks := q3
    have hj : j < 40 := by
      have := (List.getElem?_eq_some_iff.mp hd).1
      rw [rgD_len] at this
      exact this
    have hst : StOk x.b x.fr v := kept_st hin hk v hv
    have hal : (asksAt x.b.s x.fr v).length ≤ 33 := asks_len hb x.fr (way_len hb (way_sub hb hst.way))
    refine ⟨[7], _, gt_name 7 hN, ?_⟩
    refine sw_cons (s_asg 8 hN (d_cl G1 hr (x.b, x.fr, v) (da_cons (dv 2 rfl) (da_cons (d_tbT hu (dv 1 rfl)) (da_cons (dv 6 rfl) da_nil))) ⟨hb, hfr, hst⟩) ?_)
    refine sw_cons (s_if (dt_cmp (o_eq hu ((lay_lst (lay_map lay_ask (asksAt x.b.s x.fr v))).sh (by omega)) ((lay_lst (n := 0) (ds := []) fun _ h => nomatch h).sh (by omega))) (dv 8 rfl).lend (d_ls dp_nil).lend) (fun ht => ?_) fun ht => sw_nil ?_)
    · rw [eqv_nil] at ht
      have he : asksAt x.b.s x.fr v = [] := List.map_eq_nil_iff.mp (of_decide_eq_true ht)
      refine sw_one (s_ret (d_cmp (o_eqD (x := v) (y := ([] : Way)) eqv_way lay_way (by omega) hu) (dv 6 rfl).lend (d_tp dp_nil).lend) ⟨?_, c, (by show c ≤ n + 40; omega), rfl⟩)
      rw [asks_nil he]
      rfl
    · rw [eqv_nil] at ht
      have hne : asksAt x.b.s x.fr v ≠ [] := fun e => of_decide_eq_false ht (by rw [e]; rfl)
      refine sw_cons (s_asgE 9 hN (e_call 0 ((asksAt x.b.s x.fr v).map pAsk) G2 hr rfl (da_cons (dv 8 rfl) da_nil) ⟨by rw [List.length_map]; exact List.length_pos_iff.mpr hne, by rw [List.length_map]; omega⟩ (by show c + 1 ≤ _; omega) fun t ht => ?_))
      obtain ⟨y, hy, rfl⟩ := ht
      obtain ⟨a, ha, rfl⟩ := List.mem_map.mp hy
      refine ⟨Nat.le_of_ble_eq_true rfl, ?_⟩
      have hask : AskOk x.b x.fr v a := ha
      have hwl := ansW_len hb x.most v a
      refine sw_cons (s_asg 10 hN (d_cl G3 hr (x.b, x.fr, x.most, v, a) (da_cons (dv 2 rfl) (da_cons (d_tbT hu (dv 1 rfl)) (da_cons (d_tbM hu (dv 1 rfl)) (da_cons (dv 6 rfl) (da_cons (dv 9 rfl) da_nil))))) ⟨hb, hfr, ⟨tab.m0, tab.m20⟩, hst, hask⟩) ?_)
      have key : ∃ o : Way, o ∈ ansW x.b x.most v a ∧ o ∈ ks ∧ o ∉ bar ∧ (∀ z, a = .fin z → o = leftBy v z) ∧ ∀ p, a = .want p → look (planOf (x.gm bar).g ks) (v, p) = some o := by
        cases a with
        | fin z =>
          obtain ⟨k1, k2⟩ := kept_fin hin hk hv ha
          exact ⟨leftBy v z, List.mem_singleton.mpr rfl, k1, k2, fun z' e => by injection e with e; rw [e], fun p e => by cases e⟩
        | want p =>
          obtain ⟨o, l1, l2, l3, l4⟩ := plan_look hin hk hv ha
          exact ⟨o, l3, l2, l4, (fun z e => by cases e), fun p' e => by injection e with e; rw [← e]; exact l1⟩
      obtain ⟨o, o1, o2, o3, o4, o5⟩ := key
      refine sw_cons (s_asg 11 hN (t := .p (pWay o)) ?e ?_)
      case e =>
        cases a with
        | fin z => exact d_if (dt_cmp (o_eqS hu (by decide +kernel) (by decide +kernel)) (d_ixT (ds := [.str "end", pSw z]) (dv 9 rfl) d_int rfl).lend d_str.lend) (fun _ => d_ixL (ds := (ansW x.b x.most v (.fin z)).map pWay) (d := pWay o) (dv 10 rfl).lend d_int (by rw [o4 z rfl]; rfl)) (fun h => absurd h (by decide))
        | want p => exact d_if (dt_cmp (o_eqS hu (by decide +kernel) (by decide +kernel)) (d_ixT (ds := [.str "want", pPin p]) (dv 9 rfl) d_int rfl).lend d_str.lend) (fun h => absurd h (by decide)) (fun _ => d_ixK (k := kWP) (f := pWay) (g := pWP) (x := (v, p)) (fun _ _ => kWP_inj) kWP_data tup_WP kWPd hu (dv 5 rfl).lend (d_tp (dp_cons (dv 6 rfl) (dp_cons (d_ixT (ds := [.str "want", pPin p]) (dv 9 rfl) d_int rfl) dp_nil))) (o5 p rfl))
      refine sw_cons (s_ifNo (dw_or (dt_cmp (o_ninD (x := o) (xs := ansW x.b x.most v a) eqv_way lay_way (by omega) hu5) (dv 11 rfl).lend (dv 10 rfl).lend) fun _ => dw_or (dt_cmp (o_ninUD (x := o) (xs := ks) eqv_way lay_way (by omega) hu5) (dv 11 rfl).lend (dv 4 rfl).lend) fun _ => dw_or1 (dt_cmp (o_inUD (x := o) (xs := bar) eqv_way lay_way (by omega) hu5) (dv 11 rfl).lend (dv 3 rfl).lend)).test
        (by rw [mem_iff.mpr o1, mem_iff.mpr o2, mem_no.mpr o3]; rfl) ?_)
      exact sw_one (s_asg 6 hN (dv 11 rfl) ⟨(c + 1, o), Wk.of [7, 8, 9, 10, 11] rfl, ⟨by show c + 1 ≤ n + (j + 1); omega, by show j + 1 ≤ 40; omega, o2⟩⟩)
  · rw [rgD_len] at hq
    exact sw_one (s_ret d_bl ⟨rfl, q.1, hq.1, rfl⟩)
abbrev sd__law_doomed : Stmt := top 96
abbrev N__law_doomed : List Str := ["_law_state", "_law_table_here", "_law_box", "_law_barred_here", "_law_paper", "_law_told", "_law_count", "_law_rank", "_law_asked", "_law_other", "_law_some"]
theorem sc__law_doomed : FnScope N__law_doomed ["_law_state", "_law_table_here", "_law_box", "_law_barred_here", "_law_paper"] (defScope sd__law_doomed) := ⟨rfl, rfl, rfl, by decide +kernel, rfl, by decide +kernel, by decide +kernel⟩
structure DoomIn (i : Tab × List Way × List (Way × (Nat × Ask))) : Prop where
  tab : TabOk i.1
  bar : i.2.1.Sublist i.1.st
  paper : PaperCase (i.1.gm i.2.1) i.2.2
abbrev F_law_doomed (P : Program) (w : World) (K : PySem.W.Frag) (mg : Str → Option Value) (base : Heap) : Prop := FnS P w K mg base "_law_doomed" 9 (fun i : Tab × List Way × List (Way × (Nat × Ask)) => [i.1.t, i.1.b.t_, .p (.tuple (i.2.1.map pWay)), Tlost i.2.2]) DoomIn (fun _ => 300) (fun _ t => t = .p (.bool true))
noncomputable def cDoo (s0 L : Addr) (i : Tab × List Way × List (Way × (Nat × Ask))) (q : Nat × Way × Nat) : List Sl := [.st s0 L q.1, .t i.1.t, .t i.1.b.t_, .t (.p (.tuple (i.2.1.map pWay))), .t (Tlost i.2.2), .t (.p (pWay q.2.1)), .t (.p (.int (q.2.2 : Nat))), .no, .no, .no, .no]
theorem ok__law_doomed (TF : TopF K mg "_law_doomed" sd__law_doomed) (B : Bi mg) (G2 : F_law_pick P w K mg base) (G3 : Fanswers P w K mg base) : F_law_doomed P w K mg base := by
  refine fnS_body TF sc__law_doomed (fun _ => rfl) (fun _ _ _ _ _ _ us hl => match us, hl with | [_, _, _, _, _], _ => rfl) fun f cdv A outer sh H E i s L n hr hok hn => ?_
  have hu := hr.units
  have hu5 := hr.u65
  have hN := sc__law_doomed.nd
  have hn' : n + 300 ≤ 1000000000 := hn
  obtain ⟨x, bar, l⟩ := i
  obtain ⟨tab, hbar, hcase⟩ := hok
  have hin : GmIn (x.gm bar) := tab_in tab hbar
  have hb : BxOk x.b := hin.b
  have hfr : FrOk x.b.s x.fr := hin.fr
  refine sw_cons (s_tup (is := [5, 6]) rfl (gns_cons 5 hN (gns_cons 6 hN gns_nil)) (dfs_val (d_tp dp_nil) (dfs_val d_int dfs_nil)) rfl (Nat.le_of_ble_eq_true rfl) (fun j hj => ?_) ?_)
  · simp only [List.mem_cons, List.not_mem_nil, or_false] at hj
    rcases hj with rfl | rfl <;> exact ⟨Nat.le_of_ble_eq_true rfl, Nat.le_of_ble_eq_true rfl⟩
  refine sw_weak (dl' := cDoo s L (x, bar, l) (n, [], 0)) (.refl _) ?_
  rcases hcase with ⟨c1, c2⟩ | ⟨c1, c2, c3⟩
  · have c2' : l = [] := c2
    subst c2'
    refine sw_cons (s_ifYes (dt_cmp (o_inUD (x := ([] : Way)) (xs := bar) eqv_way lay_way (by omega) hu5) (d_tp dp_nil).lend (dv 3 rfl).lend) (mem_iff.mpr c1) ?_)
    exact sw_one (s_ret (d_cmp (o_eqE hu) (dv 4 rfl).lend d_dnew.lend) ⟨rfl, n, (by show n ≤ n + 300; omega), rfl⟩)
  · have pk : PaperOk (x.gm bar) l := c2
    have c3' : ∀ y ∈ l, y.2.1 ≤ 256 := c3
    refine sw_cons (s_ifNo (dt_cmp (o_inUD (x := ([] : Way)) (xs := bar) eqv_way lay_way (by omega) hu5) (d_tp dp_nil).lend (dv 3 rfl).lend) (mem_no.mpr c1) ?_)
    obtain ⟨r0, hr0⟩ := Option.isSome_iff_exists.mp pk.nil
    have hr0' : r0.1 ≤ 256 := c3' ([], r0) (look_mem hr0)
    refine sw_while (S := Nat × Way × Nat) (cDoo s L (x, bar, l)) (fun q => q.1 ≤ n + q.2.2 ∧ ∃ r, look l q.2.1 = some r ∧ r.1 + q.2.2 ≤ r0.1) (fun q => 300 - q.2.2) (n, [], 0) (.refl _) ⟨by show n ≤ n + 0; omega, r0, hr0, by show r0.1 + 0 ≤ r0.1; omega⟩ (fun q hq => ?_)
    obtain ⟨c, v, cnt⟩ := q
    obtain ⟨q1, r, hr1, hr2⟩ := hq
    have q1' : c ≤ n + cnt := q1
    have hr1' : look l v = some r := hr1
    have hr2' : r.1 + cnt ≤ r0.1 := hr2
    obtain ⟨rk, a⟩ := r
    have hr2'' : rk + cnt ≤ r0.1 := hr2'
    refine ⟨decide ((cnt : Int) ≤ ((r0.1 : Nat) : Int)), dt_cmp o_le (dv 6 rfl).lend (d_ixT (ds := [.int (r0.1 : Nat), pAsk r0.2]) (d_ixK (k := kWay) (g := pWay) (f := pRank) (x := ([] : Way)) (y := r0) (fun _ _ => kWay_inj) kWay_data tup_way kWd hu (dv 4 rfl).lend (d_tp dp_nil) hr0) d_int rfl).lend, fun _ => ?_, fun h => absurd (of_decide_eq_false h) (by omega)⟩
    have hxl : (v, (rk, a)) ∈ l := look_mem hr1'
    obtain ⟨hst, hvb, hask⟩ := pk.row _ hxl
    have hst' : StOk x.b x.fr v := hst
    have hfall : Falls x.b x.most bar l v rk a := pk.fall _ hxl
    have hwl := ansW_len hb x.most v a
    refine sw_cons (s_tg (d_ixK (k := kWay) (g := pWay) (f := pRank) (fun _ _ => kWay_inj) kWay_data tup_way kWd hu (dv 4 rfl).lend (dv 5 rfl) hr1') (gt_tup rfl (gts_cons (gt_name 7 hN) (gts_cons (gt_name 8 hN) gts_nil))) ?_)
    refine sw_cons (s_lc 10 rfl hN (blk_of (N := N__law_doomed) (sc := defScope sd__law_doomed) (by decide +kernel)) (dl_lc (onm := [("_law_other", 9)]) (xs := ansW x.b x.most v a) (enc := pWay) (f := pWay) (k := fun o => !mem o bar) rfl hN (di_list (d_cl G3 hr (x.b, x.fr, x.most, v, a) (da_cons (dv 2 rfl) (da_cons (d_tbT hu (dv 1 rfl)) (da_cons (d_tbM hu (dv 1 rfl)) (da_cons (dv 5 rfl) (da_cons (dv 8 rfl) da_nil))))) ⟨hb, hfr, ⟨tab.m0, tab.m20⟩, hst', hask⟩)) (blk_of (N := N__law_doomed) (sc := defScope sd__law_doomed) (by decide +kernel)) (List.all_eq_true.mp rfl) (fun _ _ _ _ _ _ _ => ⟨[9], by decide, gt_name 9 hN⟩)
      (fun _ _ _ _ _ o _ => dts_one (dt_cmp (o_ninUD eqv_way lay_way (by omega) hu5) (dv 9 rfl).lend (dv 3 rfl).lend)) (fun _ _ _ _ _ o _ _ => dv 9 rfl) (by omega)) ?_)
    refine sw_cons (s_asg 6 hN (d_bin o_add (dv 6 rfl).lend d_int.lend) ?_)
    have hsl := List.length_filter_le (fun o => !mem o bar) (ansW x.b x.most v a)
    refine sw_cons (s_if (dt_cmp (o_eq hu ((lay_lst (lay_map lay_way ((ansW x.b x.most v a).filter fun o => !mem o bar))).sh (by omega)) ((lay_lst (n := 0) (ds := []) fun _ h => nomatch h).sh (by omega))) (dv 10 rfl).lend (d_ls dp_nil).lend) (fun ht => ?_) fun ht => sw_nil ?_)
    · exact sw_one (s_ret d_bl ⟨rfl, c, (by show c ≤ n + 300; omega), rfl⟩)
    · rw [eqv_nil] at ht
      have hne : ((ansW x.b x.most v a).filter fun o => !mem o bar) ≠ [] := fun e => of_decide_eq_false ht (by rw [e]; rfl)
      refine sw_cons (s_asgE 9 hN (e_call 0 (((ansW x.b x.most v a).filter fun o => !mem o bar).map pWay) G2 hr rfl (da_cons (dv 10 rfl) da_nil) ⟨by rw [List.length_map]; exact List.length_pos_iff.mpr hne, by rw [List.length_map]; omega⟩ (by show c + 1 ≤ _; omega) fun t ht => ?_))
      obtain ⟨y, hy, rfl⟩ := ht
      obtain ⟨o, ho, rfl⟩ := List.mem_map.mp hy
      refine ⟨Nat.le_of_ble_eq_true rfl, ?_⟩
      obtain ⟨o1, o2⟩ := List.mem_filter.mp ho
      obtain ⟨r2, l1, l2⟩ := hfall o o1 (mem_no.mp (by rw [Bool.not_eq_true'] at o2; exact o2))
      refine sw_cons (s_ifNo (dt_cmp o_ge (d_ixT (ds := [.int (r2.1 : Nat), pAsk r2.2]) (d_ixK (k := kWay) (g := pWay) (f := pRank) (y := r2) (fun _ _ => kWay_inj) kWay_data tup_way kWd hu (dv 4 rfl).lend (dv 9 rfl) l1) d_int rfl).lend (dv 7 rfl).lend) (decide_eq_false (by omega)) ?_)
      refine sw_one (s_asg 5 hN (dv 9 rfl) ⟨(c + 1, o, cnt + 1), Wk.of [7, 8, 9, 10] rfl, ⟨by show c + 1 ≤ n + (cnt + 1); omega, r2, l1, by show r2.1 + (cnt + 1) ≤ r0.1; omega⟩, by show 300 - (cnt + 1) < 300 - cnt; omega⟩)
end
end Ac
-- part E11
set_option Elab.async false
set_option maxRecDepth 100000
set_option maxHeartbeats 4000000
set_option linter.all false
/-! Ac: lists of ints that a comprehension makes, owned; the source of draws is made. -/
namespace Ac
open PySem PySem.Spec PyProof.Rows L2
section
variable {X : Cx} {e a b c : Expr} {es : List Expr} {dl : List Sl} {t u r : T} {pos p : Pos} {D : DK}
def DLi (X : Cx) (elt tg it : Expr) (ifs : List Expr) (scope : Scope) (vs : List Nat) (dl : List Sl) (ns : List Int) : Prop := ∀ (Kp : Hp) (F : Addr → Prop) (own : Nat → List Addr) (H : Hp) (st : L2.St), SE X Kp F dl own H st → st.length = X.N.length →
  tLc (WI X tg it) (gB X scope tg) (tB2 X scope ifs) (eB X scope elt) vs st H fun v H' => Same H H' ∧ ∃ E, v = .ref E ∧ H E = none ∧ H' E = some (.lst (ns.map V.int))
theorem dl_lcI {elt tg it : Expr} {ifs : List Expr} {scope : Scope} {onm : List (Str × Nat)} {A : Type} {enc : A → PyData} {xs : List A} {f : A → Int} {k : A → Bool} {dl1 : A → List Sl}
    (hc : X.calm = true) (hN : X.N.Nodup) (hi : DI X tg it dl (xs.map enc)) (ok : BlkOk X.N X.env.scope scope onm) (hfree : ∀ i ∈ onm.map (·.2), slFree (dl.getD i .no) = true)
    (hg : ∀ (s : Shared) (H : Hp) (C : Addr) (cl : List (Str × Addr)) (fp : List Addr) (x : A), x ∈ xs → ∃ is : List Nat, (∀ i ∈ is, i ∈ onm.map (·.2)) ∧ GT (BK X s H scope C cl fp) tg is (wipeS dl (onm.map (·.2))) (enc x) (dl1 x))
    (ht : ∀ (s : Shared) (H : Hp) (C : Addr) (cl : List (Str × Addr)) (fp : List Addr) (x : A), x ∈ xs → DTs (BK X s H scope C cl fp) ifs (dl1 x) (k x))
    (he : ∀ (s : Shared) (H : Hp) (C : Addr) (cl : List (Str × Addr)) (fp : List Addr) (x : A), x ∈ xs → k x = true → DE (BK X s H scope C cl fp) elt (dl1 x) (.p (.int (f x))))
    (hz : xs.length ≤ 100000) :
    DLi X elt tg it ifs scope (onm.map (·.2)) dl ((xs.filter k).map f) := fun Kp F own H st S hlen => by
  refine WI.mono (hi Kp F own H st S) fun J H1 ⟨s1, G, Y, W, hG, hY⟩ => ?_
  intro D hD
  have S1 := S.grow s1
  have fD := S1.fresh hD
  have kD : Kp D = none := S1.kp.free hD
  have n : xs.length = (xs.map enc).length := (List.length_map _).symm
  rw [← n] at W
  refine lc_it (H1 := H1) (D := D) (σ := st) (vs := onm.map (·.2)) (g := gB X scope tg) (tt := tB2 X scope ifs) (te := eB X scope elt) (Qd := fun H' => Same H H' ∧ ∃ E, V.ref D = .ref E ∧ H E = none ∧ H' E = some (.lst (((xs.filter k).map f).map V.int))) W (fun i H2 => Same H1 H2 ∧ ∃ acc, H2 D = some (.lst acc) ∧ DpAll X.K (reg own (fun a => F a ∨ a = D) H2) acc (((xs.take i).filter k).map fun x => .int (f x)) ∧ SE X Kp (fun a => F a ∨ a = D) dl own H2 st) ?_ ?_ ?_ ?_
  · exact ⟨same_new hD, [], upd_same, by rw [List.take_zero]; exact .nil, S1.hide hD⟩
  · rintro i H2 _ ⟨s2, _⟩
    exact hG H2 (reg_sub.trans s2)
  · rintro i x H2 H3 hi ⟨s2, acc, hD2, hacc, S2⟩ y
    obtain ⟨z, hz'⟩ : ∃ z, xs[i]? = some z := ⟨xs[i], List.getElem?_eq_getElem hi⟩
    have hm : z ∈ xs := List.mem_of_getElem? hz'
    obtain ⟨s3, hx⟩ := hY i H2 x H3 (enc z) (by rw [List.getElem?_map, hz']; rfl) y
    have S3 := S2.grow s3
    have nD : ∀ a o, H1 a = some o → a ≠ D := fun a o q e => by rw [e, hD] at q; cases q
    have hx' : Dp X.K (reg own (fun a => F a ∨ a = D) H3) x (enc z) := hx _ (reg_mono fun a o h1 h2 h3 => ⟨s3 _ _ (s2 _ _ h3), h1, fun q => q.elim h2 (nD a o h3)⟩) fun a o h1 h2 => by
      rw [reg_in (S2.fresh h1).1 (S2.fresh h1).2]
      exact h2
    intro s' H0 C cl fp
    obtain ⟨is, his, hgt⟩ := hg s' H0 C cl fp z hm
    have Sw : SE (BK X s' H0 scope C cl fp) Kp (fun a => F a ∨ a = D) (wipeS dl (onm.map (·.2))) own H3 (L2.wipe st (onm.map (·.2))) := (S3.wipe hfree).cx rfl rfl rfl
    refine (hgt Kp _ own H3 _ x Sw (by rw [wipe_length]; exact hlen) hx').mono fun st4 H4 ⟨e4, S4, l4, w4⟩ => ?_
    subst e4
    refine ⟨(w4 _ his).trans ?_, fun s5 H05 C5 cl5 fp5 => ?_⟩
    · -- twice wiped
      have aux : ∀ (ws : List Nat) (i : Nat), i ∈ ws → (L2.wipe st ws)[i]? = if i < st.length then some none else none := by
        intro ws
        induction ws with
        | nil => intro i h; cases h
        | cons w ws ih =>
          intro i h
          unfold L2.wipe
          rw [List.getElem?_set]
          by_cases e : w = i
          · subst e; rw [if_pos rfl, wipe_length]
          · rw [if_neg e]; exact ih i ((List.mem_cons.mp h).resolve_left (Ne.symm e))
      refine List.ext_getElem? fun i => ?_
      by_cases m : i ∈ onm.map (·.2)
      · have a1 : ∀ ws : List Nat, i ∈ ws → ∀ q : L2.St, (L2.wipe q ws)[i]? = if i < q.length then some none else none := by
          intro ws hw q
          induction ws with
          | nil => cases hw
          | cons w ws ih =>
            unfold L2.wipe
            rw [List.getElem?_set]
            by_cases e : w = i
            · subst e; rw [if_pos rfl, wipe_length]
            · rw [if_neg e]; exact ih ((List.mem_cons.mp hw).resolve_left (Ne.symm e))
        rw [a1 _ m, a1 _ m, wipe_length]
      · rw [wipe_out m]
    · have Sv : SE (BK X s5 H05 scope C5 cl5 fp5) Kp (fun a => F a ∨ a = D) (dl1 z) own H4 st4 := S4.cx rfl rfl rfl
      refine (ht s5 H05 C5 cl5 fp5 z hm Kp _ own H4 st4 Sv).mono fun bb H5 ⟨s5', e5⟩ => ?_
      subst e5
      have hp : (xs.take (i + 1)).filter k = (xs.take (i + 1)).filter k := rfl
      have next := getElem?_filter_map xs k i z hz' fun x => PyData.int (f x)
      cases hk : k z with
      | false =>
        rw [if_neg Bool.false_ne_true]
        rw [hk, if_neg Bool.false_ne_true, List.append_nil] at next
        have s25 := s3.trans s5'
        exact ⟨s2.trans s25, acc, s25 _ _ hD2, by rw [next]; exact hacc.up (reg_up s25), (S2.grow s25)⟩
      | true =>
        rw [if_pos rfl]
        rw [hk, if_pos rfl] at next
        intro s6 H06 C6 cl6 fp6
        refine (he s6 H06 C6 cl6 fp6 z hm hk Kp _ own H5 st4 ((Sv.grow s5').cx rfl rfl rfl)).mono fun v H6 ⟨s6', r6⟩ => ?_
        have s26 := (s3.trans s5').trans s6'
        have S6 := S2.grow s26
        have eqr : ∀ o, reg own (fun a => F a ∨ a = D) (upd H6 D o) = reg own (fun a => F a ∨ a = D) H6 := fun o => by
          funext a
          by_cases e : a = D
          · subst e
            unfold reg
            rw [if_pos (.inr (.inr rfl)), if_pos (.inr (.inr rfl))]
          · unfold reg
            rw [upd_ne e]
        have hal : (DpAll X.K (reg own (fun a => F a ∨ a = D) H6) acc (((xs.take i).filter k).map fun x => .int (f x))) := hacc.up (reg_up s26)
        refine ⟨acc, s26 _ _ hD2, ?_, fun a o q => ?_, _, upd_same, ?_, S6.hidden (.inr rfl) kD⟩
        · rw [dpa_len hal, List.length_map]
          refine Nat.lt_of_le_of_lt (List.length_filter_le _ _) (Nat.lt_of_le_of_lt (List.length_take_le _ _) ?_)
          exact Nat.lt_of_le_of_lt (Nat.le_trans (Nat.le_of_lt hi) hz) (by decide)
        · rw [upd_ne (nD a o q)]; exact s26 _ _ (s2 _ _ q)
        · rw [next, eqr]
          exact dpa_snoc hal r6
  · rintro H2 ⟨s2, acc, hD2, hacc, S2⟩
    rw [List.take_length] at hacc
    have e : ((xs.filter k).map fun x => PyData.int (f x)) = ((xs.filter k).map f).map .int := by rw [List.map_map]; rfl
    rw [e] at hacc
    refine ⟨s1.trans s2, D, rfl, ?_, by rw [hD2, dpa_ints hacc]⟩
    cases z : H D with
    | none => rfl
    | some o => rw [s1 _ _ z] at hD; cases hD

/-- x = [.. for .. in ..], ints; the list is the slot's own -/
theorem s_lcI (i : Nat) {x : Str} {pos' cpos : Pos} {elt tg it : Expr} {ifs : List Expr} {scope : Scope} {onm : List (Str × Nat)} {ns : List Int} (hc : X.calm = true) (hN : X.N.Nodup) (ok : BlkOk X.N X.env.scope scope onm) (h : DLi X elt tg it ifs scope (onm.map (·.2)) dl ns)
    (q : D.nx (dl.set i (.ol (ns.map .int)))) (hi : i < dl.length := by exact Nat.le_of_ble_eq_true rfl) (hx : X.N[i]? = some x := by rfl) (hl : X.env.scope.names.lookup x = some .local := by rfl)
    (hs : swapsWith (.ListComp elt [⟨tg, it, ifs, 0⟩] scope cpos) (some (.Name x pos')) pos.line X.env = pure true := by exact sw_true rfl rfl rfl (by decide +kernel)) (hf : ∀ x, foldedSetIterable it X.env x = pure x := by intro _; rfl) :
    SX X (.Assign [.Name x pos'] (.ListComp elt [⟨tg, it, ifs, 0⟩] scope cpos) pos) D dl := fun Kp F own H st S hlen => by
  refine w1_of (ps_setLc hc hN hx hl hs (piW tg it) ok pgB ptB peB hf) ?_
  show tLc _ _ _ _ _ st H _
  have z := h Kp F own H st S hlen
  have hst : i < st.length := by rw [hlen]; exact (List.getElem?_eq_some_iff.mp hx).1
  refine WI.mono z fun J H1 q1 => ?_
  intro DD hD
  obtain ⟨W, w0, w1⟩ := q1 DD hD
  refine ⟨W, w0, fun j m H2 hw => ?_⟩
  rcases w1 j m H2 hw with ⟨k1, k2, E, e1, e2, e3⟩ | k
  · refine .inl ⟨k1, dl.set i (.ol (ns.map .int)), ownS own i [E], ?_, q⟩
    refine S.chg (x := some (.ref DD)) hi (fun a o _ h => k2 a o h) (fun a ha => ?_) (set_get hst) (fun j hj => set_ne hst hj) ⟨E, _, rfl, by rw [e1], e3, ints_dpa ns⟩
    rw [List.mem_singleton.mp ha]
    exact .inr e2
  · exact .inr k
end
section
variable {P : Program} {w : World} {K : PySem.W.Frag} {mg : Str → Option Value} {base : Heap}
abbrev sd__law_begun : Stmt := top 74
abbrev N__law_begun : List Str := ["_law_script", "_law_cells_here", "_law_large", "_law_cell"]
theorem sc__law_begun : FnScope N__law_begun ["_law_script"] (defScope sd__law_begun) := ⟨rfl, rfl, rfl, by decide +kernel, rfl, by decide +kernel, by decide +kernel⟩
def absI (i : Int) : Int := if i < 0 then -i else i
theorem absI_nn (i : Int) : 0 ≤ absI i := by unfold absI; split <;> omega
/-- a new source -/
def spBegun (K : PySem.W.Frag) : Sp := fun vs H Q _ => ∃ (F : Addr → Prop) (a : Addr) (ns : List Int), vs = [.ref a] ∧ (∀ a, F a → H a ≠ none) ∧ SqL K (reg own0 F H) a (ns.map V.int) ∧ ns.length ≤ 63 ∧
  ∀ s L H', Same H H' → H s = none → H L = none → StAt K (reg own0 (hid2 F s L) H') H' s L 0 → Q (.ref s) H'
structure FnB (P : Program) (w : World) (K : PySem.W.Frag) (mg : Str → Option Value) (base : Heap) : Prop where
  ex : ∃ (f : Addr) (fd : FuncData) (ps : List Str), mg "_law_begun" = some (.ref f) ∧ PySem.W.keepIn K (.ref f) = true ∧ Binds K fd ps [] ∧ FnOk P w K mg base CX0 1 f fd ps (spBegun K)
theorem ok__law_begun (TF : TopF K mg "_law_begun" sd__law_begun) (B : Bi mg) : FnB P w K mg base := by
  obtain ⟨f, fd, hm, FF⟩ := TF.ex
  refine ⟨f, fd, ["_law_script"], hm, FF.kp, FF.binds (fun _ _ _ _ _ _ us hl => match us, hl with | [_], _ => rfl), FF.ok sc__law_begun (fun vs H Q E h => ?_) (fun cdv A outer sh H vs Q E hr h => ?_)⟩
  · obtain ⟨F, a, ns, rfl, _⟩ := h
    rfl
  · obtain ⟨F, a, ns, rfl, hF, hS, hl63, q⟩ := h
    have S0 := se_start (P := P) (w := w) (mg := mg) (base := base) (N := N__law_begun) (x := "_law_begun") (sd := sd__law_begun) (f := f) (cdv := cdv) (A := A) (outer := outer) (s := sh) (E := E) (F := F) (H := H) (vs := [.ref a]) (ts := [.p (.list (ns.map .int))]) hF (.cons (.lst hS (ints_dpa ns)) .nil)
    refine ⟨_, pssW _, ?_⟩
    have hu := hr.units
    have hN := sc__law_begun.nd
    let cells : List Int := (ns.filter fun _ => true).map absI
    let large : List Int := (cells.filter fun c => decide (1000000000000000000 ≤ c)).map fun c => c - 1000000000000000000
    have ec : ((ns.filter fun _ => true).map fun x => PyData.int (absI x)) = cells.map .int := by show _ = ((ns.filter fun _ => true).map absI).map PyData.int; rw [List.map_map]; rfl
    have hcl : cells.length ≤ 63 := by show ((ns.filter fun _ => true).map absI).length ≤ 63; rw [List.length_map, filter_tt]; exact hl63
    have hcn : ∀ x ∈ cells, 0 ≤ x := fun x hx => by
      obtain ⟨y, _, rfl⟩ := List.mem_map.mp (show x ∈ (ns.filter fun _ => true).map absI from hx)
      exact absI_nn y
    have hln : ∀ x ∈ large, 0 ≤ x := fun x hx => by
      obtain ⟨y, hy, rfl⟩ := List.mem_map.mp (show x ∈ (cells.filter fun c => decide (1000000000000000000 ≤ c)).map fun c => c - 1000000000000000000 from hx)
      have := of_decide_eq_true (List.mem_filter.mp hy).2
      omega
    let dl1 : List Sl := [.t (.p (.list (ns.map .int))), .t (.p (.list (cells.map .int))), .no, .no]
    let dl2 : List Sl := [.t (.p (.list (ns.map .int))), .t (.p (.list (cells.map .int))), .ol (large.map .int), .no]
    refine ws_step (dl' := dl1) (s_lc 1 rfl hN (blk_of (N := N__law_begun) (sc := defScope sd__law_begun) (by decide +kernel)) (dl_lc (onm := [("_law_cell", 3)]) (xs := ns) (enc := .int) (f := fun x => .int (absI x)) (k := fun _ => true) rfl hN (di_list (dv 0 rfl)) (blk_of (N := N__law_begun) (sc := defScope sd__law_begun) (by decide +kernel)) (List.all_eq_true.mp rfl) (fun _ _ _ _ _ _ _ => ⟨[3], by decide, gt_name 3 hN⟩)
      (fun _ _ _ _ _ _ _ => dts_nil) (fun _ _ _ _ _ x _ _ => d_callB c_abs (dv 3 rfl).lend B.abs_) (by omega)) (by rw [ec]; rfl)) S0 fun own1 H1 st1 S1 => ?_
    refine ws_step (dl' := dl2) (s_lcI 2 rfl hN (blk_of (N := N__law_begun) (sc := defScope sd__law_begun) (by decide +kernel)) (dl_lcI (onm := [("_law_cell", 3)]) (xs := cells) (enc := .int) (f := fun c => c - 1000000000000000000) (k := fun c => decide (1000000000000000000 ≤ c)) rfl hN (di_list (dv 1 rfl)) (blk_of (N := N__law_begun) (sc := defScope sd__law_begun) (by decide +kernel)) (List.all_eq_true.mp rfl) (fun _ _ _ _ _ _ _ => ⟨[3], by decide, gt_name 3 hN⟩)
      (fun _ _ _ _ _ x _ => dts_one (dt_cmp o_ge (dv 3 rfl).lend (d_bin (o_pow ⟨by decide, by decide, by decide⟩) d_int.lend d_int.lend).lend)) (fun _ _ _ _ _ x _ _ => d_bin o_sub (dv 3 rfl).lend (d_bin (o_pow ⟨by decide, by decide, by decide⟩) d_int.lend d_int.lend).lend) (by omega)) rfl) S1 fun own2 H2 st2 S2 => ?_
    refine ws_of (pss_one (psW _)) (w1_of (ps_ret (peW _)) ?_)
    have g2 := S2.sl 2
    obtain ⟨L, vsL, eo, ex2, hL, hal⟩ := g2
    have evl : vsL = large.map V.int := dpa_ints hal
    subst evl
    obtain ⟨cv, hcv, rc⟩ := S2.get (i := 1) (t := .p (.list (cells.map .int))) rfl
    have hLo : L ∈ own2 2 := by rw [eo]; exact List.mem_singleton.mpr rfl
    have hLn : H L = none := S2.fr 2 L hLo
    refine we_of (pe_disp (pps_cons pe_str (peW _) (pps_cons pe_str (peW _) (pps_cons pe_str (peW _) (pps_cons pe_str (peW _) pps_nil)))) rfl rfl (by simp) (by show 4 ≤ 15; decide)) ?_
    intro p hp
    refine pv_at (A := fun H' => Same (upd H2 p (.dK [])) H') (pv_var 2 (st_at ex2)) (Same.refl _) fun H3 s3 => ?_
    refine pv_at (A := fun H' => Same (upd H2 p (.dK [])) H') (pv_var 1 hcv) s3 fun H4 s4 => ?_
    refine pv_at (A := fun H' => Same (upd H2 p (.dK [])) H') pv_int (s3.trans s4) fun H5 s5 => ?_
    refine pv_at (A := fun H' => Same (upd H2 p (.dK [])) H') pv_int ((s3.trans s4).trans s5) fun H6 s6 => ?_
    have s26 := ((s3.trans s4).trans s5).trans s6
    refine ⟨s26 _ _ upd_same, [(.inr "large", .ref L), (.inr "cells", cv), (.inr "left", .int 0), (.inr "turn", .int 0)], rfl, by show 4 ≤ 15; decide, ?_⟩
    rw [merge4 kne1 kne2 kne3 kne4 kne5 kne6]
    have hpn : H p = none := by
      cases z : H p with
      | none => rfl
      | some o => rw [S2.kp _ _ z] at hp; cases hp
    have hpL : p ≠ L := fun e => by rw [e, hL] at hp; cases hp
    have up6 : ∀ x o, x ≠ p → H2 x = some o → upd H6 p (.dK [(.inr "large", .ref L), (.inr "cells", cv), (.inr "left", .int 0), (.inr "turn", .int 0)]) x = some o := fun x o hx e => by
      rw [upd_ne hx]
      exact s26 _ _ (by rw [upd_ne hx]; exact e)
    cases rc with
    | @lst c vc _ hc1 hc2 =>
      have evc : vc = cells.map V.int := dpa_ints hc2
      subst evc
      refine q p L _ (fun x o e => up6 x o (fun z => by rw [z, hpn] at e; cases e) (S2.kp _ _ e)) hpn hLn ⟨hpL, c, large, cells, 0, 0, upd_same, up6 _ _ (Ne.symm hpL) hL, sqL_mono (fun x o e => ?_) hc1, hln, by decide, by decide, by decide, hcl, hcn⟩
      obtain ⟨e1, e2, e3⟩ := reg_some e
      have hxp : x ≠ p := fun z => by rw [z, hp] at e1; cases e1
      have hxL : x ≠ L := fun z => e2 2 (by rw [z]; exact hLo)
      rw [reg_in (own := own0) (fun i z => nomatch (show x ∈ ([] : List Addr) from z)) (by rintro (z | z | z); exact e3 z; exact hxp z; exact hxL z)]
      exact up6 x o hxp e1
end
end Ac
-- part C23
set_option Elab.async false
set_option maxRecDepth 100000
set_option maxHeartbeats 4000000
set_option linter.all false
namespace Ac
open PySem PySem.Spec PyProof.Rows L2
theorem eqv_bool (a b : Bool) : PyData.eqv (.bool a) (.bool b) = decide (a = b) := by
  cases a <;> cases b <;> simp [PyData.eqv]
section
variable {X : Cx} {dl : List Sl} {p pos pos2 : Pos} {D : DK}
theorem o_eqB {i j : Bool} {A : Around} (hu : A.units + 64 < cLine) (hA : X.A = A := by rfl) : OpD X (compareOp .Eq) (.p (.bool i)) (.p (.bool j)) (.p (.bool (decide (i = j)))) := by
  subst hA
  have := o_eq (X := X) hu ((lay_bool i).sh (by omega)) ((lay_bool j).sh (by omega))
  rwa [eqv_bool] at this
theorem o_neB {i j : Bool} {A : Around} (hu : A.units + 64 < cLine) (hA : X.A = A := by rfl) : OpD X (compareOp .NotEq) (.p (.bool i)) (.p (.bool j)) (.p (.bool (!decide (i = j)))) := by
  subst hA
  have := o_ne (X := X) hu ((lay_bool i).sh (by omega)) ((lay_bool j).sh (by omega))
  rwa [eqv_bool] at this
/-- x = _law_begun(y) -/
theorem s_begun (i j : Nat) {x y : Str} {pos' sp : Pos} {ns : List Int} {k' : Nat} {P : Program} {w : World} {K : PySem.W.Frag} {mg : Str → Option Value} {base : Heap} {A : Around} (hN : X.N.Nodup) (G : FnB P w K mg base) (hr : Room k' A) (hd : dl.getD j .no = .t (.p (.list (ns.map .int)))) (h63 : ns.length ≤ 63) (q : ∀ s L, D.nx (dl.set i (.st s L 0)))
    (hk : 1 ≤ k' := by decide) (hP : X.prog = P := by rfl) (hw : X.w = w := by rfl) (hK : X.K = K := by rfl) (hm : X.mg = mg := by rfl) (hb : X.base = base := by rfl) (hA : X.A = A := by rfl) (hg : Gl X "_law_begun" := by rfl)
    (hNj : X.N[j]? = some y := by rfl) (hv : Vis X.env.scope y := by first | exact Or.inl rfl | exact Or.inr (Or.inl rfl)) (h1 : (y == ("__debug__" : Str)) = false := by decide) (h2 : (y == ("__classdict__" : Str)) = false := by decide)
    (he : starEach [Expr.Name y sp] X.env = (false, eval (.Name y sp) X.env) :: starEach [] X.env := by rfl) (hpl : (backTo pos2 (starEach [] X.env)).any (·.1) = false := by rfl)
    (hi : i < dl.length := by exact Nat.le_of_ble_eq_true rfl) (hx : X.N[i]? = some x := by rfl) (hl : Loc X.env.scope x := by first | exact .inl rfl | exact .inr rfl)
    (hs : swapsWith (.Call (.Name "_law_begun" p) [.Name y sp] [] pos2) (some (.Name x pos')) pos.line X.env = pure false := by rfl) (hfn : X.fn x = true ∨ X.env.scope.names.lookup x = some .local := by first | exact .inl rfl | exact .inr rfl) :
    SX X (.Assign [.Name x pos'] (.Call (.Name "_law_begun" p) [.Name y sp] [] pos2) pos) D dl := fun Kp F own H st S hlen => by
  subst hP hw hK hm hb hA
  obtain ⟨f, fd, ps, hm, hkp, hb, G⟩ := G.ex
  refine w1_of (ps_set hN hx hl (pe_call G (hr.mono hk) hg hm hkp hb .nil pass0 (pa_cons (pe_var (i := j) hNj hv h1 h2) pa_nil he) (by decide) he hpl) hs hfn) ?_
  have hst : i < st.length := by rw [hlen]; exact (List.getElem?_eq_some_iff.mp hx).1
  obtain ⟨v, ev, rv⟩ := S.get hd
  cases rv with
  | @lst a vs _ g1 g2 =>
    have evs : vs = ns.map V.int := dpa_ints g2
    subst evs
    refine ⟨_, ev, ?_⟩
    show spBegun X.K [V.ref a] H (fun x H1 => gName i x st H1 (conc X Kp F D).nx) E0
    refine ⟨fun a => (∃ i, a ∈ own i) ∨ F a, a, ns, rfl, fun a h => ?_, by rw [reg_merge]; exact g1, h63, fun s L H' s1 hs hL hS => ⟨dl.set i (.st s L 0), ownS own i [s, L], S.chg (x := some (.ref s)) hi (fun a o _ h => s1 a o h) (fun a ha => ?_) (set_get hst) (fun j hj => set_ne hst hj) ⟨rfl, rfl, ?_⟩, q s L⟩⟩
    · rcases h with ⟨j, h⟩ | h
      · exact S.there h
      · exact S.fn a h
    · simp only [List.mem_cons, List.not_mem_nil, or_false] at ha
      rcases ha with rfl | rfl
      · exact .inr hs
      · exact .inr hL
    · obtain ⟨h0, c, la, ce, le, tu, h3, h4, h5, h6⟩ := hS
      refine ⟨h0, c, la, ce, le, tu, h3, h4, sqL_mono (fun z o e => ?_) h5, h6⟩
      obtain ⟨e1, _, e3⟩ := reg_some e
      have n1 : ∀ j, z ∉ own j := fun j hz => e3 (.inl (.inl ⟨j, hz⟩))
      have n2 : ¬ F z := fun hz => e3 (.inl (.inr hz))
      rw [reg_in (fun j hz => ?_) n2]
      · exact e1
      · by_cases ej : j = i
        · subst ej
          rw [ownS_same] at hz
          simp only [List.mem_cons, List.not_mem_nil, or_false] at hz
          rcases hz with e | e
          · exact e3 (.inr (.inl e))
          · exact e3 (.inr (.inr e))
        · rw [ownS_ne ej] at hz
          exact n1 j hz
end
section
variable {P : Program} {w : World} {K : PySem.W.Frag} {mg : Str → Option Value} {base : Heap}
abbrev sd_law : Stmt := top 97
abbrev N_law : List Str := ["_law_script", "_law_state", "_law_turn", "_law_table_here", "_law_box", "_law_tops_here", "_law_most", "_law_barred_here", "_law_base", "_law_paper", "_law_plan", "_law_lap"]
theorem sc_law : FnScope N_law ["_law_script"] (defScope sd_law) := ⟨rfl, rfl, rfl, by decide +kernel, rfl, by decide +kernel, by decide +kernel⟩
/-- a def by its body, its object told -/
theorem fn_ok {x : Str} {sd : Stmt} {N ps : List Str} {k : Nat} {I : Type} {arg : I → List T} {ok : I → Prop} {res : I → T} {f : Addr} {fd : FuncData} (FF : Fun K x x sd f fd) (S : FnScope N ps (defScope sd)) (hlen : ∀ i, (arg i).length = ps.length)
    (hb : ∀ (f : Addr) (cdv : Value) (A : Around) (outer : List Env) (s : Shared) (H : Hp) (E : XK) (i : I), Room k (CB P w K mg base N x sd f cdv A outer s H E).A → ok i →
      SW (CB P w K mg base N x sd f cdv A outer s H E) (defBody sd) ⟨fun _ => res i = .p .none, fun t _ => t = res i, fun _ => False, fun _ => False⟩ (dl0 (arg i) N.length)) :
    FnOk P w K mg base CX0 (k + 1) f fd ps (spT w K mg arg ok res) := by
  refine FF.ok S (fun vs H Q E h => ?_) (fun cdv A outer s H vs Q E hr h => ?_)
  · obtain ⟨F, i, _, hr, _⟩ := h
    rw [hr.len, hlen]
  · obtain ⟨F, i, hF, hrt, hok, q⟩ := h
    have S0 := se_start (P := P) (base := base) (N := N) (x := x) (sd := sd) (f := f) (cdv := cdv) (A := A) (outer := outer) (s := s) (E := E) hF hrt
    refine ⟨_, pssW _, ?_⟩
    have fin : ∀ (dl1 : List Sl) (own1 : Nat → List Addr) (H' : Hp) (st1 : L2.St), SE (CB P w K mg base N x sd f cdv A outer s H E) H F dl1 own1 H' st1 → Same (reg own1 F H') (reg own0 F H') := fun dl1 own1 H' st1 S' => reg_mono fun a o h1 h2 h3 => ⟨h3, fun i z => (nomatch z), h2⟩
    refine (hb f cdv A outer s H E i hr hok H F own0 H (L2.start N vs) S0).mono (fun σ' H' ⟨dl1, own1, S', e⟩ => ?_) (fun v H' ⟨t, dl1, own1, st1, S', r1, e⟩ => ?_) (fun _ _ ⟨_, _, _, z⟩ => z.elim) (fun _ _ ⟨_, _, _, z⟩ => z.elim)
    · exact q .non H' S'.kp (by rw [e]; exact Dp.non)
    · subst e
      exact q v H' S'.kp (r1.up (fin dl1 own1 H' st1 S'))
abbrev spLaw (w : World) (K : PySem.W.Frag) (mg : Str → Option Value) : Sp := spT w K mg (fun ns : List Int => [.p (.list (ns.map .int))]) (fun ns => ns.length ≤ 63) (fun _ => .p (.bool true))
def cLaw (s0 L : Addr) (ns : List Int) (n : Nat) : List Sl := [.t (.p (.list (ns.map .int))), .st s0 L n, .no, .no, .no, .no, .no, .no, .no, .no, .no, .no]
noncomputable def cLawK (s0 L : Addr) (ns : List Int) (d : PyData) (x : Tab) (bar : List Way) (ks : List Way) (n : Nat) : List Sl := [.t (.p (.list (ns.map .int))), .st s0 L n, .t (.p d), .t x.t, .t x.b.t_, .t (.p (.tuple (x.fr.map tupI))), .t (.p (.int x.most)), .t (.p (.tuple (bar.map pWay))), .t (.p (.tuple (ks.map pWay))), .no, .t (.dic (dk kWP pWay (planOf (x.gm bar).g ks))), .no]
noncomputable def cLawD (s0 L : Addr) (ns : List Int) (d : PyData) (x : Tab) (bar : List Way) (l : List (Way × (Nat × Ask))) (n : Nat) : List Sl := [.t (.p (.list (ns.map .int))), .st s0 L n, .t (.p d), .t x.t, .t x.b.t_, .t (.p (.tuple (x.fr.map tupI))), .t (.p (.int x.most)), .t (.p (.tuple (bar.map pWay))), .no, .t (Tlost l), .no, .no]
theorem ok_law {f : Addr} {fd : FuncData} (FF : Fun K "law" "law" sd_law f fd) (B : Bi mg) (GB : FnB P w K mg base) (G1 : F_law_table P w K mg base) (G2 : F_law_made P w K mg base) (G3 : F_law_barred P w K mg base) (G4 : Fgreatest_keeping P w K mg base) (G5 : Fdoom P w K mg base) (G6 : Fstrategy P w K mg base) (G7 : Fis_keeping P w K mg base) (G8 : Fis_doom P w K mg base)
    (G9 : F_law_answered P w K mg base) (G10 : F_law_doomed P w K mg base) : FnOk P w K mg base CX0 12 f fd ["_law_script"] (spLaw w K mg) := by
  refine fn_ok FF sc_law (fun _ => rfl) fun f cdv A outer s H E i hr hok => ?_
  have hu := hr.units
  have hu5 := hr.u65
  have hN := sc_law.nd
  have h63 : i.length ≤ 63 := hok
  refine sw_cons (s_begun 1 0 hN GB hr rfl h63 fun s0 L => ?_)
  have hrl : ((2 + (if (2 : Int) < ((i.map PyData.int).length : Int) then 2 else ((i.map PyData.int).length : Int))).toNat) ≤ 4 := by
    split <;> omega
  refine sw_for (S := Nat) (di_range1 (d_bin o_add d_int.lend (d_min2 rfl (d_len (k := true) (dv 0 rfl) rfl B.len_) d_int B.min_).lend) (by split <;> omega) (by split <;> omega) B.range_) (cLaw s0 L i) (fun j n => n ≤ 3000 * j ∧ j ≤ 4) 0 (.refl _) ⟨Nat.le_refl _, by omega⟩ (fun j d n hd hn => ?_) (fun n hn => ?_)
  · obtain ⟨n1, n2⟩ := hn
    have hj : j < 4 := by
      have := (List.getElem?_eq_some_iff.mp hd).1
      rw [rgD_len] at this
      omega
    refine ⟨[2], _, gt_name 2 hN, ?_⟩
    refine sw_cons (s_asgE 3 hN (e_call 1 () G1 hr rfl (da_cons d_int da_nil) True.intro (by show n + 500 ≤ _; omega) fun t ht => ?_))
    obtain ⟨x, rfl, tab⟩ := ht
    refine ⟨Nat.le_of_ble_eq_true rfl, ?_⟩
    have hb : BxOk x.b := sco_box tab.sco
    refine sw_cons (s_tupE (is := [4, 5, 6, 7]) rfl (gns_cons 4 hN (gns_cons 5 hN (gns_cons 6 hN (gns_cons 7 hN gns_nil)))) (evs_pure (d_cl G2 hr x.b (da_cons (d_tbSc hu (dv 3 rfl)) da_nil) hb) (evs_pure (d_tbT hu (dv 3 rfl)) (evs_pure (d_tbM hu (dv 3 rfl)) (evs_cons (e_call 1 x G3 hr rfl (da_cons (dv 3 rfl) da_nil) tab (by show n + 500 + 300 ≤ _; omega) fun t ht => evs_nil ?_))))))
    obtain ⟨bar, rfl, hbar⟩ := ht
    refine ⟨rfl, by show 4 ≤ 100; omega, fun j hj => ?_, ?_⟩
    · simp only [List.mem_cons, List.not_mem_nil, or_false] at hj
      rcases hj with rfl | rfl | rfl | rfl <;> exact ⟨Nat.le_of_ble_eq_true rfl, Nat.le_of_ble_eq_true rfl⟩
    have hin : GmIn (x.gm bar) := tab_in tab hbar
    have gok : GmOk w (x.gm bar) := tab_ok tab hbar w
    refine sw_cons (s_par 8 9 rfl hN (dfs_val (d_cl G4 hr (x.gm bar) (da_cons (dv 4 rfl) (da_cons (dv 5 rfl) (da_cons (dv 6 rfl) (da_cons (dv 7 rfl) da_nil)))) gok) (dfs_val (d_cl G5 hr (x.gm bar) (da_cons (dv 4 rfl) (da_cons (dv 5 rfl) (da_cons (dv 6 rfl) (da_cons (dv 7 rfl) da_nil)))) gok) dfs_nil)) ?_)
    have hplan : ∀ ks, keptOf (x.gm bar).g = some ks → PlanOk (x.gm bar).g ks := fun ks hk => kept_planOk hin hk
    rcases either hin with ⟨ks, hk, hdn, hnb⟩ | ⟨hk, l, hd2, hcase⟩
    · rw [hk, hdn]
      refine sw_cons (s_ifNo (dw_or (dt_cmp (o_eqB hu) (d_cmp o_isN (dv 8 rfl).lend d_non.lend).lend (d_cmp o_isN (dv 9 rfl).lend d_non.lend).lend) fun _ => dw_or1 (dt_cmp (o_neB hu) (d_cmp o_isN (d_cl G6 hr (x.gm bar) (da_cons (dv 4 rfl) (da_cons (dv 5 rfl) (da_cons (dv 6 rfl) (da_cons (dv 7 rfl) da_nil)))) ⟨gok, hplan⟩).lend d_non.lend).lend (d_cmp o_isN (dv 8 rfl).lend d_non.lend).lend)).test (by rw [hk]; rfl) ?_)
      refine sw_one (s_ifYes (dt_cmp o_notN (dv 8 rfl).lend d_non.lend) rfl ?_)
      refine sw_cons (s_ifNo (dw_or (dt_cmp o_notBl (d_cl G7 hr (x.gm bar, ks) (da_cons (dv 4 rfl) (da_cons (dv 5 rfl) (da_cons (dv 6 rfl) (da_cons (dv 7 rfl) (da_cons (dv 8 rfl) da_nil))))) ⟨gok, kept_st hin hk, (kept_iff hin hk).2.1, kept_few hin hk, kept_nil hin hk, fun v hv => (((kept_iff hin hk).2.2 v).mp hv).2.1, kept_held hin hk⟩).lend d_bl.lend) fun _ =>
        dw_or1 (dt_val (d_cl G8 hr (x.gm bar, [], false) (da_cons (dv 4 rfl) (da_cons (dv 5 rfl) (da_cons (dv 6 rfl) (da_cons (dv 7 rfl) (da_cons d_dnew da_nil))))) ⟨gok, .inr (.inr ⟨hnb, rfl, rfl⟩)⟩))).test rfl ?_)
      refine sw_cons (s_asg 10 hN ((d_cl G6 hr (x.gm bar) (da_cons (dv 4 rfl) (da_cons (dv 5 rfl) (da_cons (dv 6 rfl) (da_cons (dv 7 rfl) da_nil)))) ⟨gok, hplan⟩).is (u := .dic (dk kWP pWay (planOf (x.gm bar).g ks))) (by rw [hk]; rfl)) ?_)
      refine sw_for (S := Nat) (ds := rgD 0 2) (di_range1 (d_int (i := 2)) (by decide) (by decide) B.range_) (cLawK s0 L i d x bar ks) (fun k n' => n' ≤ n + 800 + 40 * k ∧ k ≤ 2) (n + 500 + 300) (Wk.of [9] rfl) ⟨by omega, by omega⟩ (fun k d2 n' hd2 hn' => ?_) (fun n' hn' => ?_)
      · obtain ⟨m1, m2⟩ := hn'
        have hk2 : k < 2 := by
          have := (List.getElem?_eq_some_iff.mp hd2).1
          rw [rgD_len] at this
          exact this
        refine ⟨[11], _, gt_name 11 hN, ?_⟩
        refine sw_one (s_ifE (et_not (et_val (e_call 1 (x, bar, ks) G9 hr rfl (da_cons (dv 3 rfl) (da_cons (dv 4 rfl) (da_cons (dv 7 rfl) (da_cons (dv 8 rfl) (da_cons (dv 10 rfl) da_nil))))) ⟨tab, hbar, hk⟩ (by show n' + 40 ≤ _; omega) fun t ht => ?_))))
        refine ⟨true, ht, fun h => (nomatch h), fun _ => sw_nil ⟨n' + 40, Wk.of [11] rfl, by omega, by omega⟩⟩
      · rw [rgD_len] at hn'
        exact sw_nil ⟨n', Wk.of [2, 3, 4, 5, 6, 7, 8, 9, 10, 11] rfl, by omega, by omega⟩
    · rw [hk, hd2]
      have hpc : PaperCase (x.gm bar) l := doom_case hin hd2 hcase
      refine sw_cons (s_ifNo (dw_or (dt_cmp (o_eqB hu) (d_cmp o_isN (dv 8 rfl).lend d_non.lend).lend (d_cmp o_isN (dv 9 rfl).lend d_non.lend).lend) fun _ => dw_or1 (dt_cmp (o_neB hu) (d_cmp o_isN (d_cl G6 hr (x.gm bar) (da_cons (dv 4 rfl) (da_cons (dv 5 rfl) (da_cons (dv 6 rfl) (da_cons (dv 7 rfl) da_nil)))) ⟨gok, hplan⟩).lend d_non.lend).lend (d_cmp o_isN (dv 8 rfl).lend d_non.lend).lend)).test (by rw [hk]; rfl) ?_)
      refine sw_one (s_if (dt_cmp o_notN (dv 8 rfl).lend d_non.lend) (fun h => (nomatch h)) fun _ => ?_)
      refine sw_cons (s_ifNo (dt_cmp o_notBl (d_cl G8 hr (x.gm bar, l, true) (da_cons (dv 4 rfl) (da_cons (dv 5 rfl) (da_cons (dv 6 rfl) (da_cons (dv 7 rfl) (da_cons (dv 9 rfl) da_nil))))) ⟨gok, hcase.elim (fun h => .inl ⟨h.1, h.2, rfl⟩) fun h => .inr (.inl ⟨h.1, h.2, rfl⟩)⟩).lend d_bl.lend) rfl ?_)
      refine sw_for (S := Nat) (ds := rgD 0 3) (di_range1 (d_int (i := 3)) (by decide) (by decide) B.range_) (cLawD s0 L i d x bar l) (fun k n' => n' ≤ n + 800 + 300 * k ∧ k ≤ 3) (n + 500 + 300) (Wk.of [8] rfl) ⟨by omega, by omega⟩ (fun k d2 n' hd2 hn' => ?_) (fun n' hn' => ?_)
      · obtain ⟨m1, m2⟩ := hn'
        have hk2 : k < 3 := by
          have := (List.getElem?_eq_some_iff.mp hd2).1
          rw [rgD_len] at this
          exact this
        refine ⟨[11], _, gt_name 11 hN, ?_⟩
        refine sw_one (s_ifE (et_not (et_val (e_call 1 (x, bar, l) G10 hr rfl (da_cons (dv 3 rfl) (da_cons (dv 4 rfl) (da_cons (dv 7 rfl) (da_cons (dv 9 rfl) da_nil)))) ⟨tab, hbar, hpc⟩ (by show n' + 300 ≤ _; omega) fun t ht => ?_))))
        refine ⟨true, ht, fun h => (nomatch h), fun _ => sw_nil ⟨n' + 300, Wk.of [11] rfl, by omega, by omega⟩⟩
      · rw [rgD_len] at hn'
        exact sw_nil ⟨n', Wk.of [2, 3, 4, 5, 6, 7, 8, 9, 10, 11] rfl, by omega, by omega⟩
  · exact sw_one (s_ret d_bl rfl)
end
end Ac
-- part H0
set_option Elab.async false
set_option linter.all false
set_option maxRecDepth 100000
set_option maxHeartbeats 0
/-! Ac: the head: the top by one kernel run, the facts by names. -/
namespace Ac
open PySem PySem.Spec PyProof.Rows L2
def nm0 : List PySem.Str := ["CallError", "BadAsking", "BadBarred", "BadBox", "BadFrame", "BadMoves", "BadSides", "BadStanding", "BadSwitches", "BadTracks", "TooMany", "LEAST_SIDES", "MOST_SIDES", "MOST_TRACKS", "is_number", "is_between", "is_pin", "is_switch", "is_rising", "Box", "need_sides", "need_tracks", "need_box", "pairs_of", "MOST_WIRES", "MOST_MOVES", "MOST_STANDINGS", "is_load_of", "is_below", "is_of"]
def nm1 : List PySem.Str := ["greatest_of", "is_frame_of", "need_frame", "need_moves", "sides_of", "load_of", "pins_of", "is_way_of", "is_standing_of", "need_standing", "standings_up_to", "load_with", "askings_at", "askings", "is_asking_at", "moved_in", "left_by", "answers_at", "ways_of", "answers", "are_standings", "need_game", "by_loads", "answered", "game_of", "ranked", "kept_in", "greatest_keeping", "is_held", "is_keeping_of"]
def nm2 : List PySem.Str := ["is_keeping", "strategy", "doom_in", "doom", "is_row", "does_fall", "is_doom_of", "is_doom", "_law_begun", "_law_draw", "_law_pick", "_law_mixed", "_law_pairs", "_law_mate", "_law_joined", "_law_few", "_law_scope", "_law_made", "_law_pins", "_law_load", "_law_under", "_law_tops", "_law_all_ways", "_law_is_of", "_law_stands", "_law_tops_drawn", "_law_table", "_law_under_count", "_law_barred", "_law_answered"]
def nm3 : List PySem.Str := ["_law_doomed"]
def names : List PySem.Str := nm0 ++ nm1 ++ nm2 ++ nm3
def dp0 : List (Str × Nat) := [("is_number", 16), ("is_between", 17), ("is_pin", 18), ("is_switch", 19), ("is_rising", 20), ("need_sides", 22), ("need_tracks", 23), ("need_box", 24), ("pairs_of", 25), ("is_load_of", 30), ("is_below", 31), ("is_of", 32), ("greatest_of", 33), ("is_frame_of", 34), ("need_frame", 35), ("need_moves", 36), ("sides_of", 37), ("load_of", 38), ("pins_of", 39), ("is_way_of", 40), ("is_standing_of", 41), ("need_standing", 42), ("standings_up_to", 43), ("load_with", 44), ("askings_at", 45), ("askings", 46), ("is_asking_at", 47), ("moved_in", 48), ("left_by", 49), ("answers_at", 50)]
def dp1 : List (Str × Nat) := [("ways_of", 51), ("answers", 52), ("are_standings", 54), ("need_game", 55), ("by_loads", 56), ("answered", 57), ("game_of", 58), ("ranked", 59), ("kept_in", 60), ("greatest_keeping", 61), ("is_held", 62), ("is_keeping_of", 63), ("is_keeping", 64), ("strategy", 65), ("doom_in", 67), ("doom", 68), ("is_row", 69), ("does_fall", 70), ("is_doom_of", 71), ("is_doom", 72), ("_law_begun", 74), ("_law_draw", 75), ("_law_pick", 76), ("_law_mixed", 77), ("_law_pairs", 78), ("_law_mate", 79), ("_law_joined", 80), ("_law_few", 81), ("_law_scope", 82), ("_law_made", 83)]
def dp2 : List (Str × Nat) := [("_law_pins", 84), ("_law_load", 85), ("_law_under", 86), ("_law_tops", 87), ("_law_all_ways", 88), ("_law_is_of", 89), ("_law_stands", 90), ("_law_tops_drawn", 91), ("_law_table", 92), ("_law_under_count", 93), ("_law_barred", 94), ("_law_answered", 95), ("_law_doomed", 96), ("law", 97)]
def dps : List (Str × Nat) := dp0 ++ dp1 ++ dp2
def bis : List Str := ["isinstance", "int", "bool", "tuple", "str", "dict", "len", "all", "any", "range", "zip", "list", "sorted", "set", "sum", "max", "min", "abs", "enumerate"]
def nus : List (Str × Int) := [("LEAST_SIDES", 2), ("MOST_SIDES", 5), ("MOST_TRACKS", 6), ("MOST_WIRES", 99), ("MOST_MOVES", 20), ("MOST_STANDINGS", 5000)]
def mkD (p : Str × Nat) : He.DefD := ⟨(p.1, none), p.1, p.1, defArgs (top p.2), defBody (top p.2), defScope (top p.2), [], []⟩
def boxD : He.DefD := ⟨("Box", some "__init__"), "__init__", "Box.__init__", defArgs sd_Box, defBody sd_Box, defScope sd_Box, [], []⟩
def fnL : List He.DefD := boxD :: dps.map mkD
def faL : List He.Fa := [.glo "Box", .cls "Box", .noat "Box" "sides", .noat "Box" "tracks", .noat "Box" "switches", .mkr "Box"] ++ (dps.map fun p => He.Fa.glo p.1) ++ (bis.map He.Fa.free) ++ nus.map fun p => He.Fa.int p.1 p.2
def boxIB (K : PySem.W.Frag) : Bool := He.eqO (PySem.W.findIn K (.ref (He.ga K "Box")) "__class__") (some (some (.builtin "object.__class__"))) && (He.eqO (PySem.W.specialIn K (.builtin "object.__class__") "__get__") (some (some (.builtin "getset_descriptor.__get__"))) &&
  (decide (PySem.W.takesIn K (.builtin "object.__class__") = some true) && decide (PySem.W.mroIn K (He.ga K "Box") (.type "object") = some true)))
/-- what of the heap is looked at: the module's names, classes' and functions' own parts -/
def refsL (o : Obj) : List Addr := match o.data with
  | .dict es _ => es.toList.flatMap fun e => He.refV e.val
  | .func fd => He.refV fd.code
  | .cls cd => cd.ns :: cd.mro.flatMap He.refV
  | _ => []
def stepL (g : Addr → Option Obj) (as : List Addr) : List Addr := as.flatMap fun a => match g a with
  | some o => refsL o
  | none => []
def asL (g : Addr → Option Obj) : Nat → List Addr → List Addr
  | 0, as => as
  | n + 1, as => as ++ asL g n (stepL g as)
def frL (g : Addr → Option Obj) : PySem.W.Frag := He.frG g (asL g 4 [mainGlobals])
def obsB (fa : List He.Fa) (fn : List He.DefD) (ex : PySem.W.Frag → Bool) (g : Addr → Option Obj) : He.AlD × Bool := (fun K => (He.obsD fa fn K, ex K)) (frL g)
def hookB (fa : List He.Fa) (fn : List He.DefD) (ex : PySem.W.Frag → Bool) : PySem.W.Hook where
  α := He.AlD × Bool
  obs := fun s => obsB fa fn ex s.heap.get?
  val := fun _ => (He.valD fn, true)
  says := fun _ h => ∃ K : PySem.W.Frag, K.In h ∧ He.SaysD fa fn K ∧ ex K = true
  of := fun _ _ e => ⟨_, He.frG_in, congrArg (fun z : He.AlD × Bool => z.1) e, congrArg (fun z : He.AlD × Bool => z.2) e⟩
  keeps := fun _ _ _ ⟨K, hK, c⟩ k => ⟨K, PySem.W.Frag.In.keeps hK k, c⟩
theorem obsB_eq {fa : List He.Fa} {fn : List He.DefD} {ex : PySem.W.Frag → Bool} {g : Addr → Option Obj} {s : Shared} (h : ∀ a, g a = s.heap.get? a) : obsB fa fn ex g = (hookB fa fn ex).obs s := by
  have e : g = s.heap.get? := funext h
  rw [e] <;> rfl
abbrev Rw : PySem.W.OpenRow := PySem.W.OpenLaw.row PySem.Challenge.rw_allcalls_k34_whole_askers_and_answerers
abbrev hkB : PySem.W.Hook := hookB faL fnL boxIB
def obL (s : PySem.W.SharedT) : He.AlD × Bool := obsB faL fnL boxIB (HandSHeadRun.getT s)
theorem obL_eq (s : PySem.W.SharedT) : obL s = hkB.obs s.abs := obsB_eq (HandSHeadRun.getT_eq s)
abbrev qL : Program := PySem.W.view Rw.prog [97]
section
open PySem.W PySem.Calls
/-- the run, and what it leaves as it should be -/
theorem runA (w : World) (os : OsState) : (HandSHeadRun.endF (HandSHeadRun.stepQ (HandSHeadRun.denQ HandSHeadRun.tabQ) Rw.prog w) 20000 Rw.prog w os).map (fun s => (HandSHeadRun.looksF Rw.prog (boot_heap w.params) s.abs, HandSHeadRun.seenQ qL names (importedModules Rw.prog.main.body) (fun s => xlAt qL [] s && recOk Rw.toRowW.records s) s.abs)) = some (true, openGood qL names) := by
  kernel_rfl
end
/-- the run, and what the names stand for -/
theorem runB (w : World) (os : OsState) : (HandSHeadRun.endF (HandSHeadRun.stepQ (HandSHeadRun.denQ HandSHeadRun.tabQ) Rw.prog w) 20000 Rw.prog w os).map (fun s => obL s) = some (hkB.val w) := by
  kernel_rfl
theorem map_both {α β γ δ : Type} {o : Option α} {f : α → β × γ} {g : α → δ} {b : β} {c : γ} {d : δ} (h1 : o.map f = some (b, c)) (h2 : o.map g = some d) : o.map (fun s => ((f s).1, (f s).2, g s)) = some (b, c, d) := by
  cases o with
  | none => cases h1
  | some a =>
    have e1 : f a = (b, c) := by simpa using h1
    have e2 : g a = d := by simpa using h2
    show some ((f a).1, (f a).2, g a) = some (b, c, d)
    rw [e1, e2]
theorem runL (w : World) : HandSHeadRun.RunEq Rw (PySem.W.view Rw.prog [97]) hkB obL 20000 names w := fun os => map_both (runA w os) (runB w os)
end Ac
-- part H9
set_option Elab.async false
set_option linter.all false
set_option maxRecDepth 100000
set_option maxHeartbeats 0
/-! Ac: the end. -/
namespace Ac
open PySem PySem.Spec PyProof.Rows L2
section
variable {K : PySem.W.Frag} {h : Heap} {mg : Str → Option Value}
theorem fun_of {x q : Str} {st : Stmt} {f : Addr} {fd : FuncData} (F : FunD K x q (defArgs st) (defBody st) (defScope st) [] [] f fd) : Fun K x q st f fd := by
  obtain ⟨⟨oc, od, dV, kV, doc, pm, an, cdv, ct, osl, e1, e2, e3, e4, _⟩, kp⟩ := F
  rcases e4 with ⟨_, rfl⟩ | ⟨e, _⟩
  · exact ⟨⟨oc, od, kV, doc, pm, an, cdv, ct, osl, e1, e2, e3⟩, kp⟩
  · exact absurd rfl e
theorem fact_in (c : He.SaysD faL fnL K) {f : He.Fa} (h : f ∈ faL) : f.ok K = true := by
  obtain ⟨i, hi, e⟩ := List.mem_iff_getElem.mp h
  exact c.fact i (f := f) (by rw [List.getElem?_eq_getElem hi, e])
theorem def_in (c : He.SaysD faL fnL K) {d : He.DefD} (h : d ∈ fnL) : ∃ fd, FunD K d.name d.qual d.params d.body d.scope (d.dvs K) (d.kws K) (He.fAd K d.at_) fd := by
  obtain ⟨i, hi, e⟩ := List.mem_iff_getElem.mp h
  exact c.def_ i (d := d) (by rw [List.getElem?_eq_getElem hi, e])
theorem box_mem {f : He.Fa} (h : f ∈ [He.Fa.glo "Box", .cls "Box", .noat "Box" "sides", .noat "Box" "tracks", .noat "Box" "switches", .mkr "Box"]) : f ∈ faL := List.mem_append_left _ (List.mem_append_left _ (List.mem_append_left _ h))
theorem glo_mem {p : Str × Nat} (h : p ∈ dps) : He.Fa.glo p.1 ∈ faL := List.mem_append_left _ (List.mem_append_left _ (List.mem_append_right _ (List.mem_map.mpr ⟨p, h, rfl⟩)))
theorem free_mem {x : Str} (h : x ∈ bis) : He.Fa.free x ∈ faL := List.mem_append_left _ (List.mem_append_right _ (List.mem_map.mpr ⟨x, h, rfl⟩))
theorem int_mem {p : Str × Int} (h : p ∈ nus) : He.Fa.int p.1 p.2 ∈ faL := List.mem_append_right _ (List.mem_map.mpr ⟨p, h, rfl⟩)
theorem topF_of (X : K.In h) (G : h.Ns mainGlobals mg) (c : He.SaysD faL fnL K) {p : Str × Nat} (hp : p ∈ dps) : TopF K mg p.1 (top p.2) := by
  obtain ⟨fd, F⟩ := def_in c (d := mkD p) (List.mem_cons_of_mem _ (List.mem_map.mpr ⟨p, hp, rfl⟩))
  exact ⟨He.ga K p.1, fd, He.glo_ok X G (fact_in c (glo_mem hp)), fun_of F⟩
theorem bi_of (X : K.In h) (G : h.Ns mainGlobals mg) (c : He.SaysD faL fnL K) : Bi mg := by
  have fr : ∀ (i : Nat) (x : Str), bis[i]? = some x → mg x = none := fun i x e => He.free_ok X G (fact_in c (free_mem (List.mem_of_getElem? e)))
  exact ⟨fr 0 _ rfl, fr 1 _ rfl, fr 2 _ rfl, fr 3 _ rfl, fr 4 _ rfl, fr 5 _ rfl, fr 6 _ rfl, fr 7 _ rfl, fr 8 _ rfl, fr 9 _ rfl, fr 10 _ rfl, fr 11 _ rfl, fr 12 _ rfl, fr 13 _ rfl, fr 14 _ rfl, fr 15 _ rfl, fr 16 _ rfl, fr 17 _ rfl, fr 18 _ rfl⟩
theorem nu_of (X : K.In h) (G : h.Ns mainGlobals mg) (c : He.SaysD faL fnL K) : Nu mg := by
  have fr : ∀ (i : Nat) (x : Str) (n : Int), nus[i]? = some (x, n) → ∃ t, mg x = some (.int n t) := fun i x n e => He.int_ok X G (fact_in c (int_mem (List.mem_of_getElem? e)))
  exact ⟨fr 0 _ _ rfl, fr 1 _ _ rfl, fr 2 _ _ rfl, fr 3 _ _ rfl, fr 4 _ _ rfl, fr 5 _ _ rfl⟩
theorem box_at (X : K.In h) (G : h.Ns mainGlobals mg) (c : He.SaysD faL fnL K) : mg "Box" = some (.ref (He.ga K "Box")) := He.glo_ok X G (fact_in c (box_mem (List.mem_of_getElem? (i := 0) rfl)))
theorem box_C (X : K.In h) (G : h.Ns mainGlobals mg) (c : He.SaysD faL fnL K) {C : Addr} (e : mg "Box" = some (.ref C)) : C = He.ga K "Box" := by
  have := (box_at X G c).symm.trans e
  injection this with e1
  injection e1 with e2
  exact e2.symm
theorem boxK_of (X : K.In h) (G : h.Ns mainGlobals mg) (c : He.SaysD faL fnL K) (ex : boxIB K = true) : BoxK K mg := by
  refine ⟨fun C hC => ?_, fun C hC => ?_, _, box_at X G c⟩
  · rw [box_C X G c hC]
    exact ⟨He.cls_ok (fact_in c (box_mem (List.mem_of_getElem? (i := 1) rfl))), He.noat_ok (fact_in c (box_mem (List.mem_of_getElem? (i := 2) rfl))), He.noat_ok (fact_in c (box_mem (List.mem_of_getElem? (i := 3) rfl))), He.noat_ok (fact_in c (box_mem (List.mem_of_getElem? (i := 4) rfl)))⟩
  · rw [box_C X G c hC]
    obtain ⟨e1, ex⟩ := He.ba ex
    obtain ⟨e2, ex⟩ := He.ba ex
    obtain ⟨e3, e4⟩ := He.ba ex
    exact ⟨He.eqO_ok e1, He.eqO_ok e2, of_decide_eq_true e3, of_decide_eq_true e4⟩
theorem boxM_of (X : K.In h) (G : h.Ns mainGlobals mg) (c : He.SaysD faL fnL K) : BoxM K mg := by
  obtain ⟨fd, F⟩ := def_in c (d := boxD) List.mem_cons_self
  exact ⟨_, _, fd, box_at X G c, He.mkr_ok (fact_in c (box_mem (List.mem_of_getElem? (i := 5) rfl))), fun_of F⟩
theorem law_facts {P : Program} {w : World} {fa : Addr} (X : K.In h) (G : h.Ns mainGlobals mg) (hfa : mg ("law" : Str) = some (.ref fa)) (c : He.SaysD faL fnL K) (ex : boxIB K = true) :
    ∃ fd : FuncData, (∀ (s : Shared) (u : Value), BindsTo s fd ⟨[u], []⟩ [("_law_script", u)]) ∧ ∀ base : Heap, K.In base → base.Ns mainGlobals mg → FnOk P w K mg base CX0 12 fa fd ["_law_script"] (spLaw w K mg) := by
  have tf : ∀ (i : Nat) {p : Str × Nat} (e : dps[i]? = some p := by rfl), TopF K mg p.1 (top p.2) := fun i p e => topF_of X G c (List.mem_of_getElem? e)
  have B := bi_of X G c
  have NU := nu_of X G c
  have BK := boxK_of X G c ex
  have BM := boxM_of X G c
  obtain ⟨fd, FD⟩ := def_in c (d := mkD ("law", 97)) (List.mem_cons_of_mem _ (List.mem_map.mpr ⟨("law", 97), List.mem_of_getElem? (i := 73) rfl, rfl⟩))
  have hf := hfa.symm.trans (He.glo_ok X G (fact_in c (glo_mem (p := ("law", 97)) (List.mem_of_getElem? (i := 73) rfl))))
  injection hf with hf
  injection hf with hf
  subst hf
  have FL : Fun K "law" "law" sd_law (He.ga K "law") fd := fun_of FD
  have b := FunD.bindsA (ps := ["_law_script"]) FD fun _ _ _ _ _ _ us hl => match us, hl with | [_], _ => rfl
  refine ⟨fd, fun s u => b s [u] rfl, fun base _ _ => ?_⟩
  have g_is_number : Fis_number P w K mg base := ok_is_number (tf 0) B
  have g_is_between : Fis_between P w K mg base := ok_is_between (tf 1) g_is_number
  have g_is_pin : Fis_pin P w K mg base := ok_is_pin (tf 2) B g_is_between
  have g_is_switch : Fis_switch P w K mg base := ok_is_switch (tf 3) B g_is_pin
  have g_is_rising : Fis_rising P w K mg base := ok_is_rising (tf 4) B
  have g_need_sides : Fneed_sides P w K mg base := ok_need_sides (tf 5) NU g_is_between
  have g_need_tracks : Fneed_tracks P w K mg base := ok_need_tracks (tf 6) NU g_is_between
  have g_need_box : Fneed_box P w K mg base := ok_need_box (tf 7) B BK
  have g_pairs_of : Fpairs_of P w K mg base := ok_pairs_of (tf 8) B
  have g_is_load_of : Fis_load_of P w K mg base := ok_is_load_of (tf 9) B g_is_between g_pairs_of
  have g_is_below : Fis_below P w K mg base := ok_is_below (tf 10) B
  have g_is_of : Fis_of P w K mg base := ok_is_of (tf 11) B g_is_below
  have g_need_moves : Fneed_moves P w K mg base := ok_need_moves (tf 15) NU g_is_between
  have g_sides_of : Fsides_of P w K mg base := ok_sides_of (tf 16)
  have g_load_of : Fload_of P w K mg base := ok_load_of (tf 17) B g_sides_of g_pairs_of
  have g_pins_of : Fpins_of P w K mg base := ok_pins_of (tf 18)
  have g_load_with : Fload_with P w K mg base := ok_load_with (tf 23) B g_pairs_of
  have g_moved_in : Fmoved_in P w K mg base := ok_moved_in (tf 27) B
  have g_left_by : Fleft_by P w K mg base := ok_left_by (tf 28) B
  have g_greatest_of : Fgreatest_of P w K mg base := ok_greatest_of (tf 12) B g_is_of
  have g_is_frame_of : Fis_frame_of P w K mg base := ok_is_frame_of (tf 13) B NU g_is_load_of g_greatest_of
  have g_need_frame : Fneed_frame P w K mg base := ok_need_frame (tf 14) g_is_frame_of
  have g_is_way_of : Fis_way_of P w K mg base := ok_is_way_of (tf 19) B BK g_is_switch g_is_rising g_pins_of
  have g_is_standing_of : Fis_standing_of P w K mg base := ok_is_standing_of (tf 20) BK g_is_way_of g_is_of g_load_of
  have g_need_standing : Fneed_standing P w K mg base := ok_need_standing (tf 21) g_is_standing_of
  have g_are_standings : Fare_standings P w K mg base := ok_are_standings (tf 32) B g_is_standing_of g_is_rising
  have g_need_game : Fneed_game P w K mg base := ok_need_game (tf 33) BK g_need_box g_need_frame g_need_moves g_are_standings
  have g_standings_up_to : Fstandings_up_to P w K mg base := ok_standings_up_to (tf 22) B BK g_pins_of g_is_of g_load_of
  have g_ways_of : Fways_of P w K mg base := ok_ways_of (tf 30) B BK g_pins_of g_load_with g_load_of g_sides_of g_is_below
  have g_askings_at : Faskings_at P w K mg base := ok_askings_at (tf 24) B BK g_load_of g_pairs_of g_is_of g_load_with
  have g_askings : Faskings P w K mg base := ok_askings (tf 25) BK g_need_box g_need_frame g_need_standing g_askings_at
  have g_is_asking_at : Fis_asking_at P w K mg base := ok_is_asking_at (tf 26) B BK g_is_switch g_is_between g_is_of g_load_with g_load_of
  have g_answers_at : Fanswers_at P w K mg base := ok_answers_at (tf 29) B BK g_left_by g_load_with g_load_of g_ways_of g_moved_in
  have g_answers : Fanswers P w K mg base := ok_answers (tf 31) BK g_need_box g_need_frame g_need_moves g_need_standing g_is_asking_at g_answers_at
  have g_by_loads : Fby_loads P w K mg base := ok_by_loads (tf 34) BK g_load_of
  have g_answered : Fanswered P w K mg base := ok_answered (tf 35) BK g_left_by g_load_with g_load_of g_moved_in
  have g_game_of : Fgame_of P w K mg base := ok_game_of (tf 36) BK NU g_standings_up_to g_by_loads g_askings_at g_answered
  have g_ranked : Franked P w K mg base := ok_ranked (tf 37) B
  have g_kept_in : Fkept_in P w K mg base := ok_kept_in (tf 38) B g_ranked
  have g_greatest_keeping : Fgreatest_keeping P w K mg base := ok_greatest_keeping (tf 39) g_need_game g_game_of g_kept_in
  have g_doom_in : Fdoom_in P w K mg base := ok_doom_in (tf 44) g_ranked
  have g_doom : Fdoom P w K mg base := ok_doom (tf 45) g_need_game g_game_of g_doom_in
  have g_is_held : Fis_held P w K mg base := ok_is_held (tf 40) B g_askings_at g_answered
  have g_is_keeping_of : Fis_keeping_of P w K mg base := ok_is_keeping_of (tf 41) B BK g_are_standings g_by_loads g_is_held
  have g_is_keeping : Fis_keeping P w K mg base := ok_is_keeping (tf 42) g_need_game g_is_keeping_of
  have g_strategy : Fstrategy P w K mg base := ok_strategy (tf 43) B g_need_game g_game_of g_kept_in
  have g_is_row : Fis_row P w K mg base := ok_is_row (tf 46) B g_is_standing_of g_is_number g_is_asking_at
  have g_does_fall : Fdoes_fall P w K mg base := ok_does_fall (tf 47) B g_answers_at
  have g_is_doom_of : Fis_doom_of P w K mg base := ok_is_doom_of (tf 48) B g_is_row g_does_fall
  have g_is_doom : Fis_doom P w K mg base := ok_is_doom (tf 49) g_need_game g_is_doom_of
  have g__law_pairs : F_law_pairs P w K mg base := ok__law_pairs (tf 54) B
  have g__law_mate : F_law_mate P w K mg base := ok__law_mate (tf 55) B
  have g__law_joined : F_law_joined P w K mg base := ok__law_joined (tf 56) B g__law_pairs g__law_mate
  have g__law_pins : F_law_pins P w K mg base := ok__law_pins (tf 60)
  have g__law_load : F_law_load P w K mg base := ok__law_load (tf 61) B g__law_pairs
  have g__law_under : F_law_under P w K mg base := ok__law_under (tf 62) B
  have g__law_tops : F_law_tops P w K mg base := ok__law_tops (tf 63) B g__law_under
  have g__law_all_ways : F_law_all_ways P w K mg base := ok__law_all_ways (tf 64) B g__law_pins
  have g__law_is_of : F_law_is_of P w K mg base := ok__law_is_of (tf 65) B g__law_under
  have g__law_stands : F_law_stands P w K mg base := ok__law_stands (tf 66) B g__law_all_ways g__law_is_of g__law_load
  have g__law_under_count : F_law_under_count P w K mg base := ok__law_under_count (tf 69)
  have g__law_made : F_law_made P w K mg base := ok__law_made (tf 59) B BM BK g_need_sides g_need_tracks g_is_switch g_is_rising
  have g__law_draw : F_law_draw P w K mg base := ok__law_draw (tf 51) B
  have g__law_pick : F_law_pick P w K mg base := ok__law_pick (tf 52) B g__law_draw
  have g__law_mixed : F_law_mixed P w K mg base := ok__law_mixed (tf 53) B g__law_draw
  have g__law_few : F_law_few P w K mg base := ok__law_few (tf 57) B g__law_draw g__law_mixed
  have g__law_scope : F_law_scope P w K mg base := ok__law_scope (tf 58) B g__law_pick g__law_joined g__law_mixed g__law_draw
  have g__law_tops_drawn : F_law_tops_drawn P w K mg base := ok__law_tops_drawn (tf 67) B g__law_draw g__law_pick g__law_all_ways g__law_load g__law_tops g__law_pairs
  have g__law_table : F_law_table P w K mg base := ok__law_table (tf 68) B g__law_scope g__law_tops_drawn g__law_pick g__law_under_count g__law_tops g__law_load g__law_all_ways g__law_stands
  have g__law_barred : F_law_barred P w K mg base := ok__law_barred (tf 70) B g__law_draw g__law_few
  have g__law_answered : F_law_answered P w K mg base := ok__law_answered (tf 71) B g_askings g__law_pick g_answers
  have g__law_doomed : F_law_doomed P w K mg base := ok__law_doomed (tf 72) B g__law_pick g_answers
  have g__law_begun : FnB P w K mg base := ok__law_begun (tf 50) B
  exact ok_law FL B g__law_begun g__law_table g__law_made g__law_barred g_greatest_keeping g_doom g_strategy g_is_keeping g_is_doom g__law_answered g__law_doomed
end
end Ac
open PySem PySem.W PySem.Calls PyProof.Rows
theorem PySem.Challenge.cw_allcalls_k34_whole_askers_and_answerers_holds : PySem.Challenge.rw_allcalls_k34_whole_askers_and_answerers.Holds := by
  w_on; o_law
  refine HandSHeadRun.head_any (r := Ac.Rw) (q := view Ac.Rw.prog [97]) (H := Ac.hkB) (ob := Ac.obL) (M := 20000) (loose := Ac.names) (d := HandSHeadRun.topDef Ac.Rw.prog 97) (kwd := []) Ac.obL_eq
    (by kernel_rfl) (fun s => by kernel_rfl) Ac.runL (by kernel_rfl) (by kernel_rfl) (by kernel_rfl) (by rfl) (by first | assumption | decide +kernel) (by decide +kernel) ⟨rfl, rfl, rfl, rfl, rfl, by decide +kernel⟩ ?hw ?hc
  case hw => w_witness2
  case hc =>
    refine L2.walk_ofE (l := PySem.Challenge.rw_allcalls_k34_whole_askers_and_answerers) (n := 63) (k := 12) (x := "_law_script") (CX := L2.CX0) rfl (by decide) (by kernel_rfl) ⟨rfl, by decide, by decide⟩ ?F (fun _ _ _ _ z => z)
    intro w mg fa h Y G hmg0
    obtain ⟨K, KX, c, ex⟩ := Y
    have hmg : mg ("law" : PySem.Str) = some (.ref fa) := by
      have e : (HandSHeadRun.topDef Ac.Rw.prog 97).name = ("law" : PySem.Str) := by kernel_rfl
      rw [← e]
      exact hmg0
    obtain ⟨fd, hb, hF⟩ := Ac.law_facts (P := (PySem.Challenge.rw_allcalls_k34_whole_askers_and_answerers).prog) (w := w) KX G hmg c ex
    refine ⟨K, fd, Ac.spLaw w K mg, KX, hb, fun H a ns hl _ hS => ⟨fun _ => False, ns, fun _ z => z.elim, .cons (.lst ?_ (Ac.ints_dpa ns)) .nil, hl, fun v H' _ r => Ac.bl_of r⟩, hF⟩
    rw [Ac.reg0_none (own := Ac.own0) (fun _ => rfl)]
    exact hS
