import PyProof.Rows.All
import PySem.Challenge.RW_groupcall_k64_whole_one_plan
import Wide.All
import OpenK.AllK
import Wide.FinOn
import KE.KStateDown
import HandS.ForMost
import HandS.More
import HandS.Exc
import HandS.Defaults
import HandS.CallLocal
import HandS.Nested
import HandS.NestedK
import HandS.EndTab
import HandS.HeadWalk
import HandS.Wide
import HandS.WideBits
import HandS.Deep
import HandS.DictTup
import HandS.TupLe
import HandS.TupAny
import HandS.SortInts
import HandS.Evl
import HandS.Steps
import HandS.Head0
import HandS.Head1
import HandS.Head2
import HandS.HeadEnd
import HandS.HeadHook1
import HandS.HeadHook2
import KE.KDictKeyed
import HandS.Conv
import HandS.SetKeys
import HandS.BoundDict
import KE.DataCmp
set_option Elab.async false
set_option linter.all false
set_option maxRecDepth 100000
set_option maxHeartbeats 4000000
/-! # GLib: my own words over the hand layer: data in tuples, instances by places, steps of a reading -/
namespace Gr
open PySem PySem.Spec PyProof.Rows L2

/-! ### data that is carried by tuples alone -/
inductive D where
  | non | bl (b : Bool) | int (i : Int) | str (x : Str) | tup (ds : List D)

mutual
/-- the value v stands for the datum -/
def Rp (H : Hp) : D → V → Prop
  | .non, v => v = .non
  | .bl b, v => v = .bl b
  | .int i, v => v = .int i
  | .str x, v => v = .str x
  | .tup ds, v => ∃ a vs, v = .ref a ∧ H a = some (.tup vs) ∧ RpL H ds vs
def RpL (H : Hp) : List D → List V → Prop
  | [], vs => vs = []
  | d :: ds, vs => ∃ v r, vs = v :: r ∧ Rp H d v ∧ RpL H ds r
end
/-- tuples stay -/
def Tups (H H' : Hp) : Prop := ∀ b xs, H b = some (.tup xs) → H' b = some (.tup xs)
theorem Tups.refl (H : Hp) : Tups H H := fun _ _ h => h
theorem Tups.trans {H H1 H2 : Hp} (a : Tups H H1) (b : Tups H1 H2) : Tups H H2 := fun c xs h => b c xs (a c xs h)
theorem Tups.of_same {H H' : Hp} (s : Same H H') : Tups H H' := fun b xs h => s b _ h
mutual
theorem Rp.at {H H' : Hp} (t : Tups H H') : ∀ {d : D} {v : V}, Rp H d v → Rp H' d v
  | .non, _, h => h
  | .bl _, _, h => h
  | .int _, _, h => h
  | .str _, _, h => h
  | .tup ds, _, ⟨a, vs, e, h, r⟩ => ⟨a, vs, e, t a vs h, RpL.at t r⟩
theorem RpL.at {H H' : Hp} (t : Tups H H') : ∀ {ds : List D} {vs : List V}, RpL H ds vs → RpL H' ds vs
  | [], _, h => h
  | _ :: _, _, ⟨v, r, e, h, q⟩ => ⟨v, r, e, Rp.at t h, RpL.at t q⟩
end
theorem RpL.length {H : Hp} : ∀ {ds : List D} {vs : List V}, RpL H ds vs → vs.length = ds.length
  | [], _, h => by rw [show _ = [] from h]; rfl
  | d :: ds, _, ⟨v, r, e, _, q⟩ => by rw [e, List.length_cons, List.length_cons, RpL.length q]
theorem RpL.get {H : Hp} : ∀ {ds : List D} {vs : List V} {i : Nat} {d : D}, RpL H ds vs → ds[i]? = some d → ∃ v, vs[i]? = some v ∧ Rp H d v
  | [], _, i, d, _, e => by simp at e
  | d0 :: ds, _, 0, d, ⟨v, r, e, h, _⟩, e2 => by
    have e3 : d0 = d := Option.some.inj e2
    subst e3 e
    exact ⟨v, rfl, h⟩
  | d0 :: ds, _, i + 1, d, ⟨v, r, e, _, q⟩, e2 => by
    subst e
    exact RpL.get (i := i) q (by simpa using e2)
/-- its form for the library's == -/
def D.py : D → PyData
  | .non => .none
  | .bl b => .bool b
  | .int i => .int i
  | .str x => .str x
  | .tup ds => .tuple (ds.map D.py)
mutual
theorem Rp.dp {K : PySem.W.Frag} {H : Hp} : ∀ {d : D} {v : V}, Rp H d v → Dp K H v d.py
  | .non, _, h => by rw [show _ = V.non from h]; simp only [D.py]; exact .non
  | .bl b, _, h => by rw [show _ = V.bl b from h]; simp only [D.py]; exact .bl b
  | .int b, _, h => by rw [show _ = V.int b from h]; simp only [D.py]; exact .int b
  | .str b, _, h => by rw [show _ = V.str b from h]; simp only [D.py]; exact .str b
  | .tup ds, _, ⟨a, vs, e, h, r⟩ => by
    rw [e]; simp only [D.py]
    exact .tup (SqT.of h) (RpL.dp r)
theorem RpL.dp {K : PySem.W.Frag} {H : Hp} : ∀ {ds : List D} {vs : List V}, RpL H ds vs → DpAll K H vs (ds.map D.py)
  | [], _, h => by rw [show _ = [] from h]; exact .nil
  | d :: ds, _, ⟨v, r, e, h, q⟩ => by
    rw [e, List.map_cons]
    exact .cons (Rp.dp h) (RpL.dp q)
end

/-! ### heaps -/
theorem same_new {H : Hp} {p : Addr} {o : HO} (h : H p = none) : Same H (upd H p o) := fun b x e => by
  rw [upd_ne (ne_of_none e h)]
  exact e
/-- all but the addresses at fp stand -/
def Fr (fp : List Addr) (H H' : Hp) : Prop := ∀ b o, H b = some o → b ∉ fp → H' b = some o
theorem Fr.refl (fp : List Addr) (H : Hp) : Fr fp H H := fun _ _ h _ => h
theorem Fr.trans {fp : List Addr} {H H1 H2 : Hp} (a : Fr fp H H1) (b : Fr fp H1 H2) : Fr fp H H2 := fun c o h n => b c o (a c o h n) n
theorem Fr.of_same {fp : List Addr} {H H' : Hp} (s : Same H H') : Fr fp H H' := fun b o h _ => s b o h
theorem Fr.upd_in {fp : List Addr} {H : Hp} {p : Addr} {o : HO} (h : p ∈ fp) : Fr fp H (upd H p o) := fun b x e n => by
  rw [upd_ne fun z => n (by rw [z]; exact h)]
  exact e
theorem Fr.mono {fp fq : List Addr} {H H' : Hp} (a : Fr fp H H') (s : ∀ b ∈ fp, b ∈ fq) : Fr fq H H' := fun b o e n => a b o e fun z => n (s b z)
theorem look_new {H : Hp} {p b : Addr} {o u : HO} (e : H b = some o) (n : H p = none) : upd H p u b = some o := by
  rw [upd_ne (ne_of_none e n)]
  exact e
theorem look_ne {H : Hp} {p b : Addr} {o : Option HO} {u : HO} (n : b ≠ p) (e : H b = o) : upd H p u b = o := by
  rw [upd_ne n]
  exact e

/-! ### an instance's attributes by their places -/
theorem look_zip : ∀ {ns : List Str} {vs : List V} {i : Nat} {x : Str}, ns.Nodup → ns[i]? = some x → vs.length = ns.length → (ns.zip vs).lookup x = vs[i]?
  | [], _, i, x, _, e, _ => by simp at e
  | n :: ns, [], i, x, _, _, h => by simp at h
  | n :: ns, v :: vs, 0, x, _, e, _ => by
    have e : n = x := Option.some.inj e
    subst e
    simp [List.zip_cons_cons, List.lookup_cons]
  | n :: ns, v :: vs, i + 1, x, nd, e, h => by
    have e : ns[i]? = some x := by simpa using e
    have nd2 := List.nodup_cons.mp nd
    have ne : x ≠ n := fun z => nd2.1 (by rw [← z]; exact List.mem_of_getElem? e)
    have ih := look_zip (i := i) (vs := vs) nd2.2 e (by simpa using h)
    rw [List.zip_cons_cons, List.lookup_cons]
    have nb : (x == n) = false := by simpa using ne
    rw [nb]
    simpa using ih
theorem look_zip_none : ∀ {ns : List Str} {vs : List V} {x : Str}, x ∉ ns → (ns.zip vs).lookup x = none
  | [], _, x, _ => rfl
  | n :: ns, [], x, _ => rfl
  | n :: ns, v :: vs, x, h => by
    have nb : (x == n) = false := by
      have : x ≠ n := fun z => h (by rw [z]; exact List.mem_cons_self ..)
      simpa using this
    rw [List.zip_cons_cons, List.lookup_cons, nb]
    exact look_zip_none fun z => h (List.mem_cons_of_mem _ z)
theorem put_zip : ∀ {ns : List Str} {vs : List V} {i : Nat} {x : Str} (y : V), ns.Nodup → ns[i]? = some x → vs.length = ns.length → putF x y (ns.zip vs) = ns.zip (vs.set i y)
  | [], _, i, x, y, _, e, _ => by simp at e
  | n :: ns, [], i, x, y, _, _, h => by simp at h
  | n :: ns, v :: vs, 0, x, y, _, e, _ => by
    have e : n = x := Option.some.inj e
    subst e
    rw [List.zip_cons_cons]
    show putF n y ((n, v) :: ns.zip vs) = _
    unfold putF
    rw [if_pos rfl]
    rfl
  | n :: ns, v :: vs, i + 1, x, y, nd, e, h => by
    have e : ns[i]? = some x := by simpa using e
    have nd2 := List.nodup_cons.mp nd
    have ne : x ≠ n := fun z => nd2.1 (by rw [← z]; exact List.mem_of_getElem? e)
    have ih := put_zip (i := i) (vs := vs) y nd2.2 e (by simpa using h)
    rw [List.zip_cons_cons]
    show putF x y ((n, v) :: ns.zip vs) = _
    unfold putF
    rw [if_neg (fun z => ne z.symm), ih]
    rfl
theorem put_nil {x : Str} {y : V} : putF x y [] = [(x, y)] := rfl
theorem zip_len {ns : List Str} {vs : List V} (h : ns.length ≤ 999) : (ns.zip vs).length < 1000 := by
  rw [List.length_zip]
  omega

/-! ### steps of a reading, in the order in which it is read -/
section
variable {σ : L2.St} {H : Hp} {Q : VK} {D : Ends} {K : PySem.W.Frag}
theorem k_var {i : Nat} {v : V} (h : σ[i]? = some (some v)) (q : Q v H) : tVar i σ H Q := ⟨v, h, q⟩
theorem k_fld {ta : TE} {f : Str} {a C dx : Addr} {ns : List Str} {vs : List V} {i : Nat} {v : V} (ho : H a = some (.ins C dx (ns.zip vs))) (hc : Cls K C) (hn : NoAttr K C f) (nd : ns.Nodup) (hi : ns[i]? = some f) (hl : vs.length = ns.length) (hv : vs[i]? = some v) (q : Q v H) :
    ∃ a' C dx fs v, V.ref a = .ref a' ∧ H a' = some (.ins C dx fs) ∧ Cls K C ∧ NoAttr K C f ∧ fs.lookup f = some v ∧ Q v H :=
  ⟨a, C, dx, _, v, rfl, ho, hc, hn, (look_zip nd hi hl).trans hv, q⟩
end
end Gr

/-! ### equality of data -/
namespace Gr
open PySem PySem.Spec PyProof.Rows L2
mutual
def D.dec : (a b : D) → Decidable (a = b)
  | .non, .non => .isTrue rfl
  | .bl a, .bl b => if h : a = b then .isTrue (by rw [h]) else .isFalse fun e => h (by cases e; rfl)
  | .int a, .int b => if h : a = b then .isTrue (by rw [h]) else .isFalse fun e => h (by cases e; rfl)
  | .str a, .str b => if h : a = b then .isTrue (by rw [h]) else .isFalse fun e => h (by cases e; rfl)
  | .tup a, .tup b => match D.decL a b with
    | .isTrue h => .isTrue (by rw [h])
    | .isFalse h => .isFalse fun e => h (by cases e; rfl)
  | .non, .bl _ => .isFalse fun e => by cases e
  | .non, .int _ => .isFalse fun e => by cases e
  | .non, .str _ => .isFalse fun e => by cases e
  | .non, .tup _ => .isFalse fun e => by cases e
  | .bl _, .non => .isFalse fun e => by cases e
  | .bl _, .int _ => .isFalse fun e => by cases e
  | .bl _, .str _ => .isFalse fun e => by cases e
  | .bl _, .tup _ => .isFalse fun e => by cases e
  | .int _, .non => .isFalse fun e => by cases e
  | .int _, .bl _ => .isFalse fun e => by cases e
  | .int _, .str _ => .isFalse fun e => by cases e
  | .int _, .tup _ => .isFalse fun e => by cases e
  | .str _, .non => .isFalse fun e => by cases e
  | .str _, .bl _ => .isFalse fun e => by cases e
  | .str _, .int _ => .isFalse fun e => by cases e
  | .str _, .tup _ => .isFalse fun e => by cases e
  | .tup _, .non => .isFalse fun e => by cases e
  | .tup _, .bl _ => .isFalse fun e => by cases e
  | .tup _, .int _ => .isFalse fun e => by cases e
  | .tup _, .str _ => .isFalse fun e => by cases e
def D.decL : (a b : List D) → Decidable (a = b)
  | [], [] => .isTrue rfl
  | [], _ :: _ => .isFalse fun e => by cases e
  | _ :: _, [] => .isFalse fun e => by cases e
  | a :: as, b :: bs => match D.dec a b with
    | .isFalse h => .isFalse fun e => h (by cases e; rfl)
    | .isTrue h => match D.decL as bs with
      | .isTrue h2 => .isTrue (by rw [h, h2])
      | .isFalse h2 => .isFalse fun e => h2 (by cases e; rfl)
end
instance : DecidableEq D := D.dec
mutual
/-- no truth values, no odd texts -/
def D.good : D → Bool
  | .non => true
  | .bl _ => false
  | .int _ => true
  | .str x => PySem.PyData.strOk x
  | .tup ds => D.goodL ds
def D.goodL : List D → Bool
  | [] => true
  | d :: ds => D.good d && D.goodL ds
end
mutual
def D.dep : D → Nat
  | .tup ds => D.depL ds + 1
  | .non => 0
  | .bl _ => 0
  | .int _ => 0
  | .str _ => 0
def D.depL : List D → Nat
  | [] => 0
  | d :: ds => max (D.dep d) (D.depL ds)
end
/-- a datum that == takes as it is -/
def D.ok (d : D) : Bool := d.good && decide (d.dep ≤ 64)
mutual
theorem D.py_lay : ∀ {d : D}, d.good = true → d.py.canLay0 = true
  | .non, _ => by simp [D.py, PyData.canLay0]
  | .bl _, h => by simp [D.good] at h
  | .int _, _ => by simp [D.py, PyData.canLay0]
  | .str x, h => by simpa [D.py, PyData.canLay0, D.good] using h
  | .tup ds, h => by
    simp only [D.py, PyData.canLay0]
    exact D.py_layL (by simpa [D.good] using h)
theorem D.py_layL : ∀ {ds : List D}, D.goodL ds = true → PyData.canLayAll0 (ds.map D.py) = true
  | [], _ => by simp [PyData.canLayAll0]
  | d :: ds, h => by
    have h' : d.good = true ∧ D.goodL ds = true := by simpa [D.goodL] using h
    simp only [List.map_cons, PyData.canLayAll0, D.py_lay h'.1, D.py_layL h'.2, Bool.and_self]
end
mutual
theorem D.py_dep : ∀ d : D, d.py.depth = d.dep
  | .non => by simp [D.py, PyData.depth, D.dep]
  | .bl _ => by simp [D.py, PyData.depth, D.dep]
  | .int _ => by simp [D.py, PyData.depth, D.dep]
  | .str _ => by simp [D.py, PyData.depth, D.dep]
  | .tup ds => by simp only [D.py, PyData.depth, D.dep, D.py_depL ds]
theorem D.py_depL : ∀ ds : List D, PyData.depthAll (ds.map D.py) = D.depL ds
  | [] => by simp [PyData.depthAll, D.depL]
  | d :: ds => by simp only [List.map_cons, PyData.depthAll, D.depL, D.py_dep d, D.py_depL ds]
end
theorem D.shaped {d : D} (h : d.ok = true) : SeqAt.shaped d.py = true := by
  have h' : d.good = true ∧ d.dep ≤ 64 := by simpa [D.ok] using h
  show (d.py.canLay0 && decide (d.py.depth ≤ 64)) = true
  rw [D.py_lay h'.1, D.py_dep, decide_eq_true h'.2]
  rfl
theorem dec_and {p q : Prop} [Decidable p] [Decidable q] [Decidable (p ∧ q)] : (decide p && decide q) = decide (p ∧ q) := by
  by_cases hp : p <;> by_cases hq : q <;> simp [hp, hq]
mutual
theorem D.py_eqv : ∀ {a b : D}, a.good = true → b.good = true → PyData.eqv a.py b.py = decide (a = b)
  | .non, .non, _, _ => by simp [D.py, PyData.eqv]
  | .int i, .int j, _, _ => by
    simp only [D.py, PyData.eqv, D.int.injEq]
    rfl
  | .str x, .str y, _, _ => by
    simp only [D.py, PyData.eqv, D.str.injEq]
    rfl
  | .tup as, .tup bs, ha, hb => by
    simp only [D.py, PyData.eqv, D.tup.injEq]
    exact D.py_eqvL (by simpa [D.good] using ha) (by simpa [D.good] using hb)
  | .bl _, _, h, _ => by simp [D.good] at h
  | .non, .bl _, _, h => by simp [D.good] at h
  | .int _, .bl _, _, h => by simp [D.good] at h
  | .str _, .bl _, _, h => by simp [D.good] at h
  | .tup _, .bl _, _, h => by simp [D.good] at h
  | .non, .int _, _, _ => by simp [D.py, PyData.eqv]
  | .non, .str _, _, _ => by simp [D.py, PyData.eqv]
  | .non, .tup _, _, _ => by simp [D.py, PyData.eqv]
  | .int _, .non, _, _ => by simp [D.py, PyData.eqv]
  | .int _, .str _, _, _ => by simp [D.py, PyData.eqv]
  | .int _, .tup _, _, _ => by simp [D.py, PyData.eqv]
  | .str _, .non, _, _ => by simp [D.py, PyData.eqv]
  | .str _, .int _, _, _ => by simp [D.py, PyData.eqv]
  | .str _, .tup _, _, _ => by simp [D.py, PyData.eqv]
  | .tup _, .non, _, _ => by simp [D.py, PyData.eqv]
  | .tup _, .int _, _, _ => by simp [D.py, PyData.eqv]
  | .tup _, .str _, _, _ => by simp [D.py, PyData.eqv]
theorem D.py_eqvL : ∀ {as bs : List D}, D.goodL as = true → D.goodL bs = true → PyData.eqvAll (as.map D.py) (bs.map D.py) = decide (as = bs)
  | [], [], _, _ => by simp [PyData.eqvAll]
  | [], _ :: _, _, _ => by simp [PyData.eqvAll]
  | _ :: _, [], _, _ => by simp [PyData.eqvAll]
  | a :: as, b :: bs, ha, hb => by
    have ha' : a.good = true ∧ D.goodL as = true := by simpa [D.goodL] using ha
    have hb' : b.good = true ∧ D.goodL bs = true := by simpa [D.goodL] using hb
    simp only [List.map_cons, PyData.eqvAll, D.py_eqv ha'.1 hb'.1, D.py_eqvL ha'.2 hb'.2, List.cons.injEq]
    exact dec_and
end

/-! ### rules whose readings speak of what is tracked alone -/
section
variable {X : Cx}
def rIxt : R2 := fun x y H Q => ∃ p xs i v, x = .ref p ∧ y = .int i ∧ H p = some (.tup xs) ∧ atI xs i = some v ∧ Q v H
theorem ix_t : IxR X rIxt := fun value slice pins s σ H x y v u Q I rx ry ⟨p, xs, i, v', e1, e2, h, ha, q⟩ hs =>
  ix_tup value slice pins s σ H x y v u Q I rx ry ⟨p, xs, i, v', e1, e2, SqT.of h, ha, q⟩ hs
def rIxl : R2 := fun x y H Q => ∃ p xs i v, x = .ref p ∧ y = .int i ∧ H p = some (.lst xs) ∧ atI xs i = some v ∧ Q v H
theorem ix_l : IxR X rIxl := fun value slice pins s σ H x y v u Q I rx ry ⟨p, xs, i, v', e1, e2, h, ha, q⟩ hs =>
  ix_list value slice pins s σ H x y v u Q I rx ry ⟨p, xs, i, v', e1, e2, SqL.of h, ha, q⟩ hs
/-- te, and what follows from what it gives -/
def tUp (te : TE) : TE := fun σ H Q => ∃ Q1, te σ H Q1 ∧ ∀ v H', Q1 v H' → Q v H'
theorem pe_up {e : Expr} {te : TE} (h : PE X e te) : PE X e (tUp te) :=
  ⟨fun pins s σ H _ I ⟨_, h1, h2⟩ => thn (h.run pins s σ H _ I h1) fun _ _ ⟨v, H', I', r, q⟩ => ⟨v, H', I', r, h2 v H' q⟩⟩
/-- o.f, o of the class at C -/
def tFldC (C : Addr) (ta : TE) (f : Str) : TE := fun σ H Q => ta σ H fun x H1 => ∃ a dx fs v, x = .ref a ∧ H1 a = some (.ins C dx fs) ∧ fs.lookup f = some v ∧ Q v H1
theorem pe_fldC {K : PySem.W.Frag} {C : Addr} {e : Expr} {ta : TE} {f : Str} {pos : Pos} (hK : X.K = K) (c : Cls K C) (n : NoAttr K C f) (he : PE X e ta) (hb : attributeBase e f X.env (eval e X.env) = eval e X.env) : PE X (.Attribute e f pos) (tFldC C ta f) := by
  subst hK
  exact ⟨fun pins s σ H Q I h => (pe_fld (pos := pos) (pe_up he) hb).run pins s σ H Q I
    ⟨_, h, fun _ _ ⟨a, dx, fs, v, e1, e2, e3, q⟩ => ⟨a, C, dx, fs, v, e1, e2, c, n, e3, q⟩⟩⟩
/-- o.f = e -/
def sFldC (C : Addr) (ta tv : TE) (f : Str) : TS := fun D σ H => tv σ H fun y H1 => ta σ H1 fun x H2 => ∃ a dx fs, x = .ref a ∧ H2 a = some (.ins C dx fs) ∧ fs.length < 1000 ∧
  D.nx σ (upd H2 a (.ins C dx (putF f y fs)))
theorem ps_fldC {K : PySem.W.Frag} {C : Addr} {o value : Expr} {ta tv : TE} {f : Str} {pos pos' : Pos} (hK : X.K = K) (c : Cls K C) (n : NoAttr K C f) (ha : PE X o ta) (hv : PE X value tv) (hs : swapsWith value (some (.Attribute o f pos')) pos.line X.env = pure false) :
    PS X (.Assign [.Attribute o f pos'] value pos) (sFldC C ta tv f) := by
  subst hK
  refine ⟨fun pins s σ H D I h => (ps_fld (f := f) (pos' := pos') (pe_up ha) (pe_up hv) hs).run pins s σ H D I ⟨_, h, fun y H1 q => ⟨_, q, fun x H2 q2 => ?_⟩⟩⟩
  obtain ⟨a, dx, fs, e1, e2, e3, q3⟩ := q2
  exact ⟨a, C, dx, fs, e1, e2, c, n, e3, q3⟩
/-- (a, b, ..) = a tracked tuple -/
def gTupt (n : Nat) (t : TGs) : TG := fun v σ H Q => ∃ a xs, v = .ref a ∧ H a = some (.tup xs) ∧ xs.length = n ∧ t xs σ H Q
theorem pg_tupt {es : List Expr} {k : Nat} {t : TGs} {n : Nat} {pos : Pos} (hc : X.calm = true) (h : PGs X es t)
    (hn : (assignEach es X.env).length = n := by rfl) (hst : (assignEach es X.env).findIdx? (·.1) = none := by rfl) : PG X (.Tuple es k pos) (gTupt n t) :=
  ⟨fun pins s σ H v u Q I r ⟨a, xs, e, h1, h2, h3⟩ => (pg_tup hc h hn hst).run pins s σ H v u Q I r ⟨a, xs, e, SqT.of h1, h2, h3⟩⟩
/-- len of a tracked list, tuple -/
def rLenl : List V → Hp → VK → Prop := fun xs H Q => ∃ p ys, xs = [.ref p] ∧ H p = some (.lst ys) ∧ Q (.int ys.length) H
theorem len_l : CallR X (.builtin "len") rLenl := fun pins s σ H xs us Q I r ⟨p, ys, e, h, q⟩ => call_len_seq pins s σ H xs us Q I r ⟨p, ys, e, .inl (SqL.of h), q⟩
def rLent : List V → Hp → VK → Prop := fun xs H Q => ∃ p ys, xs = [.ref p] ∧ H p = some (.tup ys) ∧ Q (.int ys.length) H
theorem len_t : CallR X (.builtin "len") rLent := fun pins s σ H xs us Q I r ⟨p, ys, e, h, q⟩ => call_len_seq pins s σ H xs us Q I r ⟨p, ys, e, .inr (SqT.of h), q⟩
def rSll : V → Option Int → Option Int → Hp → VK → Prop := fun x lo hi H Q => ∃ a xs, x = .ref a ∧ H a = some (.lst xs) ∧ ∀ p, H p = none → Q (.ref p) (upd H p (.lst (cutV xs lo hi)))
theorem sl_l : SlR X rSll := by
  intro pins s σ H x v vl vu lo hi sl Q I rx hs pl pu h
  obtain ⟨a, xs, e, h, q⟩ := h
  exact sl_list pins s σ H x v vl vu lo hi sl Q I rx hs pl pu ⟨a, xs, e, SqL.of h, q⟩
/-- == over data -/
def rEqd : R2 := fun x y H Q => ∃ d e, Rp H d x ∧ Rp H e y ∧ d.ok = true ∧ e.ok = true ∧ Q (.bl (decide (d = e))) H
def rNed : R2 := fun x y H Q => ∃ d e, Rp H d x ∧ Rp H e y ∧ d.ok = true ∧ e.ok = true ∧ Q (.bl (!decide (d = e))) H
theorem D.ok_good {d : D} (h : d.ok = true) : d.good = true := (Bool.and_eq_true_iff.mp h).1
theorem op_eqd (hu : X.A.units + 64 < cLine) : OpR X (compareOp .Eq) rEqd := fun pins s σ H x y v u Q I rx ry ⟨d, e, h1, h2, h3, h4, q⟩ =>
  op_eqD hu pins s σ H x y v u Q I rx ry ⟨d.py, e.py, h1.dp, h2.dp, D.shaped h3, D.shaped h4, by rw [D.py_eqv (D.ok_good h3) (D.ok_good h4)]; exact q⟩
theorem op_ned (hu : X.A.units + 64 < cLine) : OpR X (compareOp .NotEq) rNed := fun pins s σ H x y v u Q I rx ry ⟨d, e, h1, h2, h3, h4, q⟩ =>
  op_neD hu pins s σ H x y v u Q I rx ry ⟨d.py, e.py, h1.dp, h2.dp, D.shaped h3, D.shaped h4, by rw [D.py_eqv (D.ok_good h3) (D.ok_good h4)]; exact q⟩
/-- x in xs, over data, a tracked list -/
theorem dpAll_py {K : PySem.W.Frag} {H : Hp} : ∀ {ds : List D} {vs : List V}, RpL H ds vs → DpAll K H vs (ds.map D.py) := fun h => RpL.dp h
def D.okL (ds : List D) : Bool := D.goodL ds && decide (D.depL ds + 1 ≤ 64)
theorem D.goodL_mem : ∀ {ds : List D} {d : D}, D.goodL ds = true → d ∈ ds → d.good = true
  | e :: ds, d, h, m => by
    have h' : e.good = true ∧ D.goodL ds = true := by simpa [D.goodL] using h
    rcases List.mem_cons.mp m with z | z
    · rw [z]; exact h'.1
    · exact D.goodL_mem h'.2 z
theorem D.any_eqv {ds : List D} {d : D} (h : D.goodL ds = true) (hd : d.good = true) : (ds.map D.py).any (fun z => PyData.eqv z d.py) = decide (d ∈ ds) := by
  induction ds with
  | nil => simp
  | cons e ds ih =>
    have h' : e.good = true ∧ D.goodL ds = true := by simpa [D.goodL] using h
    rw [List.map_cons, List.any_cons, ih h'.2, D.py_eqv h'.1 hd]
    by_cases h1 : e = d
    · subst h1; simp
    · have h2 : ¬ d = e := fun z => h1 z.symm
      simp [h1, h2]
theorem D.shapedL {ds : List D} (h : D.okL ds = true) : SeqAt.shaped (.list (ds.map D.py)) = true := by
  have h' : D.goodL ds = true ∧ D.depL ds + 1 ≤ 64 := by simpa [D.okL] using h
  show (PyData.canLay0 (.list (ds.map D.py)) && decide (PyData.depth (.list (ds.map D.py)) ≤ 64)) = true
  rw [Bool.and_eq_true]
  refine ⟨by simp only [PyData.canLay0]; exact D.py_layL h'.1, decide_eq_true ?_⟩
  simp only [PyData.depth, D.py_depL]
  exact h'.2
def rInd (neg : Bool) : R2 := fun x y H Q => ∃ d ds p vs, Rp H d x ∧ y = .ref p ∧ H p = some (.lst vs) ∧ RpL H ds vs ∧ d.ok = true ∧ D.okL ds = true ∧ Q (.bl (if neg then !decide (d ∈ ds) else decide (d ∈ ds))) H
theorem op_ind (hu : X.A.units + 65 < cLine) : OpR X (compareOp .In) (rInd false) := by
  intro pins s σ H x y v u Q I rx ry h
  obtain ⟨d, ds, p, vs, h1, e, h2, h3, h4, h5, q⟩ := h
  refine op_inD hu pins s σ H x y v u Q I rx ry ⟨d.py, ds.map D.py, h1.dp, by rw [e]; exact .lst (SqL.of h2) h3.dp, D.shaped h4, D.shapedL h5, ?_⟩
  rw [D.any_eqv (Bool.and_eq_true_iff.mp h5).1 (D.ok_good h4)]
  exact q
theorem op_notInd (hu : X.A.units + 65 < cLine) : OpR X (compareOp .NotIn) (rInd true) := by
  intro pins s σ H x y v u Q I rx ry h
  obtain ⟨d, ds, p, vs, h1, e, h2, h3, h4, h5, q⟩ := h
  refine op_notInD hu pins s σ H x y v u Q I rx ry ⟨d.py, ds.map D.py, h1.dp, by rw [e]; exact .lst (SqL.of h2) h3.dp, D.shaped h4, D.shapedL h5, ?_⟩
  rw [D.any_eqv (Bool.and_eq_true_iff.mp h5).1 (D.ok_good h4)]
  exact q
end
/-! ### dicts whose keys are ints; whose keys are tuples of ints -/
def dI (m : List (Int × V)) : HO := .dK (m.map fun p => (Sum.inl p.1, p.2))
def dN (m : List (List Int × V)) : HO := .dT (m.map fun p => (p.1.map Sum.inl, p.2))
theorem valV_mapk {α β : Type} [DecidableEq α] [DecidableEq β] {f : α → β} (inj : ∀ a b, f a = f b → a = b) : ∀ (m : List (α × V)) (k : α), valV (m.map fun p => (f p.1, p.2)) (f k) = valV m k
  | [], k => rfl
  | p :: m, k => by
    rw [List.map_cons]
    by_cases h : p.1 = k
    · rw [valV_pos (p := (f p.1, p.2)) (show f p.1 = f k by rw [h]), valV_pos h]
    · rw [valV_neg (p := (f p.1, p.2)) (fun z => h (inj _ _ z)), valV_neg h]
      exact valV_mapk inj m k
theorem putK_mapk {α β : Type} [DecidableEq α] [DecidableEq β] {f : α → β} (inj : ∀ a b, f a = f b → a = b) (m : List (α × V)) (k : α) (v : V) : putK (m.map fun p => (f p.1, p.2)) (f k) v = (putK m k v).map fun p => (f p.1, p.2) := by
  have hd : ∀ a b, decide (f a = f b) = decide (a = b) := fun a b => by
    by_cases h : a = b
    · subst h; simp
    · rw [decide_eq_false h, decide_eq_false fun z => h (inj _ _ z)]
  unfold putK
  rw [List.any_map]
  have e : ((fun kv : β × V => decide (kv.1 = f k)) ∘ fun p : α × V => (f p.1, p.2)) = fun kv : α × V => decide (kv.1 = k) := funext fun p => hd p.1 k
  rw [e]
  by_cases h : (m.any fun kv => decide (kv.1 = k)) = true
  · rw [if_pos h, if_pos h, List.map_map, List.map_map]
    refine List.map_congr_left fun p _ => ?_
    show (if f p.1 = f k then (f p.1, v) else (f p.1, p.2)) = _
    by_cases hp : p.1 = k
    · rw [if_pos (by rw [hp])]
      show _ = (f (if p.1 = k then (p.1, v) else p).1, (if p.1 = k then (p.1, v) else p).2)
      rw [if_pos hp]
    · rw [if_neg fun z => hp (inj _ _ z)]
      show _ = (f (if p.1 = k then (p.1, v) else p).1, (if p.1 = k then (p.1, v) else p).2)
      rw [if_neg hp]
  · rw [if_neg h, if_neg h, List.map_append]
    rfl
theorem inl_inj (a b : Int) (h : (Sum.inl a : Key) = Sum.inl b) : a = b := Sum.inl.inj h
theorem inls_inj : ∀ (a b : List Int), (a.map Sum.inl : List Key) = b.map Sum.inl → a = b
  | [], [], _ => rfl
  | [], _ :: _, h => by simp at h
  | _ :: _, [], h => by simp at h
  | x :: a, y :: b, h => by
    simp only [List.map_cons, List.cons.injEq, Sum.inl.injEq] at h
    rw [h.1, inls_inj a b h.2]
theorem valI {m : List (Int × V)} {k : Int} : valV (m.map fun p => ((Sum.inl p.1 : Key), p.2)) (Sum.inl k) = valV m k := valV_mapk inl_inj m k
theorem putI {m : List (Int × V)} {k : Int} {v : V} : putK (m.map fun p => ((Sum.inl p.1 : Key), p.2)) (Sum.inl k) v = (putK m k v).map fun p => (Sum.inl p.1, p.2) := putK_mapk inl_inj m k v
theorem valN {m : List (List Int × V)} {k : List Int} : valV (m.map fun p => ((p.1.map Sum.inl : List Key), p.2)) (k.map Sum.inl) = valV m k := valV_mapk (f := fun k => (k.map Sum.inl : List Key)) inls_inj m k
theorem putN {m : List (List Int × V)} {k : List Int} {v : V} : putK (m.map fun p => ((p.1.map Sum.inl : List Key), p.2)) (k.map Sum.inl) v = (putK m k v).map fun p => (p.1.map Sum.inl, p.2) := putK_mapk (f := fun k => (k.map Sum.inl : List Key)) inls_inj m k v
theorem dget_I {H : Hp} {a : Addr} {m : List (Int × V)} {k : Int} (e : H a = some (dI m)) : DGet H a (.int k) (valV m k) := by
  have q := DGet.k (k := Sum.inl k) e
  rw [valI] at q
  exact q
theorem dput_I {H : Hp} {a : Addr} {m : List (Int × V)} {k : Int} {v : V} (e : H a = some (dI m)) (hl : m.length < sizeLine) : DPut H a (.int k) v (upd H a (dI (putK m k v))) := by
  have q := DPut.k (k := Sum.inl k) (v := v) e (by rw [List.length_map]; exact hl)
  rw [putI] at q
  exact q
theorem kVs_int (k : List Int) : (k.map (Sum.inl : Int → Key)).map kV = k.map V.int := by
  rw [List.map_map]
  rfl
theorem dget_N {H : Hp} {a b : Addr} {m : List (List Int × V)} {k : List Int} (e : H a = some (dN m)) (eb : H b = some (.tup (k.map V.int))) : DGet H a (.ref b) (valV m k) := by
  have q := DGet.t (k := k.map Sum.inl) e (by rw [kVs_int]; exact eb)
  rw [valN] at q
  exact q
theorem dput_N {H : Hp} {a b : Addr} {m : List (List Int × V)} {k : List Int} {v : V} (e : H a = some (dN m)) (eb : H b = some (.tup (k.map V.int))) (hl : m.length < sizeLine) : DPut H a (.ref b) v (upd H a (dN (putK m k v))) := by
  have q := DPut.t (k := k.map Sum.inl) (v := v) e (by rw [kVs_int]; exact eb) (by rw [List.length_map]; exact hl)
  rw [putN] at q
  exact q
end Gr

/-! # GTac: a reading unfolded, as far as it goes without a choice -/
namespace Gr
open PySem PySem.Spec PyProof.Rows L2
theorem cx_K {CX : CXT} {P : Program} {w : World} {K : PySem.W.Frag} {mg : Str → Option Value} {base : Heap} {N : List Str} {qual : Str} {scope : Scope} {f : Addr} {cd : Value} {A : Around} {outer : List PySem.Env} {s : Shared} {H : Hp} {E : XK} :
    (cxOf CX P w K mg base N qual scope f cd A outer s H E).K = K := rfl
theorem ixN_nat {n k : Nat} : ixN n (k : Int) = if k < n then some k else none := by
  unfold ixN
  by_cases h : k < n
  · rw [if_pos (by omega), if_pos (by omega), if_pos h]; rfl
  · rw [if_pos (by omega), if_neg (by omega), if_neg h]
theorem atI_cast {α : Type} {xs : List α} {k : Nat} : atI xs (k : Int) = xs[k]? := by
  unfold atI
  rw [ixN_nat]
  by_cases h : k < xs.length
  · rw [if_pos h]; rfl
  · rw [if_neg h, List.getElem?_eq_none (by omega)]; rfl
theorem at_lit0 {α : Type} {xs : List α} : atI xs 0 = xs[0]? := atI_cast (k := 0)
theorem at_lit1 {α : Type} {xs : List α} : atI xs 1 = xs[1]? := atI_cast (k := 1)
theorem at_lit2 {α : Type} {xs : List α} : atI xs 2 = xs[2]? := atI_cast (k := 2)
theorem at_lit3 {α : Type} {xs : List α} : atI xs 3 = xs[3]? := atI_cast (k := 3)
theorem at_lit4 {α : Type} {xs : List α} : atI xs 4 = xs[4]? := atI_cast (k := 4)
theorem at_lit5 {α : Type} {xs : List α} : atI xs 5 = xs[5]? := atI_cast (k := 5)
theorem at_lit6 {α : Type} {xs : List α} : atI xs 6 = xs[6]? := atI_cast (k := 6)
theorem at_lit7 {α : Type} {xs : List α} : atI xs 7 = xs[7]? := atI_cast (k := 7)
/-- a tuple that is read, from a known one -/
theorem sqT_some {K : PySem.W.Frag} {H : Hp} {a : Addr} {xs ys : List V} (h : H a = some (.tup xs)) : (∃ zs, SqT K H a zs ∧ zs = ys) ↔ True ∧ (∃ zs, SqT K H a zs ∧ zs = ys) := by simp
end Gr
namespace Gr
open PySem PySem.Spec PyProof.Rows L2
theorem scal_ii {i j : Int} : scal (.int i) (.int j) = true := rfl
theorem scal_nn : scal .non .non = true := rfl
theorem scal_in {i : Int} : scal (.int i) .non = true := rfl
theorem scal_ni {i : Int} : scal .non (.int i) = true := rfl
theorem scal_bb {i j : Bool} : scal (.bl i) (.bl j) = true := rfl
theorem scal_ss {i j : Str} : scal (.str i) (.str j) = true := rfl
theorem scal_sn {i : Str} : scal (.str i) .non = true := rfl
theorem scal_ns {i : Str} : scal .non (.str i) = true := rfl
end Gr

/-! # GLoop: loops and comprehensions over what stands still -/
namespace Gr
open PySem PySem.Spec PyProof.Rows L2
/-- an object that H does not know may change -/
theorem same_mut {H H' : Hp} {p : Addr} {o : HO} (e : Same H H') (h : H p = none) : Same H (upd H' p o) := fun a u ha => by
  rw [upd_ne (ne_of_none ha h)]
  exact e a u ha
theorem none_back {H H' : Hp} {p : Addr} (e : Same H H') (h : H' p = none) : H p = none := e.free h
/-- what a for asks behind its iterator -/
@[irreducible] def ForI (J : It) (g : TG) (tb : TS) (D : Ends) (σ : L2.St) (H1 : Hp) : Prop := ∃ W : Nat → Nat → L2.St → Hp → Prop, (∃ m, W 0 m σ H1) ∧ ∀ i m σ H, W i m σ H →
  (J.stop i H ∧ D.nx σ H) ∨ (J.go i H ∧ ∃ N : L2.St → Hp → Prop, (∀ σ' H', N σ' H' → ∃ m', m' < m ∧ W (i + 1) m' σ' H') ∧ ∀ x H', J.yld i H x H' → g x σ H' fun σ2 H2 => tb { D with nx := N, ct := N, bk := D.nx } σ2 H2)
theorem tFor_eq {wi : TI} {g : TG} {tb : TS} {D : Ends} {σ : L2.St} {H : Hp} : tFor wi g tb D σ H = wi σ H fun J H1 => ForI J g tb D σ H1 := by
  unfold ForI
  rfl
/-- what a comprehension asks behind its iterator -/
@[irreducible] def LcI (J : It) (g : TG) (tt : TT) (te : TE) (vs : List Nat) (σ : L2.St) (H1 : Hp) (Q : VK) : Prop := ∀ D, H1 D = none → ∃ W : Nat → Nat → Hp → Prop, (∃ m, W 0 m (upd H1 D (.lst []))) ∧ ∀ i m H, W i m H →
  (J.stop i H ∧ Q (.ref D) H) ∨ (J.go i H ∧ ∃ Nx : Hp → Prop, (∀ H', Nx H' → ∃ m', m' < m ∧ W (i + 1) m' H') ∧ ∀ x H', J.yld i H x H' → g x (wipe σ vs) H' fun σ2 H2 => wipe σ2 vs = wipe σ vs ∧ tt σ2 H2 fun b H3 =>
    if b = true then te σ2 H3 fun y H4 => ∃ acc, H4 D = some (.lst acc) ∧ acc.length < sizeLine ∧ Nx (upd H4 D (.lst (acc ++ [y]))) else Nx H3)
theorem tLc_eq {wi : TI} {g : TG} {tt : TT} {te : TE} {vs : List Nat} {σ : L2.St} {H : Hp} {Q : VK} : tLc wi g tt te vs σ H Q = wi σ H fun J H1 => LcI J g tt te vs σ H1 Q := by
  unfold LcI
  rfl
/-- J walks n things, of which Y tells, while all that H knows stands -/
structure Wk (J : It) (H : Hp) (n : Nat) (Y : Nat → V → Hp → Prop) : Prop where
  go : ∀ i H1, Same H H1 → i < n → J.go i H1
  stop : ∀ i H1, Same H H1 → n ≤ i → J.stop i H1
  yld : ∀ i x H1 H', Same H H1 → i < n → J.yld i H1 x H' → Same H1 H' ∧ Y i x H'
theorem wk_list {K : PySem.W.Frag} {a : Addr} {xs : List V} {H : Hp} (h : H a = some (.lst xs)) : Wk (Itl K a) H xs.length fun i x _ => xs[i]? = some x where
  go := fun i H1 e hi => ⟨xs, xs[i], SqL.of (e a _ h), List.getElem?_eq_getElem hi⟩
  stop := fun i H1 e hi => ⟨xs, SqL.of (e a _ h), hi⟩
  yld := fun i x H1 H' e _ y => ⟨by rw [y.1]; exact Same.refl _, y.2 xs (SqL.of (e a _ h))⟩
theorem wk_listS {K : PySem.W.Frag} {a : Addr} {xs : List V} {H : Hp} (h : SqL K H a xs) : Wk (Itl K a) H xs.length fun i x _ => xs[i]? = some x where
  go := fun i H1 e hi => ⟨xs, xs[i], e.seq h, List.getElem?_eq_getElem hi⟩
  stop := fun i H1 e hi => ⟨xs, e.seq h, hi⟩
  yld := fun i x H1 H' e _ y => ⟨by rw [y.1]; exact Same.refl _, y.2 xs (e.seq h)⟩
theorem wk_tup {K : PySem.W.Frag} {a : Addr} {xs : List V} {H : Hp} (h : H a = some (.tup xs)) : Wk (Itt K a) H xs.length fun i x _ => xs[i]? = some x where
  go := fun i H1 e hi => ⟨xs, xs[i], SqT.of (e a _ h), List.getElem?_eq_getElem hi⟩
  stop := fun i H1 e hi => ⟨xs, SqT.of (e a _ h), hi⟩
  yld := fun i x H1 H' e _ y => ⟨by rw [y.1]; exact Same.refl _, y.2 xs (SqT.of (e a _ h))⟩
theorem wk_range {lo : Int} {n : Nat} {H : Hp} : Wk (Itr lo n) H n fun i x _ => x = .int (lo + i) where
  go := fun i H1 _ hi => hi
  stop := fun i H1 _ hi => hi
  yld := fun i x H1 H' _ _ y => ⟨by rw [y.1]; exact Same.refl _, y.2⟩
/-- the data that a comprehension gives: f tells which turns are kept, d what they give -/
def gives (n : Nat) (f : Nat → Bool) (d : Nat → D) : List D := ((List.range n).filter f).map d
theorem gives_succ {n : Nat} {f : Nat → Bool} {d : Nat → D} : gives (n + 1) f d = if f n = true then gives n f d ++ [d n] else gives n f d := by
  unfold gives
  rw [List.range_succ, List.filter_append, List.map_append]
  by_cases h : f n = true
  · rw [if_pos h, List.filter_cons_of_pos h]; rfl
  · rw [if_neg h, List.filter_cons_of_neg h]
    exact List.append_nil _
theorem gives_len (n : Nat) (f : Nat → Bool) (d : Nat → D) : (gives n f d).length ≤ n := by
  unfold gives
  rw [List.length_map]
  exact Nat.le_trans (List.length_filter_le _ _) (by rw [List.length_range]; exact Nat.le_refl _)
theorem gives_all (n : Nat) (d : Nat → D) : gives n (fun _ => true) d = (List.range n).map d := by
  unfold gives
  rw [List.filter_eq_self.mpr (fun _ _ => rfl)]
theorem RpL.snoc {H : Hp} : ∀ {ds : List D} {vs : List V} {d : D} {v : V}, RpL H ds vs → Rp H d v → RpL H (ds ++ [d]) (vs ++ [v])
  | [], _, d, v, h, hv => by rw [show _ = [] from h]; exact ⟨v, [], rfl, hv, rfl⟩
  | e :: ds, _, d, v, ⟨w, r, eq, h, q⟩, hv => by rw [eq]; exact ⟨w, r ++ [v], rfl, h, RpL.snoc q hv⟩
theorem sz_of {n : Nat} (h : n < 1000000) : n < sizeLine := by rw [sizeLine_eq]; omega
theorem sz_le {n : Nat} (h : n ≤ 1000000) : n ≤ sizeLine := by rw [sizeLine_eq]; omega
/-- a list of data at p -/
def LsD (H : Hp) (p : Addr) (ds : List D) : Prop := ∃ vs, H p = some (.lst vs) ∧ RpL H ds vs
theorem LsD.at {H H' : Hp} {p : Addr} {ds : List D} (h : LsD H p ds) (e : Same H H') : LsD H' p ds := let ⟨vs, h1, h2⟩ := h; ⟨vs, e p _ h1, h2.at (Tups.of_same e)⟩
theorem lcD {J : It} {g : TG} {tt : TT} {te : TE} {vs : List Nat} {σ : L2.St} {H : Hp} {Q : VK} {n : Nat} {Y : Nat → V → Hp → Prop} (wk : Wk J H n Y) (hn : n < 1000000) (f : Nat → Bool) (d : Nat → D)
    (turn : ∀ i x H1, Same H H1 → i < n → Y i x H1 → ∀ (A : V → Hp → Prop) (B : Hp → Prop), (f i = true → ∀ v H2, Same H1 H2 → Rp H2 (d i) v → A v H2) → (f i = false → ∀ H2, Same H1 H2 → B H2) →
      g x (wipe σ vs) H1 fun σ2 H2 => wipe σ2 vs = wipe σ vs ∧ tt σ2 H2 fun b H3 => if b = true then te σ2 H3 A else B H3)
    (done : ∀ p H', H p = none → Same H H' → LsD H' p (gives n f d) → Q (.ref p) H') : LcI J g tt te vs σ H Q := by
  unfold LcI
  intro D hD
  refine ⟨fun i m H' => m = n - i ∧ i ≤ n ∧ Same H H' ∧ LsD H' D (gives i f d), ⟨n, rfl, Nat.zero_le _, same_new hD, [], upd_same, rfl⟩, ?_⟩
  rintro i m H1 ⟨rfl, hi, e1, acc, ha, hr⟩
  by_cases hlt : i < n
  · refine .inr ⟨wk.go i H1 e1 hlt, fun H' => i + 1 ≤ n ∧ Same H H' ∧ LsD H' D (gives (i + 1) f d), fun H' q => ⟨n - (i + 1), by omega, rfl, q⟩, fun x H' y => ?_⟩
    obtain ⟨e2, hY⟩ := wk.yld i x H1 H' e1 hlt y
    refine turn i x H' (e1.trans e2) hlt hY _ _ (fun hf v H2 e3 hv => ?_) (fun hf H2 e3 => ?_)
    · have e12 : Same H1 H2 := e2.trans e3
      have hr2 : RpL H2 (gives i f d) acc := hr.at (Tups.of_same e12)
      refine ⟨acc, e12 _ _ ha, sz_of (by rw [hr.length]; have := gives_len i f d; omega), hlt, same_mut (e1.trans e12) hD, acc ++ [v], upd_same, ?_⟩
      rw [gives_succ, if_pos hf]
      have t : Tups H2 (upd H2 D (.lst (acc ++ [v]))) := fun b xs hb => by
        rw [upd_ne]
        · exact hb
        · intro z
          rw [z, e12 _ _ ha] at hb
          cases hb
      exact (hr2.snoc hv).at t
    · refine ⟨hlt, e1.trans (e2.trans e3), acc, (e2.trans e3) _ _ ha, ?_⟩
      rw [gives_succ, if_neg (by rw [hf]; exact Bool.false_ne_true)]
      exact hr.at (Tups.of_same (e2.trans e3))
  · have e : i = n := by omega
    subst e
    exact .inl ⟨wk.stop i H1 e1 (Nat.le_refl _), done D H1 hD e1 ⟨acc, ha, hr⟩⟩
/-- a for by its invariant, over what stands -/
theorem forI {J : It} {g : TG} {tb : TS} {D : Ends} {σ : L2.St} {H : Hp} {n : Nat} {Y : Nat → V → Hp → Prop} {H0 : Hp} (wk : Wk J H0 n Y) (Pv : Nat → L2.St → Hp → Prop) (h0 : Pv 0 σ H) (hl : ∀ i σ H, Pv i σ H → Same H0 H)
    (hs : ∀ i x σ H H', i < n → Pv i σ H → Same H H' → Y i x H' → g x σ H' fun σ2 H2 => tb { D with nx := Pv (i + 1), ct := Pv (i + 1), bk := D.nx } σ2 H2) (hd : ∀ σ H, Pv n σ H → D.nx σ H) : ForI J g tb D σ H := by
  unfold ForI
  refine ⟨fun i m σ H => m = n - i ∧ i ≤ n ∧ Pv i σ H, ⟨n, rfl, Nat.zero_le _, h0⟩, ?_⟩
  rintro i m σ1 H1 ⟨rfl, hi, p⟩
  by_cases hlt : i < n
  · refine .inr ⟨wk.go i H1 (hl i σ1 H1 p) hlt, Pv (i + 1), fun σ' H' p' => ⟨n - (i + 1), by omega, rfl, hlt, p'⟩, fun x H' y => ?_⟩
    obtain ⟨e2, hY⟩ := wk.yld i x H1 H' (hl i σ1 H1 p) hlt y
    exact hs i x σ1 H1 H' hlt p e2 hY
  · have e : i = n := by omega
    subst e
    exact .inl ⟨wk.stop i H1 (hl i σ1 H1 p) (Nat.le_refl _), hd σ1 H1 p⟩
/-- a for whose body changes what J leans on not at all: ok tells the heaps in which J walks -/
structure WkO (J : It) (ok : Hp → Prop) (n : Nat) (Y : Nat → V → Hp → Prop) : Prop where
  go : ∀ i H1, ok H1 → i < n → J.go i H1
  stop : ∀ i H1, ok H1 → n ≤ i → J.stop i H1
  yld : ∀ i x H1 H', ok H1 → i < n → J.yld i H1 x H' → Same H1 H' ∧ Y i x H'
theorem wko_list {K : PySem.W.Frag} {a : Addr} {xs : List V} : WkO (Itl K a) (fun H => H a = some (.lst xs)) xs.length fun i x _ => xs[i]? = some x where
  go := fun i H1 e hi => ⟨xs, xs[i], SqL.of e, List.getElem?_eq_getElem hi⟩
  stop := fun i H1 e hi => ⟨xs, SqL.of e, hi⟩
  yld := fun i x H1 H' e _ y => ⟨by rw [y.1]; exact Same.refl _, y.2 xs (SqL.of e)⟩
theorem wko_listS {K : PySem.W.Frag} {a : Addr} {xs : List V} : WkO (Itl K a) (fun H => SqL K H a xs) xs.length fun i x _ => xs[i]? = some x where
  go := fun i H1 e hi => ⟨xs, xs[i], e, List.getElem?_eq_getElem hi⟩
  stop := fun i H1 e hi => ⟨xs, e, hi⟩
  yld := fun i x H1 H' e _ y => ⟨by rw [y.1]; exact Same.refl _, y.2 xs e⟩
theorem wko_tup {K : PySem.W.Frag} {a : Addr} {xs : List V} : WkO (Itt K a) (fun H => H a = some (.tup xs)) xs.length fun i x _ => xs[i]? = some x where
  go := fun i H1 e hi => ⟨xs, xs[i], SqT.of e, List.getElem?_eq_getElem hi⟩
  stop := fun i H1 e hi => ⟨xs, SqT.of e, hi⟩
  yld := fun i x H1 H' e _ y => ⟨by rw [y.1]; exact Same.refl _, y.2 xs (SqT.of e)⟩
theorem wko_range {lo : Int} {n : Nat} : WkO (Itr lo n) (fun _ => True) n fun i x _ => x = .int (lo + i) where
  go := fun i H1 _ hi => hi
  stop := fun i H1 _ hi => hi
  yld := fun i x H1 H' _ _ y => ⟨by rw [y.1]; exact Same.refl _, y.2⟩
theorem forO {J : It} {g : TG} {tb : TS} {D : Ends} {σ : L2.St} {H : Hp} {n : Nat} {Y : Nat → V → Hp → Prop} {ok : Hp → Prop} (wk : WkO J ok n Y) (Pv : Nat → L2.St → Hp → Prop) (h0 : Pv 0 σ H) (hl : ∀ i σ H, Pv i σ H → ok H)
    (hs : ∀ i x σ H H', i < n → Pv i σ H → Same H H' → Y i x H' → g x σ H' fun σ2 H2 => tb { D with nx := Pv (i + 1), ct := Pv (i + 1), bk := D.nx } σ2 H2) (hd : ∀ σ H, Pv n σ H → D.nx σ H) : ForI J g tb D σ H := by
  unfold ForI
  refine ⟨fun i m σ H => m = n - i ∧ i ≤ n ∧ Pv i σ H, ⟨n, rfl, Nat.zero_le _, h0⟩, ?_⟩
  rintro i m σ1 H1 ⟨rfl, hi, p⟩
  by_cases hlt : i < n
  · refine .inr ⟨wk.go i H1 (hl i σ1 H1 p) hlt, Pv (i + 1), fun σ' H' p' => ⟨n - (i + 1), by omega, rfl, hlt, p'⟩, fun x H' y => ?_⟩
    obtain ⟨e2, hY⟩ := wk.yld i x H1 H' (hl i σ1 H1 p) hlt y
    exact hs i x σ1 H1 H' hlt p e2 hY
  · have e : i = n := by omega
    subst e
    exact .inl ⟨wk.stop i H1 (hl i σ1 H1 p) (Nat.le_refl _), hd σ1 H1 p⟩
theorem RpL.ints {H : Hp} : ∀ {is : List Int} {vs : List V}, RpL H (is.map D.int) vs ↔ vs = is.map V.int
  | [], vs => Iff.rfl
  | i :: is, vs => by
    rw [List.map_cons, List.map_cons]
    constructor
    · rintro ⟨v, r, e, h, q⟩
      rw [e, show v = .int i from h, RpL.ints.mp q]
    · intro e
      exact ⟨.int i, is.map V.int, e, rfl, RpL.ints.mpr rfl⟩
end Gr
namespace Gr
open PySem PySem.Spec PyProof.Rows L2
section
variable {X : Cx} {tg : Expr}
def iLst (K : PySem.W.Frag) (tl : TE) : TI := fun σ H R => tl σ H fun x H1 => ∃ a xs, x = .ref a ∧ H1 a = some (.lst xs) ∧ R (Itl K a) H1
def iTpl (K : PySem.W.Frag) (tl : TE) : TI := fun σ H R => tl σ H fun x H1 => ∃ a xs, x = .ref a ∧ H1 a = some (.tup xs) ∧ R (Itt K a) H1
theorem pi_l {K : PySem.W.Frag} {l : Expr} {tl : TE} (hK : X.K = K) (hl : PE X l tl) : PI X tg l (iLst K tl) := by
  subst hK
  exact ⟨fun pins s σ H R I h => (pi_list (tg := tg) (pe_up hl)).run pins s σ H R I ⟨_, h, fun _ _ ⟨a, xs, e, h1, q⟩ => ⟨a, e, ⟨xs, SqL.of h1⟩, q⟩⟩⟩
theorem pi_t {K : PySem.W.Frag} {l : Expr} {tl : TE} (hK : X.K = K) (hl : PE X l tl) : PI X tg l (iTpl K tl) := by
  subst hK
  exact ⟨fun pins s σ H R I h => (pi_tup (tg := tg) (pe_up hl)).run pins s σ H R I ⟨_, h, fun _ _ ⟨a, xs, e, h1, q⟩ => ⟨a, e, ⟨xs, SqT.of h1⟩, q⟩⟩⟩
end
end Gr
/-! ### sets of hands as numbers -/
namespace Gr
open PySem PySem.Spec PyProof.Rows L2
theorem bitAnd_c (a b : Nat) : Builtin.bitAnd (a : Int) (b : Int) = ((a &&& b : Nat) : Int) := by
  rw [bitAnd_pp (Int.natCast_nonneg _) (Int.natCast_nonneg _), Int.toNat_natCast, Int.toNat_natCast]
theorem bitOr_c (a b : Nat) : Builtin.bitOr (a : Int) (b : Int) = ((a ||| b : Nat) : Int) := by
  rw [Bits.bitOr_pp (Int.natCast_nonneg _) (Int.natCast_nonneg _), Int.toNat_natCast, Int.toNat_natCast]
theorem pow_c (k : Nat) : (2 : Int) ^ k = ((2 ^ k : Nat) : Int) := by simp
theorem shl1_c (k : Nat) : (1 : Int) * 2 ^ k = ((2 ^ k : Nat) : Int) := by
  rw [Int.one_mul, pow_c]
theorem shr_c (n k : Nat) : (n : Int) / 2 ^ k = ((n / 2 ^ k : Nat) : Int) := by
  rw [pow_c, Int.natCast_ediv]
theorem bit_c (n k : Nat) : decide (Builtin.bitAnd ((n : Int) / 2 ^ k) 1 = 1) = n.testBit k := by
  rw [shr_c, show (1 : Int) = ((1 : Nat) : Int) from rfl, bitAnd_c, Nat.testBit_eq_decide_div_mod_eq]
  have e : n / 2 ^ k &&& 1 = n / 2 ^ k % 2 := Nat.and_one_is_mod _
  rw [e]
  by_cases h : n / 2 ^ k % 2 = 1
  · rw [h]; rfl
  · rw [decide_eq_false h, decide_eq_false]
    intro z
    exact h (by omega)
/-- how many bits are set -/
def pc (n : Nat) : Nat := if h : n = 0 then 0 else n % 2 + pc (n / 2)
termination_by n
decreasing_by omega
theorem pc_zero : pc 0 = 0 := by unfold pc; rfl
theorem pc_pos {n : Nat} (h : n ≠ 0) : pc n = n % 2 + pc (n / 2) := by
  rw [pc]
  rw [dif_neg h]
theorem pc_two (m : Nat) : pc (2 * m) = pc m := by
  by_cases h : m = 0
  · subst h; rfl
  · rw [pc_pos (by omega), show 2 * m % 2 = 0 by omega, show 2 * m / 2 = m by omega, Nat.zero_add]
theorem pc_two1 (m : Nat) : pc (2 * m + 1) = pc m + 1 := by
  rw [pc_pos (by omega), show (2 * m + 1) % 2 = 1 by omega, show (2 * m + 1) / 2 = m by omega, Nat.add_comm]
theorem and_two1 (a b : Nat) : 2 * a &&& (2 * b + 1) = 2 * (a &&& b) := by
  apply Nat.eq_of_testBit_eq
  intro i
  cases i with
  | zero => simp [Nat.testBit_and]
  | succ i =>
    rw [Nat.testBit_and, Nat.testBit_succ, Nat.testBit_succ, Nat.testBit_succ, show 2 * a / 2 = a by omega, show (2 * b + 1) / 2 = b by omega, show 2 * (a &&& b) / 2 = a &&& b by omega, Nat.testBit_and]
theorem pc_drop {n : Nat} (h : 0 < n) : pc (n &&& (n - 1)) + 1 = pc n := by
  induction n using Nat.strongRecOn with
  | _ n ih =>
    have eo : n = 2 * (n / 2) ∨ n = 2 * (n / 2) + 1 := by omega
    generalize n / 2 = m at eo
    rcases eo with e | e
    · have hm : 0 < m := by omega
      have i := ih m (by omega) hm
      have e2 : n - 1 = 2 * (m - 1) + 1 := by omega
      rw [e2, e, and_two1, pc_two, pc_two]
      exact i
    · have e2 : n - 1 = 2 * m := by omega
      rw [e2, e, Nat.and_comm, and_two1, pc_two, pc_two1, Nat.and_self]
end Gr
/-! ### assoc lists of data -/
namespace Gr
open PySem PySem.Spec PyProof.Rows L2
section
variable {κ α : Type} [DecidableEq κ]
def getA (m : List (κ × α)) (k : κ) : Option α := (m.find? fun p => decide (p.1 = k)).map (·.2)
def putA (m : List (κ × α)) (k : κ) (x : α) : List (κ × α) := if (m.any fun p => decide (p.1 = k)) = true then m.map fun p => if p.1 = k then (p.1, x) else p else m ++ [(k, x)]
theorem getA_nil {k : κ} : getA ([] : List (κ × α)) k = none := rfl
theorem getA_pos {p : κ × α} {r : List (κ × α)} {k : κ} (e : p.1 = k) : getA (p :: r) k = some p.2 := by simp [getA, List.find?_cons, e]
theorem getA_neg {p : κ × α} {r : List (κ × α)} {k : κ} (e : ¬ p.1 = k) : getA (p :: r) k = getA r k := by simp [getA, List.find?_cons, e]
theorem getA_any (k : κ) : ∀ m : List (κ × α), (m.any fun p => decide (p.1 = k)) = (getA m k).isSome
  | [] => rfl
  | p :: m => by
    by_cases e : p.1 = k
    · rw [getA_pos e]; simp [e]
    · rw [getA_neg e, List.any_cons, decide_eq_false e, Bool.false_or]
      exact getA_any k m
theorem getA_put (m : List (κ × α)) (k j : κ) (x : α) : getA (putA m k x) j = if j = k then some x else getA m j := by
  unfold putA
  by_cases h : (m.any fun p => decide (p.1 = k)) = true
  · rw [if_pos h]
    have hs : (getA m k).isSome = true := by rw [← getA_any]; exact h
    clear h
    induction m with
    | nil => simp [getA] at hs
    | cons p m ih =>
      rw [List.map_cons]
      by_cases e : p.1 = k
      · rw [if_pos e]
        by_cases ej : j = k
        · rw [if_pos ej, getA_pos (show (p.1, x).1 = j by rw [ej]; exact e)]
        · rw [if_neg ej, getA_neg (show ¬ (p.1, x).1 = j from fun z => ej (z.symm.trans e)), getA_neg (fun z => ej (z.symm.trans e))]
          have key : ∀ l : List (κ × α), getA (l.map fun p => if p.1 = k then (p.1, x) else p) j = getA l j := by
            intro l
            induction l with
            | nil => rfl
            | cons q l il =>
              rw [List.map_cons]
              by_cases eq : q.1 = k
              · rw [if_pos eq, getA_neg (show ¬ (q.1, x).1 = j from fun z => ej (z.symm.trans eq)), getA_neg (fun z => ej (z.symm.trans eq))]
                exact il
              · rw [if_neg eq]
                by_cases ej2 : q.1 = j
                · rw [getA_pos ej2, getA_pos ej2]
                · rw [getA_neg ej2, getA_neg ej2]
                  exact il
          exact key m
      · rw [if_neg e]
        rw [getA_neg e] at hs
        by_cases ej : p.1 = j
        · rw [getA_pos ej, if_neg (fun z => e (ej.trans z)), getA_pos ej]
        · rw [getA_neg ej, getA_neg ej]
          exact ih hs
  · rw [if_neg h]
    have hs : getA m k = none := by
      have q := getA_any k m
      cases g : getA m k with
      | none => rfl
      | some y => rw [g] at q; exact absurd q h
    clear h
    induction m with
    | nil =>
      by_cases ej : j = k
      · rw [if_pos ej]; exact getA_pos (p := (k, x)) ej.symm
      · rw [if_neg ej]; exact getA_neg (p := (k, x)) fun z => ej z.symm
    | cons p m ih =>
      have e : ¬ p.1 = k := fun z => by rw [getA_pos z] at hs; cases hs
      rw [getA_neg e] at hs
      rw [List.cons_append]
      by_cases ej : p.1 = j
      · rw [getA_pos ej, if_neg (fun z => e (ej.trans z)), getA_pos ej]
      · rw [getA_neg ej, getA_neg ej]
        exact ih hs
theorem putA_len (m : List (κ × α)) (k : κ) (x : α) : (putA m k x).length ≤ m.length + 1 := by
  unfold putA
  by_cases h : (m.any fun p => decide (p.1 = k)) = true
  · rw [if_pos h, List.length_map]; omega
  · rw [if_neg h, List.length_append]; exact Nat.le_refl _
end
theorem getA_valV {κ : Type} [DecidableEq κ] (m : List (κ × V)) (k : κ) : valV m k = getA m k := rfl
theorem putA_putK {κ : Type} [DecidableEq κ] (m : List (κ × V)) (k : κ) (v : V) : putK m k v = putA m k v := rfl
/-- the dict's pairs stand for the data -/
def RpM {κ : Type} (H : Hp) : List (κ × D) → List (κ × V) → Prop
  | [], m => m = []
  | kd :: r, m => ∃ v m', m = (kd.1, v) :: m' ∧ Rp H kd.2 v ∧ RpM H r m'
section
variable {κ : Type} {H H' : Hp}
theorem RpM.at (t : Tups H H') : ∀ {kd : List (κ × D)} {m : List (κ × V)}, RpM H kd m → RpM H' kd m
  | [], _, h => h
  | _ :: _, _, ⟨v, m', e, h, q⟩ => ⟨v, m', e, h.at t, RpM.at t q⟩
theorem RpM.length : ∀ {kd : List (κ × D)} {m : List (κ × V)}, RpM H kd m → m.length = kd.length
  | [], _, h => by rw [show _ = [] from h]; rfl
  | _ :: _, _, ⟨v, m', e, h, q⟩ => by rw [e, List.length_cons, List.length_cons, RpM.length q]
theorem RpM.keys : ∀ {kd : List (κ × D)} {m : List (κ × V)}, RpM H kd m → m.map (·.1) = kd.map (·.1)
  | [], _, h => by rw [show _ = [] from h]; rfl
  | _ :: _, _, ⟨v, m', e, h, q⟩ => by rw [e, List.map_cons, List.map_cons, RpM.keys q]
variable [DecidableEq κ]
theorem RpM.get : ∀ {kd : List (κ × D)} {m : List (κ × V)} (k : κ), RpM H kd m → (getA kd k = none ∧ getA m k = none) ∨ ∃ d v, getA kd k = some d ∧ getA m k = some v ∧ Rp H d v
  | [], _, k, h => by rw [show _ = [] from h]; exact .inl ⟨rfl, rfl⟩
  | (j, d) :: r, _, k, ⟨v, m', e, h, q⟩ => by
    subst e
    by_cases ej : j = k
    · exact .inr ⟨d, v, getA_pos ej, getA_pos ej, h⟩
    · rw [getA_neg (p := (j, d)) ej, getA_neg (p := (j, v)) ej]
      exact RpM.get k q
theorem RpM.app : ∀ {kd : List (κ × D)} {m : List (κ × V)} {k : κ} {d : D} {v : V}, RpM H kd m → Rp H d v → RpM H (kd ++ [(k, d)]) (m ++ [(k, v)])
  | [], _, k, d, v, h, hv => by rw [show _ = [] from h]; exact ⟨v, [], rfl, hv, rfl⟩
  | (j, e) :: r, _, k, d, v, ⟨u, m', eq, h, q⟩, hv => by rw [eq]; exact ⟨u, m' ++ [(k, v)], rfl, h, RpM.app q hv⟩
theorem RpM.repl {k : κ} {d : D} {v : V} (hv : Rp H d v) : ∀ {kd : List (κ × D)} {m : List (κ × V)}, RpM H kd m →
    RpM H (kd.map fun p => if p.1 = k then (p.1, d) else p) (m.map fun p => if p.1 = k then (p.1, v) else p)
  | [], _, h => by rw [show _ = [] from h]; exact rfl
  | (j, e) :: r, _, ⟨u, m', eq, h, q⟩ => by
    subst eq
    have ih := RpM.repl (k := k) hv q
    rw [List.map_cons, List.map_cons]
    by_cases ej : j = k
    · rw [if_pos (show (j, e).1 = k from ej), if_pos (show ((j, e).1, u).1 = k from ej)]
      exact ⟨v, _, rfl, hv, ih⟩
    · rw [if_neg (show ¬ (j, e).1 = k from ej), if_neg (show ¬ ((j, e).1, u).1 = k from ej)]
      exact ⟨u, _, rfl, h, ih⟩
theorem RpM.put {kd : List (κ × D)} {m : List (κ × V)} {k : κ} {d : D} {v : V} (h : RpM H kd m) (hv : Rp H d v) : RpM H (putA kd k d) (putA m k v) := by
  unfold putA
  rw [getA_any, getA_any]
  rcases h.get k with ⟨e1, e2⟩ | ⟨d', v', e1, e2, _⟩
  · rw [e1, e2, if_neg (by simp), if_neg (by simp)]
    exact h.app hv
  · rw [e1, e2, if_pos (by simp), if_pos (by simp)]
    exact h.repl hv
end
theorem Rp.ne_non {H : Hp} {d : D} {v : V} (h : Rp H d v) (n : d ≠ .non) : v ≠ .non := by
  cases d with
  | non => exact absurd rfl n
  | bl b => rw [show v = .bl b from h]; intro z; cases z
  | int b => rw [show v = .int b from h]; intro z; cases z
  | str b => rw [show v = .str b from h]; intro z; cases z
  | tup ds => obtain ⟨a, vs, e, _⟩ := h; rw [e]; intro z; cases z
end Gr
namespace Gr
open PySem PySem.Spec PyProof.Rows L2
theorem upd_off {a b : Addr} (h : b ≠ a) : ∀ (H : Hp) (o : HO), upd H a o b = H b := fun _ _ => upd_ne h
theorem putF_new {ns : List Str} {vs : List V} {x : Str} {y : V} (h : x ∉ ns) (hl : vs.length = ns.length) : putF x y (ns.zip vs) = (ns ++ [x]).zip (vs ++ [y]) := by
  induction ns generalizing vs with
  | nil =>
    have e : vs = [] := List.eq_nil_of_length_eq_zero (by simpa using hl)
    subst e; rfl
  | cons n ns ih =>
    cases vs with
    | nil => simp at hl
    | cons v vs =>
      have hn : ¬ n = x := fun z => h (by rw [z]; exact List.mem_cons_self ..)
      rw [List.zip_cons_cons]
      show putF x y ((n, v) :: ns.zip vs) = _
      unfold putF
      rw [if_neg hn, ih (fun z => h (List.mem_cons_of_mem _ z)) (by simpa using hl)]
      rfl
/-- an address that is free behind a store was free ahead of it -/
theorem free_upd {H : Hp} {a b : Addr} {o : HO} (h : upd H a o b = none) : H b = none ∧ a ≠ b := by
  have ne : a ≠ b := fun z => by subst z; rw [upd_same] at h; cases h
  rw [upd_ne ne.symm] at h
  exact ⟨h, ne⟩
end Gr
namespace Gr
open PySem PySem.Spec PyProof.Rows L2
theorem Fr.put {fp : List Addr} {H H' : Hp} {p : Addr} {o : HO} (f : Fr fp H H') (h : p ∈ fp ∨ H p = none) : Fr fp H (upd H' p o) := fun b x e n => by
  have ne : b ≠ p := by
    intro z
    subst z
    rcases h with h | h
    · exact n h
    · rw [e] at h; cases h
  rw [upd_ne ne]
  exact f b x e n
theorem Tups.put {H H' : Hp} {p : Addr} {o : HO} (t : Tups H H') (h : ∀ xs, H p ≠ some (.tup xs)) : Tups H (upd H' p o) := fun b xs e => by
  have ne : b ≠ p := fun z => by subst z; exact h xs e
  rw [upd_ne ne]
  exact t b xs e
theorem Same.put {H H' : Hp} {p : Addr} {o : HO} (s : Same H H') (h : H p = none) : Same H (upd H' p o) := same_mut s h
end Gr
namespace Gr
open PySem PySem.Spec PyProof.Rows L2
theorem upd_old {H : Hp} {q a : Addr} {u : HO} (h1 : H q = none) (h2 : (H a).isSome = true) : upd H q u a = H a := upd_ne fun z => by
  subst z
  rw [h1] at h2
  cases h2
end Gr
namespace Gr
open PySem PySem.Spec PyProof.Rows L2
theorem Fr.put' {fp : List Addr} {H H' : Hp} {p : Addr} {o : HO} (h : p ∈ fp ∨ H p = none) (f : Fr fp H H') : Fr fp H (upd H' p o) := f.put h
theorem Tups.put' {H H' : Hp} {p : Addr} {o : HO} (h : ∀ xs, H p ≠ some (.tup xs)) (t : Tups H H') : Tups H (upd H' p o) := t.put h
theorem Same.put' {H H' : Hp} {p : Addr} {o : HO} (h : H p = none) (s : Same H H') : Same H (upd H' p o) := same_mut s h
theorem not_tup_of {H : Hp} {p : Addr} {o : HO} (h : H p = some o) (n : ∀ xs, o ≠ .tup xs) : ∀ xs, H p ≠ some (.tup xs) := fun xs z => n xs (Option.some.inj (h.symm.trans z))
theorem not_tup_none {H : Hp} {p : Addr} (h : H p = none) : ∀ xs, H p ≠ some (.tup xs) := fun xs z => by rw [h] at z; cases z
end Gr
namespace Gr
open PySem PySem.Spec PyProof.Rows L2
theorem upd_none {H : Hp} {a b : Addr} {o : HO} : (upd H a o b = none) ↔ (b ≠ a ∧ a ≠ b ∧ H b = none) :=
  ⟨fun h => let ⟨x, y⟩ := free_upd h; ⟨y.symm, y, x⟩, fun ⟨x, _, y⟩ => by rw [upd_ne x]; exact y⟩
end Gr
namespace Gr
/-- hidden from simp -/
structure Hd (p : Prop) : Prop where
  out : p
end Gr
namespace Gr
open PySem PySem.Spec PyProof.Rows L2
/-- t is free in H -/
structure Fz (H : Hp) (t : Addr) : Prop where
  out : H t = none
/-- told so that simp tells the free address from those that stand -/
theorem none_fz {H : Hp} {t : Addr} : (H t = none) ↔ (∀ x, (H x).isSome = true → ¬ x = t) ∧ (∀ x, (H x).isSome = true → ¬ t = x) ∧ Fz H t :=
  ⟨fun h => ⟨fun x hx z => (by rw [z, h] at hx; cases hx), fun x hx z => (by rw [← z, h] at hx; cases hx), ⟨h⟩⟩, fun h => h.2.2.out⟩
end Gr

/-! # GApp: the readings' words, applied; a statement at a time -/
namespace Gr
open PySem PySem.Spec PyProof.Rows L2
/-- what follows a statement, not yet looked at -/
@[irreducible] def Cn (u : TS) (D : Ends) : L2.St → Hp → Prop := u D
theorem Cn.go {u : TS} {D : Ends} {σ : L2.St} {H : Hp} (h : u D σ H) : Cn u D σ H := by
  unfold Cn
  exact h
section
variable {t u : TS} {D : Ends} {σ : L2.St} {H : Hp} {Q : VK} {R : Bool → Hp → Prop} {c : TT} {te ta tb ty tx td tv to : TE} {g : TG} {gs : TGs} {i n : Nat} {v x : V} {vs : List V} {S : L2.St → Hp → Prop} {A : TA} {QA : List V → Hp → Prop} {r : R2} {f m : Str} {C : Addr} {sp : Sp} {E : XK} {ru : V → Hp → VK → Prop} {rc : List V → Hp → VK → Prop} {tt t1 t2 : TT}
theorem a_seq : tSeq t u D σ H = t { D with nx := Cn u D } σ H := by
  unfold Cn
  rfl
theorem a_next : tNext D σ H = D.nx σ H := rfl
theorem a_ifS : tIfS c t u D σ H = c σ H fun b H1 => if b = true then t D σ H1 else u D σ H1 := rfl
theorem a_asg : tAsg te g D σ H = te σ H fun x H1 => g x σ H1 D.nx := rfl
theorem a_ret : tRet te D σ H = te σ H D.rt := rfl
theorem a_retN : tRetN D σ H = D.rt .non H := rfl
theorem a_drop : tDrop te D σ H = te σ H fun _ H1 => D.nx σ H1 := rfl
theorem a_break : tBreak D σ H = D.bk σ H := rfl
theorem a_cont : tCont D σ H = D.ct σ H := rfl
theorem a_test : tTest te σ H R = te σ H fun x H' => ∃ k, x = .bl k ∧ R k H' := rfl
theorem a_b : tB te σ H R = te σ H fun x H1 => ∃ c, x = .bl c ∧ R c H1 := rfl
theorem a_op : tOp r ta tb σ H Q = ta σ H fun x H1 => tb σ H1 fun y H2 => r x y H2 Q := rfl
theorem a_un : tUn ru ta σ H Q = ta σ H fun x H1 => ru x H1 Q := rfl
theorem a_var : tVar i σ H Q = ∃ v, σ[i]? = some (some v) ∧ Q v H := rfl
theorem a_c : tC v σ H Q = Q v H := rfl
theorem a_name : gName i v σ H S = S (σ.set i (some v)) H := rfl
theorem a_tupt : gTupt n gs v σ H S = ∃ a xs, v = .ref a ∧ H a = some (.tup xs) ∧ xs.length = n ∧ gs xs σ H S := rfl
theorem a_gcons {u : TGs} : gCons g u vs σ H S = ∃ v r, vs = v :: r ∧ g v σ H fun σ' H' => u r σ' H' S := rfl
theorem a_gnil : gNil vs σ H S = (vs = [] ∧ S σ H) := rfl
theorem a_gsub {ts : TSet} : gSub to ty ts v σ H S = to σ H fun o H1 => ty σ H1 fun i H2 => ts o i v H2 fun H3 => S σ H3 := rfl
theorem a_call {dvs : List V} : tCall sp dvs E A σ H Q = A σ H fun vs H1 => sp (vs ++ dvs) H1 Q E := rfl
theorem a_meth {dvs : List V} : tMeth C m sp dvs E ta A σ H Q = ta σ H fun x H1 => ∃ a dx fs, x = .ref a ∧ H1 a = some (.ins C dx fs) ∧ fs.lookup m = none ∧ A σ H1 fun vs H2 => sp (x :: (vs ++ dvs)) H2 Q E := rfl
theorem a_make {dvs : List V} : tMake C sp dvs E A σ H Q = A σ H fun vs H1 => ∀ x dx, H1 x = none → H1 dx = none → dx ≠ x → sp (.ref x :: (vs ++ dvs)) (upd (upd H1 dx (.own x)) x (.ins C dx [])) (fun v H2 => v = .non ∧ Q (.ref x) H2) E := rfl
theorem a_cb : tCB rc A σ H Q = A σ H fun vs H1 => rc vs H1 Q := rfl
theorem a_cons : tCons ta A σ H QA = ta σ H fun x H1 => A σ H1 fun xs H2 => QA (x :: xs) H2 := rfl
theorem a_nil : tNil σ H QA = QA [] H := rfl
theorem a_fldC : tFldC C ta f σ H Q = ta σ H fun x H1 => ∃ a dx fs v, x = .ref a ∧ H1 a = some (.ins C dx fs) ∧ fs.lookup f = some v ∧ Q v H1 := rfl
theorem a_sfldC : sFldC C ta tv f D σ H = tv σ H fun y H1 => ta σ H1 fun x H2 => ∃ a dx fs, x = .ref a ∧ H2 a = some (.ins C dx fs) ∧ fs.length < 1000 ∧ D.nx σ (upd H2 a (.ins C dx (putF f y fs))) := rfl
theorem a_not : tNot t1 σ H R = t1 σ H fun c H1 => R (!c) H1 := rfl
theorem a_and : tAnd t1 t2 σ H R = t1 σ H fun c H1 => if c = true then t2 σ H1 R else R false H1 := rfl
theorem a_or : tOr t1 t2 σ H R = t1 σ H fun c H1 => if c = true then R true H1 else t2 σ H1 R := rfl
theorem a_andV : tAndV ta tb σ H Q = ta σ H fun x H1 => ∃ c, x = .bl c ∧ if c = true then tb σ H1 Q else Q (.bl false) H1 := rfl
theorem a_orV : tOrV ta tb σ H Q = ta σ H fun x H1 => ∃ c, x = .bl c ∧ if c = true then Q (.bl true) H1 else tb σ H1 Q := rfl
theorem a_notV : tNotV ta σ H Q = ta σ H fun x H1 => ∃ c, x = .bl c ∧ Q (.bl (!c)) H1 := rfl
theorem a_if : tIf t1 ta tb σ H Q = t1 σ H fun c H1 => if c = true then ta σ H1 Q else tb σ H1 Q := rfl
theorem a_tup : tTup A σ H Q = A σ H fun xs H1 => xs.length ≤ sizeLine ∧ ∀ p, H1 p = none → Q (.ref p) (upd H1 p (.tup xs)) := rfl
theorem a_lst : tLst A σ H Q = A σ H fun xs H1 => xs.length ≤ sizeLine ∧ ∀ p, H1 p = none → Q (.ref p) (upd H1 p (.lst xs)) := rfl
theorem a_dget : tDGet td ty σ H Q = td σ H fun x H1 => ty σ H1 fun y H2 => ∃ a v, x = .ref a ∧ DGet H2 a y (some v) ∧ Q v H2 := rfl
theorem a_dget2 : tDGet2 td ty tx σ H Q = td σ H fun x H1 => ∃ a, x = .ref a ∧ IsD H1 a ∧ ty σ H1 fun y H2 => tx σ H2 fun z H3 => ∃ o, DGet H3 a y o ∧ Q (o.getD z) H3 := rfl
theorem a_din : tDIn ty td σ H Q = ty σ H fun y H1 => td σ H1 fun x H2 => ∃ a o, x = .ref a ∧ DGet H2 a y o ∧ Q (.bl o.isSome) H2 := rfl
theorem a_dnotin : tDNotIn ty td σ H Q = ty σ H fun y H1 => td σ H1 fun x H2 => ∃ a o, x = .ref a ∧ DGet H2 a y o ∧ Q (.bl (!o.isSome)) H2 := rfl
theorem a_dput : sDPut td ty tv D σ H = tv σ H fun v H1 => td σ H1 fun x H2 => ty σ H2 fun y H3 => ∃ a H4, x = .ref a ∧ DPut H3 a y v H4 ∧ D.nx σ H4 := rfl
theorem a_dnewK : tDNewK σ H Q = ∀ p, H p = none → Q (.ref p) (upd H p (.dK [])) := rfl
theorem a_dnewT : tDNewT σ H Q = ∀ p, H p = none → Q (.ref p) (upd H p (.dT [])) := rfl
theorem a_aug {ti : TIp} : tAug i te ti D σ H = ∃ x, σ[i]? = some (some x) ∧ te σ H fun y H1 => ti x y H1 fun z H2 => D.nx (σ.set i (some z)) H2 := rfl
theorem a_par {j : Nat} : tPar i j A D σ H = A σ H fun vs H1 => ∃ v w, vs = [v, w] ∧ D.nx ((σ.set i (some v)).set j (some w)) H1 := rfl
theorem a_sl {rs : V → Option Int → Option Int → Hp → VK → Prop} {tl th : TO} : tSl rs te tl th σ H Q = te σ H fun x H1 => tl σ H1 fun l H2 => th σ H2 fun u H3 => rs x l u H3 Q := rfl
theorem a_part {QO : Option Int → Hp → Prop} : tPart te σ H QO = te σ H fun x H1 => ∃ i, x = .int i ∧ QO (some i) H1 := rfl
theorem a_nopart {QO : Option Int → Hp → Prop} : tNoPart σ H QO = QO none H := rfl
theorem a_bm {K : PySem.W.Frag} {T : String} {rm : V → List V → Hp → VK → Prop} : tBM K T rm to A σ H Q = to σ H fun x H1 => tyV K T x H1 ∧ A σ H1 fun xs H2 => rm x xs H2 Q := rfl
theorem a_bm0 {K : PySem.W.Frag} {T : String} {rm : V → List V → Hp → VK → Prop} : tBM0 K T rm to σ H Q = to σ H fun x H1 => tyV K T x H1 ∧ rm x [] H1 Q := rfl
theorem a_pairs0 {QP : List (V × V) → Hp → Prop} : tPairs [] σ H QP = QP [] H := rfl
theorem a_disp {trs : List (TE × TE)} : tDisp trs σ H Q = ∀ p, H p = none → tPairs trs σ (upd H p (.dK [])) fun ps H2 => H2 p = some (.dK []) ∧ ∃ kvs : List (Key × V), ps = kvs.map (fun kv => (kV kv.1, kv.2)) ∧ kvs.length ≤ 15 ∧ Q (.ref p) (upd H2 p (.dK (mergeK [] kvs))) := rfl
theorem a_iLst {K : PySem.W.Frag} {RI : It → Hp → Prop} : iLst K te σ H RI = te σ H fun x H1 => ∃ a xs, x = .ref a ∧ H1 a = some (.lst xs) ∧ RI (Itl K a) H1 := rfl
theorem a_iTpl {K : PySem.W.Frag} {RI : It → Hp → Prop} : iTpl K te σ H RI = te σ H fun x H1 => ∃ a xs, x = .ref a ∧ H1 a = some (.tup xs) ∧ RI (Itt K a) H1 := rfl
theorem a_iRng1 {RI : It → Hp → Prop} : iRng1 A σ H RI = A σ H fun vs H1 => ∃ j : Int, vs = [.int j] ∧ -(2 ^ 62) ≤ j ∧ j < 2 ^ 62 ∧ RI (Itr 0 j.toNat) H1 := rfl
theorem a_iRng2 {RI : It → Hp → Prop} : iRng2 A σ H RI = A σ H fun vs H1 => ∃ i j : Int, vs = [.int i, .int j] ∧ (-(2 ^ 62) ≤ i ∧ i < 2 ^ 62 ∧ -(2 ^ 62) ≤ j ∧ j < 2 ^ 62) ∧ RI (Itr i (j - i).toNat) H1 := rfl
theorem a_I0 {gg : Int → Int → V} {y : V} : rI0 gg x y H Q = ∃ i j, x = .int i ∧ y = .int j ∧ Q (gg i j) H := rfl
theorem a_I {CC : Int → Int → Prop} {gg : Int → Int → V} {y : V} : rI CC gg x y H Q = ∃ i j, x = .int i ∧ y = .int j ∧ CC i j ∧ Q (gg i j) H := rfl
theorem a_U {gg : Int → V} : rU gg x H Q = ∃ i, x = .int i ∧ Q (gg i) H := rfl
theorem a_eq {y : V} : rEq x y H Q = (scal x y = true ∧ Q (.bl (decide (x = y))) H) := rfl
theorem a_ne {y : V} : rNe x y H Q = (scal x y = true ∧ Q (.bl (!decide (x = y))) H) := rfl
theorem a_ixt {y : V} : rIxt x y H Q = ∃ p xs i v, x = .ref p ∧ y = .int i ∧ H p = some (.tup xs) ∧ atI xs i = some v ∧ Q v H := rfl
theorem a_ixl {y : V} : rIxl x y H Q = ∃ p xs i v, x = .ref p ∧ y = .int i ∧ H p = some (.lst xs) ∧ atI xs i = some v ∧ Q v H := rfl
theorem a_lenl : rLenl vs H Q = ∃ p ys, vs = [.ref p] ∧ H p = some (.lst ys) ∧ Q (.int ys.length) H := rfl
theorem a_lent : rLent vs H Q = ∃ p ys, vs = [.ref p] ∧ H p = some (.tup ys) ∧ Q (.int ys.length) H := rfl
theorem a_sll {lo hi : Option Int} : rSll x lo hi H Q = ∃ a xs, x = .ref a ∧ H a = some (.lst xs) ∧ ∀ p, H p = none → Q (.ref p) (upd H p (.lst (cutV xs lo hi))) := rfl
end
end Gr
/-! ### a place where two ways of a statement come together -/
namespace Gr
open PySem PySem.Spec PyProof.Rows L2
@[irreducible] def sUp (t : TS) : TS := fun D σ H => ∃ N : L2.St → Hp → Prop, t { D with nx := N } σ H ∧ ∀ σ' H', N σ' H' → D.nx σ' H'
theorem sUp.mk {t : TS} {D : Ends} {σ : L2.St} {H : Hp} (N : L2.St → Hp → Prop) (h1 : t { D with nx := N } σ H) (h2 : ∀ σ' H', N σ' H' → D.nx σ' H') : sUp t D σ H := by
  unfold sUp
  exact ⟨N, h1, h2⟩
theorem ps_up {X : Cx} {st : Stmt} {t : TS} (h : PS X st t) : PS X st (sUp t) := by
  refine ⟨fun pins s σ H D I q => ?_⟩
  unfold sUp at q
  obtain ⟨N, h1, h2⟩ := q
  refine thn (h.run pins s σ H _ I h1) fun f s' r => ?_
  cases f with
  | next => obtain ⟨σ', H', I', n⟩ := r; exact ⟨σ', H', I', h2 σ' H' n⟩
  | brk => exact r
  | cont => exact r
  | ret u => exact r
end Gr

/-! # GClo: a def made in a def's body, handed to a method, called there; the head's facts with code tables -/
namespace Gr
open PySem PySem.Spec PyProof.Rows L2 LamX NdefX
/-! ### a def whose code object is known -/
section
variable {P : Program} {w : World} {K : PySem.W.Frag} {mg : Str → Option Value} {base : Heap} {x qual : Str} {params : Arguments} {body : List Stmt} {scope : Scope} {dvs : List V} {kws : List (Str × V)} {f c : Addr} {fd : FuncData} {CX : CXT} {N ps : List Str} {k : Nat} {sp : Sp}
theorem fun_okC (F : FunD K x qual params body scope dvs kws f fd) (hc : fd.code = .ref c) (S : FnScope N ps scope) (len : ∀ vs H Q E, sp vs H Q E → vs.length = ps.length)
    (hbody : ∀ (A : Around) (outer : List PySem.Env) (s : Shared) (H : Hp) (vs : List V) (Q : VK) (E : XK), Room k (A.deeper (envOfC qual scope s.heap.objs.size f (.ref c))) → sp vs H Q E →
      ∃ t, PSs (cxOf CX P w K mg base N qual scope f (.ref c) A outer s H E) body t ∧ t { nx := fun _ H' => Q .non H', rt := Q } (start N vs) H) : FnOk P w K mg base CX (k + 1) f fd ps sp := by
  obtain ⟨oc, od, dV, kV, doc, pm, an, cdv, ct, osl, rfl, lk, hcd, _, _⟩ := F.ex
  obtain rfl : cdv = .ref c := hc
  exact fn_of lk hcd S len hbody
/-- the promise of a def that leans on more of the state than its H tells -/
structure FnOkG (P : Program) (w : World) (K : PySem.W.Frag) (mg : Str → Option Value) (base : Heap) (CX : CXT) (k : Nat) (f : Addr) (fd : FuncData) (ps : List Str) (G : List PySem.Env → Shared → Hp → Prop) (sp : Sp) : Prop where
  len : ∀ vs H Q E, sp vs H Q E → vs.length = ps.length
  go : ∀ (A : Around) (outer : List PySem.Env) (s : Shared) (H : Hp) (args : Args) (us : List Value) (vs : List V) (Q : VK) (E : XK), Room k A → Env0 P w K mg base A outer s H → BindsTo s fd args (ps.zip us) → Vals vs us → G outer s H → sp vs H Q E →
    codeAny (model P w) A (.call (.ref f) args) (CR CX outer P w H s Q E) s
theorem fun_okG {G : List PySem.Env → Shared → Hp → Prop} (F : FunD K x qual params body scope dvs kws f fd) (S : FnScope N ps scope) (len : ∀ vs H Q E, sp vs H Q E → vs.length = ps.length)
    (hbody : ∀ (cdv : Value) (A : Around) (outer : List PySem.Env) (s : Shared) (H : Hp) (vs : List V) (Q : VK) (E : XK), Room k (A.deeper (envOfC qual scope s.heap.objs.size f cdv)) → G outer s H → sp vs H Q E →
      ∃ t, PSs (cxOf CX P w K mg base N qual scope f cdv A outer s H E) body t ∧ t { nx := fun _ H' => Q .non H', rt := Q } (start N vs) H) : FnOkG P w K mg base CX (k + 1) f fd ps G sp := by
  obtain ⟨oc, od, dV, kV, doc, pm, an, cdv, ct, osl, rfl, lk, hcd, _, _⟩ := F.ex
  exact ⟨len, fun A outer s H args us vs Q E hr e0 hb r g h => run_ofS lk hcd S hr e0 hb r (len _ _ _ _ h) fun hr' => hbody cdv A outer s H vs Q E hr' g h⟩
end
/-! ### what the cells hold at a call -/
/-- the captured cells hold ws, and no caller's frame is one of them -/
structure CloAt (cl : List (Str × Addr)) (fr : List Str) (ws : List (Option V)) (outer : List PySem.Env) (s : Shared) (H : Hp) : Prop where
  cells : CellsAt cl fr ws s.heap H
  apart : ∀ y c, cl.lookup y = some c → c ∉ frs outer
section
variable {X : Cx} {CX : CXT} {k j : Nat} {f C c : Addr} {fd : FuncData} {ps fr : List Str} {dvs : List V} {ds : List Value} {E : XK} {x m : Str} {p pos apos : Pos} {e o : Expr} {es : List Expr} {ta : TE} {t : TA} {cl : List (Str × Addr)} {js : List Nat}
theorem clo_here {pins : List (Addr × Obj)} {σ : L2.St} {H : Hp} {s : Shared} (I : Inv X pins σ H s) (cp : Caps X cl fr js) (hf : ∀ y, X.fn y = true) : CloAt cl fr (js.map (slotAt σ)) X.stack s H := by
  refine ⟨cells_of I cp, fun y c hy hm => ?_⟩
  have hx := cp.sub y c hy
  rcases List.mem_cons.mp (I.stkSub c hm) with z | z
  · exact I.cne y c hx z
  · obtain ⟨_, o, ho, _⟩ := I.ok.funs.mem z
    exact Nat.lt_irrefl _ (Nat.lt_of_lt_of_le (Heap.lt_size ho) (I.ok.cab y c (hf y) hx))
/-- o.m(e, ..), a def made here among the arguments -/
def tMethG (C : Addr) (m : Str) (spw : Addr → Addr → List (Option V) → Sp) (js : List Nat) (dvs : List V) (E : XK) (ta : TE) (t : TA) : TE := fun σ H Q => ta σ H fun x H1 => ∃ a dx fs, x = .ref a ∧ H1 a = some (.ins C dx fs) ∧ fs.lookup m = none ∧
  t σ H1 fun vs H2 => ∃ g c', spw g c' (js.map (slotAt σ)) (x :: (vs ++ dvs)) H2 Q E
theorem pe_methG {pl : Sem Bool} {spw : Addr → Addr → List (Option V) → Sp} (he : PE X o ta) (c : Cls X.K C) (hm : Meth X.K C m f) (F : ∀ g c' ws, FnOkG X.prog X.w X.K X.mg X.base CX k f fd ps (CloAt cl fr ws) (spw g c' ws)) (cp : X.Ok → Caps X cl fr js) (hf : ∀ y, X.fn y = true)
    (hr : Room k X.A) (hb : Binds X.K fd ps ds) (hd : Vals dvs ds) (hx : Passes CX X E) (ha : PA X (e :: es) t)
    (hst : starEach (e :: es) X.env = (false, eval e X.env) :: starEach es X.env := by rfl) (hpl : (backTo pos (starEach es X.env)).any (·.1) = false := by rfl)
    (ht : eval (.Call (.Attribute o m apos) (e :: es) [] pos) X.env = (do
      let ov ← eval o X.env
      standAt apos.atName
      let (f, first) ← holding [ov] (getMethod ov m pl)
      callWith pos f first (backTo pos (starEach (e :: es) X.env)) (backToKw pos (keywordEach [] X.env))) := by rfl) :
    PE X (.Call (.Attribute o m apos) (e :: es) [] pos) (tMethG C m spw js dvs E ta t) := by
  refine ⟨fun pins s σ H Q I h => PySem.W.methodCall_KW (pl := pl) (thn (he.run pins s σ H _ I h) fun u s1 ⟨x, H1, I1, rx, a, dx, fs, ex, ea, l, q⟩ => ?_) ht⟩
  obtain rfl := ex
  obtain rfl : u = Value.ref a := rx
  refine getmeth_ok I1 ea c hm l (PySem.W.callWith_K (first := [.ref a]) (h₀ := X.base) I.ok.mod.kin hm.kp (thn (ha.run pos pins s1 σ H1 _ I1 q) fun us s2 ⟨vs, H2, I2, r, g, c', q2⟩ => ⟨I2.kIn, ?_⟩) hst hpl)
  have Fn := F g c' (js.map (slotAt σ))
  have r2 : Vals (V.ref a :: (vs ++ dvs)) (Value.ref a :: (us ++ ds)) := .cons rfl (r.append hd)
  have hl : (Value.ref a :: (us ++ ds)).length = ps.length := by rw [← r2.length]; exact Fn.len _ _ _ _ q2
  refine wpAny_call (codeAny_mono (Fn.go X.A X.stack s2 H2 ⟨.ref a :: us, []⟩ _ _ Q E hr I2.env0 (hb s2 (.ref a :: us) I2.kIn hl) r2 (clo_here I2 (cp I2.ok) hf) q2) fun r s' hq => ?_)
  match r, hq with
  | .error e, hq => exact hx pins σ H2 s2 e s' I2 hq
  | .ok (.ret u), hq => exact I2.after hq
  | .ok .next, hq => exact False.elim hq
  | .ok .brk, hq => exact False.elim hq
  | .ok .cont, hq => exact False.elim hq
/-- x(e, ..), x a name that holds the function F at f, made by a caller -/
def tCallC (F : NF) (f : Addr) (i : Nat) (ws : List (Option V)) (sp : List (Option V) → Sp) (E : XK) (t : TA) : TE := fun σ H Q => σ[i]? = some (some (.ref f)) ∧ H f = some (FnO f F) ∧
  t σ H fun vs H1 => H1 f = some (FnO f F) ∧ H1 F.c = some (CodeO F.c F.qual) ∧ sp ws vs H1 Q E
theorem pe_callC {F : NF} {i : Nat} {ws : List (Option V)} {sp : List (Option V) → Sp} (Fn : NOk X.prog X.w X.K X.mg X.base CX k f F ps fr sp) (G : CloAt F.cl fr ws X.outer X.s_0 X.H_0) (hex : X.ex = []) (hr : Room j X.A) (hk : k ≤ j) (hx : Passes CX X E) (hN : X.N[i]? = some x) (hv : Vis X.env.scope x) (ha : PA X (e :: es) t)
    (hd : (x == ("__debug__" : Str)) = false := by decide) (hcd : (x == ("__classdict__" : Str)) = false := by decide)
    (he : starEach (e :: es) X.env = (false, eval e X.env) :: starEach es X.env := by rfl) (hpl : (backTo pos (starEach es X.env)).any (·.1) = false := by rfl) :
    PE X (.Call (.Name x p) (e :: es) [] pos) (tCallC F f i ws sp E t) := by
  refine ⟨fun pins s σ H Q I h => wpAny_Call_Name_kw (thn ((pe_var (pos := p) hN hv hd hcd).run pins s σ H (fun v H1 => v = .ref f ∧ H1 = H) I ⟨.ref f, h.1, rfl, rfl⟩) fun u s1 ⟨v, H1, I1, r1, ev, eH⟩ => ?_)⟩
  subst ev eH
  obtain rfl : u = Value.ref f := r1
  obtain ⟨_, hf, ht⟩ := h
  refine PySem.W.callWith_F (first := []) (fnAt_of I1 hf) (thn (ha.run pos pins s1 σ _ _ I1 ht) fun us s2 ⟨vs, H2, I2, r, h1, h2, q⟩ => ⟨fnAt_of I2 h1, ?_⟩) he hpl
  have Cl : CellsAt F.cl fr ws s2.heap H2 := G.cells.later (fun y c hy => G.apart y c hy) (fun y c _ => by rw [hex]; simp) I2
  refine wpAny_call (codeAny_mono (Fn.run X.A X.stack s2 H2 us vs ws Q E (hr.mono hk) I2.env0 h1 h2 Cl r q) fun r s' hq => ?_)
  match r, hq with
  | .error e, hq => exact hx pins σ H2 s2 e s' I2 hq
  | .ok (.ret u), hq => exact I2.after hq
  | .ok .next, hq => exact False.elim hq
  | .ok .brk, hq => exact False.elim hq
  | .ok .cont, hq => exact False.elim hq
end
/-! ### the head's facts, some code tables kept apart -/
section
open He
/-- the code object of the def at f; its table -/
def codeG (g : Addr → Option Obj) (f : Addr) : Addr := match g f with
  | some ⟨_, _, .func fd, _⟩ => (match fd.code with
    | .ref c => c
    | _ => 0)
  | _ => 0
def tabG (g : Addr → Option Obj) (c : Addr) : Addr := match g c with
  | some ⟨_, _, .fields vs, _⟩ => (match (vs[11]? : Option Value) with
    | some (.ref P) => P
    | _ => 0)
  | _ => 0
def emptyTab (g : Addr → Option Obj) (P : Addr) : Bool := match g P with
  | some ⟨.none, none, .fields vs, sl⟩ => vs.isEmpty && sl.isEmpty
  | _ => false
theorem emptyTab_ok {g : Addr → Option Obj} {P : Addr} (h : emptyTab g P = true) : g P = some { cls := .none, data := .fields #[] } := by
  unfold emptyTab at h
  cases q : g P with
  | none => rw [q] at h; cases h
  | some o =>
    obtain ⟨oc, od, dt, osl⟩ := o
    rw [q] at h
    cases oc <;> try (cases h; done)
    cases od <;> try (cases h; done)
    cases dt <;> try (cases h; done)
    rename_i vs
    have h' : (vs.isEmpty && osl.isEmpty) = true := h
    obtain ⟨h1, h2⟩ := ba h'
    have e1 : vs = #[] := Array.isEmpty_iff.mp h1
    have e2 : osl = #[] := Array.isEmpty_iff.mp h2
    rw [e1, e2]
/-- where the tables of these defs stand -/
def tabsG (g : Addr → Option Obj) (K : PySem.W.Frag) (ts : List (Str × Option Str)) : List (Addr × Addr) := ts.map fun p => (codeG g (fAd K p), tabG g (codeG g (fAd K p)))
def tabOk (g : Addr → Option Obj) (K : PySem.W.Frag) (q : Addr × Addr) : Bool := emptyTab g q.2 && PySem.W.codeHdIn K q.1 q.2 && decide (K.lookup q.2 = none)
def fnCode (K : PySem.W.Frag) (p : Str × Option Str) (c : Addr) : Bool := match K.lookup (fAd K p) with
  | some ⟨_, _, .func fd, _⟩ => decide (fd.code = .ref c)
  | _ => false
/-- the part of the heap, but these tables -/
def fragT (g : Addr → Option Obj) (as : List Addr) (cs : List (Addr × Addr)) : PySem.W.Frag := frG g (as.filter fun a => !(cs.any fun q => Nat.beq q.2 a))
abbrev AlT : Type := AlD × Bool
def obsT (fa : List Fa) (fn : List DefD) (ts : List (Str × Option Str)) (g : Addr → Option Obj) (cs : List (Addr × Addr)) (K : PySem.W.Frag) : AlT := (obsD fa fn K, cs.all (tabOk g K) && (ts.zip cs).all fun q => fnCode K q.1 q.2.1)
def obsTG (n : Nat) (fa : List Fa) (fn : List DefD) (ts : List (Str × Option Str)) (g : Addr → Option Obj) : AlT :=
  (fun as => (fun cs => obsT fa fn ts g cs (fragT g as cs)) (tabsG g (frG g as) ts)) (asD g n)
structure TabsOk (K : PySem.W.Frag) (ts : List (Str × Option Str)) (cs : List (Addr × Addr)) (h : Heap) : Prop where
  len : cs.length = ts.length
  tab : ∀ q ∈ cs, h.get? q.2 = some { cls := .none, data := .fields #[] }
  cod : ∀ q ∈ cs, PySem.W.codeHdIn K q.1 q.2 = true
  out : ∀ q ∈ cs, K.lookup q.2 = none
  fn : ∀ (i : Nat) p q, ts[i]? = some p → cs[i]? = some q → fnCode K p q.1 = true
def SaysT (fa : List Fa) (fn : List DefD) (ts : List (Str × Option Str)) (h : Heap) : Prop := ∃ K : PySem.W.Frag, K.In h ∧ SaysD fa fn K ∧ ∃ cs, TabsOk K ts cs h
theorem saysT_of {n : Nat} {fa : List Fa} {fn : List DefD} {ts : List (Str × Option Str)} {h : Heap} (e : obsTG n fa fn ts h.get? = (valD fn, true)) : SaysT fa fn ts h := by
  have e1 : obsT fa fn ts h.get? (tabsG h.get? (frG h.get? (asD h.get? n)) ts) (fragT h.get? (asD h.get? n) (tabsG h.get? (frG h.get? (asD h.get? n)) ts)) = (valD fn, true) := e
  have hl : (tabsG h.get? (frG h.get? (asD h.get? n)) ts).length = ts.length := List.length_map ..
  generalize tabsG h.get? (frG h.get? (asD h.get? n)) ts = cs at e1 hl
  have e2 : obsD fa fn (fragT h.get? (asD h.get? n) cs) = valD fn := congrArg (fun z : AlT => z.1) e1
  have e3 : (cs.all (tabOk h.get? (fragT h.get? (asD h.get? n) cs)) && (ts.zip cs).all fun q => fnCode (fragT h.get? (asD h.get? n) cs) q.1 q.2.1) = true := congrArg (fun z : AlT => z.2) e1
  obtain ⟨e4, e5⟩ := ba e3
  have ok : ∀ q ∈ cs, emptyTab h.get? q.2 = true ∧ PySem.W.codeHdIn (fragT h.get? (asD h.get? n) cs) q.1 q.2 = true ∧ (fragT h.get? (asD h.get? n) cs).lookup q.2 = none := fun q hq => by
    obtain ⟨z1, z3⟩ := ba (List.all_eq_true.mp e4 q hq)
    obtain ⟨z1, z2⟩ := ba z1
    exact ⟨z1, z2, of_decide_eq_true z3⟩
  refine ⟨_, frG_in, e2, cs, hl, fun q hq => emptyTab_ok (ok q hq).1, fun q hq => (ok q hq).2.1, fun q hq => (ok q hq).2.2, fun i p q hp hq => ?_⟩
  refine List.all_eq_true.mp e5 (p, q) (List.mem_of_getElem? (i := i) ?_)
  rw [List.getElem?_zip_eq_some]
  exact ⟨hp, hq⟩
def hookT (n : Nat) (fa : List Fa) (fn : List DefD) (ts : List (Str × Option Str)) : PySem.W.Hook where
  α := AlT
  obs := fun s => obsTG n fa fn ts s.heap.get?
  val := fun _ => (valD fn, true)
  says := fun _ h => SaysT fa fn ts h
  of := fun _ _ e => saysT_of e
  keeps := fun _ _ _ ⟨K, hK, c, cs, t⟩ k => ⟨K, PySem.W.Frag.In.keeps hK k, c, cs, t.len, fun q hq => k _ _ (t.tab q hq), t.cod, t.out, t.fn⟩
theorem obsTG_eq {n : Nat} {fa : List Fa} {fn : List DefD} {ts : List (Str × Option Str)} {g : Addr → Option Obj} {s : Shared} (h : ∀ a, g a = s.heap.get? a) : obsTG n fa fn ts g = (hookT n fa fn ts).obs s := by
  have e : g = s.heap.get? := funext h
  rw [e]
  rfl
theorem fnCode_ok {K : PySem.W.Frag} {x qual : Str} {params : Arguments} {body : List Stmt} {scope : Scope} {dvs : List V} {kws : List (Str × V)} {fd : FuncData} {p : Str × Option Str} {c : Addr} (F : FunD K x qual params body scope dvs kws (fAd K p) fd) (h : fnCode K p c = true) : fd.code = .ref c := by
  obtain ⟨oc, od, dV, kV, doc, pm, an, cdv, ct, osl, rfl, lk, _⟩ := F.ex
  unfold fnCode at h
  rw [lk] at h
  exact of_decide_eq_true h
end
end Gr

/-! # GMore: calls over tracked lists and dicts -/
namespace Gr
open PySem PySem.Spec PyProof.Rows L2
section
variable {X : Cx}
def rSumL : List V → Hp → VK → Prop := fun vs H Q => ∃ a ns, vs = [V.ref a] ∧ H a = some (.lst (List.map V.int ns)) ∧ Q (.int ns.sum) H
theorem cr_sumL (hc : X.calm = true) : CallR X (.builtin "sum") rSumL := fun pins s σ H vs us Q I r ⟨a, ns, e, h, q⟩ => cr_sum hc pins s σ H vs us Q I r ⟨a, ns, e, SqL.of h, q⟩
def rSortL : List V → Hp → VK → Prop := fun vs H Q => ∃ a ns, vs = [V.ref a] ∧ H a = some (.lst (List.map V.int ns)) ∧ ∀ (ks : List Int) (p : Addr), ks.Perm ns → ks.Pairwise (· ≤ ·) → H p = none → Q (.ref p) (upd H p (.lst (ks.map V.int)))
theorem cr_sortL : CallR X (.builtin "sorted") rSortL := fun pins s σ H vs us Q I r ⟨a, ns, e, h, q⟩ => cr_sortedI pins s σ H vs us Q I r ⟨a, ns, e, SqL.of h, q⟩
def rSortD : List V → Hp → VK → Prop := fun vs H Q => ∃ a m, vs = [V.ref a] ∧ H a = some (dI m) ∧ m.length < 64 ∧ ∀ (ks : List Int) (p : Addr), ks.Perm (m.map (·.1)) → ks.Pairwise (· ≤ ·) → H p = none → Q (.ref p) (upd H p (.lst (ks.map V.int)))
theorem cr_sortD (hc : X.calm = true) : CallR X (.builtin "sorted") rSortD := by
  intro pins s σ H vs us Q I r h
  obtain ⟨a, m, e, h, hl, q⟩ := h
  have h1 : Rd H a (.dK (m.map fun p => (Sum.inl p.1, p.2))) := Rd.of h
  exact call_sortedDI hc pins s σ H vs us Q I r ⟨a, _, m.map (·.1), e, h1, by rw [List.map_map, List.map_map]; rfl, by rw [List.length_map]; exact hl, q⟩
end
section
variable {X : Cx}
theorem hu65 {k : Nat} {A : Around} (r : Room k A) : A.units + 65 < cLine := by have := r.un; omega
/-- of a list that K or H tells -/
def rLenQ (K : PySem.W.Frag) : List V → Hp → VK → Prop := fun vs H Q => ∃ p ys, vs = [V.ref p] ∧ SqL K H p ys ∧ Q (.int (ys.length : Nat)) H
theorem len_sq {K : PySem.W.Frag} (hK : X.K = K) : CallR X (.builtin "len") (rLenQ K) := by
  subst hK
  exact fun pins s σ H vs us Q I r ⟨p, ys, e, h, q⟩ => call_len_seq pins s σ H vs us Q I r ⟨p, ys, e, .inl h, q⟩
def rIxQ (K : PySem.W.Frag) : R2 := fun x y H Q => ∃ p xs i v, x = V.ref p ∧ y = V.int i ∧ SqL K H p xs ∧ atI xs i = some v ∧ Q v H
theorem ix_sq {K : PySem.W.Frag} (hK : X.K = K) : IxR X (rIxQ K) := by
  subst hK
  exact ix_list
def rSlQ (K : PySem.W.Frag) : V → Option Int → Option Int → Hp → VK → Prop := fun x lo hi H Q => ∃ a xs, x = V.ref a ∧ SqL K H a xs ∧ ∀ p, H p = none → Q (.ref p) (upd H p (.lst (cutV xs lo hi)))
theorem sl_sq {K : PySem.W.Frag} (hK : X.K = K) : SlR X (rSlQ K) := by
  subst hK
  exact sl_list
end
section
variable {H : Hp} {Q : VK} {vs : List V} {te : TE} {σ : L2.St}
theorem a_sumL : rSumL vs H Q = ∃ a ns, vs = [V.ref a] ∧ H a = some (.lst (List.map V.int ns)) ∧ Q (.int ns.sum) H := rfl
theorem a_sortL : rSortL vs H Q = ∃ a ns, vs = [V.ref a] ∧ H a = some (.lst (List.map V.int ns)) ∧ ∀ (ks : List Int) (p : Addr), ks.Perm ns → ks.Pairwise (· ≤ ·) → H p = none → Q (.ref p) (upd H p (.lst (ks.map V.int))) := rfl
theorem a_sortD : rSortD vs H Q = ∃ a m, vs = [V.ref a] ∧ H a = some (dI m) ∧ m.length < 64 ∧ ∀ (ks : List Int) (p : Addr), ks.Perm (m.map (·.1)) → ks.Pairwise (· ≤ ·) → H p = none → Q (.ref p) (upd H p (.lst (ks.map V.int))) := rfl
theorem a_listRg {tr : L2.St → Hp → (Int → Int → Hp → Prop) → Prop} : tLstRg tr σ H Q = tr σ H fun a b H1 => RgOk a b ∧ ∀ q, H1 q = none → Q (.ref q) (upd H1 q (.lst (rgV a b))) := rfl
theorem a_rg1 {QR : Int → Int → Hp → Prop} : tRg1 te σ H QR = te σ H fun x H1 => ∃ n, x = .int n ∧ QR 0 n H1 := rfl
theorem a_append {x : V} : rAppend x vs H Q = ∃ l xs y, x = .ref l ∧ vs = [y] ∧ H l = some (.lst xs) ∧ xs.length < sizeLine ∧ Q .non (upd H l (.lst (xs ++ [y]))) := rfl
theorem a_methG {C : Addr} {m : Str} {spw : Addr → Addr → List (Option V) → Sp} {js : List Nat} {dvs : List V} {E : XK} {A : TA} : tMethG C m spw js dvs E te A σ H Q = te σ H fun x H1 => ∃ a dx fs, x = .ref a ∧ H1 a = some (.ins C dx fs) ∧ fs.lookup m = none ∧
  A σ H1 fun vs H2 => ∃ g c', spw g c' (js.map (NdefX.slotAt σ)) (x :: (vs ++ dvs)) H2 Q E := rfl
theorem a_callC {F : NdefX.NF} {f : Addr} {i : Nat} {ws : List (Option V)} {sp : List (Option V) → Sp} {E : XK} {A : TA} : tCallC F f i ws sp E A σ H Q = (σ[i]? = some (some (.ref f)) ∧ H f = some (NdefX.FnO f F) ∧
  A σ H fun vs H1 => H1 f = some (NdefX.FnO f F) ∧ H1 F.c = some (LamX.CodeO F.c F.qual) ∧ sp ws vs H1 Q E) := rfl
theorem a_ndefM {T : List NdefX.NTab} {i : Nat} {mk : Addr → NdefX.NF} {D : Ends} : NdefX.tNdefM T i mk D σ H = (NdefX.TabsN T H ∧ ∀ (f c' : Addr) (H1 : Hp), LamX.ExtN H H1 → (∀ b, H1 b = none → H b = none) → NdefX.TabsN T H1 → H f = none → H1 f = some (NdefX.FnO f (mk c')) → H1 c' = some (LamX.CodeO c' (mk c').qual) → D.nx (σ.set i (some (.ref f))) H1) := rfl
theorem a_yes {R : Bool → Hp → Prop} : tYes σ H R = R true H := rfl
theorem a_lenq {K : PySem.W.Frag} : rLenQ K vs H Q = ∃ p ys, vs = [V.ref p] ∧ SqL K H p ys ∧ Q (.int (ys.length : Nat)) H := rfl
theorem a_ixq {K : PySem.W.Frag} {x y : V} : rIxQ K x y H Q = ∃ p xs i v, x = V.ref p ∧ y = V.int i ∧ SqL K H p xs ∧ atI xs i = some v ∧ Q v H := rfl
theorem a_slq {K : PySem.W.Frag} {x : V} {lo hi : Option Int} : rSlQ K x lo hi H Q = ∃ a xs, x = V.ref a ∧ SqL K H a xs ∧ ∀ p, H p = none → Q (.ref p) (upd H p (.lst (cutV xs lo hi))) := rfl
end
end Gr

/-! # GDD: dicts whose keys are tuples of tuples -/
namespace Gr
open PySem PySem.Spec PyProof.Rows L2
/-! ### keys -/
def D.key : D → NestedKey
  | .non => .none
  | .bl b => .num (if b = true then 1 else 0)
  | .int i => .num i
  | .str x => .text x
  | .tup ds => .tup (ds.map D.key)
mutual
theorem D.key_inj : ∀ {a b : D}, a.good = true → b.good = true → a.key = b.key → a = b
  | .non, .non, _, _, _ => rfl
  | .int i, .int j, _, _, h => by simp only [D.key, NestedKey.num.injEq] at h; rw [h]
  | .str i, .str j, _, _, h => by simp only [D.key, NestedKey.text.injEq] at h; rw [h]
  | .tup as, .tup bs, h1, h2, h => by
    simp only [D.key, NestedKey.tup.injEq] at h
    rw [D.keyL_inj (by simpa [D.good] using h1) (by simpa [D.good] using h2) h]
  | .bl _, _, h, _, _ => by simp [D.good] at h
  | .non, .bl _, _, h, _ => by simp [D.good] at h
  | .int _, .bl _, _, h, _ => by simp [D.good] at h
  | .str _, .bl _, _, h, _ => by simp [D.good] at h
  | .tup _, .bl _, _, h, _ => by simp [D.good] at h
  | .non, .int _, _, _, h => by simp [D.key] at h
  | .non, .str _, _, _, h => by simp [D.key] at h
  | .non, .tup _, _, _, h => by simp [D.key] at h
  | .int _, .non, _, _, h => by simp [D.key] at h
  | .int _, .str _, _, _, h => by simp [D.key] at h
  | .int _, .tup _, _, _, h => by simp [D.key] at h
  | .str _, .non, _, _, h => by simp [D.key] at h
  | .str _, .int _, _, _, h => by simp [D.key] at h
  | .str _, .tup _, _, _, h => by simp [D.key] at h
  | .tup _, .non, _, _, h => by simp [D.key] at h
  | .tup _, .int _, _, _, h => by simp [D.key] at h
  | .tup _, .str _, _, _, h => by simp [D.key] at h
theorem D.keyL_inj : ∀ {as bs : List D}, D.goodL as = true → D.goodL bs = true → as.map D.key = bs.map D.key → as = bs
  | [], [], _, _, _ => rfl
  | [], _ :: _, _, _, h => by simp at h
  | _ :: _, [], _, _, h => by simp at h
  | a :: as, b :: bs, h1, h2, h => by
    have h1' : a.good = true ∧ D.goodL as = true := by simpa [D.goodL] using h1
    have h2' : b.good = true ∧ D.goodL bs = true := by simpa [D.goodL] using h2
    simp only [List.map_cons, List.cons.injEq] at h
    rw [D.key_inj h1'.1 h2'.1 h.1, D.keyL_inj h1'.2 h2'.2 h.2]
end
mutual
theorem D.key_dep : ∀ d : D, d.key.depth = d.dep
  | .non => by simp [D.key, NestedKey.depth, D.dep]
  | .bl _ => by simp [D.key, NestedKey.depth, D.dep]
  | .int _ => by simp [D.key, NestedKey.depth, D.dep]
  | .str _ => by simp [D.key, NestedKey.depth, D.dep]
  | .tup ds => by simp only [D.key, NestedKey.depth, D.dep, D.key_depL ds]
theorem D.key_depL : ∀ ds : List D, NestedKey.depthAll (ds.map D.key) = D.depL ds
  | [] => by simp [NestedKey.depthAll, D.depL]
  | d :: ds => by simp only [List.map_cons, NestedKey.depthAll, D.depL, D.key_dep d, D.key_depL ds]
end
section
variable {X : Cx} {pins : List (Addr × Obj)} {σ : L2.St} {H : Hp} {s : Shared}
mutual
theorem nested_of (I : Inv X pins σ H s) : ∀ {d : D} {v : V} {u : Value}, Rp H d v → RelV v u → NestedIs s.heap d.key u
  | .non, _, u, h, r => by
    rw [show _ = V.non from h] at r
    rw [show u = Value.none from r]
    simp only [D.key]
    exact .none
  | .bl b, _, u, h, r => by
    rw [show _ = V.bl b from h] at r
    rw [show u = Value.bool b from r]
    simp only [D.key]
    exact .bool rfl
  | .int i, _, u, h, r => by
    rw [show _ = V.int i from h] at r
    obtain ⟨t, rfl⟩ := r
    simp only [D.key]
    exact .int i t
  | .str x, _, u, h, r => by
    rw [show _ = V.str x from h] at r
    obtain ⟨t, rfl⟩ := r
    simp only [D.key]
    exact .text x t
  | .tup ds, _, u, ⟨a, vs, e, h, q⟩, r => by
    rw [e] at r
    obtain rfl : u = Value.ref a := r
    obtain ⟨its, rv, ⟨o, e1, e2, n, e3⟩, _⟩ := I.tuple (SqT.of h)
    simp only [D.key]
    refine .tup e1 e2 e3 ?_
    rw [List.toList_toArray]
    exact nestedL_of I q rv
theorem nestedL_of (I : Inv X pins σ H s) : ∀ {ds : List D} {vs : List V} {us : List Value}, RpL H ds vs → Vals vs us → NestedAll s.heap (ds.map D.key) us
  | [], _, us, h, r => by
    rw [show _ = [] from h] at r
    cases r
    exact .nil
  | d :: ds, _, us, ⟨v, w, e, h, q⟩, r => by
    rw [e] at r
    cases r with
    | cons r1 r2 => exact .cons (nested_of I h r1) (nestedL_of I q r2)
end
end
/-! ### what stands -/
/-- the raw dict at a -/
def ddO (P : Program) (w : World) (a : Addr) (xs : List (NestedKey × Addr × Value)) : HO := .ext fun h => ∃ o es ep, h.get? a = some o ∧ o.ExactDict ∧ o.data = .dict es ep ∧ es.toList = xs.map (entryOfKey (nestedKind P w)) ∧ (xs.map (·.1)).Nodup
theorem ddO_ne_tup {P : Program} {w : World} {a : Addr} {xs : List (NestedKey × Addr × Value)} (ys : List V) : ddO P w a xs ≠ .tup ys := fun z => by
  unfold ddO at z
  cases z
/-- key for key -/
def RpK (H : Hp) : List (D × V) → List (NestedKey × Addr × Value) → Prop
  | [], xs => xs = []
  | p :: r, xs => ∃ a u ys, xs = (p.1.key, a, u) :: ys ∧ Rp H p.1 (.ref a) ∧ (p.1.good = true ∧ p.1.dep ≤ 8) ∧ RelV p.2 u ∧ RpK H r ys
theorem RpK.at {H H' : Hp} (t : Tups H H') : ∀ {kvs : List (D × V)} {xs : List (NestedKey × Addr × Value)}, RpK H kvs xs → RpK H' kvs xs
  | [], _, h => h
  | _ :: _, _, ⟨a, u, ys, e, h1, h2, h3, q⟩ => ⟨a, u, ys, e, h1.at t, h2, h3, RpK.at t q⟩
theorem RpK.length {H : Hp} : ∀ {kvs : List (D × V)} {xs : List (NestedKey × Addr × Value)}, RpK H kvs xs → xs.length = kvs.length
  | [], _, h => by rw [show _ = [] from h]; rfl
  | _ :: _, _, ⟨a, u, ys, e, _, _, _, q⟩ => by rw [e, List.length_cons, List.length_cons, RpK.length q]
theorem atKey_pos {x : NestedKey × Addr × Value} {r : List (NestedKey × Addr × Value)} {k : NestedKey} (e : x.1 = k) : atKey (x :: r) k = some x.2 := by simp [atKey, List.find?_cons, e]
theorem atKey_neg {x : NestedKey × Addr × Value} {r : List (NestedKey × Addr × Value)} {k : NestedKey} (e : ¬ x.1 = k) : atKey (x :: r) k = atKey r k := by simp [atKey, List.find?_cons, e]
theorem RpK.get {H : Hp} {k : D} (hk : k.good = true) : ∀ {kvs : List (D × V)} {xs : List (NestedKey × Addr × Value)}, RpK H kvs xs → (atKey xs k.key).isSome = (getA kvs k).isSome
  | [], _, h => by rw [show _ = [] from h]; rfl
  | p :: r, _, ⟨a, u, ys, e, h1, h2, h3, q⟩ => by
    rw [e]
    by_cases z : p.1 = k
    · rw [getA_pos z, atKey_pos (show p.1.key = k.key by rw [z])]; rfl
    · rw [getA_neg z, atKey_neg (show ¬ p.1.key = k.key from fun y => z (D.key_inj h2.1 hk y)), RpK.get hk q]
theorem RpK.app {H : Hp} {k : D} {v : V} {a : Addr} {u : Value} (h1 : Rp H k (.ref a)) (h2 : k.good = true ∧ k.dep ≤ 8) (h3 : RelV v u) : ∀ {kvs : List (D × V)} {xs : List (NestedKey × Addr × Value)}, RpK H kvs xs → RpK H (kvs ++ [(k, v)]) (xs ++ [(k.key, a, u)])
  | [], _, h => by rw [show _ = [] from h]; exact ⟨a, u, [], rfl, h1, h2, h3, rfl⟩
  | p :: r, _, ⟨b, u', ys, e, g1, g2, g3, q⟩ => by rw [e]; exact ⟨b, u', ys ++ [(k.key, a, u)], rfl, g1, g2, g3, RpK.app h1 h2 h3 q⟩
theorem RpK.repl {H : Hp} {k : D} {v : V} {u : Value} (hk : k.good = true) (h3 : RelV v u) : ∀ {kvs : List (D × V)} {xs : List (NestedKey × Addr × Value)}, RpK H kvs xs → RpK H (kvs.map fun p => if p.1 = k then (p.1, v) else p) (xs.map (putAt k.key u))
  | [], _, h => by rw [show _ = [] from h]; exact rfl
  | p :: r, _, ⟨b, u', ys, e, g1, g2, g3, q⟩ => by
    rw [e, List.map_cons, List.map_cons]
    by_cases z : p.1 = k
    · rw [if_pos z]
      refine ⟨b, u, ys.map (putAt k.key u), ?_, g1, g2, h3, RpK.repl hk h3 q⟩
      have : putAt k.key u (p.1.key, b, u') = (p.1.key, b, u) := if_pos (show p.1.key = k.key by rw [z])
      rw [this]
    · rw [if_neg z]
      refine ⟨b, u', ys.map (putAt k.key u), ?_, g1, g2, g3, RpK.repl hk h3 q⟩
      have : putAt k.key u (p.1.key, b, u') = (p.1.key, b, u') := if_neg (show ¬ p.1.key = k.key from fun y => z (D.key_inj g2.1 hk y))
      rw [this]
theorem RpK.put {H : Hp} {k : D} {v : V} {a : Addr} {u : Value} {kvs : List (D × V)} {xs : List (NestedKey × Addr × Value)} (h : RpK H kvs xs) (h1 : Rp H k (.ref a)) (h2 : k.good = true ∧ k.dep ≤ 8) (h3 : RelV v u) : RpK H (putA kvs k v) (storedH xs k.key a u) := by
  unfold putA storedH
  rw [getA_any, ← h.get h2.1]
  by_cases z : (atKey xs k.key).isSome = true
  · rw [if_pos z, if_pos z]
    exact h.repl h2.1 h3
  · rw [if_neg z, if_neg z]
    exact h.app h1 h2 h3
theorem RpK.is {X : Cx} {pins : List (Addr × Obj)} {σ : L2.St} {H : Hp} {s : Shared} (I : Inv X pins σ H s) : ∀ {kvs : List (D × V)} {xs : List (NestedKey × Addr × Value)}, RpK H kvs xs → ∀ x ∈ xs, (nestedKind X.prog X.w).is s.heap x.1 x.2.1
  | [], _, h, x, hx => by rw [show _ = [] from h] at hx; cases hx
  | p :: r, _, ⟨a, u, ys, e, h1, h2, h3, q⟩, x, hx => by
    rw [e] at hx
    rcases List.mem_cons.mp hx with z | z
    · rw [z]
      exact ⟨nested_of I h1 rfl, by rw [D.key_dep]; exact h2.2⟩
    · exact RpK.is I q x z
/-- at a stands a dict with these keys -/
def DDs (P : Program) (w : World) (H : Hp) (a : Addr) (kvs : List (D × V)) : Prop := ∃ xs, H a = some (ddO P w a xs) ∧ RpK H kvs xs ∧ (a == sysModules) = false
theorem DDs.at {P : Program} {w : World} {H H' : Hp} {a : Addr} {kvs : List (D × V)} (d : DDs P w H a kvs) (t : Tups H H') (h : ∀ o, H a = some o → H' a = some o) : DDs P w H' a kvs := by
  obtain ⟨xs, e1, e2, e3⟩ := d
  exact ⟨xs, h _ e1, e2.at t, e3⟩
/-! ### rules -/
@[irreducible] def tDDNew (P : Program) (w : World) : TE := fun _ H Q => ∀ p H', H p = none → Fr [] H H' → Same H H' → (∀ b, b ≠ p → H' b = H b) → DDs P w H' p [] → Q (.ref p) H'
section
variable {X : Cx}
theorem pe_ddnew {pos : Pos} : PE X (.Dict [] [] pos) (tDDNew X.prog X.w) := by
  refine ⟨fun pins s σ H Q I h => wpAny_Dict_empty ?_⟩
  unfold tDDNew at h
  have nH : H s.heap.objs.size = none := I.hok.fresh (Nat.le_refl _)
  have big := dk_empty (P := X.prog) (w := X.w) (H := H) s.heap I.big
  obtain ⟨_, hd, vs, rel, o, es, ep, e1, e2, e3, e4, e5⟩ := big
  have hvs : vs = [] := by cases rel; rfl
  subst hvs
  have hes : es.toList = ([] : List (NestedKey × Addr × Value)).map (entryOfKey (nestedKind X.prog X.w)) := by
    have : (s.heap.push { cls := .type "dict", data := .dict #[] }).get? s.heap.objs.size = some { cls := .type "dict", data := .dict #[] } := Heap.get?_push_size _ rfl
    rw [this] at e1
    cases e1
    cases e3
    rfl
  have new : ObjOk X.prog X.w (upd H s.heap.objs.size (ddO X.prog X.w s.heap.objs.size [])) (s.heap.push { cls := .type "dict", data := .dict #[] }) s.heap.objs.size (ddO X.prog X.w s.heap.objs.size []) :=
    ⟨⟨o, es, ep, e1, e2, e3, hes, List.nodup_nil⟩, ⟨o, e1⟩, fun h1 h2 ⟨o, es, ep, a1, a2⟩ st => ⟨o, es, ep, st _ a1, a2⟩⟩
  exact ⟨.ref s.heap.objs.size, _, I.laid (t' := s.toks) (fun _ _ q => Heap.get?_push_of_some _ q) (Nat.le_refl _) new, rfl,
    h _ _ nH (Fr.of_same (same_new nH)) (same_new nH) (fun b hb => upd_ne hb) ⟨[], upd_same, rfl, hd⟩⟩
theorem dd_at {pins : List (Addr × Obj)} {σ : L2.St} {H : Hp} {s : Shared} {a : Addr} {kvs : List (D × V)} {xs : List (NestedKey × Addr × Value)} (I : Inv X pins σ H s) (h1 : H a = some (ddO X.prog X.w a xs)) (h2 : RpK H kvs xs) : s.heap.DictOfH (nestedKind X.prog X.w) a xs := by
  obtain ⟨⟨o, es, ep, e1, e2, e3, e4, e5⟩, _, _⟩ := I.hok a _ h1
  exact ⟨o, es, ep, e1, e2, e3, e4, h2.is I, e5⟩
/-- k not in d -/
def tDDNotIn (P : Program) (w : World) (ty td : TE) : TE := fun σ H Q => ty σ H fun y H1 => td σ H1 fun x H2 => ∃ a b k kvs, x = .ref a ∧ y = .ref b ∧ DDs P w H2 a kvs ∧ Rp H2 k y ∧ (k.good = true ∧ k.dep ≤ 8) ∧ Q (.bl (!(getA kvs k).isSome)) H2
theorem pc_ddnotin {i o : Expr} {ty td : TE} (hu : X.A.units + 65 < cLine) (hi : PE X i ty) (ho : PE X o td) : PC X .NotIn i o (tDDNotIn X.prog X.w ty td) := by
  refine ⟨fun pins s σ H Q I h => thn (hi.run pins s σ H _ I h) fun iv s1 ⟨y, H1, I1, ry, q1⟩ => thn (ho.run pins s1 σ H1 _ I1 q1) fun u s2 ⟨x, H2, I2, rx, a, b, k, kvs, ex, ey, ⟨xs, g1, g2, g3⟩, g4, g5, q2⟩ => ?_⟩
  subst ex ey
  obtain rfl : u = Value.ref a := rx
  obtain rfl : iv = Value.ref b := ry
  refine wpAny_notIn_heap (knd := nestedKind X.prog X.w) (k := k.key) (xs := xs) (show X.A.in1.units + 8 < cLine from ?_) ⟨nested_of I2 g4 rfl, by rw [D.key_dep]; exact g5.2⟩ g3 (dd_at I2 g1 g2) ?_
  · show X.A.units + 1 + 8 < cLine
    omega
  · exact ⟨.bl (!(atKey xs k.key).isSome), H2, I2.tok _, rfl, by rw [g2.get g5.1]; exact q2⟩
/-- d[k] = v -/
def sDDPut (P : Program) (w : World) (td ty tv : TE) : TS := fun D σ H => tv σ H fun v H1 => td σ H1 fun x H2 => ty σ H2 fun y H3 => ∃ a b k kvs, x = .ref a ∧ y = .ref b ∧ DDs P w H3 a kvs ∧ Rp H3 k y ∧ (k.good = true ∧ k.dep ≤ 8) ∧ kvs.length < 1000000 ∧
  ∀ H4, (∀ b, b ≠ a → H4 b = H3 b) → Fr [a] H3 H4 → Tups H3 H4 → DDs P w H4 a (putA kvs k v) → D.nx σ H4
theorem ps_ddput {o i value : Expr} {td ty tv : TE} {pos pos' : Pos} (hu : X.A.units + 65 < cLine) (ho : PE X o td) (hi : PE X i ty) (hv : PE X value tv) (hs : swapsWith value (some (.Subscript o i pos')) pos.line X.env = pure false) :
    PS X (.Assign [.Subscript o i pos'] value pos) (sDDPut X.prog X.w td ty tv) := by
  refine ⟨fun pins s σ H D' I h => wpAny_Assign_Subscript (thn (hv.run pins s σ H _ I h) fun r s1 ⟨v, H1, I1, rv, q1⟩ => thn (ho.run pins s1 σ H1 _ I1 q1) fun u s2 ⟨x, H2, I2, rx, q2⟩ => thn (hi.run pins s2 σ H2 _ I2 q2) fun iv s3 ⟨y, H3, I3, ry, a, b, k, kvs, ex, ey, ⟨xs, g1, g2, g3⟩, g4, g5, gl, q3⟩ => ?_) hs⟩
  subst ex ey
  obtain rfl : u = Value.ref a := rx
  obtain rfl : iv = Value.ref b := ry
  have nt : ∀ ys, H3 a ≠ some (.tup ys) := not_tup_of g1 fun ys => ddO_ne_tup ys
  refine wpAny_setItem_heap (knd := nestedKind X.prog X.w) (k := k.key) (xs := xs) (hsz := by rw [g2.length, sizeLine_eq]; omega) (show X.A.in1.units + 8 < cLine from ?_) ⟨nested_of I3 g4 rfl, by rw [D.key_dep]; exact g5.2⟩ (dd_at I3 g1 g2) fun h' dd hsb => ?_
  · show X.A.units + 1 + 8 < cLine
    omega
  · obtain ⟨o', es, ep, e1, e2, e3, e4, _, e5⟩ := dd
    have new : ObjOk X.prog X.w (upd H3 a (ddO X.prog X.w a (storedH xs k.key b r))) h' a (ddO X.prog X.w a (storedH xs k.key b r)) :=
      ⟨⟨o', es, ep, e1, e2, e3, e4, e5⟩, ⟨o', e1⟩, fun h1 h2 ⟨o, es, ep, a1, a2⟩ st => ⟨o, es, ep, st _ a1, a2⟩⟩
    have tp : Tups H3 (upd H3 a (ddO X.prog X.w a (storedH xs k.key b r))) := (Tups.refl _).put nt
    exact ⟨σ, _, d_write I3 (by rw [g1]; exact True.intro) hsb ⟨o', e1⟩ new, q3 _ (fun b hb => upd_ne hb) (Fr.upd_in (by simp)) tp ⟨_, upd_same, (g2.put g4 g5 rv).at tp, g3⟩⟩
end
end Gr
/-! ### < and > of pairs of ints -/
namespace Gr
open PySem PySem.Spec PyProof.Rows L2
def ltB (b c : Int × Int) : Bool := decide (b.1 < c.1) || (decide (b.1 = c.1) && decide (b.2 < c.2))
def pairD (b : Int × Int) : D := .tup [.int b.1, .int b.2]
theorem dataLt_pair (b c : Int × Int) : PySem.W.dataLt (pairD b).py (pairD c).py = ltB b c := by
  have eqI : ∀ i j : Int, PyData.eqv (.int i) (.int j) = decide (i = j) := fun i j => by simp only [PyData.eqv]; rfl
  have al : ∀ i j : Int, PySem.W.alike (.int i) (.int j) = true := fun i j => by simp only [PySem.W.alike]
  simp only [pairD, D.py, List.map_cons, List.map_nil]
  rw [PySem.W.dataLt_tuple]
  unfold ltB
  by_cases h1 : b.1 = c.1
  · rw [PySem.W.dataLt_all_yes (al _ _) (by rw [eqI]; exact decide_eq_true h1)]
    by_cases h2 : b.2 = c.2
    · rw [PySem.W.dataLt_all_yes (al _ _) (by rw [eqI]; exact decide_eq_true h2), h1, h2]
      simp [PySem.W.keyToksAll, PyProof.Rows.lexLt, PyProof.Rows.itemOrd, PyProof.Rows.itemLt]
    · rw [PySem.W.dataLt_all_no (al _ _) (by rw [eqI]; exact decide_eq_false h2), PySem.W.dataLt_int, h1]
      simp
  · rw [PySem.W.dataLt_all_no (al _ _) (by rw [eqI]; exact decide_eq_false h1), PySem.W.dataLt_int]
    simp [h1]
section
variable {X : Cx}
def rLtP : R2 := fun x y H Q => ∃ b c, Rp H (pairD b) x ∧ Rp H (pairD c) y ∧ Q (.bl (ltB b c)) H
def rGtP : R2 := fun x y H Q => ∃ b c, Rp H (pairD b) x ∧ Rp H (pairD c) y ∧ Q (.bl (ltB c b)) H
theorem pairD_dep (b : Int × Int) : (pairD b).py.depth = 1 := by rw [D.py_dep]; simp [pairD, D.dep, D.depL]
theorem op_ltP (hu : X.A.units + 64 < cLine) : OpR X (compareOp .Lt) rLtP := by
  intro pins s σ H x y v u Q I rx ry ⟨b, c, h1, h2, q⟩
  obtain ⟨as, r1⟩ := Dp.reads I _ x v h1.dp rx
  obtain ⟨bs, r2⟩ := Dp.reads I _ y u h2.dp ry
  refine PySem.W.lt_data r1 r2 (by simp [pairD, D.py, PySem.W.alike, PySem.W.alikeAll]) (by simp [pairD, D.py]) (by rw [pairD_dep, pairD_dep]; omega) ?_
  rw [dataLt_pair]
  exact ⟨.bl _, H, I, rfl, q⟩
theorem op_gtP (hu : X.A.units + 64 < cLine) : OpR X (compareOp .Gt) rGtP := by
  intro pins s σ H x y v u Q I rx ry ⟨b, c, h1, h2, q⟩
  obtain ⟨as, r1⟩ := Dp.reads I _ x v h1.dp rx
  obtain ⟨bs, r2⟩ := Dp.reads I _ y u h2.dp ry
  refine PySem.W.gt_data r1 r2 (by simp [pairD, D.py, PySem.W.alike, PySem.W.alikeAll]) (by simp [pairD, D.py]) (by rw [pairD_dep, pairD_dep]; omega) ?_
  rw [dataLt_pair]
  exact ⟨.bl _, H, I, rfl, q⟩
end
end Gr
/-! ### setdefault, keys of ints -/
namespace Gr
open PySem PySem.Spec PyProof.Rows L2
section
variable {X : Cx}
/-- d.setdefault(y, z), y a tuple of ints -/
def tSetdN (td ty tx : TE) : TE := fun σ H Q => td σ H fun x H1 => (∃ a m, x = .ref a ∧ H1 a = some (dN m)) ∧ ty σ H1 fun y H2 => tx σ H2 fun z H3 => ∃ a m k b, x = .ref a ∧ H3 a = some (dN m) ∧ y = .ref b ∧ H3 b = some (.tup (List.map V.int k)) ∧ m.length < 1000000 ∧
  (∀ v, getA m k = some v → Q v H3) ∧ (getA m k = none → Q z (upd H3 a (dN (putA m k z))))
theorem kv_ints (k : List Int) : (k.map (Sum.inl : Int → Key)).map kV = k.map V.int := kVs_int k
theorem d_setdN {pins : List (Addr × Obj)} {σ : L2.St} {H : Hp} {s : Shared} {a b : Addr} {m : List (List Int × V)} {k : List Int} {z : V} {r : Value} {A : Around} {E : Value → Shared → Prop} {Q : Value → Shared → Prop} (hu : A.units + 1 < cLine) (I : Inv X pins σ H s) (e : H a = some (dN m)) (eb : H b = some (.tup (k.map V.int))) (hl : m.length < 1000000) (rz : RelV z r)
    (h1 : ∀ v, getA m k = some v → ∀ w' s', Inv X pins σ H s' → RelV v w' → Q w' s') (h2 : getA m k = none → ∀ s', Inv X pins σ (upd H a (dN (putA m k z))) s' → Q r s') :
    wpAny (model X.prog X.w) A (call (.builtin "dict.setdefault") [.ref a, .ref b, r]) Q E s := by
  obtain ⟨zl, hd, xs, rel, dd⟩ := dt_of I.hok e
  have eb' : H b = some (.tup ((k.map (Sum.inl : Int → Key)).map kV)) := by rw [kv_ints]; exact eb
  have hz : xs.length ≤ sizeLine := by rw [← Paired.length rel]; exact zl
  have hv := rel.val (k.map Sum.inl)
  rw [valN] at hv
  refine call_setdefault_heap (hsz := hz) (tupleKind_room_in1 hu) (key_of I.hok eb') hd dd (fun p hp => ?_) fun hn h' dd' hs => ?_
  · rw [hp] at hv
    cases q0 : valV m k with
    | none => rw [q0] at hv; exact (show False from hv).elim
    | some v => rw [q0] at hv; exact h1 v q0 _ _ (I.tok _) hv
  · rw [hn] at hv
    cases q0 : valV m k with
    | some v => rw [q0] at hv; exact (show False from hv).elim
    | none =>
      have hl2 : ((m.map fun p => ((p.1.map Sum.inl : List Key), p.2)).length) < 1000000 := by rw [List.length_map]; exact hl
      have hl3 : (putK (m.map fun p => ((p.1.map Sum.inl : List Key), p.2)) (k.map Sum.inl) z).length ≤ sizeLine := by have := length_putK (m.map fun p => ((p.1.map Sum.inl : List Key), p.2)) (k.map Sum.inl) z; rw [sizeLine_eq]; omega
      obtain ⟨q, es, ep, hq, g2, g3, g4, _, g5⟩ := dd'
      refine h2 q0 _ ?_
      have en : (dN (putA m k z)) = .dT (putK (m.map fun p => ((p.1.map Sum.inl : List Key), p.2)) (k.map Sum.inl) z) := by
        rw [putN]
        rfl
      rw [en]
      refine d_write I (by rw [e]; exact True.intro) hs ⟨q, hq⟩ ⟨hl3, hd, _, (rel.put _ eb' rz).keeps fun c ys ec => ?_, q, es, ep, hq, g2, g3, g4, g5⟩
      rw [upd_ne (ne_of ec e (fun z => nomatch z))]
      exact ec
theorem pe_setdN {o e f : Expr} {td ty tx : TE} {apos cpos : Pos} (hu : X.A.units + 1 < cLine) (ho : PE X o td) (he : PE X e ty) (hf : PE X f tx) (m : M2 X o "setdefault" apos e f cpos) : PE X (.Call (.Attribute o "setdefault" apos) [e, f] [] cpos) (tSetdN td ty tx) := by
  refine ⟨fun pins s σ H Q I h => wpAny_Call_method m.base m.few m.line PySem.F.plainAttrs_dict PySem.F.slot_dict_setdefault PySem.F.type_dict_setdefault (thn (ho.run pins s σ H _ I h) fun u s1 ⟨x, H1, I1, rx, ⟨a, mm, ex, d⟩, q1⟩ => ?_)⟩
  subst ex
  obtain rfl : u = Value.ref a := rx
  obtain ⟨t1, t2, _⟩ := isD_at I1 (.inr ⟨_, Rd.of d⟩)
  refine ⟨t1, t2, ?_⟩
  rw [m.trees]
  refine Calls.callWith_builtin rfl (Calls.evalArgs_plain (Calls.spliced_cons (thn (he.run pins s1 σ H1 _ I1 q1) fun iv s2 ⟨y, H2, I2, ry, q2⟩ => Calls.spliced_cons (thn (hf.run pins s2 σ H2 _ I2 q2) fun fv s3 ⟨z, H3, I3, rz, a', m', k, b, ea, e1, ey, e2, hl, q3, q4⟩ => Calls.spliced_nil ?_))))
  cases ea
  subst ey
  obtain rfl : iv = Value.ref b := ry
  exact d_setdN hu I3 e1 e2 hl rz (fun v hv w' s4 I4 rw' => ⟨v, _, I4, rw', q3 v hv⟩) fun hn s4 I4 => ⟨z, _, I4, rz, q4 hn⟩
end
section
variable {H : Hp} {Q : VK} {σ : L2.St} {td ty tx tv : TE} {P : Program} {w : World}
theorem a_setdN : tSetdN td ty tx σ H Q = td σ H fun x H1 => (∃ a m, x = .ref a ∧ H1 a = some (dN m)) ∧ ty σ H1 fun y H2 => tx σ H2 fun z H3 => ∃ a m k b, x = .ref a ∧ H3 a = some (dN m) ∧ y = .ref b ∧ H3 b = some (.tup (List.map V.int k)) ∧ m.length < 1000000 ∧
  (∀ v, getA m k = some v → Q v H3) ∧ (getA m k = none → Q z (upd H3 a (dN (putA m k z)))) := rfl
theorem a_ddnew : tDDNew P w σ H Q = ∀ p H', H p = none → Fr [] H H' → Same H H' → (∀ b, b ≠ p → H' b = H b) → DDs P w H' p [] → Q (.ref p) H' := by
  unfold tDDNew
  rfl
theorem a_ddnotin : tDDNotIn P w ty td σ H Q = ty σ H fun y H1 => td σ H1 fun x H2 => ∃ a b k kvs, x = .ref a ∧ y = .ref b ∧ DDs P w H2 a kvs ∧ Rp H2 k y ∧ (k.good = true ∧ k.dep ≤ 8) ∧ Q (.bl (!(getA kvs k).isSome)) H2 := rfl
theorem a_ddput {D : Ends} : sDDPut P w td ty tv D σ H = tv σ H fun v H1 => td σ H1 fun x H2 => ty σ H2 fun y H3 => ∃ a b k kvs, x = .ref a ∧ y = .ref b ∧ DDs P w H3 a kvs ∧ Rp H3 k y ∧ (k.good = true ∧ k.dep ≤ 8) ∧ kvs.length < 1000000 ∧
  ∀ H4, (∀ b, b ≠ a → H4 b = H3 b) → Fr [a] H3 H4 → Tups H3 H4 → DDs P w H4 a (putA kvs k v) → D.nx σ H4 := rfl
end
end Gr
namespace Gr
open PySem PySem.Spec PyProof.Rows L2
section
variable {CX : CXT} {P : Program} {w : World} {K : PySem.W.Frag} {mg : Str → Option Value} {base : Heap} {N : List Str} {qual : Str} {scope : Scope} {f : Addr} {cd : Value} {A : Around} {outer : List PySem.Env} {s : Shared} {H : Hp} {E : XK}
theorem cx_P : (cxOf CX P w K mg base N qual scope f cd A outer s H E).prog = P := rfl
theorem cx_w : (cxOf CX P w K mg base N qual scope f cd A outer s H E).w = w := rfl
end
end Gr
/-! ### walks over locked dicts -/
namespace Gr
open PySem PySem.Spec PyProof.Rows L2
theorem wk_vals {H : Hp} {d : Addr} {o : Obj} {m : List (Int × V)} (h : H d = some (.frz o (dI m))) : Wk (Itd d o (m.map fun p => (Sum.inl p.1, p.2))) H m.length fun i x _ => ∃ k, m[i]? = some (k, x) where
  go := fun i H1 e hi => ⟨e d _ h, by rw [List.length_map]; exact hi⟩
  stop := fun i H1 e hi => ⟨e d _ h, by rw [List.length_map]; exact hi⟩
  yld := fun i x H1 H' _ _ ⟨e, k, hk⟩ => by
    refine ⟨by rw [e]; exact Same.refl _, ?_⟩
    rw [List.getElem?_map] at hk
    obtain ⟨p, hp, e2⟩ := Option.map_eq_some_iff.mp hk
    refine ⟨p.1, ?_⟩
    rw [hp]
    have : p.2 = x := congrArg Prod.snd e2
    rw [← this]
theorem wk_keysN {H : Hp} {d : Addr} {o : Obj} {m : List (List Int × V)} (h : H d = some (.frz o (dN m))) : Wk (Itkt d o (m.map fun p => (p.1.map Sum.inl, p.2))) H m.length fun i x H' => ∃ k v q, m[i]? = some (k, v) ∧ x = .ref q ∧ H' q = some (.tup (List.map V.int k)) where
  go := fun i H1 e hi => ⟨e d _ h, by rw [List.length_map]; exact hi⟩
  stop := fun i H1 e hi => ⟨e d _ h, by rw [List.length_map]; exact hi⟩
  yld := fun i x H1 H' _ _ ⟨e, k, v, q, hk, ex, hq⟩ => by
    refine ⟨by rw [e]; exact Same.refl _, ?_⟩
    rw [List.getElem?_map] at hk
    obtain ⟨p, hp, e2⟩ := Option.map_eq_some_iff.mp hk
    have e3 : p.1.map Sum.inl = k := congrArg Prod.fst e2
    refine ⟨p.1, p.2, q, hp, ex, ?_⟩
    rw [e, hq, ← e3]
    exact congrArg (fun z => some (HO.tup z)) (kVs_int p.1)
theorem dget_If {H : Hp} {a : Addr} {o : Obj} {m : List (Int × V)} {k : Int} (e : H a = some (.frz o (dI m))) : DGet H a (.int k) (getA m k) := .inl ⟨_, Sum.inl k, .inr ⟨o, e⟩, rfl, valI.symm⟩
theorem dget_Nf {H : Hp} {a b : Addr} {o : Obj} {m : List (List Int × V)} {k : List Int} (e : H a = some (.frz o (dN m))) (eb : H b = some (.tup (k.map V.int))) : DGet H a (.ref b) (getA m k) := .inr ⟨_, k.map Sum.inl, b, .inr ⟨o, e⟩, rfl, by rw [kVs_int]; exact eb, valN.symm⟩
section
variable {td : TE} {σ : L2.St} {H : Hp} {RI : It → Hp → Prop} {K : PySem.W.Frag} {x y : V} {Q : VK}
theorem a_iVals : iVals td σ H RI = td σ H fun x H1 => ∃ d o kvs, x = .ref d ∧ H1 d = some (.frz o (.dK kvs)) ∧ RI (Itd d o kvs) H1 := rfl
theorem a_iKeys : iKeys td σ H RI = td σ H fun x H1 => ∃ d o, x = .ref d ∧ ((∃ kvs, H1 d = some (.frz o (.dK kvs)) ∧ RI (Itk d o kvs) H1) ∨ ∃ kvs, H1 d = some (.frz o (.dT kvs)) ∧ RI (Itkt d o kvs) H1) := rfl
end
end Gr

namespace K64
open PySem PySem.Spec PyProof.Rows L2 Gr NdefX
/-! ### the program's statements by place (printed by gen.py) -/
def topS (i : Nat) : Stmt := PySem.Challenge.pw_groupcall_k64_whole_one_plan.main.body.getD i (.Pass ⟨0, 0, 0, 0⟩)
abbrev s_has : Stmt := topS 1
abbrev N_has : List Str := ["hands", "hand"]
theorem sc_has : FnScope N_has ["hands", "hand"] (defScope s_has) := ⟨rfl, rfl, rfl, by decide +kernel, rfl, by decide +kernel, by decide +kernel⟩
def d_has : He.DefD := ⟨("has", none), "has", "has", defArgs s_has, defBody s_has, defScope s_has, [], []⟩
abbrev s_hands_of : Stmt := topS 2
abbrev N_hands_of : List Str := ["hands", "hand"]
theorem sc_hands_of : FnScope N_hands_of ["hands"] (defScope s_hands_of) := ⟨rfl, rfl, rfl, by decide +kernel, rfl, by decide +kernel, by decide +kernel⟩
def d_hands_of : He.DefD := ⟨("hands_of", none), "hands_of", "hands_of", defArgs s_hands_of, defBody s_hands_of, defScope s_hands_of, [], []⟩
abbrev s_many : Stmt := topS 3
abbrev N_many : List Str := ["hands", "found"]
theorem sc_many : FnScope N_many ["hands"] (defScope s_many) := ⟨rfl, rfl, rfl, by decide +kernel, rfl, by decide +kernel, by decide +kernel⟩
def d_many : He.DefD := ⟨("many", none), "many", "many", defArgs s_many, defBody s_many, defScope s_many, [], []⟩
abbrev s_more_than_half : Stmt := topS 4
abbrev N_more_than_half : List Str := ["some", "hands"]
theorem sc_more_than_half : FnScope N_more_than_half ["some", "hands"] (defScope s_more_than_half) := ⟨rfl, rfl, rfl, by decide +kernel, rfl, by decide +kernel, by decide +kernel⟩
def d_more_than_half : He.DefD := ⟨("more_than_half", none), "more_than_half", "more_than_half", defArgs s_more_than_half, defBody s_more_than_half, defScope s_more_than_half, [], []⟩
abbrev s_under : Stmt := topS 6
abbrev N_under : List Str := ["one", "other"]
theorem sc_under : FnScope N_under ["one", "other"] (defScope s_under) := ⟨rfl, rfl, rfl, by decide +kernel, rfl, by decide +kernel, by decide +kernel⟩
def d_under : He.DefD := ⟨("under", none), "under", "under", defArgs s_under, defBody s_under, defScope s_under, [], []⟩
abbrev s_ballot_of : Stmt := topS 7
abbrev N_ballot_of : List Str := ["yes"]
theorem sc_ballot_of : FnScope N_ballot_of ["yes"] (defScope s_ballot_of) := ⟨rfl, rfl, rfl, by decide +kernel, rfl, by decide +kernel, by decide +kernel⟩
def d_ballot_of : He.DefD := ⟨("ballot_of", none), "ballot_of", "ballot_of", defArgs s_ballot_of, defBody s_ballot_of, defScope s_ballot_of, [], []⟩
abbrev s_Change_init : Stmt := inClass (topS 8) 0
abbrev N_Change_init : List Str := ["self", "me", "hands"]
theorem sc_Change_init : FnScope N_Change_init ["self", "me", "hands"] (defScope s_Change_init) := ⟨rfl, rfl, rfl, by decide +kernel, rfl, by decide +kernel, by decide +kernel⟩
def d_Change_init : He.DefD := ⟨("Change", some "__init__"), "__init__", "Change.__init__", defArgs s_Change_init, defBody s_Change_init, defScope s_Change_init, [], []⟩
abbrev s_Change_begin : Stmt := inClass (topS 8) 1
abbrev N_Change_begin : List Str := ["self", "more", "report", "begun"]
theorem sc_Change_begin : FnScope N_Change_begin ["self", "more", "report"] (defScope s_Change_begin) := ⟨rfl, rfl, rfl, by decide +kernel, rfl, by decide +kernel, by decide +kernel⟩
def d_Change_begin : He.DefD := ⟨("Change", some "begin"), "begin", "Change.begin", defArgs s_Change_begin, defBody s_Change_begin, defScope s_Change_begin, [], []⟩
abbrev s_Change_message : Stmt := inClass (topS 8) 2
abbrev N_Change_message : List Str := ["self", "report"]
theorem sc_Change_message : FnScope N_Change_message ["self", "report"] (defScope s_Change_message) := ⟨rfl, rfl, rfl, by decide +kernel, rfl, by decide +kernel, by decide +kernel⟩
def d_Change_message : He.DefD := ⟨("Change", some "message"), "message", "Change.message", defArgs s_Change_message, defBody s_Change_message, defScope s_Change_message, [], []⟩
abbrev s_Change_receive : Stmt := inClass (topS 8) 3
abbrev N_Change_receive : List Str := ["self", "message", "hand", "ballot", "yes", "votes", "report"]
theorem sc_Change_receive : FnScope N_Change_receive ["self", "message"] (defScope s_Change_receive) := ⟨rfl, rfl, rfl, by decide +kernel, rfl, by decide +kernel, by decide +kernel⟩
def d_Change_receive : He.DefD := ⟨("Change", some "receive"), "receive", "Change.receive", defArgs s_Change_receive, defBody s_Change_receive, defScope s_Change_receive, [], []⟩
abbrev s_Change_receive_yes : Stmt := inClass (topS 8) 4
abbrev N_Change_receive_yes : List Str := ["self", "yes", "votes"]
theorem sc_Change_receive_yes : FnScope N_Change_receive_yes ["self", "yes", "votes"] (defScope s_Change_receive_yes) := ⟨rfl, rfl, rfl, by decide +kernel, rfl, by decide +kernel, by decide +kernel⟩
def d_Change_receive_yes : He.DefD := ⟨("Change", some "receive_yes"), "receive_yes", "Change.receive_yes", defArgs s_Change_receive_yes, defBody s_Change_receive_yes, defScope s_Change_receive_yes, [], []⟩
abbrev s_Change_unplanned : Stmt := inClass (topS 8) 5
abbrev N_Change_unplanned : List Str := ["self"]
theorem sc_Change_unplanned : FnScope N_Change_unplanned ["self"] (defScope s_Change_unplanned) := ⟨rfl, rfl, rfl, by decide +kernel, rfl, by decide +kernel, by decide +kernel⟩
def d_Change_unplanned : He.DefD := ⟨("Change", some "unplanned"), "unplanned", "Change.unplanned", defArgs s_Change_unplanned, defBody s_Change_unplanned, defScope s_Change_unplanned, [], []⟩
abbrev s_Change_settle : Stmt := inClass (topS 8) 6
abbrev N_Change_settle : List Str := ["self"]
theorem sc_Change_settle : FnScope N_Change_settle ["self"] (defScope s_Change_settle) := ⟨rfl, rfl, rfl, by decide +kernel, rfl, by decide +kernel, by decide +kernel⟩
def d_Change_settle : He.DefD := ⟨("Change", some "settle"), "settle", "Change.settle", defArgs s_Change_settle, defBody s_Change_settle, defScope s_Change_settle, [], []⟩
abbrev s_Change_enough : Stmt := inClass (topS 8) 7
abbrev N_Change_enough : List Str := ["self", "doubts", "told", "hand"]
theorem sc_Change_enough : FnScope N_Change_enough ["self", "doubts"] (defScope s_Change_enough) := ⟨rfl, rfl, rfl, by decide +kernel, rfl, by decide +kernel, by decide +kernel⟩
def d_Change_enough : He.DefD := ⟨("Change", some "enough"), "enough", "Change.enough", defArgs s_Change_enough, defBody s_Change_enough, defScope s_Change_enough, [], []⟩
abbrev s_Change_propose : Stmt := inClass (topS 8) 8
abbrev N_Change_propose : List Str := ["self", "doubts", "make", "best", "plan", "hand", "yes"]
theorem sc_Change_propose : FnScope N_Change_propose ["self", "doubts", "make"] (defScope s_Change_propose) := ⟨rfl, rfl, rfl, by decide +kernel, rfl, by decide +kernel, by decide +kernel⟩
def d_Change_propose : He.DefD := ⟨("Change", some "propose"), "propose", "Change.propose", defArgs s_Change_propose, defBody s_Change_propose, defScope s_Change_propose, [], []⟩
abbrev s_Change_settled : Stmt := inClass (topS 8) 9
abbrev N_Change_settled : List Str := ["self"]
theorem sc_Change_settled : FnScope N_Change_settled ["self"] (defScope s_Change_settled) := ⟨rfl, rfl, rfl, by decide +kernel, rfl, by decide +kernel, by decide +kernel⟩
def d_Change_settled : He.DefD := ⟨("Change", some "settled"), "settled", "Change.settled", defArgs s_Change_settled, defBody s_Change_settled, defScope s_Change_settled, [], []⟩
abbrev s_l_cell_at : Stmt := topS 10
abbrev N_l_cell_at : List Str := ["_law_script", "_law_k"]
theorem sc_l_cell_at : FnScope N_l_cell_at ["_law_script", "_law_k"] (defScope s_l_cell_at) := ⟨rfl, rfl, rfl, by decide +kernel, rfl, by decide +kernel, by decide +kernel⟩
def d_l_cell_at : He.DefD := ⟨("_law_cell_at", none), "_law_cell_at", "_law_cell_at", defArgs s_l_cell_at, defBody s_l_cell_at, defScope s_l_cell_at, [], []⟩
abbrev s_l_stream : Stmt := topS 11
abbrev N_l_stream : List Str := ["_law_cell", "_law_amount", "_law_found", "_law_rest", "_law_k", "_law_number"]
theorem sc_l_stream : FnScope N_l_stream ["_law_cell", "_law_amount"] (defScope s_l_stream) := ⟨rfl, rfl, rfl, by decide +kernel, rfl, by decide +kernel, by decide +kernel⟩
def d_l_stream : He.DefD := ⟨("_law_stream", none), "_law_stream", "_law_stream", defArgs s_l_stream, defBody s_l_stream, defScope s_l_stream, [], []⟩
abbrev s_l_hands : Stmt := topS 12
abbrev N_l_hands : List Str := ["_law_cell", "_law_amount", "_law_found", "_law_number"]
theorem sc_l_hands : FnScope N_l_hands ["_law_cell"] (defScope s_l_hands) := ⟨rfl, rfl, rfl, by decide +kernel, rfl, by decide +kernel, by decide +kernel⟩
def d_l_hands : He.DefD := ⟨("_law_hands", none), "_law_hands", "_law_hands", defArgs s_l_hands, defBody s_l_hands, defScope s_l_hands, [], []⟩
abbrev s_l_propose : Stmt := topS 13
abbrev N_l_propose : List Str := ["_law_changes", "_law_hand", "_law_answered", "_law_xs", "_law_doubts", "_law_some", "_law_make", "_law_k"]
theorem sc_l_propose : FnScope N_l_propose ["_law_changes", "_law_hand", "_law_answered", "_law_xs"] (defScope s_l_propose) := ⟨rfl, rfl, rfl, by decide +kernel, rfl, by decide +kernel, by decide +kernel⟩
def d_l_propose : He.DefD := ⟨("_law_propose", none), "_law_propose", "_law_propose", defArgs s_l_propose, defBody s_l_propose, defScope s_l_propose, [], []⟩
abbrev s_l_noted : Stmt := topS 14
abbrev N_l_noted : List Str := ["_law_change", "_law_hand", "_law_said", "_law_plans", "_law_ballot", "_law_plan", "_law_one"]
theorem sc_l_noted : FnScope N_l_noted ["_law_change", "_law_hand", "_law_said", "_law_plans"] (defScope s_l_noted) := ⟨rfl, rfl, rfl, by decide +kernel, rfl, by decide +kernel, by decide +kernel⟩
def d_l_noted : He.DefD := ⟨("_law_noted", none), "_law_noted", "_law_noted", defArgs s_l_noted, defBody s_l_noted, defScope s_l_noted, [], []⟩
abbrev s_l_kept : Stmt := topS 15
abbrev N_l_kept : List Str := ["_law_change", "_law_hand", "_law_settled", "_law_before", "_law_found"]
theorem sc_l_kept : FnScope N_l_kept ["_law_change", "_law_hand", "_law_settled", "_law_before"] (defScope s_l_kept) := ⟨rfl, rfl, rfl, by decide +kernel, rfl, by decide +kernel, by decide +kernel⟩
def d_l_kept : He.DefD := ⟨("_law_kept", none), "_law_kept", "_law_kept", defArgs s_l_kept, defBody s_l_kept, defScope s_l_kept, [], []⟩
abbrev s_l_agreed : Stmt := topS 16
abbrev N_l_agreed : List Str := ["_law_settled", "_law_answered", "_law_plans", "_law_found", "_law_plan", "_law_ballot", "_law_one"]
theorem sc_l_agreed : FnScope N_l_agreed ["_law_settled", "_law_answered", "_law_plans"] (defScope s_l_agreed) := ⟨rfl, rfl, rfl, by decide +kernel, rfl, by decide +kernel, by decide +kernel⟩
def d_l_agreed : He.DefD := ⟨("_law_agreed", none), "_law_agreed", "_law_agreed", defArgs s_l_agreed, defBody s_l_agreed, defScope s_l_agreed, [], []⟩
abbrev s_l_deed : Stmt := topS 17
abbrev N_l_deed : List Str := ["_law_changes", "_law_hand", "_law_mail", "_law_answered", "_law_xs", "_law_deed_here", "_law_giver", "_law_message"]
theorem sc_l_deed : FnScope N_l_deed ["_law_changes", "_law_hand", "_law_mail", "_law_answered", "_law_xs"] (defScope s_l_deed) := ⟨rfl, rfl, rfl, by decide +kernel, rfl, by decide +kernel, by decide +kernel⟩
def d_l_deed : He.DefD := ⟨("_law_deed", none), "_law_deed", "_law_deed", defArgs s_l_deed, defBody s_l_deed, defScope s_l_deed, [], []⟩
abbrev s_l_right : Stmt := topS 18
abbrev N_l_right : List Str := ["_law_changes", "_law_hand", "_law_state", "_law_before", "_law_settled", "_law_said", "_law_plans"]
theorem sc_l_right : FnScope N_l_right ["_law_changes", "_law_hand", "_law_state", "_law_before"] (defScope s_l_right) := ⟨rfl, rfl, rfl, by decide +kernel, rfl, by decide +kernel, by decide +kernel⟩
def d_l_right : He.DefD := ⟨("_law_right", none), "_law_right", "_law_right", defArgs s_l_right, defBody s_l_right, defScope s_l_right, [], []⟩
abbrev s_law : Stmt := topS 19
abbrev N_law : List Str := ["_law_script", "_law_hands_here", "_law_whole", "_law_changes", "_law_hand", "_law_mail", "_law_answered", "_law_state", "_law_cell", "_law_xs", "_law_one", "_law_some", "_law_cut", "_law_falls", "_law_before"]
theorem sc_law : FnScope N_law ["_law_script"] (defScope s_law) := ⟨rfl, rfl, rfl, by decide +kernel, rfl, by decide +kernel, by decide +kernel⟩
def d_law : He.DefD := ⟨("law", none), "law", "law", defArgs s_law, defBody s_law, defScope s_law, [], []⟩
def nm_l_propose : Nat → Nat → Str := fun _ _ => "_law_propose.<locals>._law_make"
abbrev s_l_propose_law_make : Stmt := (C8.fnBody s_l_propose).getD 2 (.Pass ⟨0, 0, 0, 0⟩)
abbrev N_l_propose_law_make : List Str := ["_law_reports", "_law_answered"]
theorem nsc_l_propose_law_make : NdefX.NScope N_l_propose_law_make ["_law_reports"] ["_law_answered"] (C8.fnScope s_l_propose_law_make) := NdefX.nscope_by (by decide +kernel)
def fnL : List He.DefD := [d_has, d_hands_of, d_many, d_more_than_half, d_under, d_ballot_of, d_Change_init, d_Change_begin, d_Change_message, d_Change_receive, d_Change_receive_yes, d_Change_unplanned, d_Change_settle, d_Change_enough, d_Change_propose, d_Change_settled, d_l_cell_at, d_l_stream, d_l_hands, d_l_propose, d_l_noted, d_l_kept, d_l_agreed, d_l_deed, d_l_right, d_law]
def F_Change : List Str := ["me", "hands", "ballot", "yes", "votes", "reports", "agreed"]
theorem nd_F_Change : F_Change.Nodup := by decide +kernel
theorem ln_F_Change {vs : List V} : (F_Change.zip vs).length < 1000 := zip_len (by decide)
theorem in_Change_0 {a0 : V} : putF ("me" : Str) a0 [] = (["me"] : List Str).zip [a0] := rfl
theorem ll_Change_0 {vs : List V} : (((["me"] : List Str).zip vs).length < 1000) = True := eq_true (zip_len (by decide))
theorem lk_Change_me {a0 a1 a2 a3 a4 a5 a6 : V} : List.lookup ("me" : Str) (F_Change.zip [a0, a1, a2, a3, a4, a5, a6]) = some a0 := look_zip (i := 0) nd_F_Change rfl rfl
theorem pt_Change_me {y a0 a1 a2 a3 a4 a5 a6 : V} : putF ("me" : Str) y (F_Change.zip [a0, a1, a2, a3, a4, a5, a6]) = F_Change.zip [y, a1, a2, a3, a4, a5, a6] := put_zip (i := 0) y nd_F_Change rfl rfl
theorem in_Change_1 {a0 a1 : V} : putF ("hands" : Str) a1 ((["me"] : List Str).zip [a0]) = (["me", "hands"] : List Str).zip [a0, a1] := putF_new (by decide +kernel) rfl
theorem ll_Change_1 {vs : List V} : (((["me", "hands"] : List Str).zip vs).length < 1000) = True := eq_true (zip_len (by decide))
theorem lk_Change_hands {a0 a1 a2 a3 a4 a5 a6 : V} : List.lookup ("hands" : Str) (F_Change.zip [a0, a1, a2, a3, a4, a5, a6]) = some a1 := look_zip (i := 1) nd_F_Change rfl rfl
theorem pt_Change_hands {y a0 a1 a2 a3 a4 a5 a6 : V} : putF ("hands" : Str) y (F_Change.zip [a0, a1, a2, a3, a4, a5, a6]) = F_Change.zip [a0, y, a2, a3, a4, a5, a6] := put_zip (i := 1) y nd_F_Change rfl rfl
theorem in_Change_2 {a0 a1 a2 : V} : putF ("ballot" : Str) a2 ((["me", "hands"] : List Str).zip [a0, a1]) = (["me", "hands", "ballot"] : List Str).zip [a0, a1, a2] := putF_new (by decide +kernel) rfl
theorem ll_Change_2 {vs : List V} : (((["me", "hands", "ballot"] : List Str).zip vs).length < 1000) = True := eq_true (zip_len (by decide))
theorem lk_Change_ballot {a0 a1 a2 a3 a4 a5 a6 : V} : List.lookup ("ballot" : Str) (F_Change.zip [a0, a1, a2, a3, a4, a5, a6]) = some a2 := look_zip (i := 2) nd_F_Change rfl rfl
theorem pt_Change_ballot {y a0 a1 a2 a3 a4 a5 a6 : V} : putF ("ballot" : Str) y (F_Change.zip [a0, a1, a2, a3, a4, a5, a6]) = F_Change.zip [a0, a1, y, a3, a4, a5, a6] := put_zip (i := 2) y nd_F_Change rfl rfl
theorem in_Change_3 {a0 a1 a2 a3 : V} : putF ("yes" : Str) a3 ((["me", "hands", "ballot"] : List Str).zip [a0, a1, a2]) = (["me", "hands", "ballot", "yes"] : List Str).zip [a0, a1, a2, a3] := putF_new (by decide +kernel) rfl
theorem ll_Change_3 {vs : List V} : (((["me", "hands", "ballot", "yes"] : List Str).zip vs).length < 1000) = True := eq_true (zip_len (by decide))
theorem lk_Change_yes {a0 a1 a2 a3 a4 a5 a6 : V} : List.lookup ("yes" : Str) (F_Change.zip [a0, a1, a2, a3, a4, a5, a6]) = some a3 := look_zip (i := 3) nd_F_Change rfl rfl
theorem pt_Change_yes {y a0 a1 a2 a3 a4 a5 a6 : V} : putF ("yes" : Str) y (F_Change.zip [a0, a1, a2, a3, a4, a5, a6]) = F_Change.zip [a0, a1, a2, y, a4, a5, a6] := put_zip (i := 3) y nd_F_Change rfl rfl
theorem in_Change_4 {a0 a1 a2 a3 a4 : V} : putF ("votes" : Str) a4 ((["me", "hands", "ballot", "yes"] : List Str).zip [a0, a1, a2, a3]) = (["me", "hands", "ballot", "yes", "votes"] : List Str).zip [a0, a1, a2, a3, a4] := putF_new (by decide +kernel) rfl
theorem ll_Change_4 {vs : List V} : (((["me", "hands", "ballot", "yes", "votes"] : List Str).zip vs).length < 1000) = True := eq_true (zip_len (by decide))
theorem lk_Change_votes {a0 a1 a2 a3 a4 a5 a6 : V} : List.lookup ("votes" : Str) (F_Change.zip [a0, a1, a2, a3, a4, a5, a6]) = some a4 := look_zip (i := 4) nd_F_Change rfl rfl
theorem pt_Change_votes {y a0 a1 a2 a3 a4 a5 a6 : V} : putF ("votes" : Str) y (F_Change.zip [a0, a1, a2, a3, a4, a5, a6]) = F_Change.zip [a0, a1, a2, a3, y, a5, a6] := put_zip (i := 4) y nd_F_Change rfl rfl
theorem in_Change_5 {a0 a1 a2 a3 a4 a5 : V} : putF ("reports" : Str) a5 ((["me", "hands", "ballot", "yes", "votes"] : List Str).zip [a0, a1, a2, a3, a4]) = (["me", "hands", "ballot", "yes", "votes", "reports"] : List Str).zip [a0, a1, a2, a3, a4, a5] := putF_new (by decide +kernel) rfl
theorem ll_Change_5 {vs : List V} : (((["me", "hands", "ballot", "yes", "votes", "reports"] : List Str).zip vs).length < 1000) = True := eq_true (zip_len (by decide))
theorem lk_Change_reports {a0 a1 a2 a3 a4 a5 a6 : V} : List.lookup ("reports" : Str) (F_Change.zip [a0, a1, a2, a3, a4, a5, a6]) = some a5 := look_zip (i := 5) nd_F_Change rfl rfl
theorem pt_Change_reports {y a0 a1 a2 a3 a4 a5 a6 : V} : putF ("reports" : Str) y (F_Change.zip [a0, a1, a2, a3, a4, a5, a6]) = F_Change.zip [a0, a1, a2, a3, a4, y, a6] := put_zip (i := 5) y nd_F_Change rfl rfl
theorem in_Change_6 {a0 a1 a2 a3 a4 a5 a6 : V} : putF ("agreed" : Str) a6 ((["me", "hands", "ballot", "yes", "votes", "reports"] : List Str).zip [a0, a1, a2, a3, a4, a5]) = F_Change.zip [a0, a1, a2, a3, a4, a5, a6] := putF_new (by decide +kernel) rfl
theorem lk_Change_agreed {a0 a1 a2 a3 a4 a5 a6 : V} : List.lookup ("agreed" : Str) (F_Change.zip [a0, a1, a2, a3, a4, a5, a6]) = some a6 := look_zip (i := 6) nd_F_Change rfl rfl
theorem pt_Change_agreed {y a0 a1 a2 a3 a4 a5 a6 : V} : putF ("agreed" : Str) y (F_Change.zip [a0, a1, a2, a3, a4, a5, a6]) = F_Change.zip [a0, a1, a2, a3, a4, a5, y] := put_zip (i := 6) y nd_F_Change rfl rfl
theorem nm_Change_begin {vs : List V} : List.lookup ("begin" : Str) (F_Change.zip vs) = none := look_zip_none (by decide +kernel)
theorem nm_Change_message {vs : List V} : List.lookup ("message" : Str) (F_Change.zip vs) = none := look_zip_none (by decide +kernel)
theorem nm_Change_receive {vs : List V} : List.lookup ("receive" : Str) (F_Change.zip vs) = none := look_zip_none (by decide +kernel)
theorem nm_Change_receive_yes {vs : List V} : List.lookup ("receive_yes" : Str) (F_Change.zip vs) = none := look_zip_none (by decide +kernel)
theorem nm_Change_unplanned {vs : List V} : List.lookup ("unplanned" : Str) (F_Change.zip vs) = none := look_zip_none (by decide +kernel)
theorem nm_Change_settle {vs : List V} : List.lookup ("settle" : Str) (F_Change.zip vs) = none := look_zip_none (by decide +kernel)
theorem nm_Change_enough {vs : List V} : List.lookup ("enough" : Str) (F_Change.zip vs) = none := look_zip_none (by decide +kernel)
theorem nm_Change_propose {vs : List V} : List.lookup ("propose" : Str) (F_Change.zip vs) = none := look_zip_none (by decide +kernel)
theorem nm_Change_settled {vs : List V} : List.lookup ("settled" : Str) (F_Change.zip vs) = none := look_zip_none (by decide +kernel)
def faL : List He.Fa := [.glo "has", .glo "hands_of", .glo "many", .glo "more_than_half", .glo "under", .glo "ballot_of", .glo "_law_cell_at", .glo "_law_stream", .glo "_law_hands", .glo "_law_propose", .glo "_law_noted", .glo "_law_kept", .glo "_law_agreed", .glo "_law_deed", .glo "_law_right", .glo "law", .glo "Change", .cls "Change", .mkr "Change", .meth "Change" "begin", .meth "Change" "message", .meth "Change" "receive", .meth "Change" "receive_yes", .meth "Change" "unplanned", .meth "Change" "settle", .meth "Change" "enough", .meth "Change" "propose", .meth "Change" "settled", .noat "Change" "me", .noat "Change" "hands", .noat "Change" "ballot", .noat "Change" "yes", .noat "Change" "votes", .noat "Change" "reports", .noat "Change" "agreed", .free "len", .free "list", .free "range", .free "sorted", .free "sum"]
abbrev FnP (K : PySem.W.Frag) (d : He.DefD) (f : Addr) (fd : FuncData) : Prop := FunD K d.name d.qual d.params d.body d.scope (d.dvs K) (d.kws K) f fd
structure Env (K : PySem.W.Frag) (mg : Str → Option Value) where
  fd_has : FuncData
  F_has : FunD K "has" "has" (defArgs s_has) (defBody s_has) (defScope s_has) [] [] (He.ga K "has") fd_has
  fd_hands_of : FuncData
  F_hands_of : FunD K "hands_of" "hands_of" (defArgs s_hands_of) (defBody s_hands_of) (defScope s_hands_of) [] [] (He.ga K "hands_of") fd_hands_of
  fd_many : FuncData
  F_many : FunD K "many" "many" (defArgs s_many) (defBody s_many) (defScope s_many) [] [] (He.ga K "many") fd_many
  fd_more_than_half : FuncData
  F_more_than_half : FunD K "more_than_half" "more_than_half" (defArgs s_more_than_half) (defBody s_more_than_half) (defScope s_more_than_half) [] [] (He.ga K "more_than_half") fd_more_than_half
  fd_under : FuncData
  F_under : FunD K "under" "under" (defArgs s_under) (defBody s_under) (defScope s_under) [] [] (He.ga K "under") fd_under
  fd_ballot_of : FuncData
  F_ballot_of : FunD K "ballot_of" "ballot_of" (defArgs s_ballot_of) (defBody s_ballot_of) (defScope s_ballot_of) [] [] (He.ga K "ballot_of") fd_ballot_of
  fd_Change_init : FuncData
  F_Change_init : FunD K "__init__" "Change.__init__" (defArgs s_Change_init) (defBody s_Change_init) (defScope s_Change_init) [] [] (He.ma K (He.ga K "Change") "__init__") fd_Change_init
  fd_Change_begin : FuncData
  F_Change_begin : FunD K "begin" "Change.begin" (defArgs s_Change_begin) (defBody s_Change_begin) (defScope s_Change_begin) [] [] (He.ma K (He.ga K "Change") "begin") fd_Change_begin
  fd_Change_message : FuncData
  F_Change_message : FunD K "message" "Change.message" (defArgs s_Change_message) (defBody s_Change_message) (defScope s_Change_message) [] [] (He.ma K (He.ga K "Change") "message") fd_Change_message
  fd_Change_receive : FuncData
  F_Change_receive : FunD K "receive" "Change.receive" (defArgs s_Change_receive) (defBody s_Change_receive) (defScope s_Change_receive) [] [] (He.ma K (He.ga K "Change") "receive") fd_Change_receive
  fd_Change_receive_yes : FuncData
  F_Change_receive_yes : FunD K "receive_yes" "Change.receive_yes" (defArgs s_Change_receive_yes) (defBody s_Change_receive_yes) (defScope s_Change_receive_yes) [] [] (He.ma K (He.ga K "Change") "receive_yes") fd_Change_receive_yes
  fd_Change_unplanned : FuncData
  F_Change_unplanned : FunD K "unplanned" "Change.unplanned" (defArgs s_Change_unplanned) (defBody s_Change_unplanned) (defScope s_Change_unplanned) [] [] (He.ma K (He.ga K "Change") "unplanned") fd_Change_unplanned
  fd_Change_settle : FuncData
  F_Change_settle : FunD K "settle" "Change.settle" (defArgs s_Change_settle) (defBody s_Change_settle) (defScope s_Change_settle) [] [] (He.ma K (He.ga K "Change") "settle") fd_Change_settle
  fd_Change_enough : FuncData
  F_Change_enough : FunD K "enough" "Change.enough" (defArgs s_Change_enough) (defBody s_Change_enough) (defScope s_Change_enough) [] [] (He.ma K (He.ga K "Change") "enough") fd_Change_enough
  fd_Change_propose : FuncData
  F_Change_propose : FunD K "propose" "Change.propose" (defArgs s_Change_propose) (defBody s_Change_propose) (defScope s_Change_propose) [] [] (He.ma K (He.ga K "Change") "propose") fd_Change_propose
  fd_Change_settled : FuncData
  F_Change_settled : FunD K "settled" "Change.settled" (defArgs s_Change_settled) (defBody s_Change_settled) (defScope s_Change_settled) [] [] (He.ma K (He.ga K "Change") "settled") fd_Change_settled
  fd_l_cell_at : FuncData
  F_l_cell_at : FunD K "_law_cell_at" "_law_cell_at" (defArgs s_l_cell_at) (defBody s_l_cell_at) (defScope s_l_cell_at) [] [] (He.ga K "_law_cell_at") fd_l_cell_at
  fd_l_stream : FuncData
  F_l_stream : FunD K "_law_stream" "_law_stream" (defArgs s_l_stream) (defBody s_l_stream) (defScope s_l_stream) [] [] (He.ga K "_law_stream") fd_l_stream
  fd_l_hands : FuncData
  F_l_hands : FunD K "_law_hands" "_law_hands" (defArgs s_l_hands) (defBody s_l_hands) (defScope s_l_hands) [] [] (He.ga K "_law_hands") fd_l_hands
  fd_l_propose : FuncData
  F_l_propose : FunD K "_law_propose" "_law_propose" (defArgs s_l_propose) (defBody s_l_propose) (defScope s_l_propose) [] [] (He.ga K "_law_propose") fd_l_propose
  fd_l_noted : FuncData
  F_l_noted : FunD K "_law_noted" "_law_noted" (defArgs s_l_noted) (defBody s_l_noted) (defScope s_l_noted) [] [] (He.ga K "_law_noted") fd_l_noted
  fd_l_kept : FuncData
  F_l_kept : FunD K "_law_kept" "_law_kept" (defArgs s_l_kept) (defBody s_l_kept) (defScope s_l_kept) [] [] (He.ga K "_law_kept") fd_l_kept
  fd_l_agreed : FuncData
  F_l_agreed : FunD K "_law_agreed" "_law_agreed" (defArgs s_l_agreed) (defBody s_l_agreed) (defScope s_l_agreed) [] [] (He.ga K "_law_agreed") fd_l_agreed
  fd_l_deed : FuncData
  F_l_deed : FunD K "_law_deed" "_law_deed" (defArgs s_l_deed) (defBody s_l_deed) (defScope s_l_deed) [] [] (He.ga K "_law_deed") fd_l_deed
  fd_l_right : FuncData
  F_l_right : FunD K "_law_right" "_law_right" (defArgs s_l_right) (defBody s_l_right) (defScope s_l_right) [] [] (He.ga K "_law_right") fd_l_right
  fd_law : FuncData
  F_law : FunD K "law" "law" (defArgs s_law) (defBody s_law) (defScope s_law) [] [] (He.ga K "law") fd_law
  g_has : mg "has" = some (.ref (He.ga K "has"))
  g_hands_of : mg "hands_of" = some (.ref (He.ga K "hands_of"))
  g_many : mg "many" = some (.ref (He.ga K "many"))
  g_more_than_half : mg "more_than_half" = some (.ref (He.ga K "more_than_half"))
  g_under : mg "under" = some (.ref (He.ga K "under"))
  g_ballot_of : mg "ballot_of" = some (.ref (He.ga K "ballot_of"))
  g_l_cell_at : mg "_law_cell_at" = some (.ref (He.ga K "_law_cell_at"))
  g_l_stream : mg "_law_stream" = some (.ref (He.ga K "_law_stream"))
  g_l_hands : mg "_law_hands" = some (.ref (He.ga K "_law_hands"))
  g_l_propose : mg "_law_propose" = some (.ref (He.ga K "_law_propose"))
  g_l_noted : mg "_law_noted" = some (.ref (He.ga K "_law_noted"))
  g_l_kept : mg "_law_kept" = some (.ref (He.ga K "_law_kept"))
  g_l_agreed : mg "_law_agreed" = some (.ref (He.ga K "_law_agreed"))
  g_l_deed : mg "_law_deed" = some (.ref (He.ga K "_law_deed"))
  g_l_right : mg "_law_right" = some (.ref (He.ga K "_law_right"))
  g_law : mg "law" = some (.ref (He.ga K "law"))
  g_Change : mg "Change" = some (.ref (He.ga K "Change"))
  c_Change : Cls K (He.ga K "Change")
  mk_Change : Mk K (He.ga K "Change") (He.ma K (He.ga K "Change") "__init__")
  m_Change_begin : Meth K (He.ga K "Change") "begin" (He.ma K (He.ga K "Change") "begin")
  m_Change_message : Meth K (He.ga K "Change") "message" (He.ma K (He.ga K "Change") "message")
  m_Change_receive : Meth K (He.ga K "Change") "receive" (He.ma K (He.ga K "Change") "receive")
  m_Change_receive_yes : Meth K (He.ga K "Change") "receive_yes" (He.ma K (He.ga K "Change") "receive_yes")
  m_Change_unplanned : Meth K (He.ga K "Change") "unplanned" (He.ma K (He.ga K "Change") "unplanned")
  m_Change_settle : Meth K (He.ga K "Change") "settle" (He.ma K (He.ga K "Change") "settle")
  m_Change_enough : Meth K (He.ga K "Change") "enough" (He.ma K (He.ga K "Change") "enough")
  m_Change_propose : Meth K (He.ga K "Change") "propose" (He.ma K (He.ga K "Change") "propose")
  m_Change_settled : Meth K (He.ga K "Change") "settled" (He.ma K (He.ga K "Change") "settled")
  n_Change_me : NoAttr K (He.ga K "Change") "me"
  n_Change_hands : NoAttr K (He.ga K "Change") "hands"
  n_Change_ballot : NoAttr K (He.ga K "Change") "ballot"
  n_Change_yes : NoAttr K (He.ga K "Change") "yes"
  n_Change_votes : NoAttr K (He.ga K "Change") "votes"
  n_Change_reports : NoAttr K (He.ga K "Change") "reports"
  n_Change_agreed : NoAttr K (He.ga K "Change") "agreed"
  z_len : mg "len" = none
  z_list : mg "list" = none
  z_range : mg "range" = none
  z_sorted : mg "sorted" = none
  z_sum : mg "sum" = none
theorem env_of {K : PySem.W.Frag} {h : Heap} {mg : Str → Option Value} (X : K.In h) (G : h.Ns mainGlobals mg) (c : He.SaysD faL fnL K) : Nonempty (Env K mg) := by
  obtain ⟨fd0, F0⟩ := c.def_ 0 (d := d_has) rfl
  obtain ⟨fd1, F1⟩ := c.def_ 1 (d := d_hands_of) rfl
  obtain ⟨fd2, F2⟩ := c.def_ 2 (d := d_many) rfl
  obtain ⟨fd3, F3⟩ := c.def_ 3 (d := d_more_than_half) rfl
  obtain ⟨fd4, F4⟩ := c.def_ 4 (d := d_under) rfl
  obtain ⟨fd5, F5⟩ := c.def_ 5 (d := d_ballot_of) rfl
  obtain ⟨fd6, F6⟩ := c.def_ 6 (d := d_Change_init) rfl
  obtain ⟨fd7, F7⟩ := c.def_ 7 (d := d_Change_begin) rfl
  obtain ⟨fd8, F8⟩ := c.def_ 8 (d := d_Change_message) rfl
  obtain ⟨fd9, F9⟩ := c.def_ 9 (d := d_Change_receive) rfl
  obtain ⟨fd10, F10⟩ := c.def_ 10 (d := d_Change_receive_yes) rfl
  obtain ⟨fd11, F11⟩ := c.def_ 11 (d := d_Change_unplanned) rfl
  obtain ⟨fd12, F12⟩ := c.def_ 12 (d := d_Change_settle) rfl
  obtain ⟨fd13, F13⟩ := c.def_ 13 (d := d_Change_enough) rfl
  obtain ⟨fd14, F14⟩ := c.def_ 14 (d := d_Change_propose) rfl
  obtain ⟨fd15, F15⟩ := c.def_ 15 (d := d_Change_settled) rfl
  obtain ⟨fd16, F16⟩ := c.def_ 16 (d := d_l_cell_at) rfl
  obtain ⟨fd17, F17⟩ := c.def_ 17 (d := d_l_stream) rfl
  obtain ⟨fd18, F18⟩ := c.def_ 18 (d := d_l_hands) rfl
  obtain ⟨fd19, F19⟩ := c.def_ 19 (d := d_l_propose) rfl
  obtain ⟨fd20, F20⟩ := c.def_ 20 (d := d_l_noted) rfl
  obtain ⟨fd21, F21⟩ := c.def_ 21 (d := d_l_kept) rfl
  obtain ⟨fd22, F22⟩ := c.def_ 22 (d := d_l_agreed) rfl
  obtain ⟨fd23, F23⟩ := c.def_ 23 (d := d_l_deed) rfl
  obtain ⟨fd24, F24⟩ := c.def_ 24 (d := d_l_right) rfl
  obtain ⟨fd25, F25⟩ := c.def_ 25 (d := d_law) rfl
  exact ⟨{ fd_has := fd0, F_has := F0, fd_hands_of := fd1, F_hands_of := F1, fd_many := fd2, F_many := F2, fd_more_than_half := fd3, F_more_than_half := F3, fd_under := fd4, F_under := F4, fd_ballot_of := fd5, F_ballot_of := F5, fd_Change_init := fd6, F_Change_init := F6, fd_Change_begin := fd7, F_Change_begin := F7, fd_Change_message := fd8, F_Change_message := F8, fd_Change_receive := fd9, F_Change_receive := F9, fd_Change_receive_yes := fd10, F_Change_receive_yes := F10, fd_Change_unplanned := fd11, F_Change_unplanned := F11, fd_Change_settle := fd12, F_Change_settle := F12, fd_Change_enough := fd13, F_Change_enough := F13, fd_Change_propose := fd14, F_Change_propose := F14, fd_Change_settled := fd15, F_Change_settled := F15, fd_l_cell_at := fd16, F_l_cell_at := F16, fd_l_stream := fd17, F_l_stream := F17, fd_l_hands := fd18, F_l_hands := F18, fd_l_propose := fd19, F_l_propose := F19, fd_l_noted := fd20, F_l_noted := F20, fd_l_kept := fd21, F_l_kept := F21, fd_l_agreed := fd22, F_l_agreed := F22, fd_l_deed := fd23, F_l_deed := F23, fd_l_right := fd24, F_l_right := F24, fd_law := fd25, F_law := F25, g_has := He.glo_ok X G (c.fact 0 (f := .glo "has") rfl), g_hands_of := He.glo_ok X G (c.fact 1 (f := .glo "hands_of") rfl), g_many := He.glo_ok X G (c.fact 2 (f := .glo "many") rfl), g_more_than_half := He.glo_ok X G (c.fact 3 (f := .glo "more_than_half") rfl), g_under := He.glo_ok X G (c.fact 4 (f := .glo "under") rfl), g_ballot_of := He.glo_ok X G (c.fact 5 (f := .glo "ballot_of") rfl), g_l_cell_at := He.glo_ok X G (c.fact 6 (f := .glo "_law_cell_at") rfl), g_l_stream := He.glo_ok X G (c.fact 7 (f := .glo "_law_stream") rfl), g_l_hands := He.glo_ok X G (c.fact 8 (f := .glo "_law_hands") rfl), g_l_propose := He.glo_ok X G (c.fact 9 (f := .glo "_law_propose") rfl), g_l_noted := He.glo_ok X G (c.fact 10 (f := .glo "_law_noted") rfl), g_l_kept := He.glo_ok X G (c.fact 11 (f := .glo "_law_kept") rfl), g_l_agreed := He.glo_ok X G (c.fact 12 (f := .glo "_law_agreed") rfl), g_l_deed := He.glo_ok X G (c.fact 13 (f := .glo "_law_deed") rfl), g_l_right := He.glo_ok X G (c.fact 14 (f := .glo "_law_right") rfl), g_law := He.glo_ok X G (c.fact 15 (f := .glo "law") rfl), g_Change := He.glo_ok X G (c.fact 16 (f := .glo "Change") rfl), c_Change := He.cls_ok (c.fact 17 (f := .cls "Change") rfl), mk_Change := He.mkr_ok (c.fact 18 (f := .mkr "Change") rfl), m_Change_begin := He.meth_ok (c.fact 19 (f := .meth "Change" "begin") rfl), m_Change_message := He.meth_ok (c.fact 20 (f := .meth "Change" "message") rfl), m_Change_receive := He.meth_ok (c.fact 21 (f := .meth "Change" "receive") rfl), m_Change_receive_yes := He.meth_ok (c.fact 22 (f := .meth "Change" "receive_yes") rfl), m_Change_unplanned := He.meth_ok (c.fact 23 (f := .meth "Change" "unplanned") rfl), m_Change_settle := He.meth_ok (c.fact 24 (f := .meth "Change" "settle") rfl), m_Change_enough := He.meth_ok (c.fact 25 (f := .meth "Change" "enough") rfl), m_Change_propose := He.meth_ok (c.fact 26 (f := .meth "Change" "propose") rfl), m_Change_settled := He.meth_ok (c.fact 27 (f := .meth "Change" "settled") rfl), n_Change_me := He.noat_ok (c.fact 28 (f := .noat "Change" "me") rfl), n_Change_hands := He.noat_ok (c.fact 29 (f := .noat "Change" "hands") rfl), n_Change_ballot := He.noat_ok (c.fact 30 (f := .noat "Change" "ballot") rfl), n_Change_yes := He.noat_ok (c.fact 31 (f := .noat "Change" "yes") rfl), n_Change_votes := He.noat_ok (c.fact 32 (f := .noat "Change" "votes") rfl), n_Change_reports := He.noat_ok (c.fact 33 (f := .noat "Change" "reports") rfl), n_Change_agreed := He.noat_ok (c.fact 34 (f := .noat "Change" "agreed") rfl), z_len := He.free_ok X G (c.fact 35 (f := .free "len") rfl), z_list := He.free_ok X G (c.fact 36 (f := .free "list") rfl), z_range := He.free_ok X G (c.fact 37 (f := .free "range") rfl), z_sorted := He.free_ok X G (c.fact 38 (f := .free "sorted") rfl), z_sum := He.free_ok X G (c.fact 39 (f := .free "sum") rfl) }⟩
section
variable {K : PySem.W.Frag} {mg : Str → Option Value}
theorem b_has (T : Env K mg) : Binds K T.fd_has ["hands", "hand"] [] := T.F_has.bindsN (ps := ["hands", "hand"]) fun _ _ _ _ _ _ us hl => match us, hl with | [_, _], _ => rfl
theorem b_hands_of (T : Env K mg) : Binds K T.fd_hands_of ["hands"] [] := T.F_hands_of.bindsN (ps := ["hands"]) fun _ _ _ _ _ _ us hl => match us, hl with | [_], _ => rfl
theorem b_many (T : Env K mg) : Binds K T.fd_many ["hands"] [] := T.F_many.bindsN (ps := ["hands"]) fun _ _ _ _ _ _ us hl => match us, hl with | [_], _ => rfl
theorem b_more_than_half (T : Env K mg) : Binds K T.fd_more_than_half ["some", "hands"] [] := T.F_more_than_half.bindsN (ps := ["some", "hands"]) fun _ _ _ _ _ _ us hl => match us, hl with | [_, _], _ => rfl
theorem b_under (T : Env K mg) : Binds K T.fd_under ["one", "other"] [] := T.F_under.bindsN (ps := ["one", "other"]) fun _ _ _ _ _ _ us hl => match us, hl with | [_, _], _ => rfl
theorem b_ballot_of (T : Env K mg) : Binds K T.fd_ballot_of ["yes"] [] := T.F_ballot_of.bindsN (ps := ["yes"]) fun _ _ _ _ _ _ us hl => match us, hl with | [_], _ => rfl
theorem b_Change_init (T : Env K mg) : Binds K T.fd_Change_init ["self", "me", "hands"] [] := T.F_Change_init.bindsN (ps := ["self", "me", "hands"]) fun _ _ _ _ _ _ us hl => match us, hl with | [_, _, _], _ => rfl
theorem b_Change_begin (T : Env K mg) : Binds K T.fd_Change_begin ["self", "more", "report"] [] := T.F_Change_begin.bindsN (ps := ["self", "more", "report"]) fun _ _ _ _ _ _ us hl => match us, hl with | [_, _, _], _ => rfl
theorem b_Change_message (T : Env K mg) : Binds K T.fd_Change_message ["self", "report"] [] := T.F_Change_message.bindsN (ps := ["self", "report"]) fun _ _ _ _ _ _ us hl => match us, hl with | [_, _], _ => rfl
theorem b_Change_receive (T : Env K mg) : Binds K T.fd_Change_receive ["self", "message"] [] := T.F_Change_receive.bindsN (ps := ["self", "message"]) fun _ _ _ _ _ _ us hl => match us, hl with | [_, _], _ => rfl
theorem b_Change_receive_yes (T : Env K mg) : Binds K T.fd_Change_receive_yes ["self", "yes", "votes"] [] := T.F_Change_receive_yes.bindsN (ps := ["self", "yes", "votes"]) fun _ _ _ _ _ _ us hl => match us, hl with | [_, _, _], _ => rfl
theorem b_Change_unplanned (T : Env K mg) : Binds K T.fd_Change_unplanned ["self"] [] := T.F_Change_unplanned.bindsN (ps := ["self"]) fun _ _ _ _ _ _ us hl => match us, hl with | [_], _ => rfl
theorem b_Change_settle (T : Env K mg) : Binds K T.fd_Change_settle ["self"] [] := T.F_Change_settle.bindsN (ps := ["self"]) fun _ _ _ _ _ _ us hl => match us, hl with | [_], _ => rfl
theorem b_Change_enough (T : Env K mg) : Binds K T.fd_Change_enough ["self", "doubts"] [] := T.F_Change_enough.bindsN (ps := ["self", "doubts"]) fun _ _ _ _ _ _ us hl => match us, hl with | [_, _], _ => rfl
theorem b_Change_propose (T : Env K mg) : Binds K T.fd_Change_propose ["self", "doubts", "make"] [] := T.F_Change_propose.bindsN (ps := ["self", "doubts", "make"]) fun _ _ _ _ _ _ us hl => match us, hl with | [_, _, _], _ => rfl
theorem b_Change_settled (T : Env K mg) : Binds K T.fd_Change_settled ["self"] [] := T.F_Change_settled.bindsN (ps := ["self"]) fun _ _ _ _ _ _ us hl => match us, hl with | [_], _ => rfl
theorem b_l_cell_at (T : Env K mg) : Binds K T.fd_l_cell_at ["_law_script", "_law_k"] [] := T.F_l_cell_at.bindsN (ps := ["_law_script", "_law_k"]) fun _ _ _ _ _ _ us hl => match us, hl with | [_, _], _ => rfl
theorem b_l_stream (T : Env K mg) : Binds K T.fd_l_stream ["_law_cell", "_law_amount"] [] := T.F_l_stream.bindsN (ps := ["_law_cell", "_law_amount"]) fun _ _ _ _ _ _ us hl => match us, hl with | [_, _], _ => rfl
theorem b_l_hands (T : Env K mg) : Binds K T.fd_l_hands ["_law_cell"] [] := T.F_l_hands.bindsN (ps := ["_law_cell"]) fun _ _ _ _ _ _ us hl => match us, hl with | [_], _ => rfl
theorem b_l_propose (T : Env K mg) : Binds K T.fd_l_propose ["_law_changes", "_law_hand", "_law_answered", "_law_xs"] [] := T.F_l_propose.bindsN (ps := ["_law_changes", "_law_hand", "_law_answered", "_law_xs"]) fun _ _ _ _ _ _ us hl => match us, hl with | [_, _, _, _], _ => rfl
theorem b_l_noted (T : Env K mg) : Binds K T.fd_l_noted ["_law_change", "_law_hand", "_law_said", "_law_plans"] [] := T.F_l_noted.bindsN (ps := ["_law_change", "_law_hand", "_law_said", "_law_plans"]) fun _ _ _ _ _ _ us hl => match us, hl with | [_, _, _, _], _ => rfl
theorem b_l_kept (T : Env K mg) : Binds K T.fd_l_kept ["_law_change", "_law_hand", "_law_settled", "_law_before"] [] := T.F_l_kept.bindsN (ps := ["_law_change", "_law_hand", "_law_settled", "_law_before"]) fun _ _ _ _ _ _ us hl => match us, hl with | [_, _, _, _], _ => rfl
theorem b_l_agreed (T : Env K mg) : Binds K T.fd_l_agreed ["_law_settled", "_law_answered", "_law_plans"] [] := T.F_l_agreed.bindsN (ps := ["_law_settled", "_law_answered", "_law_plans"]) fun _ _ _ _ _ _ us hl => match us, hl with | [_, _, _], _ => rfl
theorem b_l_deed (T : Env K mg) : Binds K T.fd_l_deed ["_law_changes", "_law_hand", "_law_mail", "_law_answered", "_law_xs"] [] := T.F_l_deed.bindsN (ps := ["_law_changes", "_law_hand", "_law_mail", "_law_answered", "_law_xs"]) fun _ _ _ _ _ _ us hl => match us, hl with | [_, _, _, _, _], _ => rfl
theorem b_l_right (T : Env K mg) : Binds K T.fd_l_right ["_law_changes", "_law_hand", "_law_state", "_law_before"] [] := T.F_l_right.bindsN (ps := ["_law_changes", "_law_hand", "_law_state", "_law_before"]) fun _ _ _ _ _ _ us hl => match us, hl with | [_, _, _, _], _ => rfl
theorem b_law (T : Env K mg) : Binds K T.fd_law ["_law_script"] [] := T.F_law.bindsN (ps := ["_law_script"]) fun _ _ _ _ _ _ us hl => match us, hl with | [_], _ => rfl
end

end K64
namespace K64
open PySem PySem.Spec PyProof.Rows L2 Gr
/-! ### sets -/
def sp_has : Sp := fun vs H Q _ => ∃ (n h : Nat), vs = [.int (n : Int), .int (h : Int)] ∧ Q (.bl (n.testBit h)) H
def handsOf (n : Nat) : List Nat := (List.range 63).filter (n.testBit ·)
def vNat (l : List Nat) : List V := l.map fun (h : Nat) => V.int (h : Int)
def sp_hands_of : Sp := fun vs H Q _ => ∃ (n : Nat), vs = [.int (n : Int)] ∧ ∀ p H', H p = none → Same H H' → H' p = some (.lst (vNat (handsOf n))) → Q (.ref p) H'
def sp_many : Sp := fun vs H Q _ => ∃ (n : Nat), vs = [.int (n : Int)] ∧ Q (.int (pc n : Int)) H
def moreHalf (a b : Nat) : Bool := decide (pc b < 2 * pc (a &&& b))
def sp_more_than_half : Sp := fun vs H Q _ => ∃ (a b : Nat), vs = [.int (a : Int), .int (b : Int)] ∧ Q (.bl (moreHalf a b)) H
/-! ### ballots -/
/-- an option of a ballot as a value -/
def encB : Option (Int × Int) → D
  | none => .non
  | some b => .tup [.int b.1, .int b.2]
def under : Option (Int × Int) → Option (Int × Int) → Bool
  | _, none => false
  | none, some _ => true
  | some a, some b => decide (a.1 < b.1) || (decide (a.1 = b.1) && decide (a.2 < b.2))
def sp_under : Sp := fun vs H Q _ => ∃ (a b : Option (Int × Int)) (x y : V), vs = [x, y] ∧ Rp H (encB a) x ∧ Rp H (encB b) y ∧ Q (.bl (under a b)) H
/-- a yes: a ballot and a plan -/
def encY : Option ((Int × Int) × D) → D
  | none => .non
  | some y => .tup [encB (some y.1), y.2]
def sp_ballot_of : Sp := fun vs H Q _ => ∃ (y : Option ((Int × Int) × D)) (x : V), vs = [x] ∧ Rp H (encY y) x ∧ ∀ v, Rp H (encB (y.map (·.1))) v → Q v H
local macro_rules | `(tactic| walk_at "s") => `(tactic| simp only [a_seq, a_next, a_ifS, a_asg, a_ret, a_retN, a_drop, a_break, a_cont, a_test, a_b, a_op, a_un, a_var, a_c, a_name, a_tupt, a_gcons, a_gnil, a_gsub, a_call, a_meth, a_make, a_cb, a_cons, a_nil, a_fldC, a_sfldC, a_not, a_and, a_or, a_andV, a_orV, a_notV, a_if, a_tup, a_lst, a_dget, a_dget2, a_din, a_dnotin, a_dput, a_dnewK, a_dnewT, a_aug, a_par, a_sl, a_part, a_nopart, a_bm, a_bm0, tPairs, a_disp, a_iLst, a_iTpl, a_iVals, a_iKeys, a_iRng1, a_iRng2, a_I0, a_I, a_U, a_eq, a_ne, a_ixt, a_ixl, a_lenl, a_lent, a_sll, a_sumL, a_sortL, a_sortD, a_listRg, a_rg1, a_append, a_yes, a_setdN, a_ddnotin, a_ddput, a_lenq, a_ixq, a_slq, a_methG, a_callC, a_ndefM, tFor_eq, tLc_eq,
  scal_ii, scal_nn, scal_in, scal_ni, scal_bb, scal_ss, scal_sn, scal_ns, L2.start, cx_K, cx_P, cx_w, bit_c, wipe, Int.natCast_inj, bitAnd_c, bitOr_c, shl1_c, Int.zero_add, Int.add_zero, Int.reduceLT, Int.reduceLE, Int.reducePow, Int.reduceNeg, Int.reduceToNat, Int.toNat_natCast, Int.natCast_nonneg,
  at_lit0, at_lit1, at_lit2, at_lit3, at_lit4, at_lit5, at_lit6, at_lit7, upd_same, upd_ne, Gr.upd_none, ne_eq, Option.isSome_some, sizeLine_eq, Nat.reduceLeDiff, upd_upd, Nat.reduceLT,
  List.map_cons, List.map_nil, List.length_cons, List.length_nil, List.replicate, List.cons_append, List.nil_append, List.append_nil, List.getElem?_cons_succ, List.getElem?_cons_zero, List.set_cons_succ, List.set_cons_zero,
  Option.some.injEq, V.ref.injEq, V.int.injEq, V.bl.injEq, V.str.injEq, List.cons.injEq, exists_eq_left, exists_eq_left', exists_eq_right, exists_eq, exists_eq', exists_and_left, exists_and_right, exists_const, true_and, and_true, and_self, ite_true, ite_false, if_true, if_false, reduceCtorEq, decide_true, decide_false, decide_eq_true_eq, Bool.not_true, Bool.not_false, Bool.not_eq_true', decide_eq_false_iff_not, Bool.false_eq_true, not_true_eq_false, not_false_eq_true, eq_self, HO.ins.injEq, HO.tup.injEq, HO.lst.injEq, and_assoc, Nat.reduceSub, Nat.reduceAdd, Nat.sub_self, reduceIte, ln_F_Change, in_Change_0, ll_Change_0, lk_Change_me, pt_Change_me, in_Change_1, ll_Change_1, lk_Change_hands, pt_Change_hands, in_Change_2, ll_Change_2, lk_Change_ballot, pt_Change_ballot, in_Change_3, ll_Change_3, lk_Change_yes, pt_Change_yes, in_Change_4, ll_Change_4, lk_Change_votes, pt_Change_votes, in_Change_5, ll_Change_5, lk_Change_reports, pt_Change_reports, in_Change_6, lk_Change_agreed, pt_Change_agreed, nm_Change_begin, nm_Change_message, nm_Change_receive, nm_Change_receive_yes, nm_Change_unplanned, nm_Change_settle, nm_Change_enough, nm_Change_propose, nm_Change_settled, N_has, N_hands_of, N_many, N_more_than_half, N_under, N_ballot_of, N_Change_init, N_Change_begin, N_Change_message, N_Change_receive, N_Change_receive_yes, N_Change_unplanned, N_Change_settle, N_Change_enough, N_Change_propose, N_Change_settled, N_l_cell_at, N_l_stream, N_l_hands, N_l_propose, N_l_noted, N_l_kept, N_l_agreed, N_l_deed, N_l_right, N_law, N_l_propose_law_make, sp_has, sp_hands_of, sp_many, *])
local macro_rules | `(tactic| walk_at "e") => `(tactic| first | assumption | rfl | (refine Gr.Fz.out ?_; first | assumption | (simp only [*]; done)) | (simp only [*]; done) | (simp [*]; done))
local macro_rules | `(tactic| walk_at "fr") => `(tactic| (repeat first | exact Gr.Fr.refl _ _ | assumption | (refine Gr.Fr.put' ?_ ?_; focus (first | (right; assumption) | (right; refine Gr.Fz.out ?_; simp only [*]; done) | (left; simp; done)))))
local macro_rules | `(tactic| walk_at "tp") => `(tactic| (repeat first | exact Gr.Tups.refl _ | assumption | (refine Gr.Tups.put' ?_ ?_; focus (first | (refine Gr.not_tup_none ?_; first | assumption | (refine Gr.Fz.out ?_; simp only [*]; done)) | (refine Gr.not_tup_of (by assumption) (fun xs z => ?_); cases z; done)))))
local macro_rules | `(tactic| walk_at "sm") => `(tactic| (repeat first | exact L2.Same.refl _ | assumption | (refine Gr.Same.put' ?_ ?_; focus (first | assumption | (refine Gr.Fz.out ?_; simp only [*]; done)))))
local macro_rules | `(tactic| walk_at "go") => `(tactic| ((try walk_at "s"); first | (intro _ hh; (try simp only [L2.upd_upd, Gr.upd_none, ne_eq, and_assoc] at hh); (try simp only [Gr.none_fz] at hh); walk_at "go") | (refine Gr.Cn.go ?_; walk_at "go") | skip))

section
variable {P : Program} {w : World} {K : PySem.W.Frag} {mg : Str → Option Value} {base : Heap}
theorem ok_has (T : Env K mg) : FnOk P w K mg base CX0 1 (He.ga K "has") T.fd_has ["hands", "hand"] sp_has := by
  have sc := sc_has
  refine T.F_has.ok sc (fun vs H Q E h => ?_) (fun cdv A outer s H vs Q E hr h => ?_)
  · (first | (obtain ⟨rfl, _⟩ := h; rfl) | (obtain ⟨_, rfl, _⟩ := h; rfl) | (obtain ⟨_, _, rfl, _⟩ := h; rfl) | (obtain ⟨_, _, _, rfl, _⟩ := h; rfl) | (obtain ⟨_, _, _, _, rfl, _⟩ := h; rfl) | (obtain ⟨_, _, _, _, _, rfl, _⟩ := h; rfl) | (obtain ⟨_, _, _, _, _, _, rfl, _⟩ := h; rfl) | (obtain ⟨_, _, _, _, _, _, _, rfl, _⟩ := h; rfl) | (obtain ⟨_, _, _, _, _, _, _, _, rfl, _⟩ := h; rfl) | (obtain ⟨_, _, _, _, _, _, _, _, _, rfl, _⟩ := h; rfl) | (obtain ⟨_, _, _, _, _, _, _, _, _, _, rfl, _⟩ := h; rfl) | (obtain ⟨_, _, _, _, _, _, _, _, _, _, _, rfl, _⟩ := h; rfl) | (obtain ⟨_, _, _, _, _, _, _, _, _, _, _, _, rfl, _⟩ := h; rfl) | (obtain ⟨_, _, _, _, _, _, _, _, _, _, _, _, _, rfl, _⟩ := h; rfl) | (obtain ⟨_, _, _, _, _, _, _, _, _, _, _, _, _, _, rfl, _⟩ := h; rfl) | (obtain ⟨_, _, _, _, _, _, _, _, _, _, _, _, _, _, _, rfl, _⟩ := h; rfl) | (obtain ⟨_, _, _, _, _, _, _, _, _, _, _, _, _, _, _, _, rfl, _⟩ := h; rfl) | (obtain ⟨_, _, _, _, _, _, _, _, _, _, _, _, _, _, _, _, _, rfl, _⟩ := h; rfl) | (obtain ⟨_, _, _, _, _, _, _, _, _, _, _, _, _, _, _, _, _, _, rfl, _⟩ := h; rfl) | (obtain ⟨_, _, _, _, _, _, _, _, _, _, _, _, _, _, _, _, _, _, _, rfl, _⟩ := h; rfl) | (obtain ⟨_, _, _, _, _, _, _, _, _, _, _, _, _, _, _, _, _, _, _, _, rfl, _⟩ := h; rfl) | (obtain ⟨_, _, _, _, _, _, _, _, _, _, _, _, _, _, _, _, _, _, _, _, _, rfl, _⟩ := h; rfl) | (obtain ⟨_, _, _, _, _, _, _, _, _, _, _, _, _, _, _, _, _, _, _, _, _, _, rfl, _⟩ := h; rfl) | (obtain ⟨_, _, _, _, _, _, _, _, _, _, _, _, _, _, _, _, _, _, _, _, _, _, _, rfl, _⟩ := h; rfl) | (obtain ⟨_, _, _, _, _, _, _, _, _, _, _, _, _, _, _, _, _, _, _, _, _, _, _, _, rfl, _⟩ := h; rfl) | (obtain ⟨_, _, _, _, _, _, _, _, _, _, _, _, _, _, _, _, _, _, _, _, _, _, _, _, _, rfl, _⟩ := h; rfl))
  · have hu := hu_of hr
    refine ⟨_, PSs.nox (pss_one (ps_ret (pe_cmpR op_eq (pe_op op_and (pe_op op_shr (pv 0) (pv 1)) pe_int) pe_int (nomark _)))), ?_⟩
    clear sc hu hr
    obtain ⟨n, h, rfl, q⟩ := h
    walk_at "go"
theorem gives_hands (n : Nat) : gives 63 (fun i => n.testBit i) (fun i => D.int (i : Int)) = ((handsOf n).map fun (h : Nat) => (h : Int)).map D.int := by
  rw [List.map_map]
  rfl
theorem ok_hands_of (T : Env K mg) : FnOk P w K mg base CX0 2 (He.ga K "hands_of") T.fd_hands_of ["hands"] sp_hands_of := by
  have sc := sc_hands_of
  refine T.F_hands_of.ok sc (fun vs H Q E h => ?_) (fun cdv A outer s H vs Q E hr h => ?_)
  · (first | (obtain ⟨rfl, _⟩ := h; rfl) | (obtain ⟨_, rfl, _⟩ := h; rfl) | (obtain ⟨_, _, rfl, _⟩ := h; rfl) | (obtain ⟨_, _, _, rfl, _⟩ := h; rfl) | (obtain ⟨_, _, _, _, rfl, _⟩ := h; rfl) | (obtain ⟨_, _, _, _, _, rfl, _⟩ := h; rfl) | (obtain ⟨_, _, _, _, _, _, rfl, _⟩ := h; rfl) | (obtain ⟨_, _, _, _, _, _, _, rfl, _⟩ := h; rfl) | (obtain ⟨_, _, _, _, _, _, _, _, rfl, _⟩ := h; rfl) | (obtain ⟨_, _, _, _, _, _, _, _, _, rfl, _⟩ := h; rfl) | (obtain ⟨_, _, _, _, _, _, _, _, _, _, rfl, _⟩ := h; rfl) | (obtain ⟨_, _, _, _, _, _, _, _, _, _, _, rfl, _⟩ := h; rfl) | (obtain ⟨_, _, _, _, _, _, _, _, _, _, _, _, rfl, _⟩ := h; rfl) | (obtain ⟨_, _, _, _, _, _, _, _, _, _, _, _, _, rfl, _⟩ := h; rfl) | (obtain ⟨_, _, _, _, _, _, _, _, _, _, _, _, _, _, rfl, _⟩ := h; rfl) | (obtain ⟨_, _, _, _, _, _, _, _, _, _, _, _, _, _, _, rfl, _⟩ := h; rfl) | (obtain ⟨_, _, _, _, _, _, _, _, _, _, _, _, _, _, _, _, rfl, _⟩ := h; rfl) | (obtain ⟨_, _, _, _, _, _, _, _, _, _, _, _, _, _, _, _, _, rfl, _⟩ := h; rfl) | (obtain ⟨_, _, _, _, _, _, _, _, _, _, _, _, _, _, _, _, _, _, rfl, _⟩ := h; rfl) | (obtain ⟨_, _, _, _, _, _, _, _, _, _, _, _, _, _, _, _, _, _, _, rfl, _⟩ := h; rfl) | (obtain ⟨_, _, _, _, _, _, _, _, _, _, _, _, _, _, _, _, _, _, _, _, rfl, _⟩ := h; rfl) | (obtain ⟨_, _, _, _, _, _, _, _, _, _, _, _, _, _, _, _, _, _, _, _, _, rfl, _⟩ := h; rfl) | (obtain ⟨_, _, _, _, _, _, _, _, _, _, _, _, _, _, _, _, _, _, _, _, _, _, rfl, _⟩ := h; rfl) | (obtain ⟨_, _, _, _, _, _, _, _, _, _, _, _, _, _, _, _, _, _, _, _, _, _, _, rfl, _⟩ := h; rfl) | (obtain ⟨_, _, _, _, _, _, _, _, _, _, _, _, _, _, _, _, _, _, _, _, _, _, _, _, rfl, _⟩ := h; rfl) | (obtain ⟨_, _, _, _, _, _, _, _, _, _, _, _, _, _, _, _, _, _, _, _, _, _, _, _, _, rfl, _⟩ := h; rfl))
  · have hu := hu_of hr
    refine ⟨_, PSs.nox (pss_one (ps_ret (pe_lc (own := [("hand", 1)]) (by rfl) sc.nd (pi_range1 (by rfl) T.z_range (pa_cons pe_int pa_nil)) (blkOk_by (own := [("hand", 1)]) (N := N_hands_of) (sc := defScope s_hands_of) (by decide +kernel)) (fun _ _ _ _ _ => (pg_name (i := 1) sc.nd rfl (.inl rfl) (.inr rfl))) (fun _ _ _ _ _ => (pts_one (pt_val (pe_call (ok_has T) (hr.mono (by decide)) (by rfl) T.g_has T.F_has.kp (b_has T) .nil pass0 (pa_cons (pv 0) (pa_cons (pv 1) pa_nil)))))) (fun _ _ _ _ _ => (pv 1))))), ?_⟩
    clear sc hu hr
    obtain ⟨n, rfl, q⟩ := h
    walk_at "go"
    refine lcD wk_range (by decide) (fun i => n.testBit i) (fun i => .int (i : Int)) (fun i x H1 e hi hY A B hA hB => ?_) (fun p H' hp e hL => ?_)
    · subst hY
      walk_at "go"
      cases hb : n.testBit i with
      | true => 
        walk_at "go"
        exact hA hb _ _ (Same.refl _) rfl
      | false =>
        walk_at "go"
        exact hB hb _ (Same.refl _)
    · obtain ⟨vs, h1, h2⟩ := hL
      have h2' : RpL H' (gives 63 (fun i => n.testBit i) (fun i => D.int (i : Int))) vs := h2
      rw [gives_hands, RpL.ints] at h2'
      refine q p H' hp e ?_
      rw [h1, h2', List.map_map]
      rfl
theorem ok_many (T : Env K mg) : FnOk P w K mg base CX0 1 (He.ga K "many") T.fd_many ["hands"] sp_many := by
  have sc := sc_many
  refine T.F_many.ok sc (fun vs H Q E h => ?_) (fun cdv A outer s H vs Q E hr h => ?_)
  · (first | (obtain ⟨rfl, _⟩ := h; rfl) | (obtain ⟨_, rfl, _⟩ := h; rfl) | (obtain ⟨_, _, rfl, _⟩ := h; rfl) | (obtain ⟨_, _, _, rfl, _⟩ := h; rfl) | (obtain ⟨_, _, _, _, rfl, _⟩ := h; rfl) | (obtain ⟨_, _, _, _, _, rfl, _⟩ := h; rfl) | (obtain ⟨_, _, _, _, _, _, rfl, _⟩ := h; rfl) | (obtain ⟨_, _, _, _, _, _, _, rfl, _⟩ := h; rfl) | (obtain ⟨_, _, _, _, _, _, _, _, rfl, _⟩ := h; rfl) | (obtain ⟨_, _, _, _, _, _, _, _, _, rfl, _⟩ := h; rfl) | (obtain ⟨_, _, _, _, _, _, _, _, _, _, rfl, _⟩ := h; rfl) | (obtain ⟨_, _, _, _, _, _, _, _, _, _, _, rfl, _⟩ := h; rfl) | (obtain ⟨_, _, _, _, _, _, _, _, _, _, _, _, rfl, _⟩ := h; rfl) | (obtain ⟨_, _, _, _, _, _, _, _, _, _, _, _, _, rfl, _⟩ := h; rfl) | (obtain ⟨_, _, _, _, _, _, _, _, _, _, _, _, _, _, rfl, _⟩ := h; rfl) | (obtain ⟨_, _, _, _, _, _, _, _, _, _, _, _, _, _, _, rfl, _⟩ := h; rfl) | (obtain ⟨_, _, _, _, _, _, _, _, _, _, _, _, _, _, _, _, rfl, _⟩ := h; rfl) | (obtain ⟨_, _, _, _, _, _, _, _, _, _, _, _, _, _, _, _, _, rfl, _⟩ := h; rfl) | (obtain ⟨_, _, _, _, _, _, _, _, _, _, _, _, _, _, _, _, _, _, rfl, _⟩ := h; rfl) | (obtain ⟨_, _, _, _, _, _, _, _, _, _, _, _, _, _, _, _, _, _, _, rfl, _⟩ := h; rfl) | (obtain ⟨_, _, _, _, _, _, _, _, _, _, _, _, _, _, _, _, _, _, _, _, rfl, _⟩ := h; rfl) | (obtain ⟨_, _, _, _, _, _, _, _, _, _, _, _, _, _, _, _, _, _, _, _, _, rfl, _⟩ := h; rfl) | (obtain ⟨_, _, _, _, _, _, _, _, _, _, _, _, _, _, _, _, _, _, _, _, _, _, rfl, _⟩ := h; rfl) | (obtain ⟨_, _, _, _, _, _, _, _, _, _, _, _, _, _, _, _, _, _, _, _, _, _, _, rfl, _⟩ := h; rfl) | (obtain ⟨_, _, _, _, _, _, _, _, _, _, _, _, _, _, _, _, _, _, _, _, _, _, _, _, rfl, _⟩ := h; rfl) | (obtain ⟨_, _, _, _, _, _, _, _, _, _, _, _, _, _, _, _, _, _, _, _, _, _, _, _, _, rfl, _⟩ := h; rfl))
  · have hu := hu_of hr
    refine ⟨_, PSs.nox (pss_cons (ps_set (i := 1) sc.nd rfl (.inl rfl) pe_int)
    (pss_cons (ps_while PassesOwn.never (pt_cmpR op_gt (pv 0) pe_int (nomark _))
    (pss_cons (ps_set (i := 0) sc.nd rfl (.inl rfl) (pe_op op_and (pv 0) (pe_op op_sub (pv 0) pe_int)))
    (pss_one (ps_set (i := 1) sc.nd rfl (.inl rfl) (pe_op op_add (pv 1) pe_int)))))
    (pss_one (ps_ret (pv 1))))), ?_⟩
    clear sc hu hr
    obtain ⟨n, rfl, q⟩ := h
    walk_at "go"
    refine ⟨fun m σ H' => H' = H ∧ ∃ c : Nat, σ = [some (.int (m : Int)), some (.int (c : Int))] ∧ c + pc m = pc n, ⟨n, rfl, 0, rfl, by omega⟩, ?_⟩
    rintro m σ _ ⟨rfl, c, rfl, hc⟩
    walk_at "go"
    refine ite2 (fun hm => ?_) (fun hm => ?_)
    · have hm' : 0 < m := by omega
      have e1 : (m : Int) - 1 = ((m - 1 : Nat) : Int) := by omega
      have hp := pc_drop hm'
      refine ⟨_, fun _ _ h => h, ?_⟩
      walk_at "go"
      refine ⟨m &&& (m - 1), ?_, rfl, c + 1, ?_, ?_⟩
      · exact Nat.lt_of_le_of_lt Nat.and_le_right (by omega)
      · omega
      · omega
    · have hm' : m = 0 := by omega
      subst hm'
      walk_at "go"
      rw [pc_zero] at hc
      rw [show c = pc n by omega]
      exact q
theorem ok_more_than_half (T : Env K mg) : FnOk P w K mg base CX0 2 (He.ga K "more_than_half") T.fd_more_than_half ["some", "hands"] sp_more_than_half := by
  have sc := sc_more_than_half
  refine T.F_more_than_half.ok sc (fun vs H Q E h => ?_) (fun cdv A outer s H vs Q E hr h => ?_)
  · (first | (obtain ⟨rfl, _⟩ := h; rfl) | (obtain ⟨_, rfl, _⟩ := h; rfl) | (obtain ⟨_, _, rfl, _⟩ := h; rfl) | (obtain ⟨_, _, _, rfl, _⟩ := h; rfl) | (obtain ⟨_, _, _, _, rfl, _⟩ := h; rfl) | (obtain ⟨_, _, _, _, _, rfl, _⟩ := h; rfl) | (obtain ⟨_, _, _, _, _, _, rfl, _⟩ := h; rfl) | (obtain ⟨_, _, _, _, _, _, _, rfl, _⟩ := h; rfl) | (obtain ⟨_, _, _, _, _, _, _, _, rfl, _⟩ := h; rfl) | (obtain ⟨_, _, _, _, _, _, _, _, _, rfl, _⟩ := h; rfl) | (obtain ⟨_, _, _, _, _, _, _, _, _, _, rfl, _⟩ := h; rfl) | (obtain ⟨_, _, _, _, _, _, _, _, _, _, _, rfl, _⟩ := h; rfl) | (obtain ⟨_, _, _, _, _, _, _, _, _, _, _, _, rfl, _⟩ := h; rfl) | (obtain ⟨_, _, _, _, _, _, _, _, _, _, _, _, _, rfl, _⟩ := h; rfl) | (obtain ⟨_, _, _, _, _, _, _, _, _, _, _, _, _, _, rfl, _⟩ := h; rfl) | (obtain ⟨_, _, _, _, _, _, _, _, _, _, _, _, _, _, _, rfl, _⟩ := h; rfl) | (obtain ⟨_, _, _, _, _, _, _, _, _, _, _, _, _, _, _, _, rfl, _⟩ := h; rfl) | (obtain ⟨_, _, _, _, _, _, _, _, _, _, _, _, _, _, _, _, _, rfl, _⟩ := h; rfl) | (obtain ⟨_, _, _, _, _, _, _, _, _, _, _, _, _, _, _, _, _, _, rfl, _⟩ := h; rfl) | (obtain ⟨_, _, _, _, _, _, _, _, _, _, _, _, _, _, _, _, _, _, _, rfl, _⟩ := h; rfl) | (obtain ⟨_, _, _, _, _, _, _, _, _, _, _, _, _, _, _, _, _, _, _, _, rfl, _⟩ := h; rfl) | (obtain ⟨_, _, _, _, _, _, _, _, _, _, _, _, _, _, _, _, _, _, _, _, _, rfl, _⟩ := h; rfl) | (obtain ⟨_, _, _, _, _, _, _, _, _, _, _, _, _, _, _, _, _, _, _, _, _, _, rfl, _⟩ := h; rfl) | (obtain ⟨_, _, _, _, _, _, _, _, _, _, _, _, _, _, _, _, _, _, _, _, _, _, _, rfl, _⟩ := h; rfl) | (obtain ⟨_, _, _, _, _, _, _, _, _, _, _, _, _, _, _, _, _, _, _, _, _, _, _, _, rfl, _⟩ := h; rfl) | (obtain ⟨_, _, _, _, _, _, _, _, _, _, _, _, _, _, _, _, _, _, _, _, _, _, _, _, _, rfl, _⟩ := h; rfl))
  · have hu := hu_of hr
    refine ⟨_, PSs.nox (pss_one (ps_ret (pe_cmpR op_gt (pe_op op_mul pe_int (pe_call (ok_many T) (hr.mono (by decide)) (by rfl) T.g_many T.F_many.kp (b_many T) .nil pass0 (pa_cons (pe_op op_and (pv 0) (pv 1)) pa_nil))) (pe_call (ok_many T) (hr.mono (by decide)) (by rfl) T.g_many T.F_many.kp (b_many T) .nil pass0 (pa_cons (pv 1) pa_nil)) (nomark _)))), ?_⟩
    clear sc hu hr
    obtain ⟨a, b, rfl, q⟩ := h
    walk_at "go"
    refine ⟨.inl ⟨by decide, by decide⟩, ?_⟩
    have e : decide ((pc b : Int) < 2 * (pc (a &&& b) : Int)) = moreHalf a b := by
      unfold moreHalf
      by_cases h : pc b < 2 * pc (a &&& b)
      · rw [decide_eq_true h, decide_eq_true]; omega
      · rw [decide_eq_false h, decide_eq_false]; omega
    rw [e]
    exact q
theorem ok_under (T : Env K mg) : FnOk P w K mg base CX0 1 (He.ga K "under") T.fd_under ["one", "other"] sp_under := by
  have sc := sc_under
  refine T.F_under.ok sc (fun vs H Q E h => ?_) (fun cdv A outer s H vs Q E hr h => ?_)
  · (first | (obtain ⟨rfl, _⟩ := h; rfl) | (obtain ⟨_, rfl, _⟩ := h; rfl) | (obtain ⟨_, _, rfl, _⟩ := h; rfl) | (obtain ⟨_, _, _, rfl, _⟩ := h; rfl) | (obtain ⟨_, _, _, _, rfl, _⟩ := h; rfl) | (obtain ⟨_, _, _, _, _, rfl, _⟩ := h; rfl) | (obtain ⟨_, _, _, _, _, _, rfl, _⟩ := h; rfl) | (obtain ⟨_, _, _, _, _, _, _, rfl, _⟩ := h; rfl) | (obtain ⟨_, _, _, _, _, _, _, _, rfl, _⟩ := h; rfl) | (obtain ⟨_, _, _, _, _, _, _, _, _, rfl, _⟩ := h; rfl) | (obtain ⟨_, _, _, _, _, _, _, _, _, _, rfl, _⟩ := h; rfl) | (obtain ⟨_, _, _, _, _, _, _, _, _, _, _, rfl, _⟩ := h; rfl) | (obtain ⟨_, _, _, _, _, _, _, _, _, _, _, _, rfl, _⟩ := h; rfl) | (obtain ⟨_, _, _, _, _, _, _, _, _, _, _, _, _, rfl, _⟩ := h; rfl) | (obtain ⟨_, _, _, _, _, _, _, _, _, _, _, _, _, _, rfl, _⟩ := h; rfl) | (obtain ⟨_, _, _, _, _, _, _, _, _, _, _, _, _, _, _, rfl, _⟩ := h; rfl) | (obtain ⟨_, _, _, _, _, _, _, _, _, _, _, _, _, _, _, _, rfl, _⟩ := h; rfl) | (obtain ⟨_, _, _, _, _, _, _, _, _, _, _, _, _, _, _, _, _, rfl, _⟩ := h; rfl) | (obtain ⟨_, _, _, _, _, _, _, _, _, _, _, _, _, _, _, _, _, _, rfl, _⟩ := h; rfl) | (obtain ⟨_, _, _, _, _, _, _, _, _, _, _, _, _, _, _, _, _, _, _, rfl, _⟩ := h; rfl) | (obtain ⟨_, _, _, _, _, _, _, _, _, _, _, _, _, _, _, _, _, _, _, _, rfl, _⟩ := h; rfl) | (obtain ⟨_, _, _, _, _, _, _, _, _, _, _, _, _, _, _, _, _, _, _, _, _, rfl, _⟩ := h; rfl) | (obtain ⟨_, _, _, _, _, _, _, _, _, _, _, _, _, _, _, _, _, _, _, _, _, _, rfl, _⟩ := h; rfl) | (obtain ⟨_, _, _, _, _, _, _, _, _, _, _, _, _, _, _, _, _, _, _, _, _, _, _, rfl, _⟩ := h; rfl) | (obtain ⟨_, _, _, _, _, _, _, _, _, _, _, _, _, _, _, _, _, _, _, _, _, _, _, _, rfl, _⟩ := h; rfl) | (obtain ⟨_, _, _, _, _, _, _, _, _, _, _, _, _, _, _, _, _, _, _, _, _, _, _, _, _, rfl, _⟩ := h; rfl))
  · have hu := hu_of hr
    refine ⟨_, PSs.nox (pss_cons (ps_if (pt_cmpR op_isN (pv 1) pe_non (nomark _))
    (pss_one (ps_ret pe_bl))
    pss_nil)
    (pss_cons (ps_if (pt_cmpR op_isN (pv 0) pe_non (nomark _))
    (pss_one (ps_ret pe_bl))
    pss_nil)
    (pss_one (ps_ret (pe_or (pe_cmpR op_lt (pe_ix ix_t (pv 0) pe_int (fun _ _ => rfl)) (pe_ix ix_t (pv 1) pe_int (fun _ _ => rfl)) (nomark _)) (pe_one (pe_and (pe_cmpR op_eq (pe_ix ix_t (pv 0) pe_int (fun _ _ => rfl)) (pe_ix ix_t (pv 1) pe_int (fun _ _ => rfl)) (nomark _)) (pe_one (pe_cmpR op_lt (pe_ix ix_t (pv 0) pe_int (fun _ _ => rfl)) (pe_ix ix_t (pv 1) pe_int (fun _ _ => rfl)) (nomark _)))))))))), ?_⟩
    clear sc hu hr
    obtain ⟨a, b, x, y, rfl, ha, hb, q⟩ := h
    cases b with
    | none =>
      simp only [encB, Rp] at hb
      subst hb
      walk_at "go"
      exact q
    | some b =>
      cases a with
      | none =>
        simp only [encB, Rp, RpL] at ha hb
        subst ha
        obtain ⟨p, vs, rfl, hp, v1, r1, rfl, rfl, v2, r2, rfl, rfl, rfl⟩ := hb
        walk_at "go"
        exact q
      | some a =>
        simp only [encB, Rp, RpL] at ha hb
        obtain ⟨p, vs, rfl, hp, v1, r1, rfl, rfl, v2, r2, rfl, rfl, rfl⟩ := hb
        obtain ⟨p', vs', rfl, hp', v1', r1', rfl, rfl, v2', r2', rfl, rfl, rfl⟩ := ha
        walk_at "go"
        simp only [under] at q
        by_cases h1 : a.1 < b.1
        · simp only [h1, decide_true, Bool.true_or, if_true] at q ⊢
          exact q
        · by_cases h2 : a.1 = b.1
          · simp only [h1, h2, decide_false, decide_true, Bool.false_or, Bool.true_and, if_true, if_false, Int.lt_irrefl] at q ⊢
            exact q
          · simp only [h1, h2, decide_false, Bool.false_or, Bool.false_and, if_false] at q ⊢
            exact q
theorem ok_ballot_of (T : Env K mg) : FnOk P w K mg base CX0 1 (He.ga K "ballot_of") T.fd_ballot_of ["yes"] sp_ballot_of := by
  have sc := sc_ballot_of
  refine T.F_ballot_of.ok sc (fun vs H Q E h => ?_) (fun cdv A outer s H vs Q E hr h => ?_)
  · (first | (obtain ⟨rfl, _⟩ := h; rfl) | (obtain ⟨_, rfl, _⟩ := h; rfl) | (obtain ⟨_, _, rfl, _⟩ := h; rfl) | (obtain ⟨_, _, _, rfl, _⟩ := h; rfl) | (obtain ⟨_, _, _, _, rfl, _⟩ := h; rfl) | (obtain ⟨_, _, _, _, _, rfl, _⟩ := h; rfl) | (obtain ⟨_, _, _, _, _, _, rfl, _⟩ := h; rfl) | (obtain ⟨_, _, _, _, _, _, _, rfl, _⟩ := h; rfl) | (obtain ⟨_, _, _, _, _, _, _, _, rfl, _⟩ := h; rfl) | (obtain ⟨_, _, _, _, _, _, _, _, _, rfl, _⟩ := h; rfl) | (obtain ⟨_, _, _, _, _, _, _, _, _, _, rfl, _⟩ := h; rfl) | (obtain ⟨_, _, _, _, _, _, _, _, _, _, _, rfl, _⟩ := h; rfl) | (obtain ⟨_, _, _, _, _, _, _, _, _, _, _, _, rfl, _⟩ := h; rfl) | (obtain ⟨_, _, _, _, _, _, _, _, _, _, _, _, _, rfl, _⟩ := h; rfl) | (obtain ⟨_, _, _, _, _, _, _, _, _, _, _, _, _, _, rfl, _⟩ := h; rfl) | (obtain ⟨_, _, _, _, _, _, _, _, _, _, _, _, _, _, _, rfl, _⟩ := h; rfl) | (obtain ⟨_, _, _, _, _, _, _, _, _, _, _, _, _, _, _, _, rfl, _⟩ := h; rfl) | (obtain ⟨_, _, _, _, _, _, _, _, _, _, _, _, _, _, _, _, _, rfl, _⟩ := h; rfl) | (obtain ⟨_, _, _, _, _, _, _, _, _, _, _, _, _, _, _, _, _, _, rfl, _⟩ := h; rfl) | (obtain ⟨_, _, _, _, _, _, _, _, _, _, _, _, _, _, _, _, _, _, _, rfl, _⟩ := h; rfl) | (obtain ⟨_, _, _, _, _, _, _, _, _, _, _, _, _, _, _, _, _, _, _, _, rfl, _⟩ := h; rfl) | (obtain ⟨_, _, _, _, _, _, _, _, _, _, _, _, _, _, _, _, _, _, _, _, _, rfl, _⟩ := h; rfl) | (obtain ⟨_, _, _, _, _, _, _, _, _, _, _, _, _, _, _, _, _, _, _, _, _, _, rfl, _⟩ := h; rfl) | (obtain ⟨_, _, _, _, _, _, _, _, _, _, _, _, _, _, _, _, _, _, _, _, _, _, _, rfl, _⟩ := h; rfl) | (obtain ⟨_, _, _, _, _, _, _, _, _, _, _, _, _, _, _, _, _, _, _, _, _, _, _, _, rfl, _⟩ := h; rfl) | (obtain ⟨_, _, _, _, _, _, _, _, _, _, _, _, _, _, _, _, _, _, _, _, _, _, _, _, _, rfl, _⟩ := h; rfl))
  · have hu := hu_of hr
    refine ⟨_, PSs.nox (pss_cons (ps_if (pt_cmpR op_isN (pv 0) pe_non (nomark _))
    (pss_one (ps_ret pe_non))
    pss_nil)
    (pss_one (ps_ret (pe_ix ix_t (pv 0) pe_int (fun _ _ => rfl))))), ?_⟩
    clear sc hu hr
    obtain ⟨y, x, rfl, hy, q⟩ := h
    cases y with
    | none =>
      simp only [encY, Rp] at hy
      subst hy
      walk_at "go"
      exact q _ rfl
    | some y =>
      simp only [encY, Rp, RpL] at hy
      obtain ⟨p, vs, rfl, hp, v1, r1, rfl, h1, v2, r2, rfl, h2, rfl⟩ := hy
      walk_at "go"
      exact q _ h1
end
end K64

namespace K64
open PySem PySem.Spec PyProof.Rows L2 Gr
/-! ### what a change is -/
abbrev Bal := Int × Int
abbrev Yes := Bal × D
structure Chg where
  me : Nat
  hands : Nat
  ballot : Option Bal
  yes : Option Yes
  votes : Nat
  reports : List (Int × (D × Option Yes))
  agreed : Option D
structure Msg where
  hand : Nat
  ballot : Option Bal
  yes : Option Yes
  votes : Nat
  report : D
def encM (m : Msg) : D := .tup [.int (m.hand : Int), encB m.ballot, encY m.yes, .int (m.votes : Int), m.report]
def encO : Option D → D
  | none => .non
  | some d => d
def encR (m : List (Int × (D × Option Yes))) : List (Int × D) := m.map fun p => (p.1, .tup [p.2.1, encY p.2.2])
namespace Chg
def new (me hands : Nat) : Chg := ⟨me, hands, none, none, 0, [], none⟩
def begin_ (c : Chg) (more : Int) (report : D) : Chg := { c with ballot := some ((match c.ballot with | none => 0 | some b => b.1) + more, (c.me : Int)), reports := [((c.me : Int), (report, c.yes))] }
def message (c : Chg) (report : D) : Msg := ⟨c.me, c.ballot, c.yes, c.votes, report⟩
def settle (c : Chg) : Chg := match c.agreed, c.yes with
  | none, some y => if moreHalf c.votes c.hands = true then { c with agreed := some y.2 } else c
  | _, _ => c
def receiveYes (c : Chg) (yes : Option Yes) (votes : Nat) : Chg := match yes with
  | none => c
  | some y => if c.ballot = some y.1 ∧ under (c.yes.map (·.1)) (some y.1) = true then settle { c with yes := some y, votes := votes ||| 2 ^ c.me }
    else if c.yes.map (·.1) = some y.1 then settle { c with votes := c.votes ||| votes } else settle c
def unplanned (c : Chg) : Bool := match c.ballot with
  | none => false
  | some b => decide (b.2 = (c.me : Int)) && !decide (c.yes.map (·.1) = some b)
def adopt (c : Chg) (b : Option Bal) : Chg := if under c.ballot b = true then { c with ballot := b, reports := [] } else c
def keep (c : Chg) (m : Msg) : Chg := if m.ballot ≠ none ∧ m.ballot = c.ballot ∧ c.unplanned = true then { c with reports := putA c.reports (m.hand : Int) (m.report, m.yes) } else c
def receive (c : Chg) (m : Msg) : Chg := ((c.adopt m.ballot).receiveYes m.yes m.votes).keep m
end Chg
/-- no plan is None -/
def okY : Option Yes → Prop
  | none => True
  | some y => y.2 ≠ .non
structure ChgAt (C : Addr) (H : Hp) (p : Addr) (c : Chg) (r : Addr) : Prop where
  ob : ∃ dx bv yv av, H p = some (.ins C dx (F_Change.zip [.int (c.me : Int), .int (c.hands : Int), bv, yv, .int (c.votes : Int), .ref r, av])) ∧ Rp H (encB c.ballot) bv ∧ Rp H (encY c.yes) yv ∧ Rp H (encO c.agreed) av
  rp : ∃ m, H r = some (dI m) ∧ RpM H (encR c.reports) m
  small : c.me < 63 ∧ c.reports.length < 1000 ∧ ∀ p ∈ c.reports, K64.okY p.2.2
  okY : okY c.yes
  okA : c.agreed ≠ some .non
theorem ChgAt.ne {C : Addr} {H : Hp} {p r : Addr} {c : Chg} (h : ChgAt C H p c r) : p ≠ r := by
  obtain ⟨dx, bv, yv, av, h1, _⟩ := h.ob
  obtain ⟨m, h2, _⟩ := h.rp
  refine ne_of h1 h2 ?_
  intro z
  unfold dI at z
  cases z
/-- a change stands where its two objects and the tuples do -/
theorem ChgAt.at {C : Addr} {H H' : Hp} {p r : Addr} {c : Chg} (h : ChgAt C H p c r) (t : Tups H H') (hp : ∀ o, H p = some o → H' p = some o) (hr : ∀ o, H r = some o → H' r = some o) : ChgAt C H' p c r := by
  obtain ⟨⟨dx, bv, yv, av, h1, h2, h3, h4⟩, ⟨m, h5, h6⟩, h7, h8, h9⟩ := h
  exact ⟨⟨dx, bv, yv, av, hp _ h1, h2.at t, h3.at t, h4.at t⟩, ⟨m, hr _ h5, h6.at t⟩, h7, h8, h9⟩
theorem ChgAt.same {C : Addr} {H H' : Hp} {p r : Addr} {c : Chg} (h : ChgAt C H p c r) (e : Same H H') : ChgAt C H' p c r := h.at (Tups.of_same e) (fun o => e _ o) (fun o => e _ o)
def sp_Change_init (C : Addr) : Sp := fun vs H Q _ => ∃ (p dx : Addr) (me hands : Nat), vs = [.ref p, .int (me : Int), .int (hands : Int)] ∧ H p = some (.ins C dx []) ∧ me < 63 ∧
  ∀ r H', H r = none → Fr [p] H H' → ChgAt C H' p (Chg.new me hands) r → Q .non H'
def sp_Change_begin (C : Addr) : Sp := fun vs H Q _ => ∃ (p r : Addr) (c : Chg) (more : Int) (rep : V) (d : D), vs = [.ref p, .int more, rep] ∧ ChgAt C H p c r ∧ Rp H d rep ∧
  ∀ r' H', H r' = none → Fr [p] H H' → ChgAt C H' p (c.begin_ more d) r' → Q .non H'
def sp_Change_message (C : Addr) : Sp := fun vs H Q _ => ∃ (p r : Addr) (c : Chg) (rep : V) (d : D), vs = [.ref p, rep] ∧ ChgAt C H p c r ∧ Rp H d rep ∧
  ∀ v H', Same H H' → Rp H' (encM (c.message d)) v → Q v H'
def sp_Change_unplanned (C : Addr) : Sp := fun vs H Q _ => ∃ (p r : Addr) (c : Chg), vs = [.ref p] ∧ ChgAt C H p c r ∧ Q (.bl c.unplanned) H
def sp_Change_settle (C : Addr) : Sp := fun vs H Q _ => ∃ (p r : Addr) (c : Chg), vs = [.ref p] ∧ ChgAt C H p c r ∧ ∀ H', Fr [p] H H' → ChgAt C H' p c.settle r → Q .non H'
def sp_Change_receive_yes (C : Addr) : Sp := fun vs H Q _ => ∃ (p r : Addr) (c : Chg) (yv : V) (y : Option Yes) (n : Nat), vs = [.ref p, yv, .int (n : Int)] ∧ ChgAt C H p c r ∧ Rp H (encY y) yv ∧ okY y ∧
  ∀ H', Fr [p] H H' → ChgAt C H' p (c.receiveYes y n) r → Q .non H'
def sp_Change_receive (C : Addr) : Sp := fun vs H Q _ => ∃ (p r : Addr) (c : Chg) (v : V) (m : Msg), vs = [.ref p, v] ∧ ChgAt C H p c r ∧ Rp H (encM m) v ∧ okY m.yes ∧ c.reports.length < 999 ∧
  ∀ r' H', (r' = r ∨ H r' = none) → Fr [p, r] H H' → ChgAt C H' p (c.receive m) r' → Q .non H'
def sp_Change_settled (C : Addr) : Sp := fun vs H Q _ => ∃ (p r : Addr) (c : Chg), vs = [.ref p] ∧ ChgAt C H p c r ∧ ∀ v, Rp H (encO c.agreed) v → Q v H
local macro_rules | `(tactic| walk_at "s") => `(tactic| simp only [a_seq, a_next, a_ifS, a_asg, a_ret, a_retN, a_drop, a_break, a_cont, a_test, a_b, a_op, a_un, a_var, a_c, a_name, a_tupt, a_gcons, a_gnil, a_gsub, a_call, a_meth, a_make, a_cb, a_cons, a_nil, a_fldC, a_sfldC, a_not, a_and, a_or, a_andV, a_orV, a_notV, a_if, a_tup, a_lst, a_dget, a_dget2, a_din, a_dnotin, a_dput, a_dnewK, a_dnewT, a_aug, a_par, a_sl, a_part, a_nopart, a_bm, a_bm0, tPairs, a_disp, a_iLst, a_iTpl, a_iVals, a_iKeys, a_iRng1, a_iRng2, a_I0, a_I, a_U, a_eq, a_ne, a_ixt, a_ixl, a_lenl, a_lent, a_sll, a_sumL, a_sortL, a_sortD, a_listRg, a_rg1, a_append, a_yes, a_setdN, a_ddnotin, a_ddput, a_lenq, a_ixq, a_slq, a_methG, a_callC, a_ndefM, tFor_eq, tLc_eq,
  scal_ii, scal_nn, scal_in, scal_ni, scal_bb, scal_ss, scal_sn, scal_ns, L2.start, cx_K, cx_P, cx_w, bit_c, wipe, Int.natCast_inj, bitAnd_c, bitOr_c, shl1_c, Int.zero_add, Int.add_zero, Int.reduceLT, Int.reduceLE, Int.reducePow, Int.reduceNeg, Int.reduceToNat, Int.toNat_natCast, Int.natCast_nonneg,
  at_lit0, at_lit1, at_lit2, at_lit3, at_lit4, at_lit5, at_lit6, at_lit7, upd_same, upd_ne, Gr.upd_none, ne_eq, Option.isSome_some, sizeLine_eq, Nat.reduceLeDiff, upd_upd, Nat.reduceLT,
  List.map_cons, List.map_nil, List.length_cons, List.length_nil, List.replicate, List.cons_append, List.nil_append, List.append_nil, List.getElem?_cons_succ, List.getElem?_cons_zero, List.set_cons_succ, List.set_cons_zero,
  Option.some.injEq, V.ref.injEq, V.int.injEq, V.bl.injEq, V.str.injEq, List.cons.injEq, exists_eq_left, exists_eq_left', exists_eq_right, exists_eq, exists_eq', exists_and_left, exists_and_right, exists_const, true_and, and_true, and_self, ite_true, ite_false, if_true, if_false, reduceCtorEq, decide_true, decide_false, decide_eq_true_eq, Bool.not_true, Bool.not_false, Bool.not_eq_true', decide_eq_false_iff_not, Bool.false_eq_true, not_true_eq_false, not_false_eq_true, eq_self, HO.ins.injEq, HO.tup.injEq, HO.lst.injEq, and_assoc, Nat.reduceSub, Nat.reduceAdd, Nat.sub_self, reduceIte, ln_F_Change, in_Change_0, ll_Change_0, lk_Change_me, pt_Change_me, in_Change_1, ll_Change_1, lk_Change_hands, pt_Change_hands, in_Change_2, ll_Change_2, lk_Change_ballot, pt_Change_ballot, in_Change_3, ll_Change_3, lk_Change_yes, pt_Change_yes, in_Change_4, ll_Change_4, lk_Change_votes, pt_Change_votes, in_Change_5, ll_Change_5, lk_Change_reports, pt_Change_reports, in_Change_6, lk_Change_agreed, pt_Change_agreed, nm_Change_begin, nm_Change_message, nm_Change_receive, nm_Change_receive_yes, nm_Change_unplanned, nm_Change_settle, nm_Change_enough, nm_Change_propose, nm_Change_settled, N_has, N_hands_of, N_many, N_more_than_half, N_under, N_ballot_of, N_Change_init, N_Change_begin, N_Change_message, N_Change_receive, N_Change_receive_yes, N_Change_unplanned, N_Change_settle, N_Change_enough, N_Change_propose, N_Change_settled, N_l_cell_at, N_l_stream, N_l_hands, N_l_propose, N_l_noted, N_l_kept, N_l_agreed, N_l_deed, N_l_right, N_law, N_l_propose_law_make, *])
local macro_rules | `(tactic| walk_at "e") => `(tactic| first | assumption | rfl | (refine Gr.Fz.out ?_; first | assumption | (simp only [*]; done)) | (simp only [*]; done) | (simp [*]; done))
local macro_rules | `(tactic| walk_at "fr") => `(tactic| (repeat first | exact Gr.Fr.refl _ _ | assumption | (refine Gr.Fr.put' ?_ ?_; focus (first | (right; assumption) | (right; refine Gr.Fz.out ?_; simp only [*]; done) | (left; simp; done)))))
local macro_rules | `(tactic| walk_at "tp") => `(tactic| (repeat first | exact Gr.Tups.refl _ | assumption | (refine Gr.Tups.put' ?_ ?_; focus (first | (refine Gr.not_tup_none ?_; first | assumption | (refine Gr.Fz.out ?_; simp only [*]; done)) | (refine Gr.not_tup_of (by assumption) (fun xs z => ?_); cases z; done)))))
local macro_rules | `(tactic| walk_at "sm") => `(tactic| (repeat first | exact L2.Same.refl _ | assumption | (refine Gr.Same.put' ?_ ?_; focus (first | assumption | (refine Gr.Fz.out ?_; simp only [*]; done)))))
local macro_rules | `(tactic| walk_at "go") => `(tactic| ((try walk_at "s"); first | (intro _ hh; (try simp only [L2.upd_upd, Gr.upd_none, ne_eq, and_assoc] at hh); (try simp only [Gr.none_fz] at hh); walk_at "go") | (refine Gr.Cn.go ?_; walk_at "go") | skip))

section
variable {P : Program} {w : World} {K : PySem.W.Frag} {mg : Str → Option Value} {base : Heap}
theorem ok_Change_init (T : Env K mg) : FnOk P w K mg base CX0 1 (He.ma K (He.ga K "Change") "__init__") T.fd_Change_init ["self", "me", "hands"] (sp_Change_init (He.ga K "Change")) := by
  have sc := sc_Change_init
  refine T.F_Change_init.ok sc (fun vs H Q E h => ?_) (fun cdv A outer s H vs Q E hr h => ?_)
  · (first | (obtain ⟨rfl, _⟩ := h; rfl) | (obtain ⟨_, rfl, _⟩ := h; rfl) | (obtain ⟨_, _, rfl, _⟩ := h; rfl) | (obtain ⟨_, _, _, rfl, _⟩ := h; rfl) | (obtain ⟨_, _, _, _, rfl, _⟩ := h; rfl) | (obtain ⟨_, _, _, _, _, rfl, _⟩ := h; rfl) | (obtain ⟨_, _, _, _, _, _, rfl, _⟩ := h; rfl) | (obtain ⟨_, _, _, _, _, _, _, rfl, _⟩ := h; rfl) | (obtain ⟨_, _, _, _, _, _, _, _, rfl, _⟩ := h; rfl) | (obtain ⟨_, _, _, _, _, _, _, _, _, rfl, _⟩ := h; rfl) | (obtain ⟨_, _, _, _, _, _, _, _, _, _, rfl, _⟩ := h; rfl) | (obtain ⟨_, _, _, _, _, _, _, _, _, _, _, rfl, _⟩ := h; rfl) | (obtain ⟨_, _, _, _, _, _, _, _, _, _, _, _, rfl, _⟩ := h; rfl) | (obtain ⟨_, _, _, _, _, _, _, _, _, _, _, _, _, rfl, _⟩ := h; rfl) | (obtain ⟨_, _, _, _, _, _, _, _, _, _, _, _, _, _, rfl, _⟩ := h; rfl) | (obtain ⟨_, _, _, _, _, _, _, _, _, _, _, _, _, _, _, rfl, _⟩ := h; rfl) | (obtain ⟨_, _, _, _, _, _, _, _, _, _, _, _, _, _, _, _, rfl, _⟩ := h; rfl) | (obtain ⟨_, _, _, _, _, _, _, _, _, _, _, _, _, _, _, _, _, rfl, _⟩ := h; rfl) | (obtain ⟨_, _, _, _, _, _, _, _, _, _, _, _, _, _, _, _, _, _, rfl, _⟩ := h; rfl) | (obtain ⟨_, _, _, _, _, _, _, _, _, _, _, _, _, _, _, _, _, _, _, rfl, _⟩ := h; rfl) | (obtain ⟨_, _, _, _, _, _, _, _, _, _, _, _, _, _, _, _, _, _, _, _, rfl, _⟩ := h; rfl) | (obtain ⟨_, _, _, _, _, _, _, _, _, _, _, _, _, _, _, _, _, _, _, _, _, rfl, _⟩ := h; rfl) | (obtain ⟨_, _, _, _, _, _, _, _, _, _, _, _, _, _, _, _, _, _, _, _, _, _, rfl, _⟩ := h; rfl) | (obtain ⟨_, _, _, _, _, _, _, _, _, _, _, _, _, _, _, _, _, _, _, _, _, _, _, rfl, _⟩ := h; rfl) | (obtain ⟨_, _, _, _, _, _, _, _, _, _, _, _, _, _, _, _, _, _, _, _, _, _, _, _, rfl, _⟩ := h; rfl) | (obtain ⟨_, _, _, _, _, _, _, _, _, _, _, _, _, _, _, _, _, _, _, _, _, _, _, _, _, rfl, _⟩ := h; rfl))
  · have hu := hu_of hr
    refine ⟨_, PSs.nox (pss_cons (ps_fldC (K := K) rfl T.c_Change T.n_Change_me (pv 0) (pv 1) rfl)
    (pss_cons (ps_fldC (K := K) rfl T.c_Change T.n_Change_hands (pv 0) (pv 2) rfl)
    (pss_cons (ps_fldC (K := K) rfl T.c_Change T.n_Change_ballot (pv 0) pe_non rfl)
    (pss_cons (ps_fldC (K := K) rfl T.c_Change T.n_Change_yes (pv 0) pe_non rfl)
    (pss_cons (ps_fldC (K := K) rfl T.c_Change T.n_Change_votes (pv 0) pe_int rfl)
    (pss_cons (ps_fldC (K := K) rfl T.c_Change T.n_Change_reports (pv 0) pe_dnewK rfl)
    (pss_one (ps_fldC (K := K) rfl T.c_Change T.n_Change_agreed (pv 0) pe_non rfl)))))))), ?_⟩
    clear sc hu hr
    obtain ⟨p, dx, me, hands, rfl, hp, hm, q⟩ := h
    replace q := Hd.mk q
    walk_at "go"
    rename_i r nr
    refine q.out r _ ?_ ?_ ⟨⟨dx, .non, .non, .non, ?_, rfl, rfl, rfl⟩, ⟨[], ?_, rfl⟩, ⟨hm, Nat.zero_lt_succ _, fun p hp => by cases hp⟩, trivial, by simp [Chg.new]⟩
    · walk_at "e"
    · walk_at "fr"
    · exact upd_same
    · walk_at "s"
      rfl
theorem ok_Change_begin (T : Env K mg) : FnOk P w K mg base CX0 1 (He.ma K (He.ga K "Change") "begin") T.fd_Change_begin ["self", "more", "report"] (sp_Change_begin (He.ga K "Change")) := by
  have sc := sc_Change_begin
  refine T.F_Change_begin.ok sc (fun vs H Q E h => ?_) (fun cdv A outer s H vs Q E hr h => ?_)
  · (first | (obtain ⟨rfl, _⟩ := h; rfl) | (obtain ⟨_, rfl, _⟩ := h; rfl) | (obtain ⟨_, _, rfl, _⟩ := h; rfl) | (obtain ⟨_, _, _, rfl, _⟩ := h; rfl) | (obtain ⟨_, _, _, _, rfl, _⟩ := h; rfl) | (obtain ⟨_, _, _, _, _, rfl, _⟩ := h; rfl) | (obtain ⟨_, _, _, _, _, _, rfl, _⟩ := h; rfl) | (obtain ⟨_, _, _, _, _, _, _, rfl, _⟩ := h; rfl) | (obtain ⟨_, _, _, _, _, _, _, _, rfl, _⟩ := h; rfl) | (obtain ⟨_, _, _, _, _, _, _, _, _, rfl, _⟩ := h; rfl) | (obtain ⟨_, _, _, _, _, _, _, _, _, _, rfl, _⟩ := h; rfl) | (obtain ⟨_, _, _, _, _, _, _, _, _, _, _, rfl, _⟩ := h; rfl) | (obtain ⟨_, _, _, _, _, _, _, _, _, _, _, _, rfl, _⟩ := h; rfl) | (obtain ⟨_, _, _, _, _, _, _, _, _, _, _, _, _, rfl, _⟩ := h; rfl) | (obtain ⟨_, _, _, _, _, _, _, _, _, _, _, _, _, _, rfl, _⟩ := h; rfl) | (obtain ⟨_, _, _, _, _, _, _, _, _, _, _, _, _, _, _, rfl, _⟩ := h; rfl) | (obtain ⟨_, _, _, _, _, _, _, _, _, _, _, _, _, _, _, _, rfl, _⟩ := h; rfl) | (obtain ⟨_, _, _, _, _, _, _, _, _, _, _, _, _, _, _, _, _, rfl, _⟩ := h; rfl) | (obtain ⟨_, _, _, _, _, _, _, _, _, _, _, _, _, _, _, _, _, _, rfl, _⟩ := h; rfl) | (obtain ⟨_, _, _, _, _, _, _, _, _, _, _, _, _, _, _, _, _, _, _, rfl, _⟩ := h; rfl) | (obtain ⟨_, _, _, _, _, _, _, _, _, _, _, _, _, _, _, _, _, _, _, _, rfl, _⟩ := h; rfl) | (obtain ⟨_, _, _, _, _, _, _, _, _, _, _, _, _, _, _, _, _, _, _, _, _, rfl, _⟩ := h; rfl) | (obtain ⟨_, _, _, _, _, _, _, _, _, _, _, _, _, _, _, _, _, _, _, _, _, _, rfl, _⟩ := h; rfl) | (obtain ⟨_, _, _, _, _, _, _, _, _, _, _, _, _, _, _, _, _, _, _, _, _, _, _, rfl, _⟩ := h; rfl) | (obtain ⟨_, _, _, _, _, _, _, _, _, _, _, _, _, _, _, _, _, _, _, _, _, _, _, _, rfl, _⟩ := h; rfl) | (obtain ⟨_, _, _, _, _, _, _, _, _, _, _, _, _, _, _, _, _, _, _, _, _, _, _, _, _, rfl, _⟩ := h; rfl))
  · have hu := hu_of hr
    refine ⟨_, PSs.nox (pss_cons (ps_set (i := 3) sc.nd rfl (.inl rfl) pe_int)
    (pss_cons (ps_if (pt_cmpR op_notN (pe_fldC (K := K) rfl T.c_Change T.n_Change_ballot (pv 0) rfl) pe_non (nomark _))
    (pss_one (ps_set (i := 3) sc.nd rfl (.inl rfl) (pe_ix ix_t (pe_fldC (K := K) rfl T.c_Change T.n_Change_ballot (pv 0) rfl) pe_int (fun _ _ => rfl))))
    pss_nil)
    (pss_cons (ps_fldC (K := K) rfl T.c_Change T.n_Change_ballot (pv 0) (pe_tup (pa_cons (pe_op op_add (pv 3) (pv 1)) (pa_cons (pe_fldC (K := K) rfl T.c_Change T.n_Change_me (pv 0) rfl) pa_nil))) rfl)
    (pss_one (ps_fldC (K := K) rfl T.c_Change T.n_Change_reports (pv 0) (pe_disp (pps_cons (pe_fldC (K := K) rfl T.c_Change T.n_Change_me (pv 0) rfl) (pe_tup (pa_cons (pv 2) (pa_cons (pe_fldC (K := K) rfl T.c_Change T.n_Change_yes (pv 0) rfl) pa_nil))) pps_nil) (by rfl) (by rfl) (fun z => by cases z) (by decide)) rfl))))), ?_⟩
    clear sc hu hr
    obtain ⟨p, r, c, more, rep, d, rfl, hC, hd, q⟩ := h
    have pr := hC.ne
    obtain ⟨⟨dx, bv, yv, av, hp, hb, hy, ha⟩, ⟨m, hr, hm⟩, h7, h8, h9⟩ := id hC
    have key : Hd (∀ (k : Int) (H' : Hp) (r' t1 t2 : Addr), k = (match c.ballot with | none => 0 | some b => b.1) → H r' = none → Fr [p] H H' → Tups H H' → H' t1 = some (.tup [.int (k + more), .int (c.me : Int)]) → H' t2 = some (.tup [rep, yv]) → H' r' = some (dI [((c.me : Int), .ref t2)]) →
        H' p = some (.ins (He.ga K "Change") dx (F_Change.zip [.int (c.me : Int), .int (c.hands : Int), .ref t1, yv, .int (c.votes : Int), .ref r', av])) → Q .non H') := by
      refine ⟨?_⟩
      intro k H' r' t1 t2 hk nr fr tp h1 h2 h3 h4
      refine q r' H' nr fr ⟨⟨dx, .ref t1, yv, av, h4, ⟨t1, _, rfl, h1, ?_⟩, hy.at tp, ha.at tp⟩, ⟨_, h3, .ref t2, [], rfl, ⟨t2, _, rfl, h2, rep, _, rfl, hd.at tp, yv, [], rfl, hy.at tp, rfl⟩, rfl⟩, ⟨h7.1, Nat.succ_lt_succ (Nat.zero_lt_succ _), fun p hp => by rw [List.mem_singleton.mp hp]; exact h8⟩, h8, h9⟩
      rw [hk]
      exact ⟨_, _, rfl, rfl, _, _, rfl, rfl, rfl⟩
    clear q hC
    cases hbal : c.ballot with
    | none =>
      rw [hbal] at hb key
      simp only [encB, Rp] at hb
      subst hb
      walk_at "go"
      rename_i t1 ht1 r' hr' t2 ht2
      refine ⟨[(Sum.inl (c.me : Int), .ref t2)], rfl, Nat.succ_le_succ (Nat.zero_le _), ?_⟩
      refine key.out 0 _ r' t1 t2 rfl ?_ ?_ ?_ ?_ ?_ ?_ ?_
      · walk_at "e"
      · walk_at "fr"
      · walk_at "tp"
      · walk_at "s"
      · walk_at "s"
      · walk_at "s"
        rfl
      · walk_at "s"
    | some b =>
      rw [hbal] at hb key
      simp only [encB, Rp, RpL] at hb
      obtain ⟨t, vs, rfl, ht, v1, r1, rfl, rfl, v2, r2, rfl, rfl, rfl⟩ := hb
      walk_at "go"
      rename_i t1 ht1 r' hr' t2 ht2
      refine ⟨[(Sum.inl (c.me : Int), .ref t2)], rfl, Nat.succ_le_succ (Nat.zero_le _), ?_⟩
      refine key.out b.1 _ r' t1 t2 rfl ?_ ?_ ?_ ?_ ?_ ?_ ?_
      · walk_at "e"
      · walk_at "fr"
      · walk_at "tp"
      · walk_at "s"
      · walk_at "s"
      · walk_at "s"
        rfl
      · walk_at "s"
theorem ok_Change_message (T : Env K mg) : FnOk P w K mg base CX0 1 (He.ma K (He.ga K "Change") "message") T.fd_Change_message ["self", "report"] (sp_Change_message (He.ga K "Change")) := by
  have sc := sc_Change_message
  refine T.F_Change_message.ok sc (fun vs H Q E h => ?_) (fun cdv A outer s H vs Q E hr h => ?_)
  · (first | (obtain ⟨rfl, _⟩ := h; rfl) | (obtain ⟨_, rfl, _⟩ := h; rfl) | (obtain ⟨_, _, rfl, _⟩ := h; rfl) | (obtain ⟨_, _, _, rfl, _⟩ := h; rfl) | (obtain ⟨_, _, _, _, rfl, _⟩ := h; rfl) | (obtain ⟨_, _, _, _, _, rfl, _⟩ := h; rfl) | (obtain ⟨_, _, _, _, _, _, rfl, _⟩ := h; rfl) | (obtain ⟨_, _, _, _, _, _, _, rfl, _⟩ := h; rfl) | (obtain ⟨_, _, _, _, _, _, _, _, rfl, _⟩ := h; rfl) | (obtain ⟨_, _, _, _, _, _, _, _, _, rfl, _⟩ := h; rfl) | (obtain ⟨_, _, _, _, _, _, _, _, _, _, rfl, _⟩ := h; rfl) | (obtain ⟨_, _, _, _, _, _, _, _, _, _, _, rfl, _⟩ := h; rfl) | (obtain ⟨_, _, _, _, _, _, _, _, _, _, _, _, rfl, _⟩ := h; rfl) | (obtain ⟨_, _, _, _, _, _, _, _, _, _, _, _, _, rfl, _⟩ := h; rfl) | (obtain ⟨_, _, _, _, _, _, _, _, _, _, _, _, _, _, rfl, _⟩ := h; rfl) | (obtain ⟨_, _, _, _, _, _, _, _, _, _, _, _, _, _, _, rfl, _⟩ := h; rfl) | (obtain ⟨_, _, _, _, _, _, _, _, _, _, _, _, _, _, _, _, rfl, _⟩ := h; rfl) | (obtain ⟨_, _, _, _, _, _, _, _, _, _, _, _, _, _, _, _, _, rfl, _⟩ := h; rfl) | (obtain ⟨_, _, _, _, _, _, _, _, _, _, _, _, _, _, _, _, _, _, rfl, _⟩ := h; rfl) | (obtain ⟨_, _, _, _, _, _, _, _, _, _, _, _, _, _, _, _, _, _, _, rfl, _⟩ := h; rfl) | (obtain ⟨_, _, _, _, _, _, _, _, _, _, _, _, _, _, _, _, _, _, _, _, rfl, _⟩ := h; rfl) | (obtain ⟨_, _, _, _, _, _, _, _, _, _, _, _, _, _, _, _, _, _, _, _, _, rfl, _⟩ := h; rfl) | (obtain ⟨_, _, _, _, _, _, _, _, _, _, _, _, _, _, _, _, _, _, _, _, _, _, rfl, _⟩ := h; rfl) | (obtain ⟨_, _, _, _, _, _, _, _, _, _, _, _, _, _, _, _, _, _, _, _, _, _, _, rfl, _⟩ := h; rfl) | (obtain ⟨_, _, _, _, _, _, _, _, _, _, _, _, _, _, _, _, _, _, _, _, _, _, _, _, rfl, _⟩ := h; rfl) | (obtain ⟨_, _, _, _, _, _, _, _, _, _, _, _, _, _, _, _, _, _, _, _, _, _, _, _, _, rfl, _⟩ := h; rfl))
  · have hu := hu_of hr
    refine ⟨_, PSs.nox (pss_one (ps_ret (pe_tup (pa_cons (pe_fldC (K := K) rfl T.c_Change T.n_Change_me (pv 0) rfl) (pa_cons (pe_fldC (K := K) rfl T.c_Change T.n_Change_ballot (pv 0) rfl) (pa_cons (pe_fldC (K := K) rfl T.c_Change T.n_Change_yes (pv 0) rfl) (pa_cons (pe_fldC (K := K) rfl T.c_Change T.n_Change_votes (pv 0) rfl) (pa_cons (pv 1) pa_nil)))))))), ?_⟩
    clear sc hu hr
    obtain ⟨p, r, c, rep, d, rfl, hC, hd, q⟩ := h
    replace q := Hd.mk q
    obtain ⟨⟨dx, bv, yv, av, hp, hb, hy, ha⟩, ⟨m, hr, hm⟩, h7, h8, h9⟩ := id hC
    walk_at "go"
    rename_i t ht
    have sm : Same H (upd H t (.tup [.int (c.me : Int), bv, yv, .int (c.votes : Int), rep])) := same_new ht.2.2.out
    have tp := Tups.of_same sm
    exact q.out _ _ sm ⟨t, _, rfl, upd_same, _, _, rfl, rfl, _, _, rfl, hb.at tp, _, _, rfl, hy.at tp, _, _, rfl, rfl, _, _, rfl, hd.at tp, rfl⟩
end
end K64

namespace K64
open PySem PySem.Spec PyProof.Rows L2 Gr
def encD (b : Bal) : D := .tup [.int b.1, .int b.2]
theorem encB_ok (b : Option Bal) : (encB b).ok = true := by
  cases b <;> simp [encB, D.ok, D.good, D.goodL, D.dep, D.depL]
theorem encB_inj {a b : Option Bal} : (encB a = encB b) ↔ a = b := by
  cases a <;> cases b <;> simp [encB, Prod.ext_iff]
theorem encB_non {H : Hp} {b : Option Bal} {v : V} (h : Rp H (encB b) v) : (v = .non) ↔ b = none := by
  cases b with
  | none => exact ⟨fun _ => rfl, fun _ => h⟩
  | some b => exact ⟨fun z => absurd z (h.ne_non (by simp [encB])), fun z => by cases z⟩
theorem encY_non {H : Hp} {b : Option Yes} {v : V} (h : Rp H (encY b) v) : (v = .non) ↔ b = none := by
  cases b with
  | none => exact ⟨fun _ => rfl, fun _ => h⟩
  | some b => exact ⟨fun z => absurd z (h.ne_non (by simp [encY])), fun z => by cases z⟩
theorem encO_non {H : Hp} {b : Option D} {v : V} (n : b ≠ some .non) (h : Rp H (encO b) v) : (v = .non) ↔ b = none := by
  cases b with
  | none => exact ⟨fun _ => rfl, fun _ => h⟩
  | some b => exact ⟨fun z => absurd z (h.ne_non fun z => n (congrArg some z)), fun z => by cases z⟩
local macro_rules | `(tactic| walk_at "s") => `(tactic| simp only [a_seq, a_next, a_ifS, a_asg, a_ret, a_retN, a_drop, a_break, a_cont, a_test, a_b, a_op, a_un, a_var, a_c, a_name, a_tupt, a_gcons, a_gnil, a_gsub, a_call, a_meth, a_make, a_cb, a_cons, a_nil, a_fldC, a_sfldC, a_not, a_and, a_or, a_andV, a_orV, a_notV, a_if, a_tup, a_lst, a_dget, a_dget2, a_din, a_dnotin, a_dput, a_dnewK, a_dnewT, a_aug, a_par, a_sl, a_part, a_nopart, a_bm, a_bm0, tPairs, a_disp, a_iLst, a_iTpl, a_iVals, a_iKeys, a_iRng1, a_iRng2, a_I0, a_I, a_U, a_eq, a_ne, a_ixt, a_ixl, a_lenl, a_lent, a_sll, a_sumL, a_sortL, a_sortD, a_listRg, a_rg1, a_append, a_yes, a_setdN, a_ddnotin, a_ddput, a_lenq, a_ixq, a_slq, a_methG, a_callC, a_ndefM, tFor_eq, tLc_eq,
  scal_ii, scal_nn, scal_in, scal_ni, scal_bb, scal_ss, scal_sn, scal_ns, L2.start, cx_K, cx_P, cx_w, bit_c, wipe, Int.natCast_inj, bitAnd_c, bitOr_c, shl1_c, Int.zero_add, Int.add_zero, Int.reduceLT, Int.reduceLE, Int.reducePow, Int.reduceNeg, Int.reduceToNat, Int.toNat_natCast, Int.natCast_nonneg,
  at_lit0, at_lit1, at_lit2, at_lit3, at_lit4, at_lit5, at_lit6, at_lit7, upd_same, upd_ne, Gr.upd_none, ne_eq, Option.isSome_some, sizeLine_eq, Nat.reduceLeDiff, upd_upd, Nat.reduceLT,
  List.map_cons, List.map_nil, List.length_cons, List.length_nil, List.replicate, List.cons_append, List.nil_append, List.append_nil, List.getElem?_cons_succ, List.getElem?_cons_zero, List.set_cons_succ, List.set_cons_zero,
  Option.some.injEq, V.ref.injEq, V.int.injEq, V.bl.injEq, V.str.injEq, List.cons.injEq, exists_eq_left, exists_eq_left', exists_eq_right, exists_eq, exists_eq', exists_and_left, exists_and_right, exists_const, true_and, and_true, and_self, ite_true, ite_false, if_true, if_false, reduceCtorEq, decide_true, decide_false, decide_eq_true_eq, Bool.not_true, Bool.not_false, Bool.not_eq_true', decide_eq_false_iff_not, Bool.false_eq_true, not_true_eq_false, not_false_eq_true, eq_self, HO.ins.injEq, HO.tup.injEq, HO.lst.injEq, and_assoc, Nat.reduceSub, Nat.reduceAdd, Nat.sub_self, reduceIte, ln_F_Change, in_Change_0, ll_Change_0, lk_Change_me, pt_Change_me, in_Change_1, ll_Change_1, lk_Change_hands, pt_Change_hands, in_Change_2, ll_Change_2, lk_Change_ballot, pt_Change_ballot, in_Change_3, ll_Change_3, lk_Change_yes, pt_Change_yes, in_Change_4, ll_Change_4, lk_Change_votes, pt_Change_votes, in_Change_5, ll_Change_5, lk_Change_reports, pt_Change_reports, in_Change_6, lk_Change_agreed, pt_Change_agreed, nm_Change_begin, nm_Change_message, nm_Change_receive, nm_Change_receive_yes, nm_Change_unplanned, nm_Change_settle, nm_Change_enough, nm_Change_propose, nm_Change_settled, N_has, N_hands_of, N_many, N_more_than_half, N_under, N_ballot_of, N_Change_init, N_Change_begin, N_Change_message, N_Change_receive, N_Change_receive_yes, N_Change_unplanned, N_Change_settle, N_Change_enough, N_Change_propose, N_Change_settled, N_l_cell_at, N_l_stream, N_l_hands, N_l_propose, N_l_noted, N_l_kept, N_l_agreed, N_l_deed, N_l_right, N_law, N_l_propose_law_make, *])
local macro_rules | `(tactic| walk_at "e") => `(tactic| first | assumption | rfl | (refine Gr.Fz.out ?_; first | assumption | (simp only [*]; done)) | (simp only [*]; done) | (simp [*]; done))
local macro_rules | `(tactic| walk_at "fr") => `(tactic| (repeat first | exact Gr.Fr.refl _ _ | assumption | (refine Gr.Fr.put' ?_ ?_; focus (first | (right; assumption) | (right; refine Gr.Fz.out ?_; simp only [*]; done) | (left; simp; done)))))
local macro_rules | `(tactic| walk_at "tp") => `(tactic| (repeat first | exact Gr.Tups.refl _ | assumption | (refine Gr.Tups.put' ?_ ?_; focus (first | (refine Gr.not_tup_none ?_; first | assumption | (refine Gr.Fz.out ?_; simp only [*]; done)) | (refine Gr.not_tup_of (by assumption) (fun xs z => ?_); cases z; done)))))
local macro_rules | `(tactic| walk_at "sm") => `(tactic| (repeat first | exact L2.Same.refl _ | assumption | (refine Gr.Same.put' ?_ ?_; focus (first | assumption | (refine Gr.Fz.out ?_; simp only [*]; done)))))
local macro_rules | `(tactic| walk_at "go") => `(tactic| ((try walk_at "s"); first | (intro _ hh; (try simp only [L2.upd_upd, Gr.upd_none, ne_eq, and_assoc] at hh); (try simp only [Gr.none_fz] at hh); walk_at "go") | (refine Gr.Cn.go ?_; walk_at "go") | skip))

section
variable {P : Program} {w : World} {K : PySem.W.Frag} {mg : Str → Option Value} {base : Heap}
theorem ok_Change_unplanned (T : Env K mg) : FnOk P w K mg base CX0 2 (He.ma K (He.ga K "Change") "unplanned") T.fd_Change_unplanned ["self"] (sp_Change_unplanned (He.ga K "Change")) := by
  have sc := sc_Change_unplanned
  refine T.F_Change_unplanned.ok sc (fun vs H Q E h => ?_) (fun cdv A outer s H vs Q E hr h => ?_)
  · (first | (obtain ⟨rfl, _⟩ := h; rfl) | (obtain ⟨_, rfl, _⟩ := h; rfl) | (obtain ⟨_, _, rfl, _⟩ := h; rfl) | (obtain ⟨_, _, _, rfl, _⟩ := h; rfl) | (obtain ⟨_, _, _, _, rfl, _⟩ := h; rfl) | (obtain ⟨_, _, _, _, _, rfl, _⟩ := h; rfl) | (obtain ⟨_, _, _, _, _, _, rfl, _⟩ := h; rfl) | (obtain ⟨_, _, _, _, _, _, _, rfl, _⟩ := h; rfl) | (obtain ⟨_, _, _, _, _, _, _, _, rfl, _⟩ := h; rfl) | (obtain ⟨_, _, _, _, _, _, _, _, _, rfl, _⟩ := h; rfl) | (obtain ⟨_, _, _, _, _, _, _, _, _, _, rfl, _⟩ := h; rfl) | (obtain ⟨_, _, _, _, _, _, _, _, _, _, _, rfl, _⟩ := h; rfl) | (obtain ⟨_, _, _, _, _, _, _, _, _, _, _, _, rfl, _⟩ := h; rfl) | (obtain ⟨_, _, _, _, _, _, _, _, _, _, _, _, _, rfl, _⟩ := h; rfl) | (obtain ⟨_, _, _, _, _, _, _, _, _, _, _, _, _, _, rfl, _⟩ := h; rfl) | (obtain ⟨_, _, _, _, _, _, _, _, _, _, _, _, _, _, _, rfl, _⟩ := h; rfl) | (obtain ⟨_, _, _, _, _, _, _, _, _, _, _, _, _, _, _, _, rfl, _⟩ := h; rfl) | (obtain ⟨_, _, _, _, _, _, _, _, _, _, _, _, _, _, _, _, _, rfl, _⟩ := h; rfl) | (obtain ⟨_, _, _, _, _, _, _, _, _, _, _, _, _, _, _, _, _, _, rfl, _⟩ := h; rfl) | (obtain ⟨_, _, _, _, _, _, _, _, _, _, _, _, _, _, _, _, _, _, _, rfl, _⟩ := h; rfl) | (obtain ⟨_, _, _, _, _, _, _, _, _, _, _, _, _, _, _, _, _, _, _, _, rfl, _⟩ := h; rfl) | (obtain ⟨_, _, _, _, _, _, _, _, _, _, _, _, _, _, _, _, _, _, _, _, _, rfl, _⟩ := h; rfl) | (obtain ⟨_, _, _, _, _, _, _, _, _, _, _, _, _, _, _, _, _, _, _, _, _, _, rfl, _⟩ := h; rfl) | (obtain ⟨_, _, _, _, _, _, _, _, _, _, _, _, _, _, _, _, _, _, _, _, _, _, _, rfl, _⟩ := h; rfl) | (obtain ⟨_, _, _, _, _, _, _, _, _, _, _, _, _, _, _, _, _, _, _, _, _, _, _, _, rfl, _⟩ := h; rfl) | (obtain ⟨_, _, _, _, _, _, _, _, _, _, _, _, _, _, _, _, _, _, _, _, _, _, _, _, _, rfl, _⟩ := h; rfl))
  · have hu := hu_of hr
    refine ⟨_, PSs.nox (pss_cons (ps_if (PW.pt (pw_or (pt_cmpR op_isN (pe_fldC (K := K) rfl T.c_Change T.n_Change_ballot (pv 0) rfl) pe_non (nomark _)) (pw_or1 (pt_cmpR op_ne (pe_ix ix_t (pe_fldC (K := K) rfl T.c_Change T.n_Change_ballot (pv 0) rfl) pe_int (fun _ _ => rfl)) (pe_fldC (K := K) rfl T.c_Change T.n_Change_me (pv 0) rfl) (nomark _)))))
    (pss_one (ps_ret pe_bl))
    pss_nil)
    (pss_one (ps_ret (pe_cmpR (op_ned hr.units) (pe_call (ok_ballot_of T) (hr.mono (by decide)) (by rfl) T.g_ballot_of T.F_ballot_of.kp (b_ballot_of T) .nil pass0 (pa_cons (pe_fldC (K := K) rfl T.c_Change T.n_Change_yes (pv 0) rfl) pa_nil)) (pe_fldC (K := K) rfl T.c_Change T.n_Change_ballot (pv 0) rfl) (nomark _))))), ?_⟩
    clear sc hu hr
    obtain ⟨p, r, c, rfl, hC, q⟩ := h
    obtain ⟨⟨dx, bv, yv, av, hp, hb, hy, ha⟩, ⟨m, hr, hm⟩, h7, h8, h9⟩ := id hC
    replace q := Hd.mk q
    cases hbal : c.ballot with
    | none =>
      rw [hbal] at hb
      simp only [encB, Rp] at hb
      subst hb
      walk_at "go"
      have e : c.unplanned = false := by simp only [Chg.unplanned, hbal]
      rw [e] at q
      exact q.out
    | some b =>
      rw [hbal] at hb
      have hb0 := hb
      simp only [encB, Rp, RpL] at hb
      obtain ⟨t, vs, rfl, ht, v1, r1, rfl, rfl, v2, r2, rfl, rfl, rfl⟩ := hb
      walk_at "go"
      by_cases e : b.2 = (c.me : Int)
      · rw [if_neg (fun z => z e)]
        walk_at "go"
        refine ⟨c.yes, yv, rfl, hy, fun v hv => ?_⟩
        walk_at "go"
        refine ⟨encB (c.yes.map (·.1)), encB (some b), hv, hb0, encB_ok _, encB_ok _, ?_⟩
        have e2 : (!decide (encB (c.yes.map (·.1)) = encB (some b))) = c.unplanned := by
          simp only [Chg.unplanned, hbal, e, encB_inj, decide_true, Bool.true_and]
        rw [e2]
        exact q.out
      · rw [if_pos e]
        have e : c.unplanned = false := by simp only [Chg.unplanned, hbal, e, decide_false, Bool.false_and]
        rw [e] at q
        exact q.out
theorem ok_Change_settle (T : Env K mg) : FnOk P w K mg base CX0 3 (He.ma K (He.ga K "Change") "settle") T.fd_Change_settle ["self"] (sp_Change_settle (He.ga K "Change")) := by
  have sc := sc_Change_settle
  refine T.F_Change_settle.ok sc (fun vs H Q E h => ?_) (fun cdv A outer s H vs Q E hr h => ?_)
  · (first | (obtain ⟨rfl, _⟩ := h; rfl) | (obtain ⟨_, rfl, _⟩ := h; rfl) | (obtain ⟨_, _, rfl, _⟩ := h; rfl) | (obtain ⟨_, _, _, rfl, _⟩ := h; rfl) | (obtain ⟨_, _, _, _, rfl, _⟩ := h; rfl) | (obtain ⟨_, _, _, _, _, rfl, _⟩ := h; rfl) | (obtain ⟨_, _, _, _, _, _, rfl, _⟩ := h; rfl) | (obtain ⟨_, _, _, _, _, _, _, rfl, _⟩ := h; rfl) | (obtain ⟨_, _, _, _, _, _, _, _, rfl, _⟩ := h; rfl) | (obtain ⟨_, _, _, _, _, _, _, _, _, rfl, _⟩ := h; rfl) | (obtain ⟨_, _, _, _, _, _, _, _, _, _, rfl, _⟩ := h; rfl) | (obtain ⟨_, _, _, _, _, _, _, _, _, _, _, rfl, _⟩ := h; rfl) | (obtain ⟨_, _, _, _, _, _, _, _, _, _, _, _, rfl, _⟩ := h; rfl) | (obtain ⟨_, _, _, _, _, _, _, _, _, _, _, _, _, rfl, _⟩ := h; rfl) | (obtain ⟨_, _, _, _, _, _, _, _, _, _, _, _, _, _, rfl, _⟩ := h; rfl) | (obtain ⟨_, _, _, _, _, _, _, _, _, _, _, _, _, _, _, rfl, _⟩ := h; rfl) | (obtain ⟨_, _, _, _, _, _, _, _, _, _, _, _, _, _, _, _, rfl, _⟩ := h; rfl) | (obtain ⟨_, _, _, _, _, _, _, _, _, _, _, _, _, _, _, _, _, rfl, _⟩ := h; rfl) | (obtain ⟨_, _, _, _, _, _, _, _, _, _, _, _, _, _, _, _, _, _, rfl, _⟩ := h; rfl) | (obtain ⟨_, _, _, _, _, _, _, _, _, _, _, _, _, _, _, _, _, _, _, rfl, _⟩ := h; rfl) | (obtain ⟨_, _, _, _, _, _, _, _, _, _, _, _, _, _, _, _, _, _, _, _, rfl, _⟩ := h; rfl) | (obtain ⟨_, _, _, _, _, _, _, _, _, _, _, _, _, _, _, _, _, _, _, _, _, rfl, _⟩ := h; rfl) | (obtain ⟨_, _, _, _, _, _, _, _, _, _, _, _, _, _, _, _, _, _, _, _, _, _, rfl, _⟩ := h; rfl) | (obtain ⟨_, _, _, _, _, _, _, _, _, _, _, _, _, _, _, _, _, _, _, _, _, _, _, rfl, _⟩ := h; rfl) | (obtain ⟨_, _, _, _, _, _, _, _, _, _, _, _, _, _, _, _, _, _, _, _, _, _, _, _, rfl, _⟩ := h; rfl) | (obtain ⟨_, _, _, _, _, _, _, _, _, _, _, _, _, _, _, _, _, _, _, _, _, _, _, _, _, rfl, _⟩ := h; rfl))
  · have hu := hu_of hr
    refine ⟨_, PSs.nox (pss_one (ps_if (PW.pt (pw_and (pt_cmpR op_isN (pe_fldC (K := K) rfl T.c_Change T.n_Change_agreed (pv 0) rfl) pe_non (nomark _)) (pw_and (pt_cmpR op_notN (pe_fldC (K := K) rfl T.c_Change T.n_Change_yes (pv 0) rfl) pe_non (nomark _)) (pw_and1 (pt_val (pe_call (ok_more_than_half T) (hr.mono (by decide)) (by rfl) T.g_more_than_half T.F_more_than_half.kp (b_more_than_half T) .nil pass0 (pa_cons (pe_fldC (K := K) rfl T.c_Change T.n_Change_votes (pv 0) rfl) (pa_cons (pe_fldC (K := K) rfl T.c_Change T.n_Change_hands (pv 0) rfl) pa_nil))))))))
    (pss_one (ps_fldC (K := K) rfl T.c_Change T.n_Change_agreed (pv 0) (pe_ix ix_t (pe_fldC (K := K) rfl T.c_Change T.n_Change_yes (pv 0) rfl) pe_int (fun _ _ => rfl)) rfl))
    pss_nil)), ?_⟩
    clear sc hu hr
    obtain ⟨p, r, c, rfl, hC, q⟩ := h
    have pr := hC.ne
    obtain ⟨⟨dx, bv, yv, av, hp, hb, hy, ha⟩, ⟨m, hr, hm'⟩, h7, h8, h9⟩ := id hC
    replace q := Hd.mk q
    have e1 := encY_non hy
    have e2 := encO_non h9 ha
    have same : c.settle = c → Q .non H := fun e => q.out H (Fr.refl _ _) (by rw [e]; exact hC)
    replace same := Hd.mk same
    cases hag : c.agreed with
    | some d =>
      have n : ¬ av = .non := fun z => by rw [e2, hag] at z; cases z
      clear e1 e2
      walk_at "go"
      exact same.out (by unfold Chg.settle; rw [hag])
    | none =>
      have n : av = .non := e2.mpr hag
      clear e2
      subst n
      cases hye : c.yes with
      | none =>
        have n : yv = .non := e1.mpr hye
        subst n
        clear e1
        walk_at "go"
        exact same.out (by unfold Chg.settle; rw [hag, hye])
      | some y =>
        have n : ¬ yv = .non := fun z => by rw [e1, hye] at z; cases z
        clear e1
        have hy0 := hy
        rw [hye] at hy
        simp only [encY, Rp, RpL] at hy
        obtain ⟨t, vs, rfl, ht, v1, r1, rfl, g1, v2, r2, rfl, g2, rfl⟩ := hy
        walk_at "go"
        refine ⟨c.votes, c.hands, rfl, ?_⟩
        walk_at "go"
        by_cases hm : moreHalf c.votes c.hands = true
        · walk_at "go"
          have e : c.settle = { c with agreed := some y.2 } := by unfold Chg.settle; rw [hag, hye]; simp only [hm, if_true]
          rw [e] at q
          rw [hye] at h8
          have tp : Tups H (upd H p (.ins (He.ga K "Change") dx (F_Change.zip [.int (c.me : Int), .int (c.hands : Int), bv, .ref t, .int (c.votes : Int), .ref r, v2]))) := (Tups.refl _).put (not_tup_of hp fun xs z => by cases z)
          refine q.out _ ((Fr.refl _ _).put (.inl (by simp))) ⟨⟨dx, bv, _, v2, upd_same, hb.at tp, hy0.at tp, g2.at tp⟩, ⟨m, ?_, hm'.at tp⟩, h7, by rw [hye]; exact h8, fun z => h8 (Option.some.inj z)⟩
          rw [upd_ne (Ne.symm pr)]
          exact hr
        · walk_at "go"
          exact same.out (by unfold Chg.settle; rw [hag, hye]; simp only [hm]; rfl)
end
end K64

namespace K64
open PySem PySem.Spec PyProof.Rows L2 Gr
def enoughGo (hands doubts : Nat) (has : Nat → Bool) : List Nat → Nat → Bool
  | [], told => moreHalf told hands
  | h :: hs, told => if has h = true then enoughGo hands doubts has hs (told ||| 2 ^ h) else if doubts.testBit h = true then enoughGo hands doubts has hs told else false
def Chg.enough (c : Chg) (doubts : Nat) : Bool := enoughGo c.hands doubts (fun h => (getA c.reports (h : Int)).isSome) (handsOf c.hands) 0
def sp_Change_enough (C : Addr) : Sp := fun vs H Q _ => ∃ (p r : Addr) (c : Chg) (n : Nat), vs = [.ref p, .int (n : Int)] ∧ ChgAt C H p c r ∧ ∀ H', Same H H' → Q (.bl (c.enough n)) H'
theorem encD_ok (b : Bal) : (encD b).ok = true := encB_ok (some b)
theorem encB_some (b : Bal) : encB (some b) = encD b := rfl
theorem recv_some {c : Chg} {y : Yes} {n : Nat} : c.receiveYes (some y) n = if c.ballot = some y.1 ∧ under (c.yes.map (·.1)) (some y.1) = true then Chg.settle { c with yes := some y, votes := n ||| 2 ^ c.me }
    else if c.yes.map (·.1) = some y.1 then Chg.settle { c with votes := c.votes ||| n } else c.settle := rfl
theorem settle_reports (c : Chg) : c.settle.reports = c.reports := by
  unfold Chg.settle
  split
  · split <;> rfl
  · rfl
theorem recv_reports (c : Chg) (y : Option Yes) (n : Nat) : (c.receiveYes y n).reports = c.reports := by
  cases y with
  | none => rfl
  | some y =>
    rw [recv_some]
    split
    · exact settle_reports _
    · split <;> exact settle_reports _
theorem putA_map {κ α β : Type} [DecidableEq κ] (f : α → β) (m : List (κ × α)) (k : κ) (x : α) : (putA m k x).map (fun p => (p.1, f p.2)) = putA (m.map fun p => (p.1, f p.2)) k (f x) := by
  unfold putA
  rw [List.any_map]
  have e : ((fun p : κ × β => decide (p.1 = k)) ∘ fun p : κ × α => (p.1, f p.2)) = fun p => decide (p.1 = k) := rfl
  rw [e]
  by_cases h : (m.any fun p => decide (p.1 = k)) = true
  · rw [if_pos h, if_pos h, List.map_map, List.map_map]
    refine List.map_congr_left fun p _ => ?_
    show ((if p.1 = k then (p.1, x) else p).1, f (if p.1 = k then (p.1, x) else p).2) = if p.1 = k then (p.1, f x) else (p.1, f p.2)
    by_cases hp : p.1 = k
    · rw [if_pos hp, if_pos hp]
    · rw [if_neg hp, if_neg hp]
  · rw [if_neg h, if_neg h, List.map_append]
    rfl
theorem putA_mem {κ α : Type} [DecidableEq κ] {m : List (κ × α)} {k : κ} {x : α} {p : κ × α} (h : p ∈ putA m k x) : p ∈ m ∨ p = (k, x) := by
  unfold putA at h
  split at h
  · obtain ⟨q, hq, e⟩ := List.mem_map.mp h
    by_cases z : q.1 = k
    · rw [if_pos z] at e
      exact .inr (by rw [← e, z])
    · rw [if_neg z] at e
      exact .inl (by rw [← e]; exact hq)
  · rcases List.mem_append.mp h with z | z
    · exact .inl z
    · exact .inr (List.mem_singleton.mp z)
theorem encR_put (m : List (Int × (D × Option Yes))) (k : Int) (d : D) (y : Option Yes) : encR (putA m k (d, y)) = putA (encR m) k (.tup [d, encY y]) := putA_map (fun x : D × Option Yes => D.tup [x.1, encY x.2]) m k (d, y)
theorem getA_map {κ α β : Type} [DecidableEq κ] (f : α → β) (k : κ) : ∀ m : List (κ × α), getA (m.map fun p => (p.1, f p.2)) k = (getA m k).map f
  | [] => rfl
  | p :: m => by
    rw [List.map_cons]
    by_cases e : p.1 = k
    · rw [getA_pos e, getA_pos (p := (p.1, f p.2)) e]; rfl
    · rw [getA_neg e, getA_neg (p := (p.1, f p.2)) e, getA_map f k m]
theorem RpM.some_iff {κ : Type} [DecidableEq κ] {H : Hp} {kd : List (κ × D)} {m : List (κ × V)} (k : κ) (h : RpM H kd m) : (getA m k).isSome = (getA kd k).isSome := by
  rcases h.get k with ⟨e1, e2⟩ | ⟨d, v, e1, e2, _⟩
  · rw [e1, e2]; rfl
  · rw [e1, e2]; rfl
theorem encR_get (m : List (Int × (D × Option Yes))) (k : Int) : getA (encR m) k = (getA m k).map fun x => .tup [x.1, encY x.2] := getA_map (fun x : D × Option Yes => D.tup [x.1, encY x.2]) k m
local macro_rules | `(tactic| walk_at "s") => `(tactic| simp only [a_seq, a_next, a_ifS, a_asg, a_ret, a_retN, a_drop, a_break, a_cont, a_test, a_b, a_op, a_un, a_var, a_c, a_name, a_tupt, a_gcons, a_gnil, a_gsub, a_call, a_meth, a_make, a_cb, a_cons, a_nil, a_fldC, a_sfldC, a_not, a_and, a_or, a_andV, a_orV, a_notV, a_if, a_tup, a_lst, a_dget, a_dget2, a_din, a_dnotin, a_dput, a_dnewK, a_dnewT, a_aug, a_par, a_sl, a_part, a_nopart, a_bm, a_bm0, tPairs, a_disp, a_iLst, a_iTpl, a_iVals, a_iKeys, a_iRng1, a_iRng2, a_I0, a_I, a_U, a_eq, a_ne, a_ixt, a_ixl, a_lenl, a_lent, a_sll, a_sumL, a_sortL, a_sortD, a_listRg, a_rg1, a_append, a_yes, a_setdN, a_ddnotin, a_ddput, a_lenq, a_ixq, a_slq, a_methG, a_callC, a_ndefM, tFor_eq, tLc_eq,
  scal_ii, scal_nn, scal_in, scal_ni, scal_bb, scal_ss, scal_sn, scal_ns, L2.start, cx_K, cx_P, cx_w, bit_c, wipe, Int.natCast_inj, bitAnd_c, bitOr_c, shl1_c, Int.zero_add, Int.add_zero, Int.reduceLT, Int.reduceLE, Int.reducePow, Int.reduceNeg, Int.reduceToNat, Int.toNat_natCast, Int.natCast_nonneg,
  at_lit0, at_lit1, at_lit2, at_lit3, at_lit4, at_lit5, at_lit6, at_lit7, upd_same, upd_ne, Gr.upd_none, ne_eq, Option.isSome_some, sizeLine_eq, Nat.reduceLeDiff, upd_upd, Nat.reduceLT,
  List.map_cons, List.map_nil, List.length_cons, List.length_nil, List.replicate, List.cons_append, List.nil_append, List.append_nil, List.getElem?_cons_succ, List.getElem?_cons_zero, List.set_cons_succ, List.set_cons_zero,
  Option.some.injEq, V.ref.injEq, V.int.injEq, V.bl.injEq, V.str.injEq, List.cons.injEq, exists_eq_left, exists_eq_left', exists_eq_right, exists_eq, exists_eq', exists_and_left, exists_and_right, exists_const, true_and, and_true, and_self, ite_true, ite_false, if_true, if_false, reduceCtorEq, decide_true, decide_false, decide_eq_true_eq, Bool.not_true, Bool.not_false, Bool.not_eq_true', decide_eq_false_iff_not, Bool.false_eq_true, not_true_eq_false, not_false_eq_true, eq_self, HO.ins.injEq, HO.tup.injEq, HO.lst.injEq, and_assoc, Nat.reduceSub, Nat.reduceAdd, Nat.sub_self, reduceIte, ln_F_Change, in_Change_0, ll_Change_0, lk_Change_me, pt_Change_me, in_Change_1, ll_Change_1, lk_Change_hands, pt_Change_hands, in_Change_2, ll_Change_2, lk_Change_ballot, pt_Change_ballot, in_Change_3, ll_Change_3, lk_Change_yes, pt_Change_yes, in_Change_4, ll_Change_4, lk_Change_votes, pt_Change_votes, in_Change_5, ll_Change_5, lk_Change_reports, pt_Change_reports, in_Change_6, lk_Change_agreed, pt_Change_agreed, nm_Change_begin, nm_Change_message, nm_Change_receive, nm_Change_receive_yes, nm_Change_unplanned, nm_Change_settle, nm_Change_enough, nm_Change_propose, nm_Change_settled, N_has, N_hands_of, N_many, N_more_than_half, N_under, N_ballot_of, N_Change_init, N_Change_begin, N_Change_message, N_Change_receive, N_Change_receive_yes, N_Change_unplanned, N_Change_settle, N_Change_enough, N_Change_propose, N_Change_settled, N_l_cell_at, N_l_stream, N_l_hands, N_l_propose, N_l_noted, N_l_kept, N_l_agreed, N_l_deed, N_l_right, N_law, N_l_propose_law_make, *])
local macro_rules | `(tactic| walk_at "e") => `(tactic| first | assumption | rfl | (refine Gr.Fz.out ?_; first | assumption | (simp only [*]; done)) | (simp only [*]; done) | (simp [*]; done))
local macro_rules | `(tactic| walk_at "fr") => `(tactic| (repeat first | exact Gr.Fr.refl _ _ | assumption | (refine Gr.Fr.put' ?_ ?_; focus (first | (right; assumption) | (right; refine Gr.Fz.out ?_; simp only [*]; done) | (left; simp; done)))))
local macro_rules | `(tactic| walk_at "tp") => `(tactic| (repeat first | exact Gr.Tups.refl _ | assumption | (refine Gr.Tups.put' ?_ ?_; focus (first | (refine Gr.not_tup_none ?_; first | assumption | (refine Gr.Fz.out ?_; simp only [*]; done)) | (refine Gr.not_tup_of (by assumption) (fun xs z => ?_); cases z; done)))))
local macro_rules | `(tactic| walk_at "sm") => `(tactic| (repeat first | exact L2.Same.refl _ | assumption | (refine Gr.Same.put' ?_ ?_; focus (first | assumption | (refine Gr.Fz.out ?_; simp only [*]; done)))))
local macro_rules | `(tactic| walk_at "go") => `(tactic| ((try walk_at "s"); first | (intro _ hh; (try simp only [L2.upd_upd, Gr.upd_none, ne_eq, and_assoc] at hh); (try simp only [Gr.none_fz] at hh); walk_at "go") | (refine Gr.Cn.go ?_; walk_at "go") | skip))

section
variable {P : Program} {w : World} {K : PySem.W.Frag} {mg : Str → Option Value} {base : Heap}
theorem ok_Change_settled (T : Env K mg) : FnOk P w K mg base CX0 1 (He.ma K (He.ga K "Change") "settled") T.fd_Change_settled ["self"] (sp_Change_settled (He.ga K "Change")) := by
  have sc := sc_Change_settled
  refine T.F_Change_settled.ok sc (fun vs H Q E h => ?_) (fun cdv A outer s H vs Q E hr h => ?_)
  · (first | (obtain ⟨rfl, _⟩ := h; rfl) | (obtain ⟨_, rfl, _⟩ := h; rfl) | (obtain ⟨_, _, rfl, _⟩ := h; rfl) | (obtain ⟨_, _, _, rfl, _⟩ := h; rfl) | (obtain ⟨_, _, _, _, rfl, _⟩ := h; rfl) | (obtain ⟨_, _, _, _, _, rfl, _⟩ := h; rfl) | (obtain ⟨_, _, _, _, _, _, rfl, _⟩ := h; rfl) | (obtain ⟨_, _, _, _, _, _, _, rfl, _⟩ := h; rfl) | (obtain ⟨_, _, _, _, _, _, _, _, rfl, _⟩ := h; rfl) | (obtain ⟨_, _, _, _, _, _, _, _, _, rfl, _⟩ := h; rfl) | (obtain ⟨_, _, _, _, _, _, _, _, _, _, rfl, _⟩ := h; rfl) | (obtain ⟨_, _, _, _, _, _, _, _, _, _, _, rfl, _⟩ := h; rfl) | (obtain ⟨_, _, _, _, _, _, _, _, _, _, _, _, rfl, _⟩ := h; rfl) | (obtain ⟨_, _, _, _, _, _, _, _, _, _, _, _, _, rfl, _⟩ := h; rfl) | (obtain ⟨_, _, _, _, _, _, _, _, _, _, _, _, _, _, rfl, _⟩ := h; rfl) | (obtain ⟨_, _, _, _, _, _, _, _, _, _, _, _, _, _, _, rfl, _⟩ := h; rfl) | (obtain ⟨_, _, _, _, _, _, _, _, _, _, _, _, _, _, _, _, rfl, _⟩ := h; rfl) | (obtain ⟨_, _, _, _, _, _, _, _, _, _, _, _, _, _, _, _, _, rfl, _⟩ := h; rfl) | (obtain ⟨_, _, _, _, _, _, _, _, _, _, _, _, _, _, _, _, _, _, rfl, _⟩ := h; rfl) | (obtain ⟨_, _, _, _, _, _, _, _, _, _, _, _, _, _, _, _, _, _, _, rfl, _⟩ := h; rfl) | (obtain ⟨_, _, _, _, _, _, _, _, _, _, _, _, _, _, _, _, _, _, _, _, rfl, _⟩ := h; rfl) | (obtain ⟨_, _, _, _, _, _, _, _, _, _, _, _, _, _, _, _, _, _, _, _, _, rfl, _⟩ := h; rfl) | (obtain ⟨_, _, _, _, _, _, _, _, _, _, _, _, _, _, _, _, _, _, _, _, _, _, rfl, _⟩ := h; rfl) | (obtain ⟨_, _, _, _, _, _, _, _, _, _, _, _, _, _, _, _, _, _, _, _, _, _, _, rfl, _⟩ := h; rfl) | (obtain ⟨_, _, _, _, _, _, _, _, _, _, _, _, _, _, _, _, _, _, _, _, _, _, _, _, rfl, _⟩ := h; rfl) | (obtain ⟨_, _, _, _, _, _, _, _, _, _, _, _, _, _, _, _, _, _, _, _, _, _, _, _, _, rfl, _⟩ := h; rfl))
  · have hu := hu_of hr
    refine ⟨_, PSs.nox (pss_one (ps_ret (pe_fldC (K := K) rfl T.c_Change T.n_Change_agreed (pv 0) rfl))), ?_⟩
    clear sc hu hr
    obtain ⟨p, r, c, rfl, hC, q⟩ := h
    obtain ⟨⟨dx, bv, yv, av, hp, hb, hy, ha⟩, ⟨m, hr, hm⟩, h7, h8, h9⟩ := id hC
    replace q := Hd.mk q
    walk_at "go"
    exact q.out _ ha
theorem ok_Change_receive_yes (T : Env K mg) : FnOk P w K mg base CX0 4 (He.ma K (He.ga K "Change") "receive_yes") T.fd_Change_receive_yes ["self", "yes", "votes"] (sp_Change_receive_yes (He.ga K "Change")) := by
  have sc := sc_Change_receive_yes
  refine T.F_Change_receive_yes.ok sc (fun vs H Q E h => ?_) (fun cdv A outer s H vs Q E hr h => ?_)
  · (first | (obtain ⟨rfl, _⟩ := h; rfl) | (obtain ⟨_, rfl, _⟩ := h; rfl) | (obtain ⟨_, _, rfl, _⟩ := h; rfl) | (obtain ⟨_, _, _, rfl, _⟩ := h; rfl) | (obtain ⟨_, _, _, _, rfl, _⟩ := h; rfl) | (obtain ⟨_, _, _, _, _, rfl, _⟩ := h; rfl) | (obtain ⟨_, _, _, _, _, _, rfl, _⟩ := h; rfl) | (obtain ⟨_, _, _, _, _, _, _, rfl, _⟩ := h; rfl) | (obtain ⟨_, _, _, _, _, _, _, _, rfl, _⟩ := h; rfl) | (obtain ⟨_, _, _, _, _, _, _, _, _, rfl, _⟩ := h; rfl) | (obtain ⟨_, _, _, _, _, _, _, _, _, _, rfl, _⟩ := h; rfl) | (obtain ⟨_, _, _, _, _, _, _, _, _, _, _, rfl, _⟩ := h; rfl) | (obtain ⟨_, _, _, _, _, _, _, _, _, _, _, _, rfl, _⟩ := h; rfl) | (obtain ⟨_, _, _, _, _, _, _, _, _, _, _, _, _, rfl, _⟩ := h; rfl) | (obtain ⟨_, _, _, _, _, _, _, _, _, _, _, _, _, _, rfl, _⟩ := h; rfl) | (obtain ⟨_, _, _, _, _, _, _, _, _, _, _, _, _, _, _, rfl, _⟩ := h; rfl) | (obtain ⟨_, _, _, _, _, _, _, _, _, _, _, _, _, _, _, _, rfl, _⟩ := h; rfl) | (obtain ⟨_, _, _, _, _, _, _, _, _, _, _, _, _, _, _, _, _, rfl, _⟩ := h; rfl) | (obtain ⟨_, _, _, _, _, _, _, _, _, _, _, _, _, _, _, _, _, _, rfl, _⟩ := h; rfl) | (obtain ⟨_, _, _, _, _, _, _, _, _, _, _, _, _, _, _, _, _, _, _, rfl, _⟩ := h; rfl) | (obtain ⟨_, _, _, _, _, _, _, _, _, _, _, _, _, _, _, _, _, _, _, _, rfl, _⟩ := h; rfl) | (obtain ⟨_, _, _, _, _, _, _, _, _, _, _, _, _, _, _, _, _, _, _, _, _, rfl, _⟩ := h; rfl) | (obtain ⟨_, _, _, _, _, _, _, _, _, _, _, _, _, _, _, _, _, _, _, _, _, _, rfl, _⟩ := h; rfl) | (obtain ⟨_, _, _, _, _, _, _, _, _, _, _, _, _, _, _, _, _, _, _, _, _, _, _, rfl, _⟩ := h; rfl) | (obtain ⟨_, _, _, _, _, _, _, _, _, _, _, _, _, _, _, _, _, _, _, _, _, _, _, _, rfl, _⟩ := h; rfl) | (obtain ⟨_, _, _, _, _, _, _, _, _, _, _, _, _, _, _, _, _, _, _, _, _, _, _, _, _, rfl, _⟩ := h; rfl))
  · have hu := hu_of hr
    refine ⟨_, PSs.nox (pss_cons (ps_if (pt_cmpR op_isN (pv 1) pe_non (nomark _))
    (pss_one ps_retN)
    pss_nil)
    (pss_cons (ps_if (PW.pt (pw_and (pt_cmpR (op_eqd hr.units) (pe_ix ix_t (pv 1) pe_int (fun _ _ => rfl)) (pe_fldC (K := K) rfl T.c_Change T.n_Change_ballot (pv 0) rfl) (nomark _)) (pw_and1 (pt_val (pe_call (ok_under T) (hr.mono (by decide)) (by rfl) T.g_under T.F_under.kp (b_under T) .nil pass0 (pa_cons (pe_call (ok_ballot_of T) (hr.mono (by decide)) (by rfl) T.g_ballot_of T.F_ballot_of.kp (b_ballot_of T) .nil pass0 (pa_cons (pe_fldC (K := K) rfl T.c_Change T.n_Change_yes (pv 0) rfl) pa_nil)) (pa_cons (pe_ix ix_t (pv 1) pe_int (fun _ _ => rfl)) pa_nil)))))))
    (pss_cons (ps_fldC (K := K) rfl T.c_Change T.n_Change_yes (pv 0) (pv 1) rfl)
    (pss_one (ps_fldC (K := K) rfl T.c_Change T.n_Change_votes (pv 0) (pe_op op_or (pv 2) (pe_op op_shl pe_int (pe_fldC (K := K) rfl T.c_Change T.n_Change_me (pv 0) rfl))) rfl)))
    (pss_one (ps_if (pt_cmpR (op_eqd hr.units) (pe_ix ix_t (pv 1) pe_int (fun _ _ => rfl)) (pe_call (ok_ballot_of T) (hr.mono (by decide)) (by rfl) T.g_ballot_of T.F_ballot_of.kp (b_ballot_of T) .nil pass0 (pa_cons (pe_fldC (K := K) rfl T.c_Change T.n_Change_yes (pv 0) rfl) pa_nil)) (nomark _))
    (pss_one (ps_fldC (K := K) rfl T.c_Change T.n_Change_votes (pv 0) (pe_op op_or (pe_fldC (K := K) rfl T.c_Change T.n_Change_votes (pv 0) rfl) (pv 2)) rfl))
    pss_nil)))
    (pss_one (ps_expr (pe_meth0 (pv 0) T.c_Change T.m_Change_settle (ok_Change_settle T) (hr.mono (by decide)) (b_Change_settle T) .nil pass0))))), ?_⟩
    clear sc hu hr
    obtain ⟨p, r, c, yes, y, n, rfl, hC, hys, ok, q⟩ := h
    have pr := hC.ne
    obtain ⟨⟨dx, bv, yv, av, hp, hb, hy, ha⟩, ⟨m, hr, hm⟩, h7, h8, h9⟩ := id hC
    cases y with
    | none =>
      simp only [encY, Rp] at hys
      subst hys
      have q := q H (Fr.refl _ _) hC
      walk_at "go"
    | some y =>
      have hys0 := hys
      simp only [encY, Rp, RpL] at hys
      obtain ⟨t, vs, rfl, ht, v1, r1, rfl, g1, v2, r2, rfl, g2, rfl⟩ := hys
      have key : Hd (∀ (yv' : V) (y' : Option Yes) (n' : Nat) (H' : Hp), { c with yes := y', votes := n' }.settle = c.receiveYes (some y) n → Fr [p] H H' → Tups H H' → Rp H (encY y') yv' → okY y' →
          H' p = some (.ins (He.ga K "Change") dx (F_Change.zip [.int (c.me : Int), .int (c.hands : Int), bv, yv', .int (n' : Int), .ref r, av])) → sp_Change_settle (He.ga K "Change") [.ref p] H' (fun _ H2 => Q .non H2) E0) := by
        refine ⟨fun yv' y' n' H' e fr tp hy' ok' hp' => ⟨p, r, { c with yes := y', votes := n' }, rfl, ⟨⟨dx, bv, yv', av, hp', hb.at tp, hy'.at tp, ha.at tp⟩, ⟨m, fr r _ hr (by simp [Ne.symm pr]), hm.at tp⟩, h7, ok', h9⟩, fun H2 fr2 hC2 => ?_⟩⟩
        rw [e] at hC2
        exact q H2 (fr.trans fr2) hC2
      clear q hC
      walk_at "go"
      refine ⟨encD y.1, encB c.ballot, g1, hb, encD_ok _, encB_ok _, ?_⟩
      have e0 : ∀ (b : Option Bal) (d : Bal), decide (encD d = encB b) = decide (b = some d) := fun b d => decide_eq_decide.mpr (by rw [← encB_some, encB_inj]; exact eq_comm)
      rw [e0]
      replace e0 := Hd.mk e0
      by_cases e1 : c.ballot = some y.1
      · walk_at "go"
        refine ⟨c.yes, yv, rfl, hy, ?_⟩
        walk_at "go"
        rename_i v1' hv1'
        refine ⟨c.yes.map (·.1), some y.1, v1', v1, rfl, hv1', g1, ?_⟩
        by_cases e2 : under (c.yes.map (·.1)) (some y.1) = true
        · walk_at "go"
          refine ⟨by show CPow _ _; unfold CPow; omega, ?_⟩
          walk_at "go"
          refine key.out (.ref t) (some y) (n ||| 2 ^ c.me) _ ?_ ?_ ?_ hys0 ok upd_same
          · rw [recv_some, if_pos ⟨e1, e2⟩]
          · walk_at "fr"
          · walk_at "tp"
        · have e3 : ¬ (c.ballot = some y.1 ∧ under (c.yes.map (·.1)) (some y.1) = true) := fun z => e2 z.2
          walk_at "go"
          refine ⟨c.yes, yv, rfl, hy, ?_⟩
          walk_at "go"
          rename_i v3 hv3
          refine ⟨encD y.1, encB (c.yes.map (·.1)), g1, hv3, encD_ok _, encB_ok _, ?_⟩
          rw [e0.out (c.yes.map (·.1)) y.1]
          by_cases e4 : c.yes.map (·.1) = some y.1
          · walk_at "go"
            refine key.out yv c.yes (c.votes ||| n) _ ?_ ?_ ?_ hy h8 upd_same
            · rw [recv_some]
              rw [if_neg e3, if_pos e4]
            · walk_at "fr"
            · walk_at "tp"
          · walk_at "go"
            refine key.out yv c.yes c.votes _ ?_ (Fr.refl _ _) (Tups.refl _) hy h8 hp
            rw [recv_some, if_neg e3, if_neg e4]
      · have e3 : ¬ (c.ballot = some y.1 ∧ under (c.yes.map (·.1)) (some y.1) = true) := fun z => e1 z.1
        walk_at "go"
        refine ⟨c.yes, yv, rfl, hy, ?_⟩
        walk_at "go"
        rename_i v3 hv3
        refine ⟨encD y.1, encB (c.yes.map (·.1)), g1, hv3, encD_ok _, encB_ok _, ?_⟩
        rw [e0.out (c.yes.map (·.1)) y.1]
        by_cases e4 : c.yes.map (·.1) = some y.1
        · walk_at "go"
          refine key.out yv c.yes (c.votes ||| n) _ ?_ ?_ ?_ hy h8 upd_same
          · rw [recv_some, if_neg e3, if_pos e4]
          · walk_at "fr"
          · walk_at "tp"
        · walk_at "go"
          refine key.out yv c.yes c.votes _ ?_ (Fr.refl _ _) (Tups.refl _) hy h8 hp
          rw [recv_some, if_neg e3, if_neg e4]
theorem ok_Change_receive (T : Env K mg) : FnOk P w K mg base CX0 5 (He.ma K (He.ga K "Change") "receive") T.fd_Change_receive ["self", "message"] (sp_Change_receive (He.ga K "Change")) := by
  have sc := sc_Change_receive
  refine T.F_Change_receive.ok sc (fun vs H Q E h => ?_) (fun cdv A outer s H vs Q E hr h => ?_)
  · (first | (obtain ⟨rfl, _⟩ := h; rfl) | (obtain ⟨_, rfl, _⟩ := h; rfl) | (obtain ⟨_, _, rfl, _⟩ := h; rfl) | (obtain ⟨_, _, _, rfl, _⟩ := h; rfl) | (obtain ⟨_, _, _, _, rfl, _⟩ := h; rfl) | (obtain ⟨_, _, _, _, _, rfl, _⟩ := h; rfl) | (obtain ⟨_, _, _, _, _, _, rfl, _⟩ := h; rfl) | (obtain ⟨_, _, _, _, _, _, _, rfl, _⟩ := h; rfl) | (obtain ⟨_, _, _, _, _, _, _, _, rfl, _⟩ := h; rfl) | (obtain ⟨_, _, _, _, _, _, _, _, _, rfl, _⟩ := h; rfl) | (obtain ⟨_, _, _, _, _, _, _, _, _, _, rfl, _⟩ := h; rfl) | (obtain ⟨_, _, _, _, _, _, _, _, _, _, _, rfl, _⟩ := h; rfl) | (obtain ⟨_, _, _, _, _, _, _, _, _, _, _, _, rfl, _⟩ := h; rfl) | (obtain ⟨_, _, _, _, _, _, _, _, _, _, _, _, _, rfl, _⟩ := h; rfl) | (obtain ⟨_, _, _, _, _, _, _, _, _, _, _, _, _, _, rfl, _⟩ := h; rfl) | (obtain ⟨_, _, _, _, _, _, _, _, _, _, _, _, _, _, _, rfl, _⟩ := h; rfl) | (obtain ⟨_, _, _, _, _, _, _, _, _, _, _, _, _, _, _, _, rfl, _⟩ := h; rfl) | (obtain ⟨_, _, _, _, _, _, _, _, _, _, _, _, _, _, _, _, _, rfl, _⟩ := h; rfl) | (obtain ⟨_, _, _, _, _, _, _, _, _, _, _, _, _, _, _, _, _, _, rfl, _⟩ := h; rfl) | (obtain ⟨_, _, _, _, _, _, _, _, _, _, _, _, _, _, _, _, _, _, _, rfl, _⟩ := h; rfl) | (obtain ⟨_, _, _, _, _, _, _, _, _, _, _, _, _, _, _, _, _, _, _, _, rfl, _⟩ := h; rfl) | (obtain ⟨_, _, _, _, _, _, _, _, _, _, _, _, _, _, _, _, _, _, _, _, _, rfl, _⟩ := h; rfl) | (obtain ⟨_, _, _, _, _, _, _, _, _, _, _, _, _, _, _, _, _, _, _, _, _, _, rfl, _⟩ := h; rfl) | (obtain ⟨_, _, _, _, _, _, _, _, _, _, _, _, _, _, _, _, _, _, _, _, _, _, _, rfl, _⟩ := h; rfl) | (obtain ⟨_, _, _, _, _, _, _, _, _, _, _, _, _, _, _, _, _, _, _, _, _, _, _, _, rfl, _⟩ := h; rfl) | (obtain ⟨_, _, _, _, _, _, _, _, _, _, _, _, _, _, _, _, _, _, _, _, _, _, _, _, _, rfl, _⟩ := h; rfl))
  · have hu := hu_of hr
    refine ⟨_, PSs.nox (pss_cons (ps_asg (pv 1) (pg_tupt (n := 5) rfl (pgs_cons (pg_name (i := 2) sc.nd rfl (.inl rfl)) (pgs_cons (pg_name (i := 3) sc.nd rfl (.inl rfl)) (pgs_cons (pg_name (i := 4) sc.nd rfl (.inl rfl)) (pgs_cons (pg_name (i := 5) sc.nd rfl (.inl rfl)) (pgs_cons (pg_name (i := 6) sc.nd rfl (.inl rfl)) pgs_nil)))))))
    (pss_cons (ps_up (ps_if (pt_val (pe_call (ok_under T) (hr.mono (by decide)) (by rfl) T.g_under T.F_under.kp (b_under T) .nil pass0 (pa_cons (pe_fldC (K := K) rfl T.c_Change T.n_Change_ballot (pv 0) rfl) (pa_cons (pv 3) pa_nil))))
    (pss_cons (ps_fldC (K := K) rfl T.c_Change T.n_Change_ballot (pv 0) (pv 3) rfl)
    (pss_one (ps_fldC (K := K) rfl T.c_Change T.n_Change_reports (pv 0) pe_dnewK rfl)))
    pss_nil))
    (pss_cons (ps_expr (pe_meth (pv 0) T.c_Change T.m_Change_receive_yes (ok_Change_receive_yes T) (hr.mono (by decide)) (b_Change_receive_yes T) .nil pass0 (pa_cons (pv 4) (pa_cons (pv 5) pa_nil))))
    (pss_one (ps_if (PW.pt (pw_and (pt_cmpR op_notN (pv 3) pe_non (nomark _)) (pw_and (pt_cmpR (op_eqd hr.units) (pv 3) (pe_fldC (K := K) rfl T.c_Change T.n_Change_ballot (pv 0) rfl) (nomark _)) (pw_and1 (pt_val (pe_meth0 (pv 0) T.c_Change T.m_Change_unplanned (ok_Change_unplanned T) (hr.mono (by decide)) (b_Change_unplanned T) .nil pass0))))))
    (pss_one (ps_dput hu (pe_fldC (K := K) rfl T.c_Change T.n_Change_reports (pv 0) rfl) (pv 2) (pe_tup (pa_cons (pv 6) (pa_cons (pv 4) pa_nil))) rfl))
    pss_nil))))), ?_⟩
    clear sc hu hr
    obtain ⟨p, r, c, v, m, rfl, hC, hm, ok, hl, q⟩ := h
    have pr := hC.ne
    obtain ⟨⟨dx, bv, yv, av, hp, hb, hy, ha⟩, ⟨mm, hr, hmm⟩, h7, h8, h9⟩ := id hC
    simp only [encM, Rp, RpL] at hm
    obtain ⟨t, vs, rfl, ht, v1, r1, rfl, rfl, v2, r2, rfl, g2, v3, r3, rfl, g3, v4, r4, rfl, rfl, v5, r5, rfl, g5, rfl⟩ := hm
    walk_at "go"
    refine sUp.mk (fun σ' H1 => σ' = [some (.ref p), some (.ref t), some (.int (m.hand : Int)), some v2, some v3, some (.int (m.votes : Int)), some v5] ∧ ∃ r1, (r1 = r ∨ H r1 = none) ∧ Fr [p] H H1 ∧ Tups H H1 ∧ ChgAt (He.ga K "Change") H1 p (c.adopt m.ballot) r1) ?_ ?_
    · walk_at "go"
      refine ⟨c.ballot, m.ballot, bv, v2, rfl, hb, g2, ?_⟩
      cases hu1 : under c.ballot m.ballot with
      | true =>
        walk_at "go"
        have e : c.adopt m.ballot = { c with ballot := m.ballot, reports := [] } := by unfold Chg.adopt; rw [if_pos hu1]
        rw [e]
        rename_i r1 hr1
        refine ⟨r1, .inr (by walk_at "e"), by walk_at "fr", ?_, ?_⟩
        · walk_at "tp"
        have tp : Tups H (upd (upd (upd H p (.ins (He.ga K "Change") dx (F_Change.zip [.int (c.me : Int), .int (c.hands : Int), v2, yv, .int (c.votes : Int), .ref r, av]))) r1 (.dK [])) p (.ins (He.ga K "Change") dx (F_Change.zip [.int (c.me : Int), .int (c.hands : Int), v2, yv, .int (c.votes : Int), .ref r1, av]))) := by
          walk_at "tp"
        exact ⟨⟨dx, v2, yv, av, upd_same, g2.at tp, hy.at tp, ha.at tp⟩, ⟨[], (by walk_at "s"; rfl), rfl⟩, ⟨h7.1, Nat.zero_lt_succ _, fun p hp => by cases hp⟩, h8, h9⟩
      | false =>
        walk_at "go"
        have e : c.adopt m.ballot = c := by unfold Chg.adopt; rw [hu1]; rfl
        rw [e]
        exact ⟨r, .inl rfl, Fr.refl _ _, Tups.refl _, hC⟩
    · rintro _ H1 ⟨rfl, r1, hr1, fr, tp, hC1⟩
      have el : (c.adopt m.ballot).reports.length < 999 := by
        unfold Chg.adopt
        split
        · exact Nat.zero_lt_succ _
        · exact hl
      have er : c.receive m = ((c.adopt m.ballot).receiveYes m.yes m.votes).keep m := rfl
      rw [er] at q
      generalize c.adopt m.ballot = c1 at hC1 el q
      replace q := Hd.mk q
      obtain ⟨⟨dx1, bv1, yv1, av1, hp1, hb1, hy1, ha1⟩, ⟨mm1, hr1', hmm1⟩, k7, k8, k9⟩ := id hC1
      walk_at "go"
      refine ⟨p, r1, c1, v3, m.yes, m.votes, rfl, hC1, g3.at tp, ok, fun H2 fr2 hC2 => ?_⟩
      have el2 : (c1.receiveYes m.yes m.votes).reports.length < 999 := by rw [recv_reports]; exact el
      generalize c1.receiveYes m.yes m.votes = c2 at hC2 el2 q
      have frp : Fr [p] H H2 := fr.trans fr2
      have fr3 : Fr [p, r] H H2 := (fr.trans fr2).mono (by simp)
      have same : c2.keep m = c2 → Q .non H2 := fun e => q.out r1 H2 hr1 fr3 (by rw [e]; exact hC2)
      replace same := Hd.mk same
      have pr2 := hC2.ne
      have tp2 : Tups H H2 := tp.trans fun b xs h => fr2 b _ h (by simp only [List.mem_singleton]; intro z; rw [z, hp1] at h; cases h)
      obtain ⟨⟨dx2, bv2, yv2, av2, hp2, hb2, hy2, ha2⟩, ⟨mm2, hr2, hmm2⟩, j7, j8, j9⟩ := id hC2
      clear hp hp1 hC1 fr2 hr1' hmm1 hb1 hy1 ha1
      have e1 := encB_non g2
      by_cases eb : m.ballot = none
      · have e2 := e1.mpr eb
        clear e1
        subst e2
        walk_at "go"
        exact same.out (by unfold Chg.keep; rw [if_neg]; rintro ⟨z, _⟩; exact z eb)
      · have e2 : ¬ v2 = .non := fun z => eb (e1.mp z)
        clear e1
        walk_at "go"
        refine ⟨encB m.ballot, encB c2.ballot, g2.at tp2, hb2, encB_ok _, encB_ok _, ?_⟩
        rw [show decide (encB m.ballot = encB c2.ballot) = decide (m.ballot = c2.ballot) from decide_eq_decide.mpr encB_inj]
        by_cases e3 : m.ballot = c2.ballot
        · walk_at "go"
          refine ⟨p, r1, c2, rfl, hC2, ?_⟩
          cases hun : c2.unplanned with
          | true =>
            have e4 : c2.keep m = { c2 with reports := putA c2.reports (m.hand : Int) (m.report, m.yes) } := by unfold Chg.keep; rw [if_pos ⟨eb, e3, hun⟩]
            rw [e4] at q
            walk_at "go"
            rename_i t2 ht2
            have n2 : H2 t2 = none := ht2.2.2.out
            have nt : r1 ≠ t2 := ne_of_none hr2 n2
            have npt : p ≠ t2 := ne_of_none hp2 n2
            refine ⟨_, dput_I (m := mm2) (k := (m.hand : Int)) (v := .ref t2) (by walk_at "s") (sz_of (by rw [hmm2.length, encR, List.length_map]; omega)), ?_⟩
            rw [putA_putK]
            have sm : Same H2 (upd H2 t2 (.tup [v5, v3])) := same_new n2
            have tq : Tups H2 (upd (upd H2 t2 (.tup [v5, v3])) r1 (dI (putA mm2 (m.hand : Int) (.ref t2)))) := (Tups.of_same sm).put (not_tup_of hr2 fun xs z => by unfold dI at z; cases z)
            have tt : (upd (upd H2 t2 (.tup [v5, v3])) r1 (dI (putA mm2 (m.hand : Int) (.ref t2)))) t2 = some (.tup [v5, v3]) := by rw [upd_ne nt.symm, upd_same]
            refine q.out r1 _ hr1 ?_ ⟨⟨dx2, bv2, yv2, av2, ?_, hb2.at tq, hy2.at tq, ha2.at tq⟩, ⟨_, upd_same, ?_⟩, ⟨j7.1, ?_, ?_⟩, j8, j9⟩
            · refine (fr3.put (.inr ?_)).put ?_
              · cases e : H t2 with
                | none => rfl
                | some o =>
                  have z := frp t2 o e (by simp [npt.symm])
                  rw [n2] at z
                  cases z
              · rcases hr1 with e | e
                · exact .inl (by rw [e]; simp)
                · exact .inr e
            · rw [upd_ne pr2, upd_ne npt]
              exact hp2
            · have g := (hmm2.at tq).put (k := (m.hand : Int)) (d := .tup [m.report, encY m.yes]) (v := .ref t2) ⟨t2, _, rfl, tt, v5, _, rfl, (g5.at tp2).at tq, v3, _, rfl, (g3.at tp2).at tq, rfl⟩
              rw [← encR_put] at g
              exact g
            · have := putA_len c2.reports (m.hand : Int) (m.report, m.yes)
              show (putA c2.reports (m.hand : Int) (m.report, m.yes)).length < 1000
              omega
            · intro x hx
              rcases putA_mem hx with e | e
              · exact j7.2.2 x e
              · rw [e]; exact ok
          | false =>
            walk_at "go"
            exact same.out (by unfold Chg.keep; rw [if_neg]; rintro ⟨_, _, z⟩; rw [hun] at z; cases z)
        · walk_at "go"
          exact same.out (by unfold Chg.keep; rw [if_neg]; rintro ⟨_, z, _⟩; exact e3 z)
theorem ok_Change_enough (T : Env K mg) : FnOk P w K mg base CX0 3 (He.ma K (He.ga K "Change") "enough") T.fd_Change_enough ["self", "doubts"] (sp_Change_enough (He.ga K "Change")) := by
  have sc := sc_Change_enough
  refine T.F_Change_enough.ok sc (fun vs H Q E h => ?_) (fun cdv A outer s H vs Q E hr h => ?_)
  · (first | (obtain ⟨rfl, _⟩ := h; rfl) | (obtain ⟨_, rfl, _⟩ := h; rfl) | (obtain ⟨_, _, rfl, _⟩ := h; rfl) | (obtain ⟨_, _, _, rfl, _⟩ := h; rfl) | (obtain ⟨_, _, _, _, rfl, _⟩ := h; rfl) | (obtain ⟨_, _, _, _, _, rfl, _⟩ := h; rfl) | (obtain ⟨_, _, _, _, _, _, rfl, _⟩ := h; rfl) | (obtain ⟨_, _, _, _, _, _, _, rfl, _⟩ := h; rfl) | (obtain ⟨_, _, _, _, _, _, _, _, rfl, _⟩ := h; rfl) | (obtain ⟨_, _, _, _, _, _, _, _, _, rfl, _⟩ := h; rfl) | (obtain ⟨_, _, _, _, _, _, _, _, _, _, rfl, _⟩ := h; rfl) | (obtain ⟨_, _, _, _, _, _, _, _, _, _, _, rfl, _⟩ := h; rfl) | (obtain ⟨_, _, _, _, _, _, _, _, _, _, _, _, rfl, _⟩ := h; rfl) | (obtain ⟨_, _, _, _, _, _, _, _, _, _, _, _, _, rfl, _⟩ := h; rfl) | (obtain ⟨_, _, _, _, _, _, _, _, _, _, _, _, _, _, rfl, _⟩ := h; rfl) | (obtain ⟨_, _, _, _, _, _, _, _, _, _, _, _, _, _, _, rfl, _⟩ := h; rfl) | (obtain ⟨_, _, _, _, _, _, _, _, _, _, _, _, _, _, _, _, rfl, _⟩ := h; rfl) | (obtain ⟨_, _, _, _, _, _, _, _, _, _, _, _, _, _, _, _, _, rfl, _⟩ := h; rfl) | (obtain ⟨_, _, _, _, _, _, _, _, _, _, _, _, _, _, _, _, _, _, rfl, _⟩ := h; rfl) | (obtain ⟨_, _, _, _, _, _, _, _, _, _, _, _, _, _, _, _, _, _, _, rfl, _⟩ := h; rfl) | (obtain ⟨_, _, _, _, _, _, _, _, _, _, _, _, _, _, _, _, _, _, _, _, rfl, _⟩ := h; rfl) | (obtain ⟨_, _, _, _, _, _, _, _, _, _, _, _, _, _, _, _, _, _, _, _, _, rfl, _⟩ := h; rfl) | (obtain ⟨_, _, _, _, _, _, _, _, _, _, _, _, _, _, _, _, _, _, _, _, _, _, rfl, _⟩ := h; rfl) | (obtain ⟨_, _, _, _, _, _, _, _, _, _, _, _, _, _, _, _, _, _, _, _, _, _, _, rfl, _⟩ := h; rfl) | (obtain ⟨_, _, _, _, _, _, _, _, _, _, _, _, _, _, _, _, _, _, _, _, _, _, _, _, rfl, _⟩ := h; rfl) | (obtain ⟨_, _, _, _, _, _, _, _, _, _, _, _, _, _, _, _, _, _, _, _, _, _, _, _, _, rfl, _⟩ := h; rfl))
  · have hu := hu_of hr
    refine ⟨_, PSs.nox (pss_cons (ps_set (i := 2) sc.nd rfl (.inl rfl) pe_int)
    (pss_cons (ps_for PassesOwn.never rfl (pi_l (K := K) rfl (pe_call (ok_hands_of T) (hr.mono (by decide)) (by rfl) T.g_hands_of T.F_hands_of.kp (b_hands_of T) .nil pass0 (pa_cons (pe_fldC (K := K) rfl T.c_Change T.n_Change_hands (pv 0) rfl) pa_nil))) (pg_name (i := 3) sc.nd rfl (.inl rfl))
    (pss_one (ps_if (pt_cmp (pc_din hu (pv 3) (pe_fldC (K := K) rfl T.c_Change T.n_Change_reports (pv 0) rfl)) (by rfl))
    (pss_one (ps_set (i := 2) sc.nd rfl (.inl rfl) (pe_op op_or (pv 2) (pe_op op_shl pe_int (pv 3)))))
    (pss_one (ps_if (pt_not (pt_val (pe_call (ok_has T) (hr.mono (by decide)) (by rfl) T.g_has T.F_has.kp (b_has T) .nil pass0 (pa_cons (pv 1) (pa_cons (pv 3) pa_nil)))))
    (pss_one (ps_ret pe_bl))
    pss_nil)))))
    (pss_one (ps_ret (pe_call (ok_more_than_half T) (hr.mono (by decide)) (by rfl) T.g_more_than_half T.F_more_than_half.kp (b_more_than_half T) .nil pass0 (pa_cons (pv 2) (pa_cons (pe_fldC (K := K) rfl T.c_Change T.n_Change_hands (pv 0) rfl) pa_nil))))))), ?_⟩
    clear sc hu hr
    obtain ⟨p, r, c, n, rfl, hC, q⟩ := h
    have pr := hC.ne
    obtain ⟨⟨dx, bv, yv, av, hp, hb, hy, ha⟩, ⟨m, hr, hm⟩, h7, h8, h9⟩ := id hC
    replace q := Hd.mk q
    walk_at "go"
    refine ⟨c.hands, rfl, fun l H1 nl sm hl => ?_⟩
    have hp1 := sm _ _ hp
    have hr1 := sm _ _ hr
    walk_at "go"
    have hn : 2 ^ 62 < sizeLine * 2 ^ 62 := by rw [sizeLine_eq]; decide
    refine forI (wk_listS (K := K) (SqL.of hl)) (fun i σ H' => Same H1 H' ∧ ∃ (told : Nat) (x : Option V), σ = [some (.ref p), some (.int (n : Int)), some (.int (told : Int)), x] ∧ enoughGo c.hands n (fun h => (getA c.reports (h : Int)).isSome) ((handsOf c.hands).drop i) told = c.enough n) ?_ ?_ ?_ ?_
    · exact ⟨Same.refl _, 0, none, rfl, rfl⟩
    · rintro i σ H' ⟨e, _⟩
      exact e
    · rintro i x σ H2 H3 hi ⟨sm2, told, x0, rfl, hg⟩ sm3 hx
      obtain ⟨h, eh, rfl⟩ : ∃ h : Nat, (handsOf c.hands)[i]? = some h ∧ .int (h : Int) = x := by simpa [vNat] using hx
      have hlt : i < (handsOf c.hands).length := by have := List.getElem?_eq_some_iff.mp eh; exact this.1
      have ee : (handsOf c.hands)[i] = h := by have := List.getElem?_eq_some_iff.mp eh; exact this.2
      rw [List.drop_eq_getElem_cons hlt, ee] at hg
      have h63 : h < 63 := by
        have : h ∈ handsOf c.hands := List.mem_of_getElem? eh
        simpa [handsOf] using (List.mem_filter.mp this).1
      have sm13 := sm2.trans sm3
      have hp3 := sm13 _ _ hp1
      have hr3 := sm13 _ _ hr1
      have get := dget_I (k := (h : Int)) hr3
      have gi : (valV m (h : Int)).isSome = (getA c.reports (h : Int)).isSome := by
        rw [getA_valV, RpM.some_iff _ hm, encR_get, Option.isSome_map]
      walk_at "go"
      refine ⟨_, get, ?_⟩
      rw [gi]
      cases hh : (getA c.reports (h : Int)).isSome with
      | true =>
        rw [show enoughGo c.hands n (fun h => (getA c.reports (h : Int)).isSome) (h :: (handsOf c.hands).drop (i + 1)) told = enoughGo c.hands n (fun h => (getA c.reports (h : Int)).isSome) ((handsOf c.hands).drop (i + 1)) (told ||| 2 ^ h) from if_pos hh] at hg
        walk_at "go"
        unfold CPow
        omega
      | false =>
        have hg0 := hg
        rw [show enoughGo c.hands n (fun h => (getA c.reports (h : Int)).isSome) (h :: (handsOf c.hands).drop (i + 1)) told = if n.testBit h = true then enoughGo c.hands n (fun h => (getA c.reports (h : Int)).isSome) ((handsOf c.hands).drop (i + 1)) told else false from if_neg (fun z => Bool.false_ne_true (hh.symm.trans z))] at hg
        walk_at "go"
        refine ⟨n, h, rfl, ?_⟩
        cases ht : n.testBit h with
        | true =>
          rw [if_pos ht] at hg
          walk_at "go"
        | false =>
          rw [if_neg (by rw [ht]; exact Bool.false_ne_true)] at hg
          walk_at "go"
          exact q.out H3 (sm.trans sm13)
    · rintro σ H2 ⟨sm2, told, x0, rfl, hg⟩
      rw [show (vNat (handsOf c.hands)).length = (handsOf c.hands).length from List.length_map .., List.drop_length] at hg
      have hp2 := sm2 _ _ hp1
      walk_at "go"
      refine ⟨told, c.hands, rfl, ?_⟩
      rw [show moreHalf told c.hands = c.enough n from hg]
      exact q.out H2 (sm.trans sm2)
end
end K64

namespace K64
open PySem PySem.Spec PyProof.Rows L2 Gr NdefX
def isort (l : List Int) : List Int := l.mergeSort (fun a b => decide (a ≤ b))
theorem isort_eq {ks l : List Int} (h : ks.Perm l) (s : ks.Pairwise (· ≤ ·)) : ks = isort l := by
  have s2 : (isort l).Pairwise (· ≤ ·) := by
    have := List.pairwise_mergeSort (le := fun a b : Int => decide (a ≤ b)) (fun a b c h1 h2 => by simp at *; omega) (fun a b => by simp; omega) l
    exact this.imp fun h => by simpa using h
  refine List.Perm.eq_of_pairwise (le := (· ≤ ·)) (fun a b _ _ h1 h2 => by omega) s s2 (h.trans (List.mergeSort_perm _ _).symm)
def bestGo (b : Option Yes) : List (Option Yes) → Option Yes
  | [] => b
  | y :: ys => bestGo (if under (b.map (·.1)) (y.map (·.1)) = true then y else b) ys
theorem bestGo_cons {b y : Option Yes} {ys : List (Option Yes)} : bestGo b (y :: ys) = bestGo (if under (b.map (·.1)) (y.map (·.1)) = true then y else b) ys := rfl
namespace Chg
def keys (c : Chg) : List Int := isort (c.reports.map (·.1))
def rep (c : Chg) (k : Int) : D × Option Yes := (getA c.reports k).getD (.non, none)
def best (c : Chg) : Option Yes := bestGo none (c.keys.map fun k => (c.rep k).2)
def repData (c : Chg) : List D := c.keys.map fun k => (c.rep k).1
def can (c : Chg) (doubts : Nat) : Bool := c.unplanned && c.enough doubts
def planned (c : Chg) (plan : D) : Chg := settle { c with yes := some (c.ballot.getD (0, 0), plan), votes := 2 ^ c.me }
end Chg
def sp_Change_propose (C : Addr) (F : NF) (f : Addr) (ws : List (Option V)) (spm : List (Option V) → Sp) : Sp := fun vs H Q _ => ∃ (p r : Addr) (c : Chg) (n : Nat), vs = [.ref p, .int (n : Int), .ref f] ∧ ChgAt C H p c r ∧ c.reports.length < 64 ∧
  H f = some (FnO f F) ∧ H F.c = some (LamX.CodeO F.c F.qual) ∧ (c.can n = false → ∀ H', Same H H' → Q (.bl false) H') ∧
  (c.can n = true → (∀ y, c.best = some y → ∀ H', Fr [p] H H' → ChgAt C H' p (c.planned y.2) r → Q (.bl true) H') ∧
    (c.best = none → ∀ l H1, H l = none → Same H H1 → LsD H1 l c.repData → spm ws [.ref l] H1 (fun v H2 => ∃ d, d ≠ .non ∧ Rp H2 d v ∧ ChgAt C H2 p c r ∧ ∀ H', Fr [p] H2 H' → ChgAt C H' p (c.planned d) r → Q (.bl true) H') E0))
theorem mem_of_get {κ α : Type} [DecidableEq κ] {m : List (κ × α)} {k : κ} {x : α} (h : getA m k = some x) : (k, x) ∈ m := by
  induction m with
  | nil => cases h
  | cons p m ih =>
    by_cases e : p.1 = k
    · rw [getA_pos e] at h
      have e2 : p.2 = x := Option.some.inj h
      rw [← e, ← e2]
      exact List.mem_cons_self ..
    · rw [getA_neg e] at h
      exact List.mem_cons_of_mem _ (ih h)
theorem get_of_mem {κ α : Type} [DecidableEq κ] {m : List (κ × α)} {k : κ} (h : k ∈ m.map (·.1)) : ∃ x, getA m k = some x := by
  have : (m.any fun p => decide (p.1 = k)) = true := by
    obtain ⟨p, hp, e⟩ := List.mem_map.mp h
    exact List.any_eq_true.mpr ⟨p, hp, decide_eq_true e⟩
  rw [getA_any] at this
  exact Option.isSome_iff_exists.mp this
def encP : Option Yes → D
  | none => .non
  | some y => y.2
theorem rep_at {c : Chg} {H : Hp} {m : List (Int × V)} {k : Int} (hm : RpM H (encR c.reports) m) (hk : k ∈ c.reports.map (·.1)) : ∃ t v1 v2, valV m k = some (.ref t) ∧ H t = some (.tup [v1, v2]) ∧ Rp H (c.rep k).1 v1 ∧ Rp H (encY (c.rep k).2) v2 ∧ (k, c.rep k) ∈ c.reports := by
  obtain ⟨x, hx⟩ := get_of_mem hk
  rcases hm.get k with ⟨e1, _⟩ | ⟨d, v, e1, e2, e3⟩
  · rw [encR_get, hx] at e1
    cases e1
  · rw [encR_get, hx] at e1
    have e4 : D.tup [x.1, encY x.2] = d := Option.some.inj e1
    subst e4
    simp only [Rp, RpL] at e3
    obtain ⟨t, vs, rfl, ht, v1, r1, rfl, g1, v2, r2, rfl, g2, rfl⟩ := e3
    have er : c.rep k = x := by unfold Chg.rep; rw [hx]; rfl
    rw [er]
    exact ⟨t, v1, v2, by rw [getA_valV]; exact e2, ht, g1, g2, mem_of_get hx⟩
local macro_rules | `(tactic| walk_at "s") => `(tactic| simp only [a_seq, a_next, a_ifS, a_asg, a_ret, a_retN, a_drop, a_break, a_cont, a_test, a_b, a_op, a_un, a_var, a_c, a_name, a_tupt, a_gcons, a_gnil, a_gsub, a_call, a_meth, a_make, a_cb, a_cons, a_nil, a_fldC, a_sfldC, a_not, a_and, a_or, a_andV, a_orV, a_notV, a_if, a_tup, a_lst, a_dget, a_dget2, a_din, a_dnotin, a_dput, a_dnewK, a_dnewT, a_aug, a_par, a_sl, a_part, a_nopart, a_bm, a_bm0, tPairs, a_disp, a_iLst, a_iTpl, a_iVals, a_iKeys, a_iRng1, a_iRng2, a_I0, a_I, a_U, a_eq, a_ne, a_ixt, a_ixl, a_lenl, a_lent, a_sll, a_sumL, a_sortL, a_sortD, a_listRg, a_rg1, a_append, a_yes, a_setdN, a_ddnotin, a_ddput, a_lenq, a_ixq, a_slq, a_methG, a_callC, a_ndefM, tFor_eq, tLc_eq,
  scal_ii, scal_nn, scal_in, scal_ni, scal_bb, scal_ss, scal_sn, scal_ns, L2.start, cx_K, cx_P, cx_w, bit_c, wipe, Int.natCast_inj, bitAnd_c, bitOr_c, shl1_c, Int.zero_add, Int.add_zero, Int.reduceLT, Int.reduceLE, Int.reducePow, Int.reduceNeg, Int.reduceToNat, Int.toNat_natCast, Int.natCast_nonneg,
  at_lit0, at_lit1, at_lit2, at_lit3, at_lit4, at_lit5, at_lit6, at_lit7, upd_same, upd_ne, Gr.upd_none, ne_eq, Option.isSome_some, sizeLine_eq, Nat.reduceLeDiff, upd_upd, Nat.reduceLT,
  List.map_cons, List.map_nil, List.length_cons, List.length_nil, List.replicate, List.cons_append, List.nil_append, List.append_nil, List.getElem?_cons_succ, List.getElem?_cons_zero, List.set_cons_succ, List.set_cons_zero,
  Option.some.injEq, V.ref.injEq, V.int.injEq, V.bl.injEq, V.str.injEq, List.cons.injEq, exists_eq_left, exists_eq_left', exists_eq_right, exists_eq, exists_eq', exists_and_left, exists_and_right, exists_const, true_and, and_true, and_self, ite_true, ite_false, if_true, if_false, reduceCtorEq, decide_true, decide_false, decide_eq_true_eq, Bool.not_true, Bool.not_false, Bool.not_eq_true', decide_eq_false_iff_not, Bool.false_eq_true, not_true_eq_false, not_false_eq_true, eq_self, HO.ins.injEq, HO.tup.injEq, HO.lst.injEq, and_assoc, Nat.reduceSub, Nat.reduceAdd, Nat.sub_self, reduceIte, ln_F_Change, in_Change_0, ll_Change_0, lk_Change_me, pt_Change_me, in_Change_1, ll_Change_1, lk_Change_hands, pt_Change_hands, in_Change_2, ll_Change_2, lk_Change_ballot, pt_Change_ballot, in_Change_3, ll_Change_3, lk_Change_yes, pt_Change_yes, in_Change_4, ll_Change_4, lk_Change_votes, pt_Change_votes, in_Change_5, ll_Change_5, lk_Change_reports, pt_Change_reports, in_Change_6, lk_Change_agreed, pt_Change_agreed, nm_Change_begin, nm_Change_message, nm_Change_receive, nm_Change_receive_yes, nm_Change_unplanned, nm_Change_settle, nm_Change_enough, nm_Change_propose, nm_Change_settled, N_has, N_hands_of, N_many, N_more_than_half, N_under, N_ballot_of, N_Change_init, N_Change_begin, N_Change_message, N_Change_receive, N_Change_receive_yes, N_Change_unplanned, N_Change_settle, N_Change_enough, N_Change_propose, N_Change_settled, N_l_cell_at, N_l_stream, N_l_hands, N_l_propose, N_l_noted, N_l_kept, N_l_agreed, N_l_deed, N_l_right, N_law, N_l_propose_law_make, *])
local macro_rules | `(tactic| walk_at "e") => `(tactic| first | assumption | rfl | (refine Gr.Fz.out ?_; first | assumption | (simp only [*]; done)) | (simp only [*]; done) | (simp [*]; done))
local macro_rules | `(tactic| walk_at "fr") => `(tactic| (repeat first | exact Gr.Fr.refl _ _ | assumption | (refine Gr.Fr.put' ?_ ?_; focus (first | (right; assumption) | (right; refine Gr.Fz.out ?_; simp only [*]; done) | (left; simp; done)))))
local macro_rules | `(tactic| walk_at "tp") => `(tactic| (repeat first | exact Gr.Tups.refl _ | assumption | (refine Gr.Tups.put' ?_ ?_; focus (first | (refine Gr.not_tup_none ?_; first | assumption | (refine Gr.Fz.out ?_; simp only [*]; done)) | (refine Gr.not_tup_of (by assumption) (fun xs z => ?_); cases z; done)))))
local macro_rules | `(tactic| walk_at "sm") => `(tactic| (repeat first | exact L2.Same.refl _ | assumption | (refine Gr.Same.put' ?_ ?_; focus (first | assumption | (refine Gr.Fz.out ?_; simp only [*]; done)))))
local macro_rules | `(tactic| walk_at "go") => `(tactic| ((try walk_at "s"); first | (intro _ hh; (try simp only [L2.upd_upd, Gr.upd_none, ne_eq, and_assoc] at hh); (try simp only [Gr.none_fz] at hh); walk_at "go") | (refine Gr.Cn.go ?_; walk_at "go") | skip))

section
variable {P : Program} {w : World} {K : PySem.W.Frag} {mg : Str → Option Value} {base : Heap}
theorem ok_Change_propose (T : Env K mg) {F : NF} {f : Addr} {ws : List (Option V)} {fr : List Str} {spm : List (Option V) → Sp} (Fn : NOk P w K mg base CX0 1 f F ["_law_reports"] fr spm) :
    FnOkG P w K mg base CX0 4 (He.ma K (He.ga K "Change") "propose") T.fd_Change_propose ["self", "doubts", "make"] (CloAt F.cl fr ws) (sp_Change_propose (He.ga K "Change") F f ws spm) := by
  have sc := sc_Change_propose
  refine fun_okG T.F_Change_propose sc (fun vs H Q E h => ?_) (fun cdv A outer s H vs Q E hr G h => ?_)
  · obtain ⟨_, _, _, _, rfl, _⟩ := h; rfl
  · have hu := hu_of hr
    refine ⟨_, PSs.nox (pss_cons (ps_if (PW.pt (pw_or (pt_not (pt_val (pe_meth0 (pv 0) T.c_Change T.m_Change_unplanned (ok_Change_unplanned T) (hr.mono (by decide)) (b_Change_unplanned T) .nil pass0))) (pw_or1 (pt_not (pt_val (pe_meth (pv 0) T.c_Change T.m_Change_enough (ok_Change_enough T) (hr.mono (by decide)) (b_Change_enough T) .nil pass0 (pa_cons (pv 1) pa_nil)))))))
    (pss_one (ps_ret pe_bl))
    pss_nil)
    (pss_cons (ps_set (i := 3) sc.nd rfl (.inl rfl) pe_non)
    (pss_cons (ps_set (i := 4) sc.nd rfl (.inl rfl) pe_non)
    (pss_cons (ps_for PassesOwn.never rfl (pi_l (K := K) rfl (pe_callB (cr_sortD rfl) (by rfl) T.z_sorted (by decide +kernel) (pa_cons (pe_fldC (K := K) rfl T.c_Change T.n_Change_reports (pv 0) rfl) pa_nil))) (pg_name (i := 5) sc.nd rfl (.inl rfl))
    (pss_cons (ps_set (i := 6) sc.nd rfl (.inl rfl) (pe_ix ix_t (pe_dget hu (pe_fldC (K := K) rfl T.c_Change T.n_Change_reports (pv 0) rfl) (pv 5) (fun _ _ => rfl)) pe_int (fun _ _ => rfl)))
    (pss_one (ps_if (pt_val (pe_call (ok_under T) (hr.mono (by decide)) (by rfl) T.g_under T.F_under.kp (b_under T) .nil pass0 (pa_cons (pv 3) (pa_cons (pe_call (ok_ballot_of T) (hr.mono (by decide)) (by rfl) T.g_ballot_of T.F_ballot_of.kp (b_ballot_of T) .nil pass0 (pa_cons (pv 6) pa_nil)) pa_nil))))
    (pss_one (ps_asg (pv 6) (pg_tupt (n := 2) rfl (pgs_cons (pg_name (i := 3) sc.nd rfl (.inl rfl)) (pgs_cons (pg_name (i := 4) sc.nd rfl (.inl rfl)) pgs_nil)))))
    pss_nil))))
    (pss_cons (ps_up (ps_if (pt_cmpR op_isN (pv 3) pe_non (nomark _))
    (pss_one (ps_set (i := 4) sc.nd rfl (.inl rfl) (pe_callC (i := 2) Fn G rfl hr (by decide) pass0 rfl (.inl rfl) (pa_cons (pe_lc (own := [("hand", 5)]) (by rfl) sc.nd (pi_l (K := K) rfl (pe_callB (cr_sortD rfl) (by rfl) T.z_sorted (by decide +kernel) (pa_cons (pe_fldC (K := K) rfl T.c_Change T.n_Change_reports (pv 0) rfl) pa_nil))) (blkOk_by (own := [("hand", 5)]) (N := N_Change_propose) (sc := defScope s_Change_propose) (by decide +kernel)) (fun _ _ _ _ _ => (pg_name (i := 5) sc.nd rfl (.inl rfl) (.inr rfl))) (fun _ _ _ _ _ => pts_nil) (fun _ _ _ _ _ => (pe_ix ix_t (pe_dget hu (pe_fldC (K := K) rfl T.c_Change T.n_Change_reports (pv 0) rfl) (pv 5) (fun _ _ => rfl)) pe_int (fun _ _ => rfl)))) pa_nil))))
    pss_nil))
    (pss_cons (ps_fldC (K := K) rfl T.c_Change T.n_Change_yes (pv 0) (pe_tup (pa_cons (pe_fldC (K := K) rfl T.c_Change T.n_Change_ballot (pv 0) rfl) (pa_cons (pv 4) pa_nil))) rfl)
    (pss_cons (ps_fldC (K := K) rfl T.c_Change T.n_Change_votes (pv 0) (pe_op op_shl pe_int (pe_fldC (K := K) rfl T.c_Change T.n_Change_me (pv 0) rfl)) rfl)
    (pss_cons (ps_expr (pe_meth0 (pv 0) T.c_Change T.m_Change_settle (ok_Change_settle T) (hr.mono (by decide)) (b_Change_settle T) .nil pass0))
    (pss_one (ps_ret pe_bl)))))))))), ?_⟩
    clear sc hu hr
    obtain ⟨p, r, c, n, rfl, hC, hl, hf, hc, q0, q1⟩ := h
    have pr := hC.ne
    obtain ⟨⟨dx, bv, yv, av, hp, hb, hy, ha⟩, ⟨m, hr, hm⟩, h7, h8, h9⟩ := id hC
    replace q0 := Hd.mk q0
    replace q1 := Hd.mk q1
    walk_at "go"
    refine ⟨p, r, c, rfl, hC, ?_⟩
    cases hun : c.unplanned with
    | false =>
      have e : c.can n = false := by unfold Chg.can; rw [hun]; rfl
      walk_at "go"
      exact q0.out e H (Same.refl _)
    | true =>
      walk_at "go"
      refine ⟨p, r, c, n, rfl, hC, fun H0 sm0 => ?_⟩
      cases hen : c.enough n with
      | false =>
        have e : c.can n = false := by unfold Chg.can; rw [hun, hen]; rfl
        walk_at "go"
        exact q0.out e H0 sm0
      | true =>
        have e : c.can n = true := by unfold Chg.can; rw [hun, hen]; rfl
        obtain ⟨qa, qb⟩ := q1.out e
        replace qa := Hd.mk qa
        replace qb := Hd.mk qb
        have hbs : Hd (∃ b, c.ballot = some b) := ⟨by
          unfold Chg.unplanned at hun
          cases hb0 : c.ballot with
          | none => rw [hb0] at hun; cases hun
          | some b => exact ⟨b, rfl⟩⟩
        clear q1 q0 e hun hen
        have hC0 := hC.same sm0
        have tp0 := Tups.of_same sm0
        replace hp := sm0 _ _ hp
        replace hr := sm0 _ _ hr
        replace hf := sm0 _ _ hf
        replace hc := sm0 _ _ hc
        replace hm := hm.at tp0
        replace hb := hb.at tp0
        replace hy := hy.at tp0
        replace ha := ha.at tp0
        have hml : m.length < 64 := by rw [hm.length, encR, List.length_map]; exact hl
        have hmk : m.map (·.1) = c.reports.map (·.1) := by
          rw [hm.keys, encR, List.map_map]
          rfl
        walk_at "go"
        refine ⟨m, rfl, hml, fun ks l pk sk nl => ?_⟩
        have ek : ks = c.keys := isort_eq (by rw [← hmk]; exact pk) sk
        subst ek
        have sml : Same H0 (upd H0 l (.lst (c.keys.map V.int))) := same_new nl
        have hlen : (c.keys.map V.int).length = c.keys.length := List.length_map ..
        have mem : ∀ k ∈ c.keys, k ∈ c.reports.map (·.1) := fun k hk => by rw [← hmk]; exact pk.mem_iff.mp hk
        replace mem := Hd.mk mem
        clear pk sk
        have wk := wk_listS (K := K) (H := upd H0 l (.lst (c.keys.map V.int))) (a := l) (xs := c.keys.map V.int) (SqL.of upd_same)
        refine forI wk (fun i σ H' => Same (upd H0 l (.lst (c.keys.map V.int))) H' ∧ ∃ (b : Option Yes) (bv' pv' : V) (x5 x6 : Option V), σ = [some (.ref p), some (.int (n : Int)), some (.ref f), some bv', some pv', x5, x6] ∧ okY b ∧ Rp H' (encB (b.map (·.1))) bv' ∧ Rp H' (encP b) pv' ∧
          bestGo b ((c.keys.drop i).map fun k => (c.rep k).2) = c.best) ?_ ?_ ?_ ?_
        · exact ⟨Same.refl _, none, .non, .non, none, none, rfl, trivial, rfl, rfl, rfl⟩
        · rintro i σ H' ⟨e, _⟩
          exact e
        · rintro i x σ H2 H3 hi ⟨sm2, b, bv', pv', x5, x6, rfl, okb, hb', hp', hg⟩ sm3 hx
          obtain ⟨k, ek, rfl⟩ : ∃ k : Int, c.keys[i]? = some k ∧ .int k = x := by simpa using hx
          have hlt : i < c.keys.length := (List.getElem?_eq_some_iff.mp ek).1
          have ee : c.keys[i] = k := (List.getElem?_eq_some_iff.mp ek).2
          rw [List.drop_eq_getElem_cons hlt, ee, List.map_cons, bestGo_cons] at hg
          have sm13 := (sml.trans sm2).trans sm3
          obtain ⟨t, w1, w2, g0, g1, g2, g3, g4⟩ := rep_at hm (mem.out k (List.mem_of_getElem? ek))
          have okr := h7.2.2 _ g4
          generalize c.rep k = rk at g2 g3 g4 okr hg
          have hp3 := sm13 _ _ hp
          have hr3 := sm13 _ _ hr
          replace g1 := sm13 _ _ g1
          replace g3 := g3.at (Tups.of_same sm13)
          replace hb' := hb'.at (Tups.of_same sm3)
          replace hp' := hp'.at (Tups.of_same sm3)
          have get := dget_I (k := k) hr3
          rw [g0] at get
          replace hg := Hd.mk hg
          walk_at "go"
          refine ⟨_, get, ?_⟩
          walk_at "go"
          refine ⟨rk.2, w2, rfl, g3, fun v hv => ?_⟩
          walk_at "go"
          refine ⟨b.map (·.1), rk.2.map (·.1), bv', v, rfl, hb', hv, ?_⟩
          cases hu1 : under (b.map (·.1)) (rk.2.map (·.1)) with
          | true =>
            cases hy2 : rk.2 with
            | none => rw [hy2] at hu1; cases b <;> cases hu1
            | some y2 =>
              rw [hy2] at g3 okr
              have g3' := g3
              simp only [encY, Rp, RpL] at g3'
              obtain ⟨t2, vs, rfl, ht2, u1, r1, rfl, j1, u2, r2, rfl, j2, rfl⟩ := g3'
              walk_at "go"
              refine ⟨sm2.trans sm3, some y2, okr, j1, j2, ?_⟩
              have := hg.out
              rw [if_pos hu1, hy2] at this
              exact this
          | false =>
            walk_at "go"
            refine ⟨sm2.trans sm3, b, okb, hb', hp', ?_⟩
            have := hg.out
            rw [if_neg (by rw [hu1]; exact Bool.false_ne_true)] at this
            exact this
        · rintro σ H2 ⟨sm2, b, bv', pv', x5, x6, rfl, okb, hb', hp', hg⟩
          rw [hlen, List.drop_length] at hg
          have hg : b = c.best := hg
          subst hg
          have sm12 := sml.trans sm2
          have tp12 := Tups.of_same sm12
          have hp2 := sm12 _ _ hp
          have hr2 := sm12 _ _ hr
          walk_at "go"
          refine sUp.mk (fun σ' H3 => ∃ (d : D) (v : V) (x5' x6' : Option V), σ' = [some (.ref p), some (.int (n : Int)), some (.ref f), some bv', some v, x5', x6'] ∧ d ≠ .non ∧ Rp H3 d v ∧ ChgAt (He.ga K "Change") H3 p c r ∧ ∀ H', Fr [p] H3 H' → ChgAt (He.ga K "Change") H' p (c.planned d) r → Q (.bl true) H') ?_ ?_
          · cases hbest : c.best with
            | some y =>
              have qa := qa.out y hbest
              rw [hbest] at hb' hp' okb
              have e1 := encB_non (b := some y.1) hb'
              have n1 : ¬ bv' = .non := fun z => by have := e1.mp z; cases this
              walk_at "go"
              refine ⟨y.2, okb, hp', hC0.same sm12, fun H' fr hC' => qa H' ((Fr.of_same (sm0.trans sm12)).trans fr) hC'⟩
            | none =>
              have qb := qb.out hbest
              rw [hbest] at hb' hp'
              have e1 : bv' = .non := hb'
              subst e1
              replace qb := Hd.mk qb
              have hf2 := sm12 _ _ hf
              have hc2 := sm12 _ _ hc
              have hm2 := hm.at tp12
              walk_at "go"
              refine ⟨m, rfl, hml, fun ks' l2 pk2 sk2 nl2 => ?_⟩
              have ek2 : ks' = c.keys := isort_eq (by rw [← hmk]; exact pk2) sk2
              subst ek2
              clear pk2 sk2
              have wk2 := wk_listS (K := K) (H := upd H2 l2 (.lst (c.keys.map V.int))) (a := l2) (xs := c.keys.map V.int) (SqL.of upd_same)
              have sml2 : Same H2 (upd H2 l2 (.lst (c.keys.map V.int))) := same_new nl2
              have hk1000 : c.keys.length < 1000 := by
                have e1 : c.keys.length = (c.reports.map (·.1)).length := (List.mergeSort_perm _ _).length_eq
                rw [e1, List.length_map]; omega
              refine lcD wk2 (by rw [List.length_map]; omega) (fun _ => true) (fun i => (c.rep (c.keys.getD i 0)).1) (fun i x H3 sm3 hi hx A B hA hB => ?_) (fun l3 H3 nl3 sm3 hL => ?_)
              · obtain ⟨k, ek, rfl⟩ : ∃ k : Int, c.keys[i]? = some k ∧ .int k = x := by simpa using hx
                have sm13 := sml2.trans sm3
                obtain ⟨t, w1, w2, g0, g1, g2, g3, g4⟩ := rep_at hm2 (mem.out k (List.mem_of_getElem? ek))
                have hp3 := sm13 _ _ hp2
                have hr3 := sm13 _ _ hr2
                replace g1 := sm13 _ _ g1
                replace g2 := g2.at (Tups.of_same sm13)
                have get := dget_I (k := k) hr3
                rw [g0] at get
                have hA := hA rfl w1 H3 (Same.refl _) (by rw [show c.keys.getD i 0 = k by rw [List.getD_eq_getElem?_getD, ek]; rfl]; exact g2)
                replace hA := Hd.mk hA
                clear hB
                walk_at "go"
                refine ⟨_, get, ?_⟩
                walk_at "go"
                exact hA.out
              · have sm03 := (sm12.trans sml2).trans sm3
                refine ⟨sm03 _ _ hf, sm03 _ _ hc, ?_⟩
                have nl4 : H l3 = none := (sm0.trans sm12).free (sml2.free nl3)
                refine qb.out l3 H3 nl4 (sm0.trans sm03) ?_
                have e1 : (gives (c.keys.map V.int).length (fun _ => true) fun i => (c.rep (c.keys.getD i 0)).1) = c.repData := by
                  rw [gives_all, List.length_map]
                  unfold Chg.repData
                  refine List.ext_getElem (by rw [List.length_map, List.length_map, List.length_range]) fun i h1 h2 => ?_
                  rw [List.length_map] at h2
                  rw [List.getElem_map, List.getElem_map, List.getElem_range, List.getD_eq_getElem?_getD, List.getElem?_eq_getElem h2]
                  rfl
                rw [e1] at hL
                exact hL
          · rintro σ' H3 ⟨d, v, x5', x6', rfl, nd, hv, hC3, q⟩
            replace q := Hd.mk q
            obtain ⟨⟨dx3, bv3, yv3, av3, hp3, hb3, hy3, ha3⟩, ⟨m3, hr3, hm3⟩, i7, i8, i9⟩ := id hC3
            clear hp hr hm hb hy ha hp2 hr2 hp' hb'
            walk_at "go"
            rename_i t3 ht3
            refine ⟨by unfold CPow; omega, ?_⟩
            have n3 : H3 t3 = none := ht3.2.2.out
            have npt : p ≠ t3 := ne_of_none hp3 n3
            have nrt : r ≠ t3 := ne_of_none hr3 n3
            walk_at "go"
            have tp : Tups H3 (upd (upd H3 t3 (.tup [bv3, v])) p (.ins (He.ga K "Change") dx3 (F_Change.zip [.int (c.me : Int), .int (c.hands : Int), bv3, .ref t3, .int ((2 ^ c.me : Nat) : Int), .ref r, av3]))) :=
              (Tups.of_same (same_new n3)).put (not_tup_of hp3 fun xs z => by cases z)
            have hbal : ∃ b, c.ballot = some b := hbs.out
            obtain ⟨b0, eb0⟩ := hbal
            have hb3' := hb3.at tp
            rw [eb0] at hb3'
            refine ⟨p, r, { c with yes := some (b0, d), votes := 2 ^ c.me }, rfl, ⟨⟨dx3, bv3, .ref t3, av3, upd_same, by rw [eb0]; exact hb3', ⟨t3, _, rfl, by rw [upd_ne npt.symm, upd_same], bv3, _, rfl, hb3', v, [], rfl, hv.at tp, rfl⟩, ha3.at tp⟩, ⟨m3, ?_, hm3.at tp⟩, i7, nd, i9⟩, fun H4 fr4 hC4 => ?_⟩
            · rw [upd_ne pr.symm, upd_ne nrt]
              exact hr3
            · walk_at "go"
              refine q.out H4 (Fr.trans ?_ fr4) ?_
              · exact (Fr.of_same (same_new n3)).put (.inl (by simp))
              · have e1 : c.planned d = Chg.settle { c with yes := some (b0, d), votes := 2 ^ c.me } := by unfold Chg.planned; rw [eb0]; rfl
                rw [e1]
                exact hC4
end
end K64

namespace K64
open PySem PySem.Spec PyProof.Rows L2 Gr NdefX
def planD (k : Nat) : D := .tup [.str "plan", .int (k : Int)]
def plansD (k : Nat) : List D := (List.range k).map planD
theorem plansD_succ (k : Nat) : plansD (k + 1) = plansD k ++ [planD k] := by
  unfold plansD
  rw [List.range_succ, List.map_append]
  rfl
def sp_l_make : List (Option V) → Sp := fun ws vs H Q _ => ∃ (a : Addr) (xs : List V) (rep : V), ws = [some (.ref a)] ∧ vs = [rep] ∧ H a = some (.lst xs) ∧ xs.length < 1000000 ∧ ∀ t, H t = none → Q (.ref t) (upd (upd H t (.tup [.str "plan", .int (xs.length : Int)])) a (.lst (xs ++ [.ref t])))
theorem atI_last {α : Type} {xs : List α} {x : α} : atI (xs ++ [x]) (-1) = some x := by
  unfold atI ixN
  rw [if_neg (by omega), if_pos (by rw [List.length_append, List.length_singleton]; omega)]
  show (xs ++ [x])[((-1 : Int) + ((xs ++ [x]).length : Int)).toNat]? = some x
  rw [List.length_append, List.length_singleton, show ((-1 : Int) + ((xs.length + 1 : Nat) : Int)).toNat = xs.length by omega, List.getElem?_append_right (Nat.le_refl _), Nat.sub_self]
  rfl
local macro_rules | `(tactic| walk_at "s") => `(tactic| simp only [a_seq, a_next, a_ifS, a_asg, a_ret, a_retN, a_drop, a_break, a_cont, a_test, a_b, a_op, a_un, a_var, a_c, a_name, a_tupt, a_gcons, a_gnil, a_gsub, a_call, a_meth, a_make, a_cb, a_cons, a_nil, a_fldC, a_sfldC, a_not, a_and, a_or, a_andV, a_orV, a_notV, a_if, a_tup, a_lst, a_dget, a_dget2, a_din, a_dnotin, a_dput, a_dnewK, a_dnewT, a_aug, a_par, a_sl, a_part, a_nopart, a_bm, a_bm0, tPairs, a_disp, a_iLst, a_iTpl, a_iVals, a_iKeys, a_iRng1, a_iRng2, a_I0, a_I, a_U, a_eq, a_ne, a_ixt, a_ixl, a_lenl, a_lent, a_sll, a_sumL, a_sortL, a_sortD, a_listRg, a_rg1, a_append, a_yes, a_setdN, a_ddnotin, a_ddput, a_lenq, a_ixq, a_slq, a_methG, a_callC, a_ndefM, tFor_eq, tLc_eq,
  scal_ii, scal_nn, scal_in, scal_ni, scal_bb, scal_ss, scal_sn, scal_ns, L2.start, cx_K, cx_P, cx_w, bit_c, wipe, Int.natCast_inj, bitAnd_c, bitOr_c, shl1_c, Int.zero_add, Int.add_zero, Int.reduceLT, Int.reduceLE, Int.reducePow, Int.reduceNeg, Int.reduceToNat, Int.toNat_natCast, Int.natCast_nonneg,
  at_lit0, at_lit1, at_lit2, at_lit3, at_lit4, at_lit5, at_lit6, at_lit7, upd_same, upd_ne, Gr.upd_none, ne_eq, Option.isSome_some, sizeLine_eq, Nat.reduceLeDiff, upd_upd, Nat.reduceLT,
  List.map_cons, List.map_nil, List.length_cons, List.length_nil, List.replicate, List.cons_append, List.nil_append, List.append_nil, List.getElem?_cons_succ, List.getElem?_cons_zero, List.set_cons_succ, List.set_cons_zero,
  Option.some.injEq, V.ref.injEq, V.int.injEq, V.bl.injEq, V.str.injEq, List.cons.injEq, exists_eq_left, exists_eq_left', exists_eq_right, exists_eq, exists_eq', exists_and_left, exists_and_right, exists_const, true_and, and_true, and_self, ite_true, ite_false, if_true, if_false, reduceCtorEq, decide_true, decide_false, decide_eq_true_eq, Bool.not_true, Bool.not_false, Bool.not_eq_true', decide_eq_false_iff_not, Bool.false_eq_true, not_true_eq_false, not_false_eq_true, eq_self, HO.ins.injEq, HO.tup.injEq, HO.lst.injEq, and_assoc, Nat.reduceSub, Nat.reduceAdd, Nat.sub_self, reduceIte, ln_F_Change, in_Change_0, ll_Change_0, lk_Change_me, pt_Change_me, in_Change_1, ll_Change_1, lk_Change_hands, pt_Change_hands, in_Change_2, ll_Change_2, lk_Change_ballot, pt_Change_ballot, in_Change_3, ll_Change_3, lk_Change_yes, pt_Change_yes, in_Change_4, ll_Change_4, lk_Change_votes, pt_Change_votes, in_Change_5, ll_Change_5, lk_Change_reports, pt_Change_reports, in_Change_6, lk_Change_agreed, pt_Change_agreed, nm_Change_begin, nm_Change_message, nm_Change_receive, nm_Change_receive_yes, nm_Change_unplanned, nm_Change_settle, nm_Change_enough, nm_Change_propose, nm_Change_settled, N_has, N_hands_of, N_many, N_more_than_half, N_under, N_ballot_of, N_Change_init, N_Change_begin, N_Change_message, N_Change_receive, N_Change_receive_yes, N_Change_unplanned, N_Change_settle, N_Change_enough, N_Change_propose, N_Change_settled, N_l_cell_at, N_l_stream, N_l_hands, N_l_propose, N_l_noted, N_l_kept, N_l_agreed, N_l_deed, N_l_right, N_law, N_l_propose_law_make, NdefX.startF, *])
local macro_rules | `(tactic| walk_at "e") => `(tactic| first | assumption | rfl | (refine Gr.Fz.out ?_; first | assumption | (simp only [*]; done)) | (simp only [*]; done) | (simp [*]; done))
local macro_rules | `(tactic| walk_at "fr") => `(tactic| (repeat first | exact Gr.Fr.refl _ _ | assumption | (refine Gr.Fr.put' ?_ ?_; focus (first | (right; assumption) | (right; refine Gr.Fz.out ?_; simp only [*]; done) | (left; simp; done)))))
local macro_rules | `(tactic| walk_at "tp") => `(tactic| (repeat first | exact Gr.Tups.refl _ | assumption | (refine Gr.Tups.put' ?_ ?_; focus (first | (refine Gr.not_tup_none ?_; first | assumption | (refine Gr.Fz.out ?_; simp only [*]; done)) | (refine Gr.not_tup_of (by assumption) (fun xs z => ?_); cases z; done)))))
local macro_rules | `(tactic| walk_at "sm") => `(tactic| (repeat first | exact L2.Same.refl _ | assumption | (refine Gr.Same.put' ?_ ?_; focus (first | assumption | (refine Gr.Fz.out ?_; simp only [*]; done)))))
local macro_rules | `(tactic| walk_at "go") => `(tactic| ((try walk_at "s"); first | (intro _ hh; (try simp only [L2.upd_upd, Gr.upd_none, ne_eq, and_assoc] at hh); (try simp only [Gr.none_fz] at hh); walk_at "go") | (refine Gr.Cn.go ?_; walk_at "go") | skip))

section
variable {P : Program} {w : World} {K : PySem.W.Frag} {mg : Str → Option Value} {base : Heap}
theorem ok_l_make (T : Env K mg) {cl : List (Str × Addr)} {q : Str} {f c : Addr} : NOk P w K mg base CX0 1 f (NF.of s_l_propose_law_make "_law_make" q cl c) ["_law_reports"] ["_law_answered"] sp_l_make := by
  have sc := nsc_l_propose_law_make
  refine nok_of sc (fun doc pm ctv us hl => match us, hl with | [_], _ => rfl) (fun ws vs H Q E h => ?_) (fun A outer s H vs ws Q E hr hf hc hl h => ?_)
  · obtain ⟨_, _, _, _, rfl, _⟩ := h; rfl
  · have hu := hu_of hr
    refine ⟨_, PSs.nox (pss_cons (ps_expr (pe_bm PySem.F.plainAttrs_list PySem.F.slot_list_append PySem.F.type_list_append mt_append (pv 1) (pa_cons (pe_tup (pa_cons pe_str (pa_cons (pe_callB len_l (by rfl) T.z_len (by decide +kernel) (pa_cons (pv 1) pa_nil)) pa_nil))) pa_nil)))
    (pss_one (ps_ret (pe_ix ix_l (pv 1) (pe_un un_neg pe_int) (fun _ _ => rfl))))), ?_⟩
    clear sc hu hr
    obtain ⟨a, xs, rep, rfl, rfl, ha, hx, q⟩ := h
    replace q := Hd.mk q
    walk_at "go"
    refine ⟨.inl ⟨rfl, xs, SqL.of ha⟩, fun t nt => ?_⟩
    have nta := ne_of_none ha nt
    have ha2 : upd H t (.tup [.str "plan", .int (xs.length : Int)]) a = some (.lst xs) := by rw [upd_ne nta]; exact ha
    walk_at "go"
    refine ⟨by omega, ?_⟩
    walk_at "go"
    refine ⟨_, atI_last, ?_⟩
    exact q.out t nt
/-! ### propose, as the law calls it -/
/-- all but fp and the code tables stand -/
def FrT (fp : List Addr) (H H' : Hp) : Prop := ∀ b o, H b = some o → b ∉ fp → (∀ ps, o ≠ .tbl ps) → H' b = some o
theorem FrT.refl (fp : List Addr) (H : Hp) : FrT fp H H := fun _ _ h _ _ => h
theorem FrT.trans {fp : List Addr} {H H1 H2 : Hp} (a : FrT fp H H1) (b : FrT fp H1 H2) : FrT fp H H2 := fun c o h n t => b c o (a c o h n t) n t
theorem FrT.of_fr {fp : List Addr} {H H' : Hp} (f : Fr fp H H') : FrT fp H H' := fun b o h n _ => f b o h n
theorem FrT.of_ext {fp : List Addr} {H H' : Hp} (f : LamX.ExtN H H') : FrT fp H H' := fun b o h _ t => f b o h t
theorem FrT.mono {fp fq : List Addr} {H H' : Hp} (a : FrT fp H H') (s : ∀ b ∈ fp, b ∈ fq) : FrT fq H H' := fun b o e n => a b o e fun z => n (s b z)
theorem FrT.tups {fp : List Addr} {H H' : Hp} (f : FrT fp H H') (h : ∀ q ∈ fp, ∀ xs, H q ≠ some (.tup xs)) : Tups H H' := fun b xs e => f b _ e (fun z => h b z xs e) fun ps z => by cases z
def Chg.prop (c : Chg) (n k : Nat) : Chg × Nat := if c.can n = true then (match c.best with
  | some y => (c.planned y.2, k)
  | none => (c.planned (planD k), k + 1)) else (c, k)
def sp_l_propose (C Pt : Addr) : Sp := fun vs H Q _ => ∃ (d a x p r : Addr) (h : Int) (m : List (Int × V)) (c : Chg) (k : Nat) (xs : List Int), vs = [.ref d, .int h, .ref a, .ref x] ∧ H d = some (dI m) ∧ valV m h = some (.ref p) ∧ m.length < 64 ∧ (∀ q ∈ m, 0 ≤ q.1 ∧ q.1 < 63) ∧
  ChgAt C H p c r ∧ c.reports.length < 64 ∧ LsD H a (plansD k) ∧ k < 100000 ∧ H x = some (.lst (xs.map V.int)) ∧ 4 ≤ xs.length ∧ TabN H Pt nm_l_propose ∧
  ∀ n H', FrT [p, a] H H' → TabN H' Pt nm_l_propose → ChgAt C H' p (c.prop n k).1 r → LsD H' a (plansD (c.prop n k).2) → Q .non H'
theorem TabN.fr {H H' : Hp} {Pt : Addr} {nm : Nat → Nat → Str} {fp : List Addr} (t : TabN H Pt nm) (f : Fr fp H H') (h1 : Pt ∉ fp) (h2 : ∀ q ∈ fp, ∀ φ, H q ≠ some (.ext φ)) : TabN H' Pt nm := by
  obtain ⟨ps, e1, e2, e3⟩ := t
  refine ⟨ps, f _ _ e1 h1, e2, fun pos cv hc => ?_⟩
  obtain ⟨c, e4, e5⟩ := e3 pos cv hc
  exact ⟨c, e4, f _ _ e5 fun z => h2 _ z _ e5⟩
theorem hB_make : ndefB (defScope s_l_propose) (C8.fnScope s_l_propose_law_make) ["_law_answered"] = true := by decide +kernel
theorem ok_l_propose (T : Env K mg) {ct Pt : Addr} (TB : LamX.TabB base mg ct Pt) (hcd : T.fd_l_propose.code = .ref ct) : FnOk P w K mg base CX0 5 (He.ga K "_law_propose") T.fd_l_propose ["_law_changes", "_law_hand", "_law_answered", "_law_xs"] (sp_l_propose (He.ga K "Change") Pt) := by
  have sc := sc_l_propose
  refine fun_okC T.F_l_propose hcd sc (fun vs H Q E h => ?_) (fun A outer s H vs Q E hr h => ?_)
  · obtain ⟨_, _, _, _, _, _, _, _, _, _, rfl, _⟩ := h; rfl
  · have hu := hu_of hr
    have Fn := fun g c' => ok_l_make (P := P) (w := w) (base := base) T (cl := cloFrom (envOfC "_law_propose" (defScope s_l_propose) s.heap.objs.size (He.ga K "_law_propose") (.ref ct)).cells (C8.fnScope s_l_propose_law_make).names []) (q := "_law_propose.<locals>._law_make") (f := g) (c := c')
    have hB := hB_make
    refine ⟨_, PSs.nox (pss_cons (ps_set (i := 4) sc.nd rfl (.inl rfl) (pe_op op_sub (pe_op op_shl pe_int pe_int) pe_int))
    (pss_cons (ps_up (ps_if (pt_cmpR op_eq (pe_op op_mod (pe_ix ix_l (pv 3) pe_int (fun _ _ => rfl)) pe_int) pe_int (nomark _))
    (pss_cons (ps_set (i := 5) sc.nd rfl (.inr rfl) (pe_callB (cr_sortD rfl) (by rfl) T.z_sorted (by decide +kernel) (pa_cons (pv 0) pa_nil)))
    (pss_one (ps_set (i := 4) sc.nd rfl (.inl rfl) (pe_callB (cr_sumL rfl) (by rfl) T.z_sum (by decide +kernel) (pa_cons (pe_lc (own := [("_law_k", 7)]) (by rfl) sc.nd (pi_range1 (by rfl) T.z_range (pa_cons (pe_callB len_l (by rfl) T.z_len (by decide +kernel) (pa_cons (pv 5) pa_nil)) pa_nil)) (blkOk_by (own := [("_law_k", 7)]) (N := N_l_propose) (sc := defScope s_l_propose) (by decide +kernel)) (fun _ _ _ _ _ => (pg_name (i := 7) sc.nd rfl (.inl rfl) (.inr rfl))) (fun _ _ _ _ _ => (pts_one (pt_cmpR op_eq (pe_op op_and (pe_op op_shr (pe_ix ix_l (pv 3) pe_int (fun _ _ => rfl)) (pv 7)) pe_int) pe_int (nomark _)))) (fun _ _ _ _ _ => (pe_op op_shl pe_int (pe_ix ix_l (pv 5) (pv 7) (fun _ _ => rfl))))) pa_nil)))))
    pss_nil))
    (pss_cons (ps_ndefMS (st := s_l_propose_law_make) (i := 6) (nm := nm_l_propose) rfl TB rfl (List.mem_singleton.mpr rfl) rfl (fun p hp _ => by rw [List.mem_singleton.mp hp]) (ndef_free (fr := ["_law_answered"]) hB) rfl rfl rfl sc.nd rfl (.inl rfl) (.inl rfl))
    (pss_one (ps_expr (pe_methG (cl := cloFrom (envOfC "_law_propose" (defScope s_l_propose) s.heap.objs.size (He.ga K "_law_propose") (.ref ct)).cells (C8.fnScope s_l_propose_law_make).names []) (js := [2]) (pe_dget hu (pv 0) (pv 1) (fun _ _ => rfl)) T.c_Change T.m_Change_propose (fun g c' ws => ok_Change_propose T (Fn g c')) (fun ok => Caps.made (fr := ["_law_answered"]) ok (ndef_free hB) (ndef_fr hB) rfl) (fun _ => rfl) (hr.mono (by decide)) (b_Change_propose T) .nil pass0 (pa_cons (pv 4) (pa_cons (pv 6) pa_nil)))))))), ?_⟩
    clear sc hu hr
    obtain ⟨d, a, x, p, r, h, m, c, k, xs, rfl, hd, hv, hml, hmk, hC, hrl, hL, hk, hx, hxl, hT, q⟩ := h
    replace q := Hd.mk q
    obtain ⟨x0, x1, x2, x3, xr, rfl⟩ : ∃ x0 x1 x2 x3 xr, xs = x0 :: x1 :: x2 :: x3 :: xr := by
      match xs, hxl with
      | x0 :: x1 :: x2 :: x3 :: xr, _ => exact ⟨x0, x1, x2, x3, xr, rfl⟩
    simp only [List.map_cons] at hx
    walk_at "go"
    refine ⟨by unfold CPow; decide, ?_⟩
    walk_at "go"
    refine sUp.mk (fun σ' H1 => ∃ (n : Nat) (x5 x7 : Option V), σ' = [some (.ref d), some (.int h), some (.ref a), some (.ref x), some (.int (n : Int)), x5, none, x7] ∧ Same H H1) ?_ ?_
    · walk_at "go"
      by_cases h2 : x3 % 2 = 1
      · walk_at "go"
        refine ⟨m, rfl, hml, fun ks l pk sk nl => ?_⟩
        have hkl : ks.length < 64 := by rw [pk.length_eq, List.length_map]; exact hml
        have hks : ∀ k ∈ ks, 0 ≤ k ∧ k < 63 := fun k hk => by
          obtain ⟨p, hp, rfl⟩ := List.mem_map.mp (pk.mem_iff.mp hk)
          exact hmk p hp
        replace hks := Hd.mk hks
        clear pk sk
        walk_at "go"
        rw [List.length_map]
        refine ⟨by omega, by omega, ?_⟩
        have sml : Same H (upd H l (.lst (ks.map V.int))) := same_new nl
        refine lcD wk_range (by omega) (fun i => decide (Builtin.bitAnd (x2 / 2 ^ i) 1 = 1)) (fun i => .int (((2 ^ (ks.getD i 0).toNat : Nat) : Int))) (fun i y H1 sm1 hi hy A B hA hB => ?_) (fun l1 H1 nl1 sm1 hL1 => ?_)
        · have hx1 := sml.trans sm1 _ _ hx
          have hl1 := sm1 _ _ (upd_same (H := H) (a := l) (o := .lst (ks.map V.int)))
          have ek : ks[i]? = some (ks[i]'hi) := List.getElem?_eq_getElem hi
          have eg : ks.getD i 0 = ks[i]'hi := by rw [List.getD_eq_getElem?_getD, ek]; rfl
          have hki := hks.out _ (List.getElem_mem hi)
          have hY : y = .int ((i : Nat) : Int) := by rw [hy, Int.zero_add]
          subst hY
          rw [eg] at hA
          have hA := fun e => hA e (.int (2 ^ (ks[i]'hi).toNat)) H1 (Same.refl _) (by rw [← pow_c]; rfl)
          have hB := fun e => hB e H1 (Same.refl _)
          replace hA := Hd.mk hA
          replace hB := Hd.mk hB
          clear hy eg
          generalize ks[i]'hi = k1 at hA hki ek
          walk_at "go"
          have eat : atI (ks.map V.int) ((i : Nat) : Int) = some (.int k1) := by rw [atI_cast, List.getElem?_map, ek]; rfl
          refine ite2 (fun hc => ?_) (fun hc => ?_)
          · refine ⟨_, eat, k1, rfl, by unfold CPow; omega, ?_⟩
            have := hA.out (decide_eq_true hc)
            rw [pow_c] at this
            exact this
          · exact hB.out (decide_eq_false hc)
        · obtain ⟨vs, e1, e2⟩ := hL1
          have e3 : ∀ (n : Nat) (f : Nat → Bool) (g : Nat → Nat), (gives n f fun i => D.int ((g i : Nat) : Int)) = (((List.range n).filter f).map fun i => ((g i : Nat) : Int)).map D.int := fun n f g => by
            unfold gives
            rw [List.map_map]
            rfl
          rw [e3] at e2
          rw [RpL.ints] at e2
          refine ⟨l1, rfl, _, by rw [e1, e2], ?_, sml.trans sm1⟩
          have e4 : ∀ (l : List Nat) (g : Nat → Nat), ∃ n : Nat, (l.map fun i => ((g i : Nat) : Int)).sum = (n : Int) := by
            intro l g
            induction l with
            | nil => exact ⟨0, rfl⟩
            | cons x l ih =>
              obtain ⟨n, en⟩ := ih
              exact ⟨g x + n, by rw [List.map_cons, List.sum_cons, en]; rfl⟩
          exact e4 _ _
      · walk_at "go"
        exact ⟨⟨2 ^ 63 - 1, by decide⟩, Same.refl _⟩
    · rintro σ' H1 ⟨n, x5, x7, rfl, sm⟩
      walk_at "go"
      refine ⟨fun p hp => by rw [List.mem_singleton.mp hp]; exact hT.ext fun b o e => sm b o e, fun f c' H2 ex hno tabs nf hf hc => ?_⟩
      have frt : FrT [p, a] H H2 := (FrT.of_fr (Fr.of_same sm)).trans (FrT.of_ext ex)
      have tp : Tups H H2 := fun b xs h => ex b _ (sm b _ h) fun ps z => by cases z
      obtain ⟨⟨dx, bv, yv, av, hp, hb, hy, ha⟩, ⟨mm, hr, hm⟩, h7, h8, h9⟩ := id hC
      have hp2 := ex _ _ (sm _ _ hp) fun ps z => by cases z
      have hr2 := ex _ _ (sm _ _ hr) fun ps z => by unfold dI at z; cases z
      have hd2 := ex _ _ (sm _ _ hd) fun ps z => by unfold dI at z; cases z
      have hC2 : ChgAt (He.ga K "Change") H2 p c r := ⟨⟨dx, bv, yv, av, hp2, hb.at tp, hy.at tp, ha.at tp⟩, ⟨mm, hr2, hm.at tp⟩, h7, h8, h9⟩
      obtain ⟨vs, ha1, ha2⟩ := hL
      have ha3 := ex _ _ (sm _ _ ha1) fun ps z => by cases z
      have ha4 := ha2.at tp
      have get := dget_I (k := h) hd2
      rw [hv] at get
      have hT2 : TabN H2 Pt nm_l_propose := tabs (Pt, nm_l_propose) (List.mem_singleton.mpr rfl)
      obtain ⟨tps, hPt, _⟩ := id hT2
      have nPp : Pt ≠ p := ne_of hPt hp2 fun z => by cases z
      have nPa : Pt ≠ a := ne_of hPt ha3 fun z => by cases z
      have nap : a ≠ p := ne_of ha3 hp2 fun z => by cases z
      have nar : a ≠ r := ne_of ha3 hr2 fun z => by unfold dI at z; cases z
      walk_at "go"
      refine ⟨_, get, ?_⟩
      walk_at "go"
      refine ⟨f, c', p, r, c, n, rfl, hC2, hrl, hf, hc, fun e H3 sm3 => ?_, fun e => ⟨fun y ey H3 fr3 hC3 => ?_, fun en l H3 nl sm3 hL3 => ?_⟩⟩
      · have ep : c.prop n k = (c, k) := by unfold Chg.prop; rw [if_neg (by rw [e]; exact Bool.false_ne_true)]
        have q := q.out n H3
        rw [ep] at q
        exact q (frt.trans (FrT.of_fr (Fr.of_same sm3))) (hT2.ext fun b o e => sm3 b o e) (hC2.same sm3) ⟨vs, sm3 _ _ ha3, ha4.at (Tups.of_same sm3)⟩
      · have ep : c.prop n k = (c.planned y.2, k) := by unfold Chg.prop; rw [if_pos e, ey]
        have q := q.out n H3
        rw [ep] at q
        refine q (frt.trans (FrT.of_fr (fr3.mono (by simp)))) (TabN.fr hT2 fr3 (by simp [nPp]) (by simp [hp2])) hC3 ⟨vs, fr3 _ _ ha3 (by simp [nap]), ha4.at fun b xs h => fr3 b _ h ?_⟩
        rw [List.mem_singleton]
        intro z
        rw [z, hp2] at h
        cases h
      · have ep : c.prop n k = (c.planned (planD k), k + 1) := by unfold Chg.prop; rw [if_pos e, en]
        have q := q.out n
        rw [ep] at q
        have ha5 := sm3 _ _ ha3
        have hvl : vs.length = k := by rw [ha2.length, plansD, List.length_map, List.length_range]
        refine ⟨a, vs, .ref l, rfl, rfl, ha5, by omega, fun t nt => ?_⟩
        have nat := ne_of_none ha5 nt
        have smt : Same H3 (upd H3 t (.tup [.str "plan", .int (vs.length : Int)])) := same_new nt
        have frA : Fr [a] H2 (upd (upd H3 t (.tup [.str "plan", .int (vs.length : Int)])) a (.lst (vs ++ [.ref t]))) := ((Fr.of_same (sm3.trans smt)).put (.inl (by simp)))
        have tpA : Tups H2 (upd (upd H3 t (.tup [.str "plan", .int (vs.length : Int)])) a (.lst (vs ++ [.ref t]))) := (Tups.of_same (sm3.trans smt)).put (not_tup_of ha3 fun xs z => by cases z)
        have rpt : Rp (upd (upd H3 t (.tup [.str "plan", .int (vs.length : Int)])) a (.lst (vs ++ [.ref t]))) (planD k) (.ref t) := by
          refine ⟨t, _, rfl, by rw [upd_ne nat.symm, upd_same], .str "plan", _, rfl, rfl, .int (vs.length : Int), [], rfl, ?_, rfl⟩
          rw [hvl]
          rfl
        have hCA : ChgAt (He.ga K "Change") (upd (upd H3 t (.tup [.str "plan", .int (vs.length : Int)])) a (.lst (vs ++ [.ref t]))) p c r :=
          hC2.at tpA (fun o e => frA p o e (by simp [nap.symm])) (fun o e => frA r o e (by simp [nar.symm]))
        refine ⟨planD k, by simp [planD], rpt, hCA, fun H4 fr4 hC4 => ?_⟩
        have hpA := frA p _ hp2 (by simp [nap.symm])
        have hPA := fun o (e : H2 Pt = some o) => frA Pt o e (by simp [nPa])
        have tp4 : Tups (upd (upd H3 t (.tup [.str "plan", .int (vs.length : Int)])) a (.lst (vs ++ [.ref t]))) H4 := fun b xs h => fr4 b _ h (by
          rw [List.mem_singleton]
          intro z
          rw [z, hpA] at h
          cases h)
        have frB : Fr [p, a] H2 H4 := (frA.mono (by simp)).trans (fr4.mono (by simp))
        refine q H4 (frt.trans (FrT.of_fr frB)) (TabN.fr hT2 frB (by simp [nPp, nPa]) (by simp [hp2, ha3])) hC4 ⟨vs ++ [.ref t], fr4 _ _ upd_same (by simp [nap]), ?_⟩
        rw [plansD_succ]
        exact ((ha4.at tpA).snoc rpt).at tp4
end
end K64

namespace K64
open PySem PySem.Spec PyProof.Rows L2 Gr NdefX
def sp_l_cell_at (K : PySem.W.Frag) : Sp := fun vs H Q _ => ∃ (a : Addr) (ns : List Int) (k : Nat), vs = [.ref a, .int (k : Int)] ∧ SqL K H a (ns.map V.int) ∧ Q (.int (ns.getD k 0)) H
def sp_l_stream : Sp := fun vs H Q _ => ∃ (c : Int) (n : Nat), vs = [.int c, .int (n : Int)] ∧ n ≤ 10 ∧ ∀ (p : Addr) (H' : Hp) (xs : List Int), H p = none → Same H H' → H' p = some (.lst (xs.map V.int)) → xs.length = n → Q (.ref p) H'
def sp_l_hands : Sp := fun vs H Q _ => ∃ (c : Int), vs = [.int c] ∧ ∀ (p : Addr) (H' : Hp) (hs : List Nat), H p = none → Same H H' → H' p = some (.lst (vNat hs)) → hs.Nodup → (∀ h ∈ hs, h < 63) → hs ≠ [] → hs.length ≤ 5 → Q (.ref p) H'
theorem cutV_1 {xs : List V} : cutV xs (some 1) none = xs.drop 1 := by
  unfold cutV
  rw [HT.sIx_none, show (some (1 : Int)) = some ((1 : Nat) : Int) from rfl, HT.sIx_nat]
  by_cases h : 1 ≤ xs.length
  · rw [Nat.min_eq_left h, List.take_of_length_le (by rw [List.length_drop]; omega)]
  · have e : xs = [] := List.eq_nil_of_length_eq_zero (by omega)
    subst e
    rfl
theorem okL_ints : ∀ fs : List Int, D.goodL (fs.map D.int) = true ∧ D.depL (fs.map D.int) = 0
  | [] => ⟨by simp [D.goodL], by simp [D.depL]⟩
  | f :: fs => by
    obtain ⟨h1, h2⟩ := okL_ints fs
    exact ⟨by simp [D.goodL, D.good, h1], by simp [D.depL, D.dep, h2]⟩
theorem okL_int (fs : List Int) : D.okL (fs.map D.int) = true := by
  obtain ⟨h1, h2⟩ := okL_ints fs
  unfold D.okL
  rw [h1, h2]
  rfl
theorem mem_ints {fs : List Int} {z : Int} : D.int z ∈ fs.map D.int ↔ z ∈ fs := by
  rw [List.mem_map]
  constructor
  · rintro ⟨a, ha, e⟩
    cases e
    exact ha
  · intro h
    exact ⟨z, h, rfl⟩
local macro_rules | `(tactic| walk_at "s") => `(tactic| simp only [a_seq, a_next, a_ifS, a_asg, a_ret, a_retN, a_drop, a_break, a_cont, a_test, a_b, a_op, a_un, a_var, a_c, a_name, a_tupt, a_gcons, a_gnil, a_gsub, a_call, a_meth, a_make, a_cb, a_cons, a_nil, a_fldC, a_sfldC, a_not, a_and, a_or, a_andV, a_orV, a_notV, a_if, a_tup, a_lst, a_dget, a_dget2, a_din, a_dnotin, a_dput, a_dnewK, a_dnewT, a_aug, a_par, a_sl, a_part, a_nopart, a_bm, a_bm0, tPairs, a_disp, a_iLst, a_iTpl, a_iVals, a_iKeys, a_iRng1, a_iRng2, a_I0, a_I, a_U, a_eq, a_ne, a_ixt, a_ixl, a_lenl, a_lent, a_sll, a_sumL, a_sortL, a_sortD, a_listRg, a_rg1, a_append, a_yes, a_setdN, a_ddnotin, a_ddput, a_lenq, a_ixq, a_slq, a_methG, a_callC, a_ndefM, tFor_eq, tLc_eq,
  scal_ii, scal_nn, scal_in, scal_ni, scal_bb, scal_ss, scal_sn, scal_ns, L2.start, cx_K, cx_P, cx_w, bit_c, wipe, Int.natCast_inj, bitAnd_c, bitOr_c, shl1_c, Int.zero_add, Int.add_zero, Int.reduceLT, Int.reduceLE, Int.reducePow, Int.reduceNeg, Int.reduceToNat, Int.toNat_natCast, Int.natCast_nonneg,
  at_lit0, at_lit1, at_lit2, at_lit3, at_lit4, at_lit5, at_lit6, at_lit7, upd_same, upd_ne, Gr.upd_none, ne_eq, Option.isSome_some, sizeLine_eq, Nat.reduceLeDiff, upd_upd, Nat.reduceLT,
  List.map_cons, List.map_nil, List.length_cons, List.length_nil, List.replicate, List.cons_append, List.nil_append, List.append_nil, List.getElem?_cons_succ, List.getElem?_cons_zero, List.set_cons_succ, List.set_cons_zero,
  Option.some.injEq, V.ref.injEq, V.int.injEq, V.bl.injEq, V.str.injEq, List.cons.injEq, exists_eq_left, exists_eq_left', exists_eq_right, exists_eq, exists_eq', exists_and_left, exists_and_right, exists_const, true_and, and_true, and_self, ite_true, ite_false, if_true, if_false, reduceCtorEq, decide_true, decide_false, decide_eq_true_eq, Bool.not_true, Bool.not_false, Bool.not_eq_true', decide_eq_false_iff_not, Bool.false_eq_true, not_true_eq_false, not_false_eq_true, eq_self, HO.ins.injEq, HO.tup.injEq, HO.lst.injEq, and_assoc, Nat.reduceSub, Nat.reduceAdd, Nat.sub_self, reduceIte, ln_F_Change, in_Change_0, ll_Change_0, lk_Change_me, pt_Change_me, in_Change_1, ll_Change_1, lk_Change_hands, pt_Change_hands, in_Change_2, ll_Change_2, lk_Change_ballot, pt_Change_ballot, in_Change_3, ll_Change_3, lk_Change_yes, pt_Change_yes, in_Change_4, ll_Change_4, lk_Change_votes, pt_Change_votes, in_Change_5, ll_Change_5, lk_Change_reports, pt_Change_reports, in_Change_6, lk_Change_agreed, pt_Change_agreed, nm_Change_begin, nm_Change_message, nm_Change_receive, nm_Change_receive_yes, nm_Change_unplanned, nm_Change_settle, nm_Change_enough, nm_Change_propose, nm_Change_settled, N_has, N_hands_of, N_many, N_more_than_half, N_under, N_ballot_of, N_Change_init, N_Change_begin, N_Change_message, N_Change_receive, N_Change_receive_yes, N_Change_unplanned, N_Change_settle, N_Change_enough, N_Change_propose, N_Change_settled, N_l_cell_at, N_l_stream, N_l_hands, N_l_propose, N_l_noted, N_l_kept, N_l_agreed, N_l_deed, N_l_right, N_law, N_l_propose_law_make, *])
local macro_rules | `(tactic| walk_at "e") => `(tactic| first | assumption | rfl | (refine Gr.Fz.out ?_; first | assumption | (simp only [*]; done)) | (simp only [*]; done) | (simp [*]; done))
local macro_rules | `(tactic| walk_at "fr") => `(tactic| (repeat first | exact Gr.Fr.refl _ _ | assumption | (refine Gr.Fr.put' ?_ ?_; focus (first | (right; assumption) | (right; refine Gr.Fz.out ?_; simp only [*]; done) | (left; simp; done)))))
local macro_rules | `(tactic| walk_at "tp") => `(tactic| (repeat first | exact Gr.Tups.refl _ | assumption | (refine Gr.Tups.put' ?_ ?_; focus (first | (refine Gr.not_tup_none ?_; first | assumption | (refine Gr.Fz.out ?_; simp only [*]; done)) | (refine Gr.not_tup_of (by assumption) (fun xs z => ?_); cases z; done)))))
local macro_rules | `(tactic| walk_at "sm") => `(tactic| (repeat first | exact L2.Same.refl _ | assumption | (refine Gr.Same.put' ?_ ?_; focus (first | assumption | (refine Gr.Fz.out ?_; simp only [*]; done)))))
local macro_rules | `(tactic| walk_at "go") => `(tactic| ((try walk_at "s"); first | (intro _ hh; (try simp only [L2.upd_upd, Gr.upd_none, ne_eq, and_assoc] at hh); (try simp only [Gr.none_fz] at hh); walk_at "go") | (refine Gr.Cn.go ?_; walk_at "go") | skip))

section
variable {P : Program} {w : World} {K : PySem.W.Frag} {mg : Str → Option Value} {base : Heap}
theorem ok_l_cell_at (T : Env K mg) : FnOk P w K mg base CX0 1 (He.ga K "_law_cell_at") T.fd_l_cell_at ["_law_script", "_law_k"] (sp_l_cell_at K) := by
  have sc := sc_l_cell_at
  refine T.F_l_cell_at.ok sc (fun vs H Q E h => ?_) (fun cdv A outer s H vs Q E hr h => ?_)
  · (first | (obtain ⟨rfl, _⟩ := h; rfl) | (obtain ⟨_, rfl, _⟩ := h; rfl) | (obtain ⟨_, _, rfl, _⟩ := h; rfl) | (obtain ⟨_, _, _, rfl, _⟩ := h; rfl) | (obtain ⟨_, _, _, _, rfl, _⟩ := h; rfl) | (obtain ⟨_, _, _, _, _, rfl, _⟩ := h; rfl) | (obtain ⟨_, _, _, _, _, _, rfl, _⟩ := h; rfl) | (obtain ⟨_, _, _, _, _, _, _, rfl, _⟩ := h; rfl) | (obtain ⟨_, _, _, _, _, _, _, _, rfl, _⟩ := h; rfl) | (obtain ⟨_, _, _, _, _, _, _, _, _, rfl, _⟩ := h; rfl) | (obtain ⟨_, _, _, _, _, _, _, _, _, _, rfl, _⟩ := h; rfl) | (obtain ⟨_, _, _, _, _, _, _, _, _, _, _, rfl, _⟩ := h; rfl) | (obtain ⟨_, _, _, _, _, _, _, _, _, _, _, _, rfl, _⟩ := h; rfl) | (obtain ⟨_, _, _, _, _, _, _, _, _, _, _, _, _, rfl, _⟩ := h; rfl) | (obtain ⟨_, _, _, _, _, _, _, _, _, _, _, _, _, _, rfl, _⟩ := h; rfl) | (obtain ⟨_, _, _, _, _, _, _, _, _, _, _, _, _, _, _, rfl, _⟩ := h; rfl) | (obtain ⟨_, _, _, _, _, _, _, _, _, _, _, _, _, _, _, _, rfl, _⟩ := h; rfl) | (obtain ⟨_, _, _, _, _, _, _, _, _, _, _, _, _, _, _, _, _, rfl, _⟩ := h; rfl) | (obtain ⟨_, _, _, _, _, _, _, _, _, _, _, _, _, _, _, _, _, _, rfl, _⟩ := h; rfl) | (obtain ⟨_, _, _, _, _, _, _, _, _, _, _, _, _, _, _, _, _, _, _, rfl, _⟩ := h; rfl) | (obtain ⟨_, _, _, _, _, _, _, _, _, _, _, _, _, _, _, _, _, _, _, _, rfl, _⟩ := h; rfl) | (obtain ⟨_, _, _, _, _, _, _, _, _, _, _, _, _, _, _, _, _, _, _, _, _, rfl, _⟩ := h; rfl) | (obtain ⟨_, _, _, _, _, _, _, _, _, _, _, _, _, _, _, _, _, _, _, _, _, _, rfl, _⟩ := h; rfl) | (obtain ⟨_, _, _, _, _, _, _, _, _, _, _, _, _, _, _, _, _, _, _, _, _, _, _, rfl, _⟩ := h; rfl) | (obtain ⟨_, _, _, _, _, _, _, _, _, _, _, _, _, _, _, _, _, _, _, _, _, _, _, _, rfl, _⟩ := h; rfl) | (obtain ⟨_, _, _, _, _, _, _, _, _, _, _, _, _, _, _, _, _, _, _, _, _, _, _, _, _, rfl, _⟩ := h; rfl))
  · have hu := hu_of hr
    refine ⟨_, PSs.nox (pss_cons (ps_if (pt_cmpR op_lt (pv 1) (pe_callB (len_sq (K := K) rfl) (by rfl) T.z_len (by decide +kernel) (pa_cons (pv 0) pa_nil)) (nomark _))
    (pss_one (ps_ret (pe_ix (ix_sq (K := K) rfl) (pv 0) (pv 1) (fun _ _ => rfl))))
    pss_nil)
    (pss_one (ps_ret pe_int))), ?_⟩
    clear sc hu hr
    obtain ⟨a, ns, k, rfl, hS, q⟩ := h
    walk_at "go"
    refine ⟨_, hS, ?_⟩
    rw [List.length_map]
    by_cases hk : k < ns.length
    · rw [if_pos (by omega)]
      walk_at "go"
      refine ⟨_, hS, .int ns[k], by rw [atI_cast, List.getElem?_map, List.getElem?_eq_getElem hk]; rfl, ?_⟩
      rw [List.getD_eq_getElem?_getD, List.getElem?_eq_getElem hk] at q
      exact q
    · rw [if_neg (by omega)]
      walk_at "go"
      rw [List.getD_eq_getElem?_getD, List.getElem?_eq_none (by omega)] at q
      exact q
theorem ok_l_stream (T : Env K mg) : FnOk P w K mg base CX0 1 (He.ga K "_law_stream") T.fd_l_stream ["_law_cell", "_law_amount"] sp_l_stream := by
  have sc := sc_l_stream
  refine T.F_l_stream.ok sc (fun vs H Q E h => ?_) (fun cdv A outer s H vs Q E hr h => ?_)
  · (first | (obtain ⟨rfl, _⟩ := h; rfl) | (obtain ⟨_, rfl, _⟩ := h; rfl) | (obtain ⟨_, _, rfl, _⟩ := h; rfl) | (obtain ⟨_, _, _, rfl, _⟩ := h; rfl) | (obtain ⟨_, _, _, _, rfl, _⟩ := h; rfl) | (obtain ⟨_, _, _, _, _, rfl, _⟩ := h; rfl) | (obtain ⟨_, _, _, _, _, _, rfl, _⟩ := h; rfl) | (obtain ⟨_, _, _, _, _, _, _, rfl, _⟩ := h; rfl) | (obtain ⟨_, _, _, _, _, _, _, _, rfl, _⟩ := h; rfl) | (obtain ⟨_, _, _, _, _, _, _, _, _, rfl, _⟩ := h; rfl) | (obtain ⟨_, _, _, _, _, _, _, _, _, _, rfl, _⟩ := h; rfl) | (obtain ⟨_, _, _, _, _, _, _, _, _, _, _, rfl, _⟩ := h; rfl) | (obtain ⟨_, _, _, _, _, _, _, _, _, _, _, _, rfl, _⟩ := h; rfl) | (obtain ⟨_, _, _, _, _, _, _, _, _, _, _, _, _, rfl, _⟩ := h; rfl) | (obtain ⟨_, _, _, _, _, _, _, _, _, _, _, _, _, _, rfl, _⟩ := h; rfl) | (obtain ⟨_, _, _, _, _, _, _, _, _, _, _, _, _, _, _, rfl, _⟩ := h; rfl) | (obtain ⟨_, _, _, _, _, _, _, _, _, _, _, _, _, _, _, _, rfl, _⟩ := h; rfl) | (obtain ⟨_, _, _, _, _, _, _, _, _, _, _, _, _, _, _, _, _, rfl, _⟩ := h; rfl) | (obtain ⟨_, _, _, _, _, _, _, _, _, _, _, _, _, _, _, _, _, _, rfl, _⟩ := h; rfl) | (obtain ⟨_, _, _, _, _, _, _, _, _, _, _, _, _, _, _, _, _, _, _, rfl, _⟩ := h; rfl) | (obtain ⟨_, _, _, _, _, _, _, _, _, _, _, _, _, _, _, _, _, _, _, _, rfl, _⟩ := h; rfl) | (obtain ⟨_, _, _, _, _, _, _, _, _, _, _, _, _, _, _, _, _, _, _, _, _, rfl, _⟩ := h; rfl) | (obtain ⟨_, _, _, _, _, _, _, _, _, _, _, _, _, _, _, _, _, _, _, _, _, _, rfl, _⟩ := h; rfl) | (obtain ⟨_, _, _, _, _, _, _, _, _, _, _, _, _, _, _, _, _, _, _, _, _, _, _, rfl, _⟩ := h; rfl) | (obtain ⟨_, _, _, _, _, _, _, _, _, _, _, _, _, _, _, _, _, _, _, _, _, _, _, _, rfl, _⟩ := h; rfl) | (obtain ⟨_, _, _, _, _, _, _, _, _, _, _, _, _, _, _, _, _, _, _, _, _, _, _, _, _, rfl, _⟩ := h; rfl))
  · have hu := hu_of hr
    refine ⟨_, PSs.nox (pss_cons (ps_set (i := 2) sc.nd rfl (.inl rfl) (pe_lst pa_nil))
    (pss_cons (ps_set (i := 3) sc.nd rfl (.inl rfl) (pe_op op_fdiv (pv 0) pe_int))
    (pss_cons (ps_if (pt_cmpR op_eq (pe_op op_mod (pv 0) pe_int) pe_int (nomark _))
    (pss_cons (ps_for PassesOwn.never rfl (pi_range1 (by rfl) T.z_range (pa_cons (pv 1) pa_nil)) (pg_name (i := 4) sc.nd rfl (.inl rfl))
    (pss_cons (ps_expr (pe_bm PySem.F.plainAttrs_list PySem.F.slot_list_append PySem.F.type_list_append mt_append (pv 2) (pa_cons (pe_op op_mod (pv 3) (pe_op op_pow pe_int pe_int)) pa_nil)))
    (pss_one (ps_set (i := 3) sc.nd rfl (.inl rfl) (pe_op op_fdivW (pv 3) (pe_op op_pow pe_int pe_int))))))
    (pss_one (ps_ret (pv 2))))
    pss_nil)
    (pss_cons (ps_set (i := 5) sc.nd rfl (.inl rfl) (pe_op op_add (pe_op op_mod (pv 3) pe_int) pe_int))
    (pss_cons (ps_for PassesOwn.never rfl (pi_range1 (by rfl) T.z_range (pa_cons (pe_op op_add (pv 1) pe_int) pa_nil)) (pg_name (i := 4) sc.nd rfl (.inl rfl))
    (pss_cons (ps_set (i := 5) sc.nd rfl (.inl rfl) (pe_op op_mod (pe_op op_add (pe_op op_add (pe_op op_mul (pv 5) (pv 5)) (pe_op op_mul pe_int (pv 5))) (pv 4)) pe_int))
    (pss_one (ps_expr (pe_bm PySem.F.plainAttrs_list PySem.F.slot_list_append PySem.F.type_list_append mt_append (pv 2) (pa_cons (pe_op op_mod (pe_op op_mul (pv 5) (pe_op op_add (pe_op op_fdiv (pv 5) pe_int) pe_int)) pe_int) pa_nil))))))
    (pss_one (ps_ret (pe_slice sl_l (pv 2) (po_some pe_int) po_none)))))))), ?_⟩
    clear sc hu hr
    obtain ⟨c, n, rfl, hn, q⟩ := h
    replace q := Hd.mk q
    walk_at "go"
    rename_i p hp
    have np : H p = none := hp.2.2.out
    clear hp
    refine ⟨⟨by decide, by decide⟩, ?_⟩
    walk_at "go"
    by_cases h2 : c % 2 = 0
    · walk_at "go"
      refine ⟨by omega, by omega, ?_⟩
      refine forO wko_range (fun i σ H' => ∃ (xs : List Int) (r : Int) (x : Option V), σ = [some (.int c), some (.int (n : Int)), some (.ref p), some (.int r), x, none] ∧ Same H H' ∧ H' p = some (.lst (xs.map V.int)) ∧ xs.length = i) ?_ ?_ ?_ ?_
      · exact ⟨[], _, _, rfl, same_new np, upd_same, rfl⟩
      · exact fun _ _ _ _ => trivial
      · rintro i y σ H1 H2 hi ⟨xs, r, x, rfl, sm, hl, hx⟩ sm2 hy
        have hl2 := sm2 _ _ hl
        walk_at "go"
        refine ⟨.inl ⟨rfl, _, SqL.of hl2⟩, ?_⟩
        refine ⟨by unfold CPow; decide, by rw [List.length_map]; omega, ?_⟩
        walk_at "go"
        refine ⟨by unfold CPow; decide, ⟨by decide, by decide⟩, ?_⟩
        refine ⟨Gr.Same.put' np (sm.trans sm2), xs ++ [r % 10000000000], ?_, by rw [List.length_append, hx]; rfl⟩
        rw [List.map_append]
        rfl
      · rintro σ H1 ⟨xs, r, x, rfl, sm, hl, hx⟩
        walk_at "go"
        exact q.out p H1 xs np sm hl hx
    · walk_at "go"
      refine ⟨by omega, by omega, ?_⟩
      have e1 : ((n : Int) + 1).toNat = n + 1 := by omega
      rw [e1]
      refine forO wko_range (fun i σ H' => ∃ (xs : List Int) (r : Int) (x : Option V), σ = [some (.int c), some (.int (n : Int)), some (.ref p), some (.int (c / 2)), x, some (.int r)] ∧ Same H H' ∧ H' p = some (.lst (xs.map V.int)) ∧ xs.length = i ∧ 0 ≤ r ∧ r < 2147533000) ?_ ?_ ?_ ?_
      · exact ⟨[], _, _, rfl, same_new np, upd_same, rfl, by omega, by omega⟩
      · exact fun _ _ _ _ => trivial
      · rintro i y σ H1 H2 hi ⟨xs, r, x, rfl, sm, hl, hx, hr1, hr2⟩ sm2 hy
        have hl2 := sm2 _ _ hl
        subst hy
        walk_at "go"
        refine ⟨.inl ⟨by omega, by omega⟩, .inl ⟨by omega, by omega⟩, ?_⟩
        walk_at "go"
        refine ⟨.inl ⟨rfl, _, SqL.of hl2⟩, ?_⟩
        generalize hr' : (r * r + 48271 * r + (i : Int)) % 2147483647 = r'
        have hr3 : 0 ≤ r' ∧ r' < 2147483647 := by omega
        walk_at "go"
        refine ⟨⟨by decide, by decide⟩, .inl ⟨by omega, by omega⟩, by rw [List.length_map]; omega, ?_⟩
        refine ⟨Gr.Same.put' np (sm.trans sm2), xs ++ [r' * (r' / 613 + 40692) % 2147483399], ?_, by rw [List.length_append, hx]; rfl, by omega⟩
        rw [List.map_append]
        rfl
      · rintro σ H1 ⟨xs, r, x, rfl, sm, hl, hx, hr1, hr2⟩
        walk_at "go"
        rename_i l hl1
        have nl : H1 l = none := hl1.2.2.out
        clear hl1
        rw [cutV_1]
        have nlp := ne_of_none hl nl
        refine q.out l _ (xs.drop 1) (sm.free nl) (Gr.Same.put' (sm.free nl) sm) ?_ (by rw [List.length_drop, hx]; omega)
        rw [upd_same, List.map_drop]
theorem ok_l_hands (T : Env K mg) : FnOk P w K mg base CX0 2 (He.ga K "_law_hands") T.fd_l_hands ["_law_cell"] sp_l_hands := by
  have sc := sc_l_hands
  refine T.F_l_hands.ok sc (fun vs H Q E h => ?_) (fun cdv A outer s H vs Q E hr h => ?_)
  · (first | (obtain ⟨rfl, _⟩ := h; rfl) | (obtain ⟨_, rfl, _⟩ := h; rfl) | (obtain ⟨_, _, rfl, _⟩ := h; rfl) | (obtain ⟨_, _, _, rfl, _⟩ := h; rfl) | (obtain ⟨_, _, _, _, rfl, _⟩ := h; rfl) | (obtain ⟨_, _, _, _, _, rfl, _⟩ := h; rfl) | (obtain ⟨_, _, _, _, _, _, rfl, _⟩ := h; rfl) | (obtain ⟨_, _, _, _, _, _, _, rfl, _⟩ := h; rfl) | (obtain ⟨_, _, _, _, _, _, _, _, rfl, _⟩ := h; rfl) | (obtain ⟨_, _, _, _, _, _, _, _, _, rfl, _⟩ := h; rfl) | (obtain ⟨_, _, _, _, _, _, _, _, _, _, rfl, _⟩ := h; rfl) | (obtain ⟨_, _, _, _, _, _, _, _, _, _, _, rfl, _⟩ := h; rfl) | (obtain ⟨_, _, _, _, _, _, _, _, _, _, _, _, rfl, _⟩ := h; rfl) | (obtain ⟨_, _, _, _, _, _, _, _, _, _, _, _, _, rfl, _⟩ := h; rfl) | (obtain ⟨_, _, _, _, _, _, _, _, _, _, _, _, _, _, rfl, _⟩ := h; rfl) | (obtain ⟨_, _, _, _, _, _, _, _, _, _, _, _, _, _, _, rfl, _⟩ := h; rfl) | (obtain ⟨_, _, _, _, _, _, _, _, _, _, _, _, _, _, _, _, rfl, _⟩ := h; rfl) | (obtain ⟨_, _, _, _, _, _, _, _, _, _, _, _, _, _, _, _, _, rfl, _⟩ := h; rfl) | (obtain ⟨_, _, _, _, _, _, _, _, _, _, _, _, _, _, _, _, _, _, rfl, _⟩ := h; rfl) | (obtain ⟨_, _, _, _, _, _, _, _, _, _, _, _, _, _, _, _, _, _, _, rfl, _⟩ := h; rfl) | (obtain ⟨_, _, _, _, _, _, _, _, _, _, _, _, _, _, _, _, _, _, _, _, rfl, _⟩ := h; rfl) | (obtain ⟨_, _, _, _, _, _, _, _, _, _, _, _, _, _, _, _, _, _, _, _, _, rfl, _⟩ := h; rfl) | (obtain ⟨_, _, _, _, _, _, _, _, _, _, _, _, _, _, _, _, _, _, _, _, _, _, rfl, _⟩ := h; rfl) | (obtain ⟨_, _, _, _, _, _, _, _, _, _, _, _, _, _, _, _, _, _, _, _, _, _, _, rfl, _⟩ := h; rfl) | (obtain ⟨_, _, _, _, _, _, _, _, _, _, _, _, _, _, _, _, _, _, _, _, _, _, _, _, rfl, _⟩ := h; rfl) | (obtain ⟨_, _, _, _, _, _, _, _, _, _, _, _, _, _, _, _, _, _, _, _, _, _, _, _, _, rfl, _⟩ := h; rfl))
  · have hu := hu_of hr
    refine ⟨_, PSs.nox (pss_cons (ps_set (i := 1) sc.nd rfl (.inl rfl) (pe_ix ix_l (pe_lst (pa_cons pe_int (pa_cons pe_int (pa_cons pe_int (pa_cons pe_int (pa_cons pe_int (pa_cons pe_int pa_nil))))))) (pe_op op_mod (pv 0) pe_int) (fun _ _ => rfl)))
    (pss_cons (ps_if (pt_cmpR op_eq (pe_op op_mod (pe_op op_fdiv (pv 0) pe_int) pe_int) pe_int (nomark _))
    (pss_one (ps_ret (pe_listRg rfl (by rfl) T.z_list (prg_1 (by rfl) T.z_range (pv 1)))))
    pss_nil)
    (pss_cons (ps_set (i := 2) sc.nd rfl (.inl rfl) (pe_lst pa_nil))
    (pss_cons (ps_for PassesOwn.never rfl (pi_l (K := K) rfl (pe_call (ok_l_stream T) (hr.mono (by decide)) (by rfl) T.g_l_stream T.F_l_stream.kp (b_l_stream T) .nil pass0 (pa_cons (pv 0) (pa_cons (pv 1) pa_nil)))) (pg_name (i := 3) sc.nd rfl (.inl rfl))
    (pss_one (ps_if (pt_cmpR (op_notInd (hu65 hr)) (pe_op op_mod (pv 3) pe_int) (pv 2) (by rfl))
    (pss_one (ps_expr (pe_bm PySem.F.plainAttrs_list PySem.F.slot_list_append PySem.F.type_list_append mt_append (pv 2) (pa_cons (pe_op op_mod (pv 3) pe_int) pa_nil))))
    pss_nil)))
    (pss_one (ps_ret (pe_callB cr_sortL (by rfl) T.z_sorted (by decide +kernel) (pa_cons (pv 2) pa_nil)))))))), ?_⟩
    clear sc hu hr
    obtain ⟨c, rfl, q⟩ := h
    replace q := Hd.mk q
    walk_at "go"
    have ham : ∃ k : Nat, atI [V.int 3, V.int 2, V.int 5, V.int 4, V.int 3, V.int 1] (c % 6) = some (.int (k : Int)) ∧ 1 ≤ k ∧ k ≤ 5 := by
      have h6 : c % 6 = 0 ∨ c % 6 = 1 ∨ c % 6 = 2 ∨ c % 6 = 3 ∨ c % 6 = 4 ∨ c % 6 = 5 := by omega
      rcases h6 with e | e | e | e | e | e <;> rw [e]
      · exact ⟨3, rfl, by decide, by decide⟩
      · exact ⟨2, rfl, by decide, by decide⟩
      · exact ⟨5, rfl, by decide, by decide⟩
      · exact ⟨4, rfl, by decide, by decide⟩
      · exact ⟨3, rfl, by decide, by decide⟩
      · exact ⟨1, rfl, by decide, by decide⟩
    obtain ⟨k, ek, k1, k5⟩ := ham
    rename_i l0 hl0
    have n0 : H l0 = none := hl0.2.2.out
    clear hl0
    refine ⟨_, ek, ?_⟩
    generalize eH : upd H l0 (.lst [V.int 3, V.int 2, V.int 5, V.int 4, V.int 3, V.int 1]) = H0
    have sm0 : Same H H0 := by rw [← eH]; exact same_new n0
    clear eH n0 ek
    walk_at "go"
    refine ⟨⟨by decide, by decide⟩, ?_⟩
    by_cases h2 : c / 6 % 2 = 0
    · walk_at "go"
      refine ⟨⟨by omega, by omega, by omega, by omega, by omega⟩, fun l nl => ?_⟩
      refine q.out l _ (List.range k) (sm0.free nl) (Gr.Same.put' (sm0.free nl) sm0) ?_ List.nodup_range (fun h hh => by have := List.mem_range.mp hh; omega) (fun z => by have := congrArg List.length z; rw [List.length_range] at this; simp at this; omega) (by rw [List.length_range]; omega)
      rw [upd_same]
      unfold rgV vNat
      have e1 : ((k : Int) - 0).toNat = k := by omega
      rw [e1]
      refine congrArg (fun z => some (HO.lst z)) (List.map_congr_left fun i _ => by rw [Int.zero_add])
    · walk_at "go"
      rename_i l1 hl1
      have n1 : H0 l1 = none := hl1.2.2.out
      clear hl1
      refine ⟨c, k, rfl, by omega, fun l2 H1 xs n2 sm1 h2' hxl => ?_⟩
      have hl1 := sm1 _ _ (upd_same (H := H0) (a := l1) (o := .lst []))
      have n12 : l1 ≠ l2 := ne_of_none (upd_same (H := H0) (a := l1) (o := .lst [])) n2
      walk_at "go"
      have wk : WkO (Itl K l2) (fun H => H l2 = some (.lst (xs.map V.int))) (xs.map V.int).length fun i x _ => (xs.map V.int)[i]? = some x := wko_list
      refine forO wk (fun i σ H' => ∃ (fs : List Int) (x : Option V), σ = [some (.int c), some (.int (k : Int)), some (.ref l1), x] ∧ Same H0 H' ∧ H' l1 = some (.lst (fs.map V.int)) ∧ H' l2 = some (.lst (xs.map V.int)) ∧ fs.Nodup ∧ (∀ z ∈ fs, 0 ≤ z ∧ z < 63) ∧ fs.length ≤ i ∧ (0 < i → fs ≠ [])) ?_ ?_ ?_ ?_
      · exact ⟨[], none, rfl, (same_new n1).trans sm1, hl1, h2', List.nodup_nil, (fun z hz => by cases hz), Nat.le_refl _, (fun z => by omega)⟩
      · rintro i σ H' ⟨_, _, _, _, _, e, _⟩
        exact e
      · rintro i y σ H2 H3 hi ⟨fs, x, rfl, sm2, e1, e2, e3, e4, e5, e6⟩ sm3 hy
        obtain ⟨z, ez, rfl⟩ : ∃ z : Int, xs[i]? = some z ∧ .int z = y := by simpa using hy
        have e13 := sm3 _ _ e1
        have e23 := sm3 _ _ e2
        generalize hz63 : z % 63 = z'
        have hz0 : 0 ≤ z' ∧ z' < 63 := by omega
        rw [List.length_map] at hi
        walk_at "go"
        refine ⟨.int z', fs.map D.int, l1, fs.map V.int, rfl, rfl, e13, RpL.ints.mpr rfl, by simp [D.ok, D.good, D.dep], okL_int _, ?_⟩
        rw [if_pos rfl, show decide (D.int z' ∈ fs.map D.int) = decide (z' ∈ fs) from decide_eq_decide.mpr mem_ints]
        by_cases hin : z' ∈ fs
        · walk_at "go"
          exact ⟨sm2.trans sm3, fs, rfl, e3, e4, by omega, fun _ ez => by rw [ez] at hin; cases hin⟩
        · walk_at "go"
          refine ⟨.inl ⟨rfl, _, SqL.of e13⟩, ?_⟩
          walk_at "go"
          refine ⟨by rw [List.length_map]; omega, Gr.Same.put' n1 (sm2.trans sm3), fs ++ [z'], by rw [List.map_append]; rfl, ?_, ?_, ?_, by rw [List.length_append]; exact Nat.succ_le_succ e5, fun _ ez => by simp at ez⟩
          · rw [upd_ne n12.symm]
            exact e23
          · rw [List.nodup_append]
            refine ⟨e3, by simp, ?_⟩
            intro a ha b hb
            rw [List.mem_singleton] at hb
            rw [hb]
            intro eab
            rw [eab] at ha
            exact hin ha
          · intro a ha
            rcases List.mem_append.mp ha with h | h
            · exact e4 a h
            · rw [List.mem_singleton.mp h]; exact hz0
      · rintro σ H2 ⟨fs, x, rfl, sm2, e1, e2, e3, e4, e5, e6⟩
        walk_at "go"
        refine ⟨fs, rfl, fun ks l pk sk nl => ?_⟩
        have ek : ks = (ks.map Int.toNat).map fun (h : Nat) => (h : Int) := by
          rw [List.map_map]
          refine (List.map_id ks).symm.trans (List.map_congr_left fun a ha => ?_)
          have := e4 a (pk.mem_iff.mp ha)
          show a = ((a.toNat : Nat) : Int)
          omega
        have hk2 : (xs.map V.int).length = k := by rw [List.length_map, hxl]
        refine q.out l _ (ks.map Int.toNat) (sm2.free nl |> sm0.free) (Gr.Same.put' (sm0.free (sm2.free nl)) (sm0.trans sm2)) ?_ ?_ ?_ ?_ ?_
        · rw [upd_same]
          refine congrArg (fun z => some (HO.lst z)) ((congrArg (List.map V.int) ek).trans ?_)
          unfold vNat
          rw [List.map_map]
          rfl
        · have nk : ks.Nodup := pk.nodup_iff.mpr e3
          refine List.pairwise_map.mpr (List.Pairwise.imp_of_mem (fun {a b} ha hb hne => ?_) nk)
          have h1 := e4 a (pk.mem_iff.mp ha)
          have h2 := e4 b (pk.mem_iff.mp hb)
          omega
        · intro h hh
          obtain ⟨a, ha, rfl⟩ := List.mem_map.mp hh
          have := e4 a (pk.mem_iff.mp ha)
          omega
        · intro z
          have z2 : ks = [] := by simpa using z
          rw [z2] at pk
          exact e6 (by omega) (List.nil_perm.mp pk)
        · rw [List.length_map, pk.length_eq]
          omega
end
end K64

namespace K64
open PySem PySem.Spec PyProof.Rows L2 Gr NdefX
/-! ### what the law notes -/
def keyB (b : Bal) : List Int := [b.1, b.2]
def encP2 (P : List (Bal × D)) : List (List Int × D) := P.map fun p => (keyB p.1, p.2)
/-- the dict of plans by ballots -/
def PlansAt (H : Hp) (a : Addr) (P : List (Bal × D)) : Prop := ∃ m, H a = some (dN m) ∧ RpM H (encP2 P) m
def saidK (x : Nat × Bal) : D := .tup [.int (x.1 : Int), encD x.2]
def SaidAt (P : Program) (w : World) (H : Hp) (a : Addr) (A : List (Nat × Bal)) : Prop := DDs P w H a (A.map fun x => (saidK x, .bl true))
def setA (A : List (Nat × Bal)) (x : Nat × Bal) : List (Nat × Bal) := if x ∈ A then A else A ++ [x]
def setP (P : List (Bal × D)) (b : Bal) (p : D) : List (Bal × D) := match getA P b with
  | some _ => P
  | none => P ++ [(b, p)]
/-- the change's own answer to noted -/
def Chg.noted (c : Chg) (h : Nat) (A : List (Nat × Bal)) (P : List (Bal × D)) : Bool := match c.yes with
  | none => decide (c.votes = 0) && c.agreed.isNone
  | some y => decide ((getA P y.1).getD y.2 = y.2) && (match c.ballot with
    | none => false
    | some b => !ltB b y.1) && (List.range 63).all (fun i => !c.votes.testBit i || decide ((i, y.1) ∈ setA A (h, y.1))) && c.votes.testBit h && decide (c.votes < 2 ^ 63)
def Chg.notedA (c : Chg) (h : Nat) (A : List (Nat × Bal)) : List (Nat × Bal) := match c.yes with
  | none => A
  | some y => setA A (h, y.1)
def Chg.notedP (c : Chg) (P : List (Bal × D)) : List (Bal × D) := match c.yes with
  | none => P
  | some y => setP P y.1 y.2
def sp_l_noted (Pr : Program) (w : World) (C : Addr) : Sp := fun vs H Q _ => ∃ (p r a b : Addr) (c : Chg) (h : Nat) (A : List (Nat × Bal)) (P : List (Bal × D)), vs = [.ref p, .int (h : Int), .ref a, .ref b] ∧ ChgAt C H p c r ∧ SaidAt Pr w H a A ∧ PlansAt H b P ∧ A.length < 100000 ∧ P.length < 100000 ∧ h < 63 ∧
  (∀ p ∈ P, p.2.ok = true) ∧ (∀ y, c.yes = some y → y.2.ok = true) ∧ c.noted h A P = true ∧ ∀ H', Fr [a, b] H H' → SaidAt Pr w H' a (c.notedA h A) → PlansAt H' b (c.notedP P) → Q (.bl true) H'
theorem saidK_good (x : Nat × Bal) : (saidK x).good = true := by simp [saidK, encD, D.good, D.goodL]
theorem saidK_dep (x : Nat × Bal) : (saidK x).dep ≤ 8 := by simp [saidK, encD, D.dep, D.depL]
theorem saidK_inj {x y : Nat × Bal} (h : saidK x = saidK y) : x = y := by
  obtain ⟨a, b1, b2⟩ := x
  obtain ⟨c, d1, d2⟩ := y
  simp only [saidK, encD, D.tup.injEq, List.cons.injEq, D.int.injEq, and_true] at h
  obtain ⟨h1, h2, h3⟩ := h
  rw [h2, h3, show a = c by omega]
theorem said_get (A : List (Nat × Bal)) (x : Nat × Bal) : (getA (A.map fun x => (saidK x, V.bl true)) (saidK x)).isSome = decide (x ∈ A) := by
  rw [← getA_any, List.any_map]
  by_cases h : x ∈ A
  · rw [decide_eq_true h]
    exact List.any_eq_true.mpr ⟨x, h, decide_eq_true rfl⟩
  · rw [decide_eq_false h]
    refine Bool.eq_false_iff.mpr fun z => h ?_
    obtain ⟨y, hy, e⟩ := List.any_eq_true.mp z
    rw [← saidK_inj (of_decide_eq_true e)]
    exact hy
theorem said_put (A : List (Nat × Bal)) (x : Nat × Bal) : putA (A.map fun x => (saidK x, V.bl true)) (saidK x) (.bl true) = (setA A x).map fun x => (saidK x, V.bl true) := by
  unfold putA setA
  rw [getA_any, said_get]
  by_cases h : x ∈ A
  · rw [if_pos (decide_eq_true h), if_pos h, List.map_map]
    refine List.map_congr_left fun y _ => ?_
    show (if saidK y = saidK x then (saidK y, V.bl true) else (saidK y, V.bl true)) = (saidK y, V.bl true)
    split <;> rfl
  · rw [if_neg (by simp [h]), if_neg h, List.map_append]
    rfl
theorem encP2_get (P : List (Bal × D)) (b : Bal) : getA (encP2 P) [b.1, b.2] = getA P b := by
  induction P with
  | nil => rfl
  | cons p P ih =>
    unfold encP2
    rw [List.map_cons]
    by_cases e : p.1 = b
    · rw [getA_pos e, getA_pos (p := (keyB p.1, p.2)) (show keyB p.1 = [b.1, b.2] by rw [e]; rfl)]
    · rw [getA_neg e, getA_neg (p := (keyB p.1, p.2)) (show ¬ keyB p.1 = [b.1, b.2] from fun z => e ?_)]
      · exact ih
      · simp only [keyB, List.cons.injEq, and_true] at z
        exact Prod.ext z.1 z.2
theorem bit_c' {n k : Nat} : (Builtin.bitAnd ((n : Int) / 2 ^ k) 1 = 1) = (n.testBit k = true) := by
  rw [← bit_c, decide_eq_true_eq]
local macro_rules | `(tactic| walk_at "s") => `(tactic| simp only [a_seq, a_next, a_ifS, a_asg, a_ret, a_retN, a_drop, a_break, a_cont, a_test, a_b, a_op, a_un, a_var, a_c, a_name, a_tupt, a_gcons, a_gnil, a_gsub, a_call, a_meth, a_make, a_cb, a_cons, a_nil, a_fldC, a_sfldC, a_not, a_and, a_or, a_andV, a_orV, a_notV, a_if, a_tup, a_lst, a_dget, a_dget2, a_din, a_dnotin, a_dput, a_dnewK, a_dnewT, a_aug, a_par, a_sl, a_part, a_nopart, a_bm, a_bm0, tPairs, a_disp, a_iLst, a_iTpl, a_iVals, a_iKeys, a_iRng1, a_iRng2, a_I0, a_I, a_U, a_eq, a_ne, a_ixt, a_ixl, a_lenl, a_lent, a_sll, a_sumL, a_sortL, a_sortD, a_listRg, a_rg1, a_append, a_yes, a_setdN, a_ddnotin, a_ddput, a_lenq, a_ixq, a_slq, a_methG, a_callC, a_ndefM, tFor_eq, tLc_eq,
  scal_ii, scal_nn, scal_in, scal_ni, scal_bb, scal_ss, scal_sn, scal_ns, L2.start, cx_K, cx_P, cx_w, bit_c, wipe, Int.natCast_inj, bitAnd_c, bitOr_c, shl1_c, Int.zero_add, Int.add_zero, Int.reduceLT, Int.reduceLE, Int.reducePow, Int.reduceNeg, Int.reduceToNat, Int.toNat_natCast, Int.natCast_nonneg,
  at_lit0, at_lit1, at_lit2, at_lit3, at_lit4, at_lit5, at_lit6, at_lit7, upd_same, upd_ne, Gr.upd_none, ne_eq, Option.isSome_some, sizeLine_eq, Nat.reduceLeDiff, upd_upd, Nat.reduceLT,
  List.map_cons, List.map_nil, List.length_cons, List.length_nil, List.replicate, List.cons_append, List.nil_append, List.append_nil, List.getElem?_cons_succ, List.getElem?_cons_zero, List.set_cons_succ, List.set_cons_zero,
  Option.some.injEq, V.ref.injEq, V.int.injEq, V.bl.injEq, V.str.injEq, List.cons.injEq, exists_eq_left, exists_eq_left', exists_eq_right, exists_eq, exists_eq', exists_and_left, exists_and_right, exists_const, true_and, and_true, and_self, ite_true, ite_false, if_true, if_false, reduceCtorEq, decide_true, decide_false, decide_eq_true_eq, Bool.not_true, Bool.not_false, Bool.not_eq_true', decide_eq_false_iff_not, Bool.false_eq_true, not_true_eq_false, not_false_eq_true, eq_self, HO.ins.injEq, HO.tup.injEq, HO.lst.injEq, and_assoc, Nat.reduceSub, Nat.reduceAdd, Nat.sub_self, reduceIte, ln_F_Change, in_Change_0, ll_Change_0, lk_Change_me, pt_Change_me, in_Change_1, ll_Change_1, lk_Change_hands, pt_Change_hands, in_Change_2, ll_Change_2, lk_Change_ballot, pt_Change_ballot, in_Change_3, ll_Change_3, lk_Change_yes, pt_Change_yes, in_Change_4, ll_Change_4, lk_Change_votes, pt_Change_votes, in_Change_5, ll_Change_5, lk_Change_reports, pt_Change_reports, in_Change_6, lk_Change_agreed, pt_Change_agreed, nm_Change_begin, nm_Change_message, nm_Change_receive, nm_Change_receive_yes, nm_Change_unplanned, nm_Change_settle, nm_Change_enough, nm_Change_propose, nm_Change_settled, N_has, N_hands_of, N_many, N_more_than_half, N_under, N_ballot_of, N_Change_init, N_Change_begin, N_Change_message, N_Change_receive, N_Change_receive_yes, N_Change_unplanned, N_Change_settle, N_Change_enough, N_Change_propose, N_Change_settled, N_l_cell_at, N_l_stream, N_l_hands, N_l_propose, N_l_noted, N_l_kept, N_l_agreed, N_l_deed, N_l_right, N_law, N_l_propose_law_make, *])
local macro_rules | `(tactic| walk_at "e") => `(tactic| first | assumption | rfl | (refine Gr.Fz.out ?_; first | assumption | (simp only [*]; done)) | (simp only [*]; done) | (simp [*]; done))
local macro_rules | `(tactic| walk_at "fr") => `(tactic| (repeat first | exact Gr.Fr.refl _ _ | assumption | (refine Gr.Fr.put' ?_ ?_; focus (first | (right; assumption) | (right; refine Gr.Fz.out ?_; simp only [*]; done) | (left; simp; done)))))
local macro_rules | `(tactic| walk_at "tp") => `(tactic| (repeat first | exact Gr.Tups.refl _ | assumption | (refine Gr.Tups.put' ?_ ?_; focus (first | (refine Gr.not_tup_none ?_; first | assumption | (refine Gr.Fz.out ?_; simp only [*]; done)) | (refine Gr.not_tup_of (by assumption) (fun xs z => ?_); cases z; done)))))
local macro_rules | `(tactic| walk_at "sm") => `(tactic| (repeat first | exact L2.Same.refl _ | assumption | (refine Gr.Same.put' ?_ ?_; focus (first | assumption | (refine Gr.Fz.out ?_; simp only [*]; done)))))
local macro_rules | `(tactic| walk_at "go") => `(tactic| ((try walk_at "s"); first | (intro _ hh; (try simp only [L2.upd_upd, Gr.upd_none, ne_eq, and_assoc] at hh); (try simp only [Gr.none_fz] at hh); walk_at "go") | (refine Gr.Cn.go ?_; walk_at "go") | skip))

section
variable {P : Program} {w : World} {K : PySem.W.Frag} {mg : Str → Option Value} {base : Heap}
theorem ok_l_noted (T : Env K mg) : FnOk P w K mg base CX0 2 (He.ga K "_law_noted") T.fd_l_noted ["_law_change", "_law_hand", "_law_said", "_law_plans"] (sp_l_noted P w (He.ga K "Change")) := by
  have sc := sc_l_noted
  refine T.F_l_noted.ok sc (fun vs H Q E h => ?_) (fun cdv A outer s H vs Q E hr h => ?_)
  · (first | (obtain ⟨rfl, _⟩ := h; rfl) | (obtain ⟨_, rfl, _⟩ := h; rfl) | (obtain ⟨_, _, rfl, _⟩ := h; rfl) | (obtain ⟨_, _, _, rfl, _⟩ := h; rfl) | (obtain ⟨_, _, _, _, rfl, _⟩ := h; rfl) | (obtain ⟨_, _, _, _, _, rfl, _⟩ := h; rfl) | (obtain ⟨_, _, _, _, _, _, rfl, _⟩ := h; rfl) | (obtain ⟨_, _, _, _, _, _, _, rfl, _⟩ := h; rfl) | (obtain ⟨_, _, _, _, _, _, _, _, rfl, _⟩ := h; rfl) | (obtain ⟨_, _, _, _, _, _, _, _, _, rfl, _⟩ := h; rfl) | (obtain ⟨_, _, _, _, _, _, _, _, _, _, rfl, _⟩ := h; rfl) | (obtain ⟨_, _, _, _, _, _, _, _, _, _, _, rfl, _⟩ := h; rfl) | (obtain ⟨_, _, _, _, _, _, _, _, _, _, _, _, rfl, _⟩ := h; rfl) | (obtain ⟨_, _, _, _, _, _, _, _, _, _, _, _, _, rfl, _⟩ := h; rfl) | (obtain ⟨_, _, _, _, _, _, _, _, _, _, _, _, _, _, rfl, _⟩ := h; rfl) | (obtain ⟨_, _, _, _, _, _, _, _, _, _, _, _, _, _, _, rfl, _⟩ := h; rfl) | (obtain ⟨_, _, _, _, _, _, _, _, _, _, _, _, _, _, _, _, rfl, _⟩ := h; rfl) | (obtain ⟨_, _, _, _, _, _, _, _, _, _, _, _, _, _, _, _, _, rfl, _⟩ := h; rfl) | (obtain ⟨_, _, _, _, _, _, _, _, _, _, _, _, _, _, _, _, _, _, rfl, _⟩ := h; rfl) | (obtain ⟨_, _, _, _, _, _, _, _, _, _, _, _, _, _, _, _, _, _, _, rfl, _⟩ := h; rfl) | (obtain ⟨_, _, _, _, _, _, _, _, _, _, _, _, _, _, _, _, _, _, _, _, rfl, _⟩ := h; rfl) | (obtain ⟨_, _, _, _, _, _, _, _, _, _, _, _, _, _, _, _, _, _, _, _, _, rfl, _⟩ := h; rfl) | (obtain ⟨_, _, _, _, _, _, _, _, _, _, _, _, _, _, _, _, _, _, _, _, _, _, rfl, _⟩ := h; rfl) | (obtain ⟨_, _, _, _, _, _, _, _, _, _, _, _, _, _, _, _, _, _, _, _, _, _, _, rfl, _⟩ := h; rfl) | (obtain ⟨_, _, _, _, _, _, _, _, _, _, _, _, _, _, _, _, _, _, _, _, _, _, _, _, rfl, _⟩ := h; rfl) | (obtain ⟨_, _, _, _, _, _, _, _, _, _, _, _, _, _, _, _, _, _, _, _, _, _, _, _, _, rfl, _⟩ := h; rfl))
  · have hu := hu_of hr
    refine ⟨_, PSs.nox (pss_cons (ps_if (pt_cmpR op_isN (pe_fldC (K := K) rfl T.c_Change T.n_Change_yes (pv 0) rfl) pe_non (nomark _))
    (pss_one (ps_ret (pe_and (pe_cmpR op_eq (pe_fldC (K := K) rfl T.c_Change T.n_Change_votes (pv 0) rfl) pe_int (nomark _)) (pe_one (pe_cmpR op_isN (pe_meth0 (pv 0) T.c_Change T.m_Change_settled (ok_Change_settled T) (hr.mono (by decide)) (b_Change_settled T) .nil pass0) pe_non (nomark _))))))
    pss_nil)
    (pss_cons (ps_asg (pe_fldC (K := K) rfl T.c_Change T.n_Change_yes (pv 0) rfl) (pg_tupt (n := 2) rfl (pgs_cons (pg_name (i := 4) sc.nd rfl (.inl rfl)) (pgs_cons (pg_name (i := 5) sc.nd rfl (.inl rfl)) pgs_nil))))
    (pss_cons (ps_ddput (hu65 hr) (pv 2) (pe_tup (pa_cons (pv 1) (pa_cons (pv 4) pa_nil))) pe_bl rfl)
    (pss_cons (ps_up (ps_if (PW.pt (pw_or (pt_cmpR (op_ned hr.units) (pe_setdN hu (pv 3) (pv 4) (pv 5) ⟨rfl, rfl, rfl, rfl⟩) (pv 5) (nomark _)) (pw_or (pt_cmpR op_isN (pe_fldC (K := K) rfl T.c_Change T.n_Change_ballot (pv 0) rfl) pe_non (nomark _)) (pw_or1 (pt_cmpR (op_gtP hr.units) (pv 4) (pe_fldC (K := K) rfl T.c_Change T.n_Change_ballot (pv 0) rfl) (nomark _))))))
    (pss_one (ps_ret pe_bl))
    pss_nil))
    (pss_cons (ps_for PassesOwn.never rfl (pi_range1 (by rfl) T.z_range (pa_cons pe_int pa_nil)) (pg_name (i := 6) sc.nd rfl (.inl rfl))
    (pss_one (ps_if (PW.pt (pw_and (pt_cmpR op_eq (pe_op op_and (pe_op op_shr (pe_fldC (K := K) rfl T.c_Change T.n_Change_votes (pv 0) rfl) (pv 6)) pe_int) pe_int (nomark _)) (pw_and1 (pt_cmp (pc_ddnotin (hu65 hr) (pe_tup (pa_cons (pv 6) (pa_cons (pv 4) pa_nil))) (pv 2)) (by rfl)))))
    (pss_one (ps_ret pe_bl))
    pss_nil)))
    (pss_one (ps_ret (pe_and (pe_cmpR op_eq (pe_op op_and (pe_op op_shr (pe_fldC (K := K) rfl T.c_Change T.n_Change_votes (pv 0) rfl) (pv 1)) pe_int) pe_int (nomark _)) (pe_one (pe_cmpR op_lt (pe_fldC (K := K) rfl T.c_Change T.n_Change_votes (pv 0) rfl) (pe_op op_shl pe_int pe_int) (nomark _))))))))))), ?_⟩
    clear sc hu hr
    obtain ⟨p, r, a, b, c, h, A, Pm, rfl, hC, hA, hP, hAl, hPl, hh, hPo, hyo, hn, q⟩ := h
    replace q := Hd.mk q
    replace hPo := Hd.mk hPo
    replace hyo := Hd.mk hyo
    obtain ⟨⟨dx, bv, yv, av, hp, hb, hy, ha⟩, ⟨m, hr, hm⟩, h7, h8, h9⟩ := id hC
    cases hye : c.yes with
    | none =>
      rw [hye] at hy
      simp only [encY, Rp] at hy
      subst hy
      have eA : c.notedA h A = A := by unfold Chg.notedA; rw [hye]
      have eP : c.notedP Pm = Pm := by unfold Chg.notedP; rw [hye]
      rw [eA, eP] at q
      unfold Chg.noted at hn
      rw [hye] at hn
      simp only [Bool.and_eq_true, decide_eq_true_eq, Option.isNone_iff_eq_none] at hn
      have hv0 : ((c.votes : Nat) : Int) = 0 := by rw [hn.1]; rfl
      walk_at "go"
      refine ⟨p, r, c, rfl, hC, fun v hv => ?_⟩
      rw [hn.2] at hv
      obtain rfl : v = .non := hv
      exact q.out H (Fr.refl _ _) hA hP
    | some y =>
      rw [hye] at hy
      have hy0 := hy
      simp only [encY, Rp, RpL] at hy
      obtain ⟨t, vs, rfl, ht, v1, r1, rfl, g1, v2, r2, rfl, g2, rfl⟩ := hy
      have eA : c.notedA h A = setA A (h, y.1) := by unfold Chg.notedA; rw [hye]
      have eP : c.notedP Pm = setP Pm y.1 y.2 := by unfold Chg.notedP; rw [hye]
      rw [eA, eP] at q
      unfold Chg.noted at hn
      rw [hye] at hn
      cases hbal : c.ballot with
      | none => rw [hbal] at hn; simp at hn
      | some bb =>
      rw [hbal] at hn hb
      simp only [Bool.and_eq_true, Bool.or_eq_true, decide_eq_true_eq, Bool.not_eq_true', List.all_eq_true, List.mem_range] at hn
      obtain ⟨⟨⟨⟨hn1, hn2⟩, hn3⟩, hn4⟩, hn5⟩ := hn
      walk_at "go"
      rename_i t1 ht1
      have nt1 : H t1 = none := ht1.2.2.out
      have sm1 : Same H (upd H t1 (.tup [.int (h : Int), v1])) := same_new nt1
      have k1 : Rp (upd H t1 (.tup [.int (h : Int), v1])) (saidK (h, y.1)) (.ref t1) := ⟨t1, _, rfl, upd_same, _, _, rfl, rfl, v1, [], rfl, g1.at (Tups.of_same sm1), rfl⟩
      have hA1 := DDs.at hA (Tups.of_same sm1) fun o => sm1 a o
      refine ⟨saidK (h, y.1), _, hA1, k1, saidK_good _, saidK_dep _, by rw [List.length_map]; omega, fun H2 ho2 fr2 tp2 hA2 => ?_⟩
      clear ho2
      have fr12 : Fr [a] H H2 := (Fr.of_same sm1).trans fr2
      have tp12 : Tups H H2 := (Tups.of_same sm1).trans tp2
      obtain ⟨mp, hP1, hP2⟩ := hP
      have nba : b ≠ a := by
        obtain ⟨xs, e1, _⟩ := hA
        exact ne_of hP1 e1 fun z => by unfold dN ddO at z; cases z
      have hP1' := fr12 b _ hP1 (by simp [nba])
      have hP2' := hP2.at tp12
      obtain ⟨xs0, hA0, _⟩ := id hA
      have npa : p ≠ a := ne_of hp hA0 fun z => by unfold ddO at z; cases z
      have npb : p ≠ b := ne_of hp hP1 fun z => by unfold dN at z; cases z
      have hp2 := fr12 p _ hp (by simp [npa])
      have hb2 := hb.at tp12
      have g12 := g1.at tp12
      have g22 := g2.at tp12
      have g1' := g12
      simp only [encB, Rp, RpL] at g1'
      obtain ⟨tb, vs, rfl, htb, u1, r1, rfl, rfl, u2, r2, rfl, rfl, rfl⟩ := g1'
      have hmpl : mp.length < 1000000 := by rw [hP2.length, encP2, List.length_map]; omega
      have hA2' : SaidAt P w H2 a (setA A (h, y.1)) := by
        unfold SaidAt
        rw [← said_put]
        exact hA2
      have hget := encP2_get Pm y.1
      walk_at "go"
      refine sUp.mk (fun σ' H3 => σ' = [some (.ref p), some (.int (h : Int)), some (.ref a), some (.ref b), some (.ref tb), some v2, none] ∧ Fr [b] H2 H3 ∧ Tups H2 H3 ∧ PlansAt H3 b (setP Pm y.1 y.2)) ?_ ?_
      · walk_at "go"
        have bal : ∀ H3, Fr [b] H2 H3 → Tups H2 H3 → PlansAt H3 b (setP Pm y.1 y.2) → Hd (∃ bv3, H3 p = some (.ins (He.ga K "Change") dx (F_Change.zip [.int (c.me : Int), .int (c.hands : Int), bv3, .ref t, .int (c.votes : Int), .ref r, av])) ∧ ¬ bv3 = .non ∧ Rp H3 (pairD bb) bv3) := fun H3 f3 t3 _ =>
          ⟨bv, f3 p _ hp2 (by simp [npb]), hb2.ne_non (by simp [encB]), hb2.at t3⟩
        have hPe : getA Pm y.1 = none → PlansAt (upd H2 b (dN (putA mp [y.1.1, y.1.2] v2))) b (setP Pm y.1 y.2) := fun en => by
          unfold setP
          rw [en]
          refine ⟨_, upd_same, ?_⟩
          have q1 := (hP2'.at ((Tups.refl H2).put (p := b) (o := dN (putA mp [y.1.1, y.1.2] v2)) (not_tup_of hP1' fun xs z => by unfold dN at z; cases z))).put (k := [y.1.1, y.1.2]) (d := y.2) (v := v2) (g22.at ((Tups.refl H2).put (p := b) (o := dN (putA mp [y.1.1, y.1.2] v2)) (not_tup_of hP1' fun xs z => by unfold dN at z; cases z)))
          have e1 : putA (encP2 Pm) [y.1.1, y.1.2] y.2 = encP2 (Pm ++ [(y.1, y.2)]) := by
            unfold putA
            rw [getA_any, hget, en]
            simp only [Option.isSome_none, Bool.false_eq_true, if_false]
            unfold encP2
            rw [List.map_append]
            rfl
          rw [e1] at q1
          exact q1
        have tpb : Tups H2 (upd H2 b (dN (putA mp [y.1.1, y.1.2] v2))) := (Tups.refl H2).put (not_tup_of hP1' fun xs z => by unfold dN at z; cases z)
        have frb : Fr [b] H2 (upd H2 b (dN (putA mp [y.1.1, y.1.2] v2))) := Fr.upd_in (by simp)
        have yok : y.2.ok = true := hyo.out y hye
        refine ⟨⟨mp, rfl⟩, mp, rfl, [y.1.1, y.1.2], rfl, hmpl, fun v hv => ?_, fun hnone => ?_⟩
        · have := hP2'.get [y.1.1, y.1.2]
          rw [hv, hget] at this
          rcases this with ⟨_, z⟩ | ⟨d, v', e1, e2, e3⟩
          · cases z
          · obtain rfl : v = v' := Option.some.inj e2
            rw [e1] at hn1
            obtain rfl : d = y.2 := hn1
            have ePP : setP Pm y.1 y.2 = Pm := by unfold setP; rw [e1]
            rw [ePP]
            have hPP : PlansAt H2 b Pm := ⟨mp, hP1', hP2'⟩
            obtain ⟨bv3, b1, b2, b3⟩ := (bal H2 (Fr.refl _ _) (Tups.refl _) (by rw [ePP]; exact hPP)).out
            refine ⟨y.2, y.2, e3, g22, yok, yok, ?_⟩
            rw [decide_eq_true rfl]
            clear hp2 hp
            walk_at "go"
            refine ⟨y.1, bb, g12, b3, ?_⟩
            rw [hn2]
            walk_at "go"
            exact ⟨Fr.refl _ _, Tups.refl _⟩
        · have en : getA Pm y.1 = none := by
            have := hP2'.get [y.1.1, y.1.2]
            rw [hnone, hget] at this
            rcases this with ⟨z, _⟩ | ⟨d, v', e1, e2, e3⟩
            · exact z
            · cases e2
          obtain ⟨bv3, b1, b2, b3⟩ := (bal _ frb tpb (hPe en)).out
          refine ⟨y.2, y.2, g22.at tpb, g22.at tpb, yok, yok, ?_⟩
          rw [decide_eq_true rfl]
          have hPe' := hPe en
          have g13 := g12.at tpb
          generalize upd H2 b (dN (putA mp [y.1.1, y.1.2] v2)) = H3 at b1 b3 tpb frb hPe' g13
          clear hp2 hp hPe
          walk_at "go"
          refine ⟨y.1, bb, g13, b3, ?_⟩
          rw [hn2]
          walk_at "go"
      · rintro _ H3 ⟨rfl, fr3, tp3, hP3⟩
        have hp3 := fr3 p _ hp2 (by simp [npb])
        have hA3 : SaidAt P w H3 a (setA A (h, y.1)) := hA2'.at tp3 fun o e => fr3 a o e (by simp [nba.symm])
        have q := q.out
        have g13 := g12.at tp3
        walk_at "go"
        refine forI wk_range (H0 := H3) (fun i σ H' => Same H3 H' ∧ ∃ x6 : Option V, σ = [some (.ref p), some (.int (h : Int)), some (.ref a), some (.ref b), some (.ref tb), some v2, x6]) ?_ ?_ ?_ ?_
        · exact ⟨Same.refl _, none, rfl⟩
        · rintro i σ H' ⟨e, _⟩
          exact e
        · rintro i x σ H4 H5 hi ⟨sm4, x6, rfl⟩ sm5 hx
          obtain rfl : x = .int ((i : Nat) : Int) := by rw [hx, Int.zero_add]
          have sm35 := sm4.trans sm5
          have hp5 := sm35 _ _ hp3
          have hA5 := DDs.at hA3 (Tups.of_same sm35) fun o => sm35 a o
          have g15 := g13.at (Tups.of_same sm35)
          have h3 := hn3 i hi
          clear hp hp2 hp3 q hn3
          walk_at "go"
          refine ite2 (fun hbt => ?_) (fun _ => trivial)
          have hbt := Eq.mp bit_c' hbt
          intro t5 n5
          have sm55 : Same H5 (upd H5 t5 (.tup [.int (0 + (i : Int)), .ref tb])) := same_new n5
          refine ⟨saidK (i, y.1), _, DDs.at hA5 (Tups.of_same sm55) (fun o => sm55 a o), ⟨t5, _, rfl, upd_same, _, _, rfl, ?_, .ref tb, [], rfl, g15.at (Tups.of_same sm55), rfl⟩, saidK_good _, saidK_dep _, ?_⟩
          · rw [Int.zero_add]; rfl
          · rw [said_get]
            rcases h3 with z | z
            · rw [hbt] at z; cases z
            · rw [decide_eq_true z]
              rw [if_neg (by simp)]
              exact sm35.trans sm55
        · rintro σ H4 ⟨sm4, x6, rfl⟩
          have hp4 := sm4 _ _ hp3
          replace q := Hd.mk q
          clear hp hp2 hp3 hn3
          walk_at "go"
          rw [if_pos (Eq.mpr bit_c' hn4)]
          refine ⟨by unfold CPow; decide, ?_⟩
          have e1 : decide (((c.votes : Nat) : Int) < 1 * 9223372036854775808) = true := decide_eq_true (by omega)
          rw [e1]
          have sm24 := fr3.trans (Fr.of_same sm4)
          refine q.out H4 ((fr12.mono (by simp)).trans (sm24.mono (by simp))) (hA3.at (Tups.of_same sm4) fun o => sm4 a o) ?_
          obtain ⟨m4, e4, e5⟩ := hP3
          exact ⟨m4, sm4 _ _ e4, e5.at (Tups.of_same sm4)⟩
end
end K64

namespace K64
open PySem PySem.Spec PyProof.Rows L2 Gr NdefX
/-! ### what is settled -/
def encS (S : List (Int × (D × Bal))) : List (Int × D) := S.map fun p => (p.1, .tup [p.2.1, encD p.2.2])
def SetAt (H : Hp) (a : Addr) (S : List (Int × (D × Bal))) : Prop := ∃ m, H a = some (dI m) ∧ RpM H (encS S) m
theorem encS_get (S : List (Int × (D × Bal))) (k : Int) : getA (encS S) k = (getA S k).map fun x => .tup [x.1, encD x.2] := getA_map (fun x : D × Bal => D.tup [x.1, encD x.2]) k S
theorem SetAt.fr {H H' : Hp} {a : Addr} {S : List (Int × (D × Bal))} (h : SetAt H a S) (t : Tups H H') (e : ∀ o, H a = some o → H' a = some o) : SetAt H' a S := let ⟨m, h1, h2⟩ := h; ⟨m, e _ h1, h2.at t⟩
theorem PlansAt.fr {H H' : Hp} {a : Addr} {S : List (Bal × D)} (h : PlansAt H a S) (t : Tups H H') (e : ∀ o, H a = some o → H' a = some o) : PlansAt H' a S := let ⟨m, h1, h2⟩ := h; ⟨m, e _ h1, h2.at t⟩
def Chg.keptS (c : Chg) (h : Nat) (S : List (Int × (D × Bal))) : List (Int × (D × Bal)) := match c.agreed, c.yes with
  | some d, some y => if (getA S (h : Int)).isSome = true then S else S ++ [((h : Int), (d, y.1))]
  | _, _ => S
def sp_l_kept (C : Addr) : Sp := fun vs H Q _ => ∃ (p r s : Addr) (c : Chg) (h : Nat) (S : List (Int × (D × Bal))) (bf : Option Bal) (bv : V), vs = [.ref p, .int (h : Int), .ref s, bv] ∧ ChgAt C H p c r ∧ SetAt H s S ∧ Rp H (encB bf) bv ∧ S.length < 100000 ∧
  (∀ b, bf = some b → ∃ b', c.ballot = some b' ∧ ltB b' b = false) ∧ (c.agreed = none → getA S (h : Int) = none) ∧ (∀ d, c.agreed = some d → d.ok = true ∧ (∃ y, c.yes = some y) ∧ ∀ x, getA S (h : Int) = some x → x.1 = d) ∧
  ∀ H', Fr [s] H H' → SetAt H' s (c.keptS h S) → Q (.bl true) H'
local macro_rules | `(tactic| walk_at "s") => `(tactic| simp only [a_seq, a_next, a_ifS, a_asg, a_ret, a_retN, a_drop, a_break, a_cont, a_test, a_b, a_op, a_un, a_var, a_c, a_name, a_tupt, a_gcons, a_gnil, a_gsub, a_call, a_meth, a_make, a_cb, a_cons, a_nil, a_fldC, a_sfldC, a_not, a_and, a_or, a_andV, a_orV, a_notV, a_if, a_tup, a_lst, a_dget, a_dget2, a_din, a_dnotin, a_dput, a_dnewK, a_dnewT, a_aug, a_par, a_sl, a_part, a_nopart, a_bm, a_bm0, tPairs, a_disp, a_iLst, a_iTpl, a_iVals, a_iKeys, a_iRng1, a_iRng2, a_I0, a_I, a_U, a_eq, a_ne, a_ixt, a_ixl, a_lenl, a_lent, a_sll, a_sumL, a_sortL, a_sortD, a_listRg, a_rg1, a_append, a_yes, a_setdN, a_ddnotin, a_ddput, a_lenq, a_ixq, a_slq, a_methG, a_callC, a_ndefM, tFor_eq, tLc_eq,
  scal_ii, scal_nn, scal_in, scal_ni, scal_bb, scal_ss, scal_sn, scal_ns, L2.start, cx_K, cx_P, cx_w, bit_c, wipe, Int.natCast_inj, bitAnd_c, bitOr_c, shl1_c, Int.zero_add, Int.add_zero, Int.reduceLT, Int.reduceLE, Int.reducePow, Int.reduceNeg, Int.reduceToNat, Int.toNat_natCast, Int.natCast_nonneg,
  at_lit0, at_lit1, at_lit2, at_lit3, at_lit4, at_lit5, at_lit6, at_lit7, upd_same, upd_ne, Gr.upd_none, ne_eq, Option.isSome_some, sizeLine_eq, Nat.reduceLeDiff, upd_upd, Nat.reduceLT,
  List.map_cons, List.map_nil, List.length_cons, List.length_nil, List.replicate, List.cons_append, List.nil_append, List.append_nil, List.getElem?_cons_succ, List.getElem?_cons_zero, List.set_cons_succ, List.set_cons_zero,
  Option.some.injEq, V.ref.injEq, V.int.injEq, V.bl.injEq, V.str.injEq, List.cons.injEq, exists_eq_left, exists_eq_left', exists_eq_right, exists_eq, exists_eq', exists_and_left, exists_and_right, exists_const, true_and, and_true, and_self, ite_true, ite_false, if_true, if_false, reduceCtorEq, decide_true, decide_false, decide_eq_true_eq, Bool.not_true, Bool.not_false, Bool.not_eq_true', decide_eq_false_iff_not, Bool.false_eq_true, not_true_eq_false, not_false_eq_true, eq_self, HO.ins.injEq, HO.tup.injEq, HO.lst.injEq, and_assoc, Nat.reduceSub, Nat.reduceAdd, Nat.sub_self, reduceIte, ln_F_Change, in_Change_0, ll_Change_0, lk_Change_me, pt_Change_me, in_Change_1, ll_Change_1, lk_Change_hands, pt_Change_hands, in_Change_2, ll_Change_2, lk_Change_ballot, pt_Change_ballot, in_Change_3, ll_Change_3, lk_Change_yes, pt_Change_yes, in_Change_4, ll_Change_4, lk_Change_votes, pt_Change_votes, in_Change_5, ll_Change_5, lk_Change_reports, pt_Change_reports, in_Change_6, lk_Change_agreed, pt_Change_agreed, nm_Change_begin, nm_Change_message, nm_Change_receive, nm_Change_receive_yes, nm_Change_unplanned, nm_Change_settle, nm_Change_enough, nm_Change_propose, nm_Change_settled, N_has, N_hands_of, N_many, N_more_than_half, N_under, N_ballot_of, N_Change_init, N_Change_begin, N_Change_message, N_Change_receive, N_Change_receive_yes, N_Change_unplanned, N_Change_settle, N_Change_enough, N_Change_propose, N_Change_settled, N_l_cell_at, N_l_stream, N_l_hands, N_l_propose, N_l_noted, N_l_kept, N_l_agreed, N_l_deed, N_l_right, N_law, N_l_propose_law_make, *])
local macro_rules | `(tactic| walk_at "e") => `(tactic| first | assumption | rfl | (refine Gr.Fz.out ?_; first | assumption | (simp only [*]; done)) | (simp only [*]; done) | (simp [*]; done))
local macro_rules | `(tactic| walk_at "fr") => `(tactic| (repeat first | exact Gr.Fr.refl _ _ | assumption | (refine Gr.Fr.put' ?_ ?_; focus (first | (right; assumption) | (right; refine Gr.Fz.out ?_; simp only [*]; done) | (left; simp; done)))))
local macro_rules | `(tactic| walk_at "tp") => `(tactic| (repeat first | exact Gr.Tups.refl _ | assumption | (refine Gr.Tups.put' ?_ ?_; focus (first | (refine Gr.not_tup_none ?_; first | assumption | (refine Gr.Fz.out ?_; simp only [*]; done)) | (refine Gr.not_tup_of (by assumption) (fun xs z => ?_); cases z; done)))))
local macro_rules | `(tactic| walk_at "sm") => `(tactic| (repeat first | exact L2.Same.refl _ | assumption | (refine Gr.Same.put' ?_ ?_; focus (first | assumption | (refine Gr.Fz.out ?_; simp only [*]; done)))))
local macro_rules | `(tactic| walk_at "go") => `(tactic| ((try walk_at "s"); first | (intro _ hh; (try simp only [L2.upd_upd, Gr.upd_none, ne_eq, and_assoc] at hh); (try simp only [Gr.none_fz] at hh); walk_at "go") | (refine Gr.Cn.go ?_; walk_at "go") | skip))

section
variable {P : Program} {w : World} {K : PySem.W.Frag} {mg : Str → Option Value} {base : Heap}
theorem ok_l_kept (T : Env K mg) : FnOk P w K mg base CX0 2 (He.ga K "_law_kept") T.fd_l_kept ["_law_change", "_law_hand", "_law_settled", "_law_before"] (sp_l_kept (He.ga K "Change")) := by
  have sc := sc_l_kept
  refine T.F_l_kept.ok sc (fun vs H Q E h => ?_) (fun cdv A outer s H vs Q E hr h => ?_)
  · (first | (obtain ⟨rfl, _⟩ := h; rfl) | (obtain ⟨_, rfl, _⟩ := h; rfl) | (obtain ⟨_, _, rfl, _⟩ := h; rfl) | (obtain ⟨_, _, _, rfl, _⟩ := h; rfl) | (obtain ⟨_, _, _, _, rfl, _⟩ := h; rfl) | (obtain ⟨_, _, _, _, _, rfl, _⟩ := h; rfl) | (obtain ⟨_, _, _, _, _, _, rfl, _⟩ := h; rfl) | (obtain ⟨_, _, _, _, _, _, _, rfl, _⟩ := h; rfl) | (obtain ⟨_, _, _, _, _, _, _, _, rfl, _⟩ := h; rfl) | (obtain ⟨_, _, _, _, _, _, _, _, _, rfl, _⟩ := h; rfl) | (obtain ⟨_, _, _, _, _, _, _, _, _, _, rfl, _⟩ := h; rfl) | (obtain ⟨_, _, _, _, _, _, _, _, _, _, _, rfl, _⟩ := h; rfl) | (obtain ⟨_, _, _, _, _, _, _, _, _, _, _, _, rfl, _⟩ := h; rfl) | (obtain ⟨_, _, _, _, _, _, _, _, _, _, _, _, _, rfl, _⟩ := h; rfl) | (obtain ⟨_, _, _, _, _, _, _, _, _, _, _, _, _, _, rfl, _⟩ := h; rfl) | (obtain ⟨_, _, _, _, _, _, _, _, _, _, _, _, _, _, _, rfl, _⟩ := h; rfl) | (obtain ⟨_, _, _, _, _, _, _, _, _, _, _, _, _, _, _, _, rfl, _⟩ := h; rfl) | (obtain ⟨_, _, _, _, _, _, _, _, _, _, _, _, _, _, _, _, _, rfl, _⟩ := h; rfl) | (obtain ⟨_, _, _, _, _, _, _, _, _, _, _, _, _, _, _, _, _, _, rfl, _⟩ := h; rfl) | (obtain ⟨_, _, _, _, _, _, _, _, _, _, _, _, _, _, _, _, _, _, _, rfl, _⟩ := h; rfl) | (obtain ⟨_, _, _, _, _, _, _, _, _, _, _, _, _, _, _, _, _, _, _, _, rfl, _⟩ := h; rfl) | (obtain ⟨_, _, _, _, _, _, _, _, _, _, _, _, _, _, _, _, _, _, _, _, _, rfl, _⟩ := h; rfl) | (obtain ⟨_, _, _, _, _, _, _, _, _, _, _, _, _, _, _, _, _, _, _, _, _, _, rfl, _⟩ := h; rfl) | (obtain ⟨_, _, _, _, _, _, _, _, _, _, _, _, _, _, _, _, _, _, _, _, _, _, _, rfl, _⟩ := h; rfl) | (obtain ⟨_, _, _, _, _, _, _, _, _, _, _, _, _, _, _, _, _, _, _, _, _, _, _, _, rfl, _⟩ := h; rfl) | (obtain ⟨_, _, _, _, _, _, _, _, _, _, _, _, _, _, _, _, _, _, _, _, _, _, _, _, _, rfl, _⟩ := h; rfl))
  · have hu := hu_of hr
    refine ⟨_, PSs.nox (pss_cons (ps_set (i := 4) sc.nd rfl (.inl rfl) (pe_meth0 (pv 0) T.c_Change T.m_Change_settled (ok_Change_settled T) (hr.mono (by decide)) (b_Change_settled T) .nil pass0))
    (pss_cons (ps_up (ps_if (PW.pt (pw_and (pt_cmpR op_notN (pv 3) pe_non (nomark _)) (pw_and1 (PW.pt (pw_or (pt_cmpR op_isN (pe_fldC (K := K) rfl T.c_Change T.n_Change_ballot (pv 0) rfl) pe_non (nomark _)) (pw_or1 (pt_cmpR (op_ltP hr.units) (pe_fldC (K := K) rfl T.c_Change T.n_Change_ballot (pv 0) rfl) (pv 3) (nomark _))))))))
    (pss_one (ps_ret pe_bl))
    pss_nil))
    (pss_cons (ps_if (pt_cmpR op_isN (pv 4) pe_non (nomark _))
    (pss_one (ps_ret (pe_cmp (pc_dnotin hu (pv 1) (pv 2)) (by rfl))))
    pss_nil)
    (pss_cons (ps_up (ps_if (pt_cmp (pc_dnotin hu (pv 1) (pv 2)) (by rfl))
    (pss_one (ps_dput hu (pv 2) (pv 1) (pe_tup (pa_cons (pv 4) (pa_cons (pe_ix ix_t (pe_fldC (K := K) rfl T.c_Change T.n_Change_yes (pv 0) rfl) pe_int (fun _ _ => rfl)) pa_nil))) rfl))
    pss_nil))
    (pss_one (ps_ret (pe_cmpR (op_eqd hr.units) (pe_ix ix_t (pe_dget hu (pv 2) (pv 1) (fun _ _ => rfl)) pe_int (fun _ _ => rfl)) (pv 4) (nomark _)))))))), ?_⟩
    clear sc hu hr
    obtain ⟨p, r, s, c, h, S, bf, bv, rfl, hC, hS, hbf, hSl, hb0, hn, hag, q⟩ := h
    replace q := Hd.mk q
    replace hb0 := Hd.mk hb0
    replace hag := Hd.mk hag
    replace hn := Hd.mk hn
    obtain ⟨⟨dx, cbv, yv, av, hp, hb, hy, ha⟩, ⟨m, hr, hm⟩, h7, h8, h9⟩ := id hC
    walk_at "go"
    refine ⟨p, r, c, rfl, hC, fun v hv => ?_⟩
    walk_at "go"
    refine sUp.mk (fun σ' H' => σ' = [some (.ref p), some (.int (h : Int)), some (.ref s), some bv, some v] ∧ H = H') ?_ ?_
    · walk_at "go"
      cases hbb : bf with
      | none =>
        rw [hbb] at hbf
        obtain rfl : bv = .non := hbf
        walk_at "go"
      | some b =>
        rw [hbb] at hbf
        obtain ⟨b', e1, e2⟩ := hb0.out b hbb
        rw [e1] at hb
        have n1 : ¬ bv = .non := hbf.ne_non (by simp [encB])
        have n2 : ¬ cbv = .non := hb.ne_non (by simp [encB])
        walk_at "go"
        refine ⟨b', b, hb, hbf, ?_⟩
        rw [e2]
        walk_at "go"
    · rintro _ _ ⟨rfl, rfl⟩
      have hvn := encO_non h9 hv
      obtain ⟨ms, hS1, hS2⟩ := id hS
      cases hagr : c.agreed with
      | none =>
        have e1 : v = .non := hvn.mpr hagr
        subst e1
        have e2 := hn.out hagr
        have eK : c.keptS h S = S := by unfold Chg.keptS; rw [hagr]
        rw [eK] at q
        have get := dget_I (k := (h : Int)) hS1
        have e3 : valV ms (h : Int) = none := by
          have := hS2.get (h : Int)
          rw [encS_get, e2] at this
          rcases this with ⟨_, z⟩ | ⟨_, _, z, _⟩
          · exact z
          · cases z
        rw [e3] at get
        walk_at "go"
        exact ⟨none, get, q.out H (Fr.refl _ _) hS⟩
      | some d =>
        have n1 : ¬ v = .non := fun z => by rw [hvn, hagr] at z; cases z
        obtain ⟨dok, ⟨y, ey⟩, hx⟩ := hag.out d hagr
        rw [hagr] at hv
        have hv : Rp H d v := hv
        rw [ey] at hy
        have hy0 := hy
        simp only [encY, Rp, RpL] at hy0
        obtain ⟨t, vs, rfl, ht, v1, r1, rfl, g1, v2, r2, rfl, g2, rfl⟩ := hy0
        have eK : c.keptS h S = if (getA S (h : Int)).isSome = true then S else S ++ [((h : Int), (d, y.1))] := by unfold Chg.keptS; rw [hagr, ey]
        rw [eK] at q
        have gS := hS2.get (h : Int)
        rw [encS_get] at gS
        replace hx := Hd.mk hx
        walk_at "go"
        refine sUp.mk (fun σ' H' => σ' = [some (.ref p), some (.int (h : Int)), some (.ref s), some bv, some v] ∧ Fr [s] H H' ∧ Tups H H' ∧ SetAt H' s (if (getA S (h : Int)).isSome = true then S else S ++ [((h : Int), (d, y.1))])) ?_ ?_
        · have get := dget_I (k := (h : Int)) hS1
          walk_at "go"
          refine ⟨_, get, ?_⟩
          rw [getA_valV]
          rcases gS with ⟨e1, e2⟩ | ⟨d', v', e1, e2, e3⟩
          · rw [Option.map_eq_none_iff] at e1
            have nsp : p ≠ s := ne_of hp hS1 fun z => by unfold dI at z; cases z
            walk_at "go"
            rename_i t1 ht1
            have nt1 : H t1 = none := ht1.2.2.out
            have sm1 : Same H (upd H t1 (.tup [v, v1])) := same_new nt1
            have nts := ne_of_none hS1 nt1
            refine ⟨_, dput_I (m := ms) (k := (h : Int)) (v := .ref t1) (by rw [upd_ne nts]; exact hS1) (sz_of (by rw [hS2.length, encS, List.length_map]; omega)), ?_⟩
            rw [putA_putK]
            have tp : Tups H (upd (upd H t1 (.tup [v, v1])) s (dI (putA ms (h : Int) (.ref t1)))) := (Tups.of_same sm1).put (not_tup_of hS1 fun xs z => by unfold dI at z; cases z)
            refine ⟨(Fr.of_same sm1).put (.inl (by simp)), tp, _, upd_same, ?_⟩
            have g := (hS2.at tp).put (k := (h : Int)) (d := .tup [d, encD y.1]) (v := .ref t1) ⟨t1, _, rfl, by rw [upd_ne nts.symm, upd_same], v, _, rfl, hv.at tp, v1, [], rfl, g1.at tp, rfl⟩
            have e3 : putA (encS S) (h : Int) (.tup [d, encD y.1]) = encS (S ++ [((h : Int), (d, y.1))]) := by
              unfold putA
              rw [getA_any, encS_get, e1]
              simp only [Option.map_none, Option.isSome_none, Bool.false_eq_true, if_false]
              unfold encS
              rw [List.map_append]
              rfl
            rw [e3] at g
            exact g
          · obtain ⟨x, ex, rfl⟩ := Option.map_eq_some_iff.mp e1
            walk_at "go"
            exact ⟨Fr.refl _ _, Tups.refl _⟩
        · rintro _ H2 ⟨rfl, fr2, tp2, hS2'⟩
          have hS22 := hS2'
          obtain ⟨m2, f1, f2⟩ := id hS2'
          have key : ∃ x, getA (if (getA S (h : Int)).isSome = true then S else S ++ [((h : Int), (d, y.1))]) (h : Int) = some x ∧ x.1 = d := by
            cases e1 : getA S (h : Int) with
            | none =>
              rw [if_neg (by simp)]
              refine ⟨(d, y.1), ?_, rfl⟩
              have e2 : putA S (h : Int) (d, y.1) = S ++ [((h : Int), (d, y.1))] := by
                unfold putA
                rw [getA_any, e1]
                simp
              rw [← e2, getA_put, if_pos rfl]
            | some x =>
              rw [if_pos (by rfl)]
              exact ⟨x, e1, hx.out x e1⟩
          obtain ⟨x, ex, rfl⟩ := key
          have gx := f2.get (h : Int)
          rw [encS_get, ex] at gx
          rcases gx with ⟨z, _⟩ | ⟨d', v', e1, e2, e3⟩
          · cases z
          · obtain rfl : D.tup [x.1, encD x.2] = d' := Option.some.inj e1
            simp only [Rp, RpL] at e3
            obtain ⟨tx, vs, rfl, htx, w1, r1, rfl, k1, w2, r2, rfl, k2, rfl⟩ := e3
            have get := dget_I (k := (h : Int)) f1
            rw [getA_valV, e2] at get
            have hv2 := hv.at tp2
            have q := q.out H2 fr2 hS2'
            clear hS1 ht hp hr
            walk_at "go"
            refine ⟨_, get, ?_⟩
            walk_at "go"
            refine ⟨x.1, x.1, k1, hv2, dok, dok, ?_⟩
            rw [decide_eq_true rfl]
            exact q
end
end K64

namespace K64
open PySem PySem.Spec PyProof.Rows L2 Gr NdefX
def sp_l_right (Pr : Program) (w : World) (C : Addr) : Sp := fun vs H Q _ => ∃ (d p r st s a b : Addr) (c : Chg) (h : Nat) (m : List (Int × V)) (A : List (Nat × Bal)) (P : List (Bal × D)) (S : List (Int × (D × Bal))) (bf : Option Bal) (bv : V), vs = [.ref d, .int (h : Int), .ref st, bv] ∧
  H d = some (dI m) ∧ valV m (h : Int) = some (.ref p) ∧ H st = some (.tup [.ref s, .ref a, .ref b]) ∧ ChgAt C H p c r ∧ SaidAt Pr w H a A ∧ PlansAt H b P ∧ SetAt H s S ∧ d ≠ b ∧ d ≠ a ∧ s ≠ r ∧ d ≠ s ∧ A.length < 100000 ∧ P.length < 100000 ∧ S.length < 100000 ∧ h < 63 ∧ r ≠ a ∧ r ≠ b ∧ s ≠ a ∧ s ≠ b ∧
  (∀ p ∈ P, p.2.ok = true) ∧ (∀ y, c.yes = some y → y.2.ok = true) ∧ c.noted h A P = true ∧ Rp H (encB bf) bv ∧
  (∀ b, bf = some b → ∃ b', c.ballot = some b' ∧ ltB b' b = false) ∧ (c.agreed = none → getA S (h : Int) = none) ∧ (∀ d, c.agreed = some d → d.ok = true ∧ (∃ y, c.yes = some y) ∧ ∀ x, getA S (h : Int) = some x → x.1 = d) ∧
  ∀ H', Fr [a, b, s] H H' → SaidAt Pr w H' a (c.notedA h A) → PlansAt H' b (c.notedP P) → SetAt H' s (c.keptS h S) → Q (.bl true) H'
local macro_rules | `(tactic| walk_at "s") => `(tactic| simp only [a_seq, a_next, a_ifS, a_asg, a_ret, a_retN, a_drop, a_break, a_cont, a_test, a_b, a_op, a_un, a_var, a_c, a_name, a_tupt, a_gcons, a_gnil, a_gsub, a_call, a_meth, a_make, a_cb, a_cons, a_nil, a_fldC, a_sfldC, a_not, a_and, a_or, a_andV, a_orV, a_notV, a_if, a_tup, a_lst, a_dget, a_dget2, a_din, a_dnotin, a_dput, a_dnewK, a_dnewT, a_aug, a_par, a_sl, a_part, a_nopart, a_bm, a_bm0, tPairs, a_disp, a_iLst, a_iTpl, a_iVals, a_iKeys, a_iRng1, a_iRng2, a_I0, a_I, a_U, a_eq, a_ne, a_ixt, a_ixl, a_lenl, a_lent, a_sll, a_sumL, a_sortL, a_sortD, a_listRg, a_rg1, a_append, a_yes, a_setdN, a_ddnotin, a_ddput, a_lenq, a_ixq, a_slq, a_methG, a_callC, a_ndefM, tFor_eq, tLc_eq,
  scal_ii, scal_nn, scal_in, scal_ni, scal_bb, scal_ss, scal_sn, scal_ns, L2.start, cx_K, cx_P, cx_w, bit_c, wipe, Int.natCast_inj, bitAnd_c, bitOr_c, shl1_c, Int.zero_add, Int.add_zero, Int.reduceLT, Int.reduceLE, Int.reducePow, Int.reduceNeg, Int.reduceToNat, Int.toNat_natCast, Int.natCast_nonneg,
  at_lit0, at_lit1, at_lit2, at_lit3, at_lit4, at_lit5, at_lit6, at_lit7, upd_same, upd_ne, Gr.upd_none, ne_eq, Option.isSome_some, sizeLine_eq, Nat.reduceLeDiff, upd_upd, Nat.reduceLT,
  List.map_cons, List.map_nil, List.length_cons, List.length_nil, List.replicate, List.cons_append, List.nil_append, List.append_nil, List.getElem?_cons_succ, List.getElem?_cons_zero, List.set_cons_succ, List.set_cons_zero,
  Option.some.injEq, V.ref.injEq, V.int.injEq, V.bl.injEq, V.str.injEq, List.cons.injEq, exists_eq_left, exists_eq_left', exists_eq_right, exists_eq, exists_eq', exists_and_left, exists_and_right, exists_const, true_and, and_true, and_self, ite_true, ite_false, if_true, if_false, reduceCtorEq, decide_true, decide_false, decide_eq_true_eq, Bool.not_true, Bool.not_false, Bool.not_eq_true', decide_eq_false_iff_not, Bool.false_eq_true, not_true_eq_false, not_false_eq_true, eq_self, HO.ins.injEq, HO.tup.injEq, HO.lst.injEq, and_assoc, Nat.reduceSub, Nat.reduceAdd, Nat.sub_self, reduceIte, ln_F_Change, in_Change_0, ll_Change_0, lk_Change_me, pt_Change_me, in_Change_1, ll_Change_1, lk_Change_hands, pt_Change_hands, in_Change_2, ll_Change_2, lk_Change_ballot, pt_Change_ballot, in_Change_3, ll_Change_3, lk_Change_yes, pt_Change_yes, in_Change_4, ll_Change_4, lk_Change_votes, pt_Change_votes, in_Change_5, ll_Change_5, lk_Change_reports, pt_Change_reports, in_Change_6, lk_Change_agreed, pt_Change_agreed, nm_Change_begin, nm_Change_message, nm_Change_receive, nm_Change_receive_yes, nm_Change_unplanned, nm_Change_settle, nm_Change_enough, nm_Change_propose, nm_Change_settled, N_has, N_hands_of, N_many, N_more_than_half, N_under, N_ballot_of, N_Change_init, N_Change_begin, N_Change_message, N_Change_receive, N_Change_receive_yes, N_Change_unplanned, N_Change_settle, N_Change_enough, N_Change_propose, N_Change_settled, N_l_cell_at, N_l_stream, N_l_hands, N_l_propose, N_l_noted, N_l_kept, N_l_agreed, N_l_deed, N_l_right, N_law, N_l_propose_law_make, *])
local macro_rules | `(tactic| walk_at "e") => `(tactic| first | assumption | rfl | (refine Gr.Fz.out ?_; first | assumption | (simp only [*]; done)) | (simp only [*]; done) | (simp [*]; done))
local macro_rules | `(tactic| walk_at "fr") => `(tactic| (repeat first | exact Gr.Fr.refl _ _ | assumption | (refine Gr.Fr.put' ?_ ?_; focus (first | (right; assumption) | (right; refine Gr.Fz.out ?_; simp only [*]; done) | (left; simp; done)))))
local macro_rules | `(tactic| walk_at "tp") => `(tactic| (repeat first | exact Gr.Tups.refl _ | assumption | (refine Gr.Tups.put' ?_ ?_; focus (first | (refine Gr.not_tup_none ?_; first | assumption | (refine Gr.Fz.out ?_; simp only [*]; done)) | (refine Gr.not_tup_of (by assumption) (fun xs z => ?_); cases z; done)))))
local macro_rules | `(tactic| walk_at "sm") => `(tactic| (repeat first | exact L2.Same.refl _ | assumption | (refine Gr.Same.put' ?_ ?_; focus (first | assumption | (refine Gr.Fz.out ?_; simp only [*]; done)))))
local macro_rules | `(tactic| walk_at "go") => `(tactic| ((try walk_at "s"); first | (intro _ hh; (try simp only [L2.upd_upd, Gr.upd_none, ne_eq, and_assoc] at hh); (try simp only [Gr.none_fz] at hh); walk_at "go") | (refine Gr.Cn.go ?_; walk_at "go") | skip))

section
variable {P : Program} {w : World} {K : PySem.W.Frag} {mg : Str → Option Value} {base : Heap}
theorem ok_l_right (T : Env K mg) : FnOk P w K mg base CX0 3 (He.ga K "_law_right") T.fd_l_right ["_law_changes", "_law_hand", "_law_state", "_law_before"] (sp_l_right P w (He.ga K "Change")) := by
  have sc := sc_l_right
  refine T.F_l_right.ok sc (fun vs H Q E h => ?_) (fun cdv A outer s H vs Q E hr h => ?_)
  · (first | (obtain ⟨rfl, _⟩ := h; rfl) | (obtain ⟨_, rfl, _⟩ := h; rfl) | (obtain ⟨_, _, rfl, _⟩ := h; rfl) | (obtain ⟨_, _, _, rfl, _⟩ := h; rfl) | (obtain ⟨_, _, _, _, rfl, _⟩ := h; rfl) | (obtain ⟨_, _, _, _, _, rfl, _⟩ := h; rfl) | (obtain ⟨_, _, _, _, _, _, rfl, _⟩ := h; rfl) | (obtain ⟨_, _, _, _, _, _, _, rfl, _⟩ := h; rfl) | (obtain ⟨_, _, _, _, _, _, _, _, rfl, _⟩ := h; rfl) | (obtain ⟨_, _, _, _, _, _, _, _, _, rfl, _⟩ := h; rfl) | (obtain ⟨_, _, _, _, _, _, _, _, _, _, rfl, _⟩ := h; rfl) | (obtain ⟨_, _, _, _, _, _, _, _, _, _, _, rfl, _⟩ := h; rfl) | (obtain ⟨_, _, _, _, _, _, _, _, _, _, _, _, rfl, _⟩ := h; rfl) | (obtain ⟨_, _, _, _, _, _, _, _, _, _, _, _, _, rfl, _⟩ := h; rfl) | (obtain ⟨_, _, _, _, _, _, _, _, _, _, _, _, _, _, rfl, _⟩ := h; rfl) | (obtain ⟨_, _, _, _, _, _, _, _, _, _, _, _, _, _, _, rfl, _⟩ := h; rfl) | (obtain ⟨_, _, _, _, _, _, _, _, _, _, _, _, _, _, _, _, rfl, _⟩ := h; rfl) | (obtain ⟨_, _, _, _, _, _, _, _, _, _, _, _, _, _, _, _, _, rfl, _⟩ := h; rfl) | (obtain ⟨_, _, _, _, _, _, _, _, _, _, _, _, _, _, _, _, _, _, rfl, _⟩ := h; rfl) | (obtain ⟨_, _, _, _, _, _, _, _, _, _, _, _, _, _, _, _, _, _, _, rfl, _⟩ := h; rfl) | (obtain ⟨_, _, _, _, _, _, _, _, _, _, _, _, _, _, _, _, _, _, _, _, rfl, _⟩ := h; rfl) | (obtain ⟨_, _, _, _, _, _, _, _, _, _, _, _, _, _, _, _, _, _, _, _, _, rfl, _⟩ := h; rfl) | (obtain ⟨_, _, _, _, _, _, _, _, _, _, _, _, _, _, _, _, _, _, _, _, _, _, rfl, _⟩ := h; rfl) | (obtain ⟨_, _, _, _, _, _, _, _, _, _, _, _, _, _, _, _, _, _, _, _, _, _, _, rfl, _⟩ := h; rfl) | (obtain ⟨_, _, _, _, _, _, _, _, _, _, _, _, _, _, _, _, _, _, _, _, _, _, _, _, rfl, _⟩ := h; rfl) | (obtain ⟨_, _, _, _, _, _, _, _, _, _, _, _, _, _, _, _, _, _, _, _, _, _, _, _, _, rfl, _⟩ := h; rfl))
  · have hu := hu_of hr
    refine ⟨_, PSs.nox (pss_cons (ps_asg (pv 2) (pg_tupt (n := 3) rfl (pgs_cons (pg_name (i := 4) sc.nd rfl (.inl rfl)) (pgs_cons (pg_name (i := 5) sc.nd rfl (.inl rfl)) (pgs_cons (pg_name (i := 6) sc.nd rfl (.inl rfl)) pgs_nil)))))
    (pss_cons (ps_if (pt_not (pt_val (pe_call (ok_l_noted T) (hr.mono (by decide)) (by rfl) T.g_l_noted T.F_l_noted.kp (b_l_noted T) .nil pass0 (pa_cons (pe_dget hu (pv 0) (pv 1) (fun _ _ => rfl)) (pa_cons (pv 1) (pa_cons (pv 5) (pa_cons (pv 6) pa_nil)))))))
    (pss_one (ps_ret pe_bl))
    pss_nil)
    (pss_one (ps_ret (pe_call (ok_l_kept T) (hr.mono (by decide)) (by rfl) T.g_l_kept T.F_l_kept.kp (b_l_kept T) .nil pass0 (pa_cons (pe_dget hu (pv 0) (pv 1) (fun _ _ => rfl)) (pa_cons (pv 1) (pa_cons (pv 4) (pa_cons (pv 3) pa_nil))))))))), ?_⟩
    clear sc hu hr
    obtain ⟨d, p, r, st, s, a, b, c, h, m, A, Pm, S, bf, bv, rfl, hd, hv, hst, hC, hA, hP, hS, ndb, nda, nsr, nds, hAl, hPl, hSl, hh, nra, nrb, nsa, nsb, hPo, hyo, hn, hbf, hb0, hn2, hag, q⟩ := h
    have get := dget_I (k := (h : Int)) hd
    rw [hv] at get
    replace q := Hd.mk q
    walk_at "go"
    refine ⟨_, get, ?_⟩
    walk_at "go"
    refine ⟨p, r, a, b, c, h, A, Pm, rfl, hC, hA, hP, hAl, hPl, hh, hPo, hyo, hn, fun H1 fr1 hA1 hP1 => ?_⟩
    obtain ⟨⟨dx, cbv, yv, av, hp, hb, hy, ha⟩, ⟨mr, hr, hm⟩, h7, h8, h9⟩ := id hC
    obtain ⟨xs0, hA0, _⟩ := id hA
    obtain ⟨mp, hP0, _⟩ := id hP
    obtain ⟨ms, hS0, _⟩ := id hS
    have npa : p ≠ a := ne_of hp hA0 fun z => by unfold ddO at z; cases z
    have npb : p ≠ b := ne_of hp hP0 fun z => by unfold dN at z; cases z
    have tp1 : Tups H H1 := fun x xs e => fr1 x _ e (by
      simp only [List.mem_cons, List.not_mem_nil, or_false]
      rintro (z | z)
      · rw [z, hA0] at e; unfold ddO at e; cases e
      · rw [z, hP0] at e; unfold dN at e; cases e)
    have hC1 : ChgAt (He.ga K "Change") H1 p c r := hC.at tp1 (fun o e => fr1 p o e (by simp [npa, npb])) (fun o e => fr1 r o e (by simp [nra, nrb]))
    have hd1 := fr1 d _ hd (by simp [nda, ndb])
    have hS1 : SetAt H1 s S := hS.fr tp1 fun o e => fr1 s o e (by simp [nsa, nsb])
    have get1 := dget_I (k := (h : Int)) hd1
    rw [hv] at get1
    clear hd hp hr
    walk_at "go"
    refine ⟨_, get1, ?_⟩
    walk_at "go"
    refine ⟨p, r, s, c, h, S, bf, bv, rfl, hC1, hS1, hbf.at tp1, hSl, hb0, hn2, hag, fun H2 fr2 hS2 => ?_⟩
    have tp2 : Tups H1 H2 := fun x xs e => fr2 x _ e (by
      obtain ⟨ms', hS0', _⟩ := id hS1
      simp only [List.mem_cons, List.not_mem_nil, or_false]
      intro z
      rw [z, hS0'] at e; unfold dI at e; cases e)
    exact q.out H2 ((fr1.mono (by simp)).trans (fr2.mono (by simp))) (DDs.at hA1 tp2 fun o e => fr2 a o e (by simp [nsa.symm])) (hP1.fr tp2 fun o e => fr2 b o e (by simp [nsb.symm])) hS2
end
end K64

namespace K64
open PySem PySem.Spec PyProof.Rows L2 Gr NdefX
def agreedOk (S : List (Int × (D × Bal))) (k : Nat) (P : List (Bal × D)) : Prop := (∀ x ∈ S, x.2.1 ∈ plansD k ∧ x.2.1.ok = true) ∧ (∀ x ∈ S, ∀ y ∈ S, x.2.1 = y.2.1) ∧ ∀ x ∈ S, ∀ q ∈ P, ltB x.2.2 q.1 = true → q.2 = x.2.1
def sp_l_agreed : Sp := fun vs H Q _ => ∃ (s a b : Addr) (o1 o2 : Obj) (ms : List (Int × V)) (mp : List (List Int × V)) (S : List (Int × (D × Bal))) (k : Nat) (P : List (Bal × D)), vs = [.ref s, .ref a, .ref b] ∧ H s = some (.frz o1 (dI ms)) ∧ RpM H (encS S) ms ∧ LsD H a (plansD k) ∧ H b = some (.frz o2 (dN mp)) ∧ RpM H (encP2 P) mp ∧
  S.length < 100000 ∧ P.length < 100000 ∧ agreedOk S k P ∧ (∀ p ∈ P, p.2.ok = true) ∧ ∀ H', Same H H' → Q (.bl true) H'
theorem RpM.at_i {κ : Type} {H : Hp} : ∀ {kd : List (κ × D)} {m : List (κ × V)} {i : Nat} {k : κ} {v : V}, RpM H kd m → m[i]? = some (k, v) → ∃ d, kd[i]? = some (k, d) ∧ Rp H d v
  | [], _, i, k, v, h, e => by rw [show _ = [] from h] at e; simp at e
  | x :: r, _, 0, k, v, ⟨u, m', em, h, q⟩, e => by
    rw [em] at e
    have e2 : (x.1, u) = (k, v) := Option.some.inj e
    cases e2
    exact ⟨x.2, rfl, h⟩
  | x :: r, _, i + 1, k, v, ⟨u, m', em, h, q⟩, e => by
    rw [em] at e
    exact RpM.at_i (i := i) (kd := r) (m := m') q (by simpa using e)
theorem plansD_good (k : Nat) : D.goodL (plansD k) = true ∧ D.depL (plansD k) ≤ 1 := by
  induction k with
  | zero => exact ⟨by simp [plansD, D.goodL], by simp [plansD, D.depL]⟩
  | succ k ih =>
    rw [plansD_succ]
    have g : ∀ as bs : List D, D.goodL (as ++ bs) = (D.goodL as && D.goodL bs) := fun as bs => by
      induction as with
      | nil => simp [D.goodL]
      | cons a as ih => simp [D.goodL, ih, Bool.and_assoc]
    have g2 : ∀ as bs : List D, D.depL (as ++ bs) = max (D.depL as) (D.depL bs) := fun as bs => by
      induction as with
      | nil => simp [D.depL]
      | cons a as ih => simp only [List.cons_append, D.depL, ih]; omega
    rw [g, g2]
    refine ⟨?_, ?_⟩
    · rw [ih.1]
      simp [planD, D.goodL, D.good]
      decide +kernel
    · have : D.depL [planD k] = 1 := by simp [planD, D.depL, D.dep]
      omega
theorem plansD_okL (k : Nat) : D.okL (plansD k) = true := by
  obtain ⟨h1, h2⟩ := plansD_good k
  unfold D.okL
  rw [h1, decide_eq_true (by omega)]
  rfl
local macro_rules | `(tactic| walk_at "s") => `(tactic| simp only [a_seq, a_next, a_ifS, a_asg, a_ret, a_retN, a_drop, a_break, a_cont, a_test, a_b, a_op, a_un, a_var, a_c, a_name, a_tupt, a_gcons, a_gnil, a_gsub, a_call, a_meth, a_make, a_cb, a_cons, a_nil, a_fldC, a_sfldC, a_not, a_and, a_or, a_andV, a_orV, a_notV, a_if, a_tup, a_lst, a_dget, a_dget2, a_din, a_dnotin, a_dput, a_dnewK, a_dnewT, a_aug, a_par, a_sl, a_part, a_nopart, a_bm, a_bm0, tPairs, a_disp, a_iLst, a_iTpl, a_iVals, a_iKeys, a_iRng1, a_iRng2, a_I0, a_I, a_U, a_eq, a_ne, a_ixt, a_ixl, a_lenl, a_lent, a_sll, a_sumL, a_sortL, a_sortD, a_listRg, a_rg1, a_append, a_yes, a_setdN, a_ddnotin, a_ddput, a_lenq, a_ixq, a_slq, a_methG, a_callC, a_ndefM, tFor_eq, tLc_eq,
  scal_ii, scal_nn, scal_in, scal_ni, scal_bb, scal_ss, scal_sn, scal_ns, L2.start, cx_K, cx_P, cx_w, bit_c, wipe, Int.natCast_inj, bitAnd_c, bitOr_c, shl1_c, Int.zero_add, Int.add_zero, Int.reduceLT, Int.reduceLE, Int.reducePow, Int.reduceNeg, Int.reduceToNat, Int.toNat_natCast, Int.natCast_nonneg,
  at_lit0, at_lit1, at_lit2, at_lit3, at_lit4, at_lit5, at_lit6, at_lit7, upd_same, upd_ne, Gr.upd_none, ne_eq, Option.isSome_some, sizeLine_eq, Nat.reduceLeDiff, upd_upd, Nat.reduceLT,
  List.map_cons, List.map_nil, List.length_cons, List.length_nil, List.replicate, List.cons_append, List.nil_append, List.append_nil, List.getElem?_cons_succ, List.getElem?_cons_zero, List.set_cons_succ, List.set_cons_zero,
  Option.some.injEq, V.ref.injEq, V.int.injEq, V.bl.injEq, V.str.injEq, List.cons.injEq, exists_eq_left, exists_eq_left', exists_eq_right, exists_eq, exists_eq', exists_and_left, exists_and_right, exists_const, true_and, and_true, and_self, ite_true, ite_false, if_true, if_false, reduceCtorEq, decide_true, decide_false, decide_eq_true_eq, Bool.not_true, Bool.not_false, Bool.not_eq_true', decide_eq_false_iff_not, Bool.false_eq_true, not_true_eq_false, not_false_eq_true, eq_self, HO.ins.injEq, HO.tup.injEq, HO.lst.injEq, and_assoc, Nat.reduceSub, Nat.reduceAdd, Nat.sub_self, reduceIte, ln_F_Change, in_Change_0, ll_Change_0, lk_Change_me, pt_Change_me, in_Change_1, ll_Change_1, lk_Change_hands, pt_Change_hands, in_Change_2, ll_Change_2, lk_Change_ballot, pt_Change_ballot, in_Change_3, ll_Change_3, lk_Change_yes, pt_Change_yes, in_Change_4, ll_Change_4, lk_Change_votes, pt_Change_votes, in_Change_5, ll_Change_5, lk_Change_reports, pt_Change_reports, in_Change_6, lk_Change_agreed, pt_Change_agreed, nm_Change_begin, nm_Change_message, nm_Change_receive, nm_Change_receive_yes, nm_Change_unplanned, nm_Change_settle, nm_Change_enough, nm_Change_propose, nm_Change_settled, N_has, N_hands_of, N_many, N_more_than_half, N_under, N_ballot_of, N_Change_init, N_Change_begin, N_Change_message, N_Change_receive, N_Change_receive_yes, N_Change_unplanned, N_Change_settle, N_Change_enough, N_Change_propose, N_Change_settled, N_l_cell_at, N_l_stream, N_l_hands, N_l_propose, N_l_noted, N_l_kept, N_l_agreed, N_l_deed, N_l_right, N_law, N_l_propose_law_make, *])
local macro_rules | `(tactic| walk_at "e") => `(tactic| first | assumption | rfl | (refine Gr.Fz.out ?_; first | assumption | (simp only [*]; done)) | (simp only [*]; done) | (simp [*]; done))
local macro_rules | `(tactic| walk_at "fr") => `(tactic| (repeat first | exact Gr.Fr.refl _ _ | assumption | (refine Gr.Fr.put' ?_ ?_; focus (first | (right; assumption) | (right; refine Gr.Fz.out ?_; simp only [*]; done) | (left; simp; done)))))
local macro_rules | `(tactic| walk_at "tp") => `(tactic| (repeat first | exact Gr.Tups.refl _ | assumption | (refine Gr.Tups.put' ?_ ?_; focus (first | (refine Gr.not_tup_none ?_; first | assumption | (refine Gr.Fz.out ?_; simp only [*]; done)) | (refine Gr.not_tup_of (by assumption) (fun xs z => ?_); cases z; done)))))
local macro_rules | `(tactic| walk_at "sm") => `(tactic| (repeat first | exact L2.Same.refl _ | assumption | (refine Gr.Same.put' ?_ ?_; focus (first | assumption | (refine Gr.Fz.out ?_; simp only [*]; done)))))
local macro_rules | `(tactic| walk_at "go") => `(tactic| ((try walk_at "s"); first | (intro _ hh; (try simp only [L2.upd_upd, Gr.upd_none, ne_eq, and_assoc] at hh); (try simp only [Gr.none_fz] at hh); walk_at "go") | (refine Gr.Cn.go ?_; walk_at "go") | skip))

section
variable {P : Program} {w : World} {K : PySem.W.Frag} {mg : Str → Option Value} {base : Heap}
theorem ok_l_agreed (T : Env K mg) : FnOk P w K mg base CX0 1 (He.ga K "_law_agreed") T.fd_l_agreed ["_law_settled", "_law_answered", "_law_plans"] sp_l_agreed := by
  have sc := sc_l_agreed
  refine T.F_l_agreed.ok sc (fun vs H Q E h => ?_) (fun cdv A outer s H vs Q E hr h => ?_)
  · (first | (obtain ⟨rfl, _⟩ := h; rfl) | (obtain ⟨_, rfl, _⟩ := h; rfl) | (obtain ⟨_, _, rfl, _⟩ := h; rfl) | (obtain ⟨_, _, _, rfl, _⟩ := h; rfl) | (obtain ⟨_, _, _, _, rfl, _⟩ := h; rfl) | (obtain ⟨_, _, _, _, _, rfl, _⟩ := h; rfl) | (obtain ⟨_, _, _, _, _, _, rfl, _⟩ := h; rfl) | (obtain ⟨_, _, _, _, _, _, _, rfl, _⟩ := h; rfl) | (obtain ⟨_, _, _, _, _, _, _, _, rfl, _⟩ := h; rfl) | (obtain ⟨_, _, _, _, _, _, _, _, _, rfl, _⟩ := h; rfl) | (obtain ⟨_, _, _, _, _, _, _, _, _, _, rfl, _⟩ := h; rfl) | (obtain ⟨_, _, _, _, _, _, _, _, _, _, _, rfl, _⟩ := h; rfl) | (obtain ⟨_, _, _, _, _, _, _, _, _, _, _, _, rfl, _⟩ := h; rfl) | (obtain ⟨_, _, _, _, _, _, _, _, _, _, _, _, _, rfl, _⟩ := h; rfl) | (obtain ⟨_, _, _, _, _, _, _, _, _, _, _, _, _, _, rfl, _⟩ := h; rfl) | (obtain ⟨_, _, _, _, _, _, _, _, _, _, _, _, _, _, _, rfl, _⟩ := h; rfl) | (obtain ⟨_, _, _, _, _, _, _, _, _, _, _, _, _, _, _, _, rfl, _⟩ := h; rfl) | (obtain ⟨_, _, _, _, _, _, _, _, _, _, _, _, _, _, _, _, _, rfl, _⟩ := h; rfl) | (obtain ⟨_, _, _, _, _, _, _, _, _, _, _, _, _, _, _, _, _, _, rfl, _⟩ := h; rfl) | (obtain ⟨_, _, _, _, _, _, _, _, _, _, _, _, _, _, _, _, _, _, _, rfl, _⟩ := h; rfl) | (obtain ⟨_, _, _, _, _, _, _, _, _, _, _, _, _, _, _, _, _, _, _, _, rfl, _⟩ := h; rfl) | (obtain ⟨_, _, _, _, _, _, _, _, _, _, _, _, _, _, _, _, _, _, _, _, _, rfl, _⟩ := h; rfl) | (obtain ⟨_, _, _, _, _, _, _, _, _, _, _, _, _, _, _, _, _, _, _, _, _, _, rfl, _⟩ := h; rfl) | (obtain ⟨_, _, _, _, _, _, _, _, _, _, _, _, _, _, _, _, _, _, _, _, _, _, _, rfl, _⟩ := h; rfl) | (obtain ⟨_, _, _, _, _, _, _, _, _, _, _, _, _, _, _, _, _, _, _, _, _, _, _, _, rfl, _⟩ := h; rfl) | (obtain ⟨_, _, _, _, _, _, _, _, _, _, _, _, _, _, _, _, _, _, _, _, _, _, _, _, _, rfl, _⟩ := h; rfl))
  · have hu := hu_of hr
    refine ⟨_, PSs.nox (pss_cons (ps_setLc (i := 3) (own := [("_law_plan", 4), ("_law_ballot", 5)]) (by rfl) sc.nd rfl rfl (sw_true rfl rfl rfl (by decide +kernel)) (pi_values (pv 0)) (blkOk_by (own := [("_law_plan", 4), ("_law_ballot", 5)]) (N := N_l_agreed) (sc := defScope s_l_agreed) (by decide +kernel)) (fun _ _ _ _ _ => (pg_tupt (n := 2) rfl (pgs_cons (pg_name (i := 4) sc.nd rfl (.inl rfl) (.inr rfl)) (pgs_cons (pg_name (i := 5) sc.nd rfl (.inl rfl) (.inr rfl)) pgs_nil)))) (fun _ _ _ _ _ => pts_nil) (fun _ _ _ _ _ => (pv 4)))
    (pss_cons (ps_for PassesOwn.never rfl (pi_values (pv 0)) (pg_tupt (n := 2) rfl (pgs_cons (pg_name (i := 4) sc.nd rfl (.inr rfl)) (pgs_cons (pg_name (i := 5) sc.nd rfl (.inr rfl)) pgs_nil)))
    (pss_cons (ps_if (PW.pt (pw_or (pt_cmpR (op_notInd (hu65 hr)) (pv 4) (pv 1) (by rfl)) (pw_or1 (pt_cmpR (op_ned hr.units) (pv 4) (pe_ix ix_l (pv 3) pe_int (fun _ _ => rfl)) (nomark _)))))
    (pss_one (ps_ret pe_bl))
    pss_nil)
    (pss_one (ps_if (pt_cmpR (op_neD hr.units) (pe_lc (own := [("_law_one", 6)]) (by rfl) sc.nd (pi_keys (pv 2)) (blkOk_by (own := [("_law_one", 6)]) (N := N_l_agreed) (sc := defScope s_l_agreed) (by decide +kernel)) (fun _ _ _ _ _ => (pg_name (i := 6) sc.nd rfl (.inl rfl) (.inr rfl))) (fun _ _ _ _ _ => (pts_one (PW.pt (pw_and (pt_cmpR (op_gtP hr.units) (pv 6) (pv 5) (nomark _)) (pw_and1 (pt_cmpR (op_ned hr.units) (pe_dget hu (pv 2) (pv 6) (fun _ _ => rfl)) (pv 4) (nomark _))))))) (fun _ _ _ _ _ => (pv 6))) (pe_lst pa_nil) (nomark _))
    (pss_one (ps_ret pe_bl))
    pss_nil))))
    (pss_one (ps_ret pe_bl)))), ?_⟩
    clear sc hu hr
    obtain ⟨s, a, b, o1, o2, ms, mp, S, k, Pm, rfl, hs, hS, hL, hb, hP, hSl, hPl, hok, hPo, q⟩ := h
    replace q := Hd.mk q
    replace hPo := Hd.mk hPo
    replace hok := Hd.mk hok
    walk_at "go"
    refine ⟨o1, _, rfl, ?_⟩
    have hml : ms.length = S.length := by rw [hS.length, encS, List.length_map]
    have hmpl : mp.length = Pm.length := by rw [hP.length, encP2, List.length_map]
    -- the i-th value
    have val : Hd (∀ (i : Nat) (x : V) (H' : Hp), Same H H' → (∃ k, ms[i]? = some (k, x)) → ∃ e, S[i]? = some e ∧ ∃ t v1 v2, x = .ref t ∧ H' t = some (.tup [v1, v2]) ∧ Rp H' e.2.1 v1 ∧ Rp H' (encD e.2.2) v2) := ⟨fun i x H' sm ⟨k', hk⟩ => by
      obtain ⟨d, e1, e2⟩ := RpM.at_i hS hk
      unfold encS at e1
      rw [List.getElem?_map] at e1
      obtain ⟨e, e3, e4⟩ := Option.map_eq_some_iff.mp e1
      cases e4
      have e5 := e2.at (Tups.of_same sm)
      simp only [Rp, RpL] at e5
      obtain ⟨t, vs, rfl, ht, v1, r1, rfl, g1, v2, r2, rfl, g2, rfl⟩ := e5
      exact ⟨e, e3, t, v1, v2, rfl, ht, g1, g2⟩⟩
    refine lcD (wk_vals hs) (by omega) (fun _ => true) (fun i => ((S[i]?).map fun e => e.2.1).getD .non) (fun i x H1 sm1 hi hx A B hA hB => ?_) (fun l1 H1 nl1 sm1 hL1 => ?_)
    · obtain ⟨e, he, t, v1, v2, rfl, ht, g1, g2⟩ := val.out i x H1 sm1 hx
      have hA := hA rfl v1 H1 (Same.refl _) (by rw [he]; exact g1)
      clear hB
      walk_at "go"
    · have hs1 := sm1 _ _ hs
      obtain ⟨ws, hl1, hl2⟩ := hL1
      rw [gives_all, hml] at hl2
      obtain ⟨vs, hL1, hL2⟩ := id hL
      walk_at "go"
      refine ⟨o1, _, rfl, ?_⟩
      refine forI (wk_vals hs1) (fun i σ H' => Same H1 H' ∧ ∃ x4 x5 x6 : Option V, σ = [some (.ref s), some (.ref a), some (.ref b), some (.ref l1), x4, x5, x6]) ?_ ?_ ?_ ?_
      · exact ⟨Same.refl _, none, none, none, rfl⟩
      · rintro i σ H' ⟨e, _⟩
        exact e
      · rintro i x σ H2 H3 hi ⟨sm2, x4, x5, x6, rfl⟩ sm3 hx
        have sm13 := sm2.trans sm3
        have sm03 := sm1.trans sm13
        obtain ⟨e, he, t, v1, v2, rfl, ht, g1, g2⟩ := val.out i x H3 sm03 hx
        have emem : e ∈ S := List.mem_of_getElem? he
        have hl3 := sm13 _ _ hl1
        have ha3 := sm03 _ _ hL1
        have hb3 := sm03 _ _ hb
        have hP3 := hP.at (Tups.of_same sm03)
        have hl23 := hl2.at (Tups.of_same sm13)
        have hL23 := hL2.at (Tups.of_same sm03)
        obtain ⟨k1, k2⟩ := hok.out.1 e emem
        walk_at "go"
        refine ⟨e.2.1, plansD k, a, vs, g1, rfl, ha3, hL23, k2, plansD_okL k, ?_⟩
        rw [if_pos rfl, decide_eq_true k1]
        walk_at "go"
        have hS0 : ∃ e0, S[0]? = some e0 := by
          cases S with
          | nil => cases emem
          | cons x r => exact ⟨x, rfl⟩
        obtain ⟨e0, he0⟩ := hS0
        have hlen0 : 0 < S.length := (List.getElem?_eq_some_iff.mp he0).1
        obtain ⟨w0, hw0, hw1⟩ := hl23.get (i := 0) (d := e0.2.1) (by rw [List.getElem?_map, List.getElem?_range hlen0]; simp [he0])
        refine ⟨w0, hw0, e.2.1, e0.2.1, g1, hw1, k2, (hok.out.1 e0 (List.mem_of_getElem? he0)).2, ?_⟩
        have e00 : e.2.1 = e0.2.1 := hok.out.2.1 e emem e0 (List.mem_of_getElem? he0)
        rw [decide_eq_true e00]
        have hok3 := hok.out.2.2 e emem
        replace hok3 := Hd.mk hok3
        clear hw0 hw1 hl1 hl2 hl3
        walk_at "go"
        refine ⟨o2, .inr ⟨_, rfl, ?_⟩⟩
        refine lcD (wk_keysN hb3) (by omega) (fun _ => false) (fun i => .non) (fun i x H4 sm4 hi hx A B hA hB => ?_) (fun l2 H4 nl2 sm4 hL4 => ?_)
        · have hB := hB rfl H4 (Same.refl _)
          clear hA
          obtain ⟨kk, vv, qq, hk1, rfl, hk2⟩ := hx
          have sm34 := sm4
          obtain ⟨dd, f1, f2⟩ := RpM.at_i hP3 hk1
          unfold encP2 at f1
          rw [List.getElem?_map] at f1
          obtain ⟨pp, f3, f4⟩ := Option.map_eq_some_iff.mp f1
          obtain ⟨rfl, rfl⟩ : keyB pp.1 = kk ∧ pp.2 = dd := by cases f4; exact ⟨rfl, rfl⟩
          have g24 := g2.at (Tups.of_same sm4)
          have g14 := g1.at (Tups.of_same sm4)
          have rq : Rp H4 (pairD pp.1) (.ref qq) := ⟨qq, _, rfl, hk2, _, _, rfl, rfl, _, _, rfl, rfl, rfl⟩
          have hb4 := sm4 _ _ hb3
          have hP4 := hP3.at (Tups.of_same sm4)
          walk_at "go"
          refine ⟨pp.1, e.2.2, rq, g24, ?_⟩
          cases hlt : ltB e.2.2 pp.1 with
          | false => walk_at "go"
          | true =>
            walk_at "go"
            have get := dget_Nf (k := keyB pp.1) hb4 hk2
            have gP := hP4.get (keyB pp.1)
            rw [show keyB pp.1 = [pp.1.1, pp.1.2] from rfl, encP2_get] at gP
            rcases gP with ⟨z, _⟩ | ⟨d', v', z1, z2, z3⟩
            · exfalso
              have : pp.1 ∈ Pm.map (·.1) := List.mem_map.mpr ⟨pp, List.mem_of_getElem? f3, rfl⟩
              obtain ⟨x, hx⟩ := get_of_mem this
              rw [z] at hx
              cases hx
            · rw [show keyB pp.1 = [pp.1.1, pp.1.2] from rfl, z2] at get
              refine ⟨_, get, ?_⟩
              have mem := mem_of_get z1
              have e5 := hok3.out (pp.1, d') mem hlt
              refine ⟨d', e.2.1, z3, g14, hPo.out _ mem, k2, ?_⟩
              rw [decide_eq_true e5]
              walk_at "go"
        · obtain ⟨ws4, z1, z2⟩ := hL4
          have z3 : ws4 = [] := by
            have : gives mp.length (fun _ => false) (fun i => D.non) = [] := by
              unfold gives
              rw [List.filter_eq_nil_iff.mpr (fun _ _ => by simp)]
              rfl
            rw [this] at z2
            exact z2
          subst z3
          walk_at "go"
          rename_i l3 hl3
          have nl3 : H4 l3 = none := hl3.2.2.out
          have sm5 : Same H4 (upd H4 l3 (.lst [])) := same_new nl3
          refine ⟨.list [], .list [], .lst (SqL.of (sm5 _ _ z1)) .nil, .lst (SqL.of upd_same) .nil, by decide, by decide, ?_⟩
          have e9 : PyData.eqv (.list []) (.list []) = true := by simp [PyData.eqv, PyData.eqvAll]
          rw [e9]
          walk_at "go"
          exact ((sm13.trans sm4).trans sm5) _ _
      · rintro σ H2 ⟨sm2, x4, x5, x6, rfl⟩
        walk_at "go"
        exact q.out H2 (sm1.trans sm2)
end
end K64

namespace K64
open PySem PySem.Spec PyProof.Rows L2 Gr NdefX
/-- what a deed of the hand h may do to its change, the mail, the answered plans -/
inductive DeedR (h : Nat) (c : Chg) (mail : List (Nat × Msg)) (k : Nat) : Chg → List (Nat × Msg) → Nat → Prop
  | begin (more x : Int) (hm : 1 ≤ more) : DeedR h c mail k (c.begin_ more (.int x)) mail k
  | prop (n : Nat) : DeedR h c mail k (c.prop n k).1 mail (c.prop n k).2
  | tell (x : Int) : DeedR h c mail k c (mail ++ [(h, c.message (.int x))]) k
  | recv (g : Nat) (m : Msg) (hg : (g, m) ∈ mail) (ne : g ≠ h) : DeedR h c mail k (c.receive m) mail k
  | recvProp (g : Nat) (m : Msg) (n : Nat) (hg : (g, m) ∈ mail) (ne : g ≠ h) : DeedR h c mail k ((c.receive m).prop n k).1 mail ((c.receive m).prop n k).2
  | none : DeedR h c mail k c mail k
def encMail (x : Nat × Msg) : D := .tup [.int (x.1 : Int), encM x.2]
def MailAt (H : Hp) (a : Addr) (mail : List (Nat × Msg)) : Prop := LsD H a (mail.map encMail)
theorem MailAt.fr {H H' : Hp} {a : Addr} {S : List (Nat × Msg)} (h : MailAt H a S) (t : Tups H H') (e : ∀ o, H a = some o → H' a = some o) : MailAt H' a S := let ⟨m, h1, h2⟩ := h; ⟨m, e _ h1, h2.at t⟩
theorem lsD_fr {H H' : Hp} {a : Addr} {S : List D} (h : LsD H a S) (t : Tups H H') (e : ∀ o, H a = some o → H' a = some o) : LsD H' a S := let ⟨m, h1, h2⟩ := h; ⟨m, e _ h1, h2.at t⟩
def sp_l_deed (C Pt : Addr) : Sp := fun vs H Q _ => ∃ (d ml an x p r : Addr) (h : Nat) (m : List (Int × V)) (c : Chg) (mail : List (Nat × Msg)) (k : Nat) (xs : List Int), vs = [.ref d, .int (h : Int), .ref ml, .ref an, .ref x] ∧ H d = some (dI m) ∧ valV m (h : Int) = some (.ref p) ∧ m.length < 64 ∧ (∀ q ∈ m, 0 ≤ q.1 ∧ q.1 < 63) ∧
  ChgAt C H p c r ∧ c.reports.length < 63 ∧ MailAt H ml mail ∧ mail.length < 100000 ∧ D.okL (mail.map encMail) = true ∧ (∀ z ∈ mail, okY z.2.yes) ∧ LsD H an (plansD k) ∧ k < 100000 ∧ H x = some (.lst (xs.map V.int)) ∧ xs.length = 8 ∧ TabN H Pt nm_l_propose ∧ ml ≠ an ∧ d ≠ r ∧ x ≠ ml ∧ x ≠ an ∧
  ∀ c' mail' k' r' H', DeedR h c mail k c' mail' k' → (r' = r ∨ H r' = none) → FrT [p, r, ml, an] H H' → TabN H' Pt nm_l_propose → ChgAt C H' p c' r' → MailAt H' ml mail' → LsD H' an (plansD k') → Q .non H'
theorem atI_neg {α : Type} {xs : List α} {z : Int} (h : 0 < xs.length) : ∃ j, j < xs.length ∧ atI xs (-1 - z % (xs.length : Int)) = xs[j]? := by
  have h1 := Int.emod_nonneg z (show (xs.length : Int) ≠ 0 by omega)
  have h2 := Int.emod_lt_of_pos z (show (0 : Int) < xs.length by omega)
  generalize z % (xs.length : Int) = r at h1 h2
  refine ⟨xs.length - 1 - r.toNat, by omega, ?_⟩
  unfold atI ixN
  rw [if_neg (by omega), if_pos (by omega)]
  show xs[((-1 - r) + (xs.length : Int)).toNat]? = _
  rw [show ((-1 - r) + (xs.length : Int)).toNat = xs.length - 1 - r.toNat by omega]
theorem recv_rlen (c : Chg) (m : Msg) : (c.receive m).reports.length ≤ c.reports.length + 1 := by
  have h1 : (c.adopt m.ballot).reports.length ≤ c.reports.length := by
    unfold Chg.adopt
    split
    · exact Nat.zero_le _
    · exact Nat.le_refl _
  show (((c.adopt m.ballot).receiveYes m.yes m.votes).keep m).reports.length ≤ _
  unfold Chg.keep
  split
  · have := putA_len ((c.adopt m.ballot).receiveYes m.yes m.votes).reports (m.hand : Int) (m.report, m.yes)
    rw [recv_reports] at this
    show (putA ((c.adopt m.ballot).receiveYes m.yes m.votes).reports (m.hand : Int) (m.report, m.yes)).length ≤ _
    rw [recv_reports]
    omega
  · rw [recv_reports]
    omega
local macro_rules | `(tactic| walk_at "s") => `(tactic| simp only [a_seq, a_next, a_ifS, a_asg, a_ret, a_retN, a_drop, a_break, a_cont, a_test, a_b, a_op, a_un, a_var, a_c, a_name, a_tupt, a_gcons, a_gnil, a_gsub, a_call, a_meth, a_make, a_cb, a_cons, a_nil, a_fldC, a_sfldC, a_not, a_and, a_or, a_andV, a_orV, a_notV, a_if, a_tup, a_lst, a_dget, a_dget2, a_din, a_dnotin, a_dput, a_dnewK, a_dnewT, a_aug, a_par, a_sl, a_part, a_nopart, a_bm, a_bm0, tPairs, a_disp, a_iLst, a_iTpl, a_iVals, a_iKeys, a_iRng1, a_iRng2, a_I0, a_I, a_U, a_eq, a_ne, a_ixt, a_ixl, a_lenl, a_lent, a_sll, a_sumL, a_sortL, a_sortD, a_listRg, a_rg1, a_append, a_yes, a_setdN, a_ddnotin, a_ddput, a_lenq, a_ixq, a_slq, a_methG, a_callC, a_ndefM, tFor_eq, tLc_eq,
  scal_ii, scal_nn, scal_in, scal_ni, scal_bb, scal_ss, scal_sn, scal_ns, L2.start, cx_K, cx_P, cx_w, bit_c, wipe, Int.natCast_inj, bitAnd_c, bitOr_c, shl1_c, Int.zero_add, Int.add_zero, Int.reduceLT, Int.reduceLE, Int.reducePow, Int.reduceNeg, Int.reduceToNat, Int.toNat_natCast, Int.natCast_nonneg,
  at_lit0, at_lit1, at_lit2, at_lit3, at_lit4, at_lit5, at_lit6, at_lit7, upd_same, upd_ne, Gr.upd_none, ne_eq, Option.isSome_some, sizeLine_eq, Nat.reduceLeDiff, upd_upd, Nat.reduceLT,
  List.map_cons, List.map_nil, List.length_cons, List.length_nil, List.replicate, List.cons_append, List.nil_append, List.append_nil, List.getElem?_cons_succ, List.getElem?_cons_zero, List.set_cons_succ, List.set_cons_zero,
  Option.some.injEq, V.ref.injEq, V.int.injEq, V.bl.injEq, V.str.injEq, List.cons.injEq, exists_eq_left, exists_eq_left', exists_eq_right, exists_eq, exists_eq', exists_and_left, exists_and_right, exists_const, true_and, and_true, and_self, ite_true, ite_false, if_true, if_false, reduceCtorEq, decide_true, decide_false, decide_eq_true_eq, Bool.not_true, Bool.not_false, Bool.not_eq_true', decide_eq_false_iff_not, Bool.false_eq_true, not_true_eq_false, not_false_eq_true, eq_self, HO.ins.injEq, HO.tup.injEq, HO.lst.injEq, and_assoc, Nat.reduceSub, Nat.reduceAdd, Nat.sub_self, reduceIte, ln_F_Change, in_Change_0, ll_Change_0, lk_Change_me, pt_Change_me, in_Change_1, ll_Change_1, lk_Change_hands, pt_Change_hands, in_Change_2, ll_Change_2, lk_Change_ballot, pt_Change_ballot, in_Change_3, ll_Change_3, lk_Change_yes, pt_Change_yes, in_Change_4, ll_Change_4, lk_Change_votes, pt_Change_votes, in_Change_5, ll_Change_5, lk_Change_reports, pt_Change_reports, in_Change_6, lk_Change_agreed, pt_Change_agreed, nm_Change_begin, nm_Change_message, nm_Change_receive, nm_Change_receive_yes, nm_Change_unplanned, nm_Change_settle, nm_Change_enough, nm_Change_propose, nm_Change_settled, N_has, N_hands_of, N_many, N_more_than_half, N_under, N_ballot_of, N_Change_init, N_Change_begin, N_Change_message, N_Change_receive, N_Change_receive_yes, N_Change_unplanned, N_Change_settle, N_Change_enough, N_Change_propose, N_Change_settled, N_l_cell_at, N_l_stream, N_l_hands, N_l_propose, N_l_noted, N_l_kept, N_l_agreed, N_l_deed, N_l_right, N_law, N_l_propose_law_make, *])
local macro_rules | `(tactic| walk_at "e") => `(tactic| first | assumption | rfl | (refine Gr.Fz.out ?_; first | assumption | (simp only [*]; done)) | (simp only [*]; done) | (simp [*]; done))
local macro_rules | `(tactic| walk_at "fr") => `(tactic| (repeat first | exact Gr.Fr.refl _ _ | assumption | (refine Gr.Fr.put' ?_ ?_; focus (first | (right; assumption) | (right; refine Gr.Fz.out ?_; simp only [*]; done) | (left; simp; done)))))
local macro_rules | `(tactic| walk_at "tp") => `(tactic| (repeat first | exact Gr.Tups.refl _ | assumption | (refine Gr.Tups.put' ?_ ?_; focus (first | (refine Gr.not_tup_none ?_; first | assumption | (refine Gr.Fz.out ?_; simp only [*]; done)) | (refine Gr.not_tup_of (by assumption) (fun xs z => ?_); cases z; done)))))
local macro_rules | `(tactic| walk_at "sm") => `(tactic| (repeat first | exact L2.Same.refl _ | assumption | (refine Gr.Same.put' ?_ ?_; focus (first | assumption | (refine Gr.Fz.out ?_; simp only [*]; done)))))
local macro_rules | `(tactic| walk_at "go") => `(tactic| ((try walk_at "s"); first | (intro _ hh; (try simp only [L2.upd_upd, Gr.upd_none, ne_eq, and_assoc] at hh); (try simp only [Gr.none_fz] at hh); walk_at "go") | (refine Gr.Cn.go ?_; walk_at "go") | skip))

section
variable {P : Program} {w : World} {K : PySem.W.Frag} {mg : Str → Option Value} {base : Heap}
theorem ok_l_deed (T : Env K mg) {ct Pt : Addr} (TB : LamX.TabB base mg ct Pt) (hcd : T.fd_l_propose.code = .ref ct) : FnOk P w K mg base CX0 6 (He.ga K "_law_deed") T.fd_l_deed ["_law_changes", "_law_hand", "_law_mail", "_law_answered", "_law_xs"] (sp_l_deed (He.ga K "Change") Pt) := by
  have sc := sc_l_deed
  have ok_l_propose := fun (_ : Env K mg) => ok_l_propose (P := P) (w := w) T TB hcd
  refine T.F_l_deed.ok sc (fun vs H Q E h => ?_) (fun cdv A outer s H vs Q E hr h => ?_)
  · obtain ⟨_, _, _, _, _, _, _, _, _, _, _, _, rfl, _⟩ := h; rfl
  · have hu := hu_of hr
    refine ⟨_, PSs.nox (pss_cons (ps_set (i := 5) sc.nd rfl (.inl rfl) (pe_op op_mod (pe_ix ix_l (pv 4) pe_int (fun _ _ => rfl)) pe_int))
    (pss_one (ps_if (pt_cmpR op_eq (pv 5) pe_int (nomark _))
    (pss_one (ps_expr (pe_meth (pe_dget hu (pv 0) (pv 1) (fun _ _ => rfl)) T.c_Change T.m_Change_begin (ok_Change_begin T) (hr.mono (by decide)) (b_Change_begin T) .nil pass0 (pa_cons (pe_op op_add pe_int (pe_op op_mod (pe_ix ix_l (pv 4) pe_int (fun _ _ => rfl)) (pe_ix ix_l (pe_lst (pa_cons pe_int (pa_cons pe_int (pa_cons (pe_op op_pow pe_int pe_int) pa_nil)))) (pe_op op_mod (pe_ix ix_l (pv 4) pe_int (fun _ _ => rfl)) pe_int) (fun _ _ => rfl)))) (pa_cons (pe_ix ix_l (pv 4) pe_int (fun _ _ => rfl)) pa_nil)))))
    (pss_one (ps_if (pt_cmpR op_lt (pv 5) pe_int (nomark _))
    (pss_one (ps_expr (pe_call (ok_l_propose T) (hr.mono (by decide)) (by rfl) T.g_l_propose T.F_l_propose.kp (b_l_propose T) .nil pass0 (pa_cons (pv 0) (pa_cons (pv 1) (pa_cons (pv 3) (pa_cons (pv 4) pa_nil)))))))
    (pss_one (ps_if (pt_cmpR op_lt (pv 5) pe_int (nomark _))
    (pss_one (ps_expr (pe_bm PySem.F.plainAttrs_list PySem.F.slot_list_append PySem.F.type_list_append mt_append (pv 2) (pa_cons (pe_tup (pa_cons (pv 1) (pa_cons (pe_meth (pe_dget hu (pv 0) (pv 1) (fun _ _ => rfl)) T.c_Change T.m_Change_message (ok_Change_message T) (hr.mono (by decide)) (b_Change_message T) .nil pass0 (pa_cons (pe_ix ix_l (pv 4) pe_int (fun _ _ => rfl)) pa_nil)) pa_nil))) pa_nil))))
    (pss_one (ps_if (pt_cmpR (op_neD hr.units) (pv 2) (pe_lst pa_nil) (nomark _))
    (pss_cons (ps_asg (pe_ix ix_l (pv 2) (pe_op op_sub (pe_un un_neg pe_int) (pe_op op_mod (pe_ix ix_l (pv 4) pe_int (fun _ _ => rfl)) (pe_callB len_l (by rfl) T.z_len (by decide +kernel) (pa_cons (pv 2) pa_nil)))) (fun _ _ => rfl)) (pg_tupt (n := 2) rfl (pgs_cons (pg_name (i := 6) sc.nd rfl (.inl rfl)) (pgs_cons (pg_name (i := 7) sc.nd rfl (.inl rfl)) pgs_nil))))
    (pss_one (ps_if (pt_cmpR op_ne (pv 6) (pv 1) (nomark _))
    (pss_cons (ps_expr (pe_meth (pe_dget hu (pv 0) (pv 1) (fun _ _ => rfl)) T.c_Change T.m_Change_receive (ok_Change_receive T) (hr.mono (by decide)) (b_Change_receive T) .nil pass0 (pa_cons (pv 7) pa_nil)))
    (pss_one (ps_if (pt_cmpR op_eq (pe_op op_mod (pe_ix ix_l (pv 4) pe_int (fun _ _ => rfl)) pe_int) pe_int (nomark _))
    (pss_one (ps_expr (pe_call (ok_l_propose T) (hr.mono (by decide)) (by rfl) T.g_l_propose T.F_l_propose.kp (b_l_propose T) .nil pass0 (pa_cons (pv 0) (pa_cons (pv 1) (pa_cons (pv 3) (pa_cons (pv 4) pa_nil)))))))
    pss_nil)))
    pss_nil)))
    pss_nil))))))))), ?_⟩
    clear sc hu hr ok_l_propose
    obtain ⟨d, ml, an, x, p, r, h, m, c, mail, k, xs, rfl, hd, hv, hml, hmk, hC, hrl, hM, hMl, hMo, hMy, hL, hk, hx, hxl, hT, nma, ndr, nxm, nxa, q⟩ := h
    replace q := Hd.mk q
    replace hMy := Hd.mk hMy
    replace hmk := Hd.mk hmk
    obtain ⟨x0, x1, x2, x3, x4, x5, x6, x7, rfl⟩ : ∃ x0 x1 x2 x3 x4 x5 x6 x7, xs = [x0, x1, x2, x3, x4, x5, x6, x7] := by
      match xs, hxl with
      | [x0, x1, x2, x3, x4, x5, x6, x7], _ => exact ⟨x0, x1, x2, x3, x4, x5, x6, x7, rfl⟩
    have hx0 := hx
    simp only [List.map_cons, List.map_nil] at hx
    have get := dget_I (k := (h : Int)) hd
    rw [hv] at get
    obtain ⟨⟨dx, bv, yv, av, hp, hb, hy, ha⟩, ⟨mm, hr, hm⟩, h7, h8, h9⟩ := id hC
    obtain ⟨tps, hPt, _⟩ := id hT
    obtain ⟨mvs, hM1, hM2⟩ := id hM
    obtain ⟨avs, hL1, hL2⟩ := id hL
    have nmp : ml ≠ p := ne_of hM1 hp fun z => by cases z
    have nmr : ml ≠ r := ne_of hM1 hr fun z => by unfold dI at z; cases z
    have nap : an ≠ p := ne_of hL1 hp fun z => by cases z
    have nar : an ≠ r := ne_of hL1 hr fun z => by unfold dI at z; cases z
    have nPp : Pt ≠ p := ne_of hPt hp fun z => by cases z
    have nPr : Pt ≠ r := ne_of hPt hr fun z => by unfold dI at z; cases z
    have nPm : Pt ≠ ml := ne_of hPt hM1 fun z => by cases z
    have nPa : Pt ≠ an := ne_of hPt hL1 fun z => by cases z
    have ndp : d ≠ p := ne_of hd hp fun z => by unfold dI at z; cases z
    have nxp : x ≠ p := ne_of hx0 hp fun z => by cases z
    have nxr : x ≠ r := ne_of hx0 hr fun z => by unfold dI at z; cases z
    have tpr : Hd (∀ H', Fr [p, r] H H' → Tups H H') := ⟨fun H' f b xs e => f b _ e (by
      simp only [List.mem_cons, List.not_mem_nil, or_false]
      rintro (z | z)
      · rw [z, hp] at e; cases e
      · rw [z, hr] at e; unfold dI at e; cases e)⟩
    have fin0 : Hd (∀ c' r' H', DeedR h c mail k c' mail k → (r' = r ∨ H r' = none) → Fr [p, r] H H' → ChgAt (He.ga K "Change") H' p c' r' → Q .non H') := ⟨fun c' r' H' dd e f hC' =>
      q.out c' mail k r' H' dd e (FrT.of_fr (f.mono (by simp))) (TabN.fr hT f (by simp [nPp, nPr]) (by simp [hp, hr, dI])) hC' (hM.fr (tpr.out H' f) fun o e => f ml o e (by simp [nmp, nmr])) (lsD_fr hL (tpr.out H' f) fun o e => f an o e (by simp [nap, nar]))⟩
    walk_at "go"
    by_cases h0 : x1 % 10 = 0
    · walk_at "go"
      refine ⟨_, get, ?_⟩
      walk_at "go"
      refine ⟨by unfold CPow; decide, fun l nl => ?_⟩
      have sm1 : Same H (upd H l (.lst [V.int 1, V.int 3, V.int 1000000000])) := same_new nl
      have hx1 := sm1 _ _ hx
      have hC1 := hC.same sm1
      have h33 : ∃ v : Int, atI [V.int 1, V.int 3, V.int 1000000000] (x3 % 3) = some (.int v) ∧ 0 < v := by
        have h6 : x3 % 3 = 0 ∨ x3 % 3 = 1 ∨ x3 % 3 = 2 := by omega
        rcases h6 with e | e | e <;> rw [e]
        · exact ⟨1, rfl, by decide⟩
        · exact ⟨3, rfl, by decide⟩
        · exact ⟨1000000000, rfl, by decide⟩
      obtain ⟨v, ev, v0⟩ := h33
      generalize upd H l (.lst [V.int 1, V.int 3, V.int 1000000000]) = H1 at sm1 hx1 hC1
      clear hx
      walk_at "go"
      refine ⟨p, r, c, 1 + x2 % v, .int x4, .int x4, rfl, hC1, rfl, fun r' H' nr fr hC' => ?_⟩
      have := Int.emod_nonneg x2 (show v ≠ 0 by omega)
      exact fin0.out _ r' H' (.begin _ _ (by omega)) (.inr (sm1.free nr)) ((Fr.of_same sm1).trans (fr.mono (by simp))) hC'
    · by_cases h3 : x1 % 10 < 3
      · walk_at "go"
        refine ⟨d, an, x, p, r, h, m, c, k, [x0, x1, x2, x3, x4, x5, x6, x7], rfl, hd, hv, hml, hmk.out, hC, by omega, hL, hk, hx0, by simp, hT, fun n H' frt tab hC' hL' => ?_⟩
        have tp : Tups H H' := frt.tups (by simp [hp, hL1])
        exact q.out _ mail _ r H' (.prop n) (.inl rfl) (frt.mono (by simp)) tab hC' (hM.fr tp fun o e => frt ml o e (by simp [nmp, nma]) fun ps z => by rw [hM1] at e; cases e; cases z) hL'
      · by_cases h5 : x1 % 10 < 5
        · walk_at "go"
          refine ⟨.inl ⟨rfl, _, SqL.of hM1⟩, _, get, ?_⟩
          walk_at "go"
          refine ⟨p, r, c, .int x4, .int x4, rfl, hC, rfl, fun v H1 sm1 hv1 => ?_⟩
          have hM11 := sm1 _ _ hM1
          walk_at "go"
          rename_i t ht
          have nt : H1 t = none := ht.2.2.out
          have nmt := ne_of_none hM11 nt
          clear ht
          refine ⟨by rw [hM2.length, List.length_map]; omega, ?_⟩
          have smt : Same H1 (upd H1 t (.tup [.int (h : Int), v])) := same_new nt
          have sm2 := sm1.trans smt
          have tp2 : Tups H (upd (upd H1 t (.tup [.int (h : Int), v])) ml (.lst (mvs ++ [.ref t]))) := (Tups.of_same sm2).put (not_tup_of hM1 fun xs z => by cases z)
          have fr2 : Fr [ml] H (upd (upd H1 t (.tup [.int (h : Int), v])) ml (.lst (mvs ++ [.ref t]))) := (Fr.of_same sm2).put (.inl (by simp))
          have tp1 : Tups H1 (upd (upd H1 t (.tup [.int (h : Int), v])) ml (.lst (mvs ++ [.ref t]))) := (Tups.of_same smt).put (not_tup_of hM11 fun xs z => by cases z)
          refine q.out c (mail ++ [(h, c.message (.int x4))]) k r _ (.tell x4) (.inl rfl) (FrT.of_fr (fr2.mono (by simp))) (TabN.fr hT fr2 (by simp [nPm]) (by simp [hM1])) (hC.at tp2 (fun o e => fr2 p o e (by simp [nmp.symm])) (fun o e => fr2 r o e (by simp [nmr.symm]))) ⟨_, upd_same, ?_⟩ (lsD_fr hL tp2 fun o e => fr2 an o e (by simp [nma.symm]))
          rw [List.map_append]
          exact (hM2.at tp2).snoc ⟨t, _, rfl, by rw [upd_ne nmt.symm, upd_same], .int (h : Int), _, rfl, rfl, v, [], rfl, hv1.at tp1, rfl⟩
        · walk_at "go"
          rename_i l0 hl0
          have n0 : H l0 = none := hl0.2.2.out
          clear hl0
          have sm0 : Same H (upd H l0 (.lst [])) := same_new n0
          refine ⟨.list ((mail.map encMail).map D.py), .list [], .lst (SqL.of (sm0 _ _ hM1)) (hM2.at (Tups.of_same sm0)).dp, .lst (SqL.of upd_same) .nil, D.shapedL hMo, by decide, ?_⟩
          have hx1 := sm0 _ _ hx
          have hM11 := sm0 _ _ hM1
          have hM12 := hM2.at (Tups.of_same sm0)
          have hC0 := hC.same sm0
          have hd0 := sm0 _ _ hd
          have hL0 := lsD_fr hL (Tups.of_same sm0) fun o => sm0 an o
          have hT0 := hT.ext fun b o => sm0 b o
          have hx01 := sm0 _ _ hx0
          generalize upd H l0 (.lst []) = H0 at sm0 hx1 hM11 hM12 hC0 hd0 hL0 hT0 hx01
          have eqe : PyData.eqv (.list ((mail.map encMail).map D.py)) (.list []) = decide (mail = []) := by
            cases mail with
            | nil => simp [PyData.eqv, PyData.eqvAll]
            | cons z r => simp [PyData.eqv, PyData.eqvAll]
          rw [eqe]
          have hmvl : mvs.length = mail.length := by rw [hM2.length, List.length_map]
          by_cases hm0 : mail = []
          · rw [decide_eq_true hm0]
            clear hx
            walk_at "go"
            exact fin0.out c r H0 .none (.inl rfl) (Fr.of_same sm0) hC0
          · rw [decide_eq_false hm0]
            have hpos : 0 < mvs.length := by
              rw [hmvl]
              cases mail with
              | nil => exact absurd rfl hm0
              | cons z r => exact Nat.succ_pos _
            clear hx hM1 hd hx0 hL1 hp hr hPt
            walk_at "go"
            refine ⟨by omega, ?_⟩
            obtain ⟨j, hj, ej⟩ := atI_neg (xs := mvs) (z := x2) hpos
            have hjm : j < mail.length := by omega
            obtain ⟨w0, ew, rw0⟩ := hM12.get (i := j) (d := encMail mail[j]) (by rw [List.getElem?_map, List.getElem?_eq_getElem hjm]; rfl)
            have gmem : mail[j] ∈ mail := List.getElem_mem hjm
            generalize mail[j] = gm at rw0 gmem
            obtain ⟨g, msg⟩ := gm
            simp only [encMail, Rp, RpL] at rw0
            obtain ⟨tg, vs, rfl, htg, v1, r1, rfl, rfl, v2, r2, rfl, g2, rfl⟩ := rw0
            rw [ew, hmvl] at ej
            refine ⟨_, ej, ?_⟩
            clear ej ew
            walk_at "go"
            by_cases hgh : g = h
            · subst hgh
              walk_at "go"
              exact fin0.out c r H0 .none (.inl rfl) (Fr.of_same sm0) hC0
            · have hgh' : ¬ ((g : Int) = (h : Int)) := by omega
              have get0 := dget_I (k := (h : Int)) hd0
              rw [hv] at get0
              obtain ⟨⟨dx0, bv0, yv0, av0, hp0, _⟩, _⟩ := id hC0
              walk_at "go"
              refine ⟨_, get0, ?_⟩
              walk_at "go"
              refine ⟨p, r, c, v2, msg, rfl, hC0, g2, hMy.out _ gmem, by omega, fun r' H1 hr' fr1 hC1 => ?_⟩
              have hr0' : r' = r ∨ H r' = none := hr'.imp id fun z => sm0.free z
              have fr01 : Fr [p, r] H H1 := (Fr.of_same sm0).trans fr1
              have tp01 := tpr.out H1 fr01
              have hx11 := fr1 x _ hx1 (by simp [nxp, nxr])
              have hx101 := fr1 x _ hx01 (by simp [nxp, nxr])
              have hd1 := fr1 d _ hd0 (by simp [ndp, ndr])
              by_cases h25 : x5 % 2 = 0
              · clear hx1
                walk_at "go"
                have hrl2 := recv_rlen c msg
                obtain ⟨tps0, hPt0, _⟩ := id hT0
                obtain ⟨⟨_, _, _, _, hp00, _⟩, ⟨_, hr00, _⟩, _⟩ := id hC0
                refine ⟨d, an, x, p, r', h, m, c.receive msg, k, [x0, x1, x2, x3, x4, x5, x6, x7], rfl, hd1, hv, hml, hmk.out, hC1, by omega, lsD_fr hL tp01 (fun o e => fr01 an o e (by simp [nap, nar])), hk, hx101, by simp, TabN.fr hT0 fr1 (by simp [nPp, nPr]) (by simp [hp00, hr00, dI]), fun n H2 frt tab hC2 hL2 => ?_⟩
                obtain ⟨⟨dx1, bv1, yv1, av1, hp1, _⟩, _⟩ := id hC1
                have hM1 := hM.fr tp01 fun o e => fr01 ml o e (by simp [nmp, nmr])
                obtain ⟨lvs, hL11, _⟩ := lsD_fr hL tp01 (fun o e => fr01 an o e (by simp [nap, nar]))
                have tp12 : Tups H1 H2 := frt.tups (by simp [hp1, hL11])
                exact q.out _ mail _ r' H2 (.recvProp g msg n gmem hgh) hr0' ((FrT.of_fr (fr01.mono (by simp))).trans (frt.mono (by simp))) tab hC2 (hM1.fr tp12 fun o e => frt ml o e (by simp [nmp, nma]) fun ps z => by obtain ⟨ws, z1, _⟩ := hM1; rw [z1] at e; cases e; cases z) hL2
              · clear hx1
                walk_at "go"
                exact fin0.out _ r' H1 (.recv g msg gmem hgh) hr0' fr01 hC1
end
end K64

namespace K64
open PySem PySem.Spec PyProof.Rows L2 Gr
/-! ### the plain law: ballots -/
def le (a b : Bal) : Prop := a.1 < b.1 ∨ (a.1 = b.1 ∧ a.2 ≤ b.2)
def lt (a b : Bal) : Prop := a.1 < b.1 ∨ (a.1 = b.1 ∧ a.2 < b.2)
theorem ltB_iff {a b : Bal} : ltB a b = true ↔ lt a b := by
  unfold ltB lt
  simp only [Bool.or_eq_true, Bool.and_eq_true, decide_eq_true_eq]
theorem ltB_not {a b : Bal} : ltB a b = false ↔ le b a := by
  rw [← Bool.not_eq_true, ltB_iff]
  unfold lt le
  omega
theorem le_refl (a : Bal) : le a a := by unfold le; omega
theorem le_trans {a b c : Bal} (h : le a b) (h' : le b c) : le a c := by unfold le at *; omega
theorem lt_le {a b : Bal} (h : lt a b) : le a b := by unfold le lt at *; omega
theorem lt_of_lt_le {a b c : Bal} (h : lt a b) (h' : le b c) : lt a c := by unfold le lt at *; omega
theorem lt_of_le_lt {a b c : Bal} (h : le a b) (h' : lt b c) : lt a c := by unfold le lt at *; omega
theorem not_lt_le {a b : Bal} (h : lt a b) (h' : le b a) : False := by unfold le lt at *; omega
theorem le_or {a b : Bal} (h : le a b) : a = b ∨ lt a b := by
  by_cases e : a = b
  · exact .inl e
  · refine .inr ?_
    have : ¬ (a.1 = b.1 ∧ a.2 = b.2) := fun z => e (Prod.ext z.1 z.2)
    unfold le lt at *
    omega
theorem lt_tri (a b : Bal) : lt a b ∨ a = b ∨ lt b a := by
  by_cases e : a = b
  · exact .inr (.inl e)
  · have : ¬ (a.1 = b.1 ∧ a.2 = b.2) := fun z => e (Prod.ext z.1 z.2)
    unfold lt
    omega
theorem under_some {a b : Bal} : under (some a) (some b) = ltB a b := rfl
/-! ### counting -/
theorem pc_step (n : Nat) : pc n = n % 2 + pc (n / 2) := by
  by_cases h : n = 0
  · subst h; simp [pc_zero]
  · exact pc_pos h
theorem pc_sum : ∀ (c a b : Nat), (∀ i, a.testBit i = true → c.testBit i = true) → (∀ i, b.testBit i = true → c.testBit i = true) → (∀ i, a.testBit i = true → b.testBit i = true → False) → pc a + pc b ≤ pc c := by
  intro c
  induction c using Nat.strongRecOn with
  | _ c ih =>
    intro a b ha hb hd
    by_cases hc : c = 0
    · subst hc
      have ea : a = 0 := Nat.eq_of_testBit_eq fun i => by
        cases h : a.testBit i with
        | false => simp
        | true => have := ha i h; simp at this
      have eb : b = 0 := Nat.eq_of_testBit_eq fun i => by
        cases h : b.testBit i with
        | false => simp
        | true => have := hb i h; simp at this
      rw [ea, eb, pc_zero]
      exact Nat.le_refl _
    · have h := ih (c / 2) (by omega) (a / 2) (b / 2) (fun i => by rw [← Nat.testBit_succ, ← Nat.testBit_succ]; exact ha (i + 1)) (fun i => by rw [← Nat.testBit_succ, ← Nat.testBit_succ]; exact hb (i + 1)) (fun i => by rw [← Nat.testBit_succ, ← Nat.testBit_succ]; exact hd (i + 1))
      have h0 := ha 0
      have h1 := hb 0
      have h2 := hd 0
      simp only [Nat.testBit_zero, decide_eq_true_eq] at h0 h1 h2
      rw [pc_step a, pc_step b, pc_step c]
      have ma := Nat.mod_two_eq_zero_or_one a
      have mb := Nat.mod_two_eq_zero_or_one b
      have mc := Nat.mod_two_eq_zero_or_one c
      have k0 : a % 2 = 0 ∨ c % 2 = 1 := ma.imp id h0
      have k1 : b % 2 = 0 ∨ c % 2 = 1 := mb.imp id h1
      have k2 : a % 2 = 0 ∨ b % 2 = 0 := ma.elim .inl fun z => mb.elim .inr fun z' => (h2 z z').elim
      omega
theorem meet {Q M W : Nat} (h1 : moreHalf Q W = true) (h2 : moreHalf M W = true) : ∃ g, Q.testBit g = true ∧ M.testBit g = true ∧ W.testBit g = true := by
  unfold moreHalf at h1 h2
  rw [decide_eq_true_eq] at h1 h2
  by_cases h : ∃ g, Q.testBit g = true ∧ M.testBit g = true ∧ W.testBit g = true
  · exact h
  · exfalso
    have := pc_sum W (Q &&& W) (M &&& W) (fun i => by rw [Nat.testBit_and]; simp) (fun i => by rw [Nat.testBit_and]; simp) (fun i => by
      rw [Nat.testBit_and, Nat.testBit_and]
      simp only [Bool.and_eq_true]
      rintro ⟨a, b⟩ ⟨c, _⟩
      exact h ⟨i, a, c, b⟩)
    omega
/-! ### assoc lists -/
theorem getA_app {κ α : Type} [DecidableEq κ] (l r : List (κ × α)) (k : κ) : getA (l ++ r) k = match getA l k with
    | some x => some x
    | none => getA r k := by
  induction l with
  | nil => rfl
  | cons p l ih =>
    rw [List.cons_append]
    by_cases e : p.1 = k
    · rw [getA_pos e, getA_pos e]
    · rw [getA_neg e, getA_neg e, ih]
theorem getA_setP {P : List (Bal × D)} {b : Bal} {p : D} : getA (setP P b p) b = some ((getA P b).getD p) := by
  unfold setP
  cases h : getA P b with
  | some x => exact h
  | none =>
    show getA (P ++ [(b, p)]) b = _
    rw [getA_app, h]
    exact getA_pos (p := (b, p)) rfl
theorem getA_setP_old {P : List (Bal × D)} {b b' : Bal} {p p' : D} (h : getA P b' = some p') : getA (setP P b p) b' = some p' := by
  unfold setP
  cases h2 : getA P b with
  | some x => exact h
  | none =>
    show getA (P ++ [(b, p)]) b' = _
    rw [getA_app, h]
theorem getA_setP_inv {P : List (Bal × D)} {b b' : Bal} {p p' : D} (h : getA (setP P b p) b' = some p') : getA P b' = some p' ∨ (b' = b ∧ getA P b = none ∧ p' = p) := by
  unfold setP at h
  cases h2 : getA P b with
  | some x => rw [h2] at h; exact .inl h
  | none =>
    rw [h2] at h
    have h : getA (P ++ [(b, p)]) b' = some p' := h
    rw [getA_app] at h
    cases h3 : getA P b' with
    | some x => rw [h3] at h; exact .inl h
    | none =>
      rw [h3] at h
      have h : getA [(b, p)] b' = some p' := h
      by_cases e : b = b'
      · rw [getA_pos (p := (b, p)) e] at h
        exact .inr ⟨e.symm, rfl, (Option.some.inj h).symm⟩
      · rw [getA_neg (p := (b, p)) e] at h
        cases h
theorem mem_setA {A : List (Nat × Bal)} {x y : Nat × Bal} : x ∈ setA A y ↔ x ∈ A ∨ x = y := by
  unfold setA
  by_cases h : y ∈ A
  · rw [if_pos h]
    exact ⟨.inl, fun z => z.elim id fun e => by rw [e]; exact h⟩
  · rw [if_neg h, List.mem_append, List.mem_singleton]
/-! ### the state -/
structure S0 where
  ch : Nat → Chg
  mail : List (Nat × Msg)
  A : List (Nat × Bal)
  P : List (Bal × D)
  k : Nat
def RepOk (s : S0) (g : Nat) (B : Bal) (y : Option Yes) : Prop := (∃ Bg, (s.ch g).ballot = some Bg ∧ le B Bg) ∧ (∀ y', y = some y' → getA s.P y'.1 = some y'.2 ∧ (g, y'.1) ∈ s.A ∧ le y'.1 B) ∧ ∀ b, lt b B → (g, b) ∈ s.A → ∃ y', y = some y' ∧ le b y'.1
def MsgOk (s : S0) (m : Msg) : Prop := (∀ B, m.ballot = some B → RepOk s m.hand B m.yes) ∧ (m.ballot = none → m.yes = none) ∧ ∀ y, m.yes = some y → ∀ i, m.votes.testBit i = true → (i, y.1) ∈ s.A
def SafeAt (hs : List Nat) (W : Nat) (s : S0) (P1 : List (Bal × D)) (b : Bal) (p : D) : Prop := ∃ Q : Nat, moreHalf Q W = true ∧ (∀ g, g ∈ hs → Q.testBit g = true → ∃ Bg, (s.ch g).ballot = some Bg ∧ le b Bg) ∧
  ((∀ g b', g ∈ hs → Q.testBit g = true → lt b' b → (g, b') ∉ s.A) ∨ ∃ b0, lt b0 b ∧ getA P1 b0 = some p ∧ ∀ g b', g ∈ hs → Q.testBit g = true → lt b' b → (g, b') ∈ s.A → le b' b0)
def Chosen (W : Nat) (s : S0) (b : Bal) (p : D) : Prop := getA s.P b = some p ∧ ∃ M : Nat, moreHalf M W = true ∧ ∀ i, M.testBit i = true → (i, b) ∈ s.A
structure ChOk (hs : List Nat) (W : Nat) (s : S0) (h : Nat) (c : Chg) : Prop where
  me : c.me = h
  hands : c.hands = W
  yn : c.yes = none → c.votes = 0 ∧ c.agreed = none
  ys : ∀ y, c.yes = some y → (∃ B, c.ballot = some B ∧ le y.1 B) ∧ (h, y.1) ∈ s.A ∧ getA s.P y.1 = some y.2 ∧ (∀ i, c.votes.testBit i = true → (i, y.1) ∈ s.A) ∧ c.votes.testBit h = true
  rn : (c.reports.map (·.1)).Nodup
  rp : ∀ x ∈ c.reports, ∃ g ∈ hs, x.1 = (g : Int) ∧ ∃ B, c.ballot = some B ∧ RepOk s g B x.2.2
  ag : ∀ p, c.agreed = some p → ∃ y b, c.yes = some y ∧ le b y.1 ∧ Chosen W s b p
structure Ok (hs : List Nat) (W : Nat) (s : S0) : Prop where
  ch : ∀ h ∈ hs, ChOk hs W s h (s.ch h)
  msg : ∀ x ∈ s.mail, x.1 ∈ hs ∧ x.2.hand = x.1 ∧ MsgOk s x.2
  acc : ∀ h b, (h, b) ∈ s.A → h ∈ hs ∧ (∃ p, getA s.P b = some p) ∧ ∃ y, (s.ch h).yes = some y ∧ le b y.1
  own : ∀ b p, getA s.P b = some p → ∃ h ∈ hs, (h : Int) = b.2 ∧ (h, b) ∈ s.A
  core : ∀ P1 b p P2, s.P = P1 ++ (b, p) :: P2 → getA P1 b = none ∧ SafeAt hs W s P1 b p
  val : ∀ x ∈ s.P, ∃ i, i < s.k ∧ x.2 = planD i
/-! ### two plans chosen are one -/
theorem split_of_get {κ α : Type} [DecidableEq κ] {m : List (κ × α)} {k : κ} {x : α} (h : getA m k = some x) : ∃ l r, m = l ++ (k, x) :: r := List.append_of_mem (mem_of_get h)
theorem agree {hs : List Nat} {W : Nat} {s : S0} (hW : ∀ i, W.testBit i = true → i ∈ hs) (ok : Ok hs W s) {b : Bal} {p : D} (c : Chosen W s b p) :
    ∀ (n : Nat) P1 b' p' P2, P1.length = n → s.P = P1 ++ (b', p') :: P2 → lt b b' → p' = p := by
  intro n
  induction n using Nat.strongRecOn with
  | _ n ih =>
    intro P1 b' p' P2 hn hP hlt
    obtain ⟨hnone, Q, hQ, hQb, alt⟩ := ok.core P1 b' p' P2 hP
    obtain ⟨hp, M, hM, hMa⟩ := c
    obtain ⟨g, g1, g2, g3⟩ := meet hQ hM
    have gh := hW g g3
    have ga := hMa g g2
    rcases alt with alt | ⟨b0, l0, e0, alt⟩
    · exact absurd ga (alt g b gh g1 hlt)
    · rcases le_or (alt g b gh g1 hlt ga) with e | l
      · subst e
        have : getA s.P b = some p' := by rw [hP, getA_app, e0]
        rw [hp] at this
        exact (Option.some.inj this).symm
      · obtain ⟨R1, R2, eR⟩ := split_of_get e0
        have hl : R1.length < n := by rw [← hn, eR, List.length_append, List.length_cons]; omega
        exact ih R1.length hl R1 b0 p' (R2 ++ (b', p') :: P2) rfl (by rw [hP, eR, List.append_assoc]; rfl) l
theorem agree_get {hs : List Nat} {W : Nat} {s : S0} (hW : ∀ i, W.testBit i = true → i ∈ hs) (ok : Ok hs W s) {b b' : Bal} {p p' : D} (c : Chosen W s b p) (h : getA s.P b' = some p') (hl : le b b') : p' = p := by
  rcases le_or hl with e | l
  · subst e
    have := c.1
    rw [h] at this
    exact Option.some.inj this
  · obtain ⟨l1, r1, e⟩ := split_of_get h
    exact agree hW ok c l1.length l1 b' p' r1 rfl e l
theorem chosen_one {hs : List Nat} {W : Nat} {s : S0} (hW : ∀ i, W.testBit i = true → i ∈ hs) (ok : Ok hs W s) {b b' : Bal} {p p' : D} (c : Chosen W s b p) (c' : Chosen W s b' p') : p = p' := by
  rcases lt_tri b b' with l | e | l
  · exact (agree_get hW ok c c'.1 (lt_le l)).symm
  · subst e
    have := c.1
    rw [c'.1] at this
    exact (Option.some.inj this).symm
  · exact agree_get hW ok c' c.1 (lt_le l)
/-! ### what lasts -/
structure Ext (s s' : S0) : Prop where
  bal : ∀ g B, (s.ch g).ballot = some B → ∃ B', (s'.ch g).ballot = some B' ∧ le B B'
  accM : ∀ x, x ∈ s.A → x ∈ s'.A
  accN : ∀ g b, (g, b) ∈ s'.A → (g, b) ∈ s.A ∨ ∀ B, (s.ch g).ballot = some B → le B b
  pl : ∀ b p, getA s.P b = some p → getA s'.P b = some p
section
variable {s s' : S0} {hs : List Nat} {W : Nat}
theorem RepOk.ext (e : Ext s s') {g : Nat} {B : Bal} {y : Option Yes} (r : RepOk s g B y) : RepOk s' g B y := by
  obtain ⟨⟨Bg, h1, h2⟩, h3, h4⟩ := r
  obtain ⟨B', h5, h6⟩ := e.bal g Bg h1
  refine ⟨⟨B', h5, le_trans h2 h6⟩, fun y' hy => ?_, fun b hb ha => ?_⟩
  · obtain ⟨a1, a2, a3⟩ := h3 y' hy
    exact ⟨e.pl _ _ a1, e.accM _ a2, a3⟩
  · rcases e.accN g b ha with z | z
    · exact h4 b hb z
    · exact (not_lt_le hb (le_trans h2 (z Bg h1))).elim
theorem MsgOk.ext (e : Ext s s') {m : Msg} (h : MsgOk s m) : MsgOk s' m := ⟨fun B hB => (h.1 B hB).ext e, h.2.1, fun y hy i hi => e.accM _ (h.2.2 y hy i hi)⟩
theorem SafeAt.ext (e : Ext s s') {P1 : List (Bal × D)} {b : Bal} {p : D} (h : SafeAt hs W s P1 b p) : SafeAt hs W s' P1 b p := by
  obtain ⟨Q, h1, h2, h3⟩ := h
  refine ⟨Q, h1, fun g hg hq => ?_, ?_⟩
  · obtain ⟨Bg, a1, a2⟩ := h2 g hg hq
    obtain ⟨B', a3, a4⟩ := e.bal g Bg a1
    exact ⟨B', a3, le_trans a2 a4⟩
  · have old : ∀ g b', g ∈ hs → Q.testBit g = true → lt b' b → (g, b') ∈ s'.A → (g, b') ∈ s.A := fun g b' hg hq hl ha => by
      rcases e.accN g b' ha with z | z
      · exact z
      · obtain ⟨Bg, a1, a2⟩ := h2 g hg hq
        exact (not_lt_le hl (le_trans a2 (z Bg a1))).elim
    rcases h3 with h3 | ⟨b0, a1, a2, a3⟩
    · exact .inl fun g b' hg hq hl ha => h3 g b' hg hq hl (old g b' hg hq hl ha)
    · exact .inr ⟨b0, a1, a2, fun g b' hg hq hl ha => a3 g b' hg hq hl (old g b' hg hq hl ha)⟩
theorem Chosen.ext (e : Ext s s') {b : Bal} {p : D} (h : Chosen W s b p) : Chosen W s' b p := ⟨e.pl _ _ h.1, let ⟨M, h1, h2⟩ := h.2; ⟨M, h1, fun i hi => e.accM _ (h2 i hi)⟩⟩
theorem ChOk.ext (e : Ext s s') {h : Nat} {c : Chg} (k : ChOk hs W s h c) : ChOk hs W s' h c where
  me := k.me
  hands := k.hands
  yn := k.yn
  ys := fun y hy => by
    obtain ⟨a1, a2, a3, a4, a5⟩ := k.ys y hy
    exact ⟨a1, e.accM _ a2, e.pl _ _ a3, fun i hi => e.accM _ (a4 i hi), a5⟩
  rn := k.rn
  rp := fun x hx => by
    obtain ⟨g, g1, g2, B, g3, g4⟩ := k.rp x hx
    exact ⟨g, g1, g2, B, g3, g4.ext e⟩
  ag := fun p hp => by
    obtain ⟨y, b, a1, a2, a3⟩ := k.ag p hp
    exact ⟨y, b, a1, a2, a3.ext e⟩
end
end K64

namespace K64
open PySem PySem.Spec PyProof.Rows L2 Gr
/-! ### a deed and what is noted behind it -/
def nxt (s : S0) (h : Nat) (c' : Chg) (mail' : List (Nat × Msg)) (k' : Nat) : S0 := ⟨fun i => if i = h then c' else s.ch i, mail', c'.notedA h s.A, c'.notedP s.P, k'⟩
section
variable {hs : List Nat} {W : Nat} {s : S0} {h : Nat} {c' : Chg} {mail' : List (Nat × Msg)} {k' : Nat}
theorem nxt_same : (nxt s h c' mail' k').ch h = c' := if_pos rfl
theorem nxt_ne {g : Nat} (n : g ≠ h) : (nxt s h c' mail' k').ch g = s.ch g := if_neg n
theorem nxt_A {g : Nat} {b : Bal} : (g, b) ∈ (nxt s h c' mail' k').A ↔ (g, b) ∈ s.A ∨ (g = h ∧ ∃ y, c'.yes = some y ∧ b = y.1) := by
  show (g, b) ∈ c'.notedA h s.A ↔ _
  unfold Chg.notedA
  cases e : c'.yes with
  | none => simp
  | some y =>
    rw [mem_setA]
    constructor
    · rintro (z | z)
      · exact .inl z
      · exact .inr ⟨congrArg Prod.fst z, y, rfl, congrArg Prod.snd z⟩
    · rintro (z | ⟨z1, y', z2, z3⟩)
      · exact .inl z
      · rw [Option.some.inj z2, z1, z3]
        exact .inr rfl
/-- how the change may have moved -/
structure Move (hs : List Nat) (W : Nat) (s : S0) (h : Nat) (c' : Chg) (k' : Nat) : Prop where
  bal : ∀ B, (s.ch h).ballot = some B → ∃ B', c'.ballot = some B' ∧ le B B'
  yes : c'.yes = (s.ch h).yes ∨ ∃ y, c'.yes = some y ∧ c'.ballot = some y.1 ∧ (∀ y0, (s.ch h).yes = some y0 → lt y0.1 y.1) ∧
    (getA s.P y.1 = some y.2 ∨ (getA s.P y.1 = none ∧ (h : Int) = y.1.2 ∧ SafeAt hs W s s.P y.1 y.2 ∧ ∃ i, i < k' ∧ y.2 = planD i))
theorem Move.ext (ok : Ok hs W s) (hh : h ∈ hs) (m : Move hs W s h c' k') : Ext s (nxt s h c' mail' k') where
  bal := fun g B hB => by
    by_cases e : g = h
    · subst e
      rw [nxt_same]
      exact m.bal B hB
    · rw [nxt_ne e]
      exact ⟨B, hB, le_refl B⟩
  accM := fun x hx => nxt_A.mpr (.inl hx)
  accN := fun g b hb => by
    rcases nxt_A.mp hb with z | ⟨rfl, y, hy, rfl⟩
    · exact .inl z
    · rcases m.yes with e | ⟨y', e1, e2, _⟩
      · rw [hy] at e
        exact .inl ((ok.ch g hh).ys y e.symm).2.1
      · rw [hy] at e1
        cases e1
        refine .inr fun B hB => ?_
        obtain ⟨B', a1, a2⟩ := m.bal B hB
        rw [e2] at a1
        cases a1
        exact a2
  pl := fun b p hp => by
    show getA (c'.notedP s.P) b = some p
    unfold Chg.notedP
    cases c'.yes with
    | none => exact hp
    | some y => exact getA_setP_old hp
theorem app_one {α : Type} {l P1 P2 : List α} {a x : α} (h : l ++ [a] = P1 ++ x :: P2) : (P2 = [] ∧ P1 = l ∧ x = a) ∨ ∃ R, P2 = R ++ [a] ∧ l = P1 ++ x :: R := by
  rcases List.eq_nil_or_concat P2 with e | ⟨R, z, e⟩ <;> (try rw [List.concat_eq_append] at e)
  · subst e
    have := List.append_inj' h rfl
    exact .inl ⟨rfl, this.1.symm, (List.cons.inj this.2).1.symm⟩
  · subst e
    have h2 : l ++ [a] = (P1 ++ x :: R) ++ [z] := by rw [h, List.append_assoc]; rfl
    have := List.append_inj' h2 rfl
    exact .inr ⟨R, by rw [(List.cons.inj this.2).1], this.1⟩
theorem ok_nxt (ok : Ok hs W s) (hh : h ∈ hs) (hk : s.k ≤ k') (m : Move hs W s h c' k') (hch : ChOk hs W (nxt s h c' mail' k') h c')
    (hm : ∀ x ∈ mail', x ∈ s.mail ∨ (x.1 = h ∧ x.2.hand = h ∧ MsgOk (nxt s h c' mail' k') x.2)) : Ok hs W (nxt s h c' mail' k') := by
  have e : Ext s (nxt s h c' mail' k') := m.ext ok hh
  refine ⟨fun g hg => ?_, fun x hx => ?_, fun g b hb => ?_, fun b p hp => ?_, fun P1 b p P2 hP => ?_, fun x hx => ?_⟩
  · by_cases eg : g = h
    · subst eg
      rw [nxt_same]
      exact hch
    · rw [nxt_ne eg]
      exact (ok.ch g hg).ext e
  · rcases hm x hx with z | ⟨z1, z2, z3⟩
    · obtain ⟨a1, a2, a3⟩ := ok.msg x z
      exact ⟨a1, a2, a3.ext e⟩
    · exact ⟨by rw [z1]; exact hh, by rw [z1, z2], z3⟩
  · rcases nxt_A.mp hb with z | ⟨rfl, y, hy, rfl⟩
    · obtain ⟨a1, ⟨p, a2⟩, y0, a3, a4⟩ := ok.acc g b z
      refine ⟨a1, ⟨p, e.pl _ _ a2⟩, ?_⟩
      by_cases eg : g = h
      · subst eg
        rw [nxt_same]
        rcases m.yes with e1 | ⟨y', e1, _, e3, _⟩
        · exact ⟨y0, by rw [e1]; exact a3, a4⟩
        · exact ⟨y', e1, le_trans a4 (lt_le (e3 y0 a3))⟩
      · rw [nxt_ne eg]
        exact ⟨y0, a3, a4⟩
    · refine ⟨hh, (hch.ys y hy).2.2.1 ▸ ⟨_, rfl⟩, y, by rw [nxt_same]; exact hy, le_refl _⟩
  · have hp' : getA (c'.notedP s.P) b = some p := hp
    have old : getA s.P b = some p → ∃ h_1 ∈ hs, (h_1 : Int) = b.2 ∧ (h_1, b) ∈ (nxt s h c' mail' k').A := fun z => by
      obtain ⟨g, a1, a2, a3⟩ := ok.own b p z
      exact ⟨g, a1, a2, e.accM _ a3⟩
    unfold Chg.notedP at hp'
    cases hy : c'.yes with
    | none => rw [hy] at hp'; exact old hp'
    | some y =>
      rw [hy] at hp'
      rcases getA_setP_inv hp' with z | ⟨rfl, z2, rfl⟩
      · exact old z
      · rcases m.yes with e1 | ⟨y', e1, e2, e3, e4⟩
        · rw [hy] at e1
          have := ((ok.ch h hh).ys y e1.symm).2.2.1
          rw [z2] at this
          cases this
        · rw [hy] at e1
          cases e1
          rcases e4 with z | ⟨_, z, _⟩
          · rw [z2] at z
            cases z
          · exact ⟨h, hh, z, nxt_A.mpr (.inr ⟨rfl, y, hy, rfl⟩)⟩
  · have hP' : c'.notedP s.P = P1 ++ (b, p) :: P2 := hP
    have old : ∀ R, s.P = P1 ++ (b, p) :: R → getA P1 b = none ∧ SafeAt hs W (nxt s h c' mail' k') P1 b p := fun R z => by
      obtain ⟨a1, a2⟩ := ok.core P1 b p R z
      exact ⟨a1, a2.ext e⟩
    unfold Chg.notedP at hP'
    cases hy : c'.yes with
    | none => rw [hy] at hP'; exact old P2 hP'
    | some y =>
      rw [hy] at hP'
      have hP' : setP s.P y.1 y.2 = P1 ++ (b, p) :: P2 := hP'
      unfold setP at hP'
      cases hg : getA s.P y.1 with
      | some x => rw [hg] at hP'; exact old P2 hP'
      | none =>
        rw [hg] at hP'
        rcases app_one hP' with ⟨rfl, rfl, z⟩ | ⟨R, _, z⟩
        · have eb : b = y.1 := congrArg Prod.fst z
          have ep : p = y.2 := congrArg Prod.snd z
          subst eb ep
          refine ⟨hg, ?_⟩
          rcases m.yes with e1 | ⟨y', e1, e2, e3, e4⟩
          · rw [hy] at e1
            have := ((ok.ch h hh).ys y e1.symm).2.2.1
            rw [hg] at this
            cases this
          · rw [hy] at e1
            cases e1
            rcases e4 with z | ⟨_, _, z, _⟩
            · rw [hg] at z
              cases z
            · exact z.ext e
        · exact old R z
  · have hx' : x ∈ c'.notedP s.P := hx
    have old : x ∈ s.P → ∃ i, i < k' ∧ x.2 = planD i := fun z => by
      obtain ⟨i, a1, a2⟩ := ok.val x z
      exact ⟨i, by omega, a2⟩
    unfold Chg.notedP at hx'
    cases hy : c'.yes with
    | none => rw [hy] at hx'; exact old hx'
    | some y =>
      rw [hy] at hx'
      have hx' : x ∈ setP s.P y.1 y.2 := hx'
      unfold setP at hx'
      cases hg : getA s.P y.1 with
      | some x => rw [hg] at hx'; exact old hx'
      | none =>
        rw [hg] at hx'
        rcases List.mem_append.mp hx' with z | z
        · exact old z
        · rw [List.mem_singleton.mp z]
          rcases m.yes with e1 | ⟨y', e1, e2, e3, e4⟩
          · rw [hy] at e1
            have := ((ok.ch h hh).ys y e1.symm).2.2.1
            rw [hg] at this
            cases this
          · rw [hy] at e1
            cases e1
            rcases e4 with z | ⟨_, _, _, z⟩
            · rw [hg] at z
              cases z
            · exact z
end
end K64

namespace K64
open PySem PySem.Spec PyProof.Rows L2 Gr
section
variable {hs : List Nat} {W : Nat} {s : S0} {h : Nat} {c c' : Chg} {mail' : List (Nat × Msg)} {k' : Nat}
theorem settle_cases (c : Chg) : c.settle = c ∨ ∃ y, c.agreed = none ∧ c.yes = some y ∧ moreHalf c.votes c.hands = true ∧ c.settle = { c with agreed := some y.2 } := by
  cases ha : c.agreed with
  | some d => exact .inl (by unfold Chg.settle; rw [ha])
  | none =>
    cases hy : c.yes with
    | none => exact .inl (by unfold Chg.settle; rw [ha, hy])
    | some y =>
      by_cases hm : moreHalf c.votes c.hands = true
      · exact .inr ⟨y, rfl, rfl, hm, by unfold Chg.settle; rw [ha, hy]; exact if_pos hm⟩
      · exact .inl (by unfold Chg.settle; rw [ha, hy]; exact if_neg hm)
theorem settle_yes (c : Chg) : c.settle.yes = c.yes := by
  rcases settle_cases c with e | ⟨y, _, _, _, e⟩ <;> rw [e]
theorem settle_ballot (c : Chg) : c.settle.ballot = c.ballot := by
  rcases settle_cases c with e | ⟨y, _, _, _, e⟩ <;> rw [e]
theorem settle_agreed {c : Chg} {p : D} (h : c.agreed = some p) : c.settle.agreed = some p := by
  rcases settle_cases c with e | ⟨y, z, _⟩
  · rw [e]; exact h
  · rw [z] at h; cases h
theorem ChOk.settle (k : ChOk hs W s h c) : ChOk hs W s h c.settle := by
  rcases settle_cases c with e | ⟨y, e1, e2, e3, e4⟩
  · rw [e]; exact k
  · rw [e4]
    refine ⟨k.me, k.hands, (fun z => by rw [show c.yes = none from z] at e2; cases e2), k.ys, k.rn, k.rp, fun p hp => ?_⟩
    have ep : y.2 = p := Option.some.inj hp
    subst ep
    obtain ⟨_, _, a3, a4, _⟩ := k.ys y e2
    exact ⟨y, y.1, e2, le_refl _, a3, c.votes, by rw [← k.hands]; exact e3, a4⟩
/-- the own report -/
theorem rep_self (ok : Ok hs W s) (hh : h ∈ hs) (e : Ext s (nxt s h c' mail' k')) (ey : c'.yes = (s.ch h).yes) {B : Bal} (hB : c'.ballot = some B) (hle : ∀ y, c'.yes = some y → le y.1 B) : RepOk (nxt s h c' mail' k') h B c'.yes := by
  refine ⟨⟨B, by rw [nxt_same]; exact hB, le_refl B⟩, fun y' hy => ?_, fun b hb ha => ?_⟩
  · have k := (ok.ch h hh).ys y' (by rw [← ey]; exact hy)
    exact ⟨e.pl _ _ k.2.2.1, e.accM _ k.2.1, hle y' hy⟩
  · rcases nxt_A.mp ha with z | ⟨_, y, hy, rfl⟩
    · obtain ⟨_, _, y, a1, a2⟩ := ok.acc h b z
      exact ⟨y, by rw [ey]; exact a1, a2⟩
    · exact ⟨y, hy, le_refl _⟩
theorem move_same (hb : c'.ballot = (s.ch h).ballot) (hy : c'.yes = (s.ch h).yes) : Move hs W s h c' k' := ⟨fun B hB => ⟨B, by rw [hb]; exact hB, le_refl B⟩, .inl hy⟩
theorem ok_none (ok : Ok hs W s) (hh : h ∈ hs) : Ok hs W (nxt s h (s.ch h) s.mail s.k) :=
  ok_nxt ok hh (Nat.le_refl _) (move_same rfl rfl) ((ok.ch h hh).ext (Move.ext ok hh (move_same (k' := s.k) rfl rfl))) fun x hx => .inl hx
theorem ok_tell (ok : Ok hs W s) (hh : h ∈ hs) (x : Int) : Ok hs W (nxt s h (s.ch h) (s.mail ++ [(h, (s.ch h).message (.int x))]) s.k) := by
  have k := ok.ch h hh
  have e : Ext s (nxt s h (s.ch h) (s.mail ++ [(h, (s.ch h).message (.int x))]) s.k) := Move.ext ok hh (move_same (k' := s.k) rfl rfl)
  refine ok_nxt ok hh (Nat.le_refl _) (move_same rfl rfl) (k.ext e) fun z hz => ?_
  rcases List.mem_append.mp hz with z1 | z1
  · exact .inl z1
  · rw [List.mem_singleton.mp z1]
    refine .inr ⟨rfl, k.me, fun B hB => ?_, fun hB => ?_, fun y hy i hi => e.accM _ ((k.ys y hy).2.2.2.1 i hi)⟩
    · show RepOk _ (s.ch h).me B (s.ch h).yes
      rw [k.me]
      exact rep_self ok hh e rfl hB fun y hy => by
        obtain ⟨⟨B', a1, a2⟩, _⟩ := k.ys y hy
        rw [show (s.ch h).ballot = some B from hB] at a1
        cases a1
        exact a2
    · show (s.ch h).yes = none
      cases hy : (s.ch h).yes with
      | none => rfl
      | some y =>
        obtain ⟨⟨B', a1, _⟩, _⟩ := k.ys y hy
        rw [show (s.ch h).ballot = none from hB] at a1
        cases a1
theorem ok_begin (ok : Ok hs W s) (hh : h ∈ hs) {more : Int} (x : Int) (h1 : 1 ≤ more) : Ok hs W (nxt s h ((s.ch h).begin_ more (.int x)) s.mail s.k) := by
  have k := ok.ch h hh
  have hb : ∀ B, (s.ch h).ballot = some B → lt B ((match (s.ch h).ballot with | none => 0 | some b => b.1) + more, ((s.ch h).me : Int)) := fun B hB => by
    rw [hB]
    unfold lt
    left
    show B.1 < B.1 + more
    omega
  have m : Move hs W s h ((s.ch h).begin_ more (.int x)) s.k := ⟨fun B hB => ⟨_, rfl, lt_le (hb B hB)⟩, .inl rfl⟩
  have e : Ext s (nxt s h ((s.ch h).begin_ more (.int x)) s.mail s.k) := Move.ext ok hh m
  have k2 := k.ext e
  have hle : ∀ y, (s.ch h).yes = some y → le y.1 ((match (s.ch h).ballot with | none => 0 | some b => b.1) + more, ((s.ch h).me : Int)) := fun y hy => by
    obtain ⟨⟨B, a1, a2⟩, _⟩ := k.ys y hy
    exact le_trans a2 (lt_le (hb B a1))
  refine ok_nxt ok hh (Nat.le_refl _) m ⟨k.me, k.hands, k.yn, fun y hy => ?_, ?_, fun z hz => ?_, k2.ag⟩ fun x hx => .inl hx
  · obtain ⟨_, a2, a3, a4, a5⟩ := k2.ys y hy
    exact ⟨⟨_, rfl, hle y hy⟩, a2, a3, a4, a5⟩
  · show [((s.ch h).me : Int)].Nodup
    simp
  · rw [List.mem_singleton.mp hz]
    refine ⟨h, hh, ?_, _, rfl, rep_self ok hh e rfl rfl hle⟩
    show (((s.ch h).me : Nat) : Int) = (h : Int)
    rw [k.me]
/-! ### proposing -/
theorem enough_told {hands doubts : Nat} {has : Nat → Bool} : ∀ {l : List Nat} {t : Nat}, enoughGo hands doubts has l t = true → (∀ i, t.testBit i = true → has i = true) → ∃ t', moreHalf t' hands = true ∧ ∀ i, t'.testBit i = true → has i = true
  | [], t, h1, h2 => ⟨t, h1, h2⟩
  | g :: l, t, h1, h2 => by
    unfold enoughGo at h1
    by_cases hg : has g = true
    · rw [if_pos hg] at h1
      refine enough_told h1 fun i hi => ?_
      rw [Nat.testBit_or, Bool.or_eq_true] at hi
      rcases hi with z | z
      · exact h2 i z
      · rw [Nat.testBit_two_pow] at z
        have : g = i := of_decide_eq_true z
        rw [← this]
        exact hg
    · rw [if_neg hg] at h1
      by_cases hd : doubts.testBit g = true
      · rw [if_pos hd] at h1
        exact enough_told h1 h2
      · rw [if_neg hd] at h1
        cases h1
theorem best_spec : ∀ (l : List (Option Yes)) (b : Option Yes), (bestGo b l = b ∨ bestGo b l ∈ l) ∧ ∀ y1, (b = some y1 ∨ some y1 ∈ l) → ∃ r1, bestGo b l = some r1 ∧ le y1.1 r1.1
  | [], b => ⟨.inl rfl, fun y1 h => h.elim (fun z => ⟨y1, z, le_refl _⟩) fun z => by cases z⟩
  | y :: l, b => by
    rw [bestGo_cons]
    by_cases hu : under (b.map (·.1)) (y.map (·.1)) = true
    · rw [if_pos hu]
      obtain ⟨h1, h2⟩ := best_spec l y
      refine ⟨.inr (h1.elim (fun z => by rw [z]; exact List.mem_cons_self ..) fun z => List.mem_cons_of_mem _ z), fun y1 h => ?_⟩
      rcases h with h | h
      · subst h
        cases y with
        | none => cases hu
        | some y2 =>
          have hl : lt y1.1 y2.1 := ltB_iff.mp hu
          obtain ⟨r1, a1, a2⟩ := h2 y2 (.inl rfl)
          exact ⟨r1, a1, le_trans (lt_le hl) a2⟩
      · rcases List.mem_cons.mp h with z | z
        · exact h2 y1 (.inl z.symm)
        · exact h2 y1 (.inr z)
    · rw [if_neg hu]
      obtain ⟨h1, h2⟩ := best_spec l b
      refine ⟨h1.imp id fun z => List.mem_cons_of_mem _ z, fun y1 h => ?_⟩
      rcases h with h | h
      · exact h2 y1 (.inl h)
      · rcases List.mem_cons.mp h with z | z
        · subst z
          cases b with
          | none => exact (hu rfl).elim
          | some b2 =>
            have hl : le y1.1 b2.1 := ltB_not.mp (Bool.eq_false_iff.mpr hu)
            obtain ⟨r1, a1, a2⟩ := h2 b2 (.inl rfl)
            exact ⟨r1, a1, le_trans hl a2⟩
        · exact h2 y1 (.inr z)
theorem mem_keys {c : Chg} {k : Int} : k ∈ c.keys ↔ k ∈ c.reports.map (·.1) := (List.mergeSort_perm _ _).mem_iff
theorem rep_of {c : Chg} {k : Int} (h : k ∈ c.keys) : (k, c.rep k) ∈ c.reports := by
  obtain ⟨x, hx⟩ := get_of_mem (mem_keys.mp h)
  have : c.rep k = x := by unfold Chg.rep; rw [hx]; rfl
  rw [this]
  exact mem_of_get hx
theorem ok_plan (ok : Ok hs W s) (hh : h ∈ hs) {n : Nat} (hc : (s.ch h).can n = true) {plan : D} (hk : s.k ≤ k') (hp : ((s.ch h).best = none ∧ ∃ i, i < k' ∧ plan = planD i) ∨ ∃ y, (s.ch h).best = some y ∧ plan = y.2) : Ok hs W (nxt s h ((s.ch h).planned plan) s.mail k') := by
  have k := ok.ch h hh
  have hc' : (s.ch h).unplanned = true ∧ (s.ch h).enough n = true := by
    unfold Chg.can at hc
    rw [Bool.and_eq_true] at hc
    exact hc
  obtain ⟨hun, hen⟩ := hc'
  -- the ballot, its own, not said yes to
  obtain ⟨B, eB, eo, ne⟩ : ∃ B, (s.ch h).ballot = some B ∧ B.2 = (h : Int) ∧ ∀ y, (s.ch h).yes = some y → y.1 ≠ B := by
    unfold Chg.unplanned at hun
    cases hb : (s.ch h).ballot with
    | none => rw [hb] at hun; cases hun
    | some B =>
      rw [hb] at hun
      simp only [Bool.and_eq_true, decide_eq_true_eq, Bool.not_eq_true', decide_eq_false_iff_not] at hun
      refine ⟨B, rfl, by rw [hun.1, k.me], fun y hy z => hun.2 ?_⟩
      rw [hy, ← z]
      rfl
  have ylt : ∀ y0, (s.ch h).yes = some y0 → lt y0.1 B := fun y0 hy => by
    obtain ⟨⟨B', a1, a2⟩, _⟩ := k.ys y0 hy
    rw [eB] at a1
    cases a1
    exact (le_or a2).elim (fun z => (ne y0 hy z).elim) id
  have pn : getA s.P B = none := by
    cases z : getA s.P B with
    | none => rfl
    | some p =>
      obtain ⟨g, g1, g2, g3⟩ := ok.own B p z
      have : g = h := by omega
      subst this
      obtain ⟨_, _, y, a1, a2⟩ := ok.acc g B g3
      exact (not_lt_le (ylt y a1) a2).elim
  obtain ⟨Q, hQ, hQh⟩ := enough_told hen (fun i hi => by simp at hi)
  rw [k.hands] at hQ
  -- each that is told of has reported
  have told : ∀ g, g ∈ hs → Q.testBit g = true → ∃ y, RepOk s g B y ∧ (y ∈ (s.ch h).keys.map fun k => ((s.ch h).rep k).2) := fun g hg hq => by
    have h1 := hQh g hq
    obtain ⟨x, hx⟩ := Option.isSome_iff_exists.mp h1
    have hm : (g : Int) ∈ (s.ch h).keys := mem_keys.mpr (List.mem_map.mpr ⟨_, mem_of_get hx, rfl⟩)
    obtain ⟨g', b1, b2, B', b3, b4⟩ := k.rp _ (rep_of hm)
    have : g = g' := by
      have : (g : Int) = (g' : Int) := b2
      omega
    subst this
    rw [eB] at b3
    cases b3
    exact ⟨_, b4, List.mem_map.mpr ⟨_, hm, rfl⟩⟩
  obtain ⟨bs1, bs2⟩ := best_spec ((s.ch h).keys.map fun k => ((s.ch h).rep k).2) none
  have safe : SafeAt hs W s s.P B plan := by
    refine ⟨Q, hQ, fun g hg hq => ?_, ?_⟩
    · obtain ⟨y, ⟨a1, _⟩, _⟩ := told g hg hq
      exact a1
    · rcases hp with ⟨hb, _⟩ | ⟨y, hb, rfl⟩
      · refine .inl fun g b' hg hq hl ha => ?_
        obtain ⟨y, ⟨_, _, a3⟩, a4⟩ := told g hg hq
        obtain ⟨y', rfl, _⟩ := a3 b' hl ha
        obtain ⟨r1, z, _⟩ := bs2 y' (.inr a4)
        rw [show bestGo none _ = none from hb] at z
        cases z
      · have hmem : some y ∈ (s.ch h).keys.map fun k => ((s.ch h).rep k).2 := by
          rcases bs1 with z | z
          · rw [show bestGo none _ = some y from hb] at z; cases z
          · rw [show bestGo none _ = some y from hb] at z; exact z
        obtain ⟨kk, hkk, ekk⟩ := List.mem_map.mp hmem
        obtain ⟨g', b1, b2, B', b3, b4⟩ := k.rp _ (rep_of hkk)
        rw [eB] at b3
        cases b3
        obtain ⟨c1, c2, c3⟩ := b4.2.1 y ekk
        refine .inr ⟨y.1, ?_, c1, fun g b' hg hq hl ha => ?_⟩
        · rcases le_or c3 with z | z
          · rw [z, pn] at c1
            cases c1
          · exact z
        · obtain ⟨y2, ⟨_, _, a3⟩, a4⟩ := told g hg hq
          obtain ⟨y', rfl, a5⟩ := a3 b' hl ha
          obtain ⟨r1, z, z2⟩ := bs2 y' (.inr a4)
          rw [show bestGo none _ = some y from hb] at z
          cases z
          exact le_trans a5 z2
  have pv : ∃ i, i < k' ∧ plan = planD i := by
    rcases hp with ⟨_, z⟩ | ⟨y, hb, rfl⟩
    · exact z
    · have hmem : some y ∈ (s.ch h).keys.map fun k => ((s.ch h).rep k).2 := by
        rcases bs1 with z | z
        · rw [show bestGo none _ = some y from hb] at z; cases z
        · rw [show bestGo none _ = some y from hb] at z; exact z
      obtain ⟨kk, hkk, ekk⟩ := List.mem_map.mp hmem
      obtain ⟨g', b1, b2, B', b3, b4⟩ := k.rp _ (rep_of hkk)
      obtain ⟨c1, _⟩ := b4.2.1 y ekk
      obtain ⟨i, i1, i2⟩ := ok.val _ (mem_of_get c1)
      exact ⟨i, by omega, i2⟩
  have ey : ((s.ch h).planned plan).yes = some (B, plan) := by
    unfold Chg.planned
    rw [settle_yes, eB]
    rfl
  have eb : ((s.ch h).planned plan).ballot = some B := by
    unfold Chg.planned
    rw [settle_ballot]
    exact eB
  have m : Move hs W s h ((s.ch h).planned plan) k' := ⟨fun B' hB' => ⟨B, eb, by rw [eB] at hB'; cases hB'; exact le_refl B⟩, .inr ⟨(B, plan), ey, eb, ylt, .inr ⟨pn, eo.symm, safe, pv⟩⟩⟩
  have e : Ext s (nxt s h ((s.ch h).planned plan) s.mail k') := Move.ext ok hh m
  have k2 := k.ext e
  refine ok_nxt ok hh hk m ?_ fun x hx => .inl hx
  have nA : (h, B) ∈ (nxt s h ((s.ch h).planned plan) s.mail k').A := nxt_A.mpr (.inr ⟨rfl, _, ey, rfl⟩)
  have nP : getA (nxt s h ((s.ch h).planned plan) s.mail k').P B = some plan := by
    show getA (((s.ch h).planned plan).notedP s.P) B = some plan
    unfold Chg.notedP
    rw [ey]
    show getA (setP s.P B plan) B = some plan
    rw [getA_setP, pn]
    rfl
  generalize nxt s h ((s.ch h).planned plan) s.mail k' = s' at k2 nA nP
  unfold Chg.planned
  refine ChOk.settle ⟨k.me, k.hands, fun z => ?_, fun y hy => ?_, k.rn, k2.rp, fun p hp => ?_⟩
  · cases z
  · have : y = (B, plan) := by
      rw [eB] at hy
      exact (Option.some.inj hy).symm
    subst this
    refine ⟨⟨B, eB, le_refl B⟩, nA, nP, fun i hi => ?_, ?_⟩
    · have hi : (2 ^ (s.ch h).me).testBit i = true := hi
      rw [Nat.testBit_two_pow, k.me] at hi
      rw [← of_decide_eq_true hi]
      exact nA
    · show (2 ^ (s.ch h).me).testBit h = true
      rw [Nat.testBit_two_pow, k.me]
      exact decide_eq_true rfl
  · obtain ⟨y0, b, a1, a2, a3⟩ := k2.ag p hp
    refine ⟨(B, plan), b, by rw [eB]; rfl, le_trans a2 (lt_le (ylt y0 a1)), a3⟩
theorem ok_prop (ok : Ok hs W s) (hh : h ∈ hs) (n : Nat) : Ok hs W (nxt s h ((s.ch h).prop n s.k).1 s.mail ((s.ch h).prop n s.k).2) := by
  unfold Chg.prop
  by_cases hc : (s.ch h).can n = true
  · rw [if_pos hc]
    cases hb : (s.ch h).best with
    | some y => exact ok_plan ok hh hc (Nat.le_refl _) (.inr ⟨y, hb, rfl⟩)
    | none => exact ok_plan ok hh hc (Nat.le_succ _) (.inl ⟨hb, s.k, Nat.lt_succ_self _, rfl⟩)
  · rw [if_neg hc]
    exact ok_none ok hh
end
end K64

namespace K64
open PySem PySem.Spec PyProof.Rows L2 Gr
section
variable {hs : List Nat} {W : Nat} {s : S0} {h : Nat} {c c' : Chg} {mail' : List (Nat × Msg)} {k' : Nat}
theorem adopt_cases (c : Chg) (b : Option Bal) : (c.adopt b = c ∧ ∀ B, b = some B → ∃ B1, c.ballot = some B1 ∧ le B B1) ∨ ∃ B, b = some B ∧ c.adopt b = { c with ballot := some B, reports := [] } ∧ ∀ B0, c.ballot = some B0 → lt B0 B := by
  by_cases hu : under c.ballot b = true
  · cases b with
    | none => cases hb : c.ballot <;> rw [hb] at hu <;> cases hu
    | some B =>
      refine .inr ⟨B, rfl, by unfold Chg.adopt; rw [if_pos hu], fun B0 h0 => ?_⟩
      rw [h0] at hu
      exact ltB_iff.mp hu
  · refine .inl ⟨by unfold Chg.adopt; rw [if_neg hu], fun B hB => ?_⟩
    subst hB
    cases hb : c.ballot with
    | none => rw [hb] at hu; exact (hu rfl).elim
    | some B1 =>
      rw [hb] at hu
      exact ⟨B1, rfl, ltB_not.mp (Bool.eq_false_iff.mpr hu)⟩
theorem chok_adopt (k : ChOk hs W s h c) (b : Option Bal) : ChOk hs W s h (c.adopt b) := by
  rcases adopt_cases c b with ⟨e, _⟩ | ⟨B, _, e, hl⟩
  · rw [e]; exact k
  · rw [e]
    refine ⟨k.me, k.hands, k.yn, fun y hy => ?_, List.nodup_nil, (fun x hx => by cases hx), k.ag⟩
    obtain ⟨⟨B0, a1, a2⟩, a3⟩ := k.ys y hy
    exact ⟨⟨B, rfl, le_trans a2 (lt_le (hl B0 a1))⟩, a3⟩
/-- what receiving a yes does -/
theorem recv_cases (c : Chg) (y : Option Yes) (n : Nat) : c.receiveYes y n = c ∨ c.receiveYes y n = c.settle ∨ (∃ y1 y2, y = some y1 ∧ c.yes = some y2 ∧ y2.1 = y1.1 ∧ c.receiveYes y n = Chg.settle { c with votes := c.votes ||| n }) ∨
    ∃ y1, y = some y1 ∧ c.ballot = some y1.1 ∧ (∀ y0, c.yes = some y0 → lt y0.1 y1.1) ∧ c.receiveYes y n = Chg.settle { c with yes := some y1, votes := n ||| 2 ^ c.me } := by
  cases y with
  | none => exact .inl rfl
  | some y =>
    rw [recv_some]
    by_cases h1 : c.ballot = some y.1 ∧ under (c.yes.map (·.1)) (some y.1) = true
    · rw [if_pos h1]
      refine .inr (.inr (.inr ⟨y, rfl, h1.1, fun y0 h0 => ?_, rfl⟩))
      have h2 := h1.2
      rw [h0] at h2
      exact ltB_iff.mp h2
    · rw [if_neg h1]
      by_cases h2 : c.yes.map (·.1) = some y.1
      · rw [if_pos h2]
        obtain ⟨y2, e1, e2⟩ := Option.map_eq_some_iff.mp h2
        exact .inr (.inr (.inl ⟨y, y2, rfl, e1, e2, rfl⟩))
      · rw [if_neg h2]
        exact .inr (.inl rfl)
theorem keep_yes (c : Chg) (m : Msg) : (c.keep m).yes = c.yes := by
  unfold Chg.keep
  split <;> rfl
theorem keep_ballot (c : Chg) (m : Msg) : (c.keep m).ballot = c.ballot := by
  unfold Chg.keep
  split <;> rfl
theorem keep_agreed (c : Chg) (m : Msg) : (c.keep m).agreed = c.agreed := by
  unfold Chg.keep
  split <;> rfl
theorem nodup_putA {κ α : Type} [DecidableEq κ] {m : List (κ × α)} {k : κ} {x : α} (h : (m.map (·.1)).Nodup) : ((putA m k x).map (·.1)).Nodup := by
  unfold putA
  by_cases e : (m.any fun p => decide (p.1 = k)) = true
  · rw [if_pos e, List.map_map]
    have : (m.map ((fun p : κ × α => p.1) ∘ fun p => if p.1 = k then (p.1, x) else p)) = m.map (·.1) := List.map_congr_left fun p _ => by
      show (if p.1 = k then (p.1, x) else p).1 = p.1
      split <;> rfl
    rw [this]
    exact h
  · rw [if_neg e, List.map_append, List.nodup_append]
    refine ⟨h, by simp, ?_⟩
    intro a ha b hb z
    have hb : b = k := by simpa using hb
    rw [hb] at z
    subst z
    obtain ⟨p, hp, e2⟩ := List.mem_map.mp ha
    exact e (List.any_eq_true.mpr ⟨p, hp, decide_eq_true e2⟩)
theorem chok_keep (k : ChOk hs W s h c) {m : Msg} (hg : m.hand ∈ hs) (hm : MsgOk s m) : ChOk hs W s h (c.keep m) := by
  unfold Chg.keep
  by_cases e : m.ballot ≠ none ∧ m.ballot = c.ballot ∧ c.unplanned = true
  · rw [if_pos e]
    refine ⟨k.me, k.hands, k.yn, k.ys, nodup_putA k.rn, fun x hx => ?_, k.ag⟩
    rcases putA_mem hx with z | z
    · exact k.rp x z
    · rw [z]
      cases hb : m.ballot with
      | none => exact (e.1 hb).elim
      | some B => exact ⟨m.hand, hg, rfl, B, by rw [← hb]; exact e.2.1.symm, hm.1 B hb⟩
  · rw [if_neg e]
    exact k
theorem recv_bal (c : Chg) (m : Msg) : (c.receive m).ballot = (c.adopt m.ballot).ballot := by
  show (((c.adopt m.ballot).receiveYes m.yes m.votes).keep m).ballot = _
  rw [keep_ballot]
  rcases recv_cases (c.adopt m.ballot) m.yes m.votes with e | e | ⟨_, _, _, _, _, e⟩ | ⟨_, _, _, _, e⟩ <;> rw [e]
  · exact settle_ballot _
  · exact settle_ballot _
  · exact settle_ballot _
theorem adopt_yes (c : Chg) (b : Option Bal) : (c.adopt b).yes = c.yes ∧ (c.adopt b).agreed = c.agreed ∧ (c.adopt b).votes = c.votes ∧ (c.adopt b).me = c.me := by
  unfold Chg.adopt
  split <;> exact ⟨rfl, rfl, rfl, rfl⟩
theorem recv_agreed {c : Chg} {m : Msg} {p : D} (ha : c.agreed = some p) : (c.receive m).agreed = some p := by
  show (((c.adopt m.ballot).receiveYes m.yes m.votes).keep m).agreed = _
  rw [keep_agreed]
  have h1 : (c.adopt m.ballot).agreed = some p := by rw [(adopt_yes c m.ballot).2.1]; exact ha
  rcases recv_cases (c.adopt m.ballot) m.yes m.votes with e | e | ⟨_, _, _, _, _, e⟩ | ⟨_, _, _, _, e⟩ <;> rw [e]
  · exact h1
  · exact settle_agreed h1
  · exact settle_agreed h1
  · exact settle_agreed h1
theorem recv_mono (c : Chg) (m : Msg) (B : Bal) (hB : c.ballot = some B) : ∃ B', (c.receive m).ballot = some B' ∧ le B B' := by
  rw [recv_bal]
  rcases adopt_cases c m.ballot with ⟨e, _⟩ | ⟨B1, _, e, hl⟩
  · rw [e]; exact ⟨B, hB, le_refl B⟩
  · rw [e]; exact ⟨B1, rfl, lt_le (hl B hB)⟩
/-- receiving: a new yes is of the ballot that the change then has -/
theorem recv_yes (c : Chg) (m : Msg) : (c.receive m).yes = c.yes ∨ ∃ y, m.yes = some y ∧ (c.receive m).yes = some y ∧ (c.receive m).ballot = some y.1 ∧ ∀ y0, c.yes = some y0 → lt y0.1 y.1 := by
  have ha := adopt_yes c m.ballot
  show (((c.adopt m.ballot).receiveYes m.yes m.votes).keep m).yes = _ ∨ ∃ y, _ ∧ (((c.adopt m.ballot).receiveYes m.yes m.votes).keep m).yes = _ ∧ _
  rw [keep_yes, recv_bal]
  rcases recv_cases (c.adopt m.ballot) m.yes m.votes with e | e | ⟨_, _, _, _, _, e⟩ | ⟨y1, e1, e2, e3, e⟩ <;> rw [e]
  · exact .inl ha.1
  · exact .inl (by rw [settle_yes]; exact ha.1)
  · exact .inl (by rw [settle_yes]; exact ha.1)
  · exact .inr ⟨y1, e1, by rw [settle_yes], e2, fun y0 h0 => e3 y0 (by rw [ha.1]; exact h0)⟩
theorem ok_recv (ok : Ok hs W s) (hh : h ∈ hs) {g : Nat} {m : Msg} (hm : (g, m) ∈ s.mail) : Ok hs W (nxt s h ((s.ch h).receive m) s.mail s.k) := by
  have k := ok.ch h hh
  obtain ⟨hg, eg, mo⟩ := ok.msg _ hm
  have eg : m.hand = g := eg
  have yP : ∀ y, m.yes = some y → getA s.P y.1 = some y.2 := fun y hy => by
    cases hb : m.ballot with
    | none => have := mo.2.1 hb; rw [hy] at this; cases this
    | some B => exact ((mo.1 B hb).2.1 y hy).1
  have mv : Move hs W s h ((s.ch h).receive m) s.k := ⟨recv_mono _ m, (recv_yes (s.ch h) m).imp id fun ⟨y, a1, a2, a3, a4⟩ => ⟨y, a2, a3, a4, .inl (yP y a1)⟩⟩
  have e : Ext s (nxt s h ((s.ch h).receive m) s.mail s.k) := Move.ext ok hh mv
  refine ok_nxt ok hh (Nat.le_refl _) mv ?_ fun x hx => .inl hx
  have k1 := (chok_adopt k m.ballot).ext e
  have mo1 := mo.ext e
  have nA : ∀ y, ((s.ch h).receive m).yes = some y → (h, y.1) ∈ (nxt s h ((s.ch h).receive m) s.mail s.k).A := fun y hy => nxt_A.mpr (.inr ⟨rfl, y, hy, rfl⟩)
  have yP1 : ∀ y, m.yes = some y → getA (nxt s h ((s.ch h).receive m) s.mail s.k).P y.1 = some y.2 := fun y hy => e.pl _ _ (yP y hy)
  have ery : ((s.ch h).receive m).yes = (((s.ch h).adopt m.ballot).receiveYes m.yes m.votes).yes := keep_yes _ m
  rw [ery] at nA
  generalize hs' : nxt s h ((s.ch h).receive m) s.mail s.k = s' at k1 mo1 nA yP1
  show ChOk hs W s' h ((((s.ch h).adopt m.ballot).receiveYes m.yes m.votes).keep m)
  refine chok_keep ?_ (by rw [eg]; exact hg) mo1
  generalize (s.ch h).adopt m.ballot = c1 at k1 nA
  rcases recv_cases c1 m.yes m.votes with z | z | ⟨y1, y2, a1, a2, a3, z⟩ | ⟨y1, a1, a2, a3, z⟩ <;> rw [z] at nA ⊢
  · exact k1
  · exact k1.settle
  · refine ChOk.settle ⟨k1.me, k1.hands, (fun w => by rw [show c1.yes = none from w] at a2; cases a2), fun y hy => ?_, k1.rn, k1.rp, k1.ag⟩
    have hy : c1.yes = some y := hy
    rw [a2] at hy
    cases hy
    obtain ⟨b1, b2, b3, b4, b5⟩ := k1.ys y2 a2
    refine ⟨b1, b2, b3, fun i hi => ?_, ?_⟩
    · have hi : (c1.votes ||| m.votes).testBit i = true := hi
      rw [Nat.testBit_or, Bool.or_eq_true] at hi
      rcases hi with w | w
      · exact b4 i w
      · rw [a3]
        exact mo1.2.2 y1 a1 i w
    · show (c1.votes ||| m.votes).testBit h = true
      rw [Nat.testBit_or, b5]
      rfl
  · have nA1 := nA y1 (by rw [settle_yes])
    refine ChOk.settle ⟨k1.me, k1.hands, (fun w => by cases w), fun y hy => ?_, k1.rn, k1.rp, fun p hp => ?_⟩
    · have hy : some y1 = some y := hy
      cases hy
      refine ⟨⟨_, a2, le_refl _⟩, nA1, yP1 y1 a1, fun i hi => ?_, ?_⟩
      · have hi : (m.votes ||| 2 ^ c1.me).testBit i = true := hi
        rw [Nat.testBit_or, Bool.or_eq_true] at hi
        rcases hi with w | w
        · exact mo1.2.2 y1 a1 i w
        · rw [Nat.testBit_two_pow, k1.me] at w
          rw [← of_decide_eq_true w]
          exact nA1
      · show (m.votes ||| 2 ^ c1.me).testBit h = true
        rw [Nat.testBit_or, Nat.testBit_two_pow, k1.me, decide_eq_true rfl, Bool.or_true]
    · obtain ⟨y0, b, b1, b2, b3⟩ := k1.ag p hp
      exact ⟨y1, b, rfl, le_trans b2 (lt_le (a3 y0 b1)), b3⟩
theorem setA_old {A : List (Nat × Bal)} {x : Nat × Bal} (h : x ∈ A) : setA A x = A := if_pos h
theorem prop_can {c : Chg} {n k : Nat} (h : c.can n = false) : c.prop n k = (c, k) := by
  unfold Chg.prop
  rw [if_neg (by rw [h]; exact Bool.false_ne_true)]
theorem nxt_twice {c1 c2 : Chg} {k1 : Nat} (ok : Ok hs W s) (hh : h ∈ hs) (e : c1.yes = (s.ch h).yes) : nxt (nxt s h c1 s.mail k1) h c2 s.mail k' = nxt s h c2 s.mail k' := by
  have eA : c1.notedA h s.A = s.A := by
    unfold Chg.notedA
    cases hy : c1.yes with
    | none => rfl
    | some y =>
      rw [hy] at e
      exact setA_old ((ok.ch h hh).ys y e.symm).2.1
  have eP : c1.notedP s.P = s.P := by
    unfold Chg.notedP
    cases hy : c1.yes with
    | none => rfl
    | some y =>
      rw [hy] at e
      show setP s.P y.1 y.2 = s.P
      unfold setP
      rw [((ok.ch h hh).ys y e.symm).2.2.1]
  show S0.mk (fun i => if i = h then c2 else (if i = h then c1 else s.ch i)) s.mail (c2.notedA h (c1.notedA h s.A)) (c2.notedP (c1.notedP s.P)) k' = S0.mk (fun i => if i = h then c2 else s.ch i) s.mail (c2.notedA h s.A) (c2.notedP s.P) k'
  rw [eA, eP]
  congr 1
  funext i
  split <;> rfl
theorem ok_recvProp (ok : Ok hs W s) (hh : h ∈ hs) {g : Nat} {m : Msg} (hm : (g, m) ∈ s.mail) (n : Nat) : Ok hs W (nxt s h (((s.ch h).receive m).prop n s.k).1 s.mail (((s.ch h).receive m).prop n s.k).2) := by
  have o1 := ok_recv ok hh hm
  cases hc : ((s.ch h).receive m).can n with
  | false =>
    rw [prop_can hc]
    exact o1
  | true =>
    have ey : ((s.ch h).receive m).yes = (s.ch h).yes := by
      rcases recv_yes (s.ch h) m with z | ⟨y, _, a2, a3, _⟩
      · exact z
      · exfalso
        unfold Chg.can at hc
        rw [Bool.and_eq_true] at hc
        have hu := hc.1
        unfold Chg.unplanned at hu
        rw [a3, a2] at hu
        simp at hu
    have o2 := ok_prop o1 hh n
    rw [nxt_same] at o2
    rw [← nxt_twice ok hh ey (k1 := s.k)]
    exact o2
theorem planned_agreed {c : Chg} {p plan : D} (h : c.agreed = some p) : (c.planned plan).agreed = some p := by
  unfold Chg.planned
  exact settle_agreed h
theorem prop_agreed {c : Chg} {n k : Nat} {p : D} (h : c.agreed = some p) : (c.prop n k).1.agreed = some p := by
  unfold Chg.prop
  split
  · split <;> exact planned_agreed h
  · exact h
theorem prop_bal (c : Chg) (n k : Nat) : (c.prop n k).1.ballot = c.ballot := by
  unfold Chg.prop
  split
  · split <;> (unfold Chg.planned; rw [settle_ballot])
  · rfl
theorem prop_k (c : Chg) (n k : Nat) : (c.prop n k).2 ≤ k + 1 := by
  unfold Chg.prop
  split
  · split
    · exact Nat.le_succ _
    · exact Nat.le_refl _
  · exact Nat.le_succ _
/-- A DEED KEEPS THE LAW -/
theorem deed_ok (ok : Ok hs W s) (hh : h ∈ hs) (d : DeedR h (s.ch h) s.mail s.k c' mail' k') : Ok hs W (nxt s h c' mail' k') ∧ (∀ B, (s.ch h).ballot = some B → ∃ B', c'.ballot = some B' ∧ le B B') ∧ (∀ p, (s.ch h).agreed = some p → c'.agreed = some p) ∧ k' ≤ s.k + 1 ∧ mail'.length ≤ s.mail.length + 1 := by
  cases d with
  | begin more x hm =>
    refine ⟨ok_begin ok hh x hm, fun B hB => ⟨_, rfl, ?_⟩, fun p hp => hp, Nat.le_succ _, Nat.le_succ _⟩
    rw [hB]
    unfold le
    left
    show B.1 < B.1 + more
    omega
  | prop n =>
    refine ⟨ok_prop ok hh n, fun B hB => ⟨B, by rw [prop_bal]; exact hB, le_refl B⟩, fun p hp => prop_agreed hp, prop_k _ _ _, Nat.le_succ _⟩
  | tell x => exact ⟨ok_tell ok hh x, fun B hB => ⟨B, hB, le_refl B⟩, fun p hp => hp, Nat.le_succ _, by rw [List.length_append]; exact Nat.le_refl _⟩
  | recv g m hg ne => exact ⟨ok_recv ok hh hg, recv_mono _ m, fun p hp => recv_agreed hp, Nat.le_succ _, Nat.le_succ _⟩
  | recvProp g m n hg ne => exact ⟨ok_recvProp ok hh hg n, fun B hB => by rw [prop_bal]; exact recv_mono _ m B hB, fun p hp => prop_agreed (recv_agreed hp), prop_k _ _ _, Nat.le_succ _⟩
  | none => exact ⟨ok_none ok hh, fun B hB => ⟨B, hB, le_refl B⟩, fun p hp => hp, Nat.le_succ _, Nat.le_succ _⟩
/-- the change answers noted -/
theorem noted_ok (h63 : ∀ g ∈ hs, g < 63) (ok : Ok hs W (nxt s h c' mail' k')) (hh : h ∈ hs) : c'.noted h s.A s.P = true := by
  have k := ok.ch h hh
  rw [nxt_same] at k
  unfold Chg.noted
  cases hy : c'.yes with
  | none =>
    obtain ⟨a1, a2⟩ := k.yn hy
    simp [a1, a2]
  | some y =>
    obtain ⟨⟨B, a1, a2⟩, a3, a4, a5, a6⟩ := k.ys y hy
    have hA : (nxt s h c' mail' k').A = setA s.A (h, y.1) := by
      show c'.notedA h s.A = _
      unfold Chg.notedA
      rw [hy]
    have hP : (nxt s h c' mail' k').P = setP s.P y.1 y.2 := by
      show c'.notedP s.P = _
      unfold Chg.notedP
      rw [hy]
    rw [hP, getA_setP] at a4
    have e1 : (getA s.P y.1).getD y.2 = y.2 := Option.some.inj a4
    have e3 : c'.votes < 2 ^ 63 := Nat.lt_pow_two_of_testBit _ fun i hi => by
      cases hb : c'.votes.testBit i with
      | false => rfl
      | true =>
        have := h63 i (ok.acc i y.1 (a5 i hb)).1
        omega
    simp only [Bool.and_eq_true, decide_eq_true_eq, a1]
    refine ⟨⟨⟨⟨e1, ?_⟩, ?_⟩, a6⟩, e3⟩
    · rw [Bool.not_eq_true', ltB_not]
      exact a2
    · rw [List.all_eq_true]
      intro i _
      rw [Bool.or_eq_true, Bool.not_eq_true', decide_eq_true_eq]
      cases hb : c'.votes.testBit i with
      | false => exact .inl rfl
      | true =>
        have := a5 i hb
        rw [hA] at this
        exact .inr this
end
end K64

namespace K64
open PySem PySem.Spec PyProof.Rows L2 Gr NdefX
structure WAt (Pr : Program) (w : World) (C Pt : Addr) (hs : List Nat) (s : S0) (S : List (Int × (D × Bal))) (N : Nat) (d ml an st sd a b : Addr) (pa ra : Nat → Addr) (m : List (Int × V)) (H : Hp) : Prop where
  hd : H d = some (dI m)
  keys : m.map (·.1) = hs.map fun (h : Nat) => (h : Int)
  mv : ∀ h ∈ hs, valV m (h : Int) = some (.ref (pa h))
  ch : ∀ h ∈ hs, ChgAt C H (pa h) (s.ch h) (ra h)
  nd : ∀ h ∈ hs, ∀ g ∈ hs, g ≠ h → pa g ≠ pa h ∧ ra g ≠ ra h
  nr : ∀ h ∈ hs, ra h ≠ d ∧ ra h ≠ sd
  mail : MailAt H ml s.mail
  mo : D.goodL (s.mail.map encMail) = true ∧ D.depL (s.mail.map encMail) ≤ 4
  my : ∀ z ∈ s.mail, okY z.2.yes
  ans : LsD H an (plansD s.k)
  stt : H st = some (.tup [.ref sd, .ref a, .ref b])
  sa : SaidAt Pr w H a s.A
  sb : PlansAt H b s.P
  ss : SetAt H sd S
  ds : d ≠ sd
  man : ml ≠ an
  tab : TabN H Pt nm_l_propose
  ln : s.mail.length ≤ N ∧ s.k ≤ N ∧ s.A.length ≤ N ∧ s.P.length ≤ N ∧ S.length ≤ N
theorem goodL_app (as bs : List D) : D.goodL (as ++ bs) = (D.goodL as && D.goodL bs) := by
  induction as with
  | nil => simp [D.goodL]
  | cons a as ih => simp [D.goodL, ih, Bool.and_assoc]
theorem depL_app (as bs : List D) : D.depL (as ++ bs) = max (D.depL as) (D.depL bs) := by
  induction as with
  | nil => simp [D.depL]
  | cons a as ih => simp only [List.cons_append, D.depL, ih]; omega
theorem planD_ok (i : Nat) : (planD i).good = true ∧ (planD i).dep = 1 := by
  refine ⟨?_, by simp [planD, D.dep, D.depL]⟩
  simp [planD, D.good, D.goodL]
  decide +kernel
theorem encMail_new {c : Chg} {h : Nat} {x : Int} (hp : ∀ y, c.yes = some y → ∃ i, y.2 = planD i) : (encMail (h, c.message (.int x))).good = true ∧ (encMail (h, c.message (.int x))).dep ≤ 4 := by
  have hb : (encB c.ballot).good = true ∧ (encB c.ballot).dep ≤ 1 := by cases c.ballot <;> simp [encB, D.good, D.goodL, D.dep, D.depL]
  have hy : (encY c.yes).good = true ∧ (encY c.yes).dep ≤ 2 := by
    cases h : c.yes with
    | none => simp [encY, D.good, D.dep]
    | some y =>
      obtain ⟨i, hi⟩ := hp y h
      obtain ⟨p1, p2⟩ := planD_ok i
      refine ⟨by simp [encY, encB, D.good, D.goodL, hi, p1], by simp [encY, encB, D.dep, D.depL, hi, p2]⟩
  refine ⟨by simp [encMail, encM, Chg.message, D.good, D.goodL, hb.1, hy.1], ?_⟩
  have h1 := hb.2
  have h2 := hy.2
  simp only [encMail, encM, Chg.message, D.dep, D.depL]
  omega
theorem Ok.plan {hs : List Nat} {W : Nat} {s : S0} (ok : Ok hs W s) {h : Nat} (hh : h ∈ hs) {y : Yes} (hy : (s.ch h).yes = some y) : ∃ i, i < s.k ∧ y.2 = planD i := ok.val _ (mem_of_get ((ok.ch h hh).ys y hy).2.2.1)
theorem setA_len (A : List (Nat × Bal)) (x : Nat × Bal) : (setA A x).length ≤ A.length + 1 := by
  unfold setA
  split
  · exact Nat.le_succ _
  · rw [List.length_append]; exact Nat.le_refl _
theorem setP_len (P : List (Bal × D)) (b : Bal) (p : D) : (setP P b p).length ≤ P.length + 1 := by
  unfold setP
  cases getA P b with
  | some x => exact Nat.le_succ _
  | none =>
    show (P ++ [(b, p)]).length ≤ _
    rw [List.length_append]; exact Nat.le_refl _
theorem keptS_len (c : Chg) (h : Nat) (S : List (Int × (D × Bal))) : (c.keptS h S).length ≤ S.length + 1 := by
  unfold Chg.keptS
  split
  · split
    · exact Nat.le_succ _
    · rw [List.length_append]; exact Nat.le_refl _
  · exact Nat.le_succ _
/-- a deed's mail -/
theorem deed_mail {hs : List Nat} {W : Nat} {s : S0} (ok : Ok hs W s) {h : Nat} (hh : h ∈ hs) {c' : Chg} {mail' : List (Nat × Msg)} {k' : Nat} (d : DeedR h (s.ch h) s.mail s.k c' mail' k') (mo : D.goodL (s.mail.map encMail) = true ∧ D.depL (s.mail.map encMail) ≤ 4) (my : ∀ z ∈ s.mail, okY z.2.yes) :
    (D.goodL (mail'.map encMail) = true ∧ D.depL (mail'.map encMail) ≤ 4) ∧ ∀ z ∈ mail', okY z.2.yes := by
  cases d with
  | tell x =>
    obtain ⟨e1, e2⟩ := encMail_new (c := s.ch h) (h := h) (x := x) fun y hy => let ⟨i, _, e⟩ := ok.plan hh hy; ⟨i, e⟩
    refine ⟨⟨?_, ?_⟩, fun z hz => ?_⟩
    · rw [List.map_append, goodL_app, mo.1]
      simp [D.goodL, e1]
    · rw [List.map_append, depL_app]
      simp only [List.map_cons, List.map_nil, D.depL]
      omega
    · rcases List.mem_append.mp hz with z1 | z1
      · exact my z z1
      · rw [List.mem_singleton.mp z1]
        show okY (s.ch h).yes
        cases hy : (s.ch h).yes with
        | none => trivial
        | some y =>
          obtain ⟨i, _, e⟩ := ok.plan hh hy
          show y.2 ≠ .non
          rw [e]
          simp [planD]
  | _ => exact ⟨mo, my⟩
def kind : HO → Nat
  | .lst _ => 0
  | .tup _ => 1
  | .dK _ => 2
  | .dT _ => 3
  | .ins _ _ _ => 4
  | .ext _ => 5
  | .tbl _ => 6
  | _ => 7
theorem ne_kind {H : Hp} {p q : Addr} {o u : HO} (h1 : H p = some o) (h2 : H q = some u) (k : kind o ≠ kind u) : p ≠ q := ne_of h1 h2 fun z => k (by rw [z])
theorem WAt.kinds {Pr : Program} {w : World} {C Pt : Addr} {hs : List Nat} {s : S0} {S : List (Int × (D × Bal))} {N : Nat} {d ml an st sd a b : Addr} {pa ra : Nat → Addr} {m : List (Int × V)} {H : Hp} (x : WAt Pr w C Pt hs s S N d ml an st sd a b pa ra m H) :
    (∃ o, H d = some o ∧ kind o = 2) ∧ (∀ h ∈ hs, (∃ o, H (pa h) = some o ∧ kind o = 4) ∧ ∃ o, H (ra h) = some o ∧ kind o = 2) ∧ (∃ o, H ml = some o ∧ kind o = 0) ∧ (∃ o, H an = some o ∧ kind o = 0) ∧ (∃ o, H st = some o ∧ kind o = 1) ∧ (∃ o, H a = some o ∧ kind o = 5) ∧ (∃ o, H b = some o ∧ kind o = 3) ∧ ∃ o, H sd = some o ∧ kind o = 2 := by
  refine ⟨⟨_, x.hd, rfl⟩, fun h hh => ?_, ?_, ?_, ⟨_, x.stt, rfl⟩, ?_, ?_, ?_⟩
  · obtain ⟨⟨_, _, _, _, e1, _⟩, ⟨_, e2, _⟩, _⟩ := x.ch h hh
    exact ⟨⟨_, e1, rfl⟩, _, e2, rfl⟩
  · obtain ⟨_, e, _⟩ := x.mail; exact ⟨_, e, rfl⟩
  · obtain ⟨_, e, _⟩ := x.ans; exact ⟨_, e, rfl⟩
  · obtain ⟨_, e, _⟩ := x.sa; exact ⟨_, e, rfl⟩
  · obtain ⟨_, e, _⟩ := x.sb; exact ⟨_, e, rfl⟩
  · obtain ⟨_, e, _⟩ := x.ss; exact ⟨_, e, rfl⟩
theorem nek {H : Hp} {p q : Addr} {i j : Nat} (h1 : ∃ o, H p = some o ∧ kind o = i) (h2 : ∃ o, H q = some o ∧ kind o = j) (k : i ≠ j) : p ≠ q := by
  obtain ⟨o, e1, e2⟩ := h1
  obtain ⟨u, e3, e4⟩ := h2
  exact ne_kind e1 e3 (by rw [e2, e4]; exact k)
theorem not_tbl {o : HO} (h : kind o ≠ 6) : ∀ ps, o ≠ .tbl ps := fun ps z => h (by rw [z]; rfl)
/-- behind a deed and what is noted -/
theorem codeO_ddO {P : Program} {w : World} {c : Addr} {q : Str} {xs : List (NestedKey × Addr × Value)} (h : ddO P w c xs = LamX.CodeO c q) : False := by
  unfold ddO LamX.CodeO at h
  have h := HO.ext.inj h
  have h1 := congrFun h (Heap.push ⟨Array.replicate c default, {}⟩ { cls := .none, data := .fields #[.none, .str q 0] })
  have g : (Heap.push ⟨Array.replicate c default, {}⟩ { cls := .none, data := .fields #[.none, .str q 0] }).get? c = some { cls := .none, data := .fields #[.none, .str q 0] } := by
    have := Heap.get?_push_size (⟨Array.replicate c default, {}⟩ : Heap) (o := { cls := .none, data := .fields #[.none, .str q 0] }) rfl
    rw [show (Heap.objs ⟨Array.replicate c default, {}⟩).size = c from Array.size_replicate] at this
    exact this
  have h2 : ∃ (oc : Obj) (vs : Array Value) (t : Tok), (Heap.push ⟨Array.replicate c default, {}⟩ { cls := .none, data := .fields #[.none, .str q 0] }).get? c = some oc ∧ oc.data = .fields vs ∧ vs[1]? = some (.str q t) := ⟨_, _, 0, g, rfl, rfl⟩
  rw [← h1] at h2
  obtain ⟨o, es, ep, e1, e2, e3, _⟩ := h2
  rw [g] at e1
  cases e1
  cases e3
theorem WAt.step {Pr : Program} {w : World} {C Pt : Addr} {hs : List Nat} {W : Nat} {s : S0} {S : List (Int × (D × Bal))} {N : Nat} {d ml an st sd a b : Addr} {pa ra : Nat → Addr} {m : List (Int × V)} {H H1 H2 : Hp} {h : Nat} {c' : Chg} {mail' : List (Nat × Msg)} {k' : Nat} {r' : Addr}
    (ok : Ok hs W s) (x : WAt Pr w C Pt hs s S N d ml an st sd a b pa ra m H) (hh : h ∈ hs) (dd : DeedR h (s.ch h) s.mail s.k c' mail' k') (hr : r' = ra h ∨ H r' = none) (f1 : FrT [pa h, ra h, ml, an] H H1) (t1 : TabN H1 Pt nm_l_propose) (c1 : ChgAt C H1 (pa h) c' r') (m1 : MailAt H1 ml mail') (l1 : LsD H1 an (plansD k'))
    (f2 : Fr [a, b, sd] H1 H2) (sa2 : SaidAt Pr w H2 a (c'.notedA h s.A)) (sb2 : PlansAt H2 b (c'.notedP s.P)) (ss2 : SetAt H2 sd (c'.keptS h S)) :
    WAt Pr w C Pt hs (nxt s h c' mail' k') (c'.keptS h S) (N + 1) d ml an st sd a b pa (fun g => if g = h then r' else ra g) m H2 := by
  obtain ⟨kd, kc, kml, kan, kst, ka, kb, ksd⟩ := x.kinds
  obtain ⟨kp, kr⟩ := kc h hh
  have d21 : (2 : Nat) ≠ 4 := by decide
  -- what stands behind the deed
  have keep1 : ∀ q o, H q = some o → kind o ≠ 6 → q ≠ pa h → q ≠ ra h → q ≠ ml → q ≠ an → H1 q = some o := fun q o e k n1 n2 n3 n4 => f1 q o e (by simp [n1, n2, n3, n4]) (not_tbl k)
  have tp1 : Tups H H1 := fun q xs e => keep1 q _ e (by simp [kind, dI, dN]) (nek ⟨_, e, rfl⟩ kp (by simp [kind, dI, dN])) (nek ⟨_, e, rfl⟩ kr (by simp [kind, dI, dN])) (nek ⟨_, e, rfl⟩ kml (by simp [kind, dI, dN])) (nek ⟨_, e, rfl⟩ kan (by simp [kind, dI, dN]))
  have hd1 : H1 d = some (dI m) := keep1 d _ x.hd (by simp [kind, dI, dN]) (nek kd kp (by simp [kind, dI, dN])) (x.nr h hh).1.symm (nek kd kml (by simp [kind, dI, dN])) (nek kd kan (by simp [kind, dI, dN]))
  have hst1 : H1 st = some (.tup [.ref sd, .ref a, .ref b]) := tp1 st _ x.stt
  have ha1 : SaidAt Pr w H1 a s.A := DDs.at x.sa tp1 fun o e => by
    obtain ⟨o', e1, e2⟩ := ka
    exact keep1 a o e (by rw [e] at e1; cases e1; rw [e2]; simp) (nek ⟨o', e1, e2⟩ kp (by simp [kind, dI, dN])) (nek ⟨o', e1, e2⟩ kr (by simp [kind, dI, dN])) (nek ⟨o', e1, e2⟩ kml (by simp [kind, dI, dN])) (nek ⟨o', e1, e2⟩ kan (by simp [kind, dI, dN]))
  have hb1 : PlansAt H1 b s.P := x.sb.fr tp1 fun o e => by
    obtain ⟨o', e1, e2⟩ := kb
    exact keep1 b o e (by rw [e] at e1; cases e1; rw [e2]; simp) (nek ⟨o', e1, e2⟩ kp (by simp [kind, dI, dN])) (nek ⟨o', e1, e2⟩ kr (by simp [kind, dI, dN])) (nek ⟨o', e1, e2⟩ kml (by simp [kind, dI, dN])) (nek ⟨o', e1, e2⟩ kan (by simp [kind, dI, dN]))
  have hs1 : SetAt H1 sd S := x.ss.fr tp1 fun o e => by
    obtain ⟨o', e1, e2⟩ := ksd
    exact keep1 sd o e (by rw [e] at e1; cases e1; rw [e2]; simp) (nek ⟨o', e1, e2⟩ kp (by simp [kind, dI, dN])) (x.nr h hh).2.symm (nek ⟨o', e1, e2⟩ kml (by simp [kind, dI, dN])) (nek ⟨o', e1, e2⟩ kan (by simp [kind, dI, dN]))
  have ch1 : ∀ g ∈ hs, g ≠ h → ChgAt C H1 (pa g) (s.ch g) (ra g) := fun g hg ne => by
    obtain ⟨kpg, krg⟩ := kc g hg
    obtain ⟨n1, n2⟩ := x.nd h hh g hg ne
    refine (x.ch g hg).at tp1 (fun o e => ?_) fun o e => ?_
    · obtain ⟨o', e1, e2⟩ := kpg
      exact keep1 _ o e (by rw [e] at e1; cases e1; rw [e2]; simp) n1 (nek ⟨o', e1, e2⟩ kr (by simp [kind, dI, dN])) (nek ⟨o', e1, e2⟩ kml (by simp [kind, dI, dN])) (nek ⟨o', e1, e2⟩ kan (by simp [kind, dI, dN]))
    · obtain ⟨o', e1, e2⟩ := krg
      exact keep1 _ o e (by rw [e] at e1; cases e1; rw [e2]; simp) (nek ⟨o', e1, e2⟩ kp (by simp [kind, dI, dN])) n2 (nek ⟨o', e1, e2⟩ kml (by simp [kind, dI, dN])) (nek ⟨o', e1, e2⟩ kan (by simp [kind, dI, dN]))
  have rd : r' ≠ d ∧ r' ≠ sd ∧ ∀ g ∈ hs, g ≠ h → r' ≠ ra g := by
    rcases hr with e | e
    · subst e
      exact ⟨(x.nr h hh).1, (x.nr h hh).2, fun g hg ne => (x.nd h hh g hg ne).2.symm⟩
    · obtain ⟨o1, z1, _⟩ := kd
      obtain ⟨o2, z2, _⟩ := ksd
      refine ⟨(ne_of_none z1 e).symm, (ne_of_none z2 e).symm, fun g hg ne => ?_⟩
      obtain ⟨_, o3, z3, _⟩ := kc g hg
      exact (ne_of_none z3 e).symm
  -- what stands behind what is noted
  obtain ⟨xa, ja, _⟩ := id ha1
  obtain ⟨xb, jb, _⟩ := id hb1
  obtain ⟨xs, js, _⟩ := id hs1
  have ka1 : ∃ o, H1 a = some o ∧ kind o = 5 := ⟨_, ja, rfl⟩
  have kb1 : ∃ o, H1 b = some o ∧ kind o = 3 := ⟨_, jb, rfl⟩
  have ks1 : ∃ o, H1 sd = some o ∧ kind o = 2 := ⟨_, js, rfl⟩
  have keep2 : ∀ q o, H1 q = some o → kind o ≠ 5 → kind o ≠ 3 → q ≠ sd → H2 q = some o := fun q o e n1 n2 n3 => f2 q o e (by simp [nek ⟨o, e, rfl⟩ ka1 n1, nek ⟨o, e, rfl⟩ kb1 n2, n3])
  have tp2 : Tups H1 H2 := fun q ys e => keep2 q _ e (by simp [kind, dI, dN]) (by simp [kind, dI, dN]) (nek ⟨_, e, rfl⟩ ks1 (by simp [kind, dI, dN]))
  have chg2 : ∀ {p r : Addr} {c : Chg}, ChgAt C H1 p c r → r ≠ sd → ChgAt C H2 p c r := fun {p r c} k ne => by
    obtain ⟨⟨_, _, _, _, e1, _⟩, ⟨_, e2, _⟩, _⟩ := id k
    refine k.at tp2 (fun o e => ?_) fun o e => ?_
    · rw [e1] at e
      cases e
      exact keep2 _ _ e1 (by show (4 : Nat) ≠ 5; decide) (by show (4 : Nat) ≠ 3; decide) (nek ⟨_, e1, rfl⟩ ks1 (by simp [kind, dI, dN]))
    · rw [e2] at e
      cases e
      exact keep2 _ _ e2 (by show (2 : Nat) ≠ 5; decide) (by show (2 : Nat) ≠ 3; decide) ne
  obtain ⟨mvs, e1, e2⟩ := m1
  obtain ⟨avs, e3, e4⟩ := l1
  have dm := deed_mail ok hh dd x.mo x.my
  obtain ⟨_, _, _, hk, hml⟩ := deed_ok ok hh dd
  obtain ⟨n1, n2, n3, n4, n5⟩ := x.ln
  refine ⟨keep2 d _ hd1 (by show (2 : Nat) ≠ 5; decide) (by show (2 : Nat) ≠ 3; decide) x.ds, x.keys, x.mv, fun g hg => ?_, fun g hg g' hg' ne => ?_, fun g hg => ?_, ⟨mvs, keep2 ml _ e1 (by show (0 : Nat) ≠ 5; decide) (by show (0 : Nat) ≠ 3; decide) (nek ⟨_, e1, rfl⟩ ks1 (by simp [kind, dI, dN])), e2.at tp2⟩, dm.1, dm.2, ⟨avs, keep2 an _ e3 (by show (0 : Nat) ≠ 5; decide) (by show (0 : Nat) ≠ 3; decide) (nek ⟨_, e3, rfl⟩ ks1 (by simp [kind, dI, dN])), e4.at tp2⟩, tp2 st _ hst1, sa2, sb2, ss2, x.ds, x.man, ?_, ?_⟩
  · by_cases eg : g = h
    · subst eg
      rw [nxt_same, if_pos rfl]
      exact chg2 c1 rd.2.1
    · rw [nxt_ne eg, if_neg eg]
      exact chg2 (ch1 g hg eg) (x.nr g hg).2
  · obtain ⟨z1, z2⟩ := x.nd g hg g' hg' ne
    refine ⟨z1, ?_⟩
    by_cases eg : g = h
    · have eg' : g' ≠ h := fun z => ne (z.trans eg.symm)
      rw [if_neg eg', if_pos eg]
      exact (rd.2.2 g' hg' eg').symm
    · rw [if_neg eg]
      by_cases eg' : g' = h
      · rw [if_pos eg']
        exact rd.2.2 g hg eg
      · rw [if_neg eg']
        exact z2
  · by_cases eg : g = h
    · rw [if_pos eg]
      exact ⟨rd.1, rd.2.1⟩
    · rw [if_neg eg]
      exact x.nr g hg
  · obtain ⟨tps, z1, z2, z3⟩ := id t1
    refine ⟨tps, keep2 Pt _ z1 (by simp [kind]) (by simp [kind]) (nek ⟨_, z1, rfl⟩ ks1 (by simp [kind])), z2, fun pos cv hc => ?_⟩
    obtain ⟨cc, z4, z5⟩ := z3 pos cv hc
    refine ⟨cc, z4, f2 cc _ z5 ?_⟩
    simp only [List.mem_cons, List.not_mem_nil, or_false]
    rintro (z | z | z)
    · rw [z, ja] at z5
      exact codeO_ddO (Option.some.inj z5)
    · rw [z, jb] at z5
      cases z5
    · rw [z, js] at z5
      cases z5
  · refine ⟨by show mail'.length ≤ _; omega, by show k' ≤ _; omega, ?_, ?_, Nat.le_trans (keptS_len _ _ _) (by omega)⟩
    · show (c'.notedA h s.A).length ≤ _
      unfold Chg.notedA
      split
      · omega
      · exact Nat.le_trans (setA_len _ _) (by omega)
    · show (c'.notedP s.P).length ≤ _
      unfold Chg.notedP
      split
      · omega
      · exact Nat.le_trans (setP_len _ _ _) (by omega)
end K64

namespace K64
open PySem PySem.Spec PyProof.Rows L2 Gr NdefX
structure SOk (hs : List Nat) (W : Nat) (s : S0) (S : List (Int × (D × Bal))) : Prop where
  no : ∀ h ∈ hs, (s.ch h).agreed = none → getA S (h : Int) = none
  is : ∀ h ∈ hs, ∀ d, (s.ch h).agreed = some d → ∃ x, getA S (h : Int) = some x ∧ x.1 = d
  al : ∀ x ∈ S, ∃ b0, le b0 x.2.2 ∧ Chosen W s b0 x.2.1
theorem chosen_nxt {W : Nat} {s : S0} {h : Nat} {c' : Chg} {mail' : List (Nat × Msg)} {k' : Nat} {b : Bal} {p : D} (c : Chosen W s b p) : Chosen W (nxt s h c' mail' k') b p := by
  obtain ⟨h1, M, h2, h3⟩ := c
  refine ⟨?_, M, h2, fun i hi => nxt_A.mpr (.inl (h3 i hi))⟩
  show getA (c'.notedP s.P) b = some p
  unfold Chg.notedP
  cases c'.yes with
  | none => exact h1
  | some y => exact getA_setP_old h1
theorem getA_snoc {κ α : Type} [DecidableEq κ] {l : List (κ × α)} {k j : κ} {x : α} : getA (l ++ [(k, x)]) j = match getA l j with
    | some y => some y
    | none => if k = j then some x else none := by
  rw [getA_app]
  cases getA l j with
  | some y => rfl
  | none =>
    show getA [(k, x)] j = if k = j then some x else none
    by_cases e : k = j
    · rw [if_pos e]; exact getA_pos (p := (k, x)) e
    · rw [if_neg e, getA_neg (p := (k, x)) e]; rfl
theorem SOk.step {hs : List Nat} {W : Nat} {s : S0} {S : List (Int × (D × Bal))} {h : Nat} {c' : Chg} {mail' : List (Nat × Msg)} {k' : Nat} (ok : Ok hs W s) (so : SOk hs W s S) (hh : h ∈ hs) (dd : DeedR h (s.ch h) s.mail s.k c' mail' k') :
    SOk hs W (nxt s h c' mail' k') (c'.keptS h S) ∧ (c'.agreed = none → getA S (h : Int) = none) ∧ ∀ d, c'.agreed = some d → (∃ y, c'.yes = some y) ∧ ∀ x, getA S (h : Int) = some x → x.1 = d := by
  obtain ⟨ok', hb, ha, _⟩ := deed_ok ok hh dd
  have k' := ok'.ch h hh
  rw [nxt_same] at k'
  have old : ∀ x, getA S (h : Int) = some x → ∃ d, (s.ch h).agreed = some d ∧ x.1 = d := fun x hx => by
    cases z : (s.ch h).agreed with
    | none => rw [so.no h hh z] at hx; cases hx
    | some d =>
      obtain ⟨x', e1, e2⟩ := so.is h hh d z
      rw [hx] at e1
      cases e1
      exact ⟨d, rfl, e2⟩
  have c1 : c'.agreed = none → getA S (h : Int) = none := fun z => by
    cases e : getA S (h : Int) with
    | none => rfl
    | some x =>
      obtain ⟨d, e1, _⟩ := old x e
      rw [ha d e1] at z
      cases z
  have c2 : ∀ d, c'.agreed = some d → (∃ y, c'.yes = some y) ∧ ∀ x, getA S (h : Int) = some x → x.1 = d := fun d hd => by
    obtain ⟨y, b, e1, _⟩ := k'.ag d hd
    refine ⟨⟨y, e1⟩, fun x hx => ?_⟩
    obtain ⟨d', e2, e3⟩ := old x hx
    rw [ha d' e2] at hd
    cases hd
    exact e3
  refine ⟨?_, c1, c2⟩
  have kept : ∀ g, g ≠ h → getA (c'.keptS h S) (g : Int) = getA S (g : Int) := fun g ne => by
    unfold Chg.keptS
    split
    · split
      · rfl
      · rw [getA_snoc]
        cases getA S (g : Int) with
        | some y => rfl
        | none => exact if_neg (by omega)
    · rfl
  refine ⟨fun g hg hn => ?_, fun g hg d hd => ?_, fun x hx => ?_⟩
  · by_cases e : g = h
    · subst e
      rw [nxt_same] at hn
      have : c'.keptS g S = S := by unfold Chg.keptS; rw [hn]
      rw [this]
      exact c1 hn
    · rw [nxt_ne e] at hn
      rw [kept g e]
      exact so.no g hg hn
  · by_cases e : g = h
    · subst e
      rw [nxt_same] at hd
      obtain ⟨⟨y, ey⟩, hx⟩ := c2 d hd
      have : c'.keptS g S = if (getA S (g : Int)).isSome = true then S else S ++ [((g : Int), (d, y.1))] := by unfold Chg.keptS; rw [hd, ey]
      rw [this]
      cases z : getA S (g : Int) with
      | some x => rw [if_pos (by rfl)]; exact ⟨x, z, hx x z⟩
      | none =>
        rw [if_neg (by simp), getA_snoc, z]
        exact ⟨(d, y.1), if_pos rfl, rfl⟩
    · rw [nxt_ne e] at hd
      rw [kept g e]
      exact so.is g hg d hd
  · have oldx : x ∈ S → ∃ b0, le b0 x.2.2 ∧ Chosen W (nxt s h c' mail' ‹Nat›) b0 x.2.1 := fun z => by
      obtain ⟨b0, e1, e2⟩ := so.al x z
      exact ⟨b0, e1, chosen_nxt e2⟩
    unfold Chg.keptS at hx
    cases hd : c'.agreed with
    | none => rw [hd] at hx; exact oldx hx
    | some d =>
      cases hy : c'.yes with
      | none => rw [hd, hy] at hx; exact oldx hx
      | some y =>
        rw [hd, hy] at hx
        have hx : x ∈ (if (getA S (h : Int)).isSome = true then S else S ++ [((h : Int), (d, y.1))]) := hx
        split at hx
        · exact oldx hx
        · rcases List.mem_append.mp hx with z | z
          · exact oldx z
          · rw [List.mem_singleton.mp z]
            obtain ⟨y0, b, e1, e2, e3⟩ := k'.ag d hd
            rw [hy] at e1
            cases e1
            exact ⟨b, e2, e3⟩
theorem planD_okD (i : Nat) : (planD i).ok = true := by
  obtain ⟨h1, h2⟩ := planD_ok i
  unfold D.ok
  rw [h1, h2]
  rfl
theorem agreed_of {hs : List Nat} {W : Nat} {s : S0} {S : List (Int × (D × Bal))} (hW : ∀ i, W.testBit i = true → i ∈ hs) (ok : Ok hs W s) (so : SOk hs W s S) : agreedOk S s.k s.P := by
  have pl : ∀ b p, getA s.P b = some p → ∃ i, i < s.k ∧ p = planD i := fun b p h => ok.val _ (mem_of_get h)
  refine ⟨fun x hx => ?_, fun x hx y hy => ?_, fun x hx q hq hl => ?_⟩
  · obtain ⟨b0, _, c⟩ := so.al x hx
    obtain ⟨i, h1, h2⟩ := pl _ _ c.1
    rw [h2]
    exact ⟨List.mem_map.mpr ⟨i, List.mem_range.mpr h1, rfl⟩, planD_okD i⟩
  · obtain ⟨b0, _, c⟩ := so.al x hx
    obtain ⟨b1, _, c1⟩ := so.al y hy
    exact chosen_one hW ok c c1
  · obtain ⟨b0, hb, c⟩ := so.al x hx
    obtain ⟨l, r, e⟩ := List.append_of_mem hq
    have hn := (ok.core l q.1 q.2 r e).1
    have hg : getA s.P q.1 = some q.2 := by
      rw [e, getA_app, hn]
      exact getA_pos (p := q) rfl
    exact agree_get hW ok c hg (le_trans hb (lt_le (ltB_iff.mp hl)))
theorem nxt_same_mail {hs : List Nat} {W : Nat} {s : S0} {h : Nat} {mail' : List (Nat × Msg)} {k' : Nat} (ok : Ok hs W s) (hh : h ∈ hs) : nxt s h (s.ch h) mail' k' = ⟨s.ch, mail', s.A, s.P, k'⟩ := by
  have eA : (s.ch h).notedA h s.A = s.A := by
    unfold Chg.notedA
    cases hy : (s.ch h).yes with
    | none => rfl
    | some y => exact setA_old ((ok.ch h hh).ys y hy).2.1
  have eP : (s.ch h).notedP s.P = s.P := by
    unfold Chg.notedP
    cases hy : (s.ch h).yes with
    | none => rfl
    | some y =>
      show setP s.P y.1 y.2 = s.P
      unfold setP
      rw [((ok.ch h hh).ys y hy).2.2.1]
  unfold nxt
  rw [eA, eP]
  congr 1
  funext i
  by_cases e : i = h
  · rw [if_pos e, e]
  · rw [if_neg e]
/-- at the start -/
def start0 (W : Nat) : S0 := ⟨fun h => Chg.new h W, [], [], [], 0⟩
theorem ok_start (hs : List Nat) (W : Nat) : Ok hs W (start0 W) where
  ch := fun h _ => ⟨rfl, rfl, fun _ => ⟨rfl, rfl⟩, (fun y hy => by cases hy), List.nodup_nil, (fun x hx => by cases hx), (fun p hp => by cases hp)⟩
  msg := fun x hx => by cases hx
  acc := fun h b hb => by cases hb
  own := fun b p hp => by cases hp
  core := fun P1 b p P2 e => by
    have e : ([] : List (Bal × D)) = P1 ++ (b, p) :: P2 := e
    simp at e
  val := fun x hx => by cases hx
theorem sok_start (hs : List Nat) (W : Nat) : SOk hs W (start0 W) [] := ⟨fun _ _ _ => rfl, (fun h hh d hd => by cases hd), (fun x hx => by cases hx)⟩
theorem rlen_small {hs : List Nat} {W : Nat} {s : S0} (ok : Ok hs W s) (hl : hs.length ≤ 5) {h : Nat} (hh : h ∈ hs) : (s.ch h).reports.length ≤ 5 := by
  have k := ok.ch h hh
  have h1 : ∀ z ∈ (s.ch h).reports.map (·.1), z ∈ hs.map fun (g : Nat) => (g : Int) := fun z hz => by
    obtain ⟨x, hx, rfl⟩ := List.mem_map.mp hz
    obtain ⟨g, g1, g2, _⟩ := k.rp x hx
    exact List.mem_map.mpr ⟨g, g1, g2.symm⟩
  have h2 : ∀ (l r : List Int), l.Nodup → (∀ z ∈ l, z ∈ r) → l.length ≤ r.length := by
    intro l
    induction l with
    | nil => intro r _ _; exact Nat.zero_le _
    | cons a l ih =>
      intro r hn hm
      have hn' := List.nodup_cons.mp hn
      have hr : a ∈ r := hm a (List.mem_cons_self ..)
      have := ih (r.erase a) hn'.2 fun z hz => (List.mem_erase_of_ne (fun e => hn'.1 (by rw [← e]; exact hz))).mpr (hm z (List.mem_cons_of_mem _ hz))
      rw [List.length_erase_of_mem hr] at this
      have hpos := List.length_pos_of_mem hr
      rw [List.length_cons]
      omega
  have := h2 _ _ k.rn h1
  rw [List.length_map, List.length_map] at this
  omega
end K64

namespace K64
open PySem PySem.Spec PyProof.Rows L2 Gr NdefX
section
variable {Pr : Program} {w : World} {C Pt : Addr} {hs : List Nat} {s : S0} {S : List (Int × (D × Bal))} {N : Nat} {d ml an st sd a b : Addr} {pa ra : Nat → Addr} {m : List (Int × V)} {H H' : Hp}
theorem WAt.same (x : WAt Pr w C Pt hs s S N d ml an st sd a b pa ra m H) (e : Same H H') : WAt Pr w C Pt hs s S N d ml an st sd a b pa ra m H' where
  hd := e _ _ x.hd
  keys := x.keys
  mv := x.mv
  ch := fun h hh => (x.ch h hh).same e
  nd := x.nd
  nr := x.nr
  mail := x.mail.fr (Tups.of_same e) fun o => e _ o
  mo := x.mo
  my := x.my
  ans := lsD_fr x.ans (Tups.of_same e) fun o => e _ o
  stt := e _ _ x.stt
  sa := DDs.at x.sa (Tups.of_same e) fun o => e _ o
  sb := x.sb.fr (Tups.of_same e) fun o => e _ o
  ss := x.ss.fr (Tups.of_same e) fun o => e _ o
  ds := x.ds
  man := x.man
  tab := x.tab.ext fun b o => e b o
  ln := x.ln
theorem WAt.more (x : WAt Pr w C Pt hs s S N d ml an st sd a b pa ra m H) {N' : Nat} (h : N ≤ N') : WAt Pr w C Pt hs s S N' d ml an st sd a b pa ra m H := by
  obtain ⟨h1, h2, h3, h4, h5⟩ := x.ln
  exact { x with ln := ⟨by omega, by omega, by omega, by omega, by omega⟩ }
/-- all but what the deeds write -/
structure Out (hs : List Nat) (ml an sd a b : Addr) (H H' : Hp) : Prop where
  keep : ∀ q o, H q = some o → kind o ≠ 2 → kind o ≠ 3 → kind o ≠ 4 → kind o ≠ 5 → kind o ≠ 6 → q ≠ ml → q ≠ an → H' q = some o
theorem Out.refl (H : Hp) : Out hs ml an sd a b H H := ⟨fun _ _ e _ _ _ _ _ _ _ => e⟩
theorem Out.trans {H1 H2 : Hp} (x : Out hs ml an sd a b H H1) (y : Out hs ml an sd a b H1 H2) : Out hs ml an sd a b H H2 := ⟨fun q o e k1 k2 k3 k4 k5 n1 n2 => y.keep q o (x.keep q o e k1 k2 k3 k4 k5 n1 n2) k1 k2 k3 k4 k5 n1 n2⟩
theorem Out.same (e : Same H H') : Out hs ml an sd a b H H' := ⟨fun q o h _ _ _ _ _ _ _ => e q o h⟩
/-- what one deed and its notes leave -/
theorem WAt.out {W : Nat} (x : WAt Pr w C Pt hs s S N d ml an st sd a b pa ra m H) {h : Nat} (hh : h ∈ hs) {H1 H2 : Hp} (f1 : FrT [pa h, ra h, ml, an] H H1) (k1 : (∃ o, H1 a = some o ∧ kind o = 5) ∧ (∃ o, H1 b = some o ∧ kind o = 3) ∧ ∃ o, H1 sd = some o ∧ kind o = 2) (f2 : Fr [a, b, sd] H1 H2) : Out hs ml an sd a b H H2 := ⟨fun q o e n2 n3 n4 n5 n6 nm na => by
  obtain ⟨kd, kc, _⟩ := x.kinds
  obtain ⟨kp, kr⟩ := kc h hh
  have e1 : H1 q = some o := f1 q o e (by simp [nm, na, nek ⟨o, e, rfl⟩ kp n4, nek ⟨o, e, rfl⟩ kr n2]) (not_tbl n6)
  exact f2 q o e1 (by simp [nek ⟨o, e1, rfl⟩ k1.1 n5, nek ⟨o, e1, rfl⟩ k1.2.1 n3, nek ⟨o, e1, rfl⟩ k1.2.2 n2])⟩
/-- the script -/
def ScrAt (K : PySem.W.Frag) (H : Hp) (p ml an : Addr) (xs : List V) : Prop := (Rd H p (.lst xs) ∧ p ≠ ml ∧ p ≠ an) ∨ ∀ H : Hp, SqL K H p xs
theorem ScrAt.sq {K : PySem.W.Frag} {p : Addr} {xs : List V} (h : ScrAt K H p ml an xs) : SqL K H p xs := h.elim (fun z => .inl z.1) fun z => z H
theorem ScrAt.same {K : PySem.W.Frag} {p : Addr} {xs : List V} (h : ScrAt K H p ml an xs) (e : Same H H') : ScrAt K H' p ml an xs := h.imp (fun z => ⟨z.1.imp (fun y => e _ _ y) fun ⟨o, y⟩ => ⟨o, e _ _ y⟩, z.2⟩) id
theorem ScrAt.out {K : PySem.W.Frag} {p : Addr} {xs : List V} (h : ScrAt K H p ml an xs) (e : Out hs ml an sd a b H H') : ScrAt K H' p ml an xs := h.imp (fun z => ⟨z.1.imp (fun y => e.keep _ _ y (by simp [kind]) (by simp [kind]) (by simp [kind]) (by simp [kind]) (by simp [kind]) z.2.1 z.2.2) fun ⟨o, y⟩ => ⟨o, e.keep _ _ y (by simp [kind]) (by simp [kind]) (by simp [kind]) (by simp [kind]) (by simp [kind]) z.2.1 z.2.2⟩, z.2⟩) id
theorem ScrAt.of {K : PySem.W.Frag} {p : Addr} {xs : List V} (h : SqL K H p xs) (n1 : H p ≠ none → p ≠ ml) (n2 : H p ≠ none → p ≠ an) : ScrAt K H p ml an xs := by
  rcases h with z | z
  · have hn : H p ≠ none := by
      rcases z with z | ⟨o, z⟩ <;> rw [z] <;> simp
    exact .inl ⟨z, n1 hn, n2 hn⟩
  · exact .inr fun H' => .inr z
theorem Out.lst {p : Addr} {xs : List V} (e : Out hs ml an sd a b H H') (h : H p = some (.lst xs)) (n1 : p ≠ ml) (n2 : p ≠ an) : H' p = some (.lst xs) := e.keep _ _ h (by simp [kind]) (by simp [kind]) (by simp [kind]) (by simp [kind]) (by simp [kind]) n1 n2
/-- what stands behind a deed -/
theorem WAt.mid {H1 : Hp} {h : Nat} {r' : Addr} (x : WAt Pr w C Pt hs s S N d ml an st sd a b pa ra m H) (hh : h ∈ hs) (hr : r' = ra h ∨ H r' = none) (f1 : FrT [pa h, ra h, ml, an] H H1) :
    Tups H H1 ∧ H1 d = some (dI m) ∧ H1 st = some (.tup [.ref sd, .ref a, .ref b]) ∧ SaidAt Pr w H1 a s.A ∧ PlansAt H1 b s.P ∧ SetAt H1 sd S ∧ r' ≠ d ∧ r' ≠ sd := by
  obtain ⟨kd, kc, kml, kan, kst, ka, kb, ksd⟩ := x.kinds
  obtain ⟨kp, kr⟩ := kc h hh
  have d21 : (2 : Nat) ≠ 4 := by decide
  -- what stands behind the deed
  have keep1 : ∀ q o, H q = some o → kind o ≠ 6 → q ≠ pa h → q ≠ ra h → q ≠ ml → q ≠ an → H1 q = some o := fun q o e k n1 n2 n3 n4 => f1 q o e (by simp [n1, n2, n3, n4]) (not_tbl k)
  have tp1 : Tups H H1 := fun q xs e => keep1 q _ e (by simp [kind, dI, dN]) (nek ⟨_, e, rfl⟩ kp (by simp [kind, dI, dN])) (nek ⟨_, e, rfl⟩ kr (by simp [kind, dI, dN])) (nek ⟨_, e, rfl⟩ kml (by simp [kind, dI, dN])) (nek ⟨_, e, rfl⟩ kan (by simp [kind, dI, dN]))
  have hd1 : H1 d = some (dI m) := keep1 d _ x.hd (by simp [kind, dI, dN]) (nek kd kp (by simp [kind, dI, dN])) (x.nr h hh).1.symm (nek kd kml (by simp [kind, dI, dN])) (nek kd kan (by simp [kind, dI, dN]))
  have hst1 : H1 st = some (.tup [.ref sd, .ref a, .ref b]) := tp1 st _ x.stt
  have ha1 : SaidAt Pr w H1 a s.A := DDs.at x.sa tp1 fun o e => by
    obtain ⟨o', e1, e2⟩ := ka
    exact keep1 a o e (by rw [e] at e1; cases e1; rw [e2]; simp) (nek ⟨o', e1, e2⟩ kp (by simp [kind, dI, dN])) (nek ⟨o', e1, e2⟩ kr (by simp [kind, dI, dN])) (nek ⟨o', e1, e2⟩ kml (by simp [kind, dI, dN])) (nek ⟨o', e1, e2⟩ kan (by simp [kind, dI, dN]))
  have hb1 : PlansAt H1 b s.P := x.sb.fr tp1 fun o e => by
    obtain ⟨o', e1, e2⟩ := kb
    exact keep1 b o e (by rw [e] at e1; cases e1; rw [e2]; simp) (nek ⟨o', e1, e2⟩ kp (by simp [kind, dI, dN])) (nek ⟨o', e1, e2⟩ kr (by simp [kind, dI, dN])) (nek ⟨o', e1, e2⟩ kml (by simp [kind, dI, dN])) (nek ⟨o', e1, e2⟩ kan (by simp [kind, dI, dN]))
  have hs1 : SetAt H1 sd S := x.ss.fr tp1 fun o e => by
    obtain ⟨o', e1, e2⟩ := ksd
    exact keep1 sd o e (by rw [e] at e1; cases e1; rw [e2]; simp) (nek ⟨o', e1, e2⟩ kp (by simp [kind, dI, dN])) (x.nr h hh).2.symm (nek ⟨o', e1, e2⟩ kml (by simp [kind, dI, dN])) (nek ⟨o', e1, e2⟩ kan (by simp [kind, dI, dN]))
  have rd : r' ≠ d ∧ r' ≠ sd ∧ ∀ g ∈ hs, g ≠ h → r' ≠ ra g := by
    rcases hr with e | e
    · subst e
      exact ⟨(x.nr h hh).1, (x.nr h hh).2, fun g hg ne => (x.nd h hh g hg ne).2.symm⟩
    · obtain ⟨o1, z1, _⟩ := kd
      obtain ⟨o2, z2, _⟩ := ksd
      refine ⟨(ne_of_none z1 e).symm, (ne_of_none z2 e).symm, fun g hg ne => ?_⟩
      obtain ⟨_, o3, z3, _⟩ := kc g hg
      exact (ne_of_none z3 e).symm
  exact ⟨tp1, hd1, hst1, ha1, hb1, hs1, rd.1, rd.2.1⟩
/-- the law's own letter -/
theorem WAt.tell {W : Nat} {h : Nat} {x0 : Int} (ok : Ok hs W s) (hh : h ∈ hs) (x : WAt Pr w C Pt hs s S N d ml an st sd a b pa ra m H) (f : Fr [ml] H H') (tp : Tups H H') (hm : MailAt H' ml (s.mail ++ [(h, (s.ch h).message (.int x0))])) :
    WAt Pr w C Pt hs ⟨s.ch, s.mail ++ [(h, (s.ch h).message (.int x0))], s.A, s.P, s.k⟩ S (N + 1) d ml an st sd a b pa ra m H' := by
  obtain ⟨kd, kc, kml, kan, kst, ka, kb, ksd⟩ := x.kinds
  have keep : ∀ q, (∃ o, H q = some o ∧ kind o ≠ 0) → ∀ o, H q = some o → H' q = some o := fun q ⟨o, e, k⟩ o' e' => f q o' e' (by
    obtain ⟨u, z1, z2⟩ := kml
    simp only [List.mem_singleton]
    intro z
    rw [z, z1] at e
    cases e
    exact k z2)
  have nz : ∀ {q i}, (∃ o, H q = some o ∧ kind o = i) → i ≠ 0 → ∃ o, H q = some o ∧ kind o ≠ 0 := fun ⟨o, e, k⟩ n => ⟨o, e, by rw [k]; exact n⟩
  have dm := deed_mail ok hh (.tell x0) x.mo x.my
  obtain ⟨n1, n2, n3, n4, n5⟩ := x.ln
  obtain ⟨tps, t1, t2, t3⟩ := id x.tab
  refine ⟨keep d (nz kd (by decide)) _ x.hd, x.keys, x.mv, fun g hg => ?_, x.nd, x.nr, hm, dm.1, dm.2, lsD_fr x.ans tp fun o e => f an o e (by simp [x.man.symm]), tp _ _ x.stt, DDs.at x.sa tp (keep a (nz ka (by decide))), x.sb.fr tp (keep b (nz kb (by decide))), x.ss.fr tp (keep sd (nz ksd (by decide))), x.ds, x.man, ?_, ?_⟩
  · obtain ⟨kp, kr⟩ := kc g hg
    exact (x.ch g hg).at tp (keep _ (nz kp (by decide))) (keep _ (nz kr (by decide)))
  · refine ⟨tps, keep Pt ⟨_, t1, by simp [kind]⟩ _ t1, t2, fun pos cv hc => ?_⟩
    obtain ⟨cc, t4, t5⟩ := t3 pos cv hc
    exact ⟨cc, t4, keep cc ⟨_, t5, by simp [kind, LamX.CodeO]⟩ _ t5⟩
  · refine ⟨?_, by show s.k ≤ _; omega, by show s.A.length ≤ _; omega, by show s.P.length ≤ _; omega, by omega⟩
    show (s.mail ++ [(h, (s.ch h).message (.int x0))]).length ≤ _
    rw [List.length_append]
    exact Nat.succ_le_succ n1
/-- another list is written -/
theorem WAt.lst {q : Addr} {xs ys : List V} (x : WAt Pr w C Pt hs s S N d ml an st sd a b pa ra m H) (h : H q = some (.lst xs)) (n1 : q ≠ ml) (n2 : q ≠ an) : WAt Pr w C Pt hs s S N d ml an st sd a b pa ra m (upd H q (.lst ys)) := by
  obtain ⟨kd, kc, kml, kan, kst, ka, kb, ksd⟩ := x.kinds
  have keep : ∀ p, p ≠ q → ∀ o, H p = some o → upd H q (.lst ys) p = some o := fun p n o e => by rw [upd_ne n]; exact e
  have nz : ∀ {p i}, (∃ o, H p = some o ∧ kind o = i) → i ≠ 0 → p ≠ q := fun {p i} z n => nek z ⟨_, h, rfl⟩ n
  have tp : Tups H (upd H q (.lst ys)) := (Tups.refl H).put (not_tup_of h fun xs z => by cases z)
  obtain ⟨tps, t1, t2, t3⟩ := id x.tab
  refine ⟨keep d (nz kd (by decide)) _ x.hd, x.keys, x.mv, fun g hg => ?_, x.nd, x.nr, x.mail.fr tp (keep ml n1.symm), x.mo, x.my, lsD_fr x.ans tp (keep an n2.symm), tp _ _ x.stt, DDs.at x.sa tp (keep a (nz ka (by decide))), x.sb.fr tp (keep b (nz kb (by decide))), x.ss.fr tp (keep sd (nz ksd (by decide))), x.ds, x.man, ?_, x.ln⟩
  · obtain ⟨kp, kr⟩ := kc g hg
    exact (x.ch g hg).at tp (keep _ (nz kp (by decide))) (keep _ (nz kr (by decide)))
  · refine ⟨tps, keep Pt (nz (i := 6) ⟨_, t1, rfl⟩ (by decide)) _ t1, t2, fun pos cv hc => ?_⟩
    obtain ⟨cc, t4, t5⟩ := t3 pos cv hc
    exact ⟨cc, t4, keep cc (nz (i := 5) ⟨_, t5, rfl⟩ (by decide)) _ t5⟩
end
end K64

namespace K64
open PySem PySem.Spec PyProof.Rows L2 Gr NdefX
def sp_law (K : PySem.W.Frag) (Pt : Addr) : Sp := fun vs H Q _ => ∃ (a : Addr) (ns : List Int), vs = [.ref a] ∧ ns.length ≤ 63 ∧ SqL K H a (ns.map V.int) ∧ H Pt = some (.tbl #[]) ∧ ∀ H', Q (.bl true) H'
theorem atI_mod {α : Type} {xs : List α} {z : Int} (h : 0 < xs.length) : ∃ j, j < xs.length ∧ atI xs (z % (xs.length : Int)) = xs[j]? := by
  have h1 := Int.emod_nonneg z (show (xs.length : Int) ≠ 0 by omega)
  have h2 := Int.emod_lt_of_pos z (show (0 : Int) < xs.length by omega)
  refine ⟨(z % (xs.length : Int)).toNat, by omega, ?_⟩
  rw [← atI_cast, Int.toNat_of_nonneg h1]
theorem gives_list {l : List Nat} {p : Nat → Bool} {e : Nat → D} : (gives l.length (fun i => p (l.getD i 0)) fun i => e (l.getD i 0)) = (l.filter p).map e := by
  have h : l = (List.range l.length).map fun i => l.getD i 0 := by
    refine List.ext_getElem (by simp) fun i h1 h2 => ?_
    rw [List.getElem_map, List.getElem_range, List.getD_eq_getElem?_getD, List.getElem?_eq_getElem h1]
    rfl
  unfold gives
  conv => rhs; rw [h]
  rw [List.filter_map, List.map_map]
  rfl
theorem two_left {l : List Nat} {x : Nat} (hn : l.Nodup) (h2 : 2 < l.length) : l.filter (fun g => decide (g ≠ x)) ≠ [] := by
  match l, h2 with
  | a :: b :: r, _ =>
    intro z
    rw [List.filter_eq_nil_iff] at z
    have h1 := z a (by simp)
    have h2 := z b (by simp)
    simp at h1 h2
    have := (List.nodup_cons.mp hn).1
    rw [h1, h2] at this
    exact this (by simp)
theorem cut_nat (l : List Nat) (lo hi : Option Int) : ∃ r, cutV (vNat l) lo hi = vNat r ∧ (∀ g ∈ r, g ∈ l) ∧ r.length ≤ l.length := by
  unfold cutV vNat
  rw [← List.map_drop, ← List.map_take]
  refine ⟨_, rfl, fun g hg => List.mem_of_mem_drop (List.mem_of_mem_take hg), ?_⟩
  rw [List.length_take, List.length_drop]
  omega
theorem sum_pows (hs : List Nat) : (hs.map fun g => ((2 ^ g : Nat) : Int)).sum = (((hs.map fun g => 2 ^ g).sum : Nat) : Int) := by
  induction hs with
  | nil => rfl
  | cons a l ih =>
    rw [List.map_cons, List.map_cons, List.sum_cons, List.sum_cons, ih]
    rfl
theorem add_pow_bit : ∀ (a S i : Nat), S.testBit a = false → (2 ^ a + S).testBit i = true → i = a ∨ S.testBit i = true
  | 0, S, i, h, hb => by
    have h0 : S % 2 = 0 := by
      rw [Nat.testBit_zero] at h
      have := of_decide_eq_false h
      omega
    cases i with
    | zero => exact .inl rfl
    | succ i =>
      right
      rw [Nat.testBit_succ] at hb ⊢
      rw [show (2 ^ 0 + S) / 2 = S / 2 by omega] at hb
      exact hb
  | a + 1, S, i, h, hb => by
    rw [Nat.testBit_succ] at h
    cases i with
    | zero =>
      right
      rw [Nat.testBit_zero, decide_eq_true_eq] at hb ⊢
      rw [Nat.pow_succ] at hb
      omega
    | succ i =>
      rw [Nat.testBit_succ] at hb ⊢
      rw [show (2 ^ (a + 1) + S) / 2 = 2 ^ a + S / 2 by rw [Nat.pow_succ]; omega] at hb
      exact (add_pow_bit a (S / 2) i h hb).imp (fun z => by rw [z]) id
theorem bits_sum : ∀ {hs : List Nat}, hs.Nodup → ∀ i, ((hs.map fun g => 2 ^ g).sum).testBit i = true → i ∈ hs
  | [], _, i, h => by simp at h
  | a :: l, hn, i, h => by
    have hn' := List.nodup_cons.mp hn
    rw [List.map_cons, List.sum_cons] at h
    have ha : ((l.map fun g => 2 ^ g).sum).testBit a = false := by
      cases z : ((l.map fun g => 2 ^ g).sum).testBit a with
      | false => rfl
      | true => exact (hn'.1 (bits_sum hn'.2 a z)).elim
    rcases add_pow_bit a _ i ha h with z | z
    · rw [z]; exact List.mem_cons_self ..
    · exact List.mem_cons_of_mem _ (bits_sum hn'.2 i z)
local macro_rules | `(tactic| walk_at "s") => `(tactic| simp only [a_seq, a_next, a_ifS, a_asg, a_ret, a_retN, a_drop, a_break, a_cont, a_test, a_b, a_op, a_un, a_var, a_c, a_name, a_tupt, a_gcons, a_gnil, a_gsub, a_call, a_meth, a_make, a_cb, a_cons, a_nil, a_fldC, a_sfldC, a_not, a_and, a_or, a_andV, a_orV, a_notV, a_if, a_tup, a_lst, a_dget, a_dget2, a_din, a_dnotin, a_dput, a_dnewK, a_dnewT, a_aug, a_par, a_sl, a_part, a_nopart, a_bm, a_bm0, tPairs, a_disp, a_iLst, a_iTpl, a_iVals, a_iKeys, a_iRng1, a_iRng2, a_I0, a_I, a_U, a_eq, a_ne, a_ixt, a_ixl, a_lenl, a_lent, a_sll, a_sumL, a_sortL, a_sortD, a_listRg, a_rg1, a_append, a_yes, a_setdN, a_ddnotin, a_ddput, a_lenq, a_ixq, a_slq, a_methG, a_callC, a_ndefM, tFor_eq, tLc_eq,
  scal_ii, scal_nn, scal_in, scal_ni, scal_bb, scal_ss, scal_sn, scal_ns, L2.start, cx_K, cx_P, cx_w, bit_c, wipe, Int.natCast_inj, bitAnd_c, bitOr_c, shl1_c, Int.zero_add, Int.add_zero, Int.reduceLT, Int.reduceLE, Int.reducePow, Int.reduceNeg, Int.reduceToNat, Int.toNat_natCast, Int.natCast_nonneg,
  at_lit0, at_lit1, at_lit2, at_lit3, at_lit4, at_lit5, at_lit6, at_lit7, upd_same, upd_ne, Gr.upd_none, ne_eq, Option.isSome_some, sizeLine_eq, Nat.reduceLeDiff, upd_upd, Nat.reduceLT,
  List.map_cons, List.map_nil, List.length_cons, List.length_nil, List.replicate, List.cons_append, List.nil_append, List.append_nil, List.getElem?_cons_succ, List.getElem?_cons_zero, List.set_cons_succ, List.set_cons_zero,
  Option.some.injEq, V.ref.injEq, V.int.injEq, V.bl.injEq, V.str.injEq, List.cons.injEq, exists_eq_left, exists_eq_left', exists_eq_right, exists_eq, exists_eq', exists_and_left, exists_and_right, exists_const, true_and, and_true, and_self, ite_true, ite_false, if_true, if_false, reduceCtorEq, decide_true, decide_false, decide_eq_true_eq, Bool.not_true, Bool.not_false, Bool.not_eq_true', decide_eq_false_iff_not, Bool.false_eq_true, not_true_eq_false, not_false_eq_true, eq_self, HO.ins.injEq, HO.tup.injEq, HO.lst.injEq, and_assoc, Nat.reduceSub, Nat.reduceAdd, Nat.sub_self, reduceIte, ln_F_Change, in_Change_0, ll_Change_0, lk_Change_me, pt_Change_me, in_Change_1, ll_Change_1, lk_Change_hands, pt_Change_hands, in_Change_2, ll_Change_2, lk_Change_ballot, pt_Change_ballot, in_Change_3, ll_Change_3, lk_Change_yes, pt_Change_yes, in_Change_4, ll_Change_4, lk_Change_votes, pt_Change_votes, in_Change_5, ll_Change_5, lk_Change_reports, pt_Change_reports, in_Change_6, lk_Change_agreed, pt_Change_agreed, nm_Change_begin, nm_Change_message, nm_Change_receive, nm_Change_receive_yes, nm_Change_unplanned, nm_Change_settle, nm_Change_enough, nm_Change_propose, nm_Change_settled, N_has, N_hands_of, N_many, N_more_than_half, N_under, N_ballot_of, N_Change_init, N_Change_begin, N_Change_message, N_Change_receive, N_Change_receive_yes, N_Change_unplanned, N_Change_settle, N_Change_enough, N_Change_propose, N_Change_settled, N_l_cell_at, N_l_stream, N_l_hands, N_l_propose, N_l_noted, N_l_kept, N_l_agreed, N_l_deed, N_l_right, N_law, N_l_propose_law_make, *])
local macro_rules | `(tactic| walk_at "e") => `(tactic| first | assumption | rfl | (refine Gr.Fz.out ?_; first | assumption | (simp only [*]; done)) | (simp only [*]; done) | (simp [*]; done))
local macro_rules | `(tactic| walk_at "fr") => `(tactic| (repeat first | exact Gr.Fr.refl _ _ | assumption | (refine Gr.Fr.put' ?_ ?_; focus (first | (right; assumption) | (right; refine Gr.Fz.out ?_; simp only [*]; done) | (left; simp; done)))))
local macro_rules | `(tactic| walk_at "tp") => `(tactic| (repeat first | exact Gr.Tups.refl _ | assumption | (refine Gr.Tups.put' ?_ ?_; focus (first | (refine Gr.not_tup_none ?_; first | assumption | (refine Gr.Fz.out ?_; simp only [*]; done)) | (refine Gr.not_tup_of (by assumption) (fun xs z => ?_); cases z; done)))))
local macro_rules | `(tactic| walk_at "sm") => `(tactic| (repeat first | exact L2.Same.refl _ | assumption | (refine Gr.Same.put' ?_ ?_; focus (first | assumption | (refine Gr.Fz.out ?_; simp only [*]; done)))))
local macro_rules | `(tactic| walk_at "go") => `(tactic| ((try walk_at "s"); first | (intro _ hh; (try simp only [L2.upd_upd, Gr.upd_none, ne_eq, and_assoc] at hh); (try simp only [Gr.none_fz] at hh); walk_at "go") | (refine Gr.Cn.go ?_; walk_at "go") | skip))

section
variable {P : Program} {w : World} {K : PySem.W.Frag} {mg : Str → Option Value} {base : Heap}
theorem ok_law (T : Env K mg) {ct Pt : Addr} (TB : LamX.TabB base mg ct Pt) (hcd : T.fd_l_propose.code = .ref ct) : FnOk P w K mg base CX0 7 (He.ga K "law") T.fd_law ["_law_script"] (sp_law K Pt) := by
  have sc := sc_law
  have ok_l_deed := fun (_ : Env K mg) => ok_l_deed (P := P) (w := w) T TB hcd
  refine T.F_law.ok sc (fun vs H Q E h => ?_) (fun cdv A outer s H vs Q E hr h => ?_)
  · obtain ⟨_, _, rfl, _⟩ := h; rfl
  · have hu := hu_of hr
    refine ⟨_, PSs.nox (pss_cons (ps_set (i := 1) sc.nd rfl (.inl rfl) (pe_call (ok_l_hands T) (hr.mono (by decide)) (by rfl) T.g_l_hands T.F_l_hands.kp (b_l_hands T) .nil pass0 (pa_cons (pe_call (ok_l_cell_at T) (hr.mono (by decide)) (by rfl) T.g_l_cell_at T.F_l_cell_at.kp (b_l_cell_at T) .nil pass0 (pa_cons (pv 0) (pa_cons pe_int pa_nil))) pa_nil)))
    (pss_cons (ps_set (i := 2) sc.nd rfl (.inl rfl) (pe_callB (cr_sumL rfl) (by rfl) T.z_sum (by decide +kernel) (pa_cons (pe_lc (own := [("_law_hand", 4)]) (by rfl) sc.nd (pi_l (K := K) rfl (pv 1)) (blkOk_by (own := [("_law_hand", 4)]) (N := N_law) (sc := defScope s_law) (by decide +kernel)) (fun _ _ _ _ _ => (pg_name (i := 4) sc.nd rfl (.inl rfl) (.inr rfl))) (fun _ _ _ _ _ => pts_nil) (fun _ _ _ _ _ => (pe_op op_shl pe_int (pv 4)))) pa_nil)))
    (pss_cons (ps_set (i := 3) sc.nd rfl (.inl rfl) pe_dnewK)
    (pss_cons (ps_for PassesOwn.never rfl (pi_l (K := K) rfl (pv 1)) (pg_name (i := 4) sc.nd rfl (.inl rfl))
    (pss_one (ps_dput hu (pv 3) (pv 4) (pe_make T.mk_Change (ok_Change_init T) (hr.mono (by decide)) (by rfl) T.g_Change (b_Change_init T) .nil pass0 (pa_cons (pv 4) (pa_cons (pv 2) pa_nil))) rfl)))
    (pss_cons (ps_set (i := 5) sc.nd rfl (.inl rfl) (pe_lst pa_nil))
    (pss_cons (ps_set (i := 6) sc.nd rfl (.inl rfl) (pe_lst pa_nil))
    (pss_cons (ps_set (i := 7) sc.nd rfl (.inl rfl) (pe_tup (pa_cons pe_dnewK (pa_cons pe_ddnew (pa_cons pe_dnewT pa_nil)))))
    (pss_cons (ps_for PassesOwn.never rfl (pi_l (K := K) rfl (pe_slice (sl_sq (K := K) rfl) (pv 0) (po_some pe_int) (po_some pe_int))) (pg_name (i := 8) sc.nd rfl (.inl rfl))
    (pss_cons (ps_set (i := 9) sc.nd rfl (.inl rfl) (pe_call (ok_l_stream T) (hr.mono (by decide)) (by rfl) T.g_l_stream T.F_l_stream.kp (b_l_stream T) .nil pass0 (pa_cons (pv 8) (pa_cons pe_int pa_nil))))
    (pss_cons (ps_set (i := 10) sc.nd rfl (.inr rfl) (pe_ix ix_l (pv 1) (pe_op op_mod (pe_ix ix_l (pv 9) pe_int (fun _ _ => rfl)) (pe_callB len_l (by rfl) T.z_len (by decide +kernel) (pa_cons (pv 1) pa_nil))) (fun _ _ => rfl)))
    (pss_cons (ps_set (i := 11) sc.nd rfl (.inl rfl) (pe_lst (pa_cons (pv 10) pa_nil)))
    (pss_cons (ps_up (ps_if (pt_cmpR op_gt (pe_op op_mod (pe_ix ix_l (pv 9) pe_int (fun _ _ => rfl)) pe_int) pe_int (nomark _))
    (pss_cons (ps_expr (pe_bm PySem.F.plainAttrs_list PySem.F.slot_list_append PySem.F.type_list_append mt_append (pv 5) (pa_cons (pe_tup (pa_cons (pv 10) (pa_cons (pe_meth (pe_dget hu (pv 3) (pv 10) (fun _ _ => rfl)) T.c_Change T.m_Change_message (ok_Change_message T) (hr.mono (by decide)) (b_Change_message T) .nil pass0 (pa_cons (pe_ix ix_l (pv 9) pe_int (fun _ _ => rfl)) pa_nil)) pa_nil))) pa_nil)))
    (pss_cons (ps_set (i := 12) sc.nd rfl (.inl rfl) (pe_op op_mod (pe_ix ix_l (pv 9) pe_int (fun _ _ => rfl)) (pe_callB len_l (by rfl) T.z_len (by decide +kernel) (pa_cons (pv 1) pa_nil))))
    (pss_cons (ps_set (i := 11) sc.nd rfl (.inl rfl) (pe_op op_cat (pe_slice sl_l (pv 1) (po_some (pv 12)) po_none) (pe_slice sl_l (pv 1) po_none (po_some (pv 12)))))
    (pss_one (ps_asg pe_int (pg_sub (pv 9) pe_int set_list))))))
    pss_nil))
    (pss_cons (ps_set (i := 13) sc.nd rfl (.inl rfl) (pe_cmpR op_lt (pe_op op_mod (pe_op op_fdiv (pe_call (ok_l_cell_at T) (hr.mono (by decide)) (by rfl) T.g_l_cell_at T.F_l_cell_at.kp (b_l_cell_at T) .nil pass0 (pa_cons (pv 0) (pa_cons pe_int pa_nil))) pe_int) pe_int) pe_int (nomark _)))
    (pss_cons (ps_up (ps_if (PW.pt (pw_and (pt_val (pv 13)) (pw_and (pt_cmpR op_gt (pe_callB len_l (by rfl) T.z_len (by decide +kernel) (pa_cons (pv 1) pa_nil)) pe_int (nomark _)) (pw_and1 (pt_cmpR op_eq (pe_op op_mod (pe_ix ix_l (pv 9) pe_int (fun _ _ => rfl)) pe_int) pe_int (nomark _))))))
    (pss_one (ps_setLc (i := 1) (own := [("_law_hand", 4)]) (by rfl) sc.nd rfl rfl (sw_true rfl rfl rfl (by decide +kernel)) (pi_l (K := K) rfl (pv 1)) (blkOk_by (own := [("_law_hand", 4)]) (N := N_law) (sc := defScope s_law) (by decide +kernel)) (fun _ _ _ _ _ => (pg_name (i := 4) sc.nd rfl (.inl rfl) (.inr rfl))) (fun _ _ _ _ _ => (pts_one (pt_cmpR op_ne (pv 4) (pv 10) (nomark _)))) (fun _ _ _ _ _ => (pv 4))))
    pss_nil))
    (pss_one (ps_for PassesOwn.never rfl (pi_l (K := K) rfl (pv 11)) (pg_name (i := 4) sc.nd rfl (.inl rfl))
    (pss_cons (ps_set (i := 14) sc.nd rfl (.inl rfl) (pe_fldC (K := K) rfl T.c_Change T.n_Change_ballot (pe_dget hu (pv 3) (pv 4) (fun _ _ => rfl)) rfl))
    (pss_cons (ps_expr (pe_call (ok_l_deed T) (hr.mono (by decide)) (by rfl) T.g_l_deed T.F_l_deed.kp (b_l_deed T) .nil pass0 (pa_cons (pv 3) (pa_cons (pv 4) (pa_cons (pv 5) (pa_cons (pv 6) (pa_cons (pv 9) pa_nil)))))))
    (pss_one (ps_if (pt_not (pt_val (pe_call (ok_l_right T) (hr.mono (by decide)) (by rfl) T.g_l_right T.F_l_right.kp (b_l_right T) .nil pass0 (pa_cons (pv 3) (pa_cons (pv 4) (pa_cons (pv 7) (pa_cons (pv 14) pa_nil)))))))
    (pss_one (ps_ret pe_bl))
    pss_nil)))))))))))))
    (pss_one (ps_ret (pe_lock (pe_lock (pe_call (ok_l_agreed T) (hr.mono (by decide)) (by rfl) T.g_l_agreed T.F_l_agreed.kp (b_l_agreed T) .nil pass0 (pa_cons (pe_ix ix_t (pv 7) pe_int (fun _ _ => rfl)) (pa_cons (pv 6) (pa_cons (pe_ix ix_t (pv 7) pe_int (fun _ _ => rfl)) pa_nil)))))))))))))))), ?_⟩
    clear sc hu hr ok_l_deed
    obtain ⟨sa0, ns, rfl, hnl, hS, hPt, q⟩ := h
    replace q := Hd.mk q
    walk_at "go"
    refine ⟨sa0, ns, 0, rfl, hS, ?_⟩
    refine ⟨_, rfl, fun l0 H1 hs nl0 sm01 hl0 hnd h63 hne h5 => ?_⟩
    walk_at "go"
    have hPt1 := sm01 _ _ hPt
    have hlen : (vNat hs).length = hs.length := List.length_map ..
    refine lcD (wk_listS (K := K) (SqL.of hl0)) (by omega) (fun _ => true) (fun i => .int (((2 ^ (hs.getD i 0) : Nat) : Int))) (fun i y H2 sm2 hi hy A B hA hB => ?_) (fun l1 H2 nl1 sm2 hL1 => ?_)
    · obtain ⟨g, eg, rfl⟩ : ∃ g : Nat, hs[i]? = some g ∧ .int (g : Int) = y := by simpa [vNat] using hy
      have hA := hA rfl (.int ((2 ^ g : Nat) : Int)) H2 (Same.refl _) (by rw [List.getD_eq_getElem?_getD, eg]; rfl)
      have hg := h63 g (List.mem_of_getElem? eg)
      clear hB
      walk_at "go"
      unfold CPow
      omega
    · obtain ⟨vs1, e1, e2⟩ := hL1
      have e3 : (gives (vNat hs).length (fun _ => true) fun i => D.int ((2 ^ (hs.getD i 0) : Nat) : Int)) = ((hs.map fun g => ((2 ^ g : Nat) : Int))).map D.int := by
        rw [gives_all, hlen, List.map_map]
        refine List.ext_getElem (by rw [List.length_map, List.length_map, List.length_range]) fun i h1 h2 => ?_
        rw [List.length_map] at h2
        rw [List.getElem_map, List.getElem_map, List.getElem_range, List.getD_eq_getElem?_getD, List.getElem?_eq_getElem h2]
        rfl
      rw [e3, RpL.ints] at e2
      refine ⟨l1, rfl, _, by rw [e1, e2], ?_⟩
      rw [sum_pows]
      have hW := bits_sum hnd
      generalize (hs.map fun g => 2 ^ g).sum = W at hW
      have hl02 := sm2 _ _ hl0
      have hPt2 := sm2 _ _ hPt1
      have sm02 := sm01.trans sm2
      have hS2 : SqL K H2 sa0 (ns.map V.int) := sm02.seq hS
      clear hS hl0 sm01 sm2 hPt hPt1 e1 nl1
      walk_at "go"
      rename_i d hd0
      have nd0 : H2 d = none := hd0.2.2.out
      clear hd0
      have smd : Same H2 (upd H2 d (.dK [])) := same_new nd0
      have nl0d := ne_of_none hl02 nd0
      have wk := wko_list (K := K) (a := l0) (xs := vNat hs)
      refine forO wk (fun i σ H' => ∃ (x4 : Option V) (m : List (Int × V)) (pa ra : Nat → Addr), σ = [some (.ref sa0), some (.ref l0), some (.int (W : Int)), some (.ref d), x4, none, none, none, none, none, none, none, none, none, none] ∧ Fr [d] (upd H2 d (.dK [])) H' ∧ H' l0 = some (.lst (vNat hs)) ∧ H' d = some (dI m) ∧ m.map (·.1) = (hs.take i).map (fun (g : Nat) => (g : Int)) ∧
        (∀ g ∈ hs.take i, valV m (g : Int) = some (.ref (pa g)) ∧ ChgAt (He.ga K "Change") H' (pa g) (Chg.new g W) (ra g) ∧ ra g ≠ d) ∧ ∀ g ∈ hs.take i, ∀ g' ∈ hs.take i, g' ≠ g → pa g' ≠ pa g ∧ ra g' ≠ ra g) ?_ ?_ ?_ ?_
      · exact ⟨none, [], fun _ => 0, fun _ => 0, rfl, Fr.refl _ _, smd _ _ hl02, upd_same, rfl, (fun g hg => by cases hg), (fun g hg => by cases hg)⟩
      · rintro i σ H' ⟨_, _, _, _, _, _, e, _⟩
        exact e
      · rintro i y σ H3 H4 hi ⟨x4, m, pa, ra, rfl, fr3, hl3, hd3, hk3, hv3, hn3⟩ sm4 hy
        obtain ⟨g, eg, rfl⟩ : ∃ g : Nat, hs[i]? = some g ∧ .int (g : Int) = y := by simpa [vNat] using hy
        have hilt : i < hs.length := by rw [hlen] at hi; exact hi
        have hgm := h63 g (List.mem_of_getElem? eg)
        have etk : hs.take (i + 1) = hs.take i ++ [g] := by rw [List.take_add_one, eg]; rfl
        have hgn : g ∉ hs.take i := fun z => by
          have hn := hnd
          rw [← List.take_append_drop i hs, List.nodup_append] at hn
          have hd : g ∈ hs.drop i := by
            rw [List.drop_eq_getElem_cons hilt, (List.getElem?_eq_some_iff.mp eg).2]
            exact List.mem_cons_self ..
          exact hn.2.2 g z g hd rfl
        have fr4 : Fr [d] (upd H2 d (.dK [])) H4 := fr3.trans (Fr.of_same sm4)
        have hl4 := sm4 _ _ hl3
        have hd4 := sm4 _ _ hd3
        have hml4 : m.length < 1000000 := by
          have := congrArg List.length hk3
          rw [List.length_map, List.length_map, List.length_take] at this
          omega
        have hgm2 : getA m (g : Int) = none := by
          cases z : getA m (g : Int) with
          | none => rfl
          | some v =>
            have : (g : Int) ∈ m.map (·.1) := List.mem_map.mpr ⟨_, mem_of_get z, rfl⟩
            rw [hk3] at this
            obtain ⟨g', h1, h2⟩ := List.mem_map.mp this
            have : g' = g := by omega
            rw [this] at h1
            exact (hgn h1).elim
        have hv4 : ∀ g ∈ hs.take i, valV m (g : Int) = some (.ref (pa g)) ∧ ChgAt (He.ga K "Change") H4 (pa g) (Chg.new g W) (ra g) ∧ ra g ≠ d := fun g hg => ⟨(hv3 g hg).1, (hv3 g hg).2.1.same sm4, (hv3 g hg).2.2⟩
        replace hv4 := Hd.mk hv4
        replace hn3 := Hd.mk hn3
        replace hgn := Hd.mk hgn
        clear hv3 hl3 hd3 fr3 hy hi q
        walk_at "s"
        intro p dx np ndx ndp
        refine ⟨p, dx, g, W, rfl, upd_same, hgm, fun r H5 nr fr5 hC5 => ⟨rfl, ?_⟩⟩
        have e0 : ∀ x, (upd (upd H4 dx (.own p)) p (.ins (He.ga K "Change") dx [])) x = none → H4 x = none ∧ x ≠ p ∧ x ≠ dx := fun x z => by
          obtain ⟨z1, z2⟩ := free_upd z
          obtain ⟨z3, z4⟩ := free_upd z1
          exact ⟨z3, z2.symm, z4.symm⟩
        obtain ⟨nr4, nrp, nrdx⟩ := e0 r nr
        have st5 : Same H4 H5 := fun x o e => fr5 x o (by rw [upd_ne (ne_of_none e np), upd_ne (ne_of_none e ndx)]; exact e) (by simp [ne_of_none e np])
        have hd5 := st5 _ _ hd4
        refine ⟨_, dput_I (m := m) (k := (g : Int)) (v := .ref p) hd5 (sz_of hml4), ?_⟩
        rw [putA_putK]
        have epA : putA m (g : Int) (.ref p) = m ++ [((g : Int), .ref p)] := by
          unfold putA
          rw [getA_any, hgm2]
          simp
        rw [epA]
        have tp6 : Tups H5 (upd H5 d (dI (m ++ [((g : Int), V.ref p)]))) := (Tups.refl _).put (not_tup_of hd5 fun xs z => by unfold dI at z; cases z)
        have npd : p ≠ d := (ne_of_none hd4 np).symm
        have nrd : r ≠ d := (ne_of_none hd4 nr4).symm
        have old6 : ∀ x o, x ≠ d → H5 x = some o → upd H5 d (dI (m ++ [((g : Int), V.ref p)])) x = some o := fun x o n e => by rw [upd_ne n]; exact e
        rw [← etk]
        refine ⟨(fr4.trans (Fr.of_same st5)).put (.inl (by simp)), old6 _ _ (by
          obtain ⟨o, z⟩ : ∃ o, H4 d = some o := ⟨_, hd4⟩
          exact ne_of hl4 hd4 fun z => by unfold dI at z; cases z) (st5 _ _ hl4), m ++ [((g : Int), V.ref p)], upd_same, ?_, fun x => if x = g then p else pa x, fun x => if x = g then r else ra x, ?_, ?_⟩
        · rw [List.map_append, hk3, etk, List.map_append]
          rfl
        · intro x hx
          dsimp only
          rw [etk] at hx
          rcases List.mem_append.mp hx with z | z
          · obtain ⟨a1, a2, a3⟩ := hv4.out x z
            have nx : x ≠ g := fun e => hgn.out (by rw [← e]; exact z)
            rw [if_neg nx, if_neg nx]
            have a1' : getA m (x : Int) = some (V.ref (pa x)) := a1
            refine ⟨by rw [getA_valV, getA_snoc, a1'], ?_, a3⟩
            have a5 := a2.same st5
            obtain ⟨⟨_, _, _, _, z1, _⟩, _⟩ := id a5
            exact a5.at tp6 (fun o e => old6 _ _ (by rw [z1] at e; exact ne_of z1 hd5 fun z => by unfold dI at z; cases z) e) (fun o e => old6 _ _ a3 e)
          · rw [List.mem_singleton.mp z, if_pos rfl, if_pos rfl]
            refine ⟨by rw [getA_valV, getA_snoc, hgm2]; exact if_pos rfl, ?_, nrd⟩
            exact hC5.at tp6 (fun o e => old6 _ _ npd e) (fun o e => old6 _ _ nrd e)
        · intro x hx x' hx' ne
          dsimp only
          rw [etk] at hx hx'
          have alive : ∀ x, x ∈ hs.take i → p ≠ pa x ∧ r ≠ ra x := fun x z => by
            obtain ⟨⟨_, _, _, _, z1, _⟩, ⟨_, z2, _⟩, _⟩ := (hv4.out x z).2.1
            exact ⟨(ne_of_none z1 np).symm, (ne_of_none z2 nr4).symm⟩
          rcases List.mem_append.mp hx with z | z <;> rcases List.mem_append.mp hx' with z' | z'
          · have nx : x ≠ g := fun e => hgn.out (by rw [← e]; exact z)
            have nx' : x' ≠ g := fun e => hgn.out (by rw [← e]; exact z')
            rw [if_neg nx, if_neg nx, if_neg nx', if_neg nx']
            exact hn3.out x z x' z' ne
          · have nx : x ≠ g := fun e => hgn.out (by rw [← e]; exact z)
            rw [List.mem_singleton.mp z', if_neg nx, if_neg nx, if_pos rfl, if_pos rfl]
            exact alive x z
          · have nx' : x' ≠ g := fun e => hgn.out (by rw [← e]; exact z')
            rw [List.mem_singleton.mp z, if_neg nx', if_neg nx', if_pos rfl, if_pos rfl]
            exact ⟨(alive x' z').1.symm, (alive x' z').2.symm⟩
          · exact (ne (by rw [List.mem_singleton.mp z, List.mem_singleton.mp z'])).elim
      · rintro σ H3 ⟨x4, m, pa, ra, rfl, fr3, hl3, hd3, hk3, hv3, hn3⟩
        rw [show hs.take (vNat hs).length = hs from List.take_of_length_le (by rw [hlen]; exact Nat.le_refl _)] at hk3 hv3 hn3
        have hPt3 := fr3 Pt _ (smd _ _ hPt2) (by
          simp only [List.mem_singleton]
          exact ne_of_none hPt2 nd0)
        have hS3 : SqL K H3 sa0 (ns.map V.int) := by
          rcases smd.seq hS2 with z | z
          · rcases z with z | ⟨o, z⟩
            · exact .inl (.inl (fr3 _ _ z (by
                simp only [List.mem_singleton]
                intro e
                rw [e, upd_same] at z
                cases z)))
            · exact .inl (.inr ⟨o, fr3 _ _ z (by
                simp only [List.mem_singleton]
                intro e
                rw [e, upd_same] at z
                cases z)⟩)
          · exact .inr z
        replace hv3 := Hd.mk hv3
        replace hn3 := Hd.mk hn3
        replace hnd := Hd.mk hnd
        replace h63 := Hd.mk h63
        replace hW := Hd.mk hW
        clear hl02 hPt2 hS2 smd fr3 wk
        refine Cn.go ?_
        walk_at "s"
        intro l5 n5
        refine Cn.go ?_
        walk_at "s"
        intro l6 n6
        refine Cn.go ?_
        walk_at "s"
        intro sd nsd
        rw [a_ddnew]
        intro a H4 na _ sm4 ho4 ha4 b nb st nst
        have n6' : upd H3 l5 (.lst []) l6 = none := Gr.upd_none.mpr n6
        have nsd' : upd (upd H3 l5 (.lst [])) l6 (.lst []) sd = none := Gr.upd_none.mpr (by simpa [Gr.upd_none, and_assoc] using nsd)
        have nst' : upd H4 b (.dT []) st = none := Gr.upd_none.mpr nst
        have s1 : Same H3 (upd H3 l5 (.lst [])) := same_new n5
        have s2 : Same (upd H3 l5 (.lst [])) (upd (upd H3 l5 (.lst [])) l6 (.lst [])) := same_new n6'
        have s3 : Same (upd (upd H3 l5 (.lst [])) l6 (.lst [])) (upd (upd (upd H3 l5 (.lst [])) l6 (.lst [])) sd (.dK [])) := same_new nsd'
        have s5 : Same H4 (upd H4 b (.dT [])) := same_new nb
        have s6 : Same (upd H4 b (.dT [])) (upd (upd H4 b (.dT [])) st (.tup [.ref sd, .ref a, .ref b])) := same_new nst'
        have f5 : (upd (upd H4 b (.dT [])) st (.tup [.ref sd, .ref a, .ref b])) l5 = some (.lst []) := s6 _ _ (s5 _ _ (sm4 _ _ (s3 _ _ (s2 _ _ upd_same))))
        have f6 : (upd (upd H4 b (.dT [])) st (.tup [.ref sd, .ref a, .ref b])) l6 = some (.lst []) := s6 _ _ (s5 _ _ (sm4 _ _ (s3 _ _ upd_same)))
        have fsd : (upd (upd H4 b (.dT [])) st (.tup [.ref sd, .ref a, .ref b])) sd = some (.dK []) := s6 _ _ (s5 _ _ (sm4 _ _ upd_same))
        have fa : SaidAt P w (upd (upd H4 b (.dT [])) st (.tup [.ref sd, .ref a, .ref b])) a [] := DDs.at ha4 ((Tups.of_same s5).trans (Tups.of_same s6)) fun o e => s6 _ _ (s5 _ _ e)
        have fb : (upd (upd H4 b (.dT [])) st (.tup [.ref sd, .ref a, .ref b])) b = some (.dT []) := s6 _ _ upd_same
        have fst : (upd (upd H4 b (.dT [])) st (.tup [.ref sd, .ref a, .ref b])) st = some (.tup [.ref sd, .ref a, .ref b]) := upd_same
        have sm37 : Same H3 (upd (upd H4 b (.dT [])) st (.tup [.ref sd, .ref a, .ref b])) := s1.trans (s2.trans (s3.trans (sm4.trans (s5.trans s6))))
        have n56 : l5 ≠ l6 := ne_of_none (upd_same (H := H3) (a := l5) (o := .lst [])) n6'
        have hd3' := s1.trans s2 _ _ hd3
        have ndsd : d ≠ sd := ne_of_none hd3' nsd'
        have wat : WAt P w (He.ga K "Change") Pt hs (start0 W) [] 0 d l5 l6 st sd a b pa ra m (upd (upd H4 b (.dT [])) st (.tup [.ref sd, .ref a, .ref b])) := by
          refine ⟨sm37 _ _ hd3, hk3, fun g hg => (hv3.out g hg).1, fun g hg => (hv3.out g hg).2.1.same sm37, hn3.out, fun g hg => ⟨(hv3.out g hg).2.2, ?_⟩, ⟨[], f5, rfl⟩, ⟨by simp [start0, D.goodL], by simp [start0, D.depL]⟩, (fun z hz => by cases hz), ⟨[], f6, rfl⟩, fst, fa, ⟨[], fb, rfl⟩, ⟨[], fsd, rfl⟩, ndsd, n56, TabN.nil (sm37 _ _ hPt3), by simp [start0]⟩
          obtain ⟨_, ⟨_, z, _⟩, _⟩ := (hv3.out g hg).2.1
          exact ne_of_none (s1.trans s2 _ _ z) nsd'
        have hl7 := sm37 _ _ hl3
        have nl05 : l0 ≠ l5 := ne_of_none hl3 n5
        have nl06 : l0 ≠ l6 := ne_of_none (s1 _ _ hl3) n6'
        have hscr' : ScrAt K (upd (upd H4 b (.dT [])) st (.tup [.ref sd, .ref a, .ref b])) sa0 l5 l6 (ns.map V.int) := by
          rcases hS3 with z | z
          · have hn : ∃ o, H3 sa0 = some o := z.elim (fun y => ⟨_, y⟩) fun ⟨o, y⟩ => ⟨_, y⟩
            obtain ⟨o, ho⟩ := hn
            exact .inl ⟨z.imp (fun y => sm37 _ _ y) fun ⟨o, y⟩ => ⟨o, sm37 _ _ y⟩, ne_of_none ho n5, ne_of_none (s1 _ _ ho) n6'⟩
          · exact .inr fun H' => .inr z
        have hS7 := sm37.seq hS3
        generalize (upd (upd H4 b (.dT [])) st (.tup [.ref sd, .ref a, .ref b])) = H7 at wat hl7 hS7 hscr'
        clear hl3 hd3 hPt3 hS3 fst fb fa fsd f6 f5 s6 s5 s3 s2 s1 nst' nsd' n6' sm37 ha4 ho4 sm4 na nb nst nsd n6 n5 hv3 hn3 hk3 hd3' nd0 nl0 sm02
        have hscr : ScrAt K H7 sa0 l5 l6 (ns.map V.int) := hscr'
        clear hscr'
        have nla5 : l0 ≠ l5 := nl05
        have nla6 : l0 ≠ l6 := nl06
        refine Cn.go ?_
        walk_at "s"
        refine ⟨_, hscr.sq, fun lp nlp => ?_⟩
        have smp : Same H7 (upd H7 lp (.lst (cutV (ns.map V.int) (some 1) (some 61)))) := same_new nlp
        obtain ⟨cells, hcl, hcell⟩ : ∃ cells : List Int, cells.length ≤ 63 ∧ cutV (ns.map V.int) (some 1) (some 61) = cells.map V.int := by
          unfold cutV
          rw [← List.map_drop, ← List.map_take]
          exact ⟨_, by rw [List.length_take, List.length_drop]; omega, rfl⟩
        rw [hcell] at smp ⊢
        have wk2 := wko_list (K := K) (a := lp) (xs := cells.map V.int)
        have nlp5 : lp ≠ l5 := by
          obtain ⟨_, z, _⟩ := wat.mail
          exact (ne_of_none z nlp).symm
        have nlp6 : lp ≠ l6 := by
          obtain ⟨_, z, _⟩ := wat.ans
          exact (ne_of_none z nlp).symm
        refine forO wk2 (fun i σ H' => ∃ (cur : List Nat) (s0 : S0) (S : List (Int × (D × Bal))) (ra : Nat → Addr) (la : Addr) (y4 y8 y9 y10 y11 y12 y13 y14 : Option V), σ = [some (.ref sa0), some (.ref la), some (.int (W : Int)), some (.ref d), y4, some (.ref l5), some (.ref l6), some (.ref st), y8, y9, y10, y11, y12, y13, y14] ∧
          (∀ g ∈ cur, g ∈ hs) ∧ cur ≠ [] ∧ cur.Nodup ∧ cur.length ≤ 5 ∧ H' la = some (.lst (vNat cur)) ∧ la ≠ l5 ∧ la ≠ l6 ∧ H' lp = some (.lst (cells.map V.int)) ∧ ScrAt K H' sa0 l5 l6 (ns.map V.int) ∧ Ok hs W s0 ∧ SOk hs W s0 S ∧ WAt P w (He.ga K "Change") Pt hs s0 S (12 * i) d l5 l6 st sd a b pa ra m H') ?_ ?_ ?_ ?_
        · exact ⟨hs, start0 W, [], ra, l0, x4, none, none, none, none, none, none, none, rfl, fun g hg => hg, hne, hnd.out, h5, smp _ _ hl7, nla5, nla6, upd_same, hscr.same smp, ok_start hs W, sok_start hs W, wat.same smp⟩
        · rintro i σ H' ⟨_, _, _, _, _, _, _, _, _, _, _, _, _, _, _, _, _, _, _, _, _, e, _⟩
          exact e
        · clear wat hscr hl7 smp
          rintro i y σ H8 H9 hi ⟨cur, s0, S, ra, la, y4, y8, y9, y10, y11, y12, y13, y14, rfl, hcs, hcne, hcn, hc5, hla, nl5, nl6, hlp, hscr, ok, so, wat⟩ sm9 hy
          obtain ⟨z, ez, rfl⟩ : ∃ z : Int, cells[i]? = some z ∧ .int z = y := by simpa using hy
          have hla9 := sm9 _ _ hla
          have hlp9 := sm9 _ _ hlp
          have hscr9 := hscr.same sm9
          have wat9 := wat.same sm9
          clear hla hlp hscr wat
          walk_at "s"
          refine ⟨z, 8, rfl, by decide, fun lx H10 xs nlx sm10 hlx hxs => ?_⟩
          obtain ⟨x0, x1, x2, x3, x4', x5, x6, x7, rfl⟩ : ∃ x0 x1 x2 x3 x4 x5 x6 x7, xs = [x0, x1, x2, x3, x4, x5, x6, x7] := by
            match xs, hxs with
            | [x0, x1, x2, x3, x4, x5, x6, x7], _ => exact ⟨x0, x1, x2, x3, x4, x5, x6, x7, rfl⟩
          have hlx' := hlx
          simp only [List.map_cons, List.map_nil] at hlx
          have hla10 := sm10 _ _ hla9
          have hlp10 := sm10 _ _ hlp9
          have hscr10 := hscr9.same sm10
          have wat10 := wat9.same sm10
          have nxa : lx ≠ la := (ne_of_none hla9 nlx).symm
          have nxp : lx ≠ lp := (ne_of_none hlp9 nlx).symm
          have nx5 : lx ≠ l5 := by
            obtain ⟨_, q, _⟩ := wat9.mail
            exact (ne_of_none q nlx).symm
          have nx6 : lx ≠ l6 := by
            obtain ⟨_, q, _⟩ := wat9.ans
            exact (ne_of_none q nlx).symm
          have hcl0 : 0 < cur.length := List.length_pos_iff.mpr hcne
          have hcll : (vNat cur).length = cur.length := List.length_map ..
          obtain ⟨j0, hj0, ej0⟩ := atI_mod (xs := vNat cur) (z := x0) (by rw [hcll]; exact hcl0)
          obtain ⟨one, eone, hone⟩ : ∃ one : Nat, (vNat cur)[j0]? = some (.int (one : Int)) ∧ one ∈ cur := by
            rw [hcll] at hj0
            exact ⟨cur[j0], by unfold vNat; rw [List.getElem?_map, List.getElem?_eq_getElem hj0]; rfl, List.getElem_mem hj0⟩
          rw [eone, hcll] at ej0
          have honeh := hcs one hone
          have hsx : (∀ H : Hp, SqL K H sa0 (ns.map V.int)) ∨ sa0 ≠ lx := by
            rcases hscr9 with ⟨z, _⟩ | z
            · right
              obtain ⟨o, ho⟩ : ∃ o, H9 sa0 = some o := z.elim (fun y => ⟨_, y⟩) fun ⟨o, y⟩ => ⟨_, y⟩
              exact ne_of_none ho nlx
            · exact .inl z
          clear hla9 hlp9 hscr9 wat9 eone hy
          refine Cn.go ?_
          walk_at "s"
          refine ⟨by omega, ?_⟩
          refine Cn.go ?_
          walk_at "s"
          intro ls nls
          have sm11 : Same H10 (upd H10 ls (.lst [V.int (one : Int)])) := same_new nls
          have hls11 : (upd H10 ls (.lst [V.int (one : Int)])) ls = some (.lst (vNat [one])) := upd_same
          have nls5 : ls ≠ l5 := by
            obtain ⟨_, q, _⟩ := wat10.mail
            exact (ne_of_none q nls).symm
          have nls6 : ls ≠ l6 := by
            obtain ⟨_, q, _⟩ := wat10.ans
            exact (ne_of_none q nls).symm
          have nlsx : ls ≠ lx := (ne_of_none hlx' nls).symm
          have hla11 := sm11 _ _ hla10
          have hlp11 := sm11 _ _ hlp10
          have hlx11 := sm11 _ _ hlx
          have hlx11' := sm11 _ _ hlx'
          have hscr11 := hscr10.same sm11
          have wat11 := wat10.same sm11
          generalize upd H10 ls (.lst [V.int (one : Int)]) = H11 at sm11 hls11 hla11 hlp11 hlx11 hlx11' hscr11 wat11
          clear hla10 hlp10 hscr10 wat10 hlx hlx' nls nlx sm10 sm11 sm9
          refine Cn.go ?_
          walk_at "s"
          refine sUp.mk (fun σ' H' => ∃ (s1 : S0) (sm : List Nat) (ls : Addr) (xs : List Int) (y12 : Option V), σ' = [some (.ref sa0), some (.ref la), some (.int (W : Int)), some (.ref d), y4, some (.ref l5), some (.ref l6), some (.ref st), some (.int z), some (.ref lx), some (.int (one : Int)), some (.ref ls), y12, y13, y14] ∧
            (∀ g ∈ sm, g ∈ hs) ∧ sm.length ≤ 10 ∧ Ok hs W s1 ∧ SOk hs W s1 S ∧ WAt P w (He.ga K "Change") Pt hs s1 S (12 * i + 1) d l5 l6 st sd a b pa ra m H' ∧ H' ls = some (.lst (vNat sm)) ∧ ls ≠ l5 ∧ ls ≠ l6 ∧ H' lx = some (.lst (xs.map V.int)) ∧ xs.length = 8 ∧ H' la = some (.lst (vNat cur)) ∧ H' lp = some (.lst (cells.map V.int)) ∧ ScrAt K H' sa0 l5 l6 (ns.map V.int)) ?_ ?_
          · by_cases h6 : 6 < x1 % 10
            · have hd11 := wat11.hd
              have get := dget_I (k := (one : Int)) hd11
              rw [wat11.mv one honeh] at get
              obtain ⟨⟨dx, bv, yv, av, hp11, _⟩, _⟩ := id (wat11.ch one honeh)
              obtain ⟨mvs, hM1, hM2⟩ := id wat11.mail
              obtain ⟨n1, n2, n3, n4, n5⟩ := wat11.ln
              have hml6 : mvs.length < 100000 := by
                have : i < cells.length := by rw [List.length_map] at hi; exact hi
                rw [hM2.length, List.length_map]
                omega
              clear hlx11'
              walk_at "s"
              refine ⟨.inl ⟨rfl, _, SqL.of hM1⟩, _, get, ?_⟩
              walk_at "s"
              refine ⟨pa one, ra one, s0.ch one, .int x4', .int x4', rfl, wat11.ch one honeh, rfl, fun v H12 sm12 hv12 t nt => ?_⟩
              have hM12 := sm12 _ _ hM1
              have nmt := ne_of_none hM12 nt
              refine ⟨mvs, by rw [upd_ne nmt]; exact hM12, by omega, ?_⟩
              have smt : Same H12 (upd H12 t (.tup [.int (one : Int), v])) := same_new nt
              have sm2 := sm12.trans smt
              have tp2 : Tups H11 (upd (upd H12 t (.tup [.int (one : Int), v])) l5 (.lst (mvs ++ [.ref t]))) := (Tups.of_same sm2).put (not_tup_of hM1 fun xs z => by cases z)
              have fr2 : Fr [l5] H11 (upd (upd H12 t (.tup [.int (one : Int), v])) l5 (.lst (mvs ++ [.ref t]))) := (Fr.of_same sm2).put (.inl (by simp))
              have tp1 : Tups H12 (upd (upd H12 t (.tup [.int (one : Int), v])) l5 (.lst (mvs ++ [.ref t]))) := (Tups.of_same smt).put (not_tup_of hM12 fun xs z => by cases z)
              have hm13 : MailAt (upd (upd H12 t (.tup [.int (one : Int), v])) l5 (.lst (mvs ++ [.ref t]))) l5 (s0.mail ++ [(one, (s0.ch one).message (.int x4'))]) := ⟨_, upd_same, by
                rw [List.map_append]
                exact (hM2.at tp2).snoc ⟨t, _, rfl, by rw [upd_ne nmt.symm, upd_same], .int (one : Int), _, rfl, rfl, v, [], rfl, hv12.at tp1, rfl⟩⟩
              have ok13 := ok_tell ok honeh x4'
              rw [nxt_same_mail ok honeh] at ok13
              have so13 : SOk hs W ⟨s0.ch, s0.mail ++ [(one, (s0.ch one).message (.int x4'))], s0.A, s0.P, s0.k⟩ S := ⟨so.no, so.is, so.al⟩
              have wat13 : WAt P w (He.ga K "Change") Pt hs ⟨s0.ch, s0.mail ++ [(one, (s0.ch one).message (.int x4'))], s0.A, s0.P, s0.k⟩ S (12 * i + 1) d l5 l6 st sd a b pa ra m (upd (upd H12 t (.tup [.int (one : Int), v])) l5 (.lst (mvs ++ [.ref t]))) := wat11.tell ok honeh fr2 tp2 hm13
              have hla13 := fr2 la _ hla11 (by simp [nl5])
              have hlp13 := fr2 lp _ hlp11 (by simp [nlp5])
              have hlx13 := fr2 lx _ hlx11 (by simp [nx5])
              have hscr13 : ScrAt K (upd (upd H12 t (.tup [.int (one : Int), v])) l5 (.lst (mvs ++ [.ref t]))) sa0 l5 l6 (ns.map V.int) := hscr11.out (hs := hs) (sd := sd) (a := a) (b := b) ⟨fun q o e _ _ _ _ _ n1 _ => fr2 q o e (by simp [n1])⟩
              generalize (upd (upd H12 t (.tup [.int (one : Int), v])) l5 (.lst (mvs ++ [.ref t]))) = H13 at wat13 hla13 hlp13 hlx13 hscr13
              clear hM1 hM2 hM12 fr2 tp2 tp1 hm13 smt sm2 sm12 hv12 nt nmt hp11 get hd11 hla11 hlp11 hlx11 hscr11 wat11 hls11
              refine Cn.go ?_
              walk_at "s"
              refine ⟨by omega, ?_⟩
              refine Cn.go ?_
              walk_at "s"
              obtain ⟨r1, er1, hr1, hrl1⟩ := cut_nat cur (some (x6 % (cur.length : Int))) none
              obtain ⟨r2, er2, hr2, hrl2⟩ := cut_nat cur none (some (x6 % (cur.length : Int)))
              intro p1 np1
              have nlap := ne_of_none hla13 np1
              refine ⟨vNat cur, by rw [upd_ne nlap]; exact hla13, fun p2 hp2 => ?_⟩
              have np2 : upd H13 p1 (.lst (cutV (vNat cur) (some (x6 % (cur.length : Int))) none)) p2 = none := Gr.upd_none.mpr hp2
              have s1 : Same H13 (upd H13 p1 (.lst (cutV (vNat cur) (some (x6 % (cur.length : Int))) none))) := same_new np1
              have s2 : Same (upd H13 p1 (.lst (cutV (vNat cur) (some (x6 % (cur.length : Int))) none))) (upd (upd H13 p1 (.lst (cutV (vNat cur) (some (x6 % (cur.length : Int))) none))) p2 (.lst (cutV (vNat cur) none (some (x6 % (cur.length : Int)))))) := same_new np2
              refine ⟨p1, p2, vNat r1, vNat r2, rfl, rfl, by rw [← er1]; exact s2 _ _ upd_same, by rw [← er2]; exact upd_same, sz_le (by unfold vNat; rw [List.length_map, List.length_map]; omega), fun p3 np3 => ?_⟩
              have s3 := same_new (o := .lst (vNat r1 ++ vNat r2)) np3
              have s13 := (s1.trans s2).trans s3
              have wat14 := wat13.same s13
              have hla14 := s13 _ _ hla13
              have hlp14 := s13 _ _ hlp13
              have hlx14 := s13 _ _ hlx13
              have hscr14 := hscr13.same s13
              have hp33 : (upd (upd (upd H13 p1 (.lst (cutV (vNat cur) (some (x6 % (cur.length : Int))) none))) p2 (.lst (cutV (vNat cur) none (some (x6 % (cur.length : Int)))))) p3 (.lst (vNat r1 ++ vNat r2))) p3 = some (.lst (vNat (r1 ++ r2))) := by
                rw [upd_same]
                unfold vNat
                rw [List.map_append]
              have n3x : p3 ≠ lx := (ne_of_none ((s1.trans s2) _ _ hlx13) np3).symm
              have n35 : p3 ≠ l5 := by
                obtain ⟨_, q, _⟩ := (wat13.same (s1.trans s2)).mail
                exact (ne_of_none q np3).symm
              have n36 : p3 ≠ l6 := by
                obtain ⟨_, q, _⟩ := (wat13.same (s1.trans s2)).ans
                exact (ne_of_none q np3).symm
              generalize (upd (upd (upd H13 p1 (.lst (cutV (vNat cur) (some (x6 % (cur.length : Int))) none))) p2 (.lst (cutV (vNat cur) none (some (x6 % (cur.length : Int)))))) p3 (.lst (vNat r1 ++ vNat r2))) = H14 at wat14 hla14 hlp14 hlx14 hscr14 hp33
              clear s1 s2 s3 s13 np1 np2 np3 hp2 wat13 hla13 hlp13 hlx13 hscr13 er1 er2
              refine Cn.go ?_
              walk_at "s"
              refine ⟨lx, _, 2, 2, rfl, rfl, hlx14, rfl, ?_⟩
              have nlxa : la ≠ lx := nxa.symm
              refine ⟨_, r1 ++ r2, fun g hg => hcs g ((List.mem_append.mp hg).elim (hr1 g) (hr2 g)), by rw [List.length_append]; omega, ok13, so13, wat14.lst hlx14 nx5 nx6, by rw [upd_ne n3x]; exact hp33, [x0, x1, 0, x3, x4', x5, x6, x7], by rw [upd_same]; rfl, rfl, by rw [upd_ne nlxa]; exact hla14, by rw [upd_ne nxp.symm]; exact hlp14, ?_⟩
              rcases hsx with z | z
              · exact .inr z
              · exact hscr14.imp (fun y => ⟨y.1.imp (fun w => by rw [upd_ne z]; exact w) fun ⟨o, w⟩ => ⟨o, by rw [upd_ne z]; exact w⟩, y.2⟩) id
            · have fin : Hd (WAt P w (He.ga K "Change") Pt hs s0 S (12 * i + 1) d l5 l6 st sd a b pa ra m H11) := ⟨wat11.more (Nat.le_succ _)⟩
              clear hlx11'
              walk_at "s"
              exact ⟨s0, [one], fun g hg => by rw [List.mem_singleton.mp hg]; exact honeh, by simp, ok, so, fin.out, rfl, [x0, x1, x2, x3, x4', x5, x6, x7], rfl, rfl⟩
          · rintro σ' H12 ⟨s1, sm, ls2, xs, y12, rfl, hsm, hsml, ok1, so1, wat12, hls12, nls25, nls26, hlx12, hxs12, hla12, hlp12, hscr12⟩
            clear wat11 hscr11 hlx11 hlx11' hlp11 hla11 hls11 ok so
            refine Cn.go ?_
            walk_at "s"
            refine ⟨sa0, ns, 0, rfl, hscr12.sq, ?_⟩
            refine ⟨_, rfl, ⟨by decide, by decide⟩, ?_⟩
            generalize decide (ns.getD 0 0 / 12 % 5 < 2) = fl
            obtain ⟨z0, z1, z2, z3, z4, z5, z6, z7, rfl⟩ : ∃ z0 z1 z2 z3 z4 z5 z6 z7, xs = [z0, z1, z2, z3, z4, z5, z6, z7] := by
              match xs, hxs12 with
              | [x0, x1, x2, x3, x4, x5, x6, x7], _ => exact ⟨x0, x1, x2, x3, x4, x5, x6, x7, rfl⟩
            have hlx12' := hlx12
            simp only [List.map_cons, List.map_nil] at hlx12'
            refine Cn.go ?_
            walk_at "s"
            refine sUp.mk (fun σ' H' => ∃ (cur' : List Nat) (la' : Addr), σ' = [some (.ref sa0), some (.ref la'), some (.int (W : Int)), some (.ref d), y4, some (.ref l5), some (.ref l6), some (.ref st), some (.int z), some (.ref lx), some (.int (one : Int)), some (.ref ls2), y12, some (.bl fl), y14] ∧
              (∀ g ∈ cur', g ∈ hs) ∧ cur' ≠ [] ∧ cur'.Nodup ∧ cur'.length ≤ 5 ∧ H' la' = some (.lst (vNat cur')) ∧ la' ≠ l5 ∧ la' ≠ l6 ∧ Same H12 H') ?_ ?_
            · have stay : Hd (∃ cur' la', la = la' ∧ (∀ g ∈ cur', g ∈ hs) ∧ cur' ≠ [] ∧ cur'.Nodup ∧ cur'.length ≤ 5 ∧ H12 la' = some (.lst (vNat cur')) ∧ la' ≠ l5 ∧ la' ≠ l6 ∧ Same H12 H12) := ⟨cur, la, rfl, hcs, hcne, hcn, hc5, hla12, nl5, nl6, Same.refl _⟩
              cases fl with
              | false =>
                walk_at "s"
                exact ⟨cur, hcs, hcne, hcn, hc5, rfl, Same.refl _⟩
              | true =>
                by_cases h47 : z7 % 40 = 7
                · walk_at "s"
                  refine ite2 (fun hl2 => ?_) (fun _ => ⟨cur, hcs, hcne, hcn, hc5, rfl, Same.refl _⟩)
                  refine lcD (wk_listS (K := K) (SqL.of hla12)) (by omega) (fun i => decide (cur.getD i 0 ≠ one)) (fun i => .int ((cur.getD i 0 : Nat) : Int)) (fun i' y' H13 sm13 hi' hy' A B hA hB => ?_) (fun l13 H13 nl13 sm13 hL13 => ?_)
                  · obtain ⟨g, eg, rfl⟩ : ∃ g : Nat, cur[i']? = some g ∧ .int (g : Int) = y' := by simpa [vNat] using hy'
                    have eg2 : cur.getD i' 0 = g := by rw [List.getD_eq_getElem?_getD, eg]; rfl
                    rw [eg2] at hA hB
                    by_cases hgo : g = one
                    · have hB := hB (decide_eq_false (fun z => z hgo)) H13 (Same.refl _)
                      clear hA
                      subst hgo
                      walk_at "s"
                    · have hA := hA (decide_eq_true hgo) (.int (g : Int)) H13 (Same.refl _) rfl
                      have hgo' : ¬ ((g : Int) = (one : Int)) := by omega
                      clear hB
                      walk_at "s"
                  · obtain ⟨vs, e1, e2⟩ := hL13
                    have egl := gives_list (l := cur) (p := fun g => decide (g ≠ one)) (e := fun g => D.int ((g : Nat) : Int))
                    rw [hcll, egl] at e2
                    rw [show ((cur.filter fun g => decide (g ≠ one)).map fun g => D.int ((g : Nat) : Int)) = ((cur.filter fun g => decide (g ≠ one)).map fun (g : Nat) => (g : Int)).map D.int by rw [List.map_map]; rfl, RpL.ints, List.map_map] at e2
                    refine ⟨cur.filter fun g => decide (g ≠ one), l13, rfl, fun g hg => hcs g (List.mem_filter.mp hg).1, two_left hcn (by omega), hcn.filter _, Nat.le_trans (List.length_filter_le _ _) hc5, by rw [e1, e2]; rfl, ?_, ?_, sm13⟩
                    · obtain ⟨_, q, _⟩ := wat12.mail
                      exact (ne_of_none q nl13).symm
                    · obtain ⟨_, q, _⟩ := wat12.ans
                      exact (ne_of_none q nl13).symm
                · walk_at "s"
                  refine ite2 (fun _ => ⟨cur, hcs, hcne, hcn, hc5, rfl, Same.refl _⟩) (fun _ => ⟨cur, hcs, hcne, hcn, hc5, rfl, Same.refl _⟩)
            · rintro σ' H13 ⟨cur', la', rfl, hcs', hcne', hcn', hc5', hla13, nla5', nla6', sm13⟩
              have wat13 := wat12.same sm13
              have hls13 := sm13 _ _ hls12
              have hlx13 := sm13 _ _ hlx12
              have hlp13 := sm13 _ _ hlp12
              have hscr13 := hscr12.same sm13
              clear wat12 hls12 hlx12 hlx12' hlp12 hscr12 hla12 sm13
              refine Cn.go ?_
              walk_at "s"
              have wk3 := wko_list (K := K) (a := ls2) (xs := vNat sm)
              have hsmv : (vNat sm).length = sm.length := List.length_map ..
              refine forO wk3 (fun j σ H' => ∃ (s2 : S0) (S2 : List (Int × (D × Bal))) (ra2 : Nat → Addr) (w4 w14 : Option V), σ = [some (.ref sa0), some (.ref la'), some (.int (W : Int)), some (.ref d), w4, some (.ref l5), some (.ref l6), some (.ref st), some (.int z), some (.ref lx), some (.int (one : Int)), some (.ref ls2), y12, some (.bl fl), w14] ∧
                Ok hs W s2 ∧ SOk hs W s2 S2 ∧ WAt P w (He.ga K "Change") Pt hs s2 S2 (12 * i + 1 + j) d l5 l6 st sd a b pa ra2 m H' ∧ H' ls2 = some (.lst (vNat sm)) ∧ H' lx = some (.lst (([z0, z1, z2, z3, z4, z5, z6, z7] : List Int).map V.int)) ∧ H' la' = some (.lst (vNat cur')) ∧ H' lp = some (.lst (cells.map V.int)) ∧ ScrAt K H' sa0 l5 l6 (ns.map V.int)) ?_ ?_ ?_ ?_
              · exact ⟨s1, S, ra, y4, y14, rfl, ok1, so1, wat13, hls13, hlx13, hla13, hlp13, hscr13⟩
              · rintro j σ H' ⟨_, _, _, _, _, _, _, _, _, e, _⟩
                exact e
              · clear wat13 hls13 hlx13 hla13 hlp13 hscr13 ok1 so1
                rintro j y σ H14 H15 hj ⟨s2, S2, ra2, w4, w14, rfl, ok2, so2, wat14, hls14, hlx14, hla14, hlp14, hscr14⟩ sm15 hy
                obtain ⟨h, eh, rfl⟩ : ∃ h : Nat, sm[j]? = some h ∧ .int (h : Int) = y := by simpa [vNat] using hy
                have hh := hsm h (List.mem_of_getElem? eh)
                have wat15 := wat14.same sm15
                have hls15 := sm15 _ _ hls14
                have hlx15 := sm15 _ _ hlx14
                have hla15 := sm15 _ _ hla14
                have hlp15 := sm15 _ _ hlp14
                have hscr15 := hscr14.same sm15
                clear wat14 hls14 hlx14 hla14 hlp14 hscr14 sm15 hy
                rw [hsmv] at hj
                have hd15 := wat15.hd
                have get := dget_I (k := (h : Int)) hd15
                rw [wat15.mv h hh] at get
                obtain ⟨⟨dx, bv, yv, av, hp15, hb15, _⟩, _⟩ := id (wat15.ch h hh)
                have N1 : 12 * i + 1 + j ≤ 1000 := by
                  have : i < 63 := by
                    have : i < cells.length := by rw [List.length_map] at hi; exact hi
                    omega
                  omega
                clear hd15
                walk_at "s"
                refine ⟨_, get, ?_⟩
                walk_at "s"
                refine Cn.go ?_
                walk_at "s"
                have rl := rlen_small ok2 h5 hh
                obtain ⟨n1, n2, n3, n4, n5⟩ := wat15.ln
                have mlen : m.length = hs.length := by
                  have := congrArg List.length wat15.keys
                  rw [List.length_map, List.length_map] at this
                  exact this
                have mkeys : ∀ q ∈ m, 0 ≤ q.1 ∧ q.1 < 63 := fun q hq => by
                  have : q.1 ∈ m.map (·.1) := List.mem_map.mpr ⟨q, hq, rfl⟩
                  rw [wat15.keys] at this
                  obtain ⟨g, g1, g2⟩ := List.mem_map.mp this
                  have := h63.out g g1
                  rw [← g2]
                  omega
                have mok : D.okL (s2.mail.map encMail) = true := by
                  unfold D.okL
                  rw [wat15.mo.1, decide_eq_true (by have := wat15.mo.2; omega)]
                  rfl
                refine ⟨d, l5, l6, lx, pa h, ra2 h, h, m, s2.ch h, s2.mail, s2.k, [z0, z1, z2, z3, z4, z5, z6, z7], rfl, wat15.hd, wat15.mv h hh, by omega, mkeys, wat15.ch h hh, by omega, wat15.mail, by omega, mok, wat15.my, wat15.ans, by omega, hlx15, rfl, wat15.tab, wat15.man, (wat15.nr h hh).1.symm, nx5, nx6, fun c' mail' k' r' H16 dd hr f1 t1 c1 m1 l1 => ?_⟩
                obtain ⟨tp16, hd16, hst16, ha16, hb16, hs16, nrd, nrs⟩ := wat15.mid hh hr f1
                obtain ⟨ok', hbal, hagr, hk', hml'⟩ := deed_ok ok2 hh dd
                have hnot := noted_ok h63.out ok' hh
                obtain ⟨so', c1n, c1s⟩ := SOk.step ok2 so2 hh dd
                obtain ⟨_, ja, _⟩ := id ha16
                obtain ⟨_, jb, _⟩ := id hb16
                obtain ⟨_, js, _⟩ := id hs16
                obtain ⟨_, ⟨_, jr, _⟩, _⟩ := id c1
                have pok : ∀ p ∈ s2.P, p.2.ok = true := fun p hp => by
                  obtain ⟨i, _, e⟩ := ok2.val p hp
                  rw [e]
                  exact planD_okD i
                have yok : ∀ y, c'.yes = some y → y.2.ok = true := fun y hy => by
                  obtain ⟨i, _, e⟩ := ok'.plan hh (y := y) (by rw [nxt_same]; exact hy)
                  rw [e]
                  exact planD_okD i
                have bal' : ∀ b0, (s2.ch h).ballot = some b0 → ∃ b', c'.ballot = some b' ∧ ltB b' b0 = false := fun b0 hb0 => by
                  obtain ⟨b', e1, e2⟩ := hbal b0 hb0
                  exact ⟨b', e1, ltB_not.mpr e2⟩
                have ag' : ∀ d0, c'.agreed = some d0 → d0.ok = true ∧ (∃ y, c'.yes = some y) ∧ ∀ x, getA S2 (h : Int) = some x → x.1 = d0 := fun d0 hd0 => by
                  have kk := ok'.ch h hh
                  rw [nxt_same] at kk
                  obtain ⟨y0, b0, _, _, ch0⟩ := kk.ag d0 hd0
                  obtain ⟨i, _, e⟩ := ok'.val _ (mem_of_get ch0.1)
                  have e : d0 = planD i := e
                  exact ⟨by rw [e]; exact planD_okD i, c1s d0 hd0⟩
                show Cn _ _ _ H16
                refine Cn.go ?_
                have hbv16 := hb15.at tp16
                clear hp15
                walk_at "s"
                refine ⟨d, pa h, r', st, sd, a, b, c', h, m, s2.A, s2.P, S2, (s2.ch h).ballot, bv, rfl, hd16, wat15.mv h hh, hst16, c1, ha16, hb16, hs16, ne_kind hd16 jb (by simp [kind, dI, dN]), ne_kind hd16 ja (by simp [kind, dI, ddO]), nrs.symm, wat15.ds, by omega, by omega, by omega, h63.out h hh, ne_kind jr ja (by simp [kind, dI, ddO]), ne_kind jr jb (by simp [kind, dI, dN]), ne_kind js ja (by simp [kind, dI, ddO]), ne_kind js jb (by simp [kind, dI, dN]), pok, yok, hnot, hbv16, bal', c1n, ag', fun H17 f2 sa17 sb17 ss17 => ?_⟩
                have wat17 := WAt.step ok2 wat15 hh dd hr f1 t1 c1 m1 l1 f2 sa17 sb17 ss17
                have outx := WAt.out (W := W) wat15 hh f1 ⟨⟨_, ja, rfl⟩, ⟨_, jb, rfl⟩, _, js, rfl⟩ f2
                refine ⟨true, rfl, ?_⟩
                rw [if_neg (by simp)]
                exact ⟨_, ok', _, so', ⟨_, wat17⟩, outx.lst hls15 nls25 nls26, outx.lst hlx15 nx5 nx6, outx.lst hla15 nla5' nla6', outx.lst hlp15 nlp5 nlp6, hscr15.out outx⟩
              · rintro σ H14 ⟨s2, S2, ra2, w4, w14, rfl, ok2, so2, wat14, hls14, hlx14, hla14, hlp14, hscr14⟩
                rw [hsmv] at wat14
                refine ⟨cur', s2, S2, ra2, la', ⟨w4, _, _, _, _, _, _, _, rfl⟩, hcs', hcne', hcn', hc5', hla14, nla5', nla6', hlp14, hscr14, ok2, so2, wat14.more (by omega)⟩
        · clear wat hscr hl7 smp
          rintro σ H8 ⟨cur, s0, S, ra, la, y4, y8, y9, y10, y11, y12, y13, y14, rfl, hcs, hcne, hcn, hc5, hla, nl5, nl6, hlp, hscr, ok, so, wat⟩
          have agr := agreed_of hW.out ok so
          have pok : ∀ p ∈ s0.P, p.2.ok = true := fun p hp => by
            obtain ⟨i, _, e⟩ := ok.val p hp
            rw [e]
            exact planD_okD i
          obtain ⟨n1, n2, n3, n4, n5⟩ := wat.ln
          have hcl6 : 12 * (cells.map V.int).length ≤ 800 := by rw [List.length_map]; omega
          obtain ⟨ms, e1, e2⟩ := wat.ss
          obtain ⟨mp, e3, e4⟩ := wat.sb
          obtain ⟨avs, e5, e6⟩ := wat.ans
          have e7 := wat.stt
          have nbs : b ≠ sd := ne_kind e3 e1 (by simp [kind, dI, dN])
          have nls : l6 ≠ sd := ne_kind e5 e1 (by simp [kind, dI])
          have nlb : l6 ≠ b := ne_kind e5 e3 (by simp [kind, dN])
          have nss : st ≠ sd := ne_kind e7 e1 (by simp [kind, dI])
          have nsb : st ≠ b := ne_kind e7 e3 (by simp [kind, dN])
          refine Cn.go ?_
          refine ⟨sd, dI ms, e1, trivial, fun o1 => ⟨b, dN mp, by rw [upd_ne nbs]; exact e3, trivial, fun o2 => ?_⟩⟩
          have tp9 : Tups H8 (upd (upd H8 sd (.frz o1 (dI ms))) b (.frz o2 (dN mp))) := ((Tups.refl H8).put (not_tup_of e1 fun xs z => by unfold dI at z; cases z)).put (not_tup_of e3 fun xs z => by unfold dN at z; cases z)
          have f1 : (upd (upd H8 sd (.frz o1 (dI ms))) b (.frz o2 (dN mp))) sd = some (.frz o1 (dI ms)) := by rw [upd_ne nbs.symm, upd_same]
          have f2 : (upd (upd H8 sd (.frz o1 (dI ms))) b (.frz o2 (dN mp))) b = some (.frz o2 (dN mp)) := upd_same
          have f3 := tp9 _ _ e7
          have f4 : (upd (upd H8 sd (.frz o1 (dI ms))) b (.frz o2 (dN mp))) l6 = some (.lst avs) := by rw [upd_ne nlb, upd_ne nls]; exact e5
          have f5 := e2.at tp9
          have f6 := e4.at tp9
          have f7 := e6.at tp9
          generalize (upd (upd H8 sd (.frz o1 (dI ms))) b (.frz o2 (dN mp))) = H9 at f1 f2 f3 f4 f5 f6 f7
          clear tp9 wat e1 e3 e5 e7
          walk_at "s"
          refine ⟨sd, l6, b, o1, o2, ms, mp, S, s0.k, s0.P, rfl, f1, f5, ⟨avs, f4, f7⟩, f2, f6, by omega, by omega, agr, pok, fun H10 sm10 => ⟨sm10 _ _ f2, ?_, ?_⟩⟩
          · rw [upd_ne nbs.symm]
            exact sm10 _ _ f1
          · exact q.out _
end
end K64

namespace K64
open PySem PySem.Spec PyProof.Rows L2 Gr NdefX
abbrev R : PySem.W.OpenRow := PySem.W.OpenLaw.row PySem.Challenge.rw_groupcall_k64_whole_one_plan
def ts : List (Str × Option Str) := [("_law_propose", none)]
abbrev hk : PySem.W.Hook := hookT 5 faL fnL ts
def ob (s : PySem.W.SharedT) : AlT := obsTG 5 faL fnL ts (HandSHeadRun.getT s)
theorem ob_eq (s : PySem.W.SharedT) : ob s = hk.obs s.abs := obsTG_eq (HandSHeadRun.getT_eq s)
theorem run (w : World) : HandSHeadRun.RunEq R (PySem.W.view R.prog [19]) hk ob 6000 ((["has", "hands_of", "many", "more_than_half", "under", "ballot_of", "Change", "_law_cell_at", "_law_stream", "_law_hands", "_law_propose", "_law_noted", "_law_kept", "_law_agreed", "_law_deed", "_law_right"] : List Str)) w := by
  intro os
  kernel_rfl
end K64
namespace K64
open PySem PySem.Spec PyProof.Rows L2 Gr NdefX
abbrev lawLevel : Nat := 7
theorem law_at {w : World} {h : Heap} {mg : Str → Option Value} {fa : Addr} (Y : hk.says w h) (G : h.Ns mainGlobals mg) (hmg : mg ("law" : Str) = some (.ref fa)) :
    ∃ K : PySem.W.Frag, K.In h ∧ LamX.LawAtS PySem.Challenge.rw_groupcall_k64_whole_one_plan w K L2.CX0 lawLevel 63 "_law_script" mg fa h := by
  obtain ⟨K, KX, c, cs, t⟩ := Y
  obtain ⟨T⟩ := env_of KX G c
  have e := hmg.symm.trans T.g_law
  cases e
  obtain ⟨q, rfl⟩ : ∃ q, cs = [q] := by
    match cs, t.len with
    | [q], _ => exact ⟨q, rfl⟩
  have hm : q ∈ [q] := List.mem_singleton.mpr rfl
  have hc : T.fd_l_propose.code = .ref q.1 := fnCode_ok (p := ("_law_propose", none)) T.F_l_propose (t.fn 0 _ q rfl rfl)
  have b := FunD.bindsA (ps := ["_law_script"]) T.F_law fun _ _ _ _ _ _ us hl => match us, hl with | [_], _ => rfl
  exact ⟨K, KX, T.fd_law, [q], sp_law K q.2, t.tab, t.out, fun p hp => PySem.W.codeHd_of_K KX (t.cod p hp), fun s v => b s [v] rfl, fun H a ns hl _ hT hS => ⟨a, ns, rfl, hl, hS, hT q hm, fun _ => rfl⟩, fun base _ _ hTB => ok_law T (hTB q hm) hc⟩
end K64

open PySem PySem.W PySem.Calls PyProof.Rows
theorem PySem.Challenge.cw_groupcall_k64_whole_one_plan_holds : PySem.Challenge.rw_groupcall_k64_whole_one_plan.Holds := by
  w_on; o_law
  refine HandSHeadRun.head_any (r := OpenLaw.row PySem.Challenge.rw_groupcall_k64_whole_one_plan) (q := view (OpenLaw.row PySem.Challenge.rw_groupcall_k64_whole_one_plan).prog [19]) (H := K64.hk) (ob := K64.ob) (M := 6000) (loose := (["has", "hands_of", "many", "more_than_half", "under", "ballot_of", "Change", "_law_cell_at", "_law_stream", "_law_hands", "_law_propose", "_law_noted", "_law_kept", "_law_agreed", "_law_deed", "_law_right"] : List Str)) (d := HandSHeadRun.topDef (OpenLaw.row PySem.Challenge.rw_groupcall_k64_whole_one_plan).prog 19) (kwd := []) K64.ob_eq
    (by kernel_rfl) (fun s => by kernel_rfl) K64.run (by kernel_rfl) (by kernel_rfl) (by kernel_rfl) (by rfl) (by first | assumption | decide +kernel) (by decide +kernel) ⟨rfl, rfl, rfl, rfl, rfl, by decide +kernel⟩ ?hw ?hc
  case hw => w_witness2
  case hc =>
    refine LamX.walk_ofTsE (l := PySem.Challenge.rw_groupcall_k64_whole_one_plan) (n := 63) (k := K64.lawLevel) (x := "_law_script") (CX := fun _ => L2.CX0) rfl (by decide) (by kernel_rfl) ⟨rfl, by decide, by decide⟩ ?F (fun _ _ _ _ _ z => z)
    intro w mg fa h Y G hmg0
    have hmg : mg ("law" : PySem.Str) = some (.ref fa) := by
      have e : (HandSHeadRun.topDef (OpenLaw.row PySem.Challenge.rw_groupcall_k64_whole_one_plan).prog 19).name = ("law" : PySem.Str) := by kernel_rfl
      rw [← e]
      exact hmg0
    exact K64.law_at Y G hmg
