import PyProof.Rows.All
import Wide.All
import OpenK.AllK
import Wide.FinOn
import HandS.ForMost
import HandS.Flow
import HandS.Wide
import HandS.TupAny
import HandS.TupLe
import HandS.IsInst
import HandS.StrMore
import HandS.Words
import HandS.TryOnly
import HandS.Style
import HandS.Zip
import HandS.Text
import HandS.DictComp
import HandS.More
import HandS.TupMul
import HandS.Deep
import KE.DataCmp
import KE.SortData
import KE.DataEq
import KE.DataIsa
import KE.DataMinMax
import KE.DataFind
import KE.GoesMore
import PySem.Challenge.RW_boardsheld_k40_whole_table_refusals
set_option Elab.async false
set_option linter.all false
set_option maxRecDepth 100000
set_option autoImplicit false
/-! MPa: values, the abstract heap, the relation to HandS's heap; readings tE, tT, tA, tS. -/
namespace MP
open PySem PySem.Spec PyProof.Rows L2

abbrev D := PyData
/-- a value: data (never changes), or a place of the small heap -/
inductive Val where
  | d (x : D) | loc (n : Nat)
  /-- the script -/
  | scr (ns : List Int)
/-- what stands at a place -/
inductive Ob where
  | lst (vs : List Val) | dct (kvs : List (D × Val)) | frz (x : D)
abbrev Hh := List Ob
abbrev Ev := List (Option Val)

/-- the addresses: F not ours, r ours by place (true: may be changed) -/
structure Sg where
  F : Addr → Prop
  r : List (Addr × Bool)
def Sg.live (S : Sg) (a : Addr) : Prop := S.F a ∨ (a, true) ∈ S.r

def LkL (_ : PySem.W.Frag) (H : Hp) (S : Sg) (a : Addr) (xs : List V) : Prop := H a = some (.lst xs) ∧ ¬ S.live a
def LkT (K : PySem.W.Frag) (H : Hp) (S : Sg) (a : Addr) (xs : List V) : Prop :=
  (H a = some (.tup xs) ∧ ¬ S.live a) ∨
    ∃ (o : Obj) (its : Array Value) (n : Nat), K.lookup a = some o ∧ o.cls = .type "tuple" ∧ o.data = .seq its n ∧ its.size ≤ sizeLine ∧ Vals xs its.toList
theorem LkL.sq {K : PySem.W.Frag} {H : Hp} {S : Sg} {a : Addr} {xs : List V} (h : LkL K H S a xs) : SqL K H a xs := .inl (.inl h.1)
theorem LkT.sq {K : PySem.W.Frag} {H : Hp} {S : Sg} {a : Addr} {xs : List V} (h : LkT K H S a xs) : SqT K H a xs := h.imp (fun q => .inl q.1) id

mutual
inductive Df (K : PySem.W.Frag) (H : Hp) (S : Sg) : V → D → Prop
  | non : Df K H S .non .none
  | bl (b : Bool) : Df K H S (.bl b) (.bool b)
  | int (i : Int) : Df K H S (.int i) (.int i)
  | str (x : Str) : Df K H S (.str x) (.str x)
  | lst {a : Addr} {xs : List V} {ds : List D} : LkL K H S a xs → DfA K H S xs ds → Df K H S (.ref a) (.list ds)
  | tup {a : Addr} {xs : List V} {ds : List D} : LkT K H S a xs → DfA K H S xs ds → Df K H S (.ref a) (.tuple ds)
inductive DfA (K : PySem.W.Frag) (H : Hp) (S : Sg) : List V → List D → Prop
  | nil : DfA K H S [] []
  | cons {v : V} {vs : List V} {x : D} {xs : List D} : Df K H S v x → DfA K H S vs xs → DfA K H S (v :: vs) (x :: xs)
end

mutual
theorem Df.mono {K : PySem.W.Frag} {H H' : Hp} {S S' : Sg} (k : ∀ a o, H a = some o → ¬ S.live a → H' a = some o ∧ ¬ S'.live a) : ∀ {x : D} {v : V}, Df K H S v x → Df K H' S' v x
  | .none, _, h => by cases h; exact .non
  | .bool _, _, h => by cases h; exact .bl _
  | .int _, _, h => by cases h; exact .int _
  | .str _, _, h => by cases h; exact .str _
  | .list ds, _, h => by
    cases h with
    | lst l t =>
      refine .lst ?_ (DfA.mono k t)
      exact ⟨(k _ _ l.1 l.2).1, (k _ _ l.1 l.2).2⟩
  | .tuple ds, _, h => by
    cases h with
    | tup l t =>
      refine .tup ?_ (DfA.mono k t)
      rcases l with ⟨l, n⟩ | l
      · exact .inl ⟨(k _ _ l n).1, (k _ _ l n).2⟩
      · exact .inr l
  | .dict _, _, h => by cases h
theorem DfA.mono {K : PySem.W.Frag} {H H' : Hp} {S S' : Sg} (k : ∀ a o, H a = some o → ¬ S.live a → H' a = some o ∧ ¬ S'.live a) : ∀ {xs : List D} {vs : List V}, DfA K H S vs xs → DfA K H' S' vs xs
  | [], _, h => by cases h; exact .nil
  | x :: xs, _, h => by
    cases h with
    | cons a b => exact .cons (Df.mono k a) (DfA.mono k b)
end
mutual
theorem Df.dp {K : PySem.W.Frag} {H : Hp} {S : Sg} : ∀ {x : D} {v : V}, Df K H S v x → Dp K H v x
  | .none, _, h => by cases h; exact .non
  | .bool _, _, h => by cases h; exact .bl _
  | .int _, _, h => by cases h; exact .int _
  | .str _, _, h => by cases h; exact .str _
  | .list ds, _, h => by cases h with | lst l t => exact .lst l.sq (DfA.dp t)
  | .tuple ds, _, h => by cases h with | tup l t => exact .tup l.sq (DfA.dp t)
  | .dict _, _, h => by cases h
theorem DfA.dp {K : PySem.W.Frag} {H : Hp} {S : Sg} : ∀ {xs : List D} {vs : List V}, DfA K H S vs xs → DpAll K H vs xs
  | [], _, h => by cases h; exact .nil
  | x :: xs, _, h => by cases h with | cons a b => exact .cons (Df.dp a) (DfA.dp b)
end
theorem DfA.len {K : PySem.W.Frag} {H : Hp} {S : Sg} : ∀ {xs : List D} {vs : List V}, DfA K H S vs xs → vs.length = xs.length
  | [], _, h => by cases h; rfl
  | x :: xs, _, h => by cases h with | cons a b => simp [DfA.len b]

/-- a value's relation -/
def VR (K : PySem.W.Frag) (H : Hp) (S : Sg) (v : V) : Val → Prop
  | .d x => Df K H S v x
  | .loc n => ∃ a b, S.r[n]? = some (a, b) ∧ v = .ref a
  | .scr ns => ∃ a, v = .ref a ∧ ((∃ o, H a = some (.frz o (.lst (ns.map V.int))) ∧ ¬ S.live a) ∨
    ∃ (o : Obj) (its : Array Value) (n : Nat), K.lookup a = some o ∧ o.cls = .type "list" ∧ o.dict = none ∧ o.data = .seq its n ∧ its.size ≤ sizeLine ∧ Vals (ns.map V.int) its.toList)
abbrev VRs (K : PySem.W.Frag) (H : Hp) (S : Sg) : List V → List Val → Prop := Paired (VR K H S)

/-- what an object's place asks -/
def ObR (K : PySem.W.Frag) (H : Hp) (S : Sg) (n : Nat) : Ob → Prop
  | .lst vs => ∃ a xs, S.r[n]? = some (a, true) ∧ H a = some (.lst xs) ∧ VRs K H S xs vs
  | .frz x => ∃ a, S.r[n]? = some (a, false) ∧ (H a ≠ none ∧ ∃ ds, x = .list ds) ∧ Df K H S (.ref a) x
  | .dct kvs => False
structure HR (K : PySem.W.Frag) (H : Hp) (S : Sg) (h : Hh) : Prop where
  len : h.length = S.r.length
  nd : ∀ (i j : Nat) (a : Addr) (b : Bool), S.r[i]? = some (a, true) → S.r[j]? = some (a, b) → i = j
  ff : ∀ a, S.F a → H a ≠ none ∧ (a, true) ∉ S.r
  lv : ∀ a, (a, true) ∈ S.r → H a ≠ none
  ob : ∀ (n : Nat) (o : Ob), h[n]? = some o → ObR K H S n o
structure Ext (S : Sg) (H : Hp) (S' : Sg) (H' : Hp) : Prop where
  F : S'.F = S.F
  old : ∀ (n : Nat) (a : Addr) (b : Bool), S.r[n]? = some (a, b) → ∃ b', S'.r[n]? = some (a, b')
  keep : ∀ a o, H a = some o → (a, true) ∉ S.r → H' a = some o ∧ (a, true) ∉ S'.r
theorem Ext.refl (S : Sg) (H : Hp) : Ext S H S H := ⟨rfl, fun _ _ b h => ⟨b, h⟩, fun _ _ h n => ⟨h, n⟩⟩
theorem Ext.trans {S S1 S2 : Sg} {H H1 H2 : Hp} (a : Ext S H S1 H1) (b : Ext S1 H1 S2 H2) : Ext S H S2 H2 :=
  ⟨b.F.trans a.F, fun n x y h => let ⟨_, h1⟩ := a.old n x y h; b.old n x _ h1, fun x o h n => let ⟨h1, n1⟩ := a.keep x o h n; b.keep x o h1 n1⟩
theorem Ext.lv {S S' : Sg} {H H' : Hp} (x : Ext S H S' H') : ∀ a o, H a = some o → ¬ S.live a → H' a = some o ∧ ¬ S'.live a := fun a o h n => by
  obtain ⟨h1, n1⟩ := x.keep a o h fun z => n (.inr z)
  exact ⟨h1, fun z => z.elim (fun z => n (.inl (x.F ▸ z))) n1⟩
theorem Df.ext {K : PySem.W.Frag} {S S' : Sg} {H H' : Hp} {v : V} {x : D} (h : Df K H S v x) (e : Ext S H S' H') : Df K H' S' v x := h.mono e.lv
theorem VR.ext {K : PySem.W.Frag} {S S' : Sg} {H H' : Hp} {v : V} {u : Val} (h : VR K H S v u) (e : Ext S H S' H') : VR K H' S' v u := by
  cases u with
  | d x => exact Df.ext h e
  | loc n => obtain ⟨a, b, h1, h2⟩ := h; obtain ⟨b', h3⟩ := e.old _ _ _ h1; exact ⟨a, b', h3, h2⟩
  | scr ns =>
    obtain ⟨a, h1, h2⟩ := h
    exact ⟨a, h1, h2.imp (fun ⟨o, q, n⟩ => ⟨o, (e.lv _ _ q n).1, (e.lv _ _ q n).2⟩) id⟩
theorem VRs.ext {K : PySem.W.Frag} {S S' : Sg} {H H' : Hp} {vs : List V} {us : List Val} (h : VRs K H S vs us) (e : Ext S H S' H') : VRs K H' S' vs us := Paired.mono (fun _ _ q => VR.ext q e) h

/-- the state's relation -/
structure SR (K : PySem.W.Frag) (S : Sg) (σ : L2.St) (H : Hp) (e : Ev) (h : Hh) : Prop where
  hr : HR K H S h
  ev : ∀ (i : Nat) (v : Val), e[i]? = some (some v) → ∃ x, σ[i]? = some (some x) ∧ VR K H S x v
  el : e.length ≤ σ.length
theorem SR.ext {K : PySem.W.Frag} {S S' : Sg} {σ : L2.St} {H H' : Hp} {e : Ev} {h h' : Hh} (r : SR K S σ H e h) (x : Ext S H S' H') (hr : HR K H' S' h') : SR K S' σ H' e h' :=
  ⟨hr, fun i v q => let ⟨y, h1, h2⟩ := r.ev i v q; ⟨y, h1, h2.ext x⟩, r.el⟩

abbrev Exp := Ev → Hh → Option (Val × Hh)
abbrev Tst := Ev → Hh → Option (Bool × Hh)
abbrev Exps := Ev → Hh → Option (List Val × Hh)
inductive Fl where
  | nx | rt (v : Val) | bk | ct
abbrev Stm := Ev → Hh → Option (Fl × Ev × Hh)

def tE (K : PySem.W.Frag) (f : Exp) : TE := fun σ H Q => ∃ S e h v h', SR K S σ H e h ∧ f e h = some (v, h') ∧
  ∀ S' x H', Ext S H S' H' → HR K H' S' h' → VR K H' S' x v → Q x H'
def tT (K : PySem.W.Frag) (f : Tst) : TT := fun σ H Q => ∃ S e h b h', SR K S σ H e h ∧ f e h = some (b, h') ∧
  ∀ S' H', Ext S H S' H' → HR K H' S' h' → Q b H'
def tAs (K : PySem.W.Frag) (f : Exps) : TA := fun σ H Q => ∃ S e h vs h', SR K S σ H e h ∧ f e h = some (vs, h') ∧
  ∀ S' xs H', Ext S H S' H' → HR K H' S' h' → VRs K H' S' xs vs → Q xs H'
def EndR (K : PySem.W.Frag) (S : Sg) (H : Hp) (D : Ends) (e' : Ev) (h' : Hh) : Fl → Prop
  | .nx => ∀ S' σ' H', Ext S H S' H' → SR K S' σ' H' e' h' → D.nx σ' H'
  | .bk => ∀ S' σ' H', Ext S H S' H' → SR K S' σ' H' e' h' → D.bk σ' H'
  | .ct => ∀ S' σ' H', Ext S H S' H' → SR K S' σ' H' e' h' → D.ct σ' H'
  | .rt v => ∀ S' x H', Ext S H S' H' → HR K H' S' h' → VR K H' S' x v → D.rt x H'
def tSt (K : PySem.W.Frag) (f : Stm) : TS := fun D σ H => ∃ S e h fl e' h', SR K S σ H e h ∧ f e h = some (fl, e', h') ∧ EndR K S H D e' h' fl

def SE (X : Cx) (e : Expr) (f : Exp) : Prop := PE X e (tE X.K f)
def ST (X : Cx) (e : Expr) (f : Tst) : Prop := PT X e (tT X.K f)
def SA (X : Cx) (es : List Expr) (f : Exps) : Prop := PA X es (tAs X.K f) ∧ ∀ e h vs h', f e h = some (vs, h') → vs.length = es.length
def SS (X : Cx) (s : Stmt) (f : Stm) : Prop := PS X s (tSt X.K f)
def SSs (X : Cx) (s : List Stmt) (f : Stm) : Prop := PSs X s (tSt X.K f)

theorem PE.weak {X : Cx} {e : Expr} {t t' : TE} (h : PE X e t) (w : ∀ σ H Q, t' σ H Q → t σ H Q) : PE X e t' := ⟨fun p s σ H Q I q => h.run p s σ H Q I (w _ _ _ q)⟩
theorem PT.weak {X : Cx} {e : Expr} {t t' : TT} (h : PT X e t) (w : ∀ σ H Q, t' σ H Q → t σ H Q) : PT X e t' := ⟨fun p s σ H Q I q => h.run p s σ H Q I (w _ _ _ q)⟩
theorem PW.weak {X : Cx} {e : Expr} {t t' : TT} (h : PW X e t) (w : ∀ σ H Q, t' σ H Q → t σ H Q) : PW X e t' := ⟨fun wh p s σ H Q I q => h.run wh p s σ H Q I (w _ _ _ q)⟩
theorem PA.weak {X : Cx} {e : List Expr} {t t' : TA} (h : PA X e t) (w : ∀ σ H Q, t' σ H Q → t σ H Q) : PA X e t' := ⟨fun po p s σ H Q I q => h.run po p s σ H Q I (w _ _ _ q)⟩
theorem PS.weak {X : Cx} {e : Stmt} {t t' : TS} (h : PS X e t) (w : ∀ D σ H, t' D σ H → t D σ H) : PS X e t' := ⟨fun p s σ H D I q => h.run p s σ H D I (w _ _ _ q)⟩
theorem PSs.weak {X : Cx} {e : List Stmt} {t t' : TS} (h : PSs X e t) (w : ∀ D σ H, t' D σ H → t D σ H) : PSs X e t' := ⟨fun p s σ H D I q => h.run p s σ H D I (w _ _ _ q)⟩

/-! ### expressions by values -/
abbrev Op2 := Val → Val → Hh → Option (Val × Hh)
abbrev OpN := List Val → Hh → Option (Val × Hh)
def eBin (op : Op2) (fa fb : Exp) : Exp := fun e h =>
  match fa e h with
  | none => none
  | some (u, h1) => match fb e h1 with
    | none => none
    | some (v, h2) => op u v h2
def eUn (op : Val → Hh → Option (Val × Hh)) (fa : Exp) : Exp := fun e h =>
  match fa e h with
  | none => none
  | some (u, h1) => op u h1
def eArgs (op : OpN) (fs : Exps) : Exp := fun e h =>
  match fs e h with
  | none => none
  | some (vs, h1) => op vs h1
def aNil : Exps := fun _ h => some ([], h)
def aCons (f : Exp) (fs : Exps) : Exps := fun e h =>
  match f e h with
  | none => none
  | some (v, h1) => match fs e h1 with
    | none => none
    | some (vs, h2) => some (v :: vs, h2)

/-- what an operation by values gives -/
def Gv (K : PySem.W.Frag) (S : Sg) (H : Hp) (r : Option (Val × Hh)) (Q : VK) : Prop :=
  ∃ v h', r = some (v, h') ∧ ∀ S' x H', Ext S H S' H' → HR K H' S' h' → VR K H' S' x v → Q x H'
def rOp (K : PySem.W.Frag) (op : Op2) : R2 := fun x y H Q => ∃ S h u v, HR K H S h ∧ VR K H S x u ∧ VR K H S y v ∧ Gv K S H (op u v h) Q
def rUn (K : PySem.W.Frag) (op : Val → Hh → Option (Val × Hh)) : V → Hp → VK → Prop := fun x H Q => ∃ S h u, HR K H S h ∧ VR K H S x u ∧ Gv K S H (op u h) Q
def rNs (K : PySem.W.Frag) (op : OpN) : List V → Hp → VK → Prop := fun xs H Q => ∃ S h us, HR K H S h ∧ VRs K H S xs us ∧ Gv K S H (op us h) Q

theorem Gv.pre {K : PySem.W.Frag} {S S1 : Sg} {H H1 : Hp} {r : Option (Val × Hh)} {Q : VK} {v : Val} {h' : Hh} (e : Ext S H S1 H1) (hr : r = some (v, h'))
    (q : ∀ S' x H', Ext S H S' H' → HR K H' S' h' → VR K H' S' x v → Q x H') : Gv K S1 H1 r Q := ⟨v, h', hr, fun S' x H' e' a b => q S' x H' (e.trans e') a b⟩

section
variable {X : Cx} {a b : Expr} {fa fb : Exp} {pos : Pos}
/-- two expressions, then an operation by values -/
theorem two_of {op : Op2} {r : R2} (hr : ∀ x y H Q, rOp X.K op x y H Q → r x y H Q) : ∀ σ H Q, tE X.K (eBin op fa fb) σ H Q → tOp r (tE X.K fa) (tE X.K fb) σ H Q := by
  rintro σ H Q ⟨S, e, h, v, h', sr, ev, q⟩
  unfold eBin at ev
  cases ha : fa e h with
  | none => rw [ha] at ev; cases ev
  | some p =>
    obtain ⟨u, h1⟩ := p
    rw [ha] at ev
    simp only at ev
    cases hb : fb e h1 with
    | none => rw [hb] at ev; cases ev
    | some p2 =>
      obtain ⟨w, h2⟩ := p2
      rw [hb] at ev
      simp only at ev
      exact ⟨S, e, h, u, h1, sr, ha, fun S1 x H1 e1 r1 v1 => ⟨S1, e, h1, w, h2, sr.ext e1 r1, hb, fun S2 y H2 e2 r2 v2 => hr _ _ _ _ ⟨S2, h2, u, w, r2, v1.ext e2, v2, .pre (e1.trans e2) ev q⟩⟩⟩
theorem se_bin {op : Operator} {f : Op2} (ho : OpR X (binaryOp op) (rOp X.K f)) (ha : SE X a fa) (hb : SE X b fb) : SE X (.BinOp a op b pos) (eBin f fa fb) :=
  PE.weak (pe_op ho ha hb) (two_of fun _ _ _ _ q => q)
theorem se_cmp {op : CmpOp} {f : Op2} (ho : OpR X (compareOp op) (rOp X.K f)) (ha : SE X a fa) (hb : SE X b fb) (hm : behindInMarks op b = false) : SE X (.Compare a [op] [b] pos) (eBin f fa fb) :=
  PE.weak (pe_cmpR ho ha hb hm) (two_of fun _ _ _ _ q => q)
theorem se_un {op : UnaryOp} {f : Val → Hh → Option (Val × Hh)} (ho : UnR X (unaryOp op) (rUn X.K f)) (ha : SE X a fa) : SE X (.UnaryOp op a pos) (eUn f fa) := by
  refine PE.weak (pe_un ho ha) ?_
  rintro σ H Q ⟨S, e, h, v, h', sr, ev, q⟩
  unfold eUn at ev
  cases ha : fa e h with
  | none => rw [ha] at ev; cases ev
  | some p =>
    obtain ⟨u, h1⟩ := p
    rw [ha] at ev
    exact ⟨S, e, h, u, h1, sr, ha, fun S1 x H1 e1 r1 v1 => ⟨S1, h1, u, r1, v1, .pre e1 ev q⟩⟩
theorem sa_nil : SA X [] aNil := ⟨PA.weak pa_nil fun σ H Q => by
  rintro ⟨S, e, h, v, h', sr, ev, q⟩
  cases ev
  exact q S [] H (.refl _ _) sr.hr .nil, fun e h vs h' q => by cases q; rfl⟩
theorem sa_cons {es : List Expr} {fs : Exps} (ha : SE X a fa) (hr : SA X es fs) (hs : starEach (a :: es) X.env = (false, eval a X.env) :: starEach es X.env) : SA X (a :: es) (aCons fa fs) := by
  refine ⟨PA.weak (pa_cons ha hr.1 hs) ?_, fun e h vs h' q => ?_⟩
  case refine_2 =>
    unfold aCons at q
    split at q
    · cases q
    · split at q
      · cases q
      · rename_i e2
        cases q
        simp [hr.2 _ _ _ _ e2]
  rintro σ H Q ⟨S, e, h, v, h', sr, ev, q⟩
  unfold aCons at ev
  cases ha : fa e h with
  | none => rw [ha] at ev; cases ev
  | some p =>
    obtain ⟨u, h1⟩ := p
    rw [ha] at ev
    simp only at ev
    cases hb : fs e h1 with
    | none => rw [hb] at ev; cases ev
    | some p2 =>
      obtain ⟨w, h2⟩ := p2
      rw [hb] at ev
      cases ev
      exact ⟨S, e, h, u, h1, sr, ha, fun S1 x H1 e1 r1 v1 => ⟨S1, e, h1, w, _, sr.ext e1 r1, hb, fun S2 xs H2 e2 r2 v2 => q S2 _ H2 (e1.trans e2) r2 (.cons (v1.ext e2) v2)⟩⟩
/-- arguments, then an operation by values -/
theorem args_of {fs : Exps} {op : OpN} {r : List V → Hp → VK → Prop} (hr : ∀ xs H Q, rNs X.K op xs H Q → r xs H Q) : ∀ σ H Q, tE X.K (eArgs op fs) σ H Q → tCB r (tAs X.K fs) σ H Q := by
  rintro σ H Q ⟨S, e, h, v, h', sr, ev, q⟩
  unfold eArgs at ev
  cases ha : fs e h with
  | none => rw [ha] at ev; cases ev
  | some p =>
    obtain ⟨u, h1⟩ := p
    rw [ha] at ev
    exact ⟨S, e, h, u, h1, sr, ha, fun S1 x H1 e1 r1 v1 => hr _ _ _ ⟨S1, h1, u, r1, v1, .pre e1 ev q⟩⟩
end
end MP

/-! MPb: new objects, freezing, reading; the operations of data. -/
namespace MP
open PySem PySem.Spec PyProof.Rows L2

section
variable {K : PySem.W.Frag} {H : Hp} {S : Sg} {h : Hh}
theorem HR.nl (r : HR K H S h) {p : Addr} (hp : H p = none) : ¬ S.live p := fun z => z.elim (fun z => (r.ff p z).1 hp) fun z => r.lv p z hp
theorem ext_upd (r : HR K H S h) {p : Addr} {o : HO} (hp : H p = none) : Ext S H S (upd H p o) :=
  ⟨rfl, fun _ _ b h => ⟨b, h⟩, fun a u e n => ⟨by rw [upd_ne (ne_of_none e hp)]; exact e, n⟩⟩
theorem upd_nn {p a : Addr} {o : HO} (h : H a ≠ none) : upd H p o a ≠ none := by
  unfold upd; split
  · exact fun z => by cases z
  · exact h
theorem ObR.ext {S' : Sg} {H' : Hp} (e : Ext S H S' H') {n : Nat} {o : Ob} (k : ∀ a, S.r[n]? = some (a, true) → S'.r[n]? = some (a, true) ∧ H' a = H a) (k2 : ∀ a, S.r[n]? = some (a, false) → S'.r[n]? = some (a, false) ∧ (H a ≠ none → H' a ≠ none)) (q : ObR K H S n o) : ObR K H' S' n o := by
  cases o with
  | lst vs => obtain ⟨a, xs, h1, h2, h3⟩ := q; obtain ⟨k1, k3⟩ := k a h1; exact ⟨a, xs, k1, k3.trans h2, VRs.ext h3 e⟩
  | frz x => obtain ⟨a, h1, h0, h2⟩ := q; exact ⟨a, (k2 a h1).1, ⟨(k2 a h1).2 h0.1, h0.2⟩, h2.ext e⟩
  | dct kvs => exact q
/-- something new is laid that is not ours -/
theorem HR.upd (r : HR K H S h) {p : Addr} {o : HO} (hp : H p = none) : HR K (upd H p o) S h :=
  ⟨r.len, r.nd, fun a z => ⟨upd_nn (r.ff a z).1, (r.ff a z).2⟩, fun a z => upd_nn (r.lv a z), fun n o' q => (r.ob n o' q).ext (ext_upd r hp) (fun a z => ⟨z, upd_ne (fun e => r.lv a (List.mem_of_getElem? z) (e ▸ hp))⟩) fun a z => ⟨z, upd_nn⟩⟩
theorem new_list (r : HR K H S h) {p : Addr} {xs : List V} {ds : List D} (hp : H p = none) (v : DfA K H S xs ds) : Df K (L2.upd H p (.lst xs)) S (.ref p) (.list ds) :=
  .lst ⟨upd_same, r.nl hp⟩ (v.mono (ext_upd r hp).lv)
theorem new_tup (r : HR K H S h) {p : Addr} {xs : List V} {ds : List D} (hp : H p = none) (v : DfA K H S xs ds) : Df K (L2.upd H p (.tup xs)) S (.ref p) (.tuple ds) :=
  .tup (.inl ⟨upd_same, r.nl hp⟩) (v.mono (ext_upd r hp).lv)
def Sg.add (S : Sg) (p : Addr) : Sg := ⟨S.F, S.r ++ [(p, true)]⟩
theorem ext_add (r : HR K H S h) {p : Addr} {o : HO} (hp : H p = none) : Ext S H (S.add p) (L2.upd H p o) :=
  ⟨rfl, fun n a b q => ⟨b, by
      show (S.r ++ [(p, true)])[n]? = _
      rw [List.getElem?_append_left (List.getElem?_eq_some_iff.mp q).1]; exact q⟩, fun a u e n => by
    have ne := ne_of_none e hp
    refine ⟨by rw [upd_ne ne]; exact e, fun z => ?_⟩
    rcases List.mem_append.mp z with z | z
    · exact n z
    · rcases List.mem_singleton.mp z with z
      exact ne (Prod.mk.inj z).1⟩
/-- a new list that may be changed -/
theorem HR.add (r : HR K H S h) {p : Addr} {xs : List V} {vs : List Val} (hp : H p = none) (v : VRs K H S xs vs) : HR K (L2.upd H p (.lst xs)) (S.add p) (h ++ [.lst vs]) := by
  have e := ext_add (o := .lst xs) r hp
  have old : ∀ {i : Nat} {a : Addr} {b : Bool}, (S.r ++ [(p, true)])[i]? = some (a, b) → S.r[i]? = some (a, b) ∨ (i = S.r.length ∧ a = p ∧ b = true) := fun {i a b} q => by
    by_cases hi : i < S.r.length
    · rw [List.getElem?_append_left hi] at q; exact .inl q
    · rw [List.getElem?_append_right (by omega)] at q
      by_cases hj : i - S.r.length = 0
      · rw [hj] at q; cases q; exact .inr ⟨by omega, rfl, rfl⟩
      · rw [List.getElem?_eq_none (by show 1 ≤ _; omega)] at q; cases q
  refine ⟨by show (h ++ [Ob.lst vs]).length = (S.r ++ [(p, true)]).length; simp [r.len], fun i j a b h1 h2 => ?_, fun a z => ⟨upd_nn (r.ff a z).1, fun q => ?_⟩, fun a z => ?_, fun n o q => ?_⟩
  · rcases old h1 with g1 | ⟨e1, e2, e3⟩ <;> rcases old h2 with g2 | ⟨f1, f2, f3⟩
    · exact r.nd i j a b g1 g2
    · exact (r.lv a (List.mem_of_getElem? g1) (f2 ▸ hp)).elim
    · have : H a ≠ none := by
        have hj := (List.getElem?_eq_some_iff.mp g2).1
        have hj' : j < h.length := by rw [r.len]; exact hj
        have q := r.ob j h[j] (List.getElem?_eq_getElem hj')
        cases hb : b with
        | true => rw [hb] at g2; exact r.lv a (List.mem_of_getElem? g2)
        | false =>
          rw [hb] at g2
          cases ho : h[j] with
          | lst vs => rw [ho] at q; obtain ⟨a', _, k1, _⟩ := q; rw [g2] at k1; cases k1
          | dct kv => rw [ho] at q; exact q.elim
          | frz x =>
            rw [ho] at q
            obtain ⟨a', k1, k2, _⟩ := q
            rw [g2] at k1; cases k1
            exact k2.1
      exact (this (e2 ▸ hp)).elim
    · omega
  · rcases List.mem_append.mp q with q | q
    · exact (r.ff a z).2 q
    · rcases List.mem_singleton.mp q with q
      obtain ⟨e1, _⟩ := Prod.mk.inj q
      exact (r.ff a z).1 (e1 ▸ hp)
  · rcases List.mem_append.mp z with z | z
    · exact upd_nn (r.lv a z)
    · rcases List.mem_singleton.mp z with z
      obtain ⟨e1, _⟩ := Prod.mk.inj z
      rw [e1, upd_same]; exact fun q => by cases q
  · by_cases hn : n < h.length
    · rw [List.getElem?_append_left hn] at q
      refine (r.ob n o q).ext e (fun a z => ⟨?_, upd_ne (fun x => r.lv a (List.mem_of_getElem? z) (x ▸ hp))⟩) fun a z => ?_
      · show (S.r ++ [(p, true)])[n]? = _
        rw [List.getElem?_append_left (by rw [← r.len]; exact hn)]; exact z
      · refine ⟨?_, upd_nn⟩
        show (S.r ++ [(p, true)])[n]? = _
        rw [List.getElem?_append_left (by rw [← r.len]; exact hn)]; exact z
    · rw [List.getElem?_append_right (by omega)] at q
      by_cases hj : n - h.length = 0
      · rw [hj] at q; cases q
        have en : n = S.r.length := by have := r.len; omega
        refine ⟨p, xs, ?_, upd_same, VRs.ext v e⟩
        show (S.r ++ [(p, true)])[n]? = _
        rw [en, List.getElem?_append_right (Nat.le_refl _), Nat.sub_self]; rfl
      · rw [List.getElem?_eq_none (by show 1 ≤ _; omega)] at q; cases q
theorem vr_add (r : HR K H S h) {p : Addr} {o : HO} : VR K (L2.upd H p o) (S.add p) (.ref p) (.loc h.length) := ⟨p, true, by
  show (S.r ++ [(p, true)])[h.length]? = _
  rw [r.len, List.getElem?_append_right (Nat.le_refl _), Nat.sub_self]; rfl, rfl⟩
end
end MP

/-! MPc: freezing, reading; operators. -/
namespace MP
open PySem PySem.Spec PyProof.Rows L2

/-! ### freezing and reading -/
def frzL (f : Val → Hh → Option (D × Hh)) : List Val → Hh → Option (List D × Hh)
  | [], h => some ([], h)
  | v :: vs, h => match f v h with
    | none => none
    | some (x, h1) => match frzL f vs h1 with
      | none => none
      | some (xs, h2) => some (x :: xs, h2)
def frz : Nat → Val → Hh → Option (D × Hh)
  | 0, v, h => match v with
    | .d x => some (x, h)
    | _ => none
  | n + 1, v, h => match v with
    | .d x => some (x, h)
    | .loc k => match h[k]? with
      | some (.frz x) => some (x, h)
      | some (.lst vs) => match frzL (frz n) vs h with
        | none => none
        | some (ds, h1) => match h1[k]? with
          | some (.lst _) => some (.list ds, h1.set k (.frz (.list ds)))
          | _ => none
      | _ => none
    | _ => none
def viewL (f : Val → Option D) : List Val → Option (List D)
  | [] => some []
  | v :: vs => match f v with
    | none => none
    | some x => match viewL f vs with
      | none => none
      | some xs => some (x :: xs)
def view : Nat → Val → Hh → Option D
  | 0, v, _ => match v with
    | .d x => some x
    | _ => none
  | n + 1, v, h => match v with
    | .d x => some x
    | .loc k => match h[k]? with
      | some (.frz x) => some x
      | some (.lst vs) => match viewL (fun v => view n v h) vs with
        | none => none
        | some ds => some (.list ds)
      | _ => none
    | .scr ns => some (.list (ns.map .int))
section
variable {K : PySem.W.Frag} {H : Hp}
def FrzOk (K : PySem.W.Frag) (H : Hp) (f : Val → Hh → Option (D × Hh)) : Prop :=
  ∀ v h x h', f v h = some (x, h') → ∀ S V, HR K H S h → VR K H S V v → ∃ S', Ext S H S' H ∧ HR K H S' h' ∧ Df K H S' V x
theorem frzL_ok {f : Val → Hh → Option (D × Hh)} (ok : FrzOk K H f) : ∀ vs h xs h', frzL f vs h = some (xs, h') → ∀ S Vs, HR K H S h → VRs K H S Vs vs → ∃ S', Ext S H S' H ∧ HR K H S' h' ∧ DfA K H S' Vs xs
  | [], h, xs, h', e, S, Vs, hr, vr => by
    cases e; cases vr
    exact ⟨S, .refl _ _, hr, .nil⟩
  | v :: vs, h, xs, h', e, S, Vs, hr, vr => by
    unfold frzL at e
    cases e1 : f v h with
    | none => rw [e1] at e; cases e
    | some p =>
      obtain ⟨x, h1⟩ := p
      rw [e1] at e
      simp only at e
      cases e2 : frzL f vs h1 with
      | none => rw [e2] at e; cases e
      | some p2 =>
        obtain ⟨xs2, h2⟩ := p2
        rw [e2] at e
        cases e
        cases vr with
        | cons a b =>
          obtain ⟨S1, x1, r1, d1⟩ := ok v h x h1 e1 S _ hr a
          obtain ⟨S2, x2, r2, d2⟩ := frzL_ok ok vs h1 xs2 _ e2 S1 _ r1 (VRs.ext b x1)
          exact ⟨S2, x1.trans x2, r2, .cons (d1.ext x2) d2⟩
theorem HR.freeze {S : Sg} {h : Hh} {k : Nat} {vs : List Val} {a : Addr} {xs : List V} {ds : List D} (hr : HR K H S h) (hk : h[k]? = some (.lst vs)) (ha : S.r[k]? = some (a, true)) (hx : H a = some (.lst xs)) (dx : DfA K H S xs ds) :
    Ext S H ⟨S.F, S.r.set k (a, false)⟩ H ∧ HR K H ⟨S.F, S.r.set k (a, false)⟩ (h.set k (.frz (.list ds))) ∧ Df K H ⟨S.F, S.r.set k (a, false)⟩ (.ref a) (.list ds) := by
  have hlt := (List.getElem?_eq_some_iff.mp ha).1
  have gs : ∀ {j : Nat} {b : Addr} {c : Bool}, (S.r.set k (a, false))[j]? = some (b, c) → (j ≠ k ∧ S.r[j]? = some (b, c)) ∨ (j = k ∧ b = a ∧ c = false) := fun {j b c} q => by
    by_cases hj : k = j
    · subst hj
      rw [List.getElem?_set_self hlt] at q
      cases q; exact .inr ⟨rfl, rfl, rfl⟩
    · rw [List.getElem?_set_ne hj] at q
      exact .inl ⟨Ne.symm hj, q⟩
  have mem : ∀ {b : Addr}, (b, true) ∈ S.r.set k (a, false) → (b, true) ∈ S.r ∧ b ≠ a := fun {b} q => by
    obtain ⟨j, hj⟩ := List.getElem?_of_mem q
    rcases gs hj with ⟨n, q1⟩ | ⟨_, _, q1⟩
    · exact ⟨List.mem_of_getElem? q1, fun e => n (hr.nd _ _ _ _ (e ▸ q1) ha)⟩
    · cases q1
  have ex : Ext S H ⟨S.F, S.r.set k (a, false)⟩ H := by
    refine ⟨rfl, fun n b c q => ?_, fun b o q n => ⟨q, fun z => n (mem z).1⟩⟩
    by_cases hj : k = n
    · subst hj; rw [ha] at q; cases q; exact ⟨false, List.getElem?_set_self hlt⟩
    · exact ⟨c, by show (S.r.set k (a, false))[n]? = _; rw [List.getElem?_set_ne hj]; exact q⟩
  have dl : Df K H ⟨S.F, S.r.set k (a, false)⟩ (.ref a) (.list ds) :=
    .lst ⟨hx, fun z => z.elim (fun z => (hr.ff a z).2 (List.mem_of_getElem? ha)) fun z => (mem z).2 rfl⟩ (dx.mono ex.lv)
  refine ⟨ex, ⟨by simp [hr.len], fun i j b c h1 h2 => ?_, fun b z => ⟨(hr.ff b z).1, fun q => (hr.ff b z).2 (mem q).1⟩, fun b z => hr.lv b (mem z).1, fun n o q => ?_⟩, dl⟩
  · rcases gs h1 with ⟨n1, g1⟩ | ⟨_, _, q⟩
    · rcases gs h2 with ⟨n2, g2⟩ | ⟨rfl, rfl, _⟩
      · exact hr.nd i j b c g1 g2
      · exact (n1 (hr.nd _ _ _ _ g1 ha)).elim
    · cases q
  · by_cases hj : k = n
    · subst hj
      rw [List.getElem?_set_self (by rw [hr.len]; exact hlt)] at q
      cases q
      exact ⟨a, List.getElem?_set_self hlt, ⟨by rw [hx]; exact (fun z => by cases z), _, rfl⟩, dl⟩
    · rw [List.getElem?_set_ne hj] at q
      have ne : ∀ {b : Addr} {c : Bool}, S.r[n]? = some (b, c) → (S.r.set k (a, false))[n]? = some (b, c) := fun q => by rw [List.getElem?_set_ne hj]; exact q
      exact (hr.ob n o q).ext ex (fun b z => ⟨ne z, rfl⟩) fun b z => ⟨ne z, id⟩
theorem frz_ok : ∀ n, FrzOk K H (frz n)
  | 0, v, h, x, h', e, S, V, hr, vr => by
    cases v with
    | d y => cases e; exact ⟨S, .refl _ _, hr, vr⟩
    | loc k => cases e
    | scr ns => cases e
  | n + 1, v, h, x, h', e, S, V, hr, vr => by
    cases v with
    | d y => cases e; exact ⟨S, .refl _ _, hr, vr⟩
    | scr ns => cases e
    | loc k =>
      unfold frz at e
      simp only at e
      obtain ⟨a, b, g1, rfl⟩ := vr
      cases hk : h[k]? with
      | none => rw [hk] at e; cases e
      | some o =>
        rw [hk] at e
        have ob := hr.ob k o hk
        cases o with
        | dct kv => cases e
        | frz y =>
          cases e
          obtain ⟨a', g2, _, dy⟩ := ob
          rw [g1] at g2; cases g2
          exact ⟨S, .refl _ _, hr, dy⟩
        | lst vs =>
          simp only at e
          obtain ⟨a', xs, g2, hx, vv⟩ := ob
          rw [g1] at g2; cases g2
          cases e1 : frzL (frz n) vs h with
          | none => rw [e1] at e; cases e
          | some p =>
            obtain ⟨ds, h1⟩ := p
            rw [e1] at e
            simp only at e
            obtain ⟨S1, x1, r1, d1⟩ := frzL_ok (frz_ok n) vs h ds h1 e1 S _ hr vv
            cases hk1 : h1[k]? with
            | none => rw [hk1] at e; cases e
            | some o1 =>
              rw [hk1] at e
              cases o1 with
              | dct _ => cases e
              | frz _ => cases e
              | lst vs1 =>
                cases e
                obtain ⟨a1, xs1, g3, hx1, _⟩ := r1.ob k _ hk1
                obtain ⟨b', g4⟩ := x1.old k a _ g1
                rw [g3] at g4; cases g4
                rw [hx] at hx1; cases hx1
                obtain ⟨x2, r2, d2⟩ := r1.freeze hk1 g3 hx d1
                exact ⟨_, x1.trans x2, r2, d2⟩
theorem viewL_ok {S : Sg} {f : Val → Option D} (ok : ∀ v x, f v = some x → ∀ V, VR K H S V v → Dp K H V x) : ∀ vs xs, viewL f vs = some xs → ∀ Vs, VRs K H S Vs vs → DpAll K H Vs xs
  | [], xs, e, Vs, vr => by cases e; cases vr; exact .nil
  | v :: vs, xs, e, Vs, vr => by
    unfold viewL at e
    cases e1 : f v with
    | none => rw [e1] at e; cases e
    | some x =>
      rw [e1] at e
      simp only at e
      cases e2 : viewL f vs with
      | none => rw [e2] at e; cases e
      | some xs2 =>
        rw [e2] at e
        cases e
        cases vr with
        | cons a b => exact .cons (ok v x e1 _ a) (viewL_ok ok vs xs2 e2 _ b)
theorem dpA_ints : ∀ ns : List Int, DpAll K H (ns.map V.int) (ns.map PyData.int)
  | [] => .nil
  | n :: ns => .cons (.int n) (dpA_ints ns)
theorem view_ok {S : Sg} {h : Hh} (hr : HR K H S h) : ∀ n v x, view n v h = some x → ∀ V, VR K H S V v → Dp K H V x
  | 0, v, x, e, V, vr => by
    cases v with
    | d y => cases e; exact Df.dp vr
    | loc k => cases e
    | scr ns => cases e
  | n + 1, v, x, e, V, vr => by
    cases v with
    | d y => cases e; exact Df.dp vr
    | scr ns =>
      cases e
      obtain ⟨a, rfl, q⟩ := vr
      exact .lst (q.imp (fun ⟨o, q, _⟩ => .inr ⟨o, q⟩) id) (dpA_ints ns)
    | loc k =>
      unfold view at e
      simp only at e
      obtain ⟨a, b, g1, rfl⟩ := vr
      cases hk : h[k]? with
      | none => rw [hk] at e; cases e
      | some o =>
        rw [hk] at e
        have ob := hr.ob k o hk
        cases o with
        | dct kv => cases e
        | frz y =>
          cases e
          obtain ⟨a', g2, _, dy⟩ := ob
          rw [g1] at g2; cases g2
          exact Df.dp dy
        | lst vs =>
          simp only at e
          obtain ⟨a', xs, g2, hx, vv⟩ := ob
          rw [g1] at g2; cases g2
          cases e1 : viewL (fun v => view n v h) vs with
          | none => rw [e1] at e; cases e
          | some ds =>
            rw [e1] at e
            cases e
            exact .lst (.inl (.inl hx)) (viewL_ok (fun v x q V r => view_ok hr n v x q V r) vs ds e1 _ vv)
mutual
theorem dp_plain : ∀ {x : D} {v : V}, Dp K H v x → x.plain = true
  | .none, _, _ => rfl
  | .bool _, _, _ => rfl
  | .int _, _, _ => rfl
  | .str _, _, _ => rfl
  | .list xs, _, h => by cases h with | lst _ t => exact dpA_plain t
  | .tuple xs, _, h => by cases h with | tup _ t => exact dpA_plain t
  | .dict _, _, h => by cases h
theorem dpA_plain : ∀ {xs : List D} {vs : List V}, DpAll K H vs xs → PyData.plainAll xs = true
  | [], _, _ => rfl
  | x :: xs, _, h => by
    cases h with
    | cons a b =>
      show (x.plain && PyData.plainAll xs) = true
      rw [dp_plain a, dpA_plain b]; rfl
end
end
mutual
def dOk : Nat → D → Bool
  | n, .list xs | n, .tuple xs => match n with
    | 0 => false
    | m + 1 => dOkA m xs
  | _, .dict _ => false
  | _, _ => true
def dOkA : Nat → List D → Bool
  | _, [] => true
  | n, x :: xs => dOk n x && dOkA n xs
end
mutual
theorem dOk_le : ∀ (x : D) (n : Nat), dOk n x = true → x.depth ≤ n
  | .none, _, _ => by simp [PyData.depth]
  | .bool _, _, _ => by simp [PyData.depth]
  | .int _, _, _ => by simp [PyData.depth]
  | .str _, _, _ => by simp [PyData.depth]
  | .list xs, 0, h => by simp [dOk] at h
  | .list xs, n + 1, h => by
    simp only [PyData.depth]
    have := dOkA_le xs n (by simpa [dOk] using h)
    omega
  | .tuple xs, 0, h => by simp [dOk] at h
  | .tuple xs, n + 1, h => by
    simp only [PyData.depth]
    have := dOkA_le xs n (by simpa [dOk] using h)
    omega
  | .dict _, n, h => by simp [dOk] at h
theorem dOkA_le : ∀ (xs : List D) (n : Nat), dOkA n xs = true → PyData.depthAll xs ≤ n
  | [], _, _ => by simp [PyData.depthAll]
  | x :: xs, n, h => by
    simp only [dOkA, Bool.and_eq_true] at h
    have h1 := dOk_le x n h.1
    have h2 := dOkA_le xs n h.2
    simp only [PyData.depthAll]
    omega
end
end MP

/-! MPd: operators by values. -/
namespace MP
open PySem PySem.Spec PyProof.Rows L2

/-! ### lists by items -/
def listItems : Val → Hh → Option (List Val)
  | .d (.list ds), _ => some (ds.map .d)
  | .loc n, h => match h[n]? with
    | some (.lst vs) => some vs
    | some (.frz (.list ds)) => some (ds.map .d)
    | _ => none
  | .scr ns, _ => some (ns.map fun n => .d (.int n))
  | _, _ => none
/-- a list or a tuple -/
def seqItems : Val → Hh → Option (List Val)
  | .d (.tuple ds), _ => some (ds.map .d)
  | v, h => listItems v h
def mkL (m : Bool) (vs : List Val) (h : Hh) : Option (Val × Hh) :=
  match m with
  | true => some (.loc h.length, h ++ [.lst vs])
  | false => match frzL (frz 8) vs h with
    | none => none
    | some (ds, h1) => some (.d (.list ds), h1)
def mkT (vs : List Val) (h : Hh) : Option (Val × Hh) :=
  match frzL (frz 8) vs h with
  | none => none
  | some (ds, h1) => some (.d (.tuple ds), h1)
section
variable {K : PySem.W.Frag} {H : Hp} {S : Sg} {h : Hh}
theorem DfA.vrs : ∀ {ds : List D} {xs : List V}, DfA K H S xs ds → VRs K H S xs (ds.map .d)
  | [], _, h => by cases h; exact .nil
  | x :: xs, _, h => by cases h with | cons a b => exact .cons a (DfA.vrs b)
theorem vrs_ints : ∀ ns : List Int, VRs K H S (ns.map V.int) (ns.map fun n => .d (.int n))
  | [] => .nil
  | n :: ns => .cons (Df.int n) (vrs_ints ns)
theorem li_ok (hr : HR K H S h) {v : V} {u : Val} {vs : List Val} (vr : VR K H S v u) (e : listItems u h = some vs) : ∃ a xs, v = .ref a ∧ SqL K H a xs ∧ VRs K H S xs vs := by
  unfold listItems at e
  split at e
  · cases e
    cases vr with
    | lst l t => exact ⟨_, _, rfl, l.sq, t.vrs⟩
  · obtain ⟨a, b, g1, rfl⟩ := vr
    split at e
    · rename_i hk
      cases e
      obtain ⟨a', xs, g2, hx, q⟩ := hr.ob _ _ hk
      rw [g1] at g2; cases g2
      exact ⟨_, xs, rfl, .inl (.inl hx), q⟩
    · rename_i hk
      cases e
      obtain ⟨a', g2, _, q⟩ := hr.ob _ _ hk
      rw [g1] at g2; cases g2
      cases q with
      | lst l t => exact ⟨_, _, rfl, l.sq, t.vrs⟩
    · cases e
  · cases e
    obtain ⟨a, rfl, q⟩ := vr
    exact ⟨a, _, rfl, q.imp (fun ⟨o, q, _⟩ => .inr ⟨o, q⟩) id, vrs_ints _⟩
  · cases e
theorem si_ok (hr : HR K H S h) {v : V} {u : Val} {vs : List Val} (vr : VR K H S v u) (e : seqItems u h = some vs) : ∃ a xs, v = .ref a ∧ (SqL K H a xs ∨ SqT K H a xs) ∧ VRs K H S xs vs := by
  unfold seqItems at e
  split at e
  · cases e
    cases vr with
    | tup l t => exact ⟨_, _, rfl, .inr l.sq, t.vrs⟩
  · obtain ⟨a, xs, e1, e2, e3⟩ := li_ok hr vr e
    exact ⟨a, xs, e1, .inl e2, e3⟩
theorem mkL_ok {Q : VK} {m : Bool} {vs : List Val} {xs : List V} (hr : HR K H S h) (vr : VRs K H S xs vs) {v : Val} {h' : Hh} (e : mkL m vs h = some (v, h'))
    (q : ∀ S' x H', Ext S H S' H' → HR K H' S' h' → VR K H' S' x v → Q x H') : ∀ p, H p = none → Q (.ref p) (upd H p (.lst xs)) := by
  intro p hp
  cases m with
  | true => cases e; exact q _ _ _ (ext_add hr hp) (hr.add hp vr) (vr_add hr)
  | false =>
    unfold mkL at e
    simp only at e
    split at e
    · cases e
    · rename_i ds h1 e1
      cases e
      obtain ⟨S1, x1, r1, d1⟩ := frzL_ok (frz_ok 8) vs h ds _ e1 S xs hr vr
      exact q S1 _ _ (x1.trans (ext_upd r1 hp)) (r1.upd hp) (new_list r1 hp d1)
theorem mkT_ok {Q : VK} {vs : List Val} {xs : List V} (hr : HR K H S h) (vr : VRs K H S xs vs) {v : Val} {h' : Hh} (e : mkT vs h = some (v, h'))
    (q : ∀ S' x H', Ext S H S' H' → HR K H' S' h' → VR K H' S' x v → Q x H') : ∀ p, H p = none → Q (.ref p) (upd H p (.tup xs)) := by
  intro p hp
  unfold mkT at e
  split at e
  · cases e
  · rename_i ds h1 e1
    cases e
    obtain ⟨S1, x1, r1, d1⟩ := frzL_ok (frz_ok 8) vs h ds _ e1 S xs hr vr
    exact q S1 _ _ (x1.trans (ext_upd r1 hp)) (r1.upd hp) (new_tup r1 hp d1)
end

/-! ### comparisons -/
def opEq : Op2 := fun u v h => match u, v with
  | .d (.int i), .d (.int j) => some (.d (.bool (decide (i = j))), h)
  | u, v => match view 8 u h, view 8 v h with
    | some x, some y => if dOk 60 x || dOk 60 y then some (.d (.bool (PyData.eqv x y)), h) else none
    | _, _ => none
def opNe : Op2 := fun u v h => match u, v with
  | .d (.int i), .d (.int j) => some (.d (.bool (!decide (i = j))), h)
  | u, v => match view 8 u h, view 8 v h with
    | some x, some y => if dOk 60 x || dOk 60 y then some (.d (.bool (!PyData.eqv x y)), h) else none
    | _, _ => none
def notNone : D → Bool
  | .none => false
  | _ => true
def opOrd (fi : Int → Int → Bool) (f : D → D → Bool) : Op2 := fun u v h => match u, v with
  | .d (.int i), .d (.int j) => some (.d (.bool (fi i j)), h)
  | u, v => match view 8 u h, view 8 v h with
    | some x, some y => if W.alike x y && notNone x && (dOk 60 x || dOk 60 y) then some (.d (.bool (f x y)), h) else none
    | _, _ => none
def opLt : Op2 := opOrd (fun i j => decide (i < j)) fun x y => W.dataLt x y
def opGt : Op2 := opOrd (fun i j => decide (j < i)) fun x y => W.dataLt y x
def opLe : Op2 := opOrd (fun i j => decide (i ≤ j)) fun x y => !W.dataLt y x
def opGe : Op2 := opOrd (fun i j => decide (j ≤ i)) fun x y => !W.dataLt x y
/-- x in c: a sign in a text; something in a list or tuple -/
def memV (u v : Val) (h : Hh) : Option Bool :=
  match u, v with
  | .d (.str x), .d (.str z) => match x.cps.toList with
    | [c] => some (decide (c ∈ z.cps.toList))
    | _ => none
  | u, v => match view 8 u h, view 8 v h with
    | some x, some (.list ys) => if dOk 60 x || dOkA 60 ys then some (ys.any fun y => PyData.eqv y x) else none
    | some x, some (.tuple ys) => if dOk 60 x || dOkA 60 ys then some (ys.any fun y => PyData.eqv y x) else none
    | _, _ => none
def opIn0 : Op2 := fun u v h => match memV u v h with
  | some b => some (.d (.bool b), h)
  | none => none
def opNotIn0 : Op2 := fun u v h => match memV u v h with
  | some b => some (.d (.bool (!b)), h)
  | none => none
def isNoneD : D → Bool
  | .none => true
  | _ => false
def isV (u v : Val) : Option Bool := match u, v with
  | .d x, .d .none => some (isNoneD x)
  | .loc _, .d .none => some false
  | .scr _, .d .none => some false
  | .d (.bool a), .d (.bool b) => some (decide (a = b))
  | _, _ => none
def opIs : Op2 := fun u v h => match isV u v with
  | some b => some (.d (.bool b), h)
  | none => none
def opIsNot : Op2 := fun u v h => match isV u v with
  | some b => some (.d (.bool (!b)), h)
  | none => none

section
variable {X : Cx}
theorem str_one {x : Str} {c : Nat} (h : x.cps.toList = [c]) : x = ⟨#[c]⟩ := by
  cases x with
  | mk cps => cases cps with | mk l => simp at h; simp [h]
theorem dec_vint (i j : Int) : decide (V.int i = V.int j) = decide (i = j) := by simp
theorem Gv.bl {K : PySem.W.Frag} {S : Sg} {H : Hp} {h h' : Hh} {Q : VK} {b : Bool} {v : Val} {r : Option (Val × Hh)} (g : Gv K S H r Q) (e : r = some (.d (.bool b), h)) (hr : HR K H S h) : Q (.bl b) H := by
  obtain ⟨w, h2, e2, q⟩ := g
  rw [e] at e2; cases e2
  exact q S _ H (.refl _ _) hr (Df.bl b)
theorem minle {a b : Nat} {x y : D} (h : (dOk 60 x || dOk 60 y) = true) : min x.depth y.depth ≤ 60 := by
  rcases Bool.or_eq_true_iff.mp h with h | h
  · exact Nat.le_trans (Nat.min_le_left _ _) (dOk_le _ _ h)
  · exact Nat.le_trans (Nat.min_le_right _ _) (dOk_le _ _ h)
theorem or_eq (hu : X.A.units + 200 < cLine) : OpR X (compareOp .Eq) (rOp X.K opEq) := by
  rintro pins s σ H x y v u Q I rx ry ⟨S, h, a, b, hr, va, vb, w, h', e, q⟩
  unfold opEq at e
  split at e
  · cases e; cases va; cases vb
    exact op_eq pins s σ H _ _ v u Q I rx ry ⟨rfl, by
      rw [dec_vint]; exact q S _ H (.refl _ _) hr (Df.bl _)⟩
  · split at e
    · rename_i dx dy ex ey
      split at e
      · rename_i hd
        cases e
        have px := view_ok hr 8 a dx ex _ va
        have py := view_ok hr 8 b dy ey _ vb
        obtain ⟨as, ra⟩ := Dp.reads I dx _ _ px rx
        obtain ⟨bs, rb⟩ := Dp.reads I dy _ _ py ry
        have := minle (a := 0) (b := 0) hd
        exact SeqAt.eq_plain ra rb (dp_plain px) (dp_plain py) (by omega) ⟨.bl _, H, I, rfl, q S _ H (.refl _ _) hr (Df.bl _)⟩
      · cases e
    · cases e
theorem or_ne (hu : X.A.units + 200 < cLine) : OpR X (compareOp .NotEq) (rOp X.K opNe) := by
  rintro pins s σ H x y v u Q I rx ry ⟨S, h, a, b, hr, va, vb, w, h', e, q⟩
  unfold opNe at e
  split at e
  · cases e; cases va; cases vb
    exact op_ne pins s σ H _ _ v u Q I rx ry ⟨rfl, by
      rw [dec_vint]; exact q S _ H (.refl _ _) hr (Df.bl _)⟩
  · split at e
    · rename_i dx dy ex ey
      split at e
      · rename_i hd
        cases e
        have px := view_ok hr 8 a dx ex _ va
        have py := view_ok hr 8 b dy ey _ vb
        obtain ⟨as, ra⟩ := Dp.reads I dx _ _ px rx
        obtain ⟨bs, rb⟩ := Dp.reads I dy _ _ py ry
        have := minle (a := 0) (b := 0) hd
        exact SeqAt.ne_plain ra rb (dp_plain px) (dp_plain py) (by omega) ⟨.bl _, H, I, rfl, q S _ H (.refl _ _) hr (Df.bl _)⟩
      · cases e
    · cases e
theorem or_ord (hu : X.A.units + 200 < cLine) {op : CmpOp} {fi : Int → Int → Bool} {f : D → D → Bool} (hi : OpR X (compareOp op) (rI0 fun i j => .bl (fi i j)))
    (hd : ∀ {E : Value → Shared → Prop} {s : Shared} {a b : Value} {da db : PyData} {as bs : List Addr} {Q : Value → Shared → Prop}, Reads s.heap a da as → Reads s.heap b db bs → W.alike da db = true → da ≠ .none →
      X.A.units + min da.depth db.depth < cLine → Q (.bool (f da db)) s → wpAny (model X.prog X.w) X.A (compareOp op a b) Q E s) : OpR X (compareOp op) (rOp X.K (opOrd fi f)) := by
  rintro pins s σ H x y v u Q I rx ry ⟨S, h, a, b, hr, va, vb, w, h', e, q⟩
  unfold opOrd at e
  split at e
  · cases e; cases va; cases vb
    exact hi pins s σ H _ _ v u Q I rx ry ⟨_, _, rfl, rfl, q S _ H (.refl _ _) hr (Df.bl _)⟩
  · split at e
    · rename_i dx dy ex ey
      split at e
      · rename_i hc
        cases e
        have px := view_ok hr 8 a dx ex _ va
        have py := view_ok hr 8 b dy ey _ vb
        obtain ⟨as, ra⟩ := Dp.reads I dx _ _ px rx
        obtain ⟨bs, rb⟩ := Dp.reads I dy _ _ py ry
        rw [Bool.and_eq_true, Bool.and_eq_true] at hc
        have := minle (a := 0) (b := 0) hc.2
        exact hd ra rb hc.1.1 (fun z => by rw [z] at hc; exact absurd hc.1.2 (by decide)) (by omega) ⟨.bl _, H, I, rfl, q S _ H (.refl _ _) hr (Df.bl _)⟩
      · cases e
    · cases e
theorem or_lt (hu : X.A.units + 200 < cLine) : OpR X (compareOp .Lt) (rOp X.K opLt) := or_ord hu op_lt fun a b c d e f => W.lt_data a b c d e f
theorem or_gt (hu : X.A.units + 200 < cLine) : OpR X (compareOp .Gt) (rOp X.K opGt) := or_ord hu op_gt fun a b c d e f => W.gt_data a b c d e f
theorem or_le (hu : X.A.units + 200 < cLine) : OpR X (compareOp .LtE) (rOp X.K opLe) := or_ord hu op_le fun a b c d e f => W.le_data a b c d e f
theorem or_ge (hu : X.A.units + 200 < cLine) : OpR X (compareOp .GtE) (rOp X.K opGe) := or_ord hu op_ge fun a b c d e f => W.ge_data a b c d e f
theorem or_in0 (hu : X.A.units + 200 < cLine) : OpR X (compareOp .In) (rOp X.K opIn0) := by
  rintro pins s σ H x y v u Q I rx ry ⟨S, h, a, b, hr, va, vb, w, h', e, q⟩
  unfold opIn0 at e
  split at e
  · rename_i k ek
    cases e
    have fin := q S _ H (.refl _ _) hr (Df.bl k)
    unfold memV at ek
    split at ek
    · split at ek
      · rename_i c ec
        cases ek; cases va; cases vb
        exact op_in_sign pins s σ H _ _ v u Q I rx ry ⟨c, _, congrArg V.str (str_one ec), rfl, fin⟩
      · cases ek
    · split at ek
      · rename_i dx ys ex ey
        split at ek
        · rename_i hd
          cases ek
          have px := view_ok hr 8 a dx ex _ va
          have py := view_ok hr 8 b _ ey _ vb
          obtain ⟨as, ra⟩ := Dp.reads I dx _ _ px rx
          obtain ⟨bs, rb⟩ := Dp.reads I _ _ _ py ry
          refine SeqAt.in_list_data rb ra (dp_plain py) (dp_plain px) ?_ ⟨.bl _, H, I, rfl, fin⟩
          rcases Bool.or_eq_true_iff.mp hd with z | z
          · have := dOk_le _ _ z; have := Nat.min_le_right (PyData.depthAll ys) dx.depth; omega
          · have := dOkA_le _ _ z; have := Nat.min_le_left (PyData.depthAll ys) dx.depth; omega
        · cases ek
      · rename_i dx ys ex ey
        split at ek
        · rename_i hd
          cases ek
          have px := view_ok hr 8 a dx ex _ va
          have py := view_ok hr 8 b _ ey _ vb
          obtain ⟨as, ra⟩ := Dp.reads I dx _ _ px rx
          obtain ⟨bs, rb⟩ := Dp.reads I _ _ _ py ry
          refine SeqAt.in_tuple_data rb ra (dp_plain py) (dp_plain px) ?_ ⟨.bl _, H, I, rfl, fin⟩
          rcases Bool.or_eq_true_iff.mp hd with z | z
          · have := dOk_le _ _ z; have := Nat.min_le_right (PyData.depthAll ys) dx.depth; omega
          · have := dOkA_le _ _ z; have := Nat.min_le_left (PyData.depthAll ys) dx.depth; omega
        · cases ek
      · cases ek
  · cases e
theorem or_notIn0 (hu : X.A.units + 200 < cLine) : OpR X (compareOp .NotIn) (rOp X.K opNotIn0) := by
  rintro pins s σ H x y v u Q I rx ry ⟨S, h, a, b, hr, va, vb, w, h', e, q⟩
  unfold opNotIn0 at e
  split at e
  · rename_i k ek
    cases e
    have fin := q S _ H (.refl _ _) hr (Df.bl (!k))
    unfold memV at ek
    split at ek
    · split at ek
      · rename_i c ec
        cases ek; cases va; cases vb
        exact op_notIn_sign pins s σ H _ _ v u Q I rx ry ⟨c, _, congrArg V.str (str_one ec), rfl, fin⟩
      · cases ek
    · split at ek
      · rename_i dx ys ex ey
        split at ek
        · rename_i hd
          cases ek
          have px := view_ok hr 8 a dx ex _ va
          have py := view_ok hr 8 b _ ey _ vb
          obtain ⟨as, ra⟩ := Dp.reads I dx _ _ px rx
          obtain ⟨bs, rb⟩ := Dp.reads I _ _ _ py ry
          refine SeqAt.notIn_list_data rb ra (dp_plain py) (dp_plain px) ?_ ⟨.bl _, H, I, rfl, fin⟩
          rcases Bool.or_eq_true_iff.mp hd with z | z
          · have := dOk_le _ _ z; have := Nat.min_le_right (PyData.depthAll ys) dx.depth; omega
          · have := dOkA_le _ _ z; have := Nat.min_le_left (PyData.depthAll ys) dx.depth; omega
        · cases ek
      · rename_i dx ys ex ey
        split at ek
        · rename_i hd
          cases ek
          have px := view_ok hr 8 a dx ex _ va
          have py := view_ok hr 8 b _ ey _ vb
          obtain ⟨as, ra⟩ := Dp.reads I dx _ _ px rx
          obtain ⟨bs, rb⟩ := Dp.reads I _ _ _ py ry
          refine SeqAt.notIn_tuple_data rb ra (dp_plain py) (dp_plain px) ?_ ⟨.bl _, H, I, rfl, fin⟩
          rcases Bool.or_eq_true_iff.mp hd with z | z
          · have := dOk_le _ _ z; have := Nat.min_le_right (PyData.depthAll ys) dx.depth; omega
          · have := dOkA_le _ _ z; have := Nat.min_le_left (PyData.depthAll ys) dx.depth; omega
        · cases ek
      · cases ek
  · cases e
theorem isNone_dec {K : PySem.W.Frag} {H : Hp} {S : Sg} {x : D} {v : V} (h : Df K H S v x) : isNoneD x = decide (v = V.non) := by
  cases h <;> simp [isNoneD]
theorem is_ok {K : PySem.W.Frag} {H : Hp} {S : Sg} {u v : Val} {x y : V} {k : Bool} (e : isV u v = some k) (vu : VR K H S x u) (vv : VR K H S y v) :
    (y = .non ∧ k = decide (x = V.non)) ∨ ∃ a b, x = .bl a ∧ y = .bl b ∧ k = decide (a = b) := by
  unfold isV at e
  split at e
  · cases e; cases vv; exact .inl ⟨rfl, isNone_dec vu⟩
  · cases e; cases vv; obtain ⟨a, b, _, rfl⟩ := vu; exact .inl ⟨rfl, by simp⟩
  · cases e; cases vv; obtain ⟨a, rfl, _⟩ := vu; exact .inl ⟨rfl, by simp⟩
  · cases e; cases vv; cases vu; exact .inr ⟨_, _, rfl, rfl, rfl⟩
  · cases e
theorem or_is : OpR X (compareOp .Is) (rOp X.K opIs) := by
  rintro pins s σ H x y v u Q I rx ry ⟨S, h, a, b, hr, va, vb, w, h', e, q⟩
  unfold opIs at e
  split at e
  · rename_i k ek
    cases e
    have fin := q S _ H (.refl _ _) hr (Df.bl k)
    rcases is_ok ek va vb with ⟨rfl, rfl⟩ | ⟨c, d, rfl, rfl, rfl⟩
    · exact op_isN pins s σ H _ _ v u Q I rx ry ⟨rfl, fin⟩
    · exact op_is_bl pins s σ H _ _ v u Q I rx ry ⟨c, d, rfl, rfl, fin⟩
  · cases e
theorem or_isNot : OpR X (compareOp .IsNot) (rOp X.K opIsNot) := by
  rintro pins s σ H x y v u Q I rx ry ⟨S, h, a, b, hr, va, vb, w, h', e, q⟩
  unfold opIsNot at e
  split at e
  · rename_i k ek
    cases e
    have fin := q S _ H (.refl _ _) hr (Df.bl (!k))
    rcases is_ok ek va vb with ⟨rfl, rfl⟩ | ⟨c, d, rfl, rfl, rfl⟩
    · exact op_notN pins s σ H _ _ v u Q I rx ry ⟨rfl, fin⟩
    · exact op_isnot_bl pins s σ H _ _ v u Q I rx ry ⟨c, d, rfl, rfl, fin⟩
  · cases e
end
end MP

/-! MPe: arithmetic, concatenation. -/
namespace MP
open PySem PySem.Spec PyProof.Rows L2

def smI (i : Int) : Bool := Nat.blt i.natAbs 18446744073709551616
def opAdd (m : Bool) : Op2 := fun u v h => match u, v with
  | .d (.int i), .d (.int j) => some (.d (.int (i + j)), h)
  | .d (.str a), .d (.str b) => if a.length + b.length ≤ sizeLine then some (.d (.str (a ++ b)), h) else none
  | .d (.tuple xs), .d (.tuple ys) => if xs.length + ys.length ≤ sizeLine then some (.d (.tuple (xs ++ ys)), h) else none
  | u, v => match listItems u h, listItems v h with
    | some xs, some ys => if xs.length + ys.length ≤ sizeLine then mkL m (xs ++ ys) h else none
    | _, _ => none
def opSub : Op2 := fun u v h => match u, v with
  | .d (.int i), .d (.int j) => some (.d (.int (i - j)), h)
  | _, _ => none
def mulOk (i j : Int) : Bool := smI i || smI j || Nat.blt (i.natAbs.log2 + j.natAbs.log2) 1000000
def opMul (m : Bool) : Op2 := fun u v h => match u, v with
  | .d (.int i), .d (.int j) => if mulOk i j then some (.d (.int (i * j)), h) else none
  | .d (.list ds), .d (.int k) => if smI (2 * k) && Nat.ble (ds.length * k.toNat) sizeLine then mkL m ((List.replicate k.toNat (ds.map .d)).flatten) h else none
  | .d (.tuple ds), .d (.int k) => if !ds.isEmpty && decide (2 ≤ k) && decide (k ≤ 1000) && Nat.ble ds.length 1000 then some (.d (.tuple (List.replicate k.toNat ds).flatten), h) else none
  | _, _ => none
def opFdiv : Op2 := fun u v h => match u, v with
  | .d (.int i), .d (.int j) => if decide (0 < j) && Nat.blt j.natAbs.log2 9000 then some (.d (.int (i / j)), h)
    else if decide (j ≠ 0) && Nat.blt j.natAbs 1073741824 then some (.d (.int (i.fdiv j)), h) else none
  | _, _ => none
def opMod : Op2 := fun u v h => match u, v with
  | .d (.int i), .d (.int j) => if decide (0 < j) then some (.d (.int (i % j)), h) else if decide (j ≠ 0) then some (.d (.int (i.fmod j)), h) else none
  | _, _ => none
def powOk (i j : Int) : Bool := decide (0 ≤ j) && decide (j ≤ 1000000) && smI i
def opPow : Op2 := fun u v h => match u, v with
  | .d (.int i), .d (.int j) => if powOk i j then some (.d (.int (i ^ j.toNat)), h) else none
  | _, _ => none
def opShl : Op2 := fun u v h => match u, v with
  | .d (.int i), .d (.int j) => if powOk i j then some (.d (.int (i * 2 ^ j.toNat)), h) else none
  | _, _ => none
def opShr : Op2 := fun u v h => match u, v with
  | .d (.int i), .d (.int j) => if decide (0 ≤ j) then some (.d (.int (i / 2 ^ j.toNat)), h) else none
  | _, _ => none
def opAnd : Op2 := fun u v h => match u, v with
  | .d (.int i), .d (.int j) => some (.d (.int (Builtin.bitAnd i j)), h)
  | _, _ => none
def opNeg : Val → Hh → Option (Val × Hh) := fun u h => match u with
  | .d (.int i) => some (.d (.int (-i)), h)
  | _ => none

theorem smI_iff {i : Int} (h : smI i = true) : i.natAbs < 2 ^ 64 := by
  unfold smI at h
  have := Nat.ble_eq.mp h
  have e : (2 : Nat) ^ 64 = 18446744073709551616 := by decide
  omega
section
variable {X : Cx}
theorem cat_lists {P : Program} {w : World} {A : Around} {E : Value → Shared → Prop} {s : Shared} {l b : Addr} {vs ws : List Value} {Q : Value → Shared → Prop} (hl : s.heap.IsList l vs.toArray) (hb : s.heap.IsList b ws.toArray)
    (h : Q (.ref s.heap.objs.size) { s with heap := s.heap.push { cls := .type "list", data := .seq (vs ++ ws).toArray } }) (hsz : vs.length + ws.length ≤ sizeLine) :
    wpAny (model P w) A (binaryOp .Add (.ref l) (.ref b)) Q E s := by
  obtain ⟨o1, g1, c1, n1, d1⟩ := hl
  obtain ⟨o2, g2, c2, n2, d2⟩ := hb
  cases o1 with
  | mk k1 dd1 da1 sl1 =>
    cases o2 with
    | mk k2 dd2 da2 sl2 =>
      cases (show k1 = _ from c1); cases (show k2 = _ from c2); cases (show da1 = _ from d1); cases (show da2 = _ from d2)
      refine concat_meets ⟨_, g1, rfl⟩ ⟨_, g2, rfl⟩ noFill_list_add seq_list_add PySem.F.slot_list_add PySem.F.entry_list_add
        (PySem.F.args_list_add_2 _ _) (list_addW l b _ _ n1 n2 dd1 dd2 sl1 sl2 (by simpa using hsz)) ⟨g1, g2, ?_⟩
      have ea : vs.toArray ++ ws.toArray = (vs ++ ws).toArray := by simp
      rw [ea]
      exact h
theorem paired_len {α β : Type} {F : α → β → Prop} {xs : List α} {ys : List β} (h : Paired F xs ys) : xs.length = ys.length := Paired.length h
theorem VRs.app {K : PySem.W.Frag} {H : Hp} {S : Sg} : ∀ {xs ys : List V} {us vs : List Val}, VRs K H S xs us → VRs K H S ys vs → VRs K H S (xs ++ ys) (us ++ vs)
  | _, _, _, _, .nil, s => s
  | _, _, _, _, .cons r t, s => .cons r (VRs.app t s)
theorem DfA.app {K : PySem.W.Frag} {H : Hp} {S : Sg} : ∀ {us vs : List D} {xs ys : List V}, DfA K H S xs us → DfA K H S ys vs → DfA K H S (xs ++ ys) (us ++ vs)
  | [], _, _, _, h, s => by cases h; exact s
  | _ :: _, _, _, _, h, s => by cases h with | cons a b => exact .cons a (DfA.app b s)
theorem VRs.rep {K : PySem.W.Frag} {H : Hp} {S : Sg} {xs : List V} {us : List Val} (r : VRs K H S xs us) : ∀ n, VRs K H S (List.replicate n xs).flatten (List.replicate n us).flatten
  | 0 => .nil
  | n + 1 => by rw [List.replicate_succ, List.replicate_succ, List.flatten_cons, List.flatten_cons]; exact VRs.app r (VRs.rep r n)
theorem ob_add (m : Bool) : OpR X (binaryOp .Add) (rOp X.K (opAdd m)) := by
  rintro pins s σ H x y v u Q I rx ry ⟨S, h, a, b, hr, va, vb, w, h', e, q⟩
  unfold opAdd at e
  split at e
  · cases e; cases va; cases vb
    exact op_add pins s σ H _ _ v u Q I rx ry ⟨_, _, rfl, rfl, q S _ H (.refl _ _) hr (Df.int _)⟩
  · split at e
    · rename_i hz
      cases e; cases va; cases vb
      exact op_add_str pins s σ H _ _ v u Q I rx ry ⟨_, _, rfl, rfl, hz, q S _ H (.refl _ _) hr (Df.str _)⟩
    · cases e
  · split at e
    · rename_i hz
      cases e
      cases va with
      | tup l1 t1 =>
        cases vb with
        | tup l2 t2 =>
          have n1 := t1.len
          have n2 := t2.len
          refine op_catA pins s σ H _ _ v u Q I rx ry ⟨_, _, _, _, rfl, rfl, l1.sq, l2.sq, by rw [n1, n2]; exact hz, fun z => ?_, fun _ z => ?_, fun _ _ p hp => ?_⟩
          · subst z; cases t1; exact q S _ H (.refl _ _) hr (Df.tup l2 t2)
          · subst z; cases t2; rw [List.append_nil] at q; exact q S _ H (.refl _ _) hr (Df.tup l1 t1)
          · exact q S _ _ (ext_upd hr hp) (hr.upd hp) (new_tup hr hp (t1.app t2))
    · cases e
  · split at e
    · rename_i xs ys ex ey
      split at e
      · rename_i hz
        obtain ⟨a1, zs, rfl, s1, v1⟩ := li_ok hr va ex
        obtain ⟨b1, ws, rfl, s2, v2⟩ := li_ok hr vb ey
        cases rx; cases ry
        obtain ⟨is1, r1, p1, z1⟩ := I.list s1
        obtain ⟨is2, r2, p2, z2⟩ := I.list s2
        have e1 := paired_len v1
        have e2 := paired_len v2
        have e3 := r1.length
        have e4 := r2.length
        refine cat_lists p1.isList p2.isList ?_ (by omega)
        exact ⟨.ref s.heap.objs.size, _, I.lnew (t' := s.toks) (r1.append r2) (by rw [List.length_append]; omega), rfl, mkL_ok hr (VRs.app v1 v2) e q _ I.fresh⟩
      · cases e
    · cases e
theorem ob_sub : OpR X (binaryOp .Sub) (rOp X.K opSub) := by
  rintro pins s σ H x y v u Q I rx ry ⟨S, h, a, b, hr, va, vb, w, h', e, q⟩
  unfold opSub at e
  split at e
  · cases e; cases va; cases vb
    exact op_sub pins s σ H _ _ v u Q I rx ry ⟨_, _, rfl, rfl, q S _ H (.refl _ _) hr (Df.int _)⟩
  · cases e
theorem DfA.rep {K : PySem.W.Frag} {H : Hp} {S : Sg} {xs : List V} {ds : List D} (t : DfA K H S xs ds) : ∀ n : Nat, DfA K H S (List.replicate n xs).flatten (List.replicate n ds).flatten
  | 0 => .nil
  | n + 1 => by rw [List.replicate_succ, List.replicate_succ, List.flatten_cons, List.flatten_cons]; exact t.app (DfA.rep t n)
theorem ob_mul (m : Bool) : OpR X (binaryOp .Mult) (rOp X.K (opMul m)) := by
  rintro pins s σ H x y v u Q I rx ry ⟨S, h, a, b, hr, va, vb, w, h', e, q⟩
  unfold opMul at e
  split at e
  · split at e
    · rename_i hc
      cases e; cases va; cases vb
      have fin := q S _ H (.refl _ _) hr (Df.int _)
      unfold mulOk at hc
      rw [Bool.or_eq_true, Bool.or_eq_true] at hc
      rcases hc with (hc | hc) | hc
      · have := smI_iff hc
        exact op_mul pins s σ H _ _ v u Q I rx ry ⟨_, _, rfl, rfl, .inl (by constructor <;> omega), fin⟩
      · have := smI_iff hc
        exact op_mul pins s σ H _ _ v u Q I rx ry ⟨_, _, rfl, rfl, .inr (by constructor <;> omega), fin⟩
      · exact op_mulW pins s σ H _ _ v u Q I rx ry ⟨_, _, rfl, rfl, Nat.lt_of_lt_of_le (Nat.lt_of_succ_le (Nat.ble_eq.mp hc)) (Nat.le_refl _), fin⟩
    · cases e
  · split at e
    · rename_i ds k hc
      rw [Bool.and_eq_true] at hc
      have hk := smI_iff hc.1
      have hl := Nat.ble_eq.mp hc.2
      cases vb
      cases va with
      | lst l t =>
        have n1 := t.len
        exact op_rep pins s σ H _ _ v u Q I rx ry ⟨_, _, _, rfl, rfl, l.1, by omega, by omega, by rw [n1]; exact hl, mkL_ok hr (VRs.rep t.vrs _) e q⟩
    · cases e
  · split at e
    · rename_i ds k hc
      simp only [Bool.and_eq_true, decide_eq_true_eq] at hc
      obtain ⟨⟨⟨hne, h2⟩, h3⟩, h4⟩ := hc
      have hl := Nat.ble_eq.mp h4
      cases vb
      cases e
      cases va with
      | tup l t =>
        have n1 := t.len
        refine op_repT pins s σ H _ _ v u Q I rx ry ⟨_, _, _, rfl, rfl, l.sq, fun z => ?_, h2, h3, by rw [n1]; exact hl, fun p hp => q S _ _ (ext_upd hr hp) (hr.upd hp) (new_tup hr hp (DfA.rep t _))⟩
        rw [z] at n1
        cases ds with
        | nil => simp at hne
        | cons a b => simp at n1
    · cases e
  · cases e
theorem ob_fdiv : OpR X (binaryOp .FloorDiv) (rOp X.K opFdiv) := by
  rintro pins s σ H x y v u Q I rx ry ⟨S, h, a, b, hr, va, vb, w, h', e, q⟩
  unfold opFdiv at e
  split at e
  · split at e
    · rename_i hc
      cases e; cases va; cases vb
      rw [Bool.and_eq_true, decide_eq_true_eq] at hc
      exact op_fdivW pins s σ H _ _ v u Q I rx ry ⟨_, _, rfl, rfl, ⟨hc.1, Nat.lt_of_succ_le (Nat.ble_eq.mp hc.2)⟩, q S _ H (.refl _ _) hr (Df.int _)⟩
    · split at e
      · rename_i hc
        cases e; cases va; cases vb
        rw [Bool.and_eq_true, decide_eq_true_eq] at hc
        exact op_fdivN pins s σ H _ _ v u Q I rx ry ⟨_, _, rfl, rfl, ⟨hc.1, Nat.lt_of_succ_le (Nat.ble_eq.mp hc.2)⟩, q S _ H (.refl _ _) hr (Df.int _)⟩
      · cases e
  · cases e
theorem ob_mod : OpR X (binaryOp .Mod) (rOp X.K opMod) := by
  rintro pins s σ H x y v u Q I rx ry ⟨S, h, a, b, hr, va, vb, w, h', e, q⟩
  unfold opMod at e
  split at e
  · split at e
    · rename_i hc
      cases e; cases va; cases vb
      exact op_mod pins s σ H _ _ v u Q I rx ry ⟨_, _, rfl, rfl, of_decide_eq_true hc, q S _ H (.refl _ _) hr (Df.int _)⟩
    · split at e
      · rename_i hc
        cases e; cases va; cases vb
        exact op_modN pins s σ H _ _ v u Q I rx ry ⟨_, _, rfl, rfl, of_decide_eq_true hc, q S _ H (.refl _ _) hr (Df.int _)⟩
      · cases e
  · cases e
theorem powOk_iff {i j : Int} (h : powOk i j = true) : CPow i j := by
  unfold powOk at h
  rw [Bool.and_eq_true, Bool.and_eq_true, decide_eq_true_eq, decide_eq_true_eq] at h
  exact ⟨h.1.1, h.1.2, smI_iff h.2⟩
theorem ob_pow : OpR X (binaryOp .Pow) (rOp X.K opPow) := by
  rintro pins s σ H x y v u Q I rx ry ⟨S, h, a, b, hr, va, vb, w, h', e, q⟩
  unfold opPow at e
  split at e
  · split at e
    · rename_i hc
      cases e; cases va; cases vb
      exact op_pow pins s σ H _ _ v u Q I rx ry ⟨_, _, rfl, rfl, powOk_iff hc, q S _ H (.refl _ _) hr (Df.int _)⟩
    · cases e
  · cases e
theorem ob_shl : OpR X (binaryOp .LShift) (rOp X.K opShl) := by
  rintro pins s σ H x y v u Q I rx ry ⟨S, h, a, b, hr, va, vb, w, h', e, q⟩
  unfold opShl at e
  split at e
  · split at e
    · rename_i hc
      cases e; cases va; cases vb
      exact op_shl pins s σ H _ _ v u Q I rx ry ⟨_, _, rfl, rfl, powOk_iff hc, q S _ H (.refl _ _) hr (Df.int _)⟩
    · cases e
  · cases e
theorem ob_shr : OpR X (binaryOp .RShift) (rOp X.K opShr) := by
  rintro pins s σ H x y v u Q I rx ry ⟨S, h, a, b, hr, va, vb, w, h', e, q⟩
  unfold opShr at e
  split at e
  · split at e
    · rename_i hc
      cases e; cases va; cases vb
      exact op_shr pins s σ H _ _ v u Q I rx ry ⟨_, _, rfl, rfl, of_decide_eq_true hc, q S _ H (.refl _ _) hr (Df.int _)⟩
    · cases e
  · cases e
theorem ob_and : OpR X (binaryOp .BitAnd) (rOp X.K opAnd) := by
  rintro pins s σ H x y v u Q I rx ry ⟨S, h, a, b, hr, va, vb, w, h', e, q⟩
  unfold opAnd at e
  split at e
  · cases e; cases va; cases vb
    exact op_and pins s σ H _ _ v u Q I rx ry ⟨_, _, rfl, rfl, q S _ H (.refl _ _) hr (Df.int _)⟩
  · cases e
theorem ub_neg : UnR X (unaryOp .USub) (rUn X.K opNeg) := by
  rintro pins s σ H x v Q I rx ⟨S, h, a, hr, va, w, h', e, q⟩
  unfold opNeg at e
  split at e
  · cases e; cases va
    exact un_neg pins s σ H _ v Q I rx ⟨_, rfl, q S _ H (.refl _ _) hr (Df.int _)⟩
  · cases e
end
end MP

/-! MPf: sorted of anything that is collected. -/
namespace MP
open PySem PySem.Spec PyProof.Rows L2

section
variable {P : Program} {w : World} {X : Cx} {pins : List (Addr × Obj)} {σ : L2.St} {H : Hp} {s : Shared} {h' : Heap} {a : Addr} {o : HO}
theorem there_of (x : HOk P w H s.heap) (e : H a = some o) : ∃ u, s.heap.get? a = some u := by
  have go : ∀ o, ObjOk P w H s.heap a o → ∃ u, s.heap.get? a = some u := by
    intro o
    induction o with
    | lst xs => rintro ⟨_, _, _, _, e⟩; exact ⟨_, e⟩
    | tup xs => rintro ⟨_, _, _, _, e, _⟩; exact ⟨_, e⟩
    | dK kvs => rintro ⟨_, _, _, _, _, _, _, e, _⟩; exact ⟨_, e⟩
    | dT kvs => rintro ⟨_, _, _, _, _, _, _, e, _⟩; exact ⟨_, e⟩
    | set S n => rintro ⟨_, _, _, _, e, _⟩; exact ⟨_, e⟩
    | ins C dx fs => rintro ⟨_, _, _, e, _⟩; exact ⟨_, e⟩
    | own y => exact id
    | xd fs => rintro ⟨_, ⟨_, _, _, e, _⟩, _⟩; exact ⟨_, e⟩
    | rng lo hi => rintro ⟨_, _, _, e⟩; exact ⟨_, e⟩
    | frz ob u ih => rintro ⟨e, _⟩; exact ⟨_, e⟩
    | tbl ps => intro e; exact ⟨_, e⟩
    | met f y => intro e; exact ⟨_, e⟩
    | ext φ => rintro ⟨_, e, _⟩; exact e
  exact go o (x a o e)
theorem fresh_of (I : L2.Inv X pins σ H s) {h1 : Heap} (k : ∀ b u, s.heap.get? b = some u → h1.get? b = some u) {p : Addr} (hp : h1.objs.size ≤ p) : H p = none ∧ s.heap.get? p = none := by
  have n : s.heap.get? p = none := by
    cases q : s.heap.get? p with
    | none => rfl
    | some u => exact absurd (Heap.lt_size (k p u q)) (Nat.not_lt_of_le hp)
  refine ⟨?_, n⟩
  cases q : H p with
  | none => rfl
  | some u => obtain ⟨v, e⟩ := there_of I.hok q; rw [n] at e; cases e
/-- a new object, at an address where nothing stood -/
theorem laid_at {t' : Nat} (I : L2.Inv X pins σ H s) (k : ∀ b u, s.heap.get? b = some u → h'.get? b = some u) (hn : H a = none) (hg : s.heap.get? a = none) (new : ObjOk X.prog X.w (upd H a o) h' a o) :
    L2.Inv X pins σ (upd H a o) { s with heap := h', toks := t' } := by
  have ne : ∀ {b : Addr} {u : HO}, H b = some u → b ≠ a := fun q => ne_of_none q hn
  refine I.un ⟨fun b u q _ _ _ => k b u q, fun b u q _ _ _ => ⟨u.slots, k b u q⟩, fun b u q n _ => ?_, fun b u q _ => ⟨u, k b u q⟩, fun b xs q => ?_, fun b u xs q => ?_, fun b ps q => ⟨#[], ?_⟩⟩ fun b u q => ?_
  · rw [upd_ne (fun z => by rw [z, hg] at q; cases q)]; exact n
  · rw [upd_ne (ne q)]; exact q
  · rw [upd_ne (ne q)]; exact q
  · rw [upd_ne (ne q), q]; simp
  · by_cases hb : b = a
    · subst hb; rw [upd_same] at q; cases q; exact new
    · rw [upd_ne hb] at q
      exact (I.hok b u q).stay (fun c v _ z => k c v z) (fun c z => by rw [upd_ne (ne z)]; exact z) fun c xs z => by rw [upd_ne (ne z)]; exact z
end
/-- the items that collect gives -/
def Collects (P : Program) (w : World) (s : Shared) (v : Value) (vs : List Value) : Prop :=
  ∀ (A : Around) (E : Value → Shared → Prop) (Q : List Value → Shared → Prop), A.handled = none → (∀ h', (∀ b o, s.heap.get? b = some o → h'.get? b = some o) → Q vs { s with heap := h' }) → wpAny (model P w) A (collect v) Q E s
theorem collects_seq {P : Program} {w : World} {s : Shared} {a : Addr} {its : List Value} (h : s.heap.IsList a its.toArray ∨ s.heap.IsTuple a its.toArray) (hz : its.length ≤ sizeLine) : Collects P w s (.ref a) its := by
  intro A E Q _ q
  rcases h with h | h
  · obtain ⟨o, g, c, n, d⟩ := h
    exact wpAny_collect_seq a (.inl rfl) g c d (by simpa using q) (by simpa using hz)
  · obtain ⟨o, g, c, n, d⟩ := h
    exact wpAny_collect_seq a (.inr rfl) g c d (by simpa using q) (by simpa using hz)
theorem sorted_core {P : Program} {w : World} {A : Around} {E : Value → Shared → Prop} {s : Shared} {v : Value} {vs : List Value} {P' : List Value → Prop} {Q : Value → Shared → Prop} (hh : A.handled = none) (hc : Collects P w s v vs) (hL : vs.length ≤ sizeLine)
    (hS : ∀ h', (∀ b o, s.heap.get? b = some o → h'.get? b = some o) → ∃ κ, W.SortsAt P w A.in1.in1 { s with heap := h' } κ vs ∧ P' (W.sortVals κ false vs vs))
    (q : ∀ (a : Addr) (e : Nat) (h1 h' : Heap) (out : List Value), P' out → (∀ b o, s.heap.get? b = some o → h1.get? b = some o) → h1.objs.size ≤ a → h'.get? a = some (seqObj "list" out.toArray e) → (∀ b o, s.heap.get? b = some o → h'.get? b = some o) → Q (.ref a) { s with heap := h' }) :
    wpAny (model P w) A (call (.builtin "sorted") [v]) Q E s := by
  refine call_function_entry_kw kind_sorted plain_sorted entry_sorted (args_sorted1 _) ?_
  unfold Builtin.«sorted»
  refine wpAny_bind (m := checkCount "sorted" 1 1 _) (wpAny_pure ?_)
  refine wpAny_bind (hc _ _ _ hh fun h1 k1 => ?_)
  refine wpAny_bind (wpAny_newList ?_ hL)
  have g2 : (h1.push (seqObj "list" vs.toArray 0)).get? h1.objs.size = some (seqObj "list" vs.toArray 0) := Heap.get?_push_size _ rfl
  have k2 : ∀ b o, h1.get? b = some o → (h1.push (seqObj "list" vs.toArray 0)).get? b = some o := fun b o e => Heap.get?_push_of_some _ e
  refine wpAny_bind (wpAny_holding (wpAny_call_entry_kw slot_list_sort ⟨_, g2, rfl⟩ entry_list_sort ?body (args_list_sort _)))
  case body =>
    obtain ⟨κ, hκ, hP⟩ := hS (W.sortingHeap (h1.push (seqObj "list" vs.toArray 0)) h1.objs.size vs) fun b o e => W.sortingHeap_old (Nat.ne_of_lt (Heap.lt_size (k1 b o e))) (k2 b o (k1 b o e))
    refine W.list_sort_vals (κ := κ) (s := { s with heap := h1.push (seqObj "list" vs.toArray 0) }) g2 hκ hL ⟨_, rfl, wpAny_pure ⟨_, rfl, ?_⟩⟩
    obtain ⟨e, ge⟩ := sortedHeap_at (out := (W.sortVals κ false vs vs).toArray) g2
    refine q h1.objs.size e h1 _ _ hP k1 (Nat.le_refl _) ge fun b o e => ?_
    exact (sortedHeap_old (Nat.ne_of_lt (Heap.lt_size (k1 b o e))) (Heap.lt_size (k2 b o (k1 b o e)))).trans (k2 b o (k1 b o e))
/-! ### sorted of data -/
def alikeB (ds : List D) : Bool := ds.all fun x => ds.all fun y => W.alike x y
def sortableB (ds : List D) : Bool := (ds.all fun x => match x with | .tuple (_ :: _) => true | _ => false) || ds.all fun x => match x with | .none => false | .tuple _ => false | _ => true
def sortD (ds : List D) : List D := ds.mergeSort (W.dataLe false id)
def dsOf : List Val → Option (List D)
  | [] => some []
  | .d x :: vs => match dsOf vs with
    | some xs => some (x :: xs)
    | none => none
  | _ :: _ => none
theorem dsOf_eq : ∀ {vs : List Val} {ds : List D}, dsOf vs = some ds → vs = ds.map .d
  | [], _, h => by cases h; rfl
  | .d x :: vs, ds, h => by
    unfold dsOf at h
    cases e : dsOf vs with
    | none => rw [e] at h; cases h
    | some xs => rw [e] at h; cases h; rw [dsOf_eq e]; rfl
  | .loc _ :: _, _, h => by cases h
  | .scr _ :: _, _, h => by cases h
def sortData (m : Bool) (ds : List D) (h : Hh) : Option (Val × Hh) :=
  if alikeB ds && sortableB ds && dOkA 60 ds then mkL m ((sortD ds).map .d) h else none
def opSorted (m : Bool) : OpN := fun vs h => match vs with
  | [v] => match seqItems v h with
    | some us => match dsOf us with
      | some ds => sortData m ds h
      | none => none
    | none => none
  | _ => none
theorem sortable_of {ds : List D} (h : sortableB ds = true) : W.Sortable ds := by
  rcases Bool.or_eq_true_iff.mp h with h | h
  · left
    intro d hd
    have := List.all_eq_true.mp h d hd
    cases d with
    | tuple xs => cases xs with
      | nil => cases this
      | cons x r => exact ⟨x, r, rfl⟩
    | _ => cases this
  · right
    intro d hd
    have := List.all_eq_true.mp h d hd
    refine ⟨fun z => ?_, fun xs z => ?_⟩
    · subst z; cases this
    · subst z; cases this
theorem alike_of {ds : List D} (h : alikeB ds = true) : W.AllAlike ds := fun d hd d' hd' => List.all_eq_true.mp (List.all_eq_true.mp h d hd) d' hd'
theorem each_of {α β : Type} {R : α → β → Prop} : ∀ {xs : List α} {ys : List β}, Paired R xs ys → W.EachIs R xs ys
  | _, _, .nil => .nil
  | _, _, .cons a b => .cons a (each_of b)
theorem paired_of {α β : Type} {R : α → β → Prop} : ∀ {xs : List α} {ys : List β}, W.EachIs R xs ys → Paired R xs ys
  | _, _, .nil => .nil
  | _, _, .cons a b => .cons a (paired_of b)
theorem dOkA_mem : ∀ {ds : List D} {d : D} {n : Nat}, dOkA n ds = true → d ∈ ds → dOk n d = true
  | x :: xs, d, n, h, hm => by
    simp only [dOkA, Bool.and_eq_true] at h
    rcases List.mem_cons.mp hm with rfl | hm
    · exact h.1
    · exact dOkA_mem h.2 hm
section
variable {X : Cx}
/-- items that stand for data: an abstract and a datum each -/
theorem three {K : PySem.W.Frag} {H : Hp} {S : Sg} : ∀ {xs : List V} {us : List Value} {ds : List D}, Vals xs us → DfA K H S xs ds → Paired (fun (u : Value) (d : D) => ∃ x, RelV x u ∧ Df K H S x d) us ds
  | _, _, [], r, h => by cases h; cases r; exact .nil
  | _, _, d :: ds, r, h => by
    cases h with
    | cons a b => cases r with | cons p q => exact .cons ⟨_, p, a⟩ (three q b)
theorem un_three {K : PySem.W.Frag} {H : Hp} {S : Sg} : ∀ {us : List Value} {ds : List D}, Paired (fun (u : Value) (d : D) => ∃ x, RelV x u ∧ Df K H S x d) us ds → ∃ xs, Vals xs us ∧ DfA K H S xs ds
  | _, _, .nil => ⟨[], .nil, .nil⟩
  | _, _, .cons ⟨x, r, d⟩ t => let ⟨xs, r', d'⟩ := un_three t; ⟨x :: xs, .cons r r', .cons d d'⟩
theorem vrs_ds {K : PySem.W.Frag} {H : Hp} {S : Sg} : ∀ {ds : List D} {xs : List V}, VRs K H S xs (ds.map .d) → DfA K H S xs ds
  | [], _, h => by cases h; exact .nil
  | _ :: _, _, h => by cases h with | cons a b => exact .cons a (vrs_ds b)
theorem sort_run (hu : X.A.units + 200 < cLine) (hc : X.calm = true) {pins : List (Addr × Obj)} {σ : L2.St} {H : Hp} {s : Shared} {Q : VK} {S : Sg} {h h' : Hh} {m : Bool} {w : Val} {v : Value} {ds : List D} {xs : List V} {us : List Value} (I : L2.Inv X pins σ H s) (hr : HR X.K H S h)
    (hcol : Collects X.prog X.w s v us) (r : Vals xs us) (vx : DfA X.K H S xs ds) (hL : us.length ≤ sizeLine) (e : sortData m ds h = some (w, h'))
    (q : ∀ S' x H', Ext S H S' H' → HR X.K H' S' h' → VR X.K H' S' x w → Q x H') : wpAny (model X.prog X.w) X.A (call (.builtin "sorted") [v]) (EP X pins σ Q) X.xe s := by
  unfold sortData at e
  split at e
  · rename_i hk
    rw [Bool.and_eq_true, Bool.and_eq_true] at hk
    have hal := alike_of hk.1.1
    have hso := sortable_of hk.1.2
    have t3 := three r vx
    have rd : ∀ h', (∀ b o, s.heap.get? b = some o → h'.get? b = some o) → W.EachIs (fun u d => ∃ as, Reads h' u d as) us ds := fun h1 k => each_of (Paired.mono (fun u d ⟨x, rx, dx⟩ => by
      have I1 := I.kept (t' := s.toks) k
      obtain ⟨as, ra⟩ := Dp.reads I1 d x u (Df.dp dx) rx
      exact ⟨as, ra⟩) t3)
    refine sorted_core (P' := fun out => out.length = us.length ∧ W.EachIs (fun u d => ∃ x, RelV x u ∧ Df X.K H S x d) out (sortD ds)) (I.ok.hd hc) hcol hL (fun h1 k => ?_) fun a ep h1 h2 out sv k1 ha ga k2 => ?_
    · refine ⟨W.dataKind h1 ds, W.SortsAt.data (rd h1 k) hal hso fun d hd => ?_, W.sortVals_length _ rfl, ?_⟩
      · have := dOk_le _ _ (dOkA_mem hk.2 hd)
        show X.A.units + 1 + 1 + _ < _
        omega
      · have sv := W.sortVals_data (h' := h1) (enc := id) (R := fun u d => ∃ x, RelV x u ∧ Df X.K H S x d) false (each_of t3) (rd h1 k) (by rw [List.map_id]; exact hal)
        rw [List.map_id] at sv
        exact sv
    · obtain ⟨ys, r2, d2⟩ := un_three (paired_of sv.2)
      obtain ⟨hn, hg⟩ := fresh_of I k1 ha
      have len : ys.length ≤ sizeLine := by
        have l1 := r2.length
        have l2 := sv.1
        omega
      exact ⟨.ref a, _, laid_at (o := .lst ys) (t' := s.toks) I k2 hn hg ⟨len, _, ep, r2, ga⟩, rfl, mkL_ok hr d2.vrs e q a hn⟩
  · cases e
end
end MP

/-! MPg: built-in functions by values. -/
namespace MP
open PySem PySem.Spec PyProof.Rows L2

def opLen : OpN := fun vs h => match vs with
  | [.d (.str z)] => if z.length ≤ sizeLine then some (.d (.int z.length), h) else none
  | [v] => match seqItems v h with
    | some us => some (.d (.int us.length), h)
    | none => none
  | _ => none
def opAbs : OpN := fun vs h => match vs with
  | [.d (.int i)] => some (.d (.int (if i < 0 then -i else i)), h)
  | _ => none
def intsD : List D → Option (List Int)
  | [] => some []
  | .int i :: r => match intsD r with
    | some ns => some (i :: ns)
    | none => none
  | _ :: _ => none
def boolsD : List D → Option (List Bool)
  | [] => some []
  | .bool i :: r => match boolsD r with
    | some ns => some (i :: ns)
    | none => none
  | _ :: _ => none
/-- the data of a list or tuple -/
def dataOf (v : Val) (h : Hh) : Option (List D) := match seqItems v h with
  | some us => dsOf us
  | none => none
def opMax : OpN := fun vs h => match vs with
  | [.d (.int i), .d (.int j)] => some (.d (.int (if j > i then j else i)), h)
  | [v] => match dataOf v h with
    | some (x :: xs) => if alikeB (x :: xs) && (notNone x && dOkA 60 (x :: xs)) then some (.d (W.maxD x xs), h) else none
    | _ => none
  | _ => none
def opMin : OpN := fun vs h => match vs with
  | [.d (.int i), .d (.int j)] => some (.d (.int (if j < i then j else i)), h)
  | [v] => match dataOf v h with
    | some (x :: xs) => if alikeB (x :: xs) && (notNone x && dOkA 60 (x :: xs)) then some (.d (W.minD x xs), h) else none
    | _ => none
  | _ => none
def listData (v : Val) (h : Hh) : Option (List D) := match listItems v h with
  | some us => dsOf us
  | none => none
def opSum : OpN := fun vs h => match vs with
  | [v] => match listData v h with
    | some ds => match intsD ds with
      | some ns => some (.d (.int ns.sum), h)
      | none => none
    | none => none
  | _ => none
def opAll : OpN := fun vs h => match vs with
  | [v] => match listData v h with
    | some ds => match boolsD ds with
      | some bs => some (.d (.bool (bs.all id)), h)
      | none => none
    | none => none
  | _ => none
def opAny : OpN := fun vs h => match vs with
  | [v] => match listData v h with
    | some ds => match boolsD ds with
      | some bs => some (.d (.bool (bs.any id)), h)
      | none => none
    | none => none
  | _ => none
def opInt : OpN := fun vs h => match vs with
  | [.d (.int i)] => some (.d (.int i), h)
  | [.d (.bool b)] => some (.d (.int (if b then 1 else 0)), h)
  | _ => none
def opBool : OpN := fun vs h => match vs with
  | [.d (.int i)] => some (.d (.bool (i != 0)), h)
  | [.d (.bool b)] => some (.d (.bool b), h)
  | _ => none
def opStr : OpN := fun vs h => match vs with
  | [.d (.int i)] => if Nat.blt i.natAbs.log2 1920 then some (.d (.str (Str.ofString (toString i))), h) else none
  | _ => none
def opTuple : OpN := fun vs h => match vs with
  | [.d (.tuple ds)] => some (.d (.tuple ds), h)
  | [v] => match listItems v h with
    | some us => mkT us h
    | none => none
  | _ => none
def opList (m : Bool) : OpN := fun vs h => match vs with
  | [v] => match seqItems v h with
    | some us => mkL m us h
    | none => none
  | _ => none
/-- isinstance of a built-in class -/
def isT (T : String) : Option (D → Bool) :=
  if T = "tuple" then some PyData.isTuple else if T = "list" then some PyData.isList else if T = "int" then some PyData.isInt
  else if T = "bool" then some PyData.isBool else if T = "str" then some PyData.isStr else none

theorem intsD_eq : ∀ {ds : List D} {ns : List Int}, intsD ds = some ns → ds = ns.map .int
  | [], _, h => by cases h; rfl
  | .int i :: r, ns, h => by
    unfold intsD at h
    cases e : intsD r with
    | none => rw [e] at h; cases h
    | some xs => rw [e] at h; cases h; rw [intsD_eq e]; rfl
  | .none :: _, _, h | .bool _ :: _, _, h | .str _ :: _, _, h | .list _ :: _, _, h | .tuple _ :: _, _, h | .dict _ :: _, _, h => by cases h
theorem boolsD_eq : ∀ {ds : List D} {ns : List Bool}, boolsD ds = some ns → ds = ns.map .bool
  | [], _, h => by cases h; rfl
  | .bool i :: r, ns, h => by
    unfold boolsD at h
    cases e : boolsD r with
    | none => rw [e] at h; cases h
    | some xs => rw [e] at h; cases h; rw [boolsD_eq e]; rfl
  | .none :: _, _, h | .int _ :: _, _, h | .str _ :: _, _, h | .list _ :: _, _, h | .tuple _ :: _, _, h | .dict _ :: _, _, h => by cases h
section
variable {X : Cx} {K : PySem.W.Frag} {H : Hp} {S : Sg}
theorem dfa_ints : ∀ {ns : List Int} {xs : List V}, DfA K H S xs (ns.map .int) → xs = ns.map V.int
  | [], _, h => by cases h; rfl
  | n :: ns, _, h => by cases h with | cons a b => cases a; rw [dfa_ints b]; rfl
theorem dfa_bools : ∀ {ns : List Bool} {xs : List V}, DfA K H S xs (ns.map .bool) → xs = ns.map V.bl
  | [], _, h => by cases h; rfl
  | n :: ns, _, h => by cases h with | cons a b => cases a; rw [dfa_bools b]; rfl
theorem ld_ok {h : Hh} (hr : HR K H S h) {v : V} {u : Val} {ds : List D} (vr : VR K H S v u) (e : listData u h = some ds) : ∃ a xs, v = .ref a ∧ SqL K H a xs ∧ DfA K H S xs ds := by
  unfold listData at e
  split at e
  · rename_i us eu
    obtain ⟨a, xs, e1, e2, e3⟩ := li_ok hr vr eu
    rw [dsOf_eq e] at e3
    exact ⟨a, xs, e1, e2, vrs_ds e3⟩
  · cases e
theorem sd_ok {h : Hh} (hr : HR K H S h) {v : V} {u : Val} {ds : List D} (vr : VR K H S v u) (e : dataOf u h = some ds) : ∃ a xs, v = .ref a ∧ (SqL K H a xs ∨ SqT K H a xs) ∧ DfA K H S xs ds := by
  unfold dataOf at e
  split at e
  · rename_i us eu
    obtain ⟨a, xs, e1, e2, e3⟩ := si_ok hr vr eu
    rw [dsOf_eq e] at e3
    exact ⟨a, xs, e1, e2, vrs_ds e3⟩
  · cases e
theorem vr1 {xs : List V} {u : Val} (h : VRs K H S xs [u]) : ∃ x, xs = [x] ∧ VR K H S x u := by
  cases h with | cons a b => cases b; exact ⟨_, rfl, a⟩
theorem vr2 {xs : List V} {u v : Val} (h : VRs K H S xs [u, v]) : ∃ x y, xs = [x, y] ∧ VR K H S x u ∧ VR K H S y v := by
  cases h with | cons a b => cases b with | cons c d => cases d; exact ⟨_, _, rfl, a, c⟩
theorem ref1 {a : Addr} {us : List Value} (r : Vals [V.ref a] us) : us = [.ref a] := by
  obtain ⟨u, rfl, h⟩ := vals1 r
  cases h; rfl
theorem cb_len : CallR X (.builtin "len") (rNs X.K opLen) := by
  rintro pins s σ H xs us Q I r ⟨S, h, vs, hr, vr, w, h', e, q⟩
  unfold opLen at e
  split at e
  · split at e
    · rename_i hz
      cases e
      obtain ⟨x, rfl, vx⟩ := vr1 vr
      cases vx
      exact call_len_str pins s σ H _ us Q I r ⟨_, rfl, hz, q S _ H (.refl _ _) hr (Df.int _)⟩
    · cases e
  · split at e
    · rename_i ws ew
      cases e
      obtain ⟨x, rfl, vx⟩ := vr1 vr
      obtain ⟨a, ys, rfl, e2, e3⟩ := si_ok hr vx ew
      have := paired_len e3
      exact call_len_seq pins s σ H _ us Q I r ⟨a, ys, rfl, e2, by rw [this]; exact q S _ H (.refl _ _) hr (Df.int _)⟩
    · cases e
  · cases e
theorem cb_abs : CallR X (.builtin "abs") (rNs X.K opAbs) := by
  rintro pins s σ H xs us Q I r ⟨S, h, vs, hr, vr, w, h', e, q⟩
  unfold opAbs at e
  split at e
  · cases e
    obtain ⟨x, rfl, vx⟩ := vr1 vr
    cases vx
    exact call_abs pins s σ H _ us Q I r ⟨_, rfl, q S _ H (.refl _ _) hr (Df.int _)⟩
  · cases e
theorem readsAll_of {pins : List (Addr × Obj)} {σ : L2.St} {s : Shared} {H : Hp} {S : Sg} (I : L2.Inv X pins σ H s) : ∀ {ds : List D} {xs : List V} {us : List Value}, DfA X.K H S xs ds → Vals xs us → ∃ as, ReadsAll s.heap us ds as
  | [], _, _, h, r => by cases h; cases r; exact ⟨_, .nil⟩
  | d :: ds, _, _, h, r => by
    cases h with
    | cons a b =>
      cases r with
      | cons p q =>
        obtain ⟨as, ra⟩ := Dp.reads I d _ _ (Df.dp a) p
        obtain ⟨bs, rb⟩ := readsAll_of I b q
        exact ⟨_, .cons ra rb⟩
theorem same_of {pins : List (Addr × Obj)} {σ : L2.St} {s : Shared} {H : Hp} {S : Sg} (I : L2.Inv X pins σ H s) {ds : List D} {xs : List V} {us : List Value} (d : DfA X.K H S xs ds) (r : Vals xs us) {i : Nat} {u : Value} {m : D} {bs : List Addr} {h1 : Heap}
    (k : ∀ b o, s.heap.get? b = some o → h1.get? b = some o) (hu : us[i]? = some u) (hm : Reads h1 u m bs) : ∃ x, RelV x u ∧ Df X.K H S x m := by
  have go : ∀ {ds : List D} {xs : List V} {us : List Value} {i : Nat}, DfA X.K H S xs ds → Vals xs us → us[i]? = some u → ∃ x d, RelV x u ∧ Df X.K H S x d := by
    intro ds
    induction ds with
    | nil => intro xs us i h r e; cases h; cases r; simp at e
    | cons d ds ih =>
      intro xs us i h r e
      cases h with
      | cons a b =>
        cases r with
        | cons p q =>
          cases i with
          | zero => simp at e; subst e; exact ⟨_, _, p, a⟩
          | succ i => exact ih b q (by simpa using e)
  obtain ⟨x, d', rx, dx⟩ := go d r hu
  have I1 := I.kept (t' := s.toks) k
  obtain ⟨as, ra⟩ := Dp.reads I1 d' _ _ (Df.dp dx) rx
  have e : d' = m := SeqAt.plain_unique d' m u as bs (dp_plain (Df.dp dx)) ra hm
  exact ⟨x, rx, e ▸ dx⟩
theorem alikeAll_of {x : D} {xs : List D} (h : alikeB (x :: xs) = true) (n : notNone x = true) : W.AlikeAll (x :: xs) := by
  have al := alike_of h
  have nx : x ≠ .none := fun z => by rw [z] at n; cases n
  exact ⟨fun a ha b hb => al a ha b hb, fun b hb => W.ne_none_both (al x List.mem_cons_self b hb) nx⟩
theorem cb_max (hu : X.A.units + 200 < cLine) (hc : X.calm = true) : CallR X (.builtin "max") (rNs X.K opMax) := by
  rintro pins s σ H xs us Q I r ⟨S, h, vs, hr, vr, w, h', e, q⟩
  unfold opMax at e
  split at e
  · cases e
    obtain ⟨x, y, rfl, vx, vy⟩ := vr2 vr
    cases vx; cases vy
    exact call_max2 hc pins s σ H _ us Q I r ⟨_, _, rfl, q S _ H (.refl _ _) hr (Df.int _)⟩
  · split at e
    · rename_i x ds ed
      split at e
      · rename_i hk
        cases e
        rw [Bool.and_eq_true, Bool.and_eq_true] at hk
        obtain ⟨y, rfl, vy⟩ := vr1 vr
        obtain ⟨a, ys, rfl, e2, e3⟩ := sd_ok hr vy ed
        rw [ref1 r]
        have hal := alikeAll_of hk.1 hk.2.1
        have hd : X.A.units + 1 + PyData.depthAll (x :: ds) < cLine := by have := dOkA_le _ _ hk.2.2; omega
        rcases e2 with e2 | e2
        · obtain ⟨its, rv, p, hz⟩ := I.list e2
          obtain ⟨as, ra⟩ := readsAll_of I e3 rv
          refine W.max_list_data (I.ok.hd hc) p.isList (by simpa using ra) hal hd fun i u h1 tk bs hu hm k => ?_
          obtain ⟨z, rz, dz⟩ := same_of I e3 rv k (by simpa using hu) hm
          exact ⟨z, H, I.kept k, rz, q S _ H (.refl _ _) hr dz⟩
        · obtain ⟨its, rv, p, hz⟩ := I.tuple e2
          obtain ⟨as, ra⟩ := readsAll_of I e3 rv
          refine W.max_tuple_data (I.ok.hd hc) p (by simpa using ra) hal hd fun i u h1 tk bs hu hm k => ?_
          obtain ⟨z, rz, dz⟩ := same_of I e3 rv k (by simpa using hu) hm
          exact ⟨z, H, I.kept k, rz, q S _ H (.refl _ _) hr dz⟩
      · cases e
    · cases e
  · cases e
theorem cb_min (hu : X.A.units + 200 < cLine) (hc : X.calm = true) : CallR X (.builtin "min") (rNs X.K opMin) := by
  rintro pins s σ H xs us Q I r ⟨S, h, vs, hr, vr, w, h', e, q⟩
  unfold opMin at e
  split at e
  · cases e
    obtain ⟨x, y, rfl, vx, vy⟩ := vr2 vr
    cases vx; cases vy
    exact call_min2 hc pins s σ H _ us Q I r ⟨_, _, rfl, q S _ H (.refl _ _) hr (Df.int _)⟩
  · split at e
    · rename_i x ds ed
      split at e
      · rename_i hk
        cases e
        rw [Bool.and_eq_true, Bool.and_eq_true] at hk
        obtain ⟨y, rfl, vy⟩ := vr1 vr
        obtain ⟨a, ys, rfl, e2, e3⟩ := sd_ok hr vy ed
        rw [ref1 r]
        have hal := alikeAll_of hk.1 hk.2.1
        have hd : X.A.units + 1 + PyData.depthAll (x :: ds) < cLine := by have := dOkA_le _ _ hk.2.2; omega
        rcases e2 with e2 | e2
        · obtain ⟨its, rv, p, hz⟩ := I.list e2
          obtain ⟨as, ra⟩ := readsAll_of I e3 rv
          refine W.min_list_data (I.ok.hd hc) p.isList (by simpa using ra) hal hd fun i u h1 tk bs hu hm k => ?_
          obtain ⟨z, rz, dz⟩ := same_of I e3 rv k (by simpa using hu) hm
          exact ⟨z, H, I.kept k, rz, q S _ H (.refl _ _) hr dz⟩
        · obtain ⟨its, rv, p, hz⟩ := I.tuple e2
          obtain ⟨as, ra⟩ := readsAll_of I e3 rv
          refine W.min_tuple_data (I.ok.hd hc) p (by simpa using ra) hal hd fun i u h1 tk bs hu hm k => ?_
          obtain ⟨z, rz, dz⟩ := same_of I e3 rv k (by simpa using hu) hm
          exact ⟨z, H, I.kept k, rz, q S _ H (.refl _ _) hr dz⟩
      · cases e
    · cases e
  · cases e
theorem cb_sum (hc : X.calm = true) : CallR X (.builtin "sum") (rNs X.K opSum) := by
  rintro pins s σ H xs us Q I r ⟨S, h, vs, hr, vr, w, h', e, q⟩
  unfold opSum at e
  split at e
  · split at e
    · rename_i ds ed
      split at e
      · rename_i ns en
        cases e
        obtain ⟨y, rfl, vy⟩ := vr1 vr
        obtain ⟨a, ys, rfl, e2, e3⟩ := ld_ok hr vy ed
        rw [intsD_eq en] at e3
        rw [dfa_ints e3] at e2
        exact cr_sum hc pins s σ H _ us Q I r ⟨a, ns, rfl, e2, q S _ H (.refl _ _) hr (Df.int _)⟩
      · cases e
    · cases e
  · cases e
theorem cb_all (hc : X.calm = true) : CallR X (.builtin "all") (rNs X.K opAll) := by
  rintro pins s σ H xs us Q I r ⟨S, h, vs, hr, vr, w, h', e, q⟩
  unfold opAll at e
  split at e
  · split at e
    · rename_i ds ed
      split at e
      · rename_i ns en
        cases e
        obtain ⟨y, rfl, vy⟩ := vr1 vr
        obtain ⟨a, ys, rfl, e2, e3⟩ := ld_ok hr vy ed
        rw [boolsD_eq en] at e3
        rw [dfa_bools e3] at e2
        exact cr_all hc pins s σ H _ us Q I r ⟨a, ns, rfl, e2, q S _ H (.refl _ _) hr (Df.bl _)⟩
      · cases e
    · cases e
  · cases e
theorem cb_any (hc : X.calm = true) : CallR X (.builtin "any") (rNs X.K opAny) := by
  rintro pins s σ H xs us Q I r ⟨S, h, vs, hr, vr, w, h', e, q⟩
  unfold opAny at e
  split at e
  · split at e
    · rename_i ds ed
      split at e
      · rename_i ns en
        cases e
        obtain ⟨y, rfl, vy⟩ := vr1 vr
        obtain ⟨a, ys, rfl, e2, e3⟩ := ld_ok hr vy ed
        rw [boolsD_eq en] at e3
        rw [dfa_bools e3] at e2
        exact cr_any hc pins s σ H _ us Q I r ⟨a, ns, rfl, e2, q S _ H (.refl _ _) hr (Df.bl _)⟩
      · cases e
    · cases e
  · cases e
theorem cb_int : CallR X (.type "int") (rNs X.K opInt) := by
  rintro pins s σ H xs us Q I r ⟨S, h, vs, hr, vr, w, h', e, q⟩
  unfold opInt at e
  split at e
  · cases e
    obtain ⟨x, rfl, vx⟩ := vr1 vr
    cases vx
    exact call_int1 pins s σ H _ us Q I r (.inl ⟨_, rfl, q S _ H (.refl _ _) hr (Df.int _)⟩)
  · cases e
    obtain ⟨x, rfl, vx⟩ := vr1 vr
    cases vx
    exact call_int1 pins s σ H _ us Q I r (.inr ⟨_, rfl, q S _ H (.refl _ _) hr (Df.int _)⟩)
  · cases e
theorem cb_bool : CallR X (.type "bool") (rNs X.K opBool) := by
  rintro pins s σ H xs us Q I r ⟨S, h, vs, hr, vr, w, h', e, q⟩
  unfold opBool at e
  split at e
  · cases e
    obtain ⟨x, rfl, vx⟩ := vr1 vr
    cases vx
    exact call_bool1 pins s σ H _ us Q I r (.inl ⟨_, rfl, q S _ H (.refl _ _) hr (Df.bl _)⟩)
  · cases e
    obtain ⟨x, rfl, vx⟩ := vr1 vr
    cases vx
    exact call_bool1 pins s σ H _ us Q I r (.inr ⟨_, rfl, q S _ H (.refl _ _) hr (Df.bl _)⟩)
  · cases e
theorem cb_str : CallR X (.type "str") (rNs X.K opStr) := by
  rintro pins s σ H xs us Q I r ⟨S, h, vs, hr, vr, w, h', e, q⟩
  unfold opStr at e
  split at e
  · split at e
    · rename_i hk
      cases e
      obtain ⟨x, rfl, vx⟩ := vr1 vr
      cases vx
      exact call_str_int pins s σ H _ us Q I r ⟨_, rfl, Nat.lt_of_succ_le (Nat.ble_eq.mp hk), q S _ H (.refl _ _) hr (Df.str _)⟩
    · cases e
  · cases e
theorem cb_tuple : CallR X (.type "tuple") (rNs X.K opTuple) := by
  rintro pins s σ H xs us Q I r ⟨S, h, vs, hr, vr, w, h', e, q⟩
  unfold opTuple at e
  split at e
  · cases e
    obtain ⟨x, rfl, vx⟩ := vr1 vr
    cases vx with
    | tup l t => exact call_tuple_of pins s σ H _ us Q I r ⟨_, _, rfl, .inr ⟨l.sq, q S _ H (.refl _ _) hr (Df.tup l t)⟩⟩
  · split at e
    · rename_i ws ew
      obtain ⟨x, rfl, vx⟩ := vr1 vr
      obtain ⟨a, ys, rfl, e2, e3⟩ := li_ok hr vx ew
      exact call_tuple_of pins s σ H _ us Q I r ⟨a, ys, rfl, .inl ⟨e2, mkT_ok hr e3 e q⟩⟩
    · cases e
  · cases e
theorem cb_list (m : Bool) : CallR X (.type "list") (rNs X.K (opList m)) := by
  rintro pins s σ H xs us Q I r ⟨S, h, vs, hr, vr, w, h', e, q⟩
  unfold opList at e
  split at e
  · split at e
    · rename_i ws ew
      obtain ⟨x, rfl, vx⟩ := vr1 vr
      obtain ⟨a, ys, rfl, e2, e3⟩ := si_ok hr vx ew
      exact call_list_of pins s σ H _ us Q I r ⟨a, ys, rfl, e2, mkL_ok hr e3 e q⟩
    · cases e
  · cases e
theorem cb_sorted (hu : X.A.units + 200 < cLine) (hc : X.calm = true) (m : Bool) : CallR X (.builtin "sorted") (rNs X.K (opSorted m)) := by
  rintro pins s σ H xs us Q I r ⟨S, h, vs, hr, vr, w, h', e, q⟩
  unfold opSorted at e
  split at e
  · split at e
    · rename_i ws ew
      split at e
      · rename_i ds ed
        obtain ⟨x, rfl, vx⟩ := vr1 vr
        obtain ⟨a, ys, rfl, e2, e3⟩ := si_ok hr vx ew
        rw [ref1 r]
        rw [dsOf_eq ed] at e3
        rcases e2 with e2 | e2
        · obtain ⟨its, rv, p, hz⟩ := I.list e2
          have := rv.length
          exact sort_run hu hc I hr (collects_seq (.inl p.isList) (by omega)) rv (vrs_ds e3) (by omega) e q
        · obtain ⟨its, rv, p, hz⟩ := I.tuple e2
          have := rv.length
          exact sort_run hu hc I hr (collects_seq (.inr p) (by omega)) rv (vrs_ds e3) (by omega) e q
      · cases e
    · cases e
  · cases e
/-- isinstance(x, T) -/
def opIsi (f : D → Bool) : Val → Hh → Option (Val × Hh) := fun u h => match view 8 u h with
  | some x => some (.d (.bool (f x)), h)
  | none => none
theorem cb_isi {T : String} {f : D → Bool} (hT : isT T = some f) : CallR X (.builtin "isinstance") (fun xs H Q => ∃ x, xs = [x, .ty T] ∧ rUn X.K (opIsi f) x H Q) := by
  rintro pins s σ H xs us Q I r ⟨x, rfl, S, h, v, hr, vr, w, h', e, q⟩
  obtain ⟨u, u2, rfl, r1, r2⟩ := vals2 r
  cases r2
  unfold opIsi at e
  split at e
  · rename_i dx ex
    cases e
    have px := view_ok hr 8 v dx ex _ vr
    obtain ⟨as, ra⟩ := Dp.reads I dx _ _ px r1
    have fin : ∀ tk, s.toks ≤ tk → EP X pins σ Q (.bool (f dx)) { s with toks := tk } := fun tk _ => ⟨.bl _, H, I.tok tk, rfl, q S _ H (.refl _ _) hr (Df.bl _)⟩
    unfold isT at hT
    split at hT
    · rename_i z; subst z; cases hT; exact W.isinstance_tuple_data ra fin
    · split at hT
      · rename_i z; subst z; cases hT; exact W.isinstance_list_data ra fin
      · split at hT
        · rename_i z; subst z; cases hT; exact W.isinstance_int_data ra fin
        · split at hT
          · rename_i z; subst z; cases hT; exact W.isinstance_bool_data ra fin
          · split at hT
            · rename_i z; subst z; cases hT; exact W.isinstance_str_data ra fin
            · cases hT
  · cases e
end
end MP

/-! MPh: subscripts, slices, changes of lists, methods. -/
namespace MP
open PySem PySem.Spec PyProof.Rows L2

def ixV (u v : Val) (h : Hh) : Option Val :=
  match u, v with
  | .d (.str z), .d (.int i) => if z.length ≤ sizeLine then (match atI z.cps.toList i with
    | some c => some (.d (.str ⟨#[c]⟩))
    | none => none) else none
  | u, .d (.int i) => match seqItems u h with
    | some us => atI us i
    | none => none
  | _, _ => none
def opIx0 : Op2 := fun u v h => match ixV u v h with
  | some w => some (w, h)
  | none => none
def cutG {α : Type} (xs : List α) (lo hi : Option Int) : List α := (xs.drop (HT.sIx xs.length 0 lo)).take (HT.sIx xs.length xs.length hi - HT.sIx xs.length 0 lo)
def opSl (m : Bool) (u : Val) (lo hi : Option Int) (h : Hh) : Option (Val × Hh) :=
  match u with
  | .d (.str z) => if z.length ≤ sizeLine then some (.d (.str (cutS z lo hi)), h) else none
  | .d (.tuple ds) => some (.d (.tuple (cutG ds lo hi)), h)
  | u => match listItems u h with
    | some us => mkL m (cutG us lo hi) h
    | none => none
/-- o[i] = v -/
def opSet0 (o i v : Val) (h : Hh) : Option Hh :=
  match o, i with
  | .loc n, .d (.int k) => match h[n]? with
    | some (.lst vs) => match ixN vs.length k with
      | some j => some (h.set n (.lst (vs.set j v)))
      | none => none
    | _ => none
  | _, _ => none
section
variable {X : Cx} {K : PySem.W.Frag} {H : Hp} {S : Sg} {h : Hh}
theorem paired_at {α β : Type} {F : α → β → Prop} : ∀ {xs : List α} {ys : List β}, Paired F xs ys → ∀ {i : Nat} {y : β}, ys[i]? = some y → ∃ x, xs[i]? = some x ∧ F x y
  | _, _, .nil, i, y, e => by simp at e
  | _, _, .cons r t, 0, y, e => by simp at e; subst e; exact ⟨_, rfl, r⟩
  | _, _, .cons r t, i + 1, y, e => by
    obtain ⟨x, h1, h2⟩ := paired_at t (i := i) (y := y) (by simpa using e)
    exact ⟨x, by simpa using h1, h2⟩
theorem at_ok {xs : List V} {us : List Val} (r : VRs K H S xs us) {i : Int} {u : Val} (e : atI us i = some u) : ∃ x, atI xs i = some x ∧ VR K H S x u := by
  unfold atI at e ⊢
  rw [paired_len r]
  cases hj : ixN us.length i with
  | none => rw [hj] at e; cases e
  | some j =>
    rw [hj] at e
    exact paired_at r e
theorem ox_ix0 : IxR X (rOp X.K opIx0) := by
  rintro va sl pins s σ H x y v u Q I rx ry ⟨S, h, a, b, hr, vx, vy, w, h', e, q⟩ hs
  unfold opIx0 at e
  split at e
  · rename_i z ez
    cases e
    unfold ixV at ez
    split at ez
    · split at ez
      · rename_i hz
        split at ez
        · rename_i c ec
          cases ez; cases vx; cases vy
          exact ix_str va sl pins s σ H _ _ v u Q I rx ry ⟨_, _, c, rfl, rfl, hz, ec, q S _ H (.refl _ _) hr (Df.str _)⟩ hs
        · cases ez
      · cases ez
    · split at ez
      · rename_i us eu
        cases vy
        obtain ⟨p, xs, rfl, e2, e3⟩ := si_ok hr vx eu
        obtain ⟨w, e4, e5⟩ := at_ok e3 ez
        have fin := q S _ H (.refl _ _) hr e5
        rcases e2 with e2 | e2
        · exact ix_list va sl pins s σ H _ _ v u Q I rx ry ⟨p, xs, _, w, rfl, rfl, e2, e4, fin⟩ hs
        · exact ix_tup va sl pins s σ H _ _ v u Q I rx ry ⟨p, xs, _, w, rfl, rfl, e2, e4, fin⟩ hs
      · cases ez
    · cases ez
  · cases e
theorem cutV_eq (xs : List V) (lo hi : Option Int) : cutV xs lo hi = cutG xs lo hi := rfl
theorem DfA.cut {lo hi : Option Int} : ∀ {ds : List D} {xs : List V}, DfA K H S xs ds → DfA K H S (cutG xs lo hi) (cutG ds lo hi) := by
  have dr : ∀ (n : Nat) {ds : List D} {xs : List V}, DfA K H S xs ds → DfA K H S (xs.drop n) (ds.drop n) := by
    intro n
    induction n with
    | zero => intro ds xs h; simpa using h
    | succ n ih =>
      intro ds xs h
      cases ds with
      | nil => cases h; exact .nil
      | cons d ds => cases h with | cons a b => simpa using ih b
  have tk : ∀ (n : Nat) {ds : List D} {xs : List V}, DfA K H S xs ds → DfA K H S (xs.take n) (ds.take n) := by
    intro n
    induction n with
    | zero => intro ds xs h; exact .nil
    | succ n ih =>
      intro ds xs h
      cases ds with
      | nil => cases h; exact .nil
      | cons d ds => cases h with | cons a b => exact .cons a (ih b)
  intro ds xs h
  unfold cutG
  rw [h.len]
  exact tk _ (dr _ h)
theorem VRs.cut {lo hi : Option Int} {us : List Val} {xs : List V} (h : VRs K H S xs us) : VRs K H S (cutG xs lo hi) (cutG us lo hi) := by
  have dr : ∀ (n : Nat) {us : List Val} {xs : List V}, VRs K H S xs us → VRs K H S (xs.drop n) (us.drop n) := by
    intro n
    induction n with
    | zero => intro ds xs h; simpa using h
    | succ n ih =>
      intro ds xs h
      cases h with
      | nil => exact .nil
      | cons a b => simpa using ih b
  have tk : ∀ (n : Nat) {us : List Val} {xs : List V}, VRs K H S xs us → VRs K H S (xs.take n) (us.take n) := by
    intro n
    induction n with
    | zero => intro ds xs h; exact .nil
    | succ n ih =>
      intro ds xs h
      cases h with
      | nil => exact .nil
      | cons a b => exact .cons a (ih b)
  unfold cutG
  rw [paired_len h]
  exact tk _ (dr _ h)
def rSl (K : PySem.W.Frag) (m : Bool) : V → Option Int → Option Int → Hp → VK → Prop := fun x lo hi H Q => ∃ S h u, HR K H S h ∧ VR K H S x u ∧ Gv K S H (opSl m u lo hi h) Q
theorem or_sl (m : Bool) : SlR X (rSl X.K m) := by
  rintro pins s σ H x v vl vu lo hi sl Q I rx hs pl pu ⟨S, h, a, hr, vx, w, h', e, q⟩
  unfold opSl at e
  split at e
  · split at e
    · rename_i hz
      cases e; cases vx
      exact sl_str pins s σ H _ v vl vu lo hi sl Q I rx hs pl pu ⟨_, rfl, hz, q S _ H (.refl _ _) hr (Df.str _)⟩
    · cases e
  · cases e
    cases vx with
    | tup l t =>
      refine sl_tupA pins s σ H _ v vl vu lo hi sl Q I rx hs pl pu ⟨_, _, rfl, l.sq, fun hw => ?_, fun _ p hp => ?_⟩
      · rename_i ds _ _
        have e1 : cutG ds lo hi = ds := by
          unfold cutG
          have n := t.len
          rw [n] at hw
          rw [hw.1, hw.2]
          simp
        exact q S _ H (.refl _ _) hr (by rw [e1]; exact Df.tup l t)
      · exact q S _ _ (ext_upd hr hp) (hr.upd hp) (new_tup hr hp t.cut)
  · split at e
    · rename_i us eu
      obtain ⟨p, xs, rfl, e2, e3⟩ := li_ok hr vx eu
      exact sl_list pins s σ H _ v vl vu lo hi sl Q I rx hs pl pu ⟨p, xs, rfl, e2, mkL_ok hr (VRs.cut e3) e q⟩
    · cases e
/-- a list of ours is changed -/
theorem hr_write {n : Nat} {a : Addr} {vs : List Val} {ys : List V} (hr : HR K H S h) (hn : S.r[n]? = some (a, true)) (r : VRs K H S ys vs) :
    Ext S H S (upd H a (.lst ys)) ∧ HR K (upd H a (.lst ys)) S (h.set n (.lst vs)) := by
  have ma := List.mem_of_getElem? hn
  have ex : Ext S H S (upd H a (.lst ys)) := ⟨rfl, fun _ _ b q => ⟨b, q⟩, fun b o q nb => ⟨by rw [upd_ne (show b ≠ a from fun z => nb (by rw [z]; exact ma))]; exact q, nb⟩⟩
  have hlt := (List.getElem?_eq_some_iff.mp hn).1
  refine ⟨ex, ⟨by simp [hr.len], hr.nd, fun b z => ⟨upd_nn (hr.ff b z).1, (hr.ff b z).2⟩, fun b z => upd_nn (hr.lv b z), fun k o q => ?_⟩⟩
  by_cases hk : n = k
  · subst hk
    rw [List.getElem?_set_self (by rw [hr.len]; exact hlt)] at q
    cases q
    exact ⟨a, ys, hn, upd_same, VRs.ext r ex⟩
  · rw [List.getElem?_set_ne hk] at q
    refine (hr.ob k o q).ext ex (fun b z => ⟨z, upd_ne fun e => hk (hr.nd _ _ _ _ hn (e ▸ z))⟩) fun b z => ⟨z, upd_nn⟩
theorem loc_lst {n : Nat} {x : V} {vs : List Val} (hr : HR K H S h) (vx : VR K H S x (.loc n)) (e : h[n]? = some (.lst vs)) : ∃ a xs, x = .ref a ∧ S.r[n]? = some (a, true) ∧ H a = some (.lst xs) ∧ VRs K H S xs vs := by
  obtain ⟨a, b, g, rfl⟩ := vx
  obtain ⟨a', xs, g2, hx, r⟩ := hr.ob n _ e
  rw [g] at g2; cases g2
  exact ⟨a, xs, rfl, g, hx, r⟩
theorem VRs.setv {x : V} {u : Val} (r : VR K H S x u) : ∀ {xs : List V} {us : List Val} (i : Nat), VRs K H S xs us → VRs K H S (xs.set i x) (us.set i u)
  | _, _, _, .nil => .nil
  | _, _, 0, .cons _ t => .cons r t
  | _, _, i + 1, .cons q t => .cons q (VRs.setv r i t)
/-- a change by values -/
def rSt (K : PySem.W.Frag) (op : Val → Val → Val → Hh → Option Hh) : TSet := fun o i v H Q => ∃ S h a b c h', HR K H S h ∧ VR K H S o a ∧ VR K H S i b ∧ VR K H S v c ∧ op a b c h = some h' ∧ ∀ S' H', Ext S H S' H' → HR K H' S' h' → Q H'
theorem st_set0 : PSet X (rSt X.K opSet0) := by
  rintro pins s σ H o i v ov iv u Q I ro ri rv ⟨S, h, a, b, c, h', hr, va, vb, vc, e, q⟩
  unfold opSet0 at e
  split at e
  · split at e
    · rename_i vs ek
      split at e
      · rename_i j ej
        cases e; cases vb
        obtain ⟨p, xs, rfl, g, hx, r⟩ := loc_lst hr va ek
        obtain ⟨x1, r1⟩ := hr_write hr g (VRs.setv vc j r)
        exact set_list pins s σ H _ _ v ov iv u Q I ro ri rv ⟨p, xs, _, j, rfl, rfl, hx, by rw [paired_len r]; exact ej, q S _ x1 r1⟩
      · cases e
    · cases e
  · cases e

/-! ### methods -/
abbrev OpM := Val → List Val → Hh → Option (Val × Hh)
def rM (K : PySem.W.Frag) (op : OpM) : V → List V → Hp → VK → Prop := fun x xs H Q => ∃ S h u vs, HR K H S h ∧ VR K H S x u ∧ VRs K H S xs vs ∧ Gv K S H (op u vs h) Q
def mAppend : OpM := fun u vs h => match u, vs with
  | .loc n, [v] => match h[n]? with
    | some (.lst xs) => if xs.length < sizeLine then some (.d .none, h.set n (.lst (xs ++ [v]))) else none
    | _ => none
  | _, _ => none
def mExtend : OpM := fun u vs h => match u, vs with
  | .loc _, [.scr _] => none
  | .loc n, [v] => match h[n]?, listItems v h with
    | some (.lst xs), some ys => if xs.length + ys.length ≤ sizeLine then some (.d .none, h.set n (.lst (xs ++ ys))) else none
    | _, _ => none
  | _, _ => none
def mPop : OpM := fun u vs h => match u, vs with
  | .loc n, [] => match h[n]? with
    | some (.lst xs) => match xs[xs.length - 1]? with
      | some v => some (v, h.set n (.lst xs.dropLast))
      | none => none
    | _ => none
  | .loc n, [.d (.int i)] => match h[n]? with
    | some (.lst xs) => match seqIndex? i xs.length with
      | some k => match xs[k]? with
        | some v => if smI (2 * i) then some (v, h.set n (.lst (xs.eraseIdx k))) else none
        | none => none
      | none => none
    | _ => none
  | _, _ => none
theorem VRs.erase : ∀ {xs : List V} {us : List Val} (i : Nat), VRs K H S xs us → VRs K H S (xs.eraseIdx i) (us.eraseIdx i)
  | _, _, _, .nil => .nil
  | _, _, 0, .cons _ t => t
  | _, _, i + 1, .cons q t => .cons q (VRs.erase i t)
theorem VRs.dropLast {xs : List V} {us : List Val} (r : VRs K H S xs us) : VRs K H S xs.dropLast us.dropLast := by
  induction r with
  | nil => exact .nil
  | cons a t ih =>
    cases t with
    | nil => exact .nil
    | cons b t => exact .cons a ih
theorem mt_app : MtR X "list.append" (rM X.K mAppend) := by
  rintro pins s σ H x xs v us Q I rx r ⟨S, h, u, vs, hr, vx, vr, w, h', e, q⟩
  unfold mAppend at e
  split at e
  · split at e
    · rename_i ws ek
      split at e
      · rename_i hz
        cases e
        obtain ⟨y, rfl, vy⟩ := vr1 vr
        obtain ⟨a, zs, rfl, g, hx, r3⟩ := loc_lst hr vx ek
        obtain ⟨x1, r1⟩ := hr_write hr g (VRs.app r3 (.cons vy .nil))
        exact mt_append pins s σ H _ _ v us Q I rx r ⟨a, zs, y, rfl, rfl, hx, by rw [paired_len r3]; exact hz, q S _ _ x1 r1 Df.non⟩
      · cases e
    · cases e
  · cases e
theorem mt_pop' : MtR X "list.pop" (rM X.K mPop) := by
  rintro pins s σ H x xs v us Q I rx r ⟨S, h, u, vs, hr, vx, vr, w, h', e, q⟩
  unfold mPop at e
  split at e
  · split at e
    · rename_i ws ek
      split at e
      · rename_i z ez
        cases e
        cases vr
        obtain ⟨a, zs, rfl, g, hx, r3⟩ := loc_lst hr vx ek
        obtain ⟨x1, r1⟩ := hr_write hr g (VRs.dropLast r3)
        obtain ⟨y, ey, vy⟩ := paired_at r3 ez
        exact mt_pop pins s σ H _ _ v us Q I rx r ⟨a, zs, y, rfl, rfl, hx, by rw [paired_len r3]; exact ey, q S _ _ x1 r1 (vy.ext x1)⟩
      · cases e
    · cases e
  · split at e
    · rename_i ws ek
      split at e
      · rename_i k ej
        split at e
        · rename_i z ez
          split at e
          · rename_i hk
            cases e
            obtain ⟨y0, rfl, vy0⟩ := vr1 vr
            cases vy0
            have := smI_iff hk
            obtain ⟨a, zs, rfl, g, hx, r3⟩ := loc_lst hr vx ek
            obtain ⟨x1, r1⟩ := hr_write hr g (VRs.erase k r3)
            obtain ⟨y, ey, vy⟩ := paired_at r3 ez
            exact mt_popAt pins s σ H _ _ v us Q I rx r ⟨a, zs, _, k, y, rfl, rfl, hx, by omega, by omega, by rw [paired_len r3]; exact ej, ey, q S _ _ x1 r1 (vy.ext x1)⟩
          · cases e
        · cases e
      · cases e
    · cases e
  · cases e
end
end MP

/-! MPi: structural expressions and tests. -/
namespace MP
open PySem PySem.Spec PyProof.Rows L2

abbrev FE := Nat → List Val → Hh → Option (Val × Hh)
def eVar (i : Nat) : Exp := fun e h => match e[i]? with
  | some (some v) => some (v, h)
  | _ => none
def eD (x : D) : Exp := fun _ h => some (.d x, h)
def eTup (fs : Exps) : Exp := eArgs mkT fs
def eLst (m : Bool) (fs : Exps) : Exp := eArgs (mkL m) fs
def truV : Val → Hh → Option Bool
  | .d .none, _ => some false
  | .d (.bool b), _ => some b
  | .d (.int i), _ => some (i != 0)
  | .d (.str z), _ => if z.length ≤ sizeLine then some ((z.length : Int) != 0) else none
  | v, h => match seqItems v h with
    | some us => some (!us.isEmpty)
    | none => none
def eAnd (fa fb : Exp) : Exp := fun e h => match fa e h with
  | none => none
  | some (u, h1) => match truV u h1 with
    | some true => fb e h1
    | some false => some (u, h1)
    | none => none
def eOr (fa fb : Exp) : Exp := fun e h => match fa e h with
  | none => none
  | some (u, h1) => match truV u h1 with
    | some true => some (u, h1)
    | some false => fb e h1
    | none => none
def eNot (fa : Exp) : Exp := fun e h => match fa e h with
  | none => none
  | some (u, h1) => match truV u h1 with
    | some b => some (.d (.bool (!b)), h1)
    | none => none
def eIf (t : Tst) (fa fb : Exp) : Exp := fun e h => match t e h with
  | none => none
  | some (true, h1) => fa e h1
  | some (false, h1) => fb e h1
def eChain (o1 o2 : Op2) (fa fb fc : Exp) : Exp := fun e h => match fa e h with
  | none => none
  | some (u, h1) => match fb e h1 with
    | none => none
    | some (v, h2) => match o1 u v h2 with
      | some (.d (.bool true), h3) => match fc e h3 with
        | none => none
        | some (w, h4) => o2 v w h4
      | some (.d (.bool false), h3) => some (.d (.bool false), h3)
      | _ => none
def tVal (fa : Exp) : Tst := fun e h => match fa e h with
  | none => none
  | some (u, h1) => match truV u h1 with
    | some b => some (b, h1)
    | none => none
/-- a comparison's value is a bool -/
def tCmpr (fa : Exp) : Tst := fun e h => match fa e h with
  | some (.d (.bool b), h1) => some (b, h1)
  | _ => none
def tAnd2 (a b : Tst) : Tst := fun e h => match a e h with
  | none => none
  | some (true, h1) => b e h1
  | some (false, h1) => some (false, h1)
def tOr2 (a b : Tst) : Tst := fun e h => match a e h with
  | none => none
  | some (true, h1) => some (true, h1)
  | some (false, h1) => b e h1
def tNot2 (a : Tst) : Tst := fun e h => match a e h with
  | none => none
  | some (b, h1) => some (!b, h1)
section
variable {X : Cx} {a b c : Expr} {fa fb fc : Exp} {pos : Pos}
theorem tru_of {K : PySem.W.Frag} {H : Hp} {S : Sg} {h : Hh} (hr : HR K H S h) {x : V} {u : Val} (vx : VR K H S x u) {k : Bool} (e : truV u h = some k) : TruV K x H k := by
  unfold truV at e
  split at e
  · cases e; cases vx; exact rfl
  · cases e; cases vx; exact rfl
  · cases e; cases vx; exact rfl
  · split at e
    · rename_i hz
      cases e; cases vx; exact ⟨hz, rfl⟩
    · cases e
  · split at e
    · rename_i us eu
      cases e
      obtain ⟨p, xs, rfl, e2, e3⟩ := si_ok hr vx eu
      have em : (!us.isEmpty) = !xs.isEmpty := by cases e3 <;> rfl
      rcases e2 with e2 | e2
      · exact .inl ⟨xs, e2, em⟩
      · exact .inr (.inl ⟨xs, e2, em⟩)
    · cases e
theorem se_var {i : Nat} {x : Str} (hN : X.N[i]? = some x) (hv : Vis X.env.scope x) (hd : (x == ("__debug__" : Str)) = false) (hcd : (x == ("__classdict__" : Str)) = false) : SE X (.Name x pos) (eVar i) := by
  refine PE.weak (pe_var hN hv hd hcd) ?_
  rintro σ H Q ⟨S, e, h, v, h', sr, ev, q⟩
  unfold eVar at ev
  split at ev
  · rename_i w ew
    cases ev
    obtain ⟨y, e1, e2⟩ := sr.ev i _ ew
    exact ⟨y, e1, q S y H (.refl _ _) sr.hr e2⟩
  · cases ev
theorem se_c {e : Expr} {v : V} {x : D} (hp : PE X e (tC v)) (hd : ∀ H S, Df X.K H S v x) : SE X e (eD x) := by
  refine PE.weak hp ?_
  rintro σ H Q ⟨S, e, h, w, h', sr, ev, q⟩
  cases ev
  exact q S v H (.refl _ _) sr.hr (hd H S)
theorem se_tup {es : List Expr} {fs : Exps} {k : Nat} (ha : SA X es fs) (hz : es.length ≤ sizeLine) : SE X (.Tuple es k pos) (eTup fs) := by
  refine PE.weak (pe_tup ha.1) ?_
  rintro σ H Q ⟨S, e, h, w, h', sr, ev, q⟩
  unfold eTup eArgs at ev
  split at ev
  · cases ev
  · rename_i vs h1 e1
    refine ⟨S, e, h, vs, h1, sr, e1, fun S1 xs H1 x1 r1 v1 => ⟨?_, mkT_ok r1 v1 ev fun S' x H' e' a b => q S' x H' (x1.trans e') a b⟩⟩
    rw [paired_len v1, ha.2 _ _ _ _ e1]; exact hz
theorem se_lst {es : List Expr} {fs : Exps} {m : Bool} (ha : SA X es fs) (hz : es.length ≤ sizeLine) : SE X (.List es pos) (eLst m fs) := by
  refine PE.weak (pe_lst ha.1) ?_
  rintro σ H Q ⟨S, e, h, w, h', sr, ev, q⟩
  unfold eLst eArgs at ev
  split at ev
  · cases ev
  · rename_i vs h1 e1
    refine ⟨S, e, h, vs, h1, sr, e1, fun S1 xs H1 x1 r1 v1 => ⟨?_, mkL_ok r1 v1 ev fun S' x H' e' a b => q S' x H' (x1.trans e') a b⟩⟩
    rw [paired_len v1, ha.2 _ _ _ _ e1]; exact hz
theorem se_and {rest : List Expr} (ha : SE X a fa) (hb : SE X (.BoolOp .And (b :: rest) pos) fb) : SE X (.BoolOp .And (a :: b :: rest) pos) (eAnd fa fb) := by
  refine PE.weak (pe_andT ha hb) ?_
  rintro σ H Q ⟨S, e, h, w, h', sr, ev, q⟩
  unfold eAnd at ev
  split at ev
  · cases ev
  · rename_i u h1 e1
    refine ⟨S, e, h, u, h1, sr, e1, fun S1 x H1 x1 r1 v1 => ?_⟩
    split at ev
    · rename_i et
      exact ⟨true, tru_of r1 v1 et, ite_tt ⟨S1, e, h1, w, h', sr.ext x1 r1, ev, fun S' y H' e' a b => q S' y H' (x1.trans e') a b⟩⟩
    · rename_i et
      cases ev
      exact ⟨false, tru_of r1 v1 et, ite_ff (q S1 x H1 x1 r1 v1)⟩
    · cases ev
theorem se_or {rest : List Expr} (ha : SE X a fa) (hb : SE X (.BoolOp .Or (b :: rest) pos) fb) : SE X (.BoolOp .Or (a :: b :: rest) pos) (eOr fa fb) := by
  refine PE.weak (pe_orT ha hb) ?_
  rintro σ H Q ⟨S, e, h, w, h', sr, ev, q⟩
  unfold eOr at ev
  split at ev
  · cases ev
  · rename_i u h1 e1
    refine ⟨S, e, h, u, h1, sr, e1, fun S1 x H1 x1 r1 v1 => ?_⟩
    split at ev
    · rename_i et
      cases ev
      exact ⟨true, tru_of r1 v1 et, ite_tt (q S1 x H1 x1 r1 v1)⟩
    · rename_i et
      exact ⟨false, tru_of r1 v1 et, ite_ff ⟨S1, e, h1, w, h', sr.ext x1 r1, ev, fun S' y H' e' a b => q S' y H' (x1.trans e') a b⟩⟩
    · cases ev
theorem se_one {op : BoolOp} (ha : SE X a fa) : SE X (.BoolOp op [a] pos) fa := pe_one ha
theorem se_not (ha : SE X a fa) : SE X (.UnaryOp .Not a pos) (eNot fa) := by
  refine PE.weak (pe_notT ha) ?_
  rintro σ H Q ⟨S, e, h, w, h', sr, ev, q⟩
  unfold eNot at ev
  split at ev
  · cases ev
  · rename_i u h1 e1
    refine ⟨S, e, h, u, h1, sr, e1, fun S1 x H1 x1 r1 v1 => ?_⟩
    split at ev
    · rename_i k et
      cases ev
      exact ⟨k, tru_of r1 v1 et, q S1 _ H1 x1 r1 (Df.bl _)⟩
    · cases ev
theorem se_if {t : Tst} (ht : ST X c t) (ha : SE X a fa) (hb : SE X b fb) : SE X (.IfExp c a b pos) (eIf t fa fb) := by
  refine PE.weak (pe_ifExp ht ha hb) ?_
  rintro σ H Q ⟨S, e, h, w, h', sr, ev, q⟩
  unfold eIf at ev
  split at ev
  · cases ev
  · rename_i h1 e1
    exact ⟨S, e, h, true, h1, sr, e1, fun S1 H1 x1 r1 => ite_tt ⟨S1, e, h1, w, h', sr.ext x1 r1, ev, fun S' y H' e' a b => q S' y H' (x1.trans e') a b⟩⟩
  · rename_i h1 e1
    exact ⟨S, e, h, false, h1, sr, e1, fun S1 H1 x1 r1 => ite_ff ⟨S1, e, h1, w, h', sr.ext x1 r1, ev, fun S' y H' e' a b => q S' y H' (x1.trans e') a b⟩⟩
theorem chain_of {o1 o2 : Op2} {op op' : CmpOp} (h1 : OpR X (compareOp op) (rOp X.K o1)) (h2 : OpR X (compareOp op') (rOp X.K o2)) : ∀ σ H Q, tE X.K (eChain o1 o2 fa fb fc) σ H Q → tChain (rOp X.K o1) (rOp X.K o2) (tE X.K fa) (tE X.K fb) (tE X.K fc) σ H Q := by
  rintro σ H Q ⟨S, e, h, w, h', sr, ev, q⟩
  unfold eChain at ev
  split at ev
  · cases ev
  · rename_i u ha ea
    refine ⟨S, e, h, u, ha, sr, ea, fun S1 x H1 x1 r1 v1 => ?_⟩
    split at ev
    · cases ev
    · rename_i v hb eb
      refine ⟨S1, e, ha, v, hb, sr.ext x1 r1, eb, fun S2 y H2 x2 r2 v2 => ⟨S2, hb, u, v, r2, v1.ext x2, v2, ?_⟩⟩
      split at ev
      · rename_i hc ec
        refine ⟨_, hc, ec, fun S3 z H3 x3 r3 v3 => ?_⟩
        cases v3
        refine ⟨true, rfl, ite_tt ?_⟩
        split at ev
        · cases ev
        · rename_i w2 hd ed
          refine ⟨S3, e, hc, w2, hd, sr.ext ((x1.trans x2).trans x3) r3, ed, fun S4 w' H4 x4 r4 v4 => ⟨S4, hd, v, w2, r4, (v2.ext x3).ext x4, v4, .pre (((x1.trans x2).trans x3).trans x4) ev q⟩⟩
      · rename_i hc ec
        cases ev
        refine ⟨_, _, ec, fun S3 z H3 x3 r3 v3 => ?_⟩
        cases v3
        exact ⟨false, rfl, ite_ff (q S3 _ H3 ((x1.trans x2).trans x3) r3 (Df.bl _))⟩
      · cases ev
theorem se_chain {o1 o2 : Op2} {op op' : CmpOp} (h1 : OpR X (compareOp op) (rOp X.K o1)) (h2 : OpR X (compareOp op') (rOp X.K o2)) (ha : SE X a fa) (hb : SE X b fb) (hc : SE X c fc) (hm : lastMarks [op, op'] [b, c] = false) :
    SE X (.Compare a [op, op'] [b, c] pos) (eChain o1 o2 fa fb fc) := PE.weak (pe_chain h1 h2 ha hb hc hm) (chain_of h1 h2)

/-! ### tests -/
theorem tst_of {f : Exp} : ∀ σ H Q, tT X.K (tCmpr f) σ H Q → tTest (tE X.K f) σ H Q := by
  rintro σ H Q ⟨S, e, h, w, h', sr, ev, q⟩
  unfold tCmpr at ev
  split at ev
  · rename_i b h1 e1
    cases ev
    refine ⟨S, e, h, _, _, sr, e1, fun S1 x H1 x1 r1 v1 => ?_⟩
    cases v1
    exact ⟨_, rfl, q S1 H1 x1 r1⟩
  · cases ev
theorem st_cmp {op : CmpOp} {f : Op2} (ho : OpR X (compareOp op) (rOp X.K f)) (ha : SE X a fa) (hb : SE X b fb) (hm : behindInMarks op b = false) : ST X (.Compare a [op] [b] pos) (tCmpr (eBin f fa fb)) := by
  refine PT.weak (pt_cmpR ho ha hb hm) fun σ H Q hq => ?_
  obtain ⟨S, e, h, w, h', sr, ev, q⟩ := hq
  unfold tCmpr at ev
  split at ev
  · rename_i b h1 e1
    cases ev
    exact two_of (r := rOp X.K f) (fun _ _ _ _ q => q) σ H _ ⟨S, e, h, _, _, sr, e1, fun S1 x H1 x1 r1 v1 => by cases v1; exact ⟨_, rfl, q S1 H1 x1 r1⟩⟩
  · cases ev
theorem st_chain {o1 o2 : Op2} {op op' : CmpOp} (h1 : OpR X (compareOp op) (rOp X.K o1)) (h2 : OpR X (compareOp op') (rOp X.K o2)) (ha : SE X a fa) (hb : SE X b fb) (hc : SE X c fc) (hm : lastMarks [op, op'] [b, c] = false) :
    ST X (.Compare a [op, op'] [b, c] pos) (tCmpr (eChain o1 o2 fa fb fc)) := by
  refine PT.weak (pt_chain h1 h2 ha hb hc hm) fun σ H Q hq => ?_
  obtain ⟨S, e, h, w, h', sr, ev, q⟩ := hq
  unfold tCmpr at ev
  split at ev
  · rename_i b h3 e1
    cases ev
    exact chain_of h1 h2 σ H _ ⟨S, e, h, _, _, sr, e1, fun S1 x H1 x1 r1 v1 => by cases v1; exact ⟨_, rfl, q S1 H1 x1 r1⟩⟩
  · cases ev
theorem st_val (ha : SE X a fa) (he : ∀ whole, isTrue a X.env whole = (do let v ← whole; standAt a.pos; holding [v] (truthy v))) : ST X a (tVal fa) := by
  refine PT.weak (pt_truth ha he) ?_
  rintro σ H Q ⟨S, e, h, w, h', sr, ev, q⟩
  unfold tVal at ev
  split at ev
  · cases ev
  · rename_i u h1 e1
    refine ⟨S, e, h, u, h1, sr, e1, fun S1 x H1 x1 r1 v1 => ?_⟩
    split at ev
    · rename_i k et
      cases ev
      exact ⟨_, tru_of r1 v1 et, q S1 H1 x1 r1⟩
    · cases ev
def SW (X : Cx) (e : Expr) (f : Tst) : Prop := PW X e (tT X.K f)
theorem SW.st {e : Expr} {f : Tst} (h : SW X e f) : ST X e f := h.pt
theorem sw_and1 {t : Tst} (ha : ST X a t) : SW X (.BoolOp .And [a] pos) t := pw_and1 ha
theorem sw_or1 {t : Tst} (ha : ST X a t) : SW X (.BoolOp .Or [a] pos) t := pw_or1 ha
theorem sw_and {rest : List Expr} {t u : Tst} (ha : ST X a t) (hb : SW X (.BoolOp .And (b :: rest) pos) u) : SW X (.BoolOp .And (a :: b :: rest) pos) (tAnd2 t u) := by
  refine PW.weak (pw_and ha hb) ?_
  rintro σ H Q ⟨S, e, h, w, h', sr, ev, q⟩
  unfold tAnd2 at ev
  split at ev
  · cases ev
  · rename_i h1 e1
    exact ⟨S, e, h, true, h1, sr, e1, fun S1 H1 x1 r1 => ite_tt ⟨S1, e, h1, w, h', sr.ext x1 r1, ev, fun S' H' e' a => q S' H' (x1.trans e') a⟩⟩
  · rename_i h1 e1
    cases ev
    exact ⟨S, e, h, false, _, sr, e1, fun S1 H1 x1 r1 => ite_ff (q S1 H1 x1 r1)⟩
theorem sw_or {rest : List Expr} {t u : Tst} (ha : ST X a t) (hb : SW X (.BoolOp .Or (b :: rest) pos) u) : SW X (.BoolOp .Or (a :: b :: rest) pos) (tOr2 t u) := by
  refine PW.weak (pw_or ha hb) ?_
  rintro σ H Q ⟨S, e, h, w, h', sr, ev, q⟩
  unfold tOr2 at ev
  split at ev
  · cases ev
  · rename_i h1 e1
    cases ev
    exact ⟨S, e, h, true, _, sr, e1, fun S1 H1 x1 r1 => ite_tt (q S1 H1 x1 r1)⟩
  · rename_i h1 e1
    exact ⟨S, e, h, false, h1, sr, e1, fun S1 H1 x1 r1 => ite_ff ⟨S1, e, h1, w, h', sr.ext x1 r1, ev, fun S' H' e' a => q S' H' (x1.trans e') a⟩⟩
theorem st_not {t : Tst} (ha : ST X a t) : ST X (.UnaryOp .Not a pos) (tNot2 t) := by
  refine PT.weak (pt_not ha) ?_
  rintro σ H Q ⟨S, e, h, w, h', sr, ev, q⟩
  unfold tNot2 at ev
  split at ev
  · cases ev
  · rename_i k h1 e1
    cases ev
    exact ⟨S, e, h, k, _, sr, e1, fun S1 H1 x1 r1 => q S1 H1 x1 r1⟩

/-! ### subscripts -/
theorem se_ix {f : Op2} (ho : IxR X (rOp X.K f)) (ha : SE X a fa) (hb : SE X b fb) (hs : PlainIx b) : SE X (.Subscript a b pos) (eBin f fa fb) :=
  PE.weak (pe_ix ho ha hb hs) (two_of fun _ _ _ _ q => q)
abbrev Opt := Ev → Hh → Option (Option Int × Hh)
def oNone : Opt := fun _ h => some (none, h)
def oSome (f : Exp) : Opt := fun e h => match f e h with
  | some (.d (.int i), h1) => some (some i, h1)
  | _ => none
def tOpt (K : PySem.W.Frag) (f : Opt) : TO := fun σ H Q => ∃ S e h o h', SR K S σ H e h ∧ f e h = some (o, h') ∧ ∀ S' H', Ext S H S' H' → HR K H' S' h' → Q o H'
def SO (X : Cx) (e : Option Expr) (f : Opt) : Prop := PO X e (tOpt X.K f)
theorem so_none : SO X none oNone := ⟨fun pins s σ H Q I hw => by
  obtain ⟨S, e, h, o, h', sr, ev, q⟩ := hw
  cases ev
  exact po_none.run pins s σ H Q I (q S H (.refl _ _) sr.hr)⟩
theorem so_some (ha : SE X a fa) : SO X (some a) (oSome fa) := ⟨fun pins s σ H Q I hw => by
  obtain ⟨S, e, h, o, h', sr, ev, q⟩ := hw
  refine (po_some ha).run pins s σ H Q I ?_
  unfold oSome at ev
  split at ev
  · rename_i i h1 e1
    cases ev
    refine ⟨S, e, h, _, _, sr, e1, fun S1 x H1 x1 r1 v1 => ?_⟩
    cases v1
    exact ⟨i, rfl, q S1 H1 x1 r1⟩
  · cases ev⟩
def eSl (m : Bool) (fa : Exp) (l u : Opt) : Exp := fun e h => match fa e h with
  | none => none
  | some (v, h1) => match l e h1 with
    | none => none
    | some (lo, h2) => match u e h2 with
      | none => none
      | some (hi, h3) => opSl m v lo hi h3
theorem se_sl {lo hi : Option Expr} {l u : Opt} {m : Bool} {p2 : Pos} (ha : SE X a fa) (hl : SO X lo l) (hu : SO X hi u) : SE X (.Subscript a (.Slice lo hi none p2) pos) (eSl m fa l u) := by
  refine PE.weak (pe_slice (or_sl m) ha hl hu) ?_
  rintro σ H Q ⟨S, e, h, w, h', sr, ev, q⟩
  unfold eSl at ev
  split at ev
  · cases ev
  · rename_i v h1 e1
    refine ⟨S, e, h, v, h1, sr, e1, fun S1 x H1 x1 r1 v1 => ?_⟩
    split at ev
    · cases ev
    · rename_i lo h2 e2
      refine ⟨S1, e, h1, lo, h2, sr.ext x1 r1, e2, fun S2 H2 x2 r2 => ?_⟩
      split at ev
      · cases ev
      · rename_i hi h3 e3
        refine ⟨S2, e, h2, hi, h3, sr.ext (x1.trans x2) r2, e3, fun S3 H3 x3 r3 => ?_⟩
        exact ⟨S3, h3, v, r3, (v1.ext x2).ext x3, .pre ((x1.trans x2).trans x3) ev q⟩
end
end MP

/-! MPj: calls and methods. -/
namespace MP
open PySem PySem.Spec PyProof.Rows L2

def nostar : Expr → Bool
  | .Starred .. => false
  | _ => true
theorem star_cons {e : Expr} {es : List Expr} {env : Env} (h : nostar e = true) : starEach (e :: es) env = (false, eval e env) :: starEach es env := by
  cases e <;> first | rfl | cases h
theorem back_any {env : Env} {pos : Pos} : ∀ {es : List Expr}, es.all nostar = true → (backTo pos (starEach es env)).any (·.1) = false
  | [], _ => rfl
  | e :: es, h => by
    simp only [List.all_cons, Bool.and_eq_true] at h
    rw [star_cons h.1]
    show (false || (backTo pos (starEach es env)).any (·.1)) = false
    rw [back_any h.2]; rfl
theorem back_len {env : Env} {pos : Pos} : ∀ {es : List Expr}, es.all nostar = true → (backTo pos (starEach es env)).all (fun x => !x.1) = true
  | [], _ => rfl
  | e :: es, h => by
    simp only [List.all_cons, Bool.and_eq_true] at h
    rw [star_cons h.1]
    show (true && (backTo pos (starEach es env)).all (fun x => !x.1)) = true
    rw [back_len h.2]; rfl

section
variable {X : Cx} {e o : Expr} {es : List Expr} {fs : Exps} {fo : Exp} {p pos apos : Pos} {x : Str} {op : OpN} {id T : String}
theorem se_callB (hc : CallR X (.builtin id) (rNs X.K op)) (hg : Gl X x) (hm : X.mg x = none) (hv : bootBuiltins x = some (.builtin id)) (ha : SA X (e :: es) fs) (hs : (e :: es).all nostar = true) (hn : x ≠ "__name__") (hdb : (x == ("__debug__" : Str)) = false) :
    SE X (.Call (.Name x p) (e :: es) [] pos) (eArgs op fs) := by
  simp only [List.all_cons, Bool.and_eq_true] at hs
  exact PE.weak (pe_callB hc hg hm hv ha.1 hn hdb (star_cons hs.1) (back_any hs.2)) (args_of fun _ _ _ q => q)
theorem se_callTy (hc : CallR X (.type T) (rNs X.K op)) (hg : Gl X x) (hm : X.mg x = none) (hv : bootBuiltins x = some (.type T)) (ha : SA X (e :: es) fs) (hs : (e :: es).all nostar = true) (hn : x ≠ "__name__") (hdb : (x == ("__debug__" : Str)) = false) :
    SE X (.Call (.Name x p) (e :: es) [] pos) (eArgs op fs) := by
  simp only [List.all_cons, Bool.and_eq_true] at hs
  exact PE.weak (pe_callTy hc hg hm hv ha.1 hn hdb (star_cons hs.1) (back_any hs.2)) (args_of fun _ _ _ q => q)
/-- isinstance(e, T) -/
theorem se_isi {f : D → Bool} {y : Str} {p2 : Pos} (hT : isT T = some f) (hg : Gl X "isinstance") (hm : X.mg "isinstance" = none) (hg2 : Gl X y) (hm2 : X.mg y = none) (hv : bootBuiltins y = some (.type T)) (ha : SE X o fo) (hs : nostar o = true) (hn : y ≠ "__name__") (hdb : (y == ("__debug__" : Str)) = false) :
    SE X (.Call (.Name "isinstance" p) [o, .Name y p2] [] pos) (eUn (opIsi f) fo) := by
  have ht : PE X (.Name y p2) (tC (.ty T)) := pe_bltn hg2 hm2 hv rfl hn hdb
  refine PE.weak (pe_callB (cb_isi hT) hg hm (by decide +kernel) (pa_cons ha (pa_cons ht pa_nil (by rfl)) (star_cons hs)) (by decide) (by decide) (star_cons hs) (by rfl)) ?_
  rintro σ H Q ⟨S, e, h, v, h', sr, ev, q⟩
  unfold eUn at ev
  split at ev
  · cases ev
  · rename_i u h1 e1
    exact ⟨S, e, h, u, h1, sr, e1, fun S1 x H1 x1 r1 v1 => ⟨x, rfl, S1, h1, u, r1, v1, .pre x1 ev q⟩⟩

/-! ### own defs -/
def spF (K : PySem.W.Frag) (n : Nat) (Φ : List Val → Hh → Option (Val × Hh)) : Sp := fun vs H Q _ => ∃ S h us, HR K H S h ∧ VRs K H S vs us ∧ us.length = n ∧ Gv K S H (Φ us h) Q
structure FnRef (X : Cx) (d : Nat) (x : Str) (n : Nat) (Φ : List Val → Hh → Option (Val × Hh)) : Prop where
  ex : ∃ (f : Addr) (fd : FuncData) (ps : List Str), X.mg x = some (.ref f) ∧ PySem.W.keepIn X.K (.ref f) = true ∧ Binds X.K fd ps [] ∧ FnOk X.prog X.w X.K X.mg X.base CX0 d f fd ps (spF X.K n Φ)
theorem call_of {n : Nat} {Φ : List Val → Hh → Option (Val × Hh)} {K : PySem.W.Frag} (hl : ∀ e h vs h', fs e h = some (vs, h') → vs.length = n) : ∀ σ H Q, tE K (eArgs Φ fs) σ H Q → tCall (spF K n Φ) [] E0 (tAs K fs) σ H Q := by
  rintro σ H Q ⟨S, e, h, v, h', sr, ev, q⟩
  unfold eArgs at ev
  split at ev
  · cases ev
  · rename_i us h1 e1
    refine ⟨S, e, h, us, h1, sr, e1, fun S1 xs H1 x1 r1 v1 => ?_⟩
    show spF K n Φ (xs ++ []) H1 Q E0
    rw [List.append_nil]
    exact ⟨S1, h1, us, r1, v1, hl _ _ _ _ e1, .pre x1 ev q⟩
theorem se_call {d n : Nat} {Φ : List Val → Hh → Option (Val × Hh)} (F : FnRef X d x n Φ) (hr : Room d X.A) (hg : Gl X x) (ha : SA X (e :: es) fs) (hn : (e :: es).length = n) (hs : (e :: es).all nostar = true) (hdb : (x == ("__debug__" : Str)) = false) :
    SE X (.Call (.Name x p) (e :: es) [] pos) (eArgs Φ fs) := by
  obtain ⟨f, fd, ps, hm, hk, hb, G⟩ := F.ex
  simp only [List.all_cons, Bool.and_eq_true] at hs
  refine PE.weak (pe_call G hr hg hm hk hb .nil pass0 ha.1 hdb (star_cons hs.1) ?_) (call_of fun e h vs h' q => (ha.2 e h vs h' q).trans hn)
  first
    | exact back_any (by simp [hs.1, hs.2])
    | (rw [back_any (by simpa using hs)]; rfl)
theorem se_call0 {d : Nat} {Φ : List Val → Hh → Option (Val × Hh)} (F : FnRef X d x 0 Φ) (hr : Room d X.A) (hg : Gl X x) (hdb : (x == ("__debug__" : Str)) = false) :
    SE X (.Call (.Name x p) [] [] pos) (eArgs Φ aNil) := by
  obtain ⟨f, fd, ps, hm, hk, hb, G⟩ := F.ex
  refine PE.weak (pe_call0 G hr hg hm hk hb .nil pass0 hdb) ?_
  rintro σ H Q ⟨S, e, h, v, h', sr, ev, q⟩
  exact ⟨S, h, [], sr.hr, .nil, rfl, v, h', ev, q⟩

/-! ### methods -/
def mkind : Val → Hh → Option String
  | .d (.str _), _ => some "str"
  | v, h => match listItems v h with
    | some _ => some "list"
    | none => none
structure MthOk (X : Cx) (T : String) (name : Str) (op : OpM) : Prop where
  ex : ∃ id, PlainAttrs T ∧ Slot T name id ∧ typeOf (.builtin id) = pure (.type "method_descriptor") ∧ MtR X id (rM X.K op)
def eMeth (f : String → Option OpM) (fo : Exp) (fs : Exps) : Exp := fun e h => match fo e h with
  | none => none
  | some (u, h1) => match mkind u h1 with
    | none => none
    | some T => match f T with
      | none => none
      | some op => match fs e h1 with
        | none => none
        | some (vs, h2) => op u vs h2
theorem kind_ok {K : PySem.W.Frag} {H : Hp} {S : Sg} {h : Hh} (hr : HR K H S h) {x : V} {u : Val} (vx : VR K H S x u) {T : String} (e : mkind u h = some T) : tyV K T x H := by
  unfold mkind at e
  split at e
  · cases e; cases vx; exact rfl
  · split at e
    · rename_i us eu
      cases e
      obtain ⟨p, xs, rfl, e2, _⟩ := li_ok hr vx eu
      exact .inl ⟨rfl, xs, e2⟩
    · cases e
def plainBase : Expr → Bool
  | .Call (.Name _ _) [] [] _ => false
  | _ => true
theorem base_ok {o : Expr} {name : Str} {env : Env} (h : plainBase o = true) : attributeBase o name env (eval o env) = eval o env := by
  unfold plainBase at h
  split at h
  · cases h
  · rename_i hn
    unfold attributeBase
    split
    · rename_i q
      exact absurd rfl (hn _ _ _)
    · rfl
theorem se_meth {name : Str} {f : String → Option OpM} (hf : ∀ T op, f T = some op → MthOk X T name op) (ho : SE X o fo) (ha : SA X (e :: es) fs) (hb : plainBase o = true) (hs : (e :: es).all nostar = true) (hl : (e :: es).length < 28) (hline : (apos.endLine == pos.line) = true) :
    SE X (.Call (.Attribute o name apos) (e :: es) [] pos) (eMeth f fo fs) := by
  have hs' := hs
  simp only [List.all_cons, Bool.and_eq_true] at hs'
  refine ⟨fun pins s σ H Q I hq => ?_⟩
  obtain ⟨S, ev, h, v, h', sr, q0, q⟩ := hq
  unfold eMeth at q0
  split at q0
  · cases q0
  · rename_i u h1 e1
    split at q0
    · cases q0
    · rename_i T eT
      split at q0
      · cases q0
      · rename_i op eop
        split at q0
        · cases q0
        · rename_i vs h2 e2
          obtain ⟨id, pa, slot, hty, hm⟩ := (hf T op eop).ex
          refine wpAny_Call_method_late (base_ok hb) ?_ hline rfl (thn (ho.run pins s σ H (fun x H1 => ∃ S1, Ext S H S1 H1 ∧ HR X.K H1 S1 h1 ∧ VR X.K H1 S1 x u) I ⟨S, ev, h, u, h1, sr, e1, fun S1 x H1 x1 r1 v1 => ⟨S1, x1, r1, v1⟩⟩) fun v0 s1 ⟨x, H1, I1, r1, q1⟩ => ?_)
          · rw [back_len hs]
            show (true && true && decide _) = true
            simp only [Bool.and_true, Bool.true_and, decide_eq_true_eq]
            show (e :: es).length + 0 + 0 < 30
            omega
          · obtain ⟨S1, x1, hr1, v1⟩ := q1
            obtain ⟨t1, t2⟩ := tyV_is I1 r1 (kind_ok hr1 v1 eT)
            refine ⟨T, id, pa, slot, hty, t1, t2, ?_⟩
            have hA := ha.1.run pos pins s1 σ H1 (fun xs H2 => ∃ S2, Ext S H S2 H2 ∧ HR X.K H2 S2 h2 ∧ VRs X.K H2 S2 xs vs ∧ VR X.K H2 S2 x u) I1 ⟨S1, ev, h1, vs, h2, sr.ext x1 hr1, e2, fun S2 xs H2 x2 r2 v2 => ⟨S2, x1.trans x2, r2, v2, v1.ext x2⟩⟩
            rw [star_cons hs'.1] at hA ⊢
            refine Calls.callWith_builtin (by show (false || (backTo pos (starEach es X.env)).any (·.1)) = false; rw [back_any hs'.2] <;> rfl) (Calls.evalArgs_plain ?_)
            exact thn hA fun us s2 ⟨xs, H2, I2, r2, S2, x2, hr2, v2, vx⟩ => hm pins s2 σ H2 x xs v0 us Q I2 r1 r2 ⟨S2, h2, u, vs, hr2, vx, v2, .pre x2 q0 q⟩
theorem se_meth0 {name : Str} {f : String → Option OpM} (hf : ∀ T op, f T = some op → MthOk X T name op) (ho : SE X o fo) (hb : plainBase o = true) (hline : (apos.endLine == pos.line) = true) :
    SE X (.Call (.Attribute o name apos) [] [] pos) (eMeth f fo aNil) := by
  refine ⟨fun pins s σ H Q I hq => ?_⟩
  obtain ⟨S, ev, h, v, h', sr, q0, q⟩ := hq
  unfold eMeth at q0
  split at q0
  · cases q0
  · rename_i u h1 e1
    split at q0
    · cases q0
    · rename_i T eT
      split at q0
      · cases q0
      · rename_i op eop
        change op u [] h1 = some (v, h') at q0
        obtain ⟨id, pa, slot, hty, hm⟩ := (hf T op eop).ex
        refine wpAny_Call_method0_late (base_ok hb) hline (thn (ho.run pins s σ H (fun x H1 => ∃ S1, Ext S H S1 H1 ∧ HR X.K H1 S1 h1 ∧ VR X.K H1 S1 x u) I ⟨S, ev, h, u, h1, sr, e1, fun S1 x H1 x1 r1 v1 => ⟨S1, x1, r1, v1⟩⟩) fun v0 s1 ⟨x, H1, I1, r1, q1⟩ => ?_)
        obtain ⟨S1, x1, hr1, v1⟩ := q1
        obtain ⟨t1, t2⟩ := tyV_is I1 r1 (kind_ok hr1 v1 eT)
        exact ⟨T, id, pa, slot, hty, t1, t2, Calls.callWith_builtin rfl (PySem.evalArgs_none (hm pins s1 σ H1 x [] v0 [] Q I1 r1 .nil ⟨S1, h1, u, [], hr1, v1, .nil, .pre x1 q0 q⟩))⟩
end
end MP

/-! MPk: enumerate over tuples and texts; what is walked. -/
namespace MP
open PySem PySem.Spec PyProof.Rows L2

section
variable {P : Program} {w : World}
/-- enumerate(v): its two new cells -/
theorem enum1 {A : Around} {E : Value → Shared → Prop} {s : Shared} {v : Value} {o : Obj} {G : Heap → Prop} {Q : Value → Shared → Prop} (B : Begins v o G) (h1 : G s.heap)
    (q : ∀ h', IsEnum h' (s.heap.objs.size + 1) s.heap.objs.size 0 .none → h'.get? s.heap.objs.size = some o → (∀ b o', s.heap.get? b = some o' → h'.get? b = some o') → Q (.ref (s.heap.objs.size + 1)) { s with heap := h' }) :
    wpAny (model P w) A (call (.type "enumerate") [v]) Q E s := by
  have mk : Meets (Builtin.«enumerate.__new__» ⟨[.type "enumerate", v], []⟩) (fun _ R s => G s.heap ∧
      R (.ok (.ret (.ref (s.heap.push o).objs.size))) { s with heap := (s.heap.push o).push ⟨.type "enumerate", none, .fields #[.none, .bool false, .ref s.heap.objs.size, rawInt 0, .none, .none], #[]⟩ }) :=
    .of_wp fun prog w A R s h => by
      obtain ⟨hp, g, d, tk, os⟩ := s
      obtain ⟨z1, h⟩ := h
      have hsub := sub_enumerate
      have go : ∀ {A1 : Around} {E1 : Value → Shared → Prop} {Q1 : Value → Shared → Prop}, Q1 (.ref hp.objs.size) ⟨hp.push o, g, d, tk, os⟩ → wpAny (model prog w) A1 (pyIter v) Q1 E1 ⟨hp, g, d, tk, os⟩ := fun z => B.iter prog w _ _ ⟨hp, g, d, tk, os⟩ _ z1 z
      wp_walk using go
      refine wpAny_stack_any fun st => wpAny_pure ?_
      split
      · rename_i c _ _ _ _ _
        cases (c == Value.type "enumerate") <;> (wp_walk using go; exact ⟨_, rfl, h⟩)
      · wp_walk using go
        exact ⟨_, rfl, h⟩
  refine callType_new F.called_enumerate (by decide) (F.typeCall_enumerate_1 _) (F.newCall_enumerate_1 _)
    (fun obj => F.args_object_init_2 obj _) F.entry_enumerate_new mk ⟨h1, ?_⟩
  have sz : (s.heap.push o).objs.size = s.heap.objs.size + 1 := Heap.size_push ..
  show _ ∧ _
  rw [sz]
  have en := Heap.get?_push_size (s.heap.push o) (o := (⟨.type "enumerate", none, .fields #[.none, .bool false, .ref s.heap.objs.size, rawInt 0, .none, .none], #[]⟩ : Obj)) rfl
  rw [sz] at en
  exact ⟨⟨_, en, rfl⟩, q _ en (Heap.get?_push_of_some _ (Heap.get?_push_size _ B.free)) fun b o' x => Heap.get?_push_of_some _ (Heap.get?_push_of_some _ x)⟩
end

/-- enumerate over the tuple at a -/
def IteT (K : PySem.W.Frag) (a : Addr) : It :=
  ⟨fun i H => ∃ xs x, SqT K H a xs ∧ xs[i]? = some x, fun i H v H' => ∃ T x, v = .ref T ∧ H T = none ∧ H' = upd H T (.tup [.int (i : Nat), x]) ∧ ∀ xs, SqT K H a xs → xs[i]? = some x, fun i H => ∃ xs, SqT K H a xs ∧ xs.length = i⟩
/-- enumerate over a text -/
def IteS (z : Str) : It :=
  ⟨fun i _ => i < z.cps.size, fun i H v H' => ∃ T c, v = .ref T ∧ H T = none ∧ H' = upd H T (.tup [.int (i : Nat), .str ⟨#[c]⟩]) ∧ z.cps[i]? = some c, fun i _ => z.cps.size = i⟩
section
variable {P : Program} {w : World} {K : PySem.W.Frag} {elts : List Expr} {kk : Nat} {tpos : Pos}
/-- one turn of an enumerate whose source draws -/
theorem enum_turn {X : Cx} {i n : Nat} {pins : List (Addr × Obj)} {s : Shared} {σ : L2.St} {H : Hp} {E : Value → Shared → Prop} {e it : Addr} {fp : List Addr} {Pv : Nat → Value → Prop} {St0 : Nat → Heap → Prop} {old : Value} {tn : Heap → Prop} {x : V}
    (D : Draws X.prog X.w X.A.in1 it fp n Pv St0) (hn : i < n) (I : L2.Inv X pins σ H s) (he : IsEnum s.heap e it ((i : Nat) : Int) old) (hst : St0 i s.heap) (hne : e ≠ it) (hef : e ∉ fp) (hil : it < s.heap.objs.size) (hf : ∀ b ∈ [e, it], FpOk X pins H b)
    (hP : ∀ u, Pv i u → RelV x u) (next : ∀ h1 h2, St0 (i + 1) h1 → (∀ b o, b ≠ e → h1.get? b = some o → h2.get? b = some o) → (∃ y, IsEnum h2 e it (((i + 1 : Nat)) : Int) y) → tn h2)
    {R : V → Hp → Prop} (q : ∀ T, H T = none → R (.ref T) (upd H T (.tup [.int (i : Nat), x]))) :
    wpAny (model X.prog X.w) X.A (pyNext (.ref e)) (fun r s1 => ∃ u, r = some u ∧
      wpAny (model X.prog X.w) X.A (letOwnedTupleGo (.Tuple elts kk tpos) (.ref e) u) (fun _ s2 => ∃ y H', L2.Inv X pins σ H' s2 ∧ RelV y u ∧ R y H' ∧ tn s2.heap ∧ ∀ b ∈ [e, it], H' b = none) E s1) E s := by
  have hel : e < s.heap.objs.size := Heap.lt_size he
  refine wpAny_pyNext_enum_itemD D he hst hn hne hef fun u h' tk hu ho hs' hT hsz hk => ?_
  refine ⟨_, rfl, wpAny_letOwnedTupleGo_enum (s := { s with heap := h', toks := tk + 1 }) ho fun h'' he' sb => ?_⟩
  have t2 : h''.get? s.heap.objs.size = some { cls := .type "tuple", data := .seq #[.int i tk, u] } := (sb.2 _ (Nat.ne_of_gt hel)).trans hT
  have new : ObjOk X.prog X.w (upd H s.heap.objs.size (.tup [.int (i : Nat), x])) h'' s.heap.objs.size (.tup [.int (i : Nat), x]) :=
    ⟨by show 2 ≤ sizeLine; decide, [.int i tk, u], .cons ⟨_, rfl⟩ (.cons (hP u hu) .nil), ⟨_, t2, rfl, _, rfl⟩⟩
  have I1 : L2.Inv X pins σ (upd H s.heap.objs.size (.tup [.int (i : Nat), x])) { s with heap := h'', toks := tk + 1 } :=
    I.turnedNew (ch := [e, it]) (fun b ob hb z => (sb.2 b fun y => hb (by simp [y])).trans (hk b ob (fun y => hb (by simp [y])) (fun y => hb (by simp [y])) z)) hf (Nat.le_refl _) new
  refine ⟨.ref s.heap.objs.size, _, I1, rfl, q _ (I.hok.fresh (Nat.le_refl _)), next h' h'' hs' (fun b o hb z => (sb.2 b hb).trans z) ⟨u, ?_⟩, fun b hb => ?_⟩
  · have e1 : ((i + 1 : Nat) : Int) = (i : Int) + 1 := by omega
    rw [e1]; exact he'
  · have hb' : b < s.heap.objs.size := by
      have e' : b = e ∨ b = it := by simpa using hb
      rcases e' with z | z <;> rw [z] <;> assumption
    rw [upd_ne (Nat.ne_of_lt hb')]
    exact (hf b hb).1
theorem enum_done {X : Cx} {i : Nat} {pins : List (Addr × Obj)} {s : Shared} {σ : L2.St} {H : Hp} {E : Value → Shared → Prop} {e it : Addr} {fp : List Addr} {Pv : Nat → Value → Prop} {St0 : Nat → Heap → Prop} {old : Value}
    (D : Draws X.prog X.w X.A.in1 it fp i Pv St0) (I : L2.Inv X pins σ H s) (he : IsEnum s.heap e it ((i : Nat) : Int) old) (hst : St0 i s.heap) (hf : ∀ b ∈ [e, it], FpOk X pins H b) :
    wpAny (model X.prog X.w) X.A (pyNext (.ref e)) (fun r s1 => r = none ∧ L2.Inv X pins σ H s1) E s := by
  obtain ⟨f0, f1, f2, f3, f4, f5⟩ := hf it (by simp)
  exact wpAny_pyNext_enum_endD D he hst fun h' eb => ⟨rfl, I.turned (t' := s.toks) (fun b o hb z => eb b o hb z) f0 f1 f3 f4 f5⟩
theorem enum_self {A : Around} {s : Shared} {e it : Addr} {i : Int} {old : Value} {Q : Value → Shared → Prop} {E : Value → Shared → Prop} (he : IsEnum s.heap e it i old) (q : Q (.ref e) s) : wpAny (model P w) A (pyIter (.ref e)) Q E s := wpAny_pyIter_enum he q
theorem turn_enumT (a e it : Addr) : Turn P w K (.Tuple elts kk tpos) (IteT K a) [e, it] e (fun i h => (∃ old, IsEnum h e it ((i : Nat) : Int) old) ∧ h.IsTupleIter it a i ∧ e ≠ it ∧ a ≠ it ∧ e ≠ a) where
  mem := by simp
  obj := fun i h st b hb => by
    obtain ⟨⟨old, he⟩, ⟨o, ho, hc, hd⟩, _⟩ := st
    have e' : b = e ∨ b = it := by simpa using hb
    rcases e' with z | z
    · subst z; exact ⟨_, he, fun v q => nomatch q⟩
    · subst z; exact ⟨o, ho, fun v q => by rw [hd] at q; cases q⟩
  keep := fun i h h' st k => let ⟨⟨old, he⟩, ⟨o, ho, r⟩, r2⟩ := st; ⟨⟨old, k e (by simp) _ he⟩, ⟨o, k it (by simp) o ho, r⟩, r2⟩
  item := by
    intro X hP hw hK hc i pins s σ H E I hf st hg
    subst hP hw hK
    obtain ⟨⟨old, he⟩, hit, n1, n2, n3⟩ := st
    obtain ⟨xs, x, hq, hx⟩ := hg
    obtain ⟨its, rv, p, hz⟩ := I.tuple hq
    have hil : it < s.heap.objs.size := by obtain ⟨_, q, _⟩ := hit; exact Heap.lt_size q
    have hn : i < its.toArray.size := by
      have := (List.getElem?_eq_some_iff.mp hx).1
      rw [List.size_toArray, ← rv.length]; exact this
    refine enum_turn (R := fun y H' => (IteT X.K a).yld i H y H') (tn := fun h => (∃ old, IsEnum h e it ((i + 1 : Nat) : Int) old) ∧ h.IsTupleIter it a (i + 1) ∧ e ≠ it ∧ a ≠ it ∧ e ≠ a)
      (Draws.tuple (A := X.A.in1) (I.ok.hd hc) it a n2 its.toArray) hn I he ⟨hit, p⟩ n1 (by simp [n1, n3]) hil hf (x := x) (fun u hu => ?_) (fun h1 h2 st' k en => ?_) fun T hT => ?_
    · obtain ⟨u', hu', ru⟩ := rv.get hx
      have : u' = u := by
        have hu2 : its[i]? = some u := by simpa using hu
        rw [hu'] at hu2; exact Option.some.inj hu2
      subst this; exact ru
    · obtain ⟨⟨o, ho, r⟩, _⟩ := st'
      exact ⟨en, ⟨o, k it o (Ne.symm n1) ho, r⟩, n1, n2, n3⟩
    · exact ⟨T, x, rfl, hT, rfl, fun ys hy => by rw [I.tuple_inj hy hq]; exact hx⟩
  done := by
    intro X hP hw hK hc i pins s σ H E I hf st hg
    subst hP hw hK
    obtain ⟨⟨old, he⟩, hit, n1, n2, n3⟩ := st
    obtain ⟨xs, hq, hx⟩ := hg
    obtain ⟨its, rv, p, hz⟩ := I.tuple hq
    have D := Draws.tuple (prog := X.prog) (w := X.w) (A := X.A.in1) (I.ok.hd hc) it a n2 its.toArray
    have hn : its.toArray.size = i := by rw [List.size_toArray, ← rv.length]; exact hx
    rw [hn] at D
    exact enum_done D I he ⟨hit, p⟩ hf
  self := fun _ _ _ _ _ st q => let ⟨⟨old, he⟩, _⟩ := st; enum_self he q
theorem draws_text {prog : Program} {w : World} {A : Around} (hh : A.handled = none) (it : Addr) (z : Str) (t : Tok) :
    Draws prog w A it [it] z.cps.size (fun i v => ∃ c u, z.cps[i]? = some c ∧ v = .str ⟨#[c]⟩ u) (fun i h => h.IsStrIter it (strIterType z) z t i) := by
  cases hz : z.cps.all (· < 128)
  · have e : strIterType z = "str_iterator" := by unfold strIterType; rw [hz]; rfl
    rw [e]; exact Draws.strWide hh it z t
  · have e : strIterType z = "str_ascii_iterator" := by unfold strIterType; rw [hz]; rfl
    rw [e]; exact Draws.strAscii hh it z t
theorem turn_enumS (z : Str) (t : Tok) (e it : Addr) : Turn P w K (.Tuple elts kk tpos) (IteS z) [e, it] e (fun i h => (∃ old, IsEnum h e it ((i : Nat) : Int) old) ∧ h.IsStrIter it (strIterType z) z t i ∧ e ≠ it) where
  mem := by simp
  obj := fun i h st b hb => by
    obtain ⟨⟨old, he⟩, ⟨o, ho, hc, hd⟩, _⟩ := st
    have e' : b = e ∨ b = it := by simpa using hb
    rcases e' with z | z
    · subst z; exact ⟨_, he, fun v q => nomatch q⟩
    · subst z; exact ⟨o, ho, fun v q => by rw [hd] at q; cases q⟩
  keep := fun i h h' st k => let ⟨⟨old, he⟩, ⟨o, ho, r⟩, r2⟩ := st; ⟨⟨old, k e (by simp) _ he⟩, ⟨o, k it (by simp) o ho, r⟩, r2⟩
  item := by
    intro X hP hw hK hc i pins s σ H E I hf st hg
    subst hP hw hK
    obtain ⟨⟨old, he⟩, hit, n1⟩ := st
    have hil : it < s.heap.objs.size := by obtain ⟨_, q, _⟩ := hit; exact Heap.lt_size q
    have hg : i < z.cps.size := hg
    have D := draws_text (prog := X.prog) (w := X.w) (A := X.A.in1) (I.ok.hd hc) it z t
    refine enum_turn (R := fun y H' => (IteS z).yld i H y H') (tn := fun h => (∃ old, IsEnum h e it ((i + 1 : Nat) : Int) old) ∧ h.IsStrIter it (strIterType z) z t (i + 1) ∧ e ≠ it)
      D hg I he hit n1 (by simp [n1]) hil hf (x := .str ⟨#[z.cps[i]]⟩) (fun u hu => ?_) (fun h1 h2 st' k en => ?_) fun T hT => ?_
    · obtain ⟨c, u', e1, rfl⟩ := hu
      rw [Array.getElem?_eq_getElem hg] at e1
      cases e1
      exact ⟨u', rfl⟩
    · obtain ⟨o, ho, r⟩ := st'
      exact ⟨en, ⟨o, k it o (Ne.symm n1) ho, r⟩, n1⟩
    · exact ⟨T, _, rfl, hT, rfl, Array.getElem?_eq_getElem hg⟩
  done := by
    intro X hP hw hK hc i pins s σ H E I hf st hg
    subst hP hw hK
    obtain ⟨⟨old, he⟩, hit, n1⟩ := st
    have hg : z.cps.size = i := hg
    have D := draws_text (prog := X.prog) (w := X.w) (A := X.A.in1) (I.ok.hd hc) it z t
    rw [hg] at D
    exact enum_done D I he hit hf
  self := fun _ _ _ _ _ st q => let ⟨⟨old, he⟩, _⟩ := st; enum_self he q
end
end MP

/-! MPl: what is walked (SI), targets (SG). -/
namespace MP
open PySem PySem.Spec PyProof.Rows L2

/-- what a walk gives: a value, or a new pair -/
inductive Itm where
  | one (v : Val) | two (a b : Val)
inductive Src where
  /-- known from the start -/
  | st (its : List Itm)
  /-- the list at n as it stands; the same with its indexes -/
  | lv (n : Nat) | lve (n : Nat)
def enumFrom : List Val → Nat → List Itm
  | [], _ => []
  | v :: vs, i => .two (.d (.int (i : Nat))) v :: enumFrom vs (i + 1)
def Src.now : Src → Hh → Option (List Itm)
  | .st its, _ => some its
  | .lv n, h => match listItems (.loc n) h with
    | some vs => some (vs.map .one)
    | none => none
  | .lve n, h => match listItems (.loc n) h with
    | some vs => some (enumFrom vs 0)
    | none => none
def ItV (K : PySem.W.Frag) (H : Hp) (S : Sg) (x : V) : Itm → Prop
  | .one v => VR K H S x v
  | .two a b => ∃ p y z, x = .ref p ∧ LkT K H S p [y, z] ∧ VR K H S y a ∧ VR K H S z b
/-- what keeps values as they are -/
structure Mo (S : Sg) (H : Hp) (S' : Sg) (H' : Hp) : Prop where
  lv : ∀ a o, H a = some o → ¬ S.live a → H' a = some o ∧ ¬ S'.live a
  old : ∀ (n : Nat) (a : Addr) (b : Bool), S.r[n]? = some (a, b) → ∃ b', S'.r[n]? = some (a, b')
theorem Ext.mo {S S' : Sg} {H H' : Hp} (e : Ext S H S' H') : Mo S H S' H' := ⟨e.lv, e.old⟩
theorem Mo.trans {S S1 S2 : Sg} {H H1 H2 : Hp} (a : Mo S H S1 H1) (b : Mo S1 H1 S2 H2) : Mo S H S2 H2 :=
  ⟨fun x o h n => let ⟨h1, n1⟩ := a.lv x o h n; b.lv x o h1 n1, fun n x y h => let ⟨_, h1⟩ := a.old n x y h; b.old n x _ h1⟩
theorem Df.mo {K : PySem.W.Frag} {S S' : Sg} {H H' : Hp} {v : V} {x : D} (h : Df K H S v x) (e : Mo S H S' H') : Df K H' S' v x := h.mono e.lv
theorem DfA.mo {K : PySem.W.Frag} {S S' : Sg} {H H' : Hp} {v : List V} {x : List D} (h : DfA K H S v x) (e : Mo S H S' H') : DfA K H' S' v x := h.mono e.lv
theorem VR.mo {K : PySem.W.Frag} {S S' : Sg} {H H' : Hp} {v : V} {u : Val} (h : VR K H S v u) (e : Mo S H S' H') : VR K H' S' v u := by
  cases u with
  | d x => exact Df.mo h e
  | loc n => obtain ⟨a, b, h1, h2⟩ := h; obtain ⟨b', h3⟩ := e.old _ _ _ h1; exact ⟨a, b', h3, h2⟩
  | scr ns =>
    obtain ⟨a, h1, h2⟩ := h
    exact ⟨a, h1, h2.imp (fun ⟨o, q, n⟩ => ⟨o, (e.lv _ _ q n).1, (e.lv _ _ q n).2⟩) id⟩
theorem VRs.mo {K : PySem.W.Frag} {S S' : Sg} {H H' : Hp} {vs : List V} {us : List Val} (h : VRs K H S vs us) (e : Mo S H S' H') : VRs K H' S' vs us := Paired.mono (fun _ _ q => VR.mo q e) h
theorem SR.mo {K : PySem.W.Frag} {S S' : Sg} {σ : L2.St} {H H' : Hp} {e : Ev} {h h' : Hh} (r : SR K S σ H e h) (x : Mo S H S' H') (hr : HR K H' S' h') : SR K S' σ H' e h' :=
  ⟨hr, fun i v q => let ⟨y, h1, h2⟩ := r.ev i v q; ⟨y, h1, h2.mo x⟩, r.el⟩
structure ItR (K : PySem.W.Frag) (S0 : Sg) (H0 : Hp) (J : L2.It) (src : Src) : Prop where
  run : ∀ S H h its, Mo S0 H0 S H → HR K H S h → src.now h = some its → ∀ i,
    (∀ it, its[i]? = some it → J.go i H ∧ ∀ x H', J.yld i H x H' → Ext S H S H' ∧ HR K H' S h ∧ ItV K H' S x it) ∧ (i = its.length → J.stop i H)
abbrev ISrc := Ev → Hh → Option (Src × Hh)
def tI (K : PySem.W.Frag) (f : ISrc) : TI := fun σ H R => ∃ S e h src h', SR K S σ H e h ∧ f e h = some (src, h') ∧
  ∀ S' J H', Ext S H S' H' → HR K H' S' h' → ItR K S' H' J src → R J H'
def SI (X : Cx) (tg e : Expr) (f : ISrc) : Prop := PI X tg e (tI X.K f)

def srcV : Val → Hh → Option Src
  | .d (.tuple ds), _ => some (.st (ds.map fun x => .one (.d x)))
  | .d (.list ds), _ => some (.st (ds.map fun x => .one (.d x)))
  | .d (.str z), _ => some (.st (z.cps.toList.map fun c => .one (.d (.str ⟨#[c]⟩))))
  | .loc n, h => match h[n]? with
    | some (.lst _) => some (.lv n)
    | some (.frz (.list ds)) => some (.st (ds.map fun x => .one (.d x)))
    | _ => none
  | _, _ => none
def iAny (fa : Exp) : ISrc := fun e h => match fa e h with
  | none => none
  | some (u, h1) => match srcV u h1 with
    | some s => some (s, h1)
    | none => none
def srcE : Val → Hh → Option Src
  | .d (.tuple ds), _ => some (.st (enumFrom (ds.map .d) 0))
  | .d (.list ds), _ => some (.st (enumFrom (ds.map .d) 0))
  | .d (.str z), _ => some (.st (enumFrom (z.cps.toList.map fun c => .d (.str ⟨#[c]⟩)) 0))
  | .loc n, h => match h[n]? with
    | some (.lst _) => some (.lve n)
    | some (.frz (.list ds)) => some (.st (enumFrom (ds.map .d) 0))
    | _ => none
  | _, _ => none
def iEnu (fa : Exp) : ISrc := fun e h => match fa e h with
  | none => none
  | some (u, h1) => match srcE u h1 with
    | some s => some (s, h1)
    | none => none
def rngItems (lo : Int) (n : Nat) : List Itm := (List.range n).map fun (k : Nat) => .one (.d (.int (lo + k)))
def sm62 (i : Int) : Bool := decide (-4611686018427387904 ≤ i) && decide (i < 4611686018427387904)
def iRg (fs : Exps) : ISrc := fun e h => match fs e h with
  | some ([.d (.int j)], h1) => if sm62 j then some (.st (rngItems 0 j.toNat), h1) else none
  | some ([.d (.int i), .d (.int j)], h1) => if sm62 i && sm62 j then some (.st (rngItems i (j - i).toNat), h1) else none
  | _ => none
def srcZ : List D → List D → List Itm
  | x :: xs, y :: ys => .two (.d x) (.d y) :: srcZ xs ys
  | _, _ => []
def iZp (fs : Exps) : ISrc := fun e h => match fs e h with
  | some ([.d (.list xs), .d (.list ys)], h1) => some (.st (srcZ xs ys), h1)
  | some ([.d (.tuple xs), .d (.tuple ys)], h1) => some (.st (srcZ xs ys), h1)
  | _ => none

theorem enumFrom_at : ∀ (vs : List Val) (k i : Nat), (enumFrom vs k)[i]? = vs[i]?.map fun v => .two (.d (.int ((k + i : Nat)))) v
  | [], k, i => by simp [enumFrom]
  | v :: vs, k, 0 => by simp [enumFrom]
  | v :: vs, k, i + 1 => by
    show (enumFrom vs (k + 1))[i]? = vs[i]?.map _
    rw [enumFrom_at vs (k + 1) i]
    have e : k + 1 + i = k + (i + 1) := by omega
    rw [e]
theorem enumFrom_len : ∀ (vs : List Val) (k : Nat), (enumFrom vs k).length = vs.length
  | [], _ => rfl
  | v :: vs, k => by show (enumFrom vs (k + 1)).length + 1 = _; rw [enumFrom_len vs]; rfl
section
variable {X : Cx} {K : PySem.W.Frag} {tg : Expr}
theorem dfa_at {H : Hp} {S : Sg} : ∀ {ds : List D} {xs : List V} {i : Nat} {d : D}, DfA K H S xs ds → ds[i]? = some d → ∃ x, xs[i]? = some x ∧ Df K H S x d
  | [], _, i, d, _, e => by simp at e
  | y :: ys, _, 0, d, h, e => by cases h with | cons a b => simp at e; subst e; exact ⟨_, rfl, a⟩
  | y :: ys, _, i + 1, d, h, e => by
    cases h with
    | cons a b =>
      obtain ⟨x, h1, h2⟩ := dfa_at (i := i) b (by simpa using e)
      exact ⟨x, by simpa using h1, h2⟩
/-- a frozen list -/
theorem itr_list {S0 : Sg} {H0 : Hp} {a : Addr} {xs : List V} {ds : List D} (l : LkL K H0 S0 a xs) (t : DfA K H0 S0 xs ds) : ItR K S0 H0 (Itl K a) (.st (ds.map fun x => .one (.d x))) where
  run := by
    intro S H h its ex hr e i
    cases e
    have k := ex.lv a _ l.1 l.2
    have sq : SqL K H a xs := .inl (.inl k.1)
    refine ⟨fun it q => ?_, fun q => ⟨xs, sq, by rw [t.len]; simp [q]⟩⟩
    rw [List.getElem?_map] at q
    obtain ⟨d, e1, e2⟩ := Option.map_eq_some_iff.mp q
    subst e2
    obtain ⟨x, h1, h2⟩ := dfa_at t e1
    refine ⟨⟨xs, x, sq, h1⟩, fun y H' hy => ?_⟩
    obtain ⟨rfl, hy⟩ := hy
    have := hy xs sq
    rw [h1] at this; cases this
    exact ⟨.refl _ _, hr, h2.mo ex⟩
theorem LkT.mo {S S' : Sg} {H H' : Hp} {a : Addr} {xs : List V} (l : LkT K H S a xs) (e : Mo S H S' H') : LkT K H' S' a xs := by
  rcases l with ⟨l, n⟩ | l
  · exact .inl ⟨(e.lv _ _ l n).1, (e.lv _ _ l n).2⟩
  · exact .inr l
theorem itr_tup {S0 : Sg} {H0 : Hp} {a : Addr} {xs : List V} {ds : List D} (l : LkT K H0 S0 a xs) (t : DfA K H0 S0 xs ds) : ItR K S0 H0 (Itt K a) (.st (ds.map fun x => .one (.d x))) where
  run := by
    intro S H h its ex hr e i
    cases e
    have sq : SqT K H a xs := (l.mo ex).sq
    refine ⟨fun it q => ?_, fun q => ⟨xs, sq, by rw [t.len]; simp [q]⟩⟩
    rw [List.getElem?_map] at q
    obtain ⟨d, e1, e2⟩ := Option.map_eq_some_iff.mp q
    subst e2
    obtain ⟨x, h1, h2⟩ := dfa_at t e1
    refine ⟨⟨xs, x, sq, h1⟩, fun y H' hy => ?_⟩
    obtain ⟨rfl, hy⟩ := hy
    have := hy xs sq
    rw [h1] at this; cases this
    exact ⟨.refl _ _, hr, h2.mo ex⟩
theorem itr_str {S0 : Sg} {H0 : Hp} {z : Str} : ItR K S0 H0 (Its z) (.st (z.cps.toList.map fun c => .one (.d (.str ⟨#[c]⟩)))) where
  run := by
    intro S H h its ex hr e i
    cases e
    refine ⟨fun it q => ?_, fun q => by show z.cps.size ≤ i; simp [q]⟩
    rw [List.getElem?_map] at q
    obtain ⟨c, e1, e2⟩ := Option.map_eq_some_iff.mp q
    subst e2
    have e3 : z.cps[i]? = some c := by simpa using e1
    refine ⟨(Array.getElem?_eq_some_iff.mp e3).1, fun y H' hy => ?_⟩
    obtain ⟨rfl, c', e4, rfl⟩ := hy
    rw [e3] at e4; cases e4
    exact ⟨.refl _ _, hr, Df.str _⟩
theorem itr_live {S0 : Sg} {H0 : Hp} {a : Addr} {n : Nat} {b : Bool} (g : S0.r[n]? = some (a, b)) : ItR K S0 H0 (Itl K a) (.lv n) where
  run := by
    intro S H h its ex hr e i
    obtain ⟨b', g'⟩ := ex.old _ _ _ g
    unfold Src.now at e
    simp only at e
    split at e
    · rename_i vs ev
      cases e
      obtain ⟨p, xs, e1, sq, r⟩ := li_ok hr (v := .ref a) (u := .loc n) ⟨a, b', g', rfl⟩ ev
      cases e1
      refine ⟨fun it q => ?_, fun q => ⟨xs, sq, by rw [paired_len r]; simp [q]⟩⟩
      rw [List.getElem?_map] at q
      obtain ⟨v, e1, e2⟩ := Option.map_eq_some_iff.mp q
      subst e2
      obtain ⟨x, h1, h2⟩ := paired_at r e1
      refine ⟨⟨xs, x, sq, h1⟩, fun y H' hy => ?_⟩
      obtain ⟨rfl, hy⟩ := hy
      have := hy xs sq
      rw [h1] at this; cases this
      exact ⟨.refl _ _, hr, h2⟩
    · cases e
theorem itr_rng {S0 : Sg} {H0 : Hp} {lo : Int} {n : Nat} : ItR K S0 H0 (Itr lo n) (.st (rngItems lo n)) where
  run := by
    intro S H h its ex hr e i
    cases e
    refine ⟨fun it q => ?_, fun q => by show n ≤ i; simp [rngItems] at q; omega⟩
    unfold rngItems at q
    rw [List.getElem?_map] at q
    obtain ⟨k, e1, e2⟩ := Option.map_eq_some_iff.mp q
    subst e2
    obtain ⟨hk, e3⟩ := List.getElem?_eq_some_iff.mp e1
    rw [List.getElem_range] at e3
    subst e3
    refine ⟨by show i < n; simpa using hk, fun y H' hy => ?_⟩
    obtain ⟨rfl, rfl⟩ := hy
    exact ⟨.refl _ _, hr, Df.int _⟩
/-- a new pair is laid -/
theorem pair_new {S : Sg} {H : Hp} {h : Hh} (hr : HR K H S h) {T : Addr} (hT : H T = none) {y z : V} {a b : Val} (va : VR K H S y a) (vb : VR K H S z b) :
    Ext S H S (upd H T (.tup [y, z])) ∧ HR K (upd H T (.tup [y, z])) S h ∧ ItV K (upd H T (.tup [y, z])) S (.ref T) (.two a b) :=
  have e := ext_upd (o := .tup [y, z]) hr hT
  ⟨e, hr.upd hT, T, y, z, rfl, .inl ⟨upd_same, hr.nl hT⟩, va.ext e, vb.ext e⟩
theorem itr_enumL {S0 : Sg} {H0 : Hp} {a : Addr} {xs : List V} {ds : List D} (l : LkL K H0 S0 a xs) (t : DfA K H0 S0 xs ds) : ItR K S0 H0 (Ite K a) (.st (enumFrom (ds.map .d) 0)) where
  run := by
    intro S H h its ex hr e i
    cases e
    have k := ex.lv a _ l.1 l.2
    have sq : SqL K H a xs := .inl (.inl k.1)
    refine ⟨fun it q => ?_, fun q => ⟨xs, sq, by rw [t.len]; simp [q, enumFrom_len]⟩⟩
    rw [enumFrom_at, List.getElem?_map, Option.map_map] at q
    obtain ⟨d, e1, e2⟩ := Option.map_eq_some_iff.mp q
    subst e2
    obtain ⟨x, h1, h2⟩ := dfa_at t e1
    refine ⟨⟨xs, x, sq, h1⟩, fun y H' hy => ?_⟩
    obtain ⟨T, x', rfl, hT, rfl, hy⟩ := hy
    have := hy xs sq
    rw [h1] at this; cases this
    simp only [Nat.zero_add]
    exact pair_new hr hT (Df.int _) (h2.mo ex)
theorem itr_enumLv {S0 : Sg} {H0 : Hp} {a : Addr} {n : Nat} {b : Bool} (g : S0.r[n]? = some (a, b)) : ItR K S0 H0 (Ite K a) (.lve n) where
  run := by
    intro S H h its ex hr e i
    obtain ⟨b', g'⟩ := ex.old _ _ _ g
    unfold Src.now at e
    simp only at e
    split at e
    · rename_i vs ev
      cases e
      obtain ⟨p, xs, e1, sq, r⟩ := li_ok hr (v := .ref a) (u := .loc n) ⟨a, b', g', rfl⟩ ev
      cases e1
      refine ⟨fun it q => ?_, fun q => ⟨xs, sq, by rw [paired_len r]; simp [q, enumFrom_len]⟩⟩
      rw [enumFrom_at] at q
      obtain ⟨v, e1, e2⟩ := Option.map_eq_some_iff.mp q
      subst e2
      obtain ⟨x, h1, h2⟩ := paired_at r e1
      refine ⟨⟨xs, x, sq, h1⟩, fun y H' hy => ?_⟩
      obtain ⟨T, x', rfl, hT, rfl, hy⟩ := hy
      have := hy xs sq
      rw [h1] at this; cases this
      simp only [Nat.zero_add]
      exact pair_new hr hT (Df.int _) h2
    · cases e
theorem itr_enumT {S0 : Sg} {H0 : Hp} {a : Addr} {xs : List V} {ds : List D} (l : LkT K H0 S0 a xs) (t : DfA K H0 S0 xs ds) : ItR K S0 H0 (IteT K a) (.st (enumFrom (ds.map .d) 0)) where
  run := by
    intro S H h its ex hr e i
    cases e
    have sq : SqT K H a xs := (l.mo ex).sq
    refine ⟨fun it q => ?_, fun q => ⟨xs, sq, by rw [t.len]; simp [q, enumFrom_len]⟩⟩
    rw [enumFrom_at, List.getElem?_map, Option.map_map] at q
    obtain ⟨d, e1, e2⟩ := Option.map_eq_some_iff.mp q
    subst e2
    obtain ⟨x, h1, h2⟩ := dfa_at t e1
    refine ⟨⟨xs, x, sq, h1⟩, fun y H' hy => ?_⟩
    obtain ⟨T, x', rfl, hT, rfl, hy⟩ := hy
    have := hy xs sq
    rw [h1] at this; cases this
    simp only [Nat.zero_add]
    exact pair_new hr hT (Df.int _) (h2.mo ex)
theorem itr_enumS {S0 : Sg} {H0 : Hp} {z : Str} : ItR K S0 H0 (IteS z) (.st (enumFrom (z.cps.toList.map fun c => .d (.str ⟨#[c]⟩)) 0)) where
  run := by
    intro S H h its ex hr e i
    cases e
    refine ⟨fun it q => ?_, fun q => by show z.cps.size = i; simp [q, enumFrom_len]⟩
    rw [enumFrom_at, List.getElem?_map, Option.map_map] at q
    obtain ⟨c, e1, e2⟩ := Option.map_eq_some_iff.mp q
    subst e2
    have e3 : z.cps[i]? = some c := by simpa using e1
    refine ⟨(Array.getElem?_eq_some_iff.mp e3).1, fun y H' hy => ?_⟩
    obtain ⟨T, c', rfl, hT, rfl, e4⟩ := hy
    rw [e3] at e4; cases e4
    simp only [Nat.zero_add]
    exact pair_new hr hT (Df.int _) (Df.str _)
end
end MP

/-! MPm: SI for each iterable; targets. -/
namespace MP
open PySem PySem.Spec PyProof.Rows L2

section
variable {X : Cx} {tg e o : Expr} {fa : Exp} {fs : Exps} {p pos : Pos}
theorem walk_list_at {pins : List (Addr × Obj)} {s : Shared} {σ : L2.St} {H : Hp} {a : Addr} {xs : List V} {R : L2.It → Hp → Prop} {E : Value → Shared → Prop} (I : L2.Inv X pins σ H s) (q : SqL X.K H a xs) (r : R (Itl X.K a) H) :
    wpAny (model X.prog X.w) X.A (pyIter (.ref a)) (PIE X pins σ tg R) E s := by
  obtain ⟨its, rv, pl, hz⟩ := I.list q
  refine wpAny_pyIter_list pl.isList ?_
  refine ⟨s.heap.objs.size, [s.heap.objs.size], _, _, H, rfl, I.kept (t' := s.toks) fun b o e => Heap.get?_push_of_some _ e, turn_list a _, ⟨_, Heap.get?_push_size _ rfl, rfl, rfl⟩, fun b hb => ?_, r⟩
  have e : b = s.heap.objs.size := by simpa using hb
  rw [e]
  exact I.fpOk (Nat.le_refl _) (I.hok.fresh (Nat.le_refl _))
theorem walk_tup_at {pins : List (Addr × Obj)} {s : Shared} {σ : L2.St} {H : Hp} {a : Addr} {xs : List V} {R : L2.It → Hp → Prop} {E : Value → Shared → Prop} (I : L2.Inv X pins σ H s) (q : SqT X.K H a xs) (r : R (Itt X.K a) H) :
    wpAny (model X.prog X.w) X.A (pyIter (.ref a)) (PIE X pins σ tg R) E s := by
  obtain ⟨its, rv, pl, hz⟩ := I.tuple q
  refine wpAny_pyIter_tuple (show s.heap.IsTuple a its.toArray from pl) ?_
  refine ⟨s.heap.objs.size, [s.heap.objs.size], _, _, H, rfl, I.kept (t' := s.toks) fun b o e => Heap.get?_push_of_some _ e, turn_tuple a _, ⟨_, Heap.get?_push_size _ rfl, rfl, rfl⟩, fun b hb => ?_, r⟩
  have e : b = s.heap.objs.size := by simpa using hb
  rw [e]
  exact I.fpOk (Nat.le_refl _) (I.hok.fresh (Nat.le_refl _))
theorem si_any (ha : SE X e fa) : SI X tg e (iAny fa) := by
  refine ⟨fun pins s σ H R I h => ?_⟩
  obtain ⟨S, ev, h0, src, h', sr, e0, q⟩ := h
  unfold iAny at e0
  split at e0
  · cases e0
  · rename_i u h1 e1
    split at e0
    · rename_i sc es
      cases e0
      refine thn (ha.run pins s σ H (fun x H1 => ∃ S1, Ext S H S1 H1 ∧ HR X.K H1 S1 h' ∧ VR X.K H1 S1 x u) I ⟨S, ev, h0, u, _, sr, e1, fun S1 x H1 x1 r1 v1 => ⟨S1, x1, r1, v1⟩⟩) fun v s1 ⟨x, H1, I1, r1, S1, x1, hr1, v1⟩ => ?_
      have fin : ∀ {J}, ItR X.K S1 H1 J src → R J H1 := fun t => q S1 _ H1 x1 hr1 t
      unfold srcV at es
      split at es
      · cases es
        cases v1 with
        | tup l t => cases r1; exact walk_tup_at I1 l.sq (fin (itr_tup l t))
      · cases es
        cases v1 with
        | lst l t => cases r1; exact walk_list_at I1 l.sq (fin (itr_list l t))
      · cases es
        cases v1
        obtain ⟨t, rfl⟩ := r1
        rename_i z _
        cases hz : z.cps.all (· < 128)
        · exact wpAny_pyIter_wide hz (pi_one (tk := s1.toks) I1 _ (turn_str _ z t "str_iterator" (.inr rfl)) ⟨_, Heap.get?_push_size _ rfl, rfl, rfl⟩ (fin itr_str))
        · exact wpAny_pyIter_ascii hz (pi_one (tk := s1.toks) I1 _ (turn_str _ z t "str_ascii_iterator" (.inl rfl)) ⟨_, Heap.get?_push_size _ rfl, rfl, rfl⟩ (fin itr_str))
      · split at es
        · rename_i vs ek
          cases es
          obtain ⟨a, xs, rfl, g, hx, _⟩ := loc_lst hr1 v1 ek
          cases r1
          exact walk_list_at I1 (.inl (.inl hx)) (fin (itr_live g))
        · rename_i ds ek
          cases es
          obtain ⟨a, b, g, rfl⟩ := v1
          obtain ⟨a', g2, _, dl⟩ := hr1.ob _ _ ek
          rw [g] at g2; cases g2
          cases dl with
          | lst l t => cases r1; exact walk_list_at I1 l.sq (fin (itr_list l t))
        · cases es
      · cases es
    · cases e0

/-! ### enumerate -/
theorem fp2 {pins : List (Addr × Obj)} {s : Shared} {σ : L2.St} {H : Hp} (I : L2.Inv X pins σ H s) : ∀ b ∈ [s.heap.objs.size + 1, s.heap.objs.size], FpOk X pins H b := fun b hb => by
  have e : b = s.heap.objs.size + 1 ∨ b = s.heap.objs.size := by simpa using hb
  have hle : s.heap.objs.size ≤ b := by rcases e with z | z <;> omega
  exact I.fpOk hle (I.hok.fresh hle)
theorem si_enum {elts : List Expr} {kk : Nat} {tpos : Pos} (hg : Gl X "enumerate") (hm : X.mg "enumerate" = none) (ha : SE X e fa) (hs : nostar e = true) : SI X (.Tuple elts kk tpos) (.Call (.Name "enumerate" p) [e] [] pos) (iEnu fa) := by
  refine ⟨fun pins s σ H R I h => ?_⟩
  obtain ⟨S, ev, h0, src, h', sr, e0, q⟩ := h
  unfold iEnu at e0
  split at e0
  · cases e0
  · rename_i u h1 e1
    split at e0
    · rename_i sc es
      cases e0
      have hA : PA X [e] (tCons (tE X.K fa) tNil) := pa_cons ha pa_nil (star_cons hs)
      refine Call_ (ld_blt I hg hm boot_enumerate (PyProof.Rows.callWith_type1 (thn (hA.run pos pins s σ H (fun xs H1 => ∃ x S1, xs = [x] ∧ Ext S H S1 H1 ∧ HR X.K H1 S1 h' ∧ VR X.K H1 S1 x u) I ⟨S, ev, h0, u, _, sr, e1, fun S1 x H1 x1 r1 v1 => ⟨x, S1, rfl, x1, r1, v1⟩⟩) fun us s1 ⟨vs, H1, I1, rr, x, S1, ex, x1, hr1, v1⟩ => ?_) (star_cons hs) rfl))
      subst ex
      obtain ⟨v, rfl, r1⟩ := vals1 rr
      have fin : ∀ {J}, ItR X.K S1 H1 J src → R J H1 := fun t => q S1 _ H1 x1 hr1 t
      have golist : ∀ {a : Addr} {xs : List V}, v = .ref a → SqL X.K H1 a xs → R (Ite X.K a) H1 → wpAny (model X.prog X.w) X.A (call (.type "enumerate") [v]) (fun v s1 => wpAny (model X.prog X.w) X.A (pyIter v) (PIE X pins σ (.Tuple elts kk tpos) R) X.xe s1) X.xe s1 := by
        intro a xs ev sq r
        subst ev
        obtain ⟨its, rv, pl, hz⟩ := I1.list sq
        refine call_enumerate_list pl.isList fun h2 he hit _ hk => wpAny_pyIter_enum he ?_
        exact ⟨s1.heap.objs.size + 1, [s1.heap.objs.size + 1, s1.heap.objs.size], _, _, H1, rfl, I1.kept (t' := s1.toks) hk, turn_enum a (s1.heap.objs.size + 1) s1.heap.objs.size, ⟨⟨.none, he⟩, hit, Nat.succ_ne_self _⟩, fp2 I1, r⟩
      unfold srcE at es
      split at es
      · cases es
        cases v1 with
        | @tup a xs _ l t =>
          cases r1
          obtain ⟨its, rv, pl, hz⟩ := I1.tuple l.sq
          have hlt : a < s1.heap.objs.size := by obtain ⟨o, g, _⟩ := pl; exact Heap.lt_size g
          refine enum1 (begins_tuple a its.toArray) pl fun h2 he hit hk => wpAny_pyIter_enum he ?_
          exact ⟨s1.heap.objs.size + 1, [s1.heap.objs.size + 1, s1.heap.objs.size], _, _, H1, rfl, I1.kept (t' := s1.toks) hk, turn_enumT a (s1.heap.objs.size + 1) s1.heap.objs.size,
            ⟨⟨.none, he⟩, ⟨_, hit, rfl, rfl⟩, Nat.succ_ne_self _, Nat.ne_of_lt hlt, Ne.symm (Nat.ne_of_lt (Nat.lt_succ_of_lt hlt))⟩, fp2 I1, fin (itr_enumT l t)⟩
      · cases es
        cases v1 with
        | lst l t => cases r1; exact golist rfl l.sq (fin (itr_enumL l t))
      · cases es
        cases v1
        obtain ⟨t, rfl⟩ := r1
        rename_i z _
        refine enum1 (begins_text z t) trivial fun h2 he hit hk => wpAny_pyIter_enum he ?_
        exact ⟨s1.heap.objs.size + 1, [s1.heap.objs.size + 1, s1.heap.objs.size], _, _, H1, rfl, I1.kept (t' := s1.toks) hk, turn_enumS z t (s1.heap.objs.size + 1) s1.heap.objs.size,
          ⟨⟨.none, he⟩, ⟨_, hit, rfl, rfl⟩, Nat.succ_ne_self _⟩, fp2 I1, fin itr_enumS⟩
      · split at es
        · rename_i vs ek
          cases es
          obtain ⟨a, xs, rfl, g, hx, _⟩ := loc_lst hr1 v1 ek
          cases r1
          exact golist rfl (.inl (.inl hx)) (fin (itr_enumLv g))
        · rename_i ds ek
          cases es
          obtain ⟨a, b, g, rfl⟩ := v1
          obtain ⟨a', g2, _, dl⟩ := hr1.ob _ _ ek
          rw [g] at g2; cases g2
          cases dl with
          | lst l t => cases r1; exact golist rfl l.sq (fin (itr_enumL l t))
        · cases es
      · cases es
    · cases e0

/-! ### range -/
theorem sm62_iff {i : Int} (h : sm62 i = true) : -(2 ^ 62) ≤ i ∧ i < 2 ^ 62 := by
  unfold sm62 at h
  rw [Bool.and_eq_true, decide_eq_true_eq, decide_eq_true_eq] at h
  exact h
theorem si_rg1 (hg : Gl X "range") (hm : X.mg "range" = none) (ha : SA X [e] fs) (hs : nostar e = true) : SI X tg (.Call (.Name "range" p) [e] [] pos) (iRg fs) := by
  refine ⟨fun pins s σ H R I h => (pi_range1 hg hm ha.1 (star_cons hs)).run pins s σ H R I ?_⟩
  obtain ⟨S, ev, h0, src, h', sr, e0, q⟩ := h
  unfold iRg at e0
  split at e0
  · rename_i j h1 e1
    split at e0
    · rename_i hb
      cases e0
      refine ⟨S, ev, h0, _, _, sr, e1, fun S1 xs H1 x1 r1 v1 => ?_⟩
      obtain ⟨x, rfl, vx⟩ := vr1 v1
      cases vx
      have := sm62_iff hb
      exact ⟨j, rfl, this.1, this.2, q S1 _ H1 x1 r1 itr_rng⟩
    · cases e0
  · rename_i i j h1 e1
    have := ha.2 _ _ _ _ e1
    simp at this
  · cases e0
theorem si_rg2 {e2 : Expr} (hg : Gl X "range") (hm : X.mg "range" = none) (ha : SA X [e, e2] fs) (hs : nostar e = true) (hs2 : nostar e2 = true) : SI X tg (.Call (.Name "range" p) [e, e2] [] pos) (iRg fs) := by
  refine ⟨fun pins s σ H R I h => (pi_range2 hg hm ha.1 (by rw [star_cons hs, star_cons hs2]; rfl) (by rw [star_cons hs2]; rfl)).run pins s σ H R I ?_⟩
  obtain ⟨S, ev, h0, src, h', sr, e0, q⟩ := h
  unfold iRg at e0
  split at e0
  · rename_i j h1 e1
    have := ha.2 _ _ _ _ e1
    simp at this
  · rename_i i j h1 e1
    split at e0
    · rename_i hb
      cases e0
      rw [Bool.and_eq_true] at hb
      refine ⟨S, ev, h0, _, _, sr, e1, fun S1 xs H1 x1 r1 v1 => ?_⟩
      obtain ⟨x, y, rfl, vx, vy⟩ := vr2 v1
      cases vx; cases vy
      have b1 := sm62_iff hb.1
      have b2 := sm62_iff hb.2
      exact ⟨i, j, rfl, ⟨b1.1, b1.2, b2.1, b2.2⟩, q S1 _ H1 x1 r1 itr_rng⟩
    · cases e0
  · cases e0

/-! ### targets -/
inductive Tgt where
  | nm (i : Nat) | tp (ts : List Tgt)
mutual
def asgV : Tgt → Val → Ev → Option Ev
  | .nm i, v, e => some (e.set i (some v))
  | .tp ts, .d (.tuple ds), e => asgL ts ds e
  | .tp ts, .d (.list ds), e => asgL ts ds e
  | _, _, _ => none
def asgL : List Tgt → List D → Ev → Option Ev
  | [], [], e => some e
  | t :: ts, x :: xs, e => match asgV t (.d x) e with
    | none => none
    | some e1 => asgL ts xs e1
  | _, _, _ => none
end
def asgP : Tgt → Val → Val → Ev → Option Ev
  | .tp [t1, t2], a, b, e => match asgV t1 a e with
    | none => none
    | some e1 => asgV t2 b e1
  | .nm i, .d x, .d y, e => some (e.set i (some (.d (.tuple [x, y]))))
  | _, _, _, _ => none
def asgI (t : Tgt) : Itm → Ev → Option Ev
  | .one v, e => asgV t v e
  | .two a b, e => asgP t a b e
mutual
def Tgt.ixs : Tgt → List Nat
  | .nm i => [i]
  | .tp ts => Tgt.ixL ts
def Tgt.ixL : List Tgt → List Nat
  | [] => []
  | t :: ts => t.ixs ++ Tgt.ixL ts
end
/-- two states that differ at these places at most -/
def Same (σ σ' : L2.St) (vs : List Nat) : Prop := σ'.length = σ.length ∧ ∀ i, i ∉ vs → σ'[i]? = σ[i]?
theorem Same.refl (σ : L2.St) (vs : List Nat) : Same σ σ vs := ⟨rfl, fun _ _ => rfl⟩
theorem Same.trans {σ σ1 σ2 : L2.St} {vs ws us : List Nat} (a : Same σ σ1 vs) (b : Same σ1 σ2 ws) (h1 : ∀ i ∈ vs, i ∈ us) (h2 : ∀ i ∈ ws, i ∈ us) : Same σ σ2 us :=
  ⟨b.1.trans a.1, fun i hi => (b.2 i fun z => hi (h2 i z)).trans (a.2 i fun z => hi (h1 i z))⟩
theorem Same.set (σ : L2.St) (i : Nat) (x : Option V) : Same σ (σ.set i x) [i] := ⟨by simp, fun j hj => by
  rw [List.getElem?_set_ne]; intro e; exact hj (by simp [e])⟩
def tG (K : PySem.W.Frag) (t : Tgt) : TG := fun v σ H Q => ∃ S e h it e', SR K S σ H e h ∧ ItV K H S v it ∧ asgI t it e = some e' ∧ ∀ σ', SR K S σ' H e' h → Same σ σ' t.ixs → Q σ' H
def SG (X : Cx) (e : Expr) (t : Tgt) : Prop := PG X e (tG X.K t)
/-- by a value -/
def tGv (K : PySem.W.Frag) (t : Tgt) : TG := fun v σ H Q => ∃ S e h u e', SR K S σ H e h ∧ VR K H S v u ∧ asgV t u e = some e' ∧ ∀ σ', SR K S σ' H e' h → Same σ σ' t.ixs → Q σ' H
def tGL (K : PySem.W.Frag) (ts : List Tgt) : TGs := fun vs σ H Q => ∃ S e h ds e', SR K S σ H e h ∧ DfA K H S vs ds ∧ asgL ts ds e = some e' ∧ ∀ σ', SR K S σ' H e' h → Same σ σ' (Tgt.ixL ts) → Q σ' H
theorem SR.set {K : PySem.W.Frag} {S : Sg} {σ : L2.St} {H : Hp} {e : Ev} {h : Hh} (r : SR K S σ H e h) {x : V} {v : Val} (i : Nat) (vr : VR K H S x v) : SR K S (σ.set i (some x)) H (e.set i (some v)) h := by
  refine ⟨r.hr, fun j w q => ?_, by simpa using r.el⟩
  by_cases hj : i = j
  · subst hj
    have hlt : i < e.length := by
      have := (List.getElem?_eq_some_iff.mp q).1
      simpa using this
    rw [List.getElem?_set_self hlt] at q
    cases q
    exact ⟨x, List.getElem?_set_self (Nat.lt_of_lt_of_le hlt r.el), vr⟩
  · rw [List.getElem?_set_ne hj] at q
    obtain ⟨y, h1, h2⟩ := r.ev j w q
    exact ⟨y, by rw [List.getElem?_set_ne hj]; exact h1, h2⟩
structure SGv (X : Cx) (e : Expr) (t : Tgt) : Prop where
  v : PG X e (tGv X.K t)
structure SGL (X : Cx) (es : List Expr) (ts : List Tgt) : Prop where
  v : PGs X es (tGL X.K ts)
  ln : es.length = ts.length
theorem PG.weak {X : Cx} {e : Expr} {t t' : TG} (h : PG X e t) (w : ∀ v σ H Q, t' v σ H Q → t v σ H Q) : PG X e t' := ⟨fun p s σ H v u Q I r q => h.run p s σ H v u Q I r (w _ _ _ _ q)⟩
theorem sgv_nm {i : Nat} {x : Str} (hN : X.N.Nodup) (hi : X.N[i]? = some x) (hx : Loc X.env.scope x) (hf : X.fn x = true ∨ X.env.scope.names.lookup x = some .local) : SGv X (.Name x pos) (.nm i) := by
  refine ⟨PG.weak (pg_name hN hi hx hf) ?_⟩
  rintro v σ H Q ⟨S, e, h, u, e', sr, vr, ea, q⟩
  cases ea
  exact q _ (sr.set i vr) (.set _ _ _)
theorem sgl_nil : SGL X [] [] := ⟨⟨fun pins s σ H vs us Q I r h => by
  obtain ⟨S, e, h0, ds, e', sr, dr, ea, q⟩ := h
  cases ds with
  | nil => cases dr; cases ea; exact pgs_nil.run pins s σ H [] us Q I r ⟨rfl, q _ sr (.refl _ _)⟩
  | cons d ds => cases ea⟩, rfl⟩
theorem each_cons {e : Expr} {es : List Expr} {env : Env} (h : nostar e = true) : assignEach (e :: es) env = (false, assign e env) :: assignEach es env := by
  cases e <;> first | rfl | cases h
theorem sgl_cons {es : List Expr} {t : Tgt} {ts : List Tgt} (h1 : SGv X e t) (h2 : SGL X es ts) (hs : nostar e = true) : SGL X (e :: es) (t :: ts) := ⟨⟨fun pins s σ H vs us Q I r h => by
  obtain ⟨S, ev, h0, ds, e', sr, dr, ea, q⟩ := h
  cases ds with
  | nil => cases ea
  | cons d ds =>
    cases dr with
    | cons a b =>
      unfold asgL at ea
      split at ea
      · cases ea
      · rename_i e1 ee
        exact (pgs_cons h1.v h2.v (by rw [each_cons hs]; rfl)).run pins s σ H _ us Q I r ⟨_, _, rfl, S, ev, h0, .d d, e1, sr, a, ee, fun σ1 sr1 w1 => ⟨S, e1, h0, ds, e', sr1, b, ea, fun σ2 sr2 w2 => q σ2 sr2 (w1.trans w2 (fun _ z => List.mem_append_left _ z) fun _ z => List.mem_append_right _ z)⟩⟩⟩, by simp [h2.ln]⟩
theorem each_len {env : Env} : ∀ {es : List Expr}, es.all nostar = true → (assignEach es env).length = es.length ∧ (assignEach es env).findIdx? (·.1) = none
  | [], _ => ⟨rfl, rfl⟩
  | e :: es, h => by
    simp only [List.all_cons, Bool.and_eq_true] at h
    rw [each_cons h.1]
    obtain ⟨h1, h2⟩ := each_len (env := env) h.2
    refine ⟨by simp [h1], ?_⟩
    rw [List.findIdx?_cons, h2]; rfl
theorem asgL_len : ∀ {ts : List Tgt} {ds : List D} {e e' : Ev}, asgL ts ds e = some e' → ds.length = ts.length
  | [], [], _, _, _ => rfl
  | t :: ts, x :: xs, e, e', h => by
    unfold asgL at h
    split at h
    · cases h
    · simp [asgL_len h]
  | [], _ :: _, _, _, h => by cases h
  | _ :: _, [], _, _, h => by cases h
theorem sgv_tp {es : List Expr} {ts : List Tgt} {k : Nat} (hc : X.calm = true) (h : SGL X es ts) (hs : es.all nostar = true) : SGv X (.Tuple es k pos) (.tp ts) := ⟨⟨fun pins s σ H v u Q I r hw => by
  obtain ⟨S, e, h0, w, e', sr, vr, ea, q⟩ := hw
  obtain ⟨l1, l2⟩ := each_len (env := X.env) hs
  unfold asgV at ea
  split at ea
  · rename_i ht; cases ht
  · rename_i ht
    cases ht
    cases vr with
    | tup l t => exact (pg_tup hc h.v l1 l2).run pins s σ H _ u Q I r ⟨_, _, rfl, l.sq, by rw [t.len, asgL_len ea, h.ln], S, _, h0, _, e', sr, t, ea, q⟩
  · rename_i ht
    cases ht
    cases vr with
    | lst l t => exact (pg_lst hc h.v l1 l2).run pins s σ H _ u Q I r ⟨_, _, rfl, l.sq, by rw [t.len, asgL_len ea, h.ln], S, _, h0, _, e', sr, t, ea, q⟩
  · cases ea⟩⟩
theorem sg_nm {i : Nat} {x : Str} (hN : X.N.Nodup) (hi : X.N[i]? = some x) (hx : Loc X.env.scope x) (hf : X.fn x = true ∨ X.env.scope.names.lookup x = some .local) : SG X (.Name x pos) (.nm i) := by
  refine PG.weak (pg_name hN hi hx hf) ?_
  rintro v σ H Q ⟨S, e, h, w, e', sr, vr, ea, q⟩
  cases w with
  | one u => cases ea; exact q _ (sr.set i vr) (.set _ _ _)
  | two u1 u2 =>
    cases u1 with
    | d x =>
      cases u2 with
      | d y =>
        cases ea
        obtain ⟨p, y1, z1, rfl, l, a, b⟩ := vr
        have hv : VR X.K H S (.ref p) (.d (.tuple [x, y])) := Df.tup l (.cons a (.cons b .nil))
        exact q _ (sr.set i hv) (.set _ _ _)
      | _ => cases ea
    | _ => cases ea
theorem sg_tp {es : List Expr} {ts : List Tgt} {k : Nat} (hc : X.calm = true) (h : SGL X es ts) (h2 : ∀ t1 t2, ts = [t1, t2] → ∃ e1 e2, es = [e1, e2] ∧ SGv X e1 t1 ∧ SGv X e2 t2) (hs : es.all nostar = true) : SG X (.Tuple es k pos) (.tp ts) := ⟨fun pins s σ H v u Q I r hw => by
  obtain ⟨S, e, h0, w, e', sr, vr, ea, q⟩ := hw
  cases w with
  | one v => exact (sgv_tp hc h hs).v.run pins s σ H _ u Q I r ⟨S, e, h0, _, e', sr, vr, ea, q⟩
  | two a b =>
    match ts, h2, ea with
    | [], _, ea => cases ea
    | [t1], _, ea => cases ea
    | t1 :: t2 :: t3 :: tr, _, ea => cases ea
    | [t1, t2], h2, ea =>
      obtain ⟨e1, e2, rfl, g1, g2⟩ := h2 t1 t2 rfl
      simp only [List.all_cons, Bool.and_eq_true, List.all_nil] at hs
      change (match asgV t1 a e with
        | none => none
        | some e1 => asgV t2 b e1) = some e' at ea
      split at ea
      · cases ea
      · rename_i ev1 ee
        obtain ⟨p, y, z, rfl, l, va, vb⟩ := vr
        refine (pg_tup (n := 2) hc (pgs_cons g1.v (pgs_cons g2.v pgs_nil (by rw [each_cons hs.2.1]; rfl)) (by rw [each_cons hs.1]; rfl)) (by rw [each_cons hs.1, each_cons hs.2.1]; rfl) (by rw [each_cons hs.1, each_cons hs.2.1]; rfl)).run pins s σ H _ u Q I r ?_
        exact ⟨p, _, rfl, l.sq, rfl, y, _, rfl, S, _, h0, a, ev1, sr, va, ee, fun σ1 sr1 w1 => ⟨z, _, rfl, S, ev1, h0, b, e', sr1, vb, ea, fun σ2 sr2 w2 => ⟨rfl, q _ sr2 (w1.trans w2 (fun _ z => List.mem_append_left _ z) fun i z => List.mem_append_right t1.ixs (List.mem_append_left _ z))⟩⟩⟩⟩
end
end MP

/-! MPn: list comprehensions. -/
namespace MP
open PySem PySem.Spec PyProof.Rows L2

def wipeE (e : Ev) : List Nat → Ev
  | [] => e
  | v :: vs => (wipeE e vs).set v none
abbrev CB := Itm → List Val → Hh → Option (List Val × Hh)
def goN (src : Src) (B : CB) : Nat → Nat → List Val → Hh → Option (List Val × Hh)
  | 0, i, acc, h => match src.now h with
    | none => none
    | some its => if its.length = i then some (acc, h) else none
  | k + 1, i, acc, h => match src.now h with
    | none => none
    | some its => match its[i]? with
      | none => none
      | some it => match B it acc h with
        | none => none
        | some (acc1, h1) => goN src B k (i + 1) acc1 h1
def goAll (src : Src) (B : CB) (acc : List Val) (h : Hh) : Option (List Val × Hh) := match src.now h with
  | none => none
  | some its => goN src B its.length 0 acc h
def lcB (tg : Tgt) (tst : Tst) (elt : Exp) (eb : Ev) : CB := fun it acc h => match asgI tg it eb with
  | none => none
  | some e1 => match tst e1 h with
    | none => none
    | some (false, h1) => some (acc, h1)
    | some (true, h1) => match elt e1 h1 with
      | none => none
      | some (v, h2) => if acc.length < sizeLine then some (acc ++ [v], h2) else none
def lcB2 (tg : Tgt) (tst : Tst) (src1 : ISrc) (own1 : List Nat) (tg1 : Tgt) (tst1 : Tst) (elt : Exp) (eb : Ev) : CB := fun it acc h => match asgI tg it eb with
  | none => none
  | some e1 => match tst e1 h with
    | none => none
    | some (false, h1) => some (acc, h1)
    | some (true, h1) => match src1 e1 h1 with
      | none => none
      | some (s1, h2) => goAll s1 (lcB tg1 tst1 elt (wipeE e1 own1)) acc h2
def eLc (m : Bool) (src : ISrc) (own : List Nat) (tg : Tgt) (tst : Tst) (elt : Exp) : Exp := fun e h => match src e h with
  | none => none
  | some (s, h1) => match goAll s (lcB tg tst elt (wipeE e own)) [] h1 with
    | none => none
    | some (acc, h2) => mkL m acc h2
def eLc2 (m : Bool) (src : ISrc) (own : List Nat) (tg : Tgt) (tst : Tst) (src1 : ISrc) (own1 : List Nat) (tg1 : Tgt) (tst1 : Tst) (elt : Exp) : Exp := fun e h => match src e h with
  | none => none
  | some (s, h1) => match goAll s (lcB2 tg tst src1 own1 tg1 tst1 elt (wipeE e own)) [] h1 with
    | none => none
    | some (acc, h2) => mkL m acc h2

section
variable {K : PySem.W.Frag}
theorem SR.wipe {S : Sg} {H : Hp} {e : Ev} {h : Hh} {σ : L2.St} (r : SR K S σ H e h) : ∀ vs : List Nat, SR K S (L2.wipe σ vs) H (wipeE e vs) h
  | [] => r
  | v :: vs => by
    have w := SR.wipe r vs
    refine ⟨w.hr, fun j u q => ?_, by show ((wipeE e vs).set v none).length ≤ ((L2.wipe σ vs).set v none).length; rw [List.length_set, List.length_set]; exact w.el⟩
    change ((wipeE e vs).set v none)[j]? = _ at q
    by_cases hj : v = j
    · subst hj
      by_cases hv : v < (wipeE e vs).length
      · rw [List.getElem?_set_self hv] at q; cases q
      · rw [List.getElem?_eq_none (by simpa using hv)] at q; cases q
    · rw [List.getElem?_set_ne hj] at q
      obtain ⟨x, h1, h2⟩ := w.ev j u q
      refine ⟨x, ?_, h2⟩
      show ((L2.wipe σ vs).set v none)[j]? = _
      rw [List.getElem?_set_ne hj]; exact h1
theorem wipe_in {σ : L2.St} {i : Nat} : ∀ {vs : List Nat}, i ∈ vs → i < σ.length → (L2.wipe σ vs)[i]? = some none
  | v :: vs, h, hl => by
    show ((L2.wipe σ vs).set v none)[i]? = _
    by_cases hi : v = i
    · subst hi
      rw [List.getElem?_set_self (by rw [wipe_length]; exact hl)]
    · rw [List.getElem?_set_ne hi]
      exact wipe_in ((List.mem_cons.mp h).resolve_left fun z => hi z.symm) hl
theorem wipe_same {σ σ' : L2.St} {vs ws : List Nat} (s : Same σ σ' ws) (h : ∀ i ∈ ws, i ∈ vs) : L2.wipe σ' vs = L2.wipe σ vs := by
  apply List.ext_getElem?
  intro i
  by_cases hi : i ∈ vs
  · by_cases hl : i < σ.length
    · rw [wipe_in hi hl, wipe_in hi (by rw [s.1]; exact hl)]
    · rw [List.getElem?_eq_none (by rw [wipe_length, s.1]; omega), List.getElem?_eq_none (by rw [wipe_length]; omega)]
  · rw [wipe_out hi, wipe_out hi, s.2 i fun z => hi (h i z)]
theorem wipe_twice {σ : L2.St} {vs : List Nat} : L2.wipe (L2.wipe σ vs) vs = L2.wipe σ vs :=
  wipe_same (ws := vs) ⟨wipe_length σ vs, fun i hi => wipe_out hi⟩ fun _ z => z

/-- the heap without the new list -/
def erase (H : Hp) (D : Addr) : Hp := fun a => if a = D then none else H a
theorem erase_ne {H : Hp} {D a : Addr} (h : a ≠ D) : erase H D a = H a := if_neg h
theorem erase_self {H : Hp} {D : Addr} : erase H D D = none := if_pos rfl
theorem upd_erase {H : Hp} {D : Addr} {o : HO} (h : H D = some o) : upd (erase H D) D o = H := by
  funext a
  by_cases ha : a = D
  · subst ha; rw [upd_same]; exact h.symm
  · rw [upd_ne ha, erase_ne ha]
/-- while the new list D grows -/
structure CI (K : PySem.W.Frag) (S1 : Sg) (H1 : Hp) (D : Addr) (S2 : Sg) (H : Hp) (h : Hh) (acc : List Val) : Prop where
  F : S2.F = fun a => S1.F a ∨ a = D
  ex : Ext S1 H1 ⟨S1.F, S2.r⟩ H
  hr : HR K H S2 h
  ls : ∃ xs, H D = some (.lst xs) ∧ VRs K H S2 xs acc
variable {S1 S2 S3 : Sg} {H1 H2 H3 H : Hp} {D : Addr} {h h' : Hh} {acc : List Val}
theorem CI.liveD (c : CI K S1 H1 D S2 H h acc) : S2.live D := .inl (by rw [c.F]; exact .inr rfl)
theorem CI.step (c : CI K S1 H1 D S2 H2 h acc) (e : Ext S2 H2 S3 H3) (hr : HR K H3 S3 h') : CI K S1 H1 D S3 H3 h' acc := by
  obtain ⟨xs, hx, vs⟩ := c.ls
  refine ⟨e.F.trans c.F, ⟨rfl, fun n a b q => ?_, fun a o q n => ?_⟩, hr, xs, (e.keep D _ hx (c.hr.ff D (by rw [c.F]; exact .inr rfl)).2).1, VRs.ext vs e⟩
  · obtain ⟨b', q'⟩ := c.ex.old n a b q
    exact e.old n a b' q'
  · obtain ⟨q1, n1⟩ := c.ex.keep a o q n
    exact e.keep a o q1 n1
theorem CI.start (hr : HR K H1 S1 h) (hD : H1 D = none) : CI K S1 H1 D ⟨fun a => S1.F a ∨ a = D, S1.r⟩ (upd H1 D (.lst [])) h [] ∧ Mo S1 H1 ⟨fun a => S1.F a ∨ a = D, S1.r⟩ (upd H1 D (.lst [])) := by
  have ne : ∀ {a : Addr}, H1 a ≠ none → a ≠ D := fun {a} z e => z (e ▸ hD)
  have mo : Mo S1 H1 ⟨fun a => S1.F a ∨ a = D, S1.r⟩ (upd H1 D (.lst [])) := by
    refine ⟨fun a o q n => ?_, fun n a b q => ⟨b, q⟩⟩
    have nd : a ≠ D := ne (by rw [q]; exact fun z => by cases z)
    refine ⟨by rw [upd_ne nd]; exact q, fun z => ?_⟩
    rcases z with (z | z) | z
    · exact n (.inl z)
    · exact nd z
    · exact n (.inr z)
  refine ⟨⟨rfl, ext_upd hr hD, ⟨hr.len, hr.nd, fun a z => ?_, fun a z => upd_nn (hr.lv a z), fun n o q => ?_⟩, [], upd_same, .nil⟩, mo⟩
  · rcases z with z | z
    · exact ⟨upd_nn (hr.ff a z).1, (hr.ff a z).2⟩
    · subst z
      exact ⟨by rw [upd_same]; exact fun z => (by cases z), fun z => hr.lv _ z hD⟩
  · have := hr.ob n o q
    cases o with
    | lst vs => obtain ⟨a, xs, h1, h2, h3⟩ := this; exact ⟨a, xs, h1, by rw [upd_ne (ne (hr.lv a (List.mem_of_getElem? h1)))]; exact h2, VRs.mo h3 mo⟩
    | frz x => obtain ⟨a, h1, h0, h2⟩ := this; exact ⟨a, h1, ⟨upd_nn h0.1, h0.2⟩, h2.mo mo⟩
    | dct kvs => exact this
theorem CI.push (c : CI K S1 H1 D S2 H h acc) (hD : H1 D = none) {y : V} {v : Val} (vy : VR K H S2 y v) :
    ∃ xs, H D = some (.lst xs) ∧ xs.length = acc.length ∧ CI K S1 H1 D S2 (upd H D (.lst (xs ++ [y]))) h (acc ++ [v]) ∧ Mo S2 H S2 (upd H D (.lst (xs ++ [y]))) := by
  obtain ⟨xs, hx, vs⟩ := c.ls
  have fD : S2.F D := by rw [c.F]; exact .inr rfl
  have mo : Mo S2 H S2 (upd H D (.lst (xs ++ [y]))) := ⟨fun a o q n => ⟨by rw [upd_ne (fun (z : a = D) => n (.inl (by rw [z]; exact fD)))]; exact q, n⟩, fun n a b q => ⟨b, q⟩⟩
  have ne : ∀ {a : Addr}, (a, true) ∈ S2.r → a ≠ D := fun {a} z e => (c.hr.ff D fD).2 (e ▸ z)
  refine ⟨xs, hx, paired_len vs, ⟨c.F, ⟨rfl, c.ex.old, fun a o q n => ?_⟩, ⟨c.hr.len, c.hr.nd, fun a z => ⟨upd_nn (c.hr.ff a z).1, (c.hr.ff a z).2⟩, fun a z => upd_nn (c.hr.lv a z), fun n o q => ?_⟩, xs ++ [y], upd_same, ?_⟩, mo⟩
  · obtain ⟨q1, n1⟩ := c.ex.keep a o q n
    exact ⟨by rw [upd_ne (ne_of_none q hD)]; exact q1, n1⟩
  · have := c.hr.ob n o q
    cases o with
    | lst vs => obtain ⟨a, zs, h1, h2, h3⟩ := this; exact ⟨a, zs, h1, by rw [upd_ne (ne (List.mem_of_getElem? h1))]; exact h2, VRs.mo h3 mo⟩
    | frz x => obtain ⟨a, h1, h0, h2⟩ := this; exact ⟨a, h1, ⟨upd_nn h0.1, h0.2⟩, h2.mo mo⟩
    | dct kvs => exact this
  · exact Paired.snoc (VRs.mo vs mo) (VR.mo vy mo)
theorem CI.fin {Q : VK} {m : Bool} (c : CI K S1 H1 D S2 H h acc) (hr1 : HR K H1 S1 h') (hD : H1 D = none) {v : Val} {h2 : Hh} (e : mkL m acc h = some (v, h2))
    (q : ∀ S' x H', Ext S1 H1 S' H' → HR K H' S' h2 → VR K H' S' x v → Q x H') : Q (.ref D) H := by
  obtain ⟨xs, hx, vs⟩ := c.ls
  have fD : S2.F D := by rw [c.F]; exact .inr rfl
  have mo : Mo S2 H ⟨S1.F, S2.r⟩ (erase H D) := ⟨fun a o q n => ⟨by rw [erase_ne (fun (z : a = D) => n (.inl (by rw [z]; exact fD)))]; exact q, fun z => n (z.elim (fun z => .inl (by rw [c.F]; exact .inl z)) .inr)⟩, fun n a b q => ⟨b, q⟩⟩
  have ne : ∀ {a : Addr}, (a, true) ∈ S2.r → a ≠ D := fun {a} z e => (c.hr.ff D fD).2 (e ▸ z)
  have hr2 : HR K (erase H D) ⟨S1.F, S2.r⟩ h := by
    refine ⟨c.hr.len, c.hr.nd, fun a z => ⟨?_, (c.hr.ff a (by rw [c.F]; exact .inl z)).2⟩, fun a z => ?_, fun n o q => ?_⟩
    · rw [erase_ne (fun (e : a = D) => (hr1.ff a z).1 (by rw [e]; exact hD))]
      exact (c.hr.ff a (by rw [c.F]; exact .inl z)).1
    · rw [erase_ne (ne z)]; exact c.hr.lv a z
    · have := c.hr.ob n o q
      cases o with
      | lst vs => obtain ⟨a, zs, h1, h2, h3⟩ := this; exact ⟨a, zs, h1, by rw [erase_ne (ne (List.mem_of_getElem? h1))]; exact h2, VRs.mo h3 mo⟩
      | frz x =>
        obtain ⟨a, h1, h0, h2⟩ := this
        obtain ⟨h0, ds, rfl⟩ := h0
        have h2' := h2.mo mo
        refine ⟨a, h1, ⟨?_, ds, rfl⟩, h2'⟩
        cases h2' with
        | lst l _ => rw [l.1]; exact fun z => by cases z
      | dct kvs => exact this
  have ex2 : Ext S1 H1 ⟨S1.F, S2.r⟩ (erase H D) := ⟨rfl, c.ex.old, fun a o q n => by
    obtain ⟨q1, n1⟩ := c.ex.keep a o q n
    exact ⟨by rw [erase_ne (ne_of_none q hD)]; exact q1, n1⟩⟩
  have := mkL_ok hr2 (VRs.mo vs mo) e (fun S' x H' e' a b => q S' x H' (ex2.trans e') a b) D erase_self
  rwa [upd_erase hx] at this

/-- the loop of a comprehension -/
theorem go_ok {src : Src} {B : CB} {J : L2.It} {S0 : Sg} {H0 : Hp} (it : ItR K S0 H0 J src) {step : V → Hp → (Hp → Prop) → Prop} {Fin : Hp → Prop} {accF : List Val} {hF : Hh}
    (hstep : ∀ S2 H2 h2 it acc acc1 h3 x (Nx : Hp → Prop), Mo S0 H0 S2 H2 → CI K S1 H1 D S2 H2 h2 acc → ItV K H2 S2 x it → B it acc h2 = some (acc1, h3) →
      (∀ S3 H3, Mo S0 H0 S3 H3 → CI K S1 H1 D S3 H3 h3 acc1 → Nx H3) → step x H2 Nx)
    (hfin : ∀ S2 H2, Mo S0 H0 S2 H2 → CI K S1 H1 D S2 H2 hF accF → Fin H2)
    {k i : Nat} (mo : Mo S0 H0 S2 H2) (c : CI K S1 H1 D S2 H2 h acc) (e : goN src B k i acc h = some (accF, hF)) :
    ∃ W : Nat → Nat → Hp → Prop, (∃ m, W i m H2) ∧ ∀ i m H, W i m H →
      (J.stop i H ∧ Fin H) ∨ (J.go i H ∧ ∃ Nx : Hp → Prop, (∀ H', Nx H' → ∃ m', m' < m ∧ W (i + 1) m' H') ∧ ∀ x H', J.yld i H x H' → step x H' Nx) := by
  refine ⟨fun i m H => ∃ S2 h acc, Mo S0 H0 S2 H ∧ CI K S1 H1 D S2 H h acc ∧ goN src B m i acc h = some (accF, hF), ⟨k, S2, h, acc, mo, c, e⟩, ?_⟩
  rintro i m H ⟨S2, h, acc, mo, c, e⟩
  cases m with
  | zero =>
    unfold goN at e
    split at e
    · cases e
    · rename_i its en
      split at e
      · rename_i hl
        cases e
        exact .inl ⟨((it.run S2 H _ its mo c.hr en i).2 hl.symm), hfin _ _ mo c⟩
      · cases e
  | succ m =>
    unfold goN at e
    split at e
    · cases e
    · rename_i its en
      split at e
      · cases e
      · rename_i x0 ex
        split at e
        · cases e
        · rename_i acc1 h1 eb
          obtain ⟨g, y⟩ := (it.run S2 H h its mo c.hr en i).1 x0 ex
          refine .inr ⟨g, fun H' => ∃ S3, Mo S0 H0 S3 H' ∧ CI K S1 H1 D S3 H' h1 acc1, fun H' ⟨S3, m3, c3⟩ => ⟨m, Nat.lt_succ_self _, S3, h1, acc1, m3, c3, e⟩, fun x H' hy => ?_⟩
          obtain ⟨e1, r1, v1⟩ := y x H' hy
          exact hstep S2 H' h x0 acc acc1 h1 x _ (mo.trans e1.mo) (c.step e1 r1) v1 eb fun S3 H3 m3 c3 => ⟨S3, m3, c3⟩
theorem lc_read {m : Bool} {src : ISrc} {vs : List Nat} {tg : Tgt} {tst : Tst} {elt : Exp} (htg : ∀ i ∈ tg.ixs, i ∈ vs) : ∀ σ H Q, tE K (eLc m src vs tg tst elt) σ H Q → tLc (tI K src) (tG K tg) (tT K tst) (tE K elt) vs σ H Q := by
  rintro σ H Q ⟨S, e, h, v, h', sr, ev, q⟩
  unfold eLc at ev
  split at ev
  · cases ev
  · rename_i sc h1 es
    split at ev
    · cases ev
    · rename_i acc h2 eg
      refine ⟨S, e, h, sc, h1, sr, es, fun S1 J H1 x1 r1 itr D hD => ?_⟩
      unfold goAll at eg
      split at eg
      · cases eg
      · rename_i its en
        obtain ⟨c0, m0⟩ := CI.start r1 hD
        have sw := (sr.ext x1 r1).wipe vs
        refine go_ok itr (S1 := S1) (H1 := H1) (D := D) (step := fun x H2 Nx => (tG K tg) x (L2.wipe σ vs) H2 fun σ2 H2 => L2.wipe σ2 vs = L2.wipe σ vs ∧ (tT K tst) σ2 H2 fun b H3 =>
            if b = true then (tE K elt) σ2 H3 fun y H4 => ∃ acc, H4 D = some (.lst acc) ∧ acc.length < sizeLine ∧ Nx (upd H4 D (.lst (acc ++ [y]))) else Nx H3) ?_ ?_ m0 c0 eg
        · intro S2 H2 h3 i acc acc1 h4 x Nx mo c vi eb nx
          unfold lcB at eb
          split at eb
          · cases eb
          · rename_i e1 ea
            refine ⟨S2, wipeE e vs, h3, i, e1, sw.mo mo c.hr, vi, ea, fun σ2 sr2 sm => ⟨(wipe_same sm htg).trans wipe_twice, ?_⟩⟩
            split at eb
            · cases eb
            · rename_i h5 et
              cases eb
              exact ⟨S2, e1, h3, false, _, sr2, et, fun S3 H3 x3 r3 => ite_ff (nx S3 H3 (mo.trans x3.mo) (c.step x3 r3))⟩
            · rename_i h5 et
              refine ⟨S2, e1, h3, true, h5, sr2, et, fun S3 H3 x3 r3 => ite_tt ?_⟩
              split at eb
              · cases eb
              · rename_i v5 h6 ee
                split at eb
                · rename_i hlt
                  cases eb
                  refine ⟨S3, e1, h5, v5, _, sr2.ext x3 r3, ee, fun S4 y H4 x4 r4 v4 => ?_⟩
                  obtain ⟨xs, hx, hl, c5, m5⟩ := ((c.step x3 r3).step x4 r4).push hD v4
                  exact ⟨xs, hx, by rw [hl]; exact hlt, nx S4 _ (((mo.trans x3.mo).trans x4.mo).trans m5) c5⟩
                · cases eb
        · intro S2 H2 _ c
          exact c.fin r1 hD ev fun S' x H' e' a b => q S' x H' (x1.trans e') a b
theorem lc_read2 {m : Bool} {src src1 : ISrc} {vs vs1 : List Nat} {tg tg1 : Tgt} {tst tst1 : Tst} {elt : Exp} (htg : ∀ i ∈ tg.ixs, i ∈ vs) (htg1 : ∀ i ∈ tg1.ixs, i ∈ vs1) : ∀ σ H Q, tE K (eLc2 m src vs tg tst src1 vs1 tg1 tst1 elt) σ H Q → tLc2 (tI K src) (tG K tg) (tT K tst) (tI K src1) (tG K tg1) (tT K tst1) (tE K elt) vs vs1 σ H Q := by
  rintro σ H Q ⟨S, e, h, v, h', sr, ev, q⟩
  unfold eLc2 at ev
  split at ev
  · cases ev
  · rename_i sc h1 es
    split at ev
    · cases ev
    · rename_i acc h2 eg
      refine ⟨S, e, h, sc, h1, sr, es, fun S1 J H1 x1 r1 itr D hD => ?_⟩
      unfold goAll at eg
      split at eg
      · cases eg
      · rename_i its en
        obtain ⟨c0, m0⟩ := CI.start r1 hD
        have sw := (sr.ext x1 r1).wipe vs
        refine go_ok itr (S1 := S1) (H1 := H1) (D := D) (step := fun x H2 Nx => (tG K tg) x (L2.wipe σ vs) H2 fun σ2 H2 => L2.wipe σ2 vs = L2.wipe σ vs ∧ (tT K tst) σ2 H2 fun b H3 =>
            if b = true then (tI K src1) σ2 H3 fun J1 H4 => ∃ W1 : Nat → Nat → Hp → Prop, (∃ m, W1 0 m H4) ∧ ∀ j k H, W1 j k H →
              (J1.stop j H ∧ Nx H) ∨ (J1.go j H ∧ ∃ Nx1 : Hp → Prop, (∀ H', Nx1 H' → ∃ k', k' < k ∧ W1 (j + 1) k' H') ∧ ∀ x H', J1.yld j H x H' → (tG K tg1) x (L2.wipe σ2 vs1) H' fun σ3 H5 => L2.wipe σ3 vs1 = L2.wipe σ2 vs1 ∧ (tT K tst1) σ3 H5 fun b H6 =>
                if b = true then (tE K elt) σ3 H6 fun y H7 => ∃ acc, H7 D = some (.lst acc) ∧ acc.length < sizeLine ∧ Nx1 (upd H7 D (.lst (acc ++ [y]))) else Nx1 H6)
            else Nx H3) ?_ ?_ m0 c0 eg
        · intro S2 H2 h3 i acc acc1 h4 x Nx mo c vi eb nx
          unfold lcB2 at eb
          split at eb
          · cases eb
          · rename_i e1 ea
            refine ⟨S2, wipeE e vs, h3, i, e1, sw.mo mo c.hr, vi, ea, fun σ2 sr2 sm => ⟨(wipe_same sm htg).trans wipe_twice, ?_⟩⟩
            split at eb
            · cases eb
            · rename_i h5 et
              cases eb
              exact ⟨S2, e1, h3, false, _, sr2, et, fun S3 H3 x3 r3 => ite_ff (nx S3 H3 (mo.trans x3.mo) (c.step x3 r3))⟩
            · rename_i h5 et
              refine ⟨S2, e1, h3, true, h5, sr2, et, fun S3 H3 x3 r3 => ite_tt ?_⟩
              split at eb
              · cases eb
              · rename_i s1 h6 es1
                refine ⟨S3, e1, h5, s1, h6, sr2.ext x3 r3, es1, fun S4 J1 H4 x4 r4 itr1 => ?_⟩
                unfold goAll at eb
                split at eb
                · cases eb
                · rename_i its1 en1
                  have sw1 := ((sr2.ext x3 r3).ext x4 r4).wipe vs1
                  have mo4 := (mo.trans x3.mo).trans x4.mo
                  refine go_ok itr1 (S1 := S1) (H1 := H1) (D := D) (step := fun x H' Nx1 => (tG K tg1) x (L2.wipe σ2 vs1) H' fun σ3 H5 => L2.wipe σ3 vs1 = L2.wipe σ2 vs1 ∧ (tT K tst1) σ3 H5 fun b H6 =>
                    if b = true then (tE K elt) σ3 H6 fun y H7 => ∃ acc, H7 D = some (.lst acc) ∧ acc.length < sizeLine ∧ Nx1 (upd H7 D (.lst (acc ++ [y]))) else Nx1 H6) ?_ ?_ (Ext.refl _ _).mo ((c.step x3 r3).step x4 r4) eb
                  · intro S2 H2 h3 i acc acc1 h4 x Nx mo c vi eb nx
                    unfold lcB at eb
                    split at eb
                    · cases eb
                    · rename_i e2 ea
                      refine ⟨S2, wipeE e1 vs1, h3, i, e2, sw1.mo mo c.hr, vi, ea, fun σ3 sr2 sm => ⟨(wipe_same sm htg1).trans wipe_twice, ?_⟩⟩
                      split at eb
                      · cases eb
                      · rename_i h5 et
                        cases eb
                        exact ⟨S2, e2, h3, false, _, sr2, et, fun S3 H3 x3 r3 => ite_ff (nx S3 H3 (mo.trans x3.mo) (c.step x3 r3))⟩
                      · rename_i h5 et
                        refine ⟨S2, e2, h3, true, h5, sr2, et, fun S3 H3 x3 r3 => ite_tt ?_⟩
                        split at eb
                        · cases eb
                        · rename_i v5 h6 ee
                          split at eb
                          · rename_i hlt
                            cases eb
                            refine ⟨S3, e2, h5, v5, _, sr2.ext x3 r3, ee, fun S4 y H4 x4 r4 v4 => ?_⟩
                            obtain ⟨xs, hx, hl, c5, m5⟩ := ((c.step x3 r3).step x4 r4).push hD v4
                            exact ⟨xs, hx, by rw [hl]; exact hlt, nx S4 _ (((mo.trans x3.mo).trans x4.mo).trans m5) c5⟩
                          · cases eb
                  · intro S5 H5 mo5 c5
                    exact nx S5 H5 (mo4.trans mo5) c5
        · intro S2 H2 _ c
          exact c.fin r1 hD ev fun S' x H' e' a b => q S' x H' (x1.trans e') a b
end
def STs (X : Cx) (ifs : List Expr) (t : Tst) : Prop := PTs X ifs (tT X.K t)
def tYs : Tst := fun _ h => some (true, h)
theorem sts_nil {X : Cx} : STs X [] tYs := ⟨fun pins s σ H Q I h => by
  obtain ⟨S, e, h0, b, h', sr, ev, q⟩ := h
  cases ev
  exact pts_nil.run pins s σ H Q I (q S H (.refl _ _) sr.hr)⟩
theorem sts_one {X : Cx} {c : Expr} {t : Tst} (h : ST X c t) : STs X [c] t := pts_one h
section
variable {X : Cx} {elt tge iter tge1 iter1 : Expr} {ifs ifs1 : List Expr} {scope : Scope} {own : List (Str × Nat)} {pos : Pos} {src src1 : ISrc} {tg tg1 : Tgt} {tst tst1 : Tst} {f : Exp} {m : Bool} {vs1 : List Nat}
theorem se_lc (hc : X.calm = true) (hN : X.N.Nodup) (hi : SI X tge iter src) (ok : BlkOk X.N X.env.scope scope own)
    (hg : ∀ (s : Shared) (H : Hp) (C : Addr) (cl : List (Str × Addr)) (fp : List Addr), SG (X.blk s H scope (compEnvC scope cl C X.env) fp) tge tg)
    (ht : ∀ (s : Shared) (H : Hp) (C : Addr) (cl : List (Str × Addr)) (fp : List Addr), STs (X.blk s H scope (compEnvC scope cl C X.env) fp) ifs tst)
    (he : ∀ (s : Shared) (H : Hp) (C : Addr) (cl : List (Str × Addr)) (fp : List Addr), SE (X.blk s H scope (compEnvC scope cl C X.env) fp) elt f)
    (htg : ∀ i ∈ tg.ixs, i ∈ own.map (·.2)) (hs : ∀ x, foldedSetIterable iter X.env x = pure x) :
    SE X (.ListComp elt [⟨tge, iter, ifs, 0⟩] scope pos) (eLc m src (own.map (·.2)) tg tst f) :=
  PE.weak (pe_lc (g := tG X.K tg) (tt := tT X.K tst) (te := tE X.K f) hc hN hi ok hg ht he hs) (lc_read htg)
theorem se_lc2 (hc : X.calm = true) (hN : X.N.Nodup) (hi : SI X tge iter src) (ok : BlkOk X.N X.env.scope scope own) (hv : ∀ i ∈ vs1, i ∈ own.map (·.2))
    (hg : ∀ (s : Shared) (H : Hp) (C : Addr) (cl : List (Str × Addr)) (fp : List Addr), SG (X.blk s H scope (compEnvC scope cl C X.env) fp) tge tg)
    (ht : ∀ (s : Shared) (H : Hp) (C : Addr) (cl : List (Str × Addr)) (fp : List Addr), STs (X.blk s H scope (compEnvC scope cl C X.env) fp) ifs tst)
    (hi1 : ∀ (s : Shared) (H : Hp) (C : Addr) (cl : List (Str × Addr)) (fp : List Addr), SI (X.blk s H scope (compEnvC scope cl C X.env) fp) tge1 iter1 src1)
    (hg1 : ∀ (s : Shared) (H : Hp) (C : Addr) (cl : List (Str × Addr)) (fp : List Addr), SG (X.blk s H scope (compEnvC scope cl C X.env) fp) tge1 tg1)
    (ht1 : ∀ (s : Shared) (H : Hp) (C : Addr) (cl : List (Str × Addr)) (fp : List Addr), STs (X.blk s H scope (compEnvC scope cl C X.env) fp) ifs1 tst1)
    (he : ∀ (s : Shared) (H : Hp) (C : Addr) (cl : List (Str × Addr)) (fp : List Addr), SE (X.blk s H scope (compEnvC scope cl C X.env) fp) elt f)
    (htg : ∀ i ∈ tg.ixs, i ∈ own.map (·.2)) (htg1 : ∀ i ∈ tg1.ixs, i ∈ vs1) (hs : ∀ x, foldedSetIterable iter X.env x = pure x) (hs1 : ∀ env x, foldedSetIterable iter1 env x = pure x) :
    SE X (.ListComp elt [⟨tge, iter, ifs, 0⟩, ⟨tge1, iter1, ifs1, 0⟩] scope pos) (eLc2 m src (own.map (·.2)) tg tst src1 vs1 tg1 tst1 f) :=
  PE.weak (pe_lc2 (g := tG X.K tg) (tt := tT X.K tst) (te := tE X.K f) (wi1 := tI X.K src1) (g1 := tG X.K tg1) (tt1 := tT X.K tst1) hc hN hi ok hv hg ht hi1 hg1 ht1 he hs hs1) (lc_read2 htg htg1)
end
end MP

/-! MPo: statements. -/
namespace MP
open PySem PySem.Spec PyProof.Rows L2

def sNil : Stm := fun e h => some (.nx, e, h)
def sSeq (a b : Stm) : Stm := fun e h => match a e h with
  | none => none
  | some (.nx, e1, h1) => b e1 h1
  | some r => some r
def sAsg (f : Exp) (t : Tgt) : Stm := fun e h => match f e h with
  | none => none
  | some (v, h1) => match asgV t v e with
    | none => none
    | some e1 => some (.nx, e1, h1)
abbrev Op3 := Val → Val → Val → Hh → Option Hh
def sSub (st : Op3) (f o i : Exp) : Stm := fun e h => match f e h with
  | none => none
  | some (v, h1) => match o e h1 with
    | none => none
    | some (a, h2) => match i e h2 with
      | none => none
      | some (b, h3) => match st a b v h3 with
        | none => none
        | some h4 => some (.nx, e, h4)
def setAll : Ev → List Nat → List Val → Option Ev
  | e, [], [] => some e
  | e, i :: is, v :: vs => setAll (e.set i (some v)) is vs
  | _, _, _ => none
def sPar (fs : Exps) (is : List Nat) : Stm := fun e h => match fs e h with
  | none => none
  | some (vs, h1) => match setAll e is vs with
    | none => none
    | some e1 => some (.nx, e1, h1)
def sAug (op : Op2) (i : Nat) (f : Exp) : Stm := fun e h => match e[i]? with
  | some (some u) => match f e h with
    | none => none
    | some (v, h1) => match op u v h1 with
      | none => none
      | some (w, h2) => some (.nx, e.set i (some w), h2)
  | _ => none
def sIf (t : Tst) (a b : Stm) : Stm := fun e h => match t e h with
  | none => none
  | some (true, h1) => a e h1
  | some (false, h1) => b e h1
def sRet (f : Exp) : Stm := fun e h => match f e h with
  | none => none
  | some (v, h1) => some (.rt v, e, h1)
def sDrop (f : Exp) : Stm := fun e h => match f e h with
  | none => none
  | some (_, h1) => some (.nx, e, h1)
def sBrk : Stm := fun e h => some (.bk, e, h)
def sCnt : Stm := fun e h => some (.ct, e, h)
def sNo : Stm := fun _ _ => none
def forN (src : Src) (t : Tgt) (B : Stm) : Nat → Nat → Stm
  | 0, i, e, h => match src.now h with
    | none => none
    | some its => if its.length = i then some (.nx, e, h) else none
  | k + 1, i, e, h => match src.now h with
    | none => none
    | some its => match its[i]? with
      | none => if its.length = i then some (.nx, e, h) else none
      | some it => match asgI t it e with
        | none => none
        | some e1 => match B e1 h with
          | none => none
          | some (.nx, e2, h2) => forN src t B k (i + 1) e2 h2
          | some (.ct, e2, h2) => forN src t B k (i + 1) e2 h2
          | some r => some r
def FUEL : Nat := 2 ^ 512
def Src.fuel : Src → Nat
  | .st its => its.length
  | _ => FUEL
def sFor (src : ISrc) (t : Tgt) (B orelse : Stm) : Stm := fun e h => match src e h with
  | none => none
  | some (s, h1) => match forN s t B s.fuel 0 e h1 with
    | none => none
    | some (.nx, e2, h2) => orelse e2 h2
    | some (.bk, e2, h2) => some (.nx, e2, h2)
    | some (.ct, _, _) => none
    | some (.rt v, e2, h2) => some (.rt v, e2, h2)
def whileN (t : Tst) (B : Stm) : Nat → Stm
  | 0, _, _ => none
  | k + 1, e, h => match t e h with
    | none => none
    | some (false, h1) => some (.nx, e, h1)
    | some (true, h1) => match B e h1 with
      | none => none
      | some (.nx, e2, h2) => whileN t B k e2 h2
      | some (.ct, e2, h2) => whileN t B k e2 h2
      | some r => some r
def sWhile (t : Tst) (B orelse : Stm) : Stm := fun e h => match whileN t B FUEL e h with
  | none => none
  | some (.nx, e2, h2) => orelse e2 h2
  | some (.bk, e2, h2) => some (.nx, e2, h2)
  | some (.ct, _, _) => none
  | some (.rt v, e2, h2) => some (.rt v, e2, h2)

section
variable {K : PySem.W.Frag}
theorem EndR.pre {S S1 : Sg} {H H1 : Hp} {D : Ends} {e : Ev} {h : Hh} {fl : Fl} (x : Ext S H S1 H1) (q : EndR K S H D e h fl) : EndR K S1 H1 D e h fl := by
  cases fl with
  | nx => exact fun S' σ' H' e' r => q S' σ' H' (x.trans e') r
  | bk => exact fun S' σ' H' e' r => q S' σ' H' (x.trans e') r
  | ct => exact fun S' σ' H' e' r => q S' σ' H' (x.trans e') r
  | rt v => exact fun S' x' H' e' r v => q S' x' H' (x.trans e') r v
end
section
variable {X : Cx} {st : Stmt} {rest : List Stmt} {a b : Stm} {e : Expr} {f : Exp} {pos : Pos}
theorem sss_nil : SSs X [] sNil := PSs.weak pss_nil fun D σ H => by
  rintro ⟨S, e, h, fl, e', h', sr, ev, q⟩
  cases ev
  exact q S σ H (.refl _ _) sr
theorem sss_cons (h1 : SS X st a) (h2 : SSs X rest b) : SSs X (st :: rest) (sSeq a b) := PSs.weak (pss_cons h1 h2) fun D σ H => by
  rintro ⟨S, e, h, fl, e', h', sr, ev, q⟩
  unfold sSeq at ev
  split at ev
  · cases ev
  · rename_i e1 h1 ea
    exact ⟨S, e, h, .nx, e1, h1, sr, ea, fun S1 σ1 H1 x1 r1 => ⟨S1, e1, h1, fl, e', h', r1, ev, EndR.pre x1 q⟩⟩
  · rename_i r hn ea
    cases ev
    refine ⟨S, e, h, fl, e', h', sr, ea, ?_⟩
    cases fl with
    | nx => exact (hn _ _ rfl).elim
    | bk => exact q
    | ct => exact q
    | rt v => exact q
theorem ss_break : SS X (.Break pos) sBrk := PS.weak ps_break fun D σ H => by
  rintro ⟨S, e, h, fl, e', h', sr, ev, q⟩
  cases ev
  exact q S σ H (.refl _ _) sr
theorem ss_cont : SS X (.Continue pos) sCnt := PS.weak ps_continue fun D σ H => by
  rintro ⟨S, e, h, fl, e', h', sr, ev, q⟩
  cases ev
  exact q S σ H (.refl _ _) sr
theorem ss_pass : SS X (.Pass pos) sNil := PS.weak ps_pass fun D σ H => by
  rintro ⟨S, e, h, fl, e', h', sr, ev, q⟩
  cases ev
  exact q S σ H (.refl _ _) sr
theorem ss_no : SS X st sNo := PS.weak ps_never fun D σ H => by
  rintro ⟨S, e, h, fl, e', h', sr, ev, q⟩
  cases ev
theorem ss_ret (he : SE X e f) : SS X (.Return (some e) pos) (sRet f) := PS.weak (ps_ret he) fun D σ H => by
  rintro ⟨S, e, h, fl, e', h', sr, ev, q⟩
  unfold sRet at ev
  split at ev
  · cases ev
  · rename_i v h1 e1
    cases ev
    exact ⟨S, e, h, v, _, sr, e1, q⟩
theorem ss_retN : SS X (.Return none pos) (sRet (eD .none)) := PS.weak ps_retN fun D σ H => by
  rintro ⟨S, e, h, fl, e', h', sr, ev, q⟩
  cases ev
  exact q S _ H (.refl _ _) sr.hr Df.non
theorem ss_expr (he : SE X e f) (hs : swapsWith e none pos.line X.env = pure false) : SS X (.Expr e pos) (sDrop f) := PS.weak (ps_expr he hs) fun D σ H => by
  rintro ⟨S, e, h, fl, e', h', sr, ev, q⟩
  unfold sDrop at ev
  split at ev
  · cases ev
  · rename_i v h1 e1
    cases ev
    exact ⟨S, e, h, v, _, sr, e1, fun S1 x H1 x1 r1 v1 => q S1 σ H1 x1 (sr.ext x1 r1)⟩
theorem ss_doc {x j pos'} : SS X (.Expr (.Constant (.str x) j pos) pos') sNil := PS.weak ps_doc fun D σ H => by
  rintro ⟨S, e, h, fl, e', h', sr, ev, q⟩
  cases ev
  exact q S σ H (.refl _ _) sr
theorem ss_if {c : Expr} {p q : List Stmt} {t : Tst} (hc : ST X c t) (ha : SSs X p a) (hb : SSs X q b) : SS X (.If c p q pos) (sIf t a b) := PS.weak (ps_if hc ha hb) fun D σ H => by
  rintro ⟨S, e, h, fl, e', h', sr, ev, q⟩
  unfold sIf at ev
  split at ev
  · cases ev
  · rename_i h1 e1
    exact ⟨S, e, h, true, h1, sr, e1, fun S1 H1 x1 r1 => ite_tt ⟨S1, e, h1, fl, e', h', sr.ext x1 r1, ev, EndR.pre x1 q⟩⟩
  · rename_i h1 e1
    exact ⟨S, e, h, false, h1, sr, e1, fun S1 H1 x1 r1 => ite_ff ⟨S1, e, h1, fl, e', h', sr.ext x1 r1, ev, EndR.pre x1 q⟩⟩
theorem asg_of {t : Tgt} : ∀ D σ H, tSt X.K (sAsg f t) D σ H → tAsg (tE X.K f) (tGv X.K t) D σ H := by
  rintro D σ H ⟨S, e, h, fl, e', h', sr, ev, q⟩
  unfold sAsg at ev
  split at ev
  · cases ev
  · rename_i v h1 e1
    split at ev
    · cases ev
    · rename_i e2 ea
      cases ev
      exact ⟨S, e, h, v, _, sr, e1, fun S1 x H1 x1 r1 v1 => ⟨S1, e, _, v, _, sr.ext x1 r1, v1, ea, fun σ1 r2 _ => q S1 σ1 H1 x1 r2⟩⟩
theorem ss_set {i : Nat} {x : Str} {pos' : Pos} (hN : X.N.Nodup) (hi : X.N[i]? = some x) (hx : Loc X.env.scope x) (he : SE X e f) (hs : swapsWith e (some (.Name x pos')) pos.line X.env = pure false) (hf : X.fn x = true ∨ X.env.scope.names.lookup x = some .local) :
    SS X (.Assign [.Name x pos'] e pos) (sAsg f (.nm i)) := PS.weak (ps_set hN hi hx he hs hf) fun D σ H w => by
  obtain ⟨S, e, h, v, h', sr, ev, q⟩ := asg_of D σ H w
  refine ⟨S, e, h, v, h', sr, ev, fun S1 x H1 x1 r1 v1 => ?_⟩
  obtain ⟨S2, e2, h2, u, e3, sr2, vr2, ea, q2⟩ := q S1 x H1 x1 r1 v1
  cases ea
  exact q2 _ (sr2.set i vr2) (.set _ _ _)
theorem ss_asg {tg : Expr} {t : Tgt} (he : SE X e f) (hg : SGv X tg t) (hs : swapsWithSole [tg] e pos.line X.env = pure false) (hw : swappedStores [tg] e X.env = pure none) (h1 : nostar tg = true) : SS X (.Assign [tg] e pos) (sAsg f t) :=
  PS.weak (ps_asg he hg.v hs hw (by rw [each_cons h1]; rfl)) asg_of
theorem ss_sub {o i : Expr} {fo fi : Exp} {st : Op3} {tpos : Pos} (hst : PSet X (rSt X.K st)) (he : SE X e f) (ho : SE X o fo) (hi : SE X i fi)
    (ha : ∀ v, assign (.Subscript o i tpos) X.env v = (do
      let ov ← holding [v] (eval o X.env)
      let iv ← holding [v, ov] (eval i X.env)
      standAt tpos
      holding [v, ov, iv] (setItem ov iv v)
      release [v, ov, iv] []))
    (hs : swapsWithSole [.Subscript o i tpos] e pos.line X.env = pure false) (hw : swappedStores [.Subscript o i tpos] e X.env = pure none) : SS X (.Assign [.Subscript o i tpos] e pos) (sSub st f fo fi) := by
  refine PS.weak (ps_asg he (pg_sub ho hi hst ha) hs hw (by rw [each_cons rfl]; rfl)) ?_
  rintro D σ H ⟨S, e, h, fl, e', h', sr, ev, q⟩
  unfold sSub at ev
  split at ev
  · cases ev
  · rename_i v h1 e1
    refine ⟨S, e, h, v, h1, sr, e1, fun S1 x H1 x1 r1 v1 => ?_⟩
    split at ev
    · cases ev
    · rename_i u2 h2 e2
      refine ⟨S1, e, h1, u2, h2, sr.ext x1 r1, e2, fun S2 y H2 x2 r2 v2 => ?_⟩
      split at ev
      · cases ev
      · rename_i u3 h3 e3
        refine ⟨S2, e, h2, u3, h3, sr.ext (x1.trans x2) r2, e3, fun S3 z H3 x3 r3 v3 => ?_⟩
        split at ev
        · cases ev
        · rename_i h4 e4
          cases ev
          refine ⟨S3, h3, u2, u3, v, _, r3, v2.ext x3, v3, (v1.ext x2).ext x3, e4, fun S4 H4 x4 r4 => ?_⟩
          have xx := ((x1.trans x2).trans x3).trans x4
          exact q S4 σ H4 xx (sr.ext xx r4)
theorem ss_par {i j : Nat} {x y : Str} {ea eb : Expr} {fs : Exps} {px py pt : Pos} {kt k2 pt2} (hc : X.calm = true) (hN : X.N.Nodup) (hi : X.N[i]? = some x) (hj : X.N[j]? = some y) (hij : i ≠ j)
    (hx : X.env.scope.names.lookup x = some .local) (hy : X.env.scope.names.lookup y = some .local) (ha : SA X [ea, eb] fs)
    (hw : swappedStores [.Tuple [.Name x px, .Name y py] kt pt] (.Tuple [ea, eb] k2 pt2) X.env = pure (some [x, y])) :
    SS X (.Assign [.Tuple [.Name x px, .Name y py] kt pt] (.Tuple [ea, eb] k2 pt2) pos) (sPar fs [i, j]) := by
  refine PS.weak (ps_par hc hN hi hj hij hx hy ha.1 hw) ?_
  rintro D σ H ⟨S, e, h, fl, e', h', sr, ev, q⟩
  unfold sPar at ev
  split at ev
  · cases ev
  · rename_i vs h1 e1
    split at ev
    · cases ev
    · rename_i e2 ea
      cases ev
      refine ⟨S, e, h, vs, _, sr, e1, fun S1 xs H1 x1 r1 v1 => ?_⟩
      match vs, v1, ea with
      | [u, v], .cons va (.cons vb .nil), ea =>
        cases ea
        exact ⟨_, _, rfl, q S1 _ H1 x1 (((sr.ext x1 r1).set i va).set j vb)⟩
theorem ss_par3 {i j l : Nat} {x y z : Str} {ea eb ec : Expr} {fs : Exps} {px py pz pt : Pos} {kt k2 pt2} (hc : X.calm = true) (hN : X.N.Nodup) (hi : X.N[i]? = some x) (hj : X.N[j]? = some y) (hl : X.N[l]? = some z) (hij : i ≠ j) (hil : i ≠ l) (hjl : j ≠ l)
    (hx : X.env.scope.names.lookup x = some .local) (hy : X.env.scope.names.lookup y = some .local) (hz : X.env.scope.names.lookup z = some .local) (ha : SA X [ea, eb, ec] fs)
    (hw : swappedStores [.Tuple [.Name x px, .Name y py, .Name z pz] kt pt] (.Tuple [ea, eb, ec] k2 pt2) X.env = pure (some [x, y, z])) :
    SS X (.Assign [.Tuple [.Name x px, .Name y py, .Name z pz] kt pt] (.Tuple [ea, eb, ec] k2 pt2) pos) (sPar fs [i, j, l]) := by
  refine PS.weak (ps_par3 hc hN hi hj hl hij hil hjl hx hy hz ha.1 hw) ?_
  rintro D σ H ⟨S, e, h, fl, e', h', sr, ev, q⟩
  unfold sPar at ev
  split at ev
  · cases ev
  · rename_i vs h1 e1
    split at ev
    · cases ev
    · rename_i e2 ea
      cases ev
      refine ⟨S, e, h, vs, _, sr, e1, fun S1 xs H1 x1 r1 v1 => ?_⟩
      match vs, v1, ea with
      | [u, v, w], .cons va (.cons vb (.cons vc .nil)), ea =>
        cases ea
        exact ⟨_, _, _, rfl, q S1 _ H1 x1 ((((sr.ext x1 r1).set i va).set j vb).set l vc)⟩
theorem ss_aug {i : Nat} {x : Str} {op : Operator} {o : Op2} {pos' : Pos} (hN : X.N.Nodup) (hi : X.N[i]? = some x) (hx : Loc X.env.scope x) (he : SE X e f) (ho : PIp X op (rOp X.K o)) (hf : X.fn x = true ∨ X.env.scope.names.lookup x = some .local) :
    SS X (.AugAssign (.Name x pos') op e pos) (sAug o i f) := by
  refine PS.weak (ps_aug hN hi hx he ho hf) ?_
  rintro D σ H ⟨S, e, h, fl, e', h', sr, ev, q⟩
  unfold sAug at ev
  split at ev
  · rename_i u eu
    obtain ⟨y, e1, e2⟩ := sr.ev i _ eu
    split at ev
    · cases ev
    · rename_i v h1 ef
      split at ev
      · cases ev
      · rename_i w h2 eo
        cases ev
        refine ⟨y, e1, S, e, h, v, h1, sr, ef, fun S1 z H1 x1 r1 v1 => ⟨S1, h1, u, v, r1, e2.ext x1, v1, w, _, eo, fun S2 t H2 x2 r2 v2 => ?_⟩⟩
        exact q S2 _ H2 (x1.trans x2) ((sr.ext (x1.trans x2) r2).set i v2)
  · cases ev

/-! ### loops -/
theorem ss_for {tg iter : Expr} {body orelse : List Stmt} {src : ISrc} {t : Tgt} (hp : PassesOwn (model X.prog X.w) X.A X.env X.xe) (hc : X.calm = true) (hi : SI X tg iter src) (hg : SG X tg t) (hb : SSs X body a) (ho : SSs X orelse b)
    (hs : ∀ x, foldedSetIterable iter X.env x = pure x) : SS X (.For tg iter body orelse pos) (sFor src t a b) := by
  refine PS.weak (ps_forE hp hc hi hg hb ho hs) ?_
  rintro D σ H ⟨S, e, h, fl, e', h', sr, ev, q⟩
  unfold sFor at ev
  split at ev
  · cases ev
  · rename_i s h1 es
    refine ⟨S, e, h, s, h1, sr, es, fun S1 J H1 x1 r1 itr => ?_⟩
    -- the result of the loop itself
    obtain ⟨⟨flF, eF, hF⟩, eN⟩ : ∃ r, forN s t a s.fuel 0 e h1 = some r := by
      cases hh : forN s t a s.fuel 0 e h1 with
      | none => rw [hh] at ev; cases ev
      | some r => exact ⟨r, rfl⟩
    rw [eN] at ev
    have fin : EndR X.K S H { D with nx := tSt X.K b D, bk := D.nx, ct := fun _ _ => False } eF hF flF := by
      cases flF with
      | nx => exact fun S' σ' H' x' r' => ⟨S', eF, hF, fl, e', h', r', ev, EndR.pre x' q⟩
      | bk => cases ev; exact q
      | ct => cases ev
      | rt v => cases ev; exact q
    clear ev
    refine ⟨fun i m σ H2 => ∃ S2 e h, Ext S1 H1 S2 H2 ∧ SR X.K S2 σ H2 e h ∧ forN s t a m i e h = some (flF, eF, hF), ⟨s.fuel, S1, e, h1, .refl _ _, sr.ext x1 r1, eN⟩, ?_⟩
    rintro i m σ2 H2 ⟨S2, e2, h2, x2, r2, en⟩
    have stop : ∀ its, s.now h2 = some its → its.length = i → (some ((Fl.nx, e2, h2) : Fl × Ev × Hh) = some (flF, eF, hF)) → J.stop i H2 ∧ tSt X.K b D σ2 H2 := by
      intro its e3 hl e4
      cases e4
      exact ⟨(itr.run S2 H2 _ its x2.mo r2.hr e3 i).2 hl.symm, fin S2 σ2 H2 (x1.trans x2) r2⟩
    cases m with
    | zero =>
      unfold forN at en
      split at en
      · cases en
      · rename_i its e3
        split at en
        · rename_i hl; exact .inl (stop its e3 hl en)
        · cases en
    | succ m =>
      unfold forN at en
      split at en
      · cases en
      · rename_i its e3
        split at en
        · split at en
          · rename_i hl; exact .inl (stop its e3 hl en)
          · cases en
        · rename_i it e4
          obtain ⟨g, y⟩ := (itr.run S2 H2 h2 its x2.mo r2.hr e3 i).1 it e4
          split at en
          · cases en
          · rename_i e5 ea
            refine .inr ⟨g, ?_⟩
            refine ⟨fun σ' H' => ∃ m', m' < m + 1 ∧ ∃ S2 e h, Ext S1 H1 S2 H' ∧ SR X.K S2 σ' H' e h ∧ forN s t a m' (i + 1) e h = some (flF, eF, hF), fun σ' H' w => w, fun x H3 hy => ?_⟩
            obtain ⟨x3, r3, v3⟩ := y x H3 hy
            refine ⟨S2, e2, h2, it, e5, r2.ext x3 r3, v3, ea, fun σ4 r4 _ => ?_⟩
            have xx := x2.trans x3
            split at en
            · cases en
            · rename_i e6 h6 eb
              exact ⟨S2, e5, _, _, e6, h6, r4, eb, fun S' σ' H' x' r' => ⟨m, Nat.lt_succ_self _, S', e6, h6, xx.trans x', r', en⟩⟩
            · rename_i e6 h6 eb
              exact ⟨S2, e5, _, _, e6, h6, r4, eb, fun S' σ' H' x' r' => ⟨m, Nat.lt_succ_self _, S', e6, h6, xx.trans x', r', en⟩⟩
            · rename_i r n1 n2 eb
              cases en
              refine ⟨S2, e5, _, flF, eF, hF, r4, eb, ?_⟩
              have fin' := EndR.pre (x1.trans xx) fin
              cases flF with
              | nx => exact (n1 _ _ rfl).elim
              | ct => exact (n2 _ _ rfl).elim
              | bk => exact fin'
              | rt v => exact fin'
theorem ss_while {c : Expr} {body orelse : List Stmt} {t : Tst} (hp : PassesOwn (model X.prog X.w) X.A X.env X.xe) (hc : ST X c t) (hb : SSs X body a) (ho : SSs X orelse b) : SS X (.While c body orelse pos) (sWhile t a b) := by
  refine PS.weak (ps_whileE hp hc hb ho) ?_
  rintro D σ H ⟨S, e, h, fl, e', h', sr, ev, q⟩
  unfold sWhile at ev
  generalize FUEL = k0 at ev
  obtain ⟨⟨flF, eF, hF⟩, eN⟩ : ∃ r, whileN t a k0 e h = some r := by
    cases hh : whileN t a k0 e h with
    | none => rw [hh] at ev; cases ev
    | some r => exact ⟨r, rfl⟩
  rw [eN] at ev
  have fin : EndR X.K S H { D with nx := tSt X.K b D, bk := D.nx, ct := fun _ _ => False } eF hF flF := by
    cases flF with
    | nx => exact fun S' σ' H' x' r' => ⟨S', eF, hF, fl, e', h', r', ev, EndR.pre x' q⟩
    | bk => cases ev; exact q
    | ct => cases ev
    | rt v => cases ev; exact q
  clear ev
  refine ⟨fun m σ H2 => ∃ S2 e h, Ext S H S2 H2 ∧ SR X.K S2 σ H2 e h ∧ whileN t a m e h = some (flF, eF, hF), ⟨k0, S, e, h, .refl _ _, sr, eN⟩, ?_⟩
  rintro m σ2 H2 ⟨S2, e2, h2, x2, r2, en⟩
  cases m with
  | zero => cases en
  | succ m =>
    unfold whileN at en
    split at en
    · cases en
    · rename_i h3 et
      cases en
      exact ⟨S2, _, h2, false, _, r2, et, fun S3 H3 x3 r3 => ite_ff (fin S3 σ2 H3 (x2.trans x3) (r2.ext x3 r3))⟩
    · rename_i h3 et
      refine ⟨S2, _, h2, true, _, r2, et, fun S3 H3 x3 r3 => ite_tt ?_⟩
      have xx := x2.trans x3
      refine ⟨fun σ' H' => ∃ m', m' < m + 1 ∧ ∃ S2 e h, Ext S H S2 H' ∧ SR X.K S2 σ' H' e h ∧ whileN t a m' e h = some (flF, eF, hF), fun σ' H' w => w, ?_⟩
      split at en
      · cases en
      · rename_i e6 h6 eb
        exact ⟨S3, e2, h3, _, e6, h6, r2.ext x3 r3, eb, fun S' σ' H' x' r' => ⟨m, Nat.lt_succ_self _, S', e6, h6, xx.trans x', r', en⟩⟩
      · rename_i e6 h6 eb
        exact ⟨S3, e2, h3, _, e6, h6, r2.ext x3 r3, eb, fun S' σ' H' x' r' => ⟨m, Nat.lt_succ_self _, S', e6, h6, xx.trans x', r', en⟩⟩
      · rename_i r n1 n2 eb
        cases en
        refine ⟨S3, e2, h3, flF, eF, hF, r2.ext x3 r3, eb, ?_⟩
        have fin' := EndR.pre xx fin
        cases flF with
        | nx => exact (n1 _ _ rfl).elim
        | ct => exact (n2 _ _ rfl).elim
        | bk => exact fin'
        | rt v => exact fin'

/-! ### name = [..] stored by the comprehension -/
section
variable {elt tge iter tge1 iter1 : Expr} {ifs ifs1 : List Expr} {scope : Scope} {own : List (Str × Nat)} {src src1 : ISrc} {tg tg1 : Tgt} {tst tst1 : Tst} {m : Bool} {vs1 : List Nat} {spos py : Pos} {i : Nat} {y : Str}
theorem set_of {te : TE} (hte : ∀ σ H Q, tE X.K f σ H Q → te σ H Q) : ∀ D σ H, tSt X.K (sAsg f (.nm i)) D σ H → tAsg te (gName i) D σ H := by
  intro D σ H w
  refine hte σ H _ ?_
  obtain ⟨S, e, h, v, h', sr, ev, q⟩ := asg_of D σ H w
  refine ⟨S, e, h, v, h', sr, ev, fun S1 x H1 x1 r1 v1 => ?_⟩
  obtain ⟨S2, e2, h2, u, e3, sr2, vr2, ea, q2⟩ := q S1 x H1 x1 r1 v1
  cases ea
  exact q2 _ (sr2.set i vr2) (.set _ _ _)
theorem ss_setLc (hc : X.calm = true) (hN : X.N.Nodup) (hy : X.N[i]? = some y) (hyl : X.env.scope.names.lookup y = some .local)
    (hsw : swapsWith (.ListComp elt [⟨tge, iter, ifs, 0⟩] scope pos) (some (.Name y py)) spos.line X.env = pure true) (hi : SI X tge iter src) (ok : BlkOk X.N X.env.scope scope own)
    (hg : ∀ (s : Shared) (H : Hp) (C : Addr) (cl : List (Str × Addr)) (fp : List Addr), SG (X.blk s H scope (compEnvC scope cl C X.env) fp) tge tg)
    (ht : ∀ (s : Shared) (H : Hp) (C : Addr) (cl : List (Str × Addr)) (fp : List Addr), STs (X.blk s H scope (compEnvC scope cl C X.env) fp) ifs tst)
    (he : ∀ (s : Shared) (H : Hp) (C : Addr) (cl : List (Str × Addr)) (fp : List Addr), SE (X.blk s H scope (compEnvC scope cl C X.env) fp) elt f)
    (htg : ∀ i ∈ tg.ixs, i ∈ own.map (·.2)) (hs : ∀ x, foldedSetIterable iter X.env x = pure x) :
    SS X (.Assign [.Name y py] (.ListComp elt [⟨tge, iter, ifs, 0⟩] scope pos) spos) (sAsg (eLc m src (own.map (·.2)) tg tst f) (.nm i)) :=
  PS.weak (ps_setLc (g := tG X.K tg) (tt := tT X.K tst) (te := tE X.K f) hc hN hy hyl hsw hi ok hg ht he hs) (set_of (lc_read htg))
theorem ss_setLc2 (hc : X.calm = true) (hN : X.N.Nodup) (hy : X.N[i]? = some y) (hyl : X.env.scope.names.lookup y = some .local)
    (hsw : swapsWith (.ListComp elt [⟨tge, iter, ifs, 0⟩, ⟨tge1, iter1, ifs1, 0⟩] scope pos) (some (.Name y py)) spos.line X.env = pure true) (hi : SI X tge iter src) (ok : BlkOk X.N X.env.scope scope own) (hv : ∀ i ∈ vs1, i ∈ own.map (·.2))
    (hg : ∀ (s : Shared) (H : Hp) (C : Addr) (cl : List (Str × Addr)) (fp : List Addr), SG (X.blk s H scope (compEnvC scope cl C X.env) fp) tge tg)
    (ht : ∀ (s : Shared) (H : Hp) (C : Addr) (cl : List (Str × Addr)) (fp : List Addr), STs (X.blk s H scope (compEnvC scope cl C X.env) fp) ifs tst)
    (hi1 : ∀ (s : Shared) (H : Hp) (C : Addr) (cl : List (Str × Addr)) (fp : List Addr), SI (X.blk s H scope (compEnvC scope cl C X.env) fp) tge1 iter1 src1)
    (hg1 : ∀ (s : Shared) (H : Hp) (C : Addr) (cl : List (Str × Addr)) (fp : List Addr), SG (X.blk s H scope (compEnvC scope cl C X.env) fp) tge1 tg1)
    (ht1 : ∀ (s : Shared) (H : Hp) (C : Addr) (cl : List (Str × Addr)) (fp : List Addr), STs (X.blk s H scope (compEnvC scope cl C X.env) fp) ifs1 tst1)
    (he : ∀ (s : Shared) (H : Hp) (C : Addr) (cl : List (Str × Addr)) (fp : List Addr), SE (X.blk s H scope (compEnvC scope cl C X.env) fp) elt f)
    (htg : ∀ i ∈ tg.ixs, i ∈ own.map (·.2)) (htg1 : ∀ i ∈ tg1.ixs, i ∈ vs1) (hs : ∀ x, foldedSetIterable iter X.env x = pure x) (hs1 : ∀ env x, foldedSetIterable iter1 env x = pure x) :
    SS X (.Assign [.Name y py] (.ListComp elt [⟨tge, iter, ifs, 0⟩, ⟨tge1, iter1, ifs1, 0⟩] scope pos) spos) (sAsg (eLc2 m src (own.map (·.2)) tg tst src1 vs1 tg1 tst1 f) (.nm i)) :=
  PS.weak (ps_setLc2 (g := tG X.K tg) (tt := tT X.K tst) (te := tE X.K f) (wi1 := tI X.K src1) (g1 := tG X.K tg1) (tt1 := tT X.K tst1) hc hN hy hyl hsw hi ok hv hg ht hi1 hg1 ht1 he hs hs1) (set_of (lc_read2 htg htg1))
end
end
end MP

/-! MPox: more operations. -/
namespace MP
open PySem PySem.Spec PyProof.Rows L2

def mInsert : OpM := fun u vs h => match u, vs with
  | .loc n, [.d (.int i), v] => match h[n]? with
    | some (.lst xs) => if decide (xs.length < sizeLine) && decide (0 ≤ i) && smI (2 * i) then some (.d .none, h.set n (.lst (xs.take i.toNat ++ [v] ++ xs.drop i.toNat))) else none
    | _ => none
  | _, _ => none
/-- the first place of an equal one -/
def ixD (x : D) : List D → Nat → Option Nat
  | [], _ => none
  | y :: ys, i => if PyData.eqv y x then some i else ixD x ys (i + 1)
def mIndex : OpM := fun u vs h => match vs with
  | [v] => match view 8 u h, view 8 v h with
    | some (.list ys), some x => if SeqAt.shaped (.list ys) && SeqAt.shaped x then (match ixD x ys 0 with
        | some j => some (.d (.int (j : Nat)), h)
        | none => none)
      else none
    | _, _ => none
  | _ => none
theorem ixD_ok {x : D} : ∀ {ys : List D} {i j : Nat}, ixD x ys i = some j → ∃ k z, j = i + k ∧ ys[k]? = some z ∧ PyData.eqv z x = true ∧ ∀ m z', m < k → ys[m]? = some z' → PyData.eqv z' x = false
  | [], _, _, h => by cases h
  | y :: ys, i, j, h => by
    unfold ixD at h
    split at h
    · rename_i e; cases h; exact ⟨0, y, rfl, rfl, e, fun m z' hm => by omega⟩
    · rename_i e
      obtain ⟨k, z, h1, h2, h3, h4⟩ := ixD_ok h
      refine ⟨k + 1, z, by omega, by simpa using h2, h3, fun m z' hm hz => ?_⟩
      cases m with
      | zero => simp at hz; subst hz; simpa using e
      | succ m => exact h4 m z' (by omega) (by simpa using hz)
section
variable {X : Cx} {K : PySem.W.Frag} {H : Hp} {S : Sg}
theorem VRs.take {xs : List V} {us : List Val} : ∀ (i : Nat), VRs K H S xs us → VRs K H S (xs.take i) (us.take i) := by
  intro i r
  induction r generalizing i with
  | nil => simp; exact .nil
  | cons a t ih => cases i with
    | zero => exact .nil
    | succ i => exact .cons a (ih i)
theorem VRs.drop {xs : List V} {us : List Val} : ∀ (i : Nat), VRs K H S xs us → VRs K H S (xs.drop i) (us.drop i) := by
  intro i r
  induction r generalizing i with
  | nil => simp; exact .nil
  | cons a t ih => cases i with
    | zero => exact .cons a t
    | succ i => exact ih i
theorem VRs.rev {xs : List V} {us : List Val} (r : VRs K H S xs us) : VRs K H S xs.reverse us.reverse := by
  induction r with
  | nil => exact .nil
  | cons a t ih => rw [List.reverse_cons, List.reverse_cons]; exact Paired.snoc ih a
theorem DfA.rev : ∀ {ds : List D} {xs : List V}, DfA K H S xs ds → DfA K H S xs.reverse ds.reverse
  | [], _, h => by cases h; exact .nil
  | d :: ds, _, h => by
    cases h with
    | cons a t => rw [List.reverse_cons, List.reverse_cons]; exact (DfA.rev t).app (.cons a .nil)
theorem mt_ext : MtR X "list.extend" (rM X.K mExtend) := by
  rintro pins s σ H x xs v us Q I rx r ⟨S, h, u, vs, hr, vx, vr, w, h', e, q⟩
  unfold mExtend at e
  split at e
  · cases e
  · rename_i ns
    split at e
    · rename_i ws ys ek ey
      split at e
      · rename_i hz
        cases e
        obtain ⟨y, rfl, vy⟩ := vr1 vr
        obtain ⟨a, zs, rfl, g, hx, r3⟩ := loc_lst hr vx ek
        obtain ⟨b, hb, r4⟩ : ∃ b ts, y = .ref b ∧ H b = some (.lst ts) ∧ VRs X.K H S ts ys := by
          unfold listItems at ey
          split at ey
          · cases ey
            cases vy with
            | lst l t => exact ⟨_, _, rfl, l.1, t.vrs⟩
          · split at ey
            · rename_i ws2 ek2
              cases ey
              obtain ⟨b, ts, e1, _, e3, e4⟩ := loc_lst hr vy ek2
              exact ⟨b, ts, e1, e3, e4⟩
            · rename_i ds ek2
              cases ey
              obtain ⟨b, bb, g2, rfl⟩ := vy
              obtain ⟨a', g3, _, dl⟩ := hr.ob _ _ ek2
              rw [g2] at g3; cases g3
              cases dl with
              | lst l t => exact ⟨_, _, rfl, l.1, t.vrs⟩
            · cases ey
          · exact (ns _ rfl).elim
          · cases ey
        obtain ⟨e1, hB, r4⟩ := r4
        subst e1
        obtain ⟨x1, r1⟩ := hr_write hr g (VRs.app r3 r4)
        exact mt_extend pins s σ H _ _ v us Q I rx r ⟨a, b, zs, _, rfl, rfl, hx, hB, by rw [paired_len r3, paired_len r4]; exact hz, q S _ _ x1 r1 Df.non⟩
      · cases e
    · cases e
  · cases e
theorem mt_ins : MtR X "list.insert" (rM X.K mInsert) := by
  rintro pins s σ H x xs v us Q I rx r ⟨S, h, u, vs, hr, vx, vr, w, h', e, q⟩
  unfold mInsert at e
  split at e
  · split at e
    · rename_i ws ek
      split at e
      · rename_i hz
        simp only [Bool.and_eq_true, decide_eq_true_eq] at hz
        have hs := smI_iff hz.2
        cases e
        obtain ⟨y1, y2, rfl, v1, v2⟩ := vr2 vr
        cases v1
        obtain ⟨a, zs, rfl, g, hx, r3⟩ := loc_lst hr vx ek
        obtain ⟨x1, r1⟩ := hr_write hr g (VRs.app (VRs.app (r3.take _) (.cons v2 .nil)) (r3.drop _))
        exact mt_insert pins s σ H _ _ v us Q I rx r ⟨a, zs, _, y2, rfl, rfl, hx, by rw [paired_len r3]; exact hz.1.1, hz.1.2, by omega, q S _ _ x1 r1 Df.non⟩
      · cases e
    · cases e
  · cases e
theorem mt_idx (hu : X.A.units + 200 < cLine) : MtR X "list.index" (rM X.K mIndex) := by
  rintro pins s σ H x xs v us Q I rx r ⟨S, h, u, vs, hr, vx, vr, w, h', e, q⟩
  unfold mIndex at e
  split at e
  · split at e
    · rename_i ys d ey ed
      split at e
      · rename_i hz
        simp only [Bool.and_eq_true] at hz
        split at e
        · rename_i j ej
          cases e
          obtain ⟨y, rfl, vy⟩ := vr1 vr
          have p1 := view_ok hr 8 u _ ey _ vx
          have p2 := view_ok hr 8 _ d ed _ vy
          obtain ⟨k, z, h1, h2, h3, h4⟩ := ixD_ok ej
          rw [Nat.zero_add] at h1
          subst h1
          cases p1 with
          | lst l t => exact mt_indexD (by omega) pins s σ H _ _ v us Q I rx r ⟨_, y, d, ys, _, z, rfl, rfl, .lst l t, p2, hz.1, hz.2, h2, h3, h4, q S _ H (.refl _ _) hr (Df.int _)⟩
        · cases e
      · cases e
    · cases e
  · cases e
end
/-! ### turned round -/
def opRev (m : Bool) : Val → Hh → Option (Val × Hh) := fun u h => match u with
  | .d (.tuple ds) => some (.d (.tuple ds.reverse), h)
  | u => match listItems u h with
    | some us => mkL m us.reverse h
    | none => none
section
variable {prog : Program} {w : World} {A : Around} {E : Value → Shared → Prop} {s : Shared}
theorem applied_rev {sl : Addr} {vl vu vs : Value} {n : Nat} {Q : Int × Int × Nat → Shared → Prop} (hs : s.heap.IsSliceOf sl vl vu vs) (pl : IsPart vl none) (pu : IsPart vu none) (ps : IsPart vs (some (-1)))
    (h : Q ((n : Int) - 1, -1, n) s) : wpAny (model prog w) A (Builtin.Slice.sliceApplied (.ref sl) (pure (n : Int))) Q E s := by
  obtain ⟨os, g1, g2, g3⟩ := id hs
  unfold Builtin.Slice.sliceApplied Builtin.Slice.sliceFields
  refine wpAny_bind (wpAny_bind (wpAny_field g1 g3 (x := vl) rfl (wpAny_bind (wpAny_field g1 g3 (x := vu) rfl (wpAny_bind (wpAny_field g1 g3 (x := vs) rfl (wpAny_pure ?_)))))))
  refine wpAny_bind (HT.slicePart_ ps ?_)
  show wpAny _ _ (if ((-1 : Int) == 0) = true then _ else _) _ _ s
  rw [if_neg (by decide)]
  refine wpAny_bind (HT.slicePart_ pl (wpAny_bind (HT.slicePart_ pu (wpAny_bind (wpAny_pure ?_)))))
  show wpAny _ _ (pure ((n : Int) - 1, (-1 : Int), Builtin.Slice.slicePlaces ((n : Int) - 1) (-1) (-1))) _ _ s
  have e : Builtin.Slice.slicePlaces ((n : Int) - 1) (-1) (-1) = n := by
    unfold Builtin.Slice.slicePlaces
    have h1 : ¬ ((-1 : Int) > 0) := by omega
    simp only [h1, if_false]
    split
    · have h2 : (- (-1 : Int)) = 1 := by decide
      rw [h2, Int.ediv_one]; omega
    · omega
  rw [e]
  exact wpAny_pure h
theorem fm_congr {α β : Type} {f g : α → Option β} : ∀ {l : List α}, (∀ x ∈ l, f x = g x) → l.filterMap f = l.filterMap g
  | [], _ => rfl
  | x :: l, h => by
    rw [List.filterMap_cons, List.filterMap_cons, h x List.mem_cons_self, fm_congr fun y hy => h y (List.mem_cons_of_mem _ hy)]
theorem pick_rev (xs : Array Value) : ((List.range xs.size).filterMap fun (k : Nat) => xs[(((xs.size : Nat) : Int) - 1 + (k : Int) * -1).toNat]?).toArray = xs.toList.reverse.toArray := by
  congr 1
  have e : (List.range xs.size).map (fun k => xs.size - 1 - k) = (List.range xs.size).reverse := PySem.W.krv_range xs.size
  have e2 : ((List.range xs.size).filterMap fun (k : Nat) => xs[(((xs.size : Nat) : Int) - 1 + (k : Int) * -1).toNat]?) = ((List.range xs.size).map (fun k => xs.size - 1 - k)).filterMap (xs[·]?) := by
    rw [List.filterMap_map]
    refine fm_congr fun k hk => ?_
    have := List.mem_range.mp hk
    have h3 : (((xs.size : Nat) : Int) - 1 + (k : Int) * -1).toNat = xs.size - 1 - k := by omega
    rw [h3]; rfl
  rw [e2, e, List.filterMap_reverse, PySem.W.krv_all]
theorem tuple_turned {t sl : Addr} {items : Array Value} {vl vu vs : Value} {Q : Value → Shared → Prop} (ht : IsTup s.heap t items) (hs : s.heap.IsSliceOf sl vl vu vs) (pl : IsPart vl none) (pu : IsPart vu none) (ps : IsPart vs (some (-1)))
    (h : Q (.ref s.heap.objs.size) { s with heap := s.heap.push { cls := .type "tuple", data := .seq items.toList.reverse.toArray } }) (hz : items.size ≤ sizeLine) : wpAny (model prog w) A (getItem (.ref t) (.ref sl)) Q E s := by
  obtain ⟨os, g1, g2, g3⟩ := id hs
  have hT : s.TypeIs (.ref sl) "slice" := ⟨os, g1, g2⟩
  unfold getItem
  try with_reducible refine wpAny_holding ?_
  first | refine wpAny_bind (wpAny_pure ?_) | skip
  refine wpAny_bind (wpAny_sequenceKey ht.typeIs (by decide) ?_)
  refine wpAny_bind (wpAny_callSpecial?_slot (name := Str.ofString "__getitem__") ht.typeIs PyProof.Rows.slot_tuple_getitem
    (wpAny_call_entry PyProof.Rows.slot_tuple_getitem ht.typeIs PyProof.Rows.entry_tuple_getitem ?_ (PyProof.Rows.args_tuple_getitem _ _)))
  show wpAny _ _ (Builtin.Tuple.tupleItemsOf (.ref t) >>= _) _ _ s
  refine wpAny_bind (tupleItemsOf_ ht ?_)
  refine wpAny_bind (wpAny_typeOf hT ?_)
  rw [if_pos (by decide)]
  refine wpAny_bind (applied_rev (n := items.size) hs pl pu ps ?_)
  have hno : ¬ (((items.size : Int) - 1 == 0 && (-1 : Int) == 1 && items.size == items.size) = true) := by
    intro q
    rw [Bool.and_eq_true, Bool.and_eq_true] at q
    exact absurd q.1.2 (by decide)
  show wpAny _ _ (if ((items.size : Int) - 1 == 0 && (-1 : Int) == 1 && items.size == items.size) = true then _ else _) _ _ s
  rw [if_neg hno, pick_rev]
  have hk : sizeOk (.seq items.toList.reverse.toArray) := by
    show items.toList.reverse.toArray.size ≤ sizeLine
    rw [List.size_toArray, List.length_reverse, Array.length_toList]; exact hz
  first
    | exact wpAny_bind (m := Builtin.Tuple.tupleExact _) (wpAny_newObj_type (wpAny_pure ⟨_, rfl, wpAny_pure h⟩) hk)
    | exact wpAny_bind (m := Builtin.Tuple.tupleExact _) (wpAny_newObj_type (wpAny_bind (wpAny_pure (wpAny_pure ⟨_, rfl, wpAny_pure h⟩))) hk)
    | exact wpAny_bind (wpAny_bind (m := Builtin.Tuple.tupleExact _) (wpAny_newObj_type (wpAny_pure (wpAny_pure ⟨_, rfl, wpAny_pure h⟩)) hk))
    | exact wpAny_bind (wpAny_bind (m := Builtin.Tuple.tupleExact _) (wpAny_newObj_type (wpAny_pure ⟨_, rfl, wpAny_pure h⟩) hk))
end
section
variable {X : Cx}
theorem se_rev {e : Expr} {f : Exp} {m : Bool} {k : Nat} {p1 p2 p3 pos : Pos} (he : SE X e f) : SE X (.Subscript e (.Slice none none (some (.UnaryOp .USub (.Constant (.int 1) k p1) p2)) p3) pos) (eUn (opRev m) f) := by
  refine ⟨fun pins s σ H Q I hh => ?_⟩
  obtain ⟨S, ev, h, v, h', sr, q0, q⟩ := hh
  unfold eUn at q0
  split at q0
  · cases q0
  · rename_i u h1 e1
    refine Subscript_ (thn (he.run pins s σ H (fun x H1 => ∃ S1, Ext S H S1 H1 ∧ HR X.K H1 S1 h1 ∧ VR X.K H1 S1 x u) I ⟨S, ev, h, u, h1, sr, e1, fun S1 x H1 x1 r1 v1 => ⟨S1, x1, r1, v1⟩⟩) fun val s1 ⟨x, H1, I1, r1, S1, x1, hr1, v1⟩ => ?_)
    have hst : PO X (some (.UnaryOp .USub (.Constant (.int 1) k p1) p2)) (tPart (tUn (rU fun i => .int (-i)) (tC (.int 1)))) := po_some (pe_un un_neg pe_int)
    refine wpAny_Slice (thn (po_none.run pins s1 σ H1 (fun o G => o = none ∧ G = H1) I1 ⟨rfl, rfl⟩) fun vl t2 ⟨ol, G2, J2, pl, el, f2⟩ => ?_)
    subst el f2
    refine thn (po_none.run pins t2 σ G2 (fun o G => o = none ∧ G = G2) J2 ⟨rfl, rfl⟩) fun vu t3 ⟨ou, G3, J3, pu, eu, f3⟩ => ?_
    subst eu f3
    refine thn (hst.run pins t3 σ G3 (fun o G => o = some (-1) ∧ G = G3) J3 ⟨1, rfl, -1, rfl, rfl, rfl⟩) fun vs t4 ⟨os, G4, J4, ps, eo, f4⟩ => ?_
    subst eo f4
    have J5 : L2.Inv X pins σ G4 { t4 with heap := t4.heap.push { cls := .type "slice", data := .fields #[vl, vu, vs] } } := J4.kept (t' := t4.toks) fun b ob z => Heap.get?_push_of_some _ z
    show wpAny (model X.prog X.w) X.A (subscriptTail e (.Slice none none (some (.UnaryOp .USub (.Constant (.int 1) k p1) p2)) p3) val (.ref t4.heap.objs.size)) (EP X pins σ Q) X.xe { t4 with heap := t4.heap.push { cls := .type "slice", data := .fields #[vl, vu, vs] } }
    have q' : ∀ S' x' H', Ext S1 G4 S' H' → HR X.K H' S' h' → VR X.K H' S' x' v → Q x' H' := fun S' x' H' e' a b => q S' x' H' (x1.trans e') a b
    unfold opRev at q0
    split at q0
    · cases q0
      cases v1 with
      | @tup a xs ds l t =>
        cases r1
        obtain ⟨its, r, ht, hz⟩ := J5.tuple l.sq
        have hsz := r.length
        refine tail_any (ops := [.ref a, .ref t4.heap.objs.size]) (IsTup.typeIs ht) (PyProof.Rows.slot_tuple_getitem.lookup) ?_ (by with_unfolding_all rfl)
        refine tuple_turned ht (Heap.IsSliceOf.new _ vl vu vs) pl pu ps ?_ (by rw [List.size_toArray]; omega)
        refine ⟨.ref _, _, J5.laid (t' := t4.toks) (o := .tup xs.reverse) (fun b ob z => Heap.get?_push_of_some _ z) (Nat.le_refl _) ?_, rfl, q' _ _ _ (ext_upd hr1 (J5.hok.fresh (Nat.le_refl _))) (hr1.upd (J5.hok.fresh (Nat.le_refl _))) (new_tup hr1 (J5.hok.fresh (Nat.le_refl _)) (DfA.rev t))⟩
        exact ⟨by rw [List.length_reverse]; exact hz, _, r.reverse, ⟨_, Heap.get?_push_size _ rfl, rfl, _, rfl⟩⟩
    · split at q0
      · rename_i us eu
        obtain ⟨a, xs, rfl, sq, rv⟩ := li_ok hr1 v1 eu
        cases r1
        obtain ⟨its, r, ht, hz⟩ := J5.list sq
        have hsz := r.length
        refine tail_any (ops := [.ref a, .ref t4.heap.objs.size]) ht.isList.typeIs (PySem.slot_list_getitem.lookup) ?_ (by with_unfolding_all rfl)
        refine wpAny_getItem_list_slice ht.isList (Heap.IsSliceOf.new _ vl vu vs) pl pu ps (by decide) ?_ (by rw [List.size_toArray]; omega)
        rw [PySem.W.krv_pick]
        refine ⟨.ref _, _, J5.laid (t' := t4.toks) (o := .lst xs.reverse) (fun b ob z => Heap.get?_push_of_some _ z) (Nat.le_refl _) ?_, rfl, mkL_ok hr1 (VRs.rev rv) q0 q' _ (J5.hok.fresh (Nat.le_refl _))⟩
        exact ⟨by rw [List.length_reverse]; exact hz, _, 0, r.reverse, Heap.get?_push_size _ rfl⟩
      · cases q0
/-- list(range(n)) -/
def eLR (m : Bool) (fs : Exps) : Exp := fun e h => match fs e h with
  | some ([.d (.int j)], h1) => if decide (j ≤ 16777216) && sm62 j then mkL m ((List.range j.toNat).map fun (k : Nat) => .d (.int (k : Nat))) h1 else none
  | _ => none
theorem ints_new {n : Nat} {acc : Array Value} (h : ItemsOf (fun i v => ∃ t, v = Value.int (0 + (i : Nat) * 1) t) acc n) : Vals ((List.range n).map fun (k : Nat) => V.int (k : Nat)) acc.toList := by
  have hl : acc.toList.length = n := by rw [Array.length_toList]; exact h.1
  have key : ∀ (xs : List Value) (o : Nat), (∀ i v, xs[i]? = some v → ∃ t, v = Value.int ((o + i : Nat) : Int) t) → Vals ((List.range' o xs.length).map fun (k : Nat) => V.int (k : Nat)) xs := by
    intro xs
    induction xs with
    | nil => intro o _; exact .nil
    | cons x xs ih =>
      intro o hx
      rw [List.length_cons, List.range'_succ, List.map_cons]
      refine .cons ?_ (ih (o + 1) fun i v q => ?_)
      · obtain ⟨t, e⟩ := hx 0 x rfl
        exact ⟨t, by rw [e]; simp⟩
      · obtain ⟨t, e⟩ := hx (i + 1) v (by simpa using q)
        exact ⟨t, by rw [e]; congr 2; omega⟩
  have := key acc.toList 0 fun i v q => by
    obtain ⟨t, e⟩ := h.2 i v (by simpa using q)
    exact ⟨t, by rw [e]; congr 1; simp⟩
  rw [hl] at this
  rwa [List.range_eq_range']
theorem vrs_range {K : PySem.W.Frag} {H : Hp} {S : Sg} : ∀ (l : List Nat), VRs K H S (l.map fun (k : Nat) => V.int (k : Nat)) (l.map fun (k : Nat) => Val.d (.int (k : Nat)))
  | [] => .nil
  | k :: l => .cons (Df.int _) (vrs_range l)
theorem se_lr {e : Expr} {fs : Exps} {m : Bool} {p1 p2 p3 pos : Pos} (hc : X.calm = true) (gl : Gl X "list") (ml : X.mg "list" = none) (gr : Gl X "range") (mr : X.mg "range" = none) (ha : SA X [e] fs) (hs : nostar e = true) :
    SE X (.Call (.Name "list" p1) [.Call (.Name "range" p2) [e] [] p3] [] pos) (eLR m fs) := by
  refine ⟨fun pins s σ H Q I hh => ?_⟩
  obtain ⟨S, ev, h, v, h', sr, q0, q⟩ := hh
  unfold eLR at q0
  split at q0
  · rename_i j h1 e1
    split at q0
    · rename_i hz
      simp only [Bool.and_eq_true, decide_eq_true_eq] at hz
      have b2 := sm62_iff hz.2
      refine Call_ (ld_blt I gl ml (show bootBuiltins (Str.ofString "list") = some (.type "list") by decide +kernel) (PyProof.Rows.callWith_type1 (Calls.spliced_cons (Call_ (ld_blt I gr mr boot_range (PyProof.Rows.callWith_type1 (thn (ha.1.run p3 pins s σ H (fun xs H1 => ∃ x S1, xs = [x] ∧ Ext S H S1 H1 ∧ HR X.K H1 S1 h1 ∧ VR X.K H1 S1 x (.d (.int j))) I ⟨S, ev, h, _, h1, sr, e1, fun S1 xs H1 x1 r1 v1 => ?_⟩) fun us s1 ⟨vs, H1, I1, rr, x, S1, ex, x1, hr1, v1⟩ => ?_) (star_cons hs) rfl)))) (star_cons rfl) rfl))
      · obtain ⟨x, rfl, vx⟩ := vr1 v1
        exact ⟨x, S1, rfl, x1, r1, vx⟩
      · subst ex
        cases v1
        obtain ⟨u, rfl, ru⟩ := vals1 rr
        obtain ⟨t, rfl⟩ := ru
        refine call_range_1 (Calls.spliced_nil ?_)
        have I2 : L2.Inv X pins σ H1 { s1 with heap := s1.heap.push { cls := .type "range", data := .fields #[.int 0 s1.toks, .int j t, .int 1 (s1.toks + 1)] }, toks := s1.toks + 1 + 1 } := I1.kept fun b o z => Heap.get?_push_of_some _ z
        have hn : Builtin.Range.rangeSize 0 j 1 = ((j.toNat : Nat) : Int) := by rw [rangeSize_one]; split <;> omega
        refine call_list_range (I1.ok.hd hc) (IsRange.new ..) (small_one (by omega) (by omega) b2.1 b2.2) hn (by omega) fun h2 tk acc c hk hS hit => ?_
        refine ⟨.ref _, _, I2.laid (t' := tk) (o := .lst ((List.range j.toNat).map fun (k : Nat) => V.int (k : Nat))) hk (Nat.le_refl _) ?_, rfl, mkL_ok hr1 (vrs_range _) q0 (fun S' x' H' e' a b => q S' x' H' (x1.trans e') a b) _ (I2.hok.fresh (Nat.le_refl _))⟩
        refine ⟨?_, acc.toList, c, ints_new hit, by simpa using hS⟩
        rw [List.length_map, List.length_range]
        have : (16777216 : Nat) = sizeLine := by decide
        omega
    · cases q0
  · cases q0
end
end MP

/-! MPp: the static context; expressions read as combinators. -/
namespace MP
open PySem PySem.Spec PyProof.Rows L2

structure Ct where
  N : List Str
  names : List (Str × NameKind)
  fn : Str → Bool
  fs : Str → Option (Nat × OpN)
  bl : List Str
  cs : Str → Option D
  mu : Pos → Bool

structure XOk (d : Nat) (c : Ct) (X : Cx) : Prop where
  N : X.N = c.N
  nd : c.N.Nodup
  kind : X.env.scope.kind = .function
  nm : X.env.scope.names = c.names
  fn : X.fn = c.fn
  calm : X.calm = true
  pass : PassesOwn (model X.prog X.w) X.A X.env X.xe
  room : Room d X.A
  fs : ∀ x n Φ, c.fs x = some (n, Φ) → FnRef X d x n Φ
  bl : ∀ x, c.bl.contains x = true → X.mg x = none
  cs : ∀ x k, c.cs x = some k → ∃ v u, X.mg x = some u ∧ RelV v u ∧ ∀ H S, Df X.K H S v k
theorem XOk.hu {d : Nat} {c : Ct} {X : Cx} (o : XOk d c X) : X.A.units + 200 < cLine := by have := o.room.un; omega

/-- the index of a name -/
def ixOf : List Str → Str → Option Nat
  | [], _ => none
  | y :: ys, x => if y = x then some 0 else (ixOf ys x).map (· + 1)
theorem ixOf_ok : ∀ {N : List Str} {x : Str} {i : Nat}, ixOf N x = some i → N[i]? = some x
  | [], _, _, h => by cases h
  | y :: ys, x, i, h => by
    unfold ixOf at h
    split at h
    · rename_i e; cases h; simp [e]
    · cases hh : ixOf ys x with
      | none => rw [hh] at h; cases h
      | some j => rw [hh] at h; cases h; simpa using ixOf_ok hh
def Ct.vis (c : Ct) (x : Str) : Bool := match c.names.lookup x with
  | some .local => true
  | some .cell => true
  | some .free => true
  | _ => false
def Ct.gl (c : Ct) (x : Str) : Bool := match c.names.lookup x with
  | some .globalImplicit => true
  | _ => false
def Ct.sto (c : Ct) (x : Str) : Bool := match c.names.lookup x with
  | some .local => true
  | some .cell => c.fn x
  | _ => false
def notDbg (x : Str) : Bool := !(x == ("__debug__" : Str)) && !(x == ("__classdict__" : Str)) && !(x == ("__name__" : Str))
theorem notDbg_ok {x : Str} (h : notDbg x = true) : (x == ("__debug__" : Str)) = false ∧ (x == ("__classdict__" : Str)) = false ∧ x ≠ "__name__" := by
  unfold notDbg at h
  simp only [Bool.and_eq_true, Bool.not_eq_true'] at h
  exact ⟨h.1.1, h.1.2, fun e => by have := h.2; rw [e] at this; simp at this⟩
/-- the names of a block as they run -/
def relN (names : List (Str × NameKind)) (sc : List (Str × NameKind)) : List (Str × NameKind) :=
  sc.map fun (n, k) => if (k == .free && names.lookup n == some .cell) then (n, .cell) else (n, k)
def Ct.blk (c : Ct) (scope : Scope) : Ct := { c with names := relN c.names scope.names, fn := fun x => scope.names.lookup x == some .cell }
def ownOf (N : List Str) (names : List (Str × NameKind)) : List (Str × Nat) := (List.range N.length).filterMap fun i => match N[i]? with
  | some x => (match names.lookup x with
    | some .local => some (x, i)
    | some .cell => some (x, i)
    | _ => none)
  | none => none
def scOf (names : List (Str × NameKind)) : Scope := { kind := .function, names := names, isGenerator := false, isCoroutine := false }

section
variable {d : Nat} {c : Ct} {X : Cx}
theorem XOk.gl (o : XOk d c X) {x : Str} (h : c.gl x = true) : Gl X x := by
  unfold Ct.gl at h
  unfold Gl Env.kindOf
  rw [o.nm]
  split at h
  · assumption
  · cases h
theorem XOk.vis (o : XOk d c X) {x : Str} (h : c.vis x = true) : Vis X.env.scope x := by
  unfold Ct.vis at h
  unfold Vis
  rw [o.nm]
  split at h
  · exact .inl (by assumption)
  · exact .inr (.inl (by assumption))
  · exact .inr (.inr (by assumption))
  · cases h
theorem XOk.sto (o : XOk d c X) {x : Str} (h : c.sto x = true) : L2.Loc X.env.scope x ∧ (X.fn x = true ∨ X.env.scope.names.lookup x = some .local) := by
  unfold Ct.sto at h
  unfold L2.Loc
  rw [o.nm, o.fn]
  split at h
  · rename_i e; exact ⟨.inl e, .inr e⟩
  · rename_i e; exact ⟨.inr e, .inl h⟩
  · cases h
theorem XOk.nodup (o : XOk d c X) : X.N.Nodup := by rw [o.N]; exact o.nd
theorem XOk.ix (o : XOk d c X) {x : Str} {i : Nat} (h : ixOf c.N x = some i) : X.N[i]? = some x := by rw [o.N]; exact ixOf_ok h
theorem XOk.blk (o : XOk d c X) (s : Shared) (H : Hp) (scope : Scope) (hk : scope.kind = .function) (C : Addr) (cl : List (Str × Addr)) (fp : List Addr) : XOk d (c.blk scope) (X.blk s H scope (compEnvC scope cl C X.env) fp) where
  N := o.N
  nd := o.nd
  kind := hk
  nm := by
    show (relabel scope X.env).names = relN c.names scope.names
    unfold relabel relN
    simp only
    congr 1
    funext p
    obtain ⟨n, k⟩ := p
    have e : (X.env.scope.kind == ScopeKind.function) = true := by rw [o.kind]; rfl
    show (if (k == .free && X.env.scope.kind == .function && X.env.scope.names.lookup n == some .cell) then (n, NameKind.cell) else (n, k)) = _
    rw [e, o.nm, Bool.and_true]
  fn := rfl
  calm := o.calm
  pass := PassesOwn.never
  room := o.room
  fs := fun x n Φ h => ⟨(o.fs x n Φ h).ex⟩
  bl := o.bl
  cs := o.cs
theorem XOk.blkOk (o : XOk d c X) {scope : Scope} {own : List (Str × Nat)} (h : blkC c.N (scOf c.names) scope own = true) : BlkOk X.N X.env.scope scope own := by
  have b := blkOk_by h
  refine ⟨b.kind, b.uniq, by rw [o.N]; exact b.ix, by rw [o.nm]; exact b.free, by rw [o.N]; exact b.own⟩
end

/-! ### tables -/
def binT (m : Bool) : Operator → Option Op2
  | .Add => some (opAdd m)
  | .Sub => some opSub
  | .Mult => some (opMul m)
  | .FloorDiv => some opFdiv
  | .Mod => some opMod
  | .Pow => some opPow
  | .LShift => some opShl
  | .RShift => some opShr
  | .BitAnd => some opAnd
  | _ => none
theorem binT_ok {X : Cx} {m : Bool} {op : Operator} {f : Op2} (h : binT m op = some f) : OpR X (binaryOp op) (rOp X.K f) := by
  cases op <;> first | cases h
  · exact ob_add m
  · exact ob_sub
  · exact ob_mul m
  · exact ob_mod
  · exact ob_pow
  · exact ob_shl
  · exact ob_shr
  · exact ob_and
  · exact ob_fdiv
def cmpT : CmpOp → Option Op2
  | .Eq => some opEq
  | .NotEq => some opNe
  | .Lt => some opLt
  | .LtE => some opLe
  | .Gt => some opGt
  | .GtE => some opGe
  | .Is => some opIs
  | .IsNot => some opIsNot
  | .In => some opIn0
  | .NotIn => some opNotIn0
theorem cmpT_ok {X : Cx} (hu : X.A.units + 200 < cLine) {op : CmpOp} {f : Op2} (h : cmpT op = some f) : OpR X (compareOp op) (rOp X.K f) := by
  cases op <;> cases h
  · exact or_eq hu
  · exact or_ne hu
  · exact or_lt hu
  · exact or_le hu
  · exact or_gt hu
  · exact or_ge hu
  · exact or_is
  · exact or_isNot
  · exact or_in0 hu
  · exact or_notIn0 hu
def callT (m : Bool) (x : Str) : Option OpN :=
  if x = "len" then some opLen else if x = "abs" then some opAbs else if x = "max" then some opMax else if x = "min" then some opMin
  else if x = "sum" then some opSum else if x = "all" then some opAll else if x = "any" then some opAny else if x = "int" then some opInt
  else if x = "bool" then some opBool else if x = "str" then some opStr else if x = "tuple" then some opTuple else if x = "list" then some (opList m)
  else if x = "sorted" then some (opSorted m) else none
theorem callT_ok {X : Cx} (hu : X.A.units + 200 < cLine) (hc : X.calm = true) {m : Bool} {x : Str} {f : OpN} (h : callT m x = some f) :
    (∃ id, bootBuiltins x = some (.builtin id) ∧ CallR X (.builtin id) (rNs X.K f)) ∨ ∃ T, bootBuiltins x = some (.type T) ∧ CallR X (.type T) (rNs X.K f) := by
  unfold callT at h
  by_cases e : x = "len"
  · rw [if_pos e] at h; cases h; rw [e]; exact .inl ⟨"len", by decide +kernel, cb_len⟩
  rw [if_neg e] at h; clear e
  by_cases e : x = "abs"
  · rw [if_pos e] at h; cases h; rw [e]; exact .inl ⟨"abs", by decide +kernel, cb_abs⟩
  rw [if_neg e] at h; clear e
  by_cases e : x = "max"
  · rw [if_pos e] at h; cases h; rw [e]; exact .inl ⟨"max", by decide +kernel, cb_max hu hc⟩
  rw [if_neg e] at h; clear e
  by_cases e : x = "min"
  · rw [if_pos e] at h; cases h; rw [e]; exact .inl ⟨"min", by decide +kernel, cb_min hu hc⟩
  rw [if_neg e] at h; clear e
  by_cases e : x = "sum"
  · rw [if_pos e] at h; cases h; rw [e]; exact .inl ⟨"sum", by decide +kernel, cb_sum hc⟩
  rw [if_neg e] at h; clear e
  by_cases e : x = "all"
  · rw [if_pos e] at h; cases h; rw [e]; exact .inl ⟨"all", by decide +kernel, cb_all hc⟩
  rw [if_neg e] at h; clear e
  by_cases e : x = "any"
  · rw [if_pos e] at h; cases h; rw [e]; exact .inl ⟨"any", by decide +kernel, cb_any hc⟩
  rw [if_neg e] at h; clear e
  by_cases e : x = "int"
  · rw [if_pos e] at h; cases h; rw [e]; exact .inr ⟨"int", by decide +kernel, cb_int⟩
  rw [if_neg e] at h; clear e
  by_cases e : x = "bool"
  · rw [if_pos e] at h; cases h; rw [e]; exact .inr ⟨"bool", by decide +kernel, cb_bool⟩
  rw [if_neg e] at h; clear e
  by_cases e : x = "str"
  · rw [if_pos e] at h; cases h; rw [e]; exact .inr ⟨"str", by decide +kernel, cb_str⟩
  rw [if_neg e] at h; clear e
  by_cases e : x = "tuple"
  · rw [if_pos e] at h; cases h; rw [e]; exact .inr ⟨"tuple", by decide +kernel, cb_tuple⟩
  rw [if_neg e] at h; clear e
  by_cases e : x = "list"
  · rw [if_pos e] at h; cases h; rw [e]; exact .inr ⟨"list", by decide +kernel, cb_list m⟩
  rw [if_neg e] at h; clear e
  by_cases e : x = "sorted"
  · rw [if_pos e] at h; cases h; rw [e]; exact .inl ⟨"sorted", by decide +kernel, cb_sorted hu hc m⟩
  rw [if_neg e] at h; clear e
  cases h
/-- the type that isinstance asks for -/
def tyT (x : Str) : Option String :=
  if x = "int" then some "int" else if x = "bool" then some "bool" else if x = "tuple" then some "tuple" else if x = "list" then some "list" else if x = "str" then some "str" else none
theorem tyT_ok {x : Str} {T : String} (h : tyT x = some T) : bootBuiltins x = some (.type T) := by
  unfold tyT at h
  by_cases e : x = "int"
  · rw [if_pos e] at h; cases h; rw [e]; decide +kernel
  rw [if_neg e] at h; clear e
  by_cases e : x = "bool"
  · rw [if_pos e] at h; cases h; rw [e]; decide +kernel
  rw [if_neg e] at h; clear e
  by_cases e : x = "tuple"
  · rw [if_pos e] at h; cases h; rw [e]; decide +kernel
  rw [if_neg e] at h; clear e
  by_cases e : x = "list"
  · rw [if_pos e] at h; cases h; rw [e]; decide +kernel
  rw [if_neg e] at h; clear e
  by_cases e : x = "str"
  · rw [if_pos e] at h; cases h; rw [e]; decide +kernel
  rw [if_neg e] at h; clear e
  cases h
def mthT (x : Str) : Option (String → Option OpM) :=
  if x = "append" then some fun T => if T = "list" then some mAppend else none
  else if x = "pop" then some fun T => if T = "list" then some mPop else none
  else if x = "extend" then some fun T => if T = "list" then some mExtend else none
  else if x = "insert" then some fun T => if T = "list" then some mInsert else none
  else if x = "index" then some fun T => if T = "list" then some mIndex else none
  else none
theorem mthT_ok {X : Cx} (hu : X.A.units + 200 < cLine) {x : Str} {f : String → Option OpM} (h : mthT x = some f) : ∀ T op, f T = some op → MthOk X T x op := by
  unfold mthT at h
  by_cases e : x = "append"
  · rw [if_pos e] at h; cases h
    intro T op q
    replace q : (if T = "list" then _ else none) = some op := q
    by_cases e2 : T = "list"
    · rw [if_pos e2] at q; cases q
      rw [e, e2]
      exact ⟨"list.append", PySem.F.plainAttrs_list, PySem.F.slot_list_append, PySem.F.type_list_append, mt_app⟩
    · rw [if_neg e2] at q; cases q
  rw [if_neg e] at h; clear e
  by_cases e : x = "pop"
  · rw [if_pos e] at h; cases h
    intro T op q
    replace q : (if T = "list" then _ else none) = some op := q
    by_cases e2 : T = "list"
    · rw [if_pos e2] at q; cases q
      rw [e, e2]
      exact ⟨"list.pop", PySem.F.plainAttrs_list, PySem.F.slot_list_pop, PySem.F.type_list_pop, mt_pop'⟩
    · rw [if_neg e2] at q; cases q
  rw [if_neg e] at h; clear e
  by_cases e : x = "extend"
  · rw [if_pos e] at h; cases h
    intro T op q
    replace q : (if T = "list" then _ else none) = some op := q
    by_cases e2 : T = "list"
    · rw [if_pos e2] at q; cases q
      rw [e, e2]
      exact ⟨"list.extend", PySem.F.plainAttrs_list, PySem.F.slot_list_extend, PySem.F.type_list_extend, mt_ext⟩
    · rw [if_neg e2] at q; cases q
  rw [if_neg e] at h; clear e
  by_cases e : x = "insert"
  · rw [if_pos e] at h; cases h
    intro T op q
    replace q : (if T = "list" then _ else none) = some op := q
    by_cases e2 : T = "list"
    · rw [if_pos e2] at q; cases q
      rw [e, e2]
      exact ⟨"list.insert", PySem.F.plainAttrs_list, PySem.F.slot_list_insert, PySem.F.type_list_insert, mt_ins⟩
    · rw [if_neg e2] at q; cases q
  rw [if_neg e] at h; clear e
  by_cases e : x = "index"
  · rw [if_pos e] at h; cases h
    intro T op q
    replace q : (if T = "list" then _ else none) = some op := q
    by_cases e2 : T = "list"
    · rw [if_pos e2] at q; cases q
      rw [e, e2]
      exact ⟨"list.index", PySem.F.plainAttrs_list, PySem.F.slot_list_index, PySem.F.type_list_index, (mt_idx hu)⟩
    · rw [if_neg e2] at q; cases q
  rw [if_neg e] at h; clear e
  cases h
end MP

/-! MPq: expressions read as combinators. -/
namespace MP
open PySem PySem.Spec PyProof.Rows L2

structure Dn where
  e : Ct → Expr → Option Exp
  t : Ct → Expr → Option Tst
  w : Ct → Expr → Option Tst
  i : Ct → Expr → Expr → Option ISrc
  g : Ct → Expr → Option Tgt
def denAs (f : Expr → Option Exp) : List Expr → Option Exps
  | [] => some aNil
  | e :: es => if nostar e then match f e, denAs f es with
      | some a, some b => some (aCons a b)
      | _, _ => none
    else none
def denGs (f : Expr → Option Tgt) : List Expr → Option (List Tgt)
  | [] => some []
  | e :: es => if nostar e then match f e, denGs f es with
      | some a, some b => some (a :: b)
      | _, _ => none
    else none
def notSlice : Expr → Bool
  | .Slice .. => false
  | _ => true
def denOpt (f : Expr → Option Exp) : Option Expr → Option Opt
  | none => some oNone
  | some e => match f e with
    | some a => some (oSome a)
    | none => none
def notSet : Expr → Bool
  | .Set .. => false
  | _ => true
def denIfs (f : Expr → Option Tst) : List Expr → Option Tst
  | [] => some tYs
  | [e] => f e
  | _ => none
def Ct.bn (c : Ct) (x : Str) : Bool := c.gl x && c.bl.contains x && notDbg x
def denCall (dn : Dn) (c : Ct) (x : Str) (args : List Expr) (m : Bool) : Option Exp :=
  if c.gl x && notDbg x && args.all nostar then
    match c.fs x with
    | some (n, Φ) => if args.length = n then match denAs (dn.e c) args with
        | some fs => some (eArgs Φ fs)
        | none => none
      else none
    | none => if c.bl.contains x then
        match args with
        | [] => none
        | e :: es => match callT m x with
          | some op => (match denAs (dn.e c) (e :: es) with
            | some fs => some (eArgs op fs)
            | none => none)
          | none => if x = "isinstance" then match es with
              | [.Name y _] => if c.bn y then match tyT y with
                  | some T => (match isT T, dn.e c e with
                    | some f, some a => some (eUn (opIsi f) a)
                    | _, _ => none)
                  | none => none
                else none
              | _ => none
            else none
      else none
  else none
def denLc (dn : Dn) (c : Ct) (elt : Expr) (gs : List Comprehension) (scope : Scope) (m : Bool) : Option Exp :=
  let own := ownOf c.N scope.names
  let b := c.blk scope
  if blkC c.N (scOf c.names) scope own then
    match gs with
    | [⟨tg, it, ifs, 0⟩] => if notSet it then match dn.i c tg it, dn.g b tg, denIfs (dn.t b) ifs, dn.e b elt with
        | some src, some t, some ts, some f => if t.ixs.all (fun i => (own.map (·.2)).contains i) then some (eLc m src (own.map (·.2)) t ts f) else none
        | _, _, _, _ => none
      else none
    | [⟨tg, it, ifs, 0⟩, ⟨tg1, it1, ifs1, 0⟩] => if notSet it && notSet it1 then match dn.i c tg it, dn.g b tg, denIfs (dn.t b) ifs with
        | some src, some t, some ts => (match dn.i b tg1 it1, dn.g b tg1, denIfs (dn.t b) ifs1, dn.e b elt with
          | some src1, some t1, some ts1, some f => if t.ixs.all (fun i => (own.map (·.2)).contains i) && t1.ixs.all (fun i => (own.map (·.2)).contains i) then some (eLc2 m src (own.map (·.2)) t ts src1 t1.ixs t1 ts1 f) else none
          | _, _, _, _ => none)
        | _, _, _ => none
      else none
    | _ => none
  else none
def denE (dn : Dn) (c : Ct) : Expr → Option Exp
  | .Name x _ => if c.vis x && notDbg x then match ixOf c.N x with
      | some i => some (eVar i)
      | none => none
    else if c.gl x && notDbg x then match c.cs x with
      | some k => some (eD k)
      | none => none
    else none
  | .Constant .none _ _ => some (eD .none)
  | .Constant (.bool b) _ _ => some (eD (.bool b))
  | .Constant (.int i) _ _ => some (eD (.int i))
  | .Constant (.str x) _ _ => some (eD (.str x))
  | .Tuple es _ _ => if es.length ≤ 1000 then match denAs (dn.e c) es with
      | some fs => some (eTup fs)
      | none => none
    else none
  | .List es p => if es.length ≤ 1000 then match denAs (dn.e c) es with
      | some fs => some (eLst (c.mu p) fs)
      | none => none
    else none
  | .BinOp a op b p => match binT (c.mu p) op, dn.e c a, dn.e c b with
      | some f, some fa, some fb => some (eBin f fa fb)
      | _, _, _ => none
  | .UnaryOp .USub a _ => match dn.e c a with
      | some fa => some (eUn opNeg fa)
      | none => none
  | .UnaryOp .Not a _ => match dn.e c a with
      | some fa => some (eNot fa)
      | none => none
  | .BoolOp _ [a] _ => dn.e c a
  | .BoolOp .And (a :: b :: r) p => match dn.e c a, dn.e c (.BoolOp .And (b :: r) p) with
      | some fa, some fb => some (eAnd fa fb)
      | _, _ => none
  | .BoolOp .Or (a :: b :: r) p => match dn.e c a, dn.e c (.BoolOp .Or (b :: r) p) with
      | some fa, some fb => some (eOr fa fb)
      | _, _ => none
  | .Compare a [op] [b] _ => if behindInMarks op b = false then match cmpT op, dn.e c a, dn.e c b with
      | some f, some fa, some fb => some (eBin f fa fb)
      | _, _, _ => none
    else none
  | .Compare a [op, op'] [b, b'] _ => if lastMarks [op, op'] [b, b'] = false then match cmpT op, cmpT op', dn.e c a, dn.e c b, dn.e c b' with
      | some f, some g, some fa, some fb, some fc => some (eChain f g fa fb fc)
      | _, _, _, _, _ => none
    else none
  | .IfExp t a b _ => match dn.t c t, dn.e c a, dn.e c b with
      | some ft, some fa, some fb => some (eIf ft fa fb)
      | _, _, _ => none
  | .Subscript a (.Slice lo hi none _) p => match dn.e c a, denOpt (dn.e c) lo, denOpt (dn.e c) hi with
      | some fa, some l, some h => some (eSl (c.mu p) fa l h)
      | _, _, _ => none
  | .Subscript a (.Slice none none (some (.UnaryOp .USub (.Constant (.int 1) _ _) _)) _) p => match dn.e c a with
      | some fa => some (eUn (opRev (c.mu p)) fa)
      | none => none
  | .Subscript a b _ => if notSlice b then match dn.e c a, dn.e c b with
      | some fa, some fb => some (eBin opIx0 fa fb)
      | _, _ => none
    else none
  | .Call (.Name x _) [.Call (.Name y p2) [a] [] p3] [] p => if x = "list" ∧ y = "range" ∧ c.bn "list" = true ∧ c.bn "range" = true ∧ (c.fs "list").isNone = true ∧ nostar a = true then (match denAs (dn.e c) [a] with
      | some fs => some (eLR (c.mu p) fs)
      | none => none)
    else denCall dn c x [.Call (.Name y p2) [a] [] p3] (c.mu p)
  | .Call (.Name x _) args [] p => denCall dn c x args (c.mu p)
  | .Call (.Attribute o m apos) args [] p => if plainBase o && (apos.endLine == p.line) && args.all nostar && decide (args.length < 28) then
      match mthT m, dn.e c o, denAs (dn.e c) args with
      | some f, some fo, some fs => some (eMeth f fo fs)
      | _, _, _ => none
    else none
  | .ListComp elt gs scope p => denLc dn c elt gs scope (c.mu p)
  | _ => none
def denW (dn : Dn) (c : Ct) : Expr → Option Tst
  | .BoolOp _ [a] _ => dn.t c a
  | .BoolOp .And (a :: b :: r) p => match dn.t c a, dn.w c (.BoolOp .And (b :: r) p) with
      | some fa, some fb => some (tAnd2 fa fb)
      | _, _ => none
  | .BoolOp .Or (a :: b :: r) p => match dn.t c a, dn.w c (.BoolOp .Or (b :: r) p) with
      | some fa, some fb => some (tOr2 fa fb)
      | _, _ => none
  | _ => none
def denT (dn : Dn) (c : Ct) (e : Expr) : Option Tst := match e with
  | .BoolOp .. => dn.w c e
  | .UnaryOp .Not a _ => match dn.t c a with
      | some f => some (tNot2 f)
      | none => none
  | .Compare a [op] [b] _ => if behindInMarks op b = false then match cmpT op, dn.e c a, dn.e c b with
      | some f, some fa, some fb => some (tCmpr (eBin f fa fb))
      | _, _, _ => none
    else none
  | .Compare a [op, op'] [b, b'] _ => if lastMarks [op, op'] [b, b'] = false then match cmpT op, cmpT op', dn.e c a, dn.e c b, dn.e c b' with
      | some f, some g, some fa, some fb, some fc => some (tCmpr (eChain f g fa fb fc))
      | _, _, _, _, _ => none
    else none
  | .Compare .. => none
  | .IfExp .. => none
  | e => match dn.e c e with
      | some f => some (tVal f)
      | none => none
def denI (dn : Dn) (c : Ct) (tg e : Expr) : Option ISrc := match e with
  | .Call (.Name x _) args [] _ => if c.bn x && (c.fs x).isNone then
        if x = "range" then match args with
          | [a] => if nostar a then (match denAs (dn.e c) [a] with
              | some fs => some (iRg fs)
              | none => none) else none
          | [a, b] => if nostar a && nostar b then (match denAs (dn.e c) [a, b] with
              | some fs => some (iRg fs)
              | none => none) else none
          | _ => none
        else if x = "enumerate" then match args, tg with
          | [a], .Tuple _ _ _ => if nostar a then (match dn.e c a with
              | some f => some (iEnu f)
              | none => none) else none
          | _, _ => none
        else match dn.e c e with
          | some f => some (iAny f)
          | none => none
      else match dn.e c e with
          | some f => some (iAny f)
          | none => none
  | e => match dn.e c e with
      | some f => some (iAny f)
      | none => none
def denG (dn : Dn) (c : Ct) : Expr → Option Tgt
  | .Name x _ => if c.sto x && notDbg x then match ixOf c.N x with
      | some i => some (.nm i)
      | none => none
    else none
  | .Tuple es _ _ => match denGs (dn.g c) es with
      | some ts => some (.tp ts)
      | none => none
  | _ => none
def Dn.zero : Dn := ⟨fun _ _ => none, fun _ _ => none, fun _ _ => none, fun _ _ _ => none, fun _ _ => none⟩
def Dn.step (dn : Dn) : Dn := ⟨denE dn, denT dn, denW dn, denI dn, denG dn⟩
def dnN : Nat → Dn
  | 0 => Dn.zero
  | n + 1 => (dnN n).step

structure DnOk (d : Nat) (dn : Dn) : Prop where
  e : ∀ {c X ex f}, XOk d c X → dn.e c ex = some f → SE X ex f
  t : ∀ {c X ex f}, XOk d c X → dn.t c ex = some f → ST X ex f
  w : ∀ {c X ex f}, XOk d c X → dn.w c ex = some f → SW X ex f
  i : ∀ {c X tg ex f}, XOk d c X → dn.i c tg ex = some f → SI X tg ex f
  g : ∀ {c X ex t}, XOk d c X → dn.g c ex = some t → SG X ex t ∧ SGv X ex t
section
variable {d : Nat} {dn : Dn} {c : Ct} {X : Cx}
theorem denAs_ok (h : DnOk d dn) (o : XOk d c X) : ∀ {es : List Expr} {fs : Exps}, denAs (dn.e c) es = some fs → SA X es fs
  | [], fs, q => by cases q; exact sa_nil
  | e :: es, fs, q => by
    unfold denAs at q
    split at q
    · rename_i hs
      split at q
      · rename_i a b ea eb
        cases q
        exact sa_cons (h.e o ea) (denAs_ok h o eb) (star_cons hs)
      · cases q
    · cases q
theorem denGs_ok (h : DnOk d dn) (o : XOk d c X) : ∀ {es : List Expr} {ts : List Tgt}, denGs (dn.g c) es = some ts → SGL X es ts ∧ es.all nostar = true ∧ ∀ t1 t2, ts = [t1, t2] → ∃ e1 e2, es = [e1, e2] ∧ SGv X e1 t1 ∧ SGv X e2 t2
  | [], ts, q => by cases q; exact ⟨sgl_nil, rfl, fun _ _ z => by cases z⟩
  | e :: es, ts, q => by
    unfold denGs at q
    split at q
    · rename_i hs
      split at q
      · rename_i a b ea eb
        cases q
        obtain ⟨h1, h2, _⟩ := denGs_ok h o eb
        refine ⟨sgl_cons (h.g o ea).2 h1 hs, by simp [hs, h2], fun t1 t2 z => ?_⟩
        cases z
        cases es with
        | nil => cases eb
        | cons e2 es =>
          unfold denGs at eb
          split at eb
          · split at eb
            · rename_i a2 b2 ea2 eb2
              cases eb
              cases es with
              | nil => exact ⟨e, e2, rfl, (h.g o ea).2, (h.g o ea2).2⟩
              | cons e3 es =>
                unfold denGs at eb2
                split at eb2
                · split at eb2
                  · cases eb2
                  · cases eb2
                · cases eb2
            · cases eb
          · cases eb
      · cases q
    · cases q
theorem denOpt_ok (h : DnOk d dn) (o : XOk d c X) {e : Option Expr} {f : Opt} (q : denOpt (dn.e c) e = some f) : SO X e f := by
  cases e with
  | none => cases q; exact so_none
  | some e =>
    unfold denOpt at q
    simp only at q
    split at q
    · rename_i a ea; cases q; exact so_some (h.e o ea)
    · cases q
theorem notSet_ok {e : Expr} (h : notSet e = true) (env : Env) (x : Value) : foldedSetIterable e env x = pure x := by
  cases e <;> first | rfl | cases h
theorem plainIx_ok {e : Expr} (h : notSlice e = true) : PlainIx e := by
  intro o i
  cases e <;> first | rfl | cases h
theorem denIfs_ok (h : DnOk d dn) (o : XOk d c X) {es : List Expr} {f : Tst} (q : denIfs (dn.t c) es = some f) : STs X es f := by
  match es, q with
  | [], q => cases q; exact sts_nil
  | [e], q => exact sts_one (h.t o q)
  | _ :: _ :: _, q => cases q
theorem bn_ok (o : XOk d c X) {x : Str} (h : c.bn x = true) : Gl X x ∧ X.mg x = none ∧ notDbg x = true := by
  unfold Ct.bn at h
  simp only [Bool.and_eq_true] at h
  exact ⟨o.gl h.1.1, o.bl x h.1.2, h.2⟩
theorem denCall_ok (h : DnOk d dn) (o : XOk d c X) {x : Str} {args : List Expr} {m : Bool} {f : Exp} {p pos : Pos} (q : denCall dn c x args m = some f) : SE X (.Call (.Name x p) args [] pos) f := by
  unfold denCall at q
  split at q
  · rename_i hc
    simp only [Bool.and_eq_true] at hc
    obtain ⟨⟨hg, hd⟩, hs⟩ := hc
    obtain ⟨d1, d2, d3⟩ := notDbg_ok hd
    split at q
    · rename_i n Φ ef
      split at q
      · rename_i hn
        split at q
        · rename_i fs ea
          cases q
          have F := o.fs x n Φ ef
          cases args with
          | nil => cases ea; cases hn; exact se_call0 F o.room (o.gl hg) d1
          | cons e es => exact se_call F o.room (o.gl hg) (denAs_ok h o ea) hn hs d1
        · cases q
      · cases q
    · split at q
      · rename_i hb
        split at q
        · cases q
        · rename_i e es
          split at q
          · rename_i op eo
            split at q
            · rename_i fs ea
              cases q
              rcases callT_ok o.hu o.calm eo with ⟨id, b, r⟩ | ⟨T, b, r⟩
              · exact se_callB r (o.gl hg) (o.bl x hb) b (denAs_ok h o ea) hs d3 d1
              · exact se_callTy r (o.gl hg) (o.bl x hb) b (denAs_ok h o ea) hs d3 d1
            · cases q
          · by_cases hx : x = "isinstance"
            · rw [if_pos hx] at q
              subst hx
              split at q
              · rename_i y p2
                split at q
                · rename_i hy
                  obtain ⟨y1, y2, y3⟩ := bn_ok o hy
                  split at q
                  · rename_i T eT
                    split at q
                    · rename_i ff a ei ea
                      cases q
                      simp only [List.all_cons, Bool.and_eq_true] at hs
                      exact se_isi ei (o.gl hg) (o.bl _ hb) y1 y2 (tyT_ok eT) (h.e o ea) hs.1 (notDbg_ok y3).2.2 (notDbg_ok y3).1
                    · cases q
                  · cases q
                · cases q
              · cases q
            · rw [if_neg hx] at q; cases q
      · cases q
  · cases q
theorem all_mem {l : List Nat} {vs : List Nat} (h : l.all (fun i => vs.contains i) = true) : ∀ i ∈ l, i ∈ vs := fun i hi => by
  have := List.all_eq_true.mp h i hi
  simpa using this
end
end MP

/-! MPr: the reading of expressions is right. -/
namespace MP
open PySem PySem.Spec PyProof.Rows L2
section
variable {d : Nat} {dn : Dn} {c : Ct} {X : Cx}
theorem denLc_ok (h : DnOk d dn) (o : XOk d c X) {elt : Expr} {gs : List Comprehension} {scope : Scope} {m : Bool} {f : Exp} {pos : Pos} (q : denLc dn c elt gs scope m = some f) : SE X (.ListComp elt gs scope pos) f := by
  unfold denLc at q
  simp only at q
  split at q
  · rename_i hb
    have ok := o.blkOk hb
    have hk := ok.kind
    split at q
    · rename_i tg it ifs
      split at q
      · rename_i hn
        split at q
        · rename_i src t ts f2 e1 e2 e3 e4
          split at q
          · rename_i hix
            cases q
            exact se_lc o.calm o.nodup (h.i o e1) ok (fun s H C cl fp => (h.g (o.blk s H scope hk C cl fp) e2).1) (fun s H C cl fp => denIfs_ok h (o.blk s H scope hk C cl fp) e3) (fun s H C cl fp => h.e (o.blk s H scope hk C cl fp) e4) (all_mem hix) (notSet_ok hn X.env)
          · cases q
        · cases q
      · cases q
    · rename_i tg it ifs tg1 it1 ifs1
      split at q
      · rename_i hn
        simp only [Bool.and_eq_true] at hn
        split at q
        · rename_i src t ts e1 e2 e3
          split at q
          · rename_i src1 t1 ts1 f2 e4 e5 e6 e7
            split at q
            · rename_i hix
              simp only [Bool.and_eq_true] at hix
              cases q
              exact se_lc2 o.calm o.nodup (h.i o e1) ok (all_mem hix.2) (fun s H C cl fp => (h.g (o.blk s H scope hk C cl fp) e2).1) (fun s H C cl fp => denIfs_ok h (o.blk s H scope hk C cl fp) e3)
                (fun s H C cl fp => h.i (o.blk s H scope hk C cl fp) e4) (fun s H C cl fp => (h.g (o.blk s H scope hk C cl fp) e5).1) (fun s H C cl fp => denIfs_ok h (o.blk s H scope hk C cl fp) e6)
                (fun s H C cl fp => h.e (o.blk s H scope hk C cl fp) e7) (all_mem hix.1) (fun i z => z) (notSet_ok hn.1 X.env) (fun env => notSet_ok hn.2 env)
            · cases q
          · cases q
        · cases q
      · cases q
    · cases q
  · cases q
theorem meth_ok (h : DnOk d dn) (o : XOk d c X) {ob : Expr} {name : Str} {args : List Expr} {f : String → Option OpM} {fo : Exp} {fs : Exps} {apos pos : Pos} (hb : plainBase ob = true) (hl : (apos.endLine == pos.line) = true) (hs : args.all nostar = true) (hn : args.length < 28)
    (e1 : mthT name = some f) (e2 : dn.e c ob = some fo) (e3 : denAs (dn.e c) args = some fs) : SE X (.Call (.Attribute ob name apos) args [] pos) (eMeth f fo fs) := by
  cases args with
  | nil => cases e3; exact se_meth0 (mthT_ok o.hu e1) (h.e o e2) hb hl
  | cons a as => exact se_meth (mthT_ok o.hu e1) (h.e o e2) (denAs_ok h o e3) hb hs hn hl
theorem small_sz {n : Nat} (h : n ≤ 1000) : n ≤ sizeLine := Nat.le_trans h (by decide)
theorem denE_ok (h : DnOk d dn) (o : XOk d c X) {ex : Expr} {f : Exp} (q : denE dn c ex = some f) : SE X ex f := by
  unfold denE at q
  split at q
  · -- Name
    split at q
    · rename_i hv
      simp only [Bool.and_eq_true] at hv
      split at q
      · rename_i i ei
        cases q
        exact se_var (o.ix ei) (o.vis hv.1) (notDbg_ok hv.2).1 (notDbg_ok hv.2).2.1
      · cases q
    · split at q
      · rename_i hg
        simp only [Bool.and_eq_true] at hg
        split at q
        · rename_i k ek
          cases q
          obtain ⟨v, u, hm, r, hd⟩ := o.cs _ _ ek
          exact se_c (pe_glob (o.gl hg.1) hm r (notDbg_ok hg.2).1) hd
        · cases q
      · cases q
  · cases q; exact se_c pe_non fun _ _ => .non
  · cases q; exact se_c pe_bl fun _ _ => .bl _
  · cases q; exact se_c pe_int fun _ _ => .int _
  · cases q; exact se_c pe_str fun _ _ => .str _
  · split at q
    · rename_i hz
      split at q
      · rename_i fs ea; cases q; exact se_tup (denAs_ok h o ea) (small_sz hz)
      · cases q
    · cases q
  · split at q
    · rename_i hz
      split at q
      · rename_i fs ea; cases q; exact se_lst (denAs_ok h o ea) (small_sz hz)
      · cases q
    · cases q
  · split at q
    · rename_i e1 e2 e3; cases q; exact se_bin (binT_ok e1) (h.e o e2) (h.e o e3)
    · cases q
  · split at q
    · rename_i e1; cases q; exact se_un ub_neg (h.e o e1)
    · cases q
  · split at q
    · rename_i e1; cases q; exact se_not (h.e o e1)
    · cases q
  · exact se_one (h.e o q)
  · split at q
    · rename_i e1 e2; cases q; exact se_and (h.e o e1) (h.e o e2)
    · cases q
  · split at q
    · rename_i e1 e2; cases q; exact se_or (h.e o e1) (h.e o e2)
    · cases q
  · split at q
    · rename_i hm
      split at q
      · rename_i e1 e2 e3; cases q; exact se_cmp (cmpT_ok o.hu e1) (h.e o e2) (h.e o e3) hm
      · cases q
    · cases q
  · split at q
    · rename_i hm
      split at q
      · rename_i e1 e2 e3 e4 e5; cases q; exact se_chain (cmpT_ok o.hu e1) (cmpT_ok o.hu e2) (h.e o e3) (h.e o e4) (h.e o e5) hm
      · cases q
    · cases q
  · split at q
    · rename_i e1 e2 e3; cases q; exact se_if (h.t o e1) (h.e o e2) (h.e o e3)
    · cases q
  · split at q
    · rename_i e1 e2 e3; cases q; exact se_sl (h.e o e1) (denOpt_ok h o e2) (denOpt_ok h o e3)
    · cases q
  · split at q
    · rename_i e1; cases q; exact se_rev (h.e o e1)
    · cases q
  · split at q
    · rename_i hs
      split at q
      · rename_i e1 e2; cases q; exact se_ix ox_ix0 (h.e o e1) (h.e o e2) (plainIx_ok hs)
      · cases q
    · cases q
  · split at q
    · rename_i hx
      obtain ⟨rfl, rfl, b1, b2, _, b3⟩ := hx
      obtain ⟨g1, m1, _⟩ := bn_ok o b1
      obtain ⟨g2, m2, _⟩ := bn_ok o b2
      split at q
      · rename_i e1; cases q; exact se_lr o.calm g1 m1 g2 m2 (denAs_ok h o e1) b3
      · cases q
    · exact denCall_ok h o q
  · exact denCall_ok h o q
  · split at q
    · rename_i hc
      simp only [Bool.and_eq_true, decide_eq_true_eq] at hc
      obtain ⟨⟨⟨hb, hl⟩, hs⟩, hn⟩ := hc
      split at q
      · rename_i e1 e2 e3
        cases q
        exact meth_ok h o hb hl hs hn e1 e2 e3
      · cases q
    · cases q
  · exact denLc_ok h o q
  · cases q
theorem denW_ok (h : DnOk d dn) (o : XOk d c X) {ex : Expr} {f : Tst} (q : denW dn c ex = some f) : SW X ex f := by
  unfold denW at q
  split at q
  · rename_i op a p
    cases op with
    | And => exact sw_and1 (h.t o q)
    | Or => exact sw_or1 (h.t o q)
  · split at q
    · rename_i e1 e2; cases q; exact sw_and (h.t o e1) (h.w o e2)
    · cases q
  · split at q
    · rename_i e1 e2; cases q; exact sw_or (h.t o e1) (h.w o e2)
    · cases q
  · cases q
theorem denT_ok (h : DnOk d dn) (o : XOk d c X) {ex : Expr} {f : Tst} (q : denT dn c ex = some f) : ST X ex f := by
  unfold denT at q
  split at q
  · exact (h.w o q).st
  · split at q
    · rename_i e1; cases q; exact st_not (h.t o e1)
    · cases q
  · split at q
    · rename_i hm
      split at q
      · rename_i e1 e2 e3; cases q; exact st_cmp (cmpT_ok o.hu e1) (h.e o e2) (h.e o e3) hm
      · cases q
    · cases q
  · split at q
    · rename_i hm
      split at q
      · rename_i e1 e2 e3 e4 e5; cases q; exact st_chain (cmpT_ok o.hu e1) (cmpT_ok o.hu e2) (h.e o e3) (h.e o e4) (h.e o e5) hm
      · cases q
    · cases q
  · cases q
  · cases q
  · rename_i n1 n2 n3 n4 n5 n6
    split at q
    · rename_i e1
      cases q
      refine st_val (h.e o e1) fun whole => ?_
      cases ex with
      | BoolOp a b p => exact (n1 _ _ _ rfl).elim
      | UnaryOp op a p =>
        cases op with
        | Not => exact (n2 _ _ rfl).elim
        | _ => rfl
      | Compare a b cc p => exact (n5 _ _ _ _ rfl).elim
      | IfExp a b cc p => exact (n6 _ _ _ _ rfl).elim
      | _ => rfl
    · cases q
theorem any_ok (h : DnOk d dn) (o : XOk d c X) {tg ex : Expr} {f : ISrc} (q : (match dn.e c ex with
    | some f => some (iAny f)
    | none => none) = some f) : SI X tg ex f := by
  split at q
  · rename_i e1; cases q; exact si_any (h.e o e1)
  · cases q
theorem denI_ok (h : DnOk d dn) (o : XOk d c X) {tg ex : Expr} {f : ISrc} (q : denI dn c tg ex = some f) : SI X tg ex f := by
  unfold denI at q
  split at q
  · rename_i x p args pos
    split at q
    · rename_i hb
      simp only [Bool.and_eq_true] at hb
      obtain ⟨b1, b2, b3⟩ := bn_ok o hb.1
      by_cases hx : x = "range"
      · rw [if_pos hx] at q
        subst hx
        split at q
        · split at q
          · rename_i hs
            split at q
            · rename_i e1; cases q; exact si_rg1 b1 b2 (denAs_ok h o e1) hs
            · cases q
          · cases q
        · split at q
          · rename_i hs
            simp only [Bool.and_eq_true] at hs
            split at q
            · rename_i e1; cases q; exact si_rg2 b1 b2 (denAs_ok h o e1) hs.1 hs.2
            · cases q
          · cases q
        · cases q
      · rw [if_neg hx] at q
        by_cases hx : x = "enumerate"
        · rw [if_pos hx] at q
          subst hx
          split at q
          · split at q
            · rename_i hs
              split at q
              · rename_i e1; cases q; exact si_enum b1 b2 (h.e o e1) hs
              · cases q
            · cases q
          · cases q
        · rw [if_neg hx] at q
          exact any_ok h o q
    · exact any_ok h o q
  · exact any_ok h o q
theorem denG_ok (h : DnOk d dn) (o : XOk d c X) {ex : Expr} {t : Tgt} (q : denG dn c ex = some t) : SG X ex t ∧ SGv X ex t := by
  unfold denG at q
  split at q
  · split at q
    · rename_i hv
      simp only [Bool.and_eq_true] at hv
      split at q
      · rename_i i ei
        cases q
        obtain ⟨s1, s2⟩ := o.sto hv.1
        exact ⟨sg_nm o.nodup (o.ix ei) s1 s2, sgv_nm o.nodup (o.ix ei) s1 s2⟩
      · cases q
    · cases q
  · split at q
    · rename_i ts ea
      cases q
      obtain ⟨h1, h2, h3⟩ := denGs_ok h o ea
      exact ⟨sg_tp o.calm h1 h3 h2, sgv_tp o.calm h1 h2⟩
    · cases q
  · cases q
theorem dnN_ok (d : Nat) : ∀ n, DnOk d (dnN n)
  | 0 => by constructor <;> (intros; rename_i q; cases q)
  | n + 1 => by
    have h := dnN_ok d n
    constructor
    · exact fun o q => denE_ok h o q
    · exact fun o q => denT_ok h o q
    · exact fun o q => denW_ok h o q
    · exact fun o q => denI_ok h o q
    · exact fun o q => denG_ok h o q
end
end MP

/-! MPs: statements read as combinators. -/
namespace MP
open PySem PySem.Spec PyProof.Rows L2

/-- what swappedStores says of a tuple of targets and a tuple of values (none: not served) -/
def swNames (kind : Str → Option NameKind) (ts : List Expr) : List Str := ts.filterMap fun
    | .Name id pos => if kind id == some .local && pos.line == (ts.head?.map (·.pos.line)).getD 0 then some id else none
    | _ => none
def swP (kind : Str → Option NameKind) (ts vs : List Expr) : Option (Option (List Str)) :=
  if !(ts.length == 2 || ts.length == 3) || vs.length != ts.length then some none
  else if vs.any (fun | .Starred .. => true | _ => false) then some none
  else if (swNames kind ts).length != ts.length || (swNames kind ts).eraseDups.length != (swNames kind ts).length then some none
  else if vs.all (foldedForSure 8) then some none
  else if vs.all (constantsAlone 8) then none
  else some (some (swNames kind ts))
theorem swP_ok {env : Env} (hb : env.blockKind = .function) {ts vs : List Expr} {k k2 : Nat} {p p2 : Pos} {r : Option (List Str)} (h : swP env.kindOf ts vs = some r) : swappedStores [.Tuple ts k p] (.Tuple vs k2 p2) env = pure r := by
  unfold swP at h
  unfold swappedStores
  simp only [hb, bne_self_eq_false, Bool.or_false]
  by_cases h1 : (!(ts.length == 2 || ts.length == 3) || vs.length != ts.length) = true
  · rw [if_pos h1] at h ⊢; cases h; rfl
  rw [if_neg h1] at h ⊢
  by_cases h2 : (vs.any (fun | .Starred .. => true | _ => false)) = true
  · rw [if_pos h2] at h; rw [if_pos (by exact h2)]; cases h; rfl
  rw [if_neg h2] at h; rw [if_neg (by exact h2)]
  by_cases h3 : ((swNames env.kindOf ts).length != ts.length || (swNames env.kindOf ts).eraseDups.length != (swNames env.kindOf ts).length) = true
  · rw [if_pos h3] at h; rw [if_pos (by exact h3)]; cases h; rfl
  rw [if_neg h3] at h; rw [if_neg (by exact h3)]
  by_cases h4 : vs.all (foldedForSure 8) = true
  · rw [if_pos h4] at h ⊢; cases h; rfl
  rw [if_neg h4] at h ⊢
  by_cases h5 : vs.all (constantsAlone 8) = true
  · rw [if_pos h5] at h; cases h
  rw [if_neg h5] at h ⊢
  cases h; rfl

def isComp : Expr → Bool
  | .ListComp .. => true
  | .SetComp .. => true
  | .DictComp .. => true
  | _ => false
theorem sw_false {e : Expr} (h : isComp e = false) (t : Option Expr) (l : Nat) (env : Env) : swapsWith e t l env = pure false := by
  cases e <;> first | rfl | cases h
def isTup : Expr → Bool
  | .Tuple .. => true
  | _ => false
theorem sws_tup {e : Expr} (h : isTup e = false) {ts : List Expr} {k : Nat} {p : Pos} {env : Env} : swappedStores [.Tuple ts k p] e env = pure none := by
  cases e <;> first | rfl | cases h
theorem sws_false {e : Expr} (h : isComp e = false) (t : Expr) (l : Nat) (env : Env) : swapsWithSole [t] e l env = pure false := sw_false h _ _ _
theorem sws_sub {o i : Expr} {p : Pos} {e : Expr} {env : Env} : swappedStores [.Subscript o i p] e env = pure none := by
  cases e <;> rfl
def augAdd : Op2 := fun u v h => match u, v with
  | .d (.int i), .d (.int j) => some (.d (.int (i + j)), h)
  | _, _ => none
def augSub : Op2 := fun u v h => match u, v with
  | .d (.int i), .d (.int j) => some (.d (.int (i - j)), h)
  | _, _ => none
def augT : Operator → Option Op2
  | .Add => some augAdd
  | .Sub => some augSub
  | _ => none
theorem augT_ok {X : Cx} {op : Operator} {f : Op2} (h : augT op = some f) : PIp X op (rOp X.K f) := by
  cases op <;> first | cases h
  · rintro pins s σ H x y v u Q I rx ry ⟨S, h, a, b, hr, vx, vy, w, h', e, q⟩
    unfold augAdd at e
    split at e
    · cases e; cases vx; cases vy
      exact ip_add pins s σ H _ _ v u Q I rx ry ⟨_, _, rfl, rfl, q S _ H (.refl _ _) hr (Df.int _)⟩
    · cases e
  · rintro pins s σ H x y v u Q I rx ry ⟨S, h, a, b, hr, vx, vy, w, h', e, q⟩
    unfold augSub at e
    split at e
    · cases e; cases vx; cases vy
      exact ip_sub pins s σ H _ _ v u Q I rx ry ⟨_, _, rfl, rfl, q S _ H (.refl _ _) hr (Df.int _)⟩
    · cases e
def denLs (f : Stmt → Option Stm) : List Stmt → Option Stm
  | [] => some sNil
  | s :: r => match f s, denLs f r with
    | some a, some b => some (sSeq a b)
    | _, _ => none
def denSet (dn : Dn) (c : Ct) (y : Str) (py : Pos) (e : Expr) : Option Stm :=
  if c.sto y && notDbg y then match ixOf c.N y with
    | none => none
    | some i => if isComp e then match e with
        | .ListComp elt gs scope p => if c.names.lookup y = some .local && (py.line == p.line) && !(scope.names.any fun (n, k) => n == y && (k == .local || k == .cell)) then
            match denLc dn c elt gs scope (c.mu p) with
            | some f => some (sAsg f (.nm i))
            | none => none
          else none
        | _ => none
      else match dn.e c e with
        | some f => some (sAsg f (.nm i))
        | none => none
  else none
def locIx (c : Ct) (x : Str) : Option Nat := if c.names.lookup x = some .local then ixOf c.N x else none
def denPar (dn : Dn) (c : Ct) (ts vs : List Expr) : Option Stm := match ts, vs with
  | [.Name x _, .Name y _], [a, b] => (match locIx c x, locIx c y, denAs (dn.e c) [a, b] with
    | some i, some j, some fs => if i ≠ j then some (sPar fs [i, j]) else none
    | _, _, _ => none)
  | [.Name x _, .Name y _, .Name z _], [a, b, e] => (match locIx c x, locIx c y, locIx c z, denAs (dn.e c) [a, b, e] with
    | some i, some j, some l, some fs => if i ≠ j ∧ i ≠ l ∧ j ≠ l then some (sPar fs [i, j, l]) else none
    | _, _, _, _ => none)
  | _, _ => none
def denTupA (dn : Dn) (c : Ct) (ts : List Expr) (k : Nat) (p : Pos) (e : Expr) : Option Stm := match dn.e c e, dn.g c (.Tuple ts k p) with
  | some f, some t => some (sAsg f t)
  | _, _ => none
def denAsg (dn : Dn) (c : Ct) (tg e : Expr) : Option Stm := match tg with
  | .Name y py => denSet dn c y py e
  | .Tuple ts k p => if isComp e then none else match e with
    | .Tuple vs k2 p2 => (match swP (fun x => c.names.lookup x) ts vs with
      | some none => denTupA dn c ts k p (.Tuple vs k2 p2)
      | some (some _) => denPar dn c ts vs
      | none => none)
    | e => denTupA dn c ts k p e
  | .Subscript o i _ => if isComp e then none else if notSlice i then match dn.e c e, dn.e c o, dn.e c i with
      | some f, some fo, some fi => some (sSub opSet0 f fo fi)
      | _, _, _ => none
    else none
  | _ => none
def denS (dn : Dn) (rec : List Stmt → Option Stm) (c : Ct) : Stmt → Option Stm
  | .Assign [tg] e _ => denAsg dn c tg e
  | .AugAssign (.Name x _) op e _ => if c.sto x && notDbg x then match ixOf c.N x, augT op, dn.e c e with
      | some i, some o, some f => some (sAug o i f)
      | _, _, _ => none
    else none
  | .Expr (.Constant (.str _) _ _) _ => some sNil
  | .Expr e _ => if isComp e then none else match dn.e c e with
      | some f => some (sDrop f)
      | none => none
  | .Return (some e) _ => match dn.e c e with
      | some f => some (sRet f)
      | none => none
  | .Return none _ => some (sRet (eD .none))
  | .If t a b _ => match dn.t c t, rec a, rec b with
      | some ft, some fa, some fb => some (sIf ft fa fb)
      | _, _, _ => none
  | .For tg it a b _ => if notSet it then match dn.i c tg it, dn.g c tg, rec a, rec b with
      | some src, some t, some fa, some fb => some (sFor src t fa fb)
      | _, _, _, _ => none
    else none
  | .While t a b _ => match dn.t c t, rec a, rec b with
      | some ft, some fa, some fb => some (sWhile ft fa fb)
      | _, _, _ => none
  | .Break _ => some sBrk
  | .Continue _ => some sCnt
  | .Pass _ => some sNil
  | .Raise .. => some sNo
  | _ => none
def denB (dn : Dn) (c : Ct) : Nat → List Stmt → Option Stm
  | 0, _ => none
  | n + 1, l => denLs (denS dn (denB dn c n) c) l

section
variable {d : Nat} {dn : Dn} {c : Ct} {X : Cx}
theorem setLc_ok (h : DnOk d dn) (o : XOk d c X) {elt : Expr} {gs : List Comprehension} {scope : Scope} {m : Bool} {f : Exp} {pos spos py : Pos} {i : Nat} {y : Str} (hi : ixOf c.N y = some i) (hy : c.names.lookup y = some .local)
    (hl : (py.line == pos.line) = true) (ha : (scope.names.any fun (n, k) => n == y && (k == .local || k == .cell)) = false) (q : denLc dn c elt gs scope m = some f) : SS X (.Assign [.Name y py] (.ListComp elt gs scope pos) spos) (sAsg f (.nm i)) := by
  have hyl : X.env.scope.names.lookup y = some .local := by rw [o.nm]; exact hy
  have hsw : ∀ gs, swapsWith (.ListComp elt gs scope pos) (some (.Name y py)) spos.line X.env = pure true := fun gs => sw_true o.kind hyl hl ha
  unfold denLc at q
  simp only at q
  split at q
  · rename_i hb
    have ok := o.blkOk hb
    have hk := ok.kind
    split at q
    · rename_i tg it ifs
      split at q
      · rename_i hn
        split at q
        · rename_i src t ts f2 e1 e2 e3 e4
          split at q
          · rename_i hix
            cases q
            exact ss_setLc o.calm o.nodup (o.ix hi) hyl (hsw _) (h.i o e1) ok (fun s H C cl fp => (h.g (o.blk s H scope hk C cl fp) e2).1) (fun s H C cl fp => denIfs_ok h (o.blk s H scope hk C cl fp) e3) (fun s H C cl fp => h.e (o.blk s H scope hk C cl fp) e4) (all_mem hix) (notSet_ok hn X.env)
          · cases q
        · cases q
      · cases q
    · rename_i tg it ifs tg1 it1 ifs1
      split at q
      · rename_i hn
        simp only [Bool.and_eq_true] at hn
        split at q
        · rename_i src t ts e1 e2 e3
          split at q
          · rename_i src1 t1 ts1 f2 e4 e5 e6 e7
            split at q
            · rename_i hix
              simp only [Bool.and_eq_true] at hix
              cases q
              exact ss_setLc2 o.calm o.nodup (o.ix hi) hyl (hsw _) (h.i o e1) ok (all_mem hix.2) (fun s H C cl fp => (h.g (o.blk s H scope hk C cl fp) e2).1) (fun s H C cl fp => denIfs_ok h (o.blk s H scope hk C cl fp) e3)
                (fun s H C cl fp => h.i (o.blk s H scope hk C cl fp) e4) (fun s H C cl fp => (h.g (o.blk s H scope hk C cl fp) e5).1) (fun s H C cl fp => denIfs_ok h (o.blk s H scope hk C cl fp) e6)
                (fun s H C cl fp => h.e (o.blk s H scope hk C cl fp) e7) (all_mem hix.1) (fun i z => z) (notSet_ok hn.1 X.env) (fun env => notSet_ok hn.2 env)
            · cases q
          · cases q
        · cases q
      · cases q
    · cases q
  · cases q
theorem denSet_ok (h : DnOk d dn) (o : XOk d c X) {y : Str} {py spos : Pos} {e : Expr} {f : Stm} (q : denSet dn c y py e = some f) : SS X (.Assign [.Name y py] e spos) f := by
  unfold denSet at q
  split at q
  · rename_i hs
    simp only [Bool.and_eq_true] at hs
    obtain ⟨s1, s2⟩ := o.sto hs.1
    split at q
    · cases q
    · rename_i i ei
      split at q
      · rename_i hc
        split at q
        · rename_i elt gs scope p
          split at q
          · rename_i hq
            simp only [Bool.and_eq_true, decide_eq_true_eq, Bool.not_eq_true'] at hq
            split at q
            · rename_i ff ef
              cases q
              exact setLc_ok h o ei hq.1.1 hq.1.2 hq.2 ef
            · cases q
          · cases q
        · cases q
      · rename_i hc
        split at q
        · rename_i ff ef
          cases q
          exact ss_set o.nodup (o.ix ei) s1 (h.e o ef) (sw_false (by simpa using hc) _ _ _) s2
        · cases q
  · cases q
theorem locIx_ok (o : XOk d c X) {x : Str} {i : Nat} (q : locIx c x = some i) : X.env.scope.names.lookup x = some .local ∧ X.N[i]? = some x := by
  unfold locIx at q
  split at q
  · rename_i e; exact ⟨by rw [o.nm]; exact e, o.ix q⟩
  · cases q
theorem swNames2 {kind : Str → Option NameKind} {ts : List Expr} {x y : Str} {px py : Pos} {ns : List Str} {vs : List Expr} (e : ts = [.Name x px, .Name y py]) (h : swP kind ts vs = some (some ns)) : ns = [x, y] := by
  subst e
  unfold swP at h
  split at h
  · cases h
  split at h
  · cases h
  split at h
  · cases h
  rename_i hn
  split at h
  · cases h
  split at h
  · cases h
  cases h
  simp only [Bool.or_eq_true, not_or] at hn
  have hl := hn.1
  unfold swNames at hl ⊢
  simp only [List.filterMap_cons, List.filterMap_nil] at hl ⊢
  split at hl <;> split at hl <;> simp_all
theorem swNames3 {kind : Str → Option NameKind} {ts : List Expr} {x y z : Str} {px py pz : Pos} {ns : List Str} {vs : List Expr} (e : ts = [.Name x px, .Name y py, .Name z pz]) (h : swP kind ts vs = some (some ns)) : ns = [x, y, z] := by
  subst e
  unfold swP at h
  split at h
  · cases h
  split at h
  · cases h
  split at h
  · cases h
  rename_i hn
  split at h
  · cases h
  split at h
  · cases h
  cases h
  simp only [Bool.or_eq_true, not_or] at hn
  have hl := hn.1
  unfold swNames at hl ⊢
  simp only [List.filterMap_cons, List.filterMap_nil] at hl ⊢
  split at hl <;> split at hl <;> split at hl <;> simp_all
theorem denAsg_ok (h : DnOk d dn) (o : XOk d c X) {tg e : Expr} {pos : Pos} {f : Stm} (q : denAsg dn c tg e = some f) : SS X (.Assign [tg] e pos) f := by
  have hb : X.env.blockKind = .function := by unfold Env.blockKind; rw [o.kind]; rfl
  have hk : X.env.kindOf = fun x => c.names.lookup x := by funext x; unfold Env.kindOf; rw [o.nm]
  unfold denAsg at q
  split at q
  · exact denSet_ok h o q
  · rename_i ts k p
    split at q
    · cases q
    · rename_i hc
      have hsw : ∀ t, swapsWithSole [t] e pos.line X.env = pure false := fun t => sws_false (by simpa using hc) _ _ _
      have gen : swappedStores [.Tuple ts k p] e X.env = pure none → denTupA dn c ts k p e = some f → SS X (.Assign [.Tuple ts k p] e pos) f := by
        intro hw q
        unfold denTupA at q
        split at q
        · rename_i ff t e1 e2
          cases q
          exact ss_asg (h.e o e1) (h.g o e2).2 (hsw _) hw rfl
        · cases q
      split at q
      · rename_i vs k2 p2
        split at q
        · rename_i es
          exact gen (swP_ok hb (by rw [hk]; exact es)) q
        · rename_i ns es
          have hw := swP_ok (env := X.env) (k := k) (k2 := k2) (p := p) (p2 := p2) hb (by rw [hk]; exact es)
          unfold denPar at q
          split at q
          · rename_i x px y py a b
            have en := swNames2 rfl es
            subst en
            split at q
            · rename_i i j fs e1 e2 e3
              split at q
              · rename_i hij
                cases q
                obtain ⟨l1, i1⟩ := locIx_ok o e1
                obtain ⟨l2, i2⟩ := locIx_ok o e2
                exact ss_par o.calm o.nodup i1 i2 hij l1 l2 (denAs_ok h o e3) hw
              · cases q
            · cases q
          · rename_i x px y py z pz a b e3
            have en := swNames3 rfl es
            subst en
            split at q
            · rename_i i j l fs e1 e2 e3 e4
              split at q
              · rename_i hij
                cases q
                obtain ⟨l1, i1⟩ := locIx_ok o e1
                obtain ⟨l2, i2⟩ := locIx_ok o e2
                obtain ⟨l3, i3⟩ := locIx_ok o e3
                exact ss_par3 o.calm o.nodup i1 i2 i3 hij.1 hij.2.1 hij.2.2 l1 l2 l3 (denAs_ok h o e4) hw
              · cases q
            · cases q
          · cases q
        · cases q
      · rename_i hn
        refine gen (sws_tup ?_) q
        cases e <;> first | rfl | exact (hn _ _ _ rfl).elim
  · rename_i ob i tpos
    split at q
    · cases q
    · rename_i hc
      split at q
      · rename_i hs
        split at q
        · rename_i ff fo fi e1 e2 e3
          cases q
          refine ss_sub st_set0 (h.e o e1) (h.e o e2) (h.e o e3) (fun v => ?_) (sws_false (by simpa using hc) _ _ _) sws_sub
          cases i <;> first | rfl | cases hs
        · cases q
      · cases q
  · cases q
theorem denS_ok (h : DnOk d dn) (o : XOk d c X) {rec : List Stmt → Option Stm} (hrec : ∀ {l f}, rec l = some f → SSs X l f) {st : Stmt} {f : Stm} (q : denS dn rec c st = some f) : SS X st f := by
  unfold denS at q
  split at q
  · exact denAsg_ok h o q
  · split at q
    · rename_i hs
      simp only [Bool.and_eq_true] at hs
      obtain ⟨s1, s2⟩ := o.sto hs.1
      split at q
      · rename_i e1 e2 e3
        cases q
        exact ss_aug o.nodup (o.ix e1) s1 (h.e o e3) (augT_ok e2) s2
      · cases q
    · cases q
  · cases q; exact ss_doc
  · split at q
    · cases q
    · rename_i hc
      split at q
      · rename_i e1; cases q; exact ss_expr (h.e o e1) (sw_false (by simpa using hc) _ _ _)
      · cases q
  · split at q
    · rename_i e1; cases q; exact ss_ret (h.e o e1)
    · cases q
  · cases q; exact ss_retN
  · split at q
    · rename_i e1 e2 e3; cases q; exact ss_if (h.t o e1) (hrec e2) (hrec e3)
    · cases q
  · split at q
    · rename_i hn
      split at q
      · rename_i e1 e2 e3 e4; cases q; exact ss_for o.pass o.calm (h.i o e1) (h.g o e2).1 (hrec e3) (hrec e4) (notSet_ok hn X.env)
      · cases q
    · cases q
  · split at q
    · rename_i e1 e2 e3; cases q; exact ss_while o.pass (h.t o e1) (hrec e2) (hrec e3)
    · cases q
  · cases q; exact ss_break
  · cases q; exact ss_cont
  · cases q; exact ss_pass
  · cases q; exact ss_no
  · cases q
theorem denLs_ok {g : Stmt → Option Stm} (hg : ∀ {st f}, g st = some f → SS X st f) : ∀ {l : List Stmt} {f : Stm}, denLs g l = some f → SSs X l f
  | [], f, q => by cases q; exact sss_nil
  | s :: r, f, q => by
    unfold denLs at q
    split at q
    · rename_i e1 e2; cases q; exact sss_cons (hg e1) (denLs_ok hg e2)
    · cases q
theorem denB_ok (h : DnOk d dn) (o : XOk d c X) : ∀ (n : Nat) {l : List Stmt} {f : Stm}, denB dn c n l = some f → SSs X l f
  | 0, _, _, q => by cases q
  | n + 1, l, f, q => denLs_ok (fun q => denS_ok h o (fun q => denB_ok h o n q) q) q
end
end MP

/-! MPt: defs; the law's head. -/
namespace MP
open PySem PySem.Spec PyProof.Rows L2

def startE (N : Nat) (vs : List Val) : Ev := vs.map some ++ List.replicate (N - vs.length) none
/-- a def that keeps to itself: its arguments are read as data, its value is handed back as data -/
def callP (N : Nat) (body : Stm) : OpN := fun vs h => match frzL (frz 8) vs h with
  | none => none
  | some (ds, h1) => match body (startE N (ds.map .d)) [] with
    | some (.rt v, _, h2) => match frz 8 v h2 with
      | some (x, _) => some (.d x, h1)
      | none => none
    | some (.nx, _, _) => some (.d .none, h1)
    | _ => none
/-- a def that works on its caller's heap -/
def callS (N : Nat) (body : Stm) : OpN := fun vs h => match body (startE N vs) h with
  | some (.rt v, _, h2) => some (v, h2)
  | some (.nx, _, h2) => some (.d .none, h2)
  | _ => none
def callF (pu : Bool) (N : Nat) (body : Stm) : OpN := match pu with
  | true => callP N body
  | false => callS N body
section
variable {K : PySem.W.Frag}
theorem ds_vrs {H : Hp} {S : Sg} : ∀ {ds : List D} {xs : List V}, DfA K H S xs ds → VRs K H S xs (ds.map .d)
  | [], _, h => by cases h; exact .nil
  | _ :: _, _, h => by cases h with | cons a b => exact .cons a (ds_vrs b)
theorem pair_some {H : Hp} {S : Sg} : ∀ {vs : List V} {us : List Val} {i : Nat} {v : Val} {n m : Nat}, VRs K H S vs us → (us.map some ++ List.replicate n none)[i]? = some (some v) → ∃ x, (vs.map some ++ List.replicate m none)[i]? = some (some x) ∧ VR K H S x v := by
  intro vs us i v n m r q
  by_cases hi : i < us.length
  · rw [List.getElem?_append_left (by simpa using hi), List.getElem?_map, List.getElem?_eq_getElem hi] at q
    obtain ⟨x, e1, e2⟩ := paired_at r (List.getElem?_eq_getElem hi)
    refine ⟨x, ?_, ?_⟩
    · have hx := (List.getElem?_eq_some_iff.mp e1).1
      rw [List.getElem?_append_left (by simpa using hx), List.getElem?_map, e1]; rfl
    · cases q; exact e2
  · rw [List.getElem?_append_right (by simpa using hi)] at q
    rw [List.getElem?_replicate] at q
    split at q <;> cases q
theorem SR.begin0 {H : Hp} {S : Sg} {h : Hh} {vs : List V} {us : List Val} {N : List Str} (hr : HR K H S h) (r : VRs K H S vs us) : SR K S (L2.start N vs) H (startE N.length us) h := by
  have hl := paired_len r
  refine ⟨hr, fun i v q => ?_, ?_⟩
  · unfold startE at q
    unfold L2.start
    exact pair_some r q
  · unfold L2.start startE
    simp [hl]
/-- the callee's own sight -/
theorem HR.own {H : Hp} {S : Sg} {h : Hh} (hr : HR K H S h) : HR K H ⟨S.live, []⟩ [] := by
  refine ⟨rfl, fun i j a b h => by simp at h, fun a z => ⟨?_, by simp⟩, fun a z => by simp at z, fun n o q => by simp at q⟩
  rcases z with z | z
  · exact (hr.ff a z).1
  · exact hr.lv a z
theorem live_own {S : Sg} {a : Addr} : (Sg.mk S.live []).live a ↔ S.live a := ⟨fun z => z.elim id fun z => by simp at z, fun z => .inl z⟩
theorem callP_ok {N : List Str} {body : Stm} {S : Sg} {H : Hp} {h : Hh} {vs : List V} {us : List Val} {Q : VK} (hr : HR K H S h) (r : VRs K H S vs us) (g : Gv K S H (callP N.length body us h) Q) :
    tSt K body { nx := fun _ H' => Q .non H', rt := Q } (L2.start N vs) H := by
  obtain ⟨v, h', e, q⟩ := g
  unfold callP at e
  split at e
  · cases e
  · rename_i ds h1 e1
    obtain ⟨S1, x1, r1, d1⟩ := frzL_ok (frz_ok 8) us h ds h1 e1 S vs hr r
    have dd : VRs K H ⟨S1.live, []⟩ vs (ds.map .d) := by
      have d2 : DfA K H ⟨S1.live, []⟩ vs ds := d1.mono fun a o q n => ⟨q, fun z => n (live_own.mp z)⟩
      exact ds_vrs d2
    have fin : ∀ S2 H2, Ext ⟨S1.live, []⟩ H S2 H2 → Ext S1 H S1 H2 ∧ HR K H2 S1 h1 := by
      intro S2 H2 x2
      have kp : ∀ a o, H a = some o → H2 a = some o := fun a o q => (x2.keep a o q (by simp)).1
      have nn : ∀ a, H a ≠ none → H2 a ≠ none := fun a z => by
        cases ha : H a with
        | none => exact (z ha).elim
        | some o => rw [kp a o ha]; exact fun z => by cases z
      have ex : Ext S1 H S1 H2 := ⟨rfl, fun _ _ b q => ⟨b, q⟩, fun a o q n => ⟨kp a o q, n⟩⟩
      refine ⟨ex, r1.len, r1.nd, fun a z => ⟨nn a (r1.ff a z).1, (r1.ff a z).2⟩, fun a z => nn a (r1.lv a z), fun n o q => (r1.ob n o q).ext ex (fun a z => ⟨z, ?_⟩) fun a z => ⟨z, nn a⟩⟩
      cases ha : H a with
      | none => exact (r1.lv a (List.mem_of_getElem? z) ha).elim
      | some o => exact kp a o ha
    split at e
    · rename_i w e2 h2 eb
      split at e
      · rename_i y h3 ef
        cases e
        refine ⟨⟨S1.live, []⟩, startE N.length (ds.map .d), [], .rt w, e2, h2, SR.begin0 r1.own dd, eb, fun S2 x H2 x2 r2 v2 => ?_⟩
        obtain ⟨S3, x3, r3, d3⟩ := frz_ok 8 w h2 _ _ ef S2 x r2 v2
        obtain ⟨f1, f2⟩ := fin S3 H2 (x2.trans x3)
        refine q S1 x H2 (x1.trans f1) f2 ?_
        refine Df.mono (fun a o q n => ⟨q, fun z => n (.inl ?_)⟩) d3
        rw [x3.F, x2.F]; exact z
      · cases e
    · rename_i e2 h2 eb
      cases e
      refine ⟨⟨S1.live, []⟩, startE N.length (ds.map .d), [], .nx, e2, h2, SR.begin0 r1.own dd, eb, fun S2 σ2 H2 x2 r2 => ?_⟩
      obtain ⟨f1, f2⟩ := fin S2 H2 x2
      exact q S1 _ H2 (x1.trans f1) f2 Df.non
    · cases e
theorem callS_ok {N : List Str} {body : Stm} {S : Sg} {H : Hp} {h : Hh} {vs : List V} {us : List Val} {Q : VK} (hr : HR K H S h) (r : VRs K H S vs us) (g : Gv K S H (callS N.length body us h) Q) :
    tSt K body { nx := fun _ H' => Q .non H', rt := Q } (L2.start N vs) H := by
  obtain ⟨v, h', e, q⟩ := g
  unfold callS at e
  split at e
  · rename_i w e2 h2 eb
    cases e
    exact ⟨S, _, h, .rt v, e2, _, SR.begin0 hr r, eb, fun S2 x H2 x2 r2 v2 => q S2 x H2 x2 r2 v2⟩
  · rename_i e2 h2 eb
    cases e
    exact ⟨S, _, h, .nx, e2, _, SR.begin0 hr r, eb, fun S2 σ2 H2 x2 r2 => q S2 _ H2 x2 r2.hr Df.non⟩
  · cases e
end

/-! ### the table of defs -/
structure FI where
  nm : Str
  st : Stmt
  N : List Str
  n : Nat
  pu : Bool
  body : FE → Stm
def runP (P : List FI) : Nat → FE
  | 0 => fun _ _ _ => none
  | k + 1 => fun i => match P[i]? with
    | none => fun _ _ => none
    | some fi => callF fi.pu fi.N.length (fi.body (runP P k))
def fsOf : List FI → FE → Nat → Str → Option (Nat × OpN)
  | [], _, _, _ => none
  | fi :: r, F, i, x => if fi.nm = x then some (fi.n, F i) else fsOf r F (i + 1) x
theorem fsOf_ok {F : FE} {x : Str} {n : Nat} {Φ : OpN} : ∀ {P : List FI} {i : Nat}, fsOf P F i x = some (n, Φ) → ∃ j fi, P[j]? = some fi ∧ fi.nm = x ∧ n = fi.n ∧ Φ = F (i + j)
  | [], _, h => by cases h
  | fi :: r, i, h => by
    unfold fsOf at h
    split at h
    · rename_i e; cases h; exact ⟨0, fi, rfl, e, rfl, rfl⟩
    · obtain ⟨j, gi, h1, h2, h3, h4⟩ := fsOf_ok h
      exact ⟨j + 1, gi, by simpa using h1, h2, h3, by rw [h4]; congr 1; omega⟩
structure PI where
  P : List FI
  bl : List Str
  cs : Str → Option D
  mu : Pos → Bool
def PI.ct (p : PI) (F : FE) (fi : FI) : Ct := { N := fi.N, names := (defScope fi.st).names, fn := fun _ => true, fs := fsOf p.P F 0, bl := p.bl, cs := p.cs, mu := p.mu }
structure PI.Ok (p : PI) (K : PySem.W.Frag) (mg : Str → Option Value) : Prop where
  den : ∀ fi ∈ p.P, ∀ F, denB (dnN 60) (p.ct F fi) 60 (defBody fi.st) = some (fi.body F)
  sc : ∀ fi ∈ p.P, FnScope fi.N (fi.N.take fi.n) (defScope fi.st) ∧ (fi.N.take fi.n).length = fi.n
  fn : ∀ fi ∈ p.P, ∃ f fd, mg fi.nm = some (.ref f) ∧ Fun K fi.nm fi.nm fi.st f fd ∧ Binds K fd (fi.N.take fi.n) []
  bl : ∀ x, p.bl.contains x = true → mg x = none
  cs : ∀ x k, p.cs x = some k → ∃ v u, mg x = some u ∧ RelV v u ∧ ∀ H S, Df K H S v k
section
variable {P : Program} {w : World} {K : PySem.W.Frag} {mg : Str → Option Value} {base : Heap} {p : PI}
theorem run_ok (ok : p.Ok K mg) : ∀ (k i : Nat) (fi : FI) (f : Addr) (fd : FuncData), p.P[i]? = some fi → Fun K fi.nm fi.nm fi.st f fd → FnOk P w K mg base CX0 k f fd (fi.N.take fi.n) (spF K fi.n (runP p.P k i)) := by
  intro k
  induction k with
  | zero =>
    intro i fi f fd hi F
    refine ⟨fun vs H Q E h => ?_, fun A outer s H args us vs Q E hr he hb hv h => ?_⟩
    · obtain ⟨S, h, us, hr, r, hl, g⟩ := h
      obtain ⟨v, h', e, q⟩ := g
      cases e
    · obtain ⟨S, h, us, hr, r, hl, g⟩ := h
      obtain ⟨v, h', e, q⟩ := g
      cases e
  | succ k ih =>
    intro i fi f fd hi F
    have hm := List.mem_of_getElem? hi
    obtain ⟨sc, sl⟩ := ok.sc fi hm
    refine F.ok sc (fun vs H Q E h => ?_) (fun cdv A outer s H vs Q E hr h => ?_)
    · obtain ⟨S, h, us, hr, r, hl, g⟩ := h
      rw [sl, ← hl, paired_len r]
    · have hd := ok.den fi hm (runP p.P k)
      have xo : XOk k (p.ct (runP p.P k) fi) (cxOf CX0 P w K mg base fi.N fi.nm (defScope fi.st) f cdv A outer s H E).nox := {
        N := rfl
        nd := sc.nd
        kind := sc.kind
        nm := rfl
        fn := rfl
        calm := rfl
        pass := PassesOwn.never
        room := hr
        fs := fun x n Φ hx => by
          obtain ⟨j, gi, h1, h2, h3, h4⟩ := fsOf_ok hx
          obtain ⟨f', fd', m1, m2, m3⟩ := ok.fn gi (List.mem_of_getElem? h1)
          rw [Nat.zero_add] at h4
          subst h2 h3 h4
          exact ⟨f', fd', _, m1, m2.kp, m3, ih j gi f' fd' h1 m2⟩
        bl := ok.bl
        cs := ok.cs }
      refine ⟨_, denB_ok (dnN_ok k 60) xo 60 hd, ?_⟩
      obtain ⟨S, h, us, hr', r, hl, g⟩ := h
      have er : runP p.P (k + 1) i = callF fi.pu fi.N.length (fi.body (runP p.P k)) := by
        show (match p.P[i]? with
          | none => fun _ _ => none
          | some fi => callF fi.pu fi.N.length (fi.body (runP p.P k))) = _
        rw [hi]
      rw [er] at g
      cases hp : fi.pu with
      | true => rw [hp] at g; exact callP_ok hr' r g
      | false => rw [hp] at g; exact callS_ok hr' r g
/-- the law's promise from its run -/
theorem law_sp {i k : Nat} {H : Hp} {a : Addr} {ns : List Int} (hO : Only H) (hS : SqL K H a (ns.map V.int)) (hrun : ∃ h', runP p.P k i [.scr ns] [] = some (.d (.bool true), h')) : spF K 1 (runP p.P k i) [.ref a] H (fun v _ => v = .bl true) fun _ _ _ => False := by
  obtain ⟨h', e⟩ := hrun
  refine ⟨⟨fun _ => False, []⟩, [], [.scr ns], ⟨rfl, fun i j a b h => by simp at h, fun a z => z.elim, fun a z => by simp at z, fun n o q => by simp at q⟩, .cons ⟨a, rfl, ?_⟩ .nil, rfl, _, h', e, fun S' x H' _ _ v => by cases v; rfl⟩
  have nl : ¬ (Sg.mk (fun _ => False) []).live a := fun z => z.elim id fun z => by simp at z
  rcases hS with (h | ⟨o, h⟩) | h
  · rcases hO a with z | ⟨o, xs, z⟩
    · rw [z] at h; cases h
    · rw [z] at h; cases h
  · exact .inl ⟨o, h, nl⟩
  · exact .inr h
end
def eMthL (op : OpM) (fo : Exp) (fs : Exps) : Exp := eMeth (fun T => if T = "list" then some op else none) fo fs
theorem all_nil {α : Type} {p : α → Prop} : ∀ x ∈ ([] : List α), p x := fun x h => by cases h
theorem all_cons {α : Type} {p : α → Prop} {a : α} {l : List α} (h : p a) (t : ∀ x ∈ l, p x) : ∀ x ∈ a :: l, p x := fun x hx => by
  rcases List.mem_cons.mp hx with rfl | hx
  · exact h
  · exact t x hx
theorem con_nil {mg : Str → Option Value} : ∀ x, ([] : List Str).contains x = true → mg x = none := fun x h => by cases h
theorem con_cons {mg : Str → Option Value} {a : Str} {l : List Str} (h : mg a = none) (t : ∀ x, l.contains x = true → mg x = none) : ∀ x, (a :: l).contains x = true → mg x = none := fun x hx => by
  rw [List.contains_cons, Bool.or_eq_true] at hx
  rcases hx with hx | hx
  · rw [eq_of_beq hx]; exact h
  · exact t x hx
end MP

/-! MPu: tools for the plain part: the combinators as rules for simp. -/
namespace MP
open PySem PySem.Spec L2

section
variable {e : Ev} {h : Hh} {fa fb fc : Exp} {fs : Exps} {i : Nat} {t t2 : Tst} {op o1 o2 : Op2} {opn : OpN} {a b : Stm}
@[simp] theorem eVar_s : eVar i e h = (match e[i]? with
  | some (some v) => some (v, h)
  | _ => none) := id rfl
@[simp] theorem eD_s {x : D} : eD x e h = some (.d x, h) := id rfl
@[simp] theorem eBin_s : eBin op fa fb e h = (match fa e h with
  | none => none
  | some (u, h1) => match fb e h1 with
    | none => none
    | some (v, h2) => op u v h2) := id rfl
@[simp] theorem eUn_s {f : Val → Hh → Option (Val × Hh)} : eUn f fa e h = (match fa e h with
  | none => none
  | some (u, h1) => f u h1) := id rfl
@[simp] theorem eArgs_s : eArgs opn fs e h = (match fs e h with
  | none => none
  | some (vs, h1) => opn vs h1) := id rfl
@[simp] theorem aNil_s : aNil e h = some ([], h) := id rfl
@[simp] theorem aCons_s : aCons fa fs e h = (match fa e h with
  | none => none
  | some (v, h1) => match fs e h1 with
    | none => none
    | some (vs, h2) => some (v :: vs, h2)) := id rfl
@[simp] theorem eTup_s : eTup fs e h = (match fs e h with
  | none => none
  | some (vs, h1) => mkT vs h1) := id rfl
@[simp] theorem eLst_s {m : Bool} : eLst m fs e h = (match fs e h with
  | none => none
  | some (vs, h1) => mkL m vs h1) := id rfl
@[simp] theorem eAnd_s : eAnd fa fb e h = (match fa e h with
  | none => none
  | some (u, h1) => match truV u h1 with
    | some true => fb e h1
    | some false => some (u, h1)
    | none => none) := id rfl
@[simp] theorem eOr_s : eOr fa fb e h = (match fa e h with
  | none => none
  | some (u, h1) => match truV u h1 with
    | some true => some (u, h1)
    | some false => fb e h1
    | none => none) := id rfl
@[simp] theorem eNot_s : eNot fa e h = (match fa e h with
  | none => none
  | some (u, h1) => match truV u h1 with
    | some b => some (.d (.bool (!b)), h1)
    | none => none) := id rfl
@[simp] theorem eIf_s : eIf t fa fb e h = (match t e h with
  | none => none
  | some (true, h1) => fa e h1
  | some (false, h1) => fb e h1) := id rfl
@[simp] theorem eChain_s : eChain o1 o2 fa fb fc e h = (match fa e h with
  | none => none
  | some (u, h1) => match fb e h1 with
    | none => none
    | some (v, h2) => match o1 u v h2 with
      | some (.d (.bool true), h3) => match fc e h3 with
        | none => none
        | some (w, h4) => o2 v w h4
      | some (.d (.bool false), h3) => some (.d (.bool false), h3)
      | _ => none) := id rfl
@[simp] theorem tVal_s : tVal fa e h = (match fa e h with
  | none => none
  | some (u, h1) => match truV u h1 with
    | some b => some (b, h1)
    | none => none) := id rfl
@[simp] theorem tCmpr_s : tCmpr fa e h = (match fa e h with
  | some (.d (.bool b), h1) => some (b, h1)
  | _ => none) := id rfl
@[simp] theorem tAnd2_s : tAnd2 t t2 e h = (match t e h with
  | none => none
  | some (true, h1) => t2 e h1
  | some (false, h1) => some (false, h1)) := id rfl
@[simp] theorem tOr2_s : tOr2 t t2 e h = (match t e h with
  | none => none
  | some (true, h1) => some (true, h1)
  | some (false, h1) => t2 e h1) := id rfl
@[simp] theorem tNot2_s : tNot2 t e h = (match t e h with
  | none => none
  | some (b, h1) => some (!b, h1)) := id rfl
@[simp] theorem tYs_s : tYs e h = some (true, h) := id rfl
@[simp] theorem oNone_s : oNone e h = some (none, h) := id rfl
@[simp] theorem oSome_s : oSome fa e h = (match fa e h with
  | some (.d (.int i), h1) => some (some i, h1)
  | _ => none) := id rfl
@[simp] theorem eSl_s {m : Bool} {l u : Opt} : eSl m fa l u e h = (match fa e h with
  | none => none
  | some (v, h1) => match l e h1 with
    | none => none
    | some (lo, h2) => match u e h2 with
      | none => none
      | some (hi, h3) => opSl m v lo hi h3) := id rfl
@[simp] theorem sNil_s : sNil e h = some (.nx, e, h) := id rfl
@[simp] theorem sBrk_s : sBrk e h = some (.bk, e, h) := id rfl
@[simp] theorem sCnt_s : sCnt e h = some (.ct, e, h) := id rfl
@[simp] theorem sSeq_s : sSeq a b e h = (match a e h with
  | none => none
  | some (.nx, e1, h1) => b e1 h1
  | some r => some r) := id rfl
@[simp] theorem sAsg_s {g : Tgt} : sAsg fa g e h = (match fa e h with
  | none => none
  | some (v, h1) => match asgV g v e with
    | none => none
    | some e1 => some (.nx, e1, h1)) := id rfl
@[simp] theorem sPar_s {is : List Nat} : sPar fs is e h = (match fs e h with
  | none => none
  | some (vs, h1) => match setAll e is vs with
    | none => none
    | some e1 => some (.nx, e1, h1)) := id rfl
@[simp] theorem sSub_s {st : Op3} : sSub st fa fb fc e h = (match fa e h with
  | none => none
  | some (v, h1) => match fb e h1 with
    | none => none
    | some (x, h2) => match fc e h2 with
      | none => none
      | some (y, h3) => match st x y v h3 with
        | none => none
        | some h4 => some (.nx, e, h4)) := id rfl
@[simp] theorem sAug_s : sAug op i fa e h = (match e[i]? with
  | some (some u) => match fa e h with
    | none => none
    | some (v, h1) => match op u v h1 with
      | none => none
      | some (w, h2) => some (.nx, e.set i (some w), h2)
  | _ => none) := id rfl
@[simp] theorem sIf_s : sIf t a b e h = (match t e h with
  | none => none
  | some (true, h1) => a e h1
  | some (false, h1) => b e h1) := id rfl
@[simp] theorem sRet_s : sRet fa e h = (match fa e h with
  | none => none
  | some (v, h1) => some (.rt v, e, h1)) := id rfl
@[simp] theorem sDrop_s : sDrop fa e h = (match fa e h with
  | none => none
  | some (_, h1) => some (.nx, e, h1)) := id rfl
@[simp] theorem eMthL_s {m : OpM} : eMthL m fa fs e h = (match fa e h with
  | none => none
  | some (u, h1) => match mkind u h1 with
    | some "list" => (match fs e h1 with
      | none => none
      | some (vs, h2) => m u vs h2)
    | _ => none) := by
  unfold eMthL eMeth
  cases q : fa e h with
  | none => rfl
  | some p =>
    obtain ⟨u, h1⟩ := p
    simp only
    cases q2 : mkind u h1 with
    | none => rfl
    | some T =>
      simp only
      by_cases hT : T = "list"
      · subst hT
        simp only [if_true]
        all_goals (cases fs e h1 <;> rfl)
      · simp only [if_neg hT]
        all_goals (split <;> first | rfl | (rename_i q4; cases q4; exact (hT rfl).elim))
end
@[simp] theorem asg_nm {i : Nat} {v : Val} {e : Ev} : asgV (.nm i) v e = some (e.set i (some v)) := by unfold asgV; rfl
@[simp] theorem asg_tup {ts : List Tgt} {ds : List D} {e : Ev} : asgV (.tp ts) (.d (.tuple ds)) e = asgL ts ds e := by rw [asgV]
@[simp] theorem asg_lst {ts : List Tgt} {ds : List D} {e : Ev} : asgV (.tp ts) (.d (.list ds)) e = asgL ts ds e := by rw [asgV]
@[simp] theorem asgL_nil {e : Ev} : asgL [] [] e = some e := by rw [asgL]
@[simp] theorem asgL_cons {t : Tgt} {ts : List Tgt} {x : D} {xs : List D} {e : Ev} : asgL (t :: ts) (x :: xs) e = (match asgV t (.d x) e with
  | none => none
  | some e1 => asgL ts xs e1) := by
  rw [asgL]
  all_goals (cases asgV t (.d x) e <;> rfl)
@[simp] theorem asgI_one {t : Tgt} {v : Val} {e : Ev} : asgI t (.one v) e = asgV t v e := id rfl
@[simp] theorem asgI_two {t1 t2 : Tgt} {a b : Val} {e : Ev} : asgI (.tp [t1, t2]) (.two a b) e = (match asgV t1 a e with
  | none => none
  | some e1 => asgV t2 b e1) := id rfl
@[simp] theorem setAll_nil {e : Ev} : setAll e [] [] = some e := id rfl
@[simp] theorem setAll_cons {e : Ev} {i : Nat} {is : List Nat} {v : Val} {vs : List Val} : setAll e (i :: is) (v :: vs) = setAll (e.set i (some v)) is vs := id rfl
@[simp] theorem wipeE_nil {e : Ev} : wipeE e [] = e := id rfl
@[simp] theorem wipeE_cons {e : Ev} {v : Nat} {vs : List Nat} : wipeE e (v :: vs) = (wipeE e vs).set v none := id rfl
@[simp] theorem frz_d (n : Nat) (x : D) (h : Hh) : frz n (.d x) h = some (x, h) := by cases n <;> rfl
@[simp] theorem frzL_nil {f : Val → Hh → Option (D × Hh)} {h : Hh} : frzL f [] h = some ([], h) := id rfl
@[simp] theorem frzL_d {n : Nat} {x : D} {vs : List Val} {h : Hh} : frzL (frz n) (.d x :: vs) h = (match frzL (frz n) vs h with
  | none => none
  | some (xs, h1) => some (x :: xs, h1)) := by
  conv => lhs; unfold frzL
  rw [frz_d]
  all_goals (cases q : frzL (frz n) vs h <;> simp only [q])
@[simp] theorem frzL_map {n : Nat} {ds : List D} {h : Hh} : frzL (frz n) (ds.map .d) h = some (ds, h) := by
  induction ds with
  | nil => rfl
  | cons d ds ih => rw [List.map_cons, frzL_d, ih]
@[simp] theorem view_d (n : Nat) (x : D) (h : Hh) : view n (.d x) h = some x := by cases n <;> rfl
@[simp] theorem mkL_map {ds : List D} {h : Hh} : mkL false (ds.map .d) h = some (.d (.list ds), h) := by unfold mkL; simp
@[simp] theorem mkT_map {ds : List D} {h : Hh} : mkT (ds.map .d) h = some (.d (.tuple ds), h) := by unfold mkT; simp
@[simp] theorem mkL_t {vs : List Val} {h : Hh} : mkL true vs h = some (.loc h.length, h ++ [.lst vs]) := id rfl
@[simp] theorem mkL_lit {v : D} {vs : List Val} {h : Hh} : mkL false (.d v :: vs) h = (match frzL (frz 8) (.d v :: vs) h with
  | none => none
  | some (ds, h1) => some (.d (.list ds), h1)) := id rfl
@[simp] theorem mkL_0 {h : Hh} : mkL false [] h = some (.d (.list []), h) := id rfl
@[simp] theorem mkT_lit {v : D} {vs : List Val} {h : Hh} : mkT (.d v :: vs) h = (match frzL (frz 8) (.d v :: vs) h with
  | none => none
  | some (ds, h1) => some (.d (.tuple ds), h1)) := id rfl
@[simp] theorem mkT_0 {h : Hh} : mkT [] h = some (.d (.tuple []), h) := id rfl
@[simp] theorem startE_s {N : Nat} {vs : List Val} : startE N vs = vs.map some ++ List.replicate (N - vs.length) none := id rfl
/-! ### operations on data -/
@[simp] theorem truV_n {h : Hh} : truV (.d .none) h = some false := id rfl
@[simp] theorem truV_b {b : Bool} {h : Hh} : truV (.d (.bool b)) h = some b := id rfl
@[simp] theorem truV_i {i : Int} {h : Hh} : truV (.d (.int i)) h = some (i != 0) := id rfl
@[simp] theorem truV_l {ds : List D} {h : Hh} : truV (.d (.list ds)) h = some (!ds.isEmpty) := by
  show some (!(ds.map Val.d).isEmpty) = _
  cases ds <;> rfl
@[simp] theorem truV_t {ds : List D} {h : Hh} : truV (.d (.tuple ds)) h = some (!ds.isEmpty) := by
  show some (!(ds.map Val.d).isEmpty) = _
  cases ds <;> rfl
@[simp] theorem add_ii {m : Bool} {i j : Int} {h : Hh} : opAdd m (.d (.int i)) (.d (.int j)) h = some (.d (.int (i + j)), h) := id rfl
theorem add_tt0 {m : Bool} {xs ys : List D} {h : Hh} : opAdd m (.d (.tuple xs)) (.d (.tuple ys)) h = if xs.length + ys.length ≤ sizeLine then some (.d (.tuple (xs ++ ys)), h) else none := id rfl
theorem add_ll0 {xs ys : List D} {h : Hh} : opAdd false (.d (.list xs)) (.d (.list ys)) h = if xs.length + ys.length ≤ sizeLine then some (.d (.list (xs ++ ys)), h) else none := by
  show (if (xs.map Val.d).length + (ys.map Val.d).length ≤ sizeLine then mkL false (xs.map Val.d ++ ys.map Val.d) h else none) = _
  rw [List.length_map, List.length_map, ← List.map_append, mkL_map]
@[simp] theorem sub_ii {i j : Int} {h : Hh} : opSub (.d (.int i)) (.d (.int j)) h = some (.d (.int (i - j)), h) := id rfl
@[simp] theorem mul_ii {m : Bool} {i j : Int} {h : Hh} : opMul m (.d (.int i)) (.d (.int j)) h = if mulOk i j then some (.d (.int (i * j)), h) else none := id rfl
@[simp] theorem neg_i {i : Int} {h : Hh} : opNeg (.d (.int i)) h = some (.d (.int (-i)), h) := id rfl
theorem mod_pos {i j : Int} {h : Hh} (hj : 0 < j) : opMod (.d (.int i)) (.d (.int j)) h = some (.d (.int (i % j)), h) := by
  show (if decide (0 < j) = true then _ else _) = _
  rw [decide_eq_true hj, if_pos rfl]
theorem fdiv_pos {i j : Int} {h : Hh} (hj : 0 < j) (hl : Nat.blt j.natAbs.log2 9000 = true) : opFdiv (.d (.int i)) (.d (.int j)) h = some (.d (.int (i / j)), h) := by
  show (if (decide (0 < j) && Nat.blt j.natAbs.log2 9000) = true then _ else _) = _
  rw [decide_eq_true hj, hl]; rfl
@[simp] theorem eq_ii {i j : Int} {h : Hh} : opEq (.d (.int i)) (.d (.int j)) h = some (.d (.bool (decide (i = j))), h) := id rfl
@[simp] theorem ne_ii {i j : Int} {h : Hh} : opNe (.d (.int i)) (.d (.int j)) h = some (.d (.bool (!decide (i = j))), h) := id rfl
@[simp] theorem lt_ii {i j : Int} {h : Hh} : opLt (.d (.int i)) (.d (.int j)) h = some (.d (.bool (decide (i < j))), h) := id rfl
@[simp] theorem gt_ii {i j : Int} {h : Hh} : opGt (.d (.int i)) (.d (.int j)) h = some (.d (.bool (decide (j < i))), h) := id rfl
@[simp] theorem le_ii {i j : Int} {h : Hh} : opLe (.d (.int i)) (.d (.int j)) h = some (.d (.bool (decide (i ≤ j))), h) := id rfl
@[simp] theorem ge_ii {i j : Int} {h : Hh} : opGe (.d (.int i)) (.d (.int j)) h = some (.d (.bool (decide (j ≤ i))), h) := id rfl
@[simp] theorem is_n {x : D} {h : Hh} : opIs (.d x) (.d .none) h = some (.d (.bool (isNoneD x)), h) := by cases x <;> rfl
@[simp] theorem isNot_n {x : D} {h : Hh} : opIsNot (.d x) (.d .none) h = some (.d (.bool (!isNoneD x)), h) := by cases x <;> rfl
@[simp] theorem isi_d {f : D → Bool} {x : D} {h : Hh} : opIsi f (.d x) h = some (.d (.bool (f x)), h) := id rfl
@[simp] theorem len_t {ds : List D} {h : Hh} : opLen [.d (.tuple ds)] h = some (.d (.int ds.length), h) := by
  show some (Val.d (.int (ds.map Val.d).length), h) = _
  rw [List.length_map]
@[simp] theorem len_l {ds : List D} {h : Hh} : opLen [.d (.list ds)] h = some (.d (.int ds.length), h) := by
  show some (Val.d (.int (ds.map Val.d).length), h) = _
  rw [List.length_map]
@[simp] theorem int_i {i : Int} {h : Hh} : opInt [.d (.int i)] h = some (.d (.int i), h) := id rfl
@[simp] theorem tup_l {ds : List D} {h : Hh} : opTuple [.d (.list ds)] h = some (.d (.tuple ds), h) := by
  show mkT (ds.map Val.d) h = _
  rw [mkT_map]
@[simp] theorem tup_t {ds : List D} {h : Hh} : opTuple [.d (.tuple ds)] h = some (.d (.tuple ds), h) := id rfl
@[simp] theorem list_t {ds : List D} {h : Hh} : opList false [.d (.tuple ds)] h = some (.d (.list ds), h) := by
  show mkL false (ds.map Val.d) h = _
  rw [mkL_map]
@[simp] theorem list_l {ds : List D} {h : Hh} : opList false [.d (.list ds)] h = some (.d (.list ds), h) := by
  show mkL false (ds.map Val.d) h = _
  rw [mkL_map]
@[simp] theorem rev_t {m : Bool} {ds : List D} {h : Hh} : opRev m (.d (.tuple ds)) h = some (.d (.tuple ds.reverse), h) := id rfl
@[simp] theorem rev_l {ds : List D} {h : Hh} : opRev false (.d (.list ds)) h = some (.d (.list ds.reverse), h) := by
  show mkL false (ds.map Val.d).reverse h = _
  rw [← List.map_reverse, mkL_map]
theorem at_nat {α : Type} {xs : List α} {i : Nat} {x : α} (h : xs[i]? = some x) : atI xs (i : Int) = some x := L2.atI_nat h
/-- ds[i] -/
theorem ix_t {ds : List D} {i : Nat} {x : D} {h : Hh} (q : ds[i]? = some x) : opIx0 (.d (.tuple ds)) (.d (.int i)) h = some (.d x, h) := by
  have e : atI (ds.map Val.d) (i : Int) = some (.d x) := at_nat (by rw [List.getElem?_map, q]; rfl)
  show (match atI (ds.map Val.d) (i : Int) with
    | some w => some (w, h)
    | none => none) = _
  rw [e]
theorem ix_l {ds : List D} {i : Nat} {x : D} {h : Hh} (q : ds[i]? = some x) : opIx0 (.d (.list ds)) (.d (.int i)) h = some (.d x, h) := by
  have e : atI (ds.map Val.d) (i : Int) = some (.d x) := at_nat (by rw [List.getElem?_map, q]; rfl)
  show (match atI (ds.map Val.d) (i : Int) with
    | some w => some (w, h)
    | none => none) = _
  rw [e]
theorem ix_loc {n i : Nat} {vs : List Val} {x : Val} {h : Hh} (g : h[n]? = some (.lst vs)) (q : vs[i]? = some x) : opIx0 (.loc n) (.d (.int i)) h = some (x, h) := by
  have e : listItems (.loc n) h = some vs := by
    unfold listItems
    simp only [g]
  show (match (match seqItems (.loc n) h with
    | some us => atI us (i : Int)
    | none => none) with
    | some w => some (w, h)
    | none => none) = _
  rw [show seqItems (.loc n) h = some vs from e]
  simp only [at_nat q]
theorem cut_to {α : Type} {xs : List α} {k : Nat} : cutG xs none (some (k : Int)) = xs.take k := by
  unfold cutG
  rw [HT.sIx_none, HT.sIx_nat, List.drop_zero, Nat.sub_zero]
  by_cases h : k ≤ xs.length
  · rw [Nat.min_eq_left h]
  · rw [Nat.min_eq_right (by omega), List.take_of_length_le (Nat.le_refl _), List.take_of_length_le (by omega)]
theorem cut_from {α : Type} {xs : List α} {k : Nat} : cutG xs (some (k : Int)) none = xs.drop k := by
  unfold cutG
  rw [HT.sIx_none, HT.sIx_nat]
  by_cases h : k ≤ xs.length
  · rw [Nat.min_eq_left h, List.take_of_length_le (by rw [List.length_drop]; omega)]
  · rw [Nat.min_eq_right (by omega), Nat.sub_self, List.take_zero, List.drop_eq_nil_of_le (by omega)]
theorem sl_to {m : Bool} {ds : List D} {k : Nat} {h : Hh} : opSl m (.d (.tuple ds)) none (some (k : Int)) h = some (.d (.tuple (ds.take k)), h) := by
  show some (Val.d (.tuple (cutG ds none (some (k : Int)))), h) = _
  rw [cut_to]
theorem sl_from {m : Bool} {ds : List D} {k : Nat} {h : Hh} : opSl m (.d (.tuple ds)) (some (k : Int)) none h = some (.d (.tuple (ds.drop k)), h) := by
  show some (Val.d (.tuple (cutG ds (some (k : Int)) none)), h) = _
  rw [cut_from]
theorem sl_from1 {m : Bool} {ds : List D} {k : Nat} {h : Hh} : opSl m (.d (.tuple ds)) (some ((k : Int) + 1)) none h = some (.d (.tuple (ds.drop (k + 1))), h) := sl_from (k := k + 1)
/-! ### membership -/
theorem in_l {x : D} {ds : List D} {h : Hh} (ok : dOk 60 x = true) : opIn0 (.d x) (.d (.list ds)) h = some (.d (.bool (ds.any fun y => PyData.eqv y x)), h) := by
  have e : memV (.d x) (.d (.list ds)) h = some (ds.any fun y => PyData.eqv y x) := by
    have e0 : memV (.d x) (.d (.list ds)) h = (match view 8 (.d x) h, view 8 (.d (.list ds)) h with
      | some x, some (.list ys) => if dOk 60 x || dOkA 60 ys then some (ys.any fun y => PyData.eqv y x) else none
      | some x, some (.tuple ys) => if dOk 60 x || dOkA 60 ys then some (ys.any fun y => PyData.eqv y x) else none
      | _, _ => none) := by cases x <;> rfl
    rw [e0, view_d, view_d]
    simp [ok]
  unfold opIn0
  rw [e]
theorem in_t {x : D} {ds : List D} {h : Hh} (ok : dOk 60 x = true) : opIn0 (.d x) (.d (.tuple ds)) h = some (.d (.bool (ds.any fun y => PyData.eqv y x)), h) := by
  have e : memV (.d x) (.d (.tuple ds)) h = some (ds.any fun y => PyData.eqv y x) := by
    have e0 : memV (.d x) (.d (.tuple ds)) h = (match view 8 (.d x) h, view 8 (.d (.tuple ds)) h with
      | some x, some (.list ys) => if dOk 60 x || dOkA 60 ys then some (ys.any fun y => PyData.eqv y x) else none
      | some x, some (.tuple ys) => if dOk 60 x || dOkA 60 ys then some (ys.any fun y => PyData.eqv y x) else none
      | _, _ => none) := by cases x <;> rfl
    rw [e0, view_d, view_d]
    simp [ok]
  unfold opIn0
  rw [e]
theorem notIn_of {u v : Val} {b : Bool} {h : Hh} (e : opIn0 u v h = some (.d (.bool b), h)) : opNotIn0 u v h = some (.d (.bool (!b)), h) := by
  unfold opIn0 at e
  unfold opNotIn0
  split at e
  · rename_i c q
    cases e
    rfl
  · cases e
/-! ### comprehensions over what is known from the start, the heap left alone -/
/-- what a turn adds -/
def Adds (B : CB) (h : Hh) (vs : List Val) (it : Itm) : Prop := ∀ acc : List Val, acc.length < 16777216 → B it acc h = some (acc ++ vs, h)
section
variable {α : Type} {l : List α} {ι : α → Itm} {B : CB} {h : Hh} {g : α → List Val}
theorem goN_st : ∀ (k i : Nat) (acc : List Val), i + k = l.length → (∀ x ∈ l, Adds B h (g x) (ι x)) → acc.length + ((l.drop i).map fun x => (g x).length).sum ≤ 16777215 →
    goN (.st (l.map ι)) B k i acc h = some (acc ++ (l.drop i).flatMap g, h)
  | 0, i, acc, e, _, _ => by
    show (if (l.map ι).length = i then some (acc, h) else none) = _
    rw [if_pos (by rw [List.length_map]; omega), List.drop_eq_nil_of_le (by omega)]
    simp
  | k + 1, i, acc, e, hB, hl => by
    have hi : i < l.length := by omega
    have e1 : (l.map ι)[i]? = some (ι l[i]) := by rw [List.getElem?_map, List.getElem?_eq_getElem hi]; rfl
    have ed : l.drop i = l[i] :: l.drop (i + 1) := List.drop_eq_getElem_cons hi
    rw [ed, List.map_cons, List.sum_cons] at hl
    show (match (l.map ι)[i]? with
      | none => none
      | some it => match B it acc h with
        | none => none
        | some (acc1, h1) => goN (.st (l.map ι)) B k (i + 1) acc1 h1) = _
    rw [e1]
    simp only
    rw [hB _ (List.getElem_mem hi) acc (by omega)]
    simp only
    rw [goN_st k (i + 1) _ (by omega) hB (by rw [List.length_append]; omega), ed, List.flatMap_cons, List.append_assoc]
theorem goAll_st {acc : List Val} (hB : ∀ x ∈ l, Adds B h (g x) (ι x)) (hl : acc.length + (l.map fun x => (g x).length).sum ≤ 16777215) :
    goAll (.st (l.map ι)) B acc h = some (acc ++ l.flatMap g, h) := by
  show goN (.st (l.map ι)) B (l.map ι).length 0 acc h = _
  rw [List.length_map, goN_st l.length 0 acc (by omega) hB (by simpa using hl), List.drop_zero]
theorem size_eq : (16777216 : Nat) = sizeLine := by decide
/-- [f(x) for x in .. if p(x)] -/
theorem adds_if {tg : Tgt} {tst : Tst} {elt : Exp} {eb e1 : Ev} {it : Itm} {p : Bool} {v : Val} (ha : asgI tg it eb = some e1) (ht : tst e1 h = some (p, h)) (hv : p = true → elt e1 h = some (v, h)) : Adds (lcB tg tst elt eb) h (if p then [v] else []) it := by
  intro acc hl
  unfold lcB
  rw [ha]
  simp only
  rw [ht]
  cases p with
  | false => simp
  | true =>
    simp only
    rw [hv rfl]
    simp only
    rw [if_pos (by rw [← size_eq]; exact hl)]
    simp
variable {src : ISrc} {own : List Nat} {tg : Tgt} {tst : Tst} {elt : Exp} {e : Ev}
theorem eLc_st {m : Bool} {h0 : Hh} (hs : src e h0 = some (.st (l.map ι), h)) (hB : ∀ x ∈ l, Adds (lcB tg tst elt (wipeE e own)) h (g x) (ι x))
    (hl : (l.map fun x => (g x).length).sum ≤ 16777215) : eLc m src own tg tst elt e h0 = mkL m (l.flatMap g) h := by
  unfold eLc
  rw [hs]
  simp only
  rw [goAll_st hB (by simpa using hl)]
  simp
theorem flat_if {p : α → Bool} {f : α → Val} : ∀ l : List α, l.flatMap (fun x => if p x then [f x] else []) = (l.filter p).map f
  | [] => rfl
  | a :: l => by
    rw [List.flatMap_cons, List.filter_cons, flat_if l]
    by_cases hp : p a = true <;> simp [hp]
theorem sum_if {p : α → Bool} {f : α → Val} : ∀ l : List α, (l.map fun x => (if p x then [f x] else []).length).sum ≤ l.length
  | [] => by simp
  | a :: l => by
    have := sum_if (p := p) (f := f) l
    rw [List.map_cons, List.sum_cons, List.length_cons]
    by_cases hp : p a = true
    · rw [if_pos hp]; simp only [List.length_cons, List.length_nil]; omega
    · rw [if_neg hp]; simp only [List.length_nil]; omega
/-- values with a test, any kind of values -/
theorem eLc_vals {m : Bool} {h0 : Hh} {p : α → Bool} {f : α → Val} (hs : src e h0 = some (.st (l.map ι), h)) (hz : l.length ≤ 16777215)
    (hB : ∀ x ∈ l, ∃ e1, asgI tg (ι x) (wipeE e own) = some e1 ∧ tst e1 h = some (p x, h) ∧ (p x = true → elt e1 h = some (f x, h))) : eLc m src own tg tst elt e h0 = mkL m ((l.filter p).map f) h := by
  rw [eLc_st (g := fun x => if p x then [f x] else []) hs (fun x hx => ?_) (Nat.le_trans (sum_if l) hz), flat_if]
  obtain ⟨e1, ha, ht, hv⟩ := hB x hx
  exact adds_if ha ht hv
/-- data with a test -/
theorem eLc_filter {h0 : Hh} {p : α → Bool} {f : α → D} (hs : src e h0 = some (.st (l.map ι), h)) (hz : l.length ≤ 16777215)
    (hB : ∀ x ∈ l, ∃ e1, asgI tg (ι x) (wipeE e own) = some e1 ∧ tst e1 h = some (p x, h) ∧ (p x = true → elt e1 h = some (.d (f x), h))) : eLc false src own tg tst elt e h0 = some (.d (.list ((l.filter p).map f)), h) := by
  rw [eLc_vals (f := fun x => .d (f x)) hs hz hB, show (l.filter p).map (fun x => Val.d (f x)) = ((l.filter p).map f).map .d by rw [List.map_map]; rfl, mkL_map]
/-- data, no test -/
theorem eLc_map {h0 : Hh} {f : α → D} (hs : src e h0 = some (.st (l.map ι), h)) (hz : l.length ≤ 16777215)
    (hB : ∀ x ∈ l, ∃ e1, asgI tg (ι x) (wipeE e own) = some e1 ∧ elt e1 h = some (.d (f x), h)) : eLc false src own tg tYs elt e h0 = some (.d (.list (l.map f)), h) := by
  rw [eLc_filter (p := fun _ => true) (f := f) hs hz fun x hx => ?_, List.filter_eq_self.mpr fun _ _ => rfl]
  obtain ⟨e1, ha, hv⟩ := hB x hx
  exact ⟨e1, ha, rfl, fun _ => hv⟩
end
/-! ### sources -/
@[simp] theorem src_t {fa : Exp} {e : Ev} {h h1 : Hh} {ds : List D} (q : fa e h = some (.d (.tuple ds), h1)) : iAny fa e h = some (.st (ds.map fun x => .one (.d x)), h1) := by
  unfold iAny; rw [q]; rfl
@[simp] theorem src_l {fa : Exp} {e : Ev} {h h1 : Hh} {ds : List D} (q : fa e h = some (.d (.list ds), h1)) : iAny fa e h = some (.st (ds.map fun x => .one (.d x)), h1) := by
  unfold iAny; rw [q]; rfl
theorem src_r {fs : Exps} {e : Ev} {h h1 : Hh} {n : Nat} (q : fs e h = some ([.d (.int n)], h1)) (hn : n < 4611686018427387904) : iRg fs e h = some (.st ((List.range n).map fun (k : Nat) => .one (.d (.int k))), h1) := by
  unfold iRg
  rw [q]
  have hs : sm62 (n : Int) = true := by unfold sm62; simp; omega
  simp only [hs, if_true, Int.toNat_natCast]
  unfold rngItems
  simp
/-- small enough for a sequence -/
def Fits (n : Nat) : Prop := n ≤ 16777216
@[simp] theorem add_tt {m : Bool} {xs ys : List D} {h : Hh} (hz : Fits (xs.length + ys.length)) : opAdd m (.d (.tuple xs)) (.d (.tuple ys)) h = some (.d (.tuple (xs ++ ys)), h) := by
  rw [add_tt0, if_pos (by rw [← size_eq]; exact hz)]
@[simp] theorem add_ll {xs ys : List D} {h : Hh} (hz : Fits (xs.length + ys.length)) : opAdd false (.d (.list xs)) (.d (.list ys)) h = some (.d (.list (xs ++ ys)), h) := by
  rw [add_ll0, if_pos (by rw [← size_eq]; exact hz)]
/-! ### loops -/
section
variable {α : Type} {l : List α} {ι : α → Itm} {tg : Tgt} {B : Stm}
theorem forN_in {k i : Nat} {e e1 : Ev} {h : Hh} (hl : i < l.length) (ha : asgI tg (ι l[i]) e = some e1) : forN (.st (l.map ι)) tg B (k + 1) i e h = (match B e1 h with
    | none => none
    | some (.nx, e2, h2) => forN (.st (l.map ι)) tg B k (i + 1) e2 h2
    | some (.ct, e2, h2) => forN (.st (l.map ι)) tg B k (i + 1) e2 h2
    | some r => some r) := by
  show (match (l.map ι)[i]? with
    | none => if (l.map ι).length = i then some (Fl.nx, e, h) else none
    | some it => match asgI tg it e with
      | none => none
      | some e1 => match B e1 h with
        | none => none
        | some (.nx, e2, h2) => forN (.st (l.map ι)) tg B k (i + 1) e2 h2
        | some (.ct, e2, h2) => forN (.st (l.map ι)) tg B k (i + 1) e2 h2
        | some r => some r) = _
  rw [List.getElem?_map, List.getElem?_eq_getElem hl]
  simp only [Option.map_some, ha]
theorem forN_out {i : Nat} {e : Ev} {h : Hh} (hl : i = l.length) : forN (.st (l.map ι)) tg B 0 i e h = some (.nx, e, h) := by
  show (if (l.map ι).length = i then some (Fl.nx, e, h) else none) = _
  rw [if_pos (by rw [List.length_map]; exact hl.symm)]
theorem for_fold {σ : Type} (St : σ → Ev → Hh → Prop) (step : σ → α → σ)
    (hB : ∀ x ∈ l, ∀ s e h, St s e h → ∃ e1 e2 h2, asgI tg (ι x) e = some e1 ∧ (B e1 h = some (.nx, e2, h2) ∨ B e1 h = some (.ct, e2, h2)) ∧ St (step s x) e2 h2) :
    ∀ s e h, St s e h → ∃ e2 h2, forN (.st (l.map ι)) tg B l.length 0 e h = some (.nx, e2, h2) ∧ St (l.foldl step s) e2 h2 := by
  have key : ∀ (k i : Nat), i + k = l.length → ∀ s e h, St s e h → ∃ e2 h2, forN (.st (l.map ι)) tg B k i e h = some (.nx, e2, h2) ∧ St ((l.drop i).foldl step s) e2 h2 := by
    intro k
    induction k with
    | zero => exact fun i hi s e h st => ⟨e, h, forN_out (by omega), by rw [List.drop_eq_nil_of_le (by omega)]; exact st⟩
    | succ k ih =>
      intro i hi s e h st
      have hl : i < l.length := by omega
      obtain ⟨e1, e2, h2, ha, hb, st2⟩ := hB _ (List.getElem_mem hl) s e h st
      obtain ⟨e3, h3, hf, st3⟩ := ih (i + 1) (by omega) _ _ _ st2
      refine ⟨e3, h3, ?_, by rw [List.drop_eq_getElem_cons hl]; exact st3⟩
      rw [forN_in hl ha]
      rcases hb with hb | hb <;> (rw [hb]; exact hf)
  intro s e h st
  have := key l.length 0 (by omega) s e h st
  rwa [List.drop_zero] at this
theorem for_find (I : Ev → Hh → Prop) (f : α → Option Val)
    (hB : ∀ x ∈ l, ∀ e h, I e h → ∃ e1 e2 h2, asgI tg (ι x) e = some e1 ∧ ((∃ v, f x = some v ∧ B e1 h = some (.rt v, e2, h2)) ∨ (f x = none ∧ (B e1 h = some (.nx, e2, h2) ∨ B e1 h = some (.ct, e2, h2)) ∧ I e2 h2))) :
    ∀ e h, I e h → ∃ e2 h2, (∃ v, l.findSome? f = some v ∧ forN (.st (l.map ι)) tg B l.length 0 e h = some (.rt v, e2, h2)) ∨ (l.findSome? f = none ∧ forN (.st (l.map ι)) tg B l.length 0 e h = some (.nx, e2, h2) ∧ I e2 h2) := by
  have key : ∀ (k i : Nat), i + k = l.length → ∀ e h, I e h → ∃ e2 h2, (∃ v, (l.drop i).findSome? f = some v ∧ forN (.st (l.map ι)) tg B k i e h = some (.rt v, e2, h2)) ∨ ((l.drop i).findSome? f = none ∧ forN (.st (l.map ι)) tg B k i e h = some (.nx, e2, h2) ∧ I e2 h2) := by
    intro k
    induction k with
    | zero => exact fun i hi e h st => ⟨e, h, .inr ⟨by rw [List.drop_eq_nil_of_le (by omega)]; rfl, forN_out (by omega), st⟩⟩
    | succ k ih =>
      intro i hi e h st
      have hl : i < l.length := by omega
      obtain ⟨e1, e2, h2, ha, hb⟩ := hB _ (List.getElem_mem hl) e h st
      rw [forN_in hl ha, List.drop_eq_getElem_cons hl, List.findSome?_cons]
      rcases hb with ⟨v, hv, hb⟩ | ⟨hv, hb, st2⟩
      · exact ⟨e2, h2, .inl ⟨v, by rw [hv], by rw [hb]⟩⟩
      · obtain ⟨e3, h3, hf⟩ := ih (i + 1) (by omega) _ _ st2
        refine ⟨e3, h3, ?_⟩
        rw [hv]
        rcases hb with hb | hb <;> (rw [hb]; exact hf)
  intro e h st
  have := key l.length 0 (by omega) e h st
  rwa [List.drop_zero] at this
/-- a loop by the number of turns done, over what stays as it is -/
theorem for_ix {src : Src} (St : Nat → Ev → Hh → Prop) (hn : ∀ i e h, St i e h → src.now h = some (l.map ι))
    (hB : ∀ i (hi : i < l.length) e h, St i e h → ∃ e1 e2 h2, asgI tg (ι l[i]) e = some e1 ∧ (B e1 h = some (.nx, e2, h2) ∨ B e1 h = some (.ct, e2, h2)) ∧ St (i + 1) e2 h2) {K : Nat} (hK : l.length ≤ K) :
    ∀ e h, St 0 e h → ∃ e2 h2, forN src tg B K 0 e h = some (.nx, e2, h2) ∧ St l.length e2 h2 := by
  have key : ∀ (m k i : Nat), i + m = l.length → m ≤ k → ∀ e h, St i e h → ∃ e2 h2, forN src tg B k i e h = some (.nx, e2, h2) ∧ St l.length e2 h2 := by
    intro m
    induction m with
    | zero =>
      intro k i hi hk e h st
      obtain rfl : i = l.length := by omega
      refine ⟨e, h, ?_, st⟩
      have hnow := hn _ e h st
      cases k with
      | zero =>
        unfold forN
        simp only [hnow]
        rw [if_pos (by rw [List.length_map])]
      | succ k =>
        unfold forN
        have h0 : (l.map ι)[l.length]? = none := List.getElem?_eq_none (by rw [List.length_map]; exact Nat.le_refl _)
        simp only [hnow, h0]
        rw [if_pos (by rw [List.length_map])]
    | succ m ih =>
      intro k i hi hk e h st
      obtain ⟨k, rfl⟩ : ∃ q, k = q + 1 := ⟨k - 1, by omega⟩
      have hl : i < l.length := by omega
      obtain ⟨e1, e2, h2, ha, hb, st2⟩ := hB i hl e h st
      obtain ⟨e3, h3, hf, st3⟩ := ih k (i + 1) (by omega) (by omega) _ _ st2
      refine ⟨e3, h3, ?_, st3⟩
      have h0 : (l.map ι)[i]? = some (ι l[i]) := by rw [List.getElem?_map, List.getElem?_eq_getElem hl]; rfl
      conv => lhs; unfold forN
      simp only [hn i e h st, h0, ha]
      rcases hb with hb | hb <;> (rw [hb]; exact hf)
  intro e h st
  exact key l.length K 0 (by omega) hK e h st
theorem sFor_nx {isrc : ISrc} {src : Src} {els : Stm} {e e2 : Ev} {h h1 h2 : Hh} (hs : isrc e h = some (src, h1)) (hf : forN src tg B src.fuel 0 e h1 = some (.nx, e2, h2)) : sFor isrc tg B els e h = els e2 h2 := by
  unfold sFor
  rw [hs]
  simp only [hf]
/-- for .. over what is known: the loop, then what follows -/
theorem sFor_st {src : ISrc} {els : Stm} {e : Ev} {h h1 : Hh} (hs : src e h = some (.st (l.map ι), h1)) : sFor src tg B els e h = (match forN (.st (l.map ι)) tg B l.length 0 e h1 with
    | none => none
    | some (.nx, e2, h2) => els e2 h2
    | some (.bk, e2, h2) => some (.nx, e2, h2)
    | some (.ct, _, _) => none
    | some (.rt v, e2, h2) => some (.rt v, e2, h2)) := by
  unfold sFor
  rw [hs]
  show (match forN (.st (l.map ι)) tg B (l.map ι).length 0 e h1 with
    | none => none
    | some (.nx, e2, h2) => els e2 h2
    | some (.bk, e2, h2) => some (.nx, e2, h2)
    | some (.ct, _, _) => none
    | some (.rt v, e2, h2) => some (.rt v, e2, h2)) = _
  rw [List.length_map]
end
/-- enumerate -/
theorem enum_eq {ds : List D} {k : Nat} : enumFrom (ds.map .d) k = (ds.zipIdx k).map fun p => .two (.d (.int (p.2 : Nat))) (.d p.1) := by
  induction ds generalizing k with
  | nil => rfl
  | cons d ds ih => rw [List.map_cons, List.zipIdx_cons, List.map_cons, ← ih]; rfl
theorem src_et {fa : Exp} {e : Ev} {h h1 : Hh} {ds : List D} (q : fa e h = some (.d (.tuple ds), h1)) : iEnu fa e h = some (.st (ds.zipIdx.map fun p => .two (.d (.int (p.2 : Nat))) (.d p.1)), h1) := by
  unfold iEnu
  rw [q]
  show some (Src.st (enumFrom (ds.map .d) 0), h1) = _
  rw [enum_eq]
theorem src_el {fa : Exp} {e : Ev} {h h1 : Hh} {ds : List D} (q : fa e h = some (.d (.list ds), h1)) : iEnu fa e h = some (.st (ds.zipIdx.map fun p => .two (.d (.int (p.2 : Nat))) (.d p.1)), h1) := by
  unfold iEnu
  rw [q]
  show some (Src.st (enumFrom (ds.map .d) 0), h1) = _
  rw [enum_eq]
/-- a def that keeps to itself, at data -/
theorem callP_of {N : Nat} {body : Stm} {ds : List D} {h : Hh} {v : Val} {e2 : Ev} {h2 h3 : Hh} {x : D} (hb : body (startE N (ds.map .d)) [] = some (.rt v, e2, h2)) (hf : frz 8 v h2 = some (x, h3)) : callP N body (ds.map .d) h = some (.d x, h) := by
  unfold callP
  rw [frzL_map]
  simp only [hb, hf]
theorem callP_d {N : Nat} {body : Stm} {ds : List D} {h : Hh} {e2 : Ev} {h2 : Hh} {x : D} (hb : body (startE N (ds.map .d)) [] = some (.rt (.d x), e2, h2)) : callP N body (ds.map .d) h = some (.d x, h) := callP_of hb (frz_d 8 x h2)
/-! ### big steps -/
section
variable {e : Ev} {h h1 h2 h3 : Hh} {fa fb : Exp} {fs : Exps} {u v : Val} {us : List Val} {r : Option (Val × Hh)} {a b : Stm} {i : Nat}
theorem bin_of {op : Op2} (q1 : fa e h = some (u, h1)) (q2 : fb e h1 = some (v, h2)) (q3 : op u v h2 = r) : eBin op fa fb e h = r := by
  rw [eBin_s, q1]; simp only; rw [q2]; simp only; exact q3
theorem args_of' {op : OpN} (q1 : fs e h = some (us, h1)) (q3 : op us h1 = r) : eArgs op fs e h = r := by
  rw [eArgs_s, q1]; simp only; exact q3
theorem cons_of (q1 : fa e h = some (u, h1)) (q2 : fs e h1 = some (us, h2)) : aCons fa fs e h = some (u :: us, h2) := by
  rw [aCons_s, q1]; simp only; rw [q2]
theorem asg_of' (q : fa e h = some (v, h1)) : sAsg fa (.nm i) e h = some (.nx, e.set i (some v), h1) := by
  rw [sAsg_s, q]; simp only [asg_nm]
theorem ret_of (q : fa e h = some (v, h1)) : sRet fa e h = some (.rt v, e, h1) := by
  rw [sRet_s, q]
theorem drop_of (q : fa e h = some (v, h1)) : sDrop fa e h = some (.nx, e, h1) := by
  rw [sDrop_s, q]
theorem seq_nx {e1 : Ev} {r : Option (Fl × Ev × Hh)} (q1 : a e h = some (.nx, e1, h1)) (q2 : b e1 h1 = r) : sSeq a b e h = r := by
  rw [sSeq_s, q1]; exact q2
theorem seq_rt {e1 : Ev} (q1 : a e h = some (.rt v, e1, h1)) : sSeq a b e h = some (.rt v, e1, h1) := by
  rw [sSeq_s, q1]
theorem seq_one {e1 : Ev} (q1 : a e h = some (.nx, e1, h1)) : sSeq a sNil e h = some (.nx, e1, h1) := by
  rw [sSeq_s, q1]; rfl
theorem if_t {t : Tst} {r : Option (Fl × Ev × Hh)} (q1 : t e h = some (true, h1)) (q2 : a e h1 = r) : sIf t a b e h = r := by
  rw [sIf_s, q1]; exact q2
theorem if_f {t : Tst} {r : Option (Fl × Ev × Hh)} (q1 : t e h = some (false, h1)) (q2 : b e h1 = r) : sIf t a b e h = r := by
  rw [sIf_s, q1]; exact q2
end
/-- a comprehension that changes the heap, over what is known from the start -/
theorem goN_ix {α : Type} {l : List α} {ι : α → Itm} {B : CB} (St : Nat → List Val → Hh → Prop) (hB : ∀ i (hi : i < l.length) acc h, St i acc h → ∃ acc2 h2, B (ι l[i]) acc h = some (acc2, h2) ∧ St (i + 1) acc2 h2) :
    ∀ (k i : Nat) (acc : List Val) (h : Hh), i + k = l.length → St i acc h → ∃ acc2 h2, goN (.st (l.map ι)) B k i acc h = some (acc2, h2) ∧ St l.length acc2 h2
  | 0, i, acc, h, e, st => by
    obtain rfl : i = l.length := by omega
    exact ⟨acc, h, by show (if (l.map ι).length = l.length then some (acc, h) else none) = _; rw [if_pos (by rw [List.length_map])], st⟩
  | k + 1, i, acc, h, e, st => by
    have hi : i < l.length := by omega
    obtain ⟨acc2, h2, hb, st2⟩ := hB i hi acc h st
    obtain ⟨acc3, h3, hr, st3⟩ := goN_ix St hB k (i + 1) acc2 h2 (by omega) st2
    refine ⟨acc3, h3, ?_, st3⟩
    show (match (l.map ι)[i]? with
      | none => none
      | some it => match B it acc h with
        | none => none
        | some (acc1, h1) => goN (.st (l.map ι)) B k (i + 1) acc1 h1) = _
    rw [List.getElem?_map, List.getElem?_eq_getElem hi]
    simp only [Option.map_some, hb]
    exact hr
end MP

/-! MPv: what holds behind a run: rules that go forward. -/
namespace MP
open PySem PySem.Spec L2

def Wo {α : Type} (r : Option α) (Q : α → Prop) : Prop := ∃ a, r = some a ∧ Q a
def Lk (r : Option (Option Val)) (Q : Val → Prop) : Prop := ∃ v, r = some (some v) ∧ Q v
def We (r : Option (Val × Hh)) (Q : Val → Hh → Prop) : Prop := ∃ v h, r = some (v, h) ∧ Q v h
def Wt (r : Option (Bool × Hh)) (Q : Bool → Hh → Prop) : Prop := ∃ v h, r = some (v, h) ∧ Q v h
def Wa (r : Option (List Val × Hh)) (Q : List Val → Hh → Prop) : Prop := ∃ v h, r = some (v, h) ∧ Q v h
def Wi (r : Option (Src × Hh)) (Q : Src → Hh → Prop) : Prop := ∃ v h, r = some (v, h) ∧ Q v h
def Wp (r : Option (Option Int × Hh)) (Q : Option Int → Hh → Prop) : Prop := ∃ v h, r = some (v, h) ∧ Q v h
def Ws (r : Option (Fl × Ev × Hh)) (N : Ev → Hh → Prop) (T : Val → Hh → Prop) (B C : Ev → Hh → Prop) : Prop :=
  ∃ fl e h, r = some (fl, e, h) ∧ (match fl with
    | .nx => N e h
    | .rt v => T v h
    | .bk => B e h
    | .ct => C e h)
/-- a bit; an integer; a list that may be changed -/
def Wb (v : Val) (Q : Bool → Prop) : Prop := ∃ c, v = .d (.bool c) ∧ Q c
def Wz (v : Val) (Q : Int → Prop) : Prop := ∃ c, v = .d (.int c) ∧ Q c
def Wl (o : Option Ob) (Q : List Val → Prop) : Prop := ∃ c, o = some (.lst c) ∧ Q c
/-- data out of a place -/
def Fz (v : Val) (h : Hh) (Q : D → Prop) : Prop := ∃ x h', frz 8 v h = some (x, h') ∧ Q x

/-- range(..) -/
def rgS (vs : List Val) : Option (List Itm) := match vs with
  | [.d (.int j)] => if sm62 j then some (rngItems 0 j.toNat) else none
  | [.d (.int i), .d (.int j)] => if sm62 i && sm62 j then some (rngItems i (j - i).toNat) else none
  | _ => none
/-! ### what follows, by names (no bound names: simp does not go ahead) -/
def KO (op : Op2) (u : Val) (Q : Val → Hh → Prop) : Val → Hh → Prop := fun v h => We (op u v h) Q
def KB (op : Op2) (fb : Exp) (e : Ev) (Q : Val → Hh → Prop) : Val → Hh → Prop := fun u h => We (fb e h) (KO op u Q)
def KU (f : Val → Hh → Option (Val × Hh)) (Q : Val → Hh → Prop) : Val → Hh → Prop := fun u h => We (f u h) Q
def KN (f : OpN) (Q : Val → Hh → Prop) : List Val → Hh → Prop := fun u h => We (f u h) Q
def KC2 (u : Val) (Q : List Val → Hh → Prop) : List Val → Hh → Prop := fun us h => Q (u :: us) h
def KC (fs : Exps) (e : Ev) (Q : List Val → Hh → Prop) : Val → Hh → Prop := fun u h => Wa (fs e h) (KC2 u Q)
def KT (Q : Val → Hh → Prop) : List Val → Hh → Prop := fun us h => We (mkT us h) Q
def KL (m : Bool) (Q : Val → Hh → Prop) : List Val → Hh → Prop := fun us h => We (mkL m us h) Q
def KAnd2 (fb : Exp) (e : Ev) (Q : Val → Hh → Prop) (u : Val) (h : Hh) : Bool → Prop := fun c => if c = true then We (fb e h) Q else Q u h
def KAnd (fb : Exp) (e : Ev) (Q : Val → Hh → Prop) : Val → Hh → Prop := fun u h => Wo (truV u h) (KAnd2 fb e Q u h)
def KOr2 (fb : Exp) (e : Ev) (Q : Val → Hh → Prop) (u : Val) (h : Hh) : Bool → Prop := fun c => if c = true then Q u h else We (fb e h) Q
def KOr (fb : Exp) (e : Ev) (Q : Val → Hh → Prop) : Val → Hh → Prop := fun u h => Wo (truV u h) (KOr2 fb e Q u h)
def KNot2 (Q : Val → Hh → Prop) (h : Hh) : Bool → Prop := fun c => Q (.d (.bool (!c))) h
def KNot (Q : Val → Hh → Prop) : Val → Hh → Prop := fun u h => Wo (truV u h) (KNot2 Q h)
def KIf (fa fb : Exp) (e : Ev) (Q : Val → Hh → Prop) : Bool → Hh → Prop := fun c h => if c = true then We (fa e h) Q else We (fb e h) Q
def KCh4 (o2 : Op2) (fc : Exp) (e : Ev) (Q : Val → Hh → Prop) (v : Val) (h : Hh) : Bool → Prop := fun c => if c = true then We (fc e h) (KO o2 v Q) else Q (.d (.bool false)) h
def KCh3 (o2 : Op2) (fc : Exp) (e : Ev) (Q : Val → Hh → Prop) (v : Val) : Val → Hh → Prop := fun z h => Wb z (KCh4 o2 fc e Q v h)
def KCh2 (o1 o2 : Op2) (fc : Exp) (e : Ev) (Q : Val → Hh → Prop) (u : Val) : Val → Hh → Prop := fun v h => We (o1 u v h) (KCh3 o2 fc e Q v)
def KCh1 (o1 o2 : Op2) (fb fc : Exp) (e : Ev) (Q : Val → Hh → Prop) : Val → Hh → Prop := fun u h => We (fb e h) (KCh2 o1 o2 fc e Q u)
def KV2 (Q : Bool → Hh → Prop) (h : Hh) : Bool → Prop := fun c => Q c h
def KV (Q : Bool → Hh → Prop) : Val → Hh → Prop := fun u h => Wo (truV u h) (KV2 Q h)
def KCm (Q : Bool → Hh → Prop) : Val → Hh → Prop := fun u h => Wb u (KV2 Q h)
def KTA (t2 : Tst) (e : Ev) (Q : Bool → Hh → Prop) : Bool → Hh → Prop := fun c h => if c = true then Wt (t2 e h) Q else Q false h
def KTO (t2 : Tst) (e : Ev) (Q : Bool → Hh → Prop) : Bool → Hh → Prop := fun c h => if c = true then Q true h else Wt (t2 e h) Q
def KTN (Q : Bool → Hh → Prop) : Bool → Hh → Prop := fun c h => Q (!c) h
def KP2 (Q : Option Int → Hh → Prop) (h : Hh) : Int → Prop := fun i => Q (some i) h
def KP (Q : Option Int → Hh → Prop) : Val → Hh → Prop := fun u h => Wz u (KP2 Q h)
def KS3 (m : Bool) (Q : Val → Hh → Prop) (v : Val) (lo : Option Int) : Option Int → Hh → Prop := fun hi h => We (opSl m v lo hi h) Q
def KS2 (m : Bool) (u : Opt) (e : Ev) (Q : Val → Hh → Prop) (v : Val) : Option Int → Hh → Prop := fun lo h => Wp (u e h) (KS3 m Q v lo)
def KS1 (m : Bool) (l u : Opt) (e : Ev) (Q : Val → Hh → Prop) : Val → Hh → Prop := fun v h => Wp (l e h) (KS2 m u e Q v)
def KM2 (m : OpM) (u : Val) (Q : Val → Hh → Prop) : List Val → Hh → Prop := fun us h => We (m u us h) Q
def KM (m : OpM) (fs : Exps) (e : Ev) (Q : Val → Hh → Prop) : Val → Hh → Prop := fun u h => mkind u h = some "list" ∧ Wa (fs e h) (KM2 m u Q)
def KSeq (b : Stm) (N : Ev → Hh → Prop) (T : Val → Hh → Prop) (B C : Ev → Hh → Prop) : Ev → Hh → Prop := fun e h => Ws (b e h) N T B C
def KAs2 (N : Ev → Hh → Prop) (h : Hh) : Ev → Prop := fun e => N e h
def KAs (g : Tgt) (e : Ev) (N : Ev → Hh → Prop) : Val → Hh → Prop := fun v h => Wo (asgV g v e) (KAs2 N h)
def KPar (is : List Nat) (e : Ev) (N : Ev → Hh → Prop) : List Val → Hh → Prop := fun vs h => Wo (setAll e is vs) (KAs2 N h)
def KSb4 (e : Ev) (N : Ev → Hh → Prop) : Hh → Prop := fun h => N e h
def KSb3 (st : Op3) (e : Ev) (N : Ev → Hh → Prop) (v x : Val) : Val → Hh → Prop := fun y h => Wo (st x y v h) (KSb4 e N)
def KSb2 (st : Op3) (fc : Exp) (e : Ev) (N : Ev → Hh → Prop) (v : Val) : Val → Hh → Prop := fun x h => We (fc e h) (KSb3 st e N v x)
def KSb1 (st : Op3) (fb fc : Exp) (e : Ev) (N : Ev → Hh → Prop) : Val → Hh → Prop := fun v h => We (fb e h) (KSb2 st fc e N v)
def KAu3 (i : Nat) (e : Ev) (N : Ev → Hh → Prop) : Val → Hh → Prop := fun w h => N (e.set i (some w)) h
def KAu2 (op : Op2) (i : Nat) (e : Ev) (N : Ev → Hh → Prop) (u : Val) : Val → Hh → Prop := fun v h => We (op u v h) (KAu3 i e N)
def KAu1 (op : Op2) (i : Nat) (fa : Exp) (e : Ev) (h : Hh) (N : Ev → Hh → Prop) : Val → Prop := fun u => We (fa e h) (KAu2 op i e N u)
def KIfS (a b : Stm) (e : Ev) (N : Ev → Hh → Prop) (T : Val → Hh → Prop) (B C : Ev → Hh → Prop) : Bool → Hh → Prop := fun c h => if c = true then Ws (a e h) N T B C else Ws (b e h) N T B C
def KDr (e : Ev) (N : Ev → Hh → Prop) : Val → Hh → Prop := fun u h => N e h
def KI2 (Q : Src → Hh → Prop) (h : Hh) : Src → Prop := fun s => Q s h
def KI (Q : Src → Hh → Prop) : Val → Hh → Prop := fun u h => Wo (srcV u h) (KI2 Q h)
def KE (Q : Src → Hh → Prop) : Val → Hh → Prop := fun u h => Wo (srcE u h) (KI2 Q h)
def KR2 (Q : Src → Hh → Prop) (h : Hh) : List Itm → Prop := fun its => Q (.st its) h
def KR (Q : Src → Hh → Prop) : List Val → Hh → Prop := fun us h => Wo (rgS us) (KR2 Q h)
def KLk (Q : Val → Hh → Prop) (h : Hh) : Val → Prop := fun v => Q v h
section
variable {α : Type} {e e1 : Ev} {h h1 : Hh} {fa fb fc : Exp} {fs : Exps} {i : Nat} {t t2 : Tst} {op o1 o2 : Op2} {opn : OpN} {a b : Stm} {v : Val} {vs : List Val} {c : Bool}
  {Q : Val → Hh → Prop} {Qb : Bool → Hh → Prop} {Qa : List Val → Hh → Prop} {Qp : Option Int → Hh → Prop} {Qi : Src → Hh → Prop} {N B C : Ev → Hh → Prop} {T : Val → Hh → Prop}
@[simp] theorem Wo_some {Q : α → Prop} {x : α} : Wo (some x) Q ↔ Q x := ⟨fun ⟨_, h, q⟩ => by cases h; exact q, fun q => ⟨_, rfl, q⟩⟩
@[simp] theorem Lk_some {Q : Val → Prop} : Lk (some (some v)) Q ↔ Q v := ⟨fun ⟨_, h, q⟩ => by cases h; exact q, fun q => ⟨_, rfl, q⟩⟩
@[simp] theorem We_some : We (some (v, h)) Q ↔ Q v h := ⟨fun ⟨_, _, h, q⟩ => by cases h; exact q, fun q => ⟨_, _, rfl, q⟩⟩
@[simp] theorem Wt_some : Wt (some (c, h)) Qb ↔ Qb c h := ⟨fun ⟨_, _, h, q⟩ => by cases h; exact q, fun q => ⟨_, _, rfl, q⟩⟩
@[simp] theorem Wa_some : Wa (some (vs, h)) Qa ↔ Qa vs h := ⟨fun ⟨_, _, h, q⟩ => by cases h; exact q, fun q => ⟨_, _, rfl, q⟩⟩
@[simp] theorem Wi_some {s : Src} : Wi (some (s, h)) Qi ↔ Qi s h := ⟨fun ⟨_, _, h, q⟩ => by cases h; exact q, fun q => ⟨_, _, rfl, q⟩⟩
@[simp] theorem Wp_some {o : Option Int} : Wp (some (o, h)) Qp ↔ Qp o h := ⟨fun ⟨_, _, h, q⟩ => by cases h; exact q, fun q => ⟨_, _, rfl, q⟩⟩
@[simp] theorem We_ite {p : Prop} [Decidable p] : We (if p then some (v, h) else none) Q ↔ p ∧ Q v h := by
  by_cases hp : p
  · rw [if_pos hp, We_some]; exact ⟨fun q => ⟨hp, q⟩, fun q => q.2⟩
  · rw [if_neg hp]; exact ⟨fun w => (by obtain ⟨_, _, q, _⟩ := w; cases q), fun q => (hp q.1).elim⟩
@[simp] theorem We_iteb {r r2 : Option (Val × Hh)} : We (if c = true then r else r2) Q ↔ (if c = true then We r Q else We r2 Q) := by cases c <;> simp
@[simp] theorem Ws_nx : Ws (some (.nx, e, h)) N T B C ↔ N e h := ⟨fun ⟨_, _, _, h, q⟩ => by cases h; exact q, fun q => ⟨_, _, _, rfl, q⟩⟩
@[simp] theorem Ws_rt : Ws (some (.rt v, e, h)) N T B C ↔ T v h := ⟨fun ⟨_, _, _, h, q⟩ => by cases h; exact q, fun q => ⟨_, _, _, rfl, q⟩⟩
@[simp] theorem Wb_b {Q : Bool → Prop} : Wb (.d (.bool c)) Q ↔ Q c := ⟨fun ⟨_, h, q⟩ => by cases h; exact q, fun q => ⟨_, rfl, q⟩⟩
@[simp] theorem Wz_i {Q : Int → Prop} {j : Int} : Wz (.d (.int j)) Q ↔ Q j := ⟨fun ⟨_, h, q⟩ => by cases h; exact q, fun q => ⟨_, rfl, q⟩⟩
@[simp] theorem Wl_l {Q : List Val → Prop} : Wl (some (.lst vs)) Q ↔ Q vs := ⟨fun ⟨_, h, q⟩ => by cases h; exact q, fun q => ⟨_, rfl, q⟩⟩
@[simp] theorem Fz_d {x : D} {Q : D → Prop} : Fz (.d x) h Q ↔ Q x := ⟨fun ⟨_, _, q, w⟩ => by rw [frz_d] at q; cases q; exact w, fun w => ⟨x, h, frz_d 8 x h, w⟩⟩
theorem Wo.mono {r : Option α} {Q Q' : α → Prop} (w : Wo r Q) (i : ∀ x, Q x → Q' x) : Wo r Q' := let ⟨x, h, q⟩ := w; ⟨x, h, i x q⟩
theorem We.mono {r : Option (Val × Hh)} {Q' : Val → Hh → Prop} (w : We r Q) (i : ∀ v h, Q v h → Q' v h) : We r Q' := let ⟨x, h, e, q⟩ := w; ⟨x, h, e, i x h q⟩
theorem Wt.mono {r : Option (Bool × Hh)} {Q' : Bool → Hh → Prop} (w : Wt r Qb) (i : ∀ v h, Qb v h → Q' v h) : Wt r Q' := let ⟨x, h, e, q⟩ := w; ⟨x, h, e, i x h q⟩
theorem Wa.mono {r : Option (List Val × Hh)} {Q' : List Val → Hh → Prop} (w : Wa r Qa) (i : ∀ v h, Qa v h → Q' v h) : Wa r Q' := let ⟨x, h, e, q⟩ := w; ⟨x, h, e, i x h q⟩
theorem Wi.mono {r : Option (Src × Hh)} {Q' : Src → Hh → Prop} (w : Wi r Qi) (i : ∀ v h, Qi v h → Q' v h) : Wi r Q' := let ⟨x, h, e, q⟩ := w; ⟨x, h, e, i x h q⟩
theorem Ws.mono {r : Option (Fl × Ev × Hh)} {N' B' C' : Ev → Hh → Prop} {T' : Val → Hh → Prop} (w : Ws r N T B C) (n : ∀ e h, N e h → N' e h) (t : ∀ v h, T v h → T' v h) (b : ∀ e h, B e h → B' e h) (c : ∀ e h, C e h → C' e h) : Ws r N' T' B' C' := by
  obtain ⟨fl, e, h, q, w⟩ := w
  refine ⟨fl, e, h, q, ?_⟩
  cases fl with
  | nx => exact n _ _ w
  | rt v => exact t _ _ w
  | bk => exact b _ _ w
  | ct => exact c _ _ w
theorem We.eq {r : Option (Val × Hh)} {v0 : Val} {h0 : Hh} (w : We r fun v h => v = v0 ∧ h = h0) : r = some (v0, h0) := by obtain ⟨v, h, e, rfl, rfl⟩ := w; exact e
/-- a run that is known -/
theorem We.of {r : Option (Val × Hh)} (q : r = some (v, h)) (w : Q v h) : We r Q := ⟨v, h, q, w⟩

/-! ### expressions -/
theorem We_var0 : We (eVar i e h) Q ↔ Lk e[i]? fun v => Q v h := by
  unfold eVar
  constructor
  · rintro ⟨v, h1, q, w⟩
    split at q
    · rename_i u hu; cases q; exact ⟨_, hu, w⟩
    · cases q
  · rintro ⟨v, hu, w⟩
    exact ⟨v, h, by rw [hu], w⟩
@[simp ↓] theorem We_D {x : D} : We (eD x e h) Q ↔ Q (.d x) h := We_some
theorem We_bin0 : We (eBin op fa fb e h) Q ↔ We (fa e h) fun u h1 => We (fb e h1) fun v h2 => We (op u v h2) Q := by
  constructor
  · rintro ⟨w, h3, q, qq⟩
    unfold eBin at q
    split at q
    · cases q
    · rename_i u h1 q1
      split at q
      · cases q
      · rename_i v h2 q2
        exact ⟨u, h1, q1, v, h2, q2, w, h3, q, qq⟩
  · rintro ⟨u, h1, q1, v, h2, q2, w, h3, q, qq⟩
    exact ⟨w, h3, bin_of q1 q2 q, qq⟩
theorem We_un0 {f : Val → Hh → Option (Val × Hh)} : We (eUn f fa e h) Q ↔ We (fa e h) fun u h1 => We (f u h1) Q := by
  constructor
  · rintro ⟨w, h3, q, qq⟩
    unfold eUn at q
    split at q
    · cases q
    · rename_i u h1 q1; exact ⟨u, h1, q1, w, h3, q, qq⟩
  · rintro ⟨u, h1, q1, w, h3, q, qq⟩
    exact ⟨w, h3, by rw [eUn_s, q1]; exact q, qq⟩
theorem We_args0 : We (eArgs opn fs e h) Q ↔ Wa (fs e h) fun us h1 => We (opn us h1) Q := by
  constructor
  · rintro ⟨w, h3, q, qq⟩
    unfold eArgs at q
    split at q
    · cases q
    · rename_i u h1 q1; exact ⟨u, h1, q1, w, h3, q, qq⟩
  · rintro ⟨u, h1, q1, w, h3, q, qq⟩
    exact ⟨w, h3, args_of' q1 q, qq⟩
@[simp ↓] theorem Wa_nil : Wa (aNil e h) Qa ↔ Qa [] h := Wa_some
theorem Wa_cons0 : Wa (aCons fa fs e h) Qa ↔ We (fa e h) fun u h1 => Wa (fs e h1) fun us h2 => Qa (u :: us) h2 := by
  constructor
  · rintro ⟨w, h3, q, qq⟩
    unfold aCons at q
    split at q
    · cases q
    · rename_i u h1 q1
      split at q
      · cases q
      · rename_i us h2 q2
        cases q
        exact ⟨u, h1, q1, us, _, q2, qq⟩
  · rintro ⟨u, h1, q1, us, h2, q2, qq⟩
    exact ⟨_, _, cons_of q1 q2, qq⟩
theorem We_tup0 : We (eTup fs e h) Q ↔ Wa (fs e h) fun us h1 => We (mkT us h1) Q := We_args0
theorem We_lst0 {m : Bool} : We (eLst m fs e h) Q ↔ Wa (fs e h) fun us h1 => We (mkL m us h1) Q := We_args0
theorem We_and0 : We (eAnd fa fb e h) Q ↔ We (fa e h) fun u h1 => Wo (truV u h1) fun c => if c = true then We (fb e h1) Q else Q u h1 := by
  constructor
  · rintro ⟨w, h3, q, qq⟩
    unfold eAnd at q
    split at q
    · cases q
    · rename_i u h1 q1
      split at q
      · rename_i q2; exact ⟨u, h1, q1, true, q2, ⟨w, h3, q, qq⟩⟩
      · rename_i q2; cases q; exact ⟨w, _, q1, false, q2, qq⟩
      · cases q
  · rintro ⟨u, h1, q1, c, q2, w⟩
    cases c with
    | true =>
      simp only [if_true] at w
      obtain ⟨v, h2, q3, qq⟩ := w
      exact ⟨v, h2, by rw [eAnd_s, q1]; simp only; rw [q2]; exact q3, qq⟩
    | false =>
      simp only [Bool.false_eq_true, if_false] at w
      exact ⟨u, h1, by rw [eAnd_s, q1]; simp only; rw [q2], w⟩
theorem We_or0 : We (eOr fa fb e h) Q ↔ We (fa e h) fun u h1 => Wo (truV u h1) fun c => if c = true then Q u h1 else We (fb e h1) Q := by
  constructor
  · rintro ⟨w, h3, q, qq⟩
    unfold eOr at q
    split at q
    · cases q
    · rename_i u h1 q1
      split at q
      · rename_i q2; cases q; exact ⟨w, _, q1, true, q2, qq⟩
      · rename_i q2; exact ⟨u, h1, q1, false, q2, ⟨w, h3, q, qq⟩⟩
      · cases q
  · rintro ⟨u, h1, q1, c, q2, w⟩
    cases c with
    | false =>
      simp only [Bool.false_eq_true, if_false] at w
      obtain ⟨v, h2, q3, qq⟩ := w
      exact ⟨v, h2, by rw [eOr_s, q1]; simp only; rw [q2]; exact q3, qq⟩
    | true =>
      simp only [if_true] at w
      exact ⟨u, h1, by rw [eOr_s, q1]; simp only; rw [q2], w⟩
theorem We_not0 : We (eNot fa e h) Q ↔ We (fa e h) fun u h1 => Wo (truV u h1) fun c => Q (.d (.bool (!c))) h1 := by
  constructor
  · rintro ⟨w, h3, q, qq⟩
    unfold eNot at q
    split at q
    · cases q
    · rename_i u h1 q1
      split at q
      · rename_i c q2; cases q; exact ⟨u, _, q1, c, q2, qq⟩
      · cases q
  · rintro ⟨u, h1, q1, c, q2, w⟩
    exact ⟨_, h1, by rw [eNot_s, q1]; simp only; rw [q2], w⟩
theorem We_if0 : We (eIf t fa fb e h) Q ↔ Wt (t e h) fun c h1 => if c = true then We (fa e h1) Q else We (fb e h1) Q := by
  constructor
  · rintro ⟨w, h3, q, qq⟩
    unfold eIf at q
    split at q
    · cases q
    · rename_i h1 q1; exact ⟨true, h1, q1, ⟨w, h3, q, qq⟩⟩
    · rename_i h1 q1; exact ⟨false, h1, q1, ⟨w, h3, q, qq⟩⟩
  · rintro ⟨c, h1, q1, w⟩
    cases c with
    | true => simp only [if_true] at w; obtain ⟨v, h2, q3, qq⟩ := w; exact ⟨v, h2, by rw [eIf_s, q1]; exact q3, qq⟩
    | false => simp only [Bool.false_eq_true, if_false] at w; obtain ⟨v, h2, q3, qq⟩ := w; exact ⟨v, h2, by rw [eIf_s, q1]; exact q3, qq⟩
/-- x < y < z: the first answer as a bit -/
theorem We_chain0 : We (eChain o1 o2 fa fb fc e h) Q ↔ We (fa e h) fun u h1 => We (fb e h1) fun v h2 => We (o1 u v h2) fun z h3 => Wb z fun c => if c = true then We (fc e h3) fun w h4 => We (o2 v w h4) Q else Q (.d (.bool false)) h3 := by
  constructor
  · rintro ⟨w, h5, q, qq⟩
    unfold eChain at q
    split at q
    · cases q
    · rename_i u h1 q1
      split at q
      · cases q
      · rename_i v h2 q2
        refine ⟨u, h1, q1, v, h2, q2, ?_⟩
        split at q
        · rename_i h3 q3
          split at q
          · cases q
          · rename_i w' h4 q4
            exact ⟨_, h3, q3, true, rfl, ⟨w', h4, q4, w, h5, q, qq⟩⟩
        · rename_i h3 q3
          cases q
          exact ⟨_, _, q3, false, rfl, qq⟩
        · cases q
  · rintro ⟨u, h1, q1, v, h2, q2, z, h3, q3, c, rfl, w⟩
    cases c with
    | true =>
      simp only [if_true] at w
      obtain ⟨w', h4, q4, x, h5, q5, qq⟩ := w
      exact ⟨x, h5, by rw [eChain_s, q1]; simp only; rw [q2]; simp only; rw [q3]; simp only; rw [q4]; exact q5, qq⟩
    | false =>
      simp only [Bool.false_eq_true, if_false] at w
      exact ⟨_, h3, by rw [eChain_s, q1]; simp only; rw [q2]; simp only; rw [q3], w⟩
/-! ### tests -/
theorem Wt_val0 : Wt (tVal fa e h) Qb ↔ We (fa e h) fun u h1 => Wo (truV u h1) fun c => Qb c h1 := by
  constructor
  · rintro ⟨w, h3, q, qq⟩
    unfold tVal at q
    split at q
    · cases q
    · rename_i u h1 q1
      split at q
      · rename_i c q2; cases q; exact ⟨u, _, q1, _, q2, qq⟩
      · cases q
  · rintro ⟨u, h1, q1, c, q2, w⟩
    exact ⟨c, h1, by rw [tVal_s, q1]; simp only; rw [q2], w⟩
theorem Wt_cmpr0 : Wt (tCmpr fa e h) Qb ↔ We (fa e h) fun u h1 => Wb u fun c => Qb c h1 := by
  constructor
  · rintro ⟨w, h3, q, qq⟩
    unfold tCmpr at q
    split at q
    · rename_i c h1 q1; cases q; exact ⟨_, _, q1, _, rfl, qq⟩
    · cases q
  · rintro ⟨u, h1, q1, c, rfl, w⟩
    exact ⟨c, h1, by rw [tCmpr_s, q1], w⟩
theorem Wt_and0 : Wt (tAnd2 t t2 e h) Qb ↔ Wt (t e h) fun c h1 => if c = true then Wt (t2 e h1) Qb else Qb false h1 := by
  constructor
  · rintro ⟨w, h3, q, qq⟩
    unfold tAnd2 at q
    split at q
    · cases q
    · rename_i h1 q1; exact ⟨true, h1, q1, ⟨w, h3, q, qq⟩⟩
    · rename_i h1 q1; cases q; exact ⟨false, _, q1, qq⟩
  · rintro ⟨c, h1, q1, w⟩
    cases c with
    | true => simp only [if_true] at w; obtain ⟨v, h2, q3, qq⟩ := w; exact ⟨v, h2, by rw [tAnd2_s, q1]; exact q3, qq⟩
    | false => simp only [Bool.false_eq_true, if_false] at w; exact ⟨_, h1, by rw [tAnd2_s, q1], w⟩
theorem Wt_or0 : Wt (tOr2 t t2 e h) Qb ↔ Wt (t e h) fun c h1 => if c = true then Qb true h1 else Wt (t2 e h1) Qb := by
  constructor
  · rintro ⟨w, h3, q, qq⟩
    unfold tOr2 at q
    split at q
    · cases q
    · rename_i h1 q1; cases q; exact ⟨true, _, q1, qq⟩
    · rename_i h1 q1; exact ⟨false, h1, q1, ⟨w, h3, q, qq⟩⟩
  · rintro ⟨c, h1, q1, w⟩
    cases c with
    | false => simp only [Bool.false_eq_true, if_false] at w; obtain ⟨v, h2, q3, qq⟩ := w; exact ⟨v, h2, by rw [tOr2_s, q1]; exact q3, qq⟩
    | true => simp only [if_true] at w; exact ⟨_, h1, by rw [tOr2_s, q1], w⟩
theorem Wt_not0 : Wt (tNot2 t e h) Qb ↔ Wt (t e h) fun c h1 => Qb (!c) h1 := by
  constructor
  · rintro ⟨w, h3, q, qq⟩
    unfold tNot2 at q
    split at q
    · cases q
    · rename_i c h1 q1; cases q; exact ⟨_, _, q1, qq⟩
  · rintro ⟨c, h1, q1, w⟩
    exact ⟨_, h1, by rw [tNot2_s, q1], w⟩
@[simp ↓] theorem Wt_ys : Wt (tYs e h) Qb ↔ Qb true h := Wt_some
/-! ### slices -/
@[simp ↓] theorem Wp_none : Wp (oNone e h) Qp ↔ Qp none h := Wp_some
theorem Wp_some'0 : Wp (oSome fa e h) Qp ↔ We (fa e h) fun u h1 => Wz u fun i => Qp (some i) h1 := by
  constructor
  · rintro ⟨w, h3, q, qq⟩
    unfold oSome at q
    split at q
    · rename_i c h1 q1; cases q; exact ⟨_, _, q1, _, rfl, qq⟩
    · cases q
  · rintro ⟨u, h1, q1, c, rfl, w⟩
    exact ⟨_, h1, by rw [oSome_s, q1], w⟩
theorem We_sl0 {m : Bool} {l u : Opt} : We (eSl m fa l u e h) Q ↔ We (fa e h) fun v h1 => Wp (l e h1) fun lo h2 => Wp (u e h2) fun hi h3 => We (opSl m v lo hi h3) Q := by
  constructor
  · rintro ⟨w, h5, q, qq⟩
    unfold eSl at q
    split at q
    · cases q
    · rename_i v h1 q1
      split at q
      · cases q
      · rename_i lo h2 q2
        split at q
        · cases q
        · rename_i hi h3 q3
          exact ⟨v, h1, q1, lo, h2, q2, hi, h3, q3, w, h5, q, qq⟩
  · rintro ⟨v, h1, q1, lo, h2, q2, hi, h3, q3, w, h5, q, qq⟩
    exact ⟨w, h5, by rw [eSl_s, q1]; simp only; rw [q2]; simp only; rw [q3]; exact q, qq⟩
/-! ### methods -/
theorem We_mth0 {m : OpM} : We (eMthL m fa fs e h) Q ↔ We (fa e h) fun u h1 => mkind u h1 = some "list" ∧ Wa (fs e h1) fun us h2 => We (m u us h2) Q := by
  constructor
  · rintro ⟨w, h3, q, qq⟩
    rw [eMthL_s] at q
    split at q
    · cases q
    · rename_i u h1 q1
      split at q
      · rename_i qk
        split at q
        · cases q
        · rename_i us h2 q2; exact ⟨u, h1, q1, qk, us, h2, q2, w, h3, q, qq⟩
      · cases q
  · rintro ⟨u, h1, q1, qk, us, h2, q2, w, h3, q, qq⟩
    exact ⟨w, h3, by rw [eMthL_s, q1]; simp only; rw [qk]; simp only; rw [q2]; exact q, qq⟩
/-! ### statements -/
@[simp ↓] theorem Ws_nil : Ws (sNil e h) N T B C ↔ N e h := Ws_nx
@[simp ↓] theorem Ws_brk : Ws (sBrk e h) N T B C ↔ B e h := ⟨fun ⟨_, _, _, h, q⟩ => by cases h; exact q, fun q => ⟨_, _, _, rfl, q⟩⟩
@[simp ↓] theorem Ws_cnt : Ws (sCnt e h) N T B C ↔ C e h := ⟨fun ⟨_, _, _, h, q⟩ => by cases h; exact q, fun q => ⟨_, _, _, rfl, q⟩⟩
theorem Ws_seq0 : Ws (sSeq a b e h) N T B C ↔ Ws (a e h) (fun e1 h1 => Ws (b e1 h1) N T B C) T B C := by
  constructor
  · rintro ⟨fl, e2, h2, q, w⟩
    unfold sSeq at q
    split at q
    · cases q
    · rename_i e1 h1 q1; exact ⟨.nx, e1, h1, q1, fl, e2, h2, q, w⟩
    · rename_i r hn q1
      cases q
      refine ⟨fl, e2, h2, q1, ?_⟩
      cases fl with
      | nx => exact (hn _ _ rfl).elim
      | _ => exact w
  · rintro ⟨fl, e1, h1, q1, w⟩
    cases fl with
    | nx =>
      obtain ⟨fl, e2, h2, q2, w⟩ := w
      exact ⟨fl, e2, h2, seq_nx q1 q2, w⟩
    | rt v => exact ⟨.rt v, e1, h1, seq_rt q1, w⟩
    | bk => exact ⟨.bk, e1, h1, by rw [sSeq_s, q1], w⟩
    | ct => exact ⟨.ct, e1, h1, by rw [sSeq_s, q1], w⟩
theorem Ws_asg0 {g : Tgt} : Ws (sAsg fa g e h) N T B C ↔ We (fa e h) fun v h1 => Wo (asgV g v e) fun e1 => N e1 h1 := by
  constructor
  · rintro ⟨fl, e2, h2, q, w⟩
    unfold sAsg at q
    split at q
    · cases q
    · rename_i v h1 q1
      split at q
      · cases q
      · rename_i e1 q2; cases q; exact ⟨v, _, q1, _, q2, w⟩
  · rintro ⟨v, h1, q1, e1, q2, w⟩
    exact ⟨.nx, e1, h1, by rw [sAsg_s, q1]; simp only; rw [q2], w⟩
theorem Ws_par0 {is : List Nat} : Ws (sPar fs is e h) N T B C ↔ Wa (fs e h) fun vs h1 => Wo (setAll e is vs) fun e1 => N e1 h1 := by
  constructor
  · rintro ⟨fl, e2, h2, q, w⟩
    unfold sPar at q
    split at q
    · cases q
    · rename_i v h1 q1
      split at q
      · cases q
      · rename_i e1 q2; cases q; exact ⟨v, _, q1, _, q2, w⟩
  · rintro ⟨v, h1, q1, e1, q2, w⟩
    exact ⟨.nx, e1, h1, by rw [sPar_s, q1]; simp only; rw [q2], w⟩
theorem Ws_sub0 {st : Op3} : Ws (sSub st fa fb fc e h) N T B C ↔ We (fa e h) fun v h1 => We (fb e h1) fun x h2 => We (fc e h2) fun y h3 => Wo (st x y v h3) fun h4 => N e h4 := by
  constructor
  · rintro ⟨fl, e2, h2, q, w⟩
    unfold sSub at q
    split at q
    · cases q
    · rename_i v h1 q1
      split at q
      · cases q
      · rename_i x h2 q2
        split at q
        · cases q
        · rename_i y h3 q3
          split at q
          · cases q
          · rename_i h4 q4; cases q; exact ⟨v, h1, q1, x, h2, q2, y, h3, q3, _, q4, w⟩
  · rintro ⟨v, h1, q1, x, h2, q2, y, h3, q3, h4, q4, w⟩
    exact ⟨.nx, e, h4, by rw [sSub_s, q1]; simp only; rw [q2]; simp only; rw [q3]; simp only; rw [q4], w⟩
theorem Ws_aug0 : Ws (sAug op i fa e h) N T B C ↔ Lk e[i]? fun u => We (fa e h) fun v h1 => We (op u v h1) fun w h2 => N (e.set i (some w)) h2 := by
  constructor
  · rintro ⟨fl, e2, h2, q, w⟩
    unfold sAug at q
    split at q
    · rename_i u qu
      split at q
      · cases q
      · rename_i v h1 q1
        split at q
        · cases q
        · rename_i z h2 q2; cases q; exact ⟨u, qu, v, h1, q1, z, _, q2, w⟩
    · cases q
  · rintro ⟨u, qu, v, h1, q1, z, h2, q2, w⟩
    exact ⟨.nx, _, h2, by rw [sAug_s, qu]; simp only; rw [q1]; simp only; rw [q2], w⟩
theorem Ws_if0 : Ws (sIf t a b e h) N T B C ↔ Wt (t e h) fun c h1 => if c = true then Ws (a e h1) N T B C else Ws (b e h1) N T B C := by
  constructor
  · rintro ⟨fl, e2, h2, q, w⟩
    unfold sIf at q
    split at q
    · cases q
    · rename_i h1 q1; exact ⟨true, h1, q1, ⟨fl, e2, h2, q, w⟩⟩
    · rename_i h1 q1; exact ⟨false, h1, q1, ⟨fl, e2, h2, q, w⟩⟩
  · rintro ⟨c, h1, q1, w⟩
    cases c with
    | true => simp only [if_true] at w; obtain ⟨fl, e2, h2, q, w⟩ := w; exact ⟨fl, e2, h2, if_t q1 q, w⟩
    | false => simp only [Bool.false_eq_true, if_false] at w; obtain ⟨fl, e2, h2, q, w⟩ := w; exact ⟨fl, e2, h2, if_f q1 q, w⟩
@[simp ↓] theorem Ws_ret : Ws (sRet fa e h) N T B C ↔ We (fa e h) T := by
  constructor
  · rintro ⟨fl, e2, h2, q, w⟩
    unfold sRet at q
    split at q
    · cases q
    · rename_i v h1 q1; cases q; exact ⟨v, _, q1, w⟩
  · rintro ⟨v, h1, q1, w⟩
    exact ⟨.rt v, e, h1, ret_of q1, w⟩
theorem Ws_drop0 : Ws (sDrop fa e h) N T B C ↔ We (fa e h) fun _ h1 => N e h1 := by
  constructor
  · rintro ⟨fl, e2, h2, q, w⟩
    unfold sDrop at q
    split at q
    · cases q
    · rename_i v h1 q1; cases q; exact ⟨v, _, q1, w⟩
  · rintro ⟨v, h1, q1, w⟩
    exact ⟨.nx, e, h1, drop_of q1, w⟩
/-! ### what is walked -/
theorem Wi_any0 : Wi (iAny fa e h) Qi ↔ We (fa e h) fun u h1 => Wo (srcV u h1) fun s => Qi s h1 := by
  constructor
  · rintro ⟨s, h2, q, w⟩
    unfold iAny at q
    split at q
    · cases q
    · rename_i v h1 q1
      split at q
      · rename_i s q2; cases q; exact ⟨v, _, q1, _, q2, w⟩
      · cases q
  · rintro ⟨v, h1, q1, s, q2, w⟩
    exact ⟨s, h1, by unfold iAny; rw [q1]; simp only; rw [q2], w⟩
theorem Wi_enu0 : Wi (iEnu fa e h) Qi ↔ We (fa e h) fun u h1 => Wo (srcE u h1) fun s => Qi s h1 := by
  constructor
  · rintro ⟨s, h2, q, w⟩
    unfold iEnu at q
    split at q
    · cases q
    · rename_i v h1 q1
      split at q
      · rename_i s q2; cases q; exact ⟨v, _, q1, _, q2, w⟩
      · cases q
  · rintro ⟨v, h1, q1, s, q2, w⟩
    exact ⟨s, h1, by unfold iEnu; rw [q1]; simp only; rw [q2], w⟩
theorem Wi_rg0 : Wi (iRg fs e h) Qi ↔ Wa (fs e h) fun us h1 => Wo (rgS us) fun its => Qi (.st its) h1 := by
  constructor
  · rintro ⟨s, h2, q, w⟩
    unfold iRg at q
    split at q
    · rename_i j h1 q1
      split at q
      · rename_i hs; cases q; exact ⟨_, _, q1, _, by unfold rgS; simp only [hs, if_true], w⟩
      · cases q
    · rename_i i j h1 q1
      split at q
      · rename_i hs; cases q; exact ⟨_, _, q1, _, by unfold rgS; simp only [hs, if_true], w⟩
      · cases q
    · cases q
  · rintro ⟨us, h1, q1, its, q2, w⟩
    refine ⟨.st its, h1, ?_, w⟩
    unfold iRg
    unfold rgS at q2
    split at q2
    · split at q2
      · rename_i hs; cases q2; rw [q1]; simp only [hs, if_true]
      · cases q2
    · split at q2
      · rename_i hs; cases q2; rw [q1]; simp only [hs, if_true]
      · cases q2
    · cases q2
theorem rg_1 {n : Nat} (hn : n < 4611686018427387904) : rgS [.d (.int n)] = some ((List.range n).map fun (k : Nat) => .one (.d (.int k))) := by
  unfold rgS
  have hs : sm62 (n : Int) = true := by unfold sm62; simp; omega
  simp only [hs, if_true, Int.toNat_natCast]
  unfold rngItems
  simp
theorem rg_2 {m n : Nat} (hn : n < 4611686018427387904) (hm : m < 4611686018427387904) : rgS [.d (.int m), .d (.int n)] = some ((List.range' m (n - m)).map fun (k : Nat) => .one (.d (.int k))) := by
  unfold rgS
  have hs : sm62 (n : Int) = true := by unfold sm62; simp; omega
  have hs2 : sm62 (m : Int) = true := by unfold sm62; simp; omega
  simp only [hs, hs2, Bool.and_self, if_true]
  have e : ((n : Int) - m).toNat = n - m := by omega
  rw [e]
  unfold rngItems
  rw [List.range'_eq_map_range, List.map_map]
  simp [Function.comp_def]
@[simp] theorem srcV_t {ds : List D} : srcV (.d (.tuple ds)) h = some (.st (ds.map fun x => .one (.d x))) := rfl
@[simp] theorem srcV_l {ds : List D} : srcV (.d (.list ds)) h = some (.st (ds.map fun x => .one (.d x))) := rfl
@[simp] theorem srcE_t {ds : List D} : srcE (.d (.tuple ds)) h = some (.st (ds.zipIdx.map fun p => .two (.d (.int (p.2 : Nat))) (.d p.1))) := by
  show some (Src.st (enumFrom (ds.map .d) 0)) = _
  rw [enum_eq]
@[simp] theorem srcE_l {ds : List D} : srcE (.d (.list ds)) h = some (.st (ds.zipIdx.map fun p => .two (.d (.int (p.2 : Nat))) (.d p.1))) := by
  show some (Src.st (enumFrom (ds.map .d) 0)) = _
  rw [enum_eq]
@[simp] theorem KO_s {op : Op2} {u : Val} {Q : Val → Hh → Prop} {v : Val} {h : Hh} : KO op u Q v h ↔ We (op u v h) Q := ⟨id, id⟩
@[simp] theorem KB_s {op : Op2} {fb : Exp} {e : Ev} {Q : Val → Hh → Prop} {u : Val} {h : Hh} : KB op fb e Q u h ↔ We (fb e h) (KO op u Q) := ⟨id, id⟩
@[simp] theorem KU_s {f : Val → Hh → Option (Val × Hh)} {Q : Val → Hh → Prop} {u : Val} {h : Hh} : KU f Q u h ↔ We (f u h) Q := ⟨id, id⟩
@[simp] theorem KN_s {f : OpN} {Q : Val → Hh → Prop} {u : List Val} {h : Hh} : KN f Q u h ↔ We (f u h) Q := ⟨id, id⟩
@[simp] theorem KC2_s {u : Val} {Q : List Val → Hh → Prop} {us : List Val} {h : Hh} : KC2 u Q us h ↔ Q (u :: us) h := ⟨id, id⟩
@[simp] theorem KC_s {fs : Exps} {e : Ev} {Q : List Val → Hh → Prop} {u : Val} {h : Hh} : KC fs e Q u h ↔ Wa (fs e h) (KC2 u Q) := ⟨id, id⟩
@[simp] theorem KT_s {Q : Val → Hh → Prop} {us : List Val} {h : Hh} : KT Q us h ↔ We (mkT us h) Q := ⟨id, id⟩
@[simp] theorem KL_s {m : Bool} {Q : Val → Hh → Prop} {us : List Val} {h : Hh} : KL m Q us h ↔ We (mkL m us h) Q := ⟨id, id⟩
@[simp] theorem KAnd2_s {fb : Exp} {e : Ev} {Q : Val → Hh → Prop} {u : Val} {h : Hh} {c : Bool} : KAnd2 fb e Q u h c ↔ if c = true then We (fb e h) Q else Q u h := ⟨id, id⟩
@[simp] theorem KAnd_s {fb : Exp} {e : Ev} {Q : Val → Hh → Prop} {u : Val} {h : Hh} : KAnd fb e Q u h ↔ Wo (truV u h) (KAnd2 fb e Q u h) := ⟨id, id⟩
@[simp] theorem KOr2_s {fb : Exp} {e : Ev} {Q : Val → Hh → Prop} {u : Val} {h : Hh} {c : Bool} : KOr2 fb e Q u h c ↔ if c = true then Q u h else We (fb e h) Q := ⟨id, id⟩
@[simp] theorem KOr_s {fb : Exp} {e : Ev} {Q : Val → Hh → Prop} {u : Val} {h : Hh} : KOr fb e Q u h ↔ Wo (truV u h) (KOr2 fb e Q u h) := ⟨id, id⟩
@[simp] theorem KNot2_s {Q : Val → Hh → Prop} {h : Hh} {c : Bool} : KNot2 Q h c ↔ Q (.d (.bool (!c))) h := ⟨id, id⟩
@[simp] theorem KNot_s {Q : Val → Hh → Prop} {u : Val} {h : Hh} : KNot Q u h ↔ Wo (truV u h) (KNot2 Q h) := ⟨id, id⟩
@[simp] theorem KIf_s {fa fb : Exp} {e : Ev} {Q : Val → Hh → Prop} {c : Bool} {h : Hh} : KIf fa fb e Q c h ↔ if c = true then We (fa e h) Q else We (fb e h) Q := ⟨id, id⟩
@[simp] theorem KCh4_s {o2 : Op2} {fc : Exp} {e : Ev} {Q : Val → Hh → Prop} {v : Val} {h : Hh} {c : Bool} : KCh4 o2 fc e Q v h c ↔ if c = true then We (fc e h) (KO o2 v Q) else Q (.d (.bool false)) h := ⟨id, id⟩
@[simp] theorem KCh3_s {o2 : Op2} {fc : Exp} {e : Ev} {Q : Val → Hh → Prop} {v : Val} {z : Val} {h : Hh} : KCh3 o2 fc e Q v z h ↔ Wb z (KCh4 o2 fc e Q v h) := ⟨id, id⟩
@[simp] theorem KCh2_s {o1 o2 : Op2} {fc : Exp} {e : Ev} {Q : Val → Hh → Prop} {u : Val} {v : Val} {h : Hh} : KCh2 o1 o2 fc e Q u v h ↔ We (o1 u v h) (KCh3 o2 fc e Q v) := ⟨id, id⟩
@[simp] theorem KCh1_s {o1 o2 : Op2} {fb fc : Exp} {e : Ev} {Q : Val → Hh → Prop} {u : Val} {h : Hh} : KCh1 o1 o2 fb fc e Q u h ↔ We (fb e h) (KCh2 o1 o2 fc e Q u) := ⟨id, id⟩
@[simp] theorem KV2_s {Q : Bool → Hh → Prop} {h : Hh} {c : Bool} : KV2 Q h c ↔ Q c h := ⟨id, id⟩
@[simp] theorem KV_s {Q : Bool → Hh → Prop} {u : Val} {h : Hh} : KV Q u h ↔ Wo (truV u h) (KV2 Q h) := ⟨id, id⟩
@[simp] theorem KCm_s {Q : Bool → Hh → Prop} {u : Val} {h : Hh} : KCm Q u h ↔ Wb u (KV2 Q h) := ⟨id, id⟩
@[simp] theorem KTA_s {t2 : Tst} {e : Ev} {Q : Bool → Hh → Prop} {c : Bool} {h : Hh} : KTA t2 e Q c h ↔ if c = true then Wt (t2 e h) Q else Q false h := ⟨id, id⟩
@[simp] theorem KTO_s {t2 : Tst} {e : Ev} {Q : Bool → Hh → Prop} {c : Bool} {h : Hh} : KTO t2 e Q c h ↔ if c = true then Q true h else Wt (t2 e h) Q := ⟨id, id⟩
@[simp] theorem KTN_s {Q : Bool → Hh → Prop} {c : Bool} {h : Hh} : KTN Q c h ↔ Q (!c) h := ⟨id, id⟩
@[simp] theorem KP2_s {Q : Option Int → Hh → Prop} {h : Hh} {i : Int} : KP2 Q h i ↔ Q (some i) h := ⟨id, id⟩
@[simp] theorem KP_s {Q : Option Int → Hh → Prop} {u : Val} {h : Hh} : KP Q u h ↔ Wz u (KP2 Q h) := ⟨id, id⟩
@[simp] theorem KS3_s {m : Bool} {Q : Val → Hh → Prop} {v : Val} {lo : Option Int} {hi : Option Int} {h : Hh} : KS3 m Q v lo hi h ↔ We (opSl m v lo hi h) Q := ⟨id, id⟩
@[simp] theorem KS2_s {m : Bool} {u : Opt} {e : Ev} {Q : Val → Hh → Prop} {v : Val} {lo : Option Int} {h : Hh} : KS2 m u e Q v lo h ↔ Wp (u e h) (KS3 m Q v lo) := ⟨id, id⟩
@[simp] theorem KS1_s {m : Bool} {l u : Opt} {e : Ev} {Q : Val → Hh → Prop} {v : Val} {h : Hh} : KS1 m l u e Q v h ↔ Wp (l e h) (KS2 m u e Q v) := ⟨id, id⟩
@[simp] theorem KM2_s {m : OpM} {u : Val} {Q : Val → Hh → Prop} {us : List Val} {h : Hh} : KM2 m u Q us h ↔ We (m u us h) Q := ⟨id, id⟩
@[simp] theorem KM_s {m : OpM} {fs : Exps} {e : Ev} {Q : Val → Hh → Prop} {u : Val} {h : Hh} : KM m fs e Q u h ↔ mkind u h = some "list" ∧ Wa (fs e h) (KM2 m u Q) := ⟨id, id⟩
@[simp] theorem KSeq_s {b : Stm} {N : Ev → Hh → Prop} {T : Val → Hh → Prop} {B C : Ev → Hh → Prop} {e : Ev} {h : Hh} : KSeq b N T B C e h ↔ Ws (b e h) N T B C := ⟨id, id⟩
@[simp] theorem KAs2_s {N : Ev → Hh → Prop} {h : Hh} {e : Ev} : KAs2 N h e ↔ N e h := ⟨id, id⟩
@[simp] theorem KAs_s {g : Tgt} {e : Ev} {N : Ev → Hh → Prop} {v : Val} {h : Hh} : KAs g e N v h ↔ Wo (asgV g v e) (KAs2 N h) := ⟨id, id⟩
@[simp] theorem KPar_s {is : List Nat} {e : Ev} {N : Ev → Hh → Prop} {vs : List Val} {h : Hh} : KPar is e N vs h ↔ Wo (setAll e is vs) (KAs2 N h) := ⟨id, id⟩
@[simp] theorem KSb4_s {e : Ev} {N : Ev → Hh → Prop} {h : Hh} : KSb4 e N h ↔ N e h := ⟨id, id⟩
@[simp] theorem KSb3_s {st : Op3} {e : Ev} {N : Ev → Hh → Prop} {v x : Val} {y : Val} {h : Hh} : KSb3 st e N v x y h ↔ Wo (st x y v h) (KSb4 e N) := ⟨id, id⟩
@[simp] theorem KSb2_s {st : Op3} {fc : Exp} {e : Ev} {N : Ev → Hh → Prop} {v : Val} {x : Val} {h : Hh} : KSb2 st fc e N v x h ↔ We (fc e h) (KSb3 st e N v x) := ⟨id, id⟩
@[simp] theorem KSb1_s {st : Op3} {fb fc : Exp} {e : Ev} {N : Ev → Hh → Prop} {v : Val} {h : Hh} : KSb1 st fb fc e N v h ↔ We (fb e h) (KSb2 st fc e N v) := ⟨id, id⟩
@[simp] theorem KAu3_s {i : Nat} {e : Ev} {N : Ev → Hh → Prop} {w : Val} {h : Hh} : KAu3 i e N w h ↔ N (e.set i (some w)) h := ⟨id, id⟩
@[simp] theorem KAu2_s {op : Op2} {i : Nat} {e : Ev} {N : Ev → Hh → Prop} {u : Val} {v : Val} {h : Hh} : KAu2 op i e N u v h ↔ We (op u v h) (KAu3 i e N) := ⟨id, id⟩
@[simp] theorem KAu1_s {op : Op2} {i : Nat} {fa : Exp} {e : Ev} {h : Hh} {N : Ev → Hh → Prop} {u : Val} : KAu1 op i fa e h N u ↔ We (fa e h) (KAu2 op i e N u) := ⟨id, id⟩
@[simp] theorem KIfS_s {a b : Stm} {e : Ev} {N : Ev → Hh → Prop} {T : Val → Hh → Prop} {B C : Ev → Hh → Prop} {c : Bool} {h : Hh} : KIfS a b e N T B C c h ↔ if c = true then Ws (a e h) N T B C else Ws (b e h) N T B C := ⟨id, id⟩
@[simp] theorem KDr_s {e : Ev} {N : Ev → Hh → Prop} {u : Val} {h : Hh} : KDr e N u h ↔ N e h := ⟨id, id⟩
@[simp] theorem KI2_s {Q : Src → Hh → Prop} {h : Hh} {s : Src} : KI2 Q h s ↔ Q s h := ⟨id, id⟩
@[simp] theorem KI_s {Q : Src → Hh → Prop} {u : Val} {h : Hh} : KI Q u h ↔ Wo (srcV u h) (KI2 Q h) := ⟨id, id⟩
@[simp] theorem KE_s {Q : Src → Hh → Prop} {u : Val} {h : Hh} : KE Q u h ↔ Wo (srcE u h) (KI2 Q h) := ⟨id, id⟩
@[simp] theorem KR2_s {Q : Src → Hh → Prop} {h : Hh} {its : List Itm} : KR2 Q h its ↔ Q (.st its) h := ⟨id, id⟩
@[simp] theorem KR_s {Q : Src → Hh → Prop} {us : List Val} {h : Hh} : KR Q us h ↔ Wo (rgS us) (KR2 Q h) := ⟨id, id⟩
@[simp] theorem KLk_s {Q : Val → Hh → Prop} {h : Hh} {v : Val} : KLk Q h v ↔ Q v h := ⟨id, id⟩
section
variable {m : Bool} {f : Val → Hh → Option (Val × Hh)} {mm : OpM} {l u : Opt} {g : Tgt} {is : List Nat} {st : Op3}
@[simp ↓] theorem We_var : We (eVar i e h) Q ↔ Lk e[i]? (KLk Q h) := We_var0
@[simp ↓] theorem We_bin : We (eBin op fa fb e h) Q ↔ We (fa e h) (KB op fb e Q) := We_bin0
@[simp ↓] theorem We_un : We (eUn f fa e h) Q ↔ We (fa e h) (KU f Q) := We_un0
@[simp ↓] theorem We_args : We (eArgs opn fs e h) Q ↔ Wa (fs e h) (KN opn Q) := We_args0
@[simp ↓] theorem Wa_cons : Wa (aCons fa fs e h) Qa ↔ We (fa e h) (KC fs e Qa) := Wa_cons0
@[simp ↓] theorem We_tup : We (eTup fs e h) Q ↔ Wa (fs e h) (KT Q) := We_tup0
@[simp ↓] theorem We_lst : We (eLst m fs e h) Q ↔ Wa (fs e h) (KL m Q) := We_lst0
@[simp ↓] theorem We_and : We (eAnd fa fb e h) Q ↔ We (fa e h) (KAnd fb e Q) := We_and0
@[simp ↓] theorem We_or : We (eOr fa fb e h) Q ↔ We (fa e h) (KOr fb e Q) := We_or0
@[simp ↓] theorem We_not : We (eNot fa e h) Q ↔ We (fa e h) (KNot Q) := We_not0
@[simp ↓] theorem We_if : We (eIf t fa fb e h) Q ↔ Wt (t e h) (KIf fa fb e Q) := We_if0
@[simp ↓] theorem We_chain : We (eChain o1 o2 fa fb fc e h) Q ↔ We (fa e h) (KCh1 o1 o2 fb fc e Q) := We_chain0
@[simp ↓] theorem Wt_val : Wt (tVal fa e h) Qb ↔ We (fa e h) (KV Qb) := Wt_val0
@[simp ↓] theorem Wt_cmpr : Wt (tCmpr fa e h) Qb ↔ We (fa e h) (KCm Qb) := Wt_cmpr0
@[simp ↓] theorem Wt_and : Wt (tAnd2 t t2 e h) Qb ↔ Wt (t e h) (KTA t2 e Qb) := Wt_and0
@[simp ↓] theorem Wt_or : Wt (tOr2 t t2 e h) Qb ↔ Wt (t e h) (KTO t2 e Qb) := Wt_or0
@[simp ↓] theorem Wt_not : Wt (tNot2 t e h) Qb ↔ Wt (t e h) (KTN Qb) := Wt_not0
@[simp ↓] theorem Wp_some' : Wp (oSome fa e h) Qp ↔ We (fa e h) (KP Qp) := Wp_some'0
@[simp ↓] theorem We_sl : We (eSl m fa l u e h) Q ↔ We (fa e h) (KS1 m l u e Q) := We_sl0
@[simp ↓] theorem We_mth : We (eMthL mm fa fs e h) Q ↔ We (fa e h) (KM mm fs e Q) := We_mth0
@[simp ↓] theorem Ws_seq : Ws (sSeq a b e h) N T B C ↔ Ws (a e h) (KSeq b N T B C) T B C := Ws_seq0
@[simp ↓] theorem Ws_asg : Ws (sAsg fa g e h) N T B C ↔ We (fa e h) (KAs g e N) := Ws_asg0
@[simp ↓] theorem Ws_par : Ws (sPar fs is e h) N T B C ↔ Wa (fs e h) (KPar is e N) := Ws_par0
@[simp ↓] theorem Ws_sub : Ws (sSub st fa fb fc e h) N T B C ↔ We (fa e h) (KSb1 st fb fc e N) := Ws_sub0
@[simp ↓] theorem Ws_aug : Ws (sAug op i fa e h) N T B C ↔ Lk e[i]? (KAu1 op i fa e h N) := Ws_aug0
@[simp ↓] theorem Ws_if : Ws (sIf t a b e h) N T B C ↔ Wt (t e h) (KIfS a b e N T B C) := Ws_if0
@[simp ↓] theorem Ws_drop : Ws (sDrop fa e h) N T B C ↔ We (fa e h) (KDr e N) := Ws_drop0
@[simp ↓] theorem Wi_any : Wi (iAny fa e h) Qi ↔ We (fa e h) (KI Qi) := Wi_any0
@[simp ↓] theorem Wi_enu : Wi (iEnu fa e h) Qi ↔ We (fa e h) (KE Qi) := Wi_enu0
@[simp ↓] theorem Wi_rg : Wi (iRg fs e h) Qi ↔ Wa (fs e h) (KR Qi) := Wi_rg0
end
end
end MP

/-! MPw: loops, comprehensions, calls, changes. -/
namespace MP
open PySem PySem.Spec L2

/-- small enough for one more -/
def Small (n : Nat) : Prop := n < 16777216
/-- what follows a walk's source -/
def forS (s : Src) (tg : Tgt) (B els : Stm) : Stm := fun e h => match forN s tg B s.fuel 0 e h with
  | none => none
  | some (.nx, e2, h2) => els e2 h2
  | some (.bk, e2, h2) => some (.nx, e2, h2)
  | some (.ct, _, _) => none
  | some (.rt v, e2, h2) => some (.rt v, e2, h2)
def lcS (m : Bool) (s : Src) (own : List Nat) (tg : Tgt) (tst : Tst) (elt : Exp) : Exp := fun e h => match goAll s (lcB tg tst elt (wipeE e own)) [] h with
  | none => none
  | some (acc, h2) => mkL m acc h2
def lcS2 (m : Bool) (s : Src) (own : List Nat) (tg : Tgt) (tst : Tst) (src1 : ISrc) (own1 : List Nat) (tg1 : Tgt) (tst1 : Tst) (elt : Exp) : Exp := fun e h => match goAll s (lcB2 tg tst src1 own1 tg1 tst1 elt (wipeE e own)) [] h with
  | none => none
  | some (acc, h2) => mkL m acc h2
def KFor (tg : Tgt) (bd els : Stm) (e : Ev) (N : Ev → Hh → Prop) (T : Val → Hh → Prop) (B C : Ev → Hh → Prop) : Src → Hh → Prop := fun s h => Ws (forS s tg bd els e h) N T B C
def KLc (m : Bool) (own : List Nat) (tg : Tgt) (tst : Tst) (elt : Exp) (e : Ev) (Q : Val → Hh → Prop) : Src → Hh → Prop := fun s h => We (lcS m s own tg tst elt e h) Q
def KLc2 (m : Bool) (own : List Nat) (tg : Tgt) (tst : Tst) (src1 : ISrc) (own1 : List Nat) (tg1 : Tgt) (tst1 : Tst) (elt : Exp) (e : Ev) (Q : Val → Hh → Prop) : Src → Hh → Prop := fun s h => We (lcS2 m s own tg tst src1 own1 tg1 tst1 elt e h) Q
def KApp (n : Nat) (v : Val) (h : Hh) (Q : Val → Hh → Prop) : List Val → Prop := fun xs => Small xs.length ∧ Q (.d .none) (h.set n (.lst (xs ++ [v])))
def KExt (n : Nat) (ds : List D) (h : Hh) (Q : Val → Hh → Prop) : List Val → Prop := fun xs => Fits (xs.length + ds.length) ∧ Q (.d .none) (h.set n (.lst (xs ++ ds.map .d)))
def KPop2 (n : Nat) (h : Hh) (Q : Val → Hh → Prop) (xs : List Val) : Val → Prop := fun v => Q v (h.set n (.lst xs.dropLast))
def KPop (n : Nat) (h : Hh) (Q : Val → Hh → Prop) : List Val → Prop := fun xs => Wo xs.getLast? (KPop2 n h Q xs)
def KSet (n k : Nat) (v : Val) (h : Hh) (P : Hh → Prop) : List Val → Prop := fun xs => k < xs.length ∧ P (h.set n (.lst (xs.set k v)))
def KIx (h : Hh) (Q : Val → Hh → Prop) : D → Prop := fun x => Q (.d x) h
def KIx2 (i : Int) (h : Hh) (Q : Val → Hh → Prop) : List Val → Prop := fun xs => Wo (atI xs i) (KLk Q h)
section
variable {e : Ev} {h : Hh} {src src1 : ISrc} {own own1 : List Nat} {tg tg1 : Tgt} {tst tst1 : Tst} {elt : Exp} {m : Bool} {Q : Val → Hh → Prop} {N B C : Ev → Hh → Prop} {T : Val → Hh → Prop} {bd els : Stm} {t : Tst}
theorem Ws_for0 : Ws (sFor src tg bd els e h) N T B C ↔ Wi (src e h) fun s h1 => Ws (forS s tg bd els e h1) N T B C := by
  constructor
  · rintro ⟨fl, e2, h2, q, w⟩
    unfold sFor at q
    split at q
    · cases q
    · rename_i s h1 q1; exact ⟨s, h1, q1, fl, e2, h2, q, w⟩
  · rintro ⟨s, h1, q1, fl, e2, h2, q, w⟩
    refine ⟨fl, e2, h2, ?_, w⟩
    unfold sFor
    rw [q1]
    exact q
theorem We_lc0 : We (eLc m src own tg tst elt e h) Q ↔ Wi (src e h) fun s h1 => We (lcS m s own tg tst elt e h1) Q := by
  constructor
  · rintro ⟨v, h2, q, w⟩
    unfold eLc at q
    split at q
    · cases q
    · rename_i s h1 q1; exact ⟨s, h1, q1, v, h2, q, w⟩
  · rintro ⟨s, h1, q1, v, h2, q, w⟩
    refine ⟨v, h2, ?_, w⟩
    unfold eLc
    rw [q1]
    exact q
theorem We_lc20 : We (eLc2 m src own tg tst src1 own1 tg1 tst1 elt e h) Q ↔ Wi (src e h) fun s h1 => We (lcS2 m s own tg tst src1 own1 tg1 tst1 elt e h1) Q := by
  constructor
  · rintro ⟨v, h2, q, w⟩
    unfold eLc2 at q
    split at q
    · cases q
    · rename_i s h1 q1; exact ⟨s, h1, q1, v, h2, q, w⟩
  · rintro ⟨s, h1, q1, v, h2, q, w⟩
    refine ⟨v, h2, ?_, w⟩
    unfold eLc2
    rw [q1]
    exact q

@[simp ↓] theorem Ws_for : Ws (sFor src tg bd els e h) N T B C ↔ Wi (src e h) (KFor tg bd els e N T B C) := Ws_for0
@[simp ↓] theorem We_lc : We (eLc m src own tg tst elt e h) Q ↔ Wi (src e h) (KLc m own tg tst elt e Q) := We_lc0
@[simp ↓] theorem We_lc2 : We (eLc2 m src own tg tst src1 own1 tg1 tst1 elt e h) Q ↔ Wi (src e h) (KLc2 m own tg tst src1 own1 tg1 tst1 elt e Q) := We_lc20
@[simp] theorem KFor_s {s : Src} : KFor tg bd els e N T B C s h ↔ Ws (forS s tg bd els e h) N T B C := ⟨id, id⟩
@[simp] theorem KLc_s {s : Src} : KLc m own tg tst elt e Q s h ↔ We (lcS m s own tg tst elt e h) Q := ⟨id, id⟩
@[simp] theorem KLc2_s {s : Src} : KLc2 m own tg tst src1 own1 tg1 tst1 elt e Q s h ↔ We (lcS2 m s own tg tst src1 own1 tg1 tst1 elt e h) Q := ⟨id, id⟩
@[simp] theorem KApp_s {n : Nat} {v : Val} {xs : List Val} : KApp n v h Q xs ↔ Small xs.length ∧ Q (.d .none) (h.set n (.lst (xs ++ [v]))) := ⟨id, id⟩
@[simp] theorem KExt_s {n : Nat} {ds : List D} {xs : List Val} : KExt n ds h Q xs ↔ Fits (xs.length + ds.length) ∧ Q (.d .none) (h.set n (.lst (xs ++ ds.map .d))) := ⟨id, id⟩
@[simp] theorem KPop2_s {n : Nat} {v : Val} {xs : List Val} : KPop2 n h Q xs v ↔ Q v (h.set n (.lst xs.dropLast)) := ⟨id, id⟩
@[simp] theorem KPop_s {n : Nat} {xs : List Val} : KPop n h Q xs ↔ Wo xs.getLast? (KPop2 n h Q xs) := ⟨id, id⟩
@[simp] theorem KSet_s {n k : Nat} {v : Val} {P : Hh → Prop} {xs : List Val} : KSet n k v h P xs ↔ k < xs.length ∧ P (h.set n (.lst (xs.set k v))) := ⟨id, id⟩
@[simp] theorem KIx_s {x : D} : KIx h Q x ↔ Q (.d x) h := ⟨id, id⟩
@[simp] theorem KIx2_s {i : Int} {xs : List Val} : KIx2 i h Q xs ↔ Wo (atI xs i) (KLk Q h) := ⟨id, id⟩
/-! ### for -/
section
variable {α : Type} {l : List α} {ι : α → Itm}
/-- by the number of turns, over what is known; R: when it returns from within -/
theorem Ws_turns {s : Src} {K : Nat} (I : Nat → Ev → Hh → Prop) (hn : ∀ i e h, I i e h → s.now h = some (l.map ι)) (hK : l.length ≤ K) (h0 : I 0 e h)
    (hB : ∀ i (hi : i < l.length) e h, I i e h → Wo (asgI tg (ι l[i]) e) fun e1 => Ws (bd e1 h) (I (i + 1)) T N (I (i + 1))) :
    ∃ fl e2 h2, forN s tg bd K 0 e h = some (fl, e2, h2) ∧ (match fl with
      | .nx => I l.length e2 h2
      | .rt v => T v h2
      | .bk => N e2 h2
      | .ct => False) := by
  have key : ∀ (m k i : Nat), i + m = l.length → m ≤ k → ∀ e h, I i e h → ∃ fl e2 h2, forN s tg bd k i e h = some (fl, e2, h2) ∧ (match fl with
      | .nx => I l.length e2 h2
      | .rt v => T v h2
      | .bk => N e2 h2
      | .ct => False) := by
    intro m
    induction m with
    | zero =>
      intro k i hi hk e h st
      obtain rfl : i = l.length := by omega
      refine ⟨.nx, e, h, ?_, st⟩
      have hnow := hn _ e h st
      cases k with
      | zero =>
        unfold forN
        simp only [hnow]
        rw [if_pos (by rw [List.length_map])]
      | succ k =>
        unfold forN
        have h0 : (l.map ι)[l.length]? = none := List.getElem?_eq_none (by rw [List.length_map]; exact Nat.le_refl _)
        simp only [hnow, h0]
        rw [if_pos (by rw [List.length_map])]
    | succ m ih =>
      intro k i hi hk e h st
      obtain ⟨k, rfl⟩ : ∃ q, k = q + 1 := ⟨k - 1, by omega⟩
      have hl : i < l.length := by omega
      obtain ⟨e1, ha, fl, e2, h2, hb, w⟩ := hB i hl e h st
      have h0 : (l.map ι)[i]? = some (ι l[i]) := by rw [List.getElem?_map, List.getElem?_eq_getElem hl]; rfl
      conv => enter [1, fl, 1, e2, 1, h2, 1, 1]; unfold forN
      simp only [hn i e h st, h0, ha, hb]
      cases fl with
      | nx => exact ih k (i + 1) (by omega) (by omega) _ _ w
      | ct => exact ih k (i + 1) (by omega) (by omega) _ _ w
      | bk => exact ⟨.bk, e2, h2, rfl, w⟩
      | rt v => exact ⟨.rt v, e2, h2, rfl, w⟩
  exact key l.length K 0 (by omega) hK e h h0
theorem Ws_forS {s : Src} (I : Nat → Ev → Hh → Prop) (hn : ∀ i e h, I i e h → s.now h = some (l.map ι)) (hK : l.length ≤ s.fuel) (h0 : I 0 e h)
    (hB : ∀ i (hi : i < l.length) e h, I i e h → Wo (asgI tg (ι l[i]) e) fun e1 => Ws (bd e1 h) (I (i + 1)) T N (I (i + 1)))
    (hE : ∀ e h, I l.length e h → Ws (els e h) N T B C) : Ws (forS s tg bd els e h) N T B C := by
  obtain ⟨fl, e2, h2, q, w⟩ := Ws_turns (T := T) (N := N) I hn hK h0 hB
  cases fl with
  | nx =>
    obtain ⟨fl, e3, h3, q3, w⟩ := hE _ _ w
    exact ⟨fl, e3, h3, by unfold forS; rw [q]; exact q3, w⟩
  | rt v => exact ⟨.rt v, e2, h2, by unfold forS; rw [q], w⟩
  | bk => exact ⟨.nx, e2, h2, by unfold forS; rw [q], w⟩
  | ct => exact w.elim
/-- over what is known from the start -/
theorem Ws_fst (I : Nat → Ev → Hh → Prop) (h0 : I 0 e h)
    (hB : ∀ i (hi : i < l.length) e h, I i e h → Wo (asgI tg (ι l[i]) e) fun e1 => Ws (bd e1 h) (I (i + 1)) T N (I (i + 1)))
    (hE : ∀ e h, I l.length e h → Ws (els e h) N T B C) : Ws (forS (.st (l.map ι)) tg bd els e h) N T B C :=
  Ws_forS I (fun _ _ _ _ => rfl) (by show l.length ≤ (l.map ι).length; rw [List.length_map]; exact Nat.le_refl _) h0 hB hE
/-- the same, with what has been walked -/
theorem Ws_fpre (I : List α → Ev → Hh → Prop) (h0 : I [] e h)
    (hB : ∀ pre x post, l = pre ++ x :: post → ∀ e h, I pre e h → Wo (asgI tg (ι x) e) fun e1 => Ws (bd e1 h) (I (pre ++ [x])) T N (I (pre ++ [x])))
    (hE : ∀ e h, I l e h → Ws (els e h) N T B C) : Ws (forS (.st (l.map ι)) tg bd els e h) N T B C := by
  refine Ws_fst (fun i e h => I (l.take i) e h) h0 (fun i hi e h hI => ?_) fun e h hI => hE e h (by simpa using hI)
  have := hB (l.take i) l[i] (l.drop (i + 1)) (by rw [← List.drop_eq_getElem_cons hi, List.take_append_drop]) e h hI
  rwa [← List.take_succ_eq_append_getElem hi] at this
/-! ### comprehensions -/
/-- one that may change the heap -/
theorem We_lcI {s : Src} (I : Nat → List Val → Hh → Prop) (hz : l.length ≤ 16777216) (hs : s = .st (l.map ι)) (h0 : I 0 [] h)
    (hB : ∀ i (hi : i < l.length) acc h, I i acc h → Wo (asgI tg (ι l[i]) (wipeE e own)) fun e1 => Wt (tst e1 h) fun c h1 => if c = true then We (elt e1 h1) fun v h2 => I (i + 1) (acc ++ [v]) h2 else I (i + 1) acc h1)
    (hE : ∀ acc h, I l.length acc h → We (mkL m acc h) Q) : We (lcS m s own tg tst elt e h) Q := by
  subst hs
  obtain ⟨acc, h2, q, w, _⟩ := goN_ix (l := l) (ι := ι) (B := lcB tg tst elt (wipeE e own)) (fun i acc h => I i acc h ∧ acc.length ≤ i) (fun i hi acc h ⟨hI, ha⟩ => by
    obtain ⟨e1, q1, c, h1, q2, w⟩ := hB i hi acc h hI
    cases c with
    | false =>
      rw [if_neg (by decide)] at w
      exact ⟨acc, h1, by unfold lcB; rw [q1]; simp only; rw [q2], w, by omega⟩
    | true =>
      rw [if_pos rfl] at w
      obtain ⟨v, h2, q3, w⟩ := w
      refine ⟨acc ++ [v], h2, ?_, w, by rw [List.length_append]; simp; omega⟩
      unfold lcB; rw [q1]; simp only; rw [q2]; simp only; rw [q3]; simp only
      rw [if_pos (by rw [← size_eq]; omega)]) l.length 0 [] h (by omega) ⟨h0, by simp⟩
  obtain ⟨v, h3, q3, w⟩ := hE acc h2 w
  refine ⟨v, h3, ?_, w⟩
  unfold lcS goAll
  simp only [Src.now, List.length_map, q]
  exact q3
/-- one that leaves it, any kind of values, with a test -/
theorem We_lcV (p : α → Bool) (f : α → Val) (hz : l.length ≤ 16777215)
    (hB : ∀ x ∈ l, Wo (asgI tg (ι x) (wipeE e own)) fun e1 => Wt (tst e1 h) fun c h1 => c = p x ∧ h1 = h ∧ (p x = true → We (elt e1 h) fun v h2 => v = f x ∧ h2 = h))
    (hQ : We (mkL m ((l.filter p).map f) h) Q) : We (lcS m (.st (l.map ι)) own tg tst elt e h) Q := by
  obtain ⟨v, h2, q, w⟩ := hQ
  refine ⟨v, h2, ?_, w⟩
  have := eLc_vals (m := m) (src := fun _ h => some (.st (l.map ι), h)) (tst := tst) (elt := elt) (tg := tg) (own := own) (e := e) (h0 := h) (p := p) (f := f) rfl hz fun x hx => by
    obtain ⟨e1, q1, c, h1, q2, rfl, rfl, w⟩ := hB x hx
    refine ⟨e1, q1, q2, fun hp => ?_⟩
    obtain ⟨v, h2, q3, rfl, rfl⟩ := w hp
    exact q3
  rw [← q, ← this]
  rfl
/-- data, with a test -/
theorem We_lcF (p : α → Bool) (f : α → D) (hz : l.length ≤ 16777215)
    (hB : ∀ x ∈ l, Wo (asgI tg (ι x) (wipeE e own)) fun e1 => Wt (tst e1 h) fun c h1 => c = p x ∧ h1 = h ∧ (p x = true → We (elt e1 h) fun v h2 => v = .d (f x) ∧ h2 = h))
    (hQ : Q (.d (.list ((l.filter p).map f))) h) : We (lcS false (.st (l.map ι)) own tg tst elt e h) Q := by
  refine We_lcV p (fun x => .d (f x)) hz hB ?_
  rw [show (l.filter p).map (fun x => Val.d (f x)) = ((l.filter p).map f).map .d by rw [List.map_map]; rfl, mkL_map]
  exact We_some.mpr hQ
/-- data, no test -/
theorem We_lcM (f : α → D) (hz : l.length ≤ 16777215)
    (hB : ∀ x ∈ l, Wo (asgI tg (ι x) (wipeE e own)) fun e1 => We (elt e1 h) fun v h2 => v = .d (f x) ∧ h2 = h)
    (hQ : Q (.d (.list (l.map f))) h) : We (lcS false (.st (l.map ι)) own tg tYs elt e h) Q := by
  refine We_lcF (fun _ => true) f hz (fun x hx => ?_) (by rwa [List.filter_eq_self.mpr fun _ _ => rfl])
  obtain ⟨e1, q1, w⟩ := hB x hx
  exact ⟨e1, q1, Wt_some.mpr ⟨rfl, rfl, fun _ => w⟩⟩
theorem goN_bd {Bd : CB} {g : α → List Val} {w : α → Nat} (hB : ∀ x ∈ l, (g x).length ≤ w x ∧ ∀ acc : List Val, acc.length + w x ≤ 16777216 → Bd (ι x) acc h = some (acc ++ g x, h)) :
    ∀ (k i : Nat) (acc : List Val), i + k = l.length → acc.length + ((l.drop i).map w).sum ≤ 16777216 → goN (.st (l.map ι)) Bd k i acc h = some (acc ++ (l.drop i).flatMap g, h)
  | 0, i, acc, e, _ => by
    show (if (l.map ι).length = i then some (acc, h) else none) = _
    rw [if_pos (by rw [List.length_map]; omega), List.drop_eq_nil_of_le (by omega)]
    simp
  | k + 1, i, acc, e, hl => by
    have hi : i < l.length := by omega
    have e1 : (l.map ι)[i]? = some (ι l[i]) := by rw [List.getElem?_map, List.getElem?_eq_getElem hi]; rfl
    have ed : l.drop i = l[i] :: l.drop (i + 1) := List.drop_eq_getElem_cons hi
    obtain ⟨w1, w2⟩ := hB _ (List.getElem_mem hi)
    rw [ed, List.map_cons, List.sum_cons] at hl
    show (match (l.map ι)[i]? with
      | none => none
      | some it => match Bd it acc h with
        | none => none
        | some (acc1, h1) => goN (.st (l.map ι)) Bd k (i + 1) acc1 h1) = _
    rw [e1]
    simp only
    rw [w2 acc (by omega)]
    simp only
    rw [goN_bd hB k (i + 1) _ (by omega) (by rw [List.length_append]; omega), ed, List.flatMap_cons, List.append_assoc]
theorem sum_one {β : Type} : ∀ l : List β, (l.map fun _ => 1).sum = l.length
  | [] => rfl
  | a :: l => by rw [List.map_cons, List.sum_cons, sum_one l, List.length_cons]; omega
/-- two clauses: data, with tests -/
theorem We_lc2F {β : Type} (l1 : α → List β) (ι1 : α → β → Itm) (p : α → Bool) (p1 : α → β → Bool) (f : α → β → D) (hz : (l.map fun x => (l1 x).length).sum ≤ 16777215)
    (hB : ∀ x ∈ l, Wo (asgI tg (ι x) (wipeE e own)) fun e1 => Wt (tst e1 h) fun c h1 => c = p x ∧ h1 = h ∧ (p x = true → Wi (src1 e1 h) fun s h2 => s = .st ((l1 x).map (ι1 x)) ∧ h2 = h ∧ ∀ y ∈ l1 x, Wo (asgI tg1 (ι1 x y) (wipeE e1 own1)) fun e2 =>
      Wt (tst1 e2 h) fun c h1 => c = p1 x y ∧ h1 = h ∧ (p1 x y = true → We (elt e2 h) fun v h2 => v = .d (f x y) ∧ h2 = h)))
    (hQ : Q (.d (.list ((l.filter p).flatMap fun x => ((l1 x).filter (p1 x)).map (f x)))) h) : We (lcS2 false (.st (l.map ι)) own tg tst src1 own1 tg1 tst1 elt e h) Q := by
  have key := goN_bd (l := l) (ι := ι) (h := h) (Bd := lcB2 tg tst src1 own1 tg1 tst1 elt (wipeE e own)) (g := fun x => if p x = true then ((l1 x).filter (p1 x)).map fun y => Val.d (f x y) else []) (w := fun x => (l1 x).length) (fun x hx => by
    obtain ⟨e1, q1, c, h1, q2, rfl, rfl, w⟩ := hB x hx
    constructor
    · split
      · rw [List.length_map]; exact List.length_filter_le _ _
      · simp
    intro acc ha
    unfold lcB2
    rw [q1]
    simp only
    rw [q2]
    cases hp : p x with
    | false => simp
    | true =>
      obtain ⟨s, h2, q3, rfl, rfl, w⟩ := w hp
      simp only
      rw [q3]
      simp only [if_true]
      have one := goN_bd (l := l1 x) (ι := ι1 x) (Bd := lcB tg1 tst1 elt (wipeE e1 own1)) (h := h2) (g := fun y => if p1 x y = true then [Val.d (f x y)] else []) (w := fun _ => 1) (fun y hy => by
        obtain ⟨e2, r1, c, h1, r2, rfl, rfl, w⟩ := w y hy
        refine ⟨by split <;> simp, fun acc ha => adds_if r1 r2 (fun hp => ?_) acc (by omega)⟩
        obtain ⟨v, h2, r3, rfl, rfl⟩ := w hp
        exact r3) (l1 x).length 0 acc (by omega) (by rw [List.drop_zero, sum_one]; exact ha)
      rw [List.drop_zero, flat_if] at one
      show goN (.st ((l1 x).map (ι1 x))) _ ((l1 x).map (ι1 x)).length 0 acc h2 = _
      rw [List.length_map]
      exact one) l.length 0 [] (by omega) (by rw [List.drop_zero]; simp only [List.length_nil]; omega)
  rw [List.drop_zero, List.nil_append] at key
  refine ⟨_, h, ?_, hQ⟩
  unfold lcS2
  rw [show goAll (.st (l.map ι)) (lcB2 tg tst src1 own1 tg1 tst1 elt (wipeE e own)) [] h = goN (.st (l.map ι)) (lcB2 tg tst src1 own1 tg1 tst1 elt (wipeE e own)) (l.map ι).length 0 [] h from rfl, List.length_map, key]
  simp only
  rw [show (l.flatMap fun x => if p x = true then ((l1 x).filter (p1 x)).map fun y => Val.d (f x y) else []) = ((l.filter p).flatMap fun x => ((l1 x).filter (p1 x)).map (f x)).map .d from ?_, mkL_map]
  clear key hB hQ hz
  induction l with
  | nil => rfl
  | cons a l ih =>
    rw [List.flatMap_cons, ih, List.filter_cons]
    cases hp : p a with
    | false => simp
    | true => simp [List.flatMap_cons, Function.comp_def]
end
/-! ### while -/
theorem FUEL_pos : 1000000000000 < FUEL := by decide
theorem Ws_wh (I : Nat → Ev → Hh → Prop)
    (hB : ∀ k e h, I k e h → Wt (t e h) fun c h1 => if c = true then Ws (bd e h1) (fun e2 h2 => ∃ j, j < k ∧ I j e2 h2) T N (fun e2 h2 => ∃ j, j < k ∧ I j e2 h2) else Ws (els e h1) N T B C)
    {k : Nat} (hk : k < FUEL) (h0 : I k e h) : Ws (sWhile t bd els e h) N T B C := by
  have key : ∀ (k F : Nat), k < F → ∀ e h, I k e h → ∃ fl e2 h2, whileN t bd F e h = some (fl, e2, h2) ∧ (match fl with
      | .nx => Ws (els e2 h2) N T B C
      | .rt v => T v h2
      | .bk => N e2 h2
      | .ct => False) := by
    intro k
    induction k using Nat.strongRecOn with
    | _ k ih =>
      intro F hF e h hI
      obtain ⟨F, rfl⟩ : ∃ q, F = q + 1 := ⟨F - 1, by omega⟩
      obtain ⟨c, h1, q1, w⟩ := hB k e h hI
      unfold whileN
      rw [q1]
      cases c with
      | false => rw [if_neg (by decide)] at w; exact ⟨.nx, e, h1, rfl, w⟩
      | true =>
        rw [if_pos rfl] at w
        obtain ⟨fl, e2, h2, q2, w⟩ := w
        simp only
        rw [q2]
        cases fl with
        | nx => obtain ⟨j, hj, w⟩ := w; exact ih j hj F (by omega) e2 h2 w
        | ct => obtain ⟨j, hj, w⟩ := w; exact ih j hj F (by omega) e2 h2 w
        | bk => exact ⟨.bk, e2, h2, rfl, w⟩
        | rt v => exact ⟨.rt v, e2, h2, rfl, w⟩
  obtain ⟨fl, e2, h2, q, w⟩ := key k FUEL hk e h h0
  cases fl with
  | nx =>
    obtain ⟨fl, e3, h3, q3, w⟩ := w
    exact ⟨fl, e3, h3, by unfold sWhile; rw [q]; exact q3, w⟩
  | rt v => exact ⟨.rt v, e2, h2, by unfold sWhile; rw [q], w⟩
  | bk => exact ⟨.nx, e2, h2, by unfold sWhile; rw [q], w⟩
  | ct => exact w.elim
/-! ### calls -/
theorem We_callP {n : Nat} {body : Stm} {ds : List D} (hb : Ws (body (startE n (ds.map .d)) []) (fun _ _ => Q (.d .none) h) (fun v h2 => Fz v h2 fun x => Q (.d x) h) (fun _ _ => False) (fun _ _ => False)) : We (callP n body (ds.map .d) h) Q := by
  obtain ⟨fl, e2, h2, q, w⟩ := hb
  cases fl with
  | nx => exact ⟨_, h, by unfold callP; rw [frzL_map]; simp only [q], w⟩
  | rt v =>
    obtain ⟨x, h3, q3, w⟩ := w
    exact ⟨_, h, by unfold callP; rw [frzL_map]; simp only [q, q3], w⟩
  | bk => exact w.elim
  | ct => exact w.elim
theorem We_callS {n : Nat} {body : Stm} {vs : List Val} (hb : Ws (body (startE n vs) h) (fun _ h2 => Q (.d .none) h2) Q (fun _ _ => False) (fun _ _ => False)) : We (callS n body vs h) Q := by
  obtain ⟨fl, e2, h2, q, w⟩ := hb
  cases fl with
  | nx => exact ⟨_, h2, by unfold callS; simp only [q], w⟩
  | rt v => exact ⟨_, h2, by unfold callS; simp only [q], w⟩
  | bk => exact w.elim
  | ct => exact w.elim
/-- what a local list holds -/
theorem Fz_of {n : Nat} {vs : List Val} {ds : List D} {P : D → Prop} (g : h[n]? = some (.lst vs)) (q : vs = ds.map .d) (w : P (.list ds)) : Fz (.loc n) h P := by
  subst q
  refine ⟨.list ds, h.set n (.frz (.list ds)), ?_, w⟩
  show frz (7 + 1) (.loc n) h = _
  unfold frz
  simp only [g, frzL_map]
/-! ### changes of lists -/
@[simp] theorem We_append {n : Nat} {v : Val} : We (mAppend (.loc n) [v] h) Q ↔ Wl h[n]? (KApp n v h Q) := by
  unfold mAppend
  constructor
  · rintro ⟨w, h2, q, qq⟩
    simp only at q
    split at q
    · rename_i xs hx
      split at q
      · rename_i hl; cases q; exact ⟨xs, hx, by unfold Small; rw [size_eq]; exact hl, qq⟩
      · cases q
    · cases q
  · rintro ⟨xs, hx, hl, qq⟩
    unfold Small at hl
    rw [size_eq] at hl
    exact ⟨_, _, by simp only [hx, hl, if_true], qq⟩
@[simp] theorem We_extend_d {n : Nat} {ds : List D} : We (mExtend (.loc n) [.d (.list ds)] h) Q ↔ Wl h[n]? (KExt n ds h Q) := by
  unfold mExtend
  have e : listItems (.d (.list ds)) h = some (ds.map .d) := rfl
  constructor
  · rintro ⟨w, h2, q, qq⟩
    simp only [e] at q
    split at q
    · rename_i xs ys hx hy
      cases hy
      split at q
      · rename_i hl; cases q; exact ⟨xs, hx, by unfold Fits; rw [size_eq]; simpa using hl, qq⟩
      · cases q
    · cases q
  · rintro ⟨xs, hx, hl, qq⟩
    unfold Fits at hl
    rw [size_eq] at hl
    exact ⟨_, _, by simp only [e, hx]; rw [if_pos (by simpa using hl)], qq⟩
@[simp] theorem We_pop {n : Nat} : We (mPop (.loc n) [] h) Q ↔ Wl h[n]? (KPop n h Q) := by
  unfold mPop
  constructor
  · rintro ⟨w, h2, q, qq⟩
    simp only at q
    split at q
    · rename_i xs hx
      split at q
      · rename_i v hv; cases q; exact ⟨xs, hx, w, by rw [List.getLast?_eq_getElem?]; exact hv, qq⟩
      · cases q
    · cases q
  · rintro ⟨xs, hx, v, hv, qq⟩
    rw [List.getLast?_eq_getElem?] at hv
    exact ⟨_, _, by simp only [hx, hv], qq⟩
theorem ixn_nat {n j : Nat} (hj : j < n) : ixN n (j : Int) = some j := by
  unfold ixN
  rw [if_pos (by omega), if_pos (by omega)]
  simp
/-- xs[k] = v at a place -/
@[simp] theorem Wo_set {n k : Nat} {v : Val} {P : Hh → Prop} : Wo (opSet0 (.loc n) (.d (.int k)) v h) P ↔ Wl h[n]? (KSet n k v h P) := by
  unfold opSet0
  constructor
  · rintro ⟨h2, q, qq⟩
    simp only at q
    split at q
    · rename_i xs hx
      split at q
      · rename_i j hj
        cases q
        have hk : k < xs.length := by
          have := (L2.ixN_seq hj).2.2.2
          omega
        rw [ixn_nat hk] at hj
        cases hj
        exact ⟨xs, hx, hk, qq⟩
      · cases q
    · cases q
  · rintro ⟨xs, hx, hk, qq⟩
    exact ⟨_, by simp only [hx, ixn_nat hk], qq⟩
/-! ### places of sequences -/
theorem atI_map {α β : Type} {f : α → β} {xs : List α} {i : Int} : atI (xs.map f) i = (atI xs i).map f := by
  unfold atI
  rw [List.length_map]
  cases ixN xs.length i with
  | none => rfl
  | some j => simp
theorem We_ixD {ds : List D} {i : Int} {u : Val} (hu : seqItems u h = some (ds.map .d)) (hs : ∀ z, u ≠ .d (.str z)) : We (opIx0 u (.d (.int i)) h) Q ↔ Wo (atI ds i) (KIx h Q) := by
  have e : ixV u (.d (.int i)) h = (atI ds i).map .d := by
    unfold ixV
    split
    · exact (hs _ rfl).elim
    · rename_i j _ hj; cases hj; rw [hu]; exact atI_map
    · rename_i hx _; exact (hx _ rfl).elim
  unfold opIx0
  rw [e]
  constructor
  · rintro ⟨v, h2, q, w⟩
    cases hx : atI ds i with
    | none => rw [hx] at q; cases q
    | some x => rw [hx] at q; cases q; exact ⟨x, rfl, w⟩
  · rintro ⟨x, hx, w⟩
    rw [hx]
    exact ⟨_, _, rfl, w⟩
@[simp] theorem We_ix_t {ds : List D} {i : Int} : We (opIx0 (.d (.tuple ds)) (.d (.int i)) h) Q ↔ Wo (atI ds i) (KIx h Q) := We_ixD rfl fun _ q => by cases q
@[simp] theorem We_ix_l {ds : List D} {i : Int} : We (opIx0 (.d (.list ds)) (.d (.int i)) h) Q ↔ Wo (atI ds i) (KIx h Q) := We_ixD rfl fun _ q => by cases q
@[simp] theorem We_ix_loc {n : Nat} {i : Int} : We (opIx0 (.loc n) (.d (.int i)) h) Q ↔ Wo (listItems (.loc n) h) (KIx2 i h Q) := by
  have e : ixV (.loc n) (.d (.int i)) h = (match listItems (.loc n) h with
    | some us => atI us i
    | none => none) := rfl
  unfold opIx0
  rw [e]
  constructor
  · rintro ⟨v, h2, q, w⟩
    cases hx : listItems (.loc n) h with
    | none => rw [hx] at q; cases q
    | some xs =>
      rw [hx] at q
      simp only at q
      cases hy : atI xs i with
      | none => rw [hy] at q; cases q
      | some x => rw [hy] at q; cases q; exact ⟨xs, rfl, _, hy, w⟩
  · rintro ⟨xs, hx, x, hy, w⟩
    rw [hx]
    simp only [hy]
    exact ⟨_, _, rfl, w⟩
theorem li_loc {n : Nat} {xs : List Val} (q : h[n]? = some (.lst xs)) : listItems (.loc n) h = some xs := by
  unfold listItems
  simp only [q]
@[simp] theorem Wo_at {α : Type} {xs : List α} {i : Nat} {P : α → Prop} : Wo (atI xs (i : Int)) P ↔ ∃ q : i < xs.length, P xs[i] := by
  constructor
  · rintro ⟨x, q, w⟩
    unfold atI at q
    cases hj : ixN xs.length (i : Int) with
    | none => rw [hj] at q; cases q
    | some j =>
      rw [hj] at q
      have hk : i < xs.length := by
        have := (L2.ixN_seq hj).2.2.2
        omega
      rw [ixn_nat hk] at hj
      cases hj
      refine ⟨hk, ?_⟩
      change xs[i]? = some x at q
      rw [List.getElem?_eq_getElem hk] at q
      cases q
      exact w
  · rintro ⟨hk, w⟩
    exact ⟨_, at_nat (List.getElem?_eq_getElem hk), w⟩
@[simp] theorem Wo_at0 {α : Type} {xs : List α} {P : α → Prop} : Wo (atI xs 0) P ↔ ∃ q : 0 < xs.length, P xs[0] := Wo_at (i := 0)
@[simp] theorem Wo_at1 {α : Type} {xs : List α} {P : α → Prop} : Wo (atI xs 1) P ↔ ∃ q : 1 < xs.length, P xs[1] := Wo_at (i := 1)
@[simp] theorem Wo_at2 {α : Type} {xs : List α} {P : α → Prop} : Wo (atI xs 2) P ↔ ∃ q : 2 < xs.length, P xs[2] := Wo_at (i := 2)
@[simp] theorem Wo_at3 {α : Type} {xs : List α} {P : α → Prop} : Wo (atI xs 3) P ↔ ∃ q : 3 < xs.length, P xs[3] := Wo_at (i := 3)
@[simp] theorem Wo_set0 {n : Nat} {v : Val} {P : Hh → Prop} : Wo (opSet0 (.loc n) (.d (.int 0)) v h) P ↔ Wl h[n]? (KSet n 0 v h P) := Wo_set (k := 0)
@[simp] theorem Wo_set1 {n : Nat} {v : Val} {P : Hh → Prop} : Wo (opSet0 (.loc n) (.d (.int 1)) v h) P ↔ Wl h[n]? (KSet n 1 v h P) := Wo_set (k := 1)
@[simp] theorem Wo_set2 {n : Nat} {v : Val} {P : Hh → Prop} : Wo (opSet0 (.loc n) (.d (.int 2)) v h) P ↔ Wl h[n]? (KSet n 2 v h P) := Wo_set (k := 2)
@[simp] theorem Wo_set3 {n : Nat} {v : Val} {P : Hh → Prop} : Wo (opSet0 (.loc n) (.d (.int 3)) v h) P ↔ Wl h[n]? (KSet n 3 v h P) := Wo_set (k := 3)
end
end MP

/-! MPx: more rules that go forward: ranges, lists at places. -/
namespace MP
open PySem PySem.Spec L2

section
variable {e : Ev} {h : Hh} {fs : Exps} {m : Bool} {Q : Val → Hh → Prop} {n : Nat}
@[simp] theorem sm62_s {i : Int} : sm62 i = true ↔ -4611686018427387904 ≤ i ∧ i < 4611686018427387904 := by unfold sm62; simp
@[simp] theorem rg_one {j : Int} {P : List Itm → Prop} : Wo (rgS [.d (.int j)]) P ↔ (-4611686018427387904 ≤ j ∧ j < 4611686018427387904) ∧ P ((List.range j.toNat).map fun (k : Nat) => .one (.d (.int k))) := by
  have e : rngItems 0 j.toNat = (List.range j.toNat).map fun (k : Nat) => .one (.d (.int k)) := by unfold rngItems; simp
  unfold rgS
  rw [← sm62_s]
  simp only [e]
  cases sm62 j with
  | true => simp
  | false => simp [Wo]
@[simp] theorem rg_two {i j : Int} {P : List Itm → Prop} : Wo (rgS [.d (.int i), .d (.int j)]) P ↔ ((-4611686018427387904 ≤ i ∧ i < 4611686018427387904) ∧ (-4611686018427387904 ≤ j ∧ j < 4611686018427387904)) ∧ P ((List.range (j - i).toNat).map fun (k : Nat) => .one (.d (.int (i + k)))) := by
  unfold rgS
  rw [← sm62_s, ← sm62_s]
  have e : rngItems i (j - i).toNat = (List.range (j - i).toNat).map fun (k : Nat) => .one (.d (.int (i + k))) := rfl
  simp only [e]
  cases sm62 i <;> cases sm62 j <;> simp [Wo]
def lrS (vs : List Val) : Option (List Val) := match vs with
  | [.d (.int j)] => if decide (j ≤ 16777216) && sm62 j then some ((List.range j.toNat).map fun (k : Nat) => .d (.int (k : Nat))) else none
  | _ => none
def KLR (m : Bool) (Q : Val → Hh → Prop) : List Val → Hh → Prop := fun us h => Wo (lrS us) (fun vs => We (mkL m vs h) Q)
def KLR2 (m : Bool) (h : Hh) (Q : Val → Hh → Prop) : List Val → Prop := fun vs => We (mkL m vs h) Q
@[simp] theorem KLR_s {us : List Val} : KLR m Q us h ↔ Wo (lrS us) (KLR2 m h Q) := ⟨id, id⟩
@[simp] theorem KLR2_s {us : List Val} : KLR2 m h Q us ↔ We (mkL m us h) Q := ⟨id, id⟩
@[simp ↓] theorem We_lr : We (eLR m fs e h) Q ↔ Wa (fs e h) (KLR m Q) := by
  constructor
  · rintro ⟨v, h2, q, w⟩
    unfold eLR at q
    split at q
    · rename_i j h1 q1
      split at q
      · rename_i hz
        exact ⟨_, _, q1, _, by unfold lrS; simp only [hz, if_true], _, _, q, w⟩
      · cases q
    · cases q
  · rintro ⟨us, h1, q1, vs, q2, v, h2, q3, w⟩
    refine ⟨v, h2, ?_, w⟩
    unfold lrS at q2
    split at q2
    · split at q2
      · rename_i hz
        cases q2
        unfold eLR
        rw [q1]
        simp only [hz, if_true]
        exact q3
      · cases q2
    · cases q2
@[simp] theorem lr_one {j : Int} {P : List Val → Prop} : Wo (lrS [.d (.int j)]) P ↔ (j ≤ 16777216 ∧ -4611686018427387904 ≤ j) ∧ P ((List.range j.toNat).map fun (k : Nat) => .d (.int (k : Nat))) := by
  unfold lrS
  simp only
  by_cases h1 : j ≤ 16777216
  · by_cases h2 : -4611686018427387904 ≤ j
    · rw [if_pos (by rw [Bool.and_eq_true, sm62_s]; simp; omega)]
      simp [h1, h2]
    · rw [if_neg (by rw [Bool.and_eq_true, sm62_s]; simp; omega)]
      simp [Wo, h2]
  · rw [if_neg (by rw [Bool.and_eq_true, sm62_s]; simp; omega)]
    simp [Wo, h1]
/-! ### a place that holds a list -/
def KLi (P : List Val → Prop) : Ob → Prop := fun o => match o with
  | .lst vs => P vs
  | .frz (.list ds) => P (ds.map .d)
  | _ => False
@[simp] theorem KLi_l {P : List Val → Prop} {vs : List Val} : KLi P (.lst vs) ↔ P vs := ⟨id, id⟩
@[simp] theorem li_s {P : List Val → Prop} : Wo (listItems (.loc n) h) P ↔ Wo h[n]? (KLi P) := by
  unfold listItems
  constructor
  · rintro ⟨vs, q, w⟩
    simp only at q
    split at q
    · rename_i us hu; cases q; exact ⟨_, hu, w⟩
    · rename_i ds hd; cases q; exact ⟨_, hd, w⟩
    · cases q
  · rintro ⟨o, q, w⟩
    unfold KLi at w
    split at w
    · exact ⟨_, by simp only [q], w⟩
    · exact ⟨_, by simp only [q], w⟩
    · exact w.elim
def KLen (h : Hh) (Q : Val → Hh → Prop) : List Val → Prop := fun vs => Q (.d (.int vs.length)) h
@[simp] theorem KLen_s {vs : List Val} : KLen h Q vs ↔ Q (.d (.int vs.length)) h := ⟨id, id⟩
theorem mt {α : Type} {P : α → Prop} {r : Option α} {Q2 : Prop} (q : r = none → ¬ Q2) (q2 : ∀ x, r = some x → (Q2 ↔ P x)) : Q2 ↔ Wo r P := by
  cases r with
  | none => exact ⟨fun z => (q rfl z).elim, fun ⟨_, z, _⟩ => by cases z⟩
  | some x => rw [Wo_some]; exact q2 x rfl
theorem no_We : ¬ We none Q := fun ⟨_, _, q, _⟩ => by cases q
theorem no_Wo {α : Type} {P : α → Prop} : ¬ Wo none P := fun ⟨_, q, _⟩ => by cases q
@[simp] theorem We_len {n : Nat} : We (opLen [.loc n] h) Q ↔ Wo (listItems (.loc n) h) (KLen h Q) := by
  have e : opLen [.loc n] h = (match listItems (.loc n) h with
    | some us => some (.d (.int us.length), h)
    | none => none) := rfl
  rw [e]
  refine mt (fun q => ?_) fun us q => ?_
  · rw [q]; exact no_We
  · rw [q]; simp
def KTu (h : Hh) (Q : Val → Hh → Prop) : List Val → Prop := fun vs => We (mkT vs h) Q
@[simp] theorem KTu_s {vs : List Val} : KTu h Q vs ↔ We (mkT vs h) Q := ⟨id, id⟩
@[simp] theorem We_tupl {n : Nat} : We (opTuple [.loc n] h) Q ↔ Wo (listItems (.loc n) h) (KTu h Q) := by
  have e : opTuple [.loc n] h = (match listItems (.loc n) h with
    | some us => mkT us h
    | none => none) := rfl
  rw [e]
  refine mt (fun q => ?_) fun us q => ?_
  · rw [q]; exact no_We
  · rw [q]; exact ⟨id, id⟩
@[simp] theorem We_list {n : Nat} : We (opList m [.loc n] h) Q ↔ Wo (listItems (.loc n) h) (KLR2 m h Q) := by
  have e : opList m [.loc n] h = (match listItems (.loc n) h with
    | some us => mkL m us h
    | none => none) := rfl
  rw [e]
  refine mt (fun q => ?_) fun us q => ?_
  · rw [q]; exact no_We
  · rw [q]; exact ⟨id, id⟩
def KSv (n : Nat) (P : Src → Prop) : Ob → Prop := fun o => match o with
  | .lst _ => P (.lv n)
  | .frz (.list ds) => P (.st (ds.map fun x => .one (.d x)))
  | _ => False
@[simp] theorem KSv_l {P : Src → Prop} {vs : List Val} : KSv n P (.lst vs) ↔ P (.lv n) := ⟨id, id⟩
@[simp] theorem srcV_loc {P : Src → Prop} : Wo (srcV (.loc n) h) P ↔ Wo h[n]? (KSv n P) := by
  have e : srcV (.loc n) h = (match h[n]? with
    | some (.lst _) => some (.lv n)
    | some (.frz (.list ds)) => some (.st (ds.map fun x => .one (.d x)))
    | _ => none) := rfl
  rw [e]
  refine mt (fun q => ?_) fun o q => ?_
  · rw [q]; exact no_Wo
  · rw [q]
    unfold KSv
    cases o with
    | lst vs => simp
    | dct kv => simp [Wo]
    | frz x => cases x <;> simp [Wo]
def KSve (n : Nat) (P : Src → Prop) : Ob → Prop := fun o => match o with
  | .lst _ => P (.lve n)
  | .frz (.list ds) => P (.st (enumFrom (ds.map .d) 0))
  | _ => False
@[simp] theorem KSve_l {P : Src → Prop} {vs : List Val} : KSve n P (.lst vs) ↔ P (.lve n) := ⟨id, id⟩
@[simp] theorem srcE_loc {P : Src → Prop} : Wo (srcE (.loc n) h) P ↔ Wo h[n]? (KSve n P) := by
  have e : srcE (.loc n) h = (match h[n]? with
    | some (.lst _) => some (.lve n)
    | some (.frz (.list ds)) => some (.st (enumFrom (ds.map .d) 0))
    | _ => none) := rfl
  rw [e]
  refine mt (fun q => ?_) fun o q => ?_
  · rw [q]; exact no_Wo
  · rw [q]
    unfold KSve
    cases o with
    | lst vs => simp
    | dct kv => simp [Wo]
    | frz x => cases x <;> simp [Wo]
theorem mkind_loc {vs : List Val} (g : h[n]? = some (.lst vs)) : mkind (.loc n) h = some "list" := by
  unfold mkind
  simp only [li_loc g]
def KKi : Ob → Prop := fun o => match o with
  | .lst _ => True
  | .frz (.list _) => True
  | _ => False
@[simp] theorem KKi_l {vs : List Val} : KKi (.lst vs) ↔ True := ⟨id, id⟩
@[simp] theorem mkind_s : (mkind (.loc n) h = some "list") ↔ Wo h[n]? KKi := by
  unfold mkind
  have : Wo (listItems (.loc n) h) (fun _ => True) ↔ Wo h[n]? (KLi fun _ => True) := li_s
  have e2 : Wo h[n]? KKi ↔ Wo h[n]? (KLi fun _ => True) := by
    constructor
    · rintro ⟨o, q, w⟩; exact ⟨o, q, by unfold KKi at w; unfold KLi; split at w <;> simp_all⟩
    · rintro ⟨o, q, w⟩; exact ⟨o, q, by unfold KLi at w; unfold KKi; split at w <;> simp_all⟩
  rw [e2, ← this]
  cases q : listItems (.loc n) h <;> simp [q, Wo]
def KTr (P : Bool → Prop) : List Val → Prop := fun vs => P (!vs.isEmpty)
@[simp] theorem KTr_s {P : Bool → Prop} {vs : List Val} : KTr P vs ↔ P (!vs.isEmpty) := ⟨id, id⟩
@[simp] theorem truV_loc {P : Bool → Prop} : Wo (truV (.loc n) h) P ↔ Wo (listItems (.loc n) h) (KTr P) := by
  have e : truV (.loc n) h = (match listItems (.loc n) h with
    | some us => some (!us.isEmpty)
    | none => none) := rfl
  rw [e]
  refine mt (fun q => ?_) fun us q => ?_
  · rw [q]; exact no_Wo
  · rw [q]; simp [KTr]
def KPopI (n i : Nat) (h : Hh) (Q : Val → Hh → Prop) : List Val → Prop := fun xs => ∃ q : i < xs.length, Small i ∧ Q xs[i] (h.set n (.lst (xs.eraseIdx i)))
@[simp] theorem KPopI_s {i : Nat} {xs : List Val} : KPopI n i h Q xs ↔ ∃ q : i < xs.length, Small i ∧ Q xs[i] (h.set n (.lst (xs.eraseIdx i))) := ⟨id, id⟩
/-- xs.pop(i), one way -/
theorem We_popi {i : Nat} (w : Wl h[n]? (KPopI n i h Q)) : We (mPop (.loc n) [.d (.int i)] h) Q := by
  obtain ⟨xs, g, hi, hs, w⟩ := w
  have e : seqIndex? (i : Int) xs.length = some i := by
    unfold seqIndex?
    simp
    omega
  have e2 : smI (2 * (i : Int)) = true := by
    unfold smI
    unfold Small at hs
    rw [Nat.blt_eq]
    omega
  refine ⟨xs[i], _, ?_, w⟩
  unfold mPop
  simp only [g, e, List.getElem?_eq_getElem hi, e2, if_true]
/-! ### over a range -/
section
variable {tg : Tgt} {bd els : Stm} {N B C : Ev → Hh → Prop} {T : Val → Hh → Prop} {ι : Nat → Itm}
theorem Ws_frS {s : Src} (I : Nat → Ev → Hh → Prop) (hn : ∀ i e h, I i e h → s.now h = some ((List.range n).map ι)) (hK : n ≤ s.fuel) (h0 : I 0 e h)
    (hB : ∀ i, i < n → ∀ e h, I i e h → Wo (asgI tg (ι i) e) fun e1 => Ws (bd e1 h) (I (i + 1)) T N (I (i + 1)))
    (hE : ∀ e h, I n e h → Ws (els e h) N T B C) : Ws (forS s tg bd els e h) N T B C := by
  refine Ws_forS (l := List.range n) (ι := ι) I hn (by rw [List.length_range]; exact hK) h0 (fun i hi e h hI => ?_) (by rw [List.length_range]; exact hE)
  have hi2 : i < n := by rw [List.length_range] at hi; exact hi
  rw [show (List.range n)[i] = i from List.getElem_range hi]
  exact hB i hi2 e h hI
theorem Ws_fr (I : Nat → Ev → Hh → Prop) (h0 : I 0 e h)
    (hB : ∀ i, i < n → ∀ e h, I i e h → Wo (asgI tg (ι i) e) fun e1 => Ws (bd e1 h) (I (i + 1)) T N (I (i + 1)))
    (hE : ∀ e h, I n e h → Ws (els e h) N T B C) : Ws (forS (.st ((List.range n).map ι)) tg bd els e h) N T B C :=
  Ws_frS I (fun _ _ _ _ => rfl) (by show n ≤ ((List.range n).map ι).length; simp) h0 hB hE
theorem We_lcR {own : List Nat} {tst : Tst} {elt : Exp} (I : Nat → List Val → Hh → Prop) (hz : n ≤ 16777216) (h0 : I 0 [] h)
    (hB : ∀ i, i < n → ∀ acc h, I i acc h → Wo (asgI tg (ι i) (wipeE e own)) fun e1 => Wt (tst e1 h) fun c h1 => if c = true then We (elt e1 h1) fun v h2 => I (i + 1) (acc ++ [v]) h2 else I (i + 1) acc h1)
    (hE : ∀ acc h, I n acc h → We (mkL m acc h) Q) : We (lcS m (.st ((List.range n).map ι)) own tg tst elt e h) Q := by
  refine We_lcI (l := List.range n) (ι := ι) I (by rw [List.length_range]; exact hz) rfl h0 (fun i hi acc h hI => ?_) (by rw [List.length_range]; exact hE)
  have hi2 : i < n := by rw [List.length_range] at hi; exact hi
  rw [show (List.range n)[i] = i from List.getElem_range hi]
  exact hB i hi2 acc h hI
end
theorem fuel_lv : 1000000 ≤ (Src.lv n).fuel := Nat.le_of_lt (Nat.lt_trans (by decide) FUEL_pos)
theorem Wo_at' {α : Type} {xs : List α} {i : Int} {P : α → Prop} (j : Nat) (e : i = j) (q : j < xs.length) (w : P xs[j]) : Wo (atI xs i) P := by
  subst e
  exact Wo_at.mpr ⟨q, w⟩
theorem mulOk_of {i j : Int} (h : i.natAbs < 18446744073709551616 ∨ j.natAbs < 18446744073709551616) : mulOk i j = true := by
  unfold mulOk smI
  rw [Bool.or_eq_true, Bool.or_eq_true, Nat.blt_eq, Nat.blt_eq]
  exact .inl h
theorem fdiv_small {i j : Int} {h : Hh} (hj : 0 < j) (hl : j < 9000) : opFdiv (.d (.int i)) (.d (.int j)) h = some (.d (.int (i / j)), h) := by
  refine fdiv_pos hj ?_
  rw [Nat.blt_eq]
  have h1 : j.natAbs.log2 ≤ j.natAbs := by
    by_cases hz : j.natAbs = 0
    · rw [hz]; decide
    · exact Nat.le_of_lt (Nat.lt_of_lt_of_le (Nat.lt_two_pow_self) (Nat.log2_self_le hz))
  omega
end
end MP

/-! K40a: the text of the law as combinators (printed by gen.py). -/
namespace K40
open PySem PySem.Spec PyProof.Rows L2 MP
/-- is_number (value, least, most) -/
def b0 (F : FE) : Stm :=
 (sSeq (sRet (eAnd (eUn (opIsi PyData.isInt) (eVar 0)) (eAnd (eNot (eUn (opIsi PyData.isBool) (eVar 0))) (eChain opLe opLe (eVar 1) (eVar 0) (eVar 2)))))
 sNil)
/-- can_have (table, i, j, near, part, row) -/
def b1 (F : FE) : Stm :=
 (sSeq (sAsg (eBin (opAdd false) (eArgs (opList false) (aCons (eBin opIx0 (eVar 0) (eVar 1)) aNil)) (eLc false (iAny (eVar 0)) [5] (.nm 5) tYs (eBin opIx0 (eVar 5) (eVar 2)))) (.nm 3))
 (sSeq (sRet (eLc false (iRg (aCons (eArgs opLen (aCons (eVar 0) aNil)) aNil)) [4] (.nm 4) (tCmpr (eBin opNotIn0 (eVar 4) (eVar 3))) (eVar 4)))
 sNil))
/-- with_part (table, i, j, part, row) -/
def b2 (F : FE) : Stm :=
 (sSeq (sAsg (eBin (opAdd false) (eBin (opAdd false) (eSl false (eBin opIx0 (eVar 0) (eVar 1)) oNone (oSome (eVar 2))) (eTup (aCons (eVar 3) aNil))) (eSl false (eBin opIx0 (eVar 0) (eVar 1)) (oSome (eBin (opAdd false) (eVar 2) (eD (.int 1)))) oNone)) (.nm 4))
 (sSeq (sRet (eBin (opAdd false) (eBin (opAdd false) (eSl false (eVar 0) oNone (oSome (eVar 1))) (eTup (aCons (eVar 4) aNil))) (eSl false (eVar 0) (oSome (eBin (opAdd false) (eVar 1) (eD (.int 1)))) oNone)))
 sNil))
/-- first_gap (table, i, row, j, part) -/
def b3 (F : FE) : Stm :=
 (sSeq (sFor (iEnu (eVar 0)) (.tp [(.nm 1), (.nm 2)])
  (sSeq (sFor (iEnu (eVar 2)) (.tp [(.nm 3), (.nm 4)])
   (sSeq (sIf (tCmpr (eBin opIs (eVar 4) (eD .none)))
    (sSeq (sRet (eTup (aCons (eVar 1) (aCons (eVar 3) aNil))))
    sNil)
    sNil)
   sNil)
   sNil)
  sNil)
  sNil)
 (sSeq (sRet (eD .none))
 sNil))
/-- ends_of (table, most, found, waiting, here, gap, i, j, part) -/
def b4 (F : FE) : Stm :=
 (sSeq (sAsg (eLst true aNil) (.nm 2))
 (sSeq (sAsg (eLst true (aCons (eVar 0) aNil)) (.nm 3))
 (sSeq (sWhile (tAnd2 (tVal (eVar 3)) (tCmpr (eBin opLt (eArgs opLen (aCons (eVar 2) aNil)) (eVar 1))))
  (sSeq (sAsg (eMthL mPop (eVar 3) aNil) (.nm 4))
  (sSeq (sAsg (eArgs (F 3) (aCons (eVar 4) aNil)) (.nm 5))
  (sSeq (sIf (tCmpr (eBin opIs (eVar 5) (eD .none)))
   (sSeq (sDrop (eMthL mAppend (eVar 2) (aCons (eVar 4) aNil)))
   sNil)
   (sSeq (sAsg (eVar 5) (.tp [(.nm 6), (.nm 7)]))
   (sSeq (sDrop (eMthL mExtend (eVar 3) (aCons (eUn (opRev false) (eLc false (iAny (eArgs (F 1) (aCons (eVar 4) (aCons (eVar 6) (aCons (eVar 7) aNil))))) [8] (.nm 8) tYs (eArgs (F 2) (aCons (eVar 4) (aCons (eVar 6) (aCons (eVar 7) (aCons (eVar 8) aNil))))))) aNil)))
   sNil)))
  sNil)))
  sNil)
 (sSeq (sRet (eVar 2))
 sNil))))
/-- first_end (table, found) -/
def b5 (F : FE) : Stm :=
 (sSeq (sAsg (eArgs (F 4) (aCons (eVar 0) (aCons (eD (.int 1)) aNil))) (.nm 1))
 (sSeq (sRet (eIf (tVal (eVar 1)) (eBin opIx0 (eVar 1) (eD (.int 0))) (eD .none)))
 sNil))
/-- in_way (table, i, j, part, squares, k, x, y) -/
def b6 (F : FE) : Stm :=
 (sSeq (sAsg (eBin (opAdd false) (eLc false (iRg (aCons (eArgs opLen (aCons (eVar 0) aNil)) aNil)) [5] (.nm 5) tYs (eTup (aCons (eVar 1) (aCons (eVar 5) aNil)))) (eLc false (iRg (aCons (eArgs opLen (aCons (eVar 0) aNil)) aNil)) [5] (.nm 5) tYs (eTup (aCons (eVar 5) (aCons (eVar 2) aNil))))) (.nm 4))
 (sSeq (sRet (eArgs opMin (aCons (eLc false (iAny (eVar 4)) [6, 7] (.tp [(.nm 6), (.nm 7)]) (tCmpr (eBin opEq (eBin opIx0 (eBin opIx0 (eVar 0) (eVar 6)) (eVar 7)) (eVar 3))) (eTup (aCons (eVar 6) (aCons (eVar 7) aNil)))) aNil)))
 sNil))
/-- is_in_way (table, i, j, part, value, k) -/
def b7 (F : FE) : Stm :=
 (sSeq (sIf (tOr2 (tNot2 (tVal (eUn (opIsi PyData.isTuple) (eVar 4)))) (tOr2 (tCmpr (eBin opNe (eArgs opLen (aCons (eVar 4) aNil)) (eD (.int 2)))) (tNot2 (tVal (eArgs opAll (aCons (eLc false (iAny (eVar 4)) [5] (.nm 5) tYs (eArgs (F 0) (aCons (eVar 5) (aCons (eD (.int 0)) (aCons (eBin opSub (eArgs opLen (aCons (eVar 0) aNil)) (eD (.int 1))) aNil))))) aNil))))))
  (sSeq (sRet (eD (.bool false)))
  sNil)
  sNil)
 (sSeq (sRet (eAnd (eOr (eBin opEq (eBin opIx0 (eVar 4) (eD (.int 0))) (eVar 1)) (eBin opEq (eBin opIx0 (eVar 4) (eD (.int 1))) (eVar 2))) (eBin opEq (eBin opIx0 (eBin opIx0 (eVar 0) (eBin opIx0 (eVar 4) (eD (.int 0)))) (eBin opIx0 (eVar 4) (eD (.int 1)))) (eVar 3))))
 sNil))
/-- is_table_refusal (table, value, i, j, parts, part, told) -/
def b8 (F : FE) : Stm :=
 (sSeq (sIf (tOr2 (tNot2 (tVal (eUn (opIsi PyData.isTuple) (eVar 1)))) (tCmpr (eBin opNe (eArgs opLen (aCons (eVar 1) aNil)) (eD (.int 3)))))
  (sSeq (sRet (eD (.bool false)))
  sNil)
  sNil)
 (sSeq (sAsg (eVar 1) (.tp [(.nm 2), (.nm 3), (.nm 4)]))
 (sSeq (sIf (tOr2 (tNot2 (tVal (eArgs (F 0) (aCons (eVar 2) (aCons (eD (.int 0)) (aCons (eBin opSub (eArgs opLen (aCons (eVar 0) aNil)) (eD (.int 1))) aNil)))))) (tOr2 (tNot2 (tVal (eArgs (F 0) (aCons (eVar 3) (aCons (eD (.int 0)) (aCons (eBin opSub (eArgs opLen (aCons (eVar 0) aNil)) (eD (.int 1))) aNil)))))) (tCmpr (eBin opIsNot (eBin opIx0 (eBin opIx0 (eVar 0) (eVar 2)) (eVar 3)) (eD .none)))))
  (sSeq (sRet (eD (.bool false)))
  sNil)
  sNil)
 (sSeq (sIf (tOr2 (tNot2 (tVal (eUn (opIsi PyData.isTuple) (eVar 4)))) (tCmpr (eBin opNe (eArgs opLen (aCons (eVar 4) aNil)) (eArgs opLen (aCons (eVar 0) aNil)))))
  (sSeq (sRet (eD (.bool false)))
  sNil)
  sNil)
 (sSeq (sFor (iEnu (eVar 4)) (.tp [(.nm 5), (.nm 6)])
  (sSeq (sIf (tNot2 (tVal (eUn (opIsi PyData.isTuple) (eVar 6))))
   (sSeq (sRet (eD (.bool false)))
   sNil)
   sNil)
  (sSeq (sIf (tCmpr (eBin opEq (eArgs opLen (aCons (eVar 6) aNil)) (eD (.int 2))))
   (sSeq (sIf (tNot2 (tVal (eArgs (F 7) (aCons (eVar 0) (aCons (eVar 2) (aCons (eVar 3) (aCons (eVar 5) (aCons (eVar 6) aNil))))))))
    (sSeq (sRet (eD (.bool false)))
    sNil)
    sNil)
   sNil)
   (sSeq (sIf (tOr2 (tCmpr (eBin opNotIn0 (eVar 5) (eArgs (F 1) (aCons (eVar 0) (aCons (eVar 2) (aCons (eVar 3) aNil)))))) (tNot2 (tVal (eArgs (F 8) (aCons (eArgs (F 2) (aCons (eVar 0) (aCons (eVar 2) (aCons (eVar 3) (aCons (eVar 5) aNil))))) (aCons (eVar 6) aNil))))))
    (sSeq (sRet (eD (.bool false)))
    sNil)
    sNil)
   sNil))
  sNil))
  sNil)
 (sSeq (sRet (eD (.bool true)))
 sNil))))))
/-- tight_gap (table, found, i, row, j, part) -/
def b9 (F : FE) : Stm :=
 (sSeq (sAsg (eLst true aNil) (.nm 1))
 (sSeq (sFor (iEnu (eVar 0)) (.tp [(.nm 2), (.nm 3)])
  (sSeq (sDrop (eMthL mExtend (eVar 1) (aCons (eLc false (iEnu (eVar 3)) [4, 5] (.tp [(.nm 4), (.nm 5)]) (tCmpr (eBin opIs (eVar 5) (eD .none))) (eTup (aCons (eArgs opLen (aCons (eArgs (F 1) (aCons (eVar 0) (aCons (eVar 2) (aCons (eVar 4) aNil)))) aNil)) (aCons (eVar 2) (aCons (eVar 4) aNil))))) aNil)))
  sNil)
  sNil)
 (sSeq (sRet (eSl false (eArgs opMin (aCons (eVar 1) aNil)) (oSome (eD (.int 1))) oNone))
 sNil)))
/-- refusal_of (table, able, parts, part, i, j) -/
def b10 (F : FE) : Stm :=
 (sSeq (sAsg (eArgs (F 9) (aCons (eVar 0) aNil)) (.tp [(.nm 4), (.nm 5)]))
 (sSeq (sAsg (eArgs (F 1) (aCons (eVar 0) (aCons (eVar 4) (aCons (eVar 5) aNil)))) (.nm 1))
 (sSeq (sAsg (eLst true aNil) (.nm 2))
 (sSeq (sFor (iRg (aCons (eArgs opLen (aCons (eVar 0) aNil)) aNil)) (.nm 3)
  (sSeq (sDrop (eMthL mAppend (eVar 2) (aCons (eIf (tCmpr (eBin opIn0 (eVar 3) (eVar 1))) (eArgs (F 10) (aCons (eArgs (F 2) (aCons (eVar 0) (aCons (eVar 4) (aCons (eVar 5) (aCons (eVar 3) aNil))))) aNil)) (eArgs (F 6) (aCons (eVar 0) (aCons (eVar 4) (aCons (eVar 5) (aCons (eVar 3) aNil)))))) aNil)))
  sNil)
  sNil)
 (sSeq (sRet (eTup (aCons (eVar 4) (aCons (eVar 5) (aCons (eArgs opTuple (aCons (eVar 2) aNil)) aNil)))))
 sNil)))))
/-- end_or_refusal (table, end) -/
def b11 (F : FE) : Stm :=
 (sSeq (sAsg (eArgs (F 5) (aCons (eVar 0) aNil)) (.nm 1))
 (sSeq (sRet (eIf (tCmpr (eBin opIsNot (eVar 1) (eD .none))) (eTup (aCons (eD (.str "end")) (aCons (eVar 1) aNil))) (eTup (aCons (eD (.str "refusal")) (aCons (eArgs (F 10) (aCons (eVar 0) aNil)) aNil)))))
 sNil))
/-- _law_mix (number) -/
def b12 (F : FE) : Stm :=
 (sSeq (sAsg (eBin opMod (eArgs opInt (aCons (eBin (opAdd false) (eBin (opMul false) (eVar 0) (eD (.int 6364136223846793005))) (eD (.int 1442695040888963407))) aNil)) (eD (.int 18446744073709551616))) (.nm 0))
 (sSeq (sRet (eBin opMod (eArgs opInt (aCons (eBin (opAdd false) (eBin opFdiv (eBin (opMul false) (eVar 0) (eVar 0)) (eD (.int 4294967296))) (eBin (opMul false) (eVar 0) (eD (.int 69621)))) aNil)) (eD (.int 18446744073709551557))))
 sNil))
/-- _law_tape (script) -/
def b13 (F : FE) : Stm :=
 (sSeq (sRet (eLst true (aCons (eArgs (opList false) (aCons (eSl false (eVar 0) oNone (oSome (eD (.int 80)))) aNil)) (aCons (eD (.int 0)) (aCons (eD (.int 0)) (aCons (eBin (opAdd false) (eD (.int 1)) (eArgs opLen (aCons (eVar 0) aNil))) aNil))))))
 sNil)
/-- _law_take (tape, many, digit, cell) -/
def b14 (F : FE) : Stm :=
 (sSeq (sIf (tCmpr (eBin opLt (eBin opIx0 (eVar 0) (eD (.int 2))) (eVar 1)))
  (sSeq (sIf (tCmpr (eBin opLt (eBin opIx0 (eVar 0) (eD (.int 1))) (eArgs opLen (aCons (eBin opIx0 (eVar 0) (eD (.int 0))) aNil))))
   (sSeq (sAsg (eBin opIx0 (eBin opIx0 (eVar 0) (eD (.int 0))) (eBin opIx0 (eVar 0) (eD (.int 1)))) (.nm 3))
   (sSeq (sAsg (eIf (tCmpr (eBin opGe (eVar 3) (eD (.int 0)))) (eBin (opMul false) (eD (.int 2)) (eVar 3)) (eBin opSub (eBin (opMul false) (eUn opNeg (eD (.int 2))) (eVar 3)) (eD (.int 1)))) (.nm 3))
   (sSeq (sSub opSet0 (eBin (opAdd false) (eBin opIx0 (eVar 0) (eD (.int 1))) (eD (.int 1))) (eVar 0) (eD (.int 1)))
   (sSeq (sSub opSet0 (eArgs (F 12) (aCons (eBin (opAdd false) (eBin opIx0 (eVar 0) (eD (.int 3))) (eVar 3)) aNil)) (eVar 0) (eD (.int 3)))
   (sSeq (sSub opSet0 (eIf (tCmpr (eBin opGe (eVar 3) (eBin opPow (eD (.int 10)) (eD (.int 18))))) (eVar 3) (eArgs (F 12) (aCons (eBin (opAdd false) (eArgs (F 12) (aCons (eVar 3) aNil)) (eBin opIx0 (eVar 0) (eD (.int 1)))) aNil))) (eVar 0) (eD (.int 2)))
   sNil)))))
   (sSeq (sSub opSet0 (eArgs (F 12) (aCons (eBin (opAdd false) (eBin opIx0 (eVar 0) (eD (.int 3))) (eD (.int 1))) aNil)) (eVar 0) (eD (.int 3)))
   (sSeq (sSub opSet0 (eBin opIx0 (eVar 0) (eD (.int 3))) (eVar 0) (eD (.int 2)))
   sNil)))
  sNil)
  sNil)
 (sSeq (sAsg (eBin opMod (eArgs opInt (aCons (eBin opIx0 (eVar 0) (eD (.int 2))) aNil)) (eVar 1)) (.nm 2))
 (sSeq (sSub opSet0 (eBin opFdiv (eBin opIx0 (eVar 0) (eD (.int 2))) (eVar 1)) (eVar 0) (eD (.int 2)))
 (sSeq (sRet (eVar 2))
 sNil))))
/-- _law_same (a, b, k) -/
def b15 (F : FE) : Stm :=
 (sSeq (sIf (tOr2 (tAnd2 (tVal (eUn (opIsi PyData.isTuple) (eVar 0))) (tVal (eUn (opIsi PyData.isTuple) (eVar 1)))) (tAnd2 (tVal (eUn (opIsi PyData.isList) (eVar 0))) (tVal (eUn (opIsi PyData.isList) (eVar 1)))))
  (sSeq (sRet (eAnd (eBin opEq (eArgs opLen (aCons (eVar 0) aNil)) (eArgs opLen (aCons (eVar 1) aNil))) (eArgs opAll (aCons (eLc false (iRg (aCons (eArgs opLen (aCons (eVar 0) aNil)) aNil)) [2] (.nm 2) tYs (eArgs (F 15) (aCons (eBin opIx0 (eVar 0) (eVar 2)) (aCons (eBin opIx0 (eVar 1) (eVar 2)) aNil)))) aNil))))
  sNil)
  sNil)
 (sSeq (sIf (tOr2 (tVal (eUn (opIsi PyData.isBool) (eVar 0))) (tVal (eUn (opIsi PyData.isBool) (eVar 1))))
  (sSeq (sRet (eAnd (eUn (opIsi PyData.isBool) (eVar 0)) (eAnd (eUn (opIsi PyData.isBool) (eVar 1)) (eBin opEq (eVar 0) (eVar 1)))))
  sNil)
  sNil)
 (sSeq (sIf (tOr2 (tAnd2 (tVal (eUn (opIsi PyData.isInt) (eVar 0))) (tVal (eUn (opIsi PyData.isInt) (eVar 1)))) (tAnd2 (tVal (eUn (opIsi PyData.isStr) (eVar 0))) (tVal (eUn (opIsi PyData.isStr) (eVar 1)))))
  (sSeq (sRet (eBin opEq (eVar 0) (eVar 1)))
  sNil)
  sNil)
 (sSeq (sRet (eAnd (eBin opIs (eVar 0) (eD .none)) (eBin opIs (eVar 1) (eD .none))))
 sNil))))
/-- _law_whole (value, low, high) -/
def b16 (F : FE) : Stm :=
 (sSeq (sRet (eAnd (eUn (opIsi PyData.isInt) (eVar 0)) (eAnd (eNot (eUn (opIsi PyData.isBool) (eVar 0))) (eChain opLe opLe (eVar 1) (eVar 0) (eVar 2)))))
 sNil)
/-- _law_parts (table, i, j, part, row) -/
def b17 (F : FE) : Stm :=
 (sSeq (sRet (eLc false (iRg (aCons (eArgs opLen (aCons (eVar 0) aNil)) aNil)) [3] (.nm 3) (tAnd2 (tCmpr (eBin opNotIn0 (eVar 3) (eBin opIx0 (eVar 0) (eVar 1)))) (tCmpr (eBin opNotIn0 (eVar 3) (eLc false (iAny (eVar 0)) [4] (.nm 4) tYs (eBin opIx0 (eVar 4) (eVar 2)))))) (eVar 3)))
 sNil)
/-- _law_with (table, i, j, part) -/
def b18 (F : FE) : Stm :=
 (sSeq (sRet (eBin (opAdd false) (eBin (opAdd false) (eSl false (eVar 0) oNone (oSome (eVar 1))) (eTup (aCons (eBin (opAdd false) (eBin (opAdd false) (eSl false (eBin opIx0 (eVar 0) (eVar 1)) oNone (oSome (eVar 2))) (eTup (aCons (eVar 3) aNil))) (eSl false (eBin opIx0 (eVar 0) (eVar 1)) (oSome (eBin (opAdd false) (eVar 2) (eD (.int 1)))) oNone)) aNil))) (eSl false (eVar 0) (oSome (eBin (opAdd false) (eVar 1) (eD (.int 1)))) oNone)))
 sNil)
/-- _law_ends (table, i, rows, n, j, more_rows, one, part) -/
def b19 (F : FE) : Stm :=
 (sSeq (sPar (aCons (eLst false (aCons (eVar 0) aNil)) (aCons (eArgs opLen (aCons (eVar 0) aNil)) aNil)) [2, 3])
 (sSeq (sFor (iRg (aCons (eVar 3) aNil)) (.nm 1)
  (sSeq (sFor (iRg (aCons (eVar 3) aNil)) (.nm 4)
   (sSeq (sAsg (eLst true aNil) (.nm 5))
   (sSeq (sFor (iAny (eVar 2)) (.nm 6)
    (sSeq (sIf (tCmpr (eBin opIs (eBin opIx0 (eBin opIx0 (eVar 6) (eVar 1)) (eVar 4)) (eD .none)))
     (sSeq (sDrop (eMthL mExtend (eVar 5) (aCons (eLc false (iAny (eArgs (F 17) (aCons (eVar 6) (aCons (eVar 1) (aCons (eVar 4) aNil))))) [7] (.nm 7) tYs (eArgs (F 18) (aCons (eVar 6) (aCons (eVar 1) (aCons (eVar 4) (aCons (eVar 7) aNil)))))) aNil)))
     sNil)
     (sSeq (sDrop (eMthL mAppend (eVar 5) (aCons (eVar 6) aNil)))
     sNil))
    sNil)
    sNil)
   (sSeq (sAsg (eVar 5) (.nm 2))
   sNil)))
   sNil)
  sNil)
  sNil)
 (sSeq (sRet (eVar 2))
 sNil)))
/-- _law_begun (tape, n, gaps, order, mixed, row, rows, i, table, step, k, j, able) -/
def b20 (F : FE) : Stm :=
 (sSeq (sAsg (eLc true (iRg (aCons (eD (.int 3)) aNil)) [10] (.nm 10) tYs (eLR true (aCons (eVar 1) aNil))) (.nm 3))
 (sSeq (sAsg (eLst true aNil) (.nm 4))
 (sSeq (sFor (iAny (eVar 3)) (.nm 5)
  (sSeq (sDrop (eMthL mAppend (eVar 4) (aCons (eLc false (iRg (aCons (eVar 1) aNil)) [10] (.nm 10) tYs (eMthL mPop (eVar 5) (aCons (eArgs (F 14) (aCons (eVar 0) (aCons (eArgs opLen (aCons (eVar 5) aNil)) aNil))) aNil))) aNil)))
  sNil)
  sNil)
 (sSeq (sAsg (eLst true aNil) (.nm 6))
 (sSeq (sFor (iRg (aCons (eVar 1) aNil)) (.nm 7)
  (sSeq (sDrop (eMthL mAppend (eVar 6) (aCons (eArgs opTuple (aCons (eLc false (iRg (aCons (eVar 1) aNil)) [11] (.nm 11) tYs (eIf (tCmpr (eBin opLt (eArgs (F 14) (aCons (eVar 0) (aCons (eD (.int 10)) aNil))) (eVar 2))) (eD .none) (eBin opIx0 (eBin opIx0 (eVar 4) (eD (.int 2))) (eBin opSub (eBin (opAdd false) (eBin opIx0 (eBin opIx0 (eVar 4) (eD (.int 0))) (eVar 7)) (eBin opIx0 (eBin opIx0 (eVar 4) (eD (.int 1))) (eVar 11))) (eBin (opMul false) (eBin opFdiv (eBin (opAdd false) (eBin opIx0 (eBin opIx0 (eVar 4) (eD (.int 0))) (eVar 7)) (eBin opIx0 (eBin opIx0 (eVar 4) (eD (.int 1))) (eVar 11))) (eVar 1)) (eVar 1)))))) aNil)) aNil)))
  sNil)
  sNil)
 (sSeq (sAsg (eArgs opTuple (aCons (eVar 6) aNil)) (.nm 8))
 (sSeq (sFor (iRg (aCons (eArgs (F 14) (aCons (eVar 0) (aCons (eD (.int 3)) aNil))) aNil)) (.nm 9)
  (sSeq (sAsg (eTup (aCons (eArgs (F 14) (aCons (eVar 0) (aCons (eVar 1) aNil))) (aCons (eArgs (F 14) (aCons (eVar 0) (aCons (eVar 1) aNil))) aNil))) (.tp [(.nm 7), (.nm 11)]))
  (sSeq (sIf (tAnd2 (tCmpr (eBin opIs (eBin opIx0 (eBin opIx0 (eVar 8) (eVar 7)) (eVar 11)) (eD .none))) (tCmpr (eBin opNe (eArgs (F 17) (aCons (eVar 8) (aCons (eVar 7) (aCons (eVar 11) aNil)))) (eLst false aNil))))
   (sSeq (sAsg (eArgs (F 17) (aCons (eVar 8) (aCons (eVar 7) (aCons (eVar 11) aNil)))) (.nm 12))
   (sSeq (sAsg (eArgs (F 18) (aCons (eVar 8) (aCons (eVar 7) (aCons (eVar 11) (aCons (eBin opIx0 (eVar 12) (eArgs (F 14) (aCons (eVar 0) (aCons (eArgs opLen (aCons (eVar 12) aNil)) aNil)))) aNil))))) (.nm 8))
   sNil))
   sNil)
  sNil))
  sNil)
 (sSeq (sRet (eVar 8))
 sNil))))))))
/-- _law_spoilt (tape, value, rows, at) -/
def b21 (F : FE) : Stm :=
 (sSeq (sIf (tAnd2 (tVal (eUn (opIsi PyData.isTuple) (eVar 1))) (tAnd2 (tCmpr (eBin opGt (eArgs opLen (aCons (eVar 1) aNil)) (eD (.int 0)))) (tCmpr (eBin opGt (eArgs (F 14) (aCons (eVar 0) (aCons (eD (.int 4)) aNil))) (eD (.int 0))))))
  (sSeq (sAsg (eArgs (F 14) (aCons (eVar 0) (aCons (eArgs opLen (aCons (eVar 1) aNil)) aNil))) (.nm 3))
  (sSeq (sIf (tCmpr (eBin opEq (eArgs (F 14) (aCons (eVar 0) (aCons (eD (.int 8)) aNil))) (eD (.int 0))))
   (sSeq (sRet (eBin (opAdd false) (eSl false (eVar 1) oNone (oSome (eVar 3))) (eSl false (eVar 1) (oSome (eBin (opAdd false) (eVar 3) (eD (.int 1)))) oNone)))
   sNil)
   sNil)
  (sSeq (sRet (eBin (opAdd false) (eBin (opAdd false) (eSl false (eVar 1) oNone (oSome (eVar 3))) (eTup (aCons (eArgs (F 21) (aCons (eVar 0) (aCons (eBin opIx0 (eVar 1) (eVar 3)) aNil))) aNil))) (eSl false (eVar 1) (oSome (eBin (opAdd false) (eVar 3) (eD (.int 1)))) oNone)))
  sNil)))
  sNil)
 (sSeq (sAsg (eLst false (aCons (eD .none) (aCons (eTup aNil) (aCons (eD (.int 0)) (aCons (eD (.int 1)) (aCons (eD (.bool true)) (aCons (eD (.bool false)) (aCons (eD (.str "a")) (aCons (eUn opNeg (eD (.int 1))) (aCons (eTup (aCons (eD (.int 0)) aNil)) (aCons (eTup (aCons (eTup (aCons (eD (.int 0)) (aCons (eD (.int 0)) aNil))) aNil)) aNil))))))))))) (.nm 2))
 (sSeq (sIf (tVal (eUn (opIsi PyData.isInt) (eVar 1)))
  (sSeq (sAsg (eBin (opAdd false) (eVar 2) (eLst false (aCons (eBin (opAdd false) (eVar 1) (eD (.int 1))) (aCons (eBin opSub (eVar 1) (eD (.int 1))) (aCons (eBin opEq (eVar 1) (eD (.int 1))) (aCons (eBin (opAdd false) (eVar 1) (eD (.int 1))) aNil)))))) (.nm 2))
  sNil)
  sNil)
 (sSeq (sIf (tVal (eUn (opIsi PyData.isTuple) (eVar 1)))
  (sSeq (sAsg (eBin (opAdd false) (eVar 2) (eLst false (aCons (eSl false (eVar 1) oNone (oSome (eUn opNeg (eD (.int 1))))) (aCons (eBin (opAdd false) (eVar 1) (eSl false (eVar 1) (oSome (eUn opNeg (eD (.int 1)))) oNone)) (aCons (eUn (opRev false) (eVar 1)) (aCons (eBin (opAdd false) (eVar 1) (eTup (aCons (eTup (aCons (eD (.int 0)) (aCons (eD (.int 0)) aNil))) aNil))) (aCons (eTup (aCons (eVar 1) aNil)) (aCons (eSl false (eVar 1) (oSome (eD (.int 1))) oNone) aNil)))))))) (.nm 2))
  sNil)
  sNil)
 (sSeq (sRet (eBin opIx0 (eVar 2) (eArgs (F 14) (aCons (eVar 0) (aCons (eArgs opLen (aCons (eVar 2) aNil)) aNil)))))
 sNil)))))
/-- _law_refuses (table, value, n, part, i, j, parts, one) -/
def b22 (F : FE) : Stm :=
 (sSeq (sAsg (eArgs opLen (aCons (eVar 0) aNil)) (.nm 2))
 (sSeq (sIf (tOr2 (tNot2 (tVal (eUn (opIsi PyData.isTuple) (eVar 1)))) (tOr2 (tCmpr (eBin opNe (eArgs opLen (aCons (eVar 1) aNil)) (eD (.int 3)))) (tOr2 (tNot2 (tVal (eArgs (F 16) (aCons (eBin opIx0 (eVar 1) (eD (.int 0))) (aCons (eD (.int 0)) (aCons (eBin opSub (eVar 2) (eD (.int 1))) aNil)))))) (tOr2 (tNot2 (tVal (eArgs (F 16) (aCons (eBin opIx0 (eVar 1) (eD (.int 1))) (aCons (eD (.int 0)) (aCons (eBin opSub (eVar 2) (eD (.int 1))) aNil)))))) (tCmpr (eBin opIsNot (eBin opIx0 (eBin opIx0 (eVar 0) (eBin opIx0 (eVar 1) (eD (.int 0)))) (eBin opIx0 (eVar 1) (eD (.int 1)))) (eD .none)))))))
  (sSeq (sRet (eD (.bool false)))
  sNil)
  sNil)
 (sSeq (sAsg (eVar 1) (.tp [(.nm 4), (.nm 5), (.nm 6)]))
 (sSeq (sIf (tOr2 (tNot2 (tVal (eUn (opIsi PyData.isTuple) (eVar 6)))) (tOr2 (tCmpr (eBin opNe (eArgs opLen (aCons (eVar 6) aNil)) (eVar 2))) (tNot2 (tVal (eArgs opAll (aCons (eLc false (iAny (eVar 6)) [7] (.nm 7) tYs (eUn (opIsi PyData.isTuple) (eVar 7))) aNil))))))
  (sSeq (sRet (eD (.bool false)))
  sNil)
  sNil)
 (sSeq (sFor (iRg (aCons (eVar 2) aNil)) (.nm 3)
  (sSeq (sAsg (eBin opIx0 (eVar 6) (eVar 3)) (.nm 7))
  (sSeq (sIf (tCmpr (eBin opEq (eArgs opLen (aCons (eVar 7) aNil)) (eD (.int 2))))
   (sSeq (sIf (tOr2 (tNot2 (tVal (eArgs (F 16) (aCons (eBin opIx0 (eVar 7) (eD (.int 0))) (aCons (eD (.int 0)) (aCons (eBin opSub (eVar 2) (eD (.int 1))) aNil)))))) (tOr2 (tNot2 (tVal (eArgs (F 16) (aCons (eBin opIx0 (eVar 7) (eD (.int 1))) (aCons (eD (.int 0)) (aCons (eBin opSub (eVar 2) (eD (.int 1))) aNil)))))) (tOr2 (tAnd2 (tCmpr (eBin opNe (eBin opIx0 (eVar 7) (eD (.int 0))) (eVar 4))) (tCmpr (eBin opNe (eBin opIx0 (eVar 7) (eD (.int 1))) (eVar 5)))) (tCmpr (eBin opNe (eBin opIx0 (eBin opIx0 (eVar 0) (eBin opIx0 (eVar 7) (eD (.int 0)))) (eBin opIx0 (eVar 7) (eD (.int 1)))) (eVar 3))))))
    (sSeq (sRet (eD (.bool false)))
    sNil)
    sNil)
   sNil)
   (sSeq (sIf (tOr2 (tCmpr (eBin opNotIn0 (eVar 3) (eArgs (F 17) (aCons (eVar 0) (aCons (eVar 4) (aCons (eVar 5) aNil)))))) (tNot2 (tVal (eArgs (F 22) (aCons (eArgs (F 18) (aCons (eVar 0) (aCons (eVar 4) (aCons (eVar 5) (aCons (eVar 3) aNil))))) (aCons (eVar 7) aNil))))))
    (sSeq (sRet (eD (.bool false)))
    sNil)
    sNil)
   sNil))
  sNil))
  sNil)
 (sSeq (sRet (eD (.bool true)))
 sNil))))))
/-- _law_refusal (table, i, part, n, gaps, many, j, able, parts, near_ones, k) -/
def b23 (F : FE) : Stm :=
 (sSeq (sPar (aCons (eArgs opLen (aCons (eVar 0) aNil)) (aCons (eLst true aNil) aNil)) [3, 4])
 (sSeq (sFor (iRg (aCons (eVar 3) aNil)) (.nm 1)
  (sSeq (sDrop (eMthL mExtend (eVar 4) (aCons (eLc false (iRg (aCons (eVar 3) aNil)) [6] (.nm 6) (tCmpr (eBin opIs (eBin opIx0 (eBin opIx0 (eVar 0) (eVar 1)) (eVar 6)) (eD .none))) (eTup (aCons (eArgs opLen (aCons (eArgs (F 17) (aCons (eVar 0) (aCons (eVar 1) (aCons (eVar 6) aNil)))) aNil)) (aCons (eVar 1) (aCons (eVar 6) aNil))))) aNil)))
  sNil)
  sNil)
 (sSeq (sAsg (eArgs opMin (aCons (eVar 4) aNil)) (.tp [(.nm 5), (.nm 1), (.nm 6)]))
 (sSeq (sPar (aCons (eArgs (F 17) (aCons (eVar 0) (aCons (eVar 1) (aCons (eVar 6) aNil)))) (aCons (eLst true aNil) aNil)) [7, 8])
 (sSeq (sFor (iRg (aCons (eVar 3) aNil)) (.nm 2)
  (sSeq (sIf (tCmpr (eBin opIn0 (eVar 2) (eVar 7)))
   (sSeq (sDrop (eMthL mAppend (eVar 8) (aCons (eArgs (F 23) (aCons (eArgs (F 18) (aCons (eVar 0) (aCons (eVar 1) (aCons (eVar 6) (aCons (eVar 2) aNil))))) aNil)) aNil)))
   sNil)
   (sSeq (sAsg (eBin (opAdd false) (eLc false (iRg (aCons (eVar 3) aNil)) [10] (.nm 10) (tCmpr (eBin opEq (eBin opIx0 (eBin opIx0 (eVar 0) (eVar 1)) (eVar 10)) (eVar 2))) (eTup (aCons (eVar 1) (aCons (eVar 10) aNil)))) (eLc false (iRg (aCons (eVar 3) aNil)) [10] (.nm 10) (tCmpr (eBin opEq (eBin opIx0 (eBin opIx0 (eVar 0) (eVar 10)) (eVar 6)) (eVar 2))) (eTup (aCons (eVar 10) (aCons (eVar 6) aNil))))) (.nm 9))
   (sSeq (sDrop (eMthL mAppend (eVar 8) (aCons (eArgs opMin (aCons (eVar 9) aNil)) aNil)))
   sNil)))
  sNil)
  sNil)
 (sSeq (sRet (eTup (aCons (eVar 1) (aCons (eVar 6) (aCons (eArgs opTuple (aCons (eVar 8) aNil)) aNil)))))
 sNil))))))
/-- law (script, tape, turn, n, table, step, every, due, paper, value, able, fine, i, j, k) -/
def b24 (F : FE) : Stm :=
 (sSeq (sAsg (eArgs (F 13) (aCons (eVar 0) aNil)) (.nm 1))
 (sSeq (sFor (iRg (aCons (eD (.int 4)) aNil)) (.nm 2)
  (sSeq (sAsg (eBin (opAdd false) (eD (.int 2)) (eArgs (F 14) (aCons (eVar 1) (aCons (eD (.int 3)) aNil)))) (.nm 3))
  (sSeq (sAsg (eArgs (F 20) (aCons (eVar 1) (aCons (eVar 3) (aCons (eD (.int 6)) aNil)))) (.nm 4))
  (sSeq (sFor (iRg (aCons (eD (.int 3)) aNil)) (.nm 5)
   (sSeq (sPar (aCons (eArgs (F 14) (aCons (eVar 1) (aCons (eVar 3) aNil))) (aCons (eArgs (F 14) (aCons (eVar 1) (aCons (eVar 3) aNil))) aNil)) [12, 13])
   (sSeq (sAsg (eArgs (F 17) (aCons (eVar 4) (aCons (eVar 12) (aCons (eVar 13) aNil)))) (.nm 10))
   (sSeq (sIf (tAnd2 (tCmpr (eBin opIs (eBin opIx0 (eBin opIx0 (eVar 4) (eVar 12)) (eVar 13)) (eD .none))) (tCmpr (eBin opNe (eVar 10) (eLst false aNil))))
    (sSeq (sAsg (eArgs (F 18) (aCons (eVar 4) (aCons (eVar 12) (aCons (eVar 13) (aCons (eBin opIx0 (eVar 10) (eArgs (F 14) (aCons (eVar 1) (aCons (eArgs opLen (aCons (eVar 10) aNil)) aNil)))) aNil))))) (.nm 4))
    sNil)
    sNil)
   sNil)))
   sNil)
  (sSeq (sAsg (eArgs (F 19) (aCons (eVar 4) aNil)) (.nm 6))
  (sSeq (sAsg (eIf (tCmpr (eBin opNe (eVar 6) (eLst false aNil))) (eTup (aCons (eD (.str "end")) (aCons (eBin opIx0 (eVar 6) (eD (.int 0))) aNil))) (eTup (aCons (eD (.str "refusal")) (aCons (eArgs (F 23) (aCons (eVar 4) aNil)) aNil)))) (.nm 7))
  (sSeq (sIf (tNot2 (tVal (eArgs (F 15) (aCons (eArgs (F 11) (aCons (eVar 4) aNil)) (aCons (eVar 7) aNil)))))
   (sSeq (sRet (eD (.bool false)))
   sNil)
   sNil)
  (sSeq (sAsg (eIf (tCmpr (eBin opEq (eVar 6) (eLst false aNil))) (eBin opIx0 (eVar 7) (eD (.int 1))) (eTup (aCons (eD (.int 0)) (aCons (eD (.int 0)) (aCons (eBin (opMul false) (eTup (aCons (eTup (aCons (eD (.int 0)) (aCons (eD (.int 0)) aNil))) aNil)) (eVar 3)) aNil))))) (.nm 8))
  (sSeq (sFor (iAny (eBin (opAdd false) (eLst false (aCons (eVar 8) (aCons (eUn (opRev false) (eVar 8)) (aCons (eSl false (eVar 8) oNone (oSome (eD (.int 2)))) (aCons (eTup (aCons (eBin opIx0 (eVar 8) (eD (.int 1))) (aCons (eBin opIx0 (eVar 8) (eD (.int 0))) (aCons (eBin opIx0 (eVar 8) (eD (.int 2))) aNil)))) (aCons (eTup (aCons (eBin opIx0 (eVar 8) (eD (.int 0))) (aCons (eBin opIx0 (eVar 8) (eD (.int 1))) (aCons (eTup aNil) aNil)))) (aCons (eTup (aCons (eD (.bool true)) (aCons (eD (.int 0)) (aCons (eTup aNil) aNil)))) (aCons (eD .none) (aCons (eTup aNil) aNil))))))))) (eLc false (iRg (aCons (eD (.int 7)) aNil)) [14] (.nm 14) tYs (eArgs (F 21) (aCons (eVar 1) (aCons (eVar 8) aNil)))))) (.nm 9)
   (sSeq (sAsg (eArgs (F 22) (aCons (eVar 4) (aCons (eVar 9) aNil))) (.nm 11))
   (sSeq (sIf (tOr2 (tNot2 (tVal (eArgs (F 15) (aCons (eArgs (F 8) (aCons (eVar 4) (aCons (eVar 9) aNil))) (aCons (eVar 11) aNil))))) (tAnd2 (tVal (eVar 11)) (tCmpr (eBin opNe (eVar 6) (eLst false aNil)))))
    (sSeq (sRet (eD (.bool false)))
    sNil)
    sNil)
   sNil))
   sNil)
  sNil))))))))
  sNil)
 (sSeq (sRet (eD (.bool true)))
 sNil)))
abbrev topS (i : Nat) : Stmt := PySem.Challenge.pw_boardsheld_k40_whole_table_refusals.main.body.getD i (.Pass ⟨0, 0, 0, 0⟩)
def muL : List (Nat × Nat × Nat × Nat) := [(18, 12, 18, 14), (19, 14, 19, 21), (58, 12, 58, 14), (65, 12, 65, 14), (77, 11, 77, 53), (110, 24, 110, 26), (119, 12, 119, 46), (119, 13, 119, 27), (120, 12, 120, 14), (123, 11, 123, 13), (161, 27, 161, 29), (165, 44, 165, 46)]
def fi0 : FI := ⟨"is_number", topS 1, ["value", "least", "most"], 3, true, b0⟩
def fi1 : FI := ⟨"can_have", topS 3, ["table", "i", "j", "near", "part", "row"], 3, true, b1⟩
def fi2 : FI := ⟨"with_part", topS 4, ["table", "i", "j", "part", "row"], 4, true, b2⟩
def fi3 : FI := ⟨"first_gap", topS 5, ["table", "i", "row", "j", "part"], 1, true, b3⟩
def fi4 : FI := ⟨"ends_of", topS 6, ["table", "most", "found", "waiting", "here", "gap", "i", "j", "part"], 2, true, b4⟩
def fi5 : FI := ⟨"first_end", topS 7, ["table", "found"], 1, true, b5⟩
def fi6 : FI := ⟨"in_way", topS 9, ["table", "i", "j", "part", "squares", "k", "x", "y"], 4, true, b6⟩
def fi7 : FI := ⟨"is_in_way", topS 10, ["table", "i", "j", "part", "value", "k"], 5, true, b7⟩
def fi8 : FI := ⟨"is_table_refusal", topS 11, ["table", "value", "i", "j", "parts", "part", "told"], 2, true, b8⟩
def fi9 : FI := ⟨"tight_gap", topS 12, ["table", "found", "i", "row", "j", "part"], 1, true, b9⟩
def fi10 : FI := ⟨"refusal_of", topS 13, ["table", "able", "parts", "part", "i", "j"], 1, true, b10⟩
def fi11 : FI := ⟨"end_or_refusal", topS 14, ["table", "end"], 1, true, b11⟩
def fi12 : FI := ⟨"_law_mix", topS 16, ["number"], 1, true, b12⟩
def fi13 : FI := ⟨"_law_tape", topS 17, ["script"], 1, false, b13⟩
def fi14 : FI := ⟨"_law_take", topS 18, ["tape", "many", "digit", "cell"], 2, false, b14⟩
def fi15 : FI := ⟨"_law_same", topS 19, ["a", "b", "k"], 2, true, b15⟩
def fi16 : FI := ⟨"_law_whole", topS 20, ["value", "low", "high"], 3, true, b16⟩
def fi17 : FI := ⟨"_law_parts", topS 21, ["table", "i", "j", "part", "row"], 3, true, b17⟩
def fi18 : FI := ⟨"_law_with", topS 22, ["table", "i", "j", "part"], 4, true, b18⟩
def fi19 : FI := ⟨"_law_ends", topS 23, ["table", "i", "rows", "n", "j", "more_rows", "one", "part"], 1, true, b19⟩
def fi20 : FI := ⟨"_law_begun", topS 24, ["tape", "n", "gaps", "order", "mixed", "row", "rows", "i", "table", "step", "k", "j", "able"], 3, false, b20⟩
def fi21 : FI := ⟨"_law_spoilt", topS 25, ["tape", "value", "rows", "at"], 2, false, b21⟩
def fi22 : FI := ⟨"_law_refuses", topS 26, ["table", "value", "n", "part", "i", "j", "parts", "one"], 2, true, b22⟩
def fi23 : FI := ⟨"_law_refusal", topS 27, ["table", "i", "part", "n", "gaps", "many", "j", "able", "parts", "near_ones", "k"], 1, true, b23⟩
def fi24 : FI := ⟨"law", topS 28, ["script", "tape", "turn", "n", "table", "step", "every", "due", "paper", "value", "able", "fine", "i", "j", "k"], 1, false, b24⟩
def csT (x : Str) : Option D :=  none
def theP : PI := ⟨[fi0, fi1, fi2, fi3, fi4, fi5, fi6, fi7, fi8, fi9, fi10, fi11, fi12, fi13, fi14, fi15, fi16, fi17, fi18, fi19, fi20, fi21, fi22, fi23, fi24], ["len", "min", "all", "int", "bool", "str", "tuple", "list", "isinstance", "range", "enumerate"], csT, fun p => muL.any fun q => p.line == q.1 && p.col == q.2.1 && p.endLine == q.2.2.1 && p.endCol == q.2.2.2⟩
theorem den0 (F : FE) : denB (dnN 60) (theP.ct F fi0) 60 (defBody fi0.st) = some (fi0.body F) := by with_unfolding_all rfl
theorem sc0 : FnScope fi0.N (fi0.N.take fi0.n) (defScope fi0.st) ∧ (fi0.N.take fi0.n).length = fi0.n := ⟨⟨rfl, rfl, rfl, by decide +kernel, rfl, by decide +kernel, by decide +kernel⟩, rfl⟩
theorem den1 (F : FE) : denB (dnN 60) (theP.ct F fi1) 60 (defBody fi1.st) = some (fi1.body F) := by with_unfolding_all rfl
theorem sc1 : FnScope fi1.N (fi1.N.take fi1.n) (defScope fi1.st) ∧ (fi1.N.take fi1.n).length = fi1.n := ⟨⟨rfl, rfl, rfl, by decide +kernel, rfl, by decide +kernel, by decide +kernel⟩, rfl⟩
theorem den2 (F : FE) : denB (dnN 60) (theP.ct F fi2) 60 (defBody fi2.st) = some (fi2.body F) := by with_unfolding_all rfl
theorem sc2 : FnScope fi2.N (fi2.N.take fi2.n) (defScope fi2.st) ∧ (fi2.N.take fi2.n).length = fi2.n := ⟨⟨rfl, rfl, rfl, by decide +kernel, rfl, by decide +kernel, by decide +kernel⟩, rfl⟩
theorem den3 (F : FE) : denB (dnN 60) (theP.ct F fi3) 60 (defBody fi3.st) = some (fi3.body F) := by with_unfolding_all rfl
theorem sc3 : FnScope fi3.N (fi3.N.take fi3.n) (defScope fi3.st) ∧ (fi3.N.take fi3.n).length = fi3.n := ⟨⟨rfl, rfl, rfl, by decide +kernel, rfl, by decide +kernel, by decide +kernel⟩, rfl⟩
theorem den4 (F : FE) : denB (dnN 60) (theP.ct F fi4) 60 (defBody fi4.st) = some (fi4.body F) := by with_unfolding_all rfl
theorem sc4 : FnScope fi4.N (fi4.N.take fi4.n) (defScope fi4.st) ∧ (fi4.N.take fi4.n).length = fi4.n := ⟨⟨rfl, rfl, rfl, by decide +kernel, rfl, by decide +kernel, by decide +kernel⟩, rfl⟩
theorem den5 (F : FE) : denB (dnN 60) (theP.ct F fi5) 60 (defBody fi5.st) = some (fi5.body F) := by with_unfolding_all rfl
theorem sc5 : FnScope fi5.N (fi5.N.take fi5.n) (defScope fi5.st) ∧ (fi5.N.take fi5.n).length = fi5.n := ⟨⟨rfl, rfl, rfl, by decide +kernel, rfl, by decide +kernel, by decide +kernel⟩, rfl⟩
theorem den6 (F : FE) : denB (dnN 60) (theP.ct F fi6) 60 (defBody fi6.st) = some (fi6.body F) := by with_unfolding_all rfl
theorem sc6 : FnScope fi6.N (fi6.N.take fi6.n) (defScope fi6.st) ∧ (fi6.N.take fi6.n).length = fi6.n := ⟨⟨rfl, rfl, rfl, by decide +kernel, rfl, by decide +kernel, by decide +kernel⟩, rfl⟩
theorem den7 (F : FE) : denB (dnN 60) (theP.ct F fi7) 60 (defBody fi7.st) = some (fi7.body F) := by with_unfolding_all rfl
theorem sc7 : FnScope fi7.N (fi7.N.take fi7.n) (defScope fi7.st) ∧ (fi7.N.take fi7.n).length = fi7.n := ⟨⟨rfl, rfl, rfl, by decide +kernel, rfl, by decide +kernel, by decide +kernel⟩, rfl⟩
theorem den8 (F : FE) : denB (dnN 60) (theP.ct F fi8) 60 (defBody fi8.st) = some (fi8.body F) := by with_unfolding_all rfl
theorem sc8 : FnScope fi8.N (fi8.N.take fi8.n) (defScope fi8.st) ∧ (fi8.N.take fi8.n).length = fi8.n := ⟨⟨rfl, rfl, rfl, by decide +kernel, rfl, by decide +kernel, by decide +kernel⟩, rfl⟩
theorem den9 (F : FE) : denB (dnN 60) (theP.ct F fi9) 60 (defBody fi9.st) = some (fi9.body F) := by with_unfolding_all rfl
theorem sc9 : FnScope fi9.N (fi9.N.take fi9.n) (defScope fi9.st) ∧ (fi9.N.take fi9.n).length = fi9.n := ⟨⟨rfl, rfl, rfl, by decide +kernel, rfl, by decide +kernel, by decide +kernel⟩, rfl⟩
theorem den10 (F : FE) : denB (dnN 60) (theP.ct F fi10) 60 (defBody fi10.st) = some (fi10.body F) := by with_unfolding_all rfl
theorem sc10 : FnScope fi10.N (fi10.N.take fi10.n) (defScope fi10.st) ∧ (fi10.N.take fi10.n).length = fi10.n := ⟨⟨rfl, rfl, rfl, by decide +kernel, rfl, by decide +kernel, by decide +kernel⟩, rfl⟩
theorem den11 (F : FE) : denB (dnN 60) (theP.ct F fi11) 60 (defBody fi11.st) = some (fi11.body F) := by with_unfolding_all rfl
theorem sc11 : FnScope fi11.N (fi11.N.take fi11.n) (defScope fi11.st) ∧ (fi11.N.take fi11.n).length = fi11.n := ⟨⟨rfl, rfl, rfl, by decide +kernel, rfl, by decide +kernel, by decide +kernel⟩, rfl⟩
theorem den12 (F : FE) : denB (dnN 60) (theP.ct F fi12) 60 (defBody fi12.st) = some (fi12.body F) := by with_unfolding_all rfl
theorem sc12 : FnScope fi12.N (fi12.N.take fi12.n) (defScope fi12.st) ∧ (fi12.N.take fi12.n).length = fi12.n := ⟨⟨rfl, rfl, rfl, by decide +kernel, rfl, by decide +kernel, by decide +kernel⟩, rfl⟩
theorem den13 (F : FE) : denB (dnN 60) (theP.ct F fi13) 60 (defBody fi13.st) = some (fi13.body F) := by with_unfolding_all rfl
theorem sc13 : FnScope fi13.N (fi13.N.take fi13.n) (defScope fi13.st) ∧ (fi13.N.take fi13.n).length = fi13.n := ⟨⟨rfl, rfl, rfl, by decide +kernel, rfl, by decide +kernel, by decide +kernel⟩, rfl⟩
theorem den14 (F : FE) : denB (dnN 60) (theP.ct F fi14) 60 (defBody fi14.st) = some (fi14.body F) := by with_unfolding_all rfl
theorem sc14 : FnScope fi14.N (fi14.N.take fi14.n) (defScope fi14.st) ∧ (fi14.N.take fi14.n).length = fi14.n := ⟨⟨rfl, rfl, rfl, by decide +kernel, rfl, by decide +kernel, by decide +kernel⟩, rfl⟩
theorem den15 (F : FE) : denB (dnN 60) (theP.ct F fi15) 60 (defBody fi15.st) = some (fi15.body F) := by with_unfolding_all rfl
theorem sc15 : FnScope fi15.N (fi15.N.take fi15.n) (defScope fi15.st) ∧ (fi15.N.take fi15.n).length = fi15.n := ⟨⟨rfl, rfl, rfl, by decide +kernel, rfl, by decide +kernel, by decide +kernel⟩, rfl⟩
theorem den16 (F : FE) : denB (dnN 60) (theP.ct F fi16) 60 (defBody fi16.st) = some (fi16.body F) := by with_unfolding_all rfl
theorem sc16 : FnScope fi16.N (fi16.N.take fi16.n) (defScope fi16.st) ∧ (fi16.N.take fi16.n).length = fi16.n := ⟨⟨rfl, rfl, rfl, by decide +kernel, rfl, by decide +kernel, by decide +kernel⟩, rfl⟩
theorem den17 (F : FE) : denB (dnN 60) (theP.ct F fi17) 60 (defBody fi17.st) = some (fi17.body F) := by with_unfolding_all rfl
theorem sc17 : FnScope fi17.N (fi17.N.take fi17.n) (defScope fi17.st) ∧ (fi17.N.take fi17.n).length = fi17.n := ⟨⟨rfl, rfl, rfl, by decide +kernel, rfl, by decide +kernel, by decide +kernel⟩, rfl⟩
theorem den18 (F : FE) : denB (dnN 60) (theP.ct F fi18) 60 (defBody fi18.st) = some (fi18.body F) := by with_unfolding_all rfl
theorem sc18 : FnScope fi18.N (fi18.N.take fi18.n) (defScope fi18.st) ∧ (fi18.N.take fi18.n).length = fi18.n := ⟨⟨rfl, rfl, rfl, by decide +kernel, rfl, by decide +kernel, by decide +kernel⟩, rfl⟩
theorem den19 (F : FE) : denB (dnN 60) (theP.ct F fi19) 60 (defBody fi19.st) = some (fi19.body F) := by with_unfolding_all rfl
theorem sc19 : FnScope fi19.N (fi19.N.take fi19.n) (defScope fi19.st) ∧ (fi19.N.take fi19.n).length = fi19.n := ⟨⟨rfl, rfl, rfl, by decide +kernel, rfl, by decide +kernel, by decide +kernel⟩, rfl⟩
theorem den20 (F : FE) : denB (dnN 60) (theP.ct F fi20) 60 (defBody fi20.st) = some (fi20.body F) := by with_unfolding_all rfl
theorem sc20 : FnScope fi20.N (fi20.N.take fi20.n) (defScope fi20.st) ∧ (fi20.N.take fi20.n).length = fi20.n := ⟨⟨rfl, rfl, rfl, by decide +kernel, rfl, by decide +kernel, by decide +kernel⟩, rfl⟩
theorem den21 (F : FE) : denB (dnN 60) (theP.ct F fi21) 60 (defBody fi21.st) = some (fi21.body F) := by with_unfolding_all rfl
theorem sc21 : FnScope fi21.N (fi21.N.take fi21.n) (defScope fi21.st) ∧ (fi21.N.take fi21.n).length = fi21.n := ⟨⟨rfl, rfl, rfl, by decide +kernel, rfl, by decide +kernel, by decide +kernel⟩, rfl⟩
theorem den22 (F : FE) : denB (dnN 60) (theP.ct F fi22) 60 (defBody fi22.st) = some (fi22.body F) := by with_unfolding_all rfl
theorem sc22 : FnScope fi22.N (fi22.N.take fi22.n) (defScope fi22.st) ∧ (fi22.N.take fi22.n).length = fi22.n := ⟨⟨rfl, rfl, rfl, by decide +kernel, rfl, by decide +kernel, by decide +kernel⟩, rfl⟩
theorem den23 (F : FE) : denB (dnN 60) (theP.ct F fi23) 60 (defBody fi23.st) = some (fi23.body F) := by with_unfolding_all rfl
theorem sc23 : FnScope fi23.N (fi23.N.take fi23.n) (defScope fi23.st) ∧ (fi23.N.take fi23.n).length = fi23.n := ⟨⟨rfl, rfl, rfl, by decide +kernel, rfl, by decide +kernel, by decide +kernel⟩, rfl⟩
theorem den24 (F : FE) : denB (dnN 60) (theP.ct F fi24) 60 (defBody fi24.st) = some (fi24.body F) := by with_unfolding_all rfl
theorem sc24 : FnScope fi24.N (fi24.N.take fi24.n) (defScope fi24.st) ∧ (fi24.N.take fi24.n).length = fi24.n := ⟨⟨rfl, rfl, rfl, by decide +kernel, rfl, by decide +kernel, by decide +kernel⟩, rfl⟩
theorem all_mk {l : PySem.W.OpenLaw} {w : World} {K : PySem.W.Frag} {h : Heap} {mg : Str → Option Value} (X : K.In h) (G : h.Ns mainGlobals mg)
    {f0 : Addr} {od0 an0 : Option Addr} {sl0 : Array (Option Value)} {oc0 kV0 dc0 pm0 cd0 ct0 : Value}
    (a0 : PySem.W.nsIn K mainGlobals "is_number" = some (some (.ref f0))) (l0 : K.lookup f0 = some ⟨oc0, od0, .func (PySem.W.fnOf "is_number" "is_number" (defArgs (topS 1)) (defBody (topS 1)) (defScope (topS 1)) .none kV0 dc0 pm0 an0 cd0 ct0), sl0⟩) (c0 : PySem.W.codeIn K cd0 "is_number" = true) (k0 : PySem.W.keepIn K (.ref f0) = true)
    {f1 : Addr} {od1 an1 : Option Addr} {sl1 : Array (Option Value)} {oc1 kV1 dc1 pm1 cd1 ct1 : Value}
    (a1 : PySem.W.nsIn K mainGlobals "can_have" = some (some (.ref f1))) (l1 : K.lookup f1 = some ⟨oc1, od1, .func (PySem.W.fnOf "can_have" "can_have" (defArgs (topS 3)) (defBody (topS 3)) (defScope (topS 3)) .none kV1 dc1 pm1 an1 cd1 ct1), sl1⟩) (c1 : PySem.W.codeIn K cd1 "can_have" = true) (k1 : PySem.W.keepIn K (.ref f1) = true)
    {f2 : Addr} {od2 an2 : Option Addr} {sl2 : Array (Option Value)} {oc2 kV2 dc2 pm2 cd2 ct2 : Value}
    (a2 : PySem.W.nsIn K mainGlobals "with_part" = some (some (.ref f2))) (l2 : K.lookup f2 = some ⟨oc2, od2, .func (PySem.W.fnOf "with_part" "with_part" (defArgs (topS 4)) (defBody (topS 4)) (defScope (topS 4)) .none kV2 dc2 pm2 an2 cd2 ct2), sl2⟩) (c2 : PySem.W.codeIn K cd2 "with_part" = true) (k2 : PySem.W.keepIn K (.ref f2) = true)
    {f3 : Addr} {od3 an3 : Option Addr} {sl3 : Array (Option Value)} {oc3 kV3 dc3 pm3 cd3 ct3 : Value}
    (a3 : PySem.W.nsIn K mainGlobals "first_gap" = some (some (.ref f3))) (l3 : K.lookup f3 = some ⟨oc3, od3, .func (PySem.W.fnOf "first_gap" "first_gap" (defArgs (topS 5)) (defBody (topS 5)) (defScope (topS 5)) .none kV3 dc3 pm3 an3 cd3 ct3), sl3⟩) (c3 : PySem.W.codeIn K cd3 "first_gap" = true) (k3 : PySem.W.keepIn K (.ref f3) = true)
    {f4 : Addr} {od4 an4 : Option Addr} {sl4 : Array (Option Value)} {oc4 kV4 dc4 pm4 cd4 ct4 : Value}
    (a4 : PySem.W.nsIn K mainGlobals "ends_of" = some (some (.ref f4))) (l4 : K.lookup f4 = some ⟨oc4, od4, .func (PySem.W.fnOf "ends_of" "ends_of" (defArgs (topS 6)) (defBody (topS 6)) (defScope (topS 6)) .none kV4 dc4 pm4 an4 cd4 ct4), sl4⟩) (c4 : PySem.W.codeIn K cd4 "ends_of" = true) (k4 : PySem.W.keepIn K (.ref f4) = true)
    {f5 : Addr} {od5 an5 : Option Addr} {sl5 : Array (Option Value)} {oc5 kV5 dc5 pm5 cd5 ct5 : Value}
    (a5 : PySem.W.nsIn K mainGlobals "first_end" = some (some (.ref f5))) (l5 : K.lookup f5 = some ⟨oc5, od5, .func (PySem.W.fnOf "first_end" "first_end" (defArgs (topS 7)) (defBody (topS 7)) (defScope (topS 7)) .none kV5 dc5 pm5 an5 cd5 ct5), sl5⟩) (c5 : PySem.W.codeIn K cd5 "first_end" = true) (k5 : PySem.W.keepIn K (.ref f5) = true)
    {f6 : Addr} {od6 an6 : Option Addr} {sl6 : Array (Option Value)} {oc6 kV6 dc6 pm6 cd6 ct6 : Value}
    (a6 : PySem.W.nsIn K mainGlobals "in_way" = some (some (.ref f6))) (l6 : K.lookup f6 = some ⟨oc6, od6, .func (PySem.W.fnOf "in_way" "in_way" (defArgs (topS 9)) (defBody (topS 9)) (defScope (topS 9)) .none kV6 dc6 pm6 an6 cd6 ct6), sl6⟩) (c6 : PySem.W.codeIn K cd6 "in_way" = true) (k6 : PySem.W.keepIn K (.ref f6) = true)
    {f7 : Addr} {od7 an7 : Option Addr} {sl7 : Array (Option Value)} {oc7 kV7 dc7 pm7 cd7 ct7 : Value}
    (a7 : PySem.W.nsIn K mainGlobals "is_in_way" = some (some (.ref f7))) (l7 : K.lookup f7 = some ⟨oc7, od7, .func (PySem.W.fnOf "is_in_way" "is_in_way" (defArgs (topS 10)) (defBody (topS 10)) (defScope (topS 10)) .none kV7 dc7 pm7 an7 cd7 ct7), sl7⟩) (c7 : PySem.W.codeIn K cd7 "is_in_way" = true) (k7 : PySem.W.keepIn K (.ref f7) = true)
    {f8 : Addr} {od8 an8 : Option Addr} {sl8 : Array (Option Value)} {oc8 kV8 dc8 pm8 cd8 ct8 : Value}
    (a8 : PySem.W.nsIn K mainGlobals "is_table_refusal" = some (some (.ref f8))) (l8 : K.lookup f8 = some ⟨oc8, od8, .func (PySem.W.fnOf "is_table_refusal" "is_table_refusal" (defArgs (topS 11)) (defBody (topS 11)) (defScope (topS 11)) .none kV8 dc8 pm8 an8 cd8 ct8), sl8⟩) (c8 : PySem.W.codeIn K cd8 "is_table_refusal" = true) (k8 : PySem.W.keepIn K (.ref f8) = true)
    {f9 : Addr} {od9 an9 : Option Addr} {sl9 : Array (Option Value)} {oc9 kV9 dc9 pm9 cd9 ct9 : Value}
    (a9 : PySem.W.nsIn K mainGlobals "tight_gap" = some (some (.ref f9))) (l9 : K.lookup f9 = some ⟨oc9, od9, .func (PySem.W.fnOf "tight_gap" "tight_gap" (defArgs (topS 12)) (defBody (topS 12)) (defScope (topS 12)) .none kV9 dc9 pm9 an9 cd9 ct9), sl9⟩) (c9 : PySem.W.codeIn K cd9 "tight_gap" = true) (k9 : PySem.W.keepIn K (.ref f9) = true)
    {f10 : Addr} {od10 an10 : Option Addr} {sl10 : Array (Option Value)} {oc10 kV10 dc10 pm10 cd10 ct10 : Value}
    (a10 : PySem.W.nsIn K mainGlobals "refusal_of" = some (some (.ref f10))) (l10 : K.lookup f10 = some ⟨oc10, od10, .func (PySem.W.fnOf "refusal_of" "refusal_of" (defArgs (topS 13)) (defBody (topS 13)) (defScope (topS 13)) .none kV10 dc10 pm10 an10 cd10 ct10), sl10⟩) (c10 : PySem.W.codeIn K cd10 "refusal_of" = true) (k10 : PySem.W.keepIn K (.ref f10) = true)
    {f11 : Addr} {od11 an11 : Option Addr} {sl11 : Array (Option Value)} {oc11 kV11 dc11 pm11 cd11 ct11 : Value}
    (a11 : PySem.W.nsIn K mainGlobals "end_or_refusal" = some (some (.ref f11))) (l11 : K.lookup f11 = some ⟨oc11, od11, .func (PySem.W.fnOf "end_or_refusal" "end_or_refusal" (defArgs (topS 14)) (defBody (topS 14)) (defScope (topS 14)) .none kV11 dc11 pm11 an11 cd11 ct11), sl11⟩) (c11 : PySem.W.codeIn K cd11 "end_or_refusal" = true) (k11 : PySem.W.keepIn K (.ref f11) = true)
    {f12 : Addr} {od12 an12 : Option Addr} {sl12 : Array (Option Value)} {oc12 kV12 dc12 pm12 cd12 ct12 : Value}
    (a12 : PySem.W.nsIn K mainGlobals "_law_mix" = some (some (.ref f12))) (l12 : K.lookup f12 = some ⟨oc12, od12, .func (PySem.W.fnOf "_law_mix" "_law_mix" (defArgs (topS 16)) (defBody (topS 16)) (defScope (topS 16)) .none kV12 dc12 pm12 an12 cd12 ct12), sl12⟩) (c12 : PySem.W.codeIn K cd12 "_law_mix" = true) (k12 : PySem.W.keepIn K (.ref f12) = true)
    {f13 : Addr} {od13 an13 : Option Addr} {sl13 : Array (Option Value)} {oc13 kV13 dc13 pm13 cd13 ct13 : Value}
    (a13 : PySem.W.nsIn K mainGlobals "_law_tape" = some (some (.ref f13))) (l13 : K.lookup f13 = some ⟨oc13, od13, .func (PySem.W.fnOf "_law_tape" "_law_tape" (defArgs (topS 17)) (defBody (topS 17)) (defScope (topS 17)) .none kV13 dc13 pm13 an13 cd13 ct13), sl13⟩) (c13 : PySem.W.codeIn K cd13 "_law_tape" = true) (k13 : PySem.W.keepIn K (.ref f13) = true)
    {f14 : Addr} {od14 an14 : Option Addr} {sl14 : Array (Option Value)} {oc14 kV14 dc14 pm14 cd14 ct14 : Value}
    (a14 : PySem.W.nsIn K mainGlobals "_law_take" = some (some (.ref f14))) (l14 : K.lookup f14 = some ⟨oc14, od14, .func (PySem.W.fnOf "_law_take" "_law_take" (defArgs (topS 18)) (defBody (topS 18)) (defScope (topS 18)) .none kV14 dc14 pm14 an14 cd14 ct14), sl14⟩) (c14 : PySem.W.codeIn K cd14 "_law_take" = true) (k14 : PySem.W.keepIn K (.ref f14) = true)
    {f15 : Addr} {od15 an15 : Option Addr} {sl15 : Array (Option Value)} {oc15 kV15 dc15 pm15 cd15 ct15 : Value}
    (a15 : PySem.W.nsIn K mainGlobals "_law_same" = some (some (.ref f15))) (l15 : K.lookup f15 = some ⟨oc15, od15, .func (PySem.W.fnOf "_law_same" "_law_same" (defArgs (topS 19)) (defBody (topS 19)) (defScope (topS 19)) .none kV15 dc15 pm15 an15 cd15 ct15), sl15⟩) (c15 : PySem.W.codeIn K cd15 "_law_same" = true) (k15 : PySem.W.keepIn K (.ref f15) = true)
    {f16 : Addr} {od16 an16 : Option Addr} {sl16 : Array (Option Value)} {oc16 kV16 dc16 pm16 cd16 ct16 : Value}
    (a16 : PySem.W.nsIn K mainGlobals "_law_whole" = some (some (.ref f16))) (l16 : K.lookup f16 = some ⟨oc16, od16, .func (PySem.W.fnOf "_law_whole" "_law_whole" (defArgs (topS 20)) (defBody (topS 20)) (defScope (topS 20)) .none kV16 dc16 pm16 an16 cd16 ct16), sl16⟩) (c16 : PySem.W.codeIn K cd16 "_law_whole" = true) (k16 : PySem.W.keepIn K (.ref f16) = true)
    {f17 : Addr} {od17 an17 : Option Addr} {sl17 : Array (Option Value)} {oc17 kV17 dc17 pm17 cd17 ct17 : Value}
    (a17 : PySem.W.nsIn K mainGlobals "_law_parts" = some (some (.ref f17))) (l17 : K.lookup f17 = some ⟨oc17, od17, .func (PySem.W.fnOf "_law_parts" "_law_parts" (defArgs (topS 21)) (defBody (topS 21)) (defScope (topS 21)) .none kV17 dc17 pm17 an17 cd17 ct17), sl17⟩) (c17 : PySem.W.codeIn K cd17 "_law_parts" = true) (k17 : PySem.W.keepIn K (.ref f17) = true)
    {f18 : Addr} {od18 an18 : Option Addr} {sl18 : Array (Option Value)} {oc18 kV18 dc18 pm18 cd18 ct18 : Value}
    (a18 : PySem.W.nsIn K mainGlobals "_law_with" = some (some (.ref f18))) (l18 : K.lookup f18 = some ⟨oc18, od18, .func (PySem.W.fnOf "_law_with" "_law_with" (defArgs (topS 22)) (defBody (topS 22)) (defScope (topS 22)) .none kV18 dc18 pm18 an18 cd18 ct18), sl18⟩) (c18 : PySem.W.codeIn K cd18 "_law_with" = true) (k18 : PySem.W.keepIn K (.ref f18) = true)
    {f19 : Addr} {od19 an19 : Option Addr} {sl19 : Array (Option Value)} {oc19 kV19 dc19 pm19 cd19 ct19 : Value}
    (a19 : PySem.W.nsIn K mainGlobals "_law_ends" = some (some (.ref f19))) (l19 : K.lookup f19 = some ⟨oc19, od19, .func (PySem.W.fnOf "_law_ends" "_law_ends" (defArgs (topS 23)) (defBody (topS 23)) (defScope (topS 23)) .none kV19 dc19 pm19 an19 cd19 ct19), sl19⟩) (c19 : PySem.W.codeIn K cd19 "_law_ends" = true) (k19 : PySem.W.keepIn K (.ref f19) = true)
    {f20 : Addr} {od20 an20 : Option Addr} {sl20 : Array (Option Value)} {oc20 kV20 dc20 pm20 cd20 ct20 : Value}
    (a20 : PySem.W.nsIn K mainGlobals "_law_begun" = some (some (.ref f20))) (l20 : K.lookup f20 = some ⟨oc20, od20, .func (PySem.W.fnOf "_law_begun" "_law_begun" (defArgs (topS 24)) (defBody (topS 24)) (defScope (topS 24)) .none kV20 dc20 pm20 an20 cd20 ct20), sl20⟩) (c20 : PySem.W.codeIn K cd20 "_law_begun" = true) (k20 : PySem.W.keepIn K (.ref f20) = true)
    {f21 : Addr} {od21 an21 : Option Addr} {sl21 : Array (Option Value)} {oc21 kV21 dc21 pm21 cd21 ct21 : Value}
    (a21 : PySem.W.nsIn K mainGlobals "_law_spoilt" = some (some (.ref f21))) (l21 : K.lookup f21 = some ⟨oc21, od21, .func (PySem.W.fnOf "_law_spoilt" "_law_spoilt" (defArgs (topS 25)) (defBody (topS 25)) (defScope (topS 25)) .none kV21 dc21 pm21 an21 cd21 ct21), sl21⟩) (c21 : PySem.W.codeIn K cd21 "_law_spoilt" = true) (k21 : PySem.W.keepIn K (.ref f21) = true)
    {f22 : Addr} {od22 an22 : Option Addr} {sl22 : Array (Option Value)} {oc22 kV22 dc22 pm22 cd22 ct22 : Value}
    (a22 : PySem.W.nsIn K mainGlobals "_law_refuses" = some (some (.ref f22))) (l22 : K.lookup f22 = some ⟨oc22, od22, .func (PySem.W.fnOf "_law_refuses" "_law_refuses" (defArgs (topS 26)) (defBody (topS 26)) (defScope (topS 26)) .none kV22 dc22 pm22 an22 cd22 ct22), sl22⟩) (c22 : PySem.W.codeIn K cd22 "_law_refuses" = true) (k22 : PySem.W.keepIn K (.ref f22) = true)
    {f23 : Addr} {od23 an23 : Option Addr} {sl23 : Array (Option Value)} {oc23 kV23 dc23 pm23 cd23 ct23 : Value}
    (a23 : PySem.W.nsIn K mainGlobals "_law_refusal" = some (some (.ref f23))) (l23 : K.lookup f23 = some ⟨oc23, od23, .func (PySem.W.fnOf "_law_refusal" "_law_refusal" (defArgs (topS 27)) (defBody (topS 27)) (defScope (topS 27)) .none kV23 dc23 pm23 an23 cd23 ct23), sl23⟩) (c23 : PySem.W.codeIn K cd23 "_law_refusal" = true) (k23 : PySem.W.keepIn K (.ref f23) = true)
    {f24 : Addr} {od24 an24 : Option Addr} {sl24 : Array (Option Value)} {oc24 kV24 dc24 pm24 cd24 ct24 : Value}
    (a24 : PySem.W.nsIn K mainGlobals "law" = some (some (.ref f24))) (l24 : K.lookup f24 = some ⟨oc24, od24, .func (PySem.W.fnOf "law" "law" (defArgs (topS 28)) (defBody (topS 28)) (defScope (topS 28)) .none kV24 dc24 pm24 an24 cd24 ct24), sl24⟩) (c24 : PySem.W.codeIn K cd24 "law" = true) (k24 : PySem.W.keepIn K (.ref f24) = true)
    (z0 : PySem.W.nsIn K mainGlobals "len" = some none)
    (z1 : PySem.W.nsIn K mainGlobals "min" = some none)
    (z2 : PySem.W.nsIn K mainGlobals "all" = some none)
    (z3 : PySem.W.nsIn K mainGlobals "int" = some none)
    (z4 : PySem.W.nsIn K mainGlobals "bool" = some none)
    (z5 : PySem.W.nsIn K mainGlobals "str" = some none)
    (z6 : PySem.W.nsIn K mainGlobals "tuple" = some none)
    (z7 : PySem.W.nsIn K mainGlobals "list" = some none)
    (z8 : PySem.W.nsIn K mainGlobals "isinstance" = some none)
    (z9 : PySem.W.nsIn K mainGlobals "range" = some none)
    (z10 : PySem.W.nsIn K mainGlobals "enumerate" = some none)
    : theP.Ok K mg ∧ mg "law" = some (.ref f24) ∧ Fun K "law" "law" (topS 28) f24 (PySem.W.fnOf "law" "law" (defArgs (topS 28)) (defBody (topS 28)) (defScope (topS 28)) .none kV24 dc24 pm24 an24 cd24 ct24) := by
  have F0 := fun_mk (st := topS 1) l0 c0 k0
  have B0 := F0.binds (ps := fi0.N.take fi0.n) fun _ _ _ _ _ _ us hl => match us, hl with | [_, _, _], _ => rfl
  have F1 := fun_mk (st := topS 3) l1 c1 k1
  have B1 := F1.binds (ps := fi1.N.take fi1.n) fun _ _ _ _ _ _ us hl => match us, hl with | [_, _, _], _ => rfl
  have F2 := fun_mk (st := topS 4) l2 c2 k2
  have B2 := F2.binds (ps := fi2.N.take fi2.n) fun _ _ _ _ _ _ us hl => match us, hl with | [_, _, _, _], _ => rfl
  have F3 := fun_mk (st := topS 5) l3 c3 k3
  have B3 := F3.binds (ps := fi3.N.take fi3.n) fun _ _ _ _ _ _ us hl => match us, hl with | [_], _ => rfl
  have F4 := fun_mk (st := topS 6) l4 c4 k4
  have B4 := F4.binds (ps := fi4.N.take fi4.n) fun _ _ _ _ _ _ us hl => match us, hl with | [_, _], _ => rfl
  have F5 := fun_mk (st := topS 7) l5 c5 k5
  have B5 := F5.binds (ps := fi5.N.take fi5.n) fun _ _ _ _ _ _ us hl => match us, hl with | [_], _ => rfl
  have F6 := fun_mk (st := topS 9) l6 c6 k6
  have B6 := F6.binds (ps := fi6.N.take fi6.n) fun _ _ _ _ _ _ us hl => match us, hl with | [_, _, _, _], _ => rfl
  have F7 := fun_mk (st := topS 10) l7 c7 k7
  have B7 := F7.binds (ps := fi7.N.take fi7.n) fun _ _ _ _ _ _ us hl => match us, hl with | [_, _, _, _, _], _ => rfl
  have F8 := fun_mk (st := topS 11) l8 c8 k8
  have B8 := F8.binds (ps := fi8.N.take fi8.n) fun _ _ _ _ _ _ us hl => match us, hl with | [_, _], _ => rfl
  have F9 := fun_mk (st := topS 12) l9 c9 k9
  have B9 := F9.binds (ps := fi9.N.take fi9.n) fun _ _ _ _ _ _ us hl => match us, hl with | [_], _ => rfl
  have F10 := fun_mk (st := topS 13) l10 c10 k10
  have B10 := F10.binds (ps := fi10.N.take fi10.n) fun _ _ _ _ _ _ us hl => match us, hl with | [_], _ => rfl
  have F11 := fun_mk (st := topS 14) l11 c11 k11
  have B11 := F11.binds (ps := fi11.N.take fi11.n) fun _ _ _ _ _ _ us hl => match us, hl with | [_], _ => rfl
  have F12 := fun_mk (st := topS 16) l12 c12 k12
  have B12 := F12.binds (ps := fi12.N.take fi12.n) fun _ _ _ _ _ _ us hl => match us, hl with | [_], _ => rfl
  have F13 := fun_mk (st := topS 17) l13 c13 k13
  have B13 := F13.binds (ps := fi13.N.take fi13.n) fun _ _ _ _ _ _ us hl => match us, hl with | [_], _ => rfl
  have F14 := fun_mk (st := topS 18) l14 c14 k14
  have B14 := F14.binds (ps := fi14.N.take fi14.n) fun _ _ _ _ _ _ us hl => match us, hl with | [_, _], _ => rfl
  have F15 := fun_mk (st := topS 19) l15 c15 k15
  have B15 := F15.binds (ps := fi15.N.take fi15.n) fun _ _ _ _ _ _ us hl => match us, hl with | [_, _], _ => rfl
  have F16 := fun_mk (st := topS 20) l16 c16 k16
  have B16 := F16.binds (ps := fi16.N.take fi16.n) fun _ _ _ _ _ _ us hl => match us, hl with | [_, _, _], _ => rfl
  have F17 := fun_mk (st := topS 21) l17 c17 k17
  have B17 := F17.binds (ps := fi17.N.take fi17.n) fun _ _ _ _ _ _ us hl => match us, hl with | [_, _, _], _ => rfl
  have F18 := fun_mk (st := topS 22) l18 c18 k18
  have B18 := F18.binds (ps := fi18.N.take fi18.n) fun _ _ _ _ _ _ us hl => match us, hl with | [_, _, _, _], _ => rfl
  have F19 := fun_mk (st := topS 23) l19 c19 k19
  have B19 := F19.binds (ps := fi19.N.take fi19.n) fun _ _ _ _ _ _ us hl => match us, hl with | [_], _ => rfl
  have F20 := fun_mk (st := topS 24) l20 c20 k20
  have B20 := F20.binds (ps := fi20.N.take fi20.n) fun _ _ _ _ _ _ us hl => match us, hl with | [_, _, _], _ => rfl
  have F21 := fun_mk (st := topS 25) l21 c21 k21
  have B21 := F21.binds (ps := fi21.N.take fi21.n) fun _ _ _ _ _ _ us hl => match us, hl with | [_, _], _ => rfl
  have F22 := fun_mk (st := topS 26) l22 c22 k22
  have B22 := F22.binds (ps := fi22.N.take fi22.n) fun _ _ _ _ _ _ us hl => match us, hl with | [_, _], _ => rfl
  have F23 := fun_mk (st := topS 27) l23 c23 k23
  have B23 := F23.binds (ps := fi23.N.take fi23.n) fun _ _ _ _ _ _ us hl => match us, hl with | [_], _ => rfl
  have F24 := fun_mk (st := topS 28) l24 c24 k24
  have B24 := F24.binds (ps := fi24.N.take fi24.n) fun _ _ _ _ _ _ us hl => match us, hl with | [_], _ => rfl
  refine ⟨⟨?_, ?_, ?_, ?_, ?_⟩, PySem.W.mg_of X G a24, F24⟩
  · exact all_cons (fun F => den0 F) (all_cons (fun F => den1 F) (all_cons (fun F => den2 F) (all_cons (fun F => den3 F) (all_cons (fun F => den4 F) (all_cons (fun F => den5 F) (all_cons (fun F => den6 F) (all_cons (fun F => den7 F) (all_cons (fun F => den8 F) (all_cons (fun F => den9 F) (all_cons (fun F => den10 F) (all_cons (fun F => den11 F) (all_cons (fun F => den12 F) (all_cons (fun F => den13 F) (all_cons (fun F => den14 F) (all_cons (fun F => den15 F) (all_cons (fun F => den16 F) (all_cons (fun F => den17 F) (all_cons (fun F => den18 F) (all_cons (fun F => den19 F) (all_cons (fun F => den20 F) (all_cons (fun F => den21 F) (all_cons (fun F => den22 F) (all_cons (fun F => den23 F) (all_cons (fun F => den24 F) (all_nil)))))))))))))))))))))))))
  · exact all_cons sc0 (all_cons sc1 (all_cons sc2 (all_cons sc3 (all_cons sc4 (all_cons sc5 (all_cons sc6 (all_cons sc7 (all_cons sc8 (all_cons sc9 (all_cons sc10 (all_cons sc11 (all_cons sc12 (all_cons sc13 (all_cons sc14 (all_cons sc15 (all_cons sc16 (all_cons sc17 (all_cons sc18 (all_cons sc19 (all_cons sc20 (all_cons sc21 (all_cons sc22 (all_cons sc23 (all_cons sc24 (all_nil)))))))))))))))))))))))))
  · exact all_cons ⟨f0, _, PySem.W.mg_of X G a0, F0, B0⟩ (all_cons ⟨f1, _, PySem.W.mg_of X G a1, F1, B1⟩ (all_cons ⟨f2, _, PySem.W.mg_of X G a2, F2, B2⟩ (all_cons ⟨f3, _, PySem.W.mg_of X G a3, F3, B3⟩ (all_cons ⟨f4, _, PySem.W.mg_of X G a4, F4, B4⟩ (all_cons ⟨f5, _, PySem.W.mg_of X G a5, F5, B5⟩ (all_cons ⟨f6, _, PySem.W.mg_of X G a6, F6, B6⟩ (all_cons ⟨f7, _, PySem.W.mg_of X G a7, F7, B7⟩ (all_cons ⟨f8, _, PySem.W.mg_of X G a8, F8, B8⟩ (all_cons ⟨f9, _, PySem.W.mg_of X G a9, F9, B9⟩ (all_cons ⟨f10, _, PySem.W.mg_of X G a10, F10, B10⟩ (all_cons ⟨f11, _, PySem.W.mg_of X G a11, F11, B11⟩ (all_cons ⟨f12, _, PySem.W.mg_of X G a12, F12, B12⟩ (all_cons ⟨f13, _, PySem.W.mg_of X G a13, F13, B13⟩ (all_cons ⟨f14, _, PySem.W.mg_of X G a14, F14, B14⟩ (all_cons ⟨f15, _, PySem.W.mg_of X G a15, F15, B15⟩ (all_cons ⟨f16, _, PySem.W.mg_of X G a16, F16, B16⟩ (all_cons ⟨f17, _, PySem.W.mg_of X G a17, F17, B17⟩ (all_cons ⟨f18, _, PySem.W.mg_of X G a18, F18, B18⟩ (all_cons ⟨f19, _, PySem.W.mg_of X G a19, F19, B19⟩ (all_cons ⟨f20, _, PySem.W.mg_of X G a20, F20, B20⟩ (all_cons ⟨f21, _, PySem.W.mg_of X G a21, F21, B21⟩ (all_cons ⟨f22, _, PySem.W.mg_of X G a22, F22, B22⟩ (all_cons ⟨f23, _, PySem.W.mg_of X G a23, F23, B23⟩ (all_cons ⟨f24, _, PySem.W.mg_of X G a24, F24, B24⟩ (all_nil)))))))))))))))))))))))))
  · exact con_cons (PySem.W.mg_none_of X G z0) (con_cons (PySem.W.mg_none_of X G z1) (con_cons (PySem.W.mg_none_of X G z2) (con_cons (PySem.W.mg_none_of X G z3) (con_cons (PySem.W.mg_none_of X G z4) (con_cons (PySem.W.mg_none_of X G z5) (con_cons (PySem.W.mg_none_of X G z6) (con_cons (PySem.W.mg_none_of X G z7) (con_cons (PySem.W.mg_none_of X G z8) (con_cons (PySem.W.mg_none_of X G z9) (con_cons (PySem.W.mg_none_of X G z10) (con_nil)))))))))))
  · intro x k e; cases e
theorem head_of {l : PySem.W.OpenLaw} {w : World} {K : PySem.W.Frag} {mg : Str → Option Value} {fa f : Addr} {fd : FuncData} (hmg : mg "law" = some (.ref fa))
    (h : theP.Ok K mg ∧ mg "law" = some (.ref f) ∧ Fun K "law" "law" (topS 28) f fd) (hb : ∀ (s : Shared) (v : Value), BindsTo s fd ⟨[v], []⟩ [("script", v)]) :
    ∃ fd : FuncData, (∀ (s : Shared) (v : Value), BindsTo s fd ⟨[v], []⟩ [("script", v)]) ∧ ∀ base : Heap, K.In base → base.Ns mainGlobals mg → FnOk l.prog w K mg base CX0 220 fa fd ["script"] (spF K 1 (runP theP.P 220 24)) := by
  obtain ⟨ok, h1, h2⟩ := h
  rw [hmg] at h1; cases h1
  exact ⟨fd, hb, fun base _ _ => run_ok (p := theP) ok 220 24 fi24 fa fd rfl h2⟩
end K40

/-! K40b: what the small defs compute. -/
namespace K40
open PySem MP
abbrev R (k : Nat) : FE := runP theP.P k
abbrev Tb := List (List D)
def tD (t : Tb) : D := .tuple (t.map .tuple)
structure Wf (n : Nat) (t : Tb) : Prop where
  len : t.length = n
  row : ∀ r ∈ t, r.length = n
  big : n ≤ 1000
def isNum (v : D) (a b : Int) : Bool := match v with
  | .int x => decide (a ≤ x) && decide (x ≤ b)
  | _ => false
theorem num_ok (k : Nat) (v : D) (a b : Int) (h : Hh) : R (k + 1) 0 [.d v, .d (.int a), .d (.int b)] h = some (.d (.bool (isNum v a b)), h) := by
  refine callP_d (N := 3) (body := b0 (R k)) (ds := [v, .int a, .int b]) (e2 := [some (.d v), some (.d (.int a)), some (.d (.int b))]) (h2 := []) (h := h) ?_
  cases v <;> simp [b0, PyData.isInt, PyData.isBool, isNum]
  rename_i x
  by_cases h1 : a ≤ x
  · by_cases h2 : x ≤ b <;> simp [h1, h2]
  · simp [h1]
theorem whole_ok (k : Nat) (v : D) (a b : Int) (h : Hh) : R (k + 1) 16 [.d v, .d (.int a), .d (.int b)] h = some (.d (.bool (isNum v a b)), h) := by
  refine callP_d (N := 3) (body := b16 (R k)) (ds := [v, .int a, .int b]) (e2 := [some (.d v), some (.d (.int a)), some (.d (.int b))]) (h2 := []) (h := h) ?_
  cases v <;> simp [b16, PyData.isInt, PyData.isBool, isNum]
  rename_i x
  by_cases h1 : a ≤ x
  · by_cases h2 : x ≤ b <;> simp [h1, h2]
  · simp [h1]
def rowA (t : Tb) (i : Nat) : List D := t[i]?.getD []
def colA (t : Tb) (j : Nat) : List D := t.map fun r => r[j]?.getD .none
def freeP (t : Tb) (i j p : Nat) : Bool := !((rowA t i).any (fun y => PyData.eqv y (.int p)) || (colA t j).any (fun y => PyData.eqv y (.int p)))
def parts (t : Tb) (i j : Nat) : List Nat := (List.range t.length).filter (freeP t i j)
def partsD (t : Tb) (i j : Nat) : D := .list ((parts t i j).map fun (p : Nat) => .int p)
theorem row_at {n : Nat} {t : Tb} (w : Wf n t) {i : Nat} (hi : i < n) : t[i]? = some (rowA t i) ∧ (rowA t i).length = n := by
  have hl : i < t.length := by rw [w.len]; exact hi
  have e : t[i]? = some t[i] := List.getElem?_eq_getElem hl
  unfold rowA
  rw [e]
  exact ⟨rfl, w.row _ (List.getElem_mem hl)⟩
theorem ix_row {n : Nat} {t : Tb} (w : Wf n t) {i : Nat} (hi : i < n) (h : Hh) : opIx0 (.d (tD t)) (.d (.int i)) h = some (.d (.tuple (rowA t i)), h) :=
  ix_t (by rw [List.getElem?_map, (row_at w hi).1]; rfl)
/-- the column by a comprehension -/
theorem col_lc {n : Nat} {t : Tb} (w : Wf n t) {j : Nat} (hj : j < n) {fa fj : Exp} {own : Nat} {e : Ev} {h : Hh} (ha : fa e h = some (.d (tD t), h)) (ho : own < e.length)
    (hj2 : ∀ v, fj ((wipeE e [own]).set own (some v)) h = some (.d (.int j), h)) : eLc false (iAny fa) [own] (.nm own) tYs (eBin opIx0 (eVar own) fj) e h = some (.d (.list (colA t j)), h) := by
  have hs := src_t (ds := t.map .tuple) ha
  rw [List.map_map] at hs
  refine eLc_map (f := fun r : List D => r[j]?.getD .none) hs (by rw [w.len]; have := w.big; omega) fun r hr => ?_
  have hl := w.row r hr
  have e2 : r[j]? = some r[j] := List.getElem?_eq_getElem (by omega)
  refine ⟨_, rfl, ?_⟩
  have hv : eVar own ((wipeE e [own]).set own (some (.d (.tuple r)))) h = some (.d (.tuple r), h) := by
    rw [eVar_s, List.getElem?_set_self (by simpa using ho)]
  show eBin opIx0 (eVar own) fj ((wipeE e [own]).set own (some (.d (.tuple r)))) h = _
  rw [eBin_s, hv]
  simp only
  rw [hj2]
  simp only
  rw [ix_t e2, e2]
  rfl
theorem can_ok {n : Nat} {t : Tb} (w : Wf n t) {i j : Nat} (hi : i < n) (hj : j < n) (k : Nat) (h : Hh) : R (k + 1) 1 [.d (tD t), .d (.int i), .d (.int j)] h = some (.d (partsD t i j), h) := by
  have hw := w.big
  obtain ⟨r1, r2⟩ := row_at w hi
  refine callP_d (N := 6) (body := b1 (R k)) (ds := [tD t, .int i, .int j]) (e2 := [some (.d (tD t)), some (.d (.int i)), some (.d (.int j)), some (.d (.list (rowA t i ++ colA t j))), none, none]) (h2 := []) (h := h) ?_
  have e1 : ∀ h, opIx0 (.d (tD t)) (.d (.int i)) h = some (.d (.tuple (rowA t i)), h) := ix_row w hi
  have e2 := col_lc w hj (fa := eVar 0) (fj := eVar 2) (own := 5) (e := [some (.d (tD t)), some (.d (.int i)), some (.d (.int j)), none, none, none]) (h := []) rfl (by simp) (fun v => rfl)
  have lc : (colA t j).length = n := by unfold colA; rw [List.length_map, w.len]
  have e3 : eLc false (iRg (aCons (eArgs opLen (aCons (eVar 0) aNil)) aNil)) [4] (.nm 4) (tCmpr (eBin opNotIn0 (eVar 4) (eVar 3))) (eVar 4) [some (.d (tD t)), some (.d (.int i)), some (.d (.int j)), some (.d (.list (rowA t i ++ colA t j))), none, none] [] = some (.d (partsD t i j), []) := by
    have hs : iRg (aCons (eArgs opLen (aCons (eVar 0) aNil)) aNil) [some (.d (tD t)), some (.d (.int i)), some (.d (.int j)), some (.d (.list (rowA t i ++ colA t j))), none, none] [] = some (.st ((List.range n).map fun (k : Nat) => .one (.d (.int k))), []) :=
      src_r (n := n) (by simp [tD, w.len]) (by omega)
    rw [eLc_filter (p := freeP t i j) (f := fun (p : Nat) => .int p) hs (by rw [List.length_range]; omega) ?_]
    · unfold partsD parts
      rw [w.len]
    · intro p hp
      refine ⟨_, rfl, ?_, fun _ => by simp⟩
      have e4 : ∀ h, opNotIn0 (.d (.int p)) (.d (.list (rowA t i ++ colA t j))) h = some (.d (.bool (freeP t i j p)), h) := fun h => by
        rw [notIn_of (in_l rfl), List.any_append]
        rfl
      simp [e4]
  simp [b1, e1, e2, e3, lc, r2, show Fits (n + n) by unfold Fits; omega]
theorem parts_ok {n : Nat} {t : Tb} (w : Wf n t) {i j : Nat} (hi : i < n) (hj : j < n) (k : Nat) (h : Hh) : R (k + 1) 17 [.d (tD t), .d (.int i), .d (.int j)] h = some (.d (partsD t i j), h) := by
  have hw := w.big
  refine callP_d (N := 5) (body := b17 (R k)) (ds := [tD t, .int i, .int j]) (e2 := [some (.d (tD t)), some (.d (.int i)), some (.d (.int j)), none, none]) (h2 := []) (h := h) ?_
  have e3 : eLc false (iRg (aCons (eArgs opLen (aCons (eVar 0) aNil)) aNil)) [3] (.nm 3) (tAnd2 (tCmpr (eBin opNotIn0 (eVar 3) (eBin opIx0 (eVar 0) (eVar 1)))) (tCmpr (eBin opNotIn0 (eVar 3) (eLc false (iAny (eVar 0)) [4] (.nm 4) tYs (eBin opIx0 (eVar 4) (eVar 2)))))) (eVar 3) [some (.d (tD t)), some (.d (.int i)), some (.d (.int j)), none, none] [] = some (.d (partsD t i j), []) := by
    have hs : iRg (aCons (eArgs opLen (aCons (eVar 0) aNil)) aNil) [some (.d (tD t)), some (.d (.int i)), some (.d (.int j)), none, none] [] = some (.st ((List.range n).map fun (k : Nat) => .one (.d (.int k))), []) :=
      src_r (n := n) (by simp [tD, w.len]) (by omega)
    rw [eLc_filter (p := freeP t i j) (f := fun (p : Nat) => .int p) hs (by rw [List.length_range]; omega) ?_]
    · unfold partsD parts
      rw [w.len]
    · intro p hp
      refine ⟨_, rfl, ?_, fun _ => by simp⟩
      have e1 : ∀ h, opIx0 (.d (tD t)) (.d (.int i)) h = some (.d (.tuple (rowA t i)), h) := ix_row w hi
      have e2 := col_lc w hj (fa := eVar 0) (fj := eVar 2) (own := 4) (e := [some (.d (tD t)), some (.d (.int i)), some (.d (.int j)), some (.d (.int p)), none]) (h := []) rfl (by simp) (fun v => rfl)
      have e4 : ∀ h, opNotIn0 (.d (.int p)) (.d (.tuple (rowA t i))) h = some (.d (.bool (!(rowA t i).any fun y => PyData.eqv y (.int p))), h) := fun h => notIn_of (in_t rfl)
      have e5 : ∀ h, opNotIn0 (.d (.int p)) (.d (.list (colA t j))) h = some (.d (.bool (!(colA t j).any fun y => PyData.eqv y (.int p))), h) := fun h => notIn_of (in_l rfl)
      have e6 : freeP t i j p = (!(rowA t i).any (fun y => PyData.eqv y (.int p)) && !(colA t j).any (fun y => PyData.eqv y (.int p))) := by
        unfold freeP; simp
      rw [e6]
      cases hr : (rowA t i).any (fun y => PyData.eqv y (.int p)) with
      | true => simp [e1, e4, hr]
      | false => simp [e1, e2, e4, e5, hr]
  simp [b17, e3]
def setC (t : Tb) (i j : Nat) (p : D) : Tb := t.set i ((rowA t i).set j p)
theorem set_cut {α : Type} : ∀ {l : List α} {i : Nat} {x : α}, i < l.length → l.take i ++ x :: l.drop (i + 1) = l.set i x
  | a :: l, 0, x, _ => rfl
  | a :: l, i + 1, x, h => by
    simp only [List.take_succ_cons, List.drop_succ_cons, List.set_cons_succ, List.cons_append]
    rw [set_cut (by simpa using h)]
theorem setC_eq {n : Nat} {t : Tb} (w : Wf n t) {i j : Nat} (hi : i < n) (hj : j < n) (p : D) : (t.map PyData.tuple).take i ++ PyData.tuple ((rowA t i).take j ++ p :: (rowA t i).drop (j + 1)) :: (t.map PyData.tuple).drop (i + 1) = (setC t i j p).map .tuple := by
  have h1 : j < (rowA t i).length := by rw [(row_at w hi).2]; exact hj
  have h2 : i < (t.map PyData.tuple).length := by rw [List.length_map, w.len]; exact hi
  rw [set_cut h1, set_cut h2]
  unfold setC
  rw [List.map_set]
theorem setC_wf {n : Nat} {t : Tb} (w : Wf n t) {i j : Nat} (hi : i < n) (p : D) : Wf n (setC t i j p) := by
  refine ⟨by unfold setC; rw [List.length_set, w.len], fun r hr => ?_, w.big⟩
  unfold setC at hr
  rcases List.mem_or_eq_of_mem_set hr with hr | rfl
  · exact w.row r hr
  · rw [List.length_set, (row_at w hi).2]
theorem with_ok {n : Nat} {t : Tb} (w : Wf n t) {i j : Nat} (hi : i < n) (hj : j < n) (p : D) (k : Nat) (h : Hh) : R (k + 1) 2 [.d (tD t), .d (.int i), .d (.int j), .d p] h = some (.d (tD (setC t i j p)), h) := by
  have hw := w.big
  obtain ⟨r1, r2⟩ := row_at w hi
  refine callP_d (N := 5) (body := b2 (R k)) (ds := [tD t, .int i, .int j, p]) (x := tD (setC t i j p)) (e2 := [some (.d (tD t)), some (.d (.int i)), some (.d (.int j)), some (.d p), some (.d (.tuple ((rowA t i).take j ++ p :: (rowA t i).drop (j + 1))))]) (h2 := []) (h := h) ?_
  have e1 : ∀ h, opIx0 (.d (tD t)) (.d (.int i)) h = some (.d (.tuple (rowA t i)), h) := ix_row w hi
  have e2 := setC_eq w hi hj p
  have z1 : Fits (min j n + 1) := by unfold Fits; omega
  have z2 : Fits (min j n + 1 + (n - (j + 1))) := by unfold Fits; omega
  have z3 : Fits (min i n + 1) := by unfold Fits; omega
  have z4 : Fits (min i n + 1 + (n - (i + 1))) := by unfold Fits; omega
  simp [b2, e1, sl_to, sl_from1, r2, z1, z2]
  simp [tD, sl_to, sl_from1, w.len, z3, z4, e2]
theorem lwith_ok {n : Nat} {t : Tb} (w : Wf n t) {i j : Nat} (hi : i < n) (hj : j < n) (p : D) (k : Nat) (h : Hh) : R (k + 1) 18 [.d (tD t), .d (.int i), .d (.int j), .d p] h = some (.d (tD (setC t i j p)), h) := by
  have hw := w.big
  obtain ⟨r1, r2⟩ := row_at w hi
  refine callP_d (N := 4) (body := b18 (R k)) (ds := [tD t, .int i, .int j, p]) (x := tD (setC t i j p)) (e2 := [some (.d (tD t)), some (.d (.int i)), some (.d (.int j)), some (.d p)]) (h2 := []) (h := h) ?_
  have e1 : ∀ h, opIx0 (.d (tD t)) (.d (.int i)) h = some (.d (.tuple (rowA t i)), h) := ix_row w hi
  have e2 := setC_eq w hi hj p
  have z1 : Fits (min j n + 1) := by unfold Fits; omega
  have z2 : Fits (min j n + 1 + (n - (j + 1))) := by unfold Fits; omega
  have z3 : Fits (min i n + 1) := by unfold Fits; omega
  have z4 : Fits (min i n + 1 + (n - (i + 1))) := by unfold Fits; omega
  simp [b18, e1, sl_to, sl_from1, r2, z1, z2]
  simp [tD, sl_to, sl_from1, w.len, z3, z4, e2]
end K40

/-! K40c: gaps, ends. -/
namespace K40
open PySem MP
def gapR (i : Nat) (r : List D) : Option (Nat × Nat) := r.zipIdx.findSome? fun p => if isNoneD p.1 then some (i, p.2) else none
def gapT (t : Tb) : Option (Nat × Nat) := t.zipIdx.findSome? fun p => gapR p.2 p.1
def gapD (o : Option (Nat × Nat)) : D := match o with
  | some (i, j) => .tuple [.int i, .int j]
  | none => .none
theorem zip_map {α β : Type} (f : α → β) : ∀ (l : List α) (k : Nat), (l.map f).zipIdx k = (l.zipIdx k).map fun p => (f p.1, p.2)
  | [], _ => rfl
  | a :: l, k => by rw [List.map_cons, List.zipIdx_cons, List.zipIdx_cons, zip_map f l]; rfl
theorem fs_map {α β γ : Type} (f : β → γ) {g : α → Option β} : ∀ l : List α, l.findSome? (fun x => (g x).map f) = (l.findSome? g).map f
  | [] => rfl
  | a :: l => by
    rw [List.findSome?_cons, List.findSome?_cons, fs_map f l]
    cases g a <;> rfl
def gv (p : Nat × Nat) : Val := .d (.tuple [.int p.1, .int p.2])
theorem gap_ok (t : Tb) (k : Nat) (h : Hh) : R (k + 1) 3 [.d (tD t)] h = some (.d (gapD (gapT t)), h) := by
  let I : Ev → Hh → Prop := fun e h => ∃ a b c d, e = [some (.d (tD t)), a, b, c, d] ∧ h = []
  -- a row
  have inner : ∀ (i : Nat) (r : List D) (e : Ev) (h : Hh), (∃ c d, e = [some (.d (tD t)), some (.d (.int i)), some (.d (.tuple r)), c, d] ∧ h = []) → ∃ e2 h2,
      (∃ v, r.zipIdx.findSome? (fun p => if isNoneD p.1 then some (gv (i, p.2)) else none) = some v ∧ forN (.st (r.zipIdx.map fun p => .two (.d (.int (p.2 : Nat))) (.d p.1))) (.tp [(.nm 3), (.nm 4)]) (sSeq (sIf (tCmpr (eBin opIs (eVar 4) (eD .none)))
    (sSeq (sRet (eTup (aCons (eVar 1) (aCons (eVar 3) aNil)))) sNil) sNil) sNil) r.zipIdx.length 0 e h = some (.rt v, e2, h2)) ∨
      (r.zipIdx.findSome? (fun p => if isNoneD p.1 then some (gv (i, p.2)) else none) = none ∧ forN (.st (r.zipIdx.map fun p => .two (.d (.int (p.2 : Nat))) (.d p.1))) (.tp [(.nm 3), (.nm 4)]) (sSeq (sIf (tCmpr (eBin opIs (eVar 4) (eD .none)))
    (sSeq (sRet (eTup (aCons (eVar 1) (aCons (eVar 3) aNil)))) sNil) sNil) sNil) r.zipIdx.length 0 e h = some (.nx, e2, h2) ∧ (∃ c d, e2 = [some (.d (tD t)), some (.d (.int i)), some (.d (.tuple r)), c, d] ∧ h2 = [])) := by
    intro i r
    refine for_find (fun e h => ∃ c d, e = [some (.d (tD t)), some (.d (.int i)), some (.d (.tuple r)), c, d] ∧ h = []) _ ?_
    rintro ⟨x, j⟩ hx e h ⟨c, d, rfl, rfl⟩
    refine ⟨[some (.d (tD t)), some (.d (.int i)), some (.d (.tuple r)), some (.d (.int j)), some (.d x)], [some (.d (tD t)), some (.d (.int i)), some (.d (.tuple r)), some (.d (.int j)), some (.d x)], [], by simp, ?_⟩
    cases hn : isNoneD x with
    | true => exact .inl ⟨gv (i, j), by simp [hn], by simp [hn, gv]⟩
    | false => exact .inr ⟨by simp [hn], .inl (by simp [hn]), _, _, rfl, rfl⟩
  have outer := for_find (l := t.zipIdx) (ι := fun p => .two (.d (.int (p.2 : Nat))) (.d (.tuple p.1))) (tg := .tp [(.nm 1), (.nm 2)]) (B := sSeq (sFor (iEnu (eVar 2)) (.tp [(.nm 3), (.nm 4)])
   (sSeq (sIf (tCmpr (eBin opIs (eVar 4) (eD .none)))
    (sSeq (sRet (eTup (aCons (eVar 1) (aCons (eVar 3) aNil))))
    sNil)
    sNil)
   sNil)
   sNil)
  sNil) I (fun p => (gapR p.2 p.1).map gv) (by
    rintro ⟨r, i⟩ hx e h ⟨a, b, c, d, rfl, rfl⟩
    have he : (gapR i r).map gv = r.zipIdx.findSome? (fun p => if isNoneD p.1 then some (gv (i, p.2)) else none) := by
      unfold gapR
      rw [← fs_map]
      congr 1
      funext p
      by_cases hp : isNoneD p.1 = true <;> simp [hp]
    have hsrc : iEnu (eVar 2) [some (.d (tD t)), some (.d (.int i)), some (.d (.tuple r)), c, d] [] = some (.st (r.zipIdx.map fun p => .two (.d (.int (p.2 : Nat))) (.d p.1)), []) := src_et rfl
    obtain ⟨e2, h2, hc⟩ := inner i r _ _ ⟨c, d, rfl, rfl⟩
    refine ⟨[some (.d (tD t)), some (.d (.int i)), some (.d (.tuple r)), c, d], e2, h2, by simp, ?_⟩
    rcases hc with ⟨v, hv, hf⟩ | ⟨hv, hf, c', d', rfl, rfl⟩
    · exact .inl ⟨v, by simp only; rw [he, hv], by rw [sSeq_s, sFor_st hsrc, hf]⟩
    · exact .inr ⟨by simp only; rw [he, hv], .inl (by rw [sSeq_s, sFor_st hsrc, hf]; simp), _, _, _, _, rfl, rfl⟩)
  obtain ⟨e2, h2, hc⟩ := outer [some (.d (tD t)), none, none, none, none] [] ⟨_, _, _, _, rfl, rfl⟩
  have hg : t.zipIdx.findSome? (fun p => (gapR p.2 p.1).map gv) = (gapT t).map gv := by
    unfold gapT
    rw [← fs_map]
  have hsrc : iEnu (eVar 0) [some (.d (tD t)), none, none, none, none] [] = some (.st (t.zipIdx.map fun p => .two (.d (.int (p.2 : Nat))) (.d (.tuple p.1))), []) := by
    have := src_et (fa := eVar 0) (e := [some (.d (tD t)), none, none, none, none]) (h := []) (h1 := []) (ds := t.map .tuple) rfl
    rw [this, zip_map, List.map_map]
    rfl
  rw [hg] at hc
  rcases hc with ⟨v, hv, hf⟩ | ⟨hv, hf, a, b, c, d, rfl, rfl⟩
  · cases hgt : gapT t with
    | none => rw [hgt] at hv; cases hv
    | some p =>
      rw [hgt] at hv
      cases hv
      refine callP_d (N := 5) (body := b3 (R k)) (ds := [tD t]) (e2 := e2) (h2 := h2) (h := h) ?_
      show b3 (R k) [some (.d (tD t)), none, none, none, none] [] = _
      unfold b3
      rw [sSeq_s, sFor_st hsrc, hf]
      rfl
  · have hgt : gapT t = none := by cases hgt : gapT t with
      | none => rfl
      | some p => rw [hgt] at hv; cases hv
    rw [hgt]
    refine callP_d (N := 5) (body := b3 (R k)) (ds := [tD t]) (h := h) (x := .none) (e2 := [some (.d (tD t)), a, b, c, d]) (h2 := []) ?_
    show b3 (R k) [some (.d (tD t)), none, none, none, none] [] = _
    unfold b3
    rw [sSeq_s, sFor_st hsrc, hf]
    simp
end K40

/-! K40d: all ends, and the first. -/
namespace K40
open PySem MP
def gapN (t : Tb) : Nat := (t.map fun r => r.countP isNoneD).sum
theorem gapT_some {t : Tb} {i j : Nat} (h : gapT t = some (i, j)) : ∃ r x, t[i]? = some r ∧ r[j]? = some x ∧ isNoneD x = true := by
  obtain ⟨⟨r, i'⟩, hm, hg⟩ := List.exists_of_findSome?_eq_some h
  have h1 := List.mem_zipIdx_iff_getElem?.mp hm
  obtain ⟨⟨x, j'⟩, hm2, hg2⟩ := List.exists_of_findSome?_eq_some hg
  have h2 := List.mem_zipIdx_iff_getElem?.mp hm2
  simp only at hg2 h1 h2
  by_cases hx : isNoneD x = true
  · rw [if_pos hx] at hg2
    cases hg2
    exact ⟨r, x, h1, h2, hx⟩
  · rw [if_neg hx] at hg2; cases hg2
theorem gapT_none {t : Tb} (h : gapT t = none) {i j : Nat} {r : List D} {x : D} (h1 : t[i]? = some r) (h2 : r[j]? = some x) : isNoneD x = false := by
  have hr := List.findSome?_eq_none_iff.mp h (r, i) (List.mem_zipIdx_iff_getElem?.mpr h1)
  have hx := List.findSome?_eq_none_iff.mp hr (x, j) (List.mem_zipIdx_iff_getElem?.mpr h2)
  simp only at hx
  by_cases hn : isNoneD x = true
  · rw [if_pos hn] at hx; cases hx
  · simpa using hn
theorem sum_set {α : Type} {f : α → Nat} {r' : α} : ∀ {t : List α} {i : Nat} {r : α}, t[i]? = some r → f r' + 1 = f r → ((t.set i r').map f).sum + 1 = (t.map f).sum
  | a :: t, 0, r, h1, h2 => by
    simp at h1; subst h1
    simp only [List.set_cons_zero, List.map_cons, List.sum_cons]
    omega
  | a :: t, i + 1, r, h1, h2 => by
    have := sum_set (t := t) (i := i) (r := r) (by simpa using h1) h2
    simp only [List.set_cons_succ, List.map_cons, List.sum_cons]
    omega
theorem count_set {x p : D} : ∀ {r : List D} {j : Nat}, r[j]? = some x → isNoneD x = true → isNoneD p = false → (r.set j p).countP isNoneD + 1 = r.countP isNoneD
  | a :: r, 0, h1, h2, h3 => by
    simp at h1; subst h1
    simp [List.countP_cons, h2, h3]
  | a :: r, j + 1, h1, h2, h3 => by
    have := count_set (r := r) (j := j) (by simpa using h1) h2 h3
    simp only [List.set_cons_succ, List.countP_cons]
    omega
theorem row_of {t : Tb} {i : Nat} {r : List D} (h : t[i]? = some r) : rowA t i = r := by unfold rowA; rw [h]; rfl
theorem gapN_set {t : Tb} {i j : Nat} {r : List D} {x p : D} (h1 : t[i]? = some r) (h2 : r[j]? = some x) (h3 : isNoneD x = true) (h4 : isNoneD p = false) : gapN (setC t i j p) + 1 = gapN t := by
  unfold gapN setC
  rw [row_of h1]
  exact sum_set h1 (count_set h2 h3 h4)
theorem at_lt {n : Nat} {t : Tb} (w : Wf n t) {i j : Nat} {r : List D} {x : D} (h1 : t[i]? = some r) (h2 : r[j]? = some x) : i < n ∧ j < n := by
  have a := (List.getElem?_eq_some_iff.mp h1).1
  have b := (List.getElem?_eq_some_iff.mp h2).1
  have c := w.row r (List.mem_of_getElem? h1)
  have := w.len
  omega
/-- all ends, in the order of the search; g: at least as many as there are gaps -/
def ends : Nat → Tb → List Tb
  | 0, t => [t]
  | g + 1, t => match gapT t with
    | none => [t]
    | some (i, j) => (parts t i j).flatMap fun (p : Nat) => ends g (setC t i j (.int p))
def nodes : Nat → Tb → Nat
  | 0, _ => 1
  | g + 1, t => match gapT t with
    | none => 1
    | some (i, j) => 1 + ((parts t i j).map fun (p : Nat) => nodes g (setC t i j (.int p))).sum
theorem parts_len (t : Tb) (i j : Nat) : (parts t i j).length ≤ t.length := by
  unfold parts
  exact Nat.le_trans (List.length_filter_le _ _) (by rw [List.length_range]; exact Nat.le_refl _)
theorem sum_le {α : Type} {f : α → Nat} {b : Nat} : ∀ {l : List α}, (∀ x ∈ l, f x ≤ b) → (l.map f).sum ≤ l.length * b
  | [], _ => by simp
  | a :: l, h => by
    have h1 := h a List.mem_cons_self
    have h2 := sum_le (l := l) fun x hx => h x (List.mem_cons_of_mem _ hx)
    rw [List.map_cons, List.sum_cons, List.length_cons, Nat.succ_mul]
    omega
theorem nodes_le {n : Nat} : ∀ (g : Nat) {t : Tb}, Wf n t → nodes g t ≤ (n + 1) ^ g
  | 0, t, _ => Nat.le_refl _
  | g + 1, t, w => by
    unfold nodes
    have hp : 1 ≤ (n + 1) ^ g := Nat.one_le_pow _ _ (by omega)
    have e : (n + 1) ^ (g + 1) = n * (n + 1) ^ g + (n + 1) ^ g := by rw [Nat.pow_succ, Nat.mul_add, Nat.mul_one, Nat.mul_comm]
    split
    · omega
    · rename_i i j hg
      obtain ⟨r, x, h1, h2, _⟩ := gapT_some hg
      have hi := (at_lt w h1 h2).1
      have h3 : ((parts t i j).map fun (p : Nat) => nodes g (setC t i j (.int p))).sum ≤ (parts t i j).length * (n + 1) ^ g := sum_le fun p _ => nodes_le g (setC_wf w hi _)
      have h4 := parts_len t i j
      rw [w.len] at h4
      have h5 : (parts t i j).length * (n + 1) ^ g ≤ n * (n + 1) ^ g := Nat.mul_le_mul_right _ h4
      omega
/-- what is on the stack -/
structure Lv (n g : Nat) (t : Tb) : Prop where
  w : Wf n t
  g : gapN t ≤ g
theorem gap0 {n : Nat} {t : Tb} (l : Lv n 0 t) : gapT t = none := by
  cases h : gapT t with
  | none => rfl
  | some p =>
    obtain ⟨i, j⟩ := p
    obtain ⟨r, x, h1, h2, h3⟩ := gapT_some h
    have := gapN_set h1 h2 h3 (p := .int 0) rfl
    have := l.g
    omega
theorem child {n g : Nat} {t : Tb} (l : Lv n (g + 1) t) {i j : Nat} (h : gapT t = some (i, j)) (p : Nat) : Lv n g (setC t i j (.int p)) := by
  obtain ⟨r, x, h1, h2, h3⟩ := gapT_some h
  have := gapN_set h1 h2 h3 (p := .int p) rfl
  have := l.g
  exact ⟨setC_wf l.w (at_lt l.w h1 h2).1 _, by omega⟩
abbrev tVals (ts : List Tb) : List Val := ts.map fun t => .d (tD t)
abbrev stE (t : Tb) (a b c d f : Option Val) : Ev := [some (.d (tD t)), some (.d (.int 1)), some (.loc 0), some (.loc 1), a, b, c, d, f]
abbrev wTest : Tst := tAnd2 (tVal (eVar 3)) (tCmpr (eBin opLt (eArgs opLen (aCons (eVar 2) aNil)) (eVar 1)))
theorem tst_empty {t : Tb} {a b c d f : Option Val} {fs : List Val} : wTest (stE t a b c d f) [.lst fs, .lst []] = some (false, [.lst fs, .lst []]) := rfl
theorem len_loc {n : Nat} {vs : List Val} {h : Hh} (g : h[n]? = some (.lst vs)) : opLen [.loc n] h = some (.d (.int vs.length), h) := by
  have e : listItems (.loc n) h = some vs := by unfold listItems; simp only [g]
  show (match seqItems (.loc n) h with
    | some us => some (Val.d (.int us.length), h)
    | none => none) = _
  rw [show seqItems (.loc n) h = some vs from e]
theorem tru_loc {n : Nat} {vs : List Val} {h : Hh} (g : h[n]? = some (.lst vs)) : truV (.loc n) h = some (!vs.isEmpty) := by
  have e : listItems (.loc n) h = some vs := by unfold listItems; simp only [g]
  show (match seqItems (.loc n) h with
    | some us => some (!us.isEmpty)
    | none => none) = _
  rw [show seqItems (.loc n) h = some vs from e]
theorem tst_more {t : Tb} {a b c d f : Option Val} {fs vs : List Val} (hv : vs ≠ []) : wTest (stE t a b c d f) [.lst fs, .lst vs] = some (decide ((fs.length : Int) < 1), [.lst fs, .lst vs]) := by
  have h1 : (!vs.isEmpty) = true := by cases vs with
    | nil => exact (hv rfl).elim
    | cons a b => rfl
  simp [wTest, stE, tru_loc (n := 1) (vs := vs) (h := [.lst fs, .lst vs]) rfl, len_loc (n := 0) (vs := fs) (h := [.lst fs, .lst vs]) rfl, h1]
/-- one turn, a whole table on top -/
abbrev wBody (F : FE) : Stm := (sSeq (sAsg (eMthL mPop (eVar 3) aNil) (.nm 4))
  (sSeq (sAsg (eArgs (F 3) (aCons (eVar 4) aNil)) (.nm 5))
  (sSeq (sIf (tCmpr (eBin opIs (eVar 5) (eD .none)))
   (sSeq (sDrop (eMthL mAppend (eVar 2) (aCons (eVar 4) aNil)))
   sNil)
   (sSeq (sAsg (eVar 5) (.tp [(.nm 6), (.nm 7)]))
   (sSeq (sDrop (eMthL mExtend (eVar 3) (aCons (eUn (opRev false) (eLc false (iAny (eArgs (F 1) (aCons (eVar 4) (aCons (eVar 6) (aCons (eVar 7) aNil))))) [8] (.nm 8) tYs (eArgs (F 2) (aCons (eVar 4) (aCons (eVar 6) (aCons (eVar 7) (aCons (eVar 8) aNil))))))) aNil)))
   sNil)))
  sNil)))
theorem kind_loc {n : Nat} {vs : List Val} {h : Hh} (g : h[n]? = some (.lst vs)) : mkind (.loc n) h = some "list" := by
  have e : listItems (.loc n) h = some vs := by unfold listItems; simp only [g]
  unfold mkind
  simp only [e]
theorem pop_last {n : Nat} {vs : List Val} {v : Val} {h : Hh} (g : h[n]? = some (.lst (vs ++ [v]))) : mPop (.loc n) [] h = some (v, h.set n (.lst vs)) := by
  unfold mPop
  simp [g]
theorem app_ok {n : Nat} {vs : List Val} {v : Val} {h : Hh} (g : h[n]? = some (.lst vs)) (hz : vs.length < 16777216) : mAppend (.loc n) [v] h = some (.d .none, h.set n (.lst (vs ++ [v]))) := by
  unfold mAppend
  simp only [g]
  rw [if_pos (by rw [← size_eq]; exact hz)]
theorem ext_ok {n : Nat} {vs : List Val} {ds : List D} {h : Hh} (g : h[n]? = some (.lst vs)) (hz : Fits (vs.length + ds.length)) : mExtend (.loc n) [.d (.list ds)] h = some (.d .none, h.set n (.lst (vs ++ ds.map .d))) := by
  unfold mExtend
  simp only [g, listItems]
  rw [List.length_map, if_pos (by rw [← size_eq]; exact hz)]
theorem turn_end {t0 t : Tb} {a b c d f : Option Val} {ts : List Tb} {k : Nat} (hg : gapT t = none) : ∃ a1 b1 c1 d1 f1, wBody (R (k + 1)) (stE t0 a b c d f) [.lst [], .lst (tVals (ts ++ [t]))] = some (.nx, stE t0 a1 b1 c1 d1 f1, [.lst [.d (tD t)], .lst (tVals ts)]) := by
  have e1 := gap_ok t k
  rw [hg] at e1
  have e2 : tVals (ts ++ [t]) = tVals ts ++ [.d (tD t)] := by simp [tVals]
  rw [e2]
  refine ⟨some (.d (tD t)), some (.d .none), c, d, f, ?_⟩
  have k1 := kind_loc (n := 1) (vs := tVals ts ++ [.d (tD t)]) (h := [.lst [], .lst (tVals ts ++ [.d (tD t)])]) rfl
  have k2 := kind_loc (n := 0) (vs := []) (h := [.lst [], .lst (tVals ts)]) rfl
  have p1 := pop_last (n := 1) (vs := tVals ts) (v := .d (tD t)) (h := [.lst [], .lst (tVals ts ++ [.d (tD t)])]) rfl
  have a1 := app_ok (n := 0) (vs := []) (v := .d (tD t)) (h := [.lst [], .lst (tVals ts)]) rfl (by decide)
  simp only [List.set_cons_succ, List.set_cons_zero] at p1 a1
  simp [wBody, stE, k1, p1, e1, k2, a1, gapD, isNoneD]
theorem turn_more {n g : Nat} {t0 t : Tb} {a b c d f : Option Val} {ts : List Tb} {k i j : Nat} (l : Lv n (g + 1) t) (hn : n ≤ 4) (hg : gapT t = some (i, j)) (hz : ts.length ≤ 1000) :
    ∃ a1 b1 c1 d1 f1, wBody (R (k + 1)) (stE t0 a b c d f) [.lst [], .lst (tVals (ts ++ [t]))] = some (.nx, stE t0 a1 b1 c1 d1 f1, [.lst [], .lst (tVals (ts ++ ((parts t i j).map fun (p : Nat) => setC t i j (.int p)).reverse))]) := by
  have e1 := gap_ok t k
  rw [hg] at e1
  obtain ⟨r, x, h1, h2, h3⟩ := gapT_some hg
  obtain ⟨hi, hj⟩ := at_lt l.w h1 h2
  have e2 : tVals (ts ++ [t]) = tVals ts ++ [.d (tD t)] := by simp [tVals]
  rw [e2]
  refine ⟨some (.d (tD t)), some (.d (gapD (some (i, j)))), some (.d (.int i)), some (.d (.int j)), f, ?_⟩
  have k1 := kind_loc (n := 1) (vs := tVals ts ++ [.d (tD t)]) (h := [.lst [], .lst (tVals ts ++ [.d (tD t)])]) rfl
  have k2 := kind_loc (n := 1) (vs := tVals ts) (h := [.lst [], .lst (tVals ts)]) rfl
  have p1 := pop_last (n := 1) (vs := tVals ts) (v := .d (tD t)) (h := [.lst [], .lst (tVals ts ++ [.d (tD t)])]) rfl
  have pl := parts_len t i j
  rw [l.w.len] at pl
  have x1 := ext_ok (n := 1) (vs := tVals ts) (ds := ((parts t i j).map fun (p : Nat) => tD (setC t i j (.int p))).reverse) (h := [.lst [], .lst (tVals ts)]) rfl (by unfold Fits; simp [tVals]; omega)
  have e3 := can_ok l.w hi hj k
  have e4 : eLc false (iAny (eArgs (R (k + 1) 1) (aCons (eVar 4) (aCons (eVar 6) (aCons (eVar 7) aNil))))) [8] (.nm 8) tYs (eArgs (R (k + 1) 2) (aCons (eVar 4) (aCons (eVar 6) (aCons (eVar 7) (aCons (eVar 8) aNil))))) (stE t0 (some (.d (tD t))) (some (.d (gapD (some (i, j))))) (some (.d (.int i))) (some (.d (.int j))) f) [.lst [], .lst (tVals ts)] =
      some (.d (.list ((parts t i j).map fun (p : Nat) => tD (setC t i j (.int p)))), [.lst [], .lst (tVals ts)]) := by
    have hs : iAny (eArgs (R (k + 1) 1) (aCons (eVar 4) (aCons (eVar 6) (aCons (eVar 7) aNil)))) (stE t0 (some (.d (tD t))) (some (.d (gapD (some (i, j))))) (some (.d (.int i))) (some (.d (.int j))) f) [.lst [], .lst (tVals ts)] = some (.st ((parts t i j).map fun (p : Nat) => .one (.d (.int p))), [.lst [], .lst (tVals ts)]) := by
      have := src_l (fa := eArgs (R (k + 1) 1) (aCons (eVar 4) (aCons (eVar 6) (aCons (eVar 7) aNil)))) (e := stE t0 (some (.d (tD t))) (some (.d (gapD (some (i, j))))) (some (.d (.int i))) (some (.d (.int j))) f) (h := [.lst [], .lst (tVals ts)]) (h1 := [.lst [], .lst (tVals ts)]) (ds := (parts t i j).map fun (p : Nat) => .int p) (by simp [stE, e3, partsD])
      rw [this, List.map_map]
      rfl
    refine eLc_map (f := fun (p : Nat) => tD (setC t i j (.int p))) hs (by omega) fun p hp => ⟨_, rfl, ?_⟩
    have e5 := with_ok l.w hi hj (.int p) k
    simp [stE, e5]
  simp only [List.set_cons_succ, List.set_cons_zero] at p1 x1
  have e6 : tVals ts ++ ((parts t i j).map fun (p : Nat) => tD (setC t i j (.int p))).reverse.map Val.d = tVals (ts ++ ((parts t i j).map fun (p : Nat) => setC t i j (.int p)).reverse) := by simp [tVals]
  rw [e6] at x1
  simp only [gapD, stE] at e1 e4
  simp [wBody, stE, k1, p1, e1, k2, gapD, isNoneD, e4, x1]
end K40

/-! K40e: the search for the first end. -/
namespace K40
open PySem MP
theorem while_stop {t : Tst} {B : Stm} {k : Nat} {e : Ev} {h h1 : Hh} (ht : t e h = some (false, h1)) : whileN t B (k + 1) e h = some (.nx, e, h1) := by
  unfold whileN
  simp only [ht]
theorem while_go {t : Tst} {B : Stm} {k : Nat} {e e2 : Ev} {h h1 h2 : Hh} (ht : t e h = some (true, h1)) (hb : B e h1 = some (.nx, e2, h2)) : whileN t B (k + 1) e h = whileN t B k e2 h2 := by
  conv => lhs; unfold whileN
  simp only [ht, hb]
def E (t : Tb) : List Tb := ends (gapN t) t
def nd (t : Tb) : Nat := nodes (gapN t) t
def kids (t : Tb) (i j : Nat) : List Tb := (parts t i j).map fun (p : Nat) => setC t i j (.int p)
theorem kid_gap {t : Tb} {i j : Nat} (hg : gapT t = some (i, j)) (p : Nat) : gapN (setC t i j (.int p)) + 1 = gapN t := by
  obtain ⟨r, x, h1, h2, h3⟩ := gapT_some hg
  exact gapN_set h1 h2 h3 rfl
theorem E_none {t : Tb} (hg : gapT t = none) : E t = [t] := by
  unfold E
  cases gapN t with
  | zero => rfl
  | succ g => unfold ends; rw [hg]
theorem nd_pos (t : Tb) : 1 ≤ nd t := by
  unfold nd
  cases gapN t with
  | zero => exact Nat.le_refl _
  | succ g => unfold nodes; split <;> omega
theorem E_some {t : Tb} {i j : Nat} (hg : gapT t = some (i, j)) : E t = (kids t i j).flatMap E := by
  have hk := kid_gap hg
  have h0 := hk 0
  unfold E kids
  rw [← h0]
  conv => lhs; unfold ends
  rw [hg, List.flatMap_map]
  simp only
  congr 1
  funext p
  have := hk p
  have e : gapN (setC t i j (.int ((0 : Nat) : Int))) = gapN (setC t i j (.int p)) := by omega
  rw [e]
theorem nd_some {t : Tb} {i j : Nat} (hg : gapT t = some (i, j)) : nd t = 1 + ((kids t i j).map nd).sum := by
  have hk := kid_gap hg
  have h0 := hk 0
  unfold nd kids
  rw [← h0]
  conv => lhs; unfold nodes
  rw [hg, List.map_map]
  simp only
  congr 2
  apply List.map_congr_left
  intro p _
  have := hk p
  have e : gapN (setC t i j (.int ((0 : Nat) : Int))) = gapN (setC t i j (.int p)) := by omega
  show nodes (gapN (setC t i j (.int ((0 : Nat) : Int)))) _ = nodes (gapN (setC t i j (.int p))) _
  rw [e]
theorem loop {n C k : Nat} {t0 : Tb} (hn : n ≤ 4) (hC : C ≤ 1000) : ∀ (m K : Nat) (ts : List Tb), (ts.map nd).sum ≤ m → m + 2 ≤ K → (∀ t ∈ ts, Wf n t) → (∀ q t, ts[q]? = some t → q + 1 + n * gapN t ≤ C) → ∀ a b c d f, ∃ a' b' c' d' f' ws,
    whileN wTest (wBody (R (k + 1))) K (stE t0 a b c d f) [.lst [], .lst (tVals ts)] = some (.nx, stE t0 a' b' c' d' f', [.lst (tVals ((ts.reverse.flatMap E).take 1)), .lst ws]) := by
  intro m
  induction m with
  | zero =>
    intro K ts hm hK hw hs a b c d f
    cases ts with
    | nil =>
      obtain ⟨K, rfl⟩ : ∃ q, K = q + 1 := ⟨K - 1, by omega⟩
      exact ⟨a, b, c, d, f, _, while_stop tst_empty⟩
    | cons t ts =>
      have := nd_pos t
      rw [List.map_cons, List.sum_cons] at hm
      omega
  | succ m ih =>
    intro K ts hm hK hw hs a b c d f
    obtain ⟨K, rfl⟩ : ∃ q, K = q + 1 := ⟨K - 1, by omega⟩
    rcases List.eq_nil_or_concat ts with rfl | ⟨ts', t, rfl⟩
    · exact ⟨a, b, c, d, f, _, while_stop tst_empty⟩
    · rw [List.concat_eq_append] at *
      have wt : Wf n t := hw t (by simp)
      have go := tst_more (t := t0) (a := a) (b := b) (c := c) (d := d) (f := f) (fs := []) (vs := tVals (ts' ++ [t])) (by simp [tVals])
      have hlen : ts'.length + 1 + n * gapN t ≤ C := hs ts'.length t (by simp)
      cases hg : gapT t with
      | none =>
        obtain ⟨a1, b1, c1, d1, f1, hb⟩ := turn_end (t0 := t0) (a := a) (b := b) (c := c) (d := d) (f := f) (ts := ts') (k := k) hg
        rw [while_go go hb]
        obtain ⟨K, rfl⟩ : ∃ q, K = q + 1 := ⟨K - 1, by omega⟩
        refine ⟨a1, b1, c1, d1, f1, tVals ts', ?_⟩
        have er : ((ts' ++ [t]).reverse.flatMap E).take 1 = [t] := by
          rw [List.reverse_append, List.reverse_singleton, List.singleton_append, List.flatMap_cons, E_none hg]
          rfl
        rw [er]
        cases ts' with
        | nil => exact while_stop tst_empty
        | cons t1 ts' => exact while_stop (tst_more (fs := [.d (tD t)]) (by simp [tVals]))
      | some p =>
        obtain ⟨i, j⟩ := p
        have hk := kid_gap hg
        have lv : Lv n ((gapN (setC t i j (.int ((0 : Nat) : Int)))) + 1) t := ⟨wt, by have := hk 0; omega⟩
        obtain ⟨a1, b1, c1, d1, f1, hb⟩ := turn_more (t0 := t0) (a := a) (b := b) (c := c) (d := d) (f := f) (ts := ts') (k := k) lv hn hg (by omega)
        rw [while_go go hb]
        obtain ⟨r, x, h1, h2, h3⟩ := gapT_some hg
        obtain ⟨hi, hj⟩ := at_lt wt h1 h2
        have pl := parts_len t i j
        rw [wt.len] at pl
        obtain ⟨a2, b2, c2, d2, f2, ws, hr⟩ := ih K (ts' ++ (kids t i j).reverse) (by
            have := nd_some hg
            simp only [List.map_append, List.sum_append, List.map_reverse, List.sum_reverse, List.map_cons, List.map_nil, List.sum_cons, List.sum_nil] at hm ⊢
            omega) (by omega) (by
            intro u hu
            rcases List.mem_append.mp hu with hu | hu
            · exact hw u (List.mem_append_left _ hu)
            · rw [List.mem_reverse] at hu
              unfold kids at hu
              obtain ⟨p, _, rfl⟩ := List.mem_map.mp hu
              exact setC_wf wt hi _) (by
            intro q u hq
            by_cases hlt : q < ts'.length
            · rw [List.getElem?_append_left hlt] at hq
              exact hs q u (by rw [List.getElem?_append_left hlt]; exact hq)
            · rw [List.getElem?_append_right (by omega)] at hq
              have hb := (List.getElem?_eq_some_iff.mp hq).1
              have hu := List.mem_of_getElem? hq
              rw [List.mem_reverse] at hu
              unfold kids at hu hb
              rw [List.length_reverse, List.length_map] at hb
              obtain ⟨p, _, rfl⟩ := List.mem_map.mp hu
              have e := hk p
              have e2 : n * gapN t = n * gapN (setC t i j (.int p)) + n := by rw [← e, Nat.mul_succ]
              omega) a1 b1 c1 d1 f1
        refine ⟨a2, b2, c2, d2, f2, ws, ?_⟩
        have er : (ts' ++ (kids t i j).reverse).reverse.flatMap E = (ts' ++ [t]).reverse.flatMap E := by
          rw [List.reverse_append, List.reverse_reverse, List.reverse_append, List.reverse_singleton, List.singleton_append, List.flatMap_append, List.flatMap_cons, E_some hg]
        rw [← er]
        exact hr
theorem fuel_big : 5 ^ 16 + 2 ≤ FUEL := by decide +kernel
/-- ends_of(t, 1) -/
theorem ends_ok {n : Nat} {t : Tb} (w : Wf n t) (hn : n ≤ 4) (hg : gapN t ≤ 16) (k : Nat) (h : Hh) : R (k + 2) 4 [.d (tD t), .d (.int 1)] h = some (.d (.list (((E t).take 1).map tD)), h) := by
  have hnd : nd t ≤ 5 ^ 16 := by
    have h1 := nodes_le (gapN t) w
    have h2 : (n + 1) ^ gapN t ≤ 5 ^ gapN t := Nat.pow_le_pow_left (by omega) _
    have h3 : 5 ^ gapN t ≤ 5 ^ 16 := Nat.pow_le_pow_right (by omega) hg
    exact Nat.le_trans h1 (Nat.le_trans h2 h3)
  obtain ⟨a, b, c, d, f, ws, hl⟩ := loop (n := n) (C := 1 + n * 16) (k := k) (t0 := t) hn (by omega) (5 ^ 16) FUEL [t] (by simpa using hnd) fuel_big (fun u hu => by rw [List.mem_singleton.mp hu]; exact w) (fun q u hq => by
    cases q with
    | zero =>
      simp at hq
      subst hq
      have : n * gapN t ≤ n * 16 := Nat.mul_le_mul_left _ hg
      omega
    | succ q => simp at hq) none none none none none
  have er : [t].reverse.flatMap E = E t := by simp
  rw [er] at hl
  refine callP_of (N := 9) (body := b4 (R (k + 1))) (ds := [tD t, .int 1]) (h := h) (v := .loc 0) (e2 := stE t a b c d f) (h2 := [.lst (tVals ((E t).take 1)), .lst ws]) (h3 := [.frz (.list (((E t).take 1).map tD)), .lst ws]) ?_ ?_
  · show b4 (R (k + 1)) [some (.d (tD t)), some (.d (.int 1)), none, none, none, none, none, none, none] [] = _
    unfold b4
    have hw : sWhile wTest (wBody (R (k + 1))) sNil (stE t none none none none none) [.lst [], .lst [.d (tD t)]] = some (.nx, stE t a b c d f, [.lst (tVals ((E t).take 1)), .lst ws]) := by
      unfold sWhile
      rw [show ([.lst [], .lst [.d (tD t)]] : Hh) = [.lst [], .lst (tVals [t])] from rfl, hl]
      rfl
    have s1 : (sAsg (eLst true aNil) (.nm 2)) [some (.d (tD t)), some (.d (.int 1)), none, none, none, none, none, none, none] [] = some (.nx, [some (.d (tD t)), some (.d (.int 1)), some (.loc 0), none, none, none, none, none, none], [.lst []]) := rfl
    have s2 : (sAsg (eLst true (aCons (eVar 0) aNil)) (.nm 3)) [some (.d (tD t)), some (.d (.int 1)), some (.loc 0), none, none, none, none, none, none] [.lst []] = some (.nx, stE t none none none none none, [.lst [], .lst [.d (tD t)]]) := rfl
    rw [sSeq_s, s1]
    simp only
    rw [sSeq_s, s2]
    simp only
    rw [sSeq_s, hw]
    rfl
  · show (match frzL (frz 7) (tVals ((E t).take 1)) [Ob.lst (tVals ((E t).take 1)), Ob.lst ws] with
      | none => none
      | some (ds, (h1 : Hh)) => match h1[0]? with
        | some (Ob.lst _) => some (PyData.list ds, h1.set 0 (Ob.frz (.list ds)))
        | _ => none) = _
    have e7 : tVals ((E t).take 1) = (((E t).take 1).map tD).map .d := by rw [List.map_map]; rfl
    rw [e7, frzL_map]
    rfl
def firstD (o : Option Tb) : D := match o with
  | some t => tD t
  | none => .none
theorem first_ok {n : Nat} {t : Tb} (w : Wf n t) (hn : n ≤ 4) (hg : gapN t ≤ 16) (k : Nat) (h : Hh) : R (k + 3) 5 [.d (tD t)] h = some (.d (firstD (E t).head?), h) := by
  have e1 := ends_ok w hn hg k
  refine callP_d (N := 2) (body := b5 (R (k + 2))) (ds := [tD t]) (h := h) (e2 := [some (.d (tD t)), some (.d (.list (((E t).take 1).map tD)))]) (h2 := []) ?_
  cases hE : E t with
  | nil => rw [hE] at e1; simp [b5, e1, firstD]
  | cons u us =>
    rw [hE] at e1
    have e2 : ∀ h, opIx0 (.d (.list [tD u])) (.d (.int 0)) h = some (.d (tD u), h) := fun h => ix_l (i := 0) rfl
    simp [b5, e1, firstD, e2]
end K40

/-! K40f: the law's listing of all ends. -/
namespace K40
open PySem MP
/-! ### how many there are -/
def has (r : List D) (q : Nat) : Bool := r.any fun y => PyData.eqv y (.int q)
def used (n : Nat) (r : List D) : Nat := (List.range n).countP (has r)
theorem used_le (n : Nat) (r : List D) : used n r ≤ n := by
  have := List.countP_le_length (p := has r) (l := List.range n)
  rwa [List.length_range] at this
theorem parts_used {n : Nat} {t : Tb} (w : Wf n t) (i j : Nat) : (parts t i j).length ≤ n - used n (rowA t i) := by
  unfold parts used
  rw [w.len, ← List.countP_eq_length_filter]
  have h1 := List.length_eq_countP_add_countP (has (rowA t i)) (l := List.range n)
  rw [List.length_range] at h1
  have h2 : (List.range n).countP (freeP t i j) ≤ (List.range n).countP fun a => decide ¬ has (rowA t i) a = true := by
    refine List.countP_mono_left fun p _ hp => ?_
    unfold freeP at hp
    unfold has
    simp only [Bool.not_eq_true', Bool.or_eq_false_iff] at hp
    simp [hp.1]
  omega
theorem count_add {f : Nat → Bool} {p : Nat} (hf : f p = false) : ∀ {l : List Nat}, l.Nodup → p ∈ l → l.countP (fun q => f q || q == p) = l.countP f + 1
  | a :: l, hd, hm => by
    rw [List.nodup_cons] at hd
    rw [List.countP_cons, List.countP_cons]
    by_cases hap : a = p
    · subst hap
      have hc : l.countP (fun q => f q || q == a) = l.countP f := by
        apply List.countP_congr
        intro q hq
        have : q ≠ a := fun e => hd.1 (e ▸ hq)
        simp [this]
      rw [hc]
      simp [hf]
    · rcases List.mem_cons.mp hm with e | hm
      · exact (hap e.symm).elim
      · have ih := count_add hf hd.2 hm
        rw [ih]
        have : (a == p) = false := by simpa using hap
        simp [this]
        omega
theorem has_set {x : D} {p : Nat} : ∀ {r : List D} {j : Nat}, r[j]? = some x → isNoneD x = true → ∀ q, has (r.set j (.int p)) q = (has r q || q == p)
  | a :: r, 0, h1, h2, q => by
    simp at h1; subst h1
    have : PyData.eqv a (.int q) = false := by
      cases a with
      | none => rfl
      | _ => simp [isNoneD] at h2
    simp only [has, List.set_cons_zero, List.any_cons, this, Bool.false_or]
    rw [Bool.or_comm]
    congr 1
    show ((p : Int) == (q : Int)) = (q == p)
    by_cases e : p = q
    · subst e; simp
    · have h3 : ¬ q = p := fun z => e z.symm
      have h4 : ¬ (p : Int) = (q : Int) := by omega
      rw [beq_eq_false_iff_ne.mpr h4, beq_eq_false_iff_ne.mpr h3]
  | a :: r, j + 1, h1, h2, q => by
    have := has_set (r := r) (j := j) (p := p) (by simpa using h1) h2 q
    simp only [has, List.set_cons_succ, List.any_cons] at this ⊢
    rw [this, Bool.or_assoc]
theorem used_set {n p : Nat} {r : List D} {j : Nat} {x : D} (h1 : r[j]? = some x) (h2 : isNoneD x = true) (hp : p < n) (hf : has r p = false) : used n (r.set j (.int p)) = used n r + 1 := by
  unfold used
  rw [show has (r.set j (.int p)) = fun q => has r q || q == p from funext (has_set h1 h2)]
  exact count_add hf (List.nodup_range) (List.mem_range.mpr hp)
def fact : Nat → Nat
  | 0 => 1
  | n + 1 => (n + 1) * fact n
theorem fact_pos : ∀ n, 1 ≤ fact n
  | 0 => Nat.le_refl _
  | n + 1 => Nat.mul_pos (Nat.succ_pos _) (fact_pos n)
theorem fact_le {n : Nat} (h : n ≤ 4) : fact n ≤ 24 := by
  have : n = 0 ∨ n = 1 ∨ n = 2 ∨ n = 3 ∨ n = 4 := by omega
  rcases this with rfl | rfl | rfl | rfl | rfl <;> decide
/-- one square of the listing -/
def cellN (t : Tb) (i j : Nat) : Bool := isNoneD ((rowA t i)[j]?.getD .none)
def stepC (i j : Nat) (t : Tb) : List Tb := if cellN t i j then kids t i j else [t]
def wt (n i : Nat) (t : Tb) : Nat := fact (n - used n (rowA t i))
theorem cell_at {n : Nat} {t : Tb} (w : Wf n t) {i j : Nat} (hi : i < n) (hj : j < n) : ∃ x, (rowA t i)[j]? = some x ∧ cellN t i j = isNoneD x := by
  have hl := (row_at w hi).2
  refine ⟨(rowA t i)[j]'(by omega), List.getElem?_eq_getElem _, ?_⟩
  unfold cellN
  rw [List.getElem?_eq_getElem (by omega)]
  rfl
theorem row_set {n : Nat} {t : Tb} (w : Wf n t) {i j : Nat} (hi : i < n) (p : D) : rowA (setC t i j p) i = (rowA t i).set j p := by
  unfold setC
  conv => lhs; unfold rowA
  rw [List.getElem?_set_self (by rw [w.len]; exact hi)]
  rfl
theorem wt_step {n : Nat} {t : Tb} (w : Wf n t) {i j : Nat} (hi : i < n) (hj : j < n) : ((stepC i j t).map (wt n i)).sum ≤ wt n i t := by
  unfold stepC
  obtain ⟨x, h1, h2⟩ := cell_at w hi hj
  by_cases hc : cellN t i j = true
  · rw [if_pos hc]
    have hx : isNoneD x = true := by rw [← h2]; exact hc
    have hpu := parts_used w i j
    have hb : ((kids t i j).map (wt n i)).sum ≤ (kids t i j).length * fact (n - used n (rowA t i) - 1) := by
      refine sum_le fun u hu => ?_
      unfold kids at hu
      obtain ⟨p, hp, rfl⟩ := List.mem_map.mp hu
      unfold parts at hp
      rw [List.mem_filter] at hp
      have hpn : p < n := by have := List.mem_range.mp hp.1; rw [w.len] at this; exact this
      have hfr : has (rowA t i) p = false := by
        have := hp.2
        unfold freeP at this
        simp only [Bool.not_eq_true', Bool.or_eq_false_iff] at this
        exact this.1
      unfold wt
      rw [row_set w hi, used_set h1 hx hpn hfr, Nat.sub_sub]
      exact Nat.le_refl _
    have hk : (kids t i j).length = (parts t i j).length := by unfold kids; rw [List.length_map]
    unfold wt at hb ⊢
    rw [hk] at hb
    refine Nat.le_trans hb ?_
    cases hm : n - used n (rowA t i) with
    | zero =>
      rw [hm] at hpu
      have : (parts t i j).length = 0 := by omega
      rw [this]; simp
    | succ m =>
      rw [hm] at hpu
      show _ ≤ (m + 1) * fact m
      exact Nat.mul_le_mul_right _ hpu
  · rw [if_neg hc]; simp
theorem stepC_wf {n : Nat} {t u : Tb} (w : Wf n t) {i j : Nat} (hi : i < n) (hu : u ∈ stepC i j t) : Wf n u := by
  unfold stepC at hu
  split at hu
  · unfold kids at hu
    obtain ⟨p, _, rfl⟩ := List.mem_map.mp hu
    exact setC_wf w hi _
  · rw [List.mem_singleton.mp hu]; exact w
theorem sum_flat {α β : Type} {f : β → Nat} {g : α → List β} {w : α → Nat} : ∀ {l : List α}, (∀ x ∈ l, ((g x).map f).sum ≤ w x) → ((l.flatMap g).map f).sum ≤ (l.map w).sum
  | [], _ => by simp
  | a :: l, h => by
    have h1 := h a List.mem_cons_self
    have h2 := sum_flat (l := l) fun x hx => h x (List.mem_cons_of_mem _ hx)
    rw [List.flatMap_cons, List.map_append, List.sum_append, List.map_cons, List.sum_cons]
    omega
theorem len_sum {α : Type} {f : α → Nat} : ∀ {l : List α}, (∀ x ∈ l, 1 ≤ f x) → l.length ≤ (l.map f).sum
  | [], _ => by simp
  | a :: l, h => by
    have h1 := h a List.mem_cons_self
    have h2 := len_sum (l := l) fun x hx => h x (List.mem_cons_of_mem _ hx)
    rw [List.length_cons, List.map_cons, List.sum_cons]
    omega
end K40

/-! K40g: the law's listing. -/
namespace K40
open PySem MP
/-- the value of rows -/
def RowsV (u : Val) (h : Hh) (ts : List Tb) : Prop := u = .d (.list (ts.map tD)) ∨ ∃ m, u = .loc m ∧ h[m]? = some (.lst (tVals ts))
theorem RowsV.ext {u : Val} {h h2 : Hh} {ts : List Tb} (r : RowsV u h ts) : RowsV u (h ++ h2) ts := by
  rcases r with r | ⟨m, r1, r2⟩
  · exact .inl r
  · refine .inr ⟨m, r1, ?_⟩
    rw [List.getElem?_append_left (List.getElem?_eq_some_iff.mp r2).1]; exact r2
theorem rows_src {u : Val} {h : Hh} {ts : List Tb} (r : RowsV u h ts) {fa : Exp} {e : Ev} (ha : fa e h = some (u, h)) : ∃ src, iAny fa e h = some (src, h) ∧ ts.length ≤ max ts.length src.fuel ∧ (src = .st (ts.map fun t => .one (.d (tD t))) ∨ ∃ m, src = .lv m ∧ h[m]? = some (.lst (tVals ts))) := by
  rcases r with rfl | ⟨m, rfl, r2⟩
  · refine ⟨_, ?_, by omega, .inl rfl⟩
    rw [src_l ha, List.map_map]
    rfl
  · refine ⟨.lv m, ?_, by omega, .inr ⟨m, rfl, r2⟩⟩
    unfold iAny
    rw [ha]
    simp only [srcV, r2]
abbrev lE (t0 : Tb) (n : Nat) (u : Val) (a b c d f : Option Val) : Ev := [some (.d (tD t0)), a, some u, some (.d (.int n)), b, c, d, f]
abbrev in3 (F : FE) : Stm := (sSeq (sIf (tCmpr (eBin opIs (eBin opIx0 (eBin opIx0 (eVar 6) (eVar 1)) (eVar 4)) (eD .none)))
     (sSeq (sDrop (eMthL mExtend (eVar 5) (aCons (eLc false (iAny (eArgs (F 17) (aCons (eVar 6) (aCons (eVar 1) (aCons (eVar 4) aNil))))) [7] (.nm 7) tYs (eArgs (F 18) (aCons (eVar 6) (aCons (eVar 1) (aCons (eVar 4) (aCons (eVar 7) aNil)))))) aNil)))
     sNil)
     (sSeq (sDrop (eMthL mAppend (eVar 5) (aCons (eVar 6) aNil)))
     sNil))
    sNil)
abbrev in2 (F : FE) : Stm := (sSeq (sAsg (eLst true aNil) (.nm 5))
   (sSeq (sFor (iAny (eVar 2)) (.nm 6)
    (in3 F)
    sNil)
   (sSeq (sAsg (eVar 5) (.nm 2))
   sNil)))
theorem last_at {h : Hh} {o : Ob} : (h ++ [o])[h.length]? = some o := by rw [List.getElem?_append_right (Nat.le_refl _), Nat.sub_self]; rfl
theorem last_set {h : Hh} {o o2 : Ob} : (h ++ [o]).set h.length o2 = h ++ [o2] := by rw [List.set_append_right _ _ (Nat.le_refl _), Nat.sub_self]; rfl
theorem one_turn {n : Nat} {t0 t : Tb} {u : Val} {f : Option Val} {i j k : Nat} {hb : Hh} {acc : List Tb} (w : Wf n t) (hi : i < n) (hj : j < n) (hz : acc.length ≤ 10000000) :
    in3 (R (k + 1)) (lE t0 n u (some (.d (.int i))) (some (.d (.int j))) (some (.loc hb.length)) (some (.d (tD t))) f) (hb ++ [.lst (tVals acc)]) =
      some (.nx, lE t0 n u (some (.d (.int i))) (some (.d (.int j))) (some (.loc hb.length)) (some (.d (tD t))) f, hb ++ [.lst (tVals (acc ++ stepC i j t))]) := by
  obtain ⟨x, c1, c2⟩ := cell_at w hi hj
  have hbig := w.big
  have e1 := ix_row w hi
  have e2 : ∀ h, opIx0 (.d (.tuple (rowA t i))) (.d (.int j)) h = some (.d x, h) := fun h => ix_t c1
  have k2 := kind_loc (n := hb.length) (vs := tVals acc) (h := hb ++ [.lst (tVals acc)]) last_at
  unfold stepC
  rw [c2]
  cases hx : isNoneD x with
  | false =>
    have a1 := app_ok (n := hb.length) (vs := tVals acc) (v := .d (tD t)) (h := hb ++ [.lst (tVals acc)]) last_at (by simp [tVals]; omega)
    rw [last_set] at a1
    simp [in3, lE, e1, e2, hx, k2, a1, tVals]
  | true =>
    have e3 := parts_ok w hi hj k
    have pl := parts_len t i j
    rw [w.len] at pl
    have e4 : eLc false (iAny (eArgs (R (k + 1) 17) (aCons (eVar 6) (aCons (eVar 1) (aCons (eVar 4) aNil))))) [7] (.nm 7) tYs (eArgs (R (k + 1) 18) (aCons (eVar 6) (aCons (eVar 1) (aCons (eVar 4) (aCons (eVar 7) aNil))))) (lE t0 n u (some (.d (.int i))) (some (.d (.int j))) (some (.loc hb.length)) (some (.d (tD t))) f) (hb ++ [.lst (tVals acc)]) =
        some (.d (.list ((kids t i j).map tD)), hb ++ [.lst (tVals acc)]) := by
      have hs := src_l (fa := eArgs (R (k + 1) 17) (aCons (eVar 6) (aCons (eVar 1) (aCons (eVar 4) aNil)))) (e := lE t0 n u (some (.d (.int i))) (some (.d (.int j))) (some (.loc hb.length)) (some (.d (tD t))) f) (h := hb ++ [.lst (tVals acc)]) (h1 := hb ++ [.lst (tVals acc)]) (ds := (parts t i j).map fun (p : Nat) => .int p) (by simp [lE, e3, partsD])
      rw [List.map_map] at hs
      rw [eLc_map (f := fun (p : Nat) => tD (setC t i j (.int p))) hs (by omega) fun p hp => ⟨_, rfl, ?_⟩]
      · unfold kids
        rw [List.map_map]
        rfl
      · have e5 := lwith_ok w hi hj (.int p) k
        simp [lE, e5]
    have x1 := ext_ok (n := hb.length) (vs := tVals acc) (ds := (kids t i j).map tD) (h := hb ++ [.lst (tVals acc)]) last_at (by unfold Fits kids; simp [tVals]; omega)
    rw [last_set] at x1
    have e6 : tVals acc ++ ((kids t i j).map tD).map Val.d = tVals (acc ++ kids t i j) := by
      rw [List.map_map]
      show acc.map _ ++ _ = (acc ++ kids t i j).map _
      rw [List.map_append]
      rfl
    rw [e6] at x1
    simp only [lE] at e4
    simp [in3, lE, e1, e2, hx, k2, e4, x1]
theorem fuel_ge : 10000000 ≤ FUEL := by decide +kernel
theorem flat_len {t : Tb} {n i j : Nat} (w : Wf n t) (hn : n ≤ 4) : (stepC i j t).length ≤ 4 := by
  unfold stepC
  split
  · unfold kids
    have := parts_len t i j
    rw [w.len] at this
    rw [List.length_map]; omega
  · simp
theorem flat_lens {n i j : Nat} (hn : n ≤ 4) : ∀ {ts : List Tb}, (∀ t ∈ ts, Wf n t) → (ts.flatMap (stepC i j)).length ≤ 4 * ts.length
  | [], _ => by simp
  | t :: ts, h => by
    have h1 := flat_len (i := i) (j := j) (h t List.mem_cons_self) hn
    have h2 := flat_lens (i := i) (j := j) hn (ts := ts) fun u hu => h u (List.mem_cons_of_mem _ hu)
    rw [List.flatMap_cons, List.length_append, List.length_cons]
    omega
/-- one square -/
theorem cell_turn {n : Nat} {t0 : Tb} {u : Val} {c d f : Option Val} {i j k : Nat} {hb : Hh} {ts : List Tb} (hr : RowsV u hb ts) (hw : ∀ t ∈ ts, Wf n t) (hn : n ≤ 4) (hi : i < n) (hj : j < n) (hz : ts.length ≤ 2000000) :
    ∃ d', in2 (R (k + 1)) (lE t0 n u (some (.d (.int i))) (some (.d (.int j))) c d f) hb =
      some (.nx, lE t0 n (.loc hb.length) (some (.d (.int i))) (some (.d (.int j))) (some (.loc hb.length)) d' f, hb ++ [.lst (tVals (ts.flatMap (stepC i j)))]) := by
  have s1 : (sAsg (eLst true aNil) (.nm 5)) (lE t0 n u (some (.d (.int i))) (some (.d (.int j))) c d f) hb = some (.nx, lE t0 n u (some (.d (.int i))) (some (.d (.int j))) (some (.loc hb.length)) d f, hb ++ [.lst []]) := rfl
  obtain ⟨src, hs, _, hk⟩ := rows_src (hr.ext (h2 := [.lst []])) (fa := eVar 2) (e := lE t0 n u (some (.d (.int i))) (some (.d (.int j))) (some (.loc hb.length)) d f) rfl
  have hfuel : ts.length ≤ src.fuel := by
    rcases hk with rfl | ⟨m, rfl, _⟩
    · show ts.length ≤ (ts.map _).length
      rw [List.length_map]; exact Nat.le_refl _
    · exact Nat.le_trans (by omega) fuel_ge
  obtain ⟨e2, h2, hf, d', e2e, h2e⟩ := for_ix (l := ts) (ι := fun t => .one (.d (tD t))) (tg := .nm 6) (B := in3 (R (k + 1))) (src := src)
    (fun q e h => ∃ d', e = lE t0 n u (some (.d (.int i))) (some (.d (.int j))) (some (.loc hb.length)) d' f ∧ h = hb ++ [.lst (tVals ((ts.take q).flatMap (stepC i j)))]) (by
      rintro q e h ⟨d', rfl, rfl⟩
      rcases hk with rfl | ⟨m, rfl, hm⟩
      · rfl
      · have hm2 : m < hb.length ∧ hb[m]? = some (.lst (tVals ts)) := by
          rcases hr with rfl | ⟨m', rfl, hm'⟩
          · have := src_l (fa := eVar 2) (e := lE t0 n (.d (.list (ts.map tD))) (some (.d (.int i))) (some (.d (.int j))) (some (.loc hb.length)) d f) (h := hb ++ [.lst []]) (h1 := hb ++ [.lst []]) (ds := ts.map tD) rfl
            rw [this] at hs
            cases hs
          · have : iAny (eVar 2) (lE t0 n (.loc m') (some (.d (.int i))) (some (.d (.int j))) (some (.loc hb.length)) d f) (hb ++ [.lst []]) = some (.lv m', hb ++ [.lst []]) := by
              have h9 : (hb ++ [Ob.lst []])[m']? = some (.lst (tVals ts)) := by rw [List.getElem?_append_left (List.getElem?_eq_some_iff.mp hm').1]; exact hm'
              unfold iAny
              simp [lE, srcV, h9]
            rw [this] at hs
            cases hs
            exact ⟨(List.getElem?_eq_some_iff.mp hm').1, hm'⟩
        have hl : listItems (.loc m) (hb ++ [.lst (tVals ((ts.take q).flatMap (stepC i j)))]) = some (tVals ts) := by
          have hmm : (hb ++ [Ob.lst (tVals ((ts.take q).flatMap (stepC i j)))])[m]? = some (.lst (tVals ts)) := by rw [List.getElem?_append_left hm2.1]; exact hm2.2
          unfold listItems
          simp only [hmm]
        show (match listItems (.loc m) _ with
          | some vs => some (vs.map Itm.one)
          | none => none) = _
        rw [hl]
        simp [tVals]) (by
      rintro q hq e h ⟨d', rfl, rfl⟩
      refine ⟨_, _, _, rfl, .inl (one_turn (hw _ (List.getElem_mem hq)) hi hj ?_), _, rfl, ?_⟩
      · have := flat_lens (i := i) (j := j) hn (ts := ts.take q) fun u hu => hw u (List.mem_of_mem_take hu)
        rw [List.length_take] at this
        omega
      · rw [List.take_succ_eq_append_getElem hq, List.flatMap_append, List.flatMap_cons, List.flatMap_nil, List.append_nil]) hfuel _ _ ⟨d, rfl, rfl⟩
  subst e2e h2e
  rw [List.take_length] at hf
  refine ⟨d', ?_⟩
  rw [in2, sSeq_s, s1]
  simp only
  rw [sSeq_s, sFor_nx hs hf]
  rfl
def rowSteps (i q : Nat) (ts : List Tb) : List Tb := (List.range q).foldl (fun ts j => ts.flatMap (stepC i j)) ts
def allSteps (n q : Nat) (ts : List Tb) : List Tb := (List.range q).foldl (fun ts i => rowSteps i n ts) ts
theorem rowSteps_succ {i q : Nat} {ts : List Tb} : rowSteps i (q + 1) ts = (rowSteps i q ts).flatMap (stepC i q) := by
  unfold rowSteps
  rw [List.range_succ, List.foldl_append]
  rfl
theorem allSteps_succ {n q : Nat} {ts : List Tb} : allSteps n (q + 1) ts = rowSteps q n (allSteps n q ts) := by
  unfold allSteps
  rw [List.range_succ, List.foldl_append]
  rfl
structure Ts (n : Nat) (ts : List Tb) : Prop where
  w : ∀ t ∈ ts, Wf n t
theorem Ts.step {n i j : Nat} {ts : List Tb} (h : Ts n ts) (hi : i < n) : Ts n (ts.flatMap (stepC i j)) := ⟨fun u hu => by
  obtain ⟨t, ht, hu⟩ := List.mem_flatMap.mp hu
  exact stepC_wf (h.w t ht) hi hu⟩
theorem rowSteps_ok {n i : Nat} {ts : List Tb} (h : Ts n ts) (hi : i < n) : ∀ q, q ≤ n → Ts n (rowSteps i q ts) ∧ ((rowSteps i q ts).map (wt n i)).sum ≤ (ts.map (wt n i)).sum
  | 0, _ => ⟨h, Nat.le_refl _⟩
  | q + 1, hq => by
    obtain ⟨h1, h2⟩ := rowSteps_ok h hi q (by omega)
    rw [rowSteps_succ]
    exact ⟨h1.step hi, Nat.le_trans (sum_flat fun t ht => wt_step (h1.w t ht) hi (by omega)) h2⟩
theorem wt_pos (n i : Nat) (t : Tb) : 1 ≤ wt n i t := fact_pos _
theorem wt_le {n i : Nat} {t : Tb} (hn : n ≤ 4) : wt n i t ≤ 24 := fact_le (by have := used_le n (rowA t i); omega)
theorem rowSteps_len {n i q : Nat} {ts : List Tb} (h : Ts n ts) (hi : i < n) (hn : n ≤ 4) (hq : q ≤ n) : (rowSteps i q ts).length ≤ 24 * ts.length := by
  have h1 := (rowSteps_ok h hi q hq).2
  have h2 := len_sum (l := rowSteps i q ts) (f := wt n i) fun t _ => wt_pos n i t
  have h3 : (ts.map (wt n i)).sum ≤ ts.length * 24 := sum_le fun t _ => wt_le hn
  omega
theorem row_turn {n : Nat} {t0 : Tb} {u : Val} {b c d f : Option Val} {i k : Nat} {h : Hh} {ts : List Tb} (hr : RowsV u h ts) (hw : Ts n ts) (hn : n ≤ 4) (hi : i < n) (hz : ts.length ≤ 20000) :
    ∃ u' b' c' d' h', sFor (iRg (aCons (eVar 3) aNil)) (.nm 4) (in2 (R (k + 1))) sNil (lE t0 n u (some (.d (.int i))) b c d f) h = some (.nx, lE t0 n u' (some (.d (.int i))) b' c' d' f, h') ∧ RowsV u' h' (rowSteps i n ts) := by
  have hs : iRg (aCons (eVar 3) aNil) (lE t0 n u (some (.d (.int i))) b c d f) h = some (.st ((List.range n).map fun (q : Nat) => .one (.d (.int q))), h) := src_r (n := n) rfl (by omega)
  obtain ⟨e2, h2, hf, u', b', c', d', rfl, hr2⟩ := for_ix (l := List.range n) (ι := fun (q : Nat) => .one (.d (.int q))) (tg := .nm 4) (B := in2 (R (k + 1))) (src := .st ((List.range n).map fun (q : Nat) => .one (.d (.int q)))) (K := n)
    (fun q e h => ∃ u b c d, e = lE t0 n u (some (.d (.int i))) b c d f ∧ RowsV u h (rowSteps i q ts)) (fun _ _ _ _ => rfl) (by
      rintro q hq e h ⟨u, b, c, d, rfl, hr⟩
      rw [List.length_range] at hq
      rw [List.getElem_range]
      have hl := rowSteps_len hw hi hn (Nat.le_of_lt hq)
      obtain ⟨d', hc⟩ := cell_turn (t0 := t0) (c := c) (d := d) (f := f) (k := k) hr (rowSteps_ok hw hi q (Nat.le_of_lt hq)).1.w hn hi hq (by omega)
      refine ⟨_, _, _, rfl, .inl hc, _, _, _, _, rfl, .inr ⟨_, rfl, ?_⟩⟩
      rw [rowSteps_succ]
      exact last_at) (by rw [List.length_range]; exact Nat.le_refl _) _ _ ⟨u, b, c, d, rfl, hr⟩
  rw [List.length_range] at hr2
  refine ⟨u', b', c', d', h2, ?_, hr2⟩
  rw [sFor_nx hs (by
    show forN _ _ _ ((List.range n).map _).length 0 _ _ = _
    rw [List.length_map, List.length_range]; exact hf)]
  rfl
theorem all_len {n : Nat} {t : Tb} (w : Wf n t) (hn : n ≤ 4) : ∀ q, q ≤ n → Ts n (allSteps n q [t]) ∧ (allSteps n q [t]).length ≤ 24 ^ q
  | 0, _ => ⟨⟨fun u hu => by rw [List.mem_singleton.mp hu]; exact w⟩, Nat.le_refl _⟩
  | q + 1, hq => by
    obtain ⟨h1, h2⟩ := all_len w hn q (by omega)
    rw [allSteps_succ]
    have h3 := rowSteps_len h1 (show q < n by omega) hn (Nat.le_refl n)
    refine ⟨(rowSteps_ok h1 (by omega) n (Nat.le_refl _)).1, ?_⟩
    rw [Nat.pow_succ]
    omega
theorem frz_list {m : Nat} {h : Hh} {ds : List D} (g : h[m]? = some (.lst (ds.map .d))) : ∃ h2, frz 8 (.loc m) h = some (.list ds, h2) := by
  refine ⟨h.set m (.frz (.list ds)), ?_⟩
  show (match h[m]? with
    | some (.frz x) => some (x, h)
    | some (.lst vs) => (match frzL (frz 7) vs h with
      | none => none
      | some (ds, (h1 : Hh)) => match h1[m]? with
        | some (.lst _) => some (PyData.list ds, h1.set m (Ob.frz (.list ds)))
        | _ => none)
    | _ => none) = _
  rw [g]
  simp only [frzL_map, g]
theorem lends_ok {n : Nat} {t : Tb} (w : Wf n t) (hn : n ≤ 4) (k : Nat) (h : Hh) : R (k + 2) 19 [.d (tD t)] h = some (.d (.list ((allSteps n n [t]).map tD)), h) := by
  have s1 : (sPar (aCons (eLst false (aCons (eVar 0) aNil)) (aCons (eArgs opLen (aCons (eVar 0) aNil)) aNil)) [2, 3]) [some (.d (tD t)), none, none, none, none, none, none, none] [] = some (.nx, lE t n (.d (.list ([t].map tD))) none none none none none, []) := by
    have : opLen [.d (tD t)] [] = some (.d (.int n), []) := by simp [tD, w.len]
    simp [lE, this]
  have hs : iRg (aCons (eVar 3) aNil) (lE t n (.d (.list ([t].map tD))) none none none none none) [] = some (.st ((List.range n).map fun (q : Nat) => .one (.d (.int q))), []) := src_r (n := n) rfl (by omega)
  obtain ⟨e2, h2, hf, u, a, b, c, d, rfl, hr⟩ := for_ix (l := List.range n) (ι := fun (q : Nat) => .one (.d (.int q))) (tg := .nm 1) (B := sSeq (sFor (iRg (aCons (eVar 3) aNil)) (.nm 4) (in2 (R (k + 1))) sNil) sNil) (src := .st ((List.range n).map fun (q : Nat) => .one (.d (.int q)))) (K := n)
    (fun q e h => ∃ u a b c d, e = lE t n u a b c d none ∧ RowsV u h (allSteps n q [t])) (fun _ _ _ _ => rfl) (by
      rintro q hq e h ⟨u, a, b, c, d, rfl, hr⟩
      rw [List.length_range] at hq
      rw [List.getElem_range]
      obtain ⟨a1, a2⟩ := all_len w hn q (Nat.le_of_lt hq)
      have h24 : 24 ^ q ≤ 24 ^ 3 := Nat.pow_le_pow_right (by omega) (by omega)
      obtain ⟨u', b', c', d', h', hc, hr'⟩ := row_turn (t0 := t) (b := b) (c := c) (d := d) (f := none) (k := k) hr a1 hn hq (by omega)
      refine ⟨_, _, _, rfl, .inl ?_, u', some (.d (.int q)), b', c', d', rfl, by rw [allSteps_succ]; exact hr'⟩
      show sSeq _ sNil (lE t n u (some (.d (.int q))) b c d none) h = _
      rw [sSeq_s, hc]
      rfl) (by rw [List.length_range]; exact Nat.le_refl _) _ _ ⟨_, _, _, _, _, rfl, .inl rfl⟩
  rw [List.length_range] at hr
  have hb : b19 (R (k + 1)) (startE 8 [.d (tD t)]) [] = some (.rt u, lE t n u a b c d none, h2) := by
    show b19 (R (k + 1)) [some (.d (tD t)), none, none, none, none, none, none, none] [] = _
    unfold b19
    rw [sSeq_s, s1]
    simp only
    rw [sSeq_s, sFor_nx hs (by
      show forN _ _ _ ((List.range n).map _).length 0 _ _ = _
      rw [List.length_map, List.length_range]; exact hf)]
    rfl
  rcases hr with rfl | ⟨m, rfl, hm⟩
  · have := callP_d (ds := [tD t]) (h := h) hb
    exact this
  · have e7 : tVals (allSteps n n [t]) = ((allSteps n n [t]).map tD).map .d := by rw [List.map_map]; rfl
    rw [e7] at hm
    obtain ⟨h3, hz⟩ := frz_list hm
    have := callP_of (ds := [tD t]) (h := h) hb hz
    exact this
end K40

/-! K40h: the listing is the search. -/
namespace K40
open PySem MP
theorem fs_first {α β : Type} {f : α × Nat → Option β} {b : β} : ∀ {l : List α} {k : Nat}, (l.zipIdx k).findSome? f = some b → ∃ q x, l[q]? = some x ∧ f (x, k + q) = some b ∧ ∀ q' x', q' < q → l[q']? = some x' → f (x', k + q') = none
  | [], k, h => by cases h
  | a :: l, k, h => by
    rw [List.zipIdx_cons, List.findSome?_cons] at h
    cases hf : f (a, k) with
    | some c =>
      rw [hf] at h
      cases h
      exact ⟨0, a, rfl, hf, fun q' x' hq => by omega⟩
    | none =>
      rw [hf] at h
      obtain ⟨q, x, h1, h2, h3⟩ := fs_first h
      refine ⟨q + 1, x, by simpa using h1, by rw [← h2]; congr 2; omega, fun q' x' hq hx => ?_⟩
      cases q' with
      | zero => simp at hx; subst hx; exact hf
      | succ q' =>
        have := h3 q' x' (by omega) (by simpa using hx)
        rw [← this]; congr 2; omega
theorem gap_first {t : Tb} {i j : Nat} (h : gapT t = some (i, j)) : (∀ (i' : Nat) (r' : List D) (j' : Nat) (x' : D), i' < i → t[i']? = some r' → r'[j']? = some x' → isNoneD x' = false) ∧ ∃ (r : List D) (x : D), t[i]? = some r ∧ r[j]? = some x ∧ isNoneD x = true ∧ ∀ (j' : Nat) (x' : D), j' < j → r[j']? = some x' → isNoneD x' = false := by
  unfold gapT at h
  obtain ⟨q, r, h1, h2, h3⟩ := fs_first h
  simp only [Nat.zero_add] at h2 h3
  unfold gapR at h2
  obtain ⟨p, x, g1, g2, g3⟩ := fs_first h2
  simp only [Nat.zero_add] at g2 g3
  by_cases hx : isNoneD x = true
  · rw [if_pos hx] at g2
    cases g2
    refine ⟨fun i' r' j' x' hi hr hx' => ?_, r, x, h1, g1, hx, fun j' x' hj hx' => ?_⟩
    · have := h3 i' r' hi hr
      have := List.findSome?_eq_none_iff.mp this (x', j') (List.mem_zipIdx_iff_getElem?.mpr hx')
      simp only at this
      by_cases hn : isNoneD x' = true
      · rw [if_pos hn] at this; cases this
      · simpa using hn
    · have := g3 j' x' hj hx'
      by_cases hn : isNoneD x' = true
      · rw [if_pos hn] at this; cases this
      · simpa using hn
  · rw [if_neg hx] at g2; cases g2
/-- no gap ahead of the square -/
def NoGap (n i j : Nat) (t : Tb) : Prop := ∀ i' j', i' < n → j' < n → (i' < i ∨ (i' = i ∧ j' < j)) → cellN t i' j' = false
theorem cell_of {t : Tb} {i j : Nat} {r : List D} {x : D} (h1 : t[i]? = some r) (h2 : r[j]? = some x) : cellN t i j = isNoneD x := by
  unfold cellN; rw [row_of h1, h2]; rfl
theorem gap_here {n : Nat} {t : Tb} (w : Wf n t) {i j : Nat} (hi : i < n) (hj : j < n) (hg : NoGap n i j t) (hc : cellN t i j = true) : gapT t = some (i, j) := by
  obtain ⟨x, c1, c2⟩ := cell_at w hi hj
  have hr := (row_at w hi).1
  cases h : gapT t with
  | none =>
    have := gapT_none h hr c1
    rw [← c2, hc] at this; cases this
  | some p =>
    obtain ⟨i', j'⟩ := p
    obtain ⟨f1, r', x', g1, g2, g3, f2⟩ := gap_first h
    obtain ⟨hi', hj'⟩ := at_lt w g1 g2
    have n1 := hg i' j' hi' hj'
    rw [cell_of g1 g2, g3] at n1
    have n2 : ¬ (i' < i ∨ (i' = i ∧ j' < j)) := fun z => by have := n1 z; cases this
    by_cases e1 : i < i'
    · have := f1 i _ j x e1 hr c1
      rw [← c2, hc] at this; cases this
    · have e2 : i' = i := by omega
      subst e2
      by_cases e3 : j < j'
      · rw [hr] at g1; cases g1
        have := f2 j x e3 c1
        rw [← c2, hc] at this; cases this
      · have e4 : j' = j := by omega
        rw [e4]
theorem gap_no {n : Nat} {t : Tb} (w : Wf n t) (hg : NoGap n n 0 t) : gapT t = none := by
  cases h : gapT t with
  | none => rfl
  | some p =>
    obtain ⟨i, j⟩ := p
    obtain ⟨r, x, g1, g2, g3⟩ := gapT_some h
    obtain ⟨hi, hj⟩ := at_lt w g1 g2
    have := hg i j hi hj (.inl hi)
    rw [cell_of g1 g2, g3] at this; cases this
theorem cell_set {n : Nat} {t : Tb} (w : Wf n t) {i j i' j' p : Nat} (hi : i < n) (hj : j < n) : cellN (setC t i j (.int p)) i' j' = if i' = i ∧ j' = j then false else cellN t i' j' := by
  unfold cellN
  by_cases h1 : i' = i
  · subst h1
    rw [row_set w hi]
    by_cases h2 : j' = j
    · subst h2
      rw [List.getElem?_set_self (by rw [(row_at w hi).2]; exact hj), if_pos ⟨rfl, rfl⟩]
      rfl
    · rw [List.getElem?_set_ne (fun z => h2 z.symm), if_neg (fun z => h2 z.2)]
  · rw [if_neg (fun z => h1 z.1)]
    congr 2
    unfold rowA setC
    rw [List.getElem?_set_ne (fun z => h1 z.symm)]
theorem step_gap {n : Nat} {t u : Tb} (w : Wf n t) {i j : Nat} (hi : i < n) (hj : j < n) (hg : NoGap n i j t) (hu : u ∈ stepC i j t) : NoGap n i (j + 1) u := by
  unfold stepC at hu
  intro i' j' hi' hj' hb
  by_cases hc : cellN t i j = true
  · rw [if_pos hc] at hu
    unfold kids at hu
    obtain ⟨p, _, rfl⟩ := List.mem_map.mp hu
    rw [cell_set w hi hj]
    by_cases e : i' = i ∧ j' = j
    · rw [if_pos e]
    · rw [if_neg e]
      exact hg i' j' hi' hj' (by omega)
  · rw [if_neg hc] at hu
    rw [List.mem_singleton.mp hu]
    by_cases e : i' = i ∧ j' = j
    · rw [e.1, e.2]; simpa using hc
    · exact hg i' j' hi' hj' (by omega)
theorem flat_eq {n i j : Nat} {ts : List Tb} (hw : Ts n ts) (hi : i < n) (hj : j < n) (hg : ∀ t ∈ ts, NoGap n i j t) : (ts.flatMap (stepC i j)).flatMap E = ts.flatMap E := by
  rw [List.flatMap_assoc]
  induction ts with
  | nil => rfl
  | cons t ts ih =>
    rw [List.flatMap_cons, List.flatMap_cons, ih ⟨fun u hu => hw.w u (List.mem_cons_of_mem _ hu)⟩ fun u hu => hg u (List.mem_cons_of_mem _ hu)]
    congr 1
    unfold stepC
    by_cases hc : cellN t i j = true
    · rw [if_pos hc, E_some (gap_here (hw.w t List.mem_cons_self) hi hj (hg t List.mem_cons_self) hc)]
    · rw [if_neg hc]; simp
theorem rows_eq {n i : Nat} {ts : List Tb} (hw : Ts n ts) (hi : i < n) (hg : ∀ t ∈ ts, NoGap n i 0 t) : ∀ q, q ≤ n → (rowSteps i q ts).flatMap E = ts.flatMap E ∧ ∀ t ∈ rowSteps i q ts, NoGap n i q t
  | 0, _ => ⟨rfl, hg⟩
  | q + 1, hq => by
    obtain ⟨h1, h2⟩ := rows_eq hw hi hg q (by omega)
    have h3 := (rowSteps_ok hw hi q (by omega)).1
    rw [rowSteps_succ]
    refine ⟨(flat_eq h3 hi (by omega) h2).trans h1, fun u hu => ?_⟩
    obtain ⟨t, ht, hu⟩ := List.mem_flatMap.mp hu
    exact step_gap (h3.w t ht) hi (by omega) (h2 t ht) hu
theorem all_eq {n : Nat} {t : Tb} (w : Wf n t) (hn : n ≤ 4) : ∀ q, q ≤ n → (allSteps n q [t]).flatMap E = E t ∧ ∀ u ∈ allSteps n q [t], NoGap n q 0 u
  | 0, _ => ⟨by simp [allSteps], fun u _ i j _ _ h => by omega⟩
  | q + 1, hq => by
    obtain ⟨h1, h2⟩ := all_eq w hn q (by omega)
    have h3 := (all_len w hn q (by omega)).1
    obtain ⟨h4, h5⟩ := rows_eq h3 (show q < n by omega) h2 n (Nat.le_refl _)
    rw [allSteps_succ]
    refine ⟨h4.trans h1, fun u hu i j hi hj hb => h5 u hu i j hi hj (by omega)⟩
theorem every_eq {n : Nat} {t : Tb} (w : Wf n t) (hn : n ≤ 4) : allSteps n n [t] = E t := by
  obtain ⟨h1, h2⟩ := all_eq w hn n (Nat.le_refl _)
  have h3 := (all_len w hn n (Nat.le_refl _)).1
  rw [← h1]
  generalize allSteps n n [t] = l at h2 h3
  clear h1
  induction l with
  | nil => rfl
  | cons u l ih =>
    rw [List.flatMap_cons, E_none (gap_no (h3.w u List.mem_cons_self) (h2 u List.mem_cons_self)), ← ih (fun v hv => h2 v (List.mem_cons_of_mem _ hv)) ⟨fun v hv => h3.w v (List.mem_cons_of_mem _ hv)⟩]
    rfl
end K40

/-! K40i: the least of some pairs; what is in the way; the gap that is told. -/
namespace K40
open PySem MP
def IsT (m : Nat) (d : D) : Prop := ∃ ns : List Int, ns.length = m ∧ d = .tuple (ns.map .int)
theorem alike_ints : ∀ {ns ms : List Int}, ns.length = ms.length → W.alikeAll (ns.map PyData.int) (ms.map PyData.int) = true
  | [], [], _ => by simp [W.alikeAll]
  | n :: ns, m :: ms, h => by
    have := alike_ints (ns := ns) (ms := ms) (by simpa using h)
    simp only [List.map_cons, W.alikeAll, W.alike, this, Bool.and_self]
theorem dOk_ints : ∀ (ns : List Int) (k : Nat), dOkA k (ns.map PyData.int) = true
  | [], _ => by simp [dOkA]
  | n :: ns, k => by simp [dOkA, dOk, dOk_ints ns k]
theorem isT_ok {m : Nat} {ds : List D} (h : ∀ d ∈ ds, IsT m d) : alikeB ds = true ∧ dOkA 60 ds = true := by
  constructor
  · unfold alikeB
    rw [List.all_eq_true]
    intro x hx
    rw [List.all_eq_true]
    intro y hy
    obtain ⟨ns, h1, rfl⟩ := h x hx
    obtain ⟨ms, h2, rfl⟩ := h y hy
    simp only [W.alike]
    exact alike_ints (h1.trans h2.symm)
  · induction ds with
    | nil => simp [dOkA]
    | cons d ds ih =>
      obtain ⟨ns, h1, rfl⟩ := h d List.mem_cons_self
      have := ih fun x hx => h x (List.mem_cons_of_mem _ hx)
      simp [dOkA, dOk, this, dOk_ints ns 59]
theorem minD_mem : ∀ (xs : List D) (x : D), W.minD x xs ∈ x :: xs
  | [], x => List.mem_cons_self
  | y :: ys, x => by
    unfold W.minD
    rw [List.foldl_cons]
    have := minD_mem ys (if W.dataLt y x then y else x)
    unfold W.minD at this
    rcases List.mem_cons.mp this with e | e
    · rw [e]
      split
      · exact List.mem_cons_of_mem _ List.mem_cons_self
      · exact List.mem_cons_self
    · exact List.mem_cons_of_mem _ (List.mem_cons_of_mem _ e)
def minL (ds : List D) : D := match ds with
  | [] => .none
  | x :: xs => W.minD x xs
theorem minL_mem {ds : List D} (h : ds ≠ []) : minL ds ∈ ds := by
  cases ds with
  | nil => exact (h rfl).elim
  | cons x xs => exact minD_mem xs x
theorem dsOf_map : ∀ ds : List D, dsOf (ds.map .d) = some ds
  | [] => rfl
  | d :: ds => by rw [List.map_cons, dsOf, dsOf_map ds]
theorem min_of {m : Nat} {ds : List D} {v : Val} {h : Hh} (hd : dataOf v h = some ds) (hv : ∀ i j : Int, [v] ≠ [.d (.int i), .d (.int j)]) (ht : ∀ d ∈ ds, IsT m d) (hn : ds ≠ []) : opMin [v] h = some (.d (minL ds), h) := by
  cases ds with
  | nil => exact (hn rfl).elim
  | cons x xs =>
    obtain ⟨a, b⟩ := isT_ok ht
    have hx : notNone x = true := by
      obtain ⟨ns, _, rfl⟩ := ht x List.mem_cons_self
      rfl
    unfold opMin
    simp only [hd]
    rw [a, b, hx]
    rfl
theorem min_l {m : Nat} {ds : List D} {h : Hh} (ht : ∀ d ∈ ds, IsT m d) (hn : ds ≠ []) : opMin [.d (.list ds)] h = some (.d (minL ds), h) := by
  refine min_of (m := m) ?_ (fun i j => by simp) ht hn
  show dsOf (ds.map .d) = _
  exact dsOf_map ds
theorem min_loc {m n : Nat} {ds : List D} {h : Hh} (g : h[n]? = some (.lst (ds.map .d))) (ht : ∀ d ∈ ds, IsT m d) (hn : ds ≠ []) : opMin [.loc n] h = some (.d (minL ds), h) := by
  refine min_of (m := m) ?_ (fun i j => by simp) ht hn
  have e : listItems (.loc n) h = some (ds.map .d) := by unfold listItems; simp only [g]
  show (match seqItems (.loc n) h with
    | some us => dsOf us
    | none => none) = _
  rw [show seqItems (.loc n) h = some (ds.map .d) from e]
  exact dsOf_map ds
theorem eq_di {x : D} {p : Int} {h : Hh} : opEq (.d x) (.d (.int p)) h = some (.d (.bool (PyData.eqv x (.int p))), h) := by
  cases x <;> first
    | rfl
    | (show (if (dOk 60 _ || dOk 60 (.int p)) = true then _ else _) = _
       rw [show dOk 60 (.int p) = true from rfl, Bool.or_true, if_pos rfl])
/-! ### what is in the way -/
def pr (a b : Nat) : D := .tuple [.int a, .int b]
def cellD (t : Tb) (i j : Nat) : D := (rowA t i)[j]?.getD .none
def isP (t : Tb) (i j p : Nat) : Bool := PyData.eqv (cellD t i j) (.int p)
def nearD (t : Tb) (i j p : Nat) : List D := ((List.range t.length).filter fun k => isP t i k p).map (fun k => pr i k) ++ ((List.range t.length).filter fun k => isP t k j p).map fun k => pr k j
theorem near_T {t : Tb} {i j p : Nat} : ∀ d ∈ nearD t i j p, IsT 2 d := by
  intro d hd
  unfold nearD at hd
  rcases List.mem_append.mp hd with hd | hd
  · obtain ⟨k, _, rfl⟩ := List.mem_map.mp hd
    exact ⟨[i, k], rfl, rfl⟩
  · obtain ⟨k, _, rfl⟩ := List.mem_map.mp hd
    exact ⟨[k, j], rfl, rfl⟩
theorem cell_ix {n : Nat} {t : Tb} (w : Wf n t) {i j : Nat} (hi : i < n) (hj : j < n) (h : Hh) : opIx0 (.d (.tuple (rowA t i))) (.d (.int j)) h = some (.d (cellD t i j), h) := by
  obtain ⟨x, c1, _⟩ := cell_at w hi hj
  unfold cellD
  rw [c1]
  exact ix_t c1
theorem not_free {n : Nat} {t : Tb} (w : Wf n t) {i j p : Nat} (hi : i < n) (hj : j < n) (hf : freeP t i j p = false) : nearD t i j p ≠ [] := by
  unfold freeP at hf
  simp only [Bool.not_eq_false', Bool.or_eq_true, List.any_eq_true] at hf
  intro he
  unfold nearD at he
  rw [List.append_eq_nil_iff, List.map_eq_nil_iff, List.map_eq_nil_iff] at he
  rcases hf with ⟨y, hy, e⟩ | ⟨y, hy, e⟩
  · obtain ⟨k, hk⟩ := List.getElem?_of_mem hy
    have hl := (List.getElem?_eq_some_iff.mp hk).1
    rw [(row_at w hi).2] at hl
    have := List.filter_eq_nil_iff.mp he.1 k (List.mem_range.mpr (by rw [w.len]; exact hl))
    unfold isP cellD at this
    rw [hk] at this
    exact this e
  · unfold colA at hy
    obtain ⟨r, hr, rfl⟩ := List.mem_map.mp hy
    obtain ⟨k, hk⟩ := List.getElem?_of_mem hr
    have hl := (List.getElem?_eq_some_iff.mp hk).1
    have := List.filter_eq_nil_iff.mp he.2 k (List.mem_range.mpr hl)
    unfold isP cellD at this
    rw [row_of hk] at this
    exact this e
abbrev wEv (t : Tb) (i j p : Nat) (s : Option Val) : Ev := [some (.d (tD t)), some (.d (.int i)), some (.d (.int j)), some (.d (.int p)), s, none, none, none]
theorem way_ok {n : Nat} {t : Tb} (w : Wf n t) {i j p : Nat} (hi : i < n) (hj : j < n) (hf : freeP t i j p = false) (k : Nat) (h : Hh) : R (k + 1) 6 [.d (tD t), .d (.int i), .d (.int j), .d (.int p)] h = some (.d (minL (nearD t i j p)), h) := by
  have hw := w.big
  have hs : ∀ s, iRg (aCons (eArgs opLen (aCons (eVar 0) aNil)) aNil) (wEv t i j p s) [] = some (.st ((List.range n).map fun (k : Nat) => .one (.d (.int k))), []) := fun s => src_r (n := n) (by simp [wEv, tD, w.len]) (by omega)
  have l1 : eLc false (iRg (aCons (eArgs opLen (aCons (eVar 0) aNil)) aNil)) [5] (.nm 5) tYs (eTup (aCons (eVar 1) (aCons (eVar 5) aNil))) (wEv t i j p none) [] = some (.d (.list ((List.range n).map fun k => pr i k)), []) :=
    eLc_map (f := fun k => pr i k) (hs none) (by rw [List.length_range]; omega) fun q hq => ⟨_, rfl, by simp [wEv, pr]⟩
  have l2 : eLc false (iRg (aCons (eArgs opLen (aCons (eVar 0) aNil)) aNil)) [5] (.nm 5) tYs (eTup (aCons (eVar 5) (aCons (eVar 2) aNil))) (wEv t i j p none) [] = some (.d (.list ((List.range n).map fun k => pr k j)), []) :=
    eLc_map (f := fun k => pr k j) (hs none) (by rw [List.length_range]; omega) fun q hq => ⟨_, rfl, by simp [wEv, pr]⟩
  obtain ⟨sq, hsq⟩ : ∃ sq : List (Nat × Nat), sq = (List.range n).map (fun k => (i, k)) ++ (List.range n).map fun k => (k, j) := ⟨_, rfl⟩
  have esq : (List.range n).map (fun k => pr i k) ++ (List.range n).map (fun k => pr k j) = sq.map fun q => pr q.1 q.2 := by
    rw [hsq, List.map_append, List.map_map, List.map_map]
    rfl
  have hs2 : iAny (eVar 4) (wEv t i j p (some (.d (.list (sq.map fun q => pr q.1 q.2))))) [] = some (.st (sq.map fun q => .one (.d (pr q.1 q.2))), []) := by
    have := src_l (fa := eVar 4) (e := wEv t i j p (some (.d (.list (sq.map fun q => pr q.1 q.2))))) (h := []) (h1 := []) (ds := sq.map fun q => pr q.1 q.2) rfl
    rw [this, List.map_map]
    rfl
  have l3 : eLc false (iAny (eVar 4)) [6, 7] (.tp [(.nm 6), (.nm 7)]) (tCmpr (eBin opEq (eBin opIx0 (eBin opIx0 (eVar 0) (eVar 6)) (eVar 7)) (eVar 3))) (eTup (aCons (eVar 6) (aCons (eVar 7) aNil))) (wEv t i j p (some (.d (.list (sq.map fun q => pr q.1 q.2))))) [] =
      some (.d (.list ((sq.filter fun q => isP t q.1 q.2 p).map fun q => pr q.1 q.2)), []) := by
    refine eLc_filter (p := fun q => isP t q.1 q.2 p) (f := fun q => pr q.1 q.2) hs2 (by rw [hsq]; simp; omega) ?_
    rintro ⟨a, b⟩ hq
    have hab : a < n ∧ b < n := by
      rw [hsq] at hq
      rcases List.mem_append.mp hq with hq | hq
      · obtain ⟨k, hk, e⟩ := List.mem_map.mp hq
        cases e
        exact ⟨hi, List.mem_range.mp hk⟩
      · obtain ⟨k, hk, e⟩ := List.mem_map.mp hq
        cases e
        exact ⟨List.mem_range.mp hk, hj⟩
    have e1 := ix_row w hab.1
    have e2 := cell_ix w hab.1 hab.2
    refine ⟨[some (.d (tD t)), some (.d (.int i)), some (.d (.int j)), some (.d (.int p)), some (.d (.list (sq.map fun q => pr q.1 q.2))), none, some (.d (.int a)), some (.d (.int b))], by simp [wEv, pr], by simp [e1, e2, eq_di, isP], fun _ => by simp [pr]⟩
  have en : (sq.filter fun q => isP t q.1 q.2 p).map (fun q => pr q.1 q.2) = nearD t i j p := by
    unfold nearD
    rw [hsq, List.filter_append, List.map_append, List.filter_map, List.filter_map, List.map_map, List.map_map, w.len]
    rfl
  rw [en] at l3
  have m1 : ∀ h, opMin [.d (.list (nearD t i j p))] h = some (.d (minL (nearD t i j p)), h) := fun h => min_l near_T (not_free w hi hj hf)
  have a1 : ∀ h, opAdd false (.d (.list ((List.range n).map fun k => pr i k))) (.d (.list ((List.range n).map fun k => pr k j))) h = some (.d (.list (sq.map fun q => pr q.1 q.2)), h) := fun h => by
    rw [add_ll (by unfold Fits; simp; omega), esq]
  clear hsq esq
  have hb : b6 (R k) (wEv t i j p none) [] = some (.rt (.d (minL (nearD t i j p))), wEv t i j p (some (.d (.list (sq.map fun q => pr q.1 q.2)))), []) := by
    unfold b6
    refine seq_nx (asg_of' (bin_of l1 l2 (a1 _))) (seq_rt (ret_of (args_of' (cons_of l3 (aNil_s)) (m1 _))))
  have := callP_d (N := 8) (body := b6 (R k)) (ds := [tD t, .int i, .int j, .int p]) (h := h) hb
  exact this
end K40

/-! K40j: completions. -/
namespace K40
open PySem MP
/-- p stands nowhere else in the row and the column of (i, j) -/
def Alone (n : Nat) (T : Tb) (i j p : Nat) : Prop := (∀ k, k < n → k ≠ j → PyData.eqv (cellD T i k) (.int p) = false) ∧ ∀ k, k < n → k ≠ i → PyData.eqv (cellD T k j) (.int p) = false
structure Comp (n : Nat) (t T : Tb) : Prop where
  w : Wf n T
  keep : ∀ i j, i < n → j < n → cellN t i j = false → cellD T i j = cellD t i j
  new : ∀ i j, i < n → j < n → cellN t i j = true → ∃ p, p < n ∧ cellD T i j = .int p ∧ Alone n T i j p
theorem cellN_eq (t : Tb) (i j : Nat) : cellN t i j = isNoneD (cellD t i j) := rfl
theorem cellD_set {n : Nat} {t : Tb} (w : Wf n t) {i j i' j' : Nat} {p : D} (hi : i < n) (hj : j < n) : cellD (setC t i j p) i' j' = if i' = i ∧ j' = j then p else cellD t i' j' := by
  unfold cellD
  by_cases h1 : i' = i
  · subst h1
    rw [row_set w hi]
    by_cases h2 : j' = j
    · subst h2
      rw [List.getElem?_set_self (by rw [(row_at w hi).2]; exact hj), if_pos ⟨rfl, rfl⟩]
      rfl
    · rw [List.getElem?_set_ne (fun z => h2 z.symm), if_neg (fun z => h2 z.2)]
  · rw [if_neg (fun z => h1 z.1)]
    congr 2
    unfold rowA setC
    rw [List.getElem?_set_ne (fun z => h1 z.symm)]
theorem ext_tb {n : Nat} {t T : Tb} (w : Wf n t) (W : Wf n T) (h : ∀ i j, i < n → j < n → cellD T i j = cellD t i j) : T = t := by
  apply List.ext_getElem (by rw [w.len, W.len])
  intro i h1 h2
  have hi : i < n := by rw [← W.len]; exact h1
  have a := row_at w hi
  have A := row_at W hi
  have e1 : t[i] = rowA t i := by have := a.1; rw [List.getElem?_eq_getElem h2] at this; exact Option.some.inj this
  have e2 : T[i] = rowA T i := by have := A.1; rw [List.getElem?_eq_getElem h1] at this; exact Option.some.inj this
  rw [e1, e2]
  apply List.ext_getElem (by rw [a.2, A.2])
  intro j h3 h4
  have := h i j hi (by rw [← A.2]; exact h3)
  unfold cellD at this
  rw [List.getElem?_eq_getElem h3, List.getElem?_eq_getElem h4] at this
  exact this
theorem free_row {n : Nat} {t : Tb} (w : Wf n t) {i j p : Nat} (hi : i < n) (hj : j < n) (hf : freeP t i j p = true) : (∀ k, k < n → PyData.eqv (cellD t i k) (.int p) = false) ∧ ∀ k, k < n → PyData.eqv (cellD t k j) (.int p) = false := by
  unfold freeP at hf
  simp only [Bool.not_eq_true', Bool.or_eq_false_iff, List.any_eq_false] at hf
  refine ⟨fun k hk => ?_, fun k hk => ?_⟩
  · obtain ⟨x, c1, _⟩ := cell_at w hi hk
    have := hf.1 x (List.mem_of_getElem? c1)
    unfold cellD
    rw [c1]
    simpa using this
  · have hr := (row_at w hk).1
    have := hf.2 ((rowA t k)[j]?.getD .none) (List.mem_map.mpr ⟨rowA t k, List.mem_of_getElem? hr, rfl⟩)
    unfold cellD
    simpa using this
theorem free_of {n : Nat} {t : Tb} (w : Wf n t) {i j p : Nat} (hi : i < n) (hj : j < n) (h1 : ∀ k, k < n → PyData.eqv (cellD t i k) (.int p) = false) (h2 : ∀ k, k < n → PyData.eqv (cellD t k j) (.int p) = false) : freeP t i j p = true := by
  unfold freeP
  simp only [Bool.not_eq_true', Bool.or_eq_false_iff, List.any_eq_false]
  refine ⟨fun y hy => ?_, fun y hy => ?_⟩
  · obtain ⟨k, hk⟩ := List.getElem?_of_mem hy
    have hl := (List.getElem?_eq_some_iff.mp hk).1
    rw [(row_at w hi).2] at hl
    have := h1 k hl
    unfold cellD at this
    rw [hk] at this
    simpa using this
  · unfold colA at hy
    obtain ⟨r, hr, rfl⟩ := List.mem_map.mp hy
    obtain ⟨k, hk⟩ := List.getElem?_of_mem hr
    have hl := (List.getElem?_eq_some_iff.mp hk).1
    rw [w.len] at hl
    have := h2 k hl
    unfold cellD at this
    rw [row_of hk] at this
    simpa using this
theorem eqv_none {x : D} {p : Int} (h : isNoneD x = true) : PyData.eqv x (.int p) = false := by
  cases x with
  | none => rfl
  | _ => simp [isNoneD] at h
/-- a completion with one square put in -/
theorem comp_back {n : Nat} {t T : Tb} (w : Wf n t) {i j p : Nat} (hi : i < n) (hj : j < n) (hg : cellN t i j = true) (hp : p < n) (hf : freeP t i j p = true) (c : Comp n (setC t i j (.int p)) T) : Comp n t T := by
  have hc := fun i' j' => cellD_set (i' := i') (j' := j') (p := .int p) w hi hj
  have hn := fun i' j' => cell_set (i' := i') (j' := j') (p := p) w hi hj
  have hT : cellD T i j = .int p := by
    rw [c.keep i j hi hj (by rw [hn, if_pos ⟨rfl, rfl⟩]), hc, if_pos ⟨rfl, rfl⟩]
  obtain ⟨fr, fc⟩ := free_row w hi hj hf
  refine ⟨c.w, fun a b ha hb h => ?_, fun a b ha hb h => ?_⟩
  · by_cases e : a = i ∧ b = j
    · rw [e.1, e.2, hT]
      rw [e.1, e.2] at h
      rw [hg] at h; cases h
    · rw [c.keep a b ha hb (by rw [hn, if_neg e]; exact h), hc, if_neg e]
  · by_cases e : a = i ∧ b = j
    · obtain ⟨rfl, rfl⟩ := e
      refine ⟨p, hp, hT, fun k hk hne => ?_, fun k hk hne => ?_⟩
      · by_cases hg : cellN t a k = true
        · obtain ⟨q, hq, h1, h2, h3⟩ := c.new a k ha hk (by rw [hn, if_neg (fun z => hne z.2)]; exact hg)
          have := h2 b hb (fun z => hne z.symm)
          rw [hT] at this
          rw [h1]
          have h4 : ¬ (p : Int) = (q : Int) := by intro z; rw [z] at this; simp [PyData.eqv] at this
          show ((q : Int) == (p : Int)) = false
          exact beq_eq_false_iff_ne.mpr fun z => h4 z.symm
        · rw [c.keep a k ha hk (by rw [hn, if_neg (fun z => hne z.2)]; simpa using hg), hc, if_neg (fun z => hne z.2)]
          exact fr k hk
      · by_cases hg : cellN t k b = true
        · obtain ⟨q, hq, h1, h2, h3⟩ := c.new k b hk hb (by rw [hn, if_neg (fun z => hne z.1)]; exact hg)
          have := h3 a ha (fun z => hne z.symm)
          rw [hT] at this
          rw [h1]
          have h4 : ¬ (p : Int) = (q : Int) := by intro z; rw [z] at this; simp [PyData.eqv] at this
          show ((q : Int) == (p : Int)) = false
          exact beq_eq_false_iff_ne.mpr fun z => h4 z.symm
        · rw [c.keep k b hk hb (by rw [hn, if_neg (fun z => hne z.1)]; simpa using hg), hc, if_neg (fun z => hne z.1)]
          exact fc k hk
    · exact c.new a b ha hb (by rw [hn, if_neg e]; exact h)
/-- what a completion has at a gap is free there -/
theorem comp_free {n : Nat} {t T : Tb} (w : Wf n t) (c : Comp n t T) {i j : Nat} (hi : i < n) (hj : j < n) (hg : cellN t i j = true) : ∃ p, p < n ∧ cellD T i j = .int p ∧ freeP t i j p = true ∧ Comp n (setC t i j (.int p)) T := by
  obtain ⟨p, hp, h1, h2, h3⟩ := c.new i j hi hj hg
  refine ⟨p, hp, h1, free_of w hi hj (fun k hk => ?_) (fun k hk => ?_), c.w, fun a b ha hb h => ?_, fun a b ha hb h => ?_⟩
  · by_cases hgk : cellN t i k = true
    · exact eqv_none (by rw [← cellN_eq]; exact hgk)
    · rw [← c.keep i k hi hk (by simpa using hgk)]
      by_cases e : k = j
      · rw [e] at hgk; exact (hgk hg).elim
      · exact h2 k hk e
  · by_cases hgk : cellN t k j = true
    · exact eqv_none (by rw [← cellN_eq]; exact hgk)
    · rw [← c.keep k j hk hj (by simpa using hgk)]
      by_cases e : k = i
      · rw [e] at hgk; exact (hgk hg).elim
      · exact h3 k hk e
  · rw [cellD_set w hi hj]
    rw [cell_set w hi hj] at h
    by_cases e : a = i ∧ b = j
    · rw [if_pos e, e.1, e.2, h1]
    · rw [if_neg e]
      rw [if_neg e] at h
      exact c.keep a b ha hb h
  · rw [cell_set w hi hj] at h
    by_cases e : a = i ∧ b = j
    · rw [if_pos e] at h; cases h
    · rw [if_neg e] at h
      exact c.new a b ha hb h
theorem mem_parts {n : Nat} {t : Tb} (w : Wf n t) {i j p : Nat} : p ∈ parts t i j ↔ p < n ∧ freeP t i j p = true := by
  unfold parts
  rw [List.mem_filter, List.mem_range, w.len]
theorem comp_mem {n : Nat} {T : Tb} : ∀ (g : Nat) {t : Tb}, gapN t = g → Wf n t → Comp n t T → T ∈ E t := by
  intro g
  induction g with
  | zero =>
    intro t hg w c
    have hz : gapT t = none := gap0 ⟨w, by omega⟩
    rw [E_none hz, List.mem_singleton]
    refine ext_tb w c.w fun i j hi hj => c.keep i j hi hj ?_
    obtain ⟨x, c1, c2⟩ := cell_at w hi hj
    rw [c2]
    exact gapT_none hz (row_at w hi).1 c1
  | succ g ih =>
    intro t hg w c
    cases hz : gapT t with
    | none =>
      rw [E_none hz, List.mem_singleton]
      refine ext_tb w c.w fun i j hi hj => c.keep i j hi hj ?_
      obtain ⟨x, c1, c2⟩ := cell_at w hi hj
      rw [c2]
      exact gapT_none hz (row_at w hi).1 c1
    | some q =>
      obtain ⟨i, j⟩ := q
      obtain ⟨r, x, h1, h2, h3⟩ := gapT_some hz
      obtain ⟨hi, hj⟩ := at_lt w h1 h2
      obtain ⟨p, hp, _, hf, c2⟩ := comp_free w c hi hj (by rw [cell_of h1 h2]; exact h3)
      rw [E_some hz, List.mem_flatMap]
      have hk := kid_gap hz p
      exact ⟨_, List.mem_map.mpr ⟨p, (mem_parts w).mpr ⟨hp, hf⟩, rfl⟩, ih (by omega) (setC_wf w hi _) c2⟩
theorem mem_comp {n : Nat} {T : Tb} : ∀ (g : Nat) {t : Tb}, gapN t = g → Wf n t → T ∈ E t → Comp n t T := by
  intro g
  have stop : ∀ {t : Tb}, Wf n t → gapT t = none → T ∈ E t → Comp n t T := by
    intro t w hz hT
    rw [E_none hz, List.mem_singleton] at hT
    subst hT
    refine ⟨w, fun i j _ _ _ => rfl, fun i j hi hj h => ?_⟩
    obtain ⟨x, c1, c2⟩ := cell_at w hi hj
    have := gapT_none hz (row_at w hi).1 c1
    rw [← c2, h] at this; cases this
  induction g with
  | zero => exact fun hg w hT => stop w (gap0 ⟨w, by omega⟩) hT
  | succ g ih =>
    intro t hg w hT
    cases hz : gapT t with
    | none => exact stop w hz hT
    | some q =>
      obtain ⟨i, j⟩ := q
      obtain ⟨r, x, h1, h2, h3⟩ := gapT_some hz
      obtain ⟨hi, hj⟩ := at_lt w h1 h2
      rw [E_some hz, List.mem_flatMap] at hT
      obtain ⟨u, hu, hT⟩ := hT
      unfold kids at hu
      obtain ⟨p, hp, rfl⟩ := List.mem_map.mp hu
      obtain ⟨hpn, hf⟩ := (mem_parts w).mp hp
      have hk := kid_gap hz p
      exact comp_back w hi hj (by rw [cell_of h1 h2]; exact h3) hpn hf (ih (by omega) (setC_wf w hi _) hT)
theorem child_empty {n : Nat} {t : Tb} (w : Wf n t) (he : E t = []) {i j p : Nat} (hi : i < n) (hj : j < n) (hg : cellN t i j = true) (hp : p < n) (hf : freeP t i j p = true) : E (setC t i j (.int p)) = [] := by
  cases h : E (setC t i j (.int p)) with
  | nil => rfl
  | cons T l =>
    have c := mem_comp _ rfl (setC_wf w hi _) (show T ∈ E (setC t i j (.int p)) by rw [h]; exact List.mem_cons_self)
    have := comp_mem _ rfl w (comp_back w hi hj hg hp hf c)
    rw [he] at this; cases this
end K40

/-! K40k: the gap that is told; the refusal. -/
namespace K40
open PySem MP
def trip (a i j : Nat) : D := .tuple [.int a, .int i, .int j]
def gapsR (n : Nat) (t : Tb) (i : Nat) : List D := ((List.range n).filter (cellN t i)).map fun j => trip (parts t i j).length i j
def gapsL (n q : Nat) (t : Tb) : List D := (List.range q).flatMap (gapsR n t)
theorem gapsL_succ {n q : Nat} {t : Tb} : gapsL n (q + 1) t = gapsL n q t ++ gapsR n t q := by
  unfold gapsL
  rw [List.range_succ, List.flatMap_append]
  simp
theorem gapsR_T {n : Nat} {t : Tb} {i : Nat} : ∀ d ∈ gapsR n t i, IsT 3 d := by
  intro d hd
  unfold gapsR at hd
  obtain ⟨j, _, rfl⟩ := List.mem_map.mp hd
  exact ⟨[(parts t i j).length, i, j], rfl, rfl⟩
theorem gapsL_T {n q : Nat} {t : Tb} : ∀ d ∈ gapsL n q t, IsT 3 d := by
  intro d hd
  unfold gapsL at hd
  obtain ⟨i, _, hd⟩ := List.mem_flatMap.mp hd
  exact gapsR_T d hd
theorem gapsR_len {n : Nat} {t : Tb} {i : Nat} : (gapsR n t i).length ≤ n := by
  unfold gapsR
  rw [List.length_map]
  exact Nat.le_trans (List.length_filter_le _ _) (by rw [List.length_range]; exact Nat.le_refl _)
theorem gapsL_len {n : Nat} {t : Tb} : ∀ q, (gapsL n q t).length ≤ n * q
  | 0 => by simp [gapsL]
  | q + 1 => by
    rw [gapsL_succ, List.length_append, Nat.mul_succ]
    have := gapsL_len (n := n) (t := t) q
    have := gapsR_len (n := n) (t := t) (i := q)
    omega
/-- the told gap -/
theorem gap_min {n : Nat} {t : Tb} (w : Wf n t) (he : E t = []) : ∃ i j, i < n ∧ j < n ∧ cellN t i j = true ∧ gapsL n n t ≠ [] ∧ minL (gapsL n n t) = trip (parts t i j).length i j := by
  have hne : gapsL n n t ≠ [] := by
    cases hz : gapT t with
    | none => rw [E_none hz] at he; cases he
    | some q =>
      obtain ⟨i, j⟩ := q
      obtain ⟨r, x, h1, h2, h3⟩ := gapT_some hz
      obtain ⟨hi, hj⟩ := at_lt w h1 h2
      intro e
      have hm : trip (parts t i j).length i j ∈ gapsL n n t := List.mem_flatMap.mpr ⟨i, List.mem_range.mpr hi, List.mem_map.mpr ⟨j, List.mem_filter.mpr ⟨List.mem_range.mpr hj, by rw [cell_of h1 h2]; exact h3⟩, rfl⟩⟩
      rw [e] at hm; cases hm
  have hm := minL_mem hne
  generalize hq : minL (gapsL n n t) = d at hm ⊢
  unfold gapsL at hm
  obtain ⟨i, hi, hm⟩ := List.mem_flatMap.mp hm
  unfold gapsR at hm
  obtain ⟨j, hj, rfl⟩ := List.mem_map.mp hm
  rw [List.mem_filter] at hj
  exact ⟨i, j, List.mem_range.mp hi, List.mem_range.mp hj.1, hj.2, hne, rfl⟩
theorem zip_range {α β : Type} {f : α → Bool} {g : Nat → β} {d : α} {l : List α} : (l.zipIdx.filter fun p => f p.1).map (fun p => g p.2) = ((List.range l.length).filter fun j => f (l[j]?.getD d)).map g := by
  have e : l.zipIdx = (List.range l.length).map fun j => (l[j]?.getD d, j) := by
    apply List.ext_getElem
    · simp
    · intro i h1 h2
      simp at h1
      simp [h1]
  rw [e, List.filter_map, List.map_map]
  rfl
theorem len_parts (t : Tb) (i j : Nat) (h : Hh) : opLen [.d (partsD t i j)] h = some (.d (.int (parts t i j).length), h) := by
  unfold partsD
  rw [len_l, List.length_map]
abbrev tgE (t : Tb) (a b c d : Option Val) : Ev := [some (.d (tD t)), some (.loc 0), a, b, c, d]
theorem tight_ok {n : Nat} {t : Tb} (w : Wf n t) {a i j : Nat} (hne : gapsL n n t ≠ []) (hm : minL (gapsL n n t) = trip a i j) (k : Nat) (h : Hh) : R (k + 2) 9 [.d (tD t)] h = some (.d (pr i j), h) := by
  have hw := w.big
  have hs : iEnu (eVar 0) (tgE t none none none none) [.lst []] = some (.st (t.zipIdx.map fun p => .two (.d (.int (p.2 : Nat))) (.d (.tuple p.1))), [.lst []]) := by
    have := src_et (fa := eVar 0) (e := tgE t none none none none) (h := [.lst []]) (h1 := [.lst []]) (ds := t.map .tuple) rfl
    rw [this, zip_map, List.map_map]
    rfl
  obtain ⟨e2, h2, hf, b1, b2, b3, b4, rfl, rfl⟩ := for_ix (l := t.zipIdx) (ι := fun p => .two (.d (.int (p.2 : Nat))) (.d (.tuple p.1))) (tg := .tp [(.nm 2), (.nm 3)])
    (B := (sSeq (sDrop (eMthL mExtend (eVar 1) (aCons (eLc false (iEnu (eVar 3)) [4, 5] (.tp [(.nm 4), (.nm 5)]) (tCmpr (eBin opIs (eVar 5) (eD .none))) (eTup (aCons (eArgs opLen (aCons (eArgs (R (k + 1) 1) (aCons (eVar 0) (aCons (eVar 2) (aCons (eVar 4) aNil)))) aNil)) (aCons (eVar 2) (aCons (eVar 4) aNil))))) aNil))) sNil)) (src := .st (t.zipIdx.map fun p => .two (.d (.int (p.2 : Nat))) (.d (.tuple p.1)))) (K := t.length)
    (fun q e h => ∃ b1 b2 b3 b4, e = tgE t b1 b2 b3 b4 ∧ h = [.lst ((gapsL n q t).map .d)]) (fun _ _ _ _ => rfl) (by
      rintro q hq e h ⟨b1, b2, b3, b4, rfl, rfl⟩
      have hqn : q < n := by rw [List.length_zipIdx, w.len] at hq; exact hq
      obtain ⟨r1, r2⟩ := row_at w hqn
      have eq : t.zipIdx[q] = (rowA t q, q) := by
        rw [List.getElem_zipIdx, Nat.zero_add]
        congr 1
        have := r1
        rw [List.getElem?_eq_getElem (by rw [w.len]; exact hqn)] at this
        exact Option.some.inj this
      rw [eq]
      refine ⟨tgE t (some (.d (.int q))) (some (.d (.tuple (rowA t q)))) b3 b4, tgE t (some (.d (.int q))) (some (.d (.tuple (rowA t q)))) b3 b4, [.lst ((gapsL n (q + 1) t).map .d)], by simp [tgE], .inl ?_, _, _, _, _, rfl, rfl⟩
      have hs2 : iEnu (eVar 3) (tgE t (some (.d (.int q))) (some (.d (.tuple (rowA t q)))) b3 b4) [.lst ((gapsL n q t).map .d)] = some (.st ((rowA t q).zipIdx.map fun p => .two (.d (.int (p.2 : Nat))) (.d p.1)), [.lst ((gapsL n q t).map .d)]) := src_et rfl
      have l1 : eLc false (iEnu (eVar 3)) [4, 5] (.tp [(.nm 4), (.nm 5)]) (tCmpr (eBin opIs (eVar 5) (eD .none))) (eTup (aCons (eArgs opLen (aCons (eArgs (R (k + 1) 1) (aCons (eVar 0) (aCons (eVar 2) (aCons (eVar 4) aNil)))) aNil)) (aCons (eVar 2) (aCons (eVar 4) aNil)))) (tgE t (some (.d (.int q))) (some (.d (.tuple (rowA t q)))) b3 b4) [.lst ((gapsL n q t).map .d)] = some (.d (.list (gapsR n t q)), [.lst ((gapsL n q t).map .d)]) := by
        rw [eLc_filter (p := fun p : D × Nat => isNoneD p.1) (f := fun p => trip (parts t q p.2).length q p.2) hs2 (by rw [List.length_zipIdx, r2]; omega) ?_]
        · rw [zip_range (f := isNoneD) (g := fun j => trip (parts t q j).length q j) (d := .none), r2]
          rfl
        · rintro ⟨x, c⟩ hx
          have hc := (List.getElem?_eq_some_iff.mp (List.mem_zipIdx_iff_getElem?.mp hx)).1
          simp only at hc
          rw [r2] at hc
          have e1 := can_ok w hqn hc k
          have e2 := len_parts t q c
          refine ⟨tgE t (some (.d (.int q))) (some (.d (.tuple (rowA t q)))) (some (.d (.int c))) (some (.d x)), by simp [tgE], by simp [tgE], fun _ => by simp [tgE, e1, e2, trip]⟩
      have x1 := ext_ok (n := 0) (vs := (gapsL n q t).map .d) (ds := gapsR n t q) (h := [.lst ((gapsL n q t).map .d)]) rfl (by
        have h1 := gapsL_len (n := n) (t := t) q
        have h2 := gapsR_len (n := n) (t := t) (i := q)
        have h3 : n * q ≤ 1000 * 1000 := Nat.mul_le_mul hw (by omega)
        rw [List.length_map]
        unfold Fits
        omega)
      have kd := kind_loc (n := 0) (vs := (gapsL n q t).map .d) (h := [.lst ((gapsL n q t).map .d)]) rfl
      rw [← List.map_append, ← gapsL_succ] at x1
      refine seq_one (drop_of (v := .d .none) ?_)
      rw [eMthL_s, show eVar 1 (tgE t (some (.d (.int q))) (some (.d (.tuple (rowA t q)))) b3 b4) [.lst ((gapsL n q t).map .d)] = some (.loc 0, [.lst ((gapsL n q t).map .d)]) from rfl]
      simp only [kd]
      rw [cons_of l1 aNil_s]
      exact x1) (by rw [List.length_zipIdx]; exact Nat.le_refl _) _ _ ⟨none, none, none, none, rfl, rfl⟩
  rw [List.length_zipIdx, w.len] at hf
  have m1 := min_loc (n := 0) (ds := gapsL n n t) (h := [.lst ((gapsL n n t).map .d)]) rfl gapsL_T hne
  rw [hm] at m1
  have hb : b9 (R (k + 1)) (startE 6 [.d (tD t)]) [] = some (.rt (.d (pr i j)), tgE t b1 b2 b3 b4, [.lst ((gapsL n n t).map .d)]) := by
    show b9 (R (k + 1)) [some (.d (tD t)), none, none, none, none, none] [] = _
    unfold b9
    refine seq_nx (e1 := tgE t none none none none) (h1 := [.lst []]) rfl (seq_nx (e1 := tgE t b1 b2 b3 b4) (h1 := [.lst ((gapsL n n t).map .d)]) ?_ (seq_rt (ret_of ?_)))
    · refine (sFor_nx hs ?_).trans (by rw [sNil_s])
      show forN _ _ _ (t.zipIdx.map _).length 0 _ _ = _
      rw [List.length_map, List.length_zipIdx, w.len]
      exact hf
    · rw [eSl_s, args_of' (cons_of (u := .loc 0) (h1 := [.lst ((gapsL n n t).map .d)]) rfl aNil_s) m1]
      rfl
  have := callP_d (ds := [tD t]) (h := h) hb
  exact this
/-! ### the refusal -/
def refD (n : Nat) : Nat → Tb → D
  | 0, _ => .none
  | g + 1, t => match minL (gapsL n n t) with
    | .tuple [_, .int i, .int j] => .tuple [.int i, .int j, .tuple ((List.range n).map fun (p : Nat) => if freeP t i.toNat j.toNat p then refD n g (setC t i.toNat j.toNat (.int p)) else minL (nearD t i.toNat j.toNat p))]
    | _ => .none
def partR (n g : Nat) (t : Tb) (i j p : Nat) : D := if freeP t i j p then refD n g (setC t i j (.int p)) else minL (nearD t i j p)
theorem refD_at {n g : Nat} {t : Tb} {a i j : Nat} (hm : minL (gapsL n n t) = trip a i j) : refD n (g + 1) t = .tuple [.int i, .int j, .tuple ((List.range n).map fun p => partR n g t i j p)] := by
  unfold refD
  rw [hm]
  rfl
theorem in_parts {n : Nat} {t : Tb} (w : Wf n t) {i j p : Nat} (hp : p < n) (h : Hh) : opIn0 (.d (.int p)) (.d (partsD t i j)) h = some (.d (.bool (freeP t i j p)), h) := by
  unfold partsD
  rw [in_l rfl]
  congr 4
  rw [Bool.eq_iff_iff, List.any_eq_true]
  constructor
  · rintro ⟨y, hy, e⟩
    obtain ⟨q, hq, rfl⟩ := List.mem_map.mp hy
    have : ((q : Int) == (p : Int)) = true := e
    have h2 : q = p := by have := eq_of_beq this; omega
    rw [← h2]
    exact ((mem_parts w).mp hq).2
  · intro hf
    refine ⟨.int p, List.mem_map.mpr ⟨p, (mem_parts w).mpr ⟨hp, hf⟩, rfl⟩, ?_⟩
    show ((p : Int) == (p : Int)) = true
    simp
abbrev rfE (t : Tb) (i j : Nat) (x : Option Val) : Ev := [some (.d (tD t)), some (.d (partsD t i j)), some (.loc 0), x, some (.d (.int i)), some (.d (.int j))]
theorem refusal_ok {n : Nat} (hn : n ≤ 4) : ∀ (g : Nat) (t : Tb), Wf n t → gapN t ≤ g → E t = [] → ∀ (k : Nat) (h : Hh), R (k + g + 3) 10 [.d (tD t)] h = some (.d (refD n g t), h) := by
  intro g
  induction g with
  | zero =>
    intro t w hg he
    rw [E_none (gap0 ⟨w, hg⟩)] at he; cases he
  | succ g ih =>
    intro t w hg he k h
    have hw := w.big
    obtain ⟨i, j, hi, hj, hc, hne, hm⟩ := gap_min w he
    have c1 := tight_ok w hne hm (k + g + 1)
    have c2 := can_ok w hi hj (k + g + 2)
    have hs : iRg (aCons (eArgs opLen (aCons (eVar 0) aNil)) aNil) (rfE t i j none) [.lst []] = some (.st ((List.range n).map fun (k : Nat) => .one (.d (.int k))), [.lst []]) := src_r (n := n) (by simp [rfE, tD, w.len]) (by omega)
    obtain ⟨e2, h2, hf, x, rfl, rfl⟩ := for_ix (l := List.range n) (ι := fun (k : Nat) => .one (.d (.int k))) (tg := .nm 3)
      (B := (sSeq (sDrop (eMthL mAppend (eVar 2) (aCons (eIf (tCmpr (eBin opIn0 (eVar 3) (eVar 1))) (eArgs (R (k + g + 3) 10) (aCons (eArgs (R (k + g + 3) 2) (aCons (eVar 0) (aCons (eVar 4) (aCons (eVar 5) (aCons (eVar 3) aNil))))) aNil)) (eArgs (R (k + g + 3) 6) (aCons (eVar 0) (aCons (eVar 4) (aCons (eVar 5) (aCons (eVar 3) aNil)))))) aNil))) sNil)) (src := .st ((List.range n).map fun (k : Nat) => .one (.d (.int k)))) (K := n)
      (fun q e h => ∃ x, e = rfE t i j x ∧ h = [.lst (((List.range q).map fun p => partR n g t i j p).map .d)]) (fun _ _ _ _ => rfl) (by
        rintro q hq e h ⟨x, rfl, rfl⟩
        rw [List.length_range] at hq
        rw [List.getElem_range]
        refine ⟨rfE t i j (some (.d (.int q))), rfE t i j (some (.d (.int q))), [.lst (((List.range (q + 1)).map fun p => partR n g t i j p).map .d)], by simp [rfE], .inl ?_, _, rfl, rfl⟩
        have kd := kind_loc (n := 0) (vs := ((List.range q).map fun p => partR n g t i j p).map .d) (h := [.lst (((List.range q).map fun p => partR n g t i j p).map .d)]) rfl
        have a1 := app_ok (n := 0) (vs := ((List.range q).map fun p => partR n g t i j p).map .d) (v := .d (partR n g t i j q)) (h := [.lst (((List.range q).map fun p => partR n g t i j p).map .d)]) rfl (by simp; omega)
        have e1 : ((List.range q).map fun p => partR n g t i j p).map Val.d ++ [.d (partR n g t i j q)] = ((List.range (q + 1)).map fun p => partR n g t i j p).map .d := by rw [List.range_succ]; simp
        rw [e1] at a1
        refine seq_one (drop_of (v := .d .none) ?_)
        rw [eMthL_s, show eVar 2 (rfE t i j (some (.d (.int q)))) [.lst (((List.range q).map fun p => partR n g t i j p).map .d)] = some (.loc 0, [.lst (((List.range q).map fun p => partR n g t i j p).map .d)]) from rfl]
        simp only [kd]
        have ht : tCmpr (eBin opIn0 (eVar 3) (eVar 1)) (rfE t i j (some (.d (.int q)))) [.lst (((List.range q).map fun p => partR n g t i j p).map .d)] = some (freeP t i j q, [.lst (((List.range q).map fun p => partR n g t i j p).map .d)]) := by
          rw [tCmpr_s, bin_of (u := .d (.int q)) (v := .d (partsD t i j)) rfl rfl (in_parts w hq _)]
        have hv : eIf (tCmpr (eBin opIn0 (eVar 3) (eVar 1))) (eArgs (R (k + g + 3) 10) (aCons (eArgs (R (k + g + 3) 2) (aCons (eVar 0) (aCons (eVar 4) (aCons (eVar 5) (aCons (eVar 3) aNil))))) aNil)) (eArgs (R (k + g + 3) 6) (aCons (eVar 0) (aCons (eVar 4) (aCons (eVar 5) (aCons (eVar 3) aNil))))) (rfE t i j (some (.d (.int q)))) [.lst (((List.range q).map fun p => partR n g t i j p).map .d)] = some (.d (partR n g t i j q), [.lst (((List.range q).map fun p => partR n g t i j p).map .d)]) := by
          rw [eIf_s, ht]
          unfold partR
          cases hfr : freeP t i j q with
          | true =>
            simp only [if_true]
            have hk : gapN (setC t i j (.int q)) + 1 = gapN t := by
              obtain ⟨x, c1, c2⟩ := cell_at w hi hj
              exact gapN_set (row_at w hi).1 c1 (by rw [← c2]; exact hc) rfl
            have := ih (setC t i j (.int q)) (setC_wf w hi _) (by omega) (child_empty w he hi hj hc hq hfr) k
            exact args_of' (cons_of (args_of' (us := [.d (tD t), .d (.int i), .d (.int j), .d (.int q)]) rfl (with_ok w hi hj (.int q) (k + g + 2) _)) aNil_s) (this _)
          | false =>
            simp only [Bool.false_eq_true, if_false]
            exact args_of' (us := [.d (tD t), .d (.int i), .d (.int j), .d (.int q)]) rfl (way_ok w hi hj hfr (k + g + 2) _)
        rw [cons_of hv aNil_s]
        exact a1) (by rw [List.length_range]; exact Nat.le_refl _) _ _ ⟨none, rfl, rfl⟩
    rw [List.length_range] at hf
    have hb : b10 (R (k + g + 3)) (startE 6 [.d (tD t)]) [] = some (.rt (.d (refD n (g + 1) t)), rfE t i j x, [.lst (((List.range n).map fun p => partR n g t i j p).map .d)]) := by
      show b10 (R (k + g + 3)) [some (.d (tD t)), none, none, none, none, none] [] = _
      unfold b10
      refine seq_nx (e1 := [some (.d (tD t)), none, none, none, some (.d (.int i)), some (.d (.int j))]) (h1 := []) ?_ (seq_nx (e1 := [some (.d (tD t)), some (.d (partsD t i j)), none, none, some (.d (.int i)), some (.d (.int j))]) (h1 := []) ?_ (seq_nx (e1 := rfE t i j none) (h1 := [.lst []]) rfl (seq_nx (e1 := rfE t i j x) (h1 := [.lst (((List.range n).map fun p => partR n g t i j p).map .d)]) ?_ (seq_rt (ret_of ?_)))))
      · rw [sAsg_s, args_of' (us := [.d (tD t)]) rfl (c1 [])]
        simp [pr]
      · exact asg_of' (i := 1) (args_of' (us := [.d (tD t), .d (.int i), .d (.int j)]) rfl (c2 []))
      · refine (sFor_nx hs ?_).trans (by rw [sNil_s])
        show forN _ _ _ ((List.range n).map _).length 0 _ _ = _
        rw [List.length_map, List.length_range]
        exact hf
      · have tt : opTuple [.loc 0] [.lst (((List.range n).map fun p => partR n g t i j p).map .d)] = some (.d (.tuple ((List.range n).map fun p => partR n g t i j p)), [.lst (((List.range n).map fun p => partR n g t i j p).map .d)]) := by
          show mkT _ _ = _
          rw [mkT_map]
        rw [eTup_s, cons_of (u := .d (.int i)) (h1 := [.lst (((List.range n).map fun p => partR n g t i j p).map .d)]) rfl (cons_of (u := .d (.int j)) (h1 := [.lst (((List.range n).map fun p => partR n g t i j p).map .d)]) rfl (cons_of (args_of' (us := [.loc 0]) rfl tt) aNil_s))]
        rw [refD_at hm]
        simp
    have := callP_d (ds := [tD t]) (h := h) hb
    exact this
end K40

/-! K40l: the law's refusal; the program's answer. -/
namespace K40
open PySem MP
abbrev l1E (t : Tb) (n : Nat) (x : Option Val) : Ev := [some (.d (tD t)), x, none, some (.d (.int n)), some (.loc 0), none, none, none, none, none, none]
abbrev l2E (t : Tb) (n i j : Nat) (a : Option Val) (x y : Option Val) : Ev := [some (.d (tD t)), some (.d (.int i)), x, some (.d (.int n)), some (.loc 0), a, some (.d (.int j)), some (.d (partsD t i j)), some (.loc 1), y, none]
theorem min_near {n : Nat} {t : Tb} (w : Wf n t) {i j p : Nat} (hi : i < n) (hj : j < n) (hf : freeP t i j p = false) (h : Hh) : opMin [.d (.list (nearD t i j p))] h = some (.d (minL (nearD t i j p)), h) := min_l near_T (not_free w hi hj hf)
theorem lrefusal_ok {n : Nat} (hn : n ≤ 4) : ∀ (g : Nat) (t : Tb), Wf n t → gapN t ≤ g → E t = [] → ∀ (k : Nat) (h : Hh), R (k + g + 3) 23 [.d (tD t)] h = some (.d (refD n g t), h) := by
  intro g
  induction g with
  | zero =>
    intro t w hg he
    rw [E_none (gap0 ⟨w, hg⟩)] at he; cases he
  | succ g ih =>
    intro t w hg he k h
    have hw := w.big
    obtain ⟨i, j, hi, hj, hc, hne, hm⟩ := gap_min w he
    have s1 : (sPar (aCons (eArgs opLen (aCons (eVar 0) aNil)) (aCons (eLst true aNil) aNil)) [3, 4]) [some (.d (tD t)), none, none, none, none, none, none, none, none, none, none] [] = some (.nx, l1E t n none, [.lst []]) := by
      have : opLen [.d (tD t)] [] = some (.d (.int n), []) := by simp [tD, w.len]
      simp [l1E, this]
    -- the gaps
    have hs1 : iRg (aCons (eVar 3) aNil) (l1E t n none) [.lst []] = some (.st ((List.range n).map fun (k : Nat) => .one (.d (.int k))), [.lst []]) := src_r (n := n) rfl (by omega)
    obtain ⟨e2, h2, hf1, x1, rfl, rfl⟩ := for_ix (l := List.range n) (ι := fun (k : Nat) => .one (.d (.int k))) (tg := .nm 1)
      (B := (sSeq (sDrop (eMthL mExtend (eVar 4) (aCons (eLc false (iRg (aCons (eVar 3) aNil)) [6] (.nm 6) (tCmpr (eBin opIs (eBin opIx0 (eBin opIx0 (eVar 0) (eVar 1)) (eVar 6)) (eD .none))) (eTup (aCons (eArgs opLen (aCons (eArgs (R (k + g + 3) 17) (aCons (eVar 0) (aCons (eVar 1) (aCons (eVar 6) aNil)))) aNil)) (aCons (eVar 1) (aCons (eVar 6) aNil))))) aNil))) sNil)) (src := .st ((List.range n).map fun (k : Nat) => .one (.d (.int k)))) (K := n)
      (fun q e h => ∃ x, e = l1E t n x ∧ h = [.lst ((gapsL n q t).map .d)]) (fun _ _ _ _ => rfl) (by
        rintro q hq e h ⟨x, rfl, rfl⟩
        rw [List.length_range] at hq
        rw [List.getElem_range]
        refine ⟨l1E t n (some (.d (.int q))), l1E t n (some (.d (.int q))), [.lst ((gapsL n (q + 1) t).map .d)], by simp [l1E], .inl ?_, _, rfl, rfl⟩
        have hs2 : iRg (aCons (eVar 3) aNil) (l1E t n (some (.d (.int q)))) [.lst ((gapsL n q t).map .d)] = some (.st ((List.range n).map fun (k : Nat) => .one (.d (.int k))), [.lst ((gapsL n q t).map .d)]) := src_r (n := n) rfl (by omega)
        have l1 : eLc false (iRg (aCons (eVar 3) aNil)) [6] (.nm 6) (tCmpr (eBin opIs (eBin opIx0 (eBin opIx0 (eVar 0) (eVar 1)) (eVar 6)) (eD .none))) (eTup (aCons (eArgs opLen (aCons (eArgs (R (k + g + 3) 17) (aCons (eVar 0) (aCons (eVar 1) (aCons (eVar 6) aNil)))) aNil)) (aCons (eVar 1) (aCons (eVar 6) aNil)))) (l1E t n (some (.d (.int q)))) [.lst ((gapsL n q t).map .d)] = some (.d (.list (gapsR n t q)), [.lst ((gapsL n q t).map .d)]) := by
          rw [eLc_filter (p := cellN t q) (f := fun j => trip (parts t q j).length q j) hs2 (by rw [List.length_range]; omega) ?_]
          · rfl
          · intro c hc
            have hc := List.mem_range.mp hc
            have e0 := ix_row w hq
            have e1 := cell_ix w hq hc
            have e2 := parts_ok w hq hc (k + g + 2)
            have e3 := len_parts t q c
            refine ⟨[some (.d (tD t)), some (.d (.int q)), none, some (.d (.int n)), some (.loc 0), none, some (.d (.int c)), none, none, none, none], by simp [l1E], ?_, fun _ => ?_⟩
            · simp [e0, e1, cellN_eq]
            · simp [e2, e3, trip]
        have x1 := ext_ok (n := 0) (vs := (gapsL n q t).map .d) (ds := gapsR n t q) (h := [.lst ((gapsL n q t).map .d)]) rfl (by
          have h1 := gapsL_len (n := n) (t := t) q
          have h2 := gapsR_len (n := n) (t := t) (i := q)
          have h3 : n * q ≤ 1000 * 1000 := Nat.mul_le_mul hw (by omega)
          rw [List.length_map]
          unfold Fits
          omega)
        have kd := kind_loc (n := 0) (vs := (gapsL n q t).map .d) (h := [.lst ((gapsL n q t).map .d)]) rfl
        rw [← List.map_append, ← gapsL_succ] at x1
        refine seq_one (drop_of (v := .d .none) ?_)
        rw [eMthL_s, show eVar 4 (l1E t n (some (.d (.int q)))) [.lst ((gapsL n q t).map .d)] = some (.loc 0, [.lst ((gapsL n q t).map .d)]) from rfl]
        simp only [kd]
        rw [cons_of l1 aNil_s]
        exact x1) (by rw [List.length_range]; exact Nat.le_refl _) _ _ ⟨none, rfl, rfl⟩
    rw [List.length_range] at hf1
    have m1 := min_loc (n := 0) (ds := gapsL n n t) (h := [.lst ((gapsL n n t).map .d)]) rfl gapsL_T hne
    rw [hm] at m1
    -- the parts
    have hp : ∀ h, R (k + g + 3) 17 [.d (tD t), .d (.int i), .d (.int j)] h = some (.d (partsD t i j), h) := parts_ok w hi hj (k + g + 2)
    obtain ⟨G, hG⟩ : ∃ G : List Val, G = (gapsL n n t).map .d := ⟨_, rfl⟩
    rw [← hG] at m1 hf1
    have hs3 : iRg (aCons (eVar 3) aNil) (l2E t n i j (some (.d (.int (parts t i j).length))) none none) [.lst G, .lst []] = some (.st ((List.range n).map fun (k : Nat) => .one (.d (.int k))), [.lst G, .lst []]) := src_r (n := n) rfl (by omega)
    obtain ⟨e3, h3, hf2, x2, y2, rfl, rfl⟩ := for_ix (l := List.range n) (ι := fun (k : Nat) => .one (.d (.int k))) (tg := .nm 2)
      (B := (sSeq (sIf (tCmpr (eBin opIn0 (eVar 2) (eVar 7)))
   (sSeq (sDrop (eMthL mAppend (eVar 8) (aCons (eArgs (R (k + g + 3) 23) (aCons (eArgs (R (k + g + 3) 18) (aCons (eVar 0) (aCons (eVar 1) (aCons (eVar 6) (aCons (eVar 2) aNil))))) aNil)) aNil)))
   sNil)
   (sSeq (sAsg (eBin (opAdd false) (eLc false (iRg (aCons (eVar 3) aNil)) [10] (.nm 10) (tCmpr (eBin opEq (eBin opIx0 (eBin opIx0 (eVar 0) (eVar 1)) (eVar 10)) (eVar 2))) (eTup (aCons (eVar 1) (aCons (eVar 10) aNil)))) (eLc false (iRg (aCons (eVar 3) aNil)) [10] (.nm 10) (tCmpr (eBin opEq (eBin opIx0 (eBin opIx0 (eVar 0) (eVar 10)) (eVar 6)) (eVar 2))) (eTup (aCons (eVar 10) (aCons (eVar 6) aNil))))) (.nm 9))
   (sSeq (sDrop (eMthL mAppend (eVar 8) (aCons (eArgs opMin (aCons (eVar 9) aNil)) aNil)))
   sNil)))
  sNil)) (src := .st ((List.range n).map fun (k : Nat) => .one (.d (.int k)))) (K := n)
      (fun q e h => ∃ x y, e = l2E t n i j (some (.d (.int (parts t i j).length))) x y ∧ h = [.lst G, .lst (((List.range q).map fun p => partR n g t i j p).map .d)]) (fun _ _ _ _ => rfl) (by
        rintro q hq e h ⟨x, y, rfl, rfl⟩
        rw [List.length_range] at hq
        rw [List.getElem_range]
        have kd := kind_loc (n := 1) (vs := ((List.range q).map fun p => partR n g t i j p).map .d) (h := [.lst G, .lst (((List.range q).map fun p => partR n g t i j p).map .d)]) rfl
        have a1 := app_ok (n := 1) (vs := ((List.range q).map fun p => partR n g t i j p).map .d) (v := .d (partR n g t i j q)) (h := [.lst G, .lst (((List.range q).map fun p => partR n g t i j p).map .d)]) rfl (by simp; omega)
        have e1 : ((List.range q).map fun p => partR n g t i j p).map Val.d ++ [.d (partR n g t i j q)] = ((List.range (q + 1)).map fun p => partR n g t i j p).map .d := by rw [List.range_succ]; simp
        rw [e1] at a1
        obtain ⟨hh, hhh⟩ : ∃ hh : Hh, hh = [.lst G, .lst (((List.range q).map fun p => partR n g t i j p).map .d)] := ⟨_, rfl⟩
        rw [← hhh] at kd a1 ⊢
        have ht : ∀ y, tCmpr (eBin opIn0 (eVar 2) (eVar 7)) (l2E t n i j (some (.d (.int (parts t i j).length))) (some (.d (.int q))) y) hh = some (freeP t i j q, hh) := fun y => by
          rw [tCmpr_s, bin_of (u := .d (.int q)) (v := .d (partsD t i j)) rfl rfl (in_parts w hq _)]
        cases hfr : freeP t i j q with
        | true =>
          have hpr : partR n g t i j q = refD n g (setC t i j (.int q)) := by unfold partR; rw [hfr]; rfl
          have hk : gapN (setC t i j (.int q)) + 1 = gapN t := by
            obtain ⟨x, c1, c2⟩ := cell_at w hi hj
            exact gapN_set (row_at w hi).1 c1 (by rw [← c2]; exact hc) rfl
          have reck := ih (setC t i j (.int q)) (setC_wf w hi _) (by omega) (child_empty w he hi hj hc hq hfr) k
          refine ⟨l2E t n i j (some (.d (.int (parts t i j).length))) (some (.d (.int q))) y, l2E t n i j (some (.d (.int (parts t i j).length))) (some (.d (.int q))) y, [.lst G, .lst (((List.range (q + 1)).map fun p => partR n g t i j p).map .d)], by simp [l2E], .inl ?_, _, _, rfl, rfl⟩
          refine seq_one (if_t ((ht y).trans (by rw [hfr])) (seq_one (drop_of (v := .d .none) ?_)))
          rw [eMthL_s, show eVar 8 (l2E t n i j (some (.d (.int (parts t i j).length))) (some (.d (.int q))) y) hh = some (.loc 1, hh) from rfl]
          simp only [kd]
          rw [cons_of (args_of' (cons_of (args_of' (us := [.d (tD t), .d (.int i), .d (.int j), .d (.int q)]) rfl (lwith_ok w hi hj (.int q) (k + g + 2) _)) aNil_s) (reck _)) aNil_s, ← hpr]
          show mAppend (.loc 1) [.d (partR n g t i j q)] hh = _
          rw [a1, hhh]
          rfl
        | false =>
          have hpr : partR n g t i j q = minL (nearD t i j q) := by unfold partR; rw [hfr]; rfl
          refine ⟨l2E t n i j (some (.d (.int (parts t i j).length))) (some (.d (.int q))) y, l2E t n i j (some (.d (.int (parts t i j).length))) (some (.d (.int q))) (some (.d (.list (nearD t i j q)))), [.lst G, .lst (((List.range (q + 1)).map fun p => partR n g t i j p).map .d)], by simp [l2E], .inl ?_, _, _, rfl, rfl⟩
          obtain ⟨ev, hev⟩ : ∃ ev, ev = l2E t n i j (some (.d (.int (parts t i j).length))) (some (.d (.int q))) y := ⟨_, rfl⟩
          have hs4 : iRg (aCons (eVar 3) aNil) ev hh = some (.st ((List.range n).map fun (k : Nat) => .one (.d (.int k))), hh) := by rw [hev]; exact src_r (n := n) rfl (by omega)
          have la : eLc false (iRg (aCons (eVar 3) aNil)) [10] (.nm 10) (tCmpr (eBin opEq (eBin opIx0 (eBin opIx0 (eVar 0) (eVar 1)) (eVar 10)) (eVar 2))) (eTup (aCons (eVar 1) (aCons (eVar 10) aNil))) ev hh = some (.d (.list (((List.range n).filter fun c => isP t i c q).map fun c => pr i c)), hh) := by
            refine eLc_filter (p := fun c => isP t i c q) (f := fun c => pr i c) hs4 (by rw [List.length_range]; omega) fun c hc => ?_
            have hc := List.mem_range.mp hc
            have e0 := ix_row w hi
            have e1 := cell_ix w hi hc
            refine ⟨[some (.d (tD t)), some (.d (.int i)), some (.d (.int q)), some (.d (.int n)), some (.loc 0), some (.d (.int (parts t i j).length)), some (.d (.int j)), some (.d (partsD t i j)), some (.loc 1), y, some (.d (.int c))], by rw [hev]; simp [l2E], ?_, fun _ => by simp [pr]⟩
            simp [e0, e1, eq_di, isP]
          have lb : eLc false (iRg (aCons (eVar 3) aNil)) [10] (.nm 10) (tCmpr (eBin opEq (eBin opIx0 (eBin opIx0 (eVar 0) (eVar 10)) (eVar 6)) (eVar 2))) (eTup (aCons (eVar 10) (aCons (eVar 6) aNil))) ev hh = some (.d (.list (((List.range n).filter fun c => isP t c j q).map fun c => pr c j)), hh) := by
            refine eLc_filter (p := fun c => isP t c j q) (f := fun c => pr c j) hs4 (by rw [List.length_range]; omega) fun c hc => ?_
            have hc := List.mem_range.mp hc
            have e0 := ix_row w hc
            have e1 := cell_ix w hc hj
            refine ⟨[some (.d (tD t)), some (.d (.int i)), some (.d (.int q)), some (.d (.int n)), some (.loc 0), some (.d (.int (parts t i j).length)), some (.d (.int j)), some (.d (partsD t i j)), some (.loc 1), y, some (.d (.int c))], by rw [hev]; simp [l2E], ?_, fun _ => by simp [pr]⟩
            simp [e0, e1, eq_di, isP]
          have lab : opAdd false (.d (.list (((List.range n).filter fun c => isP t i c q).map fun c => pr i c))) (.d (.list (((List.range n).filter fun c => isP t c j q).map fun c => pr c j))) hh = some (.d (.list (nearD t i j q)), hh) := by
            have z1 := List.length_filter_le (fun c => isP t i c q) (List.range n)
            have z2 := List.length_filter_le (fun c => isP t c j q) (List.range n)
            rw [List.length_range] at z1 z2
            rw [add_ll (by unfold Fits; rw [List.length_map, List.length_map]; omega)]
            unfold nearD
            rw [w.len]
          subst hev
          refine seq_one (if_f ((ht y).trans (by rw [hfr])) (seq_nx (asg_of' (i := 9) (bin_of la lb lab)) (seq_one (drop_of (v := .d .none) ?_))))
          rw [eMthL_s, show eVar 8 ((l2E t n i j (some (.d (.int (parts t i j).length))) (some (.d (.int q))) y).set 9 (some (.d (.list (nearD t i j q))))) hh = some (.loc 1, hh) from rfl]
          simp only [kd]
          rw [cons_of (args_of' (us := [.d (.list (nearD t i j q))]) rfl (min_near w hi hj hfr hh)) aNil_s, ← hpr]
          show mAppend (.loc 1) [.d (partR n g t i j q)] hh = _
          rw [a1, hhh]
          rfl) (by rw [List.length_range]; exact Nat.le_refl _) _ _ ⟨none, none, rfl, rfl⟩
    rw [List.length_range] at hf2
    have hb : b23 (R (k + g + 3)) (startE 11 [.d (tD t)]) [] = some (.rt (.d (refD n (g + 1) t)), l2E t n i j (some (.d (.int (parts t i j).length))) x2 y2, [.lst G, .lst (((List.range n).map fun p => partR n g t i j p).map .d)]) := by
      show b23 (R (k + g + 3)) [some (.d (tD t)), none, none, none, none, none, none, none, none, none, none] [] = _
      unfold b23
      refine seq_nx s1 (seq_nx (e1 := l1E t n x1) (h1 := [.lst G]) ?_ (seq_nx (e1 := [some (.d (tD t)), some (.d (.int i)), none, some (.d (.int n)), some (.loc 0), some (.d (.int (parts t i j).length)), some (.d (.int j)), none, none, none, none]) (h1 := [.lst G]) ?_ (seq_nx (e1 := l2E t n i j (some (.d (.int (parts t i j).length))) none none) (h1 := [.lst G, .lst []]) ?_ (seq_nx (e1 := l2E t n i j (some (.d (.int (parts t i j).length))) x2 y2) (h1 := [.lst G, .lst (((List.range n).map fun p => partR n g t i j p).map .d)]) ?_ (seq_rt (ret_of ?_))))))
      · refine (sFor_nx hs1 ?_).trans (by rw [sNil_s])
        show forN _ _ _ ((List.range n).map _).length 0 _ _ = _
        rw [List.length_map, List.length_range]
        exact hf1
      · rw [sAsg_s, args_of' (us := [.loc 0]) (h1 := [.lst G]) rfl m1]
        simp [trip, l1E]
      · rw [sPar_s, cons_of (args_of' (us := [.d (tD t), .d (.int i), .d (.int j)]) (h1 := [.lst G]) rfl (hp _)) (us := [.loc 1]) (h2 := [.lst G, .lst []]) rfl]
        simp [l2E]
      · refine (sFor_nx hs3 ?_).trans (by rw [sNil_s])
        show forN _ _ _ ((List.range n).map _).length 0 _ _ = _
        rw [List.length_map, List.length_range]
        exact hf2
      · have tt : opTuple [.loc 1] [.lst G, .lst (((List.range n).map fun p => partR n g t i j p).map .d)] = some (.d (.tuple ((List.range n).map fun p => partR n g t i j p)), [.lst G, .lst (((List.range n).map fun p => partR n g t i j p).map .d)]) := by
          show mkT _ _ = _
          rw [mkT_map]
        rw [eTup_s, cons_of (u := .d (.int i)) (h1 := [.lst G, .lst (((List.range n).map fun p => partR n g t i j p).map .d)]) rfl (cons_of (u := .d (.int j)) (h1 := [.lst G, .lst (((List.range n).map fun p => partR n g t i j p).map .d)]) rfl (cons_of (args_of' (us := [.loc 1]) rfl tt) aNil_s))]
        rw [refD_at hm]
        simp
    have := callP_d (ds := [tD t]) (h := h) hb
    exact this
/-- what the program answers -/
def due (n : Nat) (t : Tb) : D := match (E t).head? with
  | some T => .tuple [.str "end", tD T]
  | none => .tuple [.str "refusal", refD n (gapN t) t]
theorem end_ok {n : Nat} {t : Tb} (w : Wf n t) (hn : n ≤ 4) (hg : gapN t ≤ 16) (k : Nat) (h : Hh) : R (k + 30) 11 [.d (tD t)] h = some (.d (due n t), h) := by
  have e1 := first_ok w hn hg (k + 26)
  cases hE : E t with
  | nil =>
    rw [hE] at e1
    have e2 := refusal_ok hn (gapN t) t w (Nat.le_refl _) hE (k + 26 - gapN t)
    rw [show k + 26 - gapN t + gapN t + 3 = k + 29 by omega] at e2
    have hb : b11 (R (k + 29)) (startE 2 [.d (tD t)]) [] = some (.rt (.d (due n t)), [some (.d (tD t)), some (.d .none)], []) := by
      show b11 (R (k + 29)) [some (.d (tD t)), none] [] = _
      unfold b11 due
      rw [hE]
      refine seq_nx (asg_of' (i := 1) (args_of' (us := [.d (tD t)]) rfl (e1 []))) (seq_rt (ret_of ?_))
      simp [firstD, isNoneD, e2]
    have := callP_d (ds := [tD t]) (h := h) hb
    exact this
  | cons T l =>
    rw [hE] at e1
    have hb : b11 (R (k + 29)) (startE 2 [.d (tD t)]) [] = some (.rt (.d (due n t)), [some (.d (tD t)), some (.d (tD T))], []) := by
      show b11 (R (k + 29)) [some (.d (tD t)), none] [] = _
      unfold b11 due
      rw [hE]
      refine seq_nx (asg_of' (i := 1) (args_of' (us := [.d (tD t)]) rfl (e1 []))) (seq_rt (ret_of ?_))
      have : isNoneD (tD T) = false := rfl
      simp [firstD, this]
    have := callP_d (ds := [tD t]) (h := h) hb
    exact this
end K40

/-! K40m: alike answers; the tape. -/
namespace K40
open PySem MP
def Atom : D → Prop
  | .none => True
  | .bool _ => True
  | .int _ => True
  | .str _ => True
  | _ => False
/-- small trees of atoms -/
def Sm : Nat → D → Prop
  | 0, d => Atom d
  | m + 1, .tuple ds => ds.length ≤ 1000 ∧ ∀ d ∈ ds, Sm m d
  | m + 1, .list ds => ds.length ≤ 1000 ∧ ∀ d ∈ ds, Sm m d
  | _ + 1, d => Atom d
theorem atom_same {x : D} (ha : Atom x) (k : Nat) (h : Hh) : R (k + 1) 15 [.d x, .d x] h = some (.d (.bool true), h) := by
  refine callP_d (N := 3) (body := b15 (R k)) (ds := [x, x]) (e2 := [some (.d x), some (.d x), none]) (h2 := []) (h := h) ?_
  cases x with
  | none => simp [b15, PyData.isTuple, PyData.isList, PyData.isBool, PyData.isInt, PyData.isStr, isNoneD]
  | bool b =>
    have e : opEq (.d (.bool b)) (.d (.bool b)) [] = some (.d (.bool true), []) := by cases b <;> rfl
    simp [b15, PyData.isTuple, PyData.isList, PyData.isBool, e]
  | int i => simp [b15, PyData.isTuple, PyData.isList, PyData.isBool, PyData.isInt, PyData.isStr]
  | str z =>
    have e : opEq (.d (.str z)) (.d (.str z)) [] = some (.d (.bool true), []) := by
      show (if (dOk 60 (.str z) || dOk 60 (.str z)) = true then some (Val.d (.bool (PyData.eqv (.str z) (.str z))), ([] : Hh)) else none) = _
      rw [show dOk 60 (PyData.str z) = true from rfl]
      simp [PyData.eqv]
    simp [b15, PyData.isTuple, PyData.isList, PyData.isBool, PyData.isInt, PyData.isStr, e]
  | list ds => cases ha
  | tuple ds => cases ha
  | dict ds => cases ha
theorem all_true : ∀ n : Nat, boolsD (List.replicate n (.bool true)) = some (List.replicate n true)
  | 0 => rfl
  | n + 1 => by rw [List.replicate_succ, boolsD, all_true n]; rfl
theorem opAll_true (n : Nat) (h : Hh) : opAll [.d (.list (List.replicate n (.bool true)))] h = some (.d (.bool true), h) := by
  have e : listData (.d (.list (List.replicate n (.bool true)))) h = some (List.replicate n (.bool true)) := by
    show dsOf ((List.replicate n (PyData.bool true)).map .d) = _
    exact dsOf_map _
  unfold opAll
  simp only [e, all_true]
  simp
theorem same_ok : ∀ (m : Nat) (x : D), Sm m x → ∀ (k : Nat) (h : Hh), R (k + m + 1) 15 [.d x, .d x] h = some (.d (.bool true), h) := by
  intro m
  induction m with
  | zero => exact fun x hx k h => atom_same hx k h
  | succ m ih =>
    intro x hx k h
    have seq : ∀ ds : List D, ds.length ≤ 1000 → (∀ d ∈ ds, Sm m d) → ∀ (ix : ∀ (q : Nat) (d : D), ds[q]? = some d → opIx0 (.d x) (.d (.int q)) [] = some (.d d, [])), opLen [.d x] [] = some (.d (.int ds.length), []) →
        eLc false (iRg (aCons (eArgs opLen (aCons (eVar 0) aNil)) aNil)) [2] (.nm 2) tYs (eArgs (R (k + m + 1) 15) (aCons (eBin opIx0 (eVar 0) (eVar 2)) (aCons (eBin opIx0 (eVar 1) (eVar 2)) aNil))) [some (.d x), some (.d x), none] [] = some (.d (.list (List.replicate ds.length (.bool true))), []) := by
      intro ds hl hd ix hlen
      have hs : iRg (aCons (eArgs opLen (aCons (eVar 0) aNil)) aNil) [some (.d x), some (.d x), none] [] = some (.st ((List.range ds.length).map fun (k : Nat) => .one (.d (.int k))), []) := src_r (n := ds.length) (by simp [hlen]) (by omega)
      rw [eLc_map (f := fun _ => .bool true) hs (by rw [List.length_range]; omega) fun q hq => ⟨_, rfl, ?_⟩]
      · congr 4
        rw [List.map_const', List.length_range]
      · have hq := List.mem_range.mp hq
        have e1 : ds[q]? = some ds[q] := List.getElem?_eq_getElem hq
        have e2 := ix q _ e1
        have e3 := ih ds[q] (hd _ (List.getElem_mem hq)) k []
        simp [e2, e3]
    cases x with
    | tuple ds =>
      have l1 := seq ds hx.1 hx.2 (fun q d hq => ix_t hq) len_t
      have hb : b15 (R (k + m + 1)) (startE 3 [.d (.tuple ds), .d (.tuple ds)]) [] = some (.rt (.d (.bool true)), [some (.d (.tuple ds)), some (.d (.tuple ds)), none], []) := by
        show b15 (R (k + m + 1)) [some (.d (.tuple ds)), some (.d (.tuple ds)), none] [] = _
        unfold b15
        refine seq_rt (if_t (h1 := []) (by simp [PyData.isTuple]) (seq_rt (ret_of ?_)))
        rw [eAnd_s, bin_of (u := .d (.int ds.length)) (v := .d (.int ds.length)) (h1 := []) (h2 := []) (by simp) (by simp) eq_ii]
        simp only [decide_true, truV_b]
        exact args_of' (cons_of l1 aNil_s) (opAll_true _ _)
      have := callP_d (ds := [.tuple ds, .tuple ds]) (h := h) hb
      exact this
    | list ds =>
      have l1 := seq ds hx.1 hx.2 (fun q d hq => ix_l hq) len_l
      have hb : b15 (R (k + m + 1)) (startE 3 [.d (.list ds), .d (.list ds)]) [] = some (.rt (.d (.bool true)), [some (.d (.list ds)), some (.d (.list ds)), none], []) := by
        show b15 (R (k + m + 1)) [some (.d (.list ds)), some (.d (.list ds)), none] [] = _
        unfold b15
        refine seq_rt (if_t (h1 := []) (by simp [PyData.isTuple, PyData.isList]) (seq_rt (ret_of ?_)))
        rw [eAnd_s, bin_of (u := .d (.int ds.length)) (v := .d (.int ds.length)) (h1 := []) (h2 := []) (by simp) (by simp) eq_ii]
        simp only [decide_true, truV_b]
        exact args_of' (cons_of l1 aNil_s) (opAll_true _ _)
      have := callP_d (ds := [.list ds, .list ds]) (h := h) hb
      exact this
    | none => exact atom_same (x := .none) trivial (k + (m + 1)) h
    | bool b => exact atom_same (x := .bool b) trivial (k + (m + 1)) h
    | int i => exact atom_same (x := .int i) trivial (k + (m + 1)) h
    | str z => exact atom_same (x := .str z) trivial (k + (m + 1)) h
    | dict ds => cases hx
end K40

/-! K40n: the tape. -/
namespace K40
open PySem MP
theorem mulOk_l {i j : Int} (h : smI i = true) : mulOk i j = true := by unfold mulOk; rw [h]; rfl
theorem mulOk_r {i j : Int} (h : smI j = true) : mulOk i j = true := by unfold mulOk; rw [h, Bool.or_true]; rfl
theorem smI_of {i : Int} (h1 : 0 ≤ i) (h2 : i < 18446744073709551616) : smI i = true := by
  unfold smI
  exact Nat.ble_eq.mpr (by omega)
theorem mix_ok (k : Nat) (x : Int) (h : Hh) : ∃ y : Int, R (k + 1) 12 [.d (.int x)] h = some (.d (.int y), h) ∧ 0 ≤ y := by
  obtain ⟨z, hz⟩ : ∃ z : Int, z = (x * 6364136223846793005 + 1442695040888963407) % 18446744073709551616 := ⟨_, rfl⟩
  have z1 : 0 ≤ z := by rw [hz]; exact Int.emod_nonneg _ (by decide)
  have z2 : z < 18446744073709551616 := by rw [hz]; exact Int.emod_lt_of_pos _ (by decide)
  have sz := smI_of z1 z2
  refine ⟨(z * z / 4294967296 + z * 69621) % 18446744073709551557, ?_, Int.emod_nonneg _ (by decide)⟩
  have m1 : mulOk x 6364136223846793005 = true := mulOk_r (by decide)
  have m2 : mulOk z z = true := mulOk_l sz
  have m3 : mulOk z 69621 = true := mulOk_l sz
  have d1 : ∀ h, opMod (.d (.int (x * 6364136223846793005 + 1442695040888963407))) (.d (.int 18446744073709551616)) h = some (.d (.int z), h) := fun h => by rw [mod_pos (by decide), ← hz]
  have d2 : ∀ h, opFdiv (.d (.int (z * z))) (.d (.int 4294967296)) h = some (.d (.int (z * z / 4294967296)), h) := fun h => fdiv_pos (by decide) (by decide +kernel)
  have d3 : ∀ h, opMod (.d (.int (z * z / 4294967296 + z * 69621))) (.d (.int 18446744073709551557)) h = some (.d (.int ((z * z / 4294967296 + z * 69621) % 18446744073709551557)), h) := fun h => mod_pos (by decide)
  have hb : b12 (R k) (startE 1 [.d (.int x)]) [] = some (.rt (.d (.int ((z * z / 4294967296 + z * 69621) % 18446744073709551557))), [some (.d (.int z))], []) := by
    show b12 (R k) [some (.d (.int x))] [] = _
    simp [b12, m1, m2, m3, d1, d2, d3]
  have := callP_d (ds := [.int x]) (h := h) hb
  exact this
/-- the tape as it lies -/
def Tp (cs : List D) (a b c : Int) : Ob := .lst [.d (.list cs), .d (.int a), .d (.int b), .d (.int c)]
def Ints (cs : List D) : Prop := ∃ ns : List Int, cs = ns.map .int
theorem set_at {h : Hh} {m : Nat} {o o2 : Ob} (g : h[m]? = some o) : (h.set m o2)[m]? = some o2 := List.getElem?_set_self (List.getElem?_eq_some_iff.mp g).1
theorem set_self {h : Hh} {m : Nat} {o : Ob} (g : h[m]? = some o) : h.set m o = h := by
  apply List.ext_getElem?
  intro i
  by_cases hi : m = i
  · subst hi; rw [set_at g, g]
  · rw [List.getElem?_set_ne hi]
section
variable {h : Hh} {m : Nat} {cs : List D} {a b c : Int} (g : h[m]? = some (Tp cs a b c))
include g
theorem tp0 : opIx0 (.loc m) (.d (.int 0)) h = some (.d (.list cs), h) := ix_loc (i := 0) g rfl
theorem tp1 : opIx0 (.loc m) (.d (.int 1)) h = some (.d (.int a), h) := ix_loc (i := 1) g rfl
theorem tp2 : opIx0 (.loc m) (.d (.int 2)) h = some (.d (.int b), h) := ix_loc (i := 2) g rfl
theorem tp3 : opIx0 (.loc m) (.d (.int 3)) h = some (.d (.int c), h) := ix_loc (i := 3) g rfl
theorem st1 (x : Int) : opSet0 (.loc m) (.d (.int 1)) (.d (.int x)) h = some (h.set m (Tp cs x b c)) := by
  unfold opSet0; simp only [g, Tp]; rfl
theorem st2 (x : Int) : opSet0 (.loc m) (.d (.int 2)) (.d (.int x)) h = some (h.set m (Tp cs a x c)) := by
  unfold opSet0; simp only [g, Tp]; rfl
theorem st3 (x : Int) : opSet0 (.loc m) (.d (.int 3)) (.d (.int x)) h = some (h.set m (Tp cs a b x)) := by
  unfold opSet0; simp only [g, Tp]; rfl
end
theorem sub_of {st : Op3} {fa fb fc : Exp} {e : Ev} {h h1 h2 h3 h4 : Hh} {v x y : Val} (q1 : fa e h = some (v, h1)) (q2 : fb e h1 = some (x, h2)) (q3 : fc e h2 = some (y, h3)) (q4 : st x y v h3 = some h4) : sSub st fa fb fc e h = some (.nx, e, h4) := by
  rw [sSub_s, q1]; simp only; rw [q2]; simp only; rw [q3]; simp only; rw [q4]
abbrev tkE (m : Nat) (many : Int) (x y : Option Val) : Ev := [some (.loc m), some (.d (.int many)), x, y]
/-- a cell is taken from the tape -/
abbrev refill (F : FE) : Stm := (sSeq (sIf (tCmpr (eBin opLt (eBin opIx0 (eVar 0) (eD (.int 1))) (eArgs opLen (aCons (eBin opIx0 (eVar 0) (eD (.int 0))) aNil))))
   (sSeq (sAsg (eBin opIx0 (eBin opIx0 (eVar 0) (eD (.int 0))) (eBin opIx0 (eVar 0) (eD (.int 1)))) (.nm 3))
   (sSeq (sAsg (eIf (tCmpr (eBin opGe (eVar 3) (eD (.int 0)))) (eBin (opMul false) (eD (.int 2)) (eVar 3)) (eBin opSub (eBin (opMul false) (eUn opNeg (eD (.int 2))) (eVar 3)) (eD (.int 1)))) (.nm 3))
   (sSeq (sSub opSet0 (eBin (opAdd false) (eBin opIx0 (eVar 0) (eD (.int 1))) (eD (.int 1))) (eVar 0) (eD (.int 1)))
   (sSeq (sSub opSet0 (eArgs (F 12) (aCons (eBin (opAdd false) (eBin opIx0 (eVar 0) (eD (.int 3))) (eVar 3)) aNil)) (eVar 0) (eD (.int 3)))
   (sSeq (sSub opSet0 (eIf (tCmpr (eBin opGe (eVar 3) (eBin opPow (eD (.int 10)) (eD (.int 18))))) (eVar 3) (eArgs (F 12) (aCons (eBin (opAdd false) (eArgs (F 12) (aCons (eVar 3) aNil)) (eBin opIx0 (eVar 0) (eD (.int 1)))) aNil))) (eVar 0) (eD (.int 2)))
   sNil)))))
   (sSeq (sSub opSet0 (eArgs (F 12) (aCons (eBin (opAdd false) (eBin opIx0 (eVar 0) (eD (.int 3))) (eD (.int 1))) aNil)) (eVar 0) (eD (.int 3)))
   (sSeq (sSub opSet0 (eBin opIx0 (eVar 0) (eD (.int 3))) (eVar 0) (eD (.int 2)))
   sNil)))
  sNil)
theorem refill_ok {h : Hh} {m : Nat} {cs : List D} {a b c many : Int} {x y : Option Val} (g : h[m]? = some (Tp cs a b c)) (hi : Ints cs) (ha : 0 ≤ a) (k : Nat) :
    ∃ a' b' c' y', refill (R (k + 1)) (tkE m many x y) h = some (.nx, tkE m many x y', h.set m (Tp cs a' b' c')) ∧ 0 ≤ a' := by
  have tl : tCmpr (eBin opLt (eBin opIx0 (eVar 0) (eD (.int 1))) (eArgs opLen (aCons (eBin opIx0 (eVar 0) (eD (.int 0))) aNil))) (tkE m many x y) h = some (decide (a < (cs.length : Int)), h) := by
    simp [tkE, tp1 g, tp0 g]
  by_cases hlt : a < (cs.length : Int)
  · obtain ⟨ns, rfl⟩ := hi
    rw [List.length_map] at hlt
    obtain ⟨q, rfl⟩ : ∃ q : Nat, a = (q : Int) := ⟨a.toNat, by omega⟩
    have hq : q < ns.length := by omega
    have e1 : (ns.map PyData.int)[q]? = some (.int ns[q]) := by rw [List.getElem?_map, List.getElem?_eq_getElem hq]; rfl
    obtain ⟨cell, hcell⟩ : ∃ cell : Int, cell = if 0 ≤ ns[q] then 2 * ns[q] else -2 * ns[q] - 1 := ⟨_, rfl⟩
    have s1 : (sAsg (eBin opIx0 (eBin opIx0 (eVar 0) (eD (.int 0))) (eBin opIx0 (eVar 0) (eD (.int 1)))) (.nm 3)) (tkE m many x y) h = some (.nx, tkE m many x (some (.d (.int ns[q]))), h) := by
      have e2 : ∀ h, opIx0 (.d (.list (ns.map PyData.int))) (.d (.int q)) h = some (.d (.int ns[q]), h) := fun h => ix_l e1
      simp [tkE, tp0 g, tp1 g, e2]
    have s2 : (sAsg (eIf (tCmpr (eBin opGe (eVar 3) (eD (.int 0)))) (eBin (opMul false) (eD (.int 2)) (eVar 3)) (eBin opSub (eBin (opMul false) (eUn opNeg (eD (.int 2))) (eVar 3)) (eD (.int 1)))) (.nm 3)) (tkE m many x (some (.d (.int ns[q])))) h = some (.nx, tkE m many x (some (.d (.int cell))), h) := by
      have m1 : mulOk 2 ns[q] = true := mulOk_l (by decide)
      have m2 : mulOk (-2) ns[q] = true := mulOk_l (by decide)
      by_cases h0 : 0 ≤ ns[q]
      · rw [hcell, if_pos h0]; simp [tkE, h0, m1]
      · rw [hcell, if_neg h0]; simp [tkE, h0, m2]
    have g1 := set_at (o2 := Tp (ns.map PyData.int) ((q : Int) + 1) b c) g
    have s3 : (sSub opSet0 (eBin (opAdd false) (eBin opIx0 (eVar 0) (eD (.int 1))) (eD (.int 1))) (eVar 0) (eD (.int 1))) (tkE m many x (some (.d (.int cell)))) h = some (.nx, tkE m many x (some (.d (.int cell))), h.set m (Tp (ns.map PyData.int) ((q : Int) + 1) b c)) := by
      simp [tkE, tp1 g, st1 g]
    obtain ⟨c2, hm1, _⟩ := mix_ok k (c + cell) (h.set m (Tp (ns.map PyData.int) ((q : Int) + 1) b c))
    have g2 := set_at (o2 := Tp (ns.map PyData.int) ((q : Int) + 1) b c2) g1
    have s4 : (sSub opSet0 (eArgs (R (k + 1) 12) (aCons (eBin (opAdd false) (eBin opIx0 (eVar 0) (eD (.int 3))) (eVar 3)) aNil)) (eVar 0) (eD (.int 3))) (tkE m many x (some (.d (.int cell)))) (h.set m (Tp (ns.map PyData.int) ((q : Int) + 1) b c)) = some (.nx, tkE m many x (some (.d (.int cell))), h.set m (Tp (ns.map PyData.int) ((q : Int) + 1) b c2)) := by
      simp [tkE, tp3 g1, hm1, st3 g1]
    rw [List.set_set] at g2
    obtain ⟨y1, hm2, _⟩ := mix_ok k cell (h.set m (Tp (ns.map PyData.int) ((q : Int) + 1) b c2))
    obtain ⟨y2, hm3, _⟩ := mix_ok k (y1 + ((q : Int) + 1)) (h.set m (Tp (ns.map PyData.int) ((q : Int) + 1) b c2))
    have pw : ∀ h, opPow (.d (.int 10)) (.d (.int 18)) h = some (.d (.int (10 ^ 18)), h) := fun h => rfl
    have s5 : ∃ b2, (sSub opSet0 (eIf (tCmpr (eBin opGe (eVar 3) (eBin opPow (eD (.int 10)) (eD (.int 18))))) (eVar 3) (eArgs (R (k + 1) 12) (aCons (eBin (opAdd false) (eArgs (R (k + 1) 12) (aCons (eVar 3) aNil)) (eBin opIx0 (eVar 0) (eD (.int 1)))) aNil))) (eVar 0) (eD (.int 2))) (tkE m many x (some (.d (.int cell)))) (h.set m (Tp (ns.map PyData.int) ((q : Int) + 1) b c2)) = some (.nx, tkE m many x (some (.d (.int cell))), h.set m (Tp (ns.map PyData.int) ((q : Int) + 1) b2 c2)) := by
      obtain ⟨hh, hhe⟩ : ∃ hh, hh = h.set m (Tp (ns.map PyData.int) ((q : Int) + 1) b c2) := ⟨_, rfl⟩
      rw [← hhe] at g2 hm2 hm3 ⊢
      have q1 : eBin opGe (eVar 3) (eBin opPow (eD (.int 10)) (eD (.int 18))) (tkE m many x (some (.d (.int cell)))) hh = some (.d (.bool (decide (10 ^ 18 ≤ cell))), hh) :=
        bin_of (u := .d (.int cell)) (h1 := hh) (v := .d (.int (10 ^ 18))) (h2 := hh) rfl (bin_of (u := .d (.int 10)) (h1 := hh) (v := .d (.int 18)) (h2 := hh) rfl rfl (pw hh)) ge_ii
      have t18 : tCmpr (eBin opGe (eVar 3) (eBin opPow (eD (.int 10)) (eD (.int 18)))) (tkE m many x (some (.d (.int cell)))) hh = some (decide (10 ^ 18 ≤ cell), hh) := by
        rw [tCmpr_s, q1]
      by_cases h18 : (10 ^ 18 : Int) ≤ cell
      · refine ⟨cell, sub_of (v := .d (.int cell)) (h1 := hh) (h2 := hh) (h3 := hh) (x := .loc m) (y := .d (.int 2)) ?_ rfl rfl (by rw [st2 g2, hhe, List.set_set])⟩
        rw [eIf_s, t18, decide_eq_true h18]
        rfl
      · refine ⟨y2, sub_of (v := .d (.int y2)) (h1 := hh) (h2 := hh) (h3 := hh) (x := .loc m) (y := .d (.int 2)) ?_ rfl rfl (by rw [st2 g2, hhe, List.set_set])⟩
        rw [eIf_s, t18, decide_eq_false h18]
        have q2 : eArgs (R (k + 1) 12) (aCons (eBin (opAdd false) (eArgs (R (k + 1) 12) (aCons (eVar 3) aNil)) (eBin opIx0 (eVar 0) (eD (.int 1)))) aNil) (tkE m many x (some (.d (.int cell)))) hh = some (.d (.int y2), hh) := by
          simp [tkE, hm2, tp1 g2, hm3]
        exact q2
    obtain ⟨b2, s5⟩ := s5
    exact ⟨_, b2, c2, _, seq_one (if_t (tl.trans (by rw [decide_eq_true (by rw [List.length_map]; omega)])) (seq_nx s1 (seq_nx s2 (seq_nx s3 (seq_nx s4 (seq_one s5)))))), by omega⟩
  · obtain ⟨c2, hm1, _⟩ := mix_ok k (c + 1) h
    have g1 := set_at (o2 := Tp cs a b c2) g
    have s1 : (sSub opSet0 (eArgs (R (k + 1) 12) (aCons (eBin (opAdd false) (eBin opIx0 (eVar 0) (eD (.int 3))) (eD (.int 1))) aNil)) (eVar 0) (eD (.int 3))) (tkE m many x y) h = some (.nx, tkE m many x y, h.set m (Tp cs a b c2)) := by
      simp [tkE, tp3 g, hm1, st3 g]
    have s2 : (sSub opSet0 (eBin opIx0 (eVar 0) (eD (.int 3))) (eVar 0) (eD (.int 2))) (tkE m many x y) (h.set m (Tp cs a b c2)) = some (.nx, tkE m many x y, h.set m (Tp cs a c2 c2)) := by
      simp [tkE, tp3 g1, st2 g1]
    exact ⟨a, c2, c2, _, seq_one (if_f (tl.trans (by rw [decide_eq_false hlt])) (seq_nx s1 (seq_one s2))), ha⟩
theorem callS_of {N : Nat} {body : Stm} {vs : List Val} {h h2 : Hh} {v : Val} {e2 : Ev} (hb : body (startE N vs) h = some (.rt v, e2, h2)) : callS N body vs h = some (v, h2) := by
  unfold callS
  simp only [hb]
/-- a draw: a digit below many; the tape goes on -/
theorem take_ok {h : Hh} {m : Nat} {cs : List D} {a b c many : Int} (g : h[m]? = some (Tp cs a b c)) (hi : Ints cs) (ha : 0 ≤ a) (hm : 0 < many) (hM : many ≤ 1000000) (k : Nat) :
    ∃ d a' b' c', R (k + 2) 14 [.loc m, .d (.int many)] h = some (.d (.int d), h.set m (Tp cs a' b' c')) ∧ 0 ≤ d ∧ d < many ∧ 0 ≤ a' := by
  have hl : Nat.blt many.natAbs.log2 9000 = true := by
    have h1 : many.natAbs.log2 ≤ many.natAbs := by
      by_cases hz : many.natAbs = 0
      · rw [hz]; decide
      · exact Nat.le_of_lt (Nat.lt_of_lt_of_le (Nat.lt_two_pow_self) (Nat.log2_self_le hz))
    have h2 : many.natAbs < 2 ^ 20 := by omega
    have h3 : many.natAbs.log2 < 20 := (Nat.log2_lt (by omega)).mpr h2
    exact Nat.ble_eq.mpr (by omega)
  have tl : tCmpr (eBin opLt (eBin opIx0 (eVar 0) (eD (.int 2))) (eVar 1)) (tkE m many none none) h = some (decide (b < many), h) := by
    simp [tkE, tp2 g]
  -- the first part
  obtain ⟨a1, b1, c1, y1, s1, ha1⟩ : ∃ a' b' c' y', (sIf (tCmpr (eBin opLt (eBin opIx0 (eVar 0) (eD (.int 2))) (eVar 1))) (refill (R (k + 1))) sNil) (tkE m many none none) h = some (.nx, tkE m many none y', h.set m (Tp cs a' b' c')) ∧ 0 ≤ a' := by
    by_cases hb : b < many
    · obtain ⟨a', b', c', y', hr, h0⟩ := refill_ok (many := many) (x := none) (y := none) g hi ha k
      exact ⟨a', b', c', y', if_t (tl.trans (by rw [decide_eq_true hb])) hr, h0⟩
    · exact ⟨a, b, c, none, if_f (tl.trans (by rw [decide_eq_false hb])) (by rw [set_self g]; rfl), ha⟩
  have g1 := set_at (o2 := Tp cs a1 b1 c1) g
  obtain ⟨hh, hhe⟩ : ∃ hh, hh = h.set m (Tp cs a1 b1 c1) := ⟨_, rfl⟩
  rw [← hhe] at g1 s1
  have s2 : (sAsg (eBin opMod (eArgs opInt (aCons (eBin opIx0 (eVar 0) (eD (.int 2))) aNil)) (eVar 1)) (.nm 2)) (tkE m many none y1) hh = some (.nx, tkE m many (some (.d (.int (b1 % many)))) y1, hh) := by
    have e1 : ∀ h, opMod (.d (.int b1)) (.d (.int many)) h = some (.d (.int (b1 % many)), h) := fun h => mod_pos hm
    simp [tkE, tp2 g1, e1]
  have s3 : (sSub opSet0 (eBin opFdiv (eBin opIx0 (eVar 0) (eD (.int 2))) (eVar 1)) (eVar 0) (eD (.int 2))) (tkE m many (some (.d (.int (b1 % many)))) y1) hh = some (.nx, tkE m many (some (.d (.int (b1 % many)))) y1, hh.set m (Tp cs a1 (b1 / many) c1)) := by
    have e1 : ∀ h, opFdiv (.d (.int b1)) (.d (.int many)) h = some (.d (.int (b1 / many)), h) := fun h => fdiv_pos hm hl
    simp [tkE, tp2 g1, e1, st2 g1]
  have hb : b14 (R (k + 1)) (startE 4 [.loc m, .d (.int many)]) h = some (.rt (.d (.int (b1 % many))), tkE m many (some (.d (.int (b1 % many)))) y1, hh.set m (Tp cs a1 (b1 / many) c1)) := by
    show b14 (R (k + 1)) (tkE m many none none) h = _
    unfold b14
    exact seq_nx s1 (seq_nx s2 (seq_nx s3 (seq_rt (ret_of rfl))))
  rw [hhe, List.set_set] at hb
  have := callS_of hb
  exact ⟨b1 % many, a1, b1 / many, c1, this, Int.emod_nonneg _ (by omega), Int.emod_lt_of_pos _ hm, ha1⟩
/-- the tape is laid -/
theorem tape_ok (ns : List Int) (k : Nat) (h : Hh) : ∃ cs c, R (k + 1) 13 [.scr ns] h = some (.loc h.length, h ++ [Tp cs 0 0 c]) ∧ Ints cs := by
  have e1 : opSl false (.scr ns) none (some 80) h = some (.d (.list ((ns.take 80).map .int)), h) := by
    show mkL false (cutG (ns.map fun n => Val.d (.int n)) none (some ((80 : Nat) : Int))) h = _
    rw [cut_to, ← List.map_take, show ((ns.take 80).map fun n => Val.d (.int n)) = ((ns.take 80).map PyData.int).map .d by rw [List.map_map]; rfl, mkL_map]
  have e2 : opLen [.scr ns] h = some (.d (.int ns.length), h) := by
    show some (Val.d (.int (ns.map fun n => Val.d (.int n)).length), h) = _
    rw [List.length_map]
  refine ⟨(ns.take 80).map .int, 1 + ns.length, ?_, _, rfl⟩
  have hb : b13 (R k) (startE 1 [.scr ns]) h = some (.rt (.loc h.length), [some (.scr ns)], h ++ [Tp ((ns.take 80).map .int) 0 0 (1 + ns.length)]) := by
    show b13 (R k) [some (.scr ns)] h = _
    unfold b13
    refine seq_rt (ret_of ?_)
    have l1 : eArgs (opList false) (aCons (eSl false (eVar 0) oNone (oSome (eD (.int 80)))) aNil) [some (.scr ns)] h = some (.d (.list ((ns.take 80).map .int)), h) :=
      args_of' (cons_of (u := .d (.list ((ns.take 80).map .int))) (h1 := h) (by rw [eSl_s]; exact e1) aNil_s) list_l
    have l2 : eBin (opAdd false) (eD (.int 1)) (eArgs opLen (aCons (eVar 0) aNil)) [some (.scr ns)] h = some (.d (.int (1 + ns.length)), h) :=
      bin_of (u := .d (.int 1)) (h1 := h) rfl (args_of' (us := [.scr ns]) (h1 := h) rfl e2) add_ii
    rw [eLst_s, cons_of l1 (cons_of (u := .d (.int 0)) (h1 := h) rfl (cons_of (u := .d (.int 0)) (h1 := h) rfl (cons_of l2 aNil_s)))]
    rfl
  exact callS_of hb
end K40

/-! K40o: what is taken as a refusal. -/
namespace K40
open PySem MP
def nI : D → Nat
  | .int a => a.toNat
  | _ => 0
def isB (n : Nat) (x : D) : Bool := isNum x 0 ((n : Int) - 1)
theorem isB_ok {n : Nat} {x : D} (h : isB n x = true) : ∃ a : Nat, x = .int a ∧ a < n ∧ nI x = a := by
  unfold isB isNum at h
  split at h
  · rename_i z
    simp only [Bool.and_eq_true, decide_eq_true_eq] at h
    refine ⟨z.toNat, ?_, by omega, rfl⟩
    congr 1
    omega
  · cases h
def wayB (n : Nat) (t : Tb) (i j p : Nat) (x y : D) : Bool := isB n x && isB n y && (decide (nI x = i) || decide (nI y = j)) && isP t (nI x) (nI y) p
theorem opAll_two (a b : Bool) (h : Hh) : opAll [.d (.list [.bool a, .bool b])] h = some (.d (.bool (a && b)), h) := by cases a <;> cases b <;> rfl
theorem len_tD {n : Nat} {t : Tb} (w : Wf n t) (h : Hh) : opLen [.d (tD t)] h = some (.d (.int n), h) := by simp [tD, w.len]
theorem wayB_ok {n : Nat} {t : Tb} (w : Wf n t) {i j p : Nat} (x y : D) (k : Nat) (h : Hh) : R (k + 2) 7 [.d (tD t), .d (.int i), .d (.int j), .d (.int p), .d (.tuple [x, y])] h = some (.d (.bool (wayB n t i j p x y)), h) := by
  obtain ⟨ev, hev⟩ : ∃ ev : Ev, ev = [some (.d (tD t)), some (.d (.int i)), some (.d (.int j)), some (.d (.int p)), some (.d (.tuple [x, y])), none] := ⟨_, rfl⟩
  have lt := len_tD w
  have hs : iAny (eVar 4) ev [] = some (.st ([x, y].map fun z => .one (.d z)), []) := by rw [hev]; exact src_t rfl
  have l1 : eLc false (iAny (eVar 4)) [5] (.nm 5) tYs (eArgs (R (k + 1) 0) (aCons (eVar 5) (aCons (eD (.int 0)) (aCons (eBin opSub (eArgs opLen (aCons (eVar 0) aNil)) (eD (.int 1))) aNil)))) ev [] = some (.d (.list [.bool (isB n x), .bool (isB n y)]), []) := by
    rw [eLc_map (f := fun z => .bool (isB n z)) hs (by simp) fun z hz => ⟨_, rfl, ?_⟩]
    · rfl
    · have e := num_ok k z 0 ((n : Int) - 1) []
      rw [hev]
      simp [lt, e, isB]
  have ta : eArgs opAll (aCons (eLc false (iAny (eVar 4)) [5] (.nm 5) tYs (eArgs (R (k + 1) 0) (aCons (eVar 5) (aCons (eD (.int 0)) (aCons (eBin opSub (eArgs opLen (aCons (eVar 0) aNil)) (eD (.int 1))) aNil))))) aNil) ev [] = some (.d (.bool (isB n x && isB n y)), []) := args_of' (cons_of l1 aNil_s) (opAll_two _ _ _)
  have t1 : (tOr2 (tNot2 (tVal (eUn (opIsi PyData.isTuple) (eVar 4)))) (tOr2 (tCmpr (eBin opNe (eArgs opLen (aCons (eVar 4) aNil)) (eD (.int 2)))) (tNot2 (tVal (eArgs opAll (aCons (eLc false (iAny (eVar 4)) [5] (.nm 5) tYs (eArgs (R (k + 1) 0) (aCons (eVar 5) (aCons (eD (.int 0)) (aCons (eBin opSub (eArgs opLen (aCons (eVar 0) aNil)) (eD (.int 1))) aNil))))) aNil)))))) ev [] = some (!(isB n x && isB n y), []) := by
    have u1 : eVar 4 ev [] = some (.d (.tuple [x, y]), []) := by rw [hev]; rfl
    have i1 : PyData.isTuple (.tuple [x, y]) = true := rfl
    have ln : ∀ h, opLen [.d (.tuple [x, y])] h = some (.d (.int 2), h) := fun h => rfl
    rw [tOr2_s, tNot2_s, tVal_s, eUn_s, u1]
    simp only [isi_d, truV_b, i1, Bool.not_true]
    rw [tOr2_s, tCmpr_s, eBin_s, eArgs_s, aCons_s, u1]
    simp only [aNil_s, ln, eD_s, ne_ii, decide_true, Bool.not_true]
    rw [tNot2_s, tVal_s, ta]
    simp only [truV_b]
  have hb : ∃ e2, b7 (R (k + 1)) (startE 6 [.d (tD t), .d (.int i), .d (.int j), .d (.int p), .d (.tuple [x, y])]) [] = some (.rt (.d (.bool (wayB n t i j p x y))), e2, []) := by
    refine ⟨ev, ?_⟩
    show b7 (R (k + 1)) [some (.d (tD t)), some (.d (.int i)), some (.d (.int j)), some (.d (.int p)), some (.d (.tuple [x, y])), none] [] = _
    rw [← hev]
    unfold b7
    cases hB : (isB n x && isB n y) with
    | false =>
      have : wayB n t i j p x y = false := by unfold wayB; rw [hB]; rfl
      rw [this]
      exact seq_rt (if_t (t1.trans (by rw [hB]; rfl)) (seq_rt (ret_of rfl)))
    | true =>
      rw [Bool.and_eq_true] at hB
      obtain ⟨a, rfl, ha, na⟩ := isB_ok hB.1
      obtain ⟨b, rfl, hb, nb⟩ := isB_ok hB.2
      refine seq_nx (if_f (h1 := []) (t1.trans (by rw [hB.1, hB.2]; rfl)) rfl) (seq_rt (ret_of ?_))
      have v0 : ∀ h, opIx0 (.d (.tuple [.int a, .int b])) (.d (.int 0)) h = some (.d (.int a), h) := fun h => ix_t (i := 0) rfl
      have v1 : ∀ h, opIx0 (.d (.tuple [.int a, .int b])) (.d (.int 1)) h = some (.d (.int b), h) := fun h => ix_t (i := 1) rfl
      have e0 := ix_row w ha
      have e1 := cell_ix w ha hb
      have hw : wayB n t i j p (.int a) (.int b) = ((decide ((a : Int) = (i : Int)) || decide ((b : Int) = (j : Int))) && isP t a b p) := by
        unfold wayB
        rw [hB.1, hB.2, na, nb]
        simp only [Bool.true_and]
        congr 2
        · rw [decide_eq_decide]; omega
        · rw [decide_eq_decide]; omega
      rw [hw]
      have qA : eBin opEq (eBin opIx0 (eVar 4) (eD (.int 0))) (eVar 1) ev [] = some (.d (.bool (decide ((a : Int) = (i : Int)))), []) := by rw [hev]; simp [v0]
      have qB : eBin opEq (eBin opIx0 (eVar 4) (eD (.int 1))) (eVar 2) ev [] = some (.d (.bool (decide ((b : Int) = (j : Int)))), []) := by rw [hev]; simp [v1]
      have qC : eBin opEq (eBin opIx0 (eBin opIx0 (eVar 0) (eBin opIx0 (eVar 4) (eD (.int 0)))) (eBin opIx0 (eVar 4) (eD (.int 1)))) (eVar 3) ev [] = some (.d (.bool (isP t a b p)), []) := by rw [hev]; simp [v0, v1, e0, e1, eq_di, isP]
      rw [eAnd_s, eOr_s, qA]
      cases decide ((a : Int) = (i : Int)) with
      | true => simp only [truV_b, Bool.true_or, Bool.true_and]; rw [qC]
      | false =>
        simp only [truV_b]
        rw [qB]
        cases decide ((b : Int) = (j : Int)) with
        | true => simp only [truV_b, Bool.or_true, Bool.true_and]; rw [qC]
        | false => simp only [truV_b, Bool.or_self, Bool.false_and]
  obtain ⟨e2, hb⟩ := hb
  have := callP_d (ds := [tD t, .int i, .int j, .int p, .tuple [x, y]]) (h := h) hb
  exact this
end K40

/-! K40p: the program's look at refusals. -/
namespace K40
open PySem MP
def partB (n : Nat) (acc : Tb → D → Bool) (t : Tb) (i j : Nat) (one : D) (p : Nat) : Bool := match one with
  | .tuple [x, y] => wayB n t i j p x y
  | .tuple os => freeP t i j p && acc (setC t i j (.int p)) (.tuple os)
  | _ => false
def accF (n : Nat) : Nat → Tb → D → Bool
  | 0, _, _ => false
  | g + 1, t, v => match v with
    | .tuple [x, y, .tuple ps] => isB n x && isB n y && cellN t (nI x) (nI y) && decide (ps.length = n) && ps.zipIdx.all fun q => partB n (accF n g) t (nI x) (nI y) q.1 q.2
    | _ => false
abbrev rE (t : Tb) (v : D) (i j : Nat) (ps : List D) (x y : Option Val) : Ev := [some (.d (tD t)), some (.d v), some (.d (.int i)), some (.d (.int j)), some (.d (.tuple ps)), x, y]
abbrev rBody (F : FE) : Stm := (sSeq (sIf (tNot2 (tVal (eUn (opIsi PyData.isTuple) (eVar 6))))
   (sSeq (sRet (eD (.bool false)))
   sNil)
   sNil)
  (sSeq (sIf (tCmpr (eBin opEq (eArgs opLen (aCons (eVar 6) aNil)) (eD (.int 2))))
   (sSeq (sIf (tNot2 (tVal (eArgs (F 7) (aCons (eVar 0) (aCons (eVar 2) (aCons (eVar 3) (aCons (eVar 5) (aCons (eVar 6) aNil))))))))
    (sSeq (sRet (eD (.bool false)))
    sNil)
    sNil)
   sNil)
   (sSeq (sIf (tOr2 (tCmpr (eBin opNotIn0 (eVar 5) (eArgs (F 1) (aCons (eVar 0) (aCons (eVar 2) (aCons (eVar 3) aNil)))))) (tNot2 (tVal (eArgs (F 8) (aCons (eArgs (F 2) (aCons (eVar 0) (aCons (eVar 2) (aCons (eVar 3) (aCons (eVar 5) aNil))))) (aCons (eVar 6) aNil))))))
    (sSeq (sRet (eD (.bool false)))
    sNil)
    sNil)
   sNil))
  sNil))
/-- one part -/
theorem part_turn {n g k : Nat} {t : Tb} {v : D} {i j p : Nat} {ps : List D} {one : D} (w : Wf n t) (hi : i < n) (hj : j < n) (hp : p < n) (hg : gapN t ≤ g + 1) (hc : cellN t i j = true)
    (ih : ∀ (t : Tb) (v : D), Wf n t → gapN t ≤ g → ∀ h, R (k + 3) 8 [.d (tD t), .d v] h = some (.d (.bool (accF n g t v)), h)) :
    (partB n (accF n g) t i j one p = true ∧ rBody (R (k + 3)) (rE t v i j ps (some (.d (.int p))) (some (.d one))) [] = some (.nx, rE t v i j ps (some (.d (.int p))) (some (.d one)), [])) ∨
    (partB n (accF n g) t i j one p = false ∧ rBody (R (k + 3)) (rE t v i j ps (some (.d (.int p))) (some (.d one))) [] = some (.rt (.d (.bool false)), rE t v i j ps (some (.d (.int p))) (some (.d one)), [])) := by
  have notT : PyData.isTuple one = false → rBody (R (k + 3)) (rE t v i j ps (some (.d (.int p))) (some (.d one))) [] = some (.rt (.d (.bool false)), rE t v i j ps (some (.d (.int p))) (some (.d one)), []) := by
    intro h1
    exact seq_rt (if_t (h1 := []) (by simp [rE, h1]) (seq_rt (ret_of rfl)))
  cases one with
  | tuple os =>
    have first : ∀ {r}, (sSeq (sIf (tCmpr (eBin opEq (eArgs opLen (aCons (eVar 6) aNil)) (eD (.int 2))))
   (sSeq (sIf (tNot2 (tVal (eArgs (R (k + 3) 7) (aCons (eVar 0) (aCons (eVar 2) (aCons (eVar 3) (aCons (eVar 5) (aCons (eVar 6) aNil))))))))
    (sSeq (sRet (eD (.bool false)))
    sNil)
    sNil)
   sNil)
   (sSeq (sIf (tOr2 (tCmpr (eBin opNotIn0 (eVar 5) (eArgs (R (k + 3) 1) (aCons (eVar 0) (aCons (eVar 2) (aCons (eVar 3) aNil)))))) (tNot2 (tVal (eArgs (R (k + 3) 8) (aCons (eArgs (R (k + 3) 2) (aCons (eVar 0) (aCons (eVar 2) (aCons (eVar 3) (aCons (eVar 5) aNil))))) (aCons (eVar 6) aNil))))))
    (sSeq (sRet (eD (.bool false)))
    sNil)
    sNil)
   sNil))
  sNil) (rE t v i j ps (some (.d (.int p))) (some (.d (.tuple os)))) [] = r → rBody (R (k + 3)) (rE t v i j ps (some (.d (.int p))) (some (.d (.tuple os)))) [] = r := fun q =>
      seq_nx (if_f (h1 := []) (by simp [rE, PyData.isTuple]) rfl) q
    have hl : tCmpr (eBin opEq (eArgs opLen (aCons (eVar 6) aNil)) (eD (.int 2))) (rE t v i j ps (some (.d (.int p))) (some (.d (.tuple os)))) [] = some (decide ((os.length : Int) = 2), []) := by
      simp [rE]
    by_cases h2 : os.length = 2
    · match os, h2 with
      | [x, y], _ =>
        have e := wayB_ok w (i := i) (j := j) (p := p) x y (k + 1) []
        have tq : tNot2 (tVal (eArgs (R (k + 3) 7) (aCons (eVar 0) (aCons (eVar 2) (aCons (eVar 3) (aCons (eVar 5) (aCons (eVar 6) aNil))))))) (rE t v i j ps (some (.d (.int p))) (some (.d (.tuple [x, y])))) [] = some (!(wayB n t i j p x y), []) := by
          simp [rE, e]
        cases hW : wayB n t i j p x y with
        | true =>
          refine .inl ⟨hW, first (seq_one (if_t (hl.trans rfl) (seq_one (if_f (tq.trans (by rw [hW]; rfl)) rfl))))⟩
        | false =>
          refine .inr ⟨hW, first (seq_rt (if_t (hl.trans rfl) (seq_rt (if_t (tq.trans (by rw [hW]; rfl)) (seq_rt (ret_of rfl))))))⟩
    · have hp2 : partB n (accF n g) t i j (.tuple os) p = (freeP t i j p && accF n g (setC t i j (.int p)) (.tuple os)) := by
        unfold partB
        split
        · rename_i x y e; cases e; exact (h2 rfl).elim
        · rename_i e; cases e; rfl
        · rename_i e; exact (e _ rfl).elim
      have e1 := can_ok w hi hj (k + 2)
      have e2 : ∀ h, opNotIn0 (.d (.int p)) (.d (partsD t i j)) h = some (.d (.bool (!freeP t i j p)), h) := fun h => notIn_of (in_parts w hp h)
      have tf : tCmpr (eBin opNotIn0 (eVar 5) (eArgs (R (k + 3) 1) (aCons (eVar 0) (aCons (eVar 2) (aCons (eVar 3) aNil))))) (rE t v i j ps (some (.d (.int p))) (some (.d (.tuple os)))) [] = some (!freeP t i j p, []) := by
        simp [rE, e1, e2]
      have hl2 := hl.trans (by rw [decide_eq_false (by omega)])
      cases hF : freeP t i j p with
      | false =>
        refine .inr ⟨by rw [hp2, hF]; rfl, first (seq_rt (if_f hl2 (seq_rt (if_t (h1 := []) ?_ (seq_rt (ret_of rfl))))))⟩
        rw [tOr2_s, tf, hF]
        rfl
      | true =>
        have hk : gapN (setC t i j (.int p)) + 1 = gapN t := by
          obtain ⟨x, c1, c2⟩ := cell_at w hi hj
          exact gapN_set (row_at w hi).1 c1 (by rw [← c2]; exact hc) rfl
        have e3 := with_ok w hi hj (.int p) (k + 2)
        have e4 := ih (setC t i j (.int p)) (.tuple os) (setC_wf w hi _) (by omega)
        have tq : tOr2 (tCmpr (eBin opNotIn0 (eVar 5) (eArgs (R (k + 3) 1) (aCons (eVar 0) (aCons (eVar 2) (aCons (eVar 3) aNil)))))) (tNot2 (tVal (eArgs (R (k + 3) 8) (aCons (eArgs (R (k + 3) 2) (aCons (eVar 0) (aCons (eVar 2) (aCons (eVar 3) (aCons (eVar 5) aNil))))) (aCons (eVar 6) aNil))))) (rE t v i j ps (some (.d (.int p))) (some (.d (.tuple os)))) [] = some (!(accF n g (setC t i j (.int p)) (.tuple os)), []) := by
          rw [tOr2_s, tf, hF]
          simp [rE, e3, e4]
        cases hA : accF n g (setC t i j (.int p)) (.tuple os) with
        | true => exact .inl ⟨by rw [hp2, hF, hA]; rfl, first (seq_one (if_f hl2 (seq_one (if_f (tq.trans (by rw [hA]; rfl)) rfl))))⟩
        | false => exact .inr ⟨by rw [hp2, hF, hA]; rfl, first (seq_rt (if_f hl2 (seq_rt (if_t (tq.trans (by rw [hA]; rfl)) (seq_rt (ret_of rfl))))))⟩
  | none => exact .inr ⟨rfl, notT rfl⟩
  | bool b => exact .inr ⟨rfl, notT rfl⟩
  | int b => exact .inr ⟨rfl, notT rfl⟩
  | str b => exact .inr ⟨rfl, notT rfl⟩
  | list b => exact .inr ⟨rfl, notT rfl⟩
  | dict b => exact .inr ⟨rfl, notT rfl⟩
end K40

/-! K40q: is_table_refusal. -/
namespace K40
open PySem MP
theorem accF_shape {n g : Nat} {t : Tb} {v : D} (h : ∀ x y ps, v ≠ .tuple [x, y, .tuple ps]) : accF n g t v = false := by
  cases g with
  | zero => rfl
  | succ g =>
    unfold accF
    split
    · rename_i x y ps; exact (h x y ps rfl).elim
    · rfl
theorem accF_cut {n g : Nat} {t : Tb} {x y : D} {ps : List D} (h : (isB n x && isB n y && cellN t (nI x) (nI y) && decide (ps.length = n)) = false) : accF n g t (.tuple [x, y, .tuple ps]) = false := by
  cases g with
  | zero => rfl
  | succ g => unfold accF; simp only; rw [h]; rfl
theorem gap_zero {n : Nat} {t : Tb} (w : Wf n t) (hg : gapN t ≤ 0) {i j : Nat} (hi : i < n) (hj : j < n) : cellN t i j = false := by
  obtain ⟨x, c1, c2⟩ := cell_at w hi hj
  rw [c2]
  exact gapT_none (gap0 ⟨w, hg⟩) (row_at w hi).1 c1
abbrev rT1 (F : FE) : Tst := (tOr2 (tNot2 (tVal (eArgs (F 0) (aCons (eVar 2) (aCons (eD (.int 0)) (aCons (eBin opSub (eArgs opLen (aCons (eVar 0) aNil)) (eD (.int 1))) aNil)))))) (tOr2 (tNot2 (tVal (eArgs (F 0) (aCons (eVar 3) (aCons (eD (.int 0)) (aCons (eBin opSub (eArgs opLen (aCons (eVar 0) aNil)) (eD (.int 1))) aNil)))))) (tCmpr (eBin opIsNot (eBin opIx0 (eBin opIx0 (eVar 0) (eVar 2)) (eVar 3)) (eD .none)))))
abbrev rT2 : Tst := (tOr2 (tNot2 (tVal (eUn (opIsi PyData.isTuple) (eVar 4)))) (tCmpr (eBin opNe (eArgs opLen (aCons (eVar 4) aNil)) (eArgs opLen (aCons (eVar 0) aNil)))))
abbrev rRest (F : FE) : Stm := (sSeq (sIf (rT1 F)
  (sSeq (sRet (eD (.bool false)))
  sNil)
  sNil)
 (sSeq (sIf rT2
  (sSeq (sRet (eD (.bool false)))
  sNil)
  sNil)
 (sSeq (sFor (iEnu (eVar 4)) (.tp [(.nm 5), (.nm 6)])
  (rBody F)
  sNil)
 (sSeq (sRet (eD (.bool true)))
 sNil))))
theorem ref_step {n G K : Nat} {t : Tb} {v : D} (w : Wf n t) (hg : gapN t ≤ G) (h : Hh)
  (ih : ∀ g, G = g + 1 → ∃ k, K = k + 1 ∧ ∀ (t : Tb) (v : D), Wf n t → gapN t ≤ g → ∀ h, R (k + 3) 8 [.d (tD t), .d v] h = some (.d (.bool (accF n g t v)), h)) :
  R (K + 3) 8 [.d (tD t), .d v] h = some (.d (.bool (accF n G t v)), h) := by
  have lt := len_tD w
  have hw := w.big
  have stop1 : ∀ (F : FE), (tOr2 (tNot2 (tVal (eUn (opIsi PyData.isTuple) (eVar 1)))) (tCmpr (eBin opNe (eArgs opLen (aCons (eVar 1) aNil)) (eD (.int 3))))) [some (.d (tD t)), some (.d v), none, none, none, none, none] [] = some (true, []) →
      b8 F (startE 7 [.d (tD t), .d v]) [] = some (.rt (.d (.bool false)), [some (.d (tD t)), some (.d v), none, none, none, none, none], []) := fun F q => by
    show b8 F [some (.d (tD t)), some (.d v), none, none, none, none, none] [] = _
    unfold b8
    exact seq_rt (if_t q (seq_rt (ret_of rfl)))
  have out : ∀ {b : Bool} {e2 : Ev} {h2 : Hh}, b8 (R (K + 2)) (startE 7 [.d (tD t), .d v]) [] = some (.rt (.d (.bool b)), e2, h2) → R (K + 3) 8 [.d (tD t), .d v] h = some (.d (.bool b), h) := fun hb => by
    have := callP_d (ds := [tD t, v]) (h := h) hb
    exact this
  have bad : PyData.isTuple v = false → R (K + 3) 8 [.d (tD t), .d v] h = some (.d (.bool (accF n G t v)), h) := fun hv => by
    rw [accF_shape fun x y ps e => by rw [e] at hv; cases hv]
    exact out (stop1 _ (by simp [hv]))
  cases v with
  | tuple ds =>
    by_cases h3 : ds.length = 3
    · match ds, h3 with
      | [x, y, z], _ =>
        have t1 : (tOr2 (tNot2 (tVal (eUn (opIsi PyData.isTuple) (eVar 1)))) (tCmpr (eBin opNe (eArgs opLen (aCons (eVar 1) aNil)) (eD (.int 3))))) [some (.d (tD t)), some (.d (.tuple [x, y, z])), none, none, none, none, none] [] = some (false, []) := by
          simp [PyData.isTuple]
        have s2 : (sAsg (eVar 1) (.tp [(.nm 2), (.nm 3), (.nm 4)])) [some (.d (tD t)), some (.d (.tuple [x, y, z])), none, none, none, none, none] [] = some (.nx, [some (.d (tD t)), some (.d (.tuple [x, y, z])), some (.d x), some (.d y), some (.d z), none, none], []) := by
          simp
        obtain ⟨e3, he3⟩ : ∃ e3 : Ev, e3 = [some (.d (tD t)), some (.d (.tuple [x, y, z])), some (.d x), some (.d y), some (.d z), none, none] := ⟨_, rfl⟩
        rw [← he3] at s2
        have nx := num_ok (K + 1) x 0 ((n : Int) - 1) []
        have ny := num_ok (K + 1) y 0 ((n : Int) - 1) []
        have tx : tVal (eArgs (R (K + 2) 0) (aCons (eVar 2) (aCons (eD (.int 0)) (aCons (eBin opSub (eArgs opLen (aCons (eVar 0) aNil)) (eD (.int 1))) aNil)))) e3 [] = some (isB n x, []) := by
          rw [he3]; simp [lt, nx, isB]
        have ty : tVal (eArgs (R (K + 2) 0) (aCons (eVar 3) (aCons (eD (.int 0)) (aCons (eBin opSub (eArgs opLen (aCons (eVar 0) aNil)) (eD (.int 1))) aNil)))) e3 [] = some (isB n y, []) := by
          rw [he3]; simp [lt, ny, isB]
        have start : ∀ {r}, rRest (R (K + 2)) e3 [] = r → b8 (R (K + 2)) (startE 7 [.d (tD t), .d (.tuple [x, y, z])]) [] = r := fun q => by
          show b8 (R (K + 2)) [some (.d (tD t)), some (.d (.tuple [x, y, z])), none, none, none, none, none] [] = _
          unfold b8
          exact seq_nx (if_f t1 rfl) (seq_nx s2 q)
        have no : ∀ (hf : rT1 (R (K + 2)) e3 [] = some (true, [])) (ha : accF n G t (.tuple [x, y, z]) = false),
            R (K + 3) 8 [.d (tD t), .d (.tuple [x, y, z])] h = some (.d (.bool (accF n G t (.tuple [x, y, z]))), h) := fun hf ha => by
          rw [ha]
          exact out (start (seq_rt (if_t hf (seq_rt (ret_of rfl)))))
        have zero : (isB n x && isB n y && (isB n x && isB n y && cellN t (nI x) (nI y))) = false → accF n G t (.tuple [x, y, z]) = false := fun q => by
          by_cases hz : ∃ ps, z = .tuple ps
          · obtain ⟨ps, rfl⟩ := hz
            refine accF_cut ?_
            cases hx : isB n x <;> cases hy : isB n y <;> cases hc : cellN t (nI x) (nI y) <;> simp_all
          · exact accF_shape fun a b ps e => hz ⟨ps, by cases e; rfl⟩
        cases hx : isB n x with
        | false => exact no (by rw [rT1, tOr2_s, tNot2_s, tx, hx]; rfl) (zero (by rw [hx]; rfl))
        | true =>
          cases hy : isB n y with
          | false => exact no (by rw [rT1, tOr2_s, tNot2_s, tx, hx]; simp only [Bool.not_true]; rw [tOr2_s, tNot2_s, ty, hy]; rfl) (zero (by rw [hy]; simp))
          | true =>
            obtain ⟨i, rfl, hi, ni⟩ := isB_ok hx
            obtain ⟨j, rfl, hj, nj⟩ := isB_ok hy
            have e0 := ix_row w hi
            have e1 := cell_ix w hi hj
            have tz : tCmpr (eBin opIsNot (eBin opIx0 (eBin opIx0 (eVar 0) (eVar 2)) (eVar 3)) (eD .none)) e3 [] = some (!cellN t i j, []) := by
              rw [he3]; simp [e0, e1, cellN_eq]
            cases hc : cellN t i j with
            | false => exact no (by rw [rT1, tOr2_s, tNot2_s, tx, hx]; simp only [Bool.not_true]; rw [tOr2_s, tNot2_s, ty, hy]; simp only [Bool.not_true]; rw [tz, hc]; rfl) (zero (by rw [ni, nj, hc]; simp))
            | true =>
              have t3 : rT1 (R (K + 2)) e3 [] = some (false, []) := by
                rw [rT1, tOr2_s, tNot2_s, tx, hx]; simp only [Bool.not_true]; rw [tOr2_s, tNot2_s, ty, hy]; simp only [Bool.not_true]; rw [tz, hc]; rfl
              by_cases hz : ∃ ps, z = .tuple ps
              · obtain ⟨ps, rfl⟩ := hz
                by_cases hn : ps.length = n
                · obtain ⟨g, rfl⟩ : ∃ g, G = g + 1 := by
                    cases G with
                    | zero => have := gap_zero w hg hi hj; rw [hc] at this; cases this
                    | succ g => exact ⟨g, rfl⟩
                  obtain ⟨k, rfl, ih2⟩ := ih g rfl
                  have ha : accF n (g + 1) t (.tuple [.int i, .int j, .tuple ps]) = ps.zipIdx.all fun q => partB n (accF n g) t i j q.1 q.2 := by
                    unfold accF
                    simp only
                    rw [hx, hy, ni, nj, hc, decide_eq_true hn]
                    rfl
                  have t4 : rT2 e3 [] = some (false, []) := by
                    rw [he3]; simp [rT2, PyData.isTuple, lt, hn]
                  have hs : iEnu (eVar 4) e3 [] = some (.st (ps.zipIdx.map fun p => .two (.d (.int (p.2 : Nat))) (.d p.1)), []) := by rw [he3]; exact src_et rfl
                  obtain ⟨e2, h2, hf⟩ := for_find (l := ps.zipIdx) (ι := fun p => .two (.d (.int (p.2 : Nat))) (.d p.1)) (tg := .tp [(.nm 5), (.nm 6)]) (B := rBody (R (k + 3)))
                    (fun e h => ∃ a b, e = rE t (.tuple [.int i, .int j, .tuple ps]) i j ps a b ∧ h = []) (fun q => if partB n (accF n g) t i j q.1 q.2 then none else some (.d (.bool false))) (by
                      rintro ⟨one, p⟩ hm e h ⟨a, b, rfl, rfl⟩
                      have hpn := (List.getElem?_eq_some_iff.mp (List.mem_zipIdx_iff_getElem?.mp hm)).1
                      simp only at hpn
                      rw [hn] at hpn
                      rcases part_turn (k := k) (v := .tuple [.int i, .int j, .tuple ps]) (ps := ps) (one := one) w hi hj hpn hg hc ih2 with ⟨q1, q2⟩ | ⟨q1, q2⟩
                      · exact ⟨rE t (.tuple [.int i, .int j, .tuple ps]) i j ps (some (.d (.int p))) (some (.d one)), _, _, by simp [rE], .inr ⟨by simp only; rw [q1]; rfl, .inl q2, _, _, rfl, rfl⟩⟩
                      · exact ⟨rE t (.tuple [.int i, .int j, .tuple ps]) i j ps (some (.d (.int p))) (some (.d one)), _, _, by simp [rE], .inl ⟨_, by simp only; rw [q1]; rfl, q2⟩⟩) e3 [] ⟨none, none, he3, rfl⟩
                  rw [ha]
                  rcases hf with ⟨v, hv, hf⟩ | ⟨hv, hf, a, b, rfl, rfl⟩
                  · obtain ⟨q, hq, hq2⟩ := List.exists_of_findSome?_eq_some hv
                    have hall : (ps.zipIdx.all fun q => partB n (accF n g) t i j q.1 q.2) = false := by
                      rw [List.all_eq_false]
                      refine ⟨q, hq, fun z => ?_⟩
                      rw [if_pos z] at hq2; cases hq2
                    have hvv : v = .d (.bool false) := by
                      by_cases z : partB n (accF n g) t i j q.1 q.2 = true
                      · rw [if_pos z] at hq2; cases hq2
                      · rw [if_neg z] at hq2; cases hq2; rfl
                    subst hvv
                    rw [hall]
                    refine out (start (seq_nx (if_f t3 rfl) (seq_nx (if_f t4 rfl) (seq_rt (e1 := e2) (h1 := h2) ?_))))
                    rw [sFor_st hs, hf]
                  · have hall : (ps.zipIdx.all fun q => partB n (accF n g) t i j q.1 q.2) = true := by
                      rw [List.all_eq_true]
                      intro q hq
                      have := List.findSome?_eq_none_iff.mp hv q hq
                      by_cases z : partB n (accF n g) t i j q.1 q.2 = true
                      · exact z
                      · rw [if_neg z] at this; cases this
                    rw [hall]
                    refine out (start (seq_nx (if_f t3 rfl) (seq_nx (if_f t4 rfl) (seq_nx (e1 := rE t (.tuple [.int i, .int j, .tuple ps]) i j ps a b) (h1 := []) ?_ (seq_rt (ret_of rfl))))))
                    rw [sFor_st hs, hf]
                    rfl
                · have t4 : rT2 e3 [] = some (true, []) := by
                    have : ¬ (ps.length : Int) = (n : Int) := by omega
                    rw [he3]; simp [rT2, PyData.isTuple, lt, this]
                  rw [accF_cut (by rw [decide_eq_false hn]; simp)]
                  exact out (start (seq_nx (if_f t3 rfl) (seq_rt (if_t t4 (seq_rt (ret_of rfl))))))
              · have hzt : PyData.isTuple z = false := by cases z <;> first | rfl | exact (hz ⟨_, rfl⟩).elim
                have t4 : rT2 e3 [] = some (true, []) := by
                  rw [he3]; simp [rT2, hzt]
                rw [accF_shape fun a b ps e => hz ⟨ps, by cases e; rfl⟩]
                exact out (start (seq_nx (if_f t3 rfl) (seq_rt (if_t t4 (seq_rt (ret_of rfl))))))
    · rw [accF_shape fun x y ps e => by cases e; exact h3 rfl]
      have : ¬ (ds.length : Int) = 3 := by omega
      exact out (stop1 _ (by simp [PyData.isTuple, this]))
  | none => exact bad rfl
  | bool b => exact bad rfl
  | int b => exact bad rfl
  | str b => exact bad rfl
  | list b => exact bad rfl
  | dict b => exact bad rfl
theorem ref_ok {n : Nat} : ∀ (g : Nat) (t : Tb) (v : D), Wf n t → gapN t ≤ g → ∀ (k : Nat) (h : Hh), R (k + g + 3) 8 [.d (tD t), .d v] h = some (.d (.bool (accF n g t v)), h) := by
  intro g
  induction g with
  | zero => exact fun t v w hg k h => ref_step w hg h fun g e => by cases e
  | succ g ih =>
    intro t v w hg k h
    refine ref_step (K := k + g + 1) w hg h fun g' e => ?_
    cases e
    exact ⟨k + g, rfl, fun t v w hg h => ih t v w hg k h⟩
end K40

/-! K40r: what is taken as a refusal shows that there is no end. -/
namespace K40
open PySem MP
theorem acc_none {n : Nat} : ∀ (g : Nat) (t : Tb) (v : D), Wf n t → accF n g t v = true → ∀ T, ¬ Comp n t T := by
  intro g
  induction g with
  | zero => intro t v w h; cases h
  | succ g ih =>
    intro t v w h T c
    unfold accF at h
    split at h
    · rename_i x y ps
      simp only [Bool.and_eq_true, decide_eq_true_eq] at h
      obtain ⟨⟨⟨⟨hx, hy⟩, hc⟩, hn⟩, hall⟩ := h
      obtain ⟨i, rfl, hi, ni⟩ := isB_ok hx
      obtain ⟨j, rfl, hj, nj⟩ := isB_ok hy
      rw [ni, nj] at hc hall
      obtain ⟨p, hp, h1, hf, c2⟩ := comp_free w c hi hj hc
      obtain ⟨fr, fc⟩ := free_row w hi hj hf
      have hpl : p < ps.length := by rw [hn]; exact hp
      have hm : (ps[p], p) ∈ ps.zipIdx := List.mem_zipIdx_iff_getElem?.mpr (List.getElem?_eq_getElem hpl)
      have hb := List.all_eq_true.mp hall _ hm
      simp only at hb
      unfold partB at hb
      split at hb
      · rename_i a b e
        unfold wayB at hb
        simp only [Bool.and_eq_true, Bool.or_eq_true, decide_eq_true_eq] at hb
        obtain ⟨⟨⟨ha, hb1⟩, hor⟩, hP⟩ := hb
        obtain ⟨a', rfl, ha', na⟩ := isB_ok ha
        obtain ⟨b', rfl, hb', nb⟩ := isB_ok hb1
        rw [na, nb] at hor hP
        unfold isP at hP
        rcases hor with e | e
        · rw [e] at hP; rw [fr b' hb'] at hP; cases hP
        · rw [e] at hP; rw [fc a' ha'] at hP; cases hP
      · rename_i os _ e
        rw [Bool.and_eq_true] at hb
        exact ih _ _ (setC_wf w hi _) hb.2 T c2
      · cases hb
    · cases h
theorem acc_empty {n g : Nat} {t : Tb} {v : D} (w : Wf n t) (h : accF n g t v = true) : E t = [] := by
  cases hE : E t with
  | nil => rfl
  | cons T l => exact (acc_none g t v w h T (mem_comp _ rfl w (by rw [hE]; exact List.mem_cons_self))).elim
end K40

/-! K40s: the law's look at refusals. -/
namespace K40
open PySem MP
theorem ne_di {x : D} {p : Int} {h : Hh} : opNe (.d x) (.d (.int p)) h = some (.d (.bool (!PyData.eqv x (.int p))), h) := by
  cases x <;> first
    | rfl
    | (show (if (dOk 60 _ || dOk 60 (.int p)) = true then _ else _) = _
       rw [show dOk 60 (.int p) = true from rfl, Bool.or_true, if_pos rfl])
abbrev sE (t : Tb) (v : D) (n i j : Nat) (ps : List D) (x y : Option Val) : Ev := [some (.d (tD t)), some (.d v), some (.d (.int n)), x, some (.d (.int i)), some (.d (.int j)), some (.d (.tuple ps)), y]
abbrev sT (F : FE) : Tst := (tOr2 (tNot2 (tVal (eArgs (F 16) (aCons (eBin opIx0 (eVar 7) (eD (.int 0))) (aCons (eD (.int 0)) (aCons (eBin opSub (eVar 2) (eD (.int 1))) aNil)))))) (tOr2 (tNot2 (tVal (eArgs (F 16) (aCons (eBin opIx0 (eVar 7) (eD (.int 1))) (aCons (eD (.int 0)) (aCons (eBin opSub (eVar 2) (eD (.int 1))) aNil)))))) (tOr2 (tAnd2 (tCmpr (eBin opNe (eBin opIx0 (eVar 7) (eD (.int 0))) (eVar 4))) (tCmpr (eBin opNe (eBin opIx0 (eVar 7) (eD (.int 1))) (eVar 5)))) (tCmpr (eBin opNe (eBin opIx0 (eBin opIx0 (eVar 0) (eBin opIx0 (eVar 7) (eD (.int 0)))) (eBin opIx0 (eVar 7) (eD (.int 1)))) (eVar 3))))))
theorem sT_ok {n k : Nat} {t : Tb} (w : Wf n t) {v : D} {i j p : Nat} {ps : List D} (x y : D) : sT (R (k + 3)) (sE t v n i j ps (some (.d (.int p))) (some (.d (.tuple [x, y])))) [] = some (!wayB n t i j p x y, []) := by
  obtain ⟨ev, hev⟩ : ∃ ev : Ev, ev = sE t v n i j ps (some (.d (.int p))) (some (.d (.tuple [x, y]))) := ⟨_, rfl⟩
  have v0 : ∀ h, opIx0 (.d (.tuple [x, y])) (.d (.int 0)) h = some (.d x, h) := fun h => ix_t (i := 0) rfl
  have v1 : ∀ h, opIx0 (.d (.tuple [x, y])) (.d (.int 1)) h = some (.d y, h) := fun h => ix_t (i := 1) rfl
  have nx := whole_ok (k + 2) x 0 ((n : Int) - 1) []
  have ny := whole_ok (k + 2) y 0 ((n : Int) - 1) []
  have tx : tNot2 (tVal (eArgs (R (k + 3) 16) (aCons (eBin opIx0 (eVar 7) (eD (.int 0))) (aCons (eD (.int 0)) (aCons (eBin opSub (eVar 2) (eD (.int 1))) aNil))))) ev [] = some (!isB n x, []) := by
    rw [hev]; simp [v0, nx, isB]
  have ty : tNot2 (tVal (eArgs (R (k + 3) 16) (aCons (eBin opIx0 (eVar 7) (eD (.int 1))) (aCons (eD (.int 0)) (aCons (eBin opSub (eVar 2) (eD (.int 1))) aNil))))) ev [] = some (!isB n y, []) := by
    rw [hev]; simp [v1, ny, isB]
  rw [← hev, sT, tOr2_s, tx]
  cases hx : isB n x with
  | false => simp [wayB, hx]
  | true =>
    simp only [Bool.not_true]
    rw [tOr2_s, ty]
    cases hy : isB n y with
    | false => simp [wayB, hy]
    | true =>
      simp only [Bool.not_true]
      obtain ⟨a, rfl, ha, na⟩ := isB_ok hx
      obtain ⟨b, rfl, hb, nb⟩ := isB_ok hy
      have e0 := ix_row w ha
      have e1 := cell_ix w ha hb
      have qA : tCmpr (eBin opNe (eBin opIx0 (eVar 7) (eD (.int 0))) (eVar 4)) ev [] = some (!decide ((a : Int) = (i : Int)), []) := by rw [hev]; simp [v0]
      have qB : tCmpr (eBin opNe (eBin opIx0 (eVar 7) (eD (.int 1))) (eVar 5)) ev [] = some (!decide ((b : Int) = (j : Int)), []) := by rw [hev]; simp [v1]
      have qC : tCmpr (eBin opNe (eBin opIx0 (eBin opIx0 (eVar 0) (eBin opIx0 (eVar 7) (eD (.int 0)))) (eBin opIx0 (eVar 7) (eD (.int 1)))) (eVar 3)) ev [] = some (!isP t a b p, []) := by rw [hev]; simp [v0, v1, e0, e1, ne_di, isP]
      have hw : wayB n t i j p (.int a) (.int b) = ((decide ((a : Int) = (i : Int)) || decide ((b : Int) = (j : Int))) && isP t a b p) := by
        unfold wayB
        rw [hx, hy, na, nb]
        simp only [Bool.true_and]
        congr 2
        · rw [decide_eq_decide]; omega
        · rw [decide_eq_decide]; omega
      rw [hw, tOr2_s, tAnd2_s, qA]
      cases decide ((a : Int) = (i : Int)) with
      | true => simp only [Bool.not_true, Bool.true_or, Bool.true_and]; rw [qC]
      | false =>
        simp only [Bool.not_false]
        rw [qB]
        cases decide ((b : Int) = (j : Int)) with
        | true => simp only [Bool.not_true, Bool.or_true, Bool.true_and]; rw [qC]
        | false => simp only [Bool.not_false, Bool.or_self, Bool.false_and]
end K40

/-! K40t: one part, as the law looks at it. -/
namespace K40
open PySem MP
abbrev sBody (F : FE) : Stm := (sSeq (sAsg (eBin opIx0 (eVar 6) (eVar 3)) (.nm 7))
  (sSeq (sIf (tCmpr (eBin opEq (eArgs opLen (aCons (eVar 7) aNil)) (eD (.int 2))))
   (sSeq (sIf (sT F)
    (sSeq (sRet (eD (.bool false)))
    sNil)
    sNil)
   sNil)
   (sSeq (sIf (tOr2 (tCmpr (eBin opNotIn0 (eVar 3) (eArgs (F 17) (aCons (eVar 0) (aCons (eVar 4) (aCons (eVar 5) aNil)))))) (tNot2 (tVal (eArgs (F 22) (aCons (eArgs (F 18) (aCons (eVar 0) (aCons (eVar 4) (aCons (eVar 5) (aCons (eVar 3) aNil))))) (aCons (eVar 7) aNil))))))
    (sSeq (sRet (eD (.bool false)))
    sNil)
    sNil)
   sNil))
  sNil))
theorem lpart_turn {n g k : Nat} {t : Tb} {v : D} {i j p : Nat} {ps os : List D} {z : Option Val} (w : Wf n t) (hi : i < n) (hj : j < n) (hp : p < n) (hps : ps[p]? = some (.tuple os)) (hg : gapN t ≤ g + 1) (hc : cellN t i j = true)
    (ih : ∀ (t : Tb) (v : D), Wf n t → gapN t ≤ g → ∀ h, R (k + 3) 22 [.d (tD t), .d v] h = some (.d (.bool (accF n g t v)), h)) :
    (partB n (accF n g) t i j (.tuple os) p = true ∧ sBody (R (k + 3)) (sE t v n i j ps (some (.d (.int p))) z) [] = some (.nx, sE t v n i j ps (some (.d (.int p))) (some (.d (.tuple os))), [])) ∨
    (partB n (accF n g) t i j (.tuple os) p = false ∧ sBody (R (k + 3)) (sE t v n i j ps (some (.d (.int p))) z) [] = some (.rt (.d (.bool false)), sE t v n i j ps (some (.d (.int p))) (some (.d (.tuple os))), [])) := by
  have s0 : (sAsg (eBin opIx0 (eVar 6) (eVar 3)) (.nm 7)) (sE t v n i j ps (some (.d (.int p))) z) [] = some (.nx, sE t v n i j ps (some (.d (.int p))) (some (.d (.tuple os))), []) := by
    exact asg_of' (i := 7) (bin_of (u := .d (.tuple ps)) (h1 := []) (v := .d (.int p)) (h2 := []) rfl rfl (ix_t hps))
  have hl : tCmpr (eBin opEq (eArgs opLen (aCons (eVar 7) aNil)) (eD (.int 2))) (sE t v n i j ps (some (.d (.int p))) (some (.d (.tuple os)))) [] = some (decide ((os.length : Int) = 2), []) := by
    simp [sE]
  by_cases h2 : os.length = 2
  · match os, h2 with
    | [x, y], _ =>
      have tq := sT_ok (k := k) (v := v) (i := i) (j := j) (p := p) (ps := ps) w x y
      cases hW : wayB n t i j p x y with
      | true => exact .inl ⟨hW, seq_nx s0 (seq_one (if_t (hl.trans rfl) (seq_one (if_f (tq.trans (by rw [hW]; rfl)) rfl))))⟩
      | false => exact .inr ⟨hW, seq_nx s0 (seq_rt (if_t (hl.trans rfl) (seq_rt (if_t (tq.trans (by rw [hW]; rfl)) (seq_rt (ret_of rfl))))))⟩
  · have hp2 : partB n (accF n g) t i j (.tuple os) p = (freeP t i j p && accF n g (setC t i j (.int p)) (.tuple os)) := by
      unfold partB
      split
      · rename_i x y e; cases e; exact (h2 rfl).elim
      · rename_i e; cases e; rfl
      · rename_i e; exact (e _ rfl).elim
    have e1 := parts_ok w hi hj (k + 2)
    have e2 : ∀ h, opNotIn0 (.d (.int p)) (.d (partsD t i j)) h = some (.d (.bool (!freeP t i j p)), h) := fun h => notIn_of (in_parts w hp h)
    have tf : tCmpr (eBin opNotIn0 (eVar 3) (eArgs (R (k + 3) 17) (aCons (eVar 0) (aCons (eVar 4) (aCons (eVar 5) aNil))))) (sE t v n i j ps (some (.d (.int p))) (some (.d (.tuple os)))) [] = some (!freeP t i j p, []) := by
      have q : eBin opNotIn0 (eVar 3) (eArgs (R (k + 3) 17) (aCons (eVar 0) (aCons (eVar 4) (aCons (eVar 5) aNil)))) (sE t v n i j ps (some (.d (.int p))) (some (.d (.tuple os)))) [] = some (.d (.bool (!freeP t i j p)), []) :=
        bin_of (u := .d (.int p)) (h1 := []) (v := .d (partsD t i j)) (h2 := []) rfl (args_of' (us := [.d (tD t), .d (.int i), .d (.int j)]) (h1 := []) rfl (e1 [])) (e2 [])
      rw [tCmpr_s, q]
    have hl2 := hl.trans (by rw [decide_eq_false (by omega)])
    cases hF : freeP t i j p with
    | false =>
      refine .inr ⟨by rw [hp2, hF]; rfl, seq_nx s0 (seq_rt (if_f hl2 (seq_rt (if_t (h1 := []) ?_ (seq_rt (ret_of rfl))))))⟩
      rw [tOr2_s, tf, hF]
      rfl
    | true =>
      have hk : gapN (setC t i j (.int p)) + 1 = gapN t := by
        obtain ⟨x, c1, c2⟩ := cell_at w hi hj
        exact gapN_set (row_at w hi).1 c1 (by rw [← c2]; exact hc) rfl
      have e3 := lwith_ok w hi hj (.int p) (k + 2)
      have e4 := ih (setC t i j (.int p)) (.tuple os) (setC_wf w hi _) (by omega)
      have tq : tOr2 (tCmpr (eBin opNotIn0 (eVar 3) (eArgs (R (k + 3) 17) (aCons (eVar 0) (aCons (eVar 4) (aCons (eVar 5) aNil)))))) (tNot2 (tVal (eArgs (R (k + 3) 22) (aCons (eArgs (R (k + 3) 18) (aCons (eVar 0) (aCons (eVar 4) (aCons (eVar 5) (aCons (eVar 3) aNil))))) (aCons (eVar 7) aNil))))) (sE t v n i j ps (some (.d (.int p))) (some (.d (.tuple os)))) [] = some (!(accF n g (setC t i j (.int p)) (.tuple os)), []) := by
        rw [tOr2_s, tf, hF]
        simp [sE, e3, e4]
      cases hA : accF n g (setC t i j (.int p)) (.tuple os) with
      | true => exact .inl ⟨by rw [hp2, hF, hA]; rfl, seq_nx s0 (seq_one (if_f hl2 (seq_one (if_f (tq.trans (by rw [hA]; rfl)) rfl))))⟩
      | false => exact .inr ⟨by rw [hp2, hF, hA]; rfl, seq_nx s0 (seq_rt (if_f hl2 (seq_rt (if_t (tq.trans (by rw [hA]; rfl)) (seq_rt (ret_of rfl))))))⟩
end K40

/-! K40u: the law's opening test. -/
namespace K40
open PySem MP
abbrev oE (t : Tb) (v : D) (n : Nat) : Ev := [some (.d (tD t)), some (.d v), some (.d (.int n)), none, none, none, none, none]
abbrev oT (F : FE) : Tst := (tOr2 (tNot2 (tVal (eUn (opIsi PyData.isTuple) (eVar 1)))) (tOr2 (tCmpr (eBin opNe (eArgs opLen (aCons (eVar 1) aNil)) (eD (.int 3)))) (tOr2 (tNot2 (tVal (eArgs (F 16) (aCons (eBin opIx0 (eVar 1) (eD (.int 0))) (aCons (eD (.int 0)) (aCons (eBin opSub (eVar 2) (eD (.int 1))) aNil)))))) (tOr2 (tNot2 (tVal (eArgs (F 16) (aCons (eBin opIx0 (eVar 1) (eD (.int 1))) (aCons (eD (.int 0)) (aCons (eBin opSub (eVar 2) (eD (.int 1))) aNil)))))) (tCmpr (eBin opIsNot (eBin opIx0 (eBin opIx0 (eVar 0) (eBin opIx0 (eVar 1) (eD (.int 0)))) (eBin opIx0 (eVar 1) (eD (.int 1)))) (eD .none)))))))
/-- the opening test: true where it is no refusal already -/
theorem oT_ok {n K : Nat} {t : Tb} (w : Wf n t) (v : D) : ∃ b : Bool, oT (R (K + 2)) (oE t v n) [] = some (b, []) ∧ (b = true → ∀ G, accF n G t v = false) ∧
    (b = false → ∃ (i j : Nat) (z : D), v = .tuple [.int i, .int j, z] ∧ i < n ∧ j < n ∧ cellN t i j = true ∧ isB n (.int i) = true ∧ isB n (.int j) = true ∧ nI (.int i) = i ∧ nI (.int j) = j) := by
  have bad : PyData.isTuple v = false → ∃ b : Bool, oT (R (K + 2)) (oE t v n) [] = some (b, []) ∧ (b = true → ∀ G, accF n G t v = false) ∧
    (b = false → ∃ (i j : Nat) (z : D), v = .tuple [.int i, .int j, z] ∧ i < n ∧ j < n ∧ cellN t i j = true ∧ isB n (.int i) = true ∧ isB n (.int j) = true ∧ nI (.int i) = i ∧ nI (.int j) = j) := fun hv =>
    ⟨true, by simp [oT, oE, hv], fun _ G => accF_shape fun x y ps e => (by rw [e] at hv; cases hv), fun h => (by cases h)⟩
  cases v with
  | tuple ds =>
    by_cases h3 : ds.length = 3
    · match ds, h3 with
      | [x, y, z], _ =>
        obtain ⟨ev, hev⟩ : ∃ ev : Ev, ev = oE t (.tuple [x, y, z]) n := ⟨_, rfl⟩
        have v0 : ∀ h, opIx0 (.d (.tuple [x, y, z])) (.d (.int 0)) h = some (.d x, h) := fun h => ix_t (i := 0) rfl
        have v1 : ∀ h, opIx0 (.d (.tuple [x, y, z])) (.d (.int 1)) h = some (.d y, h) := fun h => ix_t (i := 1) rfl
        have nx := whole_ok (K + 1) x 0 ((n : Int) - 1) []
        have ny := whole_ok (K + 1) y 0 ((n : Int) - 1) []
        have ta : tNot2 (tVal (eUn (opIsi PyData.isTuple) (eVar 1))) ev [] = some (false, []) := by rw [hev]; simp [PyData.isTuple]
        have tb : tCmpr (eBin opNe (eArgs opLen (aCons (eVar 1) aNil)) (eD (.int 3))) ev [] = some (false, []) := by rw [hev]; simp
        have tx : tNot2 (tVal (eArgs (R (K + 2) 16) (aCons (eBin opIx0 (eVar 1) (eD (.int 0))) (aCons (eD (.int 0)) (aCons (eBin opSub (eVar 2) (eD (.int 1))) aNil))))) ev [] = some (!isB n x, []) := by
          rw [hev]; simp [v0, nx, isB]
        have ty : tNot2 (tVal (eArgs (R (K + 2) 16) (aCons (eBin opIx0 (eVar 1) (eD (.int 1))) (aCons (eD (.int 0)) (aCons (eBin opSub (eVar 2) (eD (.int 1))) aNil))))) ev [] = some (!isB n y, []) := by
          rw [hev]; simp [v1, ny, isB]
        have zero : ∀ G, (isB n x && isB n y && cellN t (nI x) (nI y)) = false → accF n G t (.tuple [x, y, z]) = false := fun G q => by
          by_cases hz : ∃ ps, z = .tuple ps
          · obtain ⟨ps, rfl⟩ := hz
            exact accF_cut (by rw [q]; rfl)
          · exact accF_shape fun a b ps e => hz ⟨ps, by cases e; rfl⟩
        rw [← hev, oT, tOr2_s, ta]
        simp only
        rw [tOr2_s, tb]
        simp only
        rw [tOr2_s, tx]
        cases hx : isB n x with
        | false => exact ⟨true, rfl, fun _ G => zero G (by rw [hx]; rfl), fun h => by cases h⟩
        | true =>
          simp only [Bool.not_true]
          rw [tOr2_s, ty]
          cases hy : isB n y with
          | false => exact ⟨true, rfl, fun _ G => zero G (by rw [hy]; simp), fun h => by cases h⟩
          | true =>
            simp only [Bool.not_true]
            obtain ⟨i, rfl, hi, ni⟩ := isB_ok hx
            obtain ⟨j, rfl, hj, nj⟩ := isB_ok hy
            have e0 := ix_row w hi
            have e1 := cell_ix w hi hj
            have tz : tCmpr (eBin opIsNot (eBin opIx0 (eBin opIx0 (eVar 0) (eBin opIx0 (eVar 1) (eD (.int 0)))) (eBin opIx0 (eVar 1) (eD (.int 1)))) (eD .none)) ev [] = some (!cellN t i j, []) := by
              rw [hev]; simp [v0, v1, e0, e1, cellN_eq]
            rw [tz]
            cases hc : cellN t i j with
            | false => exact ⟨true, rfl, fun _ G => zero G (by rw [ni, nj, hc]; simp), fun h => by cases h⟩
            | true => exact ⟨false, rfl, fun h => (by cases h), fun _ => ⟨i, j, z, rfl, hi, hj, hc, hx, hy, ni, nj⟩⟩
    · have : ¬ (ds.length : Int) = 3 := by omega
      exact ⟨true, by simp [oT, oE, PyData.isTuple, this], fun _ G => accF_shape fun x y ps e => (by cases e; exact h3 rfl), fun h => (by cases h)⟩
  | none => exact bad rfl
  | bool b => exact bad rfl
  | int b => exact bad rfl
  | str b => exact bad rfl
  | list b => exact bad rfl
  | dict b => exact bad rfl
end K40

/-! K40v: the law takes the same refusals. -/
namespace K40
open PySem MP
theorem bools_map {α : Type} (f : α → Bool) : ∀ l : List α, boolsD (l.map fun x => PyData.bool (f x)) = some (l.map f)
  | [] => rfl
  | a :: l => by rw [List.map_cons, boolsD, bools_map f l]; rfl
theorem opAll_map {α : Type} (f : α → Bool) (l : List α) (h : Hh) : opAll [.d (.list (l.map fun x => PyData.bool (f x)))] h = some (.d (.bool (l.all f)), h) := by
  have e : listData (.d (.list (l.map fun x => PyData.bool (f x)))) h = some (l.map fun x => PyData.bool (f x)) := dsOf_map _
  unfold opAll
  simp only [e, bools_map]
  rw [List.all_map]
  rfl
abbrev qE (t : Tb) (n : Nat) (i j : Nat) (z : D) (x y : Option Val) : Ev := [some (.d (tD t)), some (.d (.tuple [.int i, .int j, z])), some (.d (.int n)), x, some (.d (.int i)), some (.d (.int j)), some (.d z), y]
abbrev qT : Tst := (tOr2 (tNot2 (tVal (eUn (opIsi PyData.isTuple) (eVar 6)))) (tOr2 (tCmpr (eBin opNe (eArgs opLen (aCons (eVar 6) aNil)) (eVar 2))) (tNot2 (tVal (eArgs opAll (aCons (eLc false (iAny (eVar 6)) [7] (.nm 7) tYs (eUn (opIsi PyData.isTuple) (eVar 7))) aNil))))))
theorem qT_tuple {n i j : Nat} {t : Tb} {ps : List D} (hn : ps.length = n) (hb : n ≤ 1000) : qT (qE t n i j (.tuple ps) none none) [] = some (!ps.all PyData.isTuple, []) := by
  obtain ⟨ev, hev⟩ : ∃ ev : Ev, ev = qE t n i j (.tuple ps) none none := ⟨_, rfl⟩
  have hs : iAny (eVar 6) ev [] = some (.st (ps.map fun z => .one (.d z)), []) := by rw [hev]; exact src_t rfl
  have l1 : eLc false (iAny (eVar 6)) [7] (.nm 7) tYs (eUn (opIsi PyData.isTuple) (eVar 7)) ev [] = some (.d (.list (ps.map fun x => PyData.bool (PyData.isTuple x))), []) :=
    eLc_map (f := fun x => PyData.bool (PyData.isTuple x)) hs (by omega) fun z hz => ⟨_, rfl, by rw [hev]; simp⟩
  have ta : eArgs opAll (aCons (eLc false (iAny (eVar 6)) [7] (.nm 7) tYs (eUn (opIsi PyData.isTuple) (eVar 7))) aNil) ev [] = some (.d (.bool (ps.all PyData.isTuple)), []) := args_of' (cons_of l1 aNil_s) (opAll_map _ _ _)
  have t1 : tNot2 (tVal (eUn (opIsi PyData.isTuple) (eVar 6))) ev [] = some (false, []) := by rw [hev]; simp [PyData.isTuple]
  have t2 : tCmpr (eBin opNe (eArgs opLen (aCons (eVar 6) aNil)) (eVar 2)) ev [] = some (false, []) := by rw [hev]; simp [hn]
  rw [← hev, qT, tOr2_s, t1]
  simp only
  rw [tOr2_s, t2]
  simp only
  rw [tNot2_s, tVal_s, ta]
  simp only [truV_b]
theorem zip_all {n : Nat} {f : D → Nat → Bool} {ps : List D} (hn : ps.length = n) : ps.zipIdx.all (fun q => f q.1 q.2) = (List.range n).all fun p => f (ps[p]?.getD .none) p := by
  have e : ps.zipIdx = (List.range n).map fun j => (ps[j]?.getD .none, j) := by
    apply List.ext_getElem
    · simp [hn]
    · intro i h1 h2
      simp at h1
      simp [h1]
  rw [e, List.all_map]
  rfl
theorem lref_step {n G K : Nat} {t : Tb} {v : D} (w : Wf n t) (hg : gapN t ≤ G) (h : Hh)
    (ih : ∀ g, G = g + 1 → ∃ k, K = k + 1 ∧ ∀ (t : Tb) (v : D), Wf n t → gapN t ≤ g → ∀ h, R (k + 3) 22 [.d (tD t), .d v] h = some (.d (.bool (accF n g t v)), h)) :
    R (K + 3) 22 [.d (tD t), .d v] h = some (.d (.bool (accF n G t v)), h) := by
  have hw := w.big
  have out : ∀ {b : Bool} {e2 : Ev} {h2 : Hh}, b22 (R (K + 2)) (startE 8 [.d (tD t), .d v]) [] = some (.rt (.d (.bool b)), e2, h2) → R (K + 3) 22 [.d (tD t), .d v] h = some (.d (.bool b), h) := fun hb => by
    have := callP_d (ds := [tD t, v]) (h := h) hb
    exact this
  have s0 : (sAsg (eArgs opLen (aCons (eVar 0) aNil)) (.nm 2)) [some (.d (tD t)), some (.d v), none, none, none, none, none, none] [] = some (.nx, oE t v n, []) :=
    asg_of' (i := 2) (args_of' (us := [.d (tD t)]) (h1 := []) rfl (len_tD w []))
  obtain ⟨b, tb, h1, h2⟩ := oT_ok (K := K) w v
  cases b with
  | true =>
    rw [h1 rfl G]
    refine out (e2 := oE t v n) (h2 := []) ?_
    show b22 (R (K + 2)) [some (.d (tD t)), some (.d v), none, none, none, none, none, none] [] = _
    unfold b22
    exact seq_nx s0 (seq_rt (if_t tb (seq_rt (ret_of rfl))))
  | false =>
    obtain ⟨i, j, z, rfl, hi, hj, hc, hx, hy, ni, nj⟩ := h2 rfl
    have s2 : (sAsg (eVar 1) (.tp [(.nm 4), (.nm 5), (.nm 6)])) (oE t (.tuple [.int i, .int j, z]) n) [] = some (.nx, qE t n i j z none none, []) := by
      simp [oE, qE]
    have stop : qT (qE t n i j z none none) [] = some (true, []) → R (K + 3) 22 [.d (tD t), .d (.tuple [.int i, .int j, z])] h = some (.d (.bool false), h) := fun q => by
      refine out (e2 := qE t n i j z none none) (h2 := []) ?_
      show b22 (R (K + 2)) [some (.d (tD t)), some (.d (.tuple [.int i, .int j, z])), none, none, none, none, none, none] [] = _
      unfold b22
      exact seq_nx s0 (seq_nx (if_f tb rfl) (seq_nx s2 (seq_rt (if_t q (seq_rt (ret_of rfl))))))
    by_cases hz : ∃ ps, z = .tuple ps
    · obtain ⟨ps, rfl⟩ := hz
      by_cases hn : ps.length = n
      · obtain ⟨g, rfl⟩ : ∃ g, G = g + 1 := by
          cases G with
          | zero => have := gap_zero w hg hi hj; rw [hc] at this; cases this
          | succ g => exact ⟨g, rfl⟩
        obtain ⟨k, rfl, ih2⟩ := ih g rfl
        have ha : accF n (g + 1) t (.tuple [.int i, .int j, .tuple ps]) = (List.range n).all fun p => partB n (accF n g) t i j (ps[p]?.getD .none) p := by
          unfold accF
          simp only
          rw [hx, hy, ni, nj, hc, decide_eq_true hn, zip_all (f := fun one p => partB n (accF n g) t i j one p) hn]
          rfl
        have t4 := qT_tuple (i := i) (j := j) (t := t) hn hw
        cases hall : ps.all PyData.isTuple with
        | false =>
          have : accF n (g + 1) t (.tuple [.int i, .int j, .tuple ps]) = false := by
            rw [ha, List.all_eq_false]
            obtain ⟨one, hm, ho⟩ := List.all_eq_false.mp hall
            obtain ⟨p, hp⟩ := List.getElem?_of_mem hm
            refine ⟨p, List.mem_range.mpr (by rw [← hn]; exact (List.getElem?_eq_some_iff.mp hp).1), ?_⟩
            rw [hp]
            cases one <;> first | (intro q; cases q; done) | (exact (ho rfl).elim)
          rw [this]
          exact stop (t4.trans (by rw [hall]; rfl))
        | true =>
          have hs : iRg (aCons (eVar 2) aNil) (qE t n i j (.tuple ps) none none) [] = some (.st ((List.range n).map fun (p : Nat) => .one (.d (.int p))), []) := src_r (n := n) rfl (by omega)
          obtain ⟨e2, hh, hf⟩ := for_find (l := List.range n) (ι := fun (p : Nat) => .one (.d (.int p))) (tg := .nm 3) (B := sBody (R (k + 3)))
            (fun e h => ∃ a b, e = sE t (.tuple [.int i, .int j, .tuple ps]) n i j ps a b ∧ h = []) (fun p => if partB n (accF n g) t i j (ps[p]?.getD .none) p then none else some (.d (.bool false))) (by
              rintro p hm e h ⟨a, b, rfl, rfl⟩
              have hpn := List.mem_range.mp hm
              have hp : ps[p]? = some ps[p] := List.getElem?_eq_getElem (by omega)
              have hT := List.all_eq_true.mp hall _ (List.mem_of_getElem? hp)
              obtain ⟨os, hos⟩ : ∃ os, ps[p] = .tuple os := by
                cases hq : ps[p] with
                | tuple os => exact ⟨os, rfl⟩
                | _ => rw [hq] at hT; cases hT
              rw [hos] at hp
              rcases lpart_turn (k := k) (v := .tuple [.int i, .int j, .tuple ps]) (ps := ps) (os := os) (z := b) w hi hj hpn hp hg hc ih2 with ⟨q1, q2⟩ | ⟨q1, q2⟩
              · exact ⟨sE t (.tuple [.int i, .int j, .tuple ps]) n i j ps (some (.d (.int p))) b, _, _, by simp [sE], .inr ⟨by simp only [hp, Option.getD_some]; rw [q1]; rfl, .inl q2, _, _, rfl, rfl⟩⟩
              · exact ⟨sE t (.tuple [.int i, .int j, .tuple ps]) n i j ps (some (.d (.int p))) b, _, _, by simp [sE], .inl ⟨_, by simp only [hp, Option.getD_some]; rw [q1]; rfl, q2⟩⟩) (qE t n i j (.tuple ps) none none) [] ⟨none, none, rfl, rfl⟩
          have go : ∀ {r}, (sSeq (sFor (iRg (aCons (eVar 2) aNil)) (.nm 3) (sBody (R (k + 3))) sNil) (sSeq (sRet (eD (.bool true))) sNil)) (qE t n i j (.tuple ps) none none) [] = r → b22 (R (k + 3)) (startE 8 [.d (tD t), .d (.tuple [.int i, .int j, .tuple ps])]) [] = r := fun q => by
            show b22 (R (k + 3)) [some (.d (tD t)), some (.d (.tuple [.int i, .int j, .tuple ps])), none, none, none, none, none, none] [] = _
            unfold b22
            exact seq_nx s0 (seq_nx (if_f tb rfl) (seq_nx s2 (seq_nx (if_f (t4.trans (by rw [hall]; rfl)) rfl) q)))
          rw [ha]
          rcases hf with ⟨v, hv, hf⟩ | ⟨hv, hf, a, b, rfl, rfl⟩
          · obtain ⟨p, hp, hp2⟩ := List.exists_of_findSome?_eq_some hv
            have hno : ¬ partB n (accF n g) t i j (ps[p]?.getD .none) p = true := fun z => by rw [if_pos z] at hp2; cases hp2
            rw [if_neg hno] at hp2
            cases hp2
            rw [show ((List.range n).all fun p => partB n (accF n g) t i j (ps[p]?.getD .none) p) = false from List.all_eq_false.mpr ⟨p, hp, hno⟩]
            refine out (go (seq_rt (e1 := e2) (h1 := hh) ?_))
            rw [sFor_st hs, hf]
          · have hyes : ((List.range n).all fun p => partB n (accF n g) t i j (ps[p]?.getD .none) p) = true := by
              rw [List.all_eq_true]
              intro p hp
              have := List.findSome?_eq_none_iff.mp hv p hp
              by_cases z : partB n (accF n g) t i j (ps[p]?.getD .none) p = true
              · exact z
              · rw [if_neg z] at this; cases this
            rw [hyes]
            refine out (go (seq_nx (e1 := sE t (.tuple [.int i, .int j, .tuple ps]) n i j ps a b) (h1 := []) ?_ (seq_rt (ret_of rfl))))
            rw [sFor_st hs, hf]
            rfl
      · rw [accF_cut (by rw [decide_eq_false hn]; simp)]
        have : ¬ (ps.length : Int) = (n : Int) := by omega
        exact stop (by simp [qT, qE, PyData.isTuple, this])
    · have hzt : PyData.isTuple z = false := by cases z <;> first | rfl | exact (hz ⟨_, rfl⟩).elim
      rw [accF_shape fun a b ps e => hz ⟨ps, by cases e; rfl⟩]
      exact stop (by simp [qT, qE, hzt])
theorem lref_ok {n : Nat} : ∀ (g : Nat) (t : Tb) (v : D), Wf n t → gapN t ≤ g → ∀ (k : Nat) (h : Hh), R (k + g + 3) 22 [.d (tD t), .d v] h = some (.d (.bool (accF n g t v)), h) := by
  intro g
  induction g with
  | zero => exact fun t v w hg k h => lref_step w hg h fun g e => by cases e
  | succ g ih =>
    intro t v w hg k h
    refine lref_step (K := k + g + 1) w hg h fun g' e => ?_
    cases e
    exact ⟨k + g, rfl, fun t v w hg h => ih t v w hg k h⟩
end K40

/-! K40w: values with one thing changed. -/
namespace K40
open PySem MP
theorem cutG_len {α : Type} (xs : List α) (lo hi : Option Int) : (cutG xs lo hi).length ≤ xs.length := by
  unfold cutG
  rw [List.length_take, List.length_drop]
  omega
theorem sl_any {ds : List D} {lo hi : Option Int} {h : Hh} : opSl false (.d (.tuple ds)) lo hi h = some (.d (.tuple (cutG ds lo hi)), h) := rfl
/-- trees of integers -/
def Pt : Nat → D → Prop
  | _, .int _ => True
  | m + 1, .tuple ds => ds.length ≤ 1000 ∧ ∀ d ∈ ds, Pt m d
  | _, _ => False
abbrev baseL : List D := [.none, .tuple [], .int 0, .int 1, .bool true, .bool false, .str "a", .int (-1), .tuple [.int 0], .tuple [.tuple [.int 0, .int 0]]]
abbrev spE (m : Nat) (v : D) (x y : Option Val) : Ev := [some (.loc m), some (.d v), x, y]
theorem pick_ok {h : Hh} {m : Nat} {cs : List D} {a b c : Int} (g : h[m]? = some (Tp cs a b c)) (hi : Ints cs) (ha : 0 ≤ a) {v : D} {rows : List D} {y : Option Val} (h0 : 0 < rows.length) (h1 : rows.length ≤ 1000000) (k : Nat) :
    ∃ r a' b' c', sRet (eBin opIx0 (eVar 2) (eArgs (R (k + 2) 14) (aCons (eVar 0) (aCons (eArgs opLen (aCons (eVar 2) aNil)) aNil)))) (spE m v (some (.d (.list rows))) y) h = some (.rt (.d r), spE m v (some (.d (.list rows))) y, h.set m (Tp cs a' b' c')) ∧ 0 ≤ a' := by
  obtain ⟨d, a', b', c', e, d0, d1, ha'⟩ := take_ok (many := (rows.length : Int)) g hi ha (by omega) (by omega) k
  obtain ⟨q, rfl⟩ : ∃ q : Nat, d = (q : Int) := ⟨d.toNat, by omega⟩
  have hq : q < rows.length := by omega
  exact ⟨rows[q], a', b', c', ret_of (bin_of (u := .d (.list rows)) (h1 := h) rfl (args_of' (us := [.loc m, .d (.int rows.length)]) (h1 := h) (cons_of (u := .loc m) (h1 := h) rfl (cons_of (args_of' (us := [.d (.list rows)]) (h1 := h) rfl len_l) aNil_s)) e) (ix_l (List.getElem?_eq_getElem hq))), ha'⟩
abbrev spTail (F : FE) : Stm := (sSeq (sAsg (eLst false (aCons (eD .none) (aCons (eTup aNil) (aCons (eD (.int 0)) (aCons (eD (.int 1)) (aCons (eD (.bool true)) (aCons (eD (.bool false)) (aCons (eD (.str "a")) (aCons (eUn opNeg (eD (.int 1))) (aCons (eTup (aCons (eD (.int 0)) aNil)) (aCons (eTup (aCons (eTup (aCons (eD (.int 0)) (aCons (eD (.int 0)) aNil))) aNil)) aNil))))))))))) (.nm 2))
 (sSeq (sIf (tVal (eUn (opIsi PyData.isInt) (eVar 1)))
  (sSeq (sAsg (eBin (opAdd false) (eVar 2) (eLst false (aCons (eBin (opAdd false) (eVar 1) (eD (.int 1))) (aCons (eBin opSub (eVar 1) (eD (.int 1))) (aCons (eBin opEq (eVar 1) (eD (.int 1))) (aCons (eBin (opAdd false) (eVar 1) (eD (.int 1))) aNil)))))) (.nm 2))
  sNil)
  sNil)
 (sSeq (sIf (tVal (eUn (opIsi PyData.isTuple) (eVar 1)))
  (sSeq (sAsg (eBin (opAdd false) (eVar 2) (eLst false (aCons (eSl false (eVar 1) oNone (oSome (eUn opNeg (eD (.int 1))))) (aCons (eBin (opAdd false) (eVar 1) (eSl false (eVar 1) (oSome (eUn opNeg (eD (.int 1)))) oNone)) (aCons (eUn (opRev false) (eVar 1)) (aCons (eBin (opAdd false) (eVar 1) (eTup (aCons (eTup (aCons (eD (.int 0)) (aCons (eD (.int 0)) aNil))) aNil))) (aCons (eTup (aCons (eVar 1) aNil)) (aCons (eSl false (eVar 1) (oSome (eD (.int 1))) oNone) aNil)))))))) (.nm 2))
  sNil)
  sNil)
 (sSeq (sRet (eBin opIx0 (eVar 2) (eArgs (F 14) (aCons (eVar 0) (aCons (eArgs opLen (aCons (eVar 2) aNil)) aNil)))))
 sNil))))
theorem base_ok {m : Nat} {v : D} {x y : Option Val} {h : Hh} : (sAsg (eLst false (aCons (eD .none) (aCons (eTup aNil) (aCons (eD (.int 0)) (aCons (eD (.int 1)) (aCons (eD (.bool true)) (aCons (eD (.bool false)) (aCons (eD (.str "a")) (aCons (eUn opNeg (eD (.int 1))) (aCons (eTup (aCons (eD (.int 0)) aNil)) (aCons (eTup (aCons (eTup (aCons (eD (.int 0)) (aCons (eD (.int 0)) aNil))) aNil)) aNil))))))))))) (.nm 2)) (spE m v x y) h = some (.nx, spE m v (some (.d (.list baseL))) y, h) := by
  refine asg_of' (i := 2) (v := .d (.list baseL)) ?_
  rw [eLst_s]
  simp
theorem fits_small {a b : Nat} (h1 : a ≤ 100000) (h2 : b ≤ 100000) : Fits (a + b) := by unfold Fits; omega
theorem tail_int {h : Hh} {m : Nat} {cs : List D} {a b c : Int} (g : h[m]? = some (Tp cs a b c)) (hi : Ints cs) (ha : 0 ≤ a) {z : Int} {x y : Option Val} (k : Nat) :
    ∃ r e2 a' b' c', spTail (R (k + 2)) (spE m (.int z) x y) h = some (.rt (.d r), e2, h.set m (Tp cs a' b' c')) ∧ 0 ≤ a' := by
  obtain ⟨rows, hr⟩ : ∃ rows : List D, rows = baseL ++ [.int (z + 1), .int (z - 1), .bool (decide (z = 1)), .int (z + 1)] := ⟨_, rfl⟩
  have s2 : (sAsg (eBin (opAdd false) (eVar 2) (eLst false (aCons (eBin (opAdd false) (eVar 1) (eD (.int 1))) (aCons (eBin opSub (eVar 1) (eD (.int 1))) (aCons (eBin opEq (eVar 1) (eD (.int 1))) (aCons (eBin (opAdd false) (eVar 1) (eD (.int 1))) aNil)))))) (.nm 2)) (spE m (.int z) (some (.d (.list baseL))) y) h = some (.nx, spE m (.int z) (some (.d (.list rows))) y, h) := by
    refine asg_of' (i := 2) (bin_of (u := .d (.list baseL)) (h1 := h) (v := .d (.list [.int (z + 1), .int (z - 1), .bool (decide (z = 1)), .int (z + 1)])) (h2 := h) rfl ?_ ?_)
    · rw [eLst_s]; simp
    · rw [add_ll (fits_small (by decide) (by simp)), hr]
  obtain ⟨r, a', b', c', e, ha'⟩ := pick_ok (v := .int z) (rows := rows) (y := y) g hi ha (by rw [hr]; simp) (by rw [hr]; simp) k
  refine ⟨r, _, a', b', c', seq_nx base_ok (seq_nx (if_t (h1 := h) (by simp [PyData.isInt]) (seq_one s2)) (seq_nx (if_f (h1 := h) (by simp [PyData.isTuple]) rfl) (seq_rt e))), ha'⟩
theorem tail_tup {h : Hh} {m : Nat} {cs : List D} {a b c : Int} (g : h[m]? = some (Tp cs a b c)) (hi : Ints cs) (ha : 0 ≤ a) {ds : List D} (hd : ds.length ≤ 1000) {x y : Option Val} (k : Nat) :
    ∃ r e2 a' b' c', spTail (R (k + 2)) (spE m (.tuple ds) x y) h = some (.rt (.d r), e2, h.set m (Tp cs a' b' c')) ∧ 0 ≤ a' := by
  obtain ⟨more, hmo⟩ : ∃ more : List D, more = [.tuple (cutG ds none (some (-1))), .tuple (ds ++ cutG ds (some (-1)) none), .tuple ds.reverse, .tuple (ds ++ [.tuple [.int 0, .int 0]]), .tuple [.tuple ds], .tuple (cutG ds (some 1) none)] := ⟨_, rfl⟩
  obtain ⟨rows, hr⟩ : ∃ rows : List D, rows = baseL ++ more := ⟨_, rfl⟩
  have f1 : Fits (ds.length + (cutG ds (some (-1)) none).length) := fits_small (by omega) (by have := cutG_len ds (some (-1)) none; omega)
  have f2 : Fits (ds.length + 1) := fits_small (by omega) (by omega)
  have s2 : (sAsg (eBin (opAdd false) (eVar 2) (eLst false (aCons (eSl false (eVar 1) oNone (oSome (eUn opNeg (eD (.int 1))))) (aCons (eBin (opAdd false) (eVar 1) (eSl false (eVar 1) (oSome (eUn opNeg (eD (.int 1)))) oNone)) (aCons (eUn (opRev false) (eVar 1)) (aCons (eBin (opAdd false) (eVar 1) (eTup (aCons (eTup (aCons (eD (.int 0)) (aCons (eD (.int 0)) aNil))) aNil))) (aCons (eTup (aCons (eVar 1) aNil)) (aCons (eSl false (eVar 1) (oSome (eD (.int 1))) oNone) aNil)))))))) (.nm 2)) (spE m (.tuple ds) (some (.d (.list baseL))) y) h = some (.nx, spE m (.tuple ds) (some (.d (.list rows))) y, h) := by
    refine asg_of' (i := 2) (bin_of (u := .d (.list baseL)) (h1 := h) (v := .d (.list more)) (h2 := h) rfl ?_ ?_)
    · rw [eLst_s, hmo]; simp [sl_any, f1, f2]
    · rw [add_ll (fits_small (by decide) (by rw [hmo]; simp)), hr]
  obtain ⟨r, a', b', c', e, ha'⟩ := pick_ok (v := .tuple ds) (rows := rows) (y := y) g hi ha (by rw [hr]; simp) (by rw [hr, hmo]; simp) k
  refine ⟨r, _, a', b', c', seq_nx base_ok (seq_nx (if_f (h1 := h) (by simp [PyData.isInt]) rfl) (seq_nx (if_t (h1 := h) (by simp [PyData.isTuple]) (seq_one s2)) (seq_rt e))), ha'⟩
end K40

/-! K40x: _law_spoilt does not get stuck. -/
namespace K40
open PySem MP
abbrev spT (F : FE) : Tst := (tAnd2 (tVal (eUn (opIsi PyData.isTuple) (eVar 1))) (tAnd2 (tCmpr (eBin opGt (eArgs opLen (aCons (eVar 1) aNil)) (eD (.int 0)))) (tCmpr (eBin opGt (eArgs (F 14) (aCons (eVar 0) (aCons (eD (.int 4)) aNil))) (eD (.int 0))))))
theorem spT_int {m : Nat} {z : Int} {F : FE} {h : Hh} : spT F (spE m (.int z) none none) h = some (false, h) := by
  rw [spT, tAnd2_s]; simp [PyData.isTuple]
theorem spoil_int {h : Hh} {m : Nat} {cs : List D} {a b c : Int} (g : h[m]? = some (Tp cs a b c)) (hi : Ints cs) (ha : 0 ≤ a) (z : Int) (k : Nat) :
    ∃ r a' b' c', R (k + 3) 21 [.loc m, .d (.int z)] h = some (.d r, h.set m (Tp cs a' b' c')) ∧ 0 ≤ a' := by
  obtain ⟨r, e2, a', b', c', e, ha'⟩ := tail_int (z := z) (x := none) (y := none) g hi ha k
  refine ⟨r, a', b', c', ?_, ha'⟩
  have hb : b21 (R (k + 2)) (startE 4 [.loc m, .d (.int z)]) h = some (.rt (.d r), e2, h.set m (Tp cs a' b' c')) := by
    show b21 (R (k + 2)) (spE m (.int z) none none) h = _
    unfold b21
    exact seq_nx (if_f spT_int rfl) e
  exact callS_of hb
theorem spT_nil {m : Nat} {F : FE} {h : Hh} : spT F (spE m (.tuple []) none none) h = some (false, h) := by
  rw [spT, tAnd2_s]; simp [PyData.isTuple]
theorem spT_tup {h : Hh} {m : Nat} {cs : List D} {a b c : Int} (g : h[m]? = some (Tp cs a b c)) (hi : Ints cs) (ha : 0 ≤ a) {ds : List D} (hd : 0 < ds.length) (k : Nat) :
    ∃ (t : Bool) (a' b' c' : Int), spT (R (k + 2)) (spE m (.tuple ds) none none) h = some (t, h.set m (Tp cs a' b' c')) ∧ 0 ≤ a' := by
  obtain ⟨d, a', b', c', e, d0, d1, ha'⟩ := take_ok (many := 4) g hi ha (by decide) (by decide) k
  refine ⟨decide (0 < d), a', b', c', ?_, ha'⟩
  have t1 : tVal (eUn (opIsi PyData.isTuple) (eVar 1)) (spE m (.tuple ds) none none) h = some (true, h) := by simp [PyData.isTuple]
  have t2 : tCmpr (eBin opGt (eArgs opLen (aCons (eVar 1) aNil)) (eD (.int 0))) (spE m (.tuple ds) none none) h = some (true, h) := by
    simp [hd]
  have t3 : eBin opGt (eArgs (R (k + 2) 14) (aCons (eVar 0) (aCons (eD (.int 4)) aNil))) (eD (.int 0)) (spE m (.tuple ds) none none) h = some (.d (.bool (decide (0 < d))), h.set m (Tp cs a' b' c')) :=
    bin_of (args_of' (us := [.loc m, .d (.int 4)]) (h1 := h) rfl e) rfl gt_ii
  rw [spT, tAnd2_s, t1]
  simp only
  rw [tAnd2_s, t2]
  simp only
  rw [tCmpr_s, t3]
theorem spoil_tup {h : Hh} {m : Nat} {cs : List D} {a b c : Int} (g : h[m]? = some (Tp cs a b c)) (hi : Ints cs) (ha : 0 ≤ a) {ds : List D} (hd : ds.length ≤ 1000) (k : Nat)
    (ih : ∀ d ∈ ds, ∀ {h : Hh} {a b c : Int}, h[m]? = some (Tp cs a b c) → 0 ≤ a → ∃ r a' b' c', R (k + 2) 21 [.loc m, .d d] h = some (.d r, h.set m (Tp cs a' b' c')) ∧ 0 ≤ a') :
    ∃ r a' b' c', R (k + 3) 21 [.loc m, .d (.tuple ds)] h = some (.d r, h.set m (Tp cs a' b' c')) ∧ 0 ≤ a' := by
  have fin : ∀ {r : D} {e2 : Ev} {h2 : Hh}, b21 (R (k + 2)) (spE m (.tuple ds) none none) h = some (.rt (.d r), e2, h2) → R (k + 3) 21 [.loc m, .d (.tuple ds)] h = some (.d r, h2) := fun hb => callS_of hb
  cases hl : ds with
  | nil =>
    subst hl
    obtain ⟨r, e2, a', b', c', e, ha'⟩ := tail_tup (ds := []) (x := none) (y := none) g hi ha (by simp) k
    exact ⟨r, a', b', c', fin (seq_nx (if_f spT_nil rfl) e), ha'⟩
  | cons d0 dr =>
    rw [← hl]
    have hpos : 0 < ds.length := by rw [hl]; simp
    obtain ⟨t, a1, b1, c1, ht, ha1⟩ := spT_tup g hi ha hpos k
    have g1 := set_at (o2 := Tp cs a1 b1 c1) g
    cases t with
    | false =>
      obtain ⟨r, e2, a', b', c', e, ha'⟩ := tail_tup (ds := ds) (x := none) (y := none) g1 hi ha1 hd k
      rw [List.set_set] at e
      exact ⟨r, a', b', c', fin (seq_nx (if_f ht rfl) e), ha'⟩
    | true =>
      obtain ⟨q, a2, b2, c2, hq, q0, q1, ha2⟩ := take_ok (many := (ds.length : Int)) g1 hi ha1 (by omega) (by omega) k
      obtain ⟨q, rfl⟩ : ∃ q' : Nat, q = (q' : Int) := ⟨q.toNat, by omega⟩
      have hql : q < ds.length := by omega
      rw [List.set_set] at hq
      have g2 := set_at (o2 := Tp cs a2 b2 c2) g
      obtain ⟨z, a3, b3, c3, hz, _, _, ha3⟩ := take_ok (many := 8) g2 hi ha2 (by decide) (by decide) k
      rw [List.set_set] at hz
      have g3 := set_at (o2 := Tp cs a3 b3 c3) g
      have s1 : (sAsg (eArgs (R (k + 2) 14) (aCons (eVar 0) (aCons (eArgs opLen (aCons (eVar 1) aNil)) aNil))) (.nm 3)) (spE m (.tuple ds) none none) (h.set m (Tp cs a1 b1 c1)) = some (.nx, spE m (.tuple ds) none (some (.d (.int q))), h.set m (Tp cs a2 b2 c2)) :=
        asg_of' (i := 3) (args_of' (us := [.loc m, .d (.int ds.length)]) (h1 := h.set m (Tp cs a1 b1 c1)) (cons_of (u := .loc m) (h1 := h.set m (Tp cs a1 b1 c1)) rfl (cons_of (args_of' (us := [.d (.tuple ds)]) (h1 := h.set m (Tp cs a1 b1 c1)) rfl len_t) aNil_s)) hq)
      have q8 : eBin opEq (eArgs (R (k + 2) 14) (aCons (eVar 0) (aCons (eD (.int 8)) aNil))) (eD (.int 0)) (spE m (.tuple ds) none (some (.d (.int q)))) (h.set m (Tp cs a2 b2 c2)) = some (.d (.bool (decide (z = 0))), h.set m (Tp cs a3 b3 c3)) :=
        bin_of (args_of' (us := [.loc m, .d (.int 8)]) (h1 := h.set m (Tp cs a2 b2 c2)) rfl hz) rfl eq_ii
      have t8 : tCmpr (eBin opEq (eArgs (R (k + 2) 14) (aCons (eVar 0) (aCons (eD (.int 8)) aNil))) (eD (.int 0))) (spE m (.tuple ds) none (some (.d (.int q)))) (h.set m (Tp cs a2 b2 c2)) = some (decide (z = 0), h.set m (Tp cs a3 b3 c3)) := by rw [tCmpr_s, q8]
      have lo : ∀ h, eSl false (eVar 1) oNone (oSome (eVar 3)) (spE m (.tuple ds) none (some (.d (.int q)))) h = some (.d (.tuple (ds.take q)), h) := fun h => by rw [eSl_s]; exact sl_to
      have up : ∀ h, eSl false (eVar 1) (oSome (eBin (opAdd false) (eVar 3) (eD (.int 1)))) oNone (spE m (.tuple ds) none (some (.d (.int q)))) h = some (.d (.tuple (ds.drop (q + 1))), h) := fun h => by rw [eSl_s]; exact sl_from1
      have z1 : (ds.take q).length ≤ 1000 := by rw [List.length_take]; omega
      have z2 : (ds.drop (q + 1)).length ≤ 1000 := by rw [List.length_drop]; omega
      by_cases h0 : z = 0
      · exact ⟨_, a3, b3, c3, fin (seq_rt (if_t ht (seq_nx s1 (seq_rt (if_t (t8.trans (by rw [decide_eq_true h0])) (seq_rt (ret_of (bin_of (lo _) (up _) (add_tt (fits_small (by omega) (by omega))))))))))), ha3⟩
      · obtain ⟨r, a4, b4, c4, hr, ha4⟩ := ih ds[q] (List.getElem_mem hql) g3 ha3
        rw [List.set_set] at hr
        have mid : eTup (aCons (eArgs (R (k + 2) 21) (aCons (eVar 0) (aCons (eBin opIx0 (eVar 1) (eVar 3)) aNil))) aNil) (spE m (.tuple ds) none (some (.d (.int q)))) (h.set m (Tp cs a3 b3 c3)) = some (.d (.tuple [r]), h.set m (Tp cs a4 b4 c4)) := by
          rw [eTup_s, cons_of (args_of' (cons_of (u := .loc m) (h1 := h.set m (Tp cs a3 b3 c3)) rfl (cons_of (bin_of (u := .d (.tuple ds)) (h1 := h.set m (Tp cs a3 b3 c3)) (v := .d (.int q)) (h2 := h.set m (Tp cs a3 b3 c3)) rfl rfl (ix_t (List.getElem?_eq_getElem hql))) aNil_s)) hr) aNil_s]
          simp
        exact ⟨_, a4, b4, c4, fin (seq_rt (if_t ht (seq_nx s1 (seq_nx (if_f (t8.trans (by rw [decide_eq_false h0])) rfl) (seq_rt (ret_of (bin_of (bin_of (lo _) mid (add_tt (fits_small (by omega) (by simp)))) (up _) (add_tt (fits_small (by rw [List.length_append]; simp; omega) (by omega)))))))))), ha4⟩
/-- _law_spoilt hands back something, the tape goes on -/
theorem spoil_ok : ∀ (n : Nat) (v : D), Pt n v → ∀ {h : Hh} {m : Nat} {cs : List D} {a b c : Int}, h[m]? = some (Tp cs a b c) → Ints cs → 0 ≤ a → ∀ k, ∃ r a' b' c', R (k + n + 3) 21 [.loc m, .d v] h = some (.d r, h.set m (Tp cs a' b' c')) ∧ 0 ≤ a' := by
  intro n
  induction n with
  | zero =>
    intro v hv h m cs a b c g hi ha k
    cases v with
    | int z => exact spoil_int g hi ha z k
    | _ => cases hv
  | succ n ih =>
    intro v hv h m cs a b c g hi ha k
    cases v with
    | int z => exact spoil_int g hi ha z (k + (n + 1))
    | tuple ds => exact spoil_tup g hi ha hv.1 (k + (n + 1)) fun d hd h2 a2 b2 c2 g1 ha1 => ih d (hv.2 d hd) g1 hi ha1 k
    | _ => cases hv
end K40

/-! K40y: a table begun. -/
namespace K40
open PySem MP
def TA (m : Nat) (h : Hh) : Prop := ∃ cs a b c, h[m]? = some (Tp cs a b c) ∧ Ints cs ∧ 0 ≤ a
theorem TA.lt {m : Nat} {h : Hh} (t : TA m h) : m < h.length := by
  obtain ⟨cs, a, b, c, g, _⟩ := t
  exact (List.getElem?_eq_some_iff.mp g).1
theorem TA.add {m : Nat} {h h2 : Hh} (t : TA m h) : TA m (h ++ h2) := by
  have hl := t.lt
  obtain ⟨cs, a, b, c, g, r⟩ := t
  exact ⟨cs, a, b, c, by rw [List.getElem?_append_left hl]; exact g, r⟩
theorem TA.set {m j : Nat} {h : Hh} {o : Ob} (t : TA m h) (hj : j ≠ m) : TA m (h.set j o) := by
  obtain ⟨cs, a, b, c, g, r⟩ := t
  exact ⟨cs, a, b, c, by rw [List.getElem?_set_ne hj]; exact g, r⟩
theorem takeW {m : Nat} {h : Hh} {many : Nat} (t : TA m h) (hm : 0 < many) (hM : many ≤ 1000000) (k : Nat) :
    We (R (k + 2) 14 [.loc m, .d (.int many)] h) fun v h2 => ∃ d : Nat, v = .d (.int d) ∧ d < many ∧ ∃ o, h2 = h.set m o ∧ TA m h2 := by
  obtain ⟨cs, a, b, c, g, hi, ha⟩ := t
  obtain ⟨d, a', b', c', e, d0, d1, ha'⟩ := take_ok (many := many) g hi ha (by omega) (by omega) k
  exact ⟨_, _, e, d.toNat, by rw [Int.toNat_of_nonneg d0], by omega, _, rfl, cs, a', b', c', set_at g, hi, ha'⟩
theorem r20 (k : Nat) : R (k + 1) 20 = callS 13 (b20 (R k)) := rfl
abbrev iD (q : Nat) : D := .int (q : Nat)
abbrev rowO (r : List Nat) : Ob := .lst (r.map fun q => .d (.int (q : Nat)))
theorem small_of {a : Nat} (q : a ≤ 1000000) : Small a := by unfold Small; omega
theorem erase_mem {α : Type} {l : List α} {i : Nat} {x : α} (q : x ∈ l.eraseIdx i) : x ∈ l := (List.eraseIdx_sublist l i).subset q
theorem at_app {h1 r : Hh} {H j : Nat} (e : h1.length = H) : (h1 ++ r)[H + j]? = r[j]? := by
  subst e
  rw [List.getElem?_append_right (by omega)]
  congr 1
  omega
theorem set_app {h1 r : Hh} {H j : Nat} {o : Ob} (e : h1.length = H) : (h1 ++ r).set (H + j) o = h1 ++ r.set j o := by
  subst e
  rw [List.set_append_right _ _ (by omega)]
  congr 2
  omega
theorem set_low {h1 r : Hh} {m : Nat} {o : Ob} (e : m < h1.length) : (h1 ++ r).set m o = h1.set m o ++ r := List.set_append_left _ _ e
theorem TA.low {m : Nat} {h1 r : Hh} (t : TA m (h1 ++ r)) (e : m < h1.length) : TA m h1 := by
  obtain ⟨cs, a, b, c, g, q⟩ := t
  exact ⟨cs, a, b, c, by rw [List.getElem?_append_left e] at g; exact g, q⟩
abbrev mxB (F : FE) : Stm := (sSeq (sDrop (eMthL mAppend (eVar 4) (aCons (eLc false (iRg (aCons (eVar 1) aNil)) [10] (.nm 10) tYs (eMthL mPop (eVar 5) (aCons (eArgs (F 14) (aCons (eVar 0) (aCons (eArgs opLen (aCons (eVar 5) aNil)) aNil))) aNil))) aNil))) sNil)
/-- the heap: what was there, the rows to be mixed, their list, the mixed ones -/
def hp (h1 : Hh) (rows : List (List Nat)) (A : Ob) (mx : List (List Nat)) : Hh := h1 ++ (rows.map rowO ++ [A, .lst (mx.map fun r => .d (.list (r.map iD)))])
section
variable {h1 : Hh} {rows mx : List (List Nat)} {A : Ob} {H i m : Nat}
theorem hp_mx (e : h1.length = H) (e2 : rows.length = 3) : (hp h1 rows A mx)[H + 4]? = some (.lst (mx.map fun r => .d (.list (r.map iD)))) := by
  unfold hp; rw [at_app e, List.getElem?_append_right (by simp [e2])]; simp [e2]
theorem hp_A (e : h1.length = H) (e2 : rows.length = 3) : (hp h1 rows A mx)[H + 3]? = some A := by
  unfold hp; rw [at_app e, List.getElem?_append_right (by simp [e2])]; simp [e2]
theorem hp_row (e : h1.length = H) (e2 : rows.length = 3) (hi : i < 3) : (hp h1 rows A mx)[H + i]? = some (rowO (rows[i]?.getD [])) := by
  unfold hp; rw [at_app e, List.getElem?_append_left (by simp [e2]; exact hi)]; simp [e2, hi]
theorem hp_low {o : Ob} (e : m < h1.length) : (hp h1 rows A mx).set m o = hp (h1.set m o) rows A mx := set_low e
theorem hp_set {r : List Nat} (e : h1.length = H) (e2 : rows.length = 3) (hi : i < 3) : (hp h1 rows A mx).set (H + i) (rowO r) = hp h1 (rows.set i r) A mx := by
  unfold hp; rw [set_app e, List.set_append_left _ _ (by simp [e2, hi])]; simp [List.map_set]
theorem hp_set4 {r : List Nat} (e : h1.length = H) (e2 : rows.length = 3) : (hp h1 rows A mx).set (H + 4) (.lst ((mx.map fun r => .d (.list (r.map iD))) ++ [.d (.list (r.map iD))])) = hp h1 rows A (mx ++ [r]) := by
  unfold hp; rw [set_app e, List.set_append_right _ _ (by simp [e2])]; simp [e2]
theorem hp_ta (t : TA m h1) : TA m (hp h1 rows A mx) := t.add
end
theorem erase_map {α β : Type} (f : α → β) : ∀ (l : List α) (i : Nat), (l.map f).eraseIdx i = (l.eraseIdx i).map f
  | [], _ => rfl
  | a :: l, 0 => rfl
  | a :: l, i + 1 => by simp [erase_map f l i]
/-- one row is mixed -/
theorem mix_row {m n : Nat} {H : Nat} (hn : 0 < n) (hn4 : n ≤ 4) (k : Nat) {N : Ev → Hh → Prop} {T : Val → Hh → Prop} {B C : Ev → Hh → Prop}
    {h1 : Hh} (hl : h1.length = H) (t : TA m h1) {mx rows : List (List Nat)} {i : Nat} (hi : i < 3) (hr : rows.length = 3) (hrn : ∀ r ∈ rows, ∀ q ∈ r, q < n) (hln : (rows[i]?.getD []).length = n) (hmx : mx.length = i) {A : Ob}
    (hN : ∀ (r : List Nat) (r2 : List Nat) (h1 : Hh), r.length = n → (∀ q ∈ r, q < n) → h1.length = H → (∀ q ∈ r2, q < n) → TA m h1 →
      N [some (.loc m), some (.d (.int n)), some (.d (.int 6)), some (.loc (H + 3)), some (.loc (H + 4)), some (.loc (H + i)), none, none, none, none, none, none, none]
        (hp h1 (rows.set i r2) A (mx ++ [r]))) :
    Ws (mxB (R (k + 2)) [some (.loc m), some (.d (.int n)), some (.d (.int 6)), some (.loc (H + 3)), some (.loc (H + 4)), some (.loc (H + i)), none, none, none, none, none, none, none]
      (hp h1 rows A mx)) N T B C := by
  unfold mxB
  simp [hp_mx hl hr]
  refine ⟨by omega, ?_⟩
  refine We_lcI (fun q acc hh => ∃ (r r2 : List Nat) (h1 : Hh), r.length = q ∧ r2.length = n - q ∧ (∀ q ∈ r, q < n) ∧ (∀ q ∈ r2, q < n) ∧ h1.length = H ∧ TA m h1 ∧ acc = (r.map iD).map .d ∧
    hh = hp h1 (rows.set i r2) A mx) ?_ rfl ?_ ?_ ?_
  · simp; omega
  · refine ⟨[], rows[i]?.getD [], h1, rfl, by rw [hln]; rfl, by simp, ?_, hl, t, rfl, ?_⟩
    · have : i < rows.length := by omega
      simp [this]
      exact hrn _ (List.getElem_mem this)
    · have : i < rows.length := by omega
      simp [this]
  · rintro q hq _ _ ⟨r, r2, h1, l1, l2, m1, m2, l3, t, rfl, rfl⟩
    have hq : q < n := by simpa using hq
    have hm := t.lt
    have hr2 : ∀ r2, (rows.set i r2).length = 3 := fun r2 => by simpa using hr
    simp [hp_row l3 (hr2 r2) hi]
    have e0 : (rows.set i r2)[i]?.getD [] = r2 := by simp [hr, hi]
    rw [e0]
    refine (takeW (hp_ta t) (by omega) (by omega) k).mono ?_
    rintro _ _ ⟨d, rfl, hd, o, rfl, t2⟩
    rw [hp_low hm] at t2 ⊢
    have l4 : (h1.set m o).length = H := by rw [List.length_set, l3]
    simp
    refine We_popi ?_
    simp [hp_row l4 (hr2 r2) hi, e0]
    refine ⟨small_of (by omega), by omega, r ++ [r2[d]?.getD 0], by simp [l1], r2.eraseIdx d, by rw [List.length_eraseIdx]; split <;> omega, ?_, fun q z => m2 q (erase_mem z), h1.set m o, l4, t2.low (by rw [List.length_set]; exact hm), ?_, ?_⟩
    · intro q hq2
      rcases List.mem_append.mp hq2 with z | z
      · exact m1 q z
      · rw [List.mem_singleton.mp z]; simp [hd]; exact m2 _ (List.getElem_mem _)
    · simp [hd]
    · have := hp_set (r := r2.eraseIdx d) (A := A) (mx := mx) l4 (hr2 r2) hi
      simp at this
      rw [← this]
      simp [rowO, erase_map]
  · rintro _ _ ⟨r, r2, h1, l1, l2, m1, m2, l3, t, rfl, rfl⟩
    have hr2 : (rows.set i r2).length = 3 := by simpa using hr
    simp only [mkL_map]
    simp [hp_mx l3 hr2]
    refine ⟨small_of (by omega), ?_⟩
    rw [hp_set4 l3 hr2]
    exact hN r r2 h1 (by simpa using l1) m1 l3 m2 t
/-- mixing the rows -/
theorem mix_rows {m n : Nat} {H : Nat} (hn : 0 < n) (hn4 : n ≤ 4) (k : Nat) {N : Ev → Hh → Prop} {T : Val → Hh → Prop} {B C : Ev → Hh → Prop}
    {h1 : Hh} (hl : h1.length = H) (t : TA m h1) {A : Ob} (hA : A = .lst ((List.range 3).map fun j => .loc (H + j)))
    (hN : ∀ (mx : List (List Nat)) (rows : List (List Nat)) (h1 : Hh) y, mx.length = 3 → (∀ r ∈ mx, r.length = n ∧ ∀ q ∈ r, q < n) → h1.length = H → rows.length = 3 → TA m h1 →
      N [some (.loc m), some (.d (.int n)), some (.d (.int 6)), some (.loc (H + 3)), some (.loc (H + 4)), y, none, none, none, none, none, none, none] (hp h1 rows A mx)) :
    Ws (forS (.lv (H + 3)) (.nm 5) (mxB (R (k + 2))) sNil [some (.loc m), some (.d (.int n)), some (.d (.int 6)), some (.loc (H + 3)), some (.loc (H + 4)), none, none, none, none, none, none, none, none]
      (hp h1 (List.replicate 3 (List.range n)) A [])) N T B C := by
  refine Ws_frS (n := 3) (ι := fun j => .one (.loc (H + j))) (fun i e hh => ∃ (mx : List (List Nat)) (rows : List (List Nat)) (h1 : Hh) (y : Option Val), mx.length = i ∧ (∀ r ∈ mx, r.length = n ∧ ∀ q ∈ r, q < n) ∧ h1.length = H ∧
      rows.length = 3 ∧ (∀ r ∈ rows, ∀ q ∈ r, q < n) ∧ (∀ j, i ≤ j → j < 3 → (rows[j]?.getD []).length = n) ∧ TA m h1 ∧
      e = [some (.loc m), some (.d (.int n)), some (.d (.int 6)), some (.loc (H + 3)), some (.loc (H + 4)), y, none, none, none, none, none, none, none] ∧ hh = hp h1 rows A mx) ?_ ?_ ?_ ?_ ?_
  · rintro i _ _ ⟨mx, rows, h1, y, q1, q2, q3, q4, q5, q6, q7, rfl, rfl⟩
    unfold Src.now
    simp only
    rw [li_loc (xs := (List.range 3).map fun j => .loc (H + j)) (by rw [hp_A q3 q4, hA])]
    simp
  · exact Nat.le_trans (by decide) fuel_lv
  · exact ⟨[], List.replicate 3 (List.range n), h1, none, rfl, by simp, hl, rfl, by simp, fun j _ hj => by rw [List.getElem?_replicate, if_pos hj, Option.getD_some, List.length_range], t, rfl, rfl⟩
  · rintro i hi _ _ ⟨mx, rows, h1, y, q1, q2, q3, q4, q5, q6, q7, rfl, rfl⟩
    refine ⟨_, rfl, ?_⟩
    refine mix_row hn hn4 k q3 q7 hi q4 q5 (q6 i (Nat.le_refl _) hi) q1 ?_
    rintro r r2 h1 a1 a2 a3 a4 a5
    refine ⟨mx ++ [r], rows.set i r2, h1, _, by simp [q1], ?_, a3, by simp [q4], ?_, fun j hj hj3 => ?_, a5, rfl, rfl⟩
    · intro x hx
      rcases List.mem_append.mp hx with z | z
      · exact q2 x z
      · rw [List.mem_singleton.mp z]; exact ⟨a1, a2⟩
    · intro x hx
      rcases List.mem_or_eq_of_mem_set hx with z | z
      · exact q5 x z
      · rw [z]; exact a4
    · rw [List.getElem?_set_ne (by omega)]; exact q6 j (by omega) hj3
  · rintro _ _ ⟨mx, rows, h1, y, q1, q2, q3, q4, q5, q6, q7, rfl, rfl⟩
    simp
    exact hN mx rows h1 y (by simpa using q1) q2 q3 q4 q7
end K40

/-! K40z: a table begun, the rows. -/
namespace K40
open PySem MP
def Cell (n : Nat) (d : D) : Prop := d = .none ∨ ∃ x : Nat, x < n ∧ d = .int x
theorem cell_snoc {n : Nat} {r : List D} {x : D} (cr : ∀ d ∈ r, Cell n d) (c : Cell n x) : ∀ d ∈ r ++ [x], Cell n d := by
  intro d hd
  rcases List.mem_append.mp hd with z | z
  · exact cr d z
  · rw [List.mem_singleton.mp z]; exact c
/-- what stays while the tape goes on -/
structure Bg (m q : Nat) (r0 r1 r2 : List Nat) (g : Hh) : Prop where
  t : TA m g
  x : g[q]? = some (.lst [.d (.list (r0.map iD)), .d (.list (r1.map iD)), .d (.list (r2.map iD))])
  n : m ≠ q
theorem Bg.set {m q : Nat} {r0 r1 r2 : List Nat} {g : Hh} (b : Bg m q r0 r1 r2 g) {o : Ob} (t : TA m (g.set m o)) : Bg m q r0 r1 r2 (g.set m o) :=
  ⟨t, by rw [List.getElem?_set_ne b.n]; exact b.x, b.n⟩
abbrev rwB (F : FE) : Stm := (sSeq (sDrop (eMthL mAppend (eVar 6) (aCons (eArgs opTuple (aCons (eLc false (iRg (aCons (eVar 1) aNil)) [11] (.nm 11) tYs (eIf (tCmpr (eBin opLt (eArgs (F 14) (aCons (eVar 0) (aCons (eD (.int 10)) aNil))) (eVar 2))) (eD .none) (eBin opIx0 (eBin opIx0 (eVar 4) (eD (.int 2))) (eBin opSub (eBin (opAdd false) (eBin opIx0 (eBin opIx0 (eVar 4) (eD (.int 0))) (eVar 7)) (eBin opIx0 (eBin opIx0 (eVar 4) (eD (.int 1))) (eVar 11))) (eBin (opMul false) (eBin opFdiv (eBin (opAdd false) (eBin opIx0 (eBin opIx0 (eVar 4) (eD (.int 0))) (eVar 7)) (eBin opIx0 (eBin opIx0 (eVar 4) (eD (.int 1))) (eVar 11))) (eVar 1)) (eVar 1)))))) aNil)) aNil))) sNil)
theorem row_begun {m n q : Nat} (hn : 0 < n) (hn4 : n ≤ 4) (k : Nat) {N : Ev → Hh → Prop} {T : Val → Hh → Prop} {B C : Ev → Hh → Prop} {g : Hh} {r0 r1 r2 : List Nat} (b : Bg m q r0 r1 r2 g)
    (l0 : r0.length = n) (l1 : r1.length = n) (l2 : r2.length = n) (m2 : ∀ x ∈ r2, x < n) {i p : Nat} (hi : i < n) (hp : p ≠ m) (hpq : p ≠ q) {rows : List (List D)} (hr : rows.length = i) (gp : g[p]? = some (.lst ((rows.map .tuple).map .d))) {a3 a5 : Option Val}
    (hN : ∀ (r : List D) (g : Hh), Bg m q r0 r1 r2 g → r.length = n → (∀ d ∈ r, Cell n d) → g[p]? = some (.lst (((rows ++ [r]).map .tuple).map .d)) →
      N [some (.loc m), some (.d (.int n)), some (.d (.int 6)), a3, some (.loc q), a5, some (.loc p), some (.d (.int i)), none, none, none, none, none] g) :
    Ws (rwB (R (k + 2)) [some (.loc m), some (.d (.int n)), some (.d (.int 6)), a3, some (.loc q), a5, some (.loc p), some (.d (.int i)), none, none, none, none, none] g) N T B C := by
  unfold rwB
  simp [gp]
  refine ⟨by omega, ?_⟩
  refine We_lcR (fun j acc hh => ∃ r : List D, acc = r.map .d ∧ r.length = j ∧ (∀ d ∈ r, Cell n d) ∧ Bg m q r0 r1 r2 hh ∧ hh[p]? = some (.lst ((rows.map .tuple).map .d))) (by omega) ⟨[], rfl, rfl, by simp, b, gp⟩ ?_ ?_
  · rintro j hj _ hh ⟨r, rfl, lr, cr, b, gp⟩
    simp
    refine (takeW (many := 10) b.t (by omega) (by omega) k).mono ?_
    rintro _ _ ⟨d, rfl, hd, o, rfl, t2⟩
    have b2 := b.set t2
    have gp2 : (hh.set m o)[p]? = some (.lst ((rows.map .tuple).map .d)) := by rw [List.getElem?_set_ne (Ne.symm hp)]; exact gp
    simp
    split
    · simp at gp2
      exact ⟨r ++ [.none], by simp, by simp [lr], cell_snoc cr (.inl rfl), b2, gp2⟩
    · have z1 : (0 : Int) < n := by omega
      have z2 : (n : Int) < 9000 := by omega
      simp [b2.x, fdiv_small z1 z2, l0, l1, hi, hj]
      refine ⟨mulOk_of (.inr (by omega)), ?_⟩
      have z3 : (r0[i] + r1[j]) % n < n := Nat.mod_lt _ hn
      refine Wo_at' ((r0[i] + r1[j]) % n) ?_ (by simpa [l2] using z3) ?_
      · rw [Int.natCast_emod, Int.natCast_add, Int.emod_def, Int.mul_comm (n : Int)]
      · simp at gp2
        simp
        exact ⟨r ++ [.int (r2[(r0[i] + r1[j]) % n])], by simp, by simp [lr], cell_snoc cr (.inr ⟨_, m2 _ (List.getElem_mem _), rfl⟩), b2, gp2⟩
  · rintro _ hh ⟨r, rfl, lr, cr, b, gp⟩
    simp [gp]
    refine ⟨small_of (by omega), hN r _ ⟨b.t.set hp, by rw [List.getElem?_set_ne hpq]; exact b.x, b.n⟩ lr cr ?_⟩
    rw [List.getElem?_set_self (List.getElem?_eq_some_iff.mp gp).1]
    simp
end K40

/-! K40za: a table begun, whole. -/
namespace K40
open PySem MP
theorem ne_nil {ds : List D} {h : Hh} : opNe (.d (.list ds)) (.d (.list [])) h = some (.d (.bool (!ds.isEmpty)), h) := by
  show (match view 8 (.d (.list ds)) h, view 8 (.d (.list [])) h with
    | some x, some y => if dOk 60 x || dOk 60 y then some (Val.d (.bool (!PyData.eqv x y)), h) else none
    | _, _ => none) = _
  rw [view_d, view_d]
  have : dOk 60 (.list []) = true := rfl
  simp only [this, Bool.or_true, if_true]
  cases ds <;> rfl
theorem eq_nil {ds : List D} {h : Hh} : opEq (.d (.list ds)) (.d (.list [])) h = some (.d (.bool ds.isEmpty), h) := by
  show (match view 8 (.d (.list ds)) h, view 8 (.d (.list [])) h with
    | some x, some y => if dOk 60 x || dOk 60 y then some (Val.d (.bool (PyData.eqv x y)), h) else none
    | _, _ => none) = _
  rw [view_d, view_d]
  have : dOk 60 (.list []) = true := rfl
  simp only [this, Bool.or_true, if_true]
  cases ds <;> rfl
/-- tables with cells -/
structure Tc (n : Nat) (t : Tb) : Prop where
  w : Wf n t
  c : ∀ r ∈ t, ∀ d ∈ r, Cell n d
theorem Tc.set {n : Nat} {t : Tb} (c : Tc n t) {i j x : Nat} (hi : i < n) (hx : x < n) : Tc n (setC t i j (.int x)) := by
  refine ⟨setC_wf c.w hi _, fun r hr d hd => ?_⟩
  unfold setC at hr
  rcases List.mem_or_eq_of_mem_set hr with z | z
  · exact c.c r z d hd
  · subst z
    rcases List.mem_or_eq_of_mem_set hd with y | y
    · exact c.c _ (List.mem_of_getElem? (row_at c.w hi).1) d y
    · rw [y]; exact .inr ⟨x, hx, rfl⟩
theorem parts_lt {n : Nat} {t : Tb} (w : Wf n t) {i j x : Nat} (hx : x ∈ parts t i j) : x < n := by
  unfold parts at hx
  have := (List.mem_filter.mp hx).1
  rw [List.mem_range, w.len] at this
  exact this
theorem Tc.gap {n : Nat} {t : Tb} (c : Tc n t) (hn : n ≤ 4) : gapN t ≤ 16 := by
  have key : ∀ l : Tb, (∀ r ∈ l, r.length = n) → (l.map fun r => r.countP isNoneD).sum ≤ l.length * 4 := by
    intro l hl
    induction l with
    | nil => simp
    | cons r l ih =>
      have h1 : r.countP isNoneD ≤ r.length := List.countP_le_length
      have h2 := hl r List.mem_cons_self
      have h3 := ih fun r hr => hl r (List.mem_cons_of_mem _ hr)
      simp only [List.map_cons, List.sum_cons, List.length_cons]
      omega
  have := key t c.w.row
  have hl := c.w.len
  unfold gapN
  omega
theorem takeT {m : Nat} {h : Hh} {many : Nat} (t : TA m h) (hm : 0 < many) (hM : many ≤ 1000000) (k : Nat) :
    We (R (k + 2) 14 [.loc m, .d (.int many)] h) fun v h2 => ∃ d : Nat, v = .d (.int d) ∧ d < many ∧ TA m h2 :=
  (takeW t hm hM k).mono fun _ _ ⟨d, e, l, _, _, t⟩ => ⟨d, e, l, t⟩
theorem lp {n : Nat} {t : Tb} (w : Wf n t) {i j : Nat} : (parts t i j).length ≤ n := by
  unfold parts
  refine Nat.le_trans (List.length_filter_le _ _) ?_
  rw [List.length_range, w.len]; exact Nat.le_refl _
/-- table, places of a step: a part that can stand there is put there, or nothing -/
abbrev stB (F : FE) : Stm := (sSeq (sAsg (eTup (aCons (eArgs (F 14) (aCons (eVar 0) (aCons (eVar 1) aNil))) (aCons (eArgs (F 14) (aCons (eVar 0) (aCons (eVar 1) aNil))) aNil))) (.tp [(.nm 7), (.nm 11)]))
  (sSeq (sIf (tAnd2 (tCmpr (eBin opIs (eBin opIx0 (eBin opIx0 (eVar 8) (eVar 7)) (eVar 11)) (eD .none))) (tCmpr (eBin opNe (eArgs (F 17) (aCons (eVar 8) (aCons (eVar 7) (aCons (eVar 11) aNil)))) (eLst false aNil))))
   (sSeq (sAsg (eArgs (F 17) (aCons (eVar 8) (aCons (eVar 7) (aCons (eVar 11) aNil)))) (.nm 12))
   (sSeq (sAsg (eArgs (F 18) (aCons (eVar 8) (aCons (eVar 7) (aCons (eVar 11) (aCons (eBin opIx0 (eVar 12) (eArgs (F 14) (aCons (eVar 0) (aCons (eArgs opLen (aCons (eVar 12) aNil)) aNil)))) aNil))))) (.nm 8))
   sNil))
   sNil)
  sNil))
theorem step_begun {m n : Nat} (hn : 0 < n) (hn4 : n ≤ 4) (k : Nat) {N : Ev → Hh → Prop} {T : Val → Hh → Prop} {B C : Ev → Hh → Prop} {g : Hh} (ta : TA m g) {t : Tb} (c : Tc n t) {a2 a3 a4 a5 a6 a7 a9 a10 a11 a12 : Option Val}
    (hN : ∀ g t a7 a11 a12, TA m g → Tc n t → N [some (.loc m), some (.d (.int n)), a2, a3, a4, a5, a6, a7, some (.d (tD t)), a9, a10, a11, a12] g) :
    Ws (stB (R (k + 2)) [some (.loc m), some (.d (.int n)), a2, a3, a4, a5, a6, a7, some (.d (tD t)), a9, a10, a11, a12] g) N T B C := by
  unfold stB
  have hw := c.w
  simp
  refine (takeT ta hn (by omega) k).mono ?_
  rintro _ _ ⟨i, rfl, hi, ta⟩
  simp
  refine (takeT ta hn (by omega) k).mono ?_
  rintro _ _ ⟨j, rfl, hj, ta⟩
  have rl := (row_at hw hi).2
  simp [ix_row hw hi, rl, hj, parts_ok hw hi hj, partsD, ne_nil]
  split
  · split
    · exact hN _ _ _ _ _ ta c
    · rename_i hp
      have hpos : 0 < (parts t i j).length := List.length_pos_iff.mpr hp
      have hle := lp hw (i := i) (j := j)
      refine (takeT ta hpos (by omega) k).mono ?_
      rintro _ _ ⟨d, rfl, hd, ta⟩
      simp [hd, lwith_ok hw hi hj]
      exact hN _ _ _ _ _ ta (c.set hi (parts_lt hw (List.getElem_mem hd)))
  · exact hN _ _ _ _ _ ta c
/-- _law_begun -/
theorem begun_ok {m n : Nat} {h : Hh} (hn : 0 < n) (hn4 : n ≤ 4) (t : TA m h) (k : Nat) : We (R (k + 3) 20 [.loc m, .d (.int n), .d (.int 6)] h) fun v h2 => ∃ t, v = .d (tD t) ∧ Tc n t ∧ TA m h2 := by
  rw [r20]
  refine We_callS ?_
  unfold b20
  simp
  refine We_lcR (fun i acc hh => acc = (List.range i).map (fun j => .loc (h.length + j)) ∧ hh = h ++ (List.replicate i (List.range n)).map rowO) ?_ ?_ ?_ ?_
  · simp
  · simp
  · rintro i hi _ _ ⟨rfl, rfl⟩
    simp [List.range_succ, List.replicate_succ']
    omega
  · rintro _ _ ⟨rfl, rfl⟩
    obtain ⟨A, hA⟩ : ∃ A : Ob, A = .lst ((List.range 3).map fun j => .loc (h.length + j)) := ⟨_, rfl⟩
    obtain ⟨rs, hrs⟩ : ∃ rs, rs = List.replicate 3 (List.range n) := ⟨_, rfl⟩
    have lrs : rs.length = 3 := by rw [hrs, List.length_replicate]
    rw [← hrs]
    have e1 : (h ++ rs.map rowO).length = h.length + 3 := by simp [lrs]
    have e2 : h ++ rs.map rowO ++ [A] ++ [.lst []] = hp h rs A [] := by simp [hp]
    have e3 : (h ++ rs.map rowO ++ [A]).length = h.length + 4 := by simp [lrs]
    rw [mkL_t, ← hA, e1]
    generalize h ++ rs.map rowO ++ [A] = h4 at e2 e3
    simp [e2, e3, hp_A (h1 := h) rfl lrs, hA]
    rw [← hA]
    subst hA
    subst hrs
    refine mix_rows hn hn4 k rfl t rfl ?_
    intro mx rows h1 y q1 q2 q3 q4 t
    obtain ⟨r0, r1, r2, rfl⟩ : ∃ r0 r1 r2, mx = [r0, r1, r2] := match mx, q1 with
      | [r0, r1, r2], _ => ⟨r0, r1, r2, rfl⟩
    have hm := t.lt
    have b : Bg m (h.length + 4) r0 r1 r2 (hp h1 rows (.lst ((List.range 3).map fun j => .loc (h.length + j))) [r0, r1, r2]) := ⟨hp_ta t, hp_mx q3 q4, by omega⟩
    have hg : (hp h1 rows (.lst ((List.range 3).map fun j => .loc (h.length + j))) [r0, r1, r2]).length = h.length + 5 := by simp [hp, q3, q4]
    generalize hp h1 rows (.lst ((List.range 3).map fun j => .loc (h.length + j))) [r0, r1, r2] = g at b hg
    simp [hg]
    refine ⟨by omega, ?_⟩
    refine Ws_fr (fun i e g => ∃ (rows : List (List D)) (a7 : Option Val), rows.length = i ∧ (∀ r ∈ rows, r.length = n ∧ ∀ d ∈ r, Cell n d) ∧ Bg m (h.length + 4) r0 r1 r2 g ∧ g[h.length + 5]? = some (.lst ((rows.map .tuple).map .d)) ∧
      e = [some (.loc m), some (.d (.int n)), some (.d (.int 6)), some (.loc (h.length + 3)), some (.loc (h.length + 4)), y, some (.loc (h.length + 5)), a7, none, none, none, none, none]) ?_ ?_ ?_
    · exact ⟨[], none, rfl, by simp, ⟨b.t.add, by rw [List.getElem?_append_left (by omega)]; exact b.x, b.n⟩, by rw [← hg]; simp, rfl⟩
    · rintro i hi _ g ⟨rows, a7, c1, c2, b, gp, rfl⟩
      refine ⟨_, rfl, ?_⟩
      refine row_begun hn hn4 k b (q2 r0 (by simp)).1 (q2 r1 (by simp)).1 (q2 r2 (by simp)).1 (q2 r2 (by simp)).2 hi (by omega) (by omega) c1 gp ?_
      intro r g b lr cr gp
      refine ⟨rows ++ [r], _, by simp [c1], ?_, b, gp, rfl⟩
      intro x hx
      rcases List.mem_append.mp hx with z | z
      · exact c2 x z
      · rw [List.mem_singleton.mp z]; exact ⟨lr, cr⟩
    · rintro _ g ⟨rows, a7, c1, c2, b, gp, rfl⟩
      have tc : Tc n rows := ⟨⟨c1, fun r hr => (c2 r hr).1, by omega⟩, fun r hr => (c2 r hr).2⟩
      simp only [Ws_nil, KSeq_s, Ws_seq, Ws_asg, We_args, Wa_cons, We_var, List.getElem?_cons_succ, List.getElem?_cons_zero, Lk_some, KLk_s, KC_s, Wa_nil, KC2_s, KN_s, We_tupl, li_s, gp, Wo_some, KLi_l, KTu_s, mkT_map, We_some, KAs_s, asg_nm, KAs2_s, List.set_cons_succ, List.set_cons_zero, Ws_for, Wi_rg, We_D]
      refine (takeT (many := 3) b.t (by omega) (by omega) k).mono ?_
      rintro _ g ⟨d, rfl, hd, ta⟩
      simp
      refine ⟨by omega, ?_⟩
      refine Ws_fr (fun i e g => ∃ (t : Tb) (a7 a9 a11 a12 : Option Val), Tc n t ∧ TA m g ∧ e = [some (.loc m), some (.d (.int n)), some (.d (.int 6)), some (.loc (h.length + 3)), some (.loc (h.length + 4)), y, some (.loc (h.length + 5)), a7, some (.d (tD t)), a9, none, a11, a12]) ?_ ?_ ?_
      · exact ⟨rows, _, _, _, _, tc, ta, rfl⟩
      · rintro i hi _ g ⟨t, a7, a9, a11, a12, c, ta, rfl⟩
        refine ⟨_, rfl, ?_⟩
        refine step_begun hn hn4 k ta c ?_
        intro g t a7 a11 a12 ta c
        exact ⟨t, _, _, _, _, c, ta, rfl⟩
      · rintro _ g ⟨t, a7, a9, a11, a12, c, ta, rfl⟩
        simp
        exact ⟨t, rfl, c, ta⟩
end K40

/-! K40zb: what refusals and answers are made of. -/
namespace K40
open PySem MP
theorem pt_int (m : Nat) (x : Int) : Pt m (.int x) := by cases m <;> trivial
theorem pt_up : ∀ {m : Nat} {v : D}, Pt m v → Pt (m + 1) v
  | 0, .int x, _ => pt_int _ x
  | m + 1, .int x, _ => pt_int _ x
  | m + 1, .tuple ds, h => ⟨h.1, fun d hd => pt_up (h.2 d hd)⟩
theorem pt_le {m : Nat} {v : D} (h : Pt m v) : ∀ {k : Nat}, m ≤ k → Pt k v
  | 0, hk => by
    obtain rfl : m = 0 := by omega
    exact h
  | k + 1, hk => by
    by_cases e : m = k + 1
    · rw [← e]; exact h
    · exact pt_up (pt_le h (by omega))
theorem pt_pr {a b : Int} {m : Nat} : Pt (m + 1) (.tuple [.int a, .int b]) := ⟨by simp, fun d hd => by
  simp at hd
  rcases hd with rfl | rfl <;> exact pt_int _ _⟩
theorem sm_of_pt : ∀ {m : Nat} {v : D}, Pt m v → Sm m v
  | 0, .int x, _ => trivial
  | m + 1, .int x, _ => trivial
  | m + 1, .tuple ds, h => ⟨h.1, fun d hd => sm_of_pt (h.2 d hd)⟩
theorem near_pt {t : Tb} {i j p m : Nat} : ∀ d ∈ nearD t i j p, Pt (m + 1) d := by
  intro d hd
  unfold nearD at hd
  rcases List.mem_append.mp hd with hd | hd
  · obtain ⟨q, _, rfl⟩ := List.mem_map.mp hd; exact pt_pr
  · obtain ⟨q, _, rfl⟩ := List.mem_map.mp hd; exact pt_pr
theorem ref_pt {n : Nat} (hn : n ≤ 4) : ∀ (g : Nat) (t : Tb), Wf n t → gapN t ≤ g → E t = [] → Pt (2 * g + 2) (refD n g t) := by
  intro g
  induction g with
  | zero =>
    intro t w hg he
    rw [E_none (gap0 ⟨w, hg⟩)] at he; cases he
  | succ g ih =>
    intro t w hg he
    obtain ⟨i, j, hi, hj, hc, hne, hm⟩ := gap_min w he
    rw [refD_at hm]
    refine ⟨by simp, fun d hd => ?_⟩
    simp at hd
    rcases hd with rfl | rfl | rfl
    · exact pt_int _ _
    · exact pt_int _ _
    · refine ⟨by simp; omega, fun d hd => ?_⟩
      obtain ⟨p, hp, rfl⟩ := List.mem_map.mp hd
      have hp := List.mem_range.mp hp
      unfold partR
      cases hfr : freeP t i j p with
      | true =>
        have hk : gapN (setC t i j (.int p)) + 1 = gapN t := by
          obtain ⟨x, c1, c2⟩ := cell_at w hi hj
          exact gapN_set (row_at w hi).1 c1 (by rw [← c2]; exact hc) rfl
        have := ih (setC t i j (.int p)) (setC_wf w hi _) (by omega) (child_empty w he hi hj hc hp hfr)
        simp only [if_true]
        exact this
      | false => exact near_pt _ (minL_mem (not_free w hi hj hfr))
theorem ref_three {n : Nat} (hn : n ≤ 4) {g : Nat} {t : Tb} (w : Wf n t) (hg : gapN t ≤ g) (he : E t = []) : ∃ i j ps, refD n g t = .tuple [.int i, .int j, .tuple ps] := by
  cases g with
  | zero => rw [E_none (gap0 ⟨w, hg⟩)] at he; cases he
  | succ g =>
    obtain ⟨i, j, hi, hj, hc, hne, hm⟩ := gap_min w he
    exact ⟨_, _, _, refD_at hm⟩
theorem ends_tc {n : Nat} : ∀ (g : Nat) (t : Tb), gapN t = g → Tc n t → ∀ T ∈ E t, Tc n T := by
  intro g
  induction g with
  | zero =>
    intro t hg c T hT
    rw [E_none (gap0 ⟨c.w, by omega⟩)] at hT
    rw [List.mem_singleton.mp hT]; exact c
  | succ g ih =>
    intro t hg c T hT
    cases hz : gapT t with
    | none => rw [E_none hz] at hT; rw [List.mem_singleton.mp hT]; exact c
    | some p =>
      obtain ⟨i, j⟩ := p
      rw [E_some hz] at hT
      obtain ⟨u, hu, hT⟩ := List.mem_flatMap.mp hT
      unfold kids at hu
      obtain ⟨p, hp, rfl⟩ := List.mem_map.mp hu
      have hk := kid_gap hz p
      obtain ⟨r, x, h1, _, _⟩ := gapT_some hz
      have hi : i < n := by rw [← c.w.len]; exact (List.getElem?_eq_some_iff.mp h1).1
      exact ih _ (by omega) (c.set hi (parts_lt c.w hp)) T hT
theorem cell_sm {n m : Nat} {d : D} (c : Cell n d) : Sm m d := by
  rcases c with rfl | ⟨x, _, rfl⟩ <;> cases m <;> trivial
theorem tc_sm {n m : Nat} {t : Tb} (c : Tc n t) : Sm (m + 2) (tD t) := by
  refine ⟨by rw [List.length_map, c.w.len]; exact c.w.big, fun d hd => ?_⟩
  obtain ⟨r, hr, rfl⟩ := List.mem_map.mp hd
  exact ⟨by rw [c.w.row r hr]; exact c.w.big, fun d hd => cell_sm (c.c r hr d hd)⟩
theorem due_sm {n : Nat} {t : Tb} (c : Tc n t) (hn : n ≤ 4) : Sm (2 * gapN t + 4) (due n t) := by
  unfold due
  cases hE : (E t).head? with
  | some T =>
    have hT := List.mem_of_mem_head? hE
    refine ⟨by simp, fun d hd => ?_⟩
    simp at hd
    rcases hd with rfl | rfl
    · trivial
    · exact tc_sm (ends_tc _ t rfl c T hT)
  | none =>
    have he := List.head?_eq_none_iff.mp hE
    refine ⟨by simp, fun d hd => ?_⟩
    simp at hd
    rcases hd with rfl | rfl
    · trivial
    · exact sm_of_pt (pt_up (ref_pt hn _ t c.w (Nat.le_refl _) he))
end K40

/-! K40zc: the law. -/
namespace K40
open PySem MP
section
variable {n : Nat} {t : Tb} {h : Hh}
theorem fuel_to {a b : Nat} {i : Nat} {vs : List Val} {r : Option (Val × Hh)} (e : a = b) (q : R a i vs h = r) : R b i vs h = r := by subst e; exact q
theorem ref60 (c : Tc n t) (hn : n ≤ 4) (v : D) (k : Nat) : R (k + 60) 8 [.d (tD t), .d v] h = some (.d (.bool (accF n (gapN t) t v)), h) :=
  have := c.gap hn
  fuel_to (a := k + 57 - gapN t + gapN t + 3) (by omega) (ref_ok _ t v c.w (Nat.le_refl _) _ h)
theorem lref60 (c : Tc n t) (hn : n ≤ 4) (v : D) (k : Nat) : R (k + 60) 22 [.d (tD t), .d v] h = some (.d (.bool (accF n (gapN t) t v)), h) :=
  have := c.gap hn
  fuel_to (a := k + 57 - gapN t + gapN t + 3) (by omega) (lref_ok _ t v c.w (Nat.le_refl _) _ h)
theorem lrefusal60 (c : Tc n t) (hn : n ≤ 4) (he : E t = []) (k : Nat) : R (k + 60) 23 [.d (tD t)] h = some (.d (refD n (gapN t) t), h) :=
  have := c.gap hn
  fuel_to (a := k + 57 - gapN t + gapN t + 3) (by omega) (lrefusal_ok hn _ t c.w (Nat.le_refl _) he _ h)
theorem end60 (c : Tc n t) (hn : n ≤ 4) (k : Nat) : R (k + 60) 11 [.d (tD t)] h = some (.d (due n t), h) := end_ok c.w hn (c.gap hn) (k + 30) h
theorem same60 {m : Nat} {x : D} (s : Sm m x) (hm : m ≤ 59) (k : Nat) : R (k + 60) 15 [.d x, .d x] h = some (.d (.bool true), h) :=
  fuel_to (a := k + (59 - m) + m + 1) (by omega) (same_ok m x s _ h)
theorem lends60 (c : Tc n t) (hn : n ≤ 4) (k : Nat) : R (k + 60) 19 [.d (tD t)] h = some (.d (.list ((E t).map tD)), h) := by
  rw [← every_eq c.w hn]; exact lends_ok c.w hn (k + 58) h
theorem spoil60 {m : Nat} {v : D} {p : Nat} (ta : TA m h) (q : Pt p v) (hp : p ≤ 57) (k : Nat) : We (R (k + 60) 21 [.loc m, .d v] h) fun r h2 => ∃ x, r = .d x ∧ TA m h2 := by
  obtain ⟨cs, a, b, c, g, hi, ha⟩ := ta
  obtain ⟨r, a', b', c', e, ha'⟩ := spoil_ok p v q g hi ha (k + (57 - p))
  exact ⟨_, _, fuel_to (by omega) e, r, rfl, cs, a', b', c', set_at g, hi, ha'⟩
end
abbrev lvB (F : FE) : Stm := (sSeq (sAsg (eArgs (F 22) (aCons (eVar 4) (aCons (eVar 9) aNil))) (.nm 11))
   (sSeq (sIf (tOr2 (tNot2 (tVal (eArgs (F 15) (aCons (eArgs (F 8) (aCons (eVar 4) (aCons (eVar 9) aNil))) (aCons (eVar 11) aNil))))) (tAnd2 (tVal (eVar 11)) (tCmpr (eBin opNe (eVar 6) (eLst false aNil)))))
    (sSeq (sRet (eD (.bool false)))
    sNil)
    sNil)
   sNil))
theorem value_turn {n : Nat} {t : Tb} (c : Tc n t) (hn : n ≤ 4) (v : D) (k : Nat) {g : Hh} {N : Ev → Hh → Prop} {T : Val → Hh → Prop} {B C : Ev → Hh → Prop} {a0 a1 a2 a3 a5 a7 a8 a10 a11 a12 a13 a14 : Option Val}
    (hN : ∀ a11, N [a0, a1, a2, a3, some (.d (tD t)), a5, some (.d (.list ((E t).map tD))), a7, a8, some (.d v), a10, a11, a12, a13, a14] g) :
    Ws (lvB (R (k + 60)) [a0, a1, a2, a3, some (.d (tD t)), a5, some (.d (.list ((E t).map tD))), a7, a8, some (.d v), a10, a11, a12, a13, a14] g) N T B C := by
  unfold lvB
  have hs := same60 (h := g) (m := 0) (x := .bool (accF n (gapN t) t v)) trivial (by omega) k
  simp [lref60 c hn v k, ref60 c hn v k, hs, ne_nil]
  cases ha : accF n (gapN t) t v with
  | false => simp; exact hN _
  | true => simp [acc_empty c.w ha]; simp [acc_empty c.w ha] at hN; exact hN _
abbrev lsB (F : FE) : Stm := (sSeq (sPar (aCons (eArgs (F 14) (aCons (eVar 1) (aCons (eVar 3) aNil))) (aCons (eArgs (F 14) (aCons (eVar 1) (aCons (eVar 3) aNil))) aNil)) [12, 13])
   (sSeq (sAsg (eArgs (F 17) (aCons (eVar 4) (aCons (eVar 12) (aCons (eVar 13) aNil)))) (.nm 10))
   (sSeq (sIf (tAnd2 (tCmpr (eBin opIs (eBin opIx0 (eBin opIx0 (eVar 4) (eVar 12)) (eVar 13)) (eD .none))) (tCmpr (eBin opNe (eVar 10) (eLst false aNil))))
    (sSeq (sAsg (eArgs (F 18) (aCons (eVar 4) (aCons (eVar 12) (aCons (eVar 13) (aCons (eBin opIx0 (eVar 10) (eArgs (F 14) (aCons (eVar 1) (aCons (eArgs opLen (aCons (eVar 10) aNil)) aNil)))) aNil))))) (.nm 4))
    sNil)
    sNil)
   sNil)))
theorem law_step {m n : Nat} {t : Tb} (c : Tc n t) (h0 : 0 < n) (hn : n ≤ 4) (k : Nat) {g : Hh} (ta : TA m g) {N : Ev → Hh → Prop} {T : Val → Hh → Prop} {B C : Ev → Hh → Prop} {a0 a2 a5 a6 a7 a8 a9 a10 a11 a12 a13 a14 : Option Val}
    (hN : ∀ g t a10 a12 a13, TA m g → Tc n t → N [a0, some (.loc m), a2, some (.d (.int n)), some (.d (tD t)), a5, a6, a7, a8, a9, a10, a11, a12, a13, a14] g) :
    Ws (lsB (R (k + 60)) [a0, some (.loc m), a2, some (.d (.int n)), some (.d (tD t)), a5, a6, a7, a8, a9, a10, a11, a12, a13, a14] g) N T B C := by
  unfold lsB
  have hw := c.w
  simp
  refine (takeT ta h0 (by omega) (k + 58)).mono ?_
  rintro _ _ ⟨i, rfl, hi, ta⟩
  simp
  refine (takeT ta h0 (by omega) (k + 58)).mono ?_
  rintro _ _ ⟨j, rfl, hj, ta⟩
  have rl := (row_at hw hi).2
  simp [ix_row hw hi, rl, hj, parts_ok hw hi hj, partsD, ne_nil]
  split
  · split
    · exact hN _ _ _ _ _ ta c
    · rename_i hp
      have hpos : 0 < (parts t i j).length := List.length_pos_iff.mpr hp
      have hle := lp hw (i := i) (j := j)
      refine (takeT ta hpos (by omega) (k + 58)).mono ?_
      rintro _ _ ⟨d, rfl, hd, ta⟩
      simp [hd, lwith_ok hw hi hj]
      exact hN _ _ _ _ _ ta (c.set hi (parts_lt hw (List.getElem_mem hd)))
  · exact hN _ _ _ _ _ ta c
/-- what follows the refusal or the end -/
structure Paper (n : Nat) (t : Tb) (p : D) : Prop where
  three : ∃ a b c, p = .tuple [a, b, c]
  pt : Pt 40 p
theorem paper_none {n : Nat} {t : Tb} (c : Tc n t) (hn : n ≤ 4) (he : E t = []) : Paper n t (refD n (gapN t) t) := by
  have hg := c.gap hn
  obtain ⟨i, j, ps, e⟩ := ref_three hn c.w (Nat.le_refl (gapN t)) he
  exact ⟨⟨_, _, _, e⟩, pt_le (ref_pt hn _ t c.w (Nat.le_refl _) he) (by omega)⟩
theorem paper_some {n : Nat} {t : Tb} (hn : n ≤ 4) : Paper n t (.tuple [.int 0, .int 0, .tuple (List.replicate n [PyData.tuple [.int 0, .int 0]]).flatten]) := by
  refine ⟨⟨_, _, _, rfl⟩, by simp, fun d hd => ?_⟩
  simp at hd
  rcases hd with rfl | rfl
  · exact pt_int _ _
  · refine ⟨by simp; omega, fun d hd => ?_⟩
    simp at hd
    rw [hd.2]
    exact pt_pr
abbrev lvS (F : FE) : Stm := (sFor (iAny (eBin (opAdd false) (eLst false (aCons (eVar 8) (aCons (eUn (opRev false) (eVar 8)) (aCons (eSl false (eVar 8) oNone (oSome (eD (.int 2)))) (aCons (eTup (aCons (eBin opIx0 (eVar 8) (eD (.int 1))) (aCons (eBin opIx0 (eVar 8) (eD (.int 0))) (aCons (eBin opIx0 (eVar 8) (eD (.int 2))) aNil)))) (aCons (eTup (aCons (eBin opIx0 (eVar 8) (eD (.int 0))) (aCons (eBin opIx0 (eVar 8) (eD (.int 1))) (aCons (eTup aNil) aNil)))) (aCons (eTup (aCons (eD (.bool true)) (aCons (eD (.int 0)) (aCons (eTup aNil) aNil)))) (aCons (eD .none) (aCons (eTup aNil) aNil))))))))) (eLc false (iRg (aCons (eD (.int 7)) aNil)) [14] (.nm 14) tYs (eArgs (F 21) (aCons (eVar 1) (aCons (eVar 8) aNil)))))) (.nm 9) (lvB F) sNil)
theorem law_values {m n : Nat} {t : Tb} {p : D} (c : Tc n t) (hn : n ≤ 4) (q : Paper n t p) (k : Nat) {g : Hh} (ta : TA m g) {N : Ev → Hh → Prop} {T : Val → Hh → Prop} {B C : Ev → Hh → Prop} {a0 a2 a3 a5 a7 a9 a10 a11 a12 a13 a14 : Option Val}
    (hN : ∀ g a9 a11 a14, TA m g → N [a0, some (.loc m), a2, a3, some (.d (tD t)), a5, some (.d (.list ((E t).map tD))), a7, some (.d p), a9, a10, a11, a12, a13, a14] g) :
    Ws (lvS (R (k + 60)) [a0, some (.loc m), a2, a3, some (.d (tD t)), a5, some (.d (.list ((E t).map tD))), a7, some (.d p), a9, a10, a11, a12, a13, a14] g) N T B C := by
  obtain ⟨a, b, z, rfl⟩ := q.three
  unfold lvS
  have e2 : ∀ h, opSl false (.d (.tuple [a, b, z])) none (some 2) h = some (.d (.tuple [a, b]), h) := fun h => sl_to (k := 2)
  simp [e2]
  refine We_lcR (fun i acc hh => ∃ xs : List D, acc = xs.map .d ∧ xs.length = i ∧ TA m hh) (by omega) ⟨[], rfl, rfl, ta⟩ ?_ ?_
  · rintro i hi _ g ⟨xs, rfl, hl, ta⟩
    simp
    refine (spoil60 ta q.pt (by omega) k).mono ?_
    rintro _ g ⟨x, rfl, ta⟩
    exact ⟨xs ++ [x], by simp, by simp [hl], ta⟩
  · rintro _ g ⟨xs, rfl, hl, ta⟩
    rw [mkL_map]
    simp only [We_some, KO_s]
    rw [add_ll (by unfold Fits; simp; omega)]
    simp only [We_some, KI_s, srcV_l, Wo_some, KI2_s, KFor_s]
    refine Ws_fst (fun i e h => TA m h ∧ ∃ a9 a11 a14, e = [a0, some (.loc m), a2, a3, some (.d (tD t)), a5, some (.d (.list ((E t).map tD))), a7, some (.d (.tuple [a, b, z])), a9, a10, a11, a12, a13, a14]) ⟨ta, _, _, _, rfl⟩ ?_ ?_
    · rintro i hi _ g ⟨ta, a9, a11, a14, rfl⟩
      refine ⟨_, rfl, ?_⟩
      refine value_turn c hn _ k fun a11 => ?_
      exact ⟨ta, _, _, _, rfl⟩
    · rintro _ g ⟨ta, a9, a11, a14, rfl⟩
      simp
      exact hN _ _ _ _ ta
theorem r24 (k : Nat) : R (k + 1) 24 = callS 15 (b24 (R k)) := rfl
theorem law_true60 (ns : List Int) (k : Nat) : We (R (k + 61) 24 [.scr ns] []) fun v _ => v = .d (.bool true) := by
  rw [r24]
  refine We_callS ?_
  unfold b24
  obtain ⟨cs, c0, et, hi⟩ := tape_ok ns (k + 59) []
  have et : R (k + 60) 13 [.scr ns] [] = some (.loc 0, [Tp cs 0 0 c0]) := et
  have ta : TA 0 [Tp cs 0 0 c0] := ⟨cs, 0, 0, c0, rfl, hi, by omega⟩
  simp [et]
  refine Ws_fr (fun i e h => TA 0 h ∧ ∃ a2 a3 a4 a5 a6 a7 a8 a9 a10 a11 a12 a13 a14, e = [some (.scr ns), some (.loc 0), a2, a3, a4, a5, a6, a7, a8, a9, a10, a11, a12, a13, a14]) ⟨ta, _, _, _, _, _, _, _, _, _, _, _, _, _, rfl⟩ ?_ ?_
  · clear ta et hi
    rintro i hi _ g ⟨ta, a2, a3, a4, a5, a6, a7, a8, a9, a10, a11, a12, a13, a14, rfl⟩
    refine ⟨_, rfl, ?_⟩
    simp
    refine (takeT (many := 3) ta (by omega) (by omega) (k + 58)).mono ?_
    rintro _ g ⟨d, rfl, hd, ta⟩
    have en : (2 : Int) + d = ((2 + d : Nat) : Int) := by omega
    simp
    rw [en]
    have hn0 : 0 < 2 + d := by omega
    have hn4 : 2 + d ≤ 4 := by omega
    have hn2 : 2 ≤ 2 + d := by omega
    generalize 2 + d = n at hn0 hn4 hn2
    refine (begun_ok hn0 hn4 ta (k + 57)).mono ?_
    rintro _ g ⟨t, rfl, c, ta⟩
    simp
    refine Ws_fr (fun q e h => TA 0 h ∧ ∃ t a5 a10 a12 a13, Tc n t ∧ e = [some (.scr ns), some (.loc 0), some (.d (.int i)), some (.d (.int n)), some (.d (tD t)), a5, a6, a7, a8, a9, a10, a11, a12, a13, a14]) ⟨ta, t, _, _, _, _, c, rfl⟩ ?_ ?_
    · rintro q hq _ g ⟨ta, t, a5, a10, a12, a13, c, rfl⟩
      refine ⟨_, rfl, ?_⟩
      refine law_step c hn0 hn4 k ta ?_
      intro g t a10 a12 a13 ta c
      exact ⟨ta, t, _, _, _, _, c, rfl⟩
    · clear c ta t
      rintro _ g ⟨ta, t, a5, a10, a12, a13, c, rfl⟩
      have sm := same60 (h := g) (due_sm c hn4) (by have := c.gap hn4; omega) k
      simp only [Ws_nil, KSeq_s, Ws_seq, Ws_asg, We_args, Wa_cons, We_var, List.getElem?_cons_succ, List.getElem?_cons_zero, Lk_some, KLk_s, KC_s, Wa_nil, KC2_s, KN_s, lends60 c hn4, We_some, KAs_s, asg_nm, Wo_some, KAs2_s, List.set_cons_succ, List.set_cons_zero]
      have fin : ∀ {p : D}, Paper n t p → ∀ {T : Val → Hh → Prop} {B C : Ev → Hh → Prop}, Ws (lvS (R (k + 60)) [some (.scr ns), some (.loc 0), some (.d (.int i)), some (.d (.int n)), some (.d (tD t)), a5, some (.d (.list ((E t).map tD))), some (.d (due n t)), some (.d p), a9, a10, a11, a12, a13, a14] g) (KSeq sNil (fun e h => TA 0 h ∧ ∃ a2 a3 a4 a5 a6 a7 a8 a9 a10 a11 a12 a13 a14, e = [some (.scr ns), some (.loc 0), a2, a3, a4, a5, a6, a7, a8, a9, a10, a11, a12, a13, a14]) T B C) T B C := fun {p} q {T B C} => by
        refine law_values c hn4 q k ta ?_
        intro g a9 a11 a14 ta
        simp
        exact ta
      cases hE : E t with
      | nil =>
        have hd : due n t = .tuple [.str "refusal", refD n (gapN t) t] := by unfold due; rw [hE]; rfl
        rw [hd, hE] at fin
        rw [hd] at sm
        simp [ne_nil, lrefusal60 c hn4 hE, end60 c hn4, hd, sm, eq_nil]
        simpa using fin (paper_none c hn4 hE)
      | cons T l =>
        have hd : due n t = .tuple [.str "end", tD T] := by unfold due; rw [hE]; rfl
        have em : ∀ h, opMul false (.d (.tuple [.tuple [.int 0, .int 0]])) (.d (.int n)) h = some (.d (.tuple (List.replicate n [PyData.tuple [.int 0, .int 0]]).flatten), h) := fun h => by
          have e1 : (2 : Int) ≤ n := by omega
          have e2 : (n : Int) ≤ 1000 := by omega
          show (if _ then _ else _) = _
          simp [e1, e2]
        rw [hd, hE] at fin
        rw [hd] at sm
        simp [ne_nil, end60 c hn4, hd, sm, eq_nil, em]
        simpa using fin (paper_some hn4)
  · rintro _ g ⟨ta, a2, a3, a4, a5, a6, a7, a8, a9, a10, a11, a12, a13, a14, rfl⟩
    simp
theorem law_true (ns : List Int) (hl : ns.length ≤ 63) : ∃ h', runP theP.P 220 24 [.scr ns] [] = some (.d (.bool true), h') := by
  obtain ⟨v, h, e, rfl⟩ := law_true60 ns 159
  exact ⟨h, e⟩
end K40

open PySem PySem.W PyProof.Rows
set_option maxHeartbeats 0 in
theorem PySem.Challenge.cw_boardsheld_k40_whole_table_refusals_holds : PySem.Challenge.rw_boardsheld_k40_whole_table_refusals.Holds := by
  w_on; o_law; k_head; (case hw => w_witness2)
  k_fill
  refine L2.walk_of (l := PySem.Challenge.rw_boardsheld_k40_whole_table_refusals) (n := 63) (k := 220) (x := "script") (CX := fun _ => L2.CX0) (sp := fun w => MP.spF _ 1 (MP.runP K40.theP.P 220 24)) rfl (by decide) rfl ⟨rfl, by decide, by decide⟩ (fun w h Y => PySem.W.kIn_of Y) ?F (fun _ _ a ns hl hO hS => MP.law_sp hO hS (K40.law_true ns hl)) (fun _ _ _ _ _ h => h)
  case F =>
    intro w mg fa h KX G hmg
    refine' K40.head_of (l := PySem.Challenge.rw_boardsheld_k40_whole_table_refusals) hmg (K40.all_mk (l := PySem.Challenge.rw_boardsheld_k40_whole_table_refusals) (w := w) KX G ?a0 ?l0 ?c0 ?k0 ?a1 ?l1 ?c1 ?k1 ?a2 ?l2 ?c2 ?k2 ?a3 ?l3 ?c3 ?k3 ?a4 ?l4 ?c4 ?k4 ?a5 ?l5 ?c5 ?k5 ?a6 ?l6 ?c6 ?k6 ?a7 ?l7 ?c7 ?k7 ?a8 ?l8 ?c8 ?k8 ?a9 ?l9 ?c9 ?k9 ?a10 ?l10 ?c10 ?k10 ?a11 ?l11 ?c11 ?k11 ?a12 ?l12 ?c12 ?k12 ?a13 ?l13 ?c13 ?k13 ?a14 ?l14 ?c14 ?k14 ?a15 ?l15 ?c15 ?k15 ?a16 ?l16 ?c16 ?k16 ?a17 ?l17 ?c17 ?k17 ?a18 ?l18 ?c18 ?k18 ?a19 ?l19 ?c19 ?k19 ?a20 ?l20 ?c20 ?k20 ?a21 ?l21 ?c21 ?k21 ?a22 ?l22 ?c22 ?k22 ?a23 ?l23 ?c23 ?k23 ?a24 ?l24 ?c24 ?k24 ?z0 ?z1 ?z2 ?z3 ?z4 ?z5 ?z6 ?z7 ?z8 ?z9 ?z10) (fun s v => .of_eq rfl)
    (case a0 => k_is); (case l0 => k_is); (case c0 => k_is); (case k0 => k_is); (case a1 => k_is); (case l1 => k_is); (case c1 => k_is); (case k1 => k_is); (case a2 => k_is); (case l2 => k_is); (case c2 => k_is); (case k2 => k_is); (case a3 => k_is); (case l3 => k_is); (case c3 => k_is); (case k3 => k_is); (case a4 => k_is); (case l4 => k_is); (case c4 => k_is); (case k4 => k_is); (case a5 => k_is); (case l5 => k_is); (case c5 => k_is); (case k5 => k_is); (case a6 => k_is); (case l6 => k_is); (case c6 => k_is); (case k6 => k_is); (case a7 => k_is); (case l7 => k_is); (case c7 => k_is); (case k7 => k_is); (case a8 => k_is); (case l8 => k_is); (case c8 => k_is); (case k8 => k_is); (case a9 => k_is); (case l9 => k_is); (case c9 => k_is); (case k9 => k_is); (case a10 => k_is); (case l10 => k_is); (case c10 => k_is); (case k10 => k_is); (case a11 => k_is); (case l11 => k_is); (case c11 => k_is); (case k11 => k_is); (case a12 => k_is); (case l12 => k_is); (case c12 => k_is); (case k12 => k_is); (case a13 => k_is); (case l13 => k_is); (case c13 => k_is); (case k13 => k_is); (case a14 => k_is); (case l14 => k_is); (case c14 => k_is); (case k14 => k_is); (case a15 => k_is); (case l15 => k_is); (case c15 => k_is); (case k15 => k_is); (case a16 => k_is); (case l16 => k_is); (case c16 => k_is); (case k16 => k_is); (case a17 => k_is); (case l17 => k_is); (case c17 => k_is); (case k17 => k_is); (case a18 => k_is); (case l18 => k_is); (case c18 => k_is); (case k18 => k_is); (case a19 => k_is); (case l19 => k_is); (case c19 => k_is); (case k19 => k_is); (case a20 => k_is); (case l20 => k_is); (case c20 => k_is); (case k20 => k_is); (case a21 => k_is); (case l21 => k_is); (case c21 => k_is); (case k21 => k_is); (case a22 => k_is); (case l22 => k_is); (case c22 => k_is); (case k22 => k_is); (case a23 => k_is); (case l23 => k_is); (case c23 => k_is); (case k23 => k_is); (case a24 => k_is); (case l24 => k_is); (case c24 => k_is); (case k24 => k_is); (case z0 => k_is); (case z1 => k_is); (case z2 => k_is); (case z3 => k_is); (case z4 => k_is); (case z5 => k_is); (case z6 => k_is); (case z7 => k_is); (case z8 => k_is); (case z9 => k_is); (case z10 => k_is)
