import PyProof.Rows.All
import Wide.All
import OpenK.AllK
import Wide.FinOn
import HandS.ForMost
import HandS.Exc
import HandS.TryOnly
import HandS.WordsExc
import HandS.CallSlots
import HandS.ExcOwn
import HandS.Style
import HandS.Small
import HandS.Wide
import HandS.Conv
import HandS.Zip
import HandS.ExcCtx
import HandS.Defaults
import HandS.HeadWalk
import HandS.Flow
import HandS.SortInts
import KE.KStateDown
import HandS.Ends
import HandS.EndBits
import HandS.More
import HandS.Words
import HandS.Head0
import HandS.Head1
import HandS.Head2
import HandS.HeadEnd
import HandS.HeadHook1
import HandS.HeadHook2
import KE.KExcSuper
import HandS.ExcSuper
import HandS.ExcInit
import HandS.ExcIs
import HandS.ExcField
import HandS.Hot
import HandS.HotCalls
import KE.KExcIs
import PyProof.FitsInt
import PyProof.ReprLoop
import PySem.Challenge.RW_wheelsreckon_k07_whole_polynomials_that
set_option Elab.async false
set_option linter.all false
set_option maxRecDepth 100000
set_option maxHeartbeats 0
/-! MiniA: a small syntax with slots, its translation from the model's syntax, its reading, and that the reading is right. -/
namespace M
open PySem PySem.Spec PyProof.Rows L2

/-! ### the small syntax -/
inductive BO where
  | add | sub | mul | fdiv | mod | pow
  deriving DecidableEq
inductive CO where
  | eq | ne | lt | le | gt | ge | isin | notin
  deriving DecidableEq
mutual
inductive E where
  | var (i : Nat) | glo (x : Str) | cst (v : V)
  | bin (o : BO) (a b : E) | neg (a : E) | no (a : E)
  | cmp (o : CO) (a b : E) | chain (o o' : CO) (a b c : E) | isN (a : E) | notN (a : E)
  | band (es : Es) | bor (es : Es) | ife (c a b : E)
  | lst (es : Es) | tup (es : Es)
  | idx (a i : E) | sl (a : E) (lo hi : P) | rev (a : E)
  | call (f : Str) (es : Es) | meth (o : E) (m : Str) (es : Es) | attr (o : E) (f : Str)
  | lc (own : List Nat) (g : G) (it : I) (c : Es) (elt : E)
  | rgl (a : E)
inductive Es where
  | nil | cons (e : E) (r : Es)
inductive P where
  | no | so (e : E)
inductive G where
  | nm (i : Nat) | tp (gs : Gs) | fl (o : E) (f : Str) | sb (o i : E)
inductive Gs where
  | nil | cons (g : G) (r : Gs)
inductive I where
  | of (e : E) | rng1 (a : E) | rng2 (a b : E) | rng3 (a b c : E) | enum (e : E) | zip (a b : E)
end

/-! ### names -/
def visK (sc : Scope) (x : Str) : Bool := match sc.names.lookup x with
  | some .local => true
  | some .cell => true
  | some .free => true
  | _ => false
def locK (sc : Scope) (x : Str) : Bool := match sc.names.lookup x with
  | some .local => true
  | some .cell => true
  | _ => false
def cfK (sc : Scope) (x : Str) : Bool := match sc.names.lookup x with
  | some .cell => true
  | some .free => true
  | _ => false
def gloK (sc : Scope) (x : Str) : Bool := match sc.names.lookup x with
  | some .globalImplicit => true
  | _ => false
/-- the first place of a name -/
def ixOf (x : Str) : List Str → Nat → Option Nat
  | [], _ => none
  | y :: r, i => if y = x then some i else ixOf x r (i + 1)
theorem ixOf_at {x : Str} : ∀ {N : List Str} {k i : Nat}, ixOf x N k = some i → k ≤ i ∧ N[i - k]? = some x
  | [], _, _, h => by cases h
  | y :: r, k, i, h => by
    unfold ixOf at h
    by_cases e : y = x
    · rw [if_pos e] at h
      cases h
      rw [Nat.sub_self]
      exact ⟨Nat.le_refl _, congrArg some e⟩
    · rw [if_neg e] at h
      obtain ⟨h1, h2⟩ := ixOf_at h
      refine ⟨by omega, ?_⟩
      rw [show i - k = (i - (k + 1)) + 1 by omega]
      exact h2
def slot (N : List Str) (x : Str) : Option Nat := ixOf x N 0
theorem slot_at {N : List Str} {x : Str} {i : Nat} (h : slot N x = some i) : N[i]? = some x := by
  have q := (ixOf_at h).2
  rwa [Nat.sub_zero] at q

/-! ### the translation -/
def trC : Const → Option V
  | .none => some .non
  | .bool b => some (.bl b)
  | .int i => some (.int i)
  | .str x => some (.str x)
  | _ => none
def trBO : Operator → Option BO
  | .Add => some .add
  | .Sub => some .sub
  | .Mult => some .mul
  | .FloorDiv => some .fdiv
  | .Mod => some .mod
  | .Pow => some .pow
  | _ => none
def trCO : CmpOp → Option CO
  | .Eq => some .eq
  | .NotEq => some .ne
  | .Lt => some .lt
  | .LtE => some .le
  | .Gt => some .gt
  | .GtE => some .ge
  | .In => some .isin
  | .NotIn => some .notin
  | _ => none
/-- a name that is asked -/
def trN (N : List Str) (sc : Scope) (x : Str) : Option E :=
  if x = ("__debug__" : Str) ∨ x = ("__classdict__" : Str) ∨ x = ("__name__" : Str) then none
  else if visK sc x then (slot N x).map .var else if gloK sc x then some (.glo x) else none
def trEs (f : Expr → Option E) : List Expr → Option Es
  | [] => some .nil
  | e :: r => match f e, trEs f r with
    | some a, some b => some (.cons a b)
    | _, _ => none
def trP (f : Expr → Option E) : Option Expr → Option P
  | none => some .no
  | some e => (f e).map .so
/-- the head of an expression that is neither starred, a slice, nor an odd thing -/
def plain : Expr → Bool
  | .BoolOp .. | .BinOp .. | .UnaryOp .. | .IfExp .. | .ListComp .. | .Compare .. | .Constant .. | .Attribute .. | .Subscript .. | .Name .. | .List .. | .Tuple .. | .Dict .. => true
  | .Call (.Name x _) _ _ _ => !decide (x = ("super" : Str))
  | .Call .. => true
  | _ => false
/-- the slots of a block's own names -/
def ownOf (N : List Str) : List (Str × NameKind) → Option (List (Str × Nat))
  | [] => some []
  | (x, k) :: r => match k with
    | .local => (match slot N x, ownOf N r with
      | some i, some l => some ((x, i) :: l)
      | none, some l => some l
      | _, _ => none)
    | .cell => (match slot N x, ownOf N r with
      | some i, some l => some ((x, i) :: l)
      | none, some l => some l
      | _, _ => none)
    | _ => ownOf N r
def trG1 (f : Expr → Option E) (N : List Str) (sc : Scope) : Expr → Option G
  | .Name x _ => if locK sc x then (slot N x).map .nm else none
  | .Attribute o x _ => (f o).map fun a => .fl a x
  | .Subscript o i _ => match f o, f i with
    | some a, some b => if plain i then some (.sb a b) else none
    | _, _ => none
  | _ => none
def trGs (g : Expr → Option G) : List Expr → Option Gs
  | [] => some .nil
  | e :: r => match g e, trGs g r with
    | some a, some b => some (.cons a b)
    | _, _ => none
/-- targets: a name, an attribute, an item, or a tuple of such (two deep) -/
def trG (f : Expr → Option E) (N : List Str) (sc : Scope) : Nat → Expr → Option G
  | 0, _ => none
  | n + 1, .Tuple es _ _ => (trGs (trG f N sc n) es).map .tp
  | _ + 1, e => trG1 f N sc e
def isTup : Expr → Bool
  | .Tuple .. => true
  | _ => false
def trI (f : Expr → Option E) (sc : Scope) (tup : Bool) : Expr → Option I
  | .Call (.Name x p) as ks q =>
    if ks.isEmpty && (gloK sc x && decide (x = ("range" : Str))) then (match as with
      | [a] => if plain a then (f a).map .rng1 else none
      | [a, b] => if plain a && plain b then (match f a, f b with
        | some a', some b' => some (.rng2 a' b')
        | _, _ => none) else none
      | [a, b, c] => if plain a && (plain b && plain c) then (match f a, f b, f c with
        | some a', some b', some c' => some (.rng3 a' b' c')
        | _, _, _ => none) else none
      | _ => none)
    else if ks.isEmpty && (gloK sc x && (decide (x = ("enumerate" : Str)) && tup)) then (match as with
      | [e] => if plain e then (f e).map .enum else none
      | _ => none)
    else if ks.isEmpty && (gloK sc x && (decide (x = ("zip" : Str)) && tup)) then (match as with
      | [a, b] => if plain a && plain b then (match f a, f b with
        | some a', some b' => some (.zip a' b')
        | _, _ => none) else none
      | _ => none)
    else (f (.Call (.Name x p) as ks q)).map .of
  | e => (f e).map .of
/-- list(range(e)) -/
def rgArg (x : Str) (es : List Expr) : Option Expr := match es with
  | [.Call (.Name r _) [e] [] _] => if x = ("list" : Str) ∧ r = ("range" : Str) then some e else none
  | _ => none
theorem rgArg_some {x : Str} {es : List Expr} {e : Expr} (h : rgArg x es = some e) : ∃ p q, es = [.Call (.Name "range" p) [e] [] q] ∧ x = ("list" : Str) := by
  unfold rgArg at h
  split at h
  · split at h
    · rename_i hc
      cases h
      exact ⟨_, _, by rw [hc.2], hc.1⟩
    · cases h
  · cases h

def trE : Nat → List Str → Scope → Expr → Option E
  | 0, _, _, _ => none
  | n + 1, N, sc, e => match e with
    | .Constant c _ _ => (trC c).map .cst
    | .Name x _ => trN N sc x
    | .BinOp a o b _ => (match trBO o, trE n N sc a, trE n N sc b with
      | some o, some a, some b => some (.bin o a b)
      | _, _, _ => none)
    | .UnaryOp .USub a _ => (trE n N sc a).map .neg
    | .UnaryOp .Not a _ => (trE n N sc a).map .no
    | .BoolOp .And as _ => (match as with
      | [] => none
      | [_] => none
      | as => (trEs (trE n N sc) as).map .band)
    | .BoolOp .Or as _ => (match as with
      | [] => none
      | [_] => none
      | as => (trEs (trE n N sc) as).map .bor)
    | .IfExp c a b _ => (match trE n N sc c, trE n N sc a, trE n N sc b with
      | some c, some a, some b => some (.ife c a b)
      | _, _, _ => none)
    | .Compare a [.Is] [.Constant .none _ _] _ => (trE n N sc a).map .isN
    | .Compare a [.IsNot] [.Constant .none _ _] _ => (trE n N sc a).map .notN
    | .Compare a [o] [b] _ => (match trCO o, trE n N sc a, trE n N sc b with
      | some o, some a', some b' => if plain b then some (.cmp o a' b') else none
      | _, _, _ => none)
    | .Compare a [o, o'] [b, c] _ => (match trCO o, trCO o', trE n N sc a, trE n N sc b, trE n N sc c with
      | some o, some o', some a', some b', some c' => if plain b && plain c then some (.chain o o' a' b' c') else none
      | _, _, _, _, _ => none)
    | .List es _ => if es.all plain then (trEs (trE n N sc) es).map .lst else none
    | .Tuple es _ _ => if es.all plain then (trEs (trE n N sc) es).map .tup else none
    | .Subscript a (.Slice none none (some (.UnaryOp .USub (.Constant (.int 1) _ _) _)) _) _ => (trE n N sc a).map .rev
    | .Subscript a (.Slice lo hi none _) _ => (match trE n N sc a, trP (trE n N sc) lo, trP (trE n N sc) hi with
      | some a, some l, some h => some (.sl a l h)
      | _, _, _ => none)
    | .Subscript a i _ => if plain i then (match trE n N sc a, trE n N sc i with
      | some a, some i => some (.idx a i)
      | _, _ => none) else none
    | .Attribute o x _ => if plain o then (trE n N sc o).map fun a => .attr a x else none
    | .Call (.Name x _) es [] _ => (match rgArg x es with
      | some e => if gloK sc "list" && (gloK sc "range" && plain e) then (trE n N sc e).map .rgl else none
      | none => if gloK sc x && (!decide (x = ("__debug__" : Str)) && (!decide (x = ("super" : Str)) && es.all plain)) then (trEs (trE n N sc) es).map (.call x) else none)
    | .Call (.Attribute o m ap) es [] cp => if plain o && (es.all plain && (decide (es.length < 20) && (ap.endLine == cp.line))) then (match trE n N sc o, trEs (trE n N sc) es with
      | some o, some es => some (.meth o m es)
      | _, _ => none) else none
    | .ListComp elt [⟨tg, iter, ifs, 0⟩] scope _ => (match ownOf N scope.names with
      | some own => if blkC N sc scope own && (plain iter && (plain elt && ifs.all plain)) then
          (match trI (trE n N sc) sc (isTup tg) iter, trG (trE n N scope) N scope 3 tg, trEs (trE n N scope) ifs, trE n N scope elt with
          | some it, some g, some cs, some el => if ifs.length ≤ 1 then some (.lc (own.map (·.2)) g it cs el) else none
          | _, _, _, _ => none) else none
      | none => none)
    | _ => none
end M

/-! MiniB: what a def is worth where the repr guards are known to be none; calls of such defs. -/
namespace M
open PySem PySem.Spec PyProof.Rows L2

/-- room for k calls, no repr under way -/
structure RoomG (k : Nat) (A : Around) : Prop where
  rm : Room k A
  gd : A.guards = some []
theorem RoomG.mono {j k : Nat} {A : Around} (r : RoomG k A) (h : j ≤ k) : RoomG j A := ⟨r.rm.mono h, r.gd⟩
theorem RoomG.deeper {k : Nat} {A : Around} (r : RoomG (k + 1) A) (env : Env) : RoomG k (A.deeper env) := ⟨r.rm.deeper env, r.gd⟩
theorem RoomG.make {k : Nat} {A : Around} (r : RoomG (k + 1) A) (C : Addr) (us : List Value) (kw : List (Str × Value)) : RoomG k (A.under (.builtin "type.__call__" ⟨.ref C :: us, kw⟩)) :=
  ⟨r.rm.make C us kw, by
    have hg : (Code.builtin "type.__call__" ⟨Value.ref C :: us, kw⟩).isGuard = false := by
      show guardIds.contains "type.__call__" = false
      decide +kernel
    simp only [Around.under, Code.guards, hg, r.gd, pushGuards]
    rfl⟩

/-- the def at f keeps the promise sp -/
structure FnG (P : Program) (w : World) (K : PySem.W.Frag) (mg : Str → Option Value) (base : Heap) (k : Nat) (f : Addr) (fd : FuncData) (ps : List Str) (sp : Sp) : Prop where
  len : ∀ vs H Q E, sp vs H Q E → vs.length = ps.length
  run : ∀ (A : Around) (outer : List Env) (s : Shared) (H : Hp) (args : Args) (us : List Value) (vs : List V) (Q : VK) (E : XK), RoomG k A → Env0 P w K mg base A outer s H →
    BindsTo s fd args (ps.zip us) → Vals vs us → sp vs H Q E → codeAny (model P w) A (.call (.ref f) args) (CR (L2N.CX P w) outer P w H s Q E) s
theorem FnG.mono {P : Program} {w : World} {K : PySem.W.Frag} {mg : Str → Option Value} {base : Heap} {j k : Nat} {f : Addr} {fd : FuncData} {ps : List Str} {sp : Sp} (F : FnG P w K mg base j f fd ps sp) (h : j ≤ k) : FnG P w K mg base k f fd ps sp :=
  ⟨F.len, fun A outer s H args us vs Q E hr => F.run A outer s H args us vs Q E (hr.mono h)⟩
theorem FnG.imp {P : Program} {w : World} {K : PySem.W.Frag} {mg : Str → Option Value} {base : Heap} {k : Nat} {f : Addr} {fd : FuncData} {ps : List Str} {sp sp' : Sp} (F : FnG P w K mg base k f fd ps sp)
    (h : ∀ vs H Q E, sp' vs H Q E → sp vs H Q E) : FnG P w K mg base k f fd ps sp' :=
  ⟨fun vs H Q E q => F.len vs H Q E (h vs H Q E q), fun A outer s H args us vs Q E hr e b r q => F.run A outer s H args us vs Q E hr e b r (h vs H Q E q)⟩
/-- a def of the text by its body -/
theorem fnG_of {P : Program} {w : World} {K : PySem.W.Frag} {mg : Str → Option Value} {base : Heap} {k : Nat} {f : Addr} {name qual : Str} {params : Arguments} {body : List Stmt} {scope : Scope} {dvs : List V} {kws : List (Str × V)} {fd : FuncData}
    {N ps : List Str} {sp : Sp} (F : FunD K name qual params body scope dvs kws f fd) (S : FnScope N ps scope) (len : ∀ vs H Q E, sp vs H Q E → vs.length = ps.length)
    (hbody : ∀ (cdv : Value) (A : Around) (outer : List Env) (s : Shared) (H : Hp) (vs : List V) (Q : VK) (E : XK), RoomG k (A.deeper (envOfC qual scope s.heap.objs.size f cdv)) → sp vs H Q E →
      ∃ t, PSs (cxOf (L2N.CX P w) P w K mg base N qual scope f cdv A outer s H E) body t ∧ t { nx := fun _ H' => Q .non H', rt := Q } (start N vs) H) :
    FnG P w K mg base (k + 1) f fd ps sp := by
  obtain ⟨oc, od, dV, kV, doc, pm, an, cdv, ct, osl, rfl, lk, hcd, _, _⟩ := F.ex
  refine ⟨len, fun A outer s H args us vs Q E hr e0 hb r hsp => ?_⟩
  have n0 := len _ _ _ _ hsp
  have bk : ∀ b o, base.get? b = some o → s.heap.get? b = some o := fun b o e => (e0.bs b o e).1
  have kin : K.In s.heap := e0.mod.kin.keeps bk
  have lim : s.heap.NoLimit := e0.mod.nolimit.keeps bk
  have kinds : ∀ y ∈ ps.zip us, scope.names.lookup y.1 = some .local ∨ (scope.names.lookup y.1 = some .cell ∧ ((cellsFrom (s.heap.objs.size + 1) scope.names []).lookup y.1).isSome = true) := by
    rintro ⟨n, v⟩ hy
    rcases S.par n (List.of_mem_zip hy).1 with q | q
    · exact .inl q
    · exact .inr ⟨q, PySem.W.cellsFrom_some _ _ _ (.inl q)⟩
  refine codeAny_call_function hr.rm.depth (kin _ _ lk) rfl S.co S.gen rfl (PySem.W.codeRec_of kin hcd) (hb _ _ _ _ ?_)
  refine wpAny_newFunctionEnv_cells S.kind kinds fun env he s1 x => ?_
  cases he
  refine ⟨lim.keeps x.toInCall.keep, codeAny_func ?_⟩
  obtain ⟨t, ht, hq⟩ := hbody cdv A outer s H vs Q E (hr.deeper _) hsp
  have J0 : Inv (cxOf (L2N.CX P w) P w K mg base N qual scope f cdv A outer s H E) [] (L2.start N vs) H s1 := inv_start S hr.rm.hd e0 n0 r x
  have back : ∀ {σ' : L2.St} {H' : Hp} {v : V} {u : Value} {s' : Shared}, Inv (cxOf (L2N.CX P w) P w K mg base N qual scope f cdv A outer s H E) [] σ' H' s' → RelV v u → Q v H' → CE outer P w H s Q u s' :=
    fun J rv q => ⟨_, _, J.os, J.bare, J.base, J.hok, rv, q⟩
  refine wpAny_mono (ht.run [] s1 (L2.start N vs) H _ J0 hq) (fun fl s' hs => ?_) fun _ _ z => z
  cases fl with
  | next =>
    obtain ⟨_, _, J, q⟩ := hs
    exact back (v := V.non) (u := Value.none) J rfl q
  | ret u =>
    obtain ⟨_, _, _, J, rv, q⟩ := hs
    exact back J rv q
  | brk => exact (hs.choose_spec.choose_spec.2).elim
  | cont => exact (hs.choose_spec.choose_spec.2).elim

/-! ### calls -/
section
variable {X : Cx} {k : Nat} {f C : Addr} {fd : FuncData} {ps : List Str} {sp : Sp} {dvs : List V} {ds : List Value} {x m : Str} {p pos apos : Pos} {o : Expr} {es : List Expr} {ta : TE} {t : TA} {W : WX}
theorem run_g {pins : List (Addr × Obj)} {σ : L2.St} {H : Hp} {s : Shared} {Q : VK} {us : List Value} {vs : List V} (F : FnG X.prog X.w X.K X.mg X.base k f fd ps sp) (hr : RoomG k X.A) (hb : Binds X.K fd ps ds) (hd : Vals dvs ds) (tk : L2N.Takes X W)
    (I : Inv X pins σ H s) (r : Vals vs us) (h : sp (vs ++ dvs) H Q (WE W σ)) : wpAny (model X.prog X.w) X.A (call (.ref f) us) (EP X pins σ Q) X.xe s := by
  have r2 : Vals (vs ++ dvs) (us ++ ds) := r.append hd
  have n0 : (us ++ ds).length = ps.length := r2.length.symm.trans (F.len _ _ _ _ h)
  refine wpAny_call (codeAny_mono (F.run X.A X.stack s H ⟨us, []⟩ _ _ Q _ hr I.env0 (hb s us I.kIn n0) r2 h) fun q s' hq => ?_)
  match q, hq with
  | .error e, hq => exact L2N.passAt tk σ pins H s e s' I hq
  | .ok (.ret u), hq => exact I.after hq
/-- a call's reading: what is raised is wished for at the caller's slots -/
def tCallW (W : WX) (sp : Sp) (dvs : List V) (t : TA) : TE := fun σ H Q => t σ H fun vs H1 => sp (vs ++ dvs) H1 Q (WE W σ)
theorem pe_callG {e : Expr} (F : FnG X.prog X.w X.K X.mg X.base k f fd ps sp) (hr : RoomG k X.A) (hg : Gl X x) (hm : X.mg x = some (.ref f)) (hk : PySem.W.keepIn X.K (.ref f) = true) (hb : Binds X.K fd ps ds) (hd : Vals dvs ds) (tk : L2N.Takes X W)
    (ha : PA X (e :: es) t) (hdb : (x == ("__debug__" : Str)) = false) (h1 : starEach (e :: es) X.env = (false, eval e X.env) :: starEach es X.env) (h2 : (backTo pos (starEach es X.env)).any (·.1) = false) :
    PE X (.Call (.Name x p) (e :: es) [] pos) (tCallW W sp dvs t) := by
  constructor
  intro pins s σ H Q I h
  refine wpAny_Call_Name_kw (ld_glob I hg hm ?_ hdb)
  refine PySem.W.callWith_K (h₀ := X.base) I.ok.mod.kin hk (thn (ha.run pos pins s σ H _ I h) ?_) h1 h2
  rintro us s1 ⟨vs, H1, I1, r, q⟩
  exact ⟨I1.kIn, run_g F hr hb hd tk I1 r q⟩
theorem pe_callG0 (F : FnG X.prog X.w X.K X.mg X.base k f fd ps sp) (hr : RoomG k X.A) (hg : Gl X x) (hm : X.mg x = some (.ref f)) (hk : PySem.W.keepIn X.K (.ref f) = true) (hb : Binds X.K fd ps ds) (hd : Vals dvs ds) (tk : L2N.Takes X W)
    (hdb : (x == ("__debug__" : Str)) = false) : PE X (.Call (.Name x p) [] [] pos) (tCallW W sp dvs tNil) := by
  constructor
  intro pins s σ H Q I h
  exact wpAny_Call_Name_kw (ld_glob I hg hm (PySem.W.callWith_K0 I.kIn hk (run_g (us := []) F hr hb hd tk I .nil h)) hdb)
/-- o.m(..), o an instance of the class at C -/
def tMethW (W : WX) (C : Addr) (m : Str) (sp : Sp) (dvs : List V) (ta : TE) (t : TA) : TE := fun σ H Q => ta σ H fun x H1 => ∃ a dx fs, x = .ref a ∧ H1 a = some (.ins C dx fs) ∧ fs.lookup m = none ∧
  t σ H1 fun vs H2 => sp (x :: (vs ++ dvs)) H2 Q (WE W σ)
theorem pe_methG {e : Expr} {pl : Sem Bool} (he : PE X o ta) (c : Cls X.K C) (hm : Meth X.K C m f) (F : FnG X.prog X.w X.K X.mg X.base k f fd ps sp) (hr : RoomG k X.A) (hb : Binds X.K fd ps ds) (hd : Vals dvs ds) (tk : L2N.Takes X W) (ha : PA X (e :: es) t)
    (h1 : starEach (e :: es) X.env = (false, eval e X.env) :: starEach es X.env) (h2 : (backTo pos (starEach es X.env)).any (·.1) = false)
    (ht : eval (.Call (.Attribute o m apos) (e :: es) [] pos) X.env = (do
      let ov ← eval o X.env
      standAt apos.atName
      let (f, first) ← holding [ov] (getMethod ov m pl)
      callWith pos f first (backTo pos (starEach (e :: es) X.env)) (backToKw pos (keywordEach [] X.env)))) :
    PE X (.Call (.Attribute o m apos) (e :: es) [] pos) (tMethW W C m sp dvs ta t) := by
  constructor
  intro pins s σ H Q I h
  refine PySem.W.methodCall_KW (pl := pl) (thn (he.run pins s σ H _ I h) ?_) ht
  rintro u s1 ⟨x, H1, I1, rx, a, dx, fs, rfl, ea, l, q⟩
  cases rx
  refine getmeth_ok I1 ea c hm l (PySem.W.callWith_K (first := [.ref a]) (h₀ := X.base) I.ok.mod.kin hm.kp (thn (ha.run pos pins s1 σ H1 _ I1 q) ?_) h1 h2)
  rintro us s2 ⟨vs, H2, I2, r, q2⟩
  exact ⟨I2.kIn, run_g (us := .ref a :: us) (vs := .ref a :: vs) F hr hb hd tk I2 (.cons rfl r) q2⟩
theorem pe_methG0 {pl : Sem Bool} (he : PE X o ta) (c : Cls X.K C) (hm : Meth X.K C m f) (F : FnG X.prog X.w X.K X.mg X.base k f fd ps sp) (hr : RoomG k X.A) (hb : Binds X.K fd ps ds) (hd : Vals dvs ds) (tk : L2N.Takes X W)
    (ht : eval (.Call (.Attribute o m apos) [] [] pos) X.env = (do
      let ov ← eval o X.env
      standAt apos.atName
      let (f, first) ← holding [ov] (getMethod ov m pl)
      callWith pos f first (backTo pos (starEach [] X.env)) (backToKw pos (keywordEach [] X.env)))) :
    PE X (.Call (.Attribute o m apos) [] [] pos) (tMethW W C m sp dvs ta tNil) := by
  constructor
  intro pins s σ H Q I h
  refine PySem.W.methodCall_KW (pl := pl) (thn (he.run pins s σ H _ I h) ?_) ht
  rintro u s1 ⟨x, H1, I1, rx, a, dx, fs, rfl, ea, l, q⟩
  cases rx
  exact getmeth_ok I1 ea c hm l (PySem.W.callWith_K0 (first := [.ref a]) I1.kIn hm.kp (run_g (us := [.ref a]) (vs := [.ref a]) F hr hb hd tk I1 (.cons rfl .nil) q))
/-- C(..), by __init__ -/
def tMakeW (W : WX) (C : Addr) (sp : Sp) (dvs : List V) (t : TA) : TE := fun σ H Q => t σ H fun vs H1 => ∀ x dx, H1 x = none → H1 dx = none → dx ≠ x →
  sp (.ref x :: (vs ++ dvs)) (upd (upd H1 dx (.own x)) x (.ins C dx [])) (fun v H2 => v = .non ∧ Q (.ref x) H2) (WE W σ)
theorem run_makeG {pins : List (Addr × Obj)} {σ : L2.St} {H : Hp} {s : Shared} {Q : VK} {us : List Value} {vs : List V} (M : Mk X.K C f) (F : FnG X.prog X.w X.K X.mg X.base k f fd ps sp) (hr : RoomG (k + 1) X.A) (hb : Binds X.K fd ps ds) (hd : Vals dvs ds)
    (tk : L2N.Takes X W) (I : Inv X pins σ H s) (r : Vals vs us)
    (h : ∀ x dx, H x = none → H dx = none → dx ≠ x → sp (.ref x :: (vs ++ dvs)) (upd (upd H dx (.own x)) x (.ins C dx [])) (fun v H2 => v = .non ∧ Q (.ref x) H2) (WE W σ)) :
    wpAny (model X.prog X.w) X.A (call (.ref C) us) (EP X pins σ Q) X.xe s := by
  have q0 := h _ _ (I.hok.fresh (Nat.le_succ s.heap.objs.size)) (I.hok.fresh (Nat.le_refl _)) (Nat.ne_of_lt (Nat.lt_succ_self _))
  have J : Inv X pins σ _ _ := Inv.made (C := C) I
  have r2 : Vals (V.ref (s.heap.objs.size + 1) :: (vs ++ dvs)) (Value.ref (s.heap.objs.size + 1) :: (us ++ ds)) := .cons rfl (r.append hd)
  have n0 : (Value.ref (s.heap.objs.size + 1) :: us ++ ds).length = ps.length := r2.length.symm.trans (F.len _ _ _ _ q0)
  refine wpAny_call (make_map (f := f) I.kIn M.makes M.init (beq_iff_eq.mp M.fn) (codeAny_mono (F.run _ X.stack _ _ ⟨Value.ref (s.heap.objs.size + 1) :: us, []⟩ _ _ _ _ (hr.make C us [])
    (J.env0.make C us []) (hb _ (Value.ref (s.heap.objs.size + 1) :: us) J.kIn n0) r2 q0) ?_))
  intro z s' hz
  match z, hz with
  | .error e, hz => exact L2N.passAt tk σ pins _ _ e s' J hz
  | .ok (.ret u), hz =>
    obtain ⟨v, H', I3, rv, ev, q3⟩ := J.after hz
    cases ev
    exact ⟨rv, V.ref (s.heap.objs.size + 1), H', I3, rfl, q3⟩
theorem pe_makeG {e : Expr} (M : Mk X.K C f) (F : FnG X.prog X.w X.K X.mg X.base k f fd ps sp) (hr : RoomG (k + 1) X.A) (hg : Gl X x) (hm : X.mg x = some (.ref C)) (hb : Binds X.K fd ps ds) (hd : Vals dvs ds) (tk : L2N.Takes X W)
    (ha : PA X (e :: es) t) (hdb : (x == ("__debug__" : Str)) = false) (h1 : starEach (e :: es) X.env = (false, eval e X.env) :: starEach es X.env) (h2 : (backTo pos (starEach es X.env)).any (·.1) = false) :
    PE X (.Call (.Name x p) (e :: es) [] pos) (tMakeW W C sp dvs t) := by
  constructor
  intro pins s σ H Q I h
  refine wpAny_Call_Name_kw (ld_glob I hg hm ?_ hdb)
  refine PySem.W.callWith_K (h₀ := X.base) I.ok.mod.kin M.kp (thn (ha.run pos pins s σ H _ I h) ?_) h1 h2
  rintro us s1 ⟨vs, H1, I1, r, q⟩
  exact ⟨I1.kIn, run_makeG M F hr hb hd tk I1 r q⟩
theorem pe_makeG0 (M : Mk X.K C f) (F : FnG X.prog X.w X.K X.mg X.base k f fd ps sp) (hr : RoomG (k + 1) X.A) (hg : Gl X x) (hm : X.mg x = some (.ref C)) (hb : Binds X.K fd ps ds) (hd : Vals dvs ds) (tk : L2N.Takes X W)
    (hdb : (x == ("__debug__" : Str)) = false) : PE X (.Call (.Name x p) [] [] pos) (tMakeW W C sp dvs tNil) := by
  constructor
  intro pins s σ H Q I h
  exact wpAny_Call_Name_kw (ld_glob I hg hm (PySem.W.callWith_K0 I.kIn M.kp (run_makeG (us := []) M F hr hb hd tk I .nil h)) hdb)
end
end M

/-! MiniC: the side conditions of plain expressions. -/
namespace M
open PySem PySem.Spec PyProof.Rows L2

theorem plain_star {e : Expr} (h : plain e = true) (es : List Expr) (env : Env) : starEach (e :: es) env = (false, eval e env) :: starEach es env := by
  cases e <;> first | rfl | cases h
theorem plain_any {env : Env} {pos : Pos} : ∀ {es : List Expr}, es.all plain = true → (backTo pos (starEach es env)).any (·.1) = false
  | [], _ => rfl
  | e :: r, h => by
    obtain ⟨h1, h2⟩ := Bool.and_eq_true_iff.mp (show (plain e && r.all plain) = true from h)
    have ih := plain_any (env := env) (pos := pos) h2
    rw [plain_star h1]
    show (false || (backTo pos (starEach r env)).any (·.1)) = false
    rw [ih]
    rfl
theorem plain_base {o : Expr} (h : plain o = true) (m : Str) (env : Env) : attributeBase o m env (eval o env) = eval o env := by
  cases o with
  | Call f as ks p =>
    cases f with
    | Name x q =>
      have hx : ¬ x = ("super" : Str) := by
        intro e
        have h' : (!decide (x = ("super" : Str))) = true := h
        rw [decide_eq_true e] at h'
        cases h'
      cases as with
      | cons _ _ => rfl
      | nil =>
        cases ks with
        | cons _ _ => rfl
        | nil =>
          have hb : (x != ("super" : Str)) = true := bne_iff_ne.mpr hx
          unfold attributeBase
          simp only [hb, Bool.true_or, if_true]
          try exact bind_pure _
    | _ => rfl
  | _ => first | rfl | cases h
/-- no comprehension -/
def noComp : Expr → Bool
  | .ListComp .. => false
  | .SetComp .. => false
  | .DictComp .. => false
  | _ => true
theorem plain_ix {b : Expr} (h : plain b = true) : PlainIx b := by
  intro o i
  cases b <;> first | rfl | cases h
theorem noComp_swap {e : Expr} (h : noComp e = true) (t : Option Expr) (l : Nat) (env : Env) : swapsWith e t l env = pure false := by
  cases e <;> first | rfl | cases h
theorem plain_mark {b : Expr} (h : plain b = true) (op : CmpOp) : behindInMarks op b = false := by
  cases b <;> first | rfl | cases h
theorem plain_mark2 {b c : Expr} (h : plain c = true) (op op' : CmpOp) : lastMarks [op, op'] [b, c] = false := plain_mark h op'
theorem plain_fold {e : Expr} (h : plain e = true) (env : Env) (x : Value) : foldedSetIterable e env x = pure x := by
  cases e <;> first | rfl | cases h
/-- asked by its truth -/
def byTruth : Expr → Bool
  | .UnaryOp .Not _ _ => false
  | .BoolOp .. => false
  | .IfExp .. => false
  | .Compare .. => false
  | _ => true
theorem truth_of {e : Expr} (h : byTruth e = true) (env : Env) (whole : Sem Value) : isTrue e env whole = (do let v ← whole; standAt e.pos; holding [v] (truthy v)) := by
  cases e with
  | UnaryOp op a p => cases op <;> first | rfl | cases h
  | _ => first | rfl | cases h
theorem few_ok {env : Env} {pos : Pos} {es : List Expr} (h : es.all plain = true) (hl : es.length < 20) :
    methodCallForm (es.length + ([] : List Keyword).length) (backTo pos (starEach es env)) (backToKw pos (keywordEach [] env)) = true := by
  have h1 : (backTo pos (starEach es env)).all (fun x => !x.1) = true := by
    have q := plain_any (env := env) (pos := pos) h
    rw [List.all_eq_true]
    intro x hx
    rw [List.any_eq_false] at q
    have := q x hx
    simpa using this
  have h2 : (backToKw pos (keywordEach [] env)) = [] := rfl
  unfold methodCallForm
  rw [h2, h1]
  show (true && true && decide (es.length + 0 + 0 < 30)) = true
  rw [decide_eq_true (by omega)]
  rfl
theorem meth_form {o : Expr} {m : Str} {es : List Expr} {apos pos : Pos} {env : Env} (ho : plain o = true) (he : es.all plain = true) (hn : es.length < 20) (hl : (apos.endLine == pos.line) = true) :
    eval (.Call (.Attribute o m apos) es [] pos) env = (do
      let ov ← eval o env
      standAt apos.atName
      let (f, first) ← holding [ov] (getMethod ov m (plainOf o env))
      callWith pos f first (backTo pos (starEach es env)) (backToKw pos (keywordEach [] env))) := by
  have e1 : eval (.Call (.Attribute o m apos) es [] pos) env = (do
      let ov ← attributeBase o m env (eval o env)
      standAt apos.atName
      methodCall o m apos pos env ov (es.length + ([] : List Keyword).length) (backTo pos (starEach es env)) (backToKw pos (keywordEach [] env))) := rfl
  rw [e1, plain_base ho]
  congr 1
  funext ov
  congr 1
  funext _
  exact mcall_line (few_ok he hn) hl
end M

/-! MiniD: the readings. -/
namespace M
open PySem PySem.Spec PyProof.Rows L2

/-! ### what the text's names are worth -/
structure FE where
  f : Addr
  fd : FuncData
  ps : List Str
  k : Nat
  sp : Sp
  ds : List Value
  dvs : List V
structure CE' where
  C : Addr
  ini : FE
structure ME where
  C : Addr
  m : Str
  fe : FE
structure Tb where
  fn : Str → Option FE
  cl : Str → Option CE'
  me : List ME
  gl : Str → Option V

/-! ### readings of operators -/
abbrev rOr (r r' : R2) : R2 := fun x y H Q => r x y H Q ∨ r' x y H Q
def rStr2 : R2 := fun x y H Q => ∃ i j, x = .str i ∧ y = .str j ∧ i.length + j.length ≤ sizeLine ∧ Q (.str (i ++ j)) H
def rBin (K : PySem.W.Frag) : BO → R2
  | .add => rOr (rI0 fun i j => .int (i + j)) (rOr rStr2 (rOr rCat (rCatT K)))
  | .sub => rI0 fun i j => .int (i - j)
  | .mul => rOr (rI CMul fun i j => .int (i * j)) (rOr (rI CMulW fun i j => .int (i * j)) rRep)
  | .fdiv => rOr (rI CDivN fun i j => .int (i.fdiv j)) (rI CDivW fun i j => .int (i / j))
  | .mod => rI (fun _ j => j ≠ 0) fun i j => .int (i.fmod j)
  | .pow => rI CPow fun i j => .int (i ^ j.toNat)
theorem bin_ok {X : Cx} : ∀ {op : Operator} {o : BO}, trBO op = some o → OpR X (binaryOp op) (rBin X.K o)
  | .Add, _, h => by cases h; exact op_add.or (op_add_str.or (op_cat.or op_catT))
  | .Sub, _, h => by cases h; exact op_sub
  | .Mult, _, h => by cases h; exact op_mul.or (op_mulW.or op_rep)
  | .FloorDiv, _, h => by cases h; exact op_fdivN.or op_fdivW
  | .Mod, _, h => by cases h; exact op_modN
  | .Pow, _, h => by cases h; exact op_pow
def rStrIn (neg : Bool) : R2 := fun x y H Q => ∃ i j, x = .str i ∧ y = .str j ∧ Q (.bl (if neg then !(!(Builtin.Str.occurrences j i 0 j.length 1).isEmpty) else !(Builtin.Str.occurrences j i 0 j.length 1).isEmpty)) H
def rLtStr : R2 := fun x y H Q => ∃ i j, x = .str i ∧ y = .str j ∧ Q (.bl (decide (i.cps.toList < j.cps.toList))) H
def rCmp (K : PySem.W.Frag) : CO → R2
  | .eq => rOr rEq (rEqD K)
  | .ne => rOr rNe (rNeD K)
  | .lt => rI0 fun i j => .bl (decide (i < j))
  | .le => rI0 fun i j => .bl (decide (i ≤ j))
  | .gt => rI0 fun i j => .bl (decide (j < i))
  | .ge => rI0 fun i j => .bl (decide (j ≤ i))
  | .isin => rOr (rIn K false) (rStrIn false)
  | .notin => rOr (rIn K true) (rStrIn true)
theorem cmp_ok {X : Cx} (hu : X.A.units + 64 < cLine) : ∀ {op : CmpOp} {o : CO}, trCO op = some o → OpR X (compareOp op) (rCmp X.K o)
  | .Eq, _, h => by cases h; exact op_eq.or (op_eqD hu)
  | .NotEq, _, h => by cases h; exact op_ne.or (op_neD hu)
  | .Lt, _, h => by cases h; exact op_lt
  | .LtE, _, h => by cases h; exact op_le
  | .Gt, _, h => by cases h; exact op_gt
  | .GtE, _, h => by cases h; exact op_ge
  | .In, _, h => by cases h; exact op_in_seq.or op_in_str
  | .NotIn, _, h => by cases h; exact op_notIn_seq.or op_notin_str

/-! ### built-ins by name -/
abbrev RB := List V → Hp → VK → Prop
abbrev rbOr (r r' : RB) : RB := fun xs H Q => r xs H Q ∨ r' xs H Q
def rbInt : RB := fun xs H Q => (∃ i, xs = [.int i] ∧ Q (.int i) H) ∨ ∃ k, xs = [.bl k] ∧ Q (.int (if k then 1 else 0)) H
def rbAbs : RB := fun xs H Q => ∃ i, xs = [.int i] ∧ Q (.int (if i < 0 then -i else i)) H
def rbMax2 : RB := fun xs H Q => ∃ i j, xs = [.int i, .int j] ∧ Q (.int (if j > i then j else i)) H
def rbMin2 : RB := fun xs H Q => ∃ i j, xs = [.int i, .int j] ∧ Q (.int (if j < i then j else i)) H
def rbLen (K : PySem.W.Frag) : RB := fun xs H Q => ∃ x n, xs = [x] ∧ LenV K x H n ∧ Q (.int n) H
def rbList (K : PySem.W.Frag) : RB := fun xs H Q => ∃ p ys, xs = [.ref p] ∧ (SqL K H p ys ∨ SqT K H p ys) ∧ ∀ l, H l = none → Q (.ref l) (upd H l (.lst ys))
def rbTuple (K : PySem.W.Frag) : RB := fun xs H Q => ∃ p ys, xs = [.ref p] ∧ ((SqL K H p ys ∧ ∀ l, H l = none → Q (.ref l) (upd H l (.tup ys))) ∨ (SqT K H p ys ∧ Q (.ref p) H))
def rbStr : RB := fun xs H Q => ∃ i, xs = [.int i] ∧ i.natAbs.log2 < 1920 ∧ Q (.str (toString i)) H
/-- repr of data -/
def rbRepr (K : PySem.W.Frag) : RB := fun xs H Q => ∃ x d, xs = [x] ∧ Dp K H x d ∧ d.showable = true ∧ d.hasDict = false ∧ d.depth ≤ 60 ∧ d.shown.length ≤ sizeLine ∧ Q (.str d.shown) H
inductive BK where
  | fn (id : String) | ty (id : String)
def BK.v : BK → Value
  | .fn id => .builtin id
  | .ty id => .type id
def blt (K : PySem.W.Frag) (x : Str) : Option (BK × RB) :=
  if x = ("len" : Str) then some (.fn "len", rbLen K)
  else if x = ("int" : Str) then some (.ty "int", rbInt)
  else if x = ("abs" : Str) then some (.fn "abs", rbAbs)
  else if x = ("max" : Str) then some (.fn "max", rbOr rbMax2 (rMax K))
  else if x = ("min" : Str) then some (.fn "min", rbOr rbMin2 (rMin K))
  else if x = ("list" : Str) then some (.ty "list", rbList K)
  else if x = ("tuple" : Str) then some (.ty "tuple", rbTuple K)
  else if x = ("sum" : Str) then some (.fn "sum", rSum K)
  else if x = ("any" : Str) then some (.fn "any", rAny K)
  else if x = ("all" : Str) then some (.fn "all", rAll K)
  else if x = ("str" : Str) then some (.ty "str", rbStr)
  else if x = ("repr" : Str) then some (.fn "repr", rbRepr K)
  else if x = ("sorted" : Str) then some (.fn "sorted", rSortedI K)
  else none
/-- methods of built-in types: the type, the reading -/
abbrev RM := V → List V → Hp → VK → Prop
def rJoin (K : PySem.W.Frag) : RM := fun x xs H Q => ∃ a p, ∃ ys : List Str, x = .str a ∧ xs = [.ref p] ∧ (SqL K H p (ys.map V.str) ∨ SqT K H p (ys.map V.str)) ∧
  (ys.map (·.length)).sum + ys.length * a.length ≤ 16777216 ∧ Q (.str (Txt.join a ys)) H
end M

/-! MiniE: built-ins are right. -/
namespace M
open PySem PySem.Spec PyProof.Rows L2
section
variable {X : Cx}
theorem call_repr (hg : X.A.guards = some []) (hu : X.A.units + 64 < cLine) : CallR X (.builtin "repr") (rbRepr X.K) := by
  intro pins s σ H xs us Q I r q
  obtain ⟨x, d, rfl, hd, h1, h2, h3, h4, q⟩ := q
  obtain ⟨u, rfl, ru⟩ := vals1 r
  cases hd with
  | non => cases ru; exact PySem.P.repr_of_none ⟨.str _, H, I.tok _, ⟨_, rfl⟩, q⟩
  | bl b => cases ru; exact PySem.P.repr_of_bool ⟨.str _, H, I.tok _, ⟨_, rfl⟩, by cases b <;> exact q⟩
  | int i =>
    obtain ⟨t, rfl⟩ := ru
    have h1' : decide (i.natAbs.log2 < 1920) = true := by simpa only [PyData.showable] using h1
    exact PySem.P.repr_of_int (of_decide_eq_true h1') ⟨.str _, H, I.tok _, ⟨_, rfl⟩, q⟩
  | str z =>
    obtain ⟨t, rfl⟩ := ru
    exact PySem.P.repr_of_str ⟨.str _, H, I.tok _, ⟨_, rfl⟩, q⟩ h4
  | lst hs ha =>
    cases ru
    obtain ⟨as, hr⟩ := Dp.reads I _ _ _ (Dp.lst hs ha) rfl
    exact repr_of_reads' hr h1 (PyData.noDict_hsm h2) hg (by omega) (fun _ _ e => e) (fun h' u tk hk => ⟨.str _, H, I.kept hk, ⟨_, rfl⟩, q⟩) h4
  | tup hs ha =>
    cases ru
    obtain ⟨as, hr⟩ := Dp.reads I _ _ _ (Dp.tup hs ha) rfl
    exact repr_of_reads' hr h1 (PyData.noDict_hsm h2) hg (by omega) (fun _ _ e => e) (fun h' u tk hk => ⟨.str _, H, I.kept hk, ⟨_, rfl⟩, q⟩) h4
/-- a built-in is not shadowed by the text -/
theorem blt_ok (hc : X.calm = true) (hg : X.A.guards = some []) (hu : X.A.units + 64 < cLine) {x : Str} {b : BK} {r : RB} (h : blt X.K x = some (b, r)) :
    CallR X b.v r ∧ bootBuiltins x = some b.v ∧ (x ≠ "__name__" ∧ (x == ("__debug__" : Str)) = false) := by
  have go : ∀ {z : Str} {b' : BK} {r' : RB} {rest : Option (BK × RB)}, (if x = z then some (b', r') else rest) = some (b, r) →
      (CallR X b'.v r' ∧ bootBuiltins z = some b'.v ∧ (z ≠ "__name__" ∧ (z == ("__debug__" : Str)) = false)) →
      (rest = some (b, r) → CallR X b.v r ∧ bootBuiltins x = some b.v ∧ (x ≠ "__name__" ∧ (x == ("__debug__" : Str)) = false)) →
      CallR X b.v r ∧ bootBuiltins x = some b.v ∧ (x ≠ "__name__" ∧ (x == ("__debug__" : Str)) = false) := by
    intro z b' r' rest h0 h1 h2
    by_cases e : x = z
    · rw [if_pos e] at h0
      cases h0
      rw [e]
      exact h1
    · rw [if_neg e] at h0
      exact h2 h0
  unfold blt at h
  refine go h ⟨call_len, by decide +kernel, by decide, by decide⟩ fun h => ?_
  refine go h ⟨call_int1, by decide +kernel, by decide, by decide⟩ fun h => ?_
  refine go h ⟨call_abs, by decide +kernel, by decide, by decide⟩ fun h => ?_
  refine go h ⟨(call_max2 hc).or (cr_max hc), by decide +kernel, by decide, by decide⟩ fun h => ?_
  refine go h ⟨(call_min2 hc).or (cr_min hc), by decide +kernel, by decide, by decide⟩ fun h => ?_
  refine go h ⟨call_list_of, by decide +kernel, by decide, by decide⟩ fun h => ?_
  refine go h ⟨call_tuple_of, by decide +kernel, by decide, by decide⟩ fun h => ?_
  refine go h ⟨cr_sum hc, by decide +kernel, by decide, by decide⟩ fun h => ?_
  refine go h ⟨cr_any hc, by decide +kernel, by decide, by decide⟩ fun h => ?_
  refine go h ⟨cr_all hc, by decide +kernel, by decide, by decide⟩ fun h => ?_
  refine go h ⟨call_str_int, by decide +kernel, by decide, by decide⟩ fun h => ?_
  refine go h ⟨call_repr hg hu, by decide +kernel, by decide, by decide⟩ fun h => ?_
  refine go h ⟨cr_sortedI, by decide +kernel, by decide, by decide⟩ fun h => ?_
  cases h
end
end M

/-! MiniF: the reading of an expression. -/
namespace M
open PySem PySem.Spec PyProof.Rows L2

abbrev teOr (t u : TE) : TE := fun σ H Q => t σ H Q ∨ u σ H Q
abbrev tiOr (t u : TI) : TI := fun σ H R => t σ H R ∨ u σ H R
abbrev tgOr (t u : TG) : TG := fun v σ H Q => t v σ H Q ∨ u v σ H Q
def WNo : WX := fun _ _ _ _ => False
def tTru (K : PySem.W.Frag) (ta : TE) : TT := fun σ H Q => ta σ H fun x H' => ∃ k, TruV K x H' k ∧ Q k H'
/-- methods of built-in types -/
def rdMB (K : PySem.W.Frag) (m : Str) (to : TE) (t : TA) : TE := fun σ H Q =>
  (m = ("append" : Str) ∧ tBM K "list" rAppend to t σ H Q) ∨ (m = ("extend" : Str) ∧ tBM K "list" rExtend to t σ H Q) ∨
  (m = ("pop" : Str) ∧ (tBM K "list" rPop to t σ H Q ∨ tBM K "list" rPopAt to t σ H Q)) ∨ (m = ("join" : Str) ∧ tBM K "str" (rJoin K) to t σ H Q)
def rdMU (T : Tb) (W : WX) (m : Str) (to : TE) (t : TA) : TE := fun σ H Q => ∃ c ∈ T.me, c.m = m ∧ tMethW W c.C m c.fe.sp c.fe.dvs to t σ H Q
def neEs : Es → Bool
  | .nil => false
  | _ => true
def rdCall (T : Tb) (K : PySem.W.Frag) (W : WX) (f : Str) (ne : Bool) (t : TA) : TE := fun σ H Q =>
  (∃ fe, T.fn f = some fe ∧ tCallW W fe.sp fe.dvs t σ H Q) ∨ (∃ c, T.cl f = some c ∧ tMakeW W c.C c.ini.sp c.ini.dvs t σ H Q) ∨ (ne = true ∧ ∃ b r, blt K f = some (b, r) ∧ tCB r t σ H Q)
/-- o.f = v -/
def gFld (K : PySem.W.Frag) (to : TE) (f : Str) : TG := fun v σ H Q => to σ H fun x H2 => ∃ a C dx fs, x = .ref a ∧ H2 a = some (.ins C dx fs) ∧ Cls K C ∧ NoAttr K C f ∧ fs.length < 1000 ∧ Q σ (upd H2 a (.ins C dx (putF f v fs)))
def rSetD : TSet := fun o i v H Q => ∃ a H4, o = .ref a ∧ DPut H a i v H4 ∧ Q H4
def rSet : TSet := fun o i v H Q => rSetL o i v H Q ∨ rSetD o i v H Q
def gsLen : Gs → Nat
  | .nil => 0
  | .cons _ r => gsLen r + 1
mutual
def rdE (T : Tb) (K : PySem.W.Frag) : WX → E → TE
  | _, .var i => tVar i
  | _, .glo x => fun σ H Q => ∃ v, T.gl x = some v ∧ tC v σ H Q
  | _, .cst v => tC v
  | W, .bin o a b => tOp (rBin K o) (rdE T K W a) (rdE T K W b)
  | W, .neg a => tUn (rU fun i => .int (-i)) (rdE T K W a)
  | W, .no a => tNotV (rdE T K W a)
  | W, .cmp o a b => match o with
    | .isin => teOr (tOp (rCmp K .isin) (rdE T K W a) (rdE T K W b)) (tDIn (rdE T K W a) (rdE T K W b))
    | .notin => teOr (tOp (rCmp K .notin) (rdE T K W a) (rdE T K W b)) (tDNotIn (rdE T K W a) (rdE T K W b))
    | o => tOp (rCmp K o) (rdE T K W a) (rdE T K W b)
  | W, .chain o o' a b c => tChain (rCmp K o) (rCmp K o') (rdE T K W a) (rdE T K W b) (rdE T K W c)
  | W, .isN a => tIsN (rdE T K W a)
  | W, .notN a => tNotN (rdE T K W a)
  | W, .band es => rdAndV T K W es
  | W, .bor es => rdOrV T K W es
  | W, .ife c a b => tIf (rdT T K W c) (rdE T K W a) (rdE T K W b)
  | W, .lst es => tLst (rdA T K W es)
  | W, .tup es => tTup (rdA T K W es)
  | W, .idx a i => teOr (tOp (rIx K) (rdE T K W a) (rdE T K W i)) (tDGet (rdE T K W a) (rdE T K W i))
  | W, .sl a lo hi => tSl (fun x l h H Q => rSlL K x l h H Q ∨ rSlT K x l h H Q) (rdE T K W a) (rdP T K W lo) (rdP T K W hi)
  | W, .rev a => tRevL K (rdE T K W a)
  | W, .call f es => rdCall T K W f (neEs es) (rdA T K W es)
  | W, .meth o m es => teOr (rdMB K m (rdE T K W o) (rdA T K W es)) (rdMU T W m (rdE T K W o) (rdA T K W es))
  | W, .attr o f => tFld K (rdE T K W o) f
  | W, .rgl a => tLstRg (tRg1 (rdE T K W a))
  | W, .lc own g it c elt => tLc (rdI T K W it) (rdG T K WNo g) (rdTs T K WNo c) (rdE T K WNo elt) own
def rdT (T : Tb) (K : PySem.W.Frag) : WX → E → TT
  | W, .no a => tNot (rdT T K W a)
  | W, .cmp o a b => tTest (match o with
    | .isin => teOr (tOp (rCmp K .isin) (rdE T K W a) (rdE T K W b)) (tDIn (rdE T K W a) (rdE T K W b))
    | .notin => teOr (tOp (rCmp K .notin) (rdE T K W a) (rdE T K W b)) (tDNotIn (rdE T K W a) (rdE T K W b))
    | o => tOp (rCmp K o) (rdE T K W a) (rdE T K W b))
  | W, .chain o o' a b c => tTest (tChain (rCmp K o) (rCmp K o') (rdE T K W a) (rdE T K W b) (rdE T K W c))
  | W, .isN a => tB (tIsN (rdE T K W a))
  | W, .notN a => tB (tNotN (rdE T K W a))
  | W, .band es => rdAnd T K W es
  | W, .bor es => rdOr T K W es
  | _, .ife _ _ _ => fun _ _ _ => False
  | W, .var i => tTru K (tVar i)
  | W, .glo x => tTru K fun σ H Q => ∃ v, T.gl x = some v ∧ tC v σ H Q
  | W, .cst v => tTru K (tC v)
  | W, .idx a i => tTru K (teOr (tOp (rIx K) (rdE T K W a) (rdE T K W i)) (tDGet (rdE T K W a) (rdE T K W i)))
  | W, .call f es => tTru K (rdCall T K W f (neEs es) (rdA T K W es))
  | W, .meth o m es => tTru K (teOr (rdMB K m (rdE T K W o) (rdA T K W es)) (rdMU T W m (rdE T K W o) (rdA T K W es)))
  | W, .attr o f => tTru K (tFld K (rdE T K W o) f)
  | _, _ => fun _ _ _ => False
def rdA (T : Tb) (K : PySem.W.Frag) : WX → Es → TA
  | _, .nil => tNil
  | W, .cons e r => tCons (rdE T K W e) (rdA T K W r)
def rdAndV (T : Tb) (K : PySem.W.Frag) : WX → Es → TE
  | _, .nil => fun _ _ _ => False
  | W, .cons e r => match r with
    | .nil => rdE T K W e
    | .cons e' r' => tAndV (rdE T K W e) (rdAndV T K W (.cons e' r'))
def rdOrV (T : Tb) (K : PySem.W.Frag) : WX → Es → TE
  | _, .nil => fun _ _ _ => False
  | W, .cons e r => match r with
    | .nil => rdE T K W e
    | .cons e' r' => tOrV (rdE T K W e) (rdOrV T K W (.cons e' r'))
def rdAnd (T : Tb) (K : PySem.W.Frag) : WX → Es → TT
  | _, .nil => fun _ _ _ => False
  | W, .cons e r => match r with
    | .nil => rdT T K W e
    | .cons e' r' => tAnd (rdT T K W e) (rdAnd T K W (.cons e' r'))
def rdOr (T : Tb) (K : PySem.W.Frag) : WX → Es → TT
  | _, .nil => fun _ _ _ => False
  | W, .cons e r => match r with
    | .nil => rdT T K W e
    | .cons e' r' => tOr (rdT T K W e) (rdOr T K W (.cons e' r'))
def rdTs (T : Tb) (K : PySem.W.Frag) : WX → Es → TT
  | _, .nil => tYes
  | W, .cons e _ => rdT T K W e
def rdP (T : Tb) (K : PySem.W.Frag) : WX → P → TO
  | _, .no => tNoPart
  | W, .so e => tPart (rdE T K W e)
def rdG (T : Tb) (K : PySem.W.Frag) : WX → G → TG
  | _, .nm i => gName i
  | W, .tp gs => tgOr (gTup K (gsLen gs) (rdGs T K W gs)) (gLst K (gsLen gs) (rdGs T K W gs))
  | W, .fl o f => gFld K (rdE T K W o) f
  | W, .sb o i => gSub (rdE T K W o) (rdE T K W i) rSet
def rdGs (T : Tb) (K : PySem.W.Frag) : WX → Gs → TGs
  | _, .nil => gNil
  | W, .cons g r => gCons (rdG T K W g) (rdGs T K W r)
def rdI (T : Tb) (K : PySem.W.Frag) : WX → I → TI
  | W, .of e => tiOr (iList K (rdE T K W e)) (tiOr (iTup K (rdE T K W e)) (iStr (rdE T K W e)))
  | W, .rng1 a => iRng1 (tCons (rdE T K W a) tNil)
  | W, .rng2 a b => iRng2 (tCons (rdE T K W a) (tCons (rdE T K W b) tNil))
  | W, .rng3 a b c => iRng3 (tCons (rdE T K W a) (tCons (rdE T K W b) (tCons (rdE T K W c) tNil)))
  | W, .enum e => iEnum K (tCons (rdE T K W e) tNil)
  | W, .zip a b => iZip K (tCons (rdE T K W a) (tCons (rdE T K W b) tNil))
end
end M

/-! MiniG: where one stands. -/
namespace M
open PySem PySem.Spec PyProof.Rows L2

/-- what the table says stands in the text -/
structure TbOk (P : Program) (w : World) (K : PySem.W.Frag) (mg : Str → Option Value) (base : Heap) (kx : Nat) (T : Tb) : Prop where
  fn : ∀ x e, T.fn x = some e → mg x = some (.ref e.f) ∧ PySem.W.keepIn K (.ref e.f) = true ∧ Binds K e.fd e.ps e.ds ∧ Vals e.dvs e.ds ∧ FnG P w K mg base kx e.f e.fd e.ps e.sp
  cl : ∀ x c, T.cl x = some c → mg x = some (.ref c.C) ∧ Mk K c.C c.ini.f ∧ Binds K c.ini.fd c.ini.ps c.ini.ds ∧ Vals c.ini.dvs c.ini.ds ∧ ∃ k, k + 1 ≤ kx ∧ FnG P w K mg base k c.ini.f c.ini.fd c.ini.ps c.ini.sp
  me : ∀ c ∈ T.me, Cls K c.C ∧ Meth K c.C c.m c.fe.f ∧ Binds K c.fe.fd c.fe.ps c.fe.ds ∧ Vals c.fe.dvs c.fe.ds ∧ FnG P w K mg base kx c.fe.f c.fe.fd c.fe.ps c.fe.sp
  gl : ∀ x v, T.gl x = some v → ∃ u, mg x = some u ∧ RelV v u
  fr : ∀ x, (blt K x).isSome = true → mg x = none
  rg : mg "range" = none ∧ mg "enumerate" = none ∧ mg "zip" = none
/-- where one stands: the context X, the scope sc by which names are read -/
structure Good (kx : Nat) (T : Tb) (X : Cx) (sc : Scope) : Prop where
  tb : TbOk X.prog X.w X.K X.mg X.base kx T
  rm : RoomG kx X.A
  nd : X.N.Nodup
  calm : X.calm = true
  vis : ∀ x, visK sc x = true → Vis X.env.scope x
  loc : ∀ x, locK sc x = true → Loc X.env.scope x ∧ (X.fn x = true ∨ X.env.scope.names.lookup x = some .local)
  cf : ∀ x, cfK sc x = true → X.env.scope.names.lookup x = some .cell ∨ X.env.scope.names.lookup x = some .free
  glo : ∀ x, gloK sc x = true → Gl X x
theorem visK_of {sc : Scope} {x : Str} (h : visK sc x = true) : Vis sc x := by
  unfold visK at h
  cases q : sc.names.lookup x with
  | none => rw [q] at h; cases h
  | some k =>
    rw [q] at h
    cases k <;> first | exact .inl q | exact .inr (.inl q) | exact .inr (.inr q) | cases h
theorem locK_of {sc : Scope} {x : Str} (h : locK sc x = true) : Loc sc x := by
  unfold locK at h
  cases q : sc.names.lookup x with
  | none => rw [q] at h; cases h
  | some k =>
    rw [q] at h
    cases k <;> first | exact .inl q | exact .inr q | cases h
theorem cfK_of {sc : Scope} {x : Str} (h : cfK sc x = true) : sc.names.lookup x = some .cell ∨ sc.names.lookup x = some .free := by
  unfold cfK at h
  cases q : sc.names.lookup x with
  | none => rw [q] at h; cases h
  | some k =>
    rw [q] at h
    cases k <;> first | exact .inl rfl | exact .inr rfl | cases h
theorem gloK_of {sc : Scope} {x : Str} (h : gloK sc x = true) : sc.names.lookup x = some .globalImplicit := by
  unfold gloK at h
  cases q : sc.names.lookup x with
  | none => rw [q] at h; cases h
  | some k =>
    rw [q] at h
    cases k <;> first | rfl | cases h
theorem relS_free {sc : Scope} : ∀ {names : List (Str × NameKind)} {x : Str}, names.lookup x = some .free →
    (names.map fun (n, k) => if (k == NameKind.free && sc.kind == .function && sc.names.lookup n == some .cell) then (n, NameKind.cell) else (n, k)).lookup x = some .cell ∨
    (names.map fun (n, k) => if (k == NameKind.free && sc.kind == .function && sc.names.lookup n == some .cell) then (n, NameKind.cell) else (n, k)).lookup x = some .free
  | [], _, h => by simp at h
  | (n, k) :: r, x, h => by
    by_cases e : x = n
    · subst e
      have hk : k = .free := by simpa [List.lookup_cons] using h
      subst hk
      simp only [List.map_cons]
      split
      · exact .inl (by simp [List.lookup_cons])
      · exact .inr (by simp [List.lookup_cons])
    · have hb : (x == n) = false := beq_eq_false_iff_ne.mpr e
      rw [List.lookup_cons, hb] at h
      have ih := relS_free (sc := sc) h
      simp only [List.map_cons]
      split <;> (simp only [List.lookup_cons, hb]; exact ih)
/-- a def's own body -/
theorem good_fn {P : Program} {w : World} {K : PySem.W.Frag} {mg : Str → Option Value} {base : Heap} {kx : Nat} {T : Tb} {N ps : List Str} {qual : Str} {scope : Scope} {f : Addr} {cd : Value} {A : Around} {outer : List Env} {s : Shared} {H : Hp} {E : XK}
    (S : FnScope N ps scope) (tb : TbOk P w K mg base kx T) (hr : RoomG kx (A.deeper (envOfC qual scope s.heap.objs.size f cd))) : Good kx T (cxOf (L2N.CX P w) P w K mg base N qual scope f cd A outer s H E) scope where
  tb := tb
  rm := hr
  nd := S.nd
  calm := rfl
  vis := fun _ h => visK_of h
  loc := fun _ h => ⟨locK_of h, .inl rfl⟩
  cf := fun _ h => cfK_of h
  glo := fun _ h => gloK_of h
/-- a comprehension's block -/
theorem good_blk {kx : Nat} {T : Tb} {X : Cx} {sc : Scope} (G : Good kx T X sc) (s : Shared) (H : Hp) (scope : Scope) (C : Addr) (cl : List (Str × Addr)) (fp : List Addr) : Good kx T (X.blk s H scope (compEnvC scope cl C X.env) fp) scope where
  tb := G.tb
  rm := G.rm
  nd := G.nd
  calm := G.calm
  vis := fun x h => by
    rcases visK_of h with q | q | q
    · exact .inl (lookup_relS_keep (by decide) q)
    · exact .inr (.inl (lookup_relS_keep (by decide) q))
    · rcases relS_free (sc := X.env.scope) q with z | z
      · exact .inr (.inl z)
      · exact .inr (.inr z)
  loc := fun x h => by
    rcases locK_of h with q | q
    · exact ⟨.inl (lookup_relS_keep (by decide) q), .inr (lookup_relS_keep (by decide) q)⟩
    · exact ⟨.inr (lookup_relS_keep (by decide) q), .inl (by show (scope.names.lookup x == some NameKind.cell) = true; rw [q]; rfl)⟩
  cf := fun x h => by
    rcases cfK_of h with q | q
    · exact .inl (lookup_relS_keep (by decide) q)
    · exact relS_free (sc := X.env.scope) q
  glo := fun x h => lookup_relS_keep (by decide) (gloK_of h)
end M

/-! MiniH: pieces of the proof that readings are right. -/
namespace M
open PySem PySem.Spec PyProof.Rows L2
section
variable {X : Cx} {e : Expr} {t t' : TE}
theorem pe_or2 (h : PE X e t) (h' : PE X e t') : PE X e (teOr t t') := ⟨fun pins s σ H Q I q => q.elim (h.run pins s σ H Q I) (h'.run pins s σ H Q I)⟩
theorem pe_ex {ι : Type} {p : ι → Prop} {u : ι → TE} (h : ∀ i, p i → PE X e (u i)) : PE X e (fun σ H Q => ∃ i, p i ∧ u i σ H Q) := ⟨fun pins s σ H Q I ⟨i, hp, q⟩ => (h i hp).run pins s σ H Q I q⟩
theorem pe_if {p : Prop} (h : p → PE X e t) : PE X e (fun σ H Q => p ∧ t σ H Q) := ⟨fun pins s σ H Q I ⟨hp, q⟩ => (h hp).run pins s σ H Q I q⟩
theorem pt_nev : PT X e (fun _ _ _ => False) := ⟨fun _ _ _ _ _ _ q => q.elim⟩
theorem pi_or2 {tg : Expr} {u u' : TI} (h : PI X tg e u) (h' : PI X tg e u') : PI X tg e (tiOr u u') := ⟨fun pins s σ H R I q => q.elim (h.run pins s σ H R I) (h'.run pins s σ H R I)⟩
theorem pg_or2 {u u' : TG} (h : PG X e u) (h' : PG X e u') : PG X e (tgOr u u') := ⟨fun pins s σ H v w Q I r q => q.elim (h.run pins s σ H v w Q I r) (h'.run pins s σ H v w Q I r)⟩
theorem pt_of (h : PE X e t) (hb : ∀ whole, isTrue e X.env whole = (do let v ← whole; standAt e.pos; holding [v] (truthy v))) : PT X e (tTru X.K t) := pt_truth h hb
end
section
variable {X : Cx} {T : Tb} {W : WX} {f : Expr → Option E}
theorem snd_A (hf : ∀ a a', f a = some a' → PE X a (rdE T X.K W a')) : ∀ {as : List Expr} {es : Es}, as.all plain = true → trEs f as = some es → PA X as (rdA T X.K W es)
  | [], es, _, h => by cases h; unfold rdA; exact pa_nil
  | a :: r, es, hp, h => by
    obtain ⟨h1, h2⟩ := Bool.and_eq_true_iff.mp (show (plain a && r.all plain) = true from hp)
    unfold trEs at h
    cases q : f a with
    | none => rw [q] at h; cases h
    | some a' =>
      cases q2 : trEs f r with
      | none => rw [q, q2] at h; cases h
      | some r' =>
        rw [q, q2] at h
        cases h
        unfold rdA
        exact pa_cons (hf a a' q) (snd_A hf h2 q2) (plain_star h1 _ _)
theorem snd_AndV {pos : Pos} (hf : ∀ a a', f a = some a' → PE X a (rdE T X.K W a')) : ∀ {a : Expr} {as : List Expr} {es : Es}, trEs f (a :: as) = some es → PE X (.BoolOp .And (a :: as) pos) (rdAndV T X.K W es)
  | a, [], es, h => by
    unfold trEs at h
    cases q : f a with
    | none => rw [q] at h; cases h
    | some a' =>
      rw [q] at h
      cases h
      exact pe_one (hf a a' q)
  | a, b :: r, es, h => by
    unfold trEs at h
    cases q : f a with
    | none => rw [q] at h; cases h
    | some a' =>
      cases q2 : trEs f (b :: r) with
      | none => rw [q, q2] at h; cases h
      | some es' =>
        rw [q, q2] at h
        cases h
        have ih := snd_AndV (pos := pos) hf q2
        cases es' with
        | nil =>
          unfold trEs at q2
          cases q3 : f b with
          | none => rw [q3] at q2; cases q2
          | some b' =>
            cases q4 : trEs f r with
            | none => rw [q3, q4] at q2; cases q2
            | some r' => rw [q3, q4] at q2; cases q2
        | cons e2 r2 => exact pe_and (hf a a' q) ih
theorem snd_OrV {pos : Pos} (hf : ∀ a a', f a = some a' → PE X a (rdE T X.K W a')) : ∀ {a : Expr} {as : List Expr} {es : Es}, trEs f (a :: as) = some es → PE X (.BoolOp .Or (a :: as) pos) (rdOrV T X.K W es)
  | a, [], es, h => by
    unfold trEs at h
    cases q : f a with
    | none => rw [q] at h; cases h
    | some a' =>
      rw [q] at h
      cases h
      exact pe_one (hf a a' q)
  | a, b :: r, es, h => by
    unfold trEs at h
    cases q : f a with
    | none => rw [q] at h; cases h
    | some a' =>
      cases q2 : trEs f (b :: r) with
      | none => rw [q, q2] at h; cases h
      | some es' =>
        rw [q, q2] at h
        cases h
        have ih := snd_OrV (pos := pos) hf q2
        cases es' with
        | nil =>
          unfold trEs at q2
          cases q3 : f b with
          | none => rw [q3] at q2; cases q2
          | some b' =>
            cases q4 : trEs f r with
            | none => rw [q3, q4] at q2; cases q2
            | some r' => rw [q3, q4] at q2; cases q2
        | cons e2 r2 => exact pe_or (hf a a' q) ih
theorem snd_And {pos : Pos} (hf : ∀ a a', f a = some a' → PT X a (rdT T X.K W a')) : ∀ {a : Expr} {as : List Expr} {es : Es}, trEs f (a :: as) = some es → PW X (.BoolOp .And (a :: as) pos) (rdAnd T X.K W es)
  | a, [], es, h => by
    unfold trEs at h
    cases q : f a with
    | none => rw [q] at h; cases h
    | some a' =>
      rw [q] at h
      cases h
      exact pw_and1 (hf a a' q)
  | a, b :: r, es, h => by
    unfold trEs at h
    cases q : f a with
    | none => rw [q] at h; cases h
    | some a' =>
      cases q2 : trEs f (b :: r) with
      | none => rw [q, q2] at h; cases h
      | some es' =>
        rw [q, q2] at h
        cases h
        have ih := snd_And (pos := pos) hf q2
        cases es' with
        | nil =>
          unfold trEs at q2
          cases q3 : f b with
          | none => rw [q3] at q2; cases q2
          | some b' =>
            cases q4 : trEs f r with
            | none => rw [q3, q4] at q2; cases q2
            | some r' => rw [q3, q4] at q2; cases q2
        | cons e2 r2 => exact pw_and (hf a a' q) ih
theorem snd_Or {pos : Pos} (hf : ∀ a a', f a = some a' → PT X a (rdT T X.K W a')) : ∀ {a : Expr} {as : List Expr} {es : Es}, trEs f (a :: as) = some es → PW X (.BoolOp .Or (a :: as) pos) (rdOr T X.K W es)
  | a, [], es, h => by
    unfold trEs at h
    cases q : f a with
    | none => rw [q] at h; cases h
    | some a' =>
      rw [q] at h
      cases h
      exact pw_or1 (hf a a' q)
  | a, b :: r, es, h => by
    unfold trEs at h
    cases q : f a with
    | none => rw [q] at h; cases h
    | some a' =>
      cases q2 : trEs f (b :: r) with
      | none => rw [q, q2] at h; cases h
      | some es' =>
        rw [q, q2] at h
        cases h
        have ih := snd_Or (pos := pos) hf q2
        cases es' with
        | nil =>
          unfold trEs at q2
          cases q3 : f b with
          | none => rw [q3] at q2; cases q2
          | some b' =>
            cases q4 : trEs f r with
            | none => rw [q3, q4] at q2; cases q2
            | some r' => rw [q3, q4] at q2; cases q2
        | cons e2 r2 => exact pw_or (hf a a' q) ih
theorem snd_P (hf : ∀ a a', f a = some a' → PE X a (rdE T X.K W a')) : ∀ {o : Option Expr} {p : P}, trP f o = some p → PO X o (rdP T X.K W p)
  | none, p, h => by cases h; unfold rdP; exact po_none
  | some a, p, h0 => by
    have h : (f a).map P.so = some p := h0
    cases q : f a with
    | none => rw [q] at h; cases h
    | some a' =>
      rw [q] at h
      cases h
      unfold rdP
      exact po_some (hf a a' q)
theorem snd_Ts (hf : ∀ a a', f a = some a' → PT X a (rdT T X.K W a')) : ∀ {as : List Expr} {es : Es}, as.length ≤ 1 → trEs f as = some es → PTs X as (rdTs T X.K W es)
  | [], es, _, h => by cases h; unfold rdTs; exact pts_nil
  | [a], es, _, h => by
    unfold trEs at h
    cases q : f a with
    | none => rw [q] at h; cases h
    | some a' =>
      rw [q] at h
      cases h
      unfold rdTs
      exact pts_one (hf a a' q)
  | _ :: _ :: _, _, hl, _ => absurd hl (by simp only [List.length_cons]; omega)
end
/-! ### targets -/
section
variable {X : Cx} {pos : Pos}
theorem pg_fld {o : Expr} {f : Str} {to : TE} (ho : PE X o to) : PG X (.Attribute o f pos) (gFld X.K to f) := by
  constructor
  intro pins s σ H v u Q I r h
  have e : assign (.Attribute o f pos) X.env u = (do
      let ov ← holding [u] (eval o X.env)
      standAt pos.atName
      holding [u, ov] (setAttr ov f u)
      release [u, ov] []) := rfl
  rw [e]
  refine wpAny_bind (wpAny_holding (thn (ho.run pins s σ H _ I h) ?_))
  rintro ov s1 ⟨x, H1, I1, r1, a, C, dx, fs, rfl, ha, c, n, hl, q⟩
  cases r1
  refine wpAny_bind (wpAny_standAt (wpAny_bind (wpAny_holding (setattr_ok I1 ha c n hl r fun s2 I2 => ?_))))
  exact wpAny_release ⟨σ, _, I2, q⟩
theorem set_dict (hu : X.A.units + 1 < cLine) : PSet X rSetD := by
  intro pins s σ H o i v ov iv u Q I ro ri rv q
  obtain ⟨a, H4, rfl, hp, q⟩ := q
  cases ro
  exact d_setItem hu I hp ri rv fun s' J => ⟨H4, J, q⟩
end
section
variable {X : Cx} {T : Tb} {W : WX} {f : Expr → Option E} {N : List Str} {sc : Scope}
theorem set_both (hu : X.A.units + 1 < cLine) : PSet X rSet := fun pins s σ H o i v ov iv u Q I ro ri rv q =>
  q.elim (fun q => set_list pins s σ H o i v ov iv u Q I ro ri rv q) (fun q => set_dict hu pins s σ H o i v ov iv u Q I ro ri rv q)
theorem snd_G1 {kx : Nat} (gd : M.Good kx T X sc) (hf : ∀ a a', f a = some a' → PE X a (rdE T X.K W a')) : ∀ {e : Expr} {g : G}, trG1 f X.N sc e = some g → PG X e (rdG T X.K W g)
  | .Name x p, g, h => by
    dsimp only [trG1] at h
    by_cases hl : locK sc x = true
    · rw [if_pos hl] at h
      cases q : slot X.N x with
      | none => rw [q] at h; cases h
      | some i =>
        rw [q] at h
        cases h
        unfold rdG
        exact pg_name gd.nd (slot_at q) (gd.loc x hl).1 (gd.loc x hl).2
    · rw [if_neg hl] at h
      cases h
  | .Attribute o x p, g, h0 => by
    have h : (f o).map (fun a => M.G.fl a x) = some g := h0
    cases q : f o with
    | none => rw [q] at h; cases h
    | some a =>
      rw [q] at h
      cases h
      unfold rdG
      exact pg_fld (hf o a q)
  | .Subscript o i p, g, h => by
    dsimp only [trG1] at h
    cases q : f o with
    | none => rw [q] at h; cases h
    | some a =>
      cases q2 : f i with
      | none => rw [q, q2] at h; cases h
      | some b =>
        rw [q, q2] at h
        by_cases hp : plain i = true
        · have h2 : (if plain i = true then some (M.G.sb a b) else none) = some g := h
          rw [if_pos hp] at h2
          cases h2
          unfold rdG
          refine pg_sub (hf o a q) (hf i b q2) (set_both (by have := gd.rm.rm.units; omega)) ?_
          intro v
          cases i <;> first | rfl | cases hp
        · have h2 : (if plain i = true then some (M.G.sb a b) else none) = some g := h
          rw [if_neg hp] at h2
          cases h2
/-- not starred -/
def NoSt (e : Expr) : Prop := ∀ (r : List Expr) (env : Env), assignEach (e :: r) env = (false, assign e env) :: assignEach r env
theorem trG_noSt : ∀ {n : Nat} {e : Expr} {g : G}, trG f N sc n e = some g → NoSt e
  | 0, _, _, h => by cases h
  | n + 1, e, g, h => by
    cases e with
    | Starred v p => exact absurd (show (none : Option M.G) = some g from h) (by intro z; cases z)
    | _ => exact fun _ _ => rfl
theorem snd_Gs {n : Nat} (hg : ∀ a a', trG f X.N sc n a = some a' → PG X a (rdG T X.K W a')) : ∀ {es : List Expr} {gs : Gs}, trGs (trG f X.N sc n) es = some gs →
    PGs X es (rdGs T X.K W gs) ∧ (assignEach es X.env).length = gsLen gs ∧ (assignEach es X.env).findIdx? (·.1) = none
  | [], gs, h => by cases h; unfold rdGs; exact ⟨pgs_nil, rfl, rfl⟩
  | e :: r, gs, h => by
    unfold trGs at h
    cases q : trG f X.N sc n e with
    | none => rw [q] at h; cases h
    | some a =>
      cases q2 : trGs (trG f X.N sc n) r with
      | none => rw [q, q2] at h; cases h
      | some b =>
        rw [q, q2] at h
        cases h
        obtain ⟨h1, h2, h3⟩ := snd_Gs hg q2
        have e1 := trG_noSt q r X.env
        refine ⟨?_, ?_, ?_⟩
        · unfold rdGs
          exact pgs_cons (hg e a q) h1 (by rw [e1] <;> rfl)
        · rw [e1]
          show (assignEach r X.env).length + 1 = gsLen b + 1
          rw [h2]
        · rw [e1, List.findIdx?_cons]
          show (if false = true then some 0 else ((assignEach r X.env).findIdx? (·.1)).map (· + 1)) = none
          rw [if_neg (by decide), h3]
          rfl
theorem snd_G {kx : Nat} (gd : M.Good kx T X sc) (hf : ∀ a a', f a = some a' → PE X a (rdE T X.K W a')) : ∀ {n : Nat} {e : Expr} {g : G}, trG f X.N sc n e = some g → PG X e (rdG T X.K W g)
  | 0, _, _, h => by cases h
  | n + 1, e, g, h => by
    cases e with
    | Tuple es k p =>
      have h2 : (trGs (trG f X.N sc n) es).map M.G.tp = some g := h
      cases q : trGs (trG f X.N sc n) es with
      | none => rw [q] at h2; cases h2
      | some gs =>
        rw [q] at h2
        cases h2
        obtain ⟨h3, h4, h5⟩ := snd_Gs (fun a a' z => snd_G gd hf z) q
        unfold rdG
        exact pg_or2 (pg_tup gd.calm h3 h4 h5) (pg_lst gd.calm h3 h4 h5)
    | _ => exact snd_G1 gd hf h
end
end M

/-! MiniI: the readings of expressions are right. -/
namespace M
open PySem PySem.Spec PyProof.Rows L2
section
variable {X : Cx} {T : Tb} {W : WX} {f : Expr → Option E} {sc : Scope} {kx : Nat}
theorem pi_of {tg e : Expr} {a : E} (h : PE X e (rdE T X.K W a)) : PI X tg e (rdI T X.K W (.of a)) := by
  unfold rdI
  exact pi_or2 (pi_list h) (pi_or2 (pi_tup h) (pi_str h))
theorem snd_I (gd : M.Good kx T X sc) (hf : ∀ a a', f a = some a' → PE X a (rdE T X.K W a')) {tg : Expr} : ∀ {e : Expr} {i : I}, trI f sc (isTup tg) e = some i → PI X tg e (rdI T X.K W i) := by
  intro e i h
  have other : ∀ {e : Expr}, (f e).map M.I.of = some i → PI X tg e (rdI T X.K W i) := fun {e} h => by
    cases q : f e with
    | none => rw [q] at h; cases h
    | some a =>
      rw [q] at h
      cases h
      exact pi_of (hf e a q)
  cases e with
  | Call fe as ks q =>
    cases fe with
    | Name x p =>
      dsimp only [trI] at h
      split at h
      · rename_i hc
        simp only [Bool.and_eq_true, decide_eq_true_eq] at hc
        obtain ⟨hk, hg, hx⟩ := hc
        subst hx
        cases ks with
        | cons _ _ => cases hk
        | nil =>
        have hgl := gd.glo _ hg
        have hm := gd.tb.rg.1
        split at h
        · rename_i a
          split at h
          · rename_i p1
            cases q1 : f a with
            | none => rw [q1] at h; cases h
            | some a' =>
              rw [q1] at h
              cases h
              unfold rdI
              exact pi_range1 hgl hm (pa_cons (hf a a' q1) pa_nil (plain_star p1 _ _)) (plain_star p1 _ _)
          · cases h
        · rename_i a b
          split at h
          · rename_i hp
            simp only [Bool.and_eq_true] at hp
            obtain ⟨p1, p2⟩ := hp
            cases q1 : f a with
            | none => rw [q1] at h; cases h
            | some a' =>
              cases q2 : f b with
              | none => rw [q1, q2] at h; cases h
              | some b' =>
                rw [q1, q2] at h
                cases h
                unfold rdI
                exact pi_range2 hgl hm (pa_cons (hf a a' q1) (pa_cons (hf b b' q2) pa_nil (plain_star p2 _ _)) (plain_star p1 _ _)) ((plain_star p1 _ _).trans (congrArg _ (plain_star p2 _ _))) (plain_star p2 _ _)
          · cases h
        · rename_i a b c
          split at h
          · rename_i hp
            simp only [Bool.and_eq_true] at hp
            obtain ⟨p1, p2, p3⟩ := hp
            cases q1 : f a with
            | none => rw [q1] at h; cases h
            | some a' =>
              cases q2 : f b with
              | none => rw [q1, q2] at h; cases h
              | some b' =>
                cases q3 : f c with
                | none => rw [q1, q2, q3] at h; cases h
                | some c' =>
                  rw [q1, q2, q3] at h
                  cases h
                  unfold rdI
                  exact pi_range3 hgl hm (pa_cons (hf a a' q1) (pa_cons (hf b b' q2) (pa_cons (hf c c' q3) pa_nil (plain_star p3 _ _)) (plain_star p2 _ _)) (plain_star p1 _ _)) (plain_star p1 _ _)
                    (plain_any (es := [b, c]) (by simp [p2, p3]))
          · cases h
        · cases h
      split at h
      · rename_i hc
        simp only [Bool.and_eq_true, decide_eq_true_eq] at hc
        obtain ⟨hk, hg, hx, ht⟩ := hc
        subst hx
        cases ks with
        | cons _ _ => cases hk
        | nil =>
        split at h
        · rename_i a
          split at h
          · rename_i p1
            cases q1 : f a with
            | none => rw [q1] at h; cases h
            | some a' =>
              rw [q1] at h
              cases h
              unfold rdI
              cases tg with
              | Tuple elts kk tp => exact pi_enum (gd.glo _ hg) gd.tb.rg.2.1 (pa_cons (hf a a' q1) pa_nil (plain_star p1 _ _)) (plain_star p1 _ _)
              | _ => cases ht
          · cases h
        · cases h
      split at h
      · rename_i hc
        simp only [Bool.and_eq_true, decide_eq_true_eq] at hc
        obtain ⟨hk, hg, hx, ht⟩ := hc
        subst hx
        cases ks with
        | cons _ _ => cases hk
        | nil =>
        split at h
        · rename_i a b
          split at h
          · rename_i hp
            simp only [Bool.and_eq_true] at hp
            obtain ⟨p1, p2⟩ := hp
            cases q1 : f a with
            | none => rw [q1] at h; cases h
            | some a' =>
              cases q2 : f b with
              | none => rw [q1, q2] at h; cases h
              | some b' =>
                rw [q1, q2] at h
                cases h
                unfold rdI
                cases tg with
                | Tuple elts kk tp =>
                  exact pi_zip (gd.glo _ hg) gd.tb.rg.2.2 (pa_cons (hf a a' q1) (pa_cons (hf b b' q2) pa_nil (plain_star p2 _ _)) (plain_star p1 _ _)) (plain_star p1 _ _) (plain_any (es := [b]) (by simp [p2]))
                | _ => cases ht
          · cases h
        · cases h
      exact other h
    | _ => exact other h
  | _ => exact other h
end
end M

/-! MiniJ: the readings of expressions are right. -/
namespace M
open PySem PySem.Spec PyProof.Rows L2
section
variable {X : Cx} {T : Tb} {W : WX} {sc : Scope} {kx : Nat}
theorem takes_no : ∀ {Y : Cx}, L2N.Takes Y WNo := fun u s' ⟨_, _, _, _, _, _, _, _, _, _, _, _, _, _, _, _, z⟩ => z.elim
theorem snd_call (gd : M.Good kx T X sc) (tk : L2N.Takes X W) {x : Str} {p pos : Pos} {es : List Expr} {as : Es} (hg : gloK sc x = true) (hdb : (x == ("__debug__" : Str)) = false) (hp : es.all plain = true) (ha : PA X es (rdA T X.K W as)) (hn : es = [] → as = .nil) :
    PE X (.Call (.Name x p) es [] pos) (rdCall T X.K W x (neEs as) (rdA T X.K W as)) := by
  have hgl := gd.glo _ hg
  have third : ∀ b r, neEs as = true → blt X.K x = some (b, r) → PE X (.Call (.Name x p) es [] pos) (tCB r (rdA T X.K W as)) := by
    intro b r hne hr
    obtain ⟨hc, hv, hn', hdb'⟩ := blt_ok gd.calm gd.rm.gd gd.rm.rm.units hr
    have hm : X.mg x = none := gd.tb.fr x (by rw [hr]; rfl)
    cases es with
    | nil => rw [hn rfl] at hne; cases hne
    | cons e r' =>
      obtain ⟨h1, h2⟩ := Bool.and_eq_true_iff.mp (show (plain e && r'.all plain) = true from hp)
      cases b with
      | fn id => exact pe_callB hc hgl hm hv ha hn' hdb (plain_star h1 _ _) (plain_any h2)
      | ty id => exact pe_callTy hc hgl hm hv ha hn' hdb (plain_star h1 _ _) (plain_any h2)
  refine pe_or2 (pe_ex fun fe hfe => ?_) (pe_or2 (pe_ex fun c hc => ?_) ⟨fun pins s σ H Q I ⟨hne, b, r, h1, h2⟩ => (third b r hne h1).run pins s σ H Q I h2⟩)
  · obtain ⟨hm, hk, hb, hd, F⟩ := gd.tb.fn x fe hfe
    cases es with
    | nil =>
      rw [hn rfl]
      unfold rdA
      exact pe_callG0 F gd.rm hgl hm hk hb hd tk hdb
    | cons e r =>
      obtain ⟨h1, h2⟩ := Bool.and_eq_true_iff.mp (show (plain e && r.all plain) = true from hp)
      exact pe_callG F gd.rm hgl hm hk hb hd tk ha hdb (plain_star h1 _ _) (plain_any h2)
  · obtain ⟨hm, M0, hb, hd, k, hk, F⟩ := gd.tb.cl x c hc
    have hr : RoomG (k + 1) X.A := gd.rm.mono hk
    cases es with
    | nil =>
      rw [hn rfl]
      unfold rdA
      exact pe_makeG0 M0 F hr hgl hm hb hd tk hdb
    | cons e r =>
      obtain ⟨h1, h2⟩ := Bool.and_eq_true_iff.mp (show (plain e && r.all plain) = true from hp)
      exact pe_makeG M0 F hr hgl hm hb hd tk ha hdb (plain_star h1 _ _) (plain_any h2)
/-- a built-in type's method, by its facts -/
theorem bm_any {o : Expr} {m : Str} {es : List Expr} {ta : TA} {to : TE} {ap cp : Pos} {Ty id : String} {r : RM} (pa : PlainAttrs Ty) (sl : Slot Ty m id) (ty : typeOf (.builtin id) = pure (.type "method_descriptor")) (mt : MtR X id r) (ho : PE X o to) (po : plain o = true)
    (he : es.all plain = true) (hn : es.length < 20) (hl : (ap.endLine == cp.line) = true) (ha : PA X es ta) (h0 : es = [] → ta = tNil) : PE X (.Call (.Attribute o m ap) es [] cp) (tBM X.K Ty r to ta) := by
  cases es with
  | nil =>
    have q := pe_bm0 (apos := ap) (cpos := cp) pa sl ty mt ho (plain_base po m X.env) hl
    rw [h0 rfl]
    exact q
  | cons e es =>
    obtain ⟨h1, h2⟩ := Bool.and_eq_true_iff.mp (show (plain e && es.all plain) = true from he)
    exact pe_bm pa sl ty mt ho ha (plain_base po m X.env) (few_ok (pos := cp) he hn) hl (plain_star h1 _ _) (plain_any h2)
theorem snd_mb {o : Expr} {m : Str} {es : List Expr} {ta : TA} {to : TE} {ap cp : Pos} (ho : PE X o to) (po : plain o = true) (he : es.all plain = true) (hn : es.length < 20) (hl : (ap.endLine == cp.line) = true) (ha : PA X es ta) (h0 : es = [] → ta = tNil) :
    PE X (.Call (.Attribute o m ap) es [] cp) (rdMB X.K m to ta) := by
  refine pe_or2 (pe_if fun e => ?_) (pe_or2 (pe_if fun e => ?_) (pe_or2 (pe_if fun e => ?_) (pe_if fun e => ?_)))
  · subst e; exact bm_any PySem.F.plainAttrs_list PySem.F.slot_list_append PySem.F.type_list_append mt_append ho po he hn hl ha h0
  · subst e; exact bm_any PySem.F.plainAttrs_list PySem.F.slot_list_extend PySem.F.type_list_extend mt_extend ho po he hn hl ha h0
  · subst e
    exact pe_or2 (bm_any PySem.F.plainAttrs_list PySem.F.slot_list_pop PySem.F.type_list_pop mt_pop ho po he hn hl ha h0) (bm_any PySem.F.plainAttrs_list PySem.F.slot_list_pop PySem.F.type_list_pop mt_popAt ho po he hn hl ha h0)
  · subst e; exact bm_any PySem.F.plainAttrs_str PySem.F.slot_str_join PySem.F.type_str_join mt_join ho po he hn hl ha h0
theorem snd_mu (gd : M.Good kx T X sc) (tk : L2N.Takes X W) {o : Expr} {m : Str} {es : List Expr} {ta : TA} {to : TE} {ap cp : Pos} (ho : PE X o to) (po : plain o = true) (he : es.all plain = true) (hn : es.length < 20) (hl : (ap.endLine == cp.line) = true) (ha : PA X es ta) (h0 : es = [] → ta = tNil) :
    PE X (.Call (.Attribute o m ap) es [] cp) (rdMU T W m to ta) := by
  have one : ∀ c ∈ T.me, c.m = m → PE X (.Call (.Attribute o m ap) es [] cp) (tMethW W c.C m c.fe.sp c.fe.dvs to ta) := by
    intro c hc hm
    obtain ⟨cl, me, hb, hd, F⟩ := gd.tb.me c hc
    rw [hm] at me
    cases es with
    | nil =>
      rw [h0 rfl]
      exact pe_methG0 ho cl me F gd.rm hb hd tk (meth_form po he hn hl)
    | cons e r =>
      obtain ⟨h1, h2⟩ := Bool.and_eq_true_iff.mp (show (plain e && r.all plain) = true from he)
      exact pe_methG ho cl me F gd.rm hb hd tk ha (plain_star h1 _ _) (plain_any h2) (meth_form po he hn hl)
  exact ⟨fun pins s σ H Q I ⟨c, hc, hm, q⟩ => (one c hc hm).run pins s σ H Q I q⟩
end
end M

/-! MiniK: the readings of expressions are right. -/
namespace M
open PySem PySem.Spec PyProof.Rows L2
section
variable {T : Tb} {kx : Nat}
theorem pt_or2 {X : Cx} {e : Expr} {u u' : TT} (h : PT X e u) (h' : PT X e u') : PT X e (fun σ H Q => u σ H Q ∨ u' σ H Q) := ⟨fun pins s σ H Q I q => q.elim (h.run pins s σ H Q I) (h'.run pins s σ H Q I)⟩
theorem own_blk {X : Cx} {sc scope : Scope} {own : List (Str × Nat)} (gd : M.Good kx T X sc) (h : blkC X.N sc scope own = true) : BlkOk X.N X.env.scope scope own := by
  have b := blkOk_by h
  refine ⟨b.kind, b.uniq, b.ix, fun y hy e => gd.cf y.1 ?_, b.own⟩
  unfold cfK
  rcases b.free y hy e with q | q <;> rw [q]
theorem op_some {α β : Type} {o : Option α} {g : α → β} {b : β} (h : o.map g = some b) : ∃ a, o = some a ∧ g a = b := by
  cases o with
  | none => cases h
  | some a => exact ⟨a, rfl, Option.some.inj h⟩
theorem trEs_nil {f : Expr → Option E} {es : List Expr} {as : Es} (h : trEs f es = some as) (e : es = []) : as = .nil := by
  subst e
  exact (Option.some.inj h).symm
theorem snd_E : ∀ (n : Nat) (X : Cx) (sc : Scope) (W : WX), M.Good kx T X sc → L2N.Takes X W → ∀ (e : Expr) (a : E), trE n X.N sc e = some a → PE X e (rdE T X.K W a) ∧ PT X e (rdT T X.K W a)
  | 0, _, _, _, _, _, _, _, h => by cases h
  | n + 1, X, sc, W, gd, tk, e, a, h => by
    have ih := fun e a h => snd_E n X sc W gd tk e a h
    have ihE : ∀ e a, trE n X.N sc e = some a → PE X e (rdE T X.K W a) := fun e a h => (ih e a h).1
    have ihT : ∀ e a, trE n X.N sc e = some a → PT X e (rdT T X.K W a) := fun e a h => (ih e a h).2
    have hu : X.A.units + 64 < cLine := gd.rm.rm.units
    have hu1 : X.A.units + 1 < cLine := by omega
    unfold trE at h
    split at h
    · -- a constant
      rename_i c k p
      obtain ⟨v, hc, rfl⟩ := op_some h
      have q : PE X (.Constant c k p) (tC v) := by
        cases c with
        | none => cases hc; exact pe_non
        | bool b => cases hc; exact pe_bl
        | int i => cases hc; exact pe_int
        | str x => cases hc; exact pe_str
        | _ => cases hc
      exact ⟨by unfold rdE; exact q, by unfold rdT; exact pt_of q (truth_of rfl _)⟩
    · -- a name
      rename_i x p
      unfold trN at h
      split at h
      · cases h
      · rename_i hx
        simp only [not_or] at hx
        obtain ⟨h1, h2, h3⟩ := hx
        have d1 : (x == ("__debug__" : Str)) = false := beq_eq_false_iff_ne.mpr h1
        have d2 : (x == ("__classdict__" : Str)) = false := beq_eq_false_iff_ne.mpr h2
        split at h
        · rename_i hv
          obtain ⟨i, hs, rfl⟩ := op_some h
          have q : PE X (.Name x p) (tVar i) := pv i (slot_at hs) (gd.vis x hv) d1 d2
          exact ⟨by unfold rdE; exact q, by unfold rdT; exact pt_of q (truth_of rfl _)⟩
        · split at h
          · rename_i hg
            cases h
            have q : PE X (.Name x p) (fun σ H Q => ∃ v, T.gl x = some v ∧ tC v σ H Q) := pe_ex fun v hv => by
              obtain ⟨u, hm, r⟩ := gd.tb.gl x v hv
              exact pe_glob (gd.glo x hg) hm r d1
            exact ⟨by unfold rdE; exact q, by unfold rdT; exact pt_of q (truth_of rfl _)⟩
          · cases h
    · -- a op b
      rename_i a' o b' p
      split at h
      · rename_i o2 a2 b2 ho ha hb
        cases h
        exact ⟨by unfold rdE; exact pe_op (bin_ok ho) (ihE _ _ ha) (ihE _ _ hb), by unfold rdT; exact pt_nev⟩
      · cases h
    · -- minus
      obtain ⟨a2, ha, rfl⟩ := op_some h
      exact ⟨by unfold rdE; exact pe_un un_neg (ihE _ _ ha), by unfold rdT; exact pt_nev⟩
    · -- not
      obtain ⟨a2, ha, rfl⟩ := op_some h
      exact ⟨by unfold rdE; exact pe_not (ihE _ _ ha), by unfold rdT; exact pt_not (ihT _ _ ha)⟩
    · -- and
      rename_i as p
      cases as with
      | nil => cases h
      | cons x r =>
        cases r with
        | nil => cases h
        | cons y r =>
          obtain ⟨es, he, rfl⟩ := op_some h
          exact ⟨by unfold rdE; exact snd_AndV ihE he, by unfold rdT; exact (snd_And ihT he).pt⟩
    · -- or
      rename_i as p
      cases as with
      | nil => cases h
      | cons x r =>
        cases r with
        | nil => cases h
        | cons y r =>
          obtain ⟨es, he, rfl⟩ := op_some h
          exact ⟨by unfold rdE; exact snd_OrV ihE he, by unfold rdT; exact (snd_Or ihT he).pt⟩
    · -- a if c else b
      split at h
      · rename_i c2 a2 b2 hc ha hb
        cases h
        exact ⟨by unfold rdE; exact pe_ifExp (ihT _ _ hc) (ihE _ _ ha) (ihE _ _ hb), by unfold rdT; exact pt_nev⟩
      · cases h
    · -- is None
      obtain ⟨a2, ha, rfl⟩ := op_some h
      exact ⟨by unfold rdE; exact pe_cmp (pc_isN (ihE _ _ ha)) rfl, by unfold rdT; exact pt_cmp (pc_isN (ihE _ _ ha)) rfl⟩
    · -- is not None
      obtain ⟨a2, ha, rfl⟩ := op_some h
      exact ⟨by unfold rdE; exact pe_cmp (pc_notN (ihE _ _ ha)) rfl, by unfold rdT; exact pt_cmp (pc_notN (ihE _ _ ha)) rfl⟩
    · -- a cmp b
      split at h
      · rename_i a' op b' p hn1 hn2 _ _ _ o2 a2 b2 ho ha hb
        split at h
        · rename_i hp
          cases h
          have q := pe_cmpR (pos := p) (cmp_ok hu ho) (ihE _ _ ha) (ihE _ _ hb) (plain_mark hp op)
          have qt := pt_cmpR (pos := p) (cmp_ok hu ho) (ihE _ _ ha) (ihE _ _ hb) (plain_mark hp op)
          cases op with
          | In =>
            cases ho
            exact ⟨by unfold rdE; exact pe_or2 q (pe_cmp (pc_din hu1 (ihE _ _ ha) (ihE _ _ hb)) (plain_mark hp .In)), by unfold rdT; exact pt_or2 qt (pt_cmp (pc_din hu1 (ihE _ _ ha) (ihE _ _ hb)) (plain_mark hp .In))⟩
          | NotIn =>
            cases ho
            exact ⟨by unfold rdE; exact pe_or2 q (pe_cmp (pc_dnotin hu1 (ihE _ _ ha) (ihE _ _ hb)) (plain_mark hp .NotIn)), by unfold rdT; exact pt_or2 qt (pt_cmp (pc_dnotin hu1 (ihE _ _ ha) (ihE _ _ hb)) (plain_mark hp .NotIn))⟩
          | _ => first | (cases ho; exact ⟨by unfold rdE; exact q, by unfold rdT; exact qt⟩) | (cases ho)
        · cases h
      · cases h
    · -- a chain
      split at h
      · rename_i a' op op' b' c' p _ _ _ _ _ o2 o3 a2 b2 c2 ho ho' ha hb hc
        split at h
        · rename_i hp
          simp only [Bool.and_eq_true] at hp
          cases h
          exact ⟨by unfold rdE; exact pe_chain (cmp_ok hu ho) (cmp_ok hu ho') (ihE _ _ ha) (ihE _ _ hb) (ihE _ _ hc) (plain_mark2 hp.2 _ _), by unfold rdT; exact pt_chain (cmp_ok hu ho) (cmp_ok hu ho') (ihE _ _ ha) (ihE _ _ hb) (ihE _ _ hc) (plain_mark2 hp.2 _ _)⟩
        · cases h
      · cases h
    · -- a list
      split at h
      · rename_i hp
        obtain ⟨es, he, rfl⟩ := op_some h
        exact ⟨by unfold rdE; exact pe_lst (snd_A ihE hp he), by unfold rdT; exact pt_nev⟩
      · cases h
    · -- a tuple
      split at h
      · rename_i hp
        obtain ⟨es, he, rfl⟩ := op_some h
        exact ⟨by unfold rdE; exact pe_tup (snd_A ihE hp he), by unfold rdT; exact pt_nev⟩
      · cases h
    · -- backwards
      obtain ⟨a2, ha, rfl⟩ := op_some h
      exact ⟨by unfold rdE; exact pe_revL (ihE _ _ ha), by unfold rdT; exact pt_nev⟩
    · -- a slice
      split at h
      · rename_i a2 l2 h2 ha hl hh
        cases h
        exact ⟨by unfold rdE; exact pe_slice (sl_list.or sl_tup) (ihE _ _ ha) (snd_P ihE hl) (snd_P ihE hh), by unfold rdT; exact pt_nev⟩
      · cases h
    · -- an item
      split at h
      · rename_i hp
        split at h
        · rename_i a2 i2 ha hi
          cases h
          have q := fun (p : Pos) => pe_or2 (pe_ix (pos := p) ix_seq (ihE _ _ ha) (ihE _ _ hi) (plain_ix hp)) (pe_dget hu1 (ihE _ _ ha) (ihE _ _ hi) (plain_ix hp))
          exact ⟨by unfold rdE; exact q _, by unfold rdT; exact pt_of (q _) (truth_of rfl _)⟩
        · cases h
      · cases h
    · -- an attribute
      split at h
      · rename_i hp
        obtain ⟨a2, ha, rfl⟩ := op_some h
        have q := fun (f : Str) (p : Pos) => pe_fld (f := f) (pos := p) (ihE _ _ ha) (plain_base hp f X.env)
        exact ⟨by unfold rdE; exact q _ _, by unfold rdT; exact pt_of (q _ _) (truth_of rfl _)⟩
      · cases h
    · -- a call
      rename_i x p0 es0 p1
      split at h
      · rename_i e0 hra
        obtain ⟨p, q, rfl, rfl⟩ := rgArg_some hra
        split at h
        · rename_i hp
          simp only [Bool.and_eq_true] at hp
          obtain ⟨hg1, hg2, hpl⟩ := hp
          obtain ⟨a2, ha, rfl⟩ := op_some h
          refine ⟨?_, by unfold rdT; exact pt_nev⟩
          unfold rdE
          exact pe_listRg gd.calm (gd.glo _ hg1) (gd.tb.fr "list" rfl) (prg_1 (gd.glo _ hg2) gd.tb.rg.1 (ihE _ _ ha) (plain_star hpl [] X.env)) rfl
        · cases h
      split at h
      · rename_i hp
        simp only [Bool.and_eq_true, Bool.not_eq_true', decide_eq_false_iff_not] at hp
        obtain ⟨hg, hd, hs, hp⟩ := hp
        obtain ⟨es, he, rfl⟩ := op_some h
        have q := fun (p pos : Pos) => snd_call gd tk (p := p) (pos := pos) hg (beq_eq_false_iff_ne.mpr hd) hp (snd_A ihE hp he) (trEs_nil he)
        exact ⟨by unfold rdE; exact q _ _, by unfold rdT; exact pt_of (q _ _) (truth_of rfl _)⟩
      · cases h
    · -- a method
      split at h
      · rename_i hp
        simp only [Bool.and_eq_true, decide_eq_true_eq] at hp
        obtain ⟨po, pe, hn, hl⟩ := hp
        split at h
        · rename_i o2 es2 ho he
          cases h
          have hA := snd_A ihE pe he
          have q := fun (m : Str) => pe_or2 (snd_mb (m := m) (ihE _ _ ho) po pe hn hl hA fun e => by rw [trEs_nil he e]; unfold rdA; rfl) (snd_mu (m := m) gd tk (ihE _ _ ho) po pe hn hl hA fun e => by rw [trEs_nil he e]; unfold rdA; rfl)
          exact ⟨by unfold rdE; exact q _, by unfold rdT; exact pt_of (q _) (truth_of rfl _)⟩
        · cases h
      · cases h
    · -- a comprehension
      split at h
      · rename_i own hw
        split at h
        · rename_i hp
          simp only [Bool.and_eq_true] at hp
          obtain ⟨hb, hi, he, hif⟩ := hp
          split at h
          · rename_i it g cs el q1 q2 q3 q4
            split at h
            · rename_i hl
              cases h
              have blk := own_blk gd hb
              have inE := fun (scope : Scope) (s : Shared) (H : Hp) (C : Addr) (cl : List (Str × Addr)) (fp : List Addr) (e : Expr) (a : E) (z : trE n X.N scope e = some a) => snd_E n _ _ WNo (good_blk gd s H scope C cl fp) takes_no e a z
              refine ⟨?_, by unfold rdT; exact pt_nev⟩
              unfold rdE
              exact pe_lc gd.calm gd.nd (snd_I gd ihE q1) blk (fun s H C cl fp => snd_G (good_blk gd s H _ C cl fp) (fun e a z => (inE _ s H C cl fp e a z).1) q2)
                (fun s H C cl fp => snd_Ts (fun e a z => (inE _ s H C cl fp e a z).2) hl q3) (fun s H C cl fp => (inE _ s H C cl fp _ _ q4).1) (fun x => plain_fold hi _ x)
            · cases h
          · cases h
        · cases h
      · cases h
    · cases h
end
end M

/-! MiniL: statements, their translation, their reading. -/
namespace M
open PySem PySem.Spec PyProof.Rows L2
mutual
inductive S where
  | asg (g : G) (e : E) | par2 (i j : Nat) (a b : E) | par3 (i j k : Nat) (a b c : E) | ex (e : E) | ret (e : E) | retN | ifs (c : E) (a b : Ss)
  | forS (g : G) (it : I) (b : Ss) | whl (c : E) (b : Ss) | rais (x : Str) (e : E) | pass
inductive Ss where
  | nil | cons (s : S) (r : Ss)
end
/-- the order of the stores of a pair, a triple of names -/
def swapR (loc : Str → Bool) (tg value : Expr) : Option (Option (List Str)) :=
  match tg, value with
  | .Tuple ts _ _, .Tuple vs _ _ =>
    if !(ts.length == 2 || ts.length == 3) || vs.length != ts.length then some none
    else if vs.any (fun | .Starred .. => true | _ => false) then some none
    else
      let line := (ts.head?.map (·.pos.line)).getD 0
      let names := ts.filterMap fun
        | .Name id pos => if loc id && pos.line == line then some id else none
        | _ => none
      if names.length != ts.length || names.eraseDups.length != names.length then some none
      else if vs.all (foldedForSure 8) then some none
      else if vs.all (constantsAlone 8) then none
      else some (some names)
  | .List .., _ => none
  | _, _ => some none
theorem swapR_ok {loc : Str → Bool} {tg value : Expr} {env : Env} {r : Option (List Str)} (hb : env.blockKind = .function) (hl : ∀ x, (env.kindOf x == some .local) = loc x) (h : swapR loc tg value = some r) : swappedStores [tg] value env = pure r := by
  unfold swapR at h
  split at h
  · rename_i ts _ _ vs _ _
    unfold swappedStores
    simp only [hb, hl]
    split at h
    · rename_i c
      cases h
      have c' : (!(ts.length == 2 || ts.length == 3) || vs.length != ts.length || ScopeKind.function != ScopeKind.function) = true := by rw [c]; rfl
      rw [if_pos c']
    · rename_i c
      have c' : ¬ (!(ts.length == 2 || ts.length == 3) || vs.length != ts.length || ScopeKind.function != ScopeKind.function) = true := by
        intro z
        apply c
        rw [Bool.or_eq_true] at z
        rcases z with z | z
        · exact z
        · cases z
      rw [if_neg c']
      split at h
      · rename_i c2
        cases h
        split
        · rfl
        · rename_i c3
          exact absurd c2 c3
      · rename_i c2
        split
        · rename_i c3
          exact absurd c3 c2
        · dsimp only at h ⊢
          split at h
          · rename_i c3
            cases h
            split
            · rfl
            · rename_i c4
              exact absurd c3 c4
          · rename_i c3
            split
            · rename_i c4
              exact absurd c4 c3
            · split at h
              · rename_i c4
                cases h
                rw [if_pos c4]
                try rfl
              · rename_i c4
                rw [if_neg c4]
                split at h
                · cases h
                · rename_i c5
                  cases h
                  rw [if_neg c5]
                  rfl
  · cases h
  · rename_i h1 h2
    cases h
    unfold swappedStores
    split
    · rename_i ts vs q
      split at q
      · rename_i hh
        cases hh
        exact (h2 _ _ _ _ _ _ rfl rfl).elim
      · rename_i hh
        cases hh
        exact (h1 _ _ rfl).elim
      · cases q
    · rfl
def loK (sc : Scope) (x : Str) : Bool := sc.names.lookup x == some .local
/-- the comprehension given to a local name on one line -/
def lcTo (sc : Scope) (t e : Expr) : Bool := match t, e with
  | .Name y py, .ListComp _ _ scope pos => loK sc y && ((py.line == pos.line) && !(scope.names.any fun (n, k) => n == y && (k == .local || k == .cell)))
  | _, _ => false
/-- .. to a name that is a cell -/
def lcCe (sc : Scope) (t e : Expr) : Bool := match t, e with
  | .Name y _, .ListComp .. => sc.names.lookup y == some .cell
  | _, _ => false
def isComp : Expr → Bool
  | .ListComp .. => true
  | _ => false
def trAsg (n : Nat) (N : List Str) (sc : Scope) (t e : Expr) : Option S :=
  if isComp e then
    (if lcTo sc t e then (match trG (trE n N sc) N sc 1 t, trE n N sc e with
      | some g, some a => some (.asg g a)
      | _, _ => none) else if lcCe sc t e then (match trG (trE n N sc) N sc 1 t, trE n N sc e with
      | some g, some a => some (.asg g a)
      | _, _ => none) else none)
  else if plain e then (match swapR (loK sc) t e with
    | none => none
    | some none => (match trG (trE n N sc) N sc 3 t, trE n N sc e with
      | some g, some a => some (.asg g a)
      | _, _ => none)
    | some (some _) => (match t, e with
      | .Tuple [.Name x _, .Name y _] _ _, .Tuple [a, b] _ _ => if plain a && (plain b && (!decide (x = y) && (loK sc x && loK sc y))) then (match slot N x, slot N y, trE n N sc a, trE n N sc b with
        | some i, some j, some a, some b => some (.par2 i j a b)
        | _, _, _, _ => none) else none
      | .Tuple [.Name x _, .Name y _, .Name z _] _ _, .Tuple [a, b, c] _ _ => if plain a && (plain b && (plain c && (!decide (x = y) && (!decide (x = z) && (!decide (y = z) && (loK sc x && (loK sc y && loK sc z))))))) then
        (match slot N x, slot N y, slot N z, trE n N sc a, trE n N sc b, trE n N sc c with
        | some i, some j, some k, some a, some b, some c => some (.par3 i j k a b c)
        | _, _, _, _, _, _ => none) else none
      | _, _ => none))
  else none
def trSs (f : Stmt → Option S) : List Stmt → Option Ss
  | [] => some .nil
  | s :: r => match f s, trSs f r with
    | some a, some b => some (.cons a b)
    | _, _ => none
def trS : Nat → List Str → Scope → Stmt → Option S
  | 0, _, _, _ => none
  | n + 1, N, sc, st => match st with
    | .Assign [t] e _ => trAsg n N sc t e
    | .Expr (.Constant (.str _) _ _) _ => some .pass
    | .Expr e _ => if plain e && !isComp e then (trE n N sc e).map .ex else none
    | .Return none _ => some .retN
    | .Return (some e) _ => (trE n N sc e).map .ret
    | .If c a b _ => (match trE n N sc c, trSs (trS n N sc) a, trSs (trS n N sc) b with
      | some c, some a, some b => some (.ifs c a b)
      | _, _, _ => none)
    | .For tg it b [] _ => if plain it then (match trG (trE n N sc) N sc 3 tg, trI (trE n N sc) sc (isTup tg) it, trSs (trS n N sc) b with
      | some g, some i, some b => some (.forS g i b)
      | _, _, _ => none) else none
    | .While c b [] _ => (match trE n N sc c, trSs (trS n N sc) b with
      | some c, some b => some (.whl c b)
      | _, _ => none)
    | .Raise (some (.Call (.Name x _) [e] [] _)) none _ => if gloK sc x && plain e then (trE n N sc e).map (.rais x) else none
    | .Pass _ => some .pass
    | _ => none

/-! ### readings of statements -/
/-- the classes of errors: where they stand -/
abbrev XT := Str → Option Addr
def tRais (Xe : XT) (W : WX) (x : Str) (te : TE) : TS := fun _ σ H => ∃ C, Xe x = some C ∧ te σ H fun v H1 => ∀ d, H1 d = none → W (.ref C) (some d) σ (upd H1 d (.xd [("at", v)]))
mutual
def rdS (T : Tb) (K : PySem.W.Frag) (Xe : XT) : WX → S → TS
  | W, .asg g e => tAsg (rdE T K W e) (rdG T K W g)
  | W, .par2 i j a b => tPar i j (tCons (rdE T K W a) (tCons (rdE T K W b) tNil))
  | W, .par3 i j k a b c => tPar3 i j k (tCons (rdE T K W a) (tCons (rdE T K W b) (tCons (rdE T K W c) tNil)))
  | W, .ex e => tDrop (rdE T K W e)
  | W, .ret e => tRet (rdE T K W e)
  | _, .retN => tRetN
  | W, .ifs c a b => tIfS (rdT T K W c) (rdSs T K Xe W a) (rdSs T K Xe W b)
  | W, .forS g it b => tFor (rdI T K W it) (rdG T K W g) (rdSs T K Xe W b)
  | W, .whl c b => tWhile (rdT T K W c) (rdSs T K Xe W b)
  | W, .rais x e => tRais Xe W x (rdE T K W e)
  | _, .pass => tNext
def rdSs (T : Tb) (K : PySem.W.Frag) (Xe : XT) : WX → Ss → TS
  | _, .nil => tNext
  | W, .cons s r => tSeq (rdS T K Xe W s) (rdSs T K Xe W r)
end
/-- the errors' classes: what making one is worth -/
def ExOk (X : Cx) (Xe : XT) : Prop := ∀ x C, Xe x = some C → ∀ (e : Expr) (te : TE) (p pos : Pos), Gl X x → plain e = true → PE X e te →
  L2N.PMk X (.Call (.Name x p) [e] [] pos) fun σ H Q => te σ H fun v H1 => ∀ d, H1 d = none → Q (.ref C) (some d) (upd H1 d (.xd [("at", v)]))
end M

/-! MiniM: the readings of statements are right. -/
namespace M
open PySem PySem.Spec PyProof.Rows L2
structure GoodS (kx : Nat) (T : Tb) (Xe : XT) (W : WX) (X : Cx) (sc : Scope) : Prop where
  g : M.Good kx T X sc
  hsc : X.env.scope = sc
  kind : sc.kind = .function
  po : PassesOwn (model X.prog X.w) X.A X.env X.xe
  ex : ExOk X Xe
  tk : L2N.Takes X W
section
variable {T : Tb} {kx : Nat} {Xe : XT} {W : WX} {X : Cx} {sc : Scope}
theorem snd_Ss {f : Stmt → Option S} (hf : ∀ s a, f s = some a → PS X s (rdS T X.K Xe W a)) : ∀ {ss : List Stmt} {as : Ss}, trSs f ss = some as → PSs X ss (rdSs T X.K Xe W as)
  | [], as, h => by cases h; unfold rdSs; exact pss_nil
  | s :: r, as, h => by
    unfold trSs at h
    cases q : f s with
    | none => rw [q] at h; cases h
    | some a =>
      cases q2 : trSs f r with
      | none => rw [q, q2] at h; cases h
      | some b =>
        rw [q, q2] at h
        cases h
        unfold rdSs
        exact pss_cons (hf s a q) (snd_Ss hf q2)
theorem loK_eq (gs : GoodS kx T Xe W X sc) (x : Str) : (X.env.kindOf x == some .local) = loK sc x := by
  show (X.env.scope.names.lookup x == some .local) = (sc.names.lookup x == some .local)
  rw [gs.hsc]
theorem lo_at (gs : GoodS kx T Xe W X sc) {x : Str} (h : loK sc x = true) : X.env.scope.names.lookup x = some .local := by
  rw [gs.hsc]
  exact beq_iff_eq.mp h
theorem blk_fn (gs : GoodS kx T Xe W X sc) : X.env.blockKind = .function := by
  unfold Env.blockKind
  rw [gs.hsc, gs.kind]
  rfl
theorem plain_noComp {e : Expr} (h : plain e = true) (h2 : isComp e = false) : noComp e = true := by
  cases e <;> first | rfl | (cases h; done) | (cases h2; done)
theorem slot_ne {N : List Str} {x y : Str} {i j : Nat} (hx : slot N x = some i) (hy : slot N y = some j) (h : x ≠ y) : i ≠ j := by
  intro e
  subst e
  have a := slot_at hx
  rw [slot_at hy] at a
  exact h (Option.some.inj a).symm
theorem lc_parts {gd : M.Good kx T X sc} (tk : L2N.Takes X W) {n : Nat} {elt : Expr} {gens : List Comprehension} {scope : Scope} {p : Pos} {a : E} (h : trE n X.N sc (.ListComp elt gens scope p) = some a) :
    ∃ tg iter ifs own it g cs el, gens = [⟨tg, iter, ifs, 0⟩] ∧ a = .lc (own.map (·.2)) g it cs el ∧ PI X tg iter (rdI T X.K W it) ∧ BlkOk X.N X.env.scope scope own ∧
      (∀ (s : Shared) (H : Hp) (C : Addr) (cl : List (Str × Addr)) (fp : List Addr), PG (X.blk s H scope (compEnvC scope cl C X.env) fp) tg (rdG T X.K WNo g)) ∧
      (∀ (s : Shared) (H : Hp) (C : Addr) (cl : List (Str × Addr)) (fp : List Addr), PTs (X.blk s H scope (compEnvC scope cl C X.env) fp) ifs (rdTs T X.K WNo cs)) ∧
      (∀ (s : Shared) (H : Hp) (C : Addr) (cl : List (Str × Addr)) (fp : List Addr), PE (X.blk s H scope (compEnvC scope cl C X.env) fp) elt (rdE T X.K WNo el)) ∧
      ∀ x, foldedSetIterable iter X.env x = pure x := by
  cases n with
  | zero => cases h
  | succ n =>
    have ihE : ∀ e a, trE n X.N sc e = some a → PE X e (rdE T X.K W a) := fun e a h => (snd_E n X sc W gd tk e a h).1
    unfold trE at h
    split at h
    all_goals try (rename_i q; cases q; done)
    · rename_i e2 tg iter ifs sc2 p2 q
      cases q
      split at h
      · rename_i own hw
        split at h
        · rename_i hp
          simp only [Bool.and_eq_true] at hp
          obtain ⟨hb, hi, he, hif⟩ := hp
          split at h
          · rename_i it g cs el q1 q2 q3 q4
            split at h
            · rename_i hl
              cases h
              have inE := fun (s : Shared) (H : Hp) (C : Addr) (cl : List (Str × Addr)) (fp : List Addr) (e : Expr) (a : E) (z : trE n X.N scope e = some a) => snd_E n _ _ WNo (good_blk gd s H scope C cl fp) takes_no e a z
              exact ⟨tg, iter, ifs, own, it, g, cs, el, rfl, rfl, snd_I gd ihE q1, own_blk gd hb, fun s H C cl fp => snd_G (good_blk gd s H _ C cl fp) (fun e a z => (inE s H C cl fp e a z).1) q2,
                fun s H C cl fp => snd_Ts (fun e a z => (inE s H C cl fp e a z).2) hl q3, fun s H C cl fp => (inE s H C cl fp _ _ q4).1, fun x => plain_fold hi _ x⟩
            · cases h
          · cases h
        · cases h
      · cases h
    · cases h
theorem swap2 {loc : Str → Bool} {x y : Str} {px py : Pos} {kt : Nat} {pt : Pos} {v : Expr} {nm : List Str} (lx : loc x = true) (ly : loc y = true) (h : swapR loc (.Tuple [.Name x px, .Name y py] kt pt) v = some (some nm)) : nm = [x, y] := by
  cases v with
  | Tuple vs k p =>
    unfold swapR at h
    simp only [List.filterMap_cons, List.filterMap_nil, lx, ly, Bool.true_and, List.head?_cons, Option.map_some, Option.getD_some, Expr.pos, beq_self_eq_true, if_true] at h
    by_cases e : (py.line == px.line) = true
    · simp only [e, if_true] at h
      split at h
      · cases h
      · split at h
        · cases h
        · split at h
          · cases h
          · split at h
            · cases h
            · split at h
              · cases h
              · cases h; rfl
    · have e' : (py.line == px.line) = false := by simpa using e
      simp only [e', Bool.false_eq_true, if_false] at h
      split at h
      · cases h
      · split at h
        · cases h
        · split at h
          · cases h
          · rename_i c
            exact absurd (by simp) c
  | _ => cases h
theorem swap3 {loc : Str → Bool} {x y z : Str} {px py pz : Pos} {kt : Nat} {pt : Pos} {v : Expr} {nm : List Str} (lx : loc x = true) (ly : loc y = true) (lz : loc z = true) (h : swapR loc (.Tuple [.Name x px, .Name y py, .Name z pz] kt pt) v = some (some nm)) : nm = [x, y, z] := by
  cases v with
  | Tuple vs k p =>
    unfold swapR at h
    simp only [List.filterMap_cons, List.filterMap_nil, lx, ly, lz, Bool.true_and, List.head?_cons, Option.map_some, Option.getD_some, Expr.pos, beq_self_eq_true, if_true] at h
    by_cases e : (py.line == px.line) = true
    · by_cases e2 : (pz.line == px.line) = true
      · simp only [e, e2, if_true] at h
        split at h
        · cases h
        · split at h
          · cases h
          · split at h
            · cases h
            · split at h
              · cases h
              · split at h
                · cases h
                · cases h; rfl
      · have e2' : (pz.line == px.line) = false := by simpa using e2
        simp only [e, e2', Bool.false_eq_true, if_true, if_false] at h
        split at h
        · cases h
        · split at h
          · cases h
          · split at h
            · cases h
            · rename_i c
              exact absurd (by simp) c
    · have e' : (py.line == px.line) = false := by simpa using e
      by_cases e2 : (pz.line == px.line) = true
      · simp only [e', e2, Bool.false_eq_true, if_true, if_false] at h
        split at h
        · cases h
        · split at h
          · cases h
          · split at h
            · cases h
            · rename_i c
              exact absurd (by simp) c
      · have e2' : (pz.line == px.line) = false := by simpa using e2
        simp only [e', e2', Bool.false_eq_true, if_false] at h
        split at h
        · cases h
        · split at h
          · cases h
          · split at h
            · cases h
            · rename_i c
              exact absurd (by simp) c
  | _ => cases h
theorem snd_asg (gs : GoodS kx T Xe W X sc) {n : Nat} {t e : Expr} {a : S} {pos : Pos} (h : trAsg n X.N sc t e = some a) : PS X (.Assign [t] e pos) (rdS T X.K Xe W a) := by
  have gd := gs.g
  have ihE : ∀ e a, trE n X.N sc e = some a → PE X e (rdE T X.K W a) := fun e a h => (snd_E n X sc W gd gs.tk e a h).1
  unfold trAsg at h
  split at h
  · -- a comprehension, to a local name
    split at h
    · rename_i hl
      split at h
      · rename_i g a' hg ha
        cases h
        unfold rdS
        unfold lcTo at hl
        split at hl
        · rename_i y py elt gens scope p hz
          simp only [Bool.and_eq_true, Bool.not_eq_true'] at hl
          obtain ⟨l1, l2, l3⟩ := hl
          have hy := lo_at gs l1
          have sw := sw_true (elt := elt) (gs := gens) (l := pos.line) (by rw [gs.hsc]; exact gs.kind) hy l2 l3
          obtain ⟨tg, iter, ifs, own, it, g2, cs, el, rfl, rfl, h1, h2, h3, h4, h5, h6⟩ := lc_parts (gd := gd) gs.tk ha
          have hg2 : (if locK sc y then (slot X.N y).map M.G.nm else none) = some g := hg
          split at hg2
          · obtain ⟨i, hs, rfl⟩ := op_some hg2
            unfold rdG rdE
            exact ps_setLc gd.calm gd.nd (slot_at hs) hy sw h1 h2 h3 h4 h5 h6
          · cases hg2
        · cases hl
      · cases h
    · split at h
      · rename_i hl
        split at h
        · rename_i g a' hg ha
          cases h
          unfold rdS
          unfold lcCe at hl
          split at hl
          · rename_i y py elt gens scope p hz1 hz2
            have hl := beq_iff_eq.mp hl
            have hk : X.env.kindOf y = some .cell := by
              show X.env.scope.names.lookup y = some .cell
              rw [gs.hsc]
              exact hl
            have hgg := snd_G (W := W) gd ihE hg
            refine ps_asg (ihE _ _ ha) hgg ?_ rfl rfl
            show swapsWith (.ListComp elt gens scope p) (some (.Name y py)) pos.line X.env = pure false
            unfold swapsWith
            have e : (some NameKind.cell == some NameKind.local) = false := by decide
            simp only [hk, e, Bool.and_false, Bool.false_and]
          · cases hl
        · cases h
      · cases h
  · rename_i hic
    have hic : isComp e = false := by simpa using hic
    split at h
    · rename_i hp
      have nc := plain_noComp hp hic
      split at h
      · cases h
      · rename_i hsw
        split at h
        · rename_i g a' hg ha
          cases h
          unfold rdS
          have hgg := snd_G (W := W) gd ihE hg
          exact ps_asg (ihE _ _ ha) hgg (noComp_swap nc _ _ _) (swapR_ok (blk_fn gs) (loK_eq gs) hsw) (by rw [trG_noSt hg] <;> rfl)
        · cases h
      · rename_i nm hsw
        have hsw2 := swapR_ok (blk_fn gs) (loK_eq gs) hsw
        split at h
        · rename_i x px y py kt pt a b k2 pt2
          split at h
          · rename_i hq
            simp only [Bool.and_eq_true, Bool.not_eq_true', decide_eq_false_iff_not] at hq
            obtain ⟨pa, pb, hxy, lx, ly⟩ := hq
            split at h
            · rename_i i j a' b' hi hj ha hb
              cases h
              unfold rdS
              rw [swap2 lx ly hsw] at hsw2
              exact ps_par (pos := pos) gd.calm gd.nd (slot_at hi) (slot_at hj) (slot_ne hi hj hxy) (lo_at gs lx) (lo_at gs ly) (pa_cons (ihE _ _ ha) (pa_cons (ihE _ _ hb) pa_nil (plain_star pb _ _)) (plain_star pa _ _)) hsw2
            · cases h
          · cases h
        · rename_i x px y py z pz kt pt a b c k2 pt2
          split at h
          · rename_i hq
            simp only [Bool.and_eq_true, Bool.not_eq_true', decide_eq_false_iff_not] at hq
            obtain ⟨pa, pb, pc, hxy, hxz, hyz, lx, ly, lz⟩ := hq
            split at h
            · rename_i i j k a' b' c' hi hj hk ha hb hc
              cases h
              unfold rdS
              rw [swap3 lx ly lz hsw] at hsw2
              exact ps_par3 (pos := pos) gd.calm gd.nd (slot_at hi) (slot_at hj) (slot_at hk) (slot_ne hi hj hxy) (slot_ne hi hk hxz) (slot_ne hj hk hyz) (lo_at gs lx) (lo_at gs ly) (lo_at gs lz)
                (pa_cons (ihE _ _ ha) (pa_cons (ihE _ _ hb) (pa_cons (ihE _ _ hc) pa_nil (plain_star pc _ _)) (plain_star pb _ _)) (plain_star pa _ _)) hsw2
            · cases h
          · cases h
        · cases h
    · cases h
theorem snd_S (gs : GoodS kx T Xe W X sc) : ∀ (n : Nat) (st : Stmt) (a : S), trS n X.N sc st = some a → PS X st (rdS T X.K Xe W a)
  | 0, _, _, h => by cases h
  | n + 1, st, a, h => by
    have gd := gs.g
    have ih := snd_S gs n
    have ihE : ∀ e a, trE n X.N sc e = some a → PE X e (rdE T X.K W a) := fun e a h => (snd_E n X sc W gd gs.tk e a h).1
    have ihT : ∀ e a, trE n X.N sc e = some a → PT X e (rdT T X.K W a) := fun e a h => (snd_E n X sc W gd gs.tk e a h).2
    unfold trS at h
    split at h
    · exact snd_asg gs h
    · cases h; unfold rdS; exact ps_doc
    · split at h
      · rename_i hp
        simp only [Bool.and_eq_true, Bool.not_eq_true'] at hp
        obtain ⟨a', ha, rfl⟩ := op_some h
        unfold rdS
        exact ps_expr (ihE _ _ ha) (noComp_swap (plain_noComp hp.1 hp.2) _ _ _)
      · cases h
    · cases h; unfold rdS; exact ps_retN
    · obtain ⟨a', ha, rfl⟩ := op_some h
      unfold rdS
      exact ps_ret (ihE _ _ ha)
    · split at h
      · rename_i c2 a2 b2 hc ha hb
        cases h
        unfold rdS
        exact ps_if (ihT _ _ hc) (snd_Ss ih ha) (snd_Ss ih hb)
      · cases h
    · split at h
      · rename_i hp
        split at h
        · rename_i g i b2 hg hi hb
          cases h
          unfold rdS
          exact ps_for gs.po gd.calm (snd_I gd ihE hi) (snd_G gd ihE hg) (snd_Ss ih hb) (fun x => plain_fold hp _ x)
        · cases h
      · cases h
    · split at h
      · rename_i c2 b2 hc hb
        cases h
        unfold rdS
        exact ps_while gs.po (ihT _ _ hc) (snd_Ss ih hb)
      · cases h
    · split at h
      · rename_i hp
        simp only [Bool.and_eq_true] at hp
        obtain ⟨a', ha, rfl⟩ := op_some h
        unfold rdS tRais
        refine ⟨fun pins s σ H D I z => ?_⟩
        obtain ⟨C, hC, z⟩ := z
        exact (L2N.ps_raise gd.calm gs.tk (gs.ex _ C hC _ _ _ _ (gd.glo _ hp.1) hp.2 (ihE _ _ ha))).run pins s σ H D I z
      · cases h
    · cases h; unfold rdS; exact ps_pass
    · cases h
end
end M

/-! MiniN: a def by its translation. -/
namespace M
open PySem PySem.Spec PyProof.Rows L2
/-- a def's body in the small syntax -/
def trB (N : List Str) (sc : Scope) (body : List Stmt) : Option Ss := trSs (trS 40 N sc) body
/-- what a def's text must be, decided -/
structure DefOk (N ps : List Str) (sc : Scope) (body : List Stmt) (b : Ss) : Prop where
  fs : FnScope N ps sc
  tr : trB N sc body = some b
/-- what a promise asks of the body's reading -/
def Keeps (T : Tb) (K : PySem.W.Frag) (Xe : XT) (N : List Str) (b : Ss) (sp : Sp) : Prop := ∀ (vs : List V) (H : Hp) (Q : VK) (E : XK), sp vs H Q E →
  rdSs T K Xe (fun cls d _ H' => E cls d H') b { nx := fun _ H' => Q .non H', rt := Q } (L2.start N vs) H
theorem fn_ok {P : Program} {w : World} {K : PySem.W.Frag} {mg : Str → Option Value} {base : Heap} {k : Nat} {f : Addr} {name qual : Str} {params : Arguments} {body : List Stmt} {scope : Scope} {dvs : List V} {kws : List (Str × V)} {fd : FuncData}
    {N ps : List Str} {sp : Sp} {T : Tb} {Xe : XT} {b : Ss} (F : FunD K name qual params body scope dvs kws f fd) (D : DefOk N ps scope body b) (tb : TbOk P w K mg base k T)
    (ex : ∀ (cdv : Value) (A : Around) (outer : List Env) (s : Shared) (H : Hp) (E : XK), RoomG k (A.deeper (envOfC qual scope s.heap.objs.size f cdv)) → ExOk (cxOf (L2N.CX P w) P w K mg base N qual scope f cdv A outer s H E) Xe)
    (len : ∀ vs H Q E, sp vs H Q E → vs.length = ps.length) (hk : Keeps T K Xe N b sp) : FnG P w K mg base (k + 1) f fd ps sp := by
  refine fnG_of F D.fs len fun cdv A outer s H vs Q E hr hsp => ⟨_, ?_, hk vs H Q E hsp⟩
  have gs : GoodS k T Xe (fun cls d _ H' => E cls d H') (cxOf (L2N.CX P w) P w K mg base N qual scope f cdv A outer s H E) scope :=
    ⟨good_fn D.fs tb hr, rfl, D.fs.kind, passes_of rfl, ex cdv A outer s H E hr, L2N.takes_of rfl rfl rfl rfl⟩
  exact snd_Ss (fun st a h => snd_S gs 40 st a h) D.tr
end M

/-! MiniP: data trees, levels of ownership, how the heap bears them. -/
namespace M
open PySem PySem.Spec PyProof.Rows L2

inductive Kd where
  | lst | lk | tup | tk | dic (ks : List Key) | dit (ks : List (List Key)) | ins (C : Str) (fs : List Str)
inductive D where
  | non | bl (b : Bool) | int (i : Int) | str (x : Str) | nd (k : Kd) (ds : List D)
abbrev D.lst (ds : List D) : D := .nd .lst ds
abbrev D.tup (ds : List D) : D := .nd .tup ds
def D.sc : D → Bool
  | .nd _ _ => false
  | _ => true
def D.v : D → Option V
  | .non => some .non
  | .bl b => some (.bl b)
  | .int i => some (.int i)
  | .str x => some (.str x)
  | .nd _ _ => none
/-- how much of a tree is one's own: borrowed; the upper k layers; all -/
inductive Lv where
  | bo | n (k : Nat) | al
def Lv.dn : Lv → Lv
  | .n (k + 1) => .n k
  | l => l
def Lv.up : Lv → Lv
  | .n k => .n (k + 1)
  | l => l
def Lv.own : Lv → Bool
  | .n (_ + 1) => true
  | .al => true
  | _ => false
def Lv.min : Lv → Lv → Lv
  | .bo, _ => .bo
  | _, .bo => .bo
  | .al, l => l
  | l, .al => l
  | .n a, .n b => .n (Nat.min a b)
def Lv.le : Lv → Lv → Prop
  | .bo, _ => True
  | .n _, .bo => False
  | .n a, .n b => a ≤ b
  | .n _, .al => True
  | .al, .al => True
  | .al, _ => False
theorem Lv.le_refl : ∀ {l : Lv}, l.le l
  | .bo => trivial
  | .n _ => Nat.le_refl _
  | .al => trivial
theorem Lv.min_le_left : ∀ {a b : Lv}, (a.min b).le a
  | .bo, _ => trivial
  | .n _, .bo => trivial
  | .al, .bo => trivial
  | .al, .n _ => trivial
  | .al, .al => trivial
  | .n _, .al => Nat.le_refl _
  | .n a, .n b => Nat.min_le_left a b
theorem Lv.min_le_right : ∀ {a b : Lv}, (a.min b).le b
  | .bo, _ => trivial
  | .n _, .bo => trivial
  | .al, .bo => trivial
  | .al, .n _ => Nat.le_refl _
  | .al, .al => trivial
  | .n _, .al => trivial
  | .n a, .n b => Nat.min_le_right a b
theorem Lv.dn_le : ∀ {a b : Lv}, a.le b → a.dn.le b.dn
  | .bo, _, _ => trivial
  | .n 0, .n 0, _ => Nat.le_refl _
  | .n 0, .n (_ + 1), _ => Nat.zero_le _
  | .n 0, .al, _ => trivial
  | .n (_ + 1), .n 0, h => absurd h (Nat.not_succ_le_zero _)
  | .n (_ + 1), .n (_ + 1), h => Nat.le_of_succ_le_succ h
  | .n (_ + 1), .al, _ => trivial
  | .al, .al, _ => trivial
  | .n _, .bo, h => h.elim
  | .al, .bo, h => h.elim
  | .al, .n _, h => h.elim
theorem Lv.le_trans : ∀ {a b c : Lv}, a.le b → b.le c → a.le c
  | .bo, _, _, _, _ => trivial
  | .n _, .n _, .n _, h, g => Nat.le_trans h g
  | .n _, .n _, .al, _, _ => trivial
  | .n _, .al, .al, _, _ => trivial
  | .al, .al, .al, _, _ => trivial
  | .n _, .bo, _, h, _ => h.elim
  | .al, .bo, _, h, _ => h.elim
  | .al, .n _, _, h, _ => h.elim
  | .n _, .n _, .bo, _, g => g.elim
  | .n _, .al, .bo, _, g => g.elim
  | .n _, .al, .n _, _, g => g.elim
  | .al, .al, .bo, _, g => g.elim
  | .al, .al, .n _, _, g => g.elim
theorem Lv.dn_up : ∀ (l : Lv), l.up.dn = l
  | .bo => rfl
  | .n _ => rfl
  | .al => rfl
theorem Lv.bo_le {a : Lv} : Lv.bo.le a := trivial
theorem Lv.not_own : ∀ {l : Lv}, l.own = false → l = .bo ∨ l = .n 0
  | .bo, _ => .inl rfl
  | .n 0, _ => .inr rfl
  | .n (_ + 1), h => by cases h
  | .al, h => by cases h

abbrev CA := Str → Option Addr
/-- a known object of the written part -/
def WrN (K : PySem.W.Frag) (a : Addr) (k : Kd) (vs : List V) : Prop := match k with
  | .lk => ∃ (o : Obj) (its : Array Value) (n : Nat), K.lookup a = some o ∧ o.cls = .type "list" ∧ o.dict = none ∧ o.data = .seq its n ∧ its.size ≤ sizeLine ∧ Vals vs its.toList
  | .tk => ∃ (o : Obj) (its : Array Value) (n : Nat), K.lookup a = some o ∧ o.cls = .type "tuple" ∧ o.data = .seq its n ∧ its.size ≤ sizeLine ∧ Vals vs its.toList
  | _ => False
def KdR (ca : CA) (k : Kd) (u : HO) (vs : List V) : Prop := match k with
  | .lst => u = .lst vs
  | .lk => False
  | .tup => u = .tup vs
  | .tk => False
  | .dic ks => u = .dK (ks.zip vs) ∧ ks.length = vs.length
  | .dit ks => u = .dT (ks.zip vs) ∧ ks.length = vs.length
  | .ins C fs => ∃ Ca dx, ca C = some Ca ∧ u = .ins Ca dx (fs.zip vs) ∧ fs.length = vs.length
/-- the heap's object at a, which is read -/
def AtN (ca : CA) (H : Hp) (a : Addr) (k : Kd) (vs : List V) : Prop := match k with
  | .lst => H a = some (.lst vs)
  | .lk => Rd H a (.lst vs)
  | .tup => H a = some (.tup vs)
  | .tk => Rd H a (.tup vs)
  | .dic ks => Rd H a (.dK (ks.zip vs)) ∧ ks.length = vs.length
  | .dit ks => Rd H a (.dT (ks.zip vs)) ∧ ks.length = vs.length
  | .ins C fs => ∃ Ca dx, ca C = some Ca ∧ H a = some (.ins Ca dx (fs.zip vs)) ∧ fs.length = vs.length
abbrev Bad := Addr → Prop
mutual
/-- v is the tree d in H, at the level l; A: the addresses that it owns -/
inductive Rep (K : PySem.W.Frag) (ca : CA) (bad : Bad) (H : Hp) : Lv → V → D → List Addr → Prop
  | non (l : Lv) : Rep K ca bad H l .non .non []
  | bl (l : Lv) (b : Bool) : Rep K ca bad H l (.bl b) (.bl b) []
  | int (l : Lv) (i : Int) : Rep K ca bad H l (.int i) (.int i) []
  | str (l : Lv) (x : Str) : Rep K ca bad H l (.str x) (.str x) []
  | sh {l : Lv} {a : Addr} {k : Kd} {vs : List V} {ds : List D} : l.own = false → ((AtN ca H a k vs ∧ (l = .n 0 → ¬ bad a)) ∨ WrN K a k vs) → Reps K ca bad H l vs ds [] → Rep K ca bad H l (.ref a) (.nd k ds) []
  | ow {l : Lv} {a : Addr} {k : Kd} {u : HO} {vs : List V} {ds : List D} {A : List Addr} : l.own = true → H a = some u → KdR ca k u vs → Reps K ca bad H l.dn vs ds A → Rep K ca bad H l (.ref a) (.nd k ds) (a :: A)
inductive Reps (K : PySem.W.Frag) (ca : CA) (bad : Bad) (H : Hp) : Lv → List V → List D → List Addr → Prop
  | nil {l : Lv} : Reps K ca bad H l [] [] []
  | cons {l : Lv} {v : V} {vs : List V} {d : D} {ds : List D} {A B : List Addr} : Rep K ca bad H l v d A → Reps K ca bad H l vs ds B → Reps K ca bad H l (v :: vs) (d :: ds) (A ++ B)
end
/-- good objects stay, and stay good -/
def Keep (bad : Bad) (H : Hp) (bad' : Bad) (H' : Hp) : Prop := ∀ a o, H a = some o → ¬ bad a → H' a = some o ∧ ¬ bad' a
theorem Keep.refl {bad : Bad} {H : Hp} : Keep bad H bad H := fun _ _ h n => ⟨h, n⟩
theorem Keep.trans {b1 b2 b3 : Bad} {H1 H2 H3 : Hp} (x : Keep b1 H1 b2 H2) (y : Keep b2 H2 b3 H3) : Keep b1 H1 b3 H3 := fun a o h n => y a o (x a o h n).1 (x a o h n).2
section
variable {K : PySem.W.Frag} {ca : CA} {bad bad' : Bad} {H H' : Hp}
theorem rd_some {a : Addr} {u : HO} (h : Rd H a u) : ∃ o, H a = some o := by
  rcases h with h | ⟨o, h⟩
  · exact ⟨_, h⟩
  · exact ⟨_, h⟩
theorem AtN.ex {a : Addr} {k : Kd} {vs : List V} (h : AtN ca H a k vs) : ∃ o, H a = some o := by
  cases k with
  | lst => exact ⟨_, h⟩
  | lk => exact rd_some h
  | tup => exact ⟨_, h⟩
  | tk => exact rd_some h
  | dic ks => exact rd_some h.1
  | dit ks => exact rd_some h.1
  | ins C fs => obtain ⟨_, _, _, h, _⟩ := h; exact ⟨_, h⟩
theorem rd_to {a : Addr} {u : HO} (h : Rd H a u) (e : ∀ o, H a = some o → H' a = some o) : Rd H' a u := by
  rcases h with h | ⟨o, h⟩
  · exact .inl (e _ h)
  · exact .inr ⟨o, e _ h⟩
theorem AtN.to {a : Addr} {k : Kd} {vs : List V} (h : AtN ca H a k vs) (e : ∀ o, H a = some o → H' a = some o) : AtN ca H' a k vs := by
  cases k with
  | lst => exact e _ h
  | lk => exact rd_to h e
  | tup => exact e _ h
  | tk => exact rd_to h e
  | dic ks => exact ⟨rd_to h.1 e, h.2⟩
  | dit ks => exact ⟨rd_to h.1 e, h.2⟩
  | ins C fs => obtain ⟨Ca, dx, c, h, l⟩ := h; exact ⟨Ca, dx, c, e _ h, l⟩
theorem KdR.at {a : Addr} {k : Kd} {u : HO} {vs : List V} (h : KdR ca k u vs) (e : H a = some u) : AtN ca H a k vs := by
  cases k with
  | lst => exact (by rw [e, show u = _ from h] : H a = some (.lst vs))
  | lk => exact (show False from h).elim
  | tup => exact (by rw [e, show u = _ from h] : H a = some (.tup vs))
  | tk => exact (show False from h).elim
  | dic ks => exact ⟨.inl (by rw [e, h.1]), h.2⟩
  | dit ks => exact ⟨.inl (by rw [e, h.1]), h.2⟩
  | ins C fs => obtain ⟨Ca, dx, c, h, l⟩ := h; exact ⟨Ca, dx, c, by rw [e, h], l⟩
mutual
theorem Rep.keep : ∀ {l : Lv} {v : V} {d : D} {A : List Addr}, Rep K ca bad H l v d A → (l ≠ .bo → Keep bad H bad' H') → (l = .bo → Same H H') → (∀ a ∈ A, ∀ u, H a = some u → H' a = some u) → Rep K ca bad' H' l v d A
  | _, _, _, _, .non l, _, _, _ => .non l
  | _, _, _, _, .bl l b, _, _, _ => .bl l b
  | _, _, _, _, .int l i, _, _, _ => .int l i
  | _, _, _, _, .str l x, _, _, _ => .str l x
  | l, _, _, _, .sh ho h r, q1, q2, q3 => .sh ho (by
      rcases h with ⟨h, n⟩ | h
      · rcases Lv.not_own ho with e | e
        · exact .inl ⟨AtN.to (ca := ca) h fun o z => q2 e _ _ z, fun z => by rw [e] at z; cases z⟩
        · have hk := q1 (by rw [e]; exact fun z => nomatch z)
          obtain ⟨o, ho⟩ := AtN.ex (ca := ca) h
          exact .inl ⟨AtN.to (ca := ca) h fun o z => (hk _ _ z (n e)).1, fun _ => (hk _ _ ho (n e)).2⟩
      · exact .inr h) (Reps.keep r q1 q2 q3)
  | l, _, _, _, .ow ho h k r, q1, q2, q3 => .ow ho (q3 _ List.mem_cons_self _ h) k (Reps.keep r
      (fun z => q1 fun e => z (by rw [e]; rfl)) (fun z => by
        match l, ho, z with
        | .n (_ + 1), _, z => cases z
        | .al, _, z => cases z) fun a ha => q3 a (List.mem_cons_of_mem _ ha))
theorem Reps.keep : ∀ {l : Lv} {vs : List V} {ds : List D} {A : List Addr}, Reps K ca bad H l vs ds A → (l ≠ .bo → Keep bad H bad' H') → (l = .bo → Same H H') → (∀ a ∈ A, ∀ u, H a = some u → H' a = some u) → Reps K ca bad' H' l vs ds A
  | _, _, _, _, .nil, _, _, _ => .nil
  | _, _, _, _, .cons h r, q1, q2, q3 => .cons (Rep.keep h q1 q2 fun a ha => q3 a (List.mem_append_left _ ha)) (Reps.keep r q1 q2 fun a ha => q3 a (List.mem_append_right _ ha))
end
mutual
/-- what is owned is there -/
theorem Rep.there : ∀ {l : Lv} {v : V} {d : D} {A : List Addr}, Rep K ca bad H l v d A → ∀ a ∈ A, H a ≠ none
  | _, _, _, _, .non _, a, ha => by cases ha
  | _, _, _, _, .bl _ _, a, ha => by cases ha
  | _, _, _, _, .int _ _, a, ha => by cases ha
  | _, _, _, _, .str _ _, a, ha => by cases ha
  | _, _, _, _, .sh _ _ _, a, ha => by cases ha
  | _, _, _, _, .ow _ h _ r, a, ha => by
    rcases List.mem_cons.mp ha with e | e
    · rw [e, h]; exact fun z => nomatch z
    · exact Reps.there r a e
theorem Reps.there : ∀ {l : Lv} {vs : List V} {ds : List D} {A : List Addr}, Reps K ca bad H l vs ds A → ∀ a ∈ A, H a ≠ none
  | _, _, _, _, .nil, a, ha => by cases ha
  | _, _, _, _, .cons h r, a, ha => (List.mem_append.mp ha).elim (Rep.there h a) (Reps.there r a)
end
mutual
/-- what is not owned owns nothing -/
theorem Rep.bare : ∀ {l : Lv} {v : V} {d : D} {A : List Addr}, Rep K ca bad H l v d A → l.own = false → A = []
  | _, _, _, _, .non _, _ => rfl
  | _, _, _, _, .bl _ _, _ => rfl
  | _, _, _, _, .int _ _, _ => rfl
  | _, _, _, _, .str _ _, _ => rfl
  | _, _, _, _, .sh _ _ _, _ => rfl
  | _, _, _, _, .ow ho _ _ _, h => by rw [ho] at h; cases h
theorem Reps.bare : ∀ {l : Lv} {vs : List V} {ds : List D} {A : List Addr}, Reps K ca bad H l vs ds A → l.own = false → A = []
  | _, _, _, _, .nil, _ => rfl
  | _, _, _, _, .cons h r, e => by rw [Rep.bare h e, Reps.bare r e]; rfl
end
mutual
/-- a lower level; what is no longer owned may be good -/
theorem Rep.low : ∀ {l : Lv} {v : V} {d : D} {A : List Addr} {l' : Lv}, Rep K ca bad H l v d A → l'.le l → A.Nodup →
    ∃ A', A'.Sublist A ∧ ∀ bad' : Bad, (∀ a, bad' a → bad a ∧ (a ∈ A → a ∈ A')) → Rep K ca bad' H l' v d A'
  | _, _, _, _, l', .non _, _, _ => ⟨[], .slnil, fun _ _ => .non l'⟩
  | _, _, _, _, l', .bl _ b, _, _ => ⟨[], .slnil, fun _ _ => .bl l' b⟩
  | _, _, _, _, l', .int _ i, _, _ => ⟨[], .slnil, fun _ _ => .int l' i⟩
  | _, _, _, _, l', .str _ x, _, _ => ⟨[], .slnil, fun _ _ => .str l' x⟩
  | l, _, _, _, l', .sh ho h r, hl, nd => by
    have hl' : l'.own = false ∧ (l' = .n 0 → l = .n 0) := by
      rcases Lv.not_own ho with e | e
      · subst e
        cases l' with
        | bo => exact ⟨rfl, fun z => nomatch z⟩
        | n k => exact hl.elim
        | al => exact hl.elim
      · subst e
        cases l' with
        | bo => exact ⟨rfl, fun z => nomatch z⟩
        | n k =>
          cases k with
          | zero => exact ⟨rfl, fun _ => rfl⟩
          | succ k => exact absurd hl (Nat.not_succ_le_zero _)
        | al => exact hl.elim
    obtain ⟨A', s, f⟩ := Reps.low r hl nd
    have e := List.sublist_nil.mp s
    subst e
    refine ⟨[], .slnil, fun bad' hb => .sh hl'.1 ?_ (f bad' hb)⟩
    rcases h with ⟨h, n⟩ | h
    · exact .inl ⟨h, fun z q => n (hl'.2 z) (hb _ q).1⟩
    · exact .inr h
  | l, _, _, _, l', .ow (a := a) (A := A) ho h k r, hl, nd => by
    have nd' := List.nodup_cons.mp nd
    obtain ⟨A', s, f⟩ := Reps.low r (Lv.dn_le hl) nd'.2
    cases hw : l'.own with
    | true =>
      refine ⟨a :: A', s.cons_cons a, fun bad' hb => .ow hw h k (f bad' fun b q => ⟨(hb b q).1, fun m => ?_⟩)⟩
      rcases List.mem_cons.mp ((hb b q).2 (List.mem_cons_of_mem _ m)) with e | e
      · subst e; exact absurd m nd'.1
      · exact e
    | false =>
      have ed : l'.dn = l' := by
        rcases Lv.not_own hw with e | e
        · rw [e]; rfl
        · rw [e]; rfl
      rw [ed] at f
      have e0 : A' = [] := Reps.bare (f (fun _ => False) (fun _ q => q.elim)) hw
      subst e0
      refine ⟨[], List.nil_sublist _, fun bad' hb => .sh hw (.inl ⟨k.at h, fun _ q => ?_⟩) (f bad' fun b q => ⟨(hb b q).1, fun m => ?_⟩)⟩
      · exact absurd ((hb a q).2 List.mem_cons_self) (List.not_mem_nil)
      · exact absurd ((hb b q).2 (List.mem_cons_of_mem _ m)) (List.not_mem_nil)
theorem Reps.low : ∀ {l : Lv} {vs : List V} {ds : List D} {A : List Addr} {l' : Lv}, Reps K ca bad H l vs ds A → l'.le l → A.Nodup →
    ∃ A', A'.Sublist A ∧ ∀ bad' : Bad, (∀ a, bad' a → bad a ∧ (a ∈ A → a ∈ A')) → Reps K ca bad' H l' vs ds A'
  | _, _, _, _, l', .nil, _, _ => ⟨[], .slnil, fun _ _ => .nil⟩
  | _, _, _, _, l', .cons (A := A) (B := B) h r, hl, nd => by
    have n1 := List.nodup_append.mp nd
    obtain ⟨A', s1, f1⟩ := Rep.low h hl n1.1
    obtain ⟨B', s2, f2⟩ := Reps.low r hl n1.2.1
    refine ⟨A' ++ B', s1.append s2, fun bad' hb => .cons (f1 bad' fun b q => ⟨(hb b q).1, fun m => ?_⟩) (f2 bad' fun b q => ⟨(hb b q).1, fun m => ?_⟩)⟩
    · rcases List.mem_append.mp ((hb b q).2 (List.mem_append_left _ m)) with e | e
      · exact e
      · exact absurd rfl (n1.2.2 b m b (s2.subset e))
    · rcases List.mem_append.mp ((hb b q).2 (List.mem_append_right _ m)) with e | e
      · exact absurd rfl (n1.2.2 b (s1.subset e) b m)
      · exact e
end
end
end M

/-! MiniQ: the evaluator of expressions on data trees. -/
namespace M
open PySem PySem.Spec PyProof.Rows L2

inductive R (α : Type) where
  | ok (a : α) | err (C : Str) (x : V) | stuck
def R.bind {α β : Type} : R α → (α → R β) → R β
  | .ok a, f => f a
  | .err C x, _ => .err C x
  | .stuck, _ => .stuck
def R.pure' {α : Type} : R α → R α
  | .err _ _ => .stuck
  | r => r
noncomputable def gd {α : Type} (p : Prop) (r : R α) : R α := @ite _ p (Classical.propDecidable p) r .stuck
theorem gd_pos {α : Type} {p : Prop} {r : R α} (h : p) : gd p r = r := if_pos h
theorem gd_ok {α : Type} {p : Prop} {r : R α} {a : α} (h : gd p r = .ok a) : p ∧ r = .ok a := by
  unfold gd at h
  by_cases q : p
  · rw [if_pos q] at h; exact ⟨q, h⟩
  · rw [if_neg q] at h; cases h
theorem gd_err {α : Type} {p : Prop} {r : R α} {C : Str} {x : V} (h : gd p r = .err C x) : p ∧ r = .err C x := by
  unfold gd at h
  by_cases q : p
  · rw [if_pos q] at h; exact ⟨q, h⟩
  · rw [if_neg q] at h; cases h
theorem bind_ok {α β : Type} {r : R α} {f : α → R β} {b : β} (h : r.bind f = .ok b) : ∃ a, r = .ok a ∧ f a = .ok b := by
  cases r with
  | ok a => exact ⟨a, rfl, h⟩
  | err C x => cases h
  | stuck => cases h
theorem bind_err {α β : Type} {r : R α} {f : α → R β} {C : Str} {x : V} (h : r.bind f = .err C x) : r = .err C x ∨ ∃ a, r = .ok a ∧ f a = .err C x := by
  cases r with
  | ok a => exact .inr ⟨a, rfl, h⟩
  | err C x => left; cases h; rfl
  | stuck => cases h

abbrev DL := D × Lv
abbrev En := List (Option DL)
/-- a def: what it makes of its arguments, the defaults -/
structure FF where
  run : List D → R DL
  dfs : List D
structure Fi where
  fn : Str → Option FF
  gl : Str → Option D
  ex : Str → Bool
  fld : Str → Str → Bool
def Lv.frz (l : Lv) : Lv := l.min (.n 0)
def nl (d : D) (l : Lv) : Lv := if d.sc = true then .al else l
def flat (ds : List D) : Bool := ds.all D.sc
def cp (l : Lv) (ds : List D) : Lv := if flat ds = true then .al else l.frz.up
def lf (l : Lv) (_ : List D) : Lv := l.frz
def mnL : List DL → Lv
  | [] => .al
  | x :: r => (nl x.1 x.2).min (mnL r)
def dsp (xs : List DL) : Lv := (mnL xs).up
def D.asL : D → Option (List D)
  | .nd .lst ds => some ds
  | .nd .lk ds => some ds
  | _ => none
def D.asT : D → Option (List D)
  | .nd .tup ds => some ds
  | .nd .tk ds => some ds
  | _ => none
def D.asQ : D → Option (List D)
  | .nd .lst ds => some ds
  | .nd .lk ds => some ds
  | .nd .tup ds => some ds
  | .nd .tk ds => some ds
  | _ => none
def intsD : List D → Option (List Int)
  | [] => some []
  | .int i :: r => (intsD r).map (i :: ·)
  | _ => none
def blsD : List D → Option (List Bool)
  | [] => some []
  | .bl i :: r => (blsD r).map (i :: ·)
  | _ => none
def strsD : List D → Option (List Str)
  | [] => some []
  | .str i :: r => (strsD r).map (i :: ·)
  | _ => none
mutual
def D.py : D → PyData
  | .non => .none
  | .bl b => .bool b
  | .int i => .int i
  | .str x => .str x
  | .nd .lst ds => .list (D.pys ds)
  | .nd .lk ds => .list (D.pys ds)
  | .nd .tup ds => .tuple (D.pys ds)
  | .nd .tk ds => .tuple (D.pys ds)
  | .nd _ _ => .none
def D.pys : List D → List PyData
  | [] => []
  | d :: r => d.py :: D.pys r
end
mutual
/-- lists and tuples alone -/
def D.okE : D → Bool
  | .nd .lst ds => D.okEs ds
  | .nd .lk ds => D.okEs ds
  | .nd .tup ds => D.okEs ds
  | .nd .tk ds => D.okEs ds
  | .nd _ _ => false
  | .str x => PyData.strOk x
  | _ => true
def D.okEs : List D → Bool
  | [] => true
  | d :: r => d.okE && D.okEs r
end
def D.vv : D → V
  | .non => .non
  | .bl b => .bl b
  | .int i => .int i
  | .str x => .str x
  | .nd _ _ => .non
def Vd : V → Option D
  | .non => some .non
  | .bl b => some (.bl b)
  | .int i => some (.int i)
  | .str x => some (.str x)
  | _ => none
def D.key : D → Option Key
  | .int i => some (.inl i)
  | .str x => some (.inr x)
  | _ => none
def keysD : List D → Option (List Key)
  | [] => some []
  | d :: r => match d.key, keysD r with
    | some k, some ks => some (k :: ks)
    | _, _ => none
def lookD {κ : Type} [DecidableEq κ] : List κ → List D → κ → Option D
  | k :: ks, d :: ds, x => if k = x then some d else lookD ks ds x
  | _, _, _ => none
/-- d[k] of a dict: none: no dict, no key of its kind -/
def dgetD : D → D → Option (Option D)
  | .nd (.dic ks) ds, k => k.key.map fun k => lookD ks ds k
  | .nd (.dit ks) ds, .nd .tup k => (keysD k).map fun k => lookD ks ds k
  | _, _ => none
def D.isDic : D → Bool
  | .nd (.dic _) _ => true
  | .nd (.dit _) _ => true
  | _ => false
noncomputable def opB : BO → DL → DL → R DL
  | .add, (.int i, _), (.int j, _) => .ok (.int (i + j), .al)
  | .add, (.str x, _), (.str y, _) => gd (x.length + y.length ≤ sizeLine) (.ok (.str (x ++ y), .al))
  | .add, (.nd .lst xs, l), (.nd .lst ys, m) => gd (xs.length + ys.length ≤ sizeLine) (.ok (.nd .lst (xs ++ ys), cp (l.min m) (xs ++ ys)))
  | .add, (.nd .tup xs, l), (.nd .tup ys, m) => gd (xs ≠ [] ∧ xs.length + ys.length ≤ sizeLine) (.ok (.nd .tup (xs ++ ys), (l.min m).frz))
  | .sub, (.int i, _), (.int j, _) => .ok (.int (i - j), .al)
  | .mul, (.int i, _), (.int j, _) => gd (CMul i j ∨ CMulW i j) (.ok (.int (i * j), .al))
  | .mul, (.nd .lst xs, l), (.int k, _) => gd (-(2 ^ 63) ≤ k ∧ k < 2 ^ 63 ∧ xs.length * k.toNat ≤ sizeLine) (.ok (.nd .lst (List.replicate k.toNat xs).flatten, cp l (List.replicate k.toNat xs).flatten))
  | .fdiv, (.int i, _), (.int j, _) => gd (CDivN i j ∨ CDivW i j) (.ok (.int (i.fdiv j), .al))
  | .mod, (.int i, _), (.int j, _) => gd (j ≠ 0) (.ok (.int (i.fmod j), .al))
  | .pow, (.int i, _), (.int j, _) => gd (CPow i j) (.ok (.int (i ^ j.toNat), .al))
  | _, _, _ => .stuck
noncomputable def opC : CO → D → D → R D
  | .eq, a, b => if (a.sc && b.sc && scal a.vv b.vv) = true then .ok (.bl (decide (a.vv = b.vv))) else gd (a.okE = true ∧ b.okE = true ∧ a.py.depth ≤ 64 ∧ b.py.depth ≤ 64) (.ok (.bl (PyData.eqv a.py b.py)))
  | .ne, a, b => if (a.sc && b.sc && scal a.vv b.vv) = true then .ok (.bl (!decide (a.vv = b.vv))) else gd (a.okE = true ∧ b.okE = true ∧ a.py.depth ≤ 64 ∧ b.py.depth ≤ 64) (.ok (.bl (!PyData.eqv a.py b.py)))
  | .lt, .int i, .int j => .ok (.bl (decide (i < j)))
  | .le, .int i, .int j => .ok (.bl (decide (i ≤ j)))
  | .gt, .int i, .int j => .ok (.bl (decide (j < i)))
  | .ge, .int i, .int j => .ok (.bl (decide (j ≤ i)))
  | .isin, .str i, .str j => .ok (.bl (!(Builtin.Str.occurrences j i 0 j.length 1).isEmpty))
  | .notin, .str i, .str j => .ok (.bl (!(!(Builtin.Str.occurrences j i 0 j.length 1).isEmpty)))
  | .isin, a, b => match b.asQ with
    | some xs => gd (a.sc = true ∧ flat xs = true) (.ok (.bl (inV a.vv (xs.map D.vv))))
    | none => match dgetD b a with
      | some o => .ok (.bl o.isSome)
      | none => .stuck
  | .notin, a, b => match b.asQ with
    | some xs => gd (a.sc = true ∧ flat xs = true) (.ok (.bl (!inV a.vv (xs.map D.vv))))
    | none => match dgetD b a with
      | some o => .ok (.bl (!o.isSome))
      | none => .stuck
  | _, _, _ => .stuck
noncomputable def opK (o : CO) (a b : D) : R D := match o with
  | .isin => .stuck
  | .notin => .stuck
  | o => opC o a b
noncomputable def opI : DL → D → R DL
  | (.str z, _), .int i => match atI z.cps.toList i with
    | some c => gd (z.length ≤ sizeLine) (.ok (.str ⟨#[c]⟩, .al))
    | none => .stuck
  | (d, l), i => match d.asQ, i with
    | some ds, .int i => match atI ds i with
      | some x => .ok (x, nl x l.frz)
      | none => .stuck
    | some _, _ => .stuck
    | none, i => match dgetD d i with
      | some (some x) => .ok (x, nl x l.frz)
      | _ => .stuck
noncomputable def opS : DL → Option Int → Option Int → R DL
  | (d, l), lo, hi => match d.asL with
    | some ds => .ok (.nd .lst ((ds.drop (HT.sIx ds.length 0 lo)).take (HT.sIx ds.length ds.length hi - HT.sIx ds.length 0 lo)), cp l ((ds.drop (HT.sIx ds.length 0 lo)).take (HT.sIx ds.length ds.length hi - HT.sIx ds.length 0 lo)))
    | none => match d.asT with
      | some ds => gd (¬ (HT.sIx ds.length 0 lo = 0 ∧ HT.sIx ds.length ds.length hi = ds.length)) (.ok (.nd .tup ((ds.drop (HT.sIx ds.length 0 lo)).take (HT.sIx ds.length ds.length hi - HT.sIx ds.length 0 lo)), l.frz))
      | none => .stuck
noncomputable def opR : DL → R DL
  | (d, l) => match d.asL with
    | some ds => .ok (.nd .lst ds.reverse, cp l ds.reverse)
    | none => .stuck
noncomputable def opRg : DL → R DL
  | (.int j, _) => gd (L2.RgOk 0 j) (.ok (.nd .lst ((List.range (j - 0).toNat).map fun i => D.int (0 + (i : Nat))), .al))
  | _ => .stuck
noncomputable def truD : D → R Bool
  | .non => .ok false
  | .bl b => .ok b
  | .int i => .ok (i != 0)
  | .str x => gd (x.length ≤ sizeLine) (.ok ((x.length : Int) != 0))
  | .nd .lst ds => .ok (!ds.isEmpty)
  | .nd .lk ds => .ok (!ds.isEmpty)
  | .nd .tup ds => .ok (!ds.isEmpty)
  | .nd .tk ds => .ok (!ds.isEmpty)
  | _ => .stuck
def obl : R D → R DL
  | .ok (.bl b) => .ok (.bl b, .al)
  | _ => .stuck
def maxI : List Int → Option Int
  | [] => none
  | x :: r => some (r.foldl (fun m y => if m < y then y else m) x)
def minI : List Int → Option Int
  | [] => none
  | x :: r => some (r.foldl (fun m y => if y < m then y else m) x)
def seqL (d : D) : Option (List D) := d.asL
/-- built-ins by name -/
noncomputable def bltD (f : Str) (xs : List DL) : R DL :=
  if f = ("len" : Str) then (match xs with
    | [(.str x, _)] => gd (x.length ≤ sizeLine) (.ok (.int x.length, .al))
    | [(d, _)] => (match d.asQ with
      | some ds => .ok (.int ds.length, .al)
      | none => .stuck)
    | _ => .stuck)
  else if f = ("int" : Str) then (match xs with
    | [(.int i, _)] => .ok (.int i, .al)
    | [(.bl b, _)] => .ok (.int (if b then 1 else 0), .al)
    | _ => .stuck)
  else if f = ("abs" : Str) then (match xs with
    | [(.int i, _)] => .ok (.int (if i < 0 then -i else i), .al)
    | _ => .stuck)
  else if f = ("max" : Str) then (match xs with
    | [(.int i, _), (.int j, _)] => .ok (.int (if j > i then j else i), .al)
    | [(d, _)] => (match d.asL with
      | some ds => (match intsD ds with
        | some ns => (match maxI ns with
          | some m => .ok (.int m, .al)
          | none => .stuck)
        | none => .stuck)
      | none => .stuck)
    | _ => .stuck)
  else if f = ("min" : Str) then (match xs with
    | [(.int i, _), (.int j, _)] => .ok (.int (if j < i then j else i), .al)
    | [(d, _)] => (match d.asL with
      | some ds => (match intsD ds with
        | some ns => (match minI ns with
          | some m => .ok (.int m, .al)
          | none => .stuck)
        | none => .stuck)
      | none => .stuck)
    | _ => .stuck)
  else if f = ("list" : Str) then (match xs with
    | [(d, l)] => (match d.asQ with
      | some ds => .ok (.nd .lst ds, cp l ds)
      | none => .stuck)
    | _ => .stuck)
  else if f = ("tuple" : Str) then (match xs with
    | [(d, l)] => (match d.asL with
      | some ds => .ok (.nd .tup ds, l.frz)
      | none => (match d.asT with
        | some ds => .ok (d, l.frz)
        | none => .stuck))
    | _ => .stuck)
  else if f = ("sum" : Str) then (match xs with
    | [(d, _)] => (match d.asL with
      | some ds => (match intsD ds with
        | some ns => .ok (.int ns.sum, .al)
        | none => .stuck)
      | none => .stuck)
    | _ => .stuck)
  else if f = ("any" : Str) then (match xs with
    | [(d, _)] => (match d.asL with
      | some ds => (match blsD ds with
        | some ns => .ok (.bl (ns.any id), .al)
        | none => .stuck)
      | none => .stuck)
    | _ => .stuck)
  else if f = ("all" : Str) then (match xs with
    | [(d, _)] => (match d.asL with
      | some ds => (match blsD ds with
        | some ns => .ok (.bl (ns.all id), .al)
        | none => .stuck)
      | none => .stuck)
    | _ => .stuck)
  else if f = ("str" : Str) then (match xs with
    | [(.int i, _)] => gd (i.natAbs.log2 < 1920) (.ok (.str (toString i), .al))
    | _ => .stuck)
  else if f = ("repr" : Str) then (match xs with
    | [(d, _)] => gd (d.okE = true ∧ d.py.showable = true ∧ d.py.depth ≤ 60 ∧ d.py.shown.length ≤ sizeLine) (.ok (.str d.py.shown, .al))
    | _ => .stuck)
  else .stuck
/-- what a call gives, of arguments that are borrowed -/
def isBo (x : DL) : Bool := !x.1.sc && (match x.2 with | .bo => true | _ => false)
def callL (xs : List DL) (l : Lv) : Lv := if xs.any isBo = true then (match l with
  | .al => .al
  | _ => .bo) else l
noncomputable def callD (ff : FF) (xs : List DL) : R DL := (ff.run (xs.map (·.1) ++ ff.dfs)).bind fun r => .ok (r.1, callL xs r.2)
def bltN (f : Str) : Bool := ["len", "int", "abs", "max", "min", "list", "tuple", "sum", "any", "all", "str", "repr", "sorted"].any fun s => decide (f = (Str.ofString s))
noncomputable def callE (Φ : Fi) (f : Str) (ne : Bool) (r : R (List DL)) : R DL := match Φ.fn f with
  | some ff => r.bind fun xs => callD ff xs
  | none => if (bltN f && ne) = true then r.bind fun xs => bltD f xs else .stuck
def joinD : DL → List DL → R DL
  | (.str a, _), [(d, _)] => match d.asQ with
    | some ds => match strsD ds with
      | some ys => if (ys.map (·.length)).sum + ys.length * a.length ≤ 16777216 then .ok (.str (Txt.join a ys), .al) else .stuck
      | none => .stuck
    | none => .stuck
  | _, _ => .stuck
def D.isStr : D → Bool
  | .str _ => true
  | _ => false
def joinE (m : Str) (ro : R DL) (r : R (List DL)) : R DL := if m = ("join" : Str) then ro.bind fun x => if x.1.isStr = true then r.bind fun xs => joinD x xs else .stuck else .stuck
def fldD (Φ : Fi) (f : Str) : DL → R DL
  | (.nd (.ins C fs) ds, l) => match lookD fs ds f with
    | some x => if Φ.fld C f = true then .ok (x, nl x l.frz) else .stuck
    | none => .stuck
  | _ => .stuck
mutual
/-- names and tuples of names -/
def bdG : G → D → Lv → En → R En
  | .nm i, d, l, η => .ok (η.set i (some (d, l)))
  | .tp gs, d, l, η => match d.asQ with
    | some ds => bdGs gs ds l η
    | none => .stuck
  | _, _, _, _ => .stuck
def bdGs : Gs → List D → Lv → En → R En
  | .nil, [], _, η => .ok η
  | .cons g r, d :: ds, l, η => (bdG g d l η).bind fun η' => bdGs r ds l η'
  | _, _, _, _ => .stuck
end
mutual
/-- all of its names are among these -/
def inG (vs : List Nat) : G → Bool
  | .nm i => vs.contains i
  | .tp gs => inGs vs gs
  | _ => false
def inGs (vs : List Nat) : Gs → Bool
  | .nil => true
  | .cons g r => inG vs g && inGs vs r
end
def lcR (bd : D → R En) (t : En → R Bool) (f : En → R DL) : List D → R (List DL)
  | [] => .ok []
  | d :: r => (bd d).bind fun η => (t η).bind fun b => if b = true then (f η).bind fun x => if isBo x = true then .stuck else (lcR bd t f r).bind fun xs => .ok ((x.1, nl x.1 x.2) :: xs) else lcR bd t f r
def wipeE (η : En) : List Nat → En
  | [] => η
  | v :: vs => (wipeE η vs).set v none
mutual
noncomputable def ev (Φ : Fi) : E → En → R DL
  | .var i, η => match η[i]? with
    | some (some x) => .ok (x.1, nl x.1 x.2)
    | _ => .stuck
  | .glo x, _ => match Φ.gl x with
    | some d => .ok (d, nl d (.n 0))
    | none => .stuck
  | .cst v, _ => match Vd v with
    | some d => .ok (d, .al)
    | none => .stuck
  | .bin o a b, η => (ev Φ a η).bind fun x => (ev Φ b η).bind fun y => opB o x y
  | .neg a, η => (ev Φ a η).bind fun x => match x with
    | (.int i, _) => .ok (.int (-i), .al)
    | _ => .stuck
  | .no a, η => (ev Φ a η).bind fun x => match x with
    | (.bl b, _) => .ok (.bl (!b), .al)
    | _ => .stuck
  | .cmp o a b, η => (ev Φ a η).bind fun x => (ev Φ b η).bind fun y => obl (opC o x.1 y.1)
  | .chain o o' a b c, η => (ev Φ a η).bind fun x => (ev Φ b η).bind fun y => match opK o x.1 y.1 with
    | .ok (.bl true) => (ev Φ c η).bind fun z => obl (opK o' y.1 z.1)
    | .ok (.bl false) => .ok (.bl false, .al)
    | _ => .stuck
  | .isN a, η => (ev Φ a η).bind fun x => match x.1 with
    | .non => .ok (.bl true, .al)
    | _ => .ok (.bl false, .al)
  | .notN a, η => (ev Φ a η).bind fun x => match x.1 with
    | .non => .ok (.bl false, .al)
    | _ => .ok (.bl true, .al)
  | .band es, η => evAndV Φ es η
  | .bor es, η => evOrV Φ es η
  | .ife c a b, η => (evT Φ c η).bind fun t => if t = true then ev Φ a η else ev Φ b η
  | .lst es, η => (evs Φ es η).bind fun xs => gd (xs.length ≤ sizeLine) (.ok (.nd .lst (xs.map (·.1)), dsp xs))
  | .tup es, η => (evs Φ es η).bind fun xs => gd (xs.length ≤ sizeLine) (.ok (.nd .tup (xs.map (·.1)), dsp xs))
  | .idx a i, η => (ev Φ a η).bind fun x => (ev Φ i η).bind fun y => opI x y.1
  | .sl a lo hi, η => (ev Φ a η).bind fun x => (evP Φ lo η).bind fun l => (evP Φ hi η).bind fun h => opS x l h
  | .rev a, η => (ev Φ a η).bind fun x => opR x
  | .rgl a, η => (ev Φ a η).bind fun x => opRg x
  | .call f es, η => callE Φ f (neEs es) (evs Φ es η)
  | .meth o m es, η => joinE m (ev Φ o η) (evs Φ es η)
  | .attr o f, η => (ev Φ o η).bind fun x => fldD Φ f x
  | .lc own g it c elt, η => (evI Φ it η).bind fun its => if inG own g = true then
      (R.pure' (lcR (fun d => bdG g d its.2 (wipeE η own)) (evTs Φ c) (ev Φ elt) its.1)).bind fun xs => gd (xs.length ≤ sizeLine) (.ok (.nd .lst (xs.map (·.1)), dsp xs)) else .stuck
noncomputable def evT (Φ : Fi) : E → En → R Bool
  | .no a, η => (evT Φ a η).bind fun b => .ok (!b)
  | .cmp o a b, η => (ev Φ a η).bind fun x => (ev Φ b η).bind fun y => match opC o x.1 y.1 with
    | .ok (.bl b) => .ok b
    | _ => .stuck
  | .chain o o' a b c, η => (ev Φ a η).bind fun x => (ev Φ b η).bind fun y => match opK o x.1 y.1 with
    | .ok (.bl true) => (ev Φ c η).bind fun z => (match opK o' y.1 z.1 with
      | .ok (.bl b) => .ok b
      | _ => .stuck)
    | .ok (.bl false) => .ok false
    | _ => .stuck
  | .isN a, η => (ev Φ a η).bind fun x => match x.1 with
    | .non => .ok true
    | _ => .ok false
  | .notN a, η => (ev Φ a η).bind fun x => match x.1 with
    | .non => .ok false
    | _ => .ok true
  | .band es, η => evAnd Φ es η
  | .bor es, η => evOr Φ es η
  | .var i, η => match η[i]? with
    | some (some x) => truD x.1
    | _ => .stuck
  | .glo x, _ => match Φ.gl x with
    | some d => truD d
    | none => .stuck
  | .cst v, _ => match Vd v with
    | some d => truD d
    | none => .stuck
  | .idx a i, η => ((ev Φ a η).bind fun x => (ev Φ i η).bind fun y => opI x y.1).bind fun x => truD x.1
  | .call f es, η => (callE Φ f (neEs es) (evs Φ es η)).bind fun x => truD x.1
  | .meth o m es, η => (joinE m (ev Φ o η) (evs Φ es η)).bind fun x => truD x.1
  | .attr o f, η => ((ev Φ o η).bind fun x => fldD Φ f x).bind fun x => truD x.1
  | _, _ => .stuck
noncomputable def evs (Φ : Fi) : Es → En → R (List DL)
  | .nil, _ => .ok []
  | .cons e r, η => (ev Φ e η).bind fun x => (evs Φ r η).bind fun xs => .ok (x :: xs)
noncomputable def evAndV (Φ : Fi) : Es → En → R DL
  | .nil, _ => .stuck
  | .cons e r, η => match r with
    | .nil => ev Φ e η
    | .cons e' r' => (ev Φ e η).bind fun x => match x with
      | (.bl true, _) => evAndV Φ (.cons e' r') η
      | (.bl false, _) => .ok (.bl false, .al)
      | _ => .stuck
noncomputable def evOrV (Φ : Fi) : Es → En → R DL
  | .nil, _ => .stuck
  | .cons e r, η => match r with
    | .nil => ev Φ e η
    | .cons e' r' => (ev Φ e η).bind fun x => match x with
      | (.bl true, _) => .ok (.bl true, .al)
      | (.bl false, _) => evOrV Φ (.cons e' r') η
      | _ => .stuck
noncomputable def evAnd (Φ : Fi) : Es → En → R Bool
  | .nil, _ => .stuck
  | .cons e r, η => match r with
    | .nil => evT Φ e η
    | .cons e' r' => (evT Φ e η).bind fun b => if b = true then evAnd Φ (.cons e' r') η else .ok false
noncomputable def evOr (Φ : Fi) : Es → En → R Bool
  | .nil, _ => .stuck
  | .cons e r, η => match r with
    | .nil => evT Φ e η
    | .cons e' r' => (evT Φ e η).bind fun b => if b = true then .ok true else evOr Φ (.cons e' r') η
noncomputable def evTs (Φ : Fi) : Es → En → R Bool
  | .nil, _ => .ok true
  | .cons e _, η => evT Φ e η
noncomputable def evP (Φ : Fi) : P → En → R (Option Int)
  | .no, _ => .ok none
  | .so e, η => (ev Φ e η).bind fun x => match x with
    | (.int i, _) => .ok (some i)
    | _ => .stuck
noncomputable def evI (Φ : Fi) : I → En → R (List D × Lv)
  | .of e, η => (ev Φ e η).bind fun x => match x with
    | (.str z, _) => .ok (z.cps.toList.map fun c => .str ⟨#[c]⟩, .n 0)
    | (d, l) => match d.asQ with
      | some ds => .ok (ds, lf l ds)
      | none => .stuck
  | .rng1 a, η => (ev Φ a η).bind fun x => match x with
    | (.int j, _) => gd (-(2 ^ 62) ≤ j ∧ j < 2 ^ 62) (.ok ((List.range j.toNat).map fun k => .int (0 + (k : Nat)), .n 0))
    | _ => .stuck
  | .rng2 a b, η => (ev Φ a η).bind fun x => (ev Φ b η).bind fun y => match x, y with
    | (.int i, _), (.int j, _) => gd (-(2 ^ 62) ≤ i ∧ i < 2 ^ 62 ∧ -(2 ^ 62) ≤ j ∧ j < 2 ^ 62) (.ok ((List.range (j - i).toNat).map fun k => .int (i + (k : Nat)), .n 0))
    | _, _ => .stuck
  | .rng3 a b c, η => (ev Φ a η).bind fun x => (ev Φ b η).bind fun y => (ev Φ c η).bind fun z => match x, y, z with
    | (.int i, _), (.int j, _), (.int c, _) => gd (RgC i j c (Builtin.Range.rangeSize i j c).toNat) (.ok ((List.range (Builtin.Range.rangeSize i j c).toNat).map fun k => .int (i + (k : Nat) * c), .n 0))
    | _, _, _ => .stuck
  | .enum e, η => (ev Φ e η).bind fun x => match x.1.asL with
    | some ds => .ok (ds.mapIdx fun k d => .nd .tup [.int (k : Nat), d], lf x.2 ds)
    | none => .stuck
  | .zip a b, η => (ev Φ a η).bind fun x => (ev Φ b η).bind fun y => match x.1.asL, y.1.asL with
    | some ds, some es => .ok (List.zipWith (fun d e => .nd .tup [d, e]) ds es, (lf x.2 ds).min (lf y.2 es))
    | _, _ => .stuck
end
end M

/-! MiniR: operators on data trees are right. -/
namespace M
open PySem PySem.Spec PyProof.Rows L2
theorem Lv.frz_own : ∀ (l : Lv), l.frz.own = false
  | .bo => rfl
  | .n _ => by show Lv.own (.n (Min.min _ 0)) = false; rw [Nat.min_zero]; rfl
  | .al => rfl
theorem Lv.frz_le {l : Lv} : l.frz.le l := Lv.min_le_left
theorem Lv.frz_of : ∀ {l : Lv}, l.own = false → l.frz = l
  | .bo, _ => rfl
  | .n 0, _ => rfl
  | .n (_ + 1), h => by cases h
  | .al, h => by cases h
theorem Lv.frz_frz (l : Lv) : l.frz.frz = l.frz := Lv.frz_of (Lv.frz_own l)
theorem Lv.dn_of : ∀ {l : Lv}, l.own = false → l.dn = l
  | .bo, _ => rfl
  | .n 0, _ => rfl
  | .n (_ + 1), h => by cases h
  | .al, h => by cases h
theorem Lv.frz_cases (l : Lv) : l.frz = .bo ∨ l.frz = .n 0 := Lv.not_own (Lv.frz_own l)
section
variable {K : PySem.W.Frag} {ca : CA} {bad bad' : Bad} {H H' H0 : Hp}
/-- a result: v, level l, in H', of new objects A -/
structure Res (K : PySem.W.Frag) (ca : CA) (bad : Bad) (H : Hp) (d : D) (l : Lv) (v : V) (H' : Hp) (A : List Addr) : Prop where
  same : Same H H'
  rep : Rep K ca (fun a => bad a ∨ a ∈ A) H' l v d A
  nd : A.Nodup
  fr : ∀ a ∈ A, H a = none
/-- what is bad is there -/
def Ex' (bad : Bad) (H : Hp) : Prop := ∀ a, bad a → H a ≠ none
theorem Ex'.more {A : List Addr} (h : Ex' bad H) (s : Same H H') (t : ∀ a ∈ A, H' a ≠ none) : Ex' (fun a => bad a ∨ a ∈ A) H' := fun a q => by
  rcases q with q | q
  · cases e : H a with
    | none => exact absurd e (h a q)
    | some o => rw [s a o e]; exact fun z => nomatch z
  · exact t a q
theorem keep_same (s : Same H H') : Keep bad H bad H' := fun a o h n => ⟨s a o h, n⟩
theorem keep_more {A : List Addr} (s : Same H H') (f : ∀ a ∈ A, H a = none) : Keep bad H (fun a => bad a ∨ a ∈ A) H' := fun a o h n => ⟨s a o h, fun q => q.elim n fun m => by rw [f a m] at h; cases h⟩
theorem same_trans {H1 H2 H3 : Hp} (x : Same H1 H2) (y : Same H2 H3) : Same H1 H3 := fun a o h => y a o (x a o h)
theorem same_upd {p : Addr} {u : HO} (h : H p = none) : Same H (upd H p u) := fun a o e => by
  rw [upd_ne (fun z => by rw [z, h] at e; cases e)]
  exact e
mutual
theorem Rep.borrow : ∀ {l : Lv} {v : V} {d : D} {A : List Addr}, Rep K ca bad H l v d A → Rep K ca bad' H .bo v d []
  | _, _, _, _, .non _ => .non _
  | _, _, _, _, .bl _ b => .bl _ b
  | _, _, _, _, .int _ i => .int _ i
  | _, _, _, _, .str _ x => .str _ x
  | _, _, _, _, .sh ho h r => .sh rfl (by
      rcases h with ⟨h, _⟩ | h
      · exact .inl ⟨h, fun z => nomatch z⟩
      · exact .inr h) (Reps.borrow r)
  | _, _, _, _, .ow ho h k r => .sh rfl (.inl ⟨k.at h, fun z => nomatch z⟩) (Reps.borrow r)
theorem Reps.borrow : ∀ {l : Lv} {vs : List V} {ds : List D} {A : List Addr}, Reps K ca bad H l vs ds A → Reps K ca bad' H .bo vs ds []
  | _, _, _, _, .nil => .nil
  | _, _, _, _, .cons h r => .cons (A := []) (B := []) (Rep.borrow h) (Reps.borrow r)
end
mutual
theorem Rep.alone : ∀ {v : V} {d : D} {A : List Addr}, Rep K ca bad H .al v d A → Rep K ca bad' H .al v d A
  | _, _, _, .non _ => .non _
  | _, _, _, .bl _ b => .bl _ b
  | _, _, _, .int _ i => .int _ i
  | _, _, _, .str _ x => .str _ x
  | _, _, _, .sh ho _ _ => by cases ho
  | _, _, _, .ow ho h k r => .ow ho h k (Reps.alone r)
theorem Reps.alone : ∀ {vs : List V} {ds : List D} {A : List Addr}, Reps K ca bad H .al vs ds A → Reps K ca bad' H .al vs ds A
  | _, _, _, .nil => .nil
  | _, _, _, .cons h r => .cons (Rep.alone h) (Reps.alone r)
end
theorem Rep.sc : ∀ {l : Lv} {v : V} {d : D} {A : List Addr}, Rep K ca bad H l v d A → d.sc = true → A = [] ∧ d.v = some v
  | _, _, _, _, .non _, _ => ⟨rfl, rfl⟩
  | _, _, _, _, .bl _ _, _ => ⟨rfl, rfl⟩
  | _, _, _, _, .int _ _, _ => ⟨rfl, rfl⟩
  | _, _, _, _, .str _ _, _ => ⟨rfl, rfl⟩
  | _, _, _, _, .sh _ _ _, h => by cases h
  | _, _, _, _, .ow _ _ _ _, h => by cases h
theorem Rep.of_v : ∀ {l : Lv} {v : V} {d : D}, d.v = some v → Rep K ca bad H l v d []
  | _, _, .non, h => by cases h; exact .non _
  | _, _, .bl b, h => by cases h; exact .bl _ b
  | _, _, .int i, h => by cases h; exact .int _ i
  | _, _, .str x, h => by cases h; exact .str _ x
  | _, _, .nd _ _, h => by cases h
theorem Rep.scal {l l' : Lv} {v : V} {d : D} {A : List Addr} (h : Rep K ca bad H l v d A) (e : d.sc = true) : Rep K ca bad' H' l' v d [] := Rep.of_v (h.sc e).2
theorem Reps.flat : ∀ {l : Lv} {vs : List V} {ds : List D} {A : List Addr}, Reps K ca bad H l vs ds A → flat ds = true → ∀ {bad' : Bad} {H' : Hp} {l' : Lv}, Reps K ca bad' H' l' vs ds []
  | _, _, _, _, .nil, _, _, _, _ => .nil
  | _, _, _, _, .cons h r, e, _, _, _ => by
    unfold M.flat at e
    rw [List.all_cons, Bool.and_eq_true] at e
    exact .cons (A := []) (B := []) (h.scal e.1) (r.flat e.2)
theorem Reps.length : ∀ {l : Lv} {vs : List V} {ds : List D} {A : List Addr}, Reps K ca bad H l vs ds A → vs.length = ds.length
  | _, _, _, _, .nil => rfl
  | _, _, _, _, .cons _ r => congrArg (· + 1) r.length
theorem nil_app {α : Type} {A B : List α} (h : A ++ B = []) : A = [] ∧ B = [] := List.append_eq_nil_iff.mp h
theorem Reps.uncons {l : Lv} {v : V} {vs : List V} {d : D} {ds : List D} (h : Reps K ca bad H l (v :: vs) (d :: ds) []) : Rep K ca bad H l v d [] ∧ Reps K ca bad H l vs ds [] := by
  generalize e : ([] : List Addr) = A at h
  cases h with
  | cons h r =>
    obtain ⟨e1, e2⟩ := nil_app e.symm
    subst e1
    subst e2
    exact ⟨h, r⟩
theorem Reps.get : ∀ {l : Lv} {vs : List V} {ds : List D} {i : Nat} {d : D}, Reps K ca bad H l vs ds [] → ds[i]? = some d → ∃ v, vs[i]? = some v ∧ Rep K ca bad H l v d []
  | _, [], [], _, _, _, e => by simp at e
  | _, v :: vs, d :: ds, 0, _, h, e => by
    rw [List.getElem?_cons_zero] at e
    cases e
    exact ⟨v, rfl, h.uncons.1⟩
  | _, v :: vs, d :: ds, i + 1, _, h, e => Reps.get (i := i) h.uncons.2 (by rwa [List.getElem?_cons_succ] at e)
  | _, [], _ :: _, _, _, h, _ => by cases h.length
  | _, _ :: _, [], _, _, h, _ => by cases h.length
theorem Reps.append : ∀ {l : Lv} {vs ws : List V} {ds es : List D}, Reps K ca bad H l vs ds [] → Reps K ca bad H l ws es [] → Reps K ca bad H l (vs ++ ws) (ds ++ es) []
  | _, [], _, [], _, _, s => s
  | _, _ :: _, _, _ :: _, _, h, s => .cons (A := []) (B := []) h.uncons.1 (Reps.append h.uncons.2 s)
  | _, [], _, _ :: _, _, h, _ => by cases h.length
  | _, _ :: _, _, [], _, h, _ => by cases h.length
theorem Reps.take : ∀ {l : Lv} {vs : List V} {ds : List D} (n : Nat), Reps K ca bad H l vs ds [] → Reps K ca bad H l (vs.take n) (ds.take n) []
  | _, _, _, 0, _ => .nil
  | _, [], [], _ + 1, _ => .nil
  | _, _ :: _, _ :: _, n + 1, h => .cons (A := []) (B := []) h.uncons.1 (Reps.take n h.uncons.2)
  | _, [], _ :: _, _, h => by cases h.length
  | _, _ :: _, [], _, h => by cases h.length
theorem Reps.drop : ∀ {l : Lv} {vs : List V} {ds : List D} (n : Nat), Reps K ca bad H l vs ds [] → Reps K ca bad H l (vs.drop n) (ds.drop n) []
  | _, _, _, 0, h => h
  | _, [], [], _ + 1, _ => .nil
  | _, _ :: _, _ :: _, n + 1, h => Reps.drop n h.uncons.2
  | _, [], _ :: _, _, h => by cases h.length
  | _, _ :: _, [], _, h => by cases h.length
theorem Reps.rev : ∀ {l : Lv} {vs : List V} {ds : List D}, Reps K ca bad H l vs ds [] → Reps K ca bad H l vs.reverse ds.reverse []
  | _, [], [], _ => .nil
  | _, v :: vs, d :: ds, h => by
    rw [List.reverse_cons, List.reverse_cons]
    exact (Reps.rev h.uncons.2).append (.cons (A := []) (B := []) h.uncons.1 .nil)
  | _, [], _ :: _, h => by cases h.length
  | _, _ :: _, [], h => by cases h.length
theorem Reps.rep {l : Lv} {vs : List V} {ds : List D} (h : Reps K ca bad H l vs ds []) : ∀ n : Nat, Reps K ca bad H l (List.replicate n vs).flatten (List.replicate n ds).flatten []
  | 0 => .nil
  | n + 1 => by
    rw [List.replicate_succ, List.replicate_succ, List.flatten_cons, List.flatten_cons]
    exact h.append (Reps.rep h n)
/-- nodes that are not owned -/
theorem Rep.nodeL {l : Lv} {v : V} {d : D} {ds : List D} (h : Rep K ca bad H l v d []) (e : d.asL = some ds) : ∃ a vs, v = .ref a ∧ SqL K H a vs ∧ Reps K ca bad H l vs ds [] := by
  cases h with
  | sh ho h r =>
    rename_i a k vs es
    cases k with
    | lst =>
      cases e
      rcases h with ⟨h, _⟩ | h
      · exact ⟨a, vs, rfl, .inl (.inl h), r⟩
      · exact (show False from h).elim
    | lk =>
      cases e
      rcases h with ⟨h, _⟩ | h
      · exact ⟨a, vs, rfl, .inl h, r⟩
      · exact ⟨a, vs, rfl, .inr h, r⟩
    | tup => cases e
    | tk => cases e
    | dic _ => cases e
    | dit _ => cases e
    | ins _ _ => cases e
  | _ => cases e
theorem Rep.nodeT {l : Lv} {v : V} {d : D} {ds : List D} (h : Rep K ca bad H l v d []) (e : d.asT = some ds) : ∃ a vs, v = .ref a ∧ SqT K H a vs ∧ Reps K ca bad H l vs ds [] := by
  cases h with
  | sh ho h r =>
    rename_i a k vs es
    cases k with
    | tup =>
      cases e
      rcases h with ⟨h, _⟩ | h
      · exact ⟨a, vs, rfl, .inl (.inl h), r⟩
      · exact (show False from h).elim
    | tk =>
      cases e
      rcases h with ⟨h, _⟩ | h
      · exact ⟨a, vs, rfl, .inl h, r⟩
      · exact ⟨a, vs, rfl, .inr h, r⟩
    | lst => cases e
    | lk => cases e
    | dic _ => cases e
    | dit _ => cases e
    | ins _ _ => cases e
  | _ => cases e
theorem Rep.nodeQ {l : Lv} {v : V} {d : D} {ds : List D} (h : Rep K ca bad H l v d []) (e : d.asQ = some ds) : ∃ a vs, v = .ref a ∧ (SqL K H a vs ∨ SqT K H a vs) ∧ Reps K ca bad H l vs ds [] := by
  cases d with
  | nd k es =>
    cases k with
    | lst => obtain ⟨a, vs, e1, e2, e3⟩ := h.nodeL (ds := ds) e; exact ⟨a, vs, e1, .inl e2, e3⟩
    | lk => obtain ⟨a, vs, e1, e2, e3⟩ := h.nodeL (ds := ds) e; exact ⟨a, vs, e1, .inl e2, e3⟩
    | tup => obtain ⟨a, vs, e1, e2, e3⟩ := h.nodeT (ds := ds) e; exact ⟨a, vs, e1, .inr e2, e3⟩
    | tk => obtain ⟨a, vs, e1, e2, e3⟩ := h.nodeT (ds := ds) e; exact ⟨a, vs, e1, .inr e2, e3⟩
    | dic _ => cases e
    | dit _ => cases e
    | ins _ _ => cases e
  | _ => cases e
theorem Rep.nodeX {l : Lv} {v : V} {ds : List D} (h : Rep K ca bad H l v (.nd .lst ds) []) : ∃ a vs, v = .ref a ∧ H a = some (.lst vs) ∧ Reps K ca bad H l vs ds [] := by
  cases h with
  | sh ho h r =>
    rename_i a vs
    rcases h with ⟨h, _⟩ | h
    · exact ⟨a, vs, rfl, h, r⟩
    · exact (show False from h).elim
theorem Rep.int' {l : Lv} {v : V} {i : Int} {A : List Addr} (h : Rep K ca bad H l v (.int i) A) : v = .int i := by cases h; rfl
theorem Rep.bl' {l : Lv} {v : V} {i : Bool} {A : List Addr} (h : Rep K ca bad H l v (.bl i) A) : v = .bl i := by cases h; rfl
theorem Rep.str' {l : Lv} {v : V} {i : Str} {A : List Addr} (h : Rep K ca bad H l v (.str i) A) : v = .str i := by cases h; rfl
/-- results -/
theorem Res.of_v {d : D} {v : V} (l : Lv) (e : d.v = some v) : Res K ca bad H d l v H [] := ⟨Same.refl H, Rep.of_v e, .nil, fun _ h => nomatch h⟩
theorem Res.at {d : D} {v : V} {l : Lv} (h : Rep K ca bad H l v d []) : Res K ca bad H d (nl d l) v H [] := by
  refine ⟨Same.refl H, ?_, .nil, fun _ h => nomatch h⟩
  unfold nl
  split
  · rename_i e; exact h.scal e
  · exact h.keep (fun _ => fun a o e n => ⟨e, fun q => q.elim n fun z => nomatch z⟩) (fun _ => Same.refl H) fun _ h => nomatch h
theorem Res.at' {d : D} {v : V} {l : Lv} (h : Rep K ca bad H l v d []) : Res K ca bad H d l v H [] :=
  ⟨Same.refl H, h.keep (fun _ => fun a o e n => ⟨e, fun q => q.elim n fun z => nomatch z⟩) (fun _ => Same.refl H) (fun _ h => nomatch h), .nil, fun _ h => nomatch h⟩
theorem upd_at {p : Addr} {u : HO} : upd H p u p = some u := upd_same
/-- a new node above frozen ones -/
theorem Res.copy {k : Kd} {u : HO} {vs : List V} {ds : List D} {l : Lv} {p : Addr} (hb : Ex' bad H) (r : Reps K ca bad H l.frz vs ds []) (hp : H p = none) (hk : KdR ca k u vs) :
    ∃ A, Res K ca bad H (.nd k ds) (cp l ds) (.ref p) (upd H p u) A := by
  have s := same_upd (u := u) hp
  unfold cp
  split
  · rename_i e
    exact ⟨[p], s, .ow rfl upd_at hk (r.flat e), by simp, fun a h => (by rw [List.mem_singleton.mp h]; exact hp)⟩
  · rcases Lv.frz_cases l with e | e
    · rw [e] at r ⊢
      exact ⟨[], s, .sh rfl (.inl ⟨hk.at upd_at, fun z => nomatch z⟩) (r.keep (fun z => absurd rfl z) (fun _ => s) (fun _ h => nomatch h)), .nil, fun _ h => nomatch h⟩
    · rw [e] at r ⊢
      exact ⟨[p], s, .ow rfl upd_at hk (r.keep (fun _ => keep_more s fun a h => by rw [List.mem_singleton.mp h]; exact hp) (fun z => nomatch z) (fun _ h => nomatch h)), by simp, fun a h => by rw [List.mem_singleton.mp h]; exact hp⟩
/-- a new node that is shared at once -/
theorem Res.copyS {k : Kd} {u : HO} {vs : List V} {ds : List D} {l : Lv} {p : Addr} (hb : Ex' bad H) (r : Reps K ca bad H l.frz vs ds []) (hp : H p = none) (hk : KdR ca k u vs) :
    Res K ca bad H (.nd k ds) l.frz (.ref p) (upd H p u) [] := by
  have s := same_upd (u := u) hp
  refine ⟨s, .sh (Lv.frz_own l) (.inl ⟨hk.at upd_at, fun _ q => ?_⟩) (r.keep (fun _ => fun a o e n => ⟨s a o e, fun q => q.elim n fun z => nomatch z⟩) (fun _ => s) (fun _ h => nomatch h)), .nil, fun _ h => nomatch h⟩
  rcases q with q | q
  · exact hb p q hp
  · cases q
/-- a result is frozen -/
theorem Res.frz {d : D} {l : Lv} {v : V} {A : List Addr} (hb : Ex' bad H) (h : Res K ca bad H d l v H' A) : Rep K ca bad H' l.frz v d [] := by
  obtain ⟨A', s, f⟩ := h.rep.low Lv.frz_le h.nd
  have e0 : A' = [] := Rep.bare (f (fun _ => False) (fun _ q => q.elim)) (Lv.frz_own l)
  subst e0
  exact f bad fun a q => ⟨.inl q, fun m => absurd (h.fr a m) (hb a q)⟩
theorem Rep.keep0 {d : D} {l : Lv} {v : V} (h : Rep K ca bad H l v d []) (s : Same H H') : Rep K ca bad H' l v d [] := h.keep (fun _ => keep_same s) (fun _ => s) fun _ z => nomatch z
theorem Reps.keep0 {ds : List D} {l : Lv} {vs : List V} (h : Reps K ca bad H l vs ds []) (s : Same H H') : Reps K ca bad H' l vs ds [] := h.keep (fun _ => keep_same s) (fun _ => s) fun _ z => nomatch z
theorem Lv.frz_min (l m : Lv) : (l.min m).frz = l.frz.min m.frz := by
  cases l <;> cases m <;> simp only [Lv.frz, Lv.min] <;> (try rfl) <;> (congr 1; simp [Nat.min_def])
/-- to a lower level, where nothing is owned -/
theorem Rep.low0 {d : D} {l l' : Lv} {v : V} (h : Rep K ca bad H l v d []) (e : l'.le l) : Rep K ca bad H l' v d [] := by
  obtain ⟨A', s, f⟩ := h.low e .nil
  have := List.sublist_nil.mp s
  subst this
  exact f bad fun a q => ⟨q, fun m => nomatch m⟩
theorem Reps.low0 {ds : List D} {l l' : Lv} {vs : List V} (h : Reps K ca bad H l vs ds []) (e : l'.le l) : Reps K ca bad H l' vs ds [] := by
  obtain ⟨A', s, f⟩ := h.low e .nil
  have := List.sublist_nil.mp s
  subst this
  exact f bad fun a q => ⟨q, fun m => nomatch m⟩
end
end M

/-! MiniS: operators on data trees are right. -/
namespace M
open PySem PySem.Spec PyProof.Rows L2
section
variable {K : PySem.W.Frag} {ca : CA} {bad bad' : Bad} {H H' H0 : Hp}
theorem fdiv_w {i j : Int} (h : CDivW i j) : i / j = i.fdiv j := (Int.fdiv_eq_ediv_of_nonneg i (Int.le_of_lt h.1)).symm
theorem opB_ne {o : BO} {x y : DL} {C : Str} {z : V} : opB o x y ≠ .err C z := by
  intro h
  unfold opB at h
  split at h <;> first | cases h | (have := (gd_err h).2; cases this)
theorem opB_ok {o : BO} {x y r : DL} {v w : V} (hb : Ex' bad H) (hx : Rep K ca bad H x.2.frz v x.1 []) (hy : Rep K ca bad H y.2.frz w y.1 []) (h : opB o x y = .ok r) {Q : VK}
    (q : ∀ z H' A', Res K ca bad H r.1 r.2 z H' A' → Q z H') : rBin K o v w H Q := by
  unfold opB at h
  split at h
  · cases h
    exact .inl ⟨_, _, hx.int', hy.int', q _ _ [] (.of_v _ rfl)⟩
  · obtain ⟨c, e⟩ := gd_ok h
    cases e
    exact .inr (.inl ⟨_, _, hx.str', hy.str', c, q _ _ [] (.of_v _ rfl)⟩)
  · obtain ⟨c, e⟩ := gd_ok h
    cases e
    rename_i _ l _ m
    obtain ⟨a, vs, e1, h1, r1⟩ := hx.nodeX
    obtain ⟨b, ws, e2, h2, r2⟩ := hy.nodeX
    refine .inr (.inr (.inl ⟨a, b, vs, ws, e1, e2, h1, h2, by rw [r1.length, r2.length]; exact c, fun p hp => ?_⟩))
    dsimp only at r1 r2 q
    have r3 := (r1.low0 (l' := (Lv.min l m).frz) (by rw [Lv.frz_min]; exact Lv.min_le_left)).append (r2.low0 (l' := (Lv.min l m).frz) (by rw [Lv.frz_min]; exact Lv.min_le_right))
    obtain ⟨A, hr⟩ := Res.copy (k := .lst) hb r3 hp rfl
    exact q _ _ A hr
  · obtain ⟨c, e⟩ := gd_ok h
    cases e
    rename_i _ l _ m
    obtain ⟨a, vs, e1, h1, r1⟩ := hx.nodeT rfl
    obtain ⟨b, ws, e2, h2, r2⟩ := hy.nodeT rfl
    dsimp only at r1 r2 q
    have r3 := (r1.low0 (l' := (Lv.min l m).frz) (by rw [Lv.frz_min]; exact Lv.min_le_left)).append (r2.low0 (l' := (Lv.min l m).frz) (by rw [Lv.frz_min]; exact Lv.min_le_right))
    refine .inr (.inr (.inr ⟨a, b, vs, ws, e1, e2, h1, h2, fun z => ?_, by rw [r1.length, r2.length]; exact c.2, fun z => ?_, fun z p hp => ?_⟩))
    · subst z
      exact c.1 (List.length_eq_zero_iff.mp r1.length.symm)
    · subst z
      have e0 := List.length_eq_zero_iff.mp r2.length.symm
      subst e0
      have hx' := hx.low0 (l' := (Lv.min l m).frz) (by rw [Lv.frz_min]; exact Lv.min_le_left)
      rw [e1] at hx'
      rw [List.append_nil] at q
      exact q _ _ [] (.at' hx')
    · exact q _ _ [] (Res.copyS (k := .tup) hb r3 hp rfl)
  · cases h
    exact ⟨_, _, hx.int', hy.int', q _ _ [] (.of_v _ rfl)⟩
  · obtain ⟨c, e⟩ := gd_ok h
    cases e
    rcases c with c | c
    · exact .inl ⟨_, _, hx.int', hy.int', c, q _ _ [] (.of_v _ rfl)⟩
    · exact .inr (.inl ⟨_, _, hx.int', hy.int', c, q _ _ [] (.of_v _ rfl)⟩)
  · obtain ⟨⟨c1, c2, c3⟩, e⟩ := gd_ok h
    cases e
    obtain ⟨a, vs, e1, h1, r1⟩ := hx.nodeX
    refine .inr (.inr ⟨a, _, vs, e1, hy.int', h1, c1, c2, by rw [r1.length]; exact c3, fun p hp => ?_⟩)
    obtain ⟨A, hr⟩ := Res.copy (k := .lst) hb (Reps.rep r1 _) hp rfl
    exact q _ _ A hr
  · obtain ⟨c, e⟩ := gd_ok h
    cases e
    rcases c with c | c
    · exact .inl ⟨_, _, hx.int', hy.int', c, q _ _ [] (.of_v _ rfl)⟩
    · refine .inr ⟨_, _, hx.int', hy.int', c, ?_⟩
      show Q (V.int (_ / _)) H
      rw [fdiv_w c]
      exact q _ _ [] (.of_v _ rfl)
  · obtain ⟨c, e⟩ := gd_ok h
    cases e
    exact ⟨_, _, hx.int', hy.int', c, q _ _ [] (.of_v _ rfl)⟩
  · obtain ⟨c, e⟩ := gd_ok h
    cases e
    exact ⟨_, _, hx.int', hy.int', c, q _ _ [] (.of_v _ rfl)⟩
  · cases h
mutual
theorem Rep.dp : ∀ {l : Lv} {v : V} {d : D} {A : List Addr}, Rep K ca bad H l v d A → d.okE = true → Dp K H v d.py
  | _, _, _, _, .non _, _ => .non
  | _, _, _, _, .bl _ b, _ => .bl b
  | _, _, _, _, .int _ i, _ => .int i
  | _, _, _, _, .str _ x, _ => .str x
  | _, _, _, _, .sh (k := k) ho h r, e => by
    cases k with
    | lst =>
      simp only [D.okE] at e
      simp only [D.py]
      rcases h with ⟨h, _⟩ | h
      · exact .lst (.inl (.inl h)) (Reps.dps r e)
      · exact (show False from h).elim
    | lk =>
      simp only [D.okE] at e
      simp only [D.py]
      rcases h with ⟨h, _⟩ | h
      · exact .lst (.inl h) (Reps.dps r e)
      · exact .lst (.inr h) (Reps.dps r e)
    | tup =>
      simp only [D.okE] at e
      simp only [D.py]
      rcases h with ⟨h, _⟩ | h
      · exact .tup (.inl (.inl h)) (Reps.dps r e)
      · exact (show False from h).elim
    | tk =>
      simp only [D.okE] at e
      simp only [D.py]
      rcases h with ⟨h, _⟩ | h
      · exact .tup (.inl h) (Reps.dps r e)
      · exact .tup (.inr h) (Reps.dps r e)
    | dic _ => simp only [D.okE] at e; cases e
    | dit _ => simp only [D.okE] at e; cases e
    | ins _ _ => simp only [D.okE] at e; cases e
  | _, _, _, _, .ow (k := k) ho h c r, e => by
    cases k with
    | lst =>
      simp only [D.okE] at e
      simp only [D.py]
      exact .lst (.inl (.inl (by rw [h, show _ = _ from c]))) (Reps.dps r e)
    | lk => exact (show False from c).elim
    | tup =>
      simp only [D.okE] at e
      simp only [D.py]
      exact .tup (.inl (.inl (by rw [h, show _ = _ from c]))) (Reps.dps r e)
    | tk => exact (show False from c).elim
    | dic _ => simp only [D.okE] at e; cases e
    | dit _ => simp only [D.okE] at e; cases e
    | ins _ _ => simp only [D.okE] at e; cases e
theorem Reps.dps : ∀ {l : Lv} {vs : List V} {ds : List D} {A : List Addr}, Reps K ca bad H l vs ds A → D.okEs ds = true → DpAll K H vs (D.pys ds)
  | _, _, _, _, .nil, _ => by simp only [D.pys]; exact .nil
  | _, _, _, _, .cons h r, e => by
    simp only [D.okEs, Bool.and_eq_true] at e
    simp only [D.pys]
    exact .cons (Rep.dp h e.1) (Reps.dps r e.2)
end
mutual
theorem lay_py : ∀ {d : D}, d.okE = true → d.py.canLay0 = true ∧ d.py.hasDict = false
  | .non, _ => ⟨rfl, rfl⟩
  | .bl _, _ => ⟨rfl, rfl⟩
  | .int _, _ => ⟨rfl, rfl⟩
  | .str _, e => by simp only [D.okE] at e; exact ⟨e, rfl⟩
  | .nd .lst ds, e => by simp only [D.okE] at e; simp only [D.py, PyData.canLay0, PyData.hasDict]; exact lay_pys e
  | .nd .lk ds, e => by simp only [D.okE] at e; simp only [D.py, PyData.canLay0, PyData.hasDict]; exact lay_pys e
  | .nd .tup ds, e => by simp only [D.okE] at e; simp only [D.py, PyData.canLay0, PyData.hasDict]; exact lay_pys e
  | .nd .tk ds, e => by simp only [D.okE] at e; simp only [D.py, PyData.canLay0, PyData.hasDict]; exact lay_pys e
  | .nd (.dic _) _, e => by simp only [D.okE] at e; cases e
  | .nd (.dit _) _, e => by simp only [D.okE] at e; cases e
  | .nd (.ins _ _) _, e => by simp only [D.okE] at e; cases e
theorem lay_pys : ∀ {ds : List D}, D.okEs ds = true → PyData.canLayAll0 (D.pys ds) = true ∧ PyData.hasDictAll (D.pys ds) = false
  | [], _ => by simp only [D.pys]; exact ⟨rfl, rfl⟩
  | d :: r, e => by
    simp only [D.okEs, Bool.and_eq_true] at e
    simp only [D.pys, PyData.canLayAll0, PyData.hasDictAll, (lay_py e.1).1, (lay_py e.1).2, (lay_pys e.2).1, (lay_pys e.2).2]
    exact ⟨rfl, rfl⟩
end
theorem shaped_py {d : D} (h : d.okE = true) (h2 : d.py.depth ≤ 64) : SeqAt.shaped d.py = true := by
  unfold SeqAt.shaped
  rw [(lay_py h).1, Bool.true_and]
  exact decide_eq_true h2
theorem Rep.vv {l : Lv} {v : V} {d : D} {A : List Addr} (h : Rep K ca bad H l v d A) (e : d.sc = true) : v = d.vv ∧ flatV v = true := by
  cases h with
  | sh _ _ _ => cases e
  | ow _ _ _ _ => cases e
  | _ => exact ⟨rfl, rfl⟩
theorem Reps.vvs : ∀ {l : Lv} {vs : List V} {ds : List D} {A : List Addr}, Reps K ca bad H l vs ds A → M.flat ds = true → vs = ds.map D.vv ∧ vs.all flatV = true
  | _, _, _, _, .nil, _ => ⟨rfl, rfl⟩
  | _, _, _, _, .cons h r, e => by
    unfold M.flat at e
    rw [List.all_cons, Bool.and_eq_true] at e
    obtain ⟨e1, e2⟩ := r.vvs e.2
    obtain ⟨e3, e4⟩ := h.vv e.1
    refine ⟨by rw [List.map_cons, ← e1, ← e3], ?_⟩
    rw [List.all_cons, e4, e2]
    rfl
theorem look_ok {κ : Type} [DecidableEq κ] {l : Lv} : ∀ {ks : List κ} {vs : List V} {ds : List D} {x : κ}, Reps K ca bad H l vs ds [] → ks.length = vs.length →
    (lookD ks ds x = none → valV (ks.zip vs) x = none) ∧ ∀ d, lookD ks ds x = some d → ∃ v, valV (ks.zip vs) x = some v ∧ Rep K ca bad H l v d []
  | [], vs, ds, x, r, _ => by
    unfold lookD
    exact ⟨fun _ => rfl, fun d h => by cases h⟩
  | k :: ks, [], ds, x, r, hl => by cases hl
  | k :: ks, v :: vs, [], x, r, hl => by cases r.length
  | k :: ks, v :: vs, d :: ds, x, r, hl => by
    unfold lookD
    rw [List.zip_cons_cons]
    by_cases e : k = x
    · rw [if_pos e, valV_pos (p := (k, v)) e]
      exact ⟨(fun z => by cases z), (fun d' z => by cases z; exact ⟨v, rfl, r.uncons.1⟩)⟩
    · rw [if_neg e, valV_neg (p := (k, v)) e]
      exact look_ok r.uncons.2 (Nat.succ.inj hl)
theorem key_ok {l : Lv} {v : V} {d : D} {k : Key} {A : List Addr} (h : Rep K ca bad H l v d A) (e : d.key = some k) : v = kV k := by
  cases h with
  | int _ i => cases e; rfl
  | str _ x => cases e; rfl
  | _ => cases e
theorem keys_ok : ∀ {l : Lv} {vs : List V} {ds : List D} {ks : List Key} {A : List Addr}, Reps K ca bad H l vs ds A → keysD ds = some ks → vs = ks.map kV
  | _, _, _, _, _, .nil, e => by simp only [keysD, Option.some.injEq] at e; subst e; rfl
  | _, _, _, _, _, .cons (d := d) (ds := ds) h r, e => by
    simp only [keysD] at e
    cases h1 : d.key with
    | none => rw [h1] at e; cases e
    | some k =>
      cases h2 : keysD ds with
      | none => rw [h1, h2] at e; cases e
      | some ks =>
        rw [h1, h2] at e
        cases e
        rw [List.map_cons, ← key_ok h h1, ← keys_ok r h2]
theorem dget_ok {l m : Lv} {v w : V} {d e : D} {o : Option D} (hx : Rep K ca bad H l v d []) (hl : l.own = false) (hy : Rep K ca bad H m w e []) (hm : m.own = false) (h : dgetD d e = some o) :
    ∃ a ov, v = .ref a ∧ DGet H a w ov ∧ (o = none → ov = none) ∧ ∀ x, o = some x → ∃ u, ov = some u ∧ Rep K ca bad H l u x [] := by
  unfold dgetD at h
  split at h
  · rename_i ks ds
    cases hk : e.key with
    | none => rw [hk] at h; cases h
    | some k =>
      rw [hk] at h
      cases h
      cases hx with
      | sh _ h r =>
        rename_i a vs _
        rcases h with ⟨h, _⟩ | h
        · have hz := look_ok (x := k) r h.2
          refine ⟨a, valV (ks.zip vs) k, rfl, .inl ⟨_, k, h.1, key_ok hy hk, rfl⟩, hz.1, hz.2⟩
        · exact (show False from h).elim
  · rename_i ks ds es
    cases hk : keysD es with
    | none => rw [hk] at h; cases h
    | some k =>
      rw [hk] at h
      cases h
      cases hx with
      | sh _ h r =>
        rename_i a vs _
        cases hy with
        | sh _ h' r' =>
          rename_i b ws _
          rcases h with ⟨h, _⟩ | h
          · rcases h' with ⟨h', _⟩ | h'
            · have hz := look_ok (x := k) r h.2
              refine ⟨a, valV (ks.zip vs) k, rfl, .inr ⟨_, k, b, h.1, rfl, ?_, rfl⟩, hz.1, hz.2⟩
              rw [← keys_ok r' hk]
              exact h'
            · exact (show False from h').elim
          · exact (show False from h).elim
  · cases h
theorem asQ_dic {d : D} {ds : List D} (h : d.asQ = some ds) : d.isDic = false := by
  cases d with
  | nd k es => cases k <;> first | rfl | cases h
  | _ => rfl
theorem dget_dic {d e : D} {o : Option D} (h : dgetD d e = some o) : d.isDic = true := by
  unfold dgetD at h
  split at h
  · rfl
  · rfl
  · cases h
/-- comparing -/
theorem opC_ne {o : CO} {x y : D} {C : Str} {z : V} : opC o x y ≠ .err C z := by
  intro h
  unfold opC at h
  split at h <;> first
    | cases h
    | (have := (gd_err h).2; cases this; done)
    | (split at h <;> first
      | (have := (gd_err h).2; cases this; done)
      | (cases h; done)
      | (split at h <;> cases h))
theorem opC_ok {o : CO} {x y r : D} {l m : Lv} {v w : V} (hx : Rep K ca bad H l v x []) (hl : l.own = false) (hy : Rep K ca bad H m w y []) (hm : m.own = false) (h : opC o x y = .ok r) :
    ∃ b, r = .bl b ∧ ((o ≠ .isin → o ≠ .notin → ∀ Q : VK, Q (.bl b) H → rCmp K o v w H Q) ∧
      (o = .isin → (y.isDic = false ∧ ∀ Q : VK, Q (.bl b) H → rCmp K .isin v w H Q) ∨ y.isDic = true ∧ ∃ a ov, w = .ref a ∧ DGet H a v ov ∧ b = ov.isSome) ∧
      (o = .notin → (y.isDic = false ∧ ∀ Q : VK, Q (.bl b) H → rCmp K .notin v w H Q) ∨ y.isDic = true ∧ ∃ a ov, w = .ref a ∧ DGet H a v ov ∧ b = !ov.isSome)) := by
  unfold opC at h
  split at h
  · split at h
    · rename_i c
      simp only [Bool.and_eq_true] at c
      cases h
      refine ⟨_, rfl, fun _ _ Q q => .inl ⟨?_, ?_⟩, (fun z => nomatch z), fun z => nomatch z⟩
      · rw [(hx.vv c.1.1).1, (hy.vv c.1.2).1]; exact c.2
      · rw [(hx.vv c.1.1).1, (hy.vv c.1.2).1]; exact q
    · obtain ⟨c, e⟩ := gd_ok h
      cases e
      exact ⟨_, rfl, fun _ _ Q q => .inr ⟨_, _, hx.dp c.1, hy.dp c.2.1, shaped_py c.1 c.2.2.1, shaped_py c.2.1 c.2.2.2, q⟩, (fun z => nomatch z), fun z => nomatch z⟩
  · split at h
    · rename_i c
      simp only [Bool.and_eq_true] at c
      cases h
      refine ⟨_, rfl, fun _ _ Q q => .inl ⟨?_, ?_⟩, (fun z => nomatch z), fun z => nomatch z⟩
      · rw [(hx.vv c.1.1).1, (hy.vv c.1.2).1]; exact c.2
      · rw [(hx.vv c.1.1).1, (hy.vv c.1.2).1]; exact q
    · obtain ⟨c, e⟩ := gd_ok h
      cases e
      exact ⟨_, rfl, fun _ _ Q q => .inr ⟨_, _, hx.dp c.1, hy.dp c.2.1, shaped_py c.1 c.2.2.1, shaped_py c.2.1 c.2.2.2, q⟩, (fun z => nomatch z), fun z => nomatch z⟩
  · cases h
    exact ⟨_, rfl, fun _ _ Q q => ⟨_, _, hx.int', hy.int', q⟩, (fun z => nomatch z), fun z => nomatch z⟩
  · cases h
    exact ⟨_, rfl, fun _ _ Q q => ⟨_, _, hx.int', hy.int', q⟩, (fun z => nomatch z), fun z => nomatch z⟩
  · cases h
    exact ⟨_, rfl, fun _ _ Q q => ⟨_, _, hx.int', hy.int', q⟩, (fun z => nomatch z), fun z => nomatch z⟩
  · cases h
    exact ⟨_, rfl, fun _ _ Q q => ⟨_, _, hx.int', hy.int', q⟩, (fun z => nomatch z), fun z => nomatch z⟩
  · cases h
    exact ⟨_, rfl, fun z => absurd rfl z, fun _ => .inl ⟨rfl, fun Q q => .inr ⟨_, _, hx.str', hy.str', q⟩⟩, fun z => nomatch z⟩
  · cases h
    exact ⟨_, rfl, fun _ z => absurd rfl z, (fun z => nomatch z), fun _ => .inl ⟨rfl, fun Q q => .inr ⟨_, _, hx.str', hy.str', q⟩⟩⟩
  · split at h
    · rename_i xs e0
      obtain ⟨c, e⟩ := gd_ok h
      cases e
      obtain ⟨a, vs, e1, e2, e3⟩ := hy.nodeQ e0
      obtain ⟨e4, e5⟩ := e3.vvs c.2
      obtain ⟨e6, e7⟩ := hx.vv c.1
      refine ⟨_, rfl, fun z => absurd rfl z, fun _ => .inl ⟨asQ_dic e0, fun Q q => .inl ⟨a, vs, e1, e2, e7, e5, ?_⟩⟩, fun z => nomatch z⟩
      rw [e4, e6]
      exact q
    · split at h
      · rename_i ov e
        cases h
        obtain ⟨a, ov', e1, e2, e3, e4⟩ := dget_ok hy hm hx hl e
        refine ⟨_, rfl, fun z => absurd rfl z, fun _ => .inr ⟨dget_dic e, a, ov', e1, e2, ?_⟩, fun z => nomatch z⟩
        cases ov with
        | none => rw [e3 rfl]; rfl
        | some x => obtain ⟨u, e5, _⟩ := e4 x rfl; rw [e5]; rfl
      · cases h
  · split at h
    · rename_i xs e0
      obtain ⟨c, e⟩ := gd_ok h
      cases e
      obtain ⟨a, vs, e1, e2, e3⟩ := hy.nodeQ e0
      obtain ⟨e4, e5⟩ := e3.vvs c.2
      obtain ⟨e6, e7⟩ := hx.vv c.1
      refine ⟨_, rfl, fun _ z => absurd rfl z, (fun z => nomatch z), fun _ => .inl ⟨asQ_dic e0, fun Q q => .inl ⟨a, vs, e1, e2, e7, e5, ?_⟩⟩⟩
      rw [e4, e6]
      exact q
    · split at h
      · rename_i ov e
        cases h
        obtain ⟨a, ov', e1, e2, e3, e4⟩ := dget_ok hy hm hx hl e
        refine ⟨_, rfl, fun _ z => absurd rfl z, (fun z => nomatch z), fun _ => .inr ⟨dget_dic e, a, ov', e1, e2, ?_⟩⟩
        cases ov with
        | none => rw [e3 rfl]; rfl
        | some x => obtain ⟨u, e5, _⟩ := e4 x rfl; rw [e5]; rfl
      · cases h
  · cases h
theorem atI_ok {l : Lv} {vs : List V} {ds : List D} {i : Int} {d : D} (r : Reps K ca bad H l vs ds []) (h : atI ds i = some d) : ∃ v, atI vs i = some v ∧ Rep K ca bad H l v d [] := by
  unfold atI at h ⊢
  rw [r.length]
  cases e : ixN ds.length i with
  | none => rw [e] at h; cases h
  | some j =>
    rw [e] at h
    exact r.get h
theorem opI_ne {x : DL} {y : D} {C : Str} {z : V} : opI x y ≠ .err C z := by
  intro h
  unfold opI at h
  split at h
  · split at h
    · have := (gd_err h).2; cases this
    · cases h
  · split at h
    · split at h <;> cases h
    · cases h
    · split at h <;> cases h
theorem opI_ok {x r : DL} {y : D} {v w : V} {m : Lv} (hx : Rep K ca bad H x.2.frz v x.1 []) (hy : Rep K ca bad H m w y []) (hm : m.own = false) (h : opI x y = .ok r) {Q : VK}
    (q : ∀ z H' A', Res K ca bad H r.1 r.2 z H' A' → Q z H') : (x.1.isDic = false ∧ rIx K v w H Q) ∨ x.1.isDic = true ∧ ∃ a u, v = .ref a ∧ DGet H a w (some u) ∧ Q u H := by
  unfold opI at h
  split at h
  · split at h
    · rename_i e
      obtain ⟨c, e1⟩ := gd_ok h
      cases e1
      exact .inl ⟨rfl, .inr (.inr ⟨_, _, _, hx.str', hy.int', c, e, q _ _ [] (.of_v _ rfl)⟩)⟩
    · cases h
  · split at h
    · rename_i ds j e0 _
      split at h
      · rename_i x' e
        cases h
        obtain ⟨a, vs, e1, e2, e3⟩ := hx.nodeQ e0
        obtain ⟨u, e4, e5⟩ := atI_ok e3 e
        have q' := q u H [] (Res.at e5)
        rcases e2 with e2 | e2
        · exact .inl ⟨asQ_dic e0, .inl ⟨a, vs, _, u, e1, hy.int', e2, e4, q'⟩⟩
        · exact .inl ⟨asQ_dic e0, .inr (.inl ⟨a, vs, _, u, e1, hy.int', e2, e4, q'⟩)⟩
      · cases h
    · cases h
    · split at h
      · rename_i x' e
        cases h
        obtain ⟨a, ov, e1, e2, _, e4⟩ := dget_ok hx (Lv.frz_own _) hy hm e
        obtain ⟨u, e5, e6⟩ := e4 _ rfl
        subst e5
        exact .inr ⟨dget_dic e, a, u, e1, e2, q u H [] (Res.at e6)⟩
      · cases h
end
end M

/-! MiniT: built-ins on data trees are right. -/
namespace M
open PySem PySem.Spec PyProof.Rows L2
section
variable {K : PySem.W.Frag} {ca : CA} {bad bad' : Bad} {H H' H0 : Hp}
theorem opS_ne {x : DL} {lo hi : Option Int} {C : Str} {z : V} : opS x lo hi ≠ .err C z := by
  intro h
  unfold opS at h
  dsimp only at h
  split at h
  · cases h
  · split at h
    · have := (gd_err h).2; cases this
    · cases h
theorem opS_ok {x r : DL} {lo hi : Option Int} {v : V} (hb : Ex' bad H) (hx : Rep K ca bad H x.2.frz v x.1 []) (h : opS x lo hi = .ok r) {Q : VK}
    (q : ∀ z H' A', Res K ca bad H r.1 r.2 z H' A' → Q z H') : rSlL K v lo hi H Q ∨ rSlT K v lo hi H Q := by
  unfold opS at h
  dsimp only at h
  split at h
  · rename_i ds e
    cases h
    obtain ⟨a, vs, e1, e2, e3⟩ := hx.nodeL e
    refine .inl ⟨a, vs, e1, e2, fun p hp => ?_⟩
    unfold cutV
    rw [e3.length]
    obtain ⟨A, hr⟩ := Res.copy (k := .lst) hb ((e3.drop (HT.sIx ds.length 0 lo)).take (HT.sIx ds.length ds.length hi - HT.sIx ds.length 0 lo)) hp rfl
    exact q _ _ A hr
  · split at h
    · rename_i ds e
      obtain ⟨c, e0⟩ := gd_ok h
      cases e0
      obtain ⟨a, vs, e1, e2, e3⟩ := hx.nodeT e
      refine .inr ⟨a, vs, e1, e2, by rw [e3.length]; exact c, fun p hp => ?_⟩
      unfold cutV
      rw [e3.length]
      exact q _ _ [] (Res.copyS (k := .tup) hb ((e3.drop (HT.sIx ds.length 0 lo)).take (HT.sIx ds.length ds.length hi - HT.sIx ds.length 0 lo)) hp rfl)
    · cases h
theorem opR_ne {x : DL} {C : Str} {z : V} : opR x ≠ .err C z := by
  intro h
  unfold opR at h
  dsimp only at h
  split at h <;> cases h
theorem opR_ok {x r : DL} {v : V} (hb : Ex' bad H) (hx : Rep K ca bad H x.2.frz v x.1 []) (h : opR x = .ok r) {Q : VK}
    (q : ∀ z H' A', Res K ca bad H r.1 r.2 z H' A' → Q z H') : ∃ a xs, v = .ref a ∧ SqL K H a xs ∧ ∀ p, H p = none → Q (.ref p) (upd H p (.lst xs.reverse)) := by
  unfold opR at h
  dsimp only at h
  split at h
  · rename_i ds e
    cases h
    obtain ⟨a, vs, e1, e2, e3⟩ := hx.nodeL e
    refine ⟨a, vs, e1, e2, fun p hp => ?_⟩
    obtain ⟨A, hr⟩ := Res.copy (k := .lst) hb e3.rev hp rfl
    exact q _ _ A hr
  · cases h
theorem opRg_ne {x : DL} {C : Str} {z : V} : opRg x ≠ .err C z := by
  intro h
  unfold opRg at h
  split at h
  · obtain ⟨_, h⟩ := gd_err h
    cases h
  · cases h
theorem reps_rg {l : Lv} {f : Nat → Int} : ∀ {is : List Nat}, Reps K ca bad H l (is.map fun i => V.int (f i)) (is.map fun i => D.int (f i)) []
  | [] => .nil
  | i :: r => .cons (A := []) (B := []) (.int _ _) reps_rg
theorem flat_rg {f : Nat → Int} : ∀ {is : List Nat}, flat (is.map fun i => D.int (f i)) = true
  | [] => rfl
  | i :: r => by
    show (D.sc (.int (f i)) && flat (r.map fun i => D.int (f i))) = true
    rw [flat_rg]
    rfl
theorem opRg_ok {x r : DL} {v : V} (hb : Ex' bad H) (hx : Rep K ca bad H x.2.frz v x.1 []) (h : opRg x = .ok r) {Q : VK}
    (q : ∀ z H' A', Res K ca bad H r.1 r.2 z H' A' → Q z H') : ∃ n, v = .int n ∧ (RgOk 0 n ∧ ∀ p, H p = none → Q (.ref p) (upd H p (.lst (rgV 0 n)))) := by
  unfold opRg at h
  split at h
  · rename_i j l
    obtain ⟨hg, h⟩ := gd_ok h
    cases h
    cases hx
    refine ⟨j, rfl, hg, fun p hp => ?_⟩
    obtain ⟨A, hr⟩ := Res.copy (K := K) (ca := ca) (k := .lst) (u := .lst (rgV 0 j)) (l := .al) hb (reps_rg (is := List.range (j - 0).toNat) (f := fun i => 0 + (i : Nat))) hp rfl
    have e : cp .al ((List.range (j - 0).toNat).map fun i => D.int (0 + (i : Nat))) = .al := by
      unfold cp
      rw [flat_rg, if_pos rfl]
    rw [e] at hr
    exact q _ _ A hr
  · cases h
theorem empty_len {α β : Type} {xs : List α} {ys : List β} (h : xs.length = ys.length) : xs.isEmpty = ys.isEmpty := by
  cases xs <;> cases ys <;> first | rfl | cases h
theorem truD_ne {d : D} {C : Str} {z : V} : truD d ≠ .err C z := by
  intro h
  unfold truD at h
  split at h <;> first | (cases h; done) | (have := (gd_err h).2; cases this)
theorem truD_ok {d : D} {l : Lv} {v : V} {b : Bool} (hx : Rep K ca bad H l v d []) (h : truD d = .ok b) : TruV K v H b := by
  unfold truD at h
  split at h
  · cases h; cases hx; rfl
  · cases h; cases hx; rfl
  · cases h; cases hx; rfl
  · obtain ⟨c, e⟩ := gd_ok h
    cases e
    cases hx
    exact ⟨c, rfl⟩
  · cases h
    obtain ⟨a, vs, e1, e2, e3⟩ := hx.nodeL rfl
    subst e1
    exact .inl ⟨vs, e2, by rw [empty_len e3.length]⟩
  · cases h
    obtain ⟨a, vs, e1, e2, e3⟩ := hx.nodeL rfl
    subst e1
    exact .inl ⟨vs, e2, by rw [empty_len e3.length]⟩
  · cases h
    obtain ⟨a, vs, e1, e2, e3⟩ := hx.nodeT rfl
    subst e1
    exact .inr (.inl ⟨vs, e2, by rw [empty_len e3.length]⟩)
  · cases h
    obtain ⟨a, vs, e1, e2, e3⟩ := hx.nodeT rfl
    subst e1
    exact .inr (.inl ⟨vs, e2, by rw [empty_len e3.length]⟩)
  · cases h
theorem ints_ok : ∀ {l : Lv} {vs : List V} {ds : List D} {ns : List Int} {A : List Addr}, Reps K ca bad H l vs ds A → intsD ds = some ns → vs = ns.map V.int
  | _, _, _, _, _, .nil, e => by simp only [intsD, Option.some.injEq] at e; subst e; rfl
  | _, _, _, _, _, .cons (d := d) (ds := ds) h r, e => by
    cases d with
    | int i =>
      simp only [intsD] at e
      cases h1 : intsD ds with
      | none => rw [h1] at e; cases e
      | some ks =>
        rw [h1] at e
        cases e
        rw [h.int', ints_ok r h1]
        rfl
    | _ => simp only [intsD] at e; cases e
theorem bls_ok : ∀ {l : Lv} {vs : List V} {ds : List D} {ns : List Bool} {A : List Addr}, Reps K ca bad H l vs ds A → blsD ds = some ns → vs = ns.map V.bl
  | _, _, _, _, _, .nil, e => by simp only [blsD, Option.some.injEq] at e; subst e; rfl
  | _, _, _, _, _, .cons (d := d) (ds := ds) h r, e => by
    cases d with
    | bl i =>
      simp only [blsD] at e
      cases h1 : blsD ds with
      | none => rw [h1] at e; cases e
      | some ks =>
        rw [h1] at e
        cases e
        rw [h.bl', bls_ok r h1]
        rfl
    | _ => simp only [blsD] at e; cases e
theorem strs_ok : ∀ {l : Lv} {vs : List V} {ds : List D} {ns : List Str} {A : List Addr}, Reps K ca bad H l vs ds A → strsD ds = some ns → vs = ns.map V.str
  | _, _, _, _, _, .nil, e => by simp only [strsD, Option.some.injEq] at e; subst e; rfl
  | _, _, _, _, _, .cons (d := d) (ds := ds) h r, e => by
    cases d with
    | str i =>
      simp only [strsD] at e
      cases h1 : strsD ds with
      | none => rw [h1] at e; cases e
      | some ks =>
        rw [h1] at e
        cases e
        rw [h.str', strs_ok r h1]
        rfl
    | _ => simp only [strsD] at e; cases e
theorem foldMax : ∀ (r : List Int) (x : Int), (r.foldl (fun m y => if m < y then y else m) x ∈ x :: r) ∧ ∀ y ∈ x :: r, y ≤ r.foldl (fun m y => if m < y then y else m) x
  | [], x => ⟨List.mem_cons_self, fun y h => by rw [List.mem_singleton.mp h]; exact Int.le_refl _⟩
  | z :: r, x => by
    rw [List.foldl_cons]
    obtain ⟨h1, h2⟩ := foldMax r (if x < z then z else x)
    have h3 := h2 _ List.mem_cons_self
    refine ⟨?_, fun y hy => ?_⟩
    · rcases List.mem_cons.mp h1 with e | e
      · rw [e]; split <;> simp
      · exact List.mem_cons_of_mem _ (List.mem_cons_of_mem _ e)
    · rcases List.mem_cons.mp hy with e | hy
      · subst e; refine Int.le_trans ?_ h3; split <;> omega
      · rcases List.mem_cons.mp hy with e | hy
        · subst e; refine Int.le_trans ?_ h3; split <;> omega
        · exact h2 y (List.mem_cons_of_mem _ hy)
theorem foldMin : ∀ (r : List Int) (x : Int), (r.foldl (fun m y => if y < m then y else m) x ∈ x :: r) ∧ ∀ y ∈ x :: r, r.foldl (fun m y => if y < m then y else m) x ≤ y
  | [], x => ⟨List.mem_cons_self, fun y h => by rw [List.mem_singleton.mp h]; exact Int.le_refl _⟩
  | z :: r, x => by
    rw [List.foldl_cons]
    obtain ⟨h1, h2⟩ := foldMin r (if z < x then z else x)
    have h3 := h2 _ List.mem_cons_self
    refine ⟨?_, fun y hy => ?_⟩
    · rcases List.mem_cons.mp h1 with e | e
      · rw [e]; split <;> simp
      · exact List.mem_cons_of_mem _ (List.mem_cons_of_mem _ e)
    · rcases List.mem_cons.mp hy with e | hy
      · subst e; refine Int.le_trans h3 ?_; split <;> omega
      · rcases List.mem_cons.mp hy with e | hy
        · subst e; refine Int.le_trans h3 ?_; split <;> omega
        · exact h2 y (List.mem_cons_of_mem _ hy)
/-- values that are frozen -/
inductive FzL (K : PySem.W.Frag) (ca : CA) (bad : Bad) (H : Hp) : List V → List DL → Prop
  | nil : FzL K ca bad H [] []
  | cons {v : V} {x : DL} {vs : List V} {xs : List DL} : Rep K ca bad H x.2.frz v x.1 [] → FzL K ca bad H vs xs → FzL K ca bad H (v :: vs) (x :: xs)
theorem FzL.keep0 : ∀ {vs : List V} {xs : List DL}, FzL K ca bad H vs xs → Same H H' → FzL K ca bad H' vs xs
  | _, _, .nil, _ => .nil
  | _, _, .cons h r, s => .cons (h.keep0 s) (r.keep0 s)
theorem len_ok {v : V} {d : D} {l : Lv} {ds : List D} (h : Rep K ca bad H l v d []) (e : d.asQ = some ds) : LenV K v H ds.length := by
  obtain ⟨a, vs, e1, e2, e3⟩ := h.nodeQ e
  subst e1
  rcases e2 with e2 | e2
  · exact .inl ⟨vs, e2, e3.length.symm⟩
  · exact .inr ⟨vs, e2, e3.length.symm⟩
theorem bltD_ne {f : Str} {xs : List DL} {C : Str} {z : V} : bltD f xs ≠ .err C z := by
  intro h
  have go : ∀ {y : Str} {r1 r2 : R DL}, (if f = y then r1 else r2) = .err C z → (r1 = .err C z → False) → (r2 = .err C z → False) → False := by
    intro y r1 r2 h0 h1 h2
    by_cases e : f = y
    · rw [if_pos e] at h0; exact h1 h0
    · rw [if_neg e] at h0; exact h2 h0
  unfold bltD at h
  refine go h (fun h => ?_) fun h => ?_
  · split at h
    · have := (gd_err h).2; cases this
    · split at h <;> cases h
    · cases h
  refine go h (fun h => ?_) fun h => ?_
  · split at h <;> cases h
  refine go h (fun h => ?_) fun h => ?_
  · split at h <;> cases h
  refine go h (fun h => ?_) fun h => ?_
  · split at h
    · cases h
    · split at h
      · split at h
        · split at h <;> cases h
        · cases h
      · cases h
    · cases h
  refine go h (fun h => ?_) fun h => ?_
  · split at h
    · cases h
    · split at h
      · split at h
        · split at h <;> cases h
        · cases h
      · cases h
    · cases h
  refine go h (fun h => ?_) fun h => ?_
  · split at h
    · split at h <;> cases h
    · cases h
  refine go h (fun h => ?_) fun h => ?_
  · split at h
    · split at h
      · cases h
      · split at h <;> cases h
    · cases h
  refine go h (fun h => ?_) fun h => ?_
  · split at h
    · split at h
      · split at h <;> cases h
      · cases h
    · cases h
  refine go h (fun h => ?_) fun h => ?_
  · split at h
    · split at h
      · split at h <;> cases h
      · cases h
    · cases h
  refine go h (fun h => ?_) fun h => ?_
  · split at h
    · split at h
      · split at h <;> cases h
      · cases h
    · cases h
  refine go h (fun h => ?_) fun h => ?_
  · split at h
    · have := (gd_err h).2; cases this
    · cases h
  refine go h (fun h => ?_) fun h => ?_
  · split at h
    · have := (gd_err h).2; cases this
    · cases h
  cases h
theorem bltD_ok {f : Str} {xs : List DL} {r : DL} {vs : List V} (hb : Ex' bad H) (hx : FzL K ca bad H vs xs) (h : bltD f xs = .ok r) {Q : VK}
    (q : ∀ z H' A', Res K ca bad H r.1 r.2 z H' A' → Q z H') : xs ≠ [] ∧ ∃ b rb, blt K f = some (b, rb) ∧ rb vs H Q := by
  have go : ∀ {z : Str} {b' : BK} {r' : RB} {rest : Option (BK × RB)} {r1 r2 : R DL}, (if f = z then r1 else r2) = .ok r → (r1 = .ok r → r' vs H Q ∧ xs ≠ []) →
      (r2 = .ok r → xs ≠ [] ∧ ∃ b rb, rest = some (b, rb) ∧ rb vs H Q) → xs ≠ [] ∧ ∃ b rb, (if f = z then some (b', r') else rest) = some (b, rb) ∧ rb vs H Q := by
    intro z b' r' rest r1 r2 h0 h1 h2
    by_cases e : f = z
    · rw [if_pos e] at h0 ⊢
      exact ⟨(h1 h0).2, _, _, rfl, (h1 h0).1⟩
    · rw [if_neg e] at h0 ⊢
      exact h2 h0
  unfold bltD at h
  unfold blt
  refine go h (fun h => ?_) fun h => ?_
  · split at h
    · obtain ⟨c, e⟩ := gd_ok h
      cases e
      cases hx with | cons h1 r1 => cases r1; cases h1; exact ⟨⟨_, _, rfl, ⟨c, rfl⟩, q _ _ [] (.of_v _ rfl)⟩, fun z => nomatch z⟩
    · split at h
      · rename_i e
        cases h
        cases hx with | cons h1 r1 => cases r1; exact ⟨⟨_, _, rfl, len_ok h1 e, q _ _ [] (.of_v _ rfl)⟩, fun z => nomatch z⟩
      · cases h
    · cases h
  refine go h (fun h => ?_) fun h => ?_
  · split at h
    · cases h
      cases hx with | cons h1 r1 => cases r1; exact ⟨.inl ⟨_, by rw [h1.int'], q _ _ [] (.of_v _ rfl)⟩, fun z => nomatch z⟩
    · cases h
      cases hx with | cons h1 r1 => cases r1; exact ⟨.inr ⟨_, by rw [h1.bl'], q _ _ [] (.of_v _ rfl)⟩, fun z => nomatch z⟩
    · cases h
  refine go h (fun h => ?_) fun h => ?_
  · split at h
    · cases h
      cases hx with | cons h1 r1 => cases r1; exact ⟨⟨_, by rw [h1.int'], q _ _ [] (.of_v _ rfl)⟩, fun z => nomatch z⟩
    · cases h
  refine go h (fun h => ?_) fun h => ?_
  · split at h
    · cases h
      cases hx with | cons h1 r1 => cases r1 with | cons h2 r2 => cases r2; exact ⟨.inl ⟨_, _, by rw [h1.int', h2.int'], q _ _ [] (.of_v _ rfl)⟩, fun z => nomatch z⟩
    · split at h
      · rename_i e
        split at h
        · rename_i ns e2
          split at h
          · rename_i m e3
            cases h
            cases hx with
            | cons h1 r1 =>
              cases r1
              obtain ⟨a, ws, e4, e5, e6⟩ := h1.nodeL e
              have e7 := ints_ok e6 e2
              subst e7
              refine ⟨.inr ⟨a, ns, by rw [e4], e5, ?_, fun m' hm hle => ?_⟩, fun z => nomatch z⟩
              · cases ns with
                | nil => cases e3
                | cons _ _ => exact Nat.succ_pos _
              · cases ns with
                | nil => cases e3
                | cons x rr =>
                  cases e3
                  obtain ⟨g1, g2⟩ := foldMax rr x
                  rw [Int.le_antisymm (g2 m' hm) (hle _ g1)]
                  exact q _ _ [] (.of_v _ rfl)
          · cases h
        · cases h
      · cases h
    · cases h
  refine go h (fun h => ?_) fun h => ?_
  · split at h
    · cases h
      cases hx with | cons h1 r1 => cases r1 with | cons h2 r2 => cases r2; exact ⟨.inl ⟨_, _, by rw [h1.int', h2.int'], q _ _ [] (.of_v _ rfl)⟩, fun z => nomatch z⟩
    · split at h
      · rename_i e
        split at h
        · rename_i ns e2
          split at h
          · rename_i m e3
            cases h
            cases hx with
            | cons h1 r1 =>
              cases r1
              obtain ⟨a, ws, e4, e5, e6⟩ := h1.nodeL e
              have e7 := ints_ok e6 e2
              subst e7
              refine ⟨.inr ⟨a, ns, by rw [e4], e5, ?_, fun m' hm hle => ?_⟩, fun z => nomatch z⟩
              · cases ns with
                | nil => cases e3
                | cons _ _ => exact Nat.succ_pos _
              · cases ns with
                | nil => cases e3
                | cons x rr =>
                  cases e3
                  obtain ⟨g1, g2⟩ := foldMin rr x
                  rw [Int.le_antisymm (hle _ g1) (g2 m' hm)]
                  exact q _ _ [] (.of_v _ rfl)
          · cases h
        · cases h
      · cases h
    · cases h
  refine go h (fun h => ?_) fun h => ?_
  · split at h
    · split at h
      · rename_i e
        cases h
        cases hx with
        | cons h1 r1 =>
          cases r1
          obtain ⟨a, ws, e4, e5, e6⟩ := h1.nodeQ e
          refine ⟨⟨a, ws, by rw [e4], e5, fun p hp => ?_⟩, fun z => nomatch z⟩
          obtain ⟨A, hr⟩ := Res.copy (k := .lst) hb e6 hp rfl
          exact q _ _ A hr
      · cases h
    · cases h
  refine go h (fun h => ?_) fun h => ?_
  · split at h
    · split at h
      · rename_i e
        cases h
        cases hx with
        | cons h1 r1 =>
          cases r1
          obtain ⟨a, ws, e4, e5, e6⟩ := h1.nodeL e
          exact ⟨⟨a, ws, by rw [e4], .inl ⟨e5, fun p hp => q _ _ [] (Res.copyS (k := .tup) hb e6 hp rfl)⟩⟩, fun z => nomatch z⟩
      · split at h
        · rename_i e
          cases h
          cases hx with
          | cons h1 r1 =>
            cases r1
            obtain ⟨a, ws, e4, e5, e6⟩ := h1.nodeT e
            refine ⟨⟨a, ws, by rw [e4], .inr ⟨e5, ?_⟩⟩, fun z => nomatch z⟩
            rw [← e4]
            exact q _ _ [] (.at' h1)
        · cases h
    · cases h
  refine go h (fun h => ?_) fun h => ?_
  · split at h
    · split at h
      · rename_i e
        split at h
        · rename_i ns e2
          cases h
          cases hx with
          | cons h1 r1 =>
            cases r1
            obtain ⟨a, ws, e4, e5, e6⟩ := h1.nodeL e
            have e7 := ints_ok e6 e2
            subst e7
            exact ⟨⟨a, ns, by rw [e4], e5, q _ _ [] (.of_v _ rfl)⟩, fun z => nomatch z⟩
        · cases h
      · cases h
    · cases h
  refine go h (fun h => ?_) fun h => ?_
  · split at h
    · split at h
      · rename_i e
        split at h
        · rename_i ns e2
          cases h
          cases hx with
          | cons h1 r1 =>
            cases r1
            obtain ⟨a, ws, e4, e5, e6⟩ := h1.nodeL e
            have e7 := bls_ok e6 e2
            subst e7
            exact ⟨⟨a, ns, by rw [e4], e5, q _ _ [] (.of_v _ rfl)⟩, fun z => nomatch z⟩
        · cases h
      · cases h
    · cases h
  refine go h (fun h => ?_) fun h => ?_
  · split at h
    · split at h
      · rename_i e
        split at h
        · rename_i ns e2
          cases h
          cases hx with
          | cons h1 r1 =>
            cases r1
            obtain ⟨a, ws, e4, e5, e6⟩ := h1.nodeL e
            have e7 := bls_ok e6 e2
            subst e7
            exact ⟨⟨a, ns, by rw [e4], e5, q _ _ [] (.of_v _ rfl)⟩, fun z => nomatch z⟩
        · cases h
      · cases h
    · cases h
  refine go h (fun h => ?_) fun h => ?_
  · split at h
    · obtain ⟨c, e⟩ := gd_ok h
      cases e
      cases hx with | cons h1 r1 => cases r1; exact ⟨⟨_, by rw [h1.int'], c, q _ _ [] (.of_v _ rfl)⟩, fun z => nomatch z⟩
    · cases h
  refine go h (fun h => ?_) fun h => ?_
  · split at h
    · obtain ⟨c, e⟩ := gd_ok h
      cases e
      cases hx with | cons h1 r1 => cases r1; exact ⟨⟨_, _, rfl, h1.dp c.1, c.2.1, (lay_py c.1).2, c.2.2.1, c.2.2.2, q _ _ [] (.of_v _ rfl)⟩, fun z => nomatch z⟩
    · cases h
  cases h
theorem joinD_ok {x r : DL} {xs : List DL} {v : V} {vs : List V} (h0 : Rep K ca bad H x.2.frz v x.1 []) (hx : FzL K ca bad H vs xs) (h : joinD x xs = .ok r) {Q : VK}
    (q : ∀ z H' A', Res K ca bad H r.1 r.2 z H' A' → Q z H') : rJoin K v vs H Q := by
  unfold joinD at h
  split at h
  · split at h
    · rename_i e
      split at h
      · rename_i ys e2
        split at h
        · rename_i c
          cases h
          cases hx with
          | cons h1 r1 =>
            cases r1
            obtain ⟨a, ws, e4, e5, e6⟩ := h1.nodeQ e
            have e7 := strs_ok e6 e2
            subst e7
            exact ⟨_, a, ys, h0.str', by rw [e4], e5, c, q _ _ [] (.of_v _ rfl)⟩
        · cases h
      · cases h
    · cases h
  · cases h
theorem joinD_ne {x : DL} {xs : List DL} {C : Str} {z : V} : joinD x xs ≠ .err C z := by
  intro h
  unfold joinD at h
  repeat' first
    | (cases h; done)
    | split at h
theorem lookS {l : Lv} : ∀ {fs : List Str} {vs : List V} {ds : List D} {x : Str} {d : D}, Reps K ca bad H l vs ds [] → fs.length = vs.length → lookD fs ds x = some d → ∃ v, (fs.zip vs).lookup x = some v ∧ Rep K ca bad H l v d []
  | [], vs, ds, x, d, r, _, h => by unfold lookD at h; cases h
  | k :: ks, [], ds, x, d, r, hl, h => by cases hl
  | k :: ks, v :: vs, [], x, d, r, hl, h => by cases r.length
  | k :: ks, v :: vs, d' :: ds, x, d, r, hl, h => by
    unfold lookD at h
    rw [List.zip_cons_cons, List.lookup_cons]
    by_cases e : k = x
    · rw [if_pos e] at h
      cases h
      subst e
      rw [beq_self_eq_true]
      exact ⟨v, rfl, r.uncons.1⟩
    · rw [if_neg e] at h
      rw [beq_eq_false_iff_ne.mpr (Ne.symm e)]
      exact lookS r.uncons.2 (Nat.succ.inj hl) h
theorem fldD_ne {Φ : Fi} {f : Str} {x : DL} {C : Str} {z : V} : fldD Φ f x ≠ .err C z := by
  intro h
  unfold fldD at h
  repeat' first
    | (cases h; done)
    | split at h
theorem fldD_ok {Φ : Fi} {f : Str} {x r : DL} {v : V} (hc : ∀ C f, Φ.fld C f = true → ∀ Ca, ca C = some Ca → Cls K Ca ∧ NoAttr K Ca f) (h0 : Rep K ca bad H x.2.frz v x.1 []) (h : fldD Φ f x = .ok r) {Q : VK}
    (q : ∀ z H' A', Res K ca bad H r.1 r.2 z H' A' → Q z H') : ∃ a C dx fs u, v = .ref a ∧ H a = some (.ins C dx fs) ∧ Cls K C ∧ NoAttr K C f ∧ fs.lookup f = some u ∧ Q u H := by
  unfold fldD at h
  split at h
  · rename_i C fs ds l
    split at h
    · rename_i d e
      split at h
      · rename_i c
        cases h
        generalize eA : ([] : List Addr) = A at h0
        cases h0 with
        | ow ho _ _ _ => cases eA
        | sh _ h r =>
          rename_i a vs _
          rcases h with ⟨⟨Ca, dx, e1, e2, e3⟩, _⟩ | h
          · obtain ⟨u, e4, e5⟩ := lookS r e3 e
            obtain ⟨c1, c2⟩ := hc _ _ c _ e1
            exact ⟨a, Ca, dx, _, u, rfl, e2, c1, c2, e4, q _ _ [] (Res.at e5)⟩
          · exact (show False from h).elim
      · cases h
    · cases h
  · cases h
end
end M

/-! MiniU: what an evaluation is worth. -/
namespace M
open PySem PySem.Spec PyProof.Rows L2
section
variable {K : PySem.W.Frag} {ca : CA} {bad bad' : Bad} {H H' H0 H1 : Hp} {W : WX} {σ : L2.St}
theorem same_none {a : Addr} (s : Same H H1) (h : H1 a = none) : H a = none := by
  cases e : H a with
  | none => rfl
  | some o => rw [s a o e] at h; cases h
theorem Res.trans {d : D} {l : Lv} {v : V} {A : List Addr} (s : Same H H1) (h : Res K ca bad H1 d l v H' A) : Res K ca bad H d l v H' A :=
  ⟨same_trans s h.same, h.rep, h.nd, fun a m => same_none s (h.fr a m)⟩
/-- values with their levels, what they own -/
inductive RepL (K : PySem.W.Frag) (ca : CA) (bad : Bad) (H : Hp) : List V → List DL → List Addr → Prop
  | nil : RepL K ca bad H [] [] []
  | cons {v : V} {x : DL} {vs : List V} {xs : List DL} {A B : List Addr} : Rep K ca bad H x.2 v x.1 A → RepL K ca bad H vs xs B → RepL K ca bad H (v :: vs) (x :: xs) (A ++ B)
theorem RepL.keep : ∀ {vs : List V} {xs : List DL} {A : List Addr}, RepL K ca bad H vs xs A → Keep bad H bad' H' → Same H H' ∨ (∀ x ∈ xs, x.2 ≠ .bo) → (∀ a ∈ A, ∀ u, H a = some u → H' a = some u) → RepL K ca bad' H' vs xs A
  | _, _, _, .nil, _, _, _ => .nil
  | _, _, _, .cons h r, q1, q2, q3 => .cons (h.keep (fun _ => q1) (fun e => q2.elim id fun z => absurd e (z _ List.mem_cons_self)) fun a ha => q3 a (List.mem_append_left _ ha))
      (r.keep q1 (q2.imp id fun z x hx => z x (List.mem_cons_of_mem _ hx)) fun a ha => q3 a (List.mem_append_right _ ha))
structure ResL (K : PySem.W.Frag) (ca : CA) (bad : Bad) (H : Hp) (xs : List DL) (vs : List V) (H' : Hp) (A : List Addr) : Prop where
  same : Same H H'
  rep : RepL K ca (fun a => bad a ∨ a ∈ A) H' vs xs A
  nd : A.Nodup
  fr : ∀ a ∈ A, H a = none
theorem RepL.there : ∀ {vs : List V} {xs : List DL} {A : List Addr}, RepL K ca bad H vs xs A → ∀ a ∈ A, H a ≠ none
  | _, _, _, .nil, a, ha => by cases ha
  | _, _, _, .cons h r, a, ha => (List.mem_append.mp ha).elim (h.there a) (r.there a)
theorem RepL.length : ∀ {vs : List V} {xs : List DL} {A : List Addr}, RepL K ca bad H vs xs A → vs.length = xs.length
  | _, _, _, .nil => rfl
  | _, _, _, .cons _ r => congrArg (· + 1) r.length
theorem Res.there {d : D} {l : Lv} {v : V} {A : List Addr} (h : Res K ca bad H d l v H' A) : ∀ a ∈ A, H' a ≠ none := h.rep.there
theorem bad_cons {A B : List Addr} {a : Addr} : ((bad a ∨ a ∈ A) ∨ a ∈ B) ↔ (bad a ∨ a ∈ A ++ B) := by
  rw [List.mem_append, or_assoc]
theorem nodup_app {A B : List Addr} (h1 : A.Nodup) (h2 : B.Nodup) (h3 : ∀ a ∈ A, a ∉ B) : (A ++ B).Nodup := List.nodup_append.mpr ⟨h1, h2, fun a ha b hb e => h3 a ha (by rw [e]; exact hb)⟩
theorem ResL.cons {x : DL} {v : V} {A B : List Addr} {xs : List DL} {vs : List V} (h : Res K ca bad H x.1 x.2 v H1 A) (r : ResL K ca (fun a => bad a ∨ a ∈ A) H1 xs vs H' B) : ResL K ca bad H (x :: xs) (v :: vs) H' (A ++ B) := by
  refine ⟨same_trans h.same r.same, .cons (h.rep.keep (fun _ => ?_) (fun _ => r.same) fun a _ u => r.same a u) (r.rep.keep ?_ (.inl (Same.refl _)) fun _ _ _ z => z), nodup_app h.nd r.nd fun a ha hb => ?_, fun a m => ?_⟩
  · intro a o e n
    refine ⟨r.same a o e, fun q => ?_⟩
    rcases bad_cons.mpr q with q | q
    · exact n q
    · rw [r.fr a q] at e; cases e
  · intro a o e n
    exact ⟨e, fun q => n (bad_cons.mpr q)⟩
  · exact h.there a ha (r.fr a hb)
  · rcases List.mem_append.mp m with m | m
    · exact h.fr a m
    · exact same_none h.same (r.fr a m)
theorem ResL.fz : ∀ {xs : List DL} {vs : List V} {A : List Addr} {B : List Addr}, RepL K ca (fun a => bad a ∨ a ∈ B) H vs xs A → A.Nodup → (∀ a ∈ B, ¬ bad a) → (∀ a ∈ A, a ∈ B) → FzL K ca bad H vs xs
  | _, _, _, _, .nil, _, _, _ => .nil
  | _, _, _, B, .cons (A := A) (B := C) h r, nd, hb, hs => by
    have n1 := List.nodup_append.mp nd
    obtain ⟨A', s, f⟩ := h.low Lv.frz_le n1.1
    have e0 : A' = [] := Rep.bare (f (fun _ => False) (fun _ q => q.elim)) (Lv.frz_own _)
    subst e0
    exact .cons (f bad fun a q => ⟨.inl q, fun m => absurd q (hb a (hs a (List.mem_append_left _ m)))⟩) (ResL.fz r n1.2.1 hb fun a m => hs a (List.mem_append_right _ m))
theorem ResL.frz {xs : List DL} {vs : List V} {A : List Addr} (hb : Ex' bad H) (h : ResL K ca bad H xs vs H' A) : FzL K ca bad H' vs xs :=
  ResL.fz h.rep h.nd (fun a m q => hb a q (h.fr a m)) fun _ m => m
/-- to the least of the levels -/
theorem RepL.reps : ∀ {xs : List DL} {vs : List V} {A : List Addr} {l : Lv}, RepL K ca bad H vs xs A → A.Nodup → l.le (mnL xs) →
    ∃ A', A'.Sublist A ∧ ∀ bad' : Bad, (∀ a, bad' a → bad a ∧ (a ∈ A → a ∈ A')) → Reps K ca bad' H l vs (xs.map (·.1)) A'
  | _, _, _, _, .nil, _, _ => ⟨[], .slnil, fun _ _ => .nil⟩
  | _, _, _, l, .cons (v := v) (x := x) (xs := xs) (A := A) (B := B) h r, nd, hl => by
    have n1 := List.nodup_append.mp nd
    have hl1 : l.le (nl x.1 x.2) := Lv.le_trans hl Lv.min_le_left
    obtain ⟨B', s2, f2⟩ := r.reps n1.2.1 (Lv.le_trans hl Lv.min_le_right)
    have hx : ∃ A', A'.Sublist A ∧ ∀ bad' : Bad, (∀ a, bad' a → bad a ∧ (a ∈ A → a ∈ A')) → Rep K ca bad' H l v x.1 A' := by
      unfold nl at hl1
      split at hl1
      · rename_i e
        exact ⟨[], List.nil_sublist _, fun bad' _ => h.scal e⟩
      · exact h.low hl1 n1.1
    obtain ⟨A', s1, f1⟩ := hx
    refine ⟨A' ++ B', s1.append s2, fun bad' hb => .cons (f1 bad' fun b q => ⟨(hb b q).1, fun m => ?_⟩) (f2 bad' fun b q => ⟨(hb b q).1, fun m => ?_⟩)⟩
    · rcases List.mem_append.mp ((hb b q).2 (List.mem_append_left _ m)) with e | e
      · exact e
      · exact absurd rfl (n1.2.2 b m b (s2.subset e))
    · rcases List.mem_append.mp ((hb b q).2 (List.mem_append_right _ m)) with e | e
      · exact absurd rfl (n1.2.2 b (s1.subset e) b m)
      · exact e
/-- a node above values -/
theorem node_of {k : Kd} {u : HO} {xs : List DL} {vs : List V} {A : List Addr} {p : Addr} (hp : H p = some u) (hk : KdR ca k u vs) (r : RepL K ca (fun a => bad a ∨ a ∈ p :: A) H vs xs A) (nd : (p :: A).Nodup) (nb : ∀ a ∈ p :: A, ¬ bad a) :
    ∃ A', A'.Sublist (p :: A) ∧ Rep K ca (fun a => bad a ∨ a ∈ A') H (dsp xs) (.ref p) (.nd k (xs.map (·.1))) A' := by
  have n1 := List.nodup_cons.mp nd
  obtain ⟨A', s, f⟩ := r.reps n1.2 (l := mnL xs) Lv.le_refl
  have hs : ∀ a, (bad a ∨ a ∈ A') → (bad a ∨ a ∈ p :: A) ∧ (a ∈ A → a ∈ A') := fun a q => by
    rcases q with q | q
    · exact ⟨.inl q, fun m => absurd q (nb a (List.mem_cons_of_mem _ m))⟩
    · exact ⟨.inr (List.mem_cons_of_mem _ (s.subset q)), fun _ => q⟩
  have hs2 : ∀ a, (bad a ∨ a ∈ p :: A') → (bad a ∨ a ∈ p :: A) ∧ (a ∈ A → a ∈ A') := fun a q => by
    rcases q with q | q
    · exact ⟨.inl q, fun m => absurd q (nb a (List.mem_cons_of_mem _ m))⟩
    · rcases List.mem_cons.mp q with e | e
      · subst e; exact ⟨.inr List.mem_cons_self, fun m => absurd m n1.1⟩
      · exact ⟨.inr (List.mem_cons_of_mem _ (s.subset e)), fun _ => e⟩
  unfold dsp
  cases hm : mnL xs with
  | bo =>
    rw [hm] at f
    have e0 : A' = [] := Reps.bare (f (fun _ => False) fun _ q => q.elim) rfl
    subst e0
    exact ⟨[], List.nil_sublist _, .sh rfl (.inl ⟨hk.at hp, fun z => nomatch z⟩) (f _ hs)⟩
  | n k' =>
    rw [hm] at f
    exact ⟨p :: A', s.cons_cons p, .ow rfl hp hk (f _ hs2)⟩
  | al =>
    rw [hm] at f
    exact ⟨p :: A', s.cons_cons p, .ow rfl hp hk (f _ hs2)⟩
/-- the worth of an evaluation -/
def EvG {α β : Type} (ca : CA) (W : WX) (σ : L2.St) (H : Hp) (r : R α) (post : α → β → Hp → Prop) (c : (β → Hp → Prop) → Prop) : Prop := match r with
  | .ok a => ∀ Q : β → Hp → Prop, (∀ b H', post a b H' → Q b H') → c Q
  | .err C x => (∀ dd H' Ca, ca C = some Ca → Same H H' → H' dd = some (.xd [("at", x)]) → W (.ref Ca) (some dd) σ H') → ∀ Q, c Q
  | .stuck => True
theorem EvG.bind {α α' β β' : Type} {r : R α} {f : α → R α'} {post : α → β → Hp → Prop} {post' : α' → β' → Hp → Prop} {c : (β → Hp → Prop) → Prop} {k : β → Hp → (β' → Hp → Prop) → Prop} (h : EvG ca W σ H r post c)
    (same : ∀ a b H', post a b H' → Same H H') (g : ∀ a b H1, r = .ok a → post a b H1 → EvG ca W σ H1 (f a) post' (k b H1)) : EvG ca W σ H (r.bind f) post' (fun Q => c fun b H1 => k b H1 Q) := by
  cases r with
  | ok a =>
    show EvG ca W σ H (f a) post' _
    cases e : f a with
    | ok b =>
      intro Q q
      refine h _ fun b' H1 hp => ?_
      have := g a b' H1 rfl hp
      rw [e] at this
      exact this Q q
    | err C x =>
      intro w Q
      refine h _ fun b' H1 hp => ?_
      have := g a b' H1 rfl hp
      rw [e] at this
      exact this (fun dd H' Ca e1 s e2 => w dd H' Ca e1 (same_trans (same _ _ _ hp) s) e2) Q
    | stuck => trivial
  | err C x => exact fun w Q => h w _
  | stuck => trivial
theorem EvG.mono {α β : Type} {r : R α} {post post' : α → β → Hp → Prop} {c : (β → Hp → Prop) → Prop} (h : EvG ca W σ H r post c) (i : ∀ a b H', post a b H' → post' a b H') : EvG ca W σ H r post' c := by
  cases r with
  | ok a => exact fun Q q => h Q fun b H' hp => q b H' (i _ _ _ hp)
  | err C x => exact h
  | stuck => trivial
theorem EvG.of_ok {α β : Type} {r : R α} {post : α → β → Hp → Prop} {c : (β → Hp → Prop) → Prop} (hn : ∀ C x, r ≠ .err C x) (h : ∀ a, r = .ok a → ∀ Q : β → Hp → Prop, (∀ b H', post a b H' → Q b H') → c Q) : EvG ca W σ H r post c := by
  cases r with
  | ok a => exact h a rfl
  | err C x => exact absurd rfl (hn C x)
  | stuck => trivial
/-- what stands in the slots, as one reads it -/
def EnvR (K : PySem.W.Frag) (ca : CA) (bad : Bad) (H : Hp) (σ : L2.St) (η : En) : Prop := σ.length = η.length ∧ ∀ (i : Nat) (d : D) (l : Lv), η[i]? = some (some (d, l)) → l.own = false ∧ ∃ v, σ[i]? = some (some v) ∧ Rep K ca bad H l v d []
theorem EnvR.keep {η : En} (h : EnvR K ca bad H σ η) (s : Same H H') (k : Keep bad H bad' H') : EnvR K ca bad' H' σ η :=
  ⟨h.1, fun i d l e => by
    obtain ⟨e1, v, e2, e3⟩ := h.2 i d l e
    exact ⟨e1, v, e2, e3.keep (fun _ => k) (fun _ => s) fun _ z => nomatch z⟩⟩
theorem EnvR.keep0 {η : En} (h : EnvR K ca bad H σ η) (s : Same H H') : EnvR K ca bad H' σ η := h.keep s (keep_same s)
theorem EnvR.set {η : En} {i : Nat} {v : V} {d : D} {l : Lv} (h : EnvR K ca bad H σ η) (hl : l.own = false) (r : Rep K ca bad H l v d []) : EnvR K ca bad H (σ.set i (some v)) (η.set i (some (d, l))) := by
  refine ⟨by rw [List.length_set, List.length_set]; exact h.1, fun j d' l' e => ?_⟩
  rw [List.getElem?_set] at e ⊢
  by_cases c : i = j
  · rw [if_pos c] at e ⊢
    by_cases c2 : i < η.length
    · rw [if_pos c2] at e
      rw [if_pos (by rw [h.1]; exact c2)]
      cases e
      exact ⟨hl, v, rfl, r⟩
    · rw [if_neg c2] at e; cases e
  · rw [if_neg c] at e ⊢
    exact h.2 j d' l' e
theorem EnvR.unset {η : En} {i : Nat} {o : Option V} (h : EnvR K ca bad H σ η) : EnvR K ca bad H (σ.set i o) (η.set i none) := by
  refine ⟨by rw [List.length_set, List.length_set]; exact h.1, fun j d' l' e => ?_⟩
  rw [List.getElem?_set] at e ⊢
  by_cases c : i = j
  · rw [if_pos c] at e
    by_cases c2 : i < η.length
    · rw [if_pos c2] at e; cases e
    · rw [if_neg c2] at e; cases e
  · rw [if_neg c] at e ⊢
    exact h.2 j d' l' e
theorem EnvR.wipe {η : En} (h : EnvR K ca bad H σ η) : ∀ vs : List Nat, EnvR K ca bad H (L2.wipe σ vs) (wipeE η vs)
  | [] => h
  | _ :: vs => (h.wipe vs).unset
/-- what is walked over -/
def ItOk (K : PySem.W.Frag) (ca : CA) (bad0 : Bad) (H0 : Hp) (J : It) (ds : List D) (li : Lv) : Prop := li.own = false ∧ ∀ bad H, Ex' bad H → (li = .bo → Same H0 H) → (li ≠ .bo → Keep bad0 H0 bad H) → ∀ i,
  (i < ds.length ∧ J.go i H ∨ ds.length ≤ i ∧ J.stop i H) ∧ (i < ds.length → ∀ x H', J.yld i H x H' → Same H H' ∧ ∃ d, ds[i]? = some d ∧ Rep K ca bad H' li x d [])
/-- the promise of a def -/
def spF (K : PySem.W.Frag) (ca : CA) (run : List D → R DL) : Sp := fun vs H Q E => ∃ ds bad, Ex' bad H ∧ Reps K ca bad H (.n 0) vs ds [] ∧ match run ds with
  | .ok x => ∀ v H' A, Res K ca bad H x.1 x.2 v H' A → Q v H'
  | .err C x => ∀ dd H' Ca, ca C = some Ca → Same H H' → H' dd = some (.xd [("at", x)]) → E (.ref Ca) (some dd) H'
  | .stuck => False
/-- the table of what defs make is right -/
structure FiOk (K : PySem.W.Frag) (ca : CA) (T : Tb) (Φ : Fi) : Prop where
  fn : ∀ f ff, Φ.fn f = some ff → ∃ fe, T.fn f = some fe ∧ (∀ bad H, Reps K ca bad H (.n 0) fe.dvs ff.dfs []) ∧ ∀ vs H Q E, spF K ca ff.run vs H Q E → fe.sp vs H Q E
  gl : ∀ x d, Φ.gl x = some d → ∃ v, T.gl x = some v ∧ ∀ bad H, Rep K ca bad H (.n 0) v d []
  fld : ∀ C f, Φ.fld C f = true → ∀ Ca, ca C = some Ca → Cls K Ca ∧ NoAttr K Ca f
theorem FzL.reps : ∀ {vs : List V} {xs : List DL}, FzL K ca bad H vs xs → xs.any isBo = false → Reps K ca bad H (.n 0) vs (xs.map (·.1)) []
  | _, _, .nil, _ => .nil
  | _, _, .cons (x := x) (xs := xs) h r, e => by
    rw [List.any_cons, Bool.or_eq_false_iff] at e
    refine .cons (A := []) (B := []) ?_ (r.reps e.2)
    by_cases c : x.1.sc = true
    · exact h.scal c
    · have e1 := e.1
      unfold isBo at e1
      rw [Bool.not_eq_true] at c
      rw [c, Bool.not_false, Bool.true_and] at e1
      obtain ⟨d, l⟩ := x
      cases l with
      | bo => cases e1
      | n k => have : (Lv.n k).frz = .n 0 := by show Lv.n (Min.min k 0) = _; rw [Nat.min_zero]
               rw [this] at h; exact h
      | al => exact h
mutual
theorem Rep.lift : ∀ {l : Lv} {v : V} {d : D} {A : List Addr}, Rep K ca bad H l v d A → Rep K ca (fun _ => False) H (.n 0) v d []
  | _, _, _, _, .non _ => .non _
  | _, _, _, _, .bl _ b => .bl _ b
  | _, _, _, _, .int _ i => .int _ i
  | _, _, _, _, .str _ x => .str _ x
  | _, _, _, _, .sh ho h r => .sh rfl (by
      rcases h with ⟨h, _⟩ | h
      · exact .inl ⟨h, fun _ z => z⟩
      · exact .inr h) (Reps.lift r)
  | _, _, _, _, .ow ho h k r => .sh rfl (.inl ⟨k.at h, fun _ z => z⟩) (Reps.lift r)
theorem Reps.lift : ∀ {l : Lv} {vs : List V} {ds : List D} {A : List Addr}, Reps K ca bad H l vs ds A → Reps K ca (fun _ => False) H (.n 0) vs ds []
  | _, _, _, _, .nil => .nil
  | _, _, _, _, .cons h r => .cons (A := []) (B := []) (Rep.lift h) (Reps.lift r)
end
theorem FzL.bor : ∀ {vs : List V} {xs : List DL}, FzL K ca bad H vs xs → Reps K ca (fun _ => False) H (.n 0) vs (xs.map (·.1)) []
  | _, _, .nil => .nil
  | _, _, .cons (x := x) h r => .cons (A := []) (B := []) (M.Rep.lift h) r.bor
end
end M

/-! MiniV: evaluations are right. -/
namespace M
open PySem PySem.Spec PyProof.Rows L2
section
variable {K : PySem.W.Frag} {ca : CA} {bad bad' : Bad} {H H' H0 H1 : Hp} {W : WX} {σ : L2.St} {T : Tb} {Φ : Fi}
theorem Ex'.same (h : Ex' bad H) (s : Same H H') : Ex' bad H' := fun a q => by
  cases e : H a with
  | none => exact absurd e (h a q)
  | some o => rw [s a o e]; exact fun z => nomatch z
def PV (K : PySem.W.Frag) (ca : CA) (bad : Bad) (H : Hp) : DL → V → Hp → Prop := fun x v H' => ∃ A, Res K ca bad H x.1 x.2 v H' A
def PL (K : PySem.W.Frag) (ca : CA) (bad : Bad) (H : Hp) : List DL → List V → Hp → Prop := fun xs vs H' => ∃ A, ResL K ca bad H xs vs H' A
def PB (H : Hp) {α : Type} : α → α → Hp → Prop := fun b b' H' => b' = b ∧ Same H H'
def PJ (K : PySem.W.Frag) (ca : CA) (bad : Bad) (H : Hp) : List D × Lv → It → Hp → Prop := fun its J H' => Same H H' ∧ ItOk K ca bad H' J its.1 its.2
theorem PV.same {x : DL} {v : V} (h : PV K ca bad H x v H') : Same H H' := h.choose_spec.same
theorem PV.frz {x : DL} {v : V} (hb : Ex' bad H) (h : PV K ca bad H x v H') : Rep K ca bad H' x.2.frz v x.1 [] := h.choose_spec.frz hb
theorem PV.trans {x : DL} {v : V} (s : Same H H1) (h : PV K ca bad H1 x v H') : PV K ca bad H x v H' := ⟨_, h.choose_spec.trans s⟩
theorem PV.of_v {x : DL} {v : V} (e : x.1.v = some v) : PV K ca bad H x v H := ⟨[], .of_v _ e⟩
theorem ev1 {α β : Type} {ra : R DL} {ta : TE} {f : DL → R α} {post' : α → β → Hp → Prop} {k : V → Hp → (β → Hp → Prop) → Prop} (hb : Ex' bad H) (ha : EvG ca W σ H ra (PV K ca bad H) (fun Q => ta σ H Q))
    (g : ∀ x v H1, ra = .ok x → Same H H1 → Ex' bad H1 → Rep K ca bad H1 x.2.frz v x.1 [] → EvG ca W σ H1 (f x) post' (k v H1)) : EvG ca W σ H (ra.bind f) post' (fun Q => ta σ H fun v H1 => k v H1 Q) :=
  EvG.bind (k := k) ha (fun _ _ _ h => h.same) fun x v H1 e h => g x v H1 e h.same (hb.same h.same) (h.frz hb)
theorem ev2 {α β : Type} {ra rb : R DL} {ta tb : TE} {f : DL → DL → R α} {post' : α → β → Hp → Prop} {k : V → V → Hp → (β → Hp → Prop) → Prop} (hb : Ex' bad H) (ha : EvG ca W σ H ra (PV K ca bad H) (fun Q => ta σ H Q))
    (hb2 : ∀ H1, Same H H1 → Ex' bad H1 → EvG ca W σ H1 rb (PV K ca bad H1) (fun Q => tb σ H1 Q))
    (g : ∀ x y v w H2, ra = .ok x → rb = .ok y → Same H H2 → Ex' bad H2 → Rep K ca bad H2 x.2.frz v x.1 [] → Rep K ca bad H2 y.2.frz w y.1 [] → EvG ca W σ H2 (f x y) post' (k v w H2)) :
    EvG ca W σ H (ra.bind fun x => rb.bind fun y => f x y) post' (fun Q => ta σ H fun v H1 => tb σ H1 fun w H2 => k v w H2 Q) :=
  ev1 (k := fun v H1 Q => tb σ H1 fun w H2 => k v w H2 Q) hb ha fun x v H1 e1 s1 b1 r1 => ev1 (k := k v) b1 (hb2 H1 s1 b1) fun y w H2 e2 s2 b2 r2 => g x y v w H2 e1 e2 (same_trans s1 s2) b2 (r1.keep0 s2) r2
theorem ev3 {α β : Type} {ra rb rc : R DL} {ta tb tc : TE} {f : DL → DL → DL → R α} {post' : α → β → Hp → Prop} {k : V → V → V → Hp → (β → Hp → Prop) → Prop} (hb : Ex' bad H) (ha : EvG ca W σ H ra (PV K ca bad H) (fun Q => ta σ H Q))
    (hb2 : ∀ H1, Same H H1 → Ex' bad H1 → EvG ca W σ H1 rb (PV K ca bad H1) (fun Q => tb σ H1 Q)) (hb3 : ∀ H1, Same H H1 → Ex' bad H1 → EvG ca W σ H1 rc (PV K ca bad H1) (fun Q => tc σ H1 Q))
    (g : ∀ x y z v w u H2, Same H H2 → Ex' bad H2 → Rep K ca bad H2 x.2.frz v x.1 [] → Rep K ca bad H2 y.2.frz w y.1 [] → Rep K ca bad H2 z.2.frz u z.1 [] → EvG ca W σ H2 (f x y z) post' (k v w u H2)) :
    EvG ca W σ H (ra.bind fun x => rb.bind fun y => rc.bind fun z => f x y z) post' (fun Q => ta σ H fun v H1 => tb σ H1 fun w H2 => tc σ H2 fun u H3 => k v w u H3 Q) :=
  ev2 (k := fun v w H2 Q => tc σ H2 fun u H3 => k v w u H3 Q) hb ha hb2 fun x y v w H2 _ _ s2 b2 r1 r2 => ev1 (k := k v w) b2 (hb3 H2 s2 b2) fun z u H3 _ s3 b3 r3 => g x y z v w u H3 (same_trans s2 s3) b3 (r1.keep0 s3) (r2.keep0 s3) r3
theorem of_op {r : R DL} {c : VK → Prop} (s : Same H H1) (hn : ∀ C x, r ≠ .err C x) (h : ∀ x, r = .ok x → ∀ Q : VK, (∀ z H' A', Res K ca bad H1 x.1 x.2 z H' A' → Q z H') → c Q) : EvG ca W σ H1 r (PV K ca bad H) c :=
  .of_ok hn fun x e Q q => h x e Q fun z H' A' hr => q z H' ⟨A', hr.trans s⟩
theorem of_val {x : DL} {v : V} {c : VK → Prop} (s : Same H H1) (e : x.1.v = some v) (h : ∀ Q : VK, Q v H1 → c Q) : EvG ca W σ H1 (.ok x) (PV K ca bad H) c :=
  fun Q q => h Q (q v H1 ⟨[], (Res.of_v _ e).trans s⟩)
theorem callD_ok (hF : FiOk K ca T Φ) {f : Str} {ff : FF} (hf : Φ.fn f = some ff) {vs : List V} {xs : List DL} (hb : Ex' bad H) (hx : FzL K ca bad H vs xs) :
    ∃ fe, T.fn f = some fe ∧ EvG ca W σ H (callD ff xs) (PV K ca bad H) (fun Q => fe.sp (vs ++ fe.dvs) H Q (WE W σ)) := by
  obtain ⟨fe, e1, hd, hs⟩ := hF.fn f ff hf
  refine ⟨fe, e1, ?_⟩
  unfold callD
  by_cases hbo : xs.any isBo = true
  · have hr : Reps K ca (fun _ => False) H (.n 0) (vs ++ fe.dvs) (xs.map (·.1) ++ ff.dfs) [] := hx.bor.append (hd _ _)
    cases e : ff.run (xs.map (·.1) ++ ff.dfs) with
    | stuck => trivial
    | err C x =>
      intro w Q
      refine hs _ _ _ _ ⟨_, _, fun _ z => z.elim, hr, ?_⟩
      rw [e]
      exact w
    | ok x =>
      intro Q q
      refine hs _ _ _ _ ⟨_, _, fun _ z => z.elim, hr, ?_⟩
      rw [e]
      intro v H' A h
      refine q v H' ?_
      show PV K ca bad H (x.1, callL xs x.2) v H'
      unfold callL
      rw [if_pos hbo]
      cases el : x.2 with
      | al =>
        have := h.rep
        rw [el] at this
        exact ⟨A, h.same, this.alone, h.nd, h.fr⟩
      | bo => exact ⟨[], h.same, h.rep.borrow, .nil, fun _ z => nomatch z⟩
      | n k => exact ⟨[], h.same, h.rep.borrow, .nil, fun _ z => nomatch z⟩
  · rw [Bool.not_eq_true] at hbo
    have hr : Reps K ca bad H (.n 0) (vs ++ fe.dvs) (xs.map (·.1) ++ ff.dfs) [] := (hx.reps hbo).append (hd _ _)
    cases e : ff.run (xs.map (·.1) ++ ff.dfs) with
    | stuck => trivial
    | err C x =>
      intro w Q
      refine hs _ _ _ _ ⟨_, _, hb, hr, ?_⟩
      rw [e]
      exact w
    | ok x =>
      intro Q q
      refine hs _ _ _ _ ⟨_, _, hb, hr, ?_⟩
      rw [e]
      intro v H' A h
      refine q v H' ?_
      show PV K ca bad H (x.1, callL xs x.2) v H'
      unfold callL
      rw [hbo, if_neg Bool.false_ne_true]
      exact ⟨A, h⟩
theorem wipe_get {σ : L2.St} {j : Nat} : ∀ {vs : List Nat}, (L2.wipe σ vs)[j]? = if j ∈ vs then (σ[j]?).map (fun _ => none) else σ[j]?
  | [] => by simp [L2.wipe]
  | v :: vs => by
    show ((L2.wipe σ vs).set v none)[j]? = _
    rw [List.getElem?_set, wipe_get (vs := vs), wipe_length]
    by_cases c : v = j
    · subst c
      rw [if_pos rfl, if_pos List.mem_cons_self]
      by_cases c2 : v < σ.length
      · rw [if_pos c2, List.getElem?_eq_getElem c2]; rfl
      · rw [if_neg c2, List.getElem?_eq_none (Nat.le_of_not_lt c2)]; rfl
    · rw [if_neg c]
      have : (j ∈ v :: vs) = (j ∈ vs) := by rw [List.mem_cons]; exact propext ⟨fun z => z.elim (fun e => absurd e.symm c) id, .inr⟩
      simp only [this]
theorem wipe_set {σ : L2.St} {i : Nat} {o : Option V} {vs : List Nat} (h : i ∈ vs) : L2.wipe (σ.set i o) vs = L2.wipe σ vs := by
  apply List.ext_getElem?
  intro j
  rw [wipe_get, wipe_get, List.getElem?_set]
  by_cases c : i = j
  · subst c
    rw [if_pos h, if_pos h, if_pos rfl]
    by_cases c2 : i < σ.length
    · rw [if_pos c2, List.getElem?_eq_getElem c2]; rfl
    · rw [if_neg c2, List.getElem?_eq_none (Nat.le_of_not_lt c2)]
  · rw [if_neg c]
mutual
theorem bdG_ok : ∀ (g : G) {d : D} {l : Lv} {η η' : En} {v : V} {σ : L2.St}, EnvR K ca bad H σ η → l.own = false → Rep K ca bad H l v d [] → bdG g d l η = .ok η' →
    ∃ σ', EnvR K ca bad H σ' η' ∧ (∀ vs, inG vs g = true → L2.wipe σ' vs = L2.wipe σ vs) ∧ ∀ Q : L2.St → Hp → Prop, Q σ' H → rdG T K W g v σ H Q
  | .nm i, d, l, η, η', v, σ, he, hl, hr, h => by
    simp only [bdG, R.ok.injEq] at h
    subst h
    refine ⟨σ.set i (some v), he.set hl hr, fun vs hv => ?_, fun Q q => by simp only [rdG]; exact q⟩
    simp only [inG] at hv
    exact wipe_set (List.contains_iff_mem.mp hv)
  | .tp gs, d, l, η, η', v, σ, he, hl, hr, h => by
    simp only [bdG] at h
    split at h
    · rename_i ds e
      obtain ⟨a, vs, e1, e2, e3⟩ := hr.nodeQ e
      obtain ⟨σ', h1, h2, h3, h4⟩ := bdGs_ok gs he hl e3 h
      refine ⟨σ', h1, fun vs hv => h2 vs (by simpa only [inG] using hv), fun Q q => ?_⟩
      simp only [rdG]
      rcases e2 with e2 | e2
      · exact .inr ⟨a, vs, e1, e2, h3, h4 Q q⟩
      · exact .inl ⟨a, vs, e1, e2, h3, h4 Q q⟩
    · cases h
  | .fl _ _, _, _, _, _, _, _, _, _, _, h => by simp only [bdG] at h; cases h
  | .sb _ _, _, _, _, _, _, _, _, _, _, h => by simp only [bdG] at h; cases h
theorem bdGs_ok : ∀ (gs : Gs) {ds : List D} {l : Lv} {η η' : En} {vs : List V} {σ : L2.St}, EnvR K ca bad H σ η → l.own = false → Reps K ca bad H l vs ds [] → bdGs gs ds l η = .ok η' →
    ∃ σ', EnvR K ca bad H σ' η' ∧ (∀ us, inGs us gs = true → L2.wipe σ' us = L2.wipe σ us) ∧ vs.length = gsLen gs ∧ ∀ Q : L2.St → Hp → Prop, Q σ' H → rdGs T K W gs vs σ H Q
  | .nil, [], l, η, η', vs, σ, he, hl, hr, h => by
    simp only [bdGs, R.ok.injEq] at h
    subst h
    have e := List.length_eq_zero_iff.mp hr.length
    subst e
    exact ⟨σ, he, fun _ _ => rfl, rfl, fun Q q => by simp only [rdGs]; exact ⟨rfl, q⟩⟩
  | .cons g r, d :: ds, l, η, η', v :: vs, σ, he, hl, hr, h => by
    simp only [bdGs] at h
    obtain ⟨η1, h1, h2⟩ := bind_ok h
    obtain ⟨σ1, a1, a2, a3⟩ := bdG_ok g he hl hr.uncons.1 h1
    obtain ⟨σ2, b1, b2, b3, b4⟩ := bdGs_ok r a1 hl hr.uncons.2 h2
    refine ⟨σ2, b1, fun us hu => ?_, by rw [List.length_cons, b3]; rfl, fun Q q => ?_⟩
    · simp only [inGs, Bool.and_eq_true] at hu
      rw [b2 us hu.2, a2 us hu.1]
    · simp only [rdGs]
      exact ⟨v, vs, rfl, a3 _ (b4 Q q)⟩
  | .cons g r, d :: ds, l, η, η', [], σ, he, hl, hr, h => by cases hr.length
  | .nil, _ :: _, _, _, _, _, _, _, _, _, h => by simp only [bdGs] at h; cases h
  | .cons _ _, [], _, _, _, _, _, _, _, _, h => by simp only [bdGs] at h; cases h
end
end
end M

/-! MiniW: what is walked over; comprehensions. -/
namespace M
open PySem PySem.Spec PyProof.Rows L2
section
variable {K : PySem.W.Frag} {ca : CA} {bad bad' : Bad} {H H' H0 H1 : Hp} {W : WX} {σ : L2.St} {T : Tb} {Φ : Fi}
theorem Rep.keepL {l : Lv} {v : V} {d : D} (h : Rep K ca bad H l v d []) (s : l = .bo → Same H H') (k : l ≠ .bo → Keep bad H bad' H') : Rep K ca bad' H' l v d [] := h.keep k s fun _ z => nomatch z
theorem lt_or {i n : Nat} {p q : Prop} (h1 : i < n → p) (h2 : n ≤ i → q) : i < n ∧ p ∨ n ≤ i ∧ q := by
  by_cases c : i < n
  · exact .inl ⟨c, h1 c⟩
  · exact .inr ⟨Nat.le_of_not_lt c, h2 (Nat.le_of_not_lt c)⟩
theorem itl_ok {l : Lv} {v : V} {d : D} {ds : List D} (hl : l.own = false) (h : Rep K ca bad H l v d []) (e : d.asL = some ds) : ∃ a, v = .ref a ∧ (∃ xs, SqL K H a xs) ∧ ItOk K ca bad H (Itl K a) ds l := by
  obtain ⟨a, vs, e1, e2, e3⟩ := h.nodeL e
  subst e1
  refine ⟨a, rfl, ⟨vs, e2⟩, hl, fun b H' hb s k i => ?_⟩
  obtain ⟨a', vs', e1, f2, f3⟩ := (h.keepL s k).nodeL e
  cases e1
  refine ⟨lt_or (fun c => ?_) fun c => ⟨vs', f2, by rw [f3.length]; exact c⟩, fun c x H2 y => ?_⟩
  · have c' : i < vs'.length := by rw [f3.length]; exact c
    exact ⟨vs', vs'[i], f2, List.getElem?_eq_getElem c'⟩
  · obtain ⟨rfl, y⟩ := y
    refine ⟨Same.refl _, ds[i], List.getElem?_eq_getElem c, ?_⟩
    obtain ⟨u, h1, h2⟩ := f3.get (List.getElem?_eq_getElem c)
    rw [y vs' f2] at h1
    cases h1
    exact h2
theorem itt_ok {l : Lv} {v : V} {d : D} {ds : List D} (hl : l.own = false) (h : Rep K ca bad H l v d []) (e : d.asT = some ds) : ∃ a, v = .ref a ∧ (∃ xs, SqT K H a xs) ∧ ItOk K ca bad H (Itt K a) ds l := by
  obtain ⟨a, vs, e1, e2, e3⟩ := h.nodeT e
  subst e1
  refine ⟨a, rfl, ⟨vs, e2⟩, hl, fun b H' hb s k i => ?_⟩
  obtain ⟨a', vs', e1, f2, f3⟩ := (h.keepL s k).nodeT e
  cases e1
  refine ⟨lt_or (fun c => ?_) fun c => ⟨vs', f2, by rw [f3.length]; exact c⟩, fun c x H2 y => ?_⟩
  · have c' : i < vs'.length := by rw [f3.length]; exact c
    exact ⟨vs', vs'[i], f2, List.getElem?_eq_getElem c'⟩
  · obtain ⟨rfl, y⟩ := y
    refine ⟨Same.refl _, ds[i], List.getElem?_eq_getElem c, ?_⟩
    obtain ⟨u, h1, h2⟩ := f3.get (List.getElem?_eq_getElem c)
    rw [y vs' f2] at h1
    cases h1
    exact h2
theorem its_ok (x : Str) : ItOk K ca bad H (Its x) (x.cps.toList.map fun c => .str ⟨#[c]⟩) (.n 0) := by
  refine ⟨rfl, fun b H' hb s k i => ⟨?_, fun c v H2 y => ?_⟩⟩
  · rw [List.length_map, Array.length_toList]
    exact lt_or (fun c => c) fun c => c
  · obtain ⟨rfl, ch, h1, rfl⟩ := y
    refine ⟨Same.refl _, .str ⟨#[ch]⟩, ?_, .str _ _⟩
    rw [List.getElem?_map, Array.getElem?_toList, h1]
    rfl
theorem itr_ok (lo : Int) (n : Nat) : ItOk K ca bad H (Itr lo n) ((List.range n).map fun k => .int (lo + (k : Nat))) (.n 0) := by
  refine ⟨rfl, fun b H' hb s k i => ⟨?_, fun c v H2 y => ?_⟩⟩
  · rw [List.length_map, List.length_range]
    exact lt_or (fun c => c) fun c => c
  · obtain ⟨rfl, rfl⟩ := y
    rw [List.length_map, List.length_range] at c
    refine ⟨Same.refl _, .int (lo + i), ?_, .int _ _⟩
    rw [List.getElem?_map, List.getElem?_range c]
    rfl
theorem itc_ok (lo st : Int) (n : Nat) : ItOk K ca bad H (Itc lo st n) ((List.range n).map fun k => .int (lo + (k : Nat) * st)) (.n 0) := by
  refine ⟨rfl, fun b H' hb s k i => ⟨?_, fun c v H2 y => ?_⟩⟩
  · rw [List.length_map, List.length_range]
    exact lt_or (fun c => c) fun c => c
  · obtain ⟨rfl, rfl⟩ := y
    rw [List.length_map, List.length_range] at c
    refine ⟨Same.refl _, .int (lo + i * st), ?_, .int _ _⟩
    rw [List.getElem?_map, List.getElem?_range c]
    rfl
theorem pair_ok {l : Lv} {v w : V} {d e : D} {p : Addr} (hl : l.own = false) (hb : Ex' bad H) (h1 : Rep K ca bad H l v d []) (h2 : Rep K ca bad H l w e []) (hp : H p = none) : Rep K ca bad (upd H p (.tup [v, w])) l (.ref p) (.nd .tup [d, e]) [] := by
  have s := same_upd (u := .tup [v, w]) hp
  exact .sh hl (.inl ⟨(upd_at : upd H p (.tup [v, w]) p = _), fun _ q => hb p q hp⟩) (.cons (A := []) (B := []) (h1.keep0 s) (.cons (A := []) (B := []) (h2.keep0 s) .nil))
theorem ite_ok {l : Lv} {v : V} {d : D} {ds : List D} (hl : l.own = false) (h : Rep K ca bad H l v d []) (e : d.asL = some ds) : ∃ a xs, v = .ref a ∧ SqL K H a xs ∧ ItOk K ca bad H (Ite K a) (ds.mapIdx fun k d => .nd .tup [.int (k : Nat), d]) l := by
  obtain ⟨a, vs, e1, e2, e3⟩ := h.nodeL e
  subst e1
  refine ⟨a, vs, rfl, e2, hl, fun b H' hb s k i => ?_⟩
  obtain ⟨a', vs', e1, f2, f3⟩ := (h.keepL s k).nodeL e
  cases e1
  rw [List.length_mapIdx]
  refine ⟨lt_or (fun c => ?_) fun c => ⟨vs', f2, by rw [f3.length]; exact c⟩, fun c x H2 y => ?_⟩
  · have c' : i < vs'.length := by rw [f3.length]; exact c
    exact ⟨vs', vs'[i], f2, List.getElem?_eq_getElem c'⟩
  · obtain ⟨T, x', rfl, hT, rfl, y⟩ := y
    refine ⟨same_upd hT, .nd .tup [.int (i : Nat), ds[i]], ?_, ?_⟩
    · rw [List.getElem?_mapIdx, List.getElem?_eq_getElem c]; rfl
    · obtain ⟨u, h1, h2⟩ := f3.get (List.getElem?_eq_getElem c)
      rw [y vs' f2] at h1
      cases h1
      exact pair_ok hl hb (.int _ _) h2 hT
theorem itz_ok {l : Lv} {v w : V} {d d' : D} {ds es : List D} (hl : l.own = false) (h : Rep K ca bad H l v d []) (e : d.asL = some ds) (h' : Rep K ca bad H l w d' []) (e' : d'.asL = some es) :
    ∃ a b xs ys, v = .ref a ∧ w = .ref b ∧ SqL K H a xs ∧ SqL K H b ys ∧ ItOk K ca bad H (Itz K a b) (List.zipWith (fun d e => .nd .tup [d, e]) ds es) l := by
  obtain ⟨a, vs, e1, e2, e3⟩ := h.nodeL e
  obtain ⟨b, ws, g1, g2, g3⟩ := h'.nodeL e'
  subst e1
  subst g1
  refine ⟨a, b, vs, ws, rfl, rfl, e2, g2, hl, fun bd H' hb s k i => ?_⟩
  obtain ⟨a', vs', e1, f2, f3⟩ := (h.keepL s k).nodeL e
  cases e1
  obtain ⟨b', ws', e1, j2, j3⟩ := (h'.keepL s k).nodeL e'
  cases e1
  rw [List.length_zipWith]
  refine ⟨lt_or (fun c => ?_) fun c => ⟨vs', ws', f2, j2, by rw [f3.length, j3.length]; omega⟩, fun c x H2 y => ?_⟩
  · have c' : i < vs'.length := by rw [f3.length]; omega
    have c2 : i < ws'.length := by rw [j3.length]; omega
    exact ⟨vs', ws', vs'[i], ws'[i], f2, j2, List.getElem?_eq_getElem c', List.getElem?_eq_getElem c2⟩
  · obtain ⟨T, x', y', rfl, hT, rfl, y1, y2⟩ := y
    have c1 : i < ds.length := by omega
    have c2 : i < es.length := by omega
    refine ⟨same_upd hT, .nd .tup [ds[i], es[i]], ?_, ?_⟩
    · rw [List.getElem?_zipWith, List.getElem?_eq_getElem c1, List.getElem?_eq_getElem c2]
    · obtain ⟨u, h1, h2⟩ := f3.get (List.getElem?_eq_getElem c1)
      obtain ⟨u', h1', h2'⟩ := j3.get (List.getElem?_eq_getElem c2)
      rw [y1 vs' f2] at h1
      rw [y2 ws' j2] at h1'
      cases h1
      cases h1'
      exact pair_ok hl hb h2 h2' hT
theorem wipe_wipe {vs : List Nat} : L2.wipe (L2.wipe σ vs) vs = L2.wipe σ vs := by
  apply List.ext_getElem?
  intro j
  rw [wipe_get, wipe_get]
  split
  · cases σ[j]? <;> rfl
  · rfl
theorem Res.nl {d : D} {l : Lv} {v : V} {A : List Addr} (h : Res K ca bad H d l v H' A) : Res K ca bad H d (nl d l) v H' A := by
  unfold M.nl
  split
  · rename_i e
    refine ⟨h.same, ?_, h.nd, h.fr⟩
    have := (h.rep.sc e).1
    subst this
    exact h.rep.scal e
  · exact h
theorem nl_bo {x : DL} (h : isBo x = false) : nl x.1 x.2 ≠ .bo := by
  unfold isBo at h
  unfold nl
  split
  · exact fun z => nomatch z
  · rename_i c
    rw [Bool.not_eq_true] at c
    rw [c] at h
    intro z
    rw [z] at h
    cases h
/-- the comprehension's list as it grows -/
structure LcI (K : PySem.W.Frag) (ca : CA) (bad : Bad) (H1 : Hp) (Dl : Addr) (n : Nat) (bd : D → R En) (t : En → R Bool) (f : En → R DL) (ds : List D) (xs : List DL) (i m : Nat) (H : Hp) : Prop where
  run : ∃ (done rest : List DL) (acc : List V) (A : List Addr), xs = done ++ rest ∧ lcR bd t f (ds.drop i) = .ok rest ∧ H Dl = some (.lst acc) ∧ RepL K ca (fun a => bad a ∨ a ∈ Dl :: A) H acc done A ∧ (Dl :: A).Nodup ∧ (∀ a ∈ A, H1 a = none) ∧ ∀ x ∈ done, x.2 ≠ .bo
  ext : ∀ a o, H1 a = some o → H a = some o
  le : i ≤ ds.length
  fuel : m = ds.length - i
theorem RepL.snoc : ∀ {vs : List V} {xs : List DL} {A : List Addr} {v : V} {x : DL} {B : List Addr}, RepL K ca bad H vs xs A → Rep K ca bad H x.2 v x.1 B → ∃ C, C.Perm (A ++ B) ∧ RepL K ca bad H (vs ++ [v]) (xs ++ [x]) C
  | _, _, _, _, _, B, .nil, h => ⟨B ++ [], by simp, .cons h .nil⟩
  | _, _, _, _, _, B, .cons (A := A) (B := B') h r, h' => by
    obtain ⟨C, p, q⟩ := r.snoc h'
    refine ⟨A ++ C, ?_, .cons h q⟩
    rw [List.append_assoc]
    exact p.append_left A
theorem lc_ok {W0 : WX} {J : It} {ds : List D} {li : Lv} {g : G} {own : List Nat} {η : En} {ft : En → R Bool} {fe : En → R DL} {tt : TT} {te : TE} {xs : List DL}
    (hb : Ex' bad H) (he : EnvR K ca bad H σ η) (hJ : ItOk K ca bad H J ds li) (hin : inG own g = true) (hx : lcR (fun d => bdG g d li (wipeE η own)) ft fe ds = .ok xs) (hz : xs.length ≤ sizeLine)
    (ht : ∀ σ η bad H, Ex' bad H → EnvR K ca bad H σ η → EvG ca W0 σ H (ft η) (PB H) (fun Q => tt σ H Q)) (hE : ∀ σ η bad H, Ex' bad H → EnvR K ca bad H σ η → EvG ca W0 σ H (fe η) (PV K ca bad H) (fun Q => te σ H Q))
    {Q : VK} (q : ∀ v H' A, Res K ca bad H (.nd .lst (xs.map (·.1))) (dsp xs) v H' A → Q v H') : ∀ Dl, H Dl = none → ∃ Wv : Nat → Nat → Hp → Prop, (∃ m, Wv 0 m (upd H Dl (.lst []))) ∧ ∀ i m H', Wv i m H' →
      (J.stop i H' ∧ Q (.ref Dl) H') ∨ (J.go i H' ∧ ∃ Nx : Hp → Prop, (∀ H', Nx H' → ∃ m', m' < m ∧ Wv (i + 1) m' H') ∧ ∀ x H2, J.yld i H' x H2 → rdG T K WNo g x (L2.wipe σ own) H2 fun σ2 H2 => L2.wipe σ2 own = L2.wipe σ own ∧ tt σ2 H2 fun b H3 =>
        if b = true then te σ2 H3 fun y H4 => ∃ acc, H4 Dl = some (.lst acc) ∧ acc.length < sizeLine ∧ Nx (upd H4 Dl (.lst (acc ++ [y]))) else Nx H3) := by
  intro Dl hD
  refine ⟨LcI K ca bad H Dl ds.length (fun d => bdG g d li (wipeE η own)) ft fe ds xs, ⟨ds.length - 0, ⟨[], xs, [], [], rfl, hx, upd_at, .nil, by simp, (fun _ z => nomatch z), fun _ z => nomatch z⟩, same_upd hD, Nat.zero_le _, rfl⟩, ?_⟩
  rintro i m H' ⟨⟨done, rest, acc, A, rfl, hr, hDl, hacc, hnd, hA, hbo⟩, hext, hle, hm⟩
  have hs : Same H H' := hext
  have hb' : Ex' (fun a => bad a ∨ a ∈ Dl :: A) H' := fun a z => by
    rcases z with z | z
    · exact hb.same hs a z
    · rcases List.mem_cons.mp z with e | z
      · rw [e, hDl]; exact fun z => nomatch z
      · exact hacc.there a z
  have hnew : ∀ a ∈ Dl :: A, H a = none := fun a z => by
    rcases List.mem_cons.mp z with e | z
    · rw [e]; exact hD
    · exact hA a z
  have hk : Keep bad H (fun a => bad a ∨ a ∈ Dl :: A) H' := keep_more hs hnew
  obtain ⟨j1, j2⟩ := hJ.2 _ H' hb' (fun _ => hs) (fun _ => hk) i
  rcases j1 with ⟨c, jg⟩ | ⟨c, js⟩
  · refine .inr ⟨jg, fun H5 => ∃ m', m' < m ∧ LcI K ca bad H Dl ds.length (fun d => bdG g d li (wipeE η own)) ft fe ds (done ++ rest) (i + 1) m' H5, fun _ z => z, fun x H2 hy => ?_⟩
    obtain ⟨s2, d, ed, rd⟩ := j2 c x H2 hy
    have edr : ds.drop i = d :: ds.drop (i + 1) := by
      rw [List.drop_eq_getElem_cons c]
      have := (List.getElem?_eq_some_iff.mp ed).2
      rw [this]
    rw [edr] at hr
    simp only [lcR] at hr
    obtain ⟨η2, b1, hr⟩ := bind_ok hr
    obtain ⟨tb, b2, hr⟩ := bind_ok hr
    have he2 : EnvR K ca (fun a => bad a ∨ a ∈ Dl :: A) H2 (L2.wipe σ own) (wipeE η own) := ((he.keep hs hk).keep0 s2).wipe own
    obtain ⟨σ2, g1, g2, g3⟩ := bdG_ok (T := T) (W := WNo) g he2 hJ.1 rd b1
    have hb2 := hb'.same s2
    refine g3 _ ⟨by rw [g2 own hin, wipe_wipe], ?_⟩
    have t1 := ht σ2 η2 _ H2 hb2 g1
    rw [b2] at t1
    refine t1 _ fun bb H3 hp => ?_
    obtain ⟨rfl, s3⟩ := hp
    have hb3 := hb2.same s3
    have s23 : Same H' H3 := same_trans s2 s3
    have hacc3 := hacc.keep (keep_same s23) (.inl s23) (fun a _ u => s23 a u)
    by_cases cb : bb = true
    · rw [if_pos cb] at hr ⊢
      obtain ⟨y, b3, hr⟩ := bind_ok hr
      by_cases hy0 : isBo y = true
      · rw [if_pos hy0] at hr; cases hr
      rw [if_neg hy0] at hr
      rw [Bool.not_eq_true] at hy0
      obtain ⟨rest', b4, hr⟩ := bind_ok hr
      cases hr
      have e1 := hE σ2 η2 _ H3 hb3 (g1.keep0 s3)
      rw [b3] at e1
      refine e1 _ fun v H4 hp => ?_
      obtain ⟨B, hB⟩ := hp
      have s34 : Same H' H4 := same_trans s23 hB.same
      refine ⟨acc, s34 _ _ hDl, ?_, ds.length - (i + 1), by omega, ?_⟩
      · have := hacc.length
        rw [List.length_append, List.length_cons] at hz
        omega
      have r4 := hacc3.keep (bad' := fun a => (bad a ∨ a ∈ Dl :: A) ∨ a ∈ B) (keep_more hB.same hB.fr) (.inl hB.same) (fun a _ u => hB.same a u)
      obtain ⟨C, pC, rC⟩ := r4.snoc (v := v) (x := (y.1, nl y.1 y.2)) hB.nl.rep
      have hBnew : ∀ a ∈ B, a ∉ Dl :: A := fun a ha z => by
        have h3 := hB.fr a ha
        rcases List.mem_cons.mp z with e | z
        · rw [e, s23 _ _ hDl] at h3; cases h3
        · exact hacc3.there a z h3
      have hCm : ∀ a, a ∈ C ↔ a ∈ A ∨ a ∈ B := fun a => by rw [pC.mem_iff, List.mem_append]
      have hDC : Dl ∉ C := fun z => by
        rcases (hCm _).mp z with z | z
        · exact (List.nodup_cons.mp hnd).1 z
        · exact hBnew _ z List.mem_cons_self
      have hbo2 : ∀ x ∈ done ++ [(y.1, nl y.1 y.2)], x.2 ≠ .bo := fun x hx => by
        rcases List.mem_append.mp hx with z | z
        · exact hbo x z
        · rw [List.mem_singleton.mp z]
          exact nl_bo hy0
      refine ⟨⟨done ++ [(y.1, nl y.1 y.2)], rest', acc ++ [v], C, by simp, b4, upd_at, ?_, ?_, ?_, hbo2⟩, ?_, c, rfl⟩
      · refine rC.keep (fun a o e n => ⟨?_, fun z => n ?_⟩) (.inr hbo2) fun a ha u e => ?_
        · rw [upd_ne (fun z => n (.inl (.inr (by rw [z]; exact List.mem_cons_self))))]
          exact e
        · rcases z with z | z
          · exact .inl (.inl z)
          · rcases List.mem_cons.mp z with z | z
            · exact .inl (.inr (by rw [z]; exact List.mem_cons_self))
            · rcases (hCm a).mp z with z | z
              · exact .inl (.inr (List.mem_cons_of_mem _ z))
              · exact .inr z
        · rw [upd_ne (fun z => hDC (by rw [← z]; exact ha))]
          exact e
      · refine List.nodup_cons.mpr ⟨hDC, pC.nodup_iff.mpr (nodup_app (List.nodup_cons.mp hnd).2 hB.nd fun a ha hb => hBnew a hb (List.mem_cons_of_mem _ ha))⟩
      · intro a ha
        rcases (hCm a).mp ha with z | z
        · exact hA a z
        · exact same_none (same_trans hs s23) (hB.fr a z)
      · intro a o e
        rw [upd_ne (fun z => by rw [z, hD] at e; cases e)]
        exact s34 a o (hext a o e)
    · rw [if_neg cb] at hr ⊢
      refine ⟨ds.length - (i + 1), by omega, ⟨done, rest, acc, A, rfl, hr, s23 _ _ hDl, hacc3, hnd, hA, hbo⟩, fun a o e => s23 a o (hext a o e), c, rfl⟩
  · refine .inl ⟨js, ?_⟩
    have : ds.drop i = [] := List.drop_eq_nil_of_le c
    rw [this] at hr
    simp only [lcR, R.ok.injEq] at hr
    subst hr
    rw [List.append_nil] at q
    obtain ⟨A', sA, rA⟩ := node_of (k := .lst) hDl rfl hacc hnd fun a m z => hb a z (hnew a m)
    exact q _ H' A' ⟨hs, rA, hnd.sublist sA, fun a m => hnew a (sA.subset m)⟩
end
end M

/-! MiniX: the evaluator is right. -/
namespace M
open PySem PySem.Spec PyProof.Rows L2
section
variable {K : PySem.W.Frag} {ca : CA} {T : Tb} {Φ : Fi}
theorem bl_of {b : Bool} : (D.bl b).v = some (.bl b) := rfl
theorem of_ok2 {α β : Type} {W : WX} {σ : L2.St} {H : Hp} {a : α} {post : α → β → Hp → Prop} {c : (β → Hp → Prop) → Prop} (h : ∀ Q : β → Hp → Prop, (∀ b H', post a b H' → Q b H') → c Q) : EvG ca W σ H (.ok a) post c := h
theorem EvG.imp {α β : Type} {W : WX} {σ : L2.St} {H : Hp} {r : R α} {post : α → β → Hp → Prop} {c c' : (β → Hp → Prop) → Prop} (h : EvG ca W σ H r post c) (i : ∀ Q, c Q → c' Q) : EvG ca W σ H r post c' := by
  cases r with
  | ok a => exact fun Q q => i Q (h Q q)
  | err C x => exact fun w Q => i Q (h w Q)
  | stuck => trivial
theorem Vd_v : ∀ {v : V} {d : D}, Vd v = some d → d.v = some v
  | .non, _, h => by cases h; rfl
  | .bl _, _, h => by cases h; rfl
  | .int _, _, h => by cases h; rfl
  | .str _, _, h => by cases h; rfl
theorem Rep.is_non {bad : Bad} {H : Hp} {l : Lv} {v : V} {d : D} {A : List Addr} (h : Rep K ca bad H l v d A) : (d = .non → v = .non) ∧ (d ≠ .non → v ≠ .non) := by
  cases h with
  | non => exact ⟨(fun _ => rfl), (fun z => absurd rfl z)⟩
  | _ => exact ⟨(fun z => by cases z), (fun _ y => by cases y)⟩
theorem opK_ne {o : CO} {x y : D} {C : Str} {z : V} : opK o x y ≠ .err C z := by
  unfold opK
  split
  · exact fun z => nomatch z
  · exact fun z => nomatch z
  · exact opC_ne
theorem opK_ok {o : CO} {x y r : D} {l m : Lv} {v w : V} {bad : Bad} {H : Hp} (hx : Rep K ca bad H l v x []) (hl : l.own = false) (hy : Rep K ca bad H m w y []) (hm : m.own = false) (h : opK o x y = .ok r) :
    ∃ b, r = .bl b ∧ ∀ Q : VK, Q (.bl b) H → rCmp K o v w H Q := by
  unfold opK at h
  split at h
  · cases h
  · cases h
  · rename_i n1 n2
    obtain ⟨b, e, q, _, _⟩ := opC_ok hx hl hy hm h
    exact ⟨b, e, q n1 n2⟩
theorem tst_of {W : WX} {σ : L2.St} {bad : Bad} {H : Hp} {r : R DL} {ta : TE} (hb : Ex' bad H) (h : EvG ca W σ H r (PV K ca bad H) (fun Q => ta σ H Q)) :
    EvG ca W σ H (r.bind fun x => truD x.1) (PB H) (fun Q => ta σ H fun x H' => ∃ k, TruV K x H' k ∧ Q k H') :=
  ev1 (k := fun v H1 Q => ∃ k, TruV K v H1 k ∧ Q k H1) hb h fun x v H1 _ s b r => .of_ok (fun _ _ => truD_ne) fun k e Q q => ⟨k, truD_ok r e, q k H1 ⟨rfl, s⟩⟩
/-- a comparison -/
theorem cmp_ev {W : WX} {σ : L2.St} {bad : Bad} {H : Hp} {o : CO} {ra rb : R DL} {ta tb : TE} (hb : Ex' bad H) (ha : EvG ca W σ H ra (PV K ca bad H) (fun Q => ta σ H Q))
    (hb2 : ∀ H1, Same H H1 → Ex' bad H1 → EvG ca W σ H1 rb (PV K ca bad H1) (fun Q => tb σ H1 Q)) :
    ∀ {α : Type} {f : D → R α} (post : α → V → Hp → Prop), (∀ b, f (.bl b) = .stuck ∨ ∃ a, f (.bl b) = .ok a ∧ ∀ H', Same H H' → post a (.bl b) H') →
    EvG ca W σ H (ra.bind fun x => rb.bind fun y => (opC o x.1 y.1).bind f) post (fun Q => (match o with
      | .isin => teOr (tOp (rCmp K .isin) ta tb) (tDIn ta tb)
      | .notin => teOr (tOp (rCmp K .notin) ta tb) (tDNotIn ta tb)
      | o => tOp (rCmp K o) ta tb) σ H Q) := by
  intro α f post hf
  have fin : ∀ {H2 : Hp} {r : R D} {c : VK → Prop}, Same H H2 → (∀ C x, r ≠ .err C x) → (∀ d, r = .ok d → ∃ b, d = .bl b ∧ ∀ Q : VK, Q (.bl b) H2 → c Q) → EvG ca W σ H2 (r.bind f) post c := by
    intro H2 r c s hn h
    cases r with
    | ok d =>
      obtain ⟨b, rfl, hq⟩ := h d rfl
      rcases hf b with e | ⟨a, e, hp⟩
      · show EvG ca W σ H2 (f (.bl b)) post c
        rw [e]; trivial
      · show EvG ca W σ H2 (f (.bl b)) post c
        rw [e]
        exact fun Q q => hq Q (q _ _ (hp _ s))
    | err C x => exact absurd rfl (hn C x)
    | stuck => trivial
  by_cases cd : ∃ y, rb = .ok y ∧ y.1.isDic = true
  · obtain ⟨y, rfl, cd⟩ := cd
    by_cases c : o = .isin
    · subst c
      have key : EvG ca W σ H (ra.bind fun x => (R.ok y : R DL).bind fun y => (opC .isin x.1 y.1).bind f) post (fun Q => tDIn ta tb σ H Q) :=
        ev2 (f := fun x y => (opC .isin x.1 y.1).bind f) (post' := post) (k := fun v w H2 (Q : VK) => ∃ a o, w = .ref a ∧ DGet H2 a v o ∧ Q (.bl o.isSome) H2) hb ha hb2 fun x y' v w H2 _ ey s b2 r1 r2 => by
          cases ey
          refine fin s (fun _ _ => opC_ne) fun d e => ?_
          obtain ⟨b, e1, _, e2, _⟩ := opC_ok r1 (Lv.frz_own _) r2 (Lv.frz_own _) e
          rcases e2 rfl with ⟨z, _⟩ | ⟨_, a, ov, e3, e4, e5⟩
          · rw [cd] at z; cases z
          · subst e5
            exact ⟨_, e1, fun Q q => ⟨a, ov, e3, e4, q⟩⟩
      exact key.imp fun Q h => .inr h
    · by_cases c' : o = .notin
      · subst c'
        have key : EvG ca W σ H (ra.bind fun x => (R.ok y : R DL).bind fun y => (opC .notin x.1 y.1).bind f) post (fun Q => tDNotIn ta tb σ H Q) :=
          ev2 (f := fun x y => (opC .notin x.1 y.1).bind f) (post' := post) (k := fun v w H2 (Q : VK) => ∃ a o, w = .ref a ∧ DGet H2 a v o ∧ Q (.bl (!o.isSome)) H2) hb ha hb2 fun x y' v w H2 _ ey s b2 r1 r2 => by
            cases ey
            refine fin s (fun _ _ => opC_ne) fun d e => ?_
            obtain ⟨b, e1, _, _, e2⟩ := opC_ok r1 (Lv.frz_own _) r2 (Lv.frz_own _) e
            rcases e2 rfl with ⟨z, _⟩ | ⟨_, a, ov, e3, e4, e5⟩
            · rw [cd] at z; cases z
            · subst e5
              exact ⟨_, e1, fun Q q => ⟨a, ov, e3, e4, q⟩⟩
        exact key.imp fun Q h => .inr h
      · have key : EvG ca W σ H (ra.bind fun x => (R.ok y : R DL).bind fun y => (opC o x.1 y.1).bind f) post (fun Q => tOp (rCmp K o) ta tb σ H Q) :=
          ev2 (k := fun v w H2 Q => rCmp K o v w H2 Q) hb ha hb2 fun x y' v w H2 _ ey s b2 r1 r2 => by
            refine fin s (fun _ _ => opC_ne) fun d e => ?_
            obtain ⟨b, e1, e0, _, _⟩ := opC_ok r1 (Lv.frz_own _) r2 (Lv.frz_own _) e
            exact ⟨b, e1, e0 c c'⟩
        cases o <;> first | exact key | exact absurd rfl c | exact absurd rfl c'
  · have key : EvG ca W σ H (ra.bind fun x => rb.bind fun y => (opC o x.1 y.1).bind f) post (fun Q => tOp (rCmp K o) ta tb σ H Q) :=
      ev2 (k := fun v w H2 Q => rCmp K o v w H2 Q) hb ha hb2 fun x y' v w H2 _ ey s b2 r1 r2 => by
        refine fin s (fun _ _ => opC_ne) fun d e => ?_
        obtain ⟨b, e1, e0, e2, e3⟩ := opC_ok r1 (Lv.frz_own _) r2 (Lv.frz_own _) e
        refine ⟨b, e1, ?_⟩
        by_cases c : o = .isin
        · subst c
          rcases e2 rfl with ⟨_, z⟩ | ⟨z, _⟩
          · exact z
          · exact absurd ⟨y', ey, z⟩ cd
        · by_cases c' : o = .notin
          · subst c'
            rcases e3 rfl with ⟨_, z⟩ | ⟨z, _⟩
            · exact z
            · exact absurd ⟨y', ey, z⟩ cd
          · exact e0 c c'
    cases o <;> first | exact key | exact key.imp fun Q h => .inl h
theorem ix_ev {W : WX} {σ : L2.St} {bad : Bad} {H : Hp} {ra rb : R DL} {ta tb : TE} (hb : Ex' bad H) (ha : EvG ca W σ H ra (PV K ca bad H) (fun Q => ta σ H Q))
    (hb2 : ∀ H1, Same H H1 → Ex' bad H1 → EvG ca W σ H1 rb (PV K ca bad H1) (fun Q => tb σ H1 Q)) :
    EvG ca W σ H (ra.bind fun x => rb.bind fun y => opI x y.1) (PV K ca bad H) (fun Q => teOr (tOp (rIx K) ta tb) (tDGet ta tb) σ H Q) := by
  by_cases cd : ∃ x, ra = .ok x ∧ x.1.isDic = true
  · obtain ⟨x, rfl, cd⟩ := cd
    have key : EvG ca W σ H ((R.ok x : R DL).bind fun x => rb.bind fun y => opI x y.1) (PV K ca bad H) (fun Q => tDGet ta tb σ H Q) :=
      ev2 (f := fun x y => opI x y.1) (k := fun v w H2 (Q : VK) => ∃ a u, v = .ref a ∧ DGet H2 a w (some u) ∧ Q u H2) hb ha hb2 fun x' y v w H2 ex _ s b2 r1 r2 => by
        cases ex
        refine of_op s (fun _ _ => opI_ne) fun r e Q q => ?_
        rcases opI_ok r1 r2 (Lv.frz_own _) e q with ⟨z, _⟩ | ⟨_, z⟩
        · rw [cd] at z; cases z
        · exact z
    exact key.imp fun Q h => .inr h
  · have key : EvG ca W σ H (ra.bind fun x => rb.bind fun y => opI x y.1) (PV K ca bad H) (fun Q => tOp (rIx K) ta tb σ H Q) :=
      ev2 (f := fun x y => opI x y.1) (k := fun v w H2 (Q : VK) => rIx K v w H2 Q) hb ha hb2 fun x' y v w H2 ex _ s b2 r1 r2 => by
        refine of_op s (fun _ _ => opI_ne) fun r e Q q => ?_
        rcases opI_ok r1 r2 (Lv.frz_own _) e q with ⟨_, z⟩ | ⟨z, _⟩
        · exact z
        · exact absurd ⟨x', ex, z⟩ cd
    exact key.imp fun Q h => .inl h
theorem dsp_node {bad : Bad} {H H1 : Hp} {k : Kd} {u : HO} {xs : List DL} {vs : List V} {p : Addr} (hb : Ex' bad H) (h : PL K ca bad H xs vs H1) (hp : H1 p = none) (hk : KdR ca k u vs) :
    PV K ca bad H (.nd k (xs.map (·.1)), dsp xs) (.ref p) (upd H1 p u) := by
  obtain ⟨A, h⟩ := h
  have s := same_upd (u := u) hp
  have hpA : p ∉ A := fun m => h.rep.there p m hp
  have hnew : ∀ a ∈ p :: A, H a = none := fun a m => by
    rcases List.mem_cons.mp m with e | m
    · rw [e]; exact same_none h.same hp
    · exact h.fr a m
  have r : RepL K ca (fun a => bad a ∨ a ∈ p :: A) (upd H1 p u) vs xs A := h.rep.keep (fun a o e n => ⟨s a o e, fun q => by
    rcases q with q | q
    · exact n (.inl q)
    · rcases List.mem_cons.mp q with z | z
      · rw [z, hp] at e; cases e
      · exact n (.inr z)⟩) (.inl s) fun a _ u e => s a u e
  have nd : (p :: A).Nodup := List.nodup_cons.mpr ⟨hpA, h.nd⟩
  obtain ⟨A', sA, rA⟩ := node_of upd_at hk r nd fun a m q => hb a q (hnew a m)
  exact ⟨A', same_trans h.same s, rA, nd.sublist sA, fun a m => hnew a (sA.subset m)⟩
theorem PL.same {bad : Bad} {H H1 : Hp} {xs : List DL} {vs : List V} (h : PL K ca bad H xs vs H1) : Same H H1 := h.choose_spec.same
theorem PL.frz {bad : Bad} {H H1 : Hp} {xs : List DL} {vs : List V} (hb : Ex' bad H) (h : PL K ca bad H xs vs H1) : FzL K ca bad H1 vs xs := h.choose_spec.frz hb
theorem bltN_ok {f : Str} (h : bltN f = true) : ∃ b rb, blt K f = some (b, rb) := by
  unfold bltN at h
  rw [List.any_eq_true] at h
  obtain ⟨s, hs, e⟩ := h
  have e := of_decide_eq_true e
  simp only [List.mem_cons, List.not_mem_nil, or_false] at hs
  rcases hs with z | z | z | z | z | z | z | z | z | z | z | z | z <;> (subst z; subst e; exact ⟨_, _, rfl⟩)
theorem call_ev (hF : FiOk K ca T Φ) {W : WX} {σ : L2.St} {bad : Bad} {H : Hp} {f : Str} {es : Es} {r : R (List DL)} (hb : Ex' bad H) (h : EvG ca W σ H r (PL K ca bad H) (fun Q => rdA T K W es σ H Q)) :
    EvG ca W σ H (callE Φ f (neEs es) r) (PV K ca bad H) (fun Q => rdCall T K W f (neEs es) (rdA T K W es) σ H Q) := by
  unfold callE
  cases e : Φ.fn f with
  | some ff =>
    obtain ⟨fe, e1, _⟩ := hF.fn f ff e
    have key : EvG ca W σ H (r.bind fun xs => callD ff xs) (PV K ca bad H) (fun Q => tCallW W fe.sp fe.dvs (rdA T K W es) σ H Q) :=
      EvG.bind (k := fun vs H1 Q => fe.sp (vs ++ fe.dvs) H1 Q (WE W σ)) h (fun _ _ _ h => h.same) fun xs vs H1 _ hp => by
        obtain ⟨fe', e2, q⟩ := callD_ok (W := W) (σ := σ) hF e (hb.same hp.same) (hp.frz hb)
        rw [e1] at e2
        cases e2
        exact q.mono fun _ _ _ h => h.trans hp.same
    exact key.imp fun Q h => .inl ⟨fe, e1, h⟩
  | none =>
    dsimp only
    split
    · rename_i c
      rw [Bool.and_eq_true] at c
      obtain ⟨b, rb, c1⟩ := bltN_ok (K := K) c.1
      have key : EvG ca W σ H (r.bind fun xs => bltD f xs) (PV K ca bad H) (fun Q => tCB rb (rdA T K W es) σ H Q) :=
        EvG.bind (k := fun vs H1 Q => rb vs H1 Q) h (fun _ _ _ h => h.same) fun xs vs H1 _ hp =>
          of_op hp.same (fun _ _ => bltD_ne) fun x ex Q q => by
            obtain ⟨_, b', rb', c', z⟩ := bltD_ok (hb.same hp.same) (hp.frz hb) ex q
            rw [c1] at c'
            cases c'
            exact z
      exact key.imp fun Q h => .inr (.inr ⟨c.2, b, rb, c1, h⟩)
    · trivial
theorem join_ev {W : WX} {σ : L2.St} {bad : Bad} {H : Hp} {m : Str} {es : Es} {o : E} {ro : R DL} {r0 : R (List DL)} (hb : Ex' bad H) (ho : EvG ca W σ H ro (PV K ca bad H) (fun Q => rdE T K W o σ H Q))
    (h : ∀ H1, Same H H1 → Ex' bad H1 → EvG ca W σ H1 r0 (PL K ca bad H1) (fun Q => rdA T K W es σ H1 Q)) :
    EvG ca W σ H (joinE m ro r0) (PV K ca bad H) (fun Q => teOr (rdMB K m (rdE T K W o) (rdA T K W es)) (rdMU T W m (rdE T K W o) (rdA T K W es)) σ H Q) := by
  unfold joinE
  split
  · rename_i e
    have key : EvG ca W σ H (ro.bind fun x => if x.1.isStr = true then r0.bind fun xs => joinD x xs else .stuck) (PV K ca bad H) (fun Q => tBM K "str" (rJoin K) (rdE T K W o) (rdA T K W es) σ H Q) :=
      ev1 (k := fun v H1 Q => tyV K "str" v H1 ∧ rdA T K W es σ H1 fun xs H2 => rJoin K v xs H2 Q) hb ho fun x v H1 _ s b1 r1 => by
        split
        · rename_i c
          have ev : ∃ z, v = .str z := by
            obtain ⟨d, l⟩ := x
            cases d with
            | str z => exact ⟨z, r1.str'⟩
            | _ => cases c
          obtain ⟨z, ev⟩ := ev
          have inner : EvG ca W σ H1 (r0.bind fun xs => joinD x xs) (PV K ca bad H) (fun Q => rdA T K W es σ H1 fun xs H2 => rJoin K v xs H2 Q) :=
            EvG.bind (k := fun vs H2 Q => rJoin K v vs H2 Q) (h H1 s b1) (fun _ _ _ h => h.same) fun xs vs H2 _ hp =>
              of_op (same_trans s hp.same) (fun _ _ => joinD_ne) fun y ey Q q => joinD_ok (r1.keep0 hp.same) (hp.frz b1) ey q
          exact inner.imp fun Q z => ⟨by subst ev; exact rfl, z⟩
        · trivial
    exact key.imp fun Q h => .inl (.inr (.inr (.inr ⟨e, h⟩)))
  · trivial
theorem pure_ok {α : Type} {r : R α} {a : α} (h : R.pure' r = .ok a) : r = .ok a := by
  cases r <;> first | exact h | cases h
theorem pure_ne {α : Type} {r : R α} {C : Str} {x : V} : R.pure' r ≠ .err C x := by
  intro h
  cases r <;> cases h
theorem test_of {W : WX} {σ : L2.St} {H : Hp} {r : R Bool} {c : VK → Prop} (h : EvG ca W σ H r (fun (b : Bool) (v : V) H' => v = V.bl b ∧ Same H H') c) :
    EvG ca W σ H r (PB H) (fun (Q : Bool → Hp → Prop) => c fun x H' => ∃ k, x = V.bl k ∧ Q k H') := by
  cases r with
  | ok t => exact fun Q q => h _ fun v H' hp => ⟨t, hp.1, q t H' ⟨rfl, hp.2⟩⟩
  | err C x => exact fun w Q => h w _
  | stuck => trivial
mutual
theorem ev_ok (hF : FiOk K ca T Φ) : ∀ (e : E) (W : WX) (σ : L2.St) (η : En) (bad : Bad) (H : Hp), Ex' bad H → EnvR K ca bad H σ η → EvG ca W σ H (ev Φ e η) (PV K ca bad H) (fun Q => rdE T K W e σ H Q)
  | .var i, W, σ, η, bad, H, hb, he => by
    simp only [ev, rdE]
    split
    · rename_i x e
      obtain ⟨d, l⟩ := x
      obtain ⟨e1, v, e2, e3⟩ := he.2 i d l e
      exact fun Q q => ⟨v, e2, q v H ⟨[], Res.at e3⟩⟩
    · trivial
  | .glo x, W, σ, η, bad, H, hb, he => by
    simp only [ev, rdE]
    split
    · rename_i d e
      obtain ⟨v, e1, e2⟩ := hF.gl x d e
      exact fun Q q => ⟨v, e1, q v H ⟨[], Res.at (e2 bad H)⟩⟩
    · trivial
  | .cst v, W, σ, η, bad, H, hb, he => by
    simp only [ev, rdE]
    split
    · rename_i d e
      exact fun Q q => q v H ⟨[], Res.of_v _ (Vd_v e)⟩
    · trivial
  | .bin o a b, W, σ, η, bad, H, hb, he => by
    simp only [ev, rdE]
    exact ev2 (f := fun x y => opB o x y) (k := fun v w H2 Q => rBin K o v w H2 Q) hb (ev_ok hF a W σ η bad H hb he) (fun H1 s b1 => ev_ok hF b W σ η bad H1 b1 (he.keep0 s))
      fun x y v w H2 _ _ s b2 r1 r2 => of_op s (fun _ _ => opB_ne) fun r e Q q => opB_ok b2 r1 r2 e q
  | .neg a, W, σ, η, bad, H, hb, he => by
    simp only [ev, rdE]
    refine ev1 (k := fun v H1 Q => rU (fun i => .int (-i)) v H1 Q) hb (ev_ok hF a W σ η bad H hb he) fun x v H1 _ s b1 r1 => ?_
    split
    · exact of_val s rfl fun Q q => ⟨_, r1.int', q⟩
    · trivial
  | .no a, W, σ, η, bad, H, hb, he => by
    simp only [ev, rdE]
    refine ev1 (k := fun v H1 (Q : VK) => ∃ c, v = .bl c ∧ Q (.bl (!c)) H1) hb (ev_ok hF a W σ η bad H hb he) fun x v H1 _ s b1 r1 => ?_
    split
    · exact of_val s rfl fun Q q => ⟨_, r1.bl', q⟩
    · trivial
  | .cmp o a b, W, σ, η, bad, H, hb, he => by
    simp only [ev, rdE]
    have key := cmp_ev (o := o) hb (ev_ok hF a W σ η bad H hb he) (fun H1 s b1 => ev_ok hF b W σ η bad H1 b1 (he.keep0 s)) (f := fun d => obl (.ok d)) (PV K ca bad H) fun b => .inr ⟨(.bl b, .al), rfl, fun H' s => ⟨[], (Res.of_v _ rfl).trans s⟩⟩
    have e : ∀ r : R D, (r.bind fun d => obl (.ok d)) = match r with
      | .err C x => .err C x
      | r => obl r := fun r => by cases r <;> rfl
    have e2 : ∀ x y, ((opC o x y).bind fun d => obl (.ok d)) = obl (opC o x y) := fun x y => by
      cases c : opC o x y with
      | ok d => rfl
      | err C x => exact absurd c opC_ne
      | stuck => rfl
    simp only [e2] at key
    exact key
  | .chain o o' a b c, W, σ, η, bad, H, hb, he => by
    simp only [ev, rdE]
    refine ev2 (k := fun v w H2 (Q : VK) => rCmp K o v w H2 fun z H3 => ∃ k, z = .bl k ∧ (if k = true then rdE T K W c σ H3 fun w' H4 => rCmp K o' w w' H4 Q else Q (.bl false) H3)) hb (ev_ok hF a W σ η bad H hb he)
      (fun H1 s b1 => ev_ok hF b W σ η bad H1 b1 (he.keep0 s)) fun x y v w H2 _ _ s b2 r1 r2 => ?_
    cases e : opK o x.1 y.1 with
    | stuck => trivial
    | err C z => exact absurd e opK_ne
    | ok d =>
      obtain ⟨t, rfl, hq⟩ := opK_ok r1 (Lv.frz_own _) r2 (Lv.frz_own _) e
      cases t with
      | false => exact of_val s rfl fun Q q => hq _ ⟨false, rfl, by rw [if_neg Bool.false_ne_true]; exact q⟩
      | true =>
        have inner : EvG ca W σ H2 ((ev Φ c η).bind fun z => obl (opK o' y.1 z.1)) (PV K ca bad H) (fun Q => rdE T K W c σ H2 fun w' H4 => rCmp K o' w w' H4 Q) :=
          ev1 (k := fun v' H4 (Q : VK) => rCmp K o' w v' H4 Q) b2 (ev_ok hF c W σ η bad H2 b2 (he.keep0 s)) fun z v' H3 _ s3 b3 r3 => by
            cases e' : opK o' y.1 z.1 with
            | stuck => trivial
            | err C z => exact absurd e' opK_ne
            | ok d =>
              obtain ⟨t, rfl, hq'⟩ := opK_ok (r2.keep0 s3) (Lv.frz_own _) r3 (Lv.frz_own _) e'
              exact of_val (same_trans s s3) rfl fun Q q => hq' _ q
        exact inner.imp fun Q q => hq _ ⟨true, rfl, by rw [if_pos rfl]; exact q⟩
  | .isN a, W, σ, η, bad, H, hb, he => by
    simp only [ev, rdE]
    refine ev1 (k := fun v H1 (Q : VK) => Q (.bl (decide (v = .non))) H1) hb (ev_ok hF a W σ η bad H hb he) fun x v H1 _ s b1 r1 => ?_
    split
    · rename_i e
      rw [e] at r1
      rw [r1.is_non.1 rfl]
      exact of_val s rfl fun Q q => q
    · rename_i e
      have := r1.is_non.2 e
      rw [decide_eq_false this]
      exact of_val s rfl fun Q q => q
  | .notN a, W, σ, η, bad, H, hb, he => by
    simp only [ev, rdE]
    refine ev1 (k := fun v H1 (Q : VK) => Q (.bl (!decide (v = .non))) H1) hb (ev_ok hF a W σ η bad H hb he) fun x v H1 _ s b1 r1 => ?_
    split
    · rename_i e
      rw [e] at r1
      rw [r1.is_non.1 rfl]
      exact of_val s rfl fun Q q => q
    · rename_i e
      have := r1.is_non.2 e
      rw [decide_eq_false this]
      exact of_val s rfl fun Q q => q
  | .band es, W, σ, η, bad, H, hb, he => by simp only [ev, rdE]; exact evAndV_ok hF es W σ η bad H hb he
  | .bor es, W, σ, η, bad, H, hb, he => by simp only [ev, rdE]; exact evOrV_ok hF es W σ η bad H hb he
  | .ife c a b, W, σ, η, bad, H, hb, he => by
    simp only [ev, rdE]
    refine EvG.bind (k := fun t H1 Q => if t = true then rdE T K W a σ H1 Q else rdE T K W b σ H1 Q) (evT_ok hF c W σ η bad H hb he) (fun _ _ _ h => h.2) fun t t' H1 _ hp => ?_
    obtain ⟨rfl, s⟩ := hp
    cases t' with
    | true => exact (ev_ok hF a W σ η bad H1 (hb.same s) (he.keep0 s)).mono fun _ _ _ h => h.trans s
    | false => exact (ev_ok hF b W σ η bad H1 (hb.same s) (he.keep0 s)).mono fun _ _ _ h => h.trans s
  | .lst es, W, σ, η, bad, H, hb, he => by
    simp only [ev, rdE]
    refine EvG.bind (k := fun xs H1 (Q : VK) => xs.length ≤ sizeLine ∧ ∀ p, H1 p = none → Q (.ref p) (upd H1 p (.lst xs))) (evs_ok hF es W σ η bad H hb he) (fun _ _ _ h => h.same) fun xs vs H1 _ hp => ?_
    refine EvG.of_ok (fun C x z => by have := (gd_err z).2; cases this) fun x e Q q => ?_
    obtain ⟨c, e⟩ := gd_ok e
    cases e
    exact ⟨by rw [hp.choose_spec.rep.length]; exact c, fun p hpn => q _ _ (dsp_node hb hp hpn rfl)⟩
  | .tup es, W, σ, η, bad, H, hb, he => by
    simp only [ev, rdE]
    refine EvG.bind (k := fun xs H1 (Q : VK) => xs.length ≤ sizeLine ∧ ∀ p, H1 p = none → Q (.ref p) (upd H1 p (.tup xs))) (evs_ok hF es W σ η bad H hb he) (fun _ _ _ h => h.same) fun xs vs H1 _ hp => ?_
    refine EvG.of_ok (fun C x z => by have := (gd_err z).2; cases this) fun x e Q q => ?_
    obtain ⟨c, e⟩ := gd_ok e
    cases e
    exact ⟨by rw [hp.choose_spec.rep.length]; exact c, fun p hpn => q _ _ (dsp_node hb hp hpn rfl)⟩
  | .idx a i, W, σ, η, bad, H, hb, he => by
    simp only [ev, rdE]
    exact ix_ev hb (ev_ok hF a W σ η bad H hb he) (fun H1 s b1 => ev_ok hF i W σ η bad H1 b1 (he.keep0 s))
  | .sl a lo hi, W, σ, η, bad, H, hb, he => by
    simp only [ev, rdE]
    refine ev1 (k := fun v H1 Q => rdP T K W lo σ H1 fun l H2 => rdP T K W hi σ H2 fun u H3 => rSlL K v l u H3 Q ∨ rSlT K v l u H3 Q) hb (ev_ok hF a W σ η bad H hb he) fun x v H1 _ s b1 r1 => ?_
    refine EvG.bind (k := fun l H2 Q => rdP T K W hi σ H2 fun u H3 => rSlL K v l u H3 Q ∨ rSlT K v l u H3 Q) (evP_ok hF lo W σ η bad H1 b1 (he.keep0 s)) (fun _ _ _ h => h.2) fun l l' H2 _ hp => ?_
    obtain ⟨rfl, s2⟩ := hp
    refine EvG.bind (k := fun u H3 Q => rSlL K v l' u H3 Q ∨ rSlT K v l' u H3 Q) (evP_ok hF hi W σ η bad H2 (b1.same s2) (he.keep0 (same_trans s s2))) (fun _ _ _ h => h.2) fun u u' H3 _ hp => ?_
    obtain ⟨rfl, s3⟩ := hp
    have s4 := same_trans s2 s3
    exact of_op (same_trans s s4) (fun _ _ => opS_ne) fun r e Q q => opS_ok (b1.same s4) (r1.keep0 s4) e q
  | .rev a, W, σ, η, bad, H, hb, he => by
    simp only [ev, rdE]
    refine ev1 (k := fun v H1 (Q : VK) => ∃ a xs, v = .ref a ∧ SqL K H1 a xs ∧ ∀ p, H1 p = none → Q (.ref p) (upd H1 p (.lst xs.reverse))) hb (ev_ok hF a W σ η bad H hb he) fun x v H1 _ s b1 r1 => ?_
    exact of_op s (fun _ _ => opR_ne) fun r e Q q => opR_ok b1 r1 e q
  | .rgl a, W, σ, η, bad, H, hb, he => by
    simp only [ev, rdE]
    refine ev1 (k := fun v H1 (Q : VK) => ∃ n, v = .int n ∧ (RgOk 0 n ∧ ∀ p, H1 p = none → Q (.ref p) (upd H1 p (.lst (rgV 0 n))))) hb (ev_ok hF a W σ η bad H hb he) fun x v H1 _ s b1 r1 => ?_
    exact of_op s (fun _ _ => opRg_ne) fun r e Q q => opRg_ok b1 r1 e q
  | .call f es, W, σ, η, bad, H, hb, he => by
    simp only [ev, rdE]
    exact call_ev hF hb (evs_ok hF es W σ η bad H hb he)
  | .meth o m es, W, σ, η, bad, H, hb, he => by
    simp only [ev, rdE]
    exact join_ev hb (ev_ok hF o W σ η bad H hb he) (fun H1 s b1 => evs_ok hF es W σ η bad H1 b1 (he.keep0 s))
  | .attr o f, W, σ, η, bad, H, hb, he => by
    simp only [ev, rdE]
    refine ev1 (k := fun v H1 (Q : VK) => ∃ a C dx fs u, v = .ref a ∧ H1 a = some (.ins C dx fs) ∧ Cls K C ∧ NoAttr K C f ∧ fs.lookup f = some u ∧ Q u H1) hb (ev_ok hF o W σ η bad H hb he) fun x v H1 _ s b1 r1 => ?_
    exact of_op s (fun _ _ => fldD_ne) fun r e Q q => fldD_ok hF.fld r1 e q
  | .lc own g it c elt, W, σ, η, bad, H, hb, he => by
    simp only [ev, rdE]
    refine EvG.bind (k := fun J H1 (Q : VK) => ∀ D, H1 D = none → ∃ W : Nat → Nat → Hp → Prop, (∃ m, W 0 m (upd H1 D (.lst []))) ∧ ∀ i m H, W i m H →
      (J.stop i H ∧ Q (.ref D) H) ∨ (J.go i H ∧ ∃ Nx : Hp → Prop, (∀ H', Nx H' → ∃ m', m' < m ∧ W (i + 1) m' H') ∧ ∀ x H', J.yld i H x H' → rdG T K WNo g x (L2.wipe σ own) H' fun σ2 H2 => L2.wipe σ2 own = L2.wipe σ own ∧ rdTs T K WNo c σ2 H2 fun b H3 =>
        if b = true then rdE T K WNo elt σ2 H3 fun y H4 => ∃ acc, H4 D = some (.lst acc) ∧ acc.length < sizeLine ∧ Nx (upd H4 D (.lst (acc ++ [y]))) else Nx H3)) (evI_ok hF it W σ η bad H hb he) (fun _ _ _ h => h.1) fun its J H1 _ hp => ?_
    obtain ⟨s, hJ⟩ := hp
    split
    · rename_i hin
      cases ex : R.pure' (lcR (fun d => bdG g d its.2 (wipeE η own)) (evTs Φ c) (ev Φ elt) its.1) with
      | stuck => trivial
      | err C x => exact absurd ex pure_ne
      | ok xs =>
        refine EvG.of_ok (fun C x z => by have := (gd_err z).2; cases this) fun x e Q q => ?_
        obtain ⟨hz, e⟩ := gd_ok e
        cases e
        exact lc_ok (T := T) (W0 := WNo) (hb.same s) (he.keep0 s) hJ hin (pure_ok ex) hz (fun σ η bad H hb he => evTs_ok hF c WNo σ η bad H hb he) (fun σ η bad H hb he => ev_ok hF elt WNo σ η bad H hb he)
          (Q := Q) fun v H' A hr => q v H' ⟨A, hr.trans s⟩
    · trivial
theorem evT_ok (hF : FiOk K ca T Φ) : ∀ (e : E) (W : WX) (σ : L2.St) (η : En) (bad : Bad) (H : Hp), Ex' bad H → EnvR K ca bad H σ η → EvG ca W σ H (evT Φ e η) (PB H) (fun Q => rdT T K W e σ H Q)
  | .no a, W, σ, η, bad, H, hb, he => by
    simp only [evT, rdT]
    refine EvG.bind (k := fun t H1 (Q : Bool → Hp → Prop) => Q (!t) H1) (evT_ok hF a W σ η bad H hb he) (fun _ _ _ h => h.2) fun t t' H1 _ hp => ?_
    obtain ⟨rfl, s⟩ := hp
    exact of_ok2 fun Q q => q _ _ ⟨rfl, s⟩
  | .cmp o a b, W, σ, η, bad, H, hb, he => by
    simp only [evT, rdT]
    have key := cmp_ev (o := o) hb (ev_ok hF a W σ η bad H hb he) (fun H1 s b1 => ev_ok hF b W σ η bad H1 b1 (he.keep0 s)) (α := Bool) (f := fun d => match d with
      | .bl b => .ok b
      | _ => .stuck) (fun (b : Bool) (v : V) H' => v = V.bl b ∧ Same H H') fun b => .inr ⟨b, rfl, fun H' s => ⟨rfl, s⟩⟩
    have e2 : ∀ x y, ((opC o x y).bind fun d => match d with
      | .bl b => .ok b
      | _ => .stuck) = (match opC o x y with
      | .ok (.bl b) => R.ok b
      | _ => R.stuck) := fun x y => by
      cases c : opC o x y with
      | ok d => cases d <;> rfl
      | err C x => exact absurd c opC_ne
      | stuck => rfl
    simp only [e2] at key
    exact test_of key
  | .chain o o' a b c, W, σ, η, bad, H, hb, he => by
    simp only [evT, rdT]
    refine ev2 (k := fun v w H2 (Q : Bool → Hp → Prop) => rCmp K o v w H2 fun z H3 => ∃ k, z = .bl k ∧ (if k = true then rdE T K W c σ H3 fun w' H4 => rCmp K o' w w' H4 (fun x H' => ∃ k, x = .bl k ∧ Q k H') else ∃ k, V.bl false = .bl k ∧ Q k H3)) hb (ev_ok hF a W σ η bad H hb he)
      (fun H1 s b1 => ev_ok hF b W σ η bad H1 b1 (he.keep0 s)) fun x y v w H2 _ _ s b2 r1 r2 => ?_
    cases e : opK o x.1 y.1 with
    | stuck => trivial
    | err C z => exact absurd e opK_ne
    | ok d =>
      obtain ⟨t, rfl, hq⟩ := opK_ok r1 (Lv.frz_own _) r2 (Lv.frz_own _) e
      cases t with
      | false => exact of_ok2 fun Q q => hq _ ⟨false, rfl, by rw [if_neg Bool.false_ne_true]; exact ⟨false, rfl, q _ _ ⟨rfl, s⟩⟩⟩
      | true =>
        have inner : EvG ca W σ H2 ((ev Φ c η).bind fun z => (match opK o' y.1 z.1 with
          | .ok (.bl b) => R.ok b
          | _ => R.stuck)) (PB H) (fun (Q : Bool → Hp → Prop) => rdE T K W c σ H2 fun w' H4 => rCmp K o' w w' H4 (fun x H' => ∃ k, x = .bl k ∧ Q k H')) :=
          ev1 (k := fun v' H4 (Q : Bool → Hp → Prop) => rCmp K o' w v' H4 (fun x H' => ∃ k, x = .bl k ∧ Q k H')) b2 (ev_ok hF c W σ η bad H2 b2 (he.keep0 s)) fun z v' H3 _ s3 b3 r3 => by
            cases e' : opK o' y.1 z.1 with
            | stuck => trivial
            | err C z => exact absurd e' opK_ne
            | ok d =>
              obtain ⟨t, rfl, hq'⟩ := opK_ok (r2.keep0 s3) (Lv.frz_own _) r3 (Lv.frz_own _) e'
              exact of_ok2 fun Q q => hq' _ ⟨t, rfl, q _ _ ⟨rfl, same_trans s s3⟩⟩
        exact inner.imp fun Q q => hq _ ⟨true, rfl, by rw [if_pos rfl]; exact q⟩
  | .isN a, W, σ, η, bad, H, hb, he => by
    simp only [evT, rdT]
    refine ev1 (k := fun v H1 (Q : Bool → Hp → Prop) => ∃ c, V.bl (decide (v = .non)) = .bl c ∧ Q c H1) hb (ev_ok hF a W σ η bad H hb he) fun x v H1 _ s b1 r1 => ?_
    split
    · rename_i e
      rw [e] at r1
      rw [r1.is_non.1 rfl]
      exact of_ok2 fun Q q => ⟨_, rfl, q _ _ ⟨rfl, s⟩⟩
    · rename_i e
      rw [decide_eq_false (r1.is_non.2 e)]
      exact of_ok2 fun Q q => ⟨_, rfl, q _ _ ⟨rfl, s⟩⟩
  | .notN a, W, σ, η, bad, H, hb, he => by
    simp only [evT, rdT]
    refine ev1 (k := fun v H1 (Q : Bool → Hp → Prop) => ∃ c, V.bl (!decide (v = .non)) = .bl c ∧ Q c H1) hb (ev_ok hF a W σ η bad H hb he) fun x v H1 _ s b1 r1 => ?_
    split
    · rename_i e
      rw [e] at r1
      rw [r1.is_non.1 rfl]
      exact of_ok2 fun Q q => ⟨_, rfl, q _ _ ⟨rfl, s⟩⟩
    · rename_i e
      rw [decide_eq_false (r1.is_non.2 e)]
      exact of_ok2 fun Q q => ⟨_, rfl, q _ _ ⟨rfl, s⟩⟩
  | .band es, W, σ, η, bad, H, hb, he => by simp only [evT, rdT]; exact evAnd_ok hF es W σ η bad H hb he
  | .bor es, W, σ, η, bad, H, hb, he => by simp only [evT, rdT]; exact evOr_ok hF es W σ η bad H hb he
  | .var i, W, σ, η, bad, H, hb, he => by
    simp only [evT, rdT]
    split
    · rename_i x e
      obtain ⟨d, l⟩ := x
      obtain ⟨e1, v, e2, e3⟩ := he.2 i d l e
      exact .of_ok (fun _ _ => truD_ne) fun k e Q q => ⟨v, e2, k, truD_ok e3 e, q k H ⟨rfl, Same.refl H⟩⟩
    · trivial
  | .glo x, W, σ, η, bad, H, hb, he => by
    simp only [evT, rdT]
    split
    · rename_i d e
      obtain ⟨v, e1, e2⟩ := hF.gl x d e
      exact .of_ok (fun _ _ => truD_ne) fun k e Q q => ⟨v, e1, k, truD_ok (e2 bad H) e, q k H ⟨rfl, Same.refl H⟩⟩
    · trivial
  | .cst v, W, σ, η, bad, H, hb, he => by
    simp only [evT, rdT]
    split
    · rename_i d e
      exact .of_ok (fun _ _ => truD_ne) fun k e2 Q q => ⟨k, truD_ok (K := K) (ca := ca) (bad := bad) (l := .n 0) (Rep.of_v (Vd_v e)) e2, q k H ⟨rfl, Same.refl H⟩⟩
    · trivial
  | .idx a i, W, σ, η, bad, H, hb, he => by
    simp only [evT, rdT]
    exact tst_of hb (ix_ev hb (ev_ok hF a W σ η bad H hb he) (fun H1 s b1 => ev_ok hF i W σ η bad H1 b1 (he.keep0 s)))
  | .call f es, W, σ, η, bad, H, hb, he => by
    simp only [evT, rdT]
    exact tst_of hb (call_ev hF hb (evs_ok hF es W σ η bad H hb he))
  | .meth o m es, W, σ, η, bad, H, hb, he => by
    simp only [evT, rdT]
    exact tst_of hb (join_ev hb (ev_ok hF o W σ η bad H hb he) (fun H1 s b1 => evs_ok hF es W σ η bad H1 b1 (he.keep0 s)))
  | .attr o f, W, σ, η, bad, H, hb, he => by
    simp only [evT, rdT]
    refine tst_of hb ?_
    refine ev1 (k := fun v H1 (Q : VK) => ∃ a C dx fs u, v = .ref a ∧ H1 a = some (.ins C dx fs) ∧ Cls K C ∧ NoAttr K C f ∧ fs.lookup f = some u ∧ Q u H1) hb (ev_ok hF o W σ η bad H hb he) fun x v H1 _ s b1 r1 => ?_
    exact of_op s (fun _ _ => fldD_ne) fun r e Q q => fldD_ok hF.fld r1 e q
  | .bin _ _ _, _, _, _, _, _, _, _ => by simp only [evT]; trivial
  | .neg _, _, _, _, _, _, _, _ => by simp only [evT]; trivial
  | .ife _ _ _, _, _, _, _, _, _, _ => by simp only [evT]; trivial
  | .lst _, _, _, _, _, _, _, _ => by simp only [evT]; trivial
  | .tup _, _, _, _, _, _, _, _ => by simp only [evT]; trivial
  | .sl _ _ _, _, _, _, _, _, _, _ => by simp only [evT]; trivial
  | .rev _, _, _, _, _, _, _, _ => by simp only [evT]; trivial
  | .rgl _, _, _, _, _, _, _, _ => by simp only [evT]; trivial
  | .lc _ _ _ _ _, _, _, _, _, _, _, _ => by simp only [evT]; trivial
theorem evs_ok (hF : FiOk K ca T Φ) : ∀ (es : Es) (W : WX) (σ : L2.St) (η : En) (bad : Bad) (H : Hp), Ex' bad H → EnvR K ca bad H σ η → EvG ca W σ H (evs Φ es η) (PL K ca bad H) (fun Q => rdA T K W es σ H Q)
  | .nil, W, σ, η, bad, H, hb, he => by
    simp only [evs, rdA]
    exact fun Q q => q [] H ⟨[], Same.refl H, .nil, .nil, fun _ z => nomatch z⟩
  | .cons e r, W, σ, η, bad, H, hb, he => by
    simp only [evs, rdA]
    refine EvG.bind (k := fun v H1 Q => rdA T K W r σ H1 fun vs H2 => Q (v :: vs) H2) (ev_ok hF e W σ η bad H hb he) (fun _ _ _ h => h.same) fun x v H1 _ hp => ?_
    obtain ⟨A, hA⟩ := hp
    have hb1 : Ex' (fun a => bad a ∨ a ∈ A) H1 := hb.more hA.same hA.there
    have he1 : EnvR K ca (fun a => bad a ∨ a ∈ A) H1 σ η := he.keep hA.same (keep_more hA.same hA.fr)
    refine EvG.bind (k := fun vs H2 Q => Q (v :: vs) H2) (evs_ok hF r W σ η _ H1 hb1 he1) (fun _ _ _ h => h.same) fun xs vs H2 _ hp => ?_
    obtain ⟨B, hB⟩ := hp
    exact of_ok2 fun Q q => q _ _ ⟨_, ResL.cons hA hB⟩
theorem evAndV_ok (hF : FiOk K ca T Φ) : ∀ (es : Es) (W : WX) (σ : L2.St) (η : En) (bad : Bad) (H : Hp), Ex' bad H → EnvR K ca bad H σ η → EvG ca W σ H (evAndV Φ es η) (PV K ca bad H) (fun Q => rdAndV T K W es σ H Q)
  | .nil, W, σ, η, bad, H, hb, he => by simp only [evAndV]; trivial
  | .cons e .nil, W, σ, η, bad, H, hb, he => by simp only [evAndV, rdAndV]; exact ev_ok hF e W σ η bad H hb he
  | .cons e (.cons e' r'), W, σ, η, bad, H, hb, he => by
    rw [evAndV, rdAndV]
    refine ev1 (k := fun v H1 (Q : VK) => ∃ c, v = .bl c ∧ if c = true then rdAndV T K W (.cons e' r') σ H1 Q else Q (.bl false) H1) hb (ev_ok hF e W σ η bad H hb he) fun x v H1 _ s b1 r1 => ?_
    split
    · exact ((evAndV_ok hF (.cons e' r') W σ η bad H1 b1 (he.keep0 s)).mono fun _ _ _ h => h.trans s).imp fun Q q => ⟨true, r1.bl', by rw [if_pos rfl]; exact q⟩
    · exact of_val s rfl fun Q q => ⟨false, r1.bl', by rw [if_neg Bool.false_ne_true]; exact q⟩
    · trivial
theorem evOrV_ok (hF : FiOk K ca T Φ) : ∀ (es : Es) (W : WX) (σ : L2.St) (η : En) (bad : Bad) (H : Hp), Ex' bad H → EnvR K ca bad H σ η → EvG ca W σ H (evOrV Φ es η) (PV K ca bad H) (fun Q => rdOrV T K W es σ H Q)
  | .nil, W, σ, η, bad, H, hb, he => by simp only [evOrV]; trivial
  | .cons e .nil, W, σ, η, bad, H, hb, he => by simp only [evOrV, rdOrV]; exact ev_ok hF e W σ η bad H hb he
  | .cons e (.cons e' r'), W, σ, η, bad, H, hb, he => by
    rw [evOrV, rdOrV]
    refine ev1 (k := fun v H1 (Q : VK) => ∃ c, v = .bl c ∧ if c = true then Q (.bl true) H1 else rdOrV T K W (.cons e' r') σ H1 Q) hb (ev_ok hF e W σ η bad H hb he) fun x v H1 _ s b1 r1 => ?_
    split
    · exact of_val s rfl fun Q q => ⟨true, r1.bl', by rw [if_pos rfl]; exact q⟩
    · exact ((evOrV_ok hF (.cons e' r') W σ η bad H1 b1 (he.keep0 s)).mono fun _ _ _ h => h.trans s).imp fun Q q => ⟨false, r1.bl', by rw [if_neg Bool.false_ne_true]; exact q⟩
    · trivial
theorem evAnd_ok (hF : FiOk K ca T Φ) : ∀ (es : Es) (W : WX) (σ : L2.St) (η : En) (bad : Bad) (H : Hp), Ex' bad H → EnvR K ca bad H σ η → EvG ca W σ H (evAnd Φ es η) (PB H) (fun Q => rdAnd T K W es σ H Q)
  | .nil, W, σ, η, bad, H, hb, he => by simp only [evAnd]; trivial
  | .cons e .nil, W, σ, η, bad, H, hb, he => by simp only [evAnd, rdAnd]; exact evT_ok hF e W σ η bad H hb he
  | .cons e (.cons e' r'), W, σ, η, bad, H, hb, he => by
    rw [evAnd, rdAnd]
    refine EvG.bind (k := fun c H1 (Q : Bool → Hp → Prop) => if c = true then rdAnd T K W (.cons e' r') σ H1 Q else Q false H1) (evT_ok hF e W σ η bad H hb he) (fun _ _ _ h => h.2) fun t t' H1 _ hp => ?_
    obtain ⟨rfl, s⟩ := hp
    cases t' with
    | true => exact (evAnd_ok hF (.cons e' r') W σ η bad H1 (hb.same s) (he.keep0 s)).mono fun _ _ _ h => ⟨h.1, same_trans s h.2⟩
    | false => exact of_ok2 fun Q q => q _ _ ⟨rfl, s⟩
theorem evOr_ok (hF : FiOk K ca T Φ) : ∀ (es : Es) (W : WX) (σ : L2.St) (η : En) (bad : Bad) (H : Hp), Ex' bad H → EnvR K ca bad H σ η → EvG ca W σ H (evOr Φ es η) (PB H) (fun Q => rdOr T K W es σ H Q)
  | .nil, W, σ, η, bad, H, hb, he => by simp only [evOr]; trivial
  | .cons e .nil, W, σ, η, bad, H, hb, he => by simp only [evOr, rdOr]; exact evT_ok hF e W σ η bad H hb he
  | .cons e (.cons e' r'), W, σ, η, bad, H, hb, he => by
    rw [evOr, rdOr]
    refine EvG.bind (k := fun c H1 (Q : Bool → Hp → Prop) => if c = true then Q true H1 else rdOr T K W (.cons e' r') σ H1 Q) (evT_ok hF e W σ η bad H hb he) (fun _ _ _ h => h.2) fun t t' H1 _ hp => ?_
    obtain ⟨rfl, s⟩ := hp
    cases t' with
    | true => exact of_ok2 fun Q q => q _ _ ⟨rfl, s⟩
    | false => exact (evOr_ok hF (.cons e' r') W σ η bad H1 (hb.same s) (he.keep0 s)).mono fun _ _ _ h => ⟨h.1, same_trans s h.2⟩
theorem evTs_ok (hF : FiOk K ca T Φ) : ∀ (es : Es) (W : WX) (σ : L2.St) (η : En) (bad : Bad) (H : Hp), Ex' bad H → EnvR K ca bad H σ η → EvG ca W σ H (evTs Φ es η) (PB H) (fun Q => rdTs T K W es σ H Q)
  | .nil, W, σ, η, bad, H, hb, he => by
    simp only [evTs, rdTs]
    exact of_ok2 fun Q q => q _ _ ⟨rfl, Same.refl H⟩
  | .cons e _, W, σ, η, bad, H, hb, he => by simp only [evTs, rdTs]; exact evT_ok hF e W σ η bad H hb he
theorem evP_ok (hF : FiOk K ca T Φ) : ∀ (p : P) (W : WX) (σ : L2.St) (η : En) (bad : Bad) (H : Hp), Ex' bad H → EnvR K ca bad H σ η → EvG ca W σ H (evP Φ p η) (PB H) (fun Q => rdP T K W p σ H Q)
  | .no, W, σ, η, bad, H, hb, he => by
    simp only [evP, rdP]
    exact of_ok2 fun Q q => q _ _ ⟨rfl, Same.refl H⟩
  | .so e, W, σ, η, bad, H, hb, he => by
    simp only [evP, rdP]
    refine ev1 (k := fun v H1 (Q : Option Int → Hp → Prop) => ∃ i, v = .int i ∧ Q (some i) H1) hb (ev_ok hF e W σ η bad H hb he) fun x v H1 _ s b1 r1 => ?_
    split
    · exact of_ok2 fun Q q => ⟨_, r1.int', q _ _ ⟨rfl, s⟩⟩
    · trivial
theorem evI_ok (hF : FiOk K ca T Φ) : ∀ (it : I) (W : WX) (σ : L2.St) (η : En) (bad : Bad) (H : Hp), Ex' bad H → EnvR K ca bad H σ η → EvG ca W σ H (evI Φ it η) (PJ K ca bad H) (fun Q => rdI T K W it σ H Q)
  | .of e, W, σ, η, bad, H, hb, he => by
    simp only [evI, rdI]
    have h0 := ev_ok hF e W σ η bad H hb he
    cases ex : ev Φ e η with
    | stuck => trivial
    | err C z =>
      rw [ex] at h0
      exact fun w Q => .inl (h0 w _)
    | ok x =>
      rw [ex] at h0
      obtain ⟨d, l⟩ := x
      have fin : ∀ {ds : List D}, d.asQ = some ds → EvG ca W σ H (.ok (ds, lf l ds)) (PJ K ca bad H) (fun Q => tiOr (iList K (rdE T K W e)) (tiOr (iTup K (rdE T K W e)) (iStr (rdE T K W e))) σ H Q) := by
        intro ds eq Q q
        by_cases cL : ∃ es, d.asL = some es
        · obtain ⟨es, cL⟩ := cL
          have : es = ds := by
            cases d with
            | nd k z => cases k <;> first | (cases cL; cases eq; rfl) | cases cL
            | _ => cases cL
          subst this
          refine .inl (h0 _ fun v H1 hp => ?_)
          obtain ⟨a, e1, e2, e3⟩ := itl_ok (Lv.frz_own l) (hp.frz hb) cL
          exact ⟨a, e1, e2, q _ _ ⟨hp.same, e3⟩⟩
        · have cT : d.asT = some ds := by
            cases d with
            | nd k z => cases k <;> first | exact eq | exact absurd ⟨_, rfl⟩ cL | cases eq
            | _ => cases eq
          refine .inr (.inl (h0 _ fun v H1 hp => ?_))
          obtain ⟨a, e1, e2, e3⟩ := itt_ok (Lv.frz_own l) (hp.frz hb) cT
          exact ⟨a, e1, e2, q _ _ ⟨hp.same, e3⟩⟩
      show EvG ca W σ H (match ((d, l) : DL) with
        | (.str z, _) => .ok (z.cps.toList.map fun c => .str ⟨#[c]⟩, .n 0)
        | (d, l) => match d.asQ with
          | some ds => .ok (ds, lf l ds)
          | none => .stuck) _ _
      cases d with
      | str z =>
        intro Q q
        refine .inr (.inr (h0 _ fun v H1 hp => ?_))
        have := (hp.frz hb).str'
        exact ⟨z, this, q _ _ ⟨hp.same, its_ok z⟩⟩
      | nd k es =>
        dsimp only
        split
        · rename_i e; exact fin e
        · trivial
      | _ => trivial
  | .rng1 a, W, σ, η, bad, H, hb, he => by
    simp only [evI, rdI]
    refine ev1 (k := fun v H1 (Q : It → Hp → Prop) => ∃ j : Int, [v] = [.int j] ∧ -(2 ^ 62) ≤ j ∧ j < 2 ^ 62 ∧ Q (Itr 0 j.toNat) H1) hb (ev_ok hF a W σ η bad H hb he) fun x v H1 _ s b1 r1 => ?_
    split
    · refine EvG.of_ok (fun C x z => by have := (gd_err z).2; cases this) fun x e Q q => ?_
      obtain ⟨c, e⟩ := gd_ok e
      cases e
      exact ⟨_, by rw [r1.int'], c.1, c.2, q _ _ ⟨s, itr_ok _ _⟩⟩
    · trivial
  | .rng2 a b, W, σ, η, bad, H, hb, he => by
    simp only [evI, rdI]
    refine ev2 (k := fun v w H1 (Q : It → Hp → Prop) => ∃ i j : Int, [v, w] = [.int i, .int j] ∧ (-(2 ^ 62) ≤ i ∧ i < 2 ^ 62 ∧ -(2 ^ 62) ≤ j ∧ j < 2 ^ 62) ∧ Q (Itr i (j - i).toNat) H1) hb (ev_ok hF a W σ η bad H hb he)
      (fun H1 s b1 => ev_ok hF b W σ η bad H1 b1 (he.keep0 s)) fun x y v w H2 _ _ s b2 r1 r2 => ?_
    split
    · refine EvG.of_ok (fun C x z => by have := (gd_err z).2; cases this) fun x e Q q => ?_
      obtain ⟨c, e⟩ := gd_ok e
      cases e
      exact ⟨_, _, by rw [r1.int', r2.int'], c, q _ _ ⟨s, itr_ok _ _⟩⟩
    · trivial
  | .rng3 a b c, W, σ, η, bad, H, hb, he => by
    simp only [evI, rdI]
    refine ev3 (k := fun v w u H1 (Q : It → Hp → Prop) => ∃ (i j c : Int) (n : Nat), [v, w, u] = [.int i, .int j, .int c] ∧ RgC i j c n ∧ Q (Itc i c n) H1) hb (ev_ok hF a W σ η bad H hb he)
      (fun H1 s b1 => ev_ok hF b W σ η bad H1 b1 (he.keep0 s)) (fun H1 s b1 => ev_ok hF c W σ η bad H1 b1 (he.keep0 s)) fun x y z v w u H2 s b2 r1 r2 r3 => ?_
    split
    · refine EvG.of_ok (fun C x z => by have := (gd_err z).2; cases this) fun x e Q q => ?_
      obtain ⟨c, e⟩ := gd_ok e
      cases e
      exact ⟨_, _, _, _, by rw [r1.int', r2.int', r3.int'], c, q _ _ ⟨s, itc_ok _ _ _⟩⟩
    · trivial
  | .enum e, W, σ, η, bad, H, hb, he => by
    simp only [evI, rdI]
    refine ev1 (k := fun v H1 (Q : It → Hp → Prop) => ∃ a xs, [v] = [.ref a] ∧ SqL K H1 a xs ∧ Q (Ite K a) H1) hb (ev_ok hF e W σ η bad H hb he) fun x v H1 _ s b1 r1 => ?_
    split
    · rename_i ds e
      obtain ⟨a, xs, e1, e2, e3⟩ := ite_ok (Lv.frz_own _) r1 e
      exact of_ok2 fun Q q => ⟨a, xs, by rw [e1], e2, q _ _ ⟨s, e3⟩⟩
    · trivial
  | .zip a b, W, σ, η, bad, H, hb, he => by
    simp only [evI, rdI]
    refine ev2 (k := fun v w H1 (Q : It → Hp → Prop) => ∃ a b xs ys, [v, w] = [.ref a, .ref b] ∧ SqL K H1 a xs ∧ SqL K H1 b ys ∧ Q (Itz K a b) H1) hb (ev_ok hF a W σ η bad H hb he)
      (fun H1 s b1 => ev_ok hF b W σ η bad H1 b1 (he.keep0 s)) fun x y v w H2 _ _ s b2 r1 r2 => ?_
    split
    · rename_i ds es e e'
      have r1' := r1.low0 (l' := (Lv.min x.2 y.2).frz) (by rw [Lv.frz_min]; exact Lv.min_le_left)
      have r2' := r2.low0 (l' := (Lv.min x.2 y.2).frz) (by rw [Lv.frz_min]; exact Lv.min_le_right)
      obtain ⟨a, b, xs, ys, e1, e2, e3, e4, e5⟩ := itz_ok (Lv.frz_own _) r1' e r2' e'
      refine of_ok2 fun Q q => ⟨a, b, xs, ys, by rw [e1, e2], e3, e4, q _ _ ⟨s, ?_⟩⟩
      rw [Lv.frz_min] at e5
      exact e5
    · trivial
end
end
end M

/-! MiniY: what stands in the slots of a frame. -/
namespace M
open PySem PySem.Spec PyProof.Rows L2
section
variable {K : PySem.W.Frag} {ca : CA} {H H' H0 H1 : Hp} {σ : L2.St} {G A A' : Addr → Prop} {ρ : En}
structure Rl (K : PySem.W.Frag) (ca : CA) (G : Addr → Prop) (H : Hp) (σ : L2.St) (ρ : En) (A : Addr → Prop) : Prop where
  len : σ.length = ρ.length
  exG : Ex' G H
  dis : ∀ a, A a → ¬ G a
  own : ∃ own : Nat → List Addr, (∀ i, (own i).Nodup) ∧ (∀ i j a, a ∈ own i → a ∈ own j → i = j) ∧ (∀ a, A a ↔ ∃ i, a ∈ own i) ∧ (∀ i, (∀ x, ρ[i]? ≠ some (some x)) → own i = []) ∧
    ∀ (i : Nat) (d : D) (l : Lv), ρ[i]? = some (some (d, l)) → l ≠ .bo ∧ ∃ v, σ[i]? = some (some v) ∧ Rep K ca (fun a => G a ∨ A a) H l v d (own i)
/-- what is not one's own stays, and is not taken -/
def Fr (A : Addr → Prop) (H : Hp) (A' : Addr → Prop) (H' : Hp) : Prop := ∀ a o, H a = some o → ¬ A a → H' a = some o ∧ ¬ A' a
theorem Fr.refl : Fr A H A H := fun _ _ h n => ⟨h, n⟩
theorem Fr.trans {A1 A2 A3 : Addr → Prop} {H1 H2 H3 : Hp} (x : Fr A1 H1 A2 H2) (y : Fr A2 H2 A3 H3) : Fr A1 H1 A3 H3 := fun a o h n => y a o (x a o h n).1 (x a o h n).2
theorem Fr.keep (f : Fr A H A' H') : Keep (fun a => G a ∨ A a) H (fun a => G a ∨ A' a) H' := fun a o h n => ⟨(f a o h fun z => n (.inr z)).1, fun z => z.elim (fun z => n (.inl z)) (f a o h fun z => n (.inr z)).2⟩
theorem Rl.ex (r : Rl K ca G H σ ρ A) : Ex' (fun a => G a ∨ A a) H := fun a z => by
  rcases z with z | z
  · exact r.exG a z
  · obtain ⟨own, _, _, h3, h4, h5⟩ := r.own
    obtain ⟨i, hi⟩ := (h3 a).mp z
    by_cases c : ∃ x, ρ[i]? = some (some x)
    · obtain ⟨⟨d, l⟩, c⟩ := c
      obtain ⟨_, v, _, h⟩ := h5 i d l c
      exact h.there a hi
    · rw [h4 i fun x e => c ⟨x, e⟩] at hi
      cases hi
/-- the slots as an expression reads them -/
def vw1 : Option DL → Option DL
  | some (d, l) => some (d, if d.sc = true then .n 0 else if l.own = true then .bo else l)
  | none => none
def vw (ρ : En) : En := ρ.map vw1
theorem Rl.env (r : Rl K ca G H σ ρ A) : EnvR K ca (fun a => G a ∨ A a) H σ (vw ρ) := by
  refine ⟨by rw [vw, List.length_map]; exact r.len, fun i d l e => ?_⟩
  unfold vw at e
  rw [List.getElem?_map] at e
  cases h : ρ[i]? with
  | none => rw [h] at e; cases e
  | some s =>
    rw [h] at e
    cases s with
    | none => simp [vw1] at e
    | some x =>
      obtain ⟨d', l'⟩ := x
      simp only [Option.map_some, vw1, Option.some.injEq, Prod.mk.injEq] at e
      obtain ⟨rfl, e⟩ := e
      obtain ⟨own, _, _, _, _, h5⟩ := r.own
      obtain ⟨hb, v, h6, h7⟩ := h5 i d' l' h
      refine ⟨?_, v, h6, ?_⟩
      · rw [← e]
        split
        · rfl
        · split
          · rfl
          · rename_i c
            simpa using c
      · rw [← e]
        split
        · rename_i c; exact h7.scal c
        · split
          · exact h7.borrow
          · rename_i c
            have c' : l'.own = false := by simpa using c
            have := Rep.bare h7 c'
            rw [this] at h7
            exact h7
theorem get_set {α : Type} {xs : List α} {i j : Nat} {y : α} : (xs.set i y)[j]? = if i = j then (if j < xs.length then some y else none) else xs[j]? := by
  rw [List.getElem?_set]
  by_cases c : i = j
  · subst c; simp only [if_true]
  · rw [if_neg c, if_neg c]
/-- a new value in a slot -/
theorem Rl.set (r : Rl K ca G H σ ρ A) {i : Nat} {d : D} {l : Lv} {v : V} {B : List Addr} (s : Same H H') (hl : l ≠ .bo) (h : Rep K ca (fun a => (G a ∨ A a) ∨ a ∈ B) H' l v d B) (nd : B.Nodup) (fr : ∀ a ∈ B, H a = none) :
    ∃ A', Rl K ca G H' (σ.set i (some v)) (ρ.set i (some (d, l))) A' ∧ Fr A H A' H' := by
  obtain ⟨own, h1, h2, h3, h4, h5⟩ := r.own
  by_cases ci : i < ρ.length
  · let own' : Nat → List Addr := fun j => if j = i then B else own j
    have oi : own' i = B := if_pos rfl
    have oj : ∀ {j}, j ≠ i → own' j = own j := fun c => if_neg c
    have ex := r.ex
    have hA : ∀ j a, a ∈ own j → H a ≠ none := fun j a m => ex a (.inr ((h3 a).mpr ⟨j, m⟩))
    have fr' : Fr A H (fun a => ∃ j, a ∈ own' j) H' := fun a o e n => ⟨s a o e, fun ⟨j, m⟩ => by
      by_cases c : j = i
      · subst c; rw [oi] at m; rw [fr a m] at e; cases e
      · rw [oj c] at m; exact n ((h3 a).mpr ⟨j, m⟩)⟩
    have sub : ∀ a, (∃ j, a ∈ own' j) → A a ∨ a ∈ B := fun a ⟨j, m⟩ => by
      by_cases c : j = i
      · subst c; rw [oi] at m; exact .inr m
      · rw [oj c] at m; exact .inl ((h3 a).mpr ⟨j, m⟩)
    refine ⟨fun a => ∃ j, a ∈ own' j, ⟨by rw [List.length_set, List.length_set]; exact r.len, r.exG.same s, fun a z => ?_, own', fun j => ?_, fun j k a m1 m2 => ?_, fun a => Iff.rfl, fun j n => ?_, fun j d' l' e => ?_⟩, fr'⟩
    · rcases sub a z with z | z
      · exact r.dis a z
      · exact fun g => r.exG a g (fr a z)
    · by_cases c : j = i
      · subst c; rw [oi]; exact nd
      · rw [oj c]; exact h1 j
    · by_cases c : j = i
      · by_cases c' : k = i
        · rw [c, c']
        · subst c
          rw [oi] at m1
          rw [oj c'] at m2
          exact absurd (fr a m1) (hA k a m2)
      · by_cases c' : k = i
        · subst c'
          rw [oi] at m2
          rw [oj c] at m1
          exact absurd (fr a m2) (hA j a m1)
        · rw [oj c] at m1
          rw [oj c'] at m2
          exact h2 j k a m1 m2
    · by_cases c : j = i
      · subst c
        exact absurd (by rw [get_set, if_pos rfl, if_pos ci]) (n (d, l))
      · rw [oj c]
        refine h4 j fun x e => n x ?_
        rw [get_set, if_neg (Ne.symm c)]
        exact e
    · rw [get_set] at e ⊢
      by_cases c : i = j
      · subst c
        rw [if_pos rfl] at e ⊢
        rw [if_pos ci] at e
        rw [if_pos (by rw [r.len]; exact ci), oi]
        cases e
        refine ⟨hl, v, rfl, h.keep (fun _ a o e n => ⟨e, fun z => n ?_⟩) (fun _ => Same.refl _) fun _ _ _ z => z⟩
        rcases z with z | z
        · exact .inl (.inl z)
        · rcases sub a z with z | z
          · exact .inl (.inr z)
          · exact .inr z
      · rw [if_neg c] at e ⊢
        rw [oj (Ne.symm c)]
        obtain ⟨e1, v', e2, e3⟩ := h5 j d' l' e
        exact ⟨e1, v', e2, e3.keep (fun _ => fr'.keep) (fun _ => s) fun a _ u => s a u⟩
  · have e1 : ρ.set i (some (d, l)) = ρ := List.set_eq_of_length_le (Nat.le_of_not_lt ci)
    have e2 : σ.set i (some v) = σ := List.set_eq_of_length_le (by rw [r.len]; exact Nat.le_of_not_lt ci)
    rw [e1, e2]
    exact ⟨A, ⟨r.len, r.exG.same s, r.dis, own, h1, h2, h3, h4, fun j d' l' e => by
      obtain ⟨e1, v', e2, e3⟩ := h5 j d' l' e
      exact ⟨e1, v', e2, e3.keep (fun _ => keep_same s) (fun _ => s) fun a _ u => s a u⟩⟩, fun a o e n => ⟨s a o e, n⟩⟩
theorem Rl.same (r : Rl K ca G H σ ρ A) (s : Same H H') : Rl K ca G H' σ ρ A := by
  obtain ⟨own, h1, h2, h3, h4, h5⟩ := r.own
  exact ⟨r.len, r.exG.same s, r.dis, own, h1, h2, h3, h4, fun j d' l' e => by
    obtain ⟨e1, v', e2, e3⟩ := h5 j d' l' e
    exact ⟨e1, v', e2, e3.keep (fun _ => keep_same s) (fun _ => s) fun a _ u => s a u⟩⟩
theorem Fr.of_same (s : Same H H') : Fr A H A H' := fun a o e n => ⟨s a o e, n⟩
/-- a slot at a lower level -/
theorem Rl.low (r : Rl K ca G H σ ρ A) {i : Nat} {d : D} {l l' : Lv} (e : ρ[i]? = some (some (d, l))) (hl : l'.le l) (hl' : l' ≠ .bo) : ∃ A', Rl K ca G H σ (ρ.set i (some (d, l'))) A' ∧ (∀ a, A' a → A a) := by
  obtain ⟨own, h1, h2, h3, h4, h5⟩ := r.own
  obtain ⟨e1, v, e2, e3⟩ := h5 i d l e
  obtain ⟨B, sB, f⟩ := e3.low hl (h1 i)
  have ci : i < ρ.length := (List.getElem?_eq_some_iff.mp e).1
  let own' : Nat → List Addr := fun j => if j = i then B else own j
  have oi : own' i = B := if_pos rfl
  have oj : ∀ {j}, j ≠ i → own' j = own j := fun c => if_neg c
  have sub : ∀ j a, a ∈ own' j → a ∈ own j := fun j a m => by
    by_cases c : j = i
    · subst c; rw [oi] at m; exact sB.subset m
    · rw [oj c] at m; exact m
  have hAA : ∀ a, (∃ j, a ∈ own' j) → A a := fun a ⟨j, m⟩ => (h3 a).mpr ⟨j, sub j a m⟩
  refine ⟨fun a => ∃ j, a ∈ own' j, ⟨by rw [List.length_set]; exact r.len, r.exG, fun a z => r.dis a (hAA a z), own', fun j => ?_, fun j k a m1 m2 => h2 j k a (sub j a m1) (sub k a m2), fun a => Iff.rfl, fun j n => ?_, fun j d' l'' ej => ?_⟩, hAA⟩
  · by_cases c : j = i
    · subst c; rw [oi]; exact (h1 j).sublist sB
    · rw [oj c]; exact h1 j
  · by_cases c : j = i
    · subst c
      exact absurd (by rw [get_set, if_pos rfl, if_pos ci]) (n (d, l'))
    · rw [oj c]
      refine h4 j fun x e => n x ?_
      rw [get_set, if_neg (Ne.symm c)]
      exact e
  · rw [get_set] at ej
    by_cases c : i = j
    · subst c
      rw [if_pos rfl, if_pos ci] at ej
      cases ej
      rw [oi]
      refine ⟨hl', v, e2, f _ fun a z => ?_⟩
      rcases z with z | z
      · exact ⟨.inl z, fun m => absurd z (r.dis a ((h3 a).mpr ⟨i, m⟩))⟩
      · refine ⟨.inr (hAA a z), fun m => ?_⟩
        obtain ⟨j, mj⟩ := z
        have := h2 j i a (sub j a mj) m
        subst this
        rw [oi] at mj
        exact mj
    · rw [if_neg c] at ej
      rw [oj (Ne.symm c)]
      obtain ⟨e1, v', e2, e3⟩ := h5 j d' l'' ej
      exact ⟨e1, v', e2, e3.keep (fun _ a o h n => ⟨h, fun z => n (z.elim .inl fun z => .inr (hAA a z))⟩) (fun _ => Same.refl _) fun _ _ _ z => z⟩
theorem Fr.less (h : ∀ a, A' a → A a) : Fr A H A' H := fun a o e n => ⟨e, fun z => n (h a z)⟩
/-- children one by one -/
inductive RepX (K : PySem.W.Frag) (ca : CA) (bad : Bad) (H : Hp) (l : Lv) : List V → List D → List (List Addr) → Prop
  | nil : RepX K ca bad H l [] [] []
  | cons {v : V} {vs : List V} {d : D} {ds : List D} {B : List Addr} {Bs : List (List Addr)} : Rep K ca bad H l v d B → RepX K ca bad H l vs ds Bs → RepX K ca bad H l (v :: vs) (d :: ds) (B :: Bs)
theorem Reps.x {bad : Bad} : ∀ {l : Lv} {vs : List V} {ds : List D} {B : List Addr}, Reps K ca bad H l vs ds B → ∃ Bs, B = Bs.flatten ∧ RepX K ca bad H l vs ds Bs
  | _, _, _, _, .nil => ⟨[], rfl, .nil⟩
  | _, _, _, _, .cons h r => by
    obtain ⟨Bs, e, x⟩ := r.x
    exact ⟨_ :: Bs, by rw [List.flatten_cons, e], .cons h x⟩
theorem RepX.s {bad : Bad} {l : Lv} : ∀ {vs : List V} {ds : List D} {Bs : List (List Addr)}, RepX K ca bad H l vs ds Bs → Reps K ca bad H l vs ds Bs.flatten
  | _, _, _, .nil => .nil
  | _, _, _, .cons h r => by rw [List.flatten_cons]; exact .cons h r.s
theorem RepX.low {bad : Bad} {l l' : Lv} : ∀ {vs : List V} {ds : List D} {Bs : List (List Addr)}, RepX K ca bad H l vs ds Bs → l'.le l → Bs.flatten.Nodup →
    ∃ Cs, Cs.flatten.Sublist Bs.flatten ∧ Cs.length = Bs.length ∧ ∀ bad' : Bad, (∀ a, bad' a → bad a ∧ (a ∈ Bs.flatten → a ∈ Cs.flatten)) → RepX K ca bad' H l' vs ds Cs
  | _, _, _, .nil, _, _ => ⟨[], by simp, rfl, fun _ _ => .nil⟩
  | _, _, _, .cons (B := B) (Bs := Bs) h r, hl, nd => by
    rw [List.flatten_cons] at nd
    have n1 := List.nodup_append.mp nd
    obtain ⟨C, s1, f1⟩ := h.low hl n1.1
    obtain ⟨Cs, s2, e2, f2⟩ := r.low hl n1.2.1
    refine ⟨C :: Cs, by rw [List.flatten_cons, List.flatten_cons]; exact s1.append s2, by rw [List.length_cons, List.length_cons, e2], fun bad' hb => .cons (f1 bad' fun b q => ⟨(hb b q).1, fun m => ?_⟩) (f2 bad' fun b q => ⟨(hb b q).1, fun m => ?_⟩)⟩
    · have := (hb b q).2 (by rw [List.flatten_cons]; exact List.mem_append_left _ m)
      rw [List.flatten_cons] at this
      rcases List.mem_append.mp this with e | e
      · exact e
      · exact absurd rfl (n1.2.2 b m b (s2.subset e))
    · have := (hb b q).2 (by rw [List.flatten_cons]; exact List.mem_append_right _ m)
      rw [List.flatten_cons] at this
      rcases List.mem_append.mp this with e | e
      · exact absurd rfl (n1.2.2 b (s1.subset e) b m)
      · exact e
theorem RepX.len {bad : Bad} {l : Lv} : ∀ {vs : List V} {ds : List D} {Bs : List (List Addr)}, RepX K ca bad H l vs ds Bs → vs.length = ds.length ∧ Bs.length = ds.length
  | _, _, _, .nil => ⟨rfl, rfl⟩
  | _, _, _, .cons _ r => ⟨congrArg (· + 1) r.len.1, congrArg (· + 1) r.len.2⟩
theorem RepX.set {bad : Bad} {l : Lv} {v : V} {d : D} {C : List Addr} (h : Rep K ca bad H l v d C) : ∀ {vs : List V} {ds : List D} {Bs : List (List Addr)} (j : Nat), RepX K ca bad H l vs ds Bs → RepX K ca bad H l (vs.set j v) (ds.set j d) (Bs.set j C)
  | _, _, _, _, .nil => .nil
  | _, _, _, 0, .cons _ r => .cons h r
  | _, _, _, j + 1, .cons h' r => .cons h' (RepX.set h j r)
theorem RepX.snoc {bad : Bad} {l : Lv} {v : V} {d : D} {C : List Addr} (h : Rep K ca bad H l v d C) : ∀ {vs : List V} {ds : List D} {Bs : List (List Addr)}, RepX K ca bad H l vs ds Bs → RepX K ca bad H l (vs ++ [v]) (ds ++ [d]) (Bs ++ [C])
  | _, _, _, .nil => .cons h .nil
  | _, _, _, .cons h' r => .cons h' (RepX.snoc h r)
theorem flat_set {Bs : List (List Addr)} {C : List Addr} : ∀ {j : Nat} {a : Addr}, a ∈ (Bs.set j C).flatten → a ∈ Bs.flatten ∨ a ∈ C := by
  intro j a h
  obtain ⟨B, hB, ha⟩ := List.mem_flatten.mp h
  rcases List.mem_or_eq_of_mem_set hB with z | z
  · exact .inl (List.mem_flatten.mpr ⟨B, z, ha⟩)
  · exact .inr (by rw [← z]; exact ha)
theorem nd_set {C : List Addr} (hC : C.Nodup) : ∀ {Bs : List (List Addr)} (j : Nat), Bs.flatten.Nodup → (∀ a ∈ C, a ∉ Bs.flatten) → (Bs.set j C).flatten.Nodup
  | [], _, h, _ => h
  | B :: Bs, 0, h, hd => by
    rw [List.set_cons_zero, List.flatten_cons]
    rw [List.flatten_cons] at h hd
    exact nodup_app hC (List.nodup_append.mp h).2.1 fun a ha hb => hd a ha (List.mem_append_right _ hb)
  | B :: Bs, j + 1, h, hd => by
    rw [List.set_cons_succ, List.flatten_cons]
    rw [List.flatten_cons] at h hd
    have n1 := List.nodup_append.mp h
    refine nodup_app n1.1 (nd_set hC j n1.2.1 fun a ha hb => hd a ha (List.mem_append_right _ hb)) fun a ha hb => ?_
    rcases flat_set hb with z | z
    · exact n1.2.2 a ha a z rfl
    · exact hd a z (List.mem_append_left _ ha)
/-- a slot's node is written -/
theorem Rl.more (r : Rl K ca G H0 σ ρ A) {N : List Addr} (s : Same H0 H) (fr : ∀ c ∈ N, H0 c = none) (ex : ∀ c ∈ N, H c ≠ none) : Rl K ca (fun x => G x ∨ x ∈ N) H σ ρ A := by
  have hx := r.ex
  obtain ⟨own, h1, h2, h3, h4, h5⟩ := r.own
  refine ⟨r.len, r.exG.more s ex, fun a z g => ?_, own, h1, h2, h3, h4, fun j d' l' e => ?_⟩
  · rcases g with g | g
    · exact r.dis a z g
    · exact hx a (.inr z) (fr a g)
  · obtain ⟨e1, v', e2, e3⟩ := h5 j d' l' e
    refine ⟨e1, v', e2, e3.keep (fun _ a o e n => ⟨s a o e, fun z => ?_⟩) (fun _ => s) fun a _ u => s a u⟩
    rcases z with (z | z) | z
    · exact n (.inl z)
    · rw [fr a z] at e; cases e
    · exact n (.inr z)
theorem Rl.write {N : List Addr} (r : Rl K ca (fun x => G x ∨ x ∈ N) H σ ρ A) (hGN : ∀ c ∈ N, ¬ G c) {i : Nat} {k : Kd} {ds : List D} {l : Lv} (e : ρ[i]? = some (some (.nd k ds, l))) (ho : l.own = true) :
    ∃ a u vs B, σ[i]? = some (some (.ref a)) ∧ H a = some u ∧ KdR ca k u vs ∧ RepX K ca (fun x => (G x ∨ x ∈ N) ∨ A x) H l.dn vs ds B ∧ B.flatten.Nodup ∧ (∀ b ∈ B.flatten, A b) ∧ A a ∧
    ∀ (k' : Kd) (u' : HO) (vs' : List V) (ds' : List D) (l' : Lv) (C : List Addr), KdR ca k' u' vs' → l'.own = true → C.Nodup → (∀ c ∈ C, c ∈ B.flatten ∨ c ∈ N) →
      (∀ bad' : Bad, (∀ x, bad' x → ((G x ∨ x ∈ N) ∨ A x) ∧ (x ∈ B.flatten ∨ x ∈ N → x ∈ C)) → Reps K ca bad' H l'.dn vs' ds' C) →
      ∃ A', Rl K ca G (upd H a u') σ (ρ.set i (some (.nd k' ds', l'))) A' ∧ (∀ x, A' x → A x ∨ x ∈ N) := by
  obtain ⟨own, h1, h2, h3, h4, h5⟩ := r.own
  obtain ⟨e1, v, e2, e3⟩ := h5 i _ l e
  have nd := h1 i
  generalize eB : own i = B0 at e3 nd
  cases e3 with
  | sh ho' _ _ => rw [ho] at ho'; cases ho'
  | @ow _ a _ u vs _ B _ hu hk hr =>
    obtain ⟨Bs, eq, hx⟩ := hr.x
    subst eq
    have nd' := List.nodup_cons.mp nd
    have hAa : A a := (h3 a).mpr ⟨i, by rw [eB]; exact List.mem_cons_self⟩
    have hAB : ∀ b ∈ Bs.flatten, A b := fun b m => (h3 b).mpr ⟨i, by rw [eB]; exact List.mem_cons_of_mem _ m⟩
    refine ⟨a, u, vs, Bs, e2, hu, hk, hx, nd'.2, hAB, hAa, fun k' u' vs' ds' l' C hk' ho2 hC hsub hrep => ?_⟩
    have hN : ∀ c ∈ N, ¬ A c := fun c m z => r.dis c z (.inr m)
    have ci : i < ρ.length := (List.getElem?_eq_some_iff.mp e).1
    let own' : Nat → List Addr := fun j => if j = i then a :: C else own j
    have oi : own' i = a :: C := if_pos rfl
    have oj : ∀ {j}, j ≠ i → own' j = own j := fun c => if_neg c
    have haC : a ∉ C := fun m => by
      rcases hsub a m with z | z
      · exact nd'.1 z
      · exact hN a z hAa
    have sub : ∀ x, (∃ j, x ∈ own' j) → A x ∨ x ∈ N := fun x ⟨j, m⟩ => by
      by_cases c : j = i
      · subst c
        rw [oi] at m
        rcases List.mem_cons.mp m with z | z
        · exact .inl (z ▸ hAa)
        · exact (hsub x z).imp (hAB x) id
      · rw [oj c] at m; exact .inl ((h3 x).mpr ⟨j, m⟩)
    have inC : ∀ x, (∃ j, x ∈ own' j) → (x ∈ Bs.flatten ∨ x ∈ N) → x ∈ C := fun x ⟨j, m⟩ z => by
      by_cases c : j = i
      · subst c
        rw [oi] at m
        rcases List.mem_cons.mp m with y | y
        · subst y
          rcases z with z | z
          · exact absurd z nd'.1
          · exact absurd hAa (hN _ z)
        · exact y
      · rw [oj c] at m
        rcases z with z | z
        · exact absurd (h2 j i x m (by rw [eB]; exact List.mem_cons_of_mem _ z)) c
        · exact absurd ((h3 x).mpr ⟨j, m⟩) (hN x z)
    have toG : ∀ x, (G x ∨ ∃ j, x ∈ own' j) → (G x ∨ x ∈ N) ∨ A x := fun x z => by
      rcases z with z | z
      · exact .inl (.inl z)
      · rcases sub x z with z | z
        · exact .inr z
        · exact .inl (.inr z)
    have hw : ∀ x o, H x = some o → x ≠ a → upd H a u' x = some o := fun x o h n => by rw [upd_ne n]; exact h
    refine ⟨fun x => ∃ j, x ∈ own' j, ⟨by rw [List.length_set]; exact r.len, fun x g => ?_, fun x z => ?_, own', fun j => ?_, fun j j' x m1 m2 => ?_, fun x => Iff.rfl, fun j n => ?_, fun j d' l'' ej => ?_⟩, sub⟩
    · by_cases c : x = a
      · subst c; rw [upd_at]; exact fun z => nomatch z
      · rw [upd_ne c]; exact r.exG x (.inl g)
    · rcases sub x z with z | z
      · exact fun g => r.dis x z (.inl g)
      · exact hGN x z
    · by_cases c : j = i
      · subst c; rw [oi]; exact List.nodup_cons.mpr ⟨haC, hC⟩
      · rw [oj c]; exact h1 j
    · have key : ∀ j j' x, j = i → j' ≠ i → x ∈ own' j → x ∈ own' j' → False := fun j j' x c c' m1 m2 => by
        rw [c, oi] at m1
        rw [oj c'] at m2
        rcases List.mem_cons.mp m1 with z | z
        · exact c' (h2 j' i x m2 (by rw [eB, z]; exact List.mem_cons_self))
        · rcases hsub x z with z | z
          · exact c' (h2 j' i x m2 (by rw [eB]; exact List.mem_cons_of_mem _ z))
          · exact hN x z ((h3 x).mpr ⟨j', m2⟩)
      by_cases c : j = i
      · by_cases c' : j' = i
        · rw [c, c']
        · exact (key j j' x c c' m1 m2).elim
      · by_cases c' : j' = i
        · exact (key j' j x c' c m2 m1).elim
        · rw [oj c] at m1
          rw [oj c'] at m2
          exact h2 j j' x m1 m2
    · by_cases c : j = i
      · subst c
        exact absurd (by rw [get_set, if_pos rfl, if_pos ci]) (n (.nd k' ds', l'))
      · rw [oj c]
        refine h4 j fun x e => n x ?_
        rw [get_set, if_neg (Ne.symm c)]
        exact e
    · rw [get_set] at ej
      by_cases c : i = j
      · subst c
        rw [if_pos rfl, if_pos ci] at ej
        cases ej
        rw [oi]
        refine ⟨(fun z => by rw [z] at ho2; cases ho2), .ref a, e2, .ow ho2 upd_at hk' ?_⟩
        refine (hrep (fun x => G x ∨ ∃ j, x ∈ own' j) fun x z => ⟨toG x z, fun m => ?_⟩).keep (fun _ x o hx n => ⟨hw x o hx fun z => n (.inr ⟨i, by rw [z, oi]; exact List.mem_cons_self⟩), n⟩)
          (fun z => ?_) fun x m o hx => hw x o hx fun z => haC (z ▸ m)
        · rcases z with z | z
          · rcases m with m | m
            · exact absurd (.inl z) (r.dis x (hAB x m))
            · exact absurd z (hGN x m)
          · exact inC x z m
        · cases l' with
          | bo => cases ho2
          | n k => cases k <;> cases z
          | al => cases z
      · rw [if_neg c] at ej
        rw [oj (Ne.symm c)]
        obtain ⟨e1, v', e2, e3⟩ := h5 j d' l'' ej
        refine ⟨e1, v', e2, e3.keep (fun _ x o hx n => ⟨hw x o hx fun z => n (.inr (z ▸ hAa)), fun z => ?_⟩) (fun z => absurd z e1) fun x m o hx => hw x o hx fun z => ?_⟩
        · exact n (toG x z)
        · subst z
          exact c (h2 i j x (by rw [eB]; exact List.mem_cons_self) m)
end
end M

/-! MiniZ: the evaluator of statements. -/
namespace M
open PySem PySem.Spec PyProof.Rows L2

inductive Out where
  | nx (ρ : En) | ret (x : DL) | err (C : Str) (x : V) | stuck
mutual
/-- the slots that an expression reads -/
def evars : E → List Nat
  | .var i => [i]
  | .glo _ => []
  | .cst _ => []
  | .bin _ a b => evars a ++ evars b
  | .neg a => evars a
  | .no a => evars a
  | .cmp _ a b => evars a ++ evars b
  | .chain _ _ a b c => evars a ++ (evars b ++ evars c)
  | .isN a => evars a
  | .notN a => evars a
  | .band es => evarss es
  | .bor es => evarss es
  | .ife c a b => evars c ++ (evars a ++ evars b)
  | .lst es => evarss es
  | .tup es => evarss es
  | .idx a i => evars a ++ evars i
  | .sl a _ _ => evars a
  | .rev a => evars a
  | .rgl a => evars a
  | .call _ es => evarss es
  | .meth o _ es => evars o ++ evarss es
  | .attr o _ => evars o
  | .lc _ _ it c elt => evarsI it ++ (evarss c ++ evars elt)
def evarss : Es → List Nat
  | .nil => []
  | .cons e r => evars e ++ evarss r
def evarsI : I → List Nat
  | .of e => evars e
  | .rng1 a => evars a
  | .rng2 a b => evars a ++ evars b
  | .rng3 a b c => evars a ++ (evars b ++ evars c)
  | .enum e => evars e
  | .zip a b => evars a ++ evars b
end
def frz1 (ρ : En) (i : Nat) : En := match ρ[i]? with
  | some (some (d, l)) => if l.own = true then ρ.set i (some (d, .n 0)) else ρ
  | _ => ρ
def frzV : List Nat → En → En
  | [], ρ => ρ
  | i :: r, ρ => frzV r (frz1 ρ i)
/-- the value of an expression; where need be, what it reads is shared from now on -/
noncomputable def evF (Φ : Fi) (ρ : En) (e : E) : R (En × DL) := match ev Φ e (vw ρ) with
  | .ok x => if isBo x = true then (ev Φ e (vw (frzV (evars e) ρ))).bind fun x => if isBo x = true then .stuck else .ok (frzV (evars e) ρ, x) else .ok (ρ, x)
  | .err C v => .err C v
  | .stuck => (ev Φ e (vw (frzV (evars e) ρ))).bind fun x => if isBo x = true then .stuck else .ok (frzV (evars e) ρ, x)
/-- the level of a value in its slot -/
def cl (h : Nat) (d : D) (l : Lv) : Lv := if d.sc = true then .n 0 else l.min (.n h)
def setS (h : Nat → Nat) (ρ : En) (i : Nat) (x : DL) : En := ρ.set i (some (x.1, cl (h i) x.1 x.2))
/-- the level of a node whose child is new -/
def wl (l : Lv) (x : DL) : Lv := (l.dn.min (nl x.1 x.2)).up
noncomputable def loopF (g : G) (b : En → Out) : List D → En → Out
  | [], ρ => .nx ρ
  | d :: r, ρ => match bdG g d (.n 0) ρ with
    | .ok ρ1 => (match b ρ1 with
      | .nx ρ2 => loopF g b r ρ2
      | o => o)
    | _ => .stuck
noncomputable def whlF (c : En → R Bool) (b : En → Out) : Nat → En → Out
  | 0, _ => .stuck
  | n + 1, ρ => match c ρ with
    | .ok true => (match b ρ with
      | .nx ρ2 => whlF c b n ρ2
      | o => o)
    | .ok false => .nx ρ
    | .err C x => .err C x
    | .stuck => .stuck
noncomputable def evIF (Φ : Fi) (ρ : En) (it : I) : R (En × List D) := match evI Φ it (vw ρ) with
  | .ok (ds, .n _) => .ok (ρ, ds)
  | .err C v => .err C v
  | _ => (evI Φ it (vw (frzV (evarsI it) ρ))).bind fun x => match x with
    | (ds, .n _) => .ok (frzV (evarsI it) ρ, ds)
    | _ => .stuck
def toOut {α : Type} (r : R α) (f : α → Out) : Out := match r with
  | .ok a => f a
  | .err C x => .err C x
  | .stuck => .stuck
noncomputable def gdO (p : Prop) (o : Out) : Out := @ite _ p (Classical.propDecidable p) o .stuck
theorem gdO_pos {p : Prop} {o : Out} (h : p) : gdO p o = o := if_pos h
/-- x.append(e) -/
noncomputable def appF (Φ : Fi) (ρ : En) (i : Nat) (e : E) : Out := match ρ[i]? with
  | some (some (.nd .lst _, _)) => toOut (evF Φ ρ e) fun y => match y.1[i]? with
    | some (some (.nd .lst ds, l)) => if l.own = true then gdO (ds.length < sizeLine) (.nx (y.1.set i (some (.nd .lst (ds ++ [y.2.1]), wl l y.2)))) else .stuck
    | _ => .stuck
  | _ => .stuck
/-- x[k] = e -/
noncomputable def sbF (Φ : Fi) (ρ : En) (i : Nat) (k e : E) : Out := toOut (evF Φ ρ e) fun y => match R.pure' (ev Φ k (vw y.1)), y.1[i]? with
  | .ok (.int n, _), some (some (.nd .lst ds, l)) => if l.own = true then (match ixN ds.length n with
    | some j => .nx (y.1.set i (some (.nd .lst (ds.set j y.2.1), wl l y.2)))
    | none => .stuck) else .stuck
  | _, _ => .stuck
def isApp (m : Str) : Es → Option E
  | .cons e .nil => if m = ("append" : Str) then some e else none
  | _ => none
mutual
noncomputable def exec (Φ : Fi) (h : Nat → Nat) (F : Nat) : S → En → Out
  | .asg g e, ρ => match g with
    | .nm i => toOut (evF Φ ρ e) fun y => .nx (setS h y.1 i y.2)
    | .tp gs => toOut (evF Φ ρ e) fun y => (match y.2.2 with
      | .bo => .stuck
      | _ => toOut (R.pure' (bdG (.tp gs) y.2.1 (.n 0) y.1)) .nx)
    | .sb (.var i) k => sbF Φ ρ i k e
    | _ => .stuck
  | .par2 i j a b, ρ => toOut (evF Φ ρ a) fun y => toOut (evF Φ y.1 b) fun z => .nx (setS h (setS h z.1 i y.2) j z.2)
  | .par3 i j k a b c, ρ => toOut (evF Φ ρ a) fun y => toOut (evF Φ y.1 b) fun z => toOut (evF Φ z.1 c) fun u => .nx (setS h (setS h (setS h u.1 i y.2) j z.2) k u.2)
  | .ex e, ρ => match e with
    | .meth (.var i) m es => (match isApp m es with
      | some e' => appF Φ ρ i e'
      | none => .stuck)
    | e => toOut (ev Φ e (vw ρ)) fun _ => .nx ρ
  | .ret e, ρ => match e with
    | .var i => (match ρ[i]? with
      | some (some x) => .ret (x.1, nl x.1 x.2)
      | _ => .stuck)
    | e => toOut (evF Φ ρ e) fun y => .ret (y.2.1, nl y.2.1 y.2.2)
  | .retN, _ => .ret (.non, .al)
  | .ifs c a b, ρ => toOut (evT Φ c (vw ρ)) fun t => if t = true then execs Φ h F a ρ else execs Φ h F b ρ
  | .forS g it b, ρ => toOut (evIF Φ ρ it) fun y => loopF g (execs Φ h F b) y.2 y.1
  | .whl c b, ρ => whlF (fun ρ => evT Φ c (vw ρ)) (execs Φ h F b) F ρ
  | .rais x e, ρ => if Φ.ex x = true then toOut (ev Φ e (vw ρ)) fun y => (match y.1.v with
    | some v => .err x v
    | none => .stuck) else .stuck
  | .pass, ρ => .nx ρ
noncomputable def execs (Φ : Fi) (h : Nat → Nat) (F : Nat) : Ss → En → Out
  | .nil, ρ => .nx ρ
  | .cons s r, ρ => match exec Φ h F s ρ with
    | .nx ρ' => execs Φ h F r ρ'
    | o => o
end
end M

/-! MiniZa: the evaluator of statements is right. -/
namespace M
open PySem PySem.Spec PyProof.Rows L2
section
variable {K : PySem.W.Frag} {ca : CA} {T : Tb} {Φ : Fi} {Xe : XT} {W : WX} {G : Addr → Prop}
theorem frz1_ok {H : Hp} {σ : L2.St} {ρ : En} {A : Addr → Prop} (r : Rl K ca G H σ ρ A) (i : Nat) : ∃ A', Rl K ca G H σ (frz1 ρ i) A' ∧ ∀ a, A' a → A a := by
  unfold frz1
  split
  · rename_i d l e
    split
    · rename_i ho
      refine r.low e ?_ (fun z => nomatch z)
      cases l with
      | bo => cases ho
      | n k => exact Nat.zero_le k
      | al => trivial
    · exact ⟨A, r, fun _ z => z⟩
  · exact ⟨A, r, fun _ z => z⟩
theorem frzV_ok {H : Hp} {σ : L2.St} : ∀ (is : List Nat) {ρ : En} {A : Addr → Prop}, Rl K ca G H σ ρ A → ∃ A', Rl K ca G H σ (frzV is ρ) A' ∧ ∀ a, A' a → A a
  | [], _, A, r => ⟨A, r, fun _ z => z⟩
  | i :: is, ρ, A, r => by
    obtain ⟨A1, r1, s1⟩ := frz1_ok r i
    obtain ⟨A2, r2, s2⟩ := frzV_ok is r1
    exact ⟨A2, r2, fun a z => s1 a (s2 a z)⟩
/-- what an outcome asks of the ends -/
def Sat (K : PySem.W.Frag) (ca : CA) (W : WX) (G A : Addr → Prop) (H : Hp) (D : Ends) : Out → Prop
  | .nx ρ' => ∀ σ' H' A', Rl K ca G H' σ' ρ' A' → Fr A H A' H' → D.nx σ' H'
  | .ret x => ∀ v H' (B : List Addr), Fr A H (fun a => a ∈ B) H' → Rep K ca (fun a => G a ∨ a ∈ B) H' x.2 v x.1 B → B.Nodup → x.2 ≠ .bo → D.rt v H'
  | .err C x => ∀ dd H' σ' Ca, ca C = some Ca → H' dd = some (.xd [("at", x)]) → (∀ a o, H a = some o → ¬ A a → H' a = some o) → W (.ref Ca) (some dd) σ' H'
  | .stuck => False
theorem Sat.mono {A A' : Addr → Prop} {H H' : Hp} {D : Ends} {o : Out} (h : Sat K ca W G A H D o) (f : Fr A H A' H') : Sat K ca W G A' H' D o := by
  cases o with
  | nx ρ' => exact fun σ2 H2 A2 r f2 => h σ2 H2 A2 r (f.trans f2)
  | ret x => exact fun v H2 B f2 => h v H2 B (f.trans f2)
  | err C x => exact fun dd H2 σ2 Ca e1 e2 k => h dd H2 σ2 Ca e1 e2 fun a o e n => k a o (f a o e n).1 (f a o e n).2
  | stuck => exact h
theorem Sat.to {A : Addr → Prop} {H : Hp} {D D' : Ends} {o : Out} (h : Sat K ca W G A H D o) (hn : ∀ ρ, o ≠ .nx ρ) (e : D'.rt = D.rt) : Sat K ca W G A H D' o := by
  cases o with
  | nx ρ' => exact absurd rfl (hn ρ')
  | ret x => intro v H2 B f r nd hb; rw [e]; exact h v H2 B f r nd hb
  | err C x => exact h
  | stuck => exact h
theorem isBo_frz {x : DL} (h : isBo x = false) (hs : x.1.sc = false) : x.2 ≠ .bo := by
  intro z
  unfold isBo at h
  rw [hs, z] at h
  cases h
theorem low_cl {bad : Bad} {H H' : Hp} {h : Nat} {x : DL} {v : V} {B : List Addr} (hb : Ex' bad H) (hx : isBo x = false) (r : Res K ca bad H x.1 x.2 v H' B) :
    cl h x.1 x.2 ≠ .bo ∧ ∃ B', B'.Sublist B ∧ Res K ca bad H x.1 (cl h x.1 x.2) v H' B' := by
  unfold cl
  split
  · rename_i c
    refine ⟨(fun z => nomatch z), [], List.nil_sublist _, r.same, r.rep.scal c, .nil, fun _ z => nomatch z⟩
  · rename_i c
    rw [Bool.not_eq_true] at c
    have c2 := isBo_frz hx c
    refine ⟨?_, ?_⟩
    · cases e : x.2 with
      | bo => exact absurd e c2
      | n k => exact fun z => nomatch z
      | al => exact fun z => nomatch z
    · obtain ⟨B', s, f⟩ := r.rep.low (l' := x.2.min (.n h)) Lv.min_le_left r.nd
      refine ⟨B', s, r.same, f _ fun a z => ?_, r.nd.sublist s, fun a m => r.fr a (s.subset m)⟩
      rcases z with z | z
      · exact ⟨.inl z, fun m => absurd (r.fr a m) (hb a z)⟩
      · exact ⟨.inr (s.subset z), fun _ => z⟩
/-- an expression at the head of a statement -/
theorem evF_sat (hF : FiOk K ca T Φ) {H : Hp} {σ : L2.St} {ρ : En} {A : Addr → Prop} {e : E} {D : Ends} {f : En × DL → Out} {Q : VK} (r : Rl K ca G H σ ρ A) (hs : Sat K ca W G A H D (toOut (evF Φ ρ e) f))
    (hq : ∀ ρ2 x A2 v H1 B, Rl K ca G H σ ρ2 A2 → (∀ a, A2 a → A a) → isBo x = false → Res K ca (fun a => G a ∨ A2 a) H x.1 x.2 v H1 B → Sat K ca W G A H D (f (ρ2, x)) → Q v H1) : rdE T K W e σ H Q := by
  have second : ∀ {o : R (En × DL)}, o = ((ev Φ e (vw (frzV (evars e) ρ))).bind fun x => if isBo x = true then .stuck else .ok (frzV (evars e) ρ, x)) → Sat K ca W G A H D (toOut o f) → rdE T K W e σ H Q := by
    intro o eo hs
    subst eo
    obtain ⟨A2, r2, s2⟩ := frzV_ok (evars e) r
    have h := ev_ok hF e W σ _ _ H r2.ex r2.env
    cases ex : ev Φ e (vw (frzV (evars e) ρ)) with
    | stuck => rw [ex] at hs; exact hs.elim
    | err C x =>
      rw [ex] at hs h
      exact h (fun dd H' Ca e1 s e2 => hs dd H' σ Ca e1 e2 fun a o z _ => s a o z) Q
    | ok x =>
      rw [ex] at hs h
      simp only [R.bind] at hs
      by_cases c : isBo x = true
      · rw [if_pos c] at hs; exact hs.elim
      · rw [if_neg c] at hs
        rw [Bool.not_eq_true] at c
        exact h Q fun v H1 ⟨B, hB⟩ => hq _ x A2 v H1 B r2 s2 c hB hs
  have h := ev_ok hF e W σ _ _ H r.ex r.env
  unfold evF at hs
  cases ex : ev Φ e (vw ρ) with
  | stuck => rw [ex] at hs; exact second rfl hs
  | err C x =>
    rw [ex] at hs h
    exact h (fun dd H' Ca e1 s e2 => hs dd H' σ Ca e1 e2 fun a o z _ => s a o z) Q
  | ok x =>
    rw [ex] at hs h
    simp only at hs
    by_cases c : isBo x = true
    · rw [if_pos c] at hs; exact second rfl hs
    · rw [if_neg c] at hs
      rw [Bool.not_eq_true] at c
      exact h Q fun v H1 ⟨B, hB⟩ => hq ρ x A v H1 B r (fun _ z => z) c hB hs
theorem set_sat {H H1 : Hp} {σ : L2.St} {ρ : En} {A A2 : Addr → Prop} {h : Nat → Nat} {i : Nat} {x : DL} {v : V} {B : List Addr} (r : Rl K ca G H σ ρ A2) (s : ∀ a, A2 a → A a) (hx : isBo x = false) (hB : Res K ca (fun a => G a ∨ A2 a) H x.1 x.2 v H1 B) :
    ∃ A3, Rl K ca G H1 (σ.set i (some v)) (setS h ρ i x) A3 ∧ Fr A H A3 H1 := by
  obtain ⟨c, B', sB, hB'⟩ := low_cl (h := h i) r.ex hx hB
  obtain ⟨A3, r3, f3⟩ := r.set (i := i) hB'.same c hB'.rep hB'.nd hB'.fr
  exact ⟨A3, r3, (Fr.less s).trans f3⟩
mutual
/-- names bound to shared values -/
theorem bdR_ok : ∀ (g : M.G) {H : Hp} {σ : L2.St} {ρ ρ1 : En} {A : Addr → Prop} {d : D} {v : V}, Rl K ca G H σ ρ A → (∀ bad, (∀ a, bad a → G a ∨ A a) → Rep K ca bad H (.n 0) v d []) → bdG g d (.n 0) ρ = .ok ρ1 →
    ∃ σ1 A1, Rl K ca G H σ1 ρ1 A1 ∧ (∀ a, A1 a → A a) ∧ ∀ Q : L2.St → Hp → Prop, Q σ1 H → rdG T K W g v σ H Q
  | .nm i, H, σ, ρ, ρ1, A, d, v, r, hr, h => by
    simp only [bdG, R.ok.injEq] at h
    subst h
    obtain ⟨A1, r1, f1⟩ := r.set (i := i) (l := .n 0) (B := []) (Same.refl H) (fun z => by cases z) (hr (fun a => (G a ∨ A a) ∨ a ∈ ([] : List Addr)) fun a z => z.elim id fun z => by cases z) .nil fun _ z => by cases z
    have hA1 : ∀ a, A1 a → A a := fun a z => by
      by_cases c : A a
      · exact c
      · cases e : H a with
        | none => exact absurd e (r1.ex a (.inr z))
        | some o => exact absurd z (f1 a o e c).2
    exact ⟨_, A1, r1, hA1, fun Q q => by simp only [rdG]; exact q⟩
  | .tp gs, H, σ, ρ, ρ1, A, d, v, r, hr, h => by
    simp only [bdG] at h
    split at h
    · rename_i ds e
      obtain ⟨a, vs, e1, e2, e3⟩ := (hr _ fun a z => z).nodeQ e
      have hrs : ∀ bad, (∀ a, bad a → G a ∨ A a) → Reps K ca bad H (.n 0) vs ds [] := fun bad hb => e3.keep (fun _ a o e n => ⟨e, fun z => n (hb a z)⟩) (fun _ => Same.refl _) fun _ z => nomatch z
      obtain ⟨σ1, A1, r1, s1, h3, h4⟩ := bdRs_ok gs r hrs h
      refine ⟨σ1, A1, r1, s1, fun Q q => ?_⟩
      simp only [rdG]
      rcases e2 with e2 | e2
      · exact .inr ⟨a, vs, e1, e2, h3, h4 Q q⟩
      · exact .inl ⟨a, vs, e1, e2, h3, h4 Q q⟩
    · cases h
  | .fl _ _, _, _, _, _, _, _, _, _, _, h => by simp only [bdG] at h; cases h
  | .sb _ _, _, _, _, _, _, _, _, _, _, h => by simp only [bdG] at h; cases h
theorem bdRs_ok : ∀ (gs : Gs) {H : Hp} {σ : L2.St} {ρ ρ1 : En} {A : Addr → Prop} {ds : List D} {vs : List V}, Rl K ca G H σ ρ A → (∀ bad, (∀ a, bad a → G a ∨ A a) → Reps K ca bad H (.n 0) vs ds []) → bdGs gs ds (.n 0) ρ = .ok ρ1 →
    ∃ σ1 A1, Rl K ca G H σ1 ρ1 A1 ∧ (∀ a, A1 a → A a) ∧ vs.length = gsLen gs ∧ ∀ Q : L2.St → Hp → Prop, Q σ1 H → rdGs T K W gs vs σ H Q
  | .nil, H, σ, ρ, ρ1, A, [], vs, r, hr, h => by
    simp only [bdGs, R.ok.injEq] at h
    subst h
    have e := List.length_eq_zero_iff.mp (hr _ fun a z => z).length
    subst e
    exact ⟨σ, A, r, fun _ z => z, rfl, fun Q q => by simp only [rdGs]; exact ⟨rfl, q⟩⟩
  | .cons g gs, H, σ, ρ, ρ1, A, d :: ds, v :: vs, r, hr, h => by
    simp only [bdGs] at h
    obtain ⟨ρ2, h1, h2⟩ := bind_ok h
    obtain ⟨σ1, A1, r1, s1, q1⟩ := bdR_ok g r (fun bad hb => (hr bad hb).uncons.1) h1
    obtain ⟨σ2, A2, r2, s2, b3, q2⟩ := bdRs_ok gs r1 (fun bad hb => (hr bad fun a z => (hb a z).imp id (s1 a)).uncons.2) h2
    refine ⟨σ2, A2, r2, fun a z => s1 a (s2 a z), by rw [List.length_cons, b3]; rfl, fun Q q => ?_⟩
    simp only [rdGs]
    exact ⟨v, vs, rfl, q1 _ (q2 Q q)⟩
  | .cons g gs, _, _, _, _, _, d :: ds, [], _, hr, _ => by cases (hr _ fun a z => z).length
  | .nil, _, _, _, _, _, _ :: _, _, _, _, h => by simp only [bdGs] at h; cases h
  | .cons _ _, _, _, _, _, _, [], _, _, _, h => by simp only [bdGs] at h; cases h
end
theorem to_low {bad bad' : Bad} {H : Hp} {l : Lv} {v : V} {d : D} {B : List Addr} (r : Rep K ca bad H l v d B) (hl : l ≠ .bo) (nd : B.Nodup) (hb : ∀ a, bad' a → bad a ∧ a ∉ B) : Rep K ca bad' H (.n 0) v d [] := by
  obtain ⟨B', s, f⟩ := r.low (l' := .n 0) (by cases l with | bo => exact absurd rfl hl | n k => exact Nat.zero_le k | al => trivial) nd
  have e0 : B' = [] := Rep.bare (f (fun _ => False) fun _ q => q.elim) rfl
  subst e0
  exact f bad' fun a z => ⟨(hb a z).1, fun m => absurd m (hb a z).2⟩
theorem wl_own {l : Lv} {x : DL} (hl : l.own = true) (hx : isBo x = false) : (wl l x).own = true ∧ (wl l x).dn = l.dn.min (nl x.1 x.2) := by
  refine ⟨?_, Lv.dn_up _⟩
  unfold wl
  have h1 := nl_bo hx
  generalize nl x.1 x.2 = m at h1 ⊢
  cases l with
  | bo => cases hl
  | n k =>
    cases k with
    | zero => cases hl
    | succ k => cases m <;> first | exact absurd rfl h1 | rfl
  | al => cases m <;> first | exact absurd rfl h1 | rfl
theorem to_lm {bad : Bad} {H H1 : Hp} {x : DL} {v : V} {B : List Addr} {lm : Lv} (r : Res K ca bad H x.1 x.2 v H1 B) (h : lm.le (nl x.1 x.2)) :
    ∃ C, C.Sublist B ∧ ∀ bad' : Bad, (∀ a, bad' a → (bad a ∨ a ∈ B) ∧ (a ∈ B → a ∈ C)) → Rep K ca bad' H1 lm v x.1 C := by
  unfold nl at h
  split at h
  · rename_i c
    exact ⟨[], List.nil_sublist _, fun bad' _ => r.rep.scal c⟩
  · exact r.rep.low h r.nd
/-- a value is put into a slot's node -/
theorem put_ok {H H1 : Hp} {σ : L2.St} {ρ : En} {A : Addr → Prop} {i : Nat} {k : Kd} {ds : List D} {l : Lv} {x : DL} {v : V} {B : List Addr} (r : Rl K ca G H σ ρ A) (hB : Res K ca (fun a => G a ∨ A a) H x.1 x.2 v H1 B) (hx : isBo x = false)
    (e : ρ[i]? = some (some (.nd k ds, l))) (ho : l.own = true) :
    ∃ a u vs, σ[i]? = some (some (.ref a)) ∧ H a = some u ∧ H1 a = some u ∧ KdR ca k u vs ∧ vs.length = ds.length ∧
      (∀ k' u', KdR ca k' u' (vs ++ [v]) → ∃ A3, Rl K ca G (upd H1 a u') σ (ρ.set i (some (.nd k' (ds ++ [x.1]), wl l x))) A3 ∧ Fr A H A3 (upd H1 a u')) ∧
      ∀ j k' u', KdR ca k' u' (vs.set j v) → ∃ A3, Rl K ca G (upd H1 a u') σ (ρ.set i (some (.nd k' (ds.set j x.1), wl l x))) A3 ∧ Fr A H A3 (upd H1 a u') := by
  have hfr : ∀ c ∈ B, ¬ G c ∧ ¬ A c := fun c m => ⟨fun g => r.exG c g (hB.fr c m), fun z => r.ex c (.inr z) (hB.fr c m)⟩
  have r1 : Rl K ca (fun x => G x ∨ x ∈ B) H1 σ ρ A := r.more hB.same hB.fr hB.there
  obtain ⟨a, u, vs, Bk, e1, e2, e3, e4, nd, e5, ha, w⟩ := r1.write (fun c m => (hfr c m).1) e ho
  obtain ⟨own, _, _, _, _, h5⟩ := r.own
  obtain ⟨_, v0, f1, f2⟩ := h5 i _ l e
  rw [e1] at f1
  cases f1
  have hHa : H a = some u := by
    have : ∃ o, H a = some o := by
      generalize eB : own i = B0 at f2
      cases f2 with
      | sh ho' _ _ => rw [ho] at ho'; cases ho'
      | ow _ hu _ _ => exact ⟨_, hu⟩
    obtain ⟨o, ho⟩ := this
    rw [hB.same a o ho] at e2
    cases e2
    exact ho
  obtain ⟨wo, wd⟩ := wl_own ho hx
  obtain ⟨Cs, s1, _, f1⟩ := e4.low (l' := l.dn.min (nl x.1 x.2)) Lv.min_le_left nd
  obtain ⟨C, s2, g1⟩ := to_lm hB (lm := l.dn.min (nl x.1 x.2)) Lv.min_le_right
  have dis : ∀ b ∈ Bk.flatten, b ∉ B := fun b m z => (hfr b z).2 (e5 b m)
  have frm : ∀ {u' : HO} {A3 : Addr → Prop}, (∀ x, A3 x → A x ∨ x ∈ B) → Fr A H A3 (upd H1 a u') := fun h3 x0 o hx0 n => ⟨by
    rw [upd_ne (fun z => n (by rw [z]; exact ha))]
    exact hB.same x0 o hx0, fun z => (h3 x0 z).elim n fun m => by rw [hB.fr x0 m] at hx0; cases hx0⟩
  refine ⟨a, u, vs, e1, hHa, e2, e3, e4.len.1, fun k' u' hk => ?_, fun j k' u' hk => ?_⟩
  · obtain ⟨A3, r3, h3⟩ := w k' u' _ (ds ++ [x.1]) (wl l x) (Cs.flatten ++ C) hk wo (nodup_app (nd.sublist s1) (hB.nd.sublist s2) fun b m1 m2 => dis b (s1.subset m1) (s2.subset m2))
      (fun c m => (List.mem_append.mp m).imp (fun z => s1.subset z) fun z => s2.subset z) fun bad' hb => by
        rw [wd]
        have k1 := f1 bad' fun b z => ⟨(hb b z).1, fun m => by
          rcases List.mem_append.mp ((hb b z).2 (.inl m)) with y | y
          · exact y
          · exact absurd (s2.subset y) (dis b m)⟩
        have k2 := g1 bad' fun b z => ⟨by
          rcases (hb b z).1 with (y | y) | y
          · exact .inl (.inl y)
          · exact .inr y
          · exact .inl (.inr y), fun m => by
          rcases List.mem_append.mp ((hb b z).2 (.inr m)) with y | y
          · exact absurd m (dis b (s1.subset y))
          · exact y⟩
        have k3 := (RepX.snoc k2 k1).s
        rw [List.flatten_append, List.flatten_singleton] at k3
        exact k3
    exact ⟨A3, r3, frm h3⟩
  · obtain ⟨A3, r3, h3⟩ := w k' u' _ (ds.set j x.1) (wl l x) (Cs.set j C).flatten hk wo (nd_set (hB.nd.sublist s2) j (nd.sublist s1) fun b m1 m2 => dis b (s1.subset m2) (s2.subset m1))
      (fun c m => (flat_set m).imp (fun z => s1.subset z) fun z => s2.subset z) fun bad' hb => by
        rw [wd]
        have k1 := f1 bad' fun b z => ⟨(hb b z).1, fun m => by
          rcases flat_set ((hb b z).2 (.inl m)) with y | y
          · exact y
          · exact absurd (s2.subset y) (dis b m)⟩
        have k2 := g1 bad' fun b z => ⟨by
          rcases (hb b z).1 with (y | y) | y
          · exact .inl (.inl y)
          · exact .inr y
          · exact .inl (.inr y), fun m => by
          rcases flat_set ((hb b z).2 (.inr m)) with y | y
          · exact absurd m (dis b (s1.subset y))
          · exact y⟩
        exact (RepX.set k2 j k1).s
    exact ⟨A3, r3, frm h3⟩
/-- an expression at the head of a statement -/
theorem evF_ok (hF : FiOk K ca T Φ) {H : Hp} {σ : L2.St} {ρ : En} {A : Addr → Prop} {e : E} (r : Rl K ca G H σ ρ A) : match evF Φ ρ e with
    | .ok y => ∃ A2, Rl K ca G H σ y.1 A2 ∧ (∀ a, A2 a → A a) ∧ isBo y.2 = false ∧ ∀ Q : VK, (∀ v H1 B, Res K ca (fun a => G a ∨ A2 a) H y.2.1 y.2.2 v H1 B → Q v H1) → rdE T K W e σ H Q
    | .err C x => (∀ dd H' Ca, ca C = some Ca → Same H H' → H' dd = some (.xd [("at", x)]) → W (.ref Ca) (some dd) σ H') → ∀ Q, rdE T K W e σ H Q
    | .stuck => True := by
  have second : match ((ev Φ e (vw (frzV (evars e) ρ))).bind fun x => if isBo x = true then .stuck else .ok (frzV (evars e) ρ, x) : R (En × DL)) with
    | .ok y => ∃ A2, Rl K ca G H σ y.1 A2 ∧ (∀ a, A2 a → A a) ∧ isBo y.2 = false ∧ ∀ Q : VK, (∀ v H1 B, Res K ca (fun a => G a ∨ A2 a) H y.2.1 y.2.2 v H1 B → Q v H1) → rdE T K W e σ H Q
    | .err C x => (∀ dd H' Ca, ca C = some Ca → Same H H' → H' dd = some (.xd [("at", x)]) → W (.ref Ca) (some dd) σ H') → ∀ Q, rdE T K W e σ H Q
    | .stuck => True := by
    obtain ⟨A2, r2, s2⟩ := frzV_ok (evars e) r
    have h := ev_ok hF e W σ _ _ H r2.ex r2.env
    cases ex : ev Φ e (vw (frzV (evars e) ρ)) with
    | stuck => trivial
    | err C x => rw [ex] at h; exact h
    | ok x =>
      rw [ex] at h
      simp only [R.bind]
      by_cases c : isBo x = true
      · rw [if_pos c]; trivial
      · rw [if_neg c]
        rw [Bool.not_eq_true] at c
        exact ⟨A2, r2, s2, c, fun Q q => h Q fun v H1 ⟨B, hB⟩ => q v H1 B hB⟩
  have h := ev_ok hF e W σ _ _ H r.ex r.env
  unfold evF
  cases ex : ev Φ e (vw ρ) with
  | stuck => exact second
  | err C x => rw [ex] at h; exact h
  | ok x =>
    rw [ex] at h
    simp only
    by_cases c : isBo x = true
    · rw [if_pos c]; exact second
    · rw [if_neg c]
      rw [Bool.not_eq_true] at c
      exact ⟨A, r, fun _ z => z, c, fun Q q => h Q fun v H1 ⟨B, hB⟩ => q v H1 B hB⟩
theorem isApp_ok {m : Str} {es : Es} {e : E} (h : isApp m es = some e) : m = ("append" : Str) ∧ es = .cons e .nil := by
  unfold isApp at h
  split at h
  · split at h
    · rename_i c; cases h; exact ⟨c, rfl⟩
    · cases h
  · cases h
theorem gdO_sat {A : Addr → Prop} {H : Hp} {D : Ends} {p : Prop} {o : Out} (h : Sat K ca W G A H D (gdO p o)) : p ∧ Sat K ca W G A H D o := by
  unfold gdO at h
  by_cases c : p
  · rw [if_pos c] at h; exact ⟨c, h⟩
  · rw [if_neg c] at h; exact h.elim
theorem app_sat (hF : FiOk K ca T Φ) {H : Hp} {σ : L2.St} {ρ : En} {A : Addr → Prop} {i : Nat} {e : E} {D : Ends} (r : Rl K ca G H σ ρ A) (hs : Sat K ca W G A H D (appF Φ ρ i e)) :
    rdE T K W (.meth (.var i) "append" (.cons e .nil)) σ H fun _ H1 => D.nx σ H1 := by
  unfold appF at hs
  split at hs
  · rename_i ds0 l0 e0
    obtain ⟨own, _, _, _, _, h5⟩ := r.own
    obtain ⟨_, v0, g1, g2⟩ := h5 i _ l0 e0
    obtain ⟨a0, vs0, g3, g4, _⟩ := (g2.borrow (bad' := fun _ => False)).nodeL rfl
    subst g3
    simp only [rdE]
    refine .inl (.inl ⟨rfl, .ref a0, g1, .inl ⟨rfl, vs0, g4⟩, ?_⟩)
    simp only [rdA]
    have h := evF_ok (W := W) (e := e) hF r
    cases ex : evF Φ ρ e with
    | stuck => rw [ex] at hs; exact hs.elim
    | err C x =>
      rw [ex] at hs h
      exact h (fun dd H' Ca e1 s e2 => hs dd H' σ Ca e1 e2 fun a o z _ => s a o z) _
    | ok y =>
      rw [ex] at hs h
      obtain ⟨A2, r2, s2, hb, q⟩ := h
      refine q _ fun v H1 B hB => ?_
      simp only [toOut] at hs
      split at hs
      · rename_i ds l ei
        split at hs
        · rename_i ho
          obtain ⟨c, hs⟩ := gdO_sat hs
          obtain ⟨a, u, vs, e1, e2, e3, e4, e5, hp, _⟩ := put_ok r2 hB hb ei ho
          rw [g1] at e1
          cases e1
          have e4' : u = .lst vs := e4
          subst e4'
          obtain ⟨A3, r3, f3⟩ := hp .lst (.lst (vs ++ [v])) rfl
          exact ⟨a0, vs, v, rfl, rfl, e3, by rw [e5]; exact c, hs _ _ _ r3 ((Fr.less s2).trans f3)⟩
        · exact hs.elim
      · exact hs.elim
  · exact hs.elim
theorem sb_sat (hF : FiOk K ca T Φ) {H : Hp} {σ : L2.St} {ρ : En} {A : Addr → Prop} {i : Nat} {k e : E} {D : Ends} (r : Rl K ca G H σ ρ A) (hs : Sat K ca W G A H D (sbF Φ ρ i k e)) :
    tAsg (rdE T K W e) (rdG T K W (.sb (.var i) k)) D σ H := by
  unfold sbF at hs
  show rdE T K W e σ H fun x H1 => rdG T K W (.sb (.var i) k) x σ H1 D.nx
  have h := evF_ok (W := W) (e := e) hF r
  cases ex : evF Φ ρ e with
  | stuck => rw [ex] at hs; exact hs.elim
  | err C x =>
    rw [ex] at hs h
    exact h (fun dd H' Ca e1 s e2 => hs dd H' σ Ca e1 e2 fun a o z _ => s a o z) _
  | ok y =>
    rw [ex] at hs h
    obtain ⟨A2, r2, s2, hb, q⟩ := h
    refine q _ fun v H1 B hB => ?_
    simp only [toOut] at hs
    split at hs
    · rename_i n ln ds l ek ei
      split at hs
      · rename_i ho
        split at hs
        · rename_i j ej
          simp only [rdG, rdE]
          have hk := ev_ok hF k W σ _ _ H1 (r2.same hB.same).ex (r2.same hB.same).env
          rw [pure_ok ek] at hk
          have r2' := r2
          obtain ⟨own, _, _, _, _, h5⟩ := r2.own
          obtain ⟨_, v0, g1, g2⟩ := h5 i _ l ei
          refine ⟨v0, g1, hk _ fun w H3 hp => ?_⟩
          have hs3 := hp.same
          have ew := (hp.frz (r2.same hB.same).ex).int'
          have hB3 : Res K ca (fun a => G a ∨ A2 a) H y.2.1 y.2.2 v H3 B := ⟨same_trans hB.same hs3, hB.rep.keep (fun _ => keep_same hs3) (fun _ => hs3) (fun a _ u => hs3 a u), hB.nd, hB.fr⟩
          obtain ⟨a, u, vs, e1, e2, e3, e4, e5, _, hp⟩ := put_ok r2 hB3 hb ei ho
          rw [g1] at e1
          cases e1
          have e4' : u = .lst vs := e4
          subst e4'
          obtain ⟨A3, r3, f3⟩ := hp j .lst (.lst (vs.set j v)) rfl
          exact .inl ⟨a, vs, n, j, rfl, ew, e3, by rw [e5]; exact ej, hs _ _ _ r3 ((Fr.less s2).trans f3)⟩
        · exact hs.elim
      · exact hs.elim
    · exact hs.elim
theorem Rl.lessG {G' : Addr → Prop} {H : Hp} {σ : L2.St} {ρ : En} {A : Addr → Prop} (r : Rl K ca G H σ ρ A) (h : ∀ a, G' a → G a) : Rl K ca G' H σ ρ A := by
  obtain ⟨own, h1, h2, h3, h4, h5⟩ := r.own
  exact ⟨r.len, fun a z => r.exG a (h a z), fun a z g => r.dis a z (h a g), own, h1, h2, h3, h4, fun j d' l' e => by
    obtain ⟨e1, v', e2, e3⟩ := h5 j d' l' e
    exact ⟨e1, v', e2, e3.keep (fun _ a o e n => ⟨e, fun z => n (z.imp (h a) id)⟩) (fun _ => Same.refl _) fun _ _ _ z => z⟩⟩
/-- a pending value goes to a slot -/
theorem Rl.setG {N : List Addr} {H : Hp} {σ : L2.St} {ρ : En} {A : Addr → Prop} (r : Rl K ca (fun x => G x ∨ x ∈ N) H σ ρ A) {i : Nat} {d : D} {l : Lv} {v : V} (hl : l ≠ .bo) (h : Rep K ca (fun a => (G a ∨ A a) ∨ a ∈ N) H l v d N) (nd : N.Nodup) (hGN : ∀ c ∈ N, ¬ G c) :
    ∃ A', Rl K ca G H (σ.set i (some v)) (ρ.set i (some (d, l))) A' ∧ ∀ a, A' a → A a ∨ a ∈ N := by
  obtain ⟨own, h1, h2, h3, h4, h5⟩ := r.own
  have hN : ∀ c ∈ N, ¬ A c := fun c m z => r.dis c z (.inr m)
  by_cases ci : i < ρ.length
  · let own' : Nat → List Addr := fun j => if j = i then N else own j
    have oi : own' i = N := if_pos rfl
    have oj : ∀ {j}, j ≠ i → own' j = own j := fun c => if_neg c
    have sub : ∀ a, (∃ j, a ∈ own' j) → A a ∨ a ∈ N := fun a ⟨j, m⟩ => by
      by_cases c : j = i
      · rw [c, oi] at m; exact .inr m
      · rw [oj c] at m; exact .inl ((h3 a).mpr ⟨j, m⟩)
    have key : ∀ j j' x, j = i → j' ≠ i → x ∈ own' j → x ∈ own' j' → False := fun j j' x c c' m1 m2 => by
      rw [c, oi] at m1
      rw [oj c'] at m2
      exact hN x m1 ((h3 x).mpr ⟨j', m2⟩)
    refine ⟨fun a => ∃ j, a ∈ own' j, ⟨by rw [List.length_set, List.length_set]; exact r.len, fun a z => r.exG a (.inl z), fun a z g => ?_, own', fun j => ?_, fun j k a m1 m2 => ?_, fun a => Iff.rfl, fun j n => ?_, fun j d' l' e => ?_⟩, sub⟩
    · rcases sub a z with z | z
      · exact r.dis a z (.inl g)
      · exact hGN a z g
    · by_cases c : j = i
      · rw [c, oi]; exact nd
      · rw [oj c]; exact h1 j
    · by_cases c : j = i
      · by_cases c' : k = i
        · rw [c, c']
        · exact (key j k a c c' m1 m2).elim
      · by_cases c' : k = i
        · exact (key k j a c' c m2 m1).elim
        · rw [oj c] at m1
          rw [oj c'] at m2
          exact h2 j k a m1 m2
    · by_cases c : j = i
      · subst c
        exact absurd (by rw [get_set, if_pos rfl, if_pos ci]) (n (d, l))
      · rw [oj c]
        refine h4 j fun x e => n x ?_
        rw [get_set, if_neg (Ne.symm c)]
        exact e
    · rw [get_set] at e ⊢
      by_cases c : i = j
      · subst c
        rw [if_pos rfl] at e ⊢
        rw [if_pos ci] at e
        rw [if_pos (by rw [r.len]; exact ci), oi]
        cases e
        refine ⟨hl, v, rfl, h.keep (fun _ a o e n => ⟨e, fun z => n ?_⟩) (fun _ => Same.refl _) fun _ _ _ z => z⟩
        rcases z with z | z
        · exact .inl (.inl z)
        · rcases sub a z with z | z
          · exact .inl (.inr z)
          · exact .inr z
      · rw [if_neg c] at e ⊢
        rw [oj (Ne.symm c)]
        obtain ⟨e1, v', e2, e3⟩ := h5 j d' l' e
        refine ⟨e1, v', e2, e3.keep (fun _ a o e n => ⟨e, fun z => n ?_⟩) (fun _ => Same.refl _) fun _ _ _ z => z⟩
        rcases z with z | z
        · exact .inl (.inl z)
        · rcases sub a z with z | z
          · exact .inr z
          · exact .inl (.inr z)
  · have e1 : ρ.set i (some (d, l)) = ρ := List.set_eq_of_length_le (Nat.le_of_not_lt ci)
    have e2 : σ.set i (some v) = σ := List.set_eq_of_length_le (by rw [r.len]; exact Nat.le_of_not_lt ci)
    rw [e1, e2]
    exact ⟨A, r.lessG fun a z => .inl z, fun a z => .inl z⟩
end
end M

/-! MiniZb: the evaluator of statements is right. -/
namespace M
open PySem PySem.Spec PyProof.Rows L2
section
variable {K : PySem.W.Frag} {ca : CA} {T : Tb} {Φ : Fi} {Xe : XT} {G : Addr → Prop}
/-- the errors' classes -/
def ExT (ca : CA) (Xe : XT) (Φ : Fi) : Prop := ∀ x, Φ.ex x = true → ∃ Ca, ca x = some Ca ∧ Xe x = some Ca
/-- a statement's reading follows its outcome -/
def Fol (K : PySem.W.Frag) (ca : CA) (W : WX) (G : Addr → Prop) (b : En → Out) (t : TS) : Prop := ∀ (ρ : En) (σ : L2.St) (H : Hp) (A : Addr → Prop) (D : Ends), Rl K ca G H σ ρ A → Sat K ca W G A H D (b ρ) → t D σ H
theorem evF_go {W : WX} (hF : FiOk K ca T Φ) {H : Hp} {σ : L2.St} {ρ : En} {A : Addr → Prop} {e : E} {D : Ends} {f : En × DL → Out} {Q : VK} (r : Rl K ca G H σ ρ A) (hs : Sat K ca W G A H D (toOut (evF Φ ρ e) f))
    (hq : ∀ ρ2 x A2 v H1 B, Rl K ca G H σ ρ2 A2 → (∀ a, A2 a → A a) → isBo x = false → Res K ca (fun a => G a ∨ A2 a) H x.1 x.2 v H1 B → Sat K ca W G A H D (f (ρ2, x)) → Q v H1) : rdE T K W e σ H Q := evF_sat hF r hs hq
theorem sat_out {α : Type} {W : WX} {A : Addr → Prop} {H : Hp} {D : Ends} {r : R α} {f : α → Out} (h : Sat K ca W G A H D (toOut r f)) : (∃ a, r = .ok a ∧ Sat K ca W G A H D (f a)) ∨ ∃ C x, r = .err C x ∧ Sat K ca W G A H D (.err C x) := by
  cases r with
  | ok a => exact .inl ⟨a, rfl, h⟩
  | err C x => exact .inr ⟨C, x, rfl, h⟩
  | stuck => exact h.elim
/-- an evaluation within a statement -/
theorem evG_go {α β : Type} {W : WX} {A : Addr → Prop} {H : Hp} {σ : L2.St} {D : Ends} {r : R α} {f : α → Out} {post : α → β → Hp → Prop} {c : (β → Hp → Prop) → Prop} {Q : β → Hp → Prop} (h : EvG ca W σ H r post c) (hs : Sat K ca W G A H D (toOut r f))
    (hq : ∀ a b H', post a b H' → Sat K ca W G A H D (f a) → Q b H') : c Q := by
  rcases sat_out hs with ⟨a, e, hs⟩ | ⟨C, x, e, hs⟩
  · rw [e] at h
    exact h Q fun b H' hp => hq a b H' hp hs
  · rw [e] at h
    exact h (fun dd H' Ca e1 s e2 => hs dd H' σ Ca e1 e2 fun a o z _ => s a o z) Q
theorem loop_sat {W : WX} {g : M.G} {b : En → Out} {tb : TS} (hb : Fol K ca W G b tb) {ρ : En} {σ : L2.St} {H : Hp} {A : Addr → Prop} {D : Ends} {J : It} {ds : List M.D} {k : Nat} (r : Rl K ca G H σ ρ A) (hJ : ItOk K ca (fun a => G a ∨ A a) H J ds (.n k))
    (hs : Sat K ca W G A H D (loopF g b ds ρ)) : ∃ Wv : Nat → Nat → L2.St → Hp → Prop, (∃ m, Wv 0 m σ H) ∧ ∀ i m σ H, Wv i m σ H →
      (J.stop i H ∧ D.nx σ H) ∨ (J.go i H ∧ ∃ N : L2.St → Hp → Prop, (∀ σ' H', N σ' H' → ∃ m', m' < m ∧ Wv (i + 1) m' σ' H') ∧ ∀ x H', J.yld i H x H' → rdG T K W g x σ H' fun σ2 H2 => tb { D with nx := N, ct := N, bk := D.nx } σ2 H2) := by
  have hk : Lv.n k = .n 0 := by
    cases k with
    | zero => rfl
    | succ k => cases hJ.1
  rw [hk] at hJ
  let Wv : Nat → Nat → L2.St → Hp → Prop := fun i m σ1 H1 => ∃ ρ1 A1, m = ds.length - i ∧ i ≤ ds.length ∧ Rl K ca G H1 σ1 ρ1 A1 ∧ Fr A H A1 H1 ∧ Sat K ca W G A1 H1 D (loopF g b (ds.drop i) ρ1)
  refine ⟨Wv, ⟨ds.length - 0, ρ, A, rfl, Nat.zero_le _, r, Fr.refl, hs⟩, ?_⟩
  rintro i m σ1 H1 ⟨ρ1, A1, rfl, hi, r1, f1, hs1⟩
  obtain ⟨j1, j2⟩ := hJ.2 _ H1 r1.ex (fun z => nomatch z) (fun _ => f1.keep) i
  rcases j1 with ⟨c, jg⟩ | ⟨c, js⟩
  · refine .inr ⟨jg, fun σ' H' => ∃ m', m' < ds.length - i ∧ Wv (i + 1) m' σ' H', fun _ _ z => z, fun x H2 hy => ?_⟩
    obtain ⟨s2, d, ed, rd⟩ := j2 c x H2 hy
    have edr : ds.drop i = d :: ds.drop (i + 1) := by
      rw [List.drop_eq_getElem_cons c, (List.getElem?_eq_some_iff.mp ed).2]
    rw [edr] at hs1
    simp only [loopF] at hs1
    cases eb : bdG g d (.n 0) ρ1 with
    | stuck => rw [eb] at hs1; exact hs1.elim
    | err C x => rw [eb] at hs1; exact hs1.elim
    | ok ρ2 =>
      rw [eb] at hs1
      simp only at hs1
      obtain ⟨σ2, A2, r2, sA, q⟩ := bdR_ok (T := T) (W := W) g (r1.same s2) (fun bad hb => rd.keep (fun _ a o e n => ⟨e, fun z => n (hb a z)⟩) (fun _ => Same.refl _) fun _ z => nomatch z) eb
      refine q _ ?_
      have f2 : Fr A1 H1 A2 H2 := (Fr.of_same s2).trans (Fr.less sA)
      refine hb ρ2 σ2 H2 A2 _ r2 ?_
      cases eo : b ρ2 with
      | nx ρ3 =>
        rw [eo] at hs1
        simp only at hs1
        exact fun σ' H' A' r' f' => ⟨ds.length - (i + 1), by omega, ρ3, A', rfl, c, r', f1.trans (f2.trans f'), hs1.mono (f2.trans f')⟩
      | ret x => rw [eo] at hs1; exact (hs1.mono f2).to (fun _ => fun z => nomatch z) rfl
      | err C x => rw [eo] at hs1; exact (hs1.mono f2).to (fun _ => fun z => nomatch z) rfl
      | stuck => rw [eo] at hs1; exact hs1.elim
  · refine .inl ⟨js, ?_⟩
    rw [List.drop_eq_nil_of_le c] at hs1
    exact hs1 σ1 H1 A1 r1 Fr.refl
theorem whl_sat {W : WX} {c : En → R Bool} {tc : TT} {b : En → Out} {tb : TS} (hc : ∀ ρ σ H A, Rl K ca G H σ ρ A → EvG ca W σ H (c ρ) (PB H) (fun Q => tc σ H Q)) (hb : Fol K ca W G b tb) {n : Nat} {ρ : En} {σ : L2.St} {H : Hp} {A : Addr → Prop} {D : Ends} (r : Rl K ca G H σ ρ A)
    (hs : Sat K ca W G A H D (whlF c b n ρ)) : tWhile tc tb D σ H := by
  let Wv : Nat → L2.St → Hp → Prop := fun m σ1 H1 => ∃ ρ1 A1, Rl K ca G H1 σ1 ρ1 A1 ∧ Sat K ca W G A1 H1 D (whlF c b m ρ1)
  refine ⟨Wv, ⟨n, ρ, A, r, hs⟩, ?_⟩
  rintro m σ1 H1 ⟨ρ1, A1, r1, hs1⟩
  cases m with
  | zero => exact hs1.elim
  | succ m =>
    simp only [whlF] at hs1
    have h := hc ρ1 σ1 H1 A1 r1
    cases ec : c ρ1 with
    | stuck => rw [ec] at hs1; exact hs1.elim
    | err C x =>
      rw [ec] at hs1 h
      exact h (fun dd H' Ca e1 s e2 => hs1 dd H' σ1 Ca e1 e2 fun a o z _ => s a o z) _
    | ok t =>
      rw [ec] at hs1 h
      refine h _ fun t' H2 hp => ?_
      obtain ⟨rfl, s⟩ := hp
      cases t' with
      | false =>
        rw [if_neg Bool.false_ne_true]
        exact hs1 σ1 H2 A1 (r1.same s) (Fr.of_same s)
      | true =>
        rw [if_pos rfl]
        refine ⟨fun σ' H' => ∃ m', m' < m + 1 ∧ Wv m' σ' H', fun _ _ z => z, ?_⟩
        simp only at hs1
        refine hb ρ1 σ1 H2 A1 _ (r1.same s) ?_
        cases eo : b ρ1 with
        | nx ρ3 =>
          rw [eo] at hs1
          simp only at hs1
          exact fun σ' H' A' r' f' => ⟨m, Nat.lt_succ_self _, ρ3, A', r', hs1.mono ((Fr.of_same s).trans f')⟩
        | ret x => rw [eo] at hs1; exact (hs1.mono (Fr.of_same s)).to (fun _ => fun z => nomatch z) rfl
        | err C x => rw [eo] at hs1; exact (hs1.mono (Fr.of_same s)).to (fun _ => fun z => nomatch z) rfl
        | stuck => rw [eo] at hs1; exact hs1.elim
theorem evIF_sat {W : WX} (hF : FiOk K ca T Φ) {H : Hp} {σ : L2.St} {ρ : En} {A : Addr → Prop} {it : I} {D : Ends} {f : En × List M.D → Out} {Q : It → Hp → Prop} (r : Rl K ca G H σ ρ A) (hs : Sat K ca W G A H D (toOut (evIF Φ ρ it) f))
    (hq : ∀ ρ2 ds k A2 J H1, Rl K ca G H1 σ ρ2 A2 → Fr A H A2 H1 → ItOk K ca (fun a => G a ∨ A2 a) H1 J ds (.n k) → Sat K ca W G A H D (f (ρ2, ds)) → Q J H1) : rdI T K W it σ H Q := by
  have second : Sat K ca W G A H D (toOut ((evI Φ it (vw (frzV (evarsI it) ρ))).bind fun x => match x with
    | (ds, .n _) => .ok (frzV (evarsI it) ρ, ds)
    | _ => .stuck) f) → rdI T K W it σ H Q := by
    intro hs
    obtain ⟨A2, r2, s2⟩ := frzV_ok (evarsI it) r
    have h := evI_ok hF it W σ _ _ H r2.ex r2.env
    cases ex : evI Φ it (vw (frzV (evarsI it) ρ)) with
    | stuck => rw [ex] at hs; exact hs.elim
    | err C x =>
      rw [ex] at hs h
      exact h (fun dd H' Ca e1 s e2 => hs dd H' σ Ca e1 e2 fun a o z _ => s a o z) Q
    | ok x =>
      rw [ex] at hs h
      obtain ⟨ds, l⟩ := x
      cases l with
      | bo => exact hs.elim
      | al => exact hs.elim
      | n k => exact h Q fun J H1 hp => hq _ ds k A2 J H1 (r2.same hp.1) ((Fr.less s2).trans (Fr.of_same hp.1)) hp.2 hs
  have h := evI_ok hF it W σ _ _ H r.ex r.env
  unfold evIF at hs
  cases ex : evI Φ it (vw ρ) with
  | stuck => rw [ex] at hs; exact second hs
  | err C x =>
    rw [ex] at hs h
    exact h (fun dd H' Ca e1 s e2 => hs dd H' σ Ca e1 e2 fun a o z _ => s a o z) Q
  | ok x =>
    rw [ex] at hs h
    obtain ⟨ds, l⟩ := x
    cases l with
    | bo => exact second hs
    | al => exact second hs
    | n k => exact h Q fun J H1 hp => hq _ ds k A J H1 (r.same hp.1) (Fr.of_same hp.1) hp.2 hs
theorem ret_go {W : WX} {H H1 : Hp} {A A2 : Addr → Prop} {D : Ends} {x : DL} {v : V} {B : List Addr} {σ : L2.St} {ρ : En} (hb : isBo x = false) (hB : Res K ca (fun a => G a ∨ A2 a) H x.1 x.2 v H1 B) (hs : Sat K ca W G A H D (.ret (x.1, nl x.1 x.2))) : D.rt v H1 := by
  have hB := hB.nl
  refine hs v H1 B (fun a o e n => ⟨hB.same a o e, fun m => by rw [hB.fr a m] at e; cases e⟩) (hB.rep.keep (fun _ a o e n => ⟨e, fun z => n (z.imp .inl id)⟩) (fun _ => Same.refl _) fun _ _ _ z => z) hB.nd (nl_bo hb)
theorem retv_go {W : WX} {H : Hp} {A : Addr → Prop} {D : Ends} {x : DL} {i : Nat} {σ : L2.St} {ρ : En} (r : Rl K ca G H σ ρ A) (e : ρ[i]? = some (some x)) (hs : Sat K ca W G A H D (.ret (x.1, nl x.1 x.2))) : ∃ v, σ[i]? = some (some v) ∧ D.rt v H := by
  obtain ⟨own, h1, h2, h3, h4, h5⟩ := r.own
  obtain ⟨d, l⟩ := x
  obtain ⟨hl, v, e2, e3⟩ := h5 i d l e
  refine ⟨v, e2, ?_⟩
  have hsub : ∀ a ∈ own i, A a := fun a m => (h3 a).mpr ⟨i, m⟩
  have e4 : Rep K ca (fun a => G a ∨ a ∈ own i) H l v d (own i) := e3.keep (fun _ a o e n => ⟨e, fun z => n (z.imp id (hsub a))⟩) (fun _ => Same.refl _) fun _ _ _ z => z
  have e5 : Rep K ca (fun a => G a ∨ a ∈ own i) H (nl d l) v d (own i) := by
    unfold nl
    split
    · rename_i c
      have := (e4.sc c).1
      rw [this]
      exact e4.scal c
    · exact e4
  refine hs v H (own i) (fun a o e n => ⟨e, fun m => n (hsub a m)⟩) e5 (h1 i) ?_
  show nl d l ≠ .bo
  unfold nl
  split
  · exact fun z => nomatch z
  · exact hl
theorem low_cl' {bad : Bad} {H : Hp} {h : Nat} {x : DL} {v : V} {B : List Addr} (hb : ∀ a ∈ B, ¬ bad a) (hx : isBo x = false) (r : Rep K ca (fun a => bad a ∨ a ∈ B) H x.2 v x.1 B) (nd : B.Nodup) :
    cl h x.1 x.2 ≠ .bo ∧ ∃ B', B'.Sublist B ∧ Rep K ca (fun a => bad a ∨ a ∈ B') H (cl h x.1 x.2) v x.1 B' := by
  unfold cl
  split
  · rename_i c
    exact ⟨(fun z => nomatch z), [], List.nil_sublist _, r.scal c⟩
  · rename_i c
    rw [Bool.not_eq_true] at c
    have c2 := isBo_frz hx c
    refine ⟨?_, ?_⟩
    · cases e : x.2 with
      | bo => exact absurd e c2
      | n k => exact fun z => nomatch z
      | al => exact fun z => nomatch z
    · obtain ⟨B', s, f⟩ := r.low (l' := x.2.min (.n h)) Lv.min_le_left nd
      refine ⟨B', s, f _ fun a z => ?_⟩
      rcases z with z | z
      · exact ⟨.inl z, fun m => absurd z (hb a m)⟩
      · exact ⟨.inr (s.subset z), fun _ => z⟩
/-- a pending value, weakened to what its slot bears, is stored -/
theorem pend_ok {N : List Addr} {H : Hp} {σ : L2.St} {ρ : En} {A : Addr → Prop} {h : Nat → Nat} {i : Nat} {x : DL} {v : V} (r : Rl K ca (fun a => G a ∨ a ∈ N) H σ ρ A) (hx : isBo x = false) (hr : Rep K ca (fun a => (G a ∨ A a) ∨ a ∈ N) H x.2 v x.1 N) (nd : N.Nodup) (hGN : ∀ c ∈ N, ¬ G c) :
    ∃ A', Rl K ca G H (σ.set i (some v)) (setS h ρ i x) A' ∧ ∀ a, A' a → A a ∨ a ∈ N := by
  obtain ⟨c, N', s, hr'⟩ := low_cl' (h := h i) (bad := fun a => G a ∨ A a) (fun a m z => z.elim (hGN a m) fun z => r.dis a z (.inr m)) hx hr nd
  obtain ⟨A', r', s'⟩ := (r.lessG (G' := fun a => G a ∨ a ∈ N') fun a z => z.imp id fun m => s.subset m).setG (i := i) c hr' (nd.sublist s) fun a m => hGN a (s.subset m)
  exact ⟨A', r', fun a z => (s' a z).imp id fun m => s.subset m⟩
theorem par2_ok {H H1 H2 : Hp} {σ : L2.St} {ρ ρ3 : En} {A A3 : Addr → Prop} {h : Nat → Nat} {i j : Nat} {x y : DL} {v w : V} {B B2 : List Addr} (r2 : Rl K ca G H σ ρ A) (hb : isBo x = false) (hB : Res K ca (fun a => G a ∨ A a) H x.1 x.2 v H1 B)
    (r3 : Rl K ca (fun a => G a ∨ a ∈ B) H1 σ ρ3 A3) (s3 : ∀ a, A3 a → A a) (hb3 : isBo y = false) (hB2 : Res K ca (fun a => (G a ∨ a ∈ B) ∨ A3 a) H1 y.1 y.2 w H2 B2) :
    ∃ A4, Rl K ca G H2 ((σ.set i (some v)).set j (some w)) (setS h (setS h ρ3 i x) j y) A4 ∧ Fr A H A4 H2 := by
  have r4 := r3.more hB2.same hB2.fr hB2.there
  have e1 : ∀ c ∈ B, ¬ (G c ∨ c ∈ B2) := fun c m z => by
    rcases z with z | z
    · exact r2.exG c z (hB.fr c m)
    · exact hB.there c m (hB2.fr c z)
  obtain ⟨A4, r5, s5⟩ := pend_ok (h := h) (i := i) (G := fun a => G a ∨ a ∈ B2) (N := B) (r4.lessG fun a z => by
    rcases z with (z | z) | z
    · exact .inl (.inl z)
    · exact .inr z
    · exact .inl (.inr z)) hb (hB.rep.keep (fun _ a o e n => ⟨hB2.same a o e, fun z => n (by
      rcases z with ((z | z) | z) | z
      · exact .inl (.inl z)
      · rw [hB2.fr a z] at e; cases e
      · exact .inl (.inr (s3 a z))
      · exact .inr z)⟩) (fun _ => hB2.same) fun a _ u => hB2.same a u) hB.nd e1
  have e2 : ∀ c ∈ B2, ¬ G c := fun c m z => r2.exG c z (same_none hB.same (hB2.fr c m))
  obtain ⟨A5, r6, s6⟩ := pend_ok (h := h) (i := j) (G := G) (N := B2) r5 hb3 (hB2.rep.keep (fun _ a o e n => ⟨e, fun z => n (by
      rcases z with (z | z) | z
      · exact .inl (.inl (.inl z))
      · rcases s5 a z with z | z
        · exact .inl (.inr z)
        · exact .inl (.inl (.inr z))
      · exact .inr z)⟩) (fun _ => Same.refl _) fun _ _ _ z => z) hB2.nd e2
  refine ⟨A5, r6, fun a o e n => ⟨hB2.same a o (hB.same a o e), fun z => ?_⟩⟩
  rcases s6 a z with z | z
  · rcases s5 a z with z | z
    · exact n (s3 a z)
    · rw [hB.fr a z] at e; cases e
  · rw [same_none hB.same (hB2.fr a z)] at e; cases e
theorem par3_ok {H H1 H2 H3 : Hp} {σ : L2.St} {ρ ρ3 ρ4 : En} {A A3 A4 : Addr → Prop} {h : Nat → Nat} {i j k : Nat} {x y z : DL} {v w u : V} {B B2 B3 : List Addr} (r2 : Rl K ca G H σ ρ A) (hb : isBo x = false) (hB : Res K ca (fun a => G a ∨ A a) H x.1 x.2 v H1 B)
    (r3 : Rl K ca (fun a => G a ∨ a ∈ B) H1 σ ρ3 A3) (s3 : ∀ a, A3 a → A a) (hb3 : isBo y = false) (hB2 : Res K ca (fun a => (G a ∨ a ∈ B) ∨ A3 a) H1 y.1 y.2 w H2 B2)
    (r4 : Rl K ca (fun a => (G a ∨ a ∈ B) ∨ a ∈ B2) H2 σ ρ4 A4) (s4 : ∀ a, A4 a → A3 a) (hb4 : isBo z = false) (hB3 : Res K ca (fun a => ((G a ∨ a ∈ B) ∨ a ∈ B2) ∨ A4 a) H2 z.1 z.2 u H3 B3) :
    ∃ A5, Rl K ca G H3 (((σ.set i (some v)).set j (some w)).set k (some u)) (setS h (setS h (setS h ρ4 i x) j y) k z) A5 ∧ Fr A H A5 H3 := by
  have r5 := r4.more hB3.same hB3.fr hB3.there
  have n1 : ∀ c ∈ B, H c = none := hB.fr
  have n2 : ∀ c ∈ B2, H c = none := fun c m => same_none hB.same (hB2.fr c m)
  have n3 : ∀ c ∈ B3, H c = none := fun c m => same_none hB.same (same_none hB2.same (hB3.fr c m))
  have s23 : Same H1 H3 := same_trans hB2.same hB3.same
  have e1 : ∀ c ∈ B, ¬ ((G c ∨ c ∈ B2) ∨ c ∈ B3) := fun c m z => by
    rcases z with (z | z) | z
    · exact r2.exG c z (n1 c m)
    · exact hB.there c m (hB2.fr c z)
    · exact hB.there c m (same_none hB2.same (hB3.fr c z))
  obtain ⟨A6, r6, s6⟩ := pend_ok (h := h) (i := i) (G := fun a => (G a ∨ a ∈ B2) ∨ a ∈ B3) (N := B) (r5.lessG fun a z => by
    rcases z with ((z | z) | z) | z
    · exact .inl (.inl (.inl z))
    · exact .inl (.inr z)
    · exact .inr z
    · exact .inl (.inl (.inr z))) hb (hB.rep.keep (fun _ a o e n => ⟨s23 a o e, fun z => n (by
      rcases z with (((z | z) | z) | z) | z
      · exact .inl (.inl z)
      · rw [hB2.fr a z] at e; cases e
      · rw [same_none hB2.same (hB3.fr a z)] at e; cases e
      · exact .inl (.inr (s3 a (s4 a z)))
      · exact .inr z)⟩) (fun _ => s23) fun a _ u => s23 a u) hB.nd e1
  have e2 : ∀ c ∈ B2, ¬ (G c ∨ c ∈ B3) := fun c m z => by
    rcases z with z | z
    · exact r2.exG c z (n2 c m)
    · exact hB2.there c m (hB3.fr c z)
  obtain ⟨A7, r7, s7⟩ := pend_ok (h := h) (i := j) (G := fun a => G a ∨ a ∈ B3) (N := B2) (r6.lessG fun a z => by
    rcases z with (z | z) | z
    · exact .inl (.inl z)
    · exact .inr z
    · exact .inl (.inr z)) hb3 (hB2.rep.keep (fun _ a o e n => ⟨hB3.same a o e, fun z => n (by
      rcases z with ((z | z) | z) | z
      · exact .inl (.inl (.inl z))
      · rw [hB3.fr a z] at e; cases e
      · rcases s6 a z with z | z
        · exact .inl (.inr (s4 a z))
        · exact .inl (.inl (.inr z))
      · exact .inr z)⟩) (fun _ => hB3.same) fun a _ u => hB3.same a u) hB2.nd e2
  obtain ⟨A8, r8, s8⟩ := pend_ok (h := h) (i := k) (G := G) (N := B3) r7 hb4 (hB3.rep.keep (fun _ a o e n => ⟨e, fun z => n (by
      rcases z with (z | z) | z
      · exact .inl (.inl (.inl (.inl z)))
      · rcases s7 a z with z | z
        · rcases s6 a z with z | z
          · exact .inl (.inr z)
          · exact .inl (.inl (.inl (.inr z)))
        · exact .inl (.inl (.inr z))
      · exact .inr z)⟩) (fun _ => Same.refl _) fun _ _ _ z => z) hB3.nd fun c m z => r2.exG c z (n3 c m)
  refine ⟨A8, r8, fun a o e n => ⟨s23 a o (hB.same a o e), fun z => ?_⟩⟩
  rcases s8 a z with z | z
  · rcases s7 a z with z | z
    · rcases s6 a z with z | z
      · exact n (s3 a (s4 a z))
      · rw [n1 a z] at e; cases e
    · rw [n2 a z] at e; cases e
  · rw [n3 a z] at e; cases e
mutual
theorem exec_ok {W : WX} (hF : FiOk K ca T Φ) (hX : ExT ca Xe Φ) (h : Nat → Nat) (F : Nat) : ∀ (s : S), Fol K ca W G (exec Φ h F s) (rdS T K Xe W s)
  | .asg g e => by
    intro ρ σ H A D r hs
    simp only [exec] at hs
    simp only [rdS]
    cases g with
    | nm i =>
      refine evF_go hF r hs fun ρ2 x A2 v H1 B r2 s2 hb hB hs => ?_
      obtain ⟨A3, r3, f3⟩ := set_sat (h := h) (i := i) r2 s2 hb hB
      simp only [rdG]
      exact hs _ _ _ r3 f3
    | tp gs =>
      refine evF_go hF r hs fun ρ2 x A2 v H1 B r2 s2 hb hB hs => ?_
      split at hs
      · exact hs.elim
      · rename_i hbo
        rcases sat_out hs with ⟨ρ3, e, hs⟩ | ⟨C, z, e, hs⟩
        · have hnb : x.2 ≠ .bo := fun z => hbo z
          obtain ⟨σ3, A3, r3, s3, q⟩ := bdR_ok (T := T) (W := W) (.tp gs) (r2.same hB.same) (fun bad hbad => to_low hB.rep hnb hB.nd fun a z => ⟨.inl (hbad a z), fun m => r2.ex a (hbad a z) (hB.fr a m)⟩) (pure_ok e)
          exact q _ (hs _ _ _ r3 ((Fr.less s2).trans ((Fr.of_same hB.same).trans (Fr.less s3))))
        · exact absurd e pure_ne
    | fl o f => exact hs.elim
    | sb o k =>
      cases o with
      | var i => exact sb_sat hF r hs
      | _ => exact hs.elim
  | .par2 i j a b => by
    intro ρ σ H A D r hs
    simp only [exec] at hs
    simp only [rdS]
    refine evF_go hF r hs fun ρ2 x A2 v H1 B r2 s2 hb hB hs => ?_
    have h2 := evF_ok (G := fun a => G a ∨ a ∈ B) (W := W) (e := b) hF (r2.more hB.same hB.fr hB.there)
    show rdE T K W b σ H1 fun w H2 => ∃ v' w', [v, w] = [v', w'] ∧ D.nx ((σ.set i (some v')).set j (some w')) H2
    rcases sat_out hs with ⟨z, ez, hs⟩ | ⟨C, z, ez, hs⟩
    · rw [ez] at h2
      obtain ⟨A3, r3, s3, hb3, q⟩ := h2
      refine q _ fun w H2 B2 hB2 => ⟨v, w, rfl, ?_⟩
      obtain ⟨A4, r4, f4⟩ := par2_ok (h := h) (i := i) (j := j) r2 hb hB r3 s3 hb3 hB2
      exact hs _ _ _ r4 ((Fr.less s2).trans f4)
    · rw [ez] at h2
      exact h2 (fun dd H' Ca e1 s e2 => hs dd H' σ Ca e1 e2 fun a o z _ => s a o (hB.same a o z)) _
  | .par3 i j k a b c => by
    intro ρ σ H A D r hs
    simp only [exec] at hs
    simp only [rdS]
    refine evF_go hF r hs fun ρ2 x A2 v H1 B r2 s2 hb hB hs => ?_
    have h2 := evF_ok (G := fun a => G a ∨ a ∈ B) (W := W) (e := b) hF (r2.more hB.same hB.fr hB.there)
    show rdE T K W b σ H1 fun w H2 => rdE T K W c σ H2 fun u H3 => ∃ v' w' u', [v, w, u] = [v', w', u'] ∧ D.nx (((σ.set i (some v')).set j (some w')).set k (some u')) H3
    rcases sat_out hs with ⟨z, ez, hs⟩ | ⟨C, z, ez, hs⟩
    · rw [ez] at h2
      obtain ⟨A3, r3, s3, hb3, q⟩ := h2
      refine q _ fun w H2 B2 hB2 => ?_
      have h3 := evF_ok (G := fun a => (G a ∨ a ∈ B) ∨ a ∈ B2) (W := W) (e := c) hF (r3.more hB2.same hB2.fr hB2.there)
      rcases sat_out hs with ⟨y, ey, hs⟩ | ⟨C, y, ey, hs⟩
      · rw [ey] at h3
        obtain ⟨A4, r4, s4, hb4, q⟩ := h3
        refine q _ fun u H3 B3 hB3 => ⟨v, w, u, rfl, ?_⟩
        obtain ⟨A5, r5, f5⟩ := par3_ok (h := h) (i := i) (j := j) (k := k) r2 hb hB r3 s3 hb3 hB2 r4 s4 hb4 hB3
        exact hs _ _ _ r5 ((Fr.less s2).trans f5)
      · rw [ey] at h3
        exact h3 (fun dd H' Ca e1 s e2 => hs dd H' σ Ca e1 e2 fun a o z _ => s a o (hB2.same a o (hB.same a o z))) _
    · rw [ez] at h2
      exact h2 (fun dd H' Ca e1 s e2 => hs dd H' σ Ca e1 e2 fun a o z _ => s a o (hB.same a o z)) _
  | .ex e => by
    intro ρ σ H A D r hs
    simp only [exec] at hs
    simp only [rdS]
    show rdE T K W e σ H fun _ H1 => D.nx σ H1
    split at hs
    · rename_i i m es
      split at hs
      · rename_i e' ea
        obtain ⟨rfl, rfl⟩ := isApp_ok ea
        exact app_sat hF r hs
      · exact hs.elim
    · exact evG_go (ev_ok hF e W σ _ _ H r.ex r.env) hs fun x v H1 hp hs => hs σ H1 A (r.same hp.same) (Fr.of_same hp.same)
  | .ret e => by
    intro ρ σ H A D r hs
    simp only [exec] at hs
    simp only [rdS]
    split at hs
    · rename_i i
      split at hs
      · rename_i x e
        obtain ⟨v, e1, q⟩ := retv_go r e hs
        simp only [rdE]
        exact ⟨v, e1, q⟩
      · exact hs.elim
    · exact evF_go hF r hs fun ρ2 x A2 v H1 B r2 s2 hb hB hs => ret_go (σ := σ) (ρ := ρ2) hb hB hs
  | .retN => by
    intro ρ σ H A D r hs
    simp only [exec] at hs
    simp only [rdS]
    exact hs .non H [] (fun a o e n => ⟨e, fun m => by cases m⟩) (.non _) .nil (fun z => nomatch z)
  | .ifs c a b => by
    intro ρ σ H A D r hs
    simp only [exec] at hs
    simp only [rdS]
    refine evG_go (evT_ok hF c W σ _ _ H r.ex r.env) hs fun t t' H1 hp hs => ?_
    obtain ⟨rfl, s⟩ := hp
    cases t' with
    | true =>
      rw [if_pos rfl] at hs ⊢
      exact execs_ok hF hX h F a ρ σ H1 A D (r.same s) (hs.mono (Fr.of_same s))
    | false =>
      rw [if_neg Bool.false_ne_true] at hs ⊢
      exact execs_ok hF hX h F b ρ σ H1 A D (r.same s) (hs.mono (Fr.of_same s))
  | .forS g it b => by
    intro ρ σ H A D r hs
    simp only [exec] at hs
    simp only [rdS]
    exact evIF_sat hF r hs fun ρ2 ds k A2 J H1 r2 f2 hJ hs => loop_sat (execs_ok hF hX h F b) r2 hJ (hs.mono f2)
  | .whl c b => by
    intro ρ σ H A D r hs
    simp only [exec] at hs
    simp only [rdS]
    exact whl_sat (fun ρ σ H A r => evT_ok hF c W σ _ _ H r.ex r.env) (execs_ok hF hX h F b) r hs
  | .rais x e => by
    intro ρ σ H A D r hs
    simp only [exec] at hs
    simp only [rdS]
    split at hs
    · rename_i cx
      obtain ⟨Ca, e1, e2⟩ := hX x cx
      refine ⟨Ca, e2, evG_go (ev_ok hF e W σ _ _ H r.ex r.env) hs fun y v H1 hp hs dd hd => ?_⟩
      split at hs
      · rename_i w ew
        have hv : v = w := by
          have c : y.1.sc = true := by
            obtain ⟨d, l⟩ := y
            cases d <;> first | rfl | cases ew
          have := (hp.choose_spec.rep.sc c).2
          rw [ew] at this
          cases this
          rfl
        subst hv
        exact hs dd _ σ Ca e1 upd_at fun a o e n => by
          rw [upd_ne (fun z => by rw [z] at e; rw [hp.same dd o e] at hd; cases hd)]
          exact hp.same a o e
      · exact hs.elim
    · exact hs.elim
  | .pass => by
    intro ρ σ H A D r hs
    simp only [exec] at hs
    simp only [rdS]
    exact hs σ H A r Fr.refl
theorem execs_ok {W : WX} (hF : FiOk K ca T Φ) (hX : ExT ca Xe Φ) (h : Nat → Nat) (F : Nat) : ∀ (b : Ss), Fol K ca W G (execs Φ h F b) (rdSs T K Xe W b)
  | .nil => by
    intro ρ σ H A D r hs
    simp only [execs] at hs
    simp only [rdSs]
    exact hs σ H A r Fr.refl
  | .cons s b => by
    intro ρ σ H A D r hs
    simp only [execs] at hs
    simp only [rdSs]
    refine exec_ok hF hX h F s ρ σ H A _ r ?_
    cases eo : exec Φ h F s ρ with
    | nx ρ' =>
      rw [eo] at hs
      exact fun σ' H' A' r' f' => execs_ok hF hX h F b ρ' σ' H' A' D r' (hs.mono f')
    | ret x => rw [eo] at hs; exact Sat.to hs (fun _ z => nomatch z) rfl
    | err C x => rw [eo] at hs; exact Sat.to hs (fun _ z => nomatch z) rfl
    | stuck => rw [eo] at hs; exact hs.elim
end
end
end M

/-! MiniZc: a def by what it makes of data. -/
namespace M
open PySem PySem.Spec PyProof.Rows L2
def startE (N : List Str) (ds : List D) : En := ds.map (fun d => some (d, .n 0)) ++ List.replicate (N.length - ds.length) none
def outOf : Out → R DL
  | .nx _ => .ok (.non, .al)
  | .ret x => .ok x
  | .err C x => .err C x
  | .stuck => .stuck
section
variable {K : PySem.W.Frag} {ca : CA} {T : Tb} {Φ : Fi} {Xe : XT}
theorem start_rl {bad : Bad} {H : Hp} {N : List Str} {vs : List V} {ds : List D} (hb : Ex' bad H) (hr : Reps K ca bad H (.n 0) vs ds []) : Rl K ca bad H (L2.start N vs) (startE N ds) (fun _ => False) := by
  refine ⟨?_, hb, fun _ z => z.elim, fun _ => [], fun _ => .nil, (fun _ _ _ z => nomatch z), (fun a => ⟨fun z => z.elim, fun ⟨_, z⟩ => nomatch z⟩), fun _ _ => rfl, fun i d l e => ?_⟩
  · unfold L2.start startE
    rw [List.length_append, List.length_append, List.length_map, List.length_map, List.length_replicate, List.length_replicate, hr.length]
  · unfold startE at e
    unfold L2.start
    by_cases c : i < ds.length
    · rw [List.getElem?_append_left (by rw [List.length_map]; exact c), List.getElem?_map, List.getElem?_eq_getElem c] at e
      simp only [Option.map_some, Option.some.injEq, Prod.mk.injEq] at e
      obtain ⟨rfl, rfl⟩ := e
      obtain ⟨v, e1, e2⟩ := hr.get (List.getElem?_eq_getElem c)
      refine ⟨(fun z => nomatch z), v, ?_, e2.keep (fun _ a o e n => ⟨e, fun z => z.elim n id⟩) (fun _ => Same.refl _) fun _ z => nomatch z⟩
      rw [List.getElem?_append_left (by rw [List.length_map, hr.length]; exact c), List.getElem?_map, e1]
      rfl
    · rw [List.getElem?_append_right (by rw [List.length_map]; omega), List.getElem?_replicate] at e
      split at e
      · cases e
      · cases e
theorem keeps_of (hF : FiOk K ca T Φ) (hX : ExT ca Xe Φ) {N : List Str} {b : Ss} {run : List D → R DL} (hrun : ∀ ds, run ds ≠ .stuck → ∃ h F, outOf (execs Φ h F b (startE N ds)) = run ds) : Keeps T K Xe N b (spF K ca run) := by
  intro vs H Q E ⟨ds, bad, hb, hr, hm⟩
  have hns : run ds ≠ .stuck := fun z => by rw [z] at hm; exact hm
  obtain ⟨h, F, e⟩ := hrun ds hns
  refine execs_ok hF hX h F b _ _ H _ _ (start_rl hb hr) ?_
  rw [← e] at hm
  cases eo : execs Φ h F b (startE N ds) with
  | nx ρ' =>
    rw [eo] at hm
    exact fun σ' H' A' r f => hm .non H' [] ⟨fun a o e => (f a o e id).1, .non _, .nil, fun _ z => nomatch z⟩
  | ret x =>
    rw [eo] at hm
    refine fun v H' B f r nd hl => hm v H' B ⟨fun a o e => (f a o e id).1, r, nd, fun a m => ?_⟩
    cases e : H a with
    | none => rfl
    | some o => exact absurd m (f a o e id).2
  | err C x =>
    rw [eo] at hm
    exact fun dd H' σ' Ca e1 e2 k => hm dd H' Ca e1 (fun a o e => k a o e id) e2
  | stuck => rw [eo] at hm; exact hm.elim
/-- a def's promise -/
theorem fn_run {P : Program} {w : World} {mg : Str → Option Value} {base : Heap} {k : Nat} {f : Addr} {name qual : Str} {params : Arguments} {body : List Stmt} {scope : Scope} {dvs : List V} {kws : List (Str × V)} {fd : FuncData}
    {N ps : List Str} {b : Ss} {run : List D → R DL} (F : FunD K name qual params body scope dvs kws f fd) (Df : DefOk N ps scope body b) (tb : TbOk P w K mg base k T)
    (ex : ∀ (cdv : Value) (A : Around) (outer : List Env) (s : Shared) (H : Hp) (E : XK), RoomG k (A.deeper (envOfC qual scope s.heap.objs.size f cdv)) → ExOk (cxOf (L2N.CX P w) P w K mg base N qual scope f cdv A outer s H E) Xe)
    (hF : FiOk K ca T Φ) (hX : ExT ca Xe Φ) (hlen : ∀ ds, run ds ≠ .stuck → ds.length = ps.length) (hrun : ∀ ds, run ds ≠ .stuck → ∃ h F, outOf (execs Φ h F b (startE N ds)) = run ds) :
    FnG P w K mg base (k + 1) f fd ps (spF K ca run) := by
  refine fn_ok F Df tb ex (fun vs H Q E ⟨ds, bad, hb, hr, hm⟩ => ?_) (keeps_of hF hX hrun)
  rw [hr.length]
  exact hlen ds fun z => by rw [z] at hm; exact hm
end
end M

/-! MiniZd: rules to reckon with the evaluator. -/
namespace M
open PySem PySem.Spec PyProof.Rows L2
theorem gd_T {α : Type} {r : R α} : gd True r = r := if_pos trivial
theorem gdO_T {r : Out} : gdO True r = r := if_pos trivial
theorem nl_int {i : Int} {l : Lv} : nl (.int i) l = .al := rfl
theorem nl_bl {i : Bool} {l : Lv} : nl (.bl i) l = .al := rfl
theorem nl_str {i : Str} {l : Lv} : nl (.str i) l = .al := rfl
theorem nl_non {l : Lv} : nl .non l = .al := rfl
theorem nl_nd {k : Kd} {ds : List D} {l : Lv} : nl (.nd k ds) l = l := rfl
theorem sc_int {i : Int} : D.sc (.int i) = true := rfl
theorem sc_bl {i : Bool} : D.sc (.bl i) = true := rfl
theorem sc_str {i : Str} : D.sc (.str i) = true := rfl
theorem sc_non : D.sc .non = true := rfl
theorem sc_nd {k : Kd} {ds : List D} : D.sc (.nd k ds) = false := rfl
theorem isBo_int {i : Int} {l : Lv} : isBo (.int i, l) = false := rfl
theorem isBo_bl {i : Bool} {l : Lv} : isBo (.bl i, l) = false := rfl
theorem isBo_str {i : Str} {l : Lv} : isBo (.str i, l) = false := rfl
theorem isBo_non {l : Lv} : isBo (.non, l) = false := rfl
theorem isBo_n {d : D} {k : Nat} : isBo (d, .n k) = false := by unfold isBo; simp
theorem isBo_al {d : D} : isBo (d, .al) = false := by unfold isBo; simp
theorem isBo_nd {k : Kd} {ds : List D} : isBo (.nd k ds, .bo) = true := rfl
theorem vw1_int {i : Int} {l : Lv} : vw1 (some (.int i, l)) = some (.int i, .n 0) := rfl
theorem vw1_bl {i : Bool} {l : Lv} : vw1 (some (.bl i, l)) = some (.bl i, .n 0) := rfl
theorem vw1_str {i : Str} {l : Lv} : vw1 (some (.str i, l)) = some (.str i, .n 0) := rfl
theorem vw1_non {l : Lv} : vw1 (some (.non, l)) = some (.non, .n 0) := rfl
theorem vw1_0 {d : D} : vw1 (some (d, .n 0)) = some (d, .n 0) := by unfold vw1; simp [Lv.own]
theorem vw1_1 {k : Kd} {ds : List D} {n : Nat} : vw1 (some (.nd k ds, .n (n + 1))) = some (.nd k ds, .bo) := rfl
theorem vw1_one {k : Kd} {ds : List D} : vw1 (some (.nd k ds, .n 1)) = some (.nd k ds, .bo) := rfl
theorem vw1_al {k : Kd} {ds : List D} : vw1 (some (.nd k ds, .al)) = some (.nd k ds, .bo) := rfl
theorem vw1_none : vw1 none = none := rfl
theorem vw_nil : vw [] = [] := rfl
theorem vw_cons {x : Option DL} {r : En} : vw (x :: r) = vw1 x :: vw r := rfl
theorem bind_o {α β : Type} {a : α} {f : α → R β} : (R.ok a).bind f = f a := rfl
theorem bind_e {α β : Type} {C : Str} {x : V} {f : α → R β} : (R.err C x : R α).bind f = .err C x := rfl
theorem bind_s {α β : Type} {f : α → R β} : (R.stuck : R α).bind f = .stuck := rfl
theorem toOut_o {α : Type} {a : α} {f : α → Out} : toOut (.ok a) f = f a := rfl
theorem toOut_e {α : Type} {C : Str} {x : V} {f : α → Out} : toOut (.err C x : R α) f = .err C x := rfl
theorem pure_o {α : Type} {a : α} : R.pure' (.ok a) = .ok a := rfl
theorem cl_int {h : Nat} {i : Int} {l : Lv} : cl h (.int i) l = .n 0 := rfl
theorem cl_bl {h : Nat} {i : Bool} {l : Lv} : cl h (.bl i) l = .n 0 := rfl
theorem cl_str {h : Nat} {i : Str} {l : Lv} : cl h (.str i) l = .n 0 := rfl
theorem cl_non {h : Nat} {l : Lv} : cl h .non l = .n 0 := rfl
theorem cl_al {h : Nat} {k : Kd} {ds : List D} : cl h (.nd k ds) .al = .n h := rfl
theorem cl_n {h m : Nat} {k : Kd} {ds : List D} : cl h (.nd k ds) (.n m) = .n (Nat.min m h) := rfl
theorem evF_o {Φ : Fi} {ρ : En} {e : E} {x : DL} (h : ev Φ e (vw ρ) = .ok x) (b : isBo x = false) : evF Φ ρ e = .ok (ρ, x) := by
  unfold evF
  rw [h]
  simp only [b, Bool.false_eq_true, if_false]
theorem evF_e {Φ : Fi} {ρ : En} {e : E} {C : Str} {x : V} (h : ev Φ e (vw ρ) = .err C x) : evF Φ ρ e = .err C x := by
  unfold evF
  rw [h]
/-- after freezing -/
theorem evF_b {Φ : Fi} {ρ : En} {e : E} {x y : DL} (h : ev Φ e (vw ρ) = .ok x) (b : isBo x = true) (h2 : ev Φ e (vw (frzV (evars e) ρ)) = .ok y) (b2 : isBo y = false) : evF Φ ρ e = .ok (frzV (evars e) ρ, y) := by
  unfold evF
  rw [h]
  simp only [b, if_true, h2, R.bind, b2, Bool.false_eq_true, if_false]
theorem loop_inv {g : G} {b : En → Out} (P : Nat → En → Prop) : ∀ (ds : List D) (k : Nat) (ρ : En), P k ρ → (∀ i d ρ, ds[i]? = some d → P (k + i) ρ → ∃ ρ1 ρ2, bdG g d (.n 0) ρ = .ok ρ1 ∧ b ρ1 = .nx ρ2 ∧ P (k + i + 1) ρ2) →
    ∃ ρ', loopF g b ds ρ = .nx ρ' ∧ P (k + ds.length) ρ'
  | [], k, ρ, h, _ => ⟨ρ, rfl, h⟩
  | d :: ds, k, ρ, h, st => by
    obtain ⟨ρ1, ρ2, e1, e2, h2⟩ := st 0 d ρ rfl h
    obtain ⟨ρ', e3, h3⟩ := loop_inv P ds (k + 1) ρ2 h2 fun i d' ρ' e hp => by
      have := st (i + 1) d' ρ' (by rw [List.getElem?_cons_succ]; exact e) (by rw [show k + (i + 1) = k + 1 + i by omega]; exact hp)
      rw [show k + 1 + i + 1 = k + (i + 1) + 1 by omega]
      exact this
    refine ⟨ρ', ?_, by rw [List.length_cons, show k + (ds.length + 1) = k + 1 + ds.length by omega]; exact h3⟩
    simp only [loopF, e1, e2, e3]
/-- for k in range(n) -/
theorem loop_range {g : G} {b : En → Out} (P : Nat → En → Prop) {n : Nat} {φ : Nat → D} {ρ : En} (h0 : P 0 ρ) (st : ∀ i ρ, i < n → P i ρ → ∃ ρ1 ρ2, bdG g (φ i) (.n 0) ρ = .ok ρ1 ∧ b ρ1 = .nx ρ2 ∧ P (i + 1) ρ2) :
    ∃ ρ', loopF g b ((List.range n).map φ) ρ = .nx ρ' ∧ P n ρ' := by
  obtain ⟨ρ', e, h⟩ := loop_inv P ((List.range n).map φ) 0 ρ h0 fun i d ρ e hp => by
    rw [List.getElem?_map] at e
    by_cases c : i < n
    · rw [List.getElem?_range c] at e
      cases e
      rw [Nat.zero_add] at hp ⊢
      exact st i ρ c hp
    · rw [List.getElem?_eq_none (by rw [List.length_range]; omega)] at e
      cases e
  rw [Nat.zero_add, List.length_map, List.length_range] at h
  exact ⟨ρ', e, h⟩
/-! evF, reckoned from the value -/
noncomputable def evS' (r : R DL) (ρ : En) : R (En × DL) := r.bind fun x => if isBo x = true then .stuck else .ok (ρ, x)
noncomputable def evS (Φ : Fi) (ρ : En) (e : E) : R (En × DL) := evS' (ev Φ e (vw (frzV (evars e) ρ))) (frzV (evars e) ρ)
noncomputable def evF' (r : R DL) (Φ : Fi) (ρ : En) (e : E) : R (En × DL) := match r with
  | .ok x => if isBo x = true then evS Φ ρ e else .ok (ρ, x)
  | .err C v => .err C v
  | .stuck => evS Φ ρ e
theorem evF_q {Φ : Fi} {ρ : En} {e : E} : evF Φ ρ e = evF' (ev Φ e (vw ρ)) Φ ρ e := by
  unfold evF evF' evS evS'
  cases ev Φ e (vw ρ) <;> rfl
theorem evF'_int {Φ : Fi} {ρ : En} {e : E} {i : Int} {l : Lv} : evF' (.ok (.int i, l)) Φ ρ e = .ok (ρ, (.int i, l)) := rfl
theorem evF'_bl {Φ : Fi} {ρ : En} {e : E} {i : Bool} {l : Lv} : evF' (.ok (.bl i, l)) Φ ρ e = .ok (ρ, (.bl i, l)) := rfl
theorem evF'_str {Φ : Fi} {ρ : En} {e : E} {i : Str} {l : Lv} : evF' (.ok (.str i, l)) Φ ρ e = .ok (ρ, (.str i, l)) := rfl
theorem evF'_non {Φ : Fi} {ρ : En} {e : E} {l : Lv} : evF' (.ok (.non, l)) Φ ρ e = .ok (ρ, (.non, l)) := rfl
theorem evF'_n {Φ : Fi} {ρ : En} {e : E} {d : D} {k : Nat} : evF' (.ok (d, .n k)) Φ ρ e = .ok (ρ, (d, .n k)) := by simp only [evF', isBo_n, Bool.false_eq_true, if_false]
theorem evF'_al {Φ : Fi} {ρ : En} {e : E} {d : D} : evF' (.ok (d, .al)) Φ ρ e = .ok (ρ, (d, .al)) := by simp only [evF', isBo_al, Bool.false_eq_true, if_false]
theorem evF'_bo {Φ : Fi} {ρ : En} {e : E} {k : Kd} {ds : List D} : evF' (.ok (.nd k ds, .bo)) Φ ρ e = evS Φ ρ e := rfl
theorem evF'_err {Φ : Fi} {ρ : En} {e : E} {C : Str} {x : V} : evF' (.err C x) Φ ρ e = .err C x := rfl
theorem evF'_stuck {Φ : Fi} {ρ : En} {e : E} : evF' .stuck Φ ρ e = evS Φ ρ e := rfl
theorem evS_q {Φ : Fi} {ρ : En} {e : E} : evS Φ ρ e = evS' (ev Φ e (vw (frzV (evars e) ρ))) (frzV (evars e) ρ) := rfl
theorem evS'_int {ρ : En} {i : Int} {l : Lv} : evS' (.ok (.int i, l)) ρ = .ok (ρ, (.int i, l)) := rfl
theorem evS'_bl {ρ : En} {i : Bool} {l : Lv} : evS' (.ok (.bl i, l)) ρ = .ok (ρ, (.bl i, l)) := rfl
theorem evS'_str {ρ : En} {i : Str} {l : Lv} : evS' (.ok (.str i, l)) ρ = .ok (ρ, (.str i, l)) := rfl
theorem evS'_n {ρ : En} {d : D} {k : Nat} : evS' (.ok (d, .n k)) ρ = .ok (ρ, (d, .n k)) := by simp only [evS', R.bind, isBo_n, Bool.false_eq_true, if_false]
theorem evS'_al {ρ : En} {d : D} : evS' (.ok (d, .al)) ρ = .ok (ρ, (d, .al)) := by simp only [evS', R.bind, isBo_al, Bool.false_eq_true, if_false]
theorem frzV_nil {ρ : En} : frzV [] ρ = ρ := rfl
theorem frzV_cons {i : Nat} {r : List Nat} {ρ : En} : frzV (i :: r) ρ = frzV r (frz1 ρ i) := rfl
/-! calls -/
def Blt (Φ : Fi) : Prop := ∀ f, bltN f = true → Φ.fn f = none
theorem callE_f {Φ : Fi} {f : Str} {ff : FF} {ne : Bool} {r : R (List DL)} (h : Φ.fn f = some ff) : callE Φ f ne r = r.bind fun xs => callD ff xs := by
  unfold callE
  rw [h]
theorem callE_b {Φ : Fi} {f : Str} {r : R (List DL)} (hB : Blt Φ) (h : bltN f = true) : callE Φ f true r = r.bind fun xs => bltD f xs := by
  unfold callE
  rw [hB f h, h]
  rfl
theorem callL_al {xs : List DL} : callL xs .al = .al := by unfold callL; split <;> rfl
theorem callD_o {ff : FF} {xs : List DL} {d : D} {l : Lv} (h : ff.run (xs.map (·.1) ++ ff.dfs) = .ok (d, l)) : callD ff xs = .ok (d, callL xs l) := by
  unfold callD
  rw [h]
  rfl
theorem callL_no {xs : List DL} {l : Lv} (h : xs.any isBo = false) : callL xs l = l := by
  unfold callL
  rw [h, if_neg Bool.false_ne_true]
theorem neEs_c {e : E} {r : Es} : neEs (.cons e r) = true := rfl
theorem blt_len : bltN "len" = true := by rfl
theorem blt_int : bltN "int" = true := by rfl
theorem blt_abs : bltN "abs" = true := by rfl
theorem blt_max : bltN "max" = true := by rfl
theorem blt_min : bltN "min" = true := by rfl
theorem blt_list : bltN "list" = true := by rfl
theorem blt_tuple : bltN "tuple" = true := by rfl
theorem blt_sum : bltN "sum" = true := by rfl
theorem blt_any : bltN "any" = true := by rfl
theorem blt_all : bltN "all" = true := by rfl
theorem blt_str : bltN "str" = true := by rfl
theorem blt_repr : bltN "repr" = true := by rfl
theorem b_len_lst {ds : List D} {l : Lv} : bltD "len" [(.nd .lst ds, l)] = .ok (.int ds.length, .al) := by rfl
theorem b_len_lk {ds : List D} {l : Lv} : bltD "len" [(.nd .lk ds, l)] = .ok (.int ds.length, .al) := by rfl
theorem b_len_tup {ds : List D} {l : Lv} : bltD "len" [(.nd .tup ds, l)] = .ok (.int ds.length, .al) := by rfl
theorem b_int {i : Int} {l : Lv} : bltD "int" [(.int i, l)] = .ok (.int i, .al) := by rfl
theorem b_int_bl {i : Bool} {l : Lv} : bltD "int" [(.bl i, l)] = .ok (.int (if i = true then 1 else 0), .al) := by rfl
theorem b_abs {i : Int} {l : Lv} : bltD "abs" [(.int i, l)] = .ok (.int (if i < 0 then -i else i), .al) := by rfl
theorem b_max {i j : Int} {l m : Lv} : bltD "max" [(.int i, l), (.int j, m)] = .ok (.int (if j > i then j else i), .al) := by rfl
theorem b_min {i j : Int} {l m : Lv} : bltD "min" [(.int i, l), (.int j, m)] = .ok (.int (if j < i then j else i), .al) := by rfl
theorem b_list {ds : List D} {l : Lv} : bltD "list" [(.nd .lst ds, l)] = .ok (.nd .lst ds, cp l ds) := by rfl
theorem b_repr {d : D} {l : Lv} : bltD "repr" [(d, l)] = gd (d.okE = true ∧ d.py.showable = true ∧ d.py.depth ≤ 60 ∧ d.py.shown.length ≤ sizeLine) (.ok (.str d.py.shown, .al)) := by rfl
/-! comparisons -/
theorem c_eq_int {i j : Int} : opC .eq (.int i) (.int j) = .ok (.bl (decide (i = j))) := by
  show R.ok (D.bl (decide (V.int i = V.int j))) = _
  simp
theorem c_ne_int {i j : Int} : opC .ne (.int i) (.int j) = .ok (.bl (!decide (i = j))) := by
  show R.ok (D.bl (!decide (V.int i = V.int j))) = _
  simp
theorem c_eq_str {i j : Str} : opC .eq (.str i) (.str j) = .ok (.bl (decide (i = j))) := by
  show R.ok (D.bl (decide (V.str i = V.str j))) = _
  simp
theorem c_ne_str {i j : Str} : opC .ne (.str i) (.str j) = .ok (.bl (!decide (i = j))) := by
  show R.ok (D.bl (!decide (V.str i = V.str j))) = _
  simp
theorem c_eq_nd {k k' : Kd} {ds es : List D} : opC .eq (.nd k ds) (.nd k' es) = gd ((D.nd k ds).okE = true ∧ (D.nd k' es).okE = true ∧ (D.nd k ds).py.depth ≤ 64 ∧ (D.nd k' es).py.depth ≤ 64) (.ok (.bl (PyData.eqv (D.nd k ds).py (D.nd k' es).py))) := rfl
theorem c_ne_nd {k k' : Kd} {ds es : List D} : opC .ne (.nd k ds) (.nd k' es) = gd ((D.nd k ds).okE = true ∧ (D.nd k' es).okE = true ∧ (D.nd k ds).py.depth ≤ 64 ∧ (D.nd k' es).py.depth ≤ 64) (.ok (.bl (!PyData.eqv (D.nd k ds).py (D.nd k' es).py))) := rfl
theorem c_lt {i j : Int} : opC .lt (.int i) (.int j) = .ok (.bl (decide (i < j))) := rfl
theorem c_le {i j : Int} : opC .le (.int i) (.int j) = .ok (.bl (decide (i ≤ j))) := rfl
theorem c_gt {i j : Int} : opC .gt (.int i) (.int j) = .ok (.bl (decide (j < i))) := rfl
theorem c_ge {i j : Int} : opC .ge (.int i) (.int j) = .ok (.bl (decide (j ≤ i))) := rfl
theorem k_lt {i j : Int} : opK .lt (.int i) (.int j) = .ok (.bl (decide (i < j))) := rfl
theorem k_le {i j : Int} : opK .le (.int i) (.int j) = .ok (.bl (decide (i ≤ j))) := rfl
theorem k_gt {i j : Int} : opK .gt (.int i) (.int j) = .ok (.bl (decide (j < i))) := rfl
theorem k_ge {i j : Int} : opK .ge (.int i) (.int j) = .ok (.bl (decide (j ≤ i))) := rfl
theorem obl_o {b : Bool} : obl (.ok (.bl b)) = .ok (.bl b, .al) := rfl
/-! operators -/
theorem o_add {i j : Int} {l m : Lv} : opB .add (.int i, l) (.int j, m) = .ok (.int (i + j), .al) := rfl
theorem o_sub {i j : Int} {l m : Lv} : opB .sub (.int i, l) (.int j, m) = .ok (.int (i - j), .al) := rfl
theorem o_mul {i j : Int} {l m : Lv} : opB .mul (.int i, l) (.int j, m) = gd (CMul i j ∨ CMulW i j) (.ok (.int (i * j), .al)) := rfl
theorem o_fdiv {i j : Int} {l m : Lv} : opB .fdiv (.int i, l) (.int j, m) = gd (CDivN i j ∨ CDivW i j) (.ok (.int (i.fdiv j), .al)) := rfl
theorem o_mod {i j : Int} {l m : Lv} : opB .mod (.int i, l) (.int j, m) = gd (j ≠ 0) (.ok (.int (i.fmod j), .al)) := rfl
theorem o_pow {i j : Int} {l m : Lv} : opB .pow (.int i, l) (.int j, m) = gd (CPow i j) (.ok (.int (i ^ j.toNat), .al)) := rfl
theorem o_cat {xs ys : List D} {l m : Lv} : opB .add (.nd .lst xs, l) (.nd .lst ys, m) = gd (xs.length + ys.length ≤ sizeLine) (.ok (.nd .lst (xs ++ ys), cp (l.min m) (xs ++ ys))) := rfl
theorem o_rep {xs : List D} {k : Int} {l m : Lv} : opB .mul (.nd .lst xs, l) (.int k, m) = gd (-(2 ^ 63) ≤ k ∧ k < 2 ^ 63 ∧ xs.length * k.toNat ≤ sizeLine) (.ok (.nd .lst (List.replicate k.toNat xs).flatten, cp l (List.replicate k.toNat xs).flatten)) := rfl
theorem i_lst {ds : List D} {l : Lv} {i : Int} {x : D} (h : atI ds i = some x) : opI (.nd .lst ds, l) (.int i) = .ok (x, nl x l.frz) := by
  show (match atI ds i with
    | some x => R.ok (x, nl x l.frz)
    | none => .stuck) = _
  rw [h]
theorem i_tup {ds : List D} {l : Lv} {i : Int} {x : D} (h : atI ds i = some x) : opI (.nd .tup ds, l) (.int i) = .ok (x, nl x l.frz) := by
  show (match atI ds i with
    | some x => R.ok (x, nl x l.frz)
    | none => .stuck) = _
  rw [h]
theorem i_lk {ds : List D} {l : Lv} {i : Int} {x : D} (h : atI ds i = some x) : opI (.nd .lk ds, l) (.int i) = .ok (x, nl x l.frz) := by
  show (match atI ds i with
    | some x => R.ok (x, nl x l.frz)
    | none => .stuck) = _
  rw [h]
theorem ix_lst {ds : List D} {l : Lv} {i : Int} : opI (.nd .lst ds, l) (.int i) = (match atI ds i with
    | some x => R.ok (x, nl x l.frz)
    | none => .stuck) := rfl
theorem ix_lk {ds : List D} {l : Lv} {i : Int} : opI (.nd .lk ds, l) (.int i) = (match atI ds i with
    | some x => R.ok (x, nl x l.frz)
    | none => .stuck) := rfl
theorem ix_tup {ds : List D} {l : Lv} {i : Int} : opI (.nd .tup ds, l) (.int i) = (match atI ds i with
    | some x => R.ok (x, nl x l.frz)
    | none => .stuck) := rfl
theorem frz_n0 : (Lv.n 0).frz = .n 0 := rfl
theorem frz_bo : Lv.bo.frz = .bo := rfl
theorem frz_al : Lv.al.frz = .n 0 := rfl
theorem frz_n1 : (Lv.n 1).frz = .n 0 := rfl
/-! statements -/
theorem x_nil {Φ : Fi} {h : Nat → Nat} {F : Nat} {ρ : En} : execs Φ h F .nil ρ = .nx ρ := by simp only [execs]
/-- a for over a range, an invariant, what is behind it -/
theorem go_range {Φ : Fi} {h : Nat → Nat} {F : Nat} {g : G} {it : I} {b r : Ss} {ρ ρ0 : En} {R0 : R DL} {n : Nat} {φ : Nat → D} (P : Nat → En → Prop) (e : evIF Φ ρ it = .ok (ρ0, (List.range n).map φ)) (h0 : P 0 ρ0)
    (st : ∀ i ρ, i < n → P i ρ → ∃ ρ1, bdG g (φ i) (.n 0) ρ = .ok ρ1 ∧ ∃ ρ2, execs Φ h F b ρ1 = .nx ρ2 ∧ P (i + 1) ρ2) (fin : ∀ ρ, P n ρ → outOf (execs Φ h F r ρ) = R0) :
    outOf (execs Φ h F (.cons (.forS g it b) r) ρ) = R0 := by
  obtain ⟨ρ', e1, h1⟩ := loop_range (g := g) (b := execs Φ h F b) P h0 fun i ρ c hp => by
    obtain ⟨ρ1, e1, ρ2, e2, h2⟩ := st i ρ c hp
    exact ⟨ρ1, ρ2, e1, e2, h2⟩
  simp only [execs, exec, e, toOut, e1]
  exact fin ρ' h1
/-- a for over a list -/
theorem go_list {Φ : Fi} {h : Nat → Nat} {F : Nat} {g : G} {it : I} {b r : Ss} {ρ ρ0 : En} {R0 : R DL} {ds : List D} (P : Nat → En → Prop) (e : evIF Φ ρ it = .ok (ρ0, ds)) (h0 : P 0 ρ0)
    (st : ∀ i d ρ, ds[i]? = some d → P i ρ → ∃ ρ1, bdG g d (.n 0) ρ = .ok ρ1 ∧ ∃ ρ2, execs Φ h F b ρ1 = .nx ρ2 ∧ P (i + 1) ρ2) (fin : ∀ ρ, P ds.length ρ → outOf (execs Φ h F r ρ) = R0) :
    outOf (execs Φ h F (.cons (.forS g it b) r) ρ) = R0 := by
  obtain ⟨ρ', e1, h1⟩ := loop_inv (g := g) (b := execs Φ h F b) P ds 0 ρ0 h0 fun i d ρ c hp => by
    rw [Nat.zero_add] at hp ⊢
    obtain ⟨ρ1, e1, ρ2, e2, h2⟩ := st i d ρ c hp
    exact ⟨ρ1, ρ2, e1, e2, h2⟩
  simp only [execs, exec, e, toOut, e1]
  rw [Nat.zero_add] at h1
  exact fin ρ' h1
/-- a statement that goes on -/
theorem go_nx {Φ : Fi} {h : Nat → Nat} {F : Nat} {s : S} {r : Ss} {ρ ρ' : En} {R0 : R DL} (e : exec Φ h F s ρ = .nx ρ') (fin : outOf (execs Φ h F r ρ') = R0) : outOf (execs Φ h F (.cons s r) ρ) = R0 := by
  simp only [execs, e]
  exact fin
theorem go_out {Φ : Fi} {h : Nat → Nat} {F : Nat} {s : S} {r : Ss} {ρ : En} {o : Out} {R0 : R DL} (e : exec Φ h F s ρ = o) (hn : ∀ ρ', o ≠ .nx ρ') (fin : outOf o = R0) : outOf (execs Φ h F (.cons s r) ρ) = R0 := by
  simp only [execs, e]
  cases o with
  | nx ρ' => exact absurd rfl (hn ρ')
  | ret x => exact fin
  | err C x => exact fin
  | stuck => exact fin
end M

/-! MiniHd: a law's end, from a promise of the kind FnG. -/
namespace M
open PySem PySem.Spec PyProof.Rows L2
abbrev TrueEnd (s₁ : Shared) (r : Result) (s' : Shared) : Prop := r = .ok (.ret (.bool true)) ∧ OldK s₁.heap s'.heap ∧ s'.os = s₁.os ∧ AllBare s'.gens
theorem no_exc {P : Program} {w : World} {s : Shared} {H : Hp} {e : Value} {s' : Shared} (h : L2N.CX P w [] H s (fun _ _ _ => False) e s') : False := by
  obtain ⟨_, _, _, _, _, _, _, _, _, _, _, _, z⟩ := h
  exact z
/-- the call, the tracked heap being H: the script at most -/
theorem end_at {P : Program} {w : World} {K : PySem.W.Frag} {mg mb : Str → Option Value} {k : Nat} {fa a : Addr} {fd : FuncData} {x : Str} {sp : Sp} {s₁ : Shared} {ob : Obj} {H : Hp}
    (KX : K.In s₁.heap) (hns : s₁.heap.Ns mainGlobals mg) (hb : s₁.heap.Ns builtinsNs mb) (hbb : ∀ x : Str, x ≠ "__name__" → mb x = bootBuiltins x) (hlim : s₁.heap.NoLimit) (hg : s₁.gens = #[])
    (ha : s₁.heap.get? a = some ob) (hnd : ∀ es ep, ob.data ≠ .dict es ep) (hr : RoomG k callerA) (F : ∀ base : Heap, K.In base → base.Ns mainGlobals mg → FnG P w K mg base k fa fd [x] sp) (hbind : ∀ (s : Shared) (u : Value), BindsTo s fd ⟨[u], []⟩ [(x, u)])
    (hO : Only H) (hok : HOk P w H s₁.heap) (hA : ∀ b, H b ≠ none → b = a) (hK : H a ≠ none → K.lookup a = none) (hsp : sp [.ref a] H (fun v _ => v = .bl true) fun _ _ _ => False) :
    codeAny (model P w) callerA (.call (.ref fa) ⟨[.ref a], []⟩) (TrueEnd s₁) s₁ := by
  have one : ∀ {b : Addr} {o : Obj}, s₁.heap.get? b = some o → (b = a → H a = none) → (hidT s₁.heap H).get? b = some o := fun {b o} e n => hidT_get e (Classical.byContradiction fun q => q (by rw [hA b q]; exact n (hA b q)))
  have sp1 : ∀ {b : Addr} {m : Str → Option Value}, s₁.heap.Ns b m → (hidT s₁.heap H).Ns b m := fun {b m} ⟨o, es, ep, e, d, r⟩ => ⟨o, es, ep, one e fun z => by
    subst z
    rw [ha] at e
    cases e
    exact absurd d (hnd es ep), d, r⟩
  have kin : K.In (hidT s₁.heap H) := fun b o e => one (KX b o e) fun z => Classical.byContradiction fun q => by
    rw [z, hK q] at e
    cases e
  have ok0 : Mod K mg (hidT s₁.heap H) := ⟨kin, sp1 hns, ⟨mb, sp1 hb, hbb⟩, hlim.elim fun mc h => ⟨mc, sp1 h.1, h.2⟩⟩
  have env : Env0 P w K mg (hidT s₁.heap H) callerA [] s₁ H := ⟨rfl, ok0, fun b o e => of_hidT e, Nat.le_of_eq (hidT_size _ _), trivial, fun b hb => absurd (show b ∈ ([] : List Addr) from hb) (by simp), hok, .of_eq hg⟩
  refine codeAny_mono ((F _ kin (sp1 hns)).run callerA [] s₁ H ⟨[.ref a], []⟩ [.ref a] [.ref a] _ _ hr env (hbind s₁ (.ref a)) (.cons rfl .nil) hsp) fun r s' h => ?_
  match r, h with
  | .error e, h => exact (no_exc h).elim
  | .ok (.ret u), h =>
    obtain ⟨v, H', os, bare, un, hok', rv, q⟩ := h
    have q' : v = .bl true := q
    rw [q'] at rv
    obtain rfl : u = Value.bool true := rv
    refine ⟨rfl, OldK.of_keep fun b o e => ?_, os, bare⟩
    rcases hO b with z | ⟨o2, xs, z⟩
    · exact un.keep b o e z (by intro z; exact absurd (show b ∈ ([] : List Addr) from z) (by simp)) (by simp)
    · obtain ⟨e1, _⟩ := hok b _ z
      obtain ⟨e2, _⟩ := hok' b _ (un.frzs b o2 _ z)
      rw [e] at e1
      cases e1
      exact e2
/-- a law whose def has such a promise -/
theorem walkG {l : PySem.W.OpenLaw} {n k : Nat} {q : Program} {loose : List Str} {XP : (Str → Option Value) → Heap → Prop} {YP : World → Heap → Prop} {d : DefRec} {x : Str}
    (hn : l.most = some n) (hn2 : n ≤ sizeLine) (hdf : d.params.defaults = []) (hr : RoomG k callerA)
    (F : ∀ (w : World) (mg : Str → Option Value) (fa : Addr) (h : Heap), YP w h → h.Ns mainGlobals mg → mg d.name = some (.ref fa) →
      ∃ (K : PySem.W.Frag) (fd : FuncData) (sp : Sp), K.In h ∧ (∀ (s : Shared) (u : Value), BindsTo s fd ⟨[u], []⟩ [(x, u)]) ∧
        (∀ (H : Hp) (a : Addr) (ns : List Int), ns.length ≤ n → (∀ k ∈ ns, Builtin.Int.intBits k ≤ 1048576) → SqL K H a (ns.map V.int) → sp [.ref a] H (fun v _ => v = .bl true) fun _ _ _ => False) ∧
        ∀ base : Heap, K.In base → base.Ns mainGlobals mg → FnG l.prog w K mg base k fa fd [x] sp) :
    PySem.W.WalkO q loose XP YP l.row.toRowW d [] (fun f vs => PySem.call f vs) := by
  refine Att.attach_callB hn hdf fun w s₀ s₁ mg mb fa o pm cd doc a vs ns G Y ho hd hcd hmg hobj hints hlen hbits hg => ?_
  obtain ⟨K, fd, sp, KX, hb, hsp, hF⟩ := F w mg fa _ Y G.T.g hmg
  have rv := vals_ints hints
  have len := hints.length
  have hz : ns.length ≤ sizeLine := Nat.le_trans hlen hn2
  have nd : ∀ es ep, ({ cls := .type "list", data := .seq vs.toArray } : Obj).data ≠ .dict es ep := fun _ _ z => by
    have z' : Data.seq vs.toArray _ = Data.dict _ _ := z
    cases z'
  cases hk : K.lookup a with
  | some o2 =>
    have e := KX a o2 hk
    rw [hobj] at e
    cases e
    refine end_at (H := fun _ => none) KX G.T.g G.T.b G.T.builtins G.T.nolimit hg hobj nd hr hF hb (fun _ => .inl rfl) (fun b u z => by cases z) (fun b z => absurd rfl z) (fun z => absurd rfl z) (hsp _ a ns hlen hbits ?_)
    exact .inr ⟨_, vs.toArray, _, hk, rfl, rfl, rfl, by rw [List.size_toArray, len]; exact hz, by simpa using rv⟩
  | none =>
    have hS : ∀ b, b ≠ a → upd (fun _ => none) a (.frz { cls := .type "list", data := .seq vs.toArray } (.lst (ns.map V.int))) b = none := fun b h => upd_ne h
    refine end_at (H := upd (fun _ => none) a (.frz { cls := .type "list", data := .seq vs.toArray } (.lst (ns.map V.int)))) KX G.T.g G.T.b G.T.builtins G.T.nolimit hg hobj nd hr hF hb (fun b => ?_) (fun b u z => ?_) (fun b z => ?_) (fun _ => hk) (hsp _ a ns hlen hbits (.inl (.inr ⟨_, upd_same⟩)))
    · by_cases h : b = a
      · exact .inr ⟨_, _, by rw [h]; exact upd_same⟩
      · exact .inl (hS b h)
    · by_cases h : b = a
      · rw [h, upd_same] at z
        cases z
        rw [h]
        exact ⟨hobj, by rw [List.length_map]; exact hz, vs, _, rv, hobj⟩
      · rw [hS b h] at z
        cases z
    · exact Classical.byContradiction fun h => z (hS b h)
end M

/-! MiniEa: an own exception over ValueError whose __init__ says super().__init__(at); self.at = at. -/
namespace PySem
namespace ExI
open PySem.W PySem.Calls PyProof.Rows PySem.HandSPX
/-- the bound built-in __init__ called -/
theorem call_mw {prog : Program} {w : World} {A : Around} {E : Value → Shared → Prop} {h : Heap} {g : Array GenState} {d : Drawn} {t : Nat} {os : OsState}
    {nm q : Str} {C N : Addr} {bs bm : List Value} {hdct : Bool} {sn : List Str} {sub : List Value} {ab : Bool} {col : Option Bool} {dd : Option Addr} {k0 k1 k2 k3 k5 : Option Value} {u e t0 : Addr} {rest : List Value} {Q : Value → Shared → Prop}
    (hC : h.get? C = some (excClassObj nm q C N bs bm hdct sn sub ab col dd k0 k1 k2 k3 k5 "ValueError.__new__")) (he : h.get? e = some (excO C t0)) (hu : h.get? u = some (kxs_mw "ValueError.__init__" e)) (hrest : rest.length ≤ sizeLine)
    (hq : ∀ h' t1, (∀ b o, b ≠ e → h.get? b = some o → h'.get? b = some o) → h'.get? e = some (excO C t1) → Q .none ⟨h', g, d, t, os⟩) :
    wpAny (model prog w) A (call (.ref u) rest) Q E ⟨h, g, d, t, os⟩ := by
  refine wpAny_call (codeAny_of_tree ?_)
  show wpAny _ A.in1 (callAny (.ref u) ⟨rest, []⟩) _ _ _
  simp only [callAny]
  refine wpAny_bind (wpAny_load hu ?_)
  simp only [kxs_mw, show (Value.type "method-wrapper" == Value.type "method" || Value.type "method-wrapper" == Value.type "builtin_function_or_method" || Value.type "method-wrapper" == Value.type "method-wrapper") = true by decide, if_true]
  refine KFB.if_so (by decide) ?_
  refine wpAny_bind (ESX.check_bound F.excBase_ValueError hC he rfl ?_)
  refine wpAny_bind (wpAny_pure (wpAny_pure ?_))
  refine ⟨Code.quiet_builtin _ (by decide +kernel), codeAny_builtin F.excBase_ValueError.initEntry ?_⟩
  rw [Around.under_plainId F.excBase_ValueError.init.plain _]
  wp_walk
  refine hq _ h.objs.size (fun b o hb ho => ?_) ?_
  · rw [Heap.get?_update_other _ _ (Ne.symm hb)]
    exact Heap.get?_push_of_some _ ho
  · rw [Heap.get?_update_self _ (Heap.get?_push_of_some _ he) rfl]
    rfl
/-- what the written part says of the def -/
structure IniF (P : Program) (K : Frag) (f D : Addr) (fd : FuncData) (body : List Stmt) : Prop where
  lk : ∃ oc od osl, K.lookup f = some ⟨oc, od, .func fd, osl⟩
  body_ : fd.body = .stmts body
  shape : ∃ p0 p1 p2 p3 p4 p5 p6 p7 p8 p9, body = [.Expr (.Call (.Attribute (.Call (.Name "super" p0) [] [] p1) "__init__" p2) [.Name "at" p3] [] p4) p5, .Assign [.Attribute (.Name "self" p6) "at" p7] (.Name "at" p8) p9] ∧ (p2.endLine == p4.line) = true
  kind : fd.scope.kind = .function
  co : fd.scope.isCoroutine = false
  gen : fd.scope.isGenerator = false
  self_ : fd.scope.names.lookup ("self" : Str) = some .local
  at_ : fd.scope.names.lookup ("at" : Str) = some .local
  sup : fd.scope.names.lookup ("super" : Str) = some .globalImplicit
  cls_ : fd.scope.names.lookup ("__class__" : Str) = some .free
  nocell : ∀ x ∈ fd.scope.names, x.2 ≠ .cell
  clo : ∃ cc cl cld csl, fd.closure = [(("__class__" : Str), cc)] ∧ K.lookup cc = some ⟨cl, cld, .cell (some (.ref D)), csl⟩
  glo : fd.globals = mainGlobals
  blt : fd.builtins = builtinsNs
  par : ∃ ar : Arg, (fd.params.posonlyargs ++ fd.params.args).head? = some ar ∧ ar.arg = "self"
  code : codeIn K fd.code fd.qualname = true
  file : ∃ cda ccl cdd vs ccs file tf, fd.code = .ref cda ∧ K.lookup cda = some ⟨ccl, cdd, .fields vs, ccs⟩ ∧ vs[2]? = some (.str file tf) ∧ ((P.main.file : Str) == file) = true
  top : (P.main.scope.names.lookup ("super" : Str)).isSome = false
  thp : nsIn K cStatics "thirdparty.any" = some none
  dcl : ∃ cdD, clsIn K D = some cdD
/-- .. of a class below it -/
structure IniC (K : Frag) (C D : Addr) : Prop where
  oex : L2.OexC K C
  along : ks_superIn K C D "__init__" = some (some (.builtin "ValueError.__init__"))
  subV : subIn K (.ref C) (.type "ValueError") = some true
  subD : mroIn K C (.ref D) = some true
  no : findIn K (.ref C) "at" = some none
theorem init_code {P : Program} {w : World} {K : Frag} {f D C a t0 : Addr} {fd : FuncData} {body : List Stmt} {A : Around} {R : Result → Shared → Prop} {hp : Heap} {g : Array GenState} {d : Drawn} {t : Nat} {os : OsState} {mg mb : Str → Option Value} {args : Args} {u : Value}
    (F : IniF P K f D fd body) (Cc : IniC K C D) (kin : K.In hp) (hKa : K.lookup a = none) (lim : hp.NoLimit) (hgl : hp.Ns mainGlobals mg) (hsup : mg "super" = none) (hbl : hp.Ns builtinsNs mb) (hb : mb "super" = some (.type "super")) (room : A.depth < recursionLimit)
    (hbind : BindsTo ⟨hp, g, d, t, os⟩ fd args [(("self" : Str), .ref a), (("at" : Str), u)]) (hx : hp.get? a = some (excO C t0))
    (hq : ∀ h' tk' dx t1, (∀ b o, b ≠ a → hp.get? b = some o → h'.get? b = some o) → hp.objs.size ≤ dx → dx ≠ a → h'.get? a = some ({ cls := .ref C, dict := some dx, data := .fields #[.ref t1, .none, .none, .none, .bool false, .none] } : Obj) →
      h'.Ns1 dx (fun y => if y = ("at" : Str) then some u else none) → R (.ok (.ret .none)) ⟨h', g, d, tk', os⟩) :
    codeAny (model P w) A (.call (.ref f) args) R ⟨hp, g, d, t, os⟩ := by
  obtain ⟨oc, od, osl, lk⟩ := F.lk
  obtain ⟨p0, p1, p2, p3, p4, p5, p6, p7, p8, p9, rfl, hline⟩ := F.shape
  obtain ⟨cc, cl, cld, csl, eclo, lcc⟩ := F.clo
  obtain ⟨cda, ccl, cdd, vs, ccs, file, tf, ecode, lcd, hvs, hfile⟩ := F.file
  obtain ⟨ar, hpar, har⟩ := F.par
  refine ks_codeAny_call_defAt room (kin _ _ lk) rfl lim (codeRec_of kin F.code) F.body_ hbind F.nocell (fun x hx => ?_) (fun h₀ hn hk => ?_) F.co F.gen F.kind
  · simp only [List.mem_cons, List.not_mem_nil, or_false] at hx
    rcases hx with rfl | rfl
    · exact F.self_
    · exact F.at_
  have k0 : K.In h₀ := kin.keeps hk
  have eenv : callEnv fd hp.objs.size f = { scope := fd.scope, locals := hp.objs.size, globals := mainGlobals, cells := [(("__class__" : Str), cc)], qual := fd.qualname ++ ".<locals>.", func := some f, code := .ref cda, frame := some hp.objs.size, builtins := builtinsNs } := by
    unfold callEnv newEnv
    rw [F.glo, F.blt, eclo, ecode]
  show wpAt _ (A.deeper (callEnv fd hp.objs.size f)) (.func _ (callEnv fd hp.objs.size f)) (execs _ (callEnv fd hp.objs.size f)) _ _ _
  rw [eenv]
  generalize hE : ({ scope := fd.scope, locals := hp.objs.size, globals := mainGlobals, cells := [(("__class__" : Str), cc)], qual := fd.qualname ++ ".<locals>.", func := some f, code := .ref cda, frame := some hp.objs.size, builtins := builtinsNs } : Env) = env
  have e1 : env.scope = fd.scope := by rw [← hE]
  have e2 : env.locals = hp.objs.size := by rw [← hE]
  have e3 : env.globals = mainGlobals := by rw [← hE]
  have e4 : env.cells = [(("__class__" : Str), cc)] := by rw [← hE]
  have e5 : env.func = some f := by rw [← hE]
  have e6 : env.code = .ref cda := by rw [← hE]
  have e7 : env.builtins = builtinsNs := by rw [← hE]
  have kd : ∀ y, env.kindOf y = fd.scope.names.lookup y := fun y => by unfold Env.kindOf; rw [e1]
  have hint : interactive env = false := by
    unfold interactive
    rw [e1, F.kind]
    rfl
  have hke : env.scope.kind = .function := by rw [e1]; exact F.kind
  obtain ⟨nm, q, N, bs, bm, sn, sub, ab, col, dd, k0', k1, k2, k3, k5, hC, hbm⟩ := Cc.oex.cls
  have hcl : clsIn K C = some { name := nm, bases := bs, mro := .ref C :: bm, ns := N, qualname := q, hasDict := true, slotNames := sn, subclasses := sub, abstract := ab, collection := col, hasDel := false } := by unfold clsIn; rw [hC] <;> rfl
  obtain ⟨cdD, hD⟩ := F.dcl
  obtain ⟨oD, lD, hD2⟩ : ∃ oD, K.lookup D = some oD ∧ oD.data = .cls cdD := by
    unfold clsIn at hD
    split at hD
    · rename_i c d cd' sl ho
      cases hD
      exact ⟨_, ho, rfl⟩
    · cases hD
  have along := Cc.along
  unfold ks_superIn at along
  rw [hcl, Option.bind_some] at along
  have vself : ([(("self" : Str), Value.ref a), (("at" : Str), u)] : List (Str × Value)).reverse.lookup ("self" : Str) = some (.ref a) := rfl
  have vat : ([(("self" : Str), Value.ref a), (("at" : Str), u)] : List (Str × Value)).reverse.lookup ("at" : Str) = some u := rfl
  have heq : eval (.Call (.Attribute (.Call (.Name "super" p0) [] [] p1) "__init__" p2) [.Name "at" p3] [] p4) env = (do
      let ov ← attributeBase (.Call (.Name "super" p0) [] [] p1) "__init__" env (eval (.Call (.Name "super" p0) [] [] p1) env)
      standAt p2.atName
      let (f, first) ← holding [ov] (getMethod ov "__init__" (L2.plainOf (.Call (.Name "super" p0) [] [] p1) env))
      callWith p4 f first (backTo p4 (starEach [.Name "at" p3] env)) []) := by
    show (do
      let ov ← attributeBase (.Call (.Name "super" p0) [] [] p1) "__init__" env (eval (.Call (.Name "super" p0) [] [] p1) env)
      standAt p2.atName
      methodCall (.Call (.Name "super" p0) [] [] p1) "__init__" p2 p4 env ov _ (backTo p4 (starEach [.Name "at" p3] env)) (backToKw p4 (keywordEach [] env))) = _
    congr 1
    funext ov
    congr 1
    funext _
    exact L2.mcall_line rfl hline
  refine ks_wpAt_execs_cons (ks_wpAt_Expr_any (ks_wpAt_MethodCall ?_ heq) hint rfl)
  refine ks_wpAt_super_base (f := f) (cc := cda) ((kd _).trans F.sup) ((kd _).trans F.cls_) rfl e5 (k0 _ _ lk) rfl hpar e6 (k0 _ _ lcd) rfl hvs hfile F.top ?_
  refine ks_loadName_global hke ((kd _).trans F.sup) (loadGlobal_builtin (env := env) (mg := mg) (mb := mb) (by rw [e3]; exact hgl.keeps hk) hsup (by rw [e7]; exact hbl.keeps hk) hb ⟨rfl, ?_⟩)
  refine wpAny_loadName_free (c := cc) (v := .ref D) hke ((kd _).trans F.cls_) (by rw [e4]; rfl) ⟨_, k0 _ _ lcc, rfl⟩ ?_
  refine wpAny_loadName_local (v := .ref a) hke (by rw [har]; exact (kd _).trans F.self_) (by rw [e2]; exact hn) (by rw [har]; exact vself) ?_
  refine ks_wpAny_isType_cls (k0 _ _ lD) hD2 ⟨rfl, ?_⟩
  have hx0 := hk _ _ hx
  refine ks_wpAny_call_super (k0 _ _ lD) hD2 hx0 rfl (fun c e => nomatch e) (looks_mroIn k0 Cc.subD) (fun h1 hso kk1 => ?_)
  have kin1 : K.In h1 := k0.keeps kk1
  have hx1 := kk1 _ _ hx0
  have I1 : InstAt h1 a (excO C t0) C none := ⟨hx1, rfl, rfl, trivial⟩
  refine kxs_getMethod kxs_ValueError hso (looks_opaque kin1 F.thp) (l₀ := .ref C :: bm) (fun A Q E s k q => wpAny_bind ((looks_clsIn kin1 hcl) A _ E s k (wpAny_pure q))) rfl kin1 along (I1.type.andThen (looks_subIn kin1 Cc.subV)) (ks_ne kin1 I1 hcl) rfl ?_
  have kk2 : ∀ b o, h1.get? b = some o → (h1.push (kxs_mw "ValueError.__init__" a)).get? b = some o := fun b o e => Heap.get?_push_of_some _ e
  have hmw : (h1.push (kxs_mw "ValueError.__init__" a)).get? h1.objs.size = some (kxs_mw "ValueError.__init__" a) := Heap.get?_push_at rfl rfl
  have ns2 : (h1.push (kxs_mw "ValueError.__init__" a)).Ns hp.objs.size (fun x => ([(("self" : Str), Value.ref a), (("at" : Str), u)] : List (Str × Value)).reverse.lookup x) := (hn.keeps kk1).keeps kk2
  refine kxs_callWith (i := "ValueError.__init__") (x := a) rfl ?_
  refine evalArgs_plain (Calls.spliced_cons (ESX.ldL (m := fun x => ([(("self" : Str), Value.ref a), (("at" : Str), u)] : List (Str × Value)).reverse.lookup x) (by rw [e2]; exact ns2) vat ?_ hke ((kd _).trans F.at_)))
  refine Calls.spliced_nil ⟨hmw, ?_⟩
  have hx2 := kk2 _ _ hx1
  refine call_mw (kin1.keeps kk2 _ _ hC) hx2 hmw (by show 1 ≤ sizeLine; decide) (fun h3 t1 kk3 hx3 => ?_)
  have hsz : hp.objs.size ≠ a := fun z => Nat.ne_of_lt (Heap.lt_size hx) z.symm
  have toA : ∀ b o, b ≠ a → h₀.get? b = some o → h3.get? b = some o := fun b o n e => kk3 b o n (kk2 _ _ (kk1 _ _ e))
  have ns3 : h3.Ns hp.objs.size (fun x => ([(("self" : Str), Value.ref a), (("at" : Str), u)] : List (Str × Value)).reverse.lookup x) := by
    obtain ⟨o, es, ep, ho, r⟩ := ns2
    exact ⟨o, es, ep, kk3 _ _ hsz ho, r⟩
  have kin3 : K.In h3 := fun b o e => toA b o (fun z => by rw [z, hKa] at e; cases e) (k0 b o e)
  refine ks_wpAt_execs_cons (ks_wpAt_Assign_Attr (wpAt_of_wpAny ?_) rfl)
  refine ESX.ldL (m := fun x => ([(("self" : Str), Value.ref a), (("at" : Str), u)] : List (Str × Value)).reverse.lookup x) (by rw [e2]; exact ns3) vat ?_ hke ((kd _).trans F.at_)
  refine ESX.ldL (m := fun x => ([(("self" : Str), Value.ref a), (("at" : Str), u)] : List (Str × Value)).reverse.lookup x) (by rw [e2]; exact ns3) vself ?_ hke ((kd _).trans F.self_)
  refine set_plain kin3 (ox := excO C t1) (od := none) ⟨hx3, rfl, rfl, trivial⟩ Cc.oex.sa ?_
  refine exc_osa kin3 hx3 hcl (show refsVE (.ref C :: bm) = true from hbm) rfl Cc.no (fun h' tk' dx kk4 dn dne hx4 hn4 => ?_)
  refine wpAt_of_wpAny ?_
  refine wpAny_of_eq (a := Flow.next) (by rfl) ?_
  have sz : hp.objs.size ≤ h3.objs.size := by
    obtain ⟨o, es, ep, ho, r⟩ := ns3
    exact Nat.le_of_lt (Heap.lt_size ho)
  exact hq h' tk' dx t1 (fun b o n e => kk4 b o n (toA b o n (hk b o e))) (Nat.le_trans sz dn) dne hx4 hn4
end ExI
end PySem

/-! MiniEb: .. as a promise; making one. -/
namespace M
open PySem PySem.Spec PyProof.Rows L2 PySem.ExI
def spI (K : PySem.W.Frag) (D : Addr) : Sp := fun vs H Q _ => ∃ (a C : Addr) (v : V), vs = [.ref a, v] ∧ IniC K C D ∧ H a = some (exo a C none) ∧
  ∀ dx, H dx = none → dx ≠ a → Q .non (upd (upd H dx (exd dx [(("at" : Str), v)])) a (exo a C (some dx)))
theorem ok_init {P : Program} {w : World} {K : PySem.W.Frag} {mg : Str → Option Value} {base : Heap} {CX : CXT} {k : Nat} {f D : Addr} {fd : FuncData} {body : List Stmt} (F : IniF P K f D fd body) (gs : mg "super" = none) :
    FnOk P w K mg base CX k f fd [("self" : Str), ("at" : Str)] (spI K D) := by
  refine ⟨fun vs H Q E ⟨_, _, _, e, _⟩ => by rw [e]; rfl, fun A outer s H args us vs Q E hr e0 hb r hsp => ?_⟩
  obtain ⟨a, C, v, rfl, Cc, ea, q⟩ := hsp
  cases r with
  | @cons _ u0 _ ur ra rr =>
  obtain rfl : u0 = Value.ref a := ra
  cases rr with
  | @cons _ u _ ur rv rr2 =>
  cases rr2
  have kin : K.In s.heap := fun b o e => (e0.bs b o (e0.mod.kin b o e)).1
  have hKa : K.lookup a = none := by
    cases e : K.lookup a with
    | none => rfl
    | some o => rw [(e0.bs a o (e0.mod.kin a o e)).2] at ea; cases ea
  have bk : ∀ b o, base.get? b = some o → s.heap.get? b = some o := fun b o e => (e0.bs b o e).1
  obtain ⟨mb, nb, hmb⟩ := e0.mod.blt
  obtain ⟨t1, ho⟩ := exo_at e0.hok ea
  obtain ⟨hp, g, d, t, os⟩ := s
  refine init_code F Cc kin hKa (e0.mod.nolimit.keeps bk) (e0.mod.glob.keeps bk) gs (nb.keeps bk) ((hmb _ (by decide)).trans (by decide +kernel)) hr.depth hb ho (fun h' tk' dx t2 kp dn dne hx hn => ?_)
  have hnd : H dx = none := e0.hok.fresh dn
  have nd : ∀ {b : Addr} {o : Obj}, hp.get? b = some o → b ≠ dx := fun {b o} q => Nat.ne_of_lt (Nat.lt_of_lt_of_le (Heap.lt_size q) dn)
  have na : ∀ {b : Addr}, H b = none → b ≠ a := fun {b} n z => by
    rw [z, ea] at n
    cases n
  refine ⟨.non, _, rfl, e0.bare, { keep := fun b o q n _ _ => kp b o (na n) q, slot := fun b o q n _ _ => ⟨o.slots, kp b o (na n) q⟩, free := fun b o q n _ => by rw [upd_ne (na n), upd_ne (nd q)]; exact n, there := fun b o q _ => ?_, tups := fun b xs q => ?_, frzs := fun b o u q => ?_, tbls := fun b ps q => ?_ }, fun b o q => ?_, rfl, q dx hnd dne⟩
  · by_cases hb : b = a
    · exact ⟨_, by rw [hb]; exact hx⟩
    · exact ⟨o, kp b o hb q⟩
  · rw [upd_ne (at_ne ea q exo_tup), upd_ne (ne_of_none q hnd)]; exact q
  · rw [upd_ne (at_ne ea q exo_frz), upd_ne (ne_of_none q hnd)]; exact q
  · exact ⟨#[], by rw [upd_ne (at_ne ea q exo_tbl), upd_ne (ne_of_none q hnd), q]; simp⟩
  · by_cases h1 : b = a
    · subst h1
      rw [upd_same] at q
      cases q
      exact exo_ok hx
    · rw [upd_ne h1] at q
      by_cases h2 : b = dx
      · subst h2
        rw [upd_same] at q
        cases q
        exact exd_ok hn (relO_put (fs := []) rv fun g => True.intro)
      · rw [upd_ne h2] at q
        refine (e0.hok b o q).stay (fun c v hc z => kp c v ?_ z) (fun c hc => by rw [upd_ne (at_ne ea hc exo_own), upd_ne (ne_of_none hc hnd)]; exact hc) (fun c xs hc => by rw [upd_ne (at_ne ea hc exo_tup), upd_ne (ne_of_none hc hnd)]; exact hc)
        rcases hc with hc | hc
        · rw [hc]; exact h1
        · exact at_ne ea hc exo_own
/-- C(e), C's own __init__ keeping sp; the exception's context is None -/
theorem pmk_oexN {X : Cx} {CX : CXT} {x : Str} {e : Expr} {es : List Expr} {ta : TA} {p pos : Pos} {C fI : Addr} {k : Nat} {fd : FuncData} {ps : List Str} {sp : Sp} {ds : List Value} {dvs : List V} (T : OexC X.K C) (iC : PySem.W.findIn X.K (.ref C) "__init__" = some (some (.ref fI))) (tI : PySem.W.typeIn X.K (.ref fI) = some (.type "function"))
    (F1 : FnOk X.prog X.w X.K X.mg X.base CX k fI fd ps sp) (hr : Room (k + 1) X.A) (hb : Binds X.K fd ps ds) (hd : Vals dvs ds) (hx : Passes CX X (fun _ _ _ => False)) (hg : Gl X x) (hm : X.mg x = some (.ref C)) (ha : PA X (e :: es) ta)
    (hdb : (x == ("__debug__" : Str)) = false) (he : starEach (e :: es) X.env = (false, eval e X.env) :: starEach es X.env) (hpl : (backTo pos (starEach es X.env)).any (·.1) = false) :
    L2N.PMk X (.Call (.Name x p) (e :: es) [] pos) (tMkO C sp dvs ta) := by
  intro pins s σ H Q I h
  obtain ⟨nm, q, N, bs, bm, sn, sub, ab, col, dd, k0, k1, k2, k3, k5, hC, hbm⟩ := T.cls
  refine wpAny_Call_Name_kw (ld_glob I hg hm ?_ hdb)
  refine PySem.W.callWith_K (h₀ := X.base) I.ok.mod.kin T.kC (thn (ha.run pos pins s σ H _ I h) fun us s1 ⟨vs, H1, I1, r1, hz, q1⟩ => ⟨I1.kIn, ?_⟩) he hpl
  show wpAny _ _ (call (.ref C) us) _ _ _
  obtain ⟨hp, g, dr, tk, os⟩ := s1
  have hsz : hp.objs.size ≤ hp.objs.size + 1 := Nat.le_succ _
  have hq := q1 (hp.objs.size + 1) (I1.hok.fresh hsz)
  have kk : ∀ b o, hp.get? b = some o → ((hp.push (PySem.W.kdv_tup us)).push (PySem.HandSPX.excO C hp.objs.size)).get? b = some o := fun b o e => Heap.get?_push_of_some _ (Heap.get?_push_of_some _ e)
  have hget : ((hp.push (PySem.W.kdv_tup us)).push (PySem.HandSPX.excO C hp.objs.size)).get? (hp.objs.size + 1) = some (PySem.HandSPX.excO C hp.objs.size) := by
    heap_get
  have I2 : Inv X pins σ (upd H1 (hp.objs.size + 1) (exo (hp.objs.size + 1) C none)) ⟨(hp.push (PySem.W.kdv_tup us)).push (PySem.HandSPX.excO C hp.objs.size), g, dr, tk, os⟩ := I1.laid (t' := tk) (a := hp.objs.size + 1) (o := exo (hp.objs.size + 1) C none) kk hsz (exo_ok hget)
  have r2 : Vals (V.ref (hp.objs.size + 1) :: (vs ++ dvs)) (Value.ref (hp.objs.size + 1) :: (us ++ ds)) := .cons rfl (r1.append hd)
  have hl : (Value.ref (hp.objs.size + 1) :: us ++ ds).length = ps.length := (r2.length.symm.trans (F1.len _ _ _ _ hq))
  have hus : us.length ≤ sizeLine := by
    rw [← Paired.length r1, sizeLine_eq]
    omega
  refine wpAny_call (PySem.HandSPX.call_own F.excBase_ValueError (fun Y => PySem.HandSPX.refsVE_contains Y bm hbm) (I1.kIn _ _ hC) (PySem.W.looks_findIn I1.kIn iC) (fun self => PySem.W.bind_fn I1.kIn self tI) hus (codeAny_mono (F1.run _ X.stack _ _ ⟨Value.ref (hp.objs.size + 1) :: us, []⟩ (Value.ref (hp.objs.size + 1) :: (us ++ ds)) _ _ (fun _ _ _ => False) (hr.make C us []) (I2.env0.make C us []) (hb _ (Value.ref (hp.objs.size + 1) :: us) I2.kIn hl) r2 hq) fun r s' hq' => ?_))
  match r, hq' with
  | .error er, hq' => exact hx pins σ _ _ er s' I2 hq'
  | .ok (.ret u), hq' =>
    obtain ⟨v, H2, os2, bare2, un2, hok2, rv, ev, d, fs, e1, e2, hd1, q2⟩ := hq'
    subst ev
    obtain ⟨h2, g2, d2, t2, os'⟩ := s'
    obtain ⟨t0, G, J, kG, ge, hoe, na⟩ := mk_end0 (d2 := d2) (t2 := t2) I1 hsz kk un2 hok2 os2 bare2 e1 e2 hd1
    exact ⟨rv, _, _, _, ⟨G, g2, d2, t2, os'⟩, _, .ref C, some d, rfl, J, kG, ge, hoe, ⟨rfl, rfl, fun vs z => by cases z; rfl⟩, rfl, rfl, na, rfl, bare2, raises_own T.exC T.tyC, q2⟩
/-- a class of such exceptions, made -/
theorem ex_make {X : Cx} {k : Nat} {x : Str} {C D f : Addr} {fd : FuncData} {body : List Stmt} {e : Expr} {te : TE} {p pos : Pos} (F : IniF X.prog X.K f D fd body) (gs : X.mg "super" = none) (Cc : IniC X.K C D)
    (iC : PySem.W.findIn X.K (.ref C) "__init__" = some (some (.ref f))) (tI : PySem.W.typeIn X.K (.ref f) = some (.type "function")) (hb : Binds X.K fd [("self" : Str), ("at" : Str)] []) (hr : Room (k + 1) X.A) (hx : Passes (L2N.CX X.prog X.w) X (fun _ _ _ => False)) (hg : Gl X x) (hm : X.mg x = some (.ref C))
    (he : PE X e te) (hdb : (x == ("__debug__" : Str)) = false) (h1 : starEach [e] X.env = (false, eval e X.env) :: starEach [] X.env) : 
    L2N.PMk X (.Call (.Name x p) [e] [] pos) fun σ H Q => te σ H fun v H1 => ∀ d, H1 d = none → Q (.ref C) (some d) (upd H1 d (.xd [("at", v)])) := by
  intro pins s σ H Q I h
  have he2 : PE X e fun σ H Q => ∃ Q0 : VK, te σ H Q0 ∧ ∀ v H1, Q0 v H1 → Q v H1 := ⟨fun pins s σ H Q I ⟨Q0, h0, m⟩ => thn (he.run pins s σ H Q0 I h0) fun u s1 ⟨v, H1, I1, r1, q1⟩ => ⟨v, H1, I1, r1, m v H1 q1⟩⟩
  refine pmk_oexN (k := k) (sp := spI X.K D) (dvs := []) (ta := tCons (fun σ H Q => ∃ Q0 : VK, te σ H Q0 ∧ ∀ v H1, Q0 v H1 → Q v H1) tNil) Cc.oex iC tI (ok_init (CX := L2N.CX X.prog X.w) (w := X.w) (mg := X.mg) (base := X.base) F gs) hr hb .nil hx hg hm (pa_cons he2 pa_nil h1) hdb h1 rfl pins s σ H Q I ?_
  refine ⟨_, h, fun v H1 q => ⟨by show 1 ≤ 1000; decide, fun a ha => ⟨a, C, v, rfl, Cc, upd_same, fun dx hdx dne => ⟨rfl, dx, [(("at" : Str), v)], upd_same, (upd_ne dne).trans upd_same, ?_, ?_⟩⟩⟩⟩
  · rwa [upd_ne dne] at hdx
  · rw [upd_ne dne] at hdx
    have : upd (del (upd (upd (upd H1 a (exo a C none)) dx (exd dx [(("at" : Str), v)])) a (exo a C (some dx))) a) dx (.xd [(("at" : Str), v)]) = upd H1 dx (.xd [(("at" : Str), v)]) := by
      funext b
      by_cases h2 : b = dx
      · rw [h2, upd_same, upd_same]
      · rw [upd_ne h2, upd_ne h2]
        by_cases h3 : b = a
        · rw [h3, del_same, ha]
        · rw [del_ne h3, upd_ne h3, upd_ne h2, upd_ne h3]
    rw [this]
    exact q dx hdx
end M

/-! MiniHk: the head's facts, own exceptions too. -/
namespace M
open PySem PySem.Spec PyProof.Rows L2 PySem.ExI
open He (Fa DefD AlD obsD valD SaysD frG asD frG_in ga ma ba eqO eqO_ok)
/-- where the errors' base class, its __init__ stand -/
def wD (K : PySem.W.Frag) : Addr := ga K "WheelError"
def wF (K : PySem.W.Frag) : Addr := ma K (wD K) "__init__"
abbrev IniW : Type := Option (Str × Str × Arguments × FuncBody × Scope × Addr × Addr)
def iniW (K : PySem.W.Frag) : IniW := match K.lookup (wF K) with
  | some ⟨_, _, .func fd, _⟩ => some (fd.name, fd.qualname, fd.params, fd.body, fd.scope, fd.globals, fd.builtins)
  | _ => none
def cloB (K : PySem.W.Frag) (D : Addr) : List (Str × Addr) → Bool
  | [(x, cc)] => decide (x = ("__class__" : Str)) && (match K.lookup cc with
    | some ⟨_, _, .cell (some (.ref D')), _⟩ => decide (D' = D)
    | _ => false)
  | _ => false
def fileB (K : PySem.W.Frag) (file : Str) : Value → Bool
  | .ref cda => (match K.lookup cda with
    | some ⟨_, _, .fields vs, _⟩ => (match (vs[2]? : Option Value) with
      | some (.str fl _) => file == fl
      | _ => false)
    | _ => false)
  | _ => false
def noneB : Value → Bool
  | .none => true
  | _ => false
def iniB (file : Str) (K : PySem.W.Frag) : Bool := (match K.lookup (wF K) with
    | some ⟨_, _, .func fd, _⟩ => cloB K (wD K) fd.closure && (PySem.W.codeIn K fd.code fd.qualname && (fileB K file fd.code && noneB fd.defaults))
    | _ => false) && (eqO (PySem.W.nsIn K cStatics "thirdparty.any") (some none) && ((PySem.W.clsIn K (wD K)).isSome && decide (PySem.W.typeIn K (.ref (wF K)) = some (.type "function"))))
def oexB (K : PySem.W.Frag) (C : Addr) : Bool := match K.lookup C with
  | some ⟨.type "type", _, .cls cd, sl⟩ => (match cd.mro, sl.toList with
    | .ref C' :: bm, [_, _, _, _, some (.builtin n), _] => decide (C' = C) && (decide (n = "ValueError.__new__") && (!cd.hasDel && (cd.hasDict && PySem.HandSPX.refsVE bm)))
    | _, _ => false)
  | _ => false
def exB (K : PySem.W.Frag) (x : Str) : Bool := oexB K (ga K x) && (eqO (PySem.W.findIn K (.ref (ga K x)) "__setattr__") (some (some (.builtin "object.__setattr__"))) && (decide (PySem.W.subIn K (.ref (ga K x)) (.type "BaseException") = some true) &&
  (decide (PySem.W.typeIn K (.ref (ga K x)) = some (.type "type")) && (PySem.W.keepIn K (.ref (ga K x)) && (eqO (PySem.W.ks_superIn K (ga K x) (wD K) "__init__") (some (some (.builtin "ValueError.__init__"))) &&
  (decide (PySem.W.subIn K (.ref (ga K x)) (.type "ValueError") = some true) && (decide (PySem.W.mroIn K (ga K x) (.ref (wD K)) = some true) && (eqO (PySem.W.findIn K (.ref (ga K x)) "at") (some none) && eqO (PySem.W.findIn K (.ref (ga K x)) "__init__") (some (some (.ref (wF K))))))))))))
theorem oexB_ok {K : PySem.W.Frag} {C : Addr} (q : oexB K C = true) : ∃ nm q N bs bm sn sub ab col dd k0 k1 k2 k3 k5, K.lookup C = some (excClassObj nm q C N bs bm true sn sub ab col dd k0 k1 k2 k3 k5 "ValueError.__new__") ∧ PySem.HandSPX.refsVE bm = true := by
  unfold oexB at q
  split at q
  · rename_i dd cd sl ho
    split at q
    · rename_i C' bm k0 k1 k2 k3 n k5 hm hs
      obtain ⟨q1, q⟩ := ba q
      obtain ⟨q2, q⟩ := ba q
      obtain ⟨q3, q⟩ := ba q
      obtain ⟨q4, q5⟩ := ba q
      have q1 := of_decide_eq_true q1
      have q2 := of_decide_eq_true q2
      subst q1 q2
      obtain ⟨nm, bs, mro, ns, qn, hd, sn, sub, ab, col, del⟩ := cd
      dsimp only at hm q3 q4
      subst hm
      rw [Bool.not_eq_true'] at q3
      subst q3 q4
      have hsl : sl = #[k0, k1, k2, k3, some (.builtin "ValueError.__new__"), k5] := by
        obtain ⟨l⟩ := sl
        simp only at hs
        rw [hs]
      subst hsl
      exact ⟨nm, qn, ns, bs, bm, sn, sub, ab, col, dd, k0, k1, k2, k3, k5, ho, q5⟩
    · cases q
  · cases q
theorem exB_ok {K : PySem.W.Frag} {x : Str} (q : exB K x = true) : IniC K (ga K x) (wD K) ∧ PySem.W.findIn K (.ref (ga K x)) "__init__" = some (some (.ref (wF K))) := by
  obtain ⟨q1, q⟩ := ba q
  obtain ⟨q2, q⟩ := ba q
  obtain ⟨q3, q⟩ := ba q
  obtain ⟨q4, q⟩ := ba q
  obtain ⟨q5, q⟩ := ba q
  obtain ⟨q6, q⟩ := ba q
  obtain ⟨q7, q⟩ := ba q
  obtain ⟨q8, q⟩ := ba q
  obtain ⟨q9, q⟩ := ba q
  exact ⟨⟨⟨oexB_ok q1, eqO_ok q2, of_decide_eq_true q3, of_decide_eq_true q4, q5⟩, eqO_ok q6, of_decide_eq_true q7, of_decide_eq_true q8, eqO_ok q9⟩, eqO_ok q⟩
/-! ### the Hook -/
abbrev AlM : Type := AlD × Bool × IniW
def obsM (fa : List Fa) (fn : List DefD) (file : Str) (xs : List Str) (ex : PySem.W.Frag → Bool) (K : PySem.W.Frag) : AlM := (obsD fa fn K, iniB file K && (xs.all (exB K) && ex K), iniW K)
def valM (fn : List DefD) (ini : DefD) : AlM := (valD fn, true, some (ini.name, ini.qual, ini.params, .stmts ini.body, ini.scope, mainGlobals, builtinsNs))
def SaysM (fa : List Fa) (fn : List DefD) (file : Str) (xs : List Str) (ex : PySem.W.Frag → Bool) (ini : DefD) (K : PySem.W.Frag) : Prop := obsM fa fn file xs ex K = valM fn ini
def obsMG (n : Nat) (fa : List Fa) (fn : List DefD) (file : Str) (xs : List Str) (ex : PySem.W.Frag → Bool) (g : Addr → Option Obj) : AlM := obsM fa fn file xs ex (frG g (cStatics :: asD g n))
def hookM (n : Nat) (fa : List Fa) (fn : List DefD) (file : Str) (xs : List Str) (ex : PySem.W.Frag → Bool) (ini : DefD) : PySem.W.Hook where
  α := AlM
  obs := fun s => obsMG n fa fn file xs ex s.heap.get?
  val := fun _ => valM fn ini
  says := fun _ h => ∃ K : PySem.W.Frag, K.In h ∧ SaysM fa fn file xs ex ini K
  of := fun _ _ e => ⟨_, frG_in, e⟩
  keeps := fun _ _ _ ⟨K, hK, c⟩ k => ⟨K, PySem.W.Frag.In.keeps hK k, c⟩
theorem obsMG_eq {n : Nat} {fa : List Fa} {fn : List DefD} {file : Str} {xs : List Str} {ex : PySem.W.Frag → Bool} {ini : DefD} {g : Addr → Option Obj} {s : Shared} (h : ∀ a, g a = s.heap.get? a) : obsMG n fa fn file xs ex g = (hookM n fa fn file xs ex ini).obs s := by
  have e : g = s.heap.get? := funext h
  rw [e] <;> rfl
theorem SaysM.d {fa : List Fa} {fn : List DefD} {file : Str} {xs : List Str} {ex : PySem.W.Frag → Bool} {ini : DefD} {K : PySem.W.Frag} (c : SaysM fa fn file xs ex ini K) : SaysD fa fn K := congrArg (fun z : AlM => z.1) c
theorem SaysM.exc {fa : List Fa} {fn : List DefD} {file : Str} {xs : List Str} {ex : PySem.W.Frag → Bool} {ini : DefD} {K : PySem.W.Frag} (c : SaysM fa fn file xs ex ini K) {x : Str} (h : x ∈ xs) : IniC K (ga K x) (wD K) ∧ PySem.W.findIn K (.ref (ga K x)) "__init__" = some (some (.ref (wF K))) := by
  have c1 := (ba (show (iniB file K && (xs.all (exB K) && ex K)) = true from congrArg (fun z : AlM => z.2.1) c)).2
  exact exB_ok (List.all_eq_true.mp (ba c1).1 x h)
theorem SaysM.ext {fa : List Fa} {fn : List DefD} {file : Str} {xs : List Str} {ex : PySem.W.Frag → Bool} {ini : DefD} {K : PySem.W.Frag} (c : SaysM fa fn file xs ex ini K) : ex K = true :=
  (ba (ba (show (iniB file K && (xs.all (exB K) && ex K)) = true from congrArg (fun z : AlM => z.2.1) c)).2).2
/-- the classes that an except clause, isinstance ask: x is y or below it -/
def subB (K : PySem.W.Frag) (q : Str × Str × Bool) : Bool := decide (PySem.W.exmOne K (.ref (ga K q.1)) (.ref (ga K q.2.1)) = some q.2.2) && decide (PySem.W.kitOne K (.ref (ga K q.1)) (.ref (ga K q.2.1)) = some q.2.2)
def isB (K : PySem.W.Frag) (x : Str) : Bool := PySem.W.keepIn K (.ref (ga K x)) && ((PySem.W.clsIn K (ga K x)).isSome && (xfB K (ga K x) && (decide (PySem.W.findIn K (.ref (ga K x)) "__class__" = some (some (.builtin "object.__class__"))) &&
  (decide (PySem.W.specialIn K (.builtin "object.__class__") "__get__" = some (some (.builtin "getset_descriptor.__get__"))) && (decide (PySem.W.takesIn K (.builtin "object.__class__") = some true) && decide (PySem.W.mroIn K (ga K x) (.type "object") = some true))))))
theorem isB_ok {K : PySem.W.Frag} {x : Str} (h : isB K x = true) : PySem.W.keepIn K (.ref (ga K x)) = true ∧ (PySem.W.clsIn K (ga K x)).isSome = true ∧ XfC K (ga K x) ∧ ExcC K (ga K x) := by
  obtain ⟨h1, h⟩ := ba h
  obtain ⟨h2, h⟩ := ba h
  obtain ⟨h3, h⟩ := ba h
  obtain ⟨h4, h⟩ := ba h
  obtain ⟨h5, h⟩ := ba h
  obtain ⟨h6, h7⟩ := ba h
  have X := xfB_ok h3
  exact ⟨h1, h2, X, X.ga, X.gg, X.exC, X.hdC, of_decide_eq_true h4, of_decide_eq_true h5, of_decide_eq_true h6, of_decide_eq_true h7⟩
/-- the errors' __init__ -/
theorem SaysM.ini {P : Program} {fa : List Fa} {fn : List DefD} {file : Str} {xs : List Str} {ex : PySem.W.Frag → Bool} {ini : DefD} {K : PySem.W.Frag} (c : SaysM fa fn file xs ex ini K) (hfile : (P.main.file : Str) = file) (htop : (P.main.scope.names.lookup ("super" : Str)).isSome = false)
    (shape : ∃ p0 p1 p2 p3 p4 p5 p6 p7 p8 p9, ini.body = [.Expr (.Call (.Attribute (.Call (.Name "super" p0) [] [] p1) "__init__" p2) [.Name "at" p3] [] p4) p5, .Assign [.Attribute (.Name "self" p6) "at" p7] (.Name "at" p8) p9] ∧ (p2.endLine == p4.line) = true)
    (kind : ini.scope.kind = .function) (co : ini.scope.isCoroutine = false) (gen : ini.scope.isGenerator = false) (s1 : ini.scope.names.lookup ("self" : Str) = some .local) (s2 : ini.scope.names.lookup ("at" : Str) = some .local)
    (s3 : ini.scope.names.lookup ("super" : Str) = some .globalImplicit) (s4 : ini.scope.names.lookup ("__class__" : Str) = some .free) (s5 : (ini.scope.names.all fun x => decide (x.2 ≠ .cell)) = true)
    (par : ∃ ar : Arg, (ini.params.posonlyargs ++ ini.params.args).head? = some ar ∧ ar.arg = "self") :
    ∃ fd : FuncData, IniF P K (wF K) (wD K) fd ini.body ∧ PySem.W.typeIn K (.ref (wF K)) = some (.type "function") ∧ fd.params = ini.params ∧ fd.defaults = .none := by
  have c1 := (ba (show (iniB file K && (xs.all (exB K) && ex K)) = true from congrArg (fun z : AlM => z.2.1) c)).1
  have c2 : iniW K = some (ini.name, ini.qual, ini.params, .stmts ini.body, ini.scope, mainGlobals, builtinsNs) := congrArg (fun z : AlM => z.2.2) c
  obtain ⟨d1, d2⟩ := ba c1
  obtain ⟨d3, d4⟩ := ba d2
  obtain ⟨d5, d6⟩ := ba d4
  unfold iniW at c2
  cases q : K.lookup (wF K) with
  | none => rw [q] at c2; cases c2
  | some o =>
    obtain ⟨oc, od, dt, osl⟩ := o
    rw [q] at c2 d1
    cases dt with
    | func fd =>
      simp only [Option.some.injEq, Prod.mk.injEq] at c2
      obtain ⟨h1, h2, h3, h4, h5, h6, h7⟩ := c2
      obtain ⟨e1, e2⟩ := ba d1
      obtain ⟨e3, e4⟩ := ba e2
      obtain ⟨e5, e6⟩ := ba e4
      refine ⟨fd, ⟨⟨oc, od, osl, q⟩, h4, shape, by rw [h5]; exact kind, by rw [h5]; exact co, by rw [h5]; exact gen, by rw [h5]; exact s1, by rw [h5]; exact s2, by rw [h5]; exact s3, by rw [h5]; exact s4, fun x hx => ?_, ?_, h6, h7, by rw [h3]; exact par, e3, ?_, htop, eqO_ok d3, Option.isSome_iff_exists.mp d5⟩, of_decide_eq_true d6, h3, ?_⟩
      · rw [h5] at hx
        exact of_decide_eq_true (List.all_eq_true.mp s5 x hx)
      · unfold cloB at e1
        split at e1
        · rename_i x cc hc
          obtain ⟨f1, f2⟩ := ba e1
          have f1 := of_decide_eq_true f1
          subst f1
          split at f2
          · rename_i cl cld D' csl hl
            have f2 := of_decide_eq_true f2
            subst f2
            exact ⟨cc, _, _, _, hc, hl⟩
          · cases f2
        · cases e1
      · unfold fileB at e5
        split at e5
        · rename_i cda hcd
          split at e5
          · rename_i vs _ hl
            split at e5
            · rename_i fl tf hv
              exact ⟨cda, _, _, vs, _, fl, tf, hcd, hl, hv, by rw [hfile]; exact e5⟩
            · cases e5
          · cases e5
        · cases e5
      · cases hd : fd.defaults with
        | none => rfl
        | _ => rw [hd] at e6; cases e6
    | _ => cases c2
end M

/-! MiniHo: iterators that end, tuples that are unpacked, within an except suite. -/
namespace PySem
namespace HoT
open PySem.W PySem.Calls PyProof.Rows L2 PySem.Builtin HotX
section
variable {prog : Program} {w : World} {A : Around} {E : Value → Shared → Prop} {s : Shared}
/-- StopIteration made and raised while x1 is handled, caught by next -/
theorem stop_hot {x1 : Addr} {α : Type} {Q' : α → Shared → Prop} (hot : HotAt A.in1 x1 s.heap)
    (h : ∀ h' e, (∀ b o, s.heap.get? b = some o → h'.get? b = some o) → (∃ oe, h'.get? e = some oe ∧ oe.cls = .type "StopIteration") → E (.ref e) { s with heap := h' }) :
    wpAny (model prog w) A.in1 ((do let e ← newExc (.type "StopIteration") []; raiseNew e) : Sem α) Q' E s := by
  refine wpAny_bind ?_
  simp only [newExc, newTuple]
  refine wpAny_bind (wpAny_newObj_type ?_ (by size_fits))
  refine wpAny_bind (m := firstArgMember _ _) (wpAny_of_eq (a := Value.none) (by first | rfl | (simp only [firstArgMember]; rfl)) ?_)
  refine wpAny_newObj_type ?_ (by size_fits)
  obtain ⟨hh, o1, vs1, h1, d1, c1⟩ := hot
  refine raiseNew_hot ⟨hh, o1, vs1, Heap.get?_push_of_some _ (Heap.get?_push_of_some _ h1), d1, c1⟩ (Nat.ne_of_lt (Heap.lt_size (Heap.get?_push_of_some _ h1))) (Heap.get?_push_size _ rfl) rfl (by first | (simp; done) | (simp; omega) | (simp only [Array.size_append]; simp; omega)) ?_
  refine h _ _ (fun b o e => ?_) ⟨_, Heap.get?_update_self _ (Heap.get?_push_size _ rfl) rfl, rfl⟩
  rw [Heap.get?_update_other _ _ (Nat.ne_of_gt (Heap.lt_size (Heap.get?_push_of_some _ e)))]
  exact Heap.get?_push_of_some _ (Heap.get?_push_of_some _ e)
theorem list_end_hot {it l x1 : Addr} {i : Nat} {items : Array Value} {Q : Option Value → Shared → Prop} (hot : HotAt A x1 s.heap) (hne : x1 ≠ it) (hit : s.heap.IsListIter it l i) (hl : s.heap.IsList l items) (hx : items[i]? = none)
    (hQ : ∀ h', Heap.ExtBut it s.heap h' → Q none { s with heap := h' }) : wpAny (model prog w) A (pyNext (.ref it)) Q E s := by
  obtain ⟨o, ho, hc, hd⟩ := id hit
  obtain ⟨ol, hol, _, nl, hdl⟩ := hl
  obtain ⟨hh, o1, vs1, h1, d1, c1⟩ := hot
  unfold pyNext
  refine wpAny_bind (wpAny_attempt (wpAny_callSpecial?_slot (name := Str.ofString "__next__") hit.typeIs slot_listiter_next
    (wpAny_call_entry slot_listiter_next hit.typeIs entry_listiter_next ?_ (args_listiter_next _))))
  show wpAny _ _ (field (.ref it) 0 >>= _) _ _ s
  refine wpAny_bind (wpAny_field ho hd (x := .ref l) rfl ?_)
  show wpAny _ _ (if (Value.ref l == Value.none) = true then _ else _) _ _ s
  rw [if_neg (show ¬ ((Value.ref l == Value.none) = true) from Bool.false_ne_true)]
  show wpAny _ _ (field (.ref it) 1 >>= _) _ _ s
  refine wpAny_bind (wpAny_field ho hd (x := .int i 0) rfl ?_)
  show wpAny _ _ (seqItems? (.ref l) >>= _) _ _ s
  refine wpAny_bind (wpAny_seqItems hol hdl ?_)
  simp only [Int.toNat_natCast, hx]
  refine wpAny_bind (wpAny_rule (wpAny_bind (wpAny_setField ho hd (by simp) ?_)))
  have h1' : (s.heap.update it (Obj.mapFields (·.setIfInBounds 0 Value.none))).get? x1 = some o1 := (Heap.get?_update_other _ _ (Ne.symm hne)).trans h1
  refine stop_hot (x1 := x1) ⟨hh, o1, vs1, h1', d1, c1⟩ fun h' e k ⟨oe, he, ce⟩ => ?_
  refine wpAny_bind (wpAny_isInstance (T := "StopIteration") (b := true) ⟨_, he, ce⟩ isSubtype_stop ?_)
  refine wpAny_pure (hQ _ fun b o hb e => ?_)
  exact k b o ((Heap.get?_update_other _ _ (Ne.symm hb)).trans e)
theorem tuple_end_hot {it t x1 : Addr} {i : Nat} {items : Array Value} {Q : Option Value → Shared → Prop} (hot : HotAt A x1 s.heap) (hne : x1 ≠ it) (hit : IsTupIter s.heap it t i) (ht : IsTup s.heap t items) (hx : items[i]? = none)
    (hQ : ∀ h', Heap.ExtBut it s.heap h' → Q none { s with heap := h' }) : wpAny (model prog w) A (pyNext (.ref it)) Q E s := by
  obtain ⟨o, ho, hc, hd⟩ := id hit
  obtain ⟨ol, hol, _, nl, hdl⟩ := id ht
  obtain ⟨hh, o1, vs1, h1, d1, c1⟩ := hot
  have hty : s.TypeIs (.ref it) "tuple_iterator" := ⟨o, ho, hc⟩
  unfold pyNext
  refine wpAny_bind (wpAny_attempt (wpAny_callSpecial?_slot (name := Str.ofString "__next__") hty F.slot_tuple_iterator_next
    (wpAny_call_entry F.slot_tuple_iterator_next hty F.entry_tuple_iterator_next ?_ (F.args_tuple_iterator_next_1 _))))
  show wpAny _ _ (field (.ref it) 0 >>= _) _ _ s
  refine wpAny_bind (wpAny_field ho hd (x := .ref t) rfl ?_)
  show wpAny _ _ (if (Value.ref t == Value.none) = true then _ else _) _ _ s
  rw [if_neg (show ¬ ((Value.ref t == Value.none) = true) from Bool.false_ne_true)]
  show wpAny _ _ (field (.ref it) 1 >>= _) _ _ s
  refine wpAny_bind (wpAny_field ho hd (x := .int i 0) rfl ?_)
  show wpAny _ _ (seqItems? (.ref t) >>= _) _ _ s
  refine wpAny_bind (wpAny_seqItems hol hdl ?_)
  simp only [Int.toNat_natCast, hx]
  refine wpAny_bind (wpAny_rule (wpAny_bind (wpAny_setField ho hd (by simp) ?_)))
  have h1' : (s.heap.update it (Obj.mapFields (·.setIfInBounds 0 Value.none))).get? x1 = some o1 := (Heap.get?_update_other _ _ (Ne.symm hne)).trans h1
  refine stop_hot (x1 := x1) ⟨hh, o1, vs1, h1', d1, c1⟩ fun h' e k ⟨oe, he, ce⟩ => ?_
  refine wpAny_bind (wpAny_isInstance (T := "StopIteration") (b := true) ⟨_, he, ce⟩ isSubtype_stop ?_)
  refine wpAny_pure (hQ _ fun b o hb e => ?_)
  exact k b o ((Heap.get?_update_other _ _ (Ne.symm hb)).trans e)
theorem unpack_hot {t x1 : Addr} {items : Array Value} {targets : List (Bool × (Value → Sem Unit))} {Q : Unit → Shared → Prop} (hot : HotAt A x1 s.heap) (ht : IsTup s.heap t items)
    (hn : targets.length = items.size) (hstar : targets.findIdx? (·.1) = none)
    (h : ∀ h', Heap.ExtBut s.heap.objs.size s.heap h' → wpAny (model prog w) A (assignInOrder (targets.map (·.2)) items.toList) Q E { s with heap := h' }) :
    wpAny (model prog w) A (unpack (.ref t) targets) Q E s := by
  have hlt : t ≠ s.heap.objs.size := by obtain ⟨o, ho, _⟩ := ht; exact Nat.ne_of_lt (Heap.lt_size ho)
  obtain ⟨hh, o1, vs1, h1, d1, c1⟩ := hot
  have hlx : x1 ≠ s.heap.objs.size := Nat.ne_of_lt (Heap.lt_size h1)
  unfold unpack
  rw [hn, hstar]
  refine wpAny_bind (wpAny_holding ?_)
  unfold unpackItems
  refine wpAny_bind ?_
  unfold notIterableAtAll
  refine wpAny_bind (wpAny_specialOf ht.typeIs slot_tuple_iter.lookup ?_)
  refine wpAny_pure ?_
  simp only [Bool.false_eq_true, if_false]
  refine wpAny_bind (wpAny_holding (iter_tuple ht ?_))
  refine wpAny_bind (wpAny_holding (draw_tuple hlt items.size 0 _ _ ⟨_, Heap.get?_push_size _ rfl, rfl, rfl⟩ (ht.push _) (by omega) fun h₁ hit₁ hs₁ => ?_))
  have hall : List.take items.size (List.drop 0 items.toList) = items.toList := by
    rw [List.drop_zero]
    exact List.take_of_length_le (by simp)
  rw [hall, if_neg (by simp)]
  have ht₁ : IsTup h₁ t items := (ht.push _).extBut hs₁.extBut hlt
  have hx1 : h₁.get? x1 = some o1 := hs₁.extBut x1 o1 hlx (Heap.get?_push_of_some _ h1)
  refine wpAny_bind (wpAny_holding (tuple_end_hot (x1 := x1) ⟨hh, o1, vs1, hx1, d1, c1⟩ hlx hit₁ ht₁ (by simp) fun h₂ he₂ => ?_))
  simp only [Option.isSome_none, Bool.false_eq_true, if_false]
  exact wpAny_pure (h h₂ fun b o hb e => he₂ b o hb (hs₁.extBut b o hb (Heap.get?_push_of_some _ e)))
end
end HoT
end PySem
namespace M
open PySem PySem.Spec PyProof.Rows L2 HotX L2H PySem.HoT
section
variable {X : Cx} {pos : Pos}
theorem pg_tupH {es : List Expr} {k : Nat} {t : TGs} {n : Nat} (hc : HotC X) (h : PGs X es t)
    (hn : (assignEach es X.env).length = n := by rfl) (hst : (assignEach es X.env).findIdx? (·.1) = none := by rfl) : PG X (.Tuple es k pos) (gTup X.K n t) := by
  refine ⟨fun pins s σ H v u Q I r hw => ?_⟩
  obtain ⟨a, xs, e1, hq, hl, hw⟩ := hw
  subst e1
  cases r
  obtain ⟨its, rv, ht, hz⟩ := I.tuple hq
  obtain ⟨x1, hot⟩ := hc.at I
  rw [assign_Tuple]
  refine wpAny_bind (wpAny_standAt (unpack_hot hot ht (by simp [hn, ← hl, rv.length]) hst fun h' hx => ?_))
  have I1 : Inv X pins σ H { s with heap := h' } := I.kept (t' := s.toks) fun b o e => hx b o (Nat.ne_of_lt (Heap.lt_size e)) e
  exact h.run pins _ σ H xs _ Q I1 (by simpa using rv) hw
end
end M

/-! MiniHp: a list comprehension within an except suite. -/
namespace M
open PySem PySem.Spec PyProof.Rows L2 HotX L2H PySem.HoT
theorem turn_listH {P : Program} {w : World} {K : PySem.W.Frag} {tg : Expr} (a it : Addr) : TurnH P w K tg (Itl K a) [it] it (fun i h => h.IsListIter it a i) where
  mem := by simp
  obj := (turn_list (P := P) (w := w) (K := K) (tg := tg) a it).obj
  keep := (turn_list (P := P) (w := w) (K := K) (tg := tg) a it).keep
  item := by
    intro X hP hw hK hc i pins s σ H E I hf st hg
    subst hP hw hK
    obtain ⟨xs, x, hq, hx⟩ := hg
    obtain ⟨its, rv, p, hz⟩ := I.list hq
    obtain ⟨u, hu, ru⟩ := rv.get hx
    obtain ⟨f0, f1, f2, f3, f4, f5⟩ := hf it (by simp)
    refine wpAny_pyNext_list_item st p.isList (x := u) (by simpa using hu) fun h' st' sb => ?_
    have I1 : Inv X pins σ H { s with heap := h' } := I.turned (t' := s.toks) (fun b o hb e => (sb.2 b hb).trans e) f0 f1 f3 f4 f5
    obtain ⟨o, e, c, d⟩ := id st'
    exact ⟨u, rfl, go_of (s := { s with heap := h' }) e c d (by decide) ⟨x, H, I1, ru, ⟨rfl, fun ys hy => by rw [I.list_inj hy hq]; exact hx⟩, st', fun b hb => (hf b hb).1⟩⟩
  done := by
    intro X hP hw hK hc i pins s σ H E I hf st hg
    subst hP hw hK
    obtain ⟨xs, hq, hx⟩ := hg
    obtain ⟨its, rv, p, hz⟩ := I.list hq
    obtain ⟨f0, f1, f2, f3, f4, f5⟩ := hf it (by simp)
    have hl := rv.length
    obtain ⟨q, ⟨hh, v1, e1, c1⟩, hp⟩ := hc
    refine list_end_hot (x1 := q.1) ⟨hh, q.2, v1, (I.pin q (List.mem_append_left _ hp)).1, e1, c1⟩ (f5 q (List.mem_append_left _ hp)) st p.isList (by simp; omega) fun h' eb => ⟨rfl, I.turned (t' := s.toks) (fun b o hb e => eb b o hb e) f0 f1 f3 f4 f5⟩
  self := (turn_list (P := P) (w := w) (K := K) (tg := tg) a it).self
theorem pi_listH {X : Cx} {tg l : Expr} {tl : TE} (hl : PE X l tl) : PIH X tg l (iList X.K tl) := by
  refine ⟨fun pins s σ H R I h => ?_⟩
  refine thn (hl.run pins s σ H _ I h) fun v s1 ⟨x, H1, I1, r1, a, e, ⟨xs, hq⟩, q⟩ => ?_
  subst e
  cases r1
  obtain ⟨its, rv, p, hz⟩ := I1.list hq
  refine wpAny_pyIter_list p.isList ?_
  refine ⟨s1.heap.objs.size, [s1.heap.objs.size], _, _, H1, rfl, I1.kept (t' := s1.toks) fun b o e => Heap.get?_push_of_some _ e, turn_listH a _, ⟨_, Heap.get?_push_size _ rfl, rfl, rfl⟩, fun b hb => ?_, q⟩
  have e : b = s1.heap.objs.size := by simpa using hb
  subst e
  exact I1.fpOk (Nat.le_refl _) (I1.hok.fresh (Nat.le_refl _))
/-- a comprehension's block that knows the handled exception -/
abbrev blkH (X : Cx) (s : Shared) (H : Hp) (scope : Scope) (cenv : Env) (fp : List Addr) : Cx := { X.blk s H scope cenv fp with pn := X.pn }
theorem hot_blk {X : Cx} (hc : HotC X) {s : Shared} {H : Hp} {scope : Scope} {cenv : Env} {fp : List Addr} : HotC (blkH X s H scope cenv fp) := hc
theorem blk_pn {X : Cx} {pins : List (Addr × Obj)} {σ τ : L2.St} {H H0 : Hp} {s s0 s1 : Shared} {scope : Scope} {cenv : Env} {fp : List Addr} (I : Inv (X.blk s H0 scope cenv fp) [] σ H s1) (J : Inv X pins τ H s0) (hl : s0.heap.objs.size ≤ cenv.locals) (k : ∀ b o, s0.heap.get? b = some o → s1.heap.get? b = some o) :
    Inv (blkH X s H0 scope cenv fp) [] σ H s1 := by
  refine ⟨⟨I.ok.mod, I.ok.kind, I.ok.glob, I.ok.blt, I.ok.above, I.ok.inj, I.ok.has, I.ok.cab, I.ok.hd, I.ok.frames, I.ok.stk, I.ok.exf, I.ok.bs, I.ok.bsz, I.ok.noex, I.ok.exfs, I.ok.funs, I.ok.frf⟩, I.os, I.bare, I.base, I.loc, I.cell, I.free, I.freeC, fun p hp => ?_, I.hok, I.len⟩
  have hp' : p ∈ X.pn := (List.mem_append.mp hp).elim id fun z => by cases z
  obtain ⟨h1, h2, h3, h4, h5⟩ := J.pin p (List.mem_append_left _ hp')
  refine ⟨k _ _ h1, h2, Nat.ne_of_lt (Nat.lt_of_lt_of_le (Heap.lt_size h1) hl), ?_, h5⟩
  show p.1 ∉ frs X.stack
  rcases J.ok.stk with e | ⟨e, ef⟩
  · rw [e]; exact h4
  · rw [e]
    unfold frs
    rw [List.filterMap_cons, ef]
    intro z
    rcases List.mem_cons.mp z with z | z
    · exact h3 z
    · exact h4 z
theorem pe_lcH {X : Cx} {elt tg iter : Expr} {ifs : List Expr} {scope : Scope} {own : List (Str × Nat)} {pos : Pos} {wi : TI} {g : TG} {tt : TT} {te : TE} (hc : HotC X) (hN : X.N.Nodup) (hi : PIH X tg iter wi) (ok : BlkOk X.N X.env.scope scope own)
    (hg : ∀ (s : Shared) (H : Hp) (C : Addr) (cl : List (Str × Addr)) (fp : List Addr), PG (blkH X s H scope (compEnvC scope cl C X.env) fp) tg g) (ht : ∀ (s : Shared) (H : Hp) (C : Addr) (cl : List (Str × Addr)) (fp : List Addr), PTs (blkH X s H scope (compEnvC scope cl C X.env) fp) ifs tt)
    (he : ∀ (s : Shared) (H : Hp) (C : Addr) (cl : List (Str × Addr)) (fp : List Addr), PE (blkH X s H scope (compEnvC scope cl C X.env) fp) elt te) (hs : ∀ x, foldedSetIterable iter X.env x = pure x) :
    PE X (.ListComp elt [⟨tg, iter, ifs, 0⟩] scope pos) (tLc wi g tt te (own.map (·.2))) := by
  refine ⟨fun pins s σ H Q I h => ?_⟩
  rw [eval_ListComp]
  have hfree : ∀ y ∈ scope.names, y.2 = .free → ∃ c, X.env.cells.lookup y.1 = some c := fun y hy e => (ok.free y hy e).elim (fun k => I.ok.has _ (.inl k)) fun k => I.ok.has _ (.inr k)
  refine wpAny_comprehension_free (use := none) rfl hs (closure_ok hfree) ok.kind (fun y hy e => by rw [ok.uniq y hy, e]) (thn (hi.run pins s σ H _ I h) fun xv s1 hx => thn hx fun itv s2 ⟨it, fp, tn, J, H2, ei, I2, T, st2, f2, q⟩ => ?_)
  subst ei
  refine wpAny_newObj_type (newEnv_comp ?_) (by show 0 ≤ sizeLine; decide)
  obtain ⟨D, hD⟩ : ∃ D, s2.heap.objs.size = D := ⟨_, rfl⟩
  rw [hD]
  have nD : H2 D = none := by rw [← hD]; exact I2.hok.fresh (Nat.le_refl _)
  obtain ⟨W, ⟨m0, w0⟩, turn⟩ := q D nD
  generalize hs3 : ({ s2 with heap := s2.heap.push { cls := .type "list", data := .seq ([] : List Value).toArray } } : Shared) = s3
  have h3 : s3.heap = s2.heap.push { cls := .type "list", data := .seq ([] : List Value).toArray } := by rw [← hs3]
  have I3 : Inv X pins σ (upd H2 D (.lst [])) s3 := by
    rw [← hs3]
    refine I2.laid (t' := s2.toks) (fun b o e => Heap.get?_push_of_some _ e) (Nat.le_of_eq hD) ⟨Nat.zero_le _, [], 0, .nil, ?_⟩
    rw [← hD]
    exact Heap.get?_push_size _ rfl
  have st3 : tn 0 s3.heap := T.keep _ _ _ st2 fun b _ o e => by rw [h3]; exact Heap.get?_push_of_some _ e
  have f3 : ∀ b ∈ fp, FpOk X pins (upd H2 D (.lst [])) b ∧ b < s3.heap.objs.size := fun b hb => by
    obtain ⟨o, e, _⟩ := T.obj _ _ st2 b hb
    have hlt := Heap.lt_size e
    exact ⟨⟨by rw [upd_ne (by rw [← hD]; exact Nat.ne_of_lt hlt)]; exact (f2 b hb).1, (f2 b hb).2⟩, by rw [h3, Heap.size_push]; exact Nat.lt_succ_of_lt hlt⟩
  have kp : ∀ b o, s3.heap.get? b = some o → (pushCells (s3.heap.push { cls := .type "dict", data := .dict #[] }) scope.names).get? b = some o := fun b o e => pushCells_keeps _ _ _ _ (Heap.get?_push_of_some _ e)
  have I4 := blk_pn (block_start I3 ok hN f3) I3 (Nat.le_refl _) kp
  have st4 : tn 0 (pushCells (s3.heap.push { cls := .type "dict", data := .dict #[] }) scope.names) := T.keep _ _ _ st3 fun b _ o e => kp b o e
  have pg := hg s3 (upd H2 D (.lst [])) s3.heap.objs.size (cellsFrom (s3.heap.objs.size + 1) scope.names (cloFrom X.env.cells scope.names [])) fp
  have pt := ht s3 (upd H2 D (.lst [])) s3.heap.objs.size (cellsFrom (s3.heap.objs.size + 1) scope.names (cloFrom X.env.cells scope.names [])) fp
  have pe := he s3 (upd H2 D (.lst [])) s3.heap.objs.size (cellsFrom (s3.heap.objs.size + 1) scope.names (cloFrom X.env.cells scope.names [])) fp
  have hcb := hot_blk (X := X) hc (s := s3) (H := upd H2 D (.lst [])) (scope := scope) (cenv := compEnvC scope (cellsFrom (s3.heap.objs.size + 1) scope.names (cloFrom X.env.cells scope.names [])) s3.heap.objs.size X.env) (fp := fp)
  show codeAny _ _ (.compStart (.ListComp elt [⟨tg, iter, ifs, 0⟩] scope pos) 0 (.ref it) (.ref D) (compEnvC scope (cellsFrom (s3.heap.objs.size + 1) scope.names (cloFrom X.env.cells scope.names [])) s3.heap.objs.size X.env)) (compPost (model X.prog X.w) X.A X.xe none (EP X pins σ Q) (.ref D) s3.heap.objs.size) { s3 with heap := pushCells (s3.heap.push { cls := .type "dict", data := .dict #[] }) scope.names }
  obtain ⟨ce, hce⟩ : ∃ ce, compEnvC scope (cellsFrom (s3.heap.objs.size + 1) scope.names (cloFrom X.env.cells scope.names [])) s3.heap.objs.size X.env = ce := ⟨_, rfl⟩
  have cL : ce.locals = s3.heap.objs.size := by rw [← hce]; rfl
  rw [hce] at I4 pg pt pe hcb ⊢
  have nfp : ∀ b ∈ fp, (upd H2 D (.lst [])) b = none := fun b hb => (f3 b hb).1.1
  have stat : ∀ {σ' : L2.St} {H' : Hp} {s' : Shared}, Inv (blkH X s3 (upd H2 D (.lst [])) scope ce fp) [] σ' H' s' → (∀ b ∈ fp, H' b = none) → ∀ b ∈ fp, FpOk (blkH X s3 (upd H2 D (.lst [])) scope ce fp) [] H' b := fun {σ' H' s'} I' hn b hb =>
    ⟨hn b hb, (I'.ok.exf b hb).1, I'.ok.exfs b hb, .inl hb, fun x c e => (I'.ok.exf b hb).2 x c e, fun p hp => (f3 b hb).1.2.2.2.2.2 p ((List.mem_append.mp hp).elim (fun z => List.mem_append_left _ z) fun z => by cases z)⟩
  have loop : codeAny (model X.prog X.w) X.A (.compLoop (.ListComp elt [⟨tg, iter, ifs, 0⟩] scope pos) 0 (.ref it) (.ref D) ce) (compPost (model X.prog X.w) X.A X.xe none (EP X pins σ Q) (.ref D) s3.heap.objs.size) { s3 with heap := pushCells (s3.heap.push { cls := .type "dict", data := .dict #[] }) scope.names } := by
    refine compLoop_any (fun n s' => ∃ i H', Inv (blkH X s3 (upd H2 D (.lst [])) scope ce fp) [] (wipe σ (own.map (·.2))) H' s' ∧ tn i s'.heap ∧ (∀ b ∈ fp, H' b = none) ∧ W i n H') ?_ m0 ⟨0, _, I4, st4, nfp, w0⟩
    rintro n s5 ⟨i, H5, I5, st5, n5, w5⟩
    rcases turn i n H5 w5 with ⟨stop, qq⟩ | ⟨go, Nx, hNx, step⟩
    · refine thnF (T.done (blkH X s3 (upd H2 D (.lst [])) scope ce fp) rfl rfl rfl hcb i [] s5 _ H5 (fun _ _ => False) I5 (stat I5 n5) st5 stop) fun r s6 ⟨hr, I6⟩ => ?_
      subst hr
      have I7 : Inv X pins σ H5 s6 := I3.call' (ch := fp) I6.os I6.base I6.hok I6.bare fun b hb => ⟨(f3 b hb).1.2.2.2.1, (f3 b hb).1.2.1, (f3 b hb).1.2.2.2.2.1, (f3 b hb).1.2.2.2.2.2⟩
      have nC : H5 s3.heap.objs.size = none := by
        have z : H5 ce.locals = none := I6.free
        rwa [cL] at z
      obtain ⟨m, hn, _⟩ := I6.loc
      have hn : s6.heap.Ns ce.locals m := hn
      rw [cL] at hn
      refine ⟨m, hn, fun h'' sb => ?_⟩
      obtain ⟨g0, g1, g2, g3, g4, g5⟩ := I3.fpOk (H' := H5) (Nat.le_refl _) nC
      exact ⟨.ref D, H5, I7.turned (t' := s6.toks) (fun b o hb e => (sb.2 b hb).trans e) g0 g1 g3 g4 g5, rfl, qq⟩
    · refine thnF (T.item (blkH X s3 (upd H2 D (.lst [])) scope ce fp) rfl rfl rfl hcb i [] s5 _ H5 (fun _ _ => False) I5 (stat I5 n5) st5 go) fun r s6 ⟨u, hr, h6⟩ => ?_
      subst hr
      refine thnF h6 fun _ s7 ⟨x, H7, I7, r7, y7, st7, n7⟩ => ?_
      have I7' := I7.pinned (stat I7 n7) (T.obj _ _ st7)
      refine thnF (pg.run _ s7 _ H7 x u _ I7' r7 (step x H7 y7)) fun _ s8 ⟨σ8, H8, I8, hw8, q8⟩ => ?_
      refine thnF (pt.run _ s8 σ8 H8 _ I8 q8) fun b s9 ⟨H9, I9, q9⟩ => ?_
      have fin : ∀ {s' : Shared} {H' : Hp}, Inv (blkH X s3 (upd H2 D (.lst [])) scope ce fp) ([] ++ pinsAt fp s7.heap) σ8 H' s' → Nx H' → ∃ m, m < n ∧ ∃ i H', Inv (blkH X s3 (upd H2 D (.lst [])) scope ce fp) [] (wipe σ (own.map (·.2))) H' s' ∧ tn i s'.heap ∧ (∀ b ∈ fp, H' b = none) ∧ W i m H' := fun {s' H'} I' nx => by
        obtain ⟨m', hm, w'⟩ := hNx H' nx
        have pin' : ∀ b ∈ fp, ∀ o, s7.heap.get? b = some o → s'.heap.get? b = some o ∧ H' b = none := fun b hb o e =>
          let z := I'.pin (b, o) (List.mem_append_right _ (List.mem_append_right _ (mem_pinsAt hb e)))
          ⟨z.1, z.2.1⟩
        have hl : (wipe σ (own.map (·.2))).length = σ8.length := by rw [← hw8, wipe_length]
        refine ⟨m', hm, i + 1, H', (I'.unpinned (pins := [])).weak hl (fun j v e => ?_), T.keep _ _ _ st7 fun b hb o e => (pin' b hb o e).1, fun b hb => ?_, w'⟩
        · rw [← hw8] at e
          exact (wipe_some e).1
        · obtain ⟨o, e, _⟩ := T.obj _ _ st7 b hb
          exact (pin' b hb o e).2
      cases b with
      | false =>
        simp only [Bool.false_eq_true, if_false] at q9 ⊢
        exact fin I9 q9
      | true =>
        simp only [if_true] at q9 ⊢
        refine thnF (pe.run _ s9 σ8 H9 _ I9 q9) fun z s10 ⟨yv, H10, I10, r10, acc, hD10, hz10, nx⟩ => ?_
        exact app_ok (X := blkH X s3 (upd H2 D (.lst [])) scope ce fp) I10 hD10 hz10 r10 fun s11 I11 => fin I11 nx
  exact codeAny_compStart_list loop (T.self X.A 0 _ _ _ st4 loop)
end M

/-! MiniHq: isinstance of a caught error that has its dict. -/
namespace M
open PySem PySem.Spec PyProof.Rows L2 HotX L2H PySem.HoT
/-- isinstance(e, x), e the exception that the suite holds (of the class at D, its dict at dd) -/
def rIsD (K : PySem.W.Frag) (D a dd : Addr) : List V → Hp → VK → Prop := fun xs H Q => ∃ (C : Addr) (b : Bool) (fs : List (Str × V)), xs = [.ref a, .ref C] ∧ H dd = some (.xd fs) ∧ PySem.W.kitOne K (.ref D) (.ref C) = some b ∧ Q (.bl b) H
theorem call_isD {X : Cx} {a D dd : Addr} {oe : Obj} {pn : List (Addr × Obj)} (C : ExcC X.K D) (hcl : (PySem.W.clsIn X.K D).isSome = true) (hz : Zc (.ref D) (some dd) oe) (hf : ∃ vs, oe.data = .fields vs) : CallR (X.suite a ((a, oe) :: pn)) (.builtin "isinstance") (rIsD X.K D a dd) := by
  intro pins s σ H xs us Q I r h
  obtain ⟨c, b, fs, rfl, hdd, e, q⟩ := h
  cases r with
  | cons rx rr =>
    cases rr with
    | cons rt rr =>
      cases rr
      cases rx
      cases rt
      obtain ⟨hget, _⟩ := I.pin (a, oe) (List.mem_append.mpr (.inl List.mem_cons_self))
      obtain ⟨vs, hv⟩ := hf
      have hx : ObjOk X.prog X.w H s.heap dd (.xd fs) := I.hok dd _ hdd
      obtain ⟨mA, hns, hr⟩ := hx
      obtain ⟨od, ho, hl⟩ := lookIn_ns hns
      have J : PySem.W.InstAt s.heap a oe D (some od) := ⟨hget, hz.1, by unfold PySem.W.notCls; rw [hv] <;> rfl, by rw [hz.2]; exact ho⟩
      exact PySem.W.kia_one (PySem.W.kitx_exc hcl C.hg C.hk C.hs C.ha C.hn C.ht C.hm) I.kIn J e (fun z => nomatch z) fun tk => ⟨.bl b, H, I.kept (t' := tk) fun _ _ z => z, rfl, q⟩
end M

/-! MiniHr: the suite of an except clause that tells the error's classes. -/
namespace M
open PySem PySem.Spec PyProof.Rows L2 HotX L2H PySem.HoT
/-- pairs (text, truth) as they stand -/
inductive Prs (H : Hp) : List V → List (Str × Bool) → Prop
  | nil : Prs H [] []
  | cons {q : Addr} {vs : List V} {s : Str} {b : Bool} {ps : List (Str × Bool)} : H q = some (.tup [.str s, .bl b]) → Prs H vs ps → Prs H (.ref q :: vs) ((s, b) :: ps)
theorem Prs.keep {H H' : Hp} (s : Same H H') : ∀ {vs : List V} {ps : List (Str × Bool)}, Prs H vs ps → Prs H' vs ps
  | _, _, .nil => .nil
  | _, _, .cons h r => .cons (s _ _ h) (r.keep s)
theorem Prs.length {H : Hp} : ∀ {vs : List V} {ps : List (Str × Bool)}, Prs H vs ps → vs.length = ps.length
  | _, _, .nil => rfl
  | _, _, .cons _ r => congrArg (· + 1) r.length
theorem Prs.get {H : Hp} : ∀ {vs : List V} {ps : List (Str × Bool)} {i : Nat} {p : Str × Bool}, Prs H vs ps → ps[i]? = some p → ∃ q, vs[i]? = some (.ref q) ∧ H q = some (.tup [.str p.1, .bl p.2])
  | _, _, _, _, .nil, e => by simp at e
  | _, _, 0, _, .cons h _, e => by
    rw [List.getElem?_cons_zero] at e
    cases e
    exact ⟨_, rfl, h⟩
  | _, _, i + 1, _, .cons _ r, e => r.get (i := i) (by rwa [List.getElem?_cons_succ] at e)
def pick (ps : List (Str × Bool)) : List Str := (ps.filter (·.2)).map (·.1)
theorem lc_names {K : PySem.W.Frag} {n i j : Nat} {own : List Nat} {σ : L2.St} {H : Hp} {L : Addr} {vs : List V} {ps : List (Str × Bool)} (hn : σ[n]? = some (some (.ref L))) (hL : H L = some (.lst vs)) (hp : Prs H vs ps) (hij : i ≠ j) (hi : i ∈ own) (hj : j ∈ own) (li : i < σ.length) (lj : j < σ.length)
    (hz : ps.length ≤ sizeLine) {Q : VK} (q : ∀ p H', Same H H' → H' p = some (.lst ((pick ps).map V.str)) → Q (.ref p) H') :
    tLc (iList K (tVar n)) (gTup K 2 (gCons (gName i) (gCons (gName j) gNil))) (tTru K (tVar j)) (tVar i) own σ H Q := by
  refine ⟨_, hn, L, rfl, ⟨vs, .inl (.inl hL)⟩, fun Dl hD => ?_⟩
  refine ⟨fun k m H' => m = ps.length - k ∧ k ≤ ps.length ∧ Same H H' ∧ H' Dl = some (.lst ((pick (ps.take k)).map V.str)), ⟨ps.length - 0, rfl, Nat.zero_le _, same_upd hD, upd_at⟩, ?_⟩
  rintro k m H' ⟨rfl, hk, hs, hd⟩
  have hL' := hs _ _ hL
  by_cases c : k < ps.length
  · refine .inr ⟨?_, fun H5 => ∃ m', m' < ps.length - k ∧ (m' = ps.length - (k + 1) ∧ k + 1 ≤ ps.length ∧ Same H H5 ∧ H5 Dl = some (.lst ((pick (ps.take (k + 1))).map V.str))), fun _ z => z, fun x H2 hy => ?_⟩
    · have c' : k < vs.length := by rw [hp.length]; exact c
      exact ⟨vs, vs[k], .inl (.inl hL'), List.getElem?_eq_getElem c'⟩
    · obtain ⟨rfl, hy⟩ := hy
      obtain ⟨q1, e1, e2⟩ := hp.get (List.getElem?_eq_getElem c)
      have ex := hy vs (.inl (.inl hL'))
      rw [e1] at ex
      cases ex
      refine ⟨q1, [.str ps[k].1, .bl ps[k].2], rfl, .inl (.inl (hs _ _ e2)), rfl, .str ps[k].1, [.bl ps[k].2], rfl, ?_⟩
      show gCons (gName j) gNil [.bl ps[k].2] ((wipe σ own).set i (some (.str ps[k].1))) H2 _
      refine ⟨.bl ps[k].2, [], rfl, ?_⟩
      unfold gName
      refine ⟨rfl, ?_, ?_⟩
      · rw [wipe_set hj, wipe_set hi, wipe_wipe]
      · have lw : ∀ l, (wipe σ l).length = σ.length := fun l => wipe_length σ l
        refine ⟨.bl ps[k].2, ?_, ps[k].2, rfl, ?_⟩
        · rw [List.getElem?_set, if_pos rfl, if_pos (by rw [List.length_set, lw]; exact lj)]
        · have et : pick (ps.take (k + 1)) = pick (ps.take k) ++ (if ps[k].2 = true then [ps[k].1] else []) := by
            unfold pick
            rw [List.take_succ, List.getElem?_eq_getElem c, Option.toList_some, List.filter_append, List.map_append]
            congr 1
            cases hb : ps[k].2 <;> simp [hb]
          dsimp only
          by_cases hb : ps[k].2 = true
          · rw [if_pos hb]
            rw [if_pos hb] at et
            refine ⟨.str ps[k].1, ?_, (pick (ps.take k)).map V.str, hd, ?_, ps.length - (k + 1), by omega, rfl, c, fun a o e => ?_, ?_⟩
            · rw [List.getElem?_set, if_neg (Ne.symm hij), List.getElem?_set, if_pos rfl, if_pos (by rw [lw]; exact li)]
            · have : (pick (ps.take k)).length ≤ (ps.take k).length := by
                unfold pick
                rw [List.length_map]
                exact List.length_filter_le _ _
              rw [List.length_take] at this
              rw [List.length_map]
              omega
            · rw [upd_ne (fun z => by rw [z, hD] at e; cases e)]
              exact hs a o e
            · rw [et, List.map_append]
              exact upd_at
          · rw [if_neg hb]
            rw [if_neg hb, List.append_nil] at et
            exact ⟨ps.length - (k + 1), by omega, rfl, c, hs, by rw [et]; exact hd⟩
  · refine .inl ⟨⟨vs, .inl (.inl hL'), by rw [hp.length]; omega⟩, ?_⟩
    rw [List.take_of_length_le (by omega)] at hd
    exact q Dl H' hs hd
/-- the pairs' display -/
def tNames (K : PySem.W.Frag) (C a dd : Addr) (ie : Nat) : List (Str × Addr) → TA
  | [] => tNil
  | c :: r => tCons (tTup (tCons (tC (.str c.1)) (tCons (tCB (rIsD K C a dd) (tCons (tVar ie) (tCons (tC (.ref c.2)) tNil))) tNil))) (tNames K C a dd ie r)
theorem names_rd {K : PySem.W.Frag} {C a dd : Addr} {ie : Nat} {σ : L2.St} {f : Addr → Bool} {fs : List (Str × V)} (he : σ[ie]? = some (some (.ref a))) : ∀ {cs : List (Str × Addr)} {H : Hp} {Q : List V → Hp → Prop}, H dd = some (.xd fs) → (∀ c ∈ cs, PySem.W.kitOne K (.ref C) (.ref c.2) = some (f c.2)) →
    (∀ vs H', Same H H' → Prs H' vs (cs.map fun c => (c.1, f c.2)) → Q vs H') → tNames K C a dd ie cs σ H Q
  | [], H, Q, _, _, q => q [] H (Same.refl H) .nil
  | c :: r, H, Q, hd, hk, q => by
    refine ⟨_, he, ?_⟩
    refine ⟨c.2, f c.2, fs, rfl, hd, hk c List.mem_cons_self, by show 2 ≤ sizeLine; decide, fun p hp => ?_⟩
    have s1 := same_upd (u := .tup [.str c.1, .bl (f c.2)]) hp
    refine names_rd he (s1 _ _ hd) (fun c' h' => hk c' (List.mem_cons_of_mem _ h')) fun vs H' s2 hp' => ?_
    exact q (.ref p :: vs) H' (same_trans s1 s2) (.cons (s2 _ _ upd_at) hp')
theorem sum_le {k : Nat} : ∀ {ys : List Str}, (∀ y ∈ ys, y.length ≤ k) → (ys.map (·.length)).sum ≤ ys.length * k
  | [], _ => by simp
  | y :: r, h => by
    have h1 := h y List.mem_cons_self
    have h2 := sum_le (k := k) (ys := r) fun z hz => h z (List.mem_cons_of_mem _ hz)
    simp only [List.map_cons, List.sum_cons, List.length_cons, Nat.add_mul, Nat.one_mul]
    omega
theorem same_none' {H H1 : Hp} {a : Addr} (s : Same H H1) (h : H1 a = none) : H a = none := by
  cases e : H a with
  | none => rfl
  | some o => rw [s a o e] at h; cases h
/-- what the suite gives -/
def clsOf (cs : List (Str × Addr)) (f : Addr → Bool) : Str := Txt.join " " (pick (cs.map fun c => (c.1, f c.2)))
def tSuite (K : PySem.W.Frag) (C a dd : Addr) (d : Option Addr) (ie n i j : Nat) (own : List Nat) (cs : List (Str × Addr)) : TS :=
  tSeq (tAsg (tLst (tNames K C a dd ie cs)) (gName n)) (tRet (tTup (tCons (tBM K "str" (rJoin K) (tC (.str " ")) (tCons (tLc (iList K (tVar n)) (gTup K 2 (gCons (gName i) (gCons (gName j) gNil))) (tTru K (tVar j)) (tVar i) own) tNil))
    (tCons (tXf a (.ref C) d C "at" (tVar ie)) tNil))))
theorem suite_rd {K : PySem.W.Frag} {C a dd : Addr} {ie n i j : Nat} {own : List Nat} {cs : List (Str × Addr)} {σ : L2.St} {H : Hp} {D : Ends} {f : Addr → Bool} {v : V} (he : σ[ie]? = some (some (.ref a))) (hd : H dd = some (.xd [(("at" : Str), v)])) (hk : ∀ c ∈ cs, PySem.W.kitOne K (.ref C) (.ref c.2) = some (f c.2))
    (hen : ie ≠ n) (hij : i ≠ j) (hi : i ∈ own) (hj : j ∈ own) (ln : n < σ.length) (li : i < σ.length) (lj : j < σ.length) (hz : cs.length ≤ 40) (hl : ∀ c ∈ cs, c.1.length ≤ 1000)
    (q : ∀ p H', H p = none → Same H H' → H' p = some (.tup [.str (clsOf cs f), v]) → D.rt (.ref p) H') : tSuite K C a dd (some dd) ie n i j own cs D σ H := by
  refine names_rd he hd hk fun vs H1 s1 hp => ⟨by rw [hp.length, List.length_map]; exact Nat.le_trans hz (by decide), fun L hL => ?_⟩
  have s2 := same_upd (u := .lst vs) hL
  have hn : (σ.set n (some (.ref L)))[n]? = some (some (.ref L)) := by rw [List.getElem?_set, if_pos rfl, if_pos ln]
  have he2 : (σ.set n (some (.ref L)))[ie]? = some (some (.ref a)) := by rw [List.getElem?_set, if_neg (Ne.symm hen)]; exact he
  have lpk : (pick (cs.map fun c => (c.1, f c.2))).length ≤ cs.length := by
    unfold pick
    rw [List.length_map]
    exact Nat.le_trans (List.length_filter_le _ _) (by rw [List.length_map]; exact Nat.le_refl _)
  show tBM K "str" (rJoin K) (tC (.str " ")) _ (σ.set n (some (.ref L))) (upd H1 L (.lst vs)) _
  refine ⟨rfl, ?_⟩
  refine lc_names (vs := vs) (ps := cs.map fun c => (c.1, f c.2)) hn upd_at (hp.keep s2) hij hi hj (by rw [List.length_set]; exact li) (by rw [List.length_set]; exact lj) (by rw [List.length_map]; exact Nat.le_trans hz (by decide)) fun P H2 s3 hP => ?_
  refine ⟨" ", P, pick (cs.map fun c => (c.1, f c.2)), rfl, rfl, .inl (.inl (.inl hP)), ?_, ?_⟩
  · have hb := sum_le (k := 1000) (ys := pick (cs.map fun c => (c.1, f c.2))) fun y hy => by
      unfold pick at hy
      obtain ⟨p, hp, rfl⟩ := List.mem_map.mp hy
      obtain ⟨c, hc, rfl⟩ := List.mem_map.mp (List.mem_filter.mp hp).1
      exact hl c hc
    have h1 : (" " : Str).length = 1 := by rfl
    rw [h1]
    have h2 : (pick (cs.map fun c => (c.1, f c.2))).length * 1000 ≤ 40 * 1000 := Nat.mul_le_mul_right _ (Nat.le_trans lpk hz)
    have h3 := Nat.le_trans lpk hz
    omega
  · have s12 := same_trans s1 (same_trans s2 s3)
    refine ⟨.ref a, he2, rfl, rfl, dd, _, v, rfl, s12 _ _ hd, rfl, by show 2 ≤ sizeLine; decide, fun p hp => ?_⟩
    exact q p _ (same_none' s12 hp) (same_trans s12 (same_upd hp)) upd_at
end M

/-! MiniHs: the suite's text has that reading. -/
namespace M
open PySem PySem.Spec PyProof.Rows L2 HotX L2H PySem.HoT
def trNames (e : Str) (sc : Scope) : List Expr → Option (List (Str × Str))
  | [] => some []
  | .Tuple [.Constant (.str s) _ _, .Call (.Name f _) [.Name e' _, .Name c _] [] _] _ _ :: r => if decide (f = ("isinstance" : Str)) && (decide (e' = e) && (gloK sc c && !decide (c = ("__debug__" : Str)))) then (trNames e sc r).map ((s, c) :: ·) else none
  | _ => none
theorem boot_isinstance : bootBuiltins "isinstance" = some (.builtin "isinstance") := by decide +kernel
section
variable {X : Cx} {a C dd : Addr} {oe : Obj} {pn : List (Addr × Obj)}
theorem names_pa {e : Str} {sc : Scope} {ie : Nat} {ad : Str → Addr} (xC : ExcC X.K C) (hcl : (PySem.W.clsIn X.K C).isSome = true) (hz : Zc (.ref C) (some dd) oe) (hf : ∃ vs, oe.data = .fields vs) (gI : Gl X "isinstance") (mI : X.mg "isinstance" = none)
    (vE : ∀ p, PE (X.suite a ((a, oe) :: pn)) (.Name e p) (tVar ie)) (gl : ∀ c, gloK sc c = true → Gl X c) : ∀ {es : List Expr} {cs : List (Str × Str)}, trNames e sc es = some cs → (∀ q ∈ cs, X.mg q.2 = some (.ref (ad q.2))) →
    PA (X.suite a ((a, oe) :: pn)) es (tNames X.K C a dd ie (cs.map fun q => (q.1, ad q.2)))
  | [], cs, h, _ => by
    cases h
    exact pa_nil
  | x :: r, cs, h, hm => by
    unfold trNames at h
    split at h
    · rename_i e0; cases e0
    · rename_i s k1 p5 f p4 e' p3 c p2 p1 k2 p0 r' e0
      cases e0
      split at h
      · rename_i hc
        simp only [Bool.and_eq_true, decide_eq_true_eq, Bool.not_eq_true', decide_eq_false_iff_not] at hc
        obtain ⟨rfl, rfl, hg, hdb⟩ := hc
        obtain ⟨cs', h1, rfl⟩ := op_some h
        have ih := names_pa xC hcl hz hf gI mI vE gl h1 fun q hq => hm q (List.mem_cons_of_mem _ hq)
        have pc : ∀ p, PE (X.suite a ((a, oe) :: pn)) (.Name c p) (tC (.ref (ad c))) := fun p => pe_glob (X := X.suite a ((a, oe) :: pn)) (gl c hg) (hm _ List.mem_cons_self) rfl (beq_eq_false_iff_ne.mpr hdb)
        have pi : PE (X.suite a ((a, oe) :: pn)) (.Call (.Name "isinstance" p4) [.Name e' p3, .Name c p2] [] p1) (tCB (rIsD X.K C a dd) (tCons (tVar ie) (tCons (tC (.ref (ad c))) tNil))) := pe_callB (X := X.suite a ((a, oe) :: pn)) (call_isD xC hcl hz hf) gI mI boot_isinstance (pa_cons (vE p3) (pa_cons (pc p2) pa_nil))
        exact pa_cons (pe_tup (pa_cons pe_str (pa_cons pi pa_nil))) ih
      · cases h
    · cases h
theorem hot_suite {cls : Value} {d : Option Addr} (hz : L2N.Zn cls d oe) (hf : ∃ vs, oe.data = .fields vs) : HotC (X.suite a ((a, oe) :: pn)) := by
  obtain ⟨vs, hv⟩ := hf
  exact ⟨(a, oe), ⟨rfl, vs, hv, hz.2.2 vs hv⟩, List.mem_cons_self⟩
theorem suite_pss {kx : Nat} {T : Tb} {sc scope : Scope} {nm e x y : Str} {es : List Expr} {cs : List (Str × Str)} {n ie i j : Nat} {own : List (Str × Nat)} {ad : Str → Addr} {p1 p2 p3 q1 q2 q3 q4 q5 q6 q7 q8 q9 q10 q11 q12 q13 q14 : Pos} {k1 k2 k3 : Nat}
    (gd : M.Good kx T X sc) (hbk : X.env.blockKind = .function) (xC : ExcC X.K C) (hcl : (PySem.W.clsIn X.K C).isSome = true) (xf : XfC X.K C) (hno : PySem.W.findIn X.K (.ref C) "at" = some none) (hz : L2N.Zn (.ref C) (some dd) oe) (hf : ∃ vs, oe.data = .fields vs) (gI : Gl X "isinstance") (mI : X.mg "isinstance" = none)
    (hnm : slot X.N nm = some n) (lnm : locK sc nm = true) (hie : slot X.N e = some ie) (ve : visK sc e = true) (hes : trNames e sc es = some cs) (hmg : ∀ q ∈ cs, X.mg q.2 = some (.ref (ad q.2))) (pes : es.all plain = true)
    (hb : blkC X.N sc scope own = true) (hx : slot X.N x = some i) (lx : locK scope x = true) (hy : slot X.N y = some j) (ly : locK scope y = true) (hl : (q2.endLine == q10.line) = true)
    (d1 : ∀ z ∈ [nm, e, x, y], (z == ("__debug__" : Str)) = false ∧ (z == ("__classdict__" : Str)) = false) :
    PSs (X.suite a ((a, oe) :: pn)) [.Assign [.Name nm p1] (.List es p2) p3, .Return (some (.Tuple [.Call (.Attribute (.Constant (.str " ") k1 q1) "join" q2) [.ListComp (.Name x q3) [⟨.Tuple [.Name x q4, .Name y q5] k2 q6, .Name nm q7, [.Name y q8], 0⟩] scope q9] [] q10, .Attribute (.Name e q11) "at" q12] k3 q13)) q14]
      (tSuite X.K C a dd (some dd) ie n i j (own.map (·.2)) (cs.map fun q => (q.1, ad q.2))) := by
  have hot := hot_suite (X := X) (a := a) (pn := pn) hz hf
  have vE : ∀ p, PE (X.suite a ((a, oe) :: pn)) (.Name e p) (tVar ie) := fun p => pv (X := X.suite a ((a, oe) :: pn)) ie (slot_at hie) (gd.vis e ve) (d1 e (by simp)).1 (d1 e (by simp)).2
  have vis_of : ∀ {sc : Scope} {z : Str}, locK sc z = true → visK sc z = true := fun {sc z} h => by
    unfold locK at h
    unfold visK
    split at h
    · rename_i q; rw [q]
    · rename_i q; rw [q]
    · cases h
  have vN : ∀ p, PE (X.suite a ((a, oe) :: pn)) (.Name nm p) (tVar n) := fun p => pv (X := X.suite a ((a, oe) :: pn)) n (slot_at hnm) (gd.vis nm (vis_of lnm)) (d1 nm (by simp)).1 (d1 nm (by simp)).2
  have h1 := names_pa (oe := oe) (pn := pn) (a := a) xC hcl hz.zc hf gI mI vE gd.glo hes hmg
  have bo := own_blk gd hb
  have s1 : PS (X.suite a ((a, oe) :: pn)) (.Assign [.Name nm p1] (.List es p2) p3) (tAsg (tLst (tNames X.K C a dd ie (cs.map fun q => (q.1, ad q.2)))) (gName n)) := by
    refine ps_asg (pe_lst h1) (pg_name (X := X.suite a ((a, oe) :: pn)) gd.nd (slot_at hnm) (gd.loc nm lnm).1 (gd.loc nm lnm).2) rfl rfl rfl
  have lc : PE (X.suite a ((a, oe) :: pn)) (.ListComp (.Name x q3) [⟨.Tuple [.Name x q4, .Name y q5] k2 q6, .Name nm q7, [.Name y q8], 0⟩] scope q9) (tLc (iList X.K (tVar n)) (gTup X.K 2 (gCons (gName i) (gCons (gName j) gNil))) (tTru X.K (tVar j)) (tVar i) (own.map (·.2))) := by
    refine pe_lcH hot gd.nd (pi_listH (vN q7)) bo (fun s H c cl fp => ?_) (fun s H c cl fp => ?_) (fun s H c cl fp => ?_) (fun _ => rfl)
    · have gb := good_blk gd s H scope c cl fp
      exact pg_tupH (X := blkH (X.suite a ((a, oe) :: pn)) s H scope (compEnvC scope cl c X.env) fp) hot (pgs_cons (pg_name (X := blkH (X.suite a ((a, oe) :: pn)) s H scope (compEnvC scope cl c X.env) fp) gd.nd (slot_at hx) (gb.loc x lx).1 (gb.loc x lx).2) (pgs_cons (pg_name (X := blkH (X.suite a ((a, oe) :: pn)) s H scope (compEnvC scope cl c X.env) fp) gd.nd (slot_at hy) (gb.loc y ly).1 (gb.loc y ly).2) pgs_nil))
    · have gb := good_blk gd s H scope c cl fp
      exact pts_one (pt_truth (X := blkH (X.suite a ((a, oe) :: pn)) s H scope (compEnvC scope cl c X.env) fp) (pv (X := blkH (X.suite a ((a, oe) :: pn)) s H scope (compEnvC scope cl c X.env) fp) j (slot_at hy) (gb.vis y (vis_of ly)) (d1 y (by simp)).1 (d1 y (by simp)).2) (truth_of rfl _))
    · have gb := good_blk gd s H scope c cl fp
      exact pv (X := blkH (X.suite a ((a, oe) :: pn)) s H scope (compEnvC scope cl c X.env) fp) i (slot_at hx) (gb.vis x (vis_of lx)) (d1 x (by simp)).1 (d1 x (by simp)).2
  have jn := bm_any (X := X.suite a ((a, oe) :: pn)) (ap := q2) (cp := q10) PySem.F.plainAttrs_str PySem.F.slot_str_join PySem.F.type_str_join mt_join (pe_str (x := " ") (j := k1) (pos := q1)) rfl (es := [.ListComp (.Name x q3) [⟨.Tuple [.Name x q4, .Name y q5] k2 q6, .Name nm q7, [.Name y q8], 0⟩] scope q9]) rfl (by show 1 < 20; decide) hl (pa_cons lc pa_nil) (fun z => nomatch z)
  have at_ : PE (X.suite a ((a, oe) :: pn)) (.Attribute (.Name e q11) "at" q12) (tXf a (.ref C) (some dd) C "at" (tVar ie)) := pe_xf xf hno hz.zc hf (vE q11)
  exact pss_cons s1 (pss_one (ps_ret (pe_tup (pa_cons jn (pa_cons at_ pa_nil)))))
end
end M

/-! MiniHt: a def that is a try whose suite tells the error's classes. -/
namespace M
open PySem PySem.Spec PyProof.Rows L2 HotX L2H PySem.HoT
structure TryT where
  b : Ss
  b2 : Ss
  x : Str
  ie : Nat
  n : Nat
  i : Nat
  j : Nat
  own : List Nat
  cs : List (Str × Str)
/-- the class facts of an error -/
structure XcOk (K : PySem.W.Frag) (ad : Str → Addr) (sb : Str → Str → Bool) (x : Str) (cs : List (Str × Str)) (C : Str) : Prop where
  exm : PySem.W.exmOne K (.ref (ad C)) (.ref (ad x)) = some true
  exc : ExcC K (ad C)
  cls : (PySem.W.clsIn K (ad C)).isSome = true
  xf : XfC K (ad C)
  no : PySem.W.findIn K (.ref (ad C)) "at" = some none
  kit : ∀ c ∈ cs, PySem.W.kitOne K (.ref (ad C)) (.ref (ad c.2)) = some (sb C c.2)
def dV : V → Option D
  | .non => some .non
  | .bl b => some (.bl b)
  | .int i => some (.int i)
  | .str x => some (.str x)
  | _ => none
def tellX (sb : Str → Str → Bool) (cs : List (Str × Str)) (C : Str) : Str := Txt.join " " (pick (cs.map fun q => (q.1, sb C q.2)))
def outTry (xs : List Str) (sb : Str → Str → Bool) (cs : List (Str × Str)) (f : En → Out) : Out → Out
  | .nx ρ => f ρ
  | .ret x => .ret x
  | .err C x => if xs.contains C = true then (match dV x with
    | some d => .ret (.nd .tup [.str (tellX sb cs C), d], .al)
    | none => .stuck) else .stuck
  | .stuck => .stuck
/-- the suite by the exception's class -/
def tTell (K : PySem.W.Frag) (ad : Str → Addr) (sb : Str → Str → Bool) (n0 : Nat) (t : TryT) (a : Addr) (cls : Value) (d : Option Addr) : TS := fun D σ H =>
  σ.length = n0 → ∃ C dd, cls = .ref (ad C) ∧ d = some dd ∧ XcOk K ad sb t.x t.cs C ∧ tSuite K (ad C) a dd (some dd) t.ie t.n t.i t.j t.own (t.cs.map fun q => (q.1, ad q.2)) D σ H
theorem dV_rep {K : PySem.W.Frag} {ca : CA} {bad : Bad} {H : Hp} {l : Lv} {v : V} {d : D} (h : dV v = some d) : Rep K ca bad H l v d [] := by
  cases v <;> first | (cases h; first | exact .non _ | exact .bl _ _ | exact .int _ _ | exact .str _ _) | cases h
theorem tr_good {kx : Nat} {T : Tb} {Xe : XT} {W W' : WX} {X : Cx} {sc : Scope} (g : GoodS kx T Xe W X sc) {pn : List (Addr × Obj)} {xe : Value → Shared → Prop} (ex : ExOk (X.tr pn xe) Xe) (tk : L2N.Takes (X.tr pn xe) W') (po : PassesOwn (model X.prog X.w) X.A X.env xe) : GoodS kx T Xe W' (X.tr pn xe) sc :=
  ⟨⟨g.g.tb, g.g.rm, g.g.nd, g.g.calm, g.g.vis, g.g.loc, g.g.cf, g.g.glo⟩, g.hsc, g.kind, po, ex, tk⟩
theorem pss_some {X : Cx} {ss : List Stmt} {α : Type} {p : α → Prop} {f : α → TS} (h : ∀ a, p a → PSs X ss (f a)) : PSs X ss (fun D σ H => ∃ a, p a ∧ f a D σ H) :=
  ⟨fun pins s σ H D I ⟨a, hp, hf⟩ => (h a hp).run pins s σ H D I hf⟩
def trTry (N : List Str) (sc : Scope) : List Stmt → Option TryT
  | .Try body [.ExceptHandler (some (.Name x np)) (some e) [.Assign [.Name nm p1] (.List es p2) p3, .Return (some (.Tuple [.Call (.Attribute (.Constant (.str sp) k1 q1) jn q2) [.ListComp (.Name x1 q3) [⟨.Tuple [.Name x2 q4, .Name y1 q5] k2 q6, .Name nm2 q7, [.Name y2 q8], 0⟩] scope q9] [] q10, .Attribute (.Name e2 q11) fld q12] k3 q13)) q14] pos'] [] [] pos :: rest =>
    if (decide (sp = (" " : Str)) && (decide (jn = ("join" : Str)) && (decide (fld = ("at" : Str)) && (decide (x1 = x2) && (decide (y1 = y2) && (decide (nm = nm2) && (decide (e = e2) && ((q2.endLine == q10.line) && (es.all plain && (locK sc nm && (visK sc e && (locK scope x1 && (locK scope y1 &&
        ((sc.names.lookup e == some .local) && (gloK sc x && (gloK sc "isinstance" && ([nm, e, x1, y1, x].all fun z => !decide (z = ("__debug__" : Str)) && !decide (z = ("__classdict__" : Str))))))))))))))))))) = true then
      (match trB N sc body, trB N sc rest, trNames e sc es, ownOf N scope.names, slot N e, slot N nm, slot N x1, slot N y1 with
      | some b, some b2, some cs, some own, some ie, some n, some i, some j => if (blkC N sc scope own && (decide (ie ≠ n) && (decide (i ≠ j) && (decide (i ∈ own.map (·.2)) && (decide (j ∈ own.map (·.2)) && (decide (cs.length ≤ 40) && cs.all fun c => decide (c.1.length ≤ 1000))))))) = true then some ⟨b, b2, x, ie, n, i, j, own.map (·.2), cs⟩ else none
      | _, _, _, _, _, _, _, _ => none)
    else none
  | _ => none

theorem op_if {α : Type} {c : Bool} {o : Option α} {a : α} (h : (if c = true then o else none) = some a) : c = true ∧ o = some a := by
  split at h
  · exact ⟨by assumption, h⟩
  · cases h
section
variable {kx : Nat} {T : Tb} {Xe : XT} {W : WX} {X : Cx} {sc : Scope} {ad : Str → Addr} {sb : Str → Str → Bool}
theorem try_pss (gs : GoodS kx T Xe W X sc) (hs : X.stack = X.env :: X.outer) (hf : X.env.frame = some X.env.locals) (ex : ∀ pn xe, ExOk (X.tr pn xe) Xe) (mI : X.mg "isinstance" = none) {t : TryT} {ss : List Stmt} (ht : trTry X.N sc ss = some t)
    (hx : X.mg t.x = some (.ref (ad t.x))) (hmg : ∀ q ∈ t.cs, X.mg q.2 = some (.ref (ad q.2))) :
    PSs X ss (tSeq (fun D σ H => rdSs T X.K Xe (L2.wAs X.K (.ref (ad t.x)) t.ie (tTell X.K ad sb X.N.length t) W D) t.b D σ H) (rdSs T X.K Xe W t.b2)) := by
  unfold trTry at ht
  split at ht
  · rename_i x0 body x np e nm p1 es p2 p3 sp k1 q1 jn q2 x1 q3 x2 q4 y1 q5 k2 q6 nm2 q7 y2 q8 scope q9 q10 e2 q11 fld q12 k3 q13 q14 pos' pos rest
    obtain ⟨hc, ht⟩ := op_if ht
    split at ht
    · rename_i b b2 cs own ie n i j hb hb2 hcs hown hie hn hi hj
      obtain ⟨hd, ht⟩ := op_if ht
      cases ht
      simp only [Bool.and_eq_true, decide_eq_true_eq, Bool.not_eq_true', decide_eq_false_iff_not, List.all_cons, List.all_nil] at hc hd
      obtain ⟨rfl, rfl, rfl, rfl, rfl, rfl, rfl, hl, pes, lnm, ve, lx, ly, lo, gx, gI, d1, d2, d3, d4, d5, _⟩ := hc
      obtain ⟨hblk, -⟩ := hd
      have hlo : X.env.kindOf e = some .local := by
        show X.env.scope.names.lookup e = some .local
        rw [gs.hsc]
        exact beq_iff_eq.mp lo
      have nq : ∀ {z : Str}, ¬ z = ("__debug__" : Str) ∧ ¬ z = ("__classdict__" : Str) → (z == ("__debug__" : Str)) = false ∧ (z == ("__classdict__" : Str)) = false := fun h => ⟨beq_eq_false_iff_ne.mpr h.1, beq_eq_false_iff_ne.mpr h.2⟩
      have h1 : ∀ (W' : WX) (pn : List (Addr × Obj)) (xe : Value → Shared → Prop), L2N.Takes (X.tr pn xe) W' → PassesOwn (model X.prog X.w) X.A X.env xe → PSs (X.tr pn xe) body (rdSs T X.K Xe W' b) := fun W' pn xe tk po =>
        snd_Ss (fun st a h => snd_S (tr_good gs (ex pn xe) tk po) 40 st a h) hb
      have h3 : ∀ z ∈ [nm, e, x1, y1], (z == ("__debug__" : Str)) = false ∧ (z == ("__classdict__" : Str)) = false := by
        intro z hz
        simp only [List.mem_cons, List.not_mem_nil, or_false] at hz
        rcases hz with rfl | rfl | rfl | rfl
        · exact nq d1
        · exact nq d2
        · exact nq d3
        · exact nq d4
      have h2 : ∀ (a : Addr) (oe : Obj) (cls : Value) (d : Option Addr) (pn : List (Addr × Obj)), L2N.Zn cls d oe → (∃ vs, oe.data = .fields vs) → PSs (X.suite a ((a, oe) :: pn)) _ (tTell X.K ad sb X.N.length ⟨b, b2, x, ie, n, i, j, own.map (·.2), cs⟩ a cls d) := fun a oe cls d pn hz hfl =>
        ⟨fun pins s σ H D I h0 => by
          obtain ⟨C, dd, e1, e2, hC, h⟩ := h0 I.len
          subst e1 e2
          exact (suite_pss (p1 := p1) (p2 := p2) (p3 := p3) (q1 := q1) (q2 := q2) (q3 := q3) (q4 := q4) (q5 := q5) (q6 := q6) (q7 := q7) (q8 := q8) (q9 := q9) (q10 := q10) (q11 := q11) (q12 := q12) (q13 := q13) (q14 := q14) (k1 := k1) (k2 := k2) (k3 := k3) gs.g (blk_fn gs) hC.exc hC.cls hC.xf hC.no hz hfl (gs.g.glo _ gI) mI hn lnm hie ve hcs hmg pes hblk hi lx hj ly hl h3).run pins s σ H D I h⟩
      have h4 := L2N.ps_try_as (X := X) (np := np) (pos := pos) (pos' := pos') (x := x) (c := .ref (ad x)) (Wout := W) hs hf gs.g.nd (slot_at hie) hlo ⟨gs.g.glo x gx, (nq d5).1, .inl hx⟩ gs.tk h1 h2
      have h5 : PSs X rest (rdSs T X.K Xe W b2) := snd_Ss (fun st a h => snd_S gs 40 st a h) hb2
      exact pss_cons h4 h5
    · cases ht
  · cases ht
end
end M

/-! MiniHu: such a def's promise. -/
namespace M
open PySem PySem.Spec PyProof.Rows L2 HotX L2H PySem.HoT
section
variable {K : PySem.W.Frag} {ca : CA} {T : Tb} {Φ : Fi} {Xe : XT}
theorem sat_of {bad : Bad} {H : Hp} {Q : VK} {E : XK} : ∀ {o : Out}, (match outOf o with
  | .ok x => ∀ v H' A, Res K ca bad H x.1 x.2 v H' A → Q v H'
  | .err C x => ∀ dd H' Ca, ca C = some Ca → Same H H' → H' dd = some (.xd [("at", x)]) → E (.ref Ca) (some dd) H'
  | .stuck => False) → Sat K ca (fun cls d _ H' => E cls d H') bad (fun _ => False) H { nx := fun _ H' => Q .non H', rt := Q } o
  | .nx ρ', hm => fun σ' H' A' r f => hm .non H' [] ⟨fun a o e => (f a o e id).1, .non _, .nil, fun _ z => nomatch z⟩
  | .ret x, hm => fun v H' B f r nd hl => hm v H' B ⟨fun a o e => (f a o e id).1, r, nd, fun a m => by
      cases e : H a with
      | none => rfl
      | some o => exact absurd m (f a o e id).2⟩
  | .err C x, hm => fun dd H' σ' Ca e1 e2 k => hm dd H' Ca e1 (fun a o e => k a o e id) e2
  | .stuck, hm => hm.elim
theorem dV_v {x : V} {d : D} (h : dV x = some d) : d.v = some x := by
  cases x <;> first | (cases h; rfl) | cases h
theorem try_keeps (hF : FiOk K ca T Φ) (hX : ExT ca Xe Φ) {N : List Str} {ad : Str → Addr} {sb : Str → Str → Bool} {xs : List Str} {t : TryT} (hxs : ∀ C ∈ xs, XcOk K ad sb t.x t.cs C ∧ ca C = some (ad C))
    (l1 : t.ie < N.length) (l2 : t.n < N.length) (l3 : t.i < N.length) (l4 : t.j < N.length) (hen : t.ie ≠ t.n) (hij : t.i ≠ t.j) (hi : t.i ∈ t.own) (hj : t.j ∈ t.own) (hz : t.cs.length ≤ 40) (hl : ∀ c ∈ t.cs, c.1.length ≤ 1000)
    {vs : List V} {H : Hp} {Q : VK} {E : XK} {ds : List D} {bad : Bad} (hb : Ex' bad H) (hr : Reps K ca bad H (.n 0) vs ds []) {h : Nat → Nat} {F : Nat}
    (hm : match outOf (outTry xs sb t.cs (fun ρ => execs Φ h F t.b2 ρ) (execs Φ h F t.b (startE N ds))) with
      | .ok x => ∀ v H' A, Res K ca bad H x.1 x.2 v H' A → Q v H'
      | .err C x => ∀ dd H' Ca, ca C = some Ca → Same H H' → H' dd = some (.xd [("at", x)]) → E (.ref Ca) (some dd) H'
      | .stuck => False) :
    tSeq (fun D σ H => rdSs T K Xe (L2.wAs K (.ref (ad t.x)) t.ie (tTell K ad sb N.length t) (fun cls d _ H' => E cls d H') D) t.b D σ H) (rdSs T K Xe (fun cls d _ H' => E cls d H') t.b2)
      { nx := fun _ H' => Q .non H', rt := Q } (L2.start N vs) H := by
  refine execs_ok hF hX h F t.b _ _ H _ _ (start_rl hb hr) ?_
  cases eo : execs Φ h F t.b (startE N ds) with
  | nx ρ' =>
    rw [eo] at hm
    intro σ' H' A' r f
    exact execs_ok hF hX h F t.b2 _ _ H' _ _ r ((sat_of hm).mono f)
  | ret x =>
    rw [eo] at hm
    exact sat_of (E := E) (o := .ret x) hm
  | err C x =>
    rw [eo] at hm
    by_cases hc : xs.contains C = true
    · cases hd : dV x with
      | none =>
        have e0 : outTry xs sb t.cs (fun ρ => execs Φ h F t.b2 ρ) (.err C x) = .stuck := by simp only [outTry, hc, hd, if_true]
        rw [e0] at hm
        exact hm.elim
      | some d =>
          have e0 : outTry xs sb t.cs (fun ρ => execs Φ h F t.b2 ρ) (.err C x) = .ret (.nd .tup [.str (tellX sb t.cs C), d], .al) := by simp only [outTry, hc, hd, if_true]
          rw [e0] at hm
          obtain ⟨xc, hca⟩ := hxs C (List.contains_iff_mem.mp hc)
          intro dd H' σ' Ca e1 e2 k
          rw [hca] at e1
          cases e1
          refine ⟨true, xc.exm, fun _ a ha hlen => ⟨C, dd, rfl, rfl, xc, ?_⟩, fun z => nomatch z⟩
          have hlen' : σ'.length = N.length := by rw [List.length_set] at hlen; exact hlen
          refine suite_rd (f := fun b => (PySem.W.kitOne K (.ref (ad C)) (.ref b)).getD false) (v := x) (by rw [List.getElem?_set, if_pos rfl, if_pos (by rw [hlen']; exact l1)]) e2 (fun c hc' => ?_) hen hij hi hj (by rw [List.length_set, hlen']; exact l2) (by rw [List.length_set, hlen']; exact l3) (by rw [List.length_set, hlen']; exact l4) (by rw [List.length_map]; exact hz) (fun c hc' => ?_) fun p H2 hp s2 e3 => ?_
          · obtain ⟨q, hq, rfl⟩ := List.mem_map.mp hc'
            show _ = some ((PySem.W.kitOne K (.ref (ad C)) (.ref (ad q.2))).getD false)
            rw [xc.kit q hq]
            rfl
          · obtain ⟨q, hq, rfl⟩ := List.mem_map.mp hc'
            exact hl q hq
          · have et : clsOf (t.cs.map fun q => (q.1, ad q.2)) (fun b => (PySem.W.kitOne K (.ref (ad C)) (.ref b)).getD false) = tellX sb t.cs C := by
              unfold clsOf tellX
              rw [List.map_map]
              congr 2
              refine List.map_congr_left fun q hq => ?_
              show (q.1, (PySem.W.kitOne K (.ref (ad C)) (.ref (ad q.2))).getD false) = _
              rw [xc.kit q hq]
              rfl
            rw [et] at e3
            have hs : Same H H2 := same_trans (fun a o e => k a o e id) s2
            refine hm (.ref p) H2 [p] ⟨hs, .ow rfl e3 ?_ (.cons (A := []) (B := []) (.str _ _) (.cons (A := []) (B := []) (dV_rep hd) .nil)), ?_, fun a hm' => ?_⟩
            · first | rfl | exact .tup | trivial
            · exact List.nodup_cons.mpr ⟨(fun z => nomatch z), List.nodup_nil⟩
            · rw [List.mem_singleton] at hm'
              rw [hm']
              exact same_none' (fun a o e => k a o e id) hp
    · have e0 : outTry xs sb t.cs (fun ρ => execs Φ h F t.b2 ρ) (.err C x) = .stuck := by simp only [outTry, if_neg hc]
      rw [e0] at hm
      exact hm.elim
  | stuck => rw [eo] at hm; exact hm.elim
theorem try_run {P : Program} {w : World} {mg : Str → Option Value} {base : Heap} {k : Nat} {f : Addr} {name qual : Str} {params : Arguments} {body : List Stmt} {scope : Scope} {dvs : List V} {kws : List (Str × V)} {fd : FuncData}
    {N ps : List Str} {run : List D → R DL} {ad : Str → Addr} {sb : Str → Str → Bool} {xs : List Str} {t : TryT} (Fd : FunD K name qual params body scope dvs kws f fd) (fs : FnScope N ps scope) (ht : trTry N scope body = some t) (tb : TbOk P w K mg base k T)
    (ex : ∀ (cdv : Value) (A : Around) (outer : List Env) (s : Shared) (H : Hp) (E : XK) (pn : List (Addr × Obj)) (xe : Value → Shared → Prop), RoomG k (A.deeper (envOfC qual scope s.heap.objs.size f cdv)) → ExOk ((cxOf (L2N.CX P w) P w K mg base N qual scope f cdv A outer s H E).tr pn xe) Xe)
    (ex0 : ∀ (cdv : Value) (A : Around) (outer : List Env) (s : Shared) (H : Hp) (E : XK), RoomG k (A.deeper (envOfC qual scope s.heap.objs.size f cdv)) → ExOk (cxOf (L2N.CX P w) P w K mg base N qual scope f cdv A outer s H E) Xe)
    (hF : FiOk K ca T Φ) (hX : ExT ca Xe Φ) (hx : mg t.x = some (.ref (ad t.x))) (hmg : ∀ q ∈ t.cs, mg q.2 = some (.ref (ad q.2))) (mI : mg "isinstance" = none)
    (hxs : ∀ C ∈ xs, XcOk K ad sb t.x t.cs C ∧ ca C = some (ad C))
    (hg : (decide (t.ie < N.length) && (decide (t.n < N.length) && (decide (t.i < N.length) && (decide (t.j < N.length) && (decide (t.ie ≠ t.n) && (decide (t.i ≠ t.j) && (decide (t.i ∈ t.own) && (decide (t.j ∈ t.own) && (decide (t.cs.length ≤ 40) && t.cs.all fun c => decide (c.1.length ≤ 1000)))))))))) = true)
    (hlen : ∀ ds, run ds ≠ .stuck → ds.length = ps.length) (hrun : ∀ ds, run ds ≠ .stuck → ∃ h F, outOf (outTry xs sb t.cs (fun ρ => execs Φ h F t.b2 ρ) (execs Φ h F t.b (startE N ds))) = run ds) :
    FnG P w K mg base (k + 1) f fd ps (spF K ca run) := by
  simp only [Bool.and_eq_true, decide_eq_true_eq] at hg
  obtain ⟨g1, g2, g3, g4, g5, g6, g7, g8, g9, g10⟩ := hg
  refine fnG_of Fd fs (fun vs H Q E ⟨ds, bad, hb, hr, hm⟩ => by
    rw [hr.length]
    exact hlen ds fun z => by rw [z] at hm; exact hm) fun cdv A outer s H vs Q E hr ⟨ds, bad, hb, hre, hm⟩ => ?_
  have gs : GoodS k T Xe (fun cls d _ H' => E cls d H') (cxOf (L2N.CX P w) P w K mg base N qual scope f cdv A outer s H E) scope :=
    ⟨good_fn fs tb hr, rfl, fs.kind, passes_of rfl, ex0 cdv A outer s H E hr, L2N.takes_of rfl rfl rfl rfl⟩
  refine ⟨_, try_pss (ad := ad) (sb := sb) gs rfl rfl (fun pn xe => ex cdv A outer s H E pn xe hr) mI ht hx hmg, ?_⟩
  obtain ⟨h, F, e⟩ := hrun ds fun z => by rw [z] at hm; exact hm
  rw [← e] at hm
  exact try_keeps hF hX hxs g1 g2 g3 g4 g5 g6 g7 g8 g9 (fun c hc => of_decide_eq_true (List.all_eq_true.mp g10 c hc)) hb hre hm
end
end M

/-! MiniHv: the table of a law's defs, def by def; a law's end. -/
namespace M
open PySem PySem.Spec PyProof.Rows L2 PySem.ExI
open He (ga fAd)
/-- a def in the table: its name, its parameters, what it makes -/
abbrev TR := Str × List Str × FF
def fdOf (K : PySem.W.Frag) (f : Addr) : FuncData := match K.lookup f with
  | some ⟨_, _, .func fd, _⟩ => fd
  | _ => PySem.W.fnOf "" "" ⟨[], [], none, [], [], none, []⟩ [] default .none .none .none .none none .none .none
def feOf (K : PySem.W.Frag) (ca : CA) (r : TR) : FE := ⟨ga K r.1, fdOf K (ga K r.1), r.2.1, 0, spF K ca r.2.2.run, [], []⟩
def findR (rows : List TR) (x : Str) : Option TR := rows.find? fun r => decide (r.1 = x)
mutual
/-- data of the text, as it stands in K -/
def glB (K : PySem.W.Frag) : D → Value → Bool
  | .non, u => (match u with
    | .none => true
    | _ => false)
  | .bl b, u => (match u with
    | .bool c => decide (b = c)
    | _ => false)
  | .int i, u => (match u with
    | .int j _ => decide (i = j)
    | _ => false)
  | .str x, u => (match u with
    | .str y _ => decide (x = y)
    | _ => false)
  | .nd .tk ds, u => (match u with
    | .ref a => (match K.lookup a with
      | some o => (match o.data with
        | .seq its _ => decide (o.cls = .type "tuple") && (decide (its.size ≤ sizeLine) && glBs K ds its.toList)
        | _ => false)
      | none => false)
    | _ => false)
  | .nd _ _, _ => false
def glBs (K : PySem.W.Frag) : List D → List Value → Bool
  | [], us => us.isEmpty
  | d :: r, us => (match us with
    | [] => false
    | u :: q => glB K d u && glBs K r q)
end
def gvV : D → Value → V
  | .non, _ => .non
  | .bl b, _ => .bl b
  | .int i, _ => .int i
  | .str x, _ => .str x
  | .nd _ _, u => (match u with
    | .ref a => .ref a
    | _ => .non)
mutual
theorem gl_rep {K : PySem.W.Frag} : ∀ {d : D} {u : Value}, glB K d u = true → RelV (gvV d u) u ∧ ∀ (ca : CA) (bad : Bad) (H : Hp), Rep K ca bad H (.n 0) (gvV d u) d []
  | .non, u, h => by
    unfold glB at h
    split at h
    · exact ⟨rfl, fun _ _ _ => .non _⟩
    · cases h
  | .bl b, u, h => by
    unfold glB at h
    split at h
    · have h := of_decide_eq_true h
      subst h
      exact ⟨rfl, fun _ _ _ => .bl _ _⟩
    · cases h
  | .int i, u, h => by
    unfold glB at h
    split at h
    · have h := of_decide_eq_true h
      subst h
      exact ⟨⟨_, rfl⟩, fun _ _ _ => .int _ _⟩
    · cases h
  | .str x, u, h => by
    unfold glB at h
    split at h
    · have h := of_decide_eq_true h
      subst h
      exact ⟨⟨_, rfl⟩, fun _ _ _ => .str _ _⟩
    · cases h
  | .nd k ds, u, h => by
    cases k with
    | tk =>
      unfold glB at h
      split at h
      · rename_i a
        split at h
        · rename_i o ho
          split at h
          · rename_i its n hd
            simp only [Bool.and_eq_true, decide_eq_true_eq] at h
            obtain ⟨h1, h2, h3⟩ := h
            obtain ⟨vs, rv, hr⟩ := gl_reps h3
            exact ⟨rfl, fun ca bad H => .sh rfl (.inr ⟨o, its, n, ho, h1, hd, h2, rv⟩) (hr ca bad H)⟩
          · cases h
        · cases h
      · cases h
    | _ => unfold glB at h; cases h
theorem gl_reps {K : PySem.W.Frag} : ∀ {ds : List D} {us : List Value}, glBs K ds us = true → ∃ vs, Vals vs us ∧ ∀ (ca : CA) (bad : Bad) (H : Hp), Reps K ca bad H (.n 0) vs ds []
  | [], us, h => by
    unfold glBs at h
    cases us with
    | nil => exact ⟨[], .nil, fun _ _ _ => .nil⟩
    | cons u q => cases h
  | d :: r, us, h => by
    unfold glBs at h
    split at h
    · cases h
    · obtain ⟨h1, h2⟩ := Bool.and_eq_true_iff.mp h
      obtain ⟨r1, p1⟩ := gl_rep h1
      obtain ⟨vs, rv, p2⟩ := gl_reps h2
      exact ⟨_ :: vs, .cons r1 rv, fun ca bad H => .cons (A := []) (B := []) (p1 ca bad H) (p2 ca bad H)⟩
end
def topB (K : PySem.W.Frag) (p : Str × D) : Bool := match PySem.W.nsIn K mainGlobals p.1 with
  | some (some u) => glB K p.2 u
  | _ => false
def gv (K : PySem.W.Frag) (x : Str) (d : D) : V := match PySem.W.nsIn K mainGlobals x with
  | some (some u) => gvV d u
  | _ => .non
theorem gv_ok {K : PySem.W.Frag} {h : Heap} {mg : Str → Option Value} {x : Str} {d : D} (X : K.In h) (G : h.Ns mainGlobals mg) (c : topB K (x, d) = true) : ∃ u, mg x = some u ∧ RelV (gv K x d) u ∧ ∀ (ca : CA) (bad : Bad) (H : Hp), Rep K ca bad H (.n 0) (gv K x d) d [] := by
  unfold topB at c
  unfold gv
  dsimp only at c
  split at c
  · rename_i u e
    obtain ⟨a, b⟩ := gl_rep c
    exact ⟨u, PySem.W.mg_of X G e, a, b⟩
  · cases c
def tabT (K : PySem.W.Frag) (ca : CA) (gis : List (Str × D)) (rows : List TR) : Tb :=
  ⟨fun x => (findR rows x).map (feOf K ca), fun _ => none, [], fun x => (gis.lookup x).map (gv K x)⟩
def tabF (gis : List (Str × D)) (exs : List Str) (rows : List TR) : Fi :=
  ⟨fun x => (findR rows x).map (·.2.2), fun x => gis.lookup x, fun x => exs.contains x, fun _ _ => false⟩
def caOf (K : PySem.W.Frag) (exs : List Str) : CA := fun x => if exs.contains x = true then some (ga K x) else none
section
variable {P : Program} {w : World} {K : PySem.W.Frag} {mg : Str → Option Value} {base : Heap} {k : Nat} {ca : CA} {gis : List (Str × D)} {exs : List Str} {rows : List TR}
theorem fi_ok (hg : ∀ x d, gis.lookup x = some d → ∀ (ca : CA) (bad : Bad) (H : Hp), Rep K ca bad H (.n 0) (gv K x d) d []) (h0 : ∀ r ∈ rows, r.2.2.dfs = []) : FiOk K ca (tabT K ca gis rows) (tabF gis exs rows) := by
  refine ⟨fun f ff e => ?_, fun x d e => ?_, fun C f e => nomatch e⟩
  · obtain ⟨r, hr, rfl⟩ := Option.map_eq_some_iff.mp e
    refine ⟨feOf K ca r, Option.map_eq_some_iff.mpr ⟨r, hr, rfl⟩, fun bad H => ?_, fun vs H Q E h => h⟩
    rw [h0 r (List.mem_of_find?_eq_some hr)]
    exact .nil
  · exact ⟨gv K x d, Option.map_eq_some_iff.mpr ⟨d, e, rfl⟩, hg x d e ca⟩
theorem ext_ok : ExT (caOf K exs) (caOf K exs) (tabF gis exs rows) := fun x hx => by
  have e : caOf K exs x = some (ga K x) := if_pos hx
  exact ⟨_, e, e⟩
/-- what the module's names are -/
structure Md (K : PySem.W.Frag) (mg : Str → Option Value) (gis : List (Str × D)) : Prop where
  gis : ∀ x d, gis.lookup x = some d → ∃ u, mg x = some u ∧ RelV (gv K x d) u ∧ ∀ (ca : CA) (bad : Bad) (H : Hp), Rep K ca bad H (.n 0) (gv K x d) d []
  fr : ∀ x, (blt K x).isSome = true → mg x = none
  rg : mg "range" = none ∧ mg "enumerate" = none ∧ mg "zip" = none
theorem tab_nil (md : Md K mg gis) : TbOk P w K mg base k (tabT K ca gis []) :=
  ⟨(fun _ _ e => nomatch e), (fun _ _ e => nomatch e), (fun _ h => nomatch h), fun x v e => by
    obtain ⟨i, hi, rfl⟩ := Option.map_eq_some_iff.mp e
    obtain ⟨u, hu, r, _⟩ := md.gis x i hi
    exact ⟨u, hu, r⟩, md.fr, md.rg⟩
theorem tab_cons {name : Str} {ps : List Str} {ff : FF} (h : TbOk P w K mg base k (tabT K ca gis rows)) (hm : mg name = some (.ref (ga K name))) (kp : PySem.W.keepIn K (.ref (ga K name)) = true) (hb : Binds K (fdOf K (ga K name)) ps [])
    (F : FnG P w K mg base (k + 1) (ga K name) (fdOf K (ga K name)) ps (spF K ca ff.run)) : TbOk P w K mg base (k + 1) (tabT K ca gis ((name, ps, ff) :: rows)) := by
  refine ⟨fun x e he => ?_, (fun _ _ e => nomatch e), (fun _ h => nomatch h), h.gl, h.fr, h.rg⟩
  obtain ⟨r, hr, rfl⟩ := Option.map_eq_some_iff.mp he
  unfold findR at hr
  rw [List.find?_cons] at hr
  split at hr
  · rename_i hc
    have hc := of_decide_eq_true hc
    cases hr
    cases hc
    exact ⟨hm, kp, hb, .nil, F⟩
  · obtain ⟨a1, a2, a3, a4, a5⟩ := h.fn x (feOf K ca r) (Option.map_eq_some_iff.mpr ⟨r, hr, rfl⟩)
    exact ⟨a1, a2, a3, a4, a5.mono (Nat.le_succ k)⟩
theorem fd_eq {nm qual : Str} {params : Arguments} {body : List Stmt} {scope : Scope} {dvs : List V} {kws : List (Str × V)} {f : Addr} {fd : FuncData} (F : FunD K nm qual params body scope dvs kws f fd) : fdOf K f = fd := by
  obtain ⟨oc, od, dV, kV, doc, pm, an, cdv, ct, osl, rfl, lk, _⟩ := F.ex
  unfold fdOf
  rw [lk]
/-- exceptions, in whatever context -/
def XOk (P : Program) (w : World) (K : PySem.W.Frag) (mg : Str → Option Value) (exs : List Str) : Prop := ∀ (X : Cx) (k : Nat), X.prog = P → X.w = w → X.K = K → X.mg = mg → Room (k + 1) X.A → ExOk X (caOf K exs)
theorem xok_of {fa : List He.Fa} {fn : List He.DefD} {file : Str} {ex : PySem.W.Frag → Bool} {ini : He.DefD} (c : SaysM fa fn file exs ex ini K)
    (iniF : ∃ fd : FuncData, IniF P K (wF K) (wD K) fd ini.body ∧ PySem.W.typeIn K (.ref (wF K)) = some (.type "function") ∧ fd.params = ini.params ∧ fd.defaults = .none)
    (hb : ∀ fd : FuncData, fd.params = ini.params → fd.defaults = .none → Binds K fd [("self" : Str), ("at" : Str)] [])
    (gs : mg "super" = none) (hmx : ∀ x ∈ exs, mg x = some (.ref (ga K x))) (hdb : (exs.all fun x => !decide (x = ("__debug__" : Str))) = true) : XOk P w K mg exs := by
  intro X k eP ew eK emg hr x C hx e te p pos hg hpl he
  subst eP ew eK emg
  unfold caOf at hx
  split at hx
  · rename_i hc
    cases hx
    have hmem := List.contains_iff_mem.mp hc
    obtain ⟨iC, fi⟩ := c.exc hmem
    obtain ⟨fd, F, tI, ep, ed⟩ := iniF
    have hd : (x == ("__debug__" : Str)) = false := by
      have := List.all_eq_true.mp hdb x hmem
      rw [Bool.not_eq_true', decide_eq_false_iff_not] at this
      exact beq_eq_false_iff_ne.mpr this
    exact ex_make F gs iC fi tI (hb fd ep ed) hr (fun _ _ _ _ _ _ _ h => (by
      obtain ⟨_, _, _, _, _, _, _, _, _, _, _, _, z⟩ := h
      exact z.elim)) hg (hmx x hmem) he hd (plain_star hpl [] X.env)
  · cases hx
theorem tab_step {name nm qual : Str} {params : Arguments} {body : List Stmt} {scope : Scope} {kws : List (Str × V)} {fd : FuncData} {N ps : List Str} {b : Ss} {run : List D → R DL}
    (md : Md K mg gis) (hk : 1 ≤ k) (h : TbOk P w K mg base k (tabT K (caOf K exs) gis rows)) (h0 : ∀ r ∈ rows, r.2.2.dfs = []) (xo : XOk P w K mg exs) (F : FunD K nm qual params body scope [] kws (ga K name) fd) (D : DefOk N ps scope body b) (hb : Binds K fd ps []) (hm : mg name = some (.ref (ga K name)))
    (hlen : ∀ ds, run ds ≠ .stuck → ds.length = ps.length) (hrun : ∀ ds, run ds ≠ .stuck → ∃ h F, outOf (execs (tabF gis exs rows) h F b (startE N ds)) = run ds) :
    TbOk P w K mg base (k + 1) (tabT K (caOf K exs) gis ((name, ps, ⟨run, []⟩) :: rows)) := by
  have e := fd_eq F
  refine tab_cons h hm F.kp (by rw [e]; exact hb) ?_
  rw [e]
  obtain ⟨j, rfl⟩ : ∃ j, k = j + 1 := ⟨k - 1, by omega⟩
  exact fn_run F D h (fun cdv A outer s H E hr => xo _ j rfl rfl rfl rfl hr.rm) (fi_ok (fun x d e => by obtain ⟨_, _, _, r⟩ := md.gis x d e; exact r) h0) ext_ok hlen hrun
theorem tab_try {name nm qual : Str} {params : Arguments} {body : List Stmt} {scope : Scope} {kws : List (Str × V)} {fd : FuncData} {N ps : List Str} {t : TryT} {run : List D → R DL} {sb : Str → Str → Bool}
    (md : Md K mg gis) (hk : 1 ≤ k) (h : TbOk P w K mg base k (tabT K (caOf K exs) gis rows)) (h0 : ∀ r ∈ rows, r.2.2.dfs = []) (xo : XOk P w K mg exs) (F : FunD K nm qual params body scope [] kws (ga K name) fd) (fs : FnScope N ps scope) (ht : trTry N scope body = some t) (hb : Binds K fd ps []) (hm : mg name = some (.ref (ga K name)))
    (hmx : ∀ x ∈ exs, mg x = some (.ref (ga K x))) (mI : mg "isinstance" = none) (hxs : ∀ C ∈ exs, XcOk K (ga K) sb t.x t.cs C)
    (hg : (exs.contains t.x && (t.cs.all (fun q => exs.contains q.2) && (decide (t.ie < N.length) && (decide (t.n < N.length) && (decide (t.i < N.length) && (decide (t.j < N.length) && (decide (t.ie ≠ t.n) && (decide (t.i ≠ t.j) && (decide (t.i ∈ t.own) && (decide (t.j ∈ t.own) && (decide (t.cs.length ≤ 40) && t.cs.all fun c => decide (c.1.length ≤ 1000)))))))))))) = true)
    (hlen : ∀ ds, run ds ≠ .stuck → ds.length = ps.length) (hrun : ∀ ds, run ds ≠ .stuck → ∃ h F, outOf (outTry exs sb t.cs (fun ρ => execs (tabF gis exs rows) h F t.b2 ρ) (execs (tabF gis exs rows) h F t.b (startE N ds))) = run ds) :
    TbOk P w K mg base (k + 1) (tabT K (caOf K exs) gis ((name, ps, ⟨run, []⟩) :: rows)) := by
  have e := fd_eq F
  refine tab_cons h hm F.kp (by rw [e]; exact hb) ?_
  rw [e]
  obtain ⟨j, rfl⟩ : ∃ j, k = j + 1 := ⟨k - 1, by omega⟩
  obtain ⟨g1, hg⟩ := Bool.and_eq_true_iff.mp hg
  obtain ⟨g2, hg⟩ := Bool.and_eq_true_iff.mp hg
  exact try_run (ad := ga K) (sb := sb) F fs ht h (fun cdv A outer s H E pn xe hr => xo _ j rfl rfl rfl rfl hr.rm) (fun cdv A outer s H E hr => xo _ j rfl rfl rfl rfl hr.rm) (fi_ok (fun x d e => by obtain ⟨_, _, _, r⟩ := md.gis x d e; exact r) h0) ext_ok
    (hmx _ (List.contains_iff_mem.mp g1)) (fun q hq => hmx _ (List.contains_iff_mem.mp (List.all_eq_true.mp g2 q hq))) mI (fun C hC => ⟨hxs C hC, if_pos (List.contains_iff_mem.mpr hC)⟩) hg hlen hrun
/-- the law's def: it gives True -/
theorem spF_law {run : List D → R DL} {H : Hp} {a : Addr} {ns : List Int} {l : Lv} (hS : SqL K H a (ns.map V.int)) (h : run [.nd .lk (ns.map D.int)] = .ok (.bl true, l)) : spF K ca run [.ref a] H (fun v _ => v = .bl true) fun _ _ _ => False := by
  have hr : ∀ ns : List Int, Reps K ca (fun _ => False) H (.n 0) (ns.map V.int) (ns.map D.int) [] := fun ns => by
    induction ns with
    | nil => exact .nil
    | cons i r ih => exact .cons (A := []) (B := []) (.int _ _) ih
  refine ⟨_, fun _ => False, fun _ z => z.elim, .cons (A := []) (B := []) (.sh (k := .lk) (ds := ns.map D.int) rfl ?_ (hr ns)) .nil, ?_⟩
  · rcases hS with h | ⟨o, its, n, h⟩
    · exact .inl ⟨h, fun _ z => z⟩
    · exact .inr ⟨o, its, n, h⟩
  · rw [h]
    intro v H' A q
    have := q.rep
    cases this
    rfl
/-- the errors' classes, as the head tells them -/
theorem xc_of {fa : List He.Fa} {fn : List He.DefD} {file : Str} {ex : PySem.W.Frag → Bool} {ini : He.DefD} {kits : List (Str × Str × Bool)} {sb : Str → Str → Bool} {x : Str} {cs : List (Str × Str)} (c : SaysM fa fn file exs ex ini K) (hex : (kits.all (subB K) && exs.all (isB K)) = true)
    (hk : (exs.all fun C => decide ((C, x, true) ∈ kits) && cs.all fun q => decide ((C, q.2, sb C q.2) ∈ kits)) = true) : ∀ C ∈ exs, XcOk K (ga K) sb x cs C := by
  intro C hC
  obtain ⟨e1, e2⟩ := Bool.and_eq_true_iff.mp hex
  obtain ⟨h1, h2⟩ := Bool.and_eq_true_iff.mp (List.all_eq_true.mp hk C hC)
  obtain ⟨i1, i2, i3, i4⟩ := isB_ok (List.all_eq_true.mp e2 C hC)
  obtain ⟨s1, s2⟩ := Bool.and_eq_true_iff.mp (List.all_eq_true.mp e1 _ (of_decide_eq_true h1))
  refine ⟨of_decide_eq_true s1, i4, i2, i3, (c.exc hC).1.no, fun q hq => ?_⟩
  obtain ⟨t1, t2⟩ := Bool.and_eq_true_iff.mp (List.all_eq_true.mp e1 _ (of_decide_eq_true (List.all_eq_true.mp h2 q hq)))
  exact of_decide_eq_true t2
end
end M

/-! MiniHw: what a def makes, by the evaluator; the rules for calls by the table. -/
namespace M
open PySem PySem.Spec PyProof.Rows L2
open He (SaysD)
noncomputable def runOf (Φ : Fi) (h : Nat → Nat) (F : List D → Nat) (N : List Str) (b : Ss) (n : Nat) (ds : List D) : R DL := if ds.length = n then outOf (execs Φ h (F ds) b (startE N ds)) else .stuck
noncomputable def runTry (Φ : Fi) (h : Nat → Nat) (F : List D → Nat) (N : List Str) (exs : List Str) (sb : Str → Str → Bool) (t : TryT) (n : Nat) (ds : List D) : R DL :=
  if ds.length = n then outOf (outTry exs sb t.cs (fun ρ => execs Φ h (F ds) t.b2 ρ) (execs Φ h (F ds) t.b (startE N ds))) else .stuck
theorem runOf_len {Φ : Fi} {h : Nat → Nat} {F : List D → Nat} {N : List Str} {b : Ss} {n : Nat} (ds : List D) (hs : runOf Φ h F N b n ds ≠ .stuck) : ds.length = n := Classical.byContradiction fun c => hs (if_neg c)
theorem runOf_ok {Φ : Fi} {h : Nat → Nat} {F : List D → Nat} {N : List Str} {b : Ss} {n : Nat} (ds : List D) (hs : runOf Φ h F N b n ds ≠ .stuck) : ∃ h' F', outOf (execs Φ h' F' b (startE N ds)) = runOf Φ h F N b n ds :=
  ⟨h, F ds, (if_pos (runOf_len ds hs)).symm⟩
theorem runTry_len {Φ : Fi} {h : Nat → Nat} {F : List D → Nat} {N : List Str} {exs : List Str} {sb : Str → Str → Bool} {t : TryT} {n : Nat} (ds : List D) (hs : runTry Φ h F N exs sb t n ds ≠ .stuck) : ds.length = n := Classical.byContradiction fun c => hs (if_neg c)
theorem runTry_ok {Φ : Fi} {h : Nat → Nat} {F : List D → Nat} {N : List Str} {exs : List Str} {sb : Str → Str → Bool} {t : TryT} {n : Nat} (ds : List D) (hs : runTry Φ h F N exs sb t n ds ≠ .stuck) :
    ∃ h' F', outOf (outTry exs sb t.cs (fun ρ => execs Φ h' F' t.b2 ρ) (execs Φ h' F' t.b (startE N ds))) = runTry Φ h F N exs sb t n ds :=
  ⟨h, F ds, (if_pos (runTry_len ds hs)).symm⟩
theorem runOf_at {Φ : Fi} {h : Nat → Nat} {F : List D → Nat} {N : List Str} {b : Ss} {n : Nat} {ds : List D} {r : R DL} (hl : ds.length = n) (e : outOf (execs Φ h (F ds) b (startE N ds)) = r) : runOf Φ h F N b n ds = r := (if_pos hl).trans e
theorem blt_tab {gis : List (Str × D)} {exs : List Str} {rows : List TR} (h : (rows.all fun r => !bltN r.1) = true) : Blt (tabF gis exs rows) := by
  intro f hf
  show (findR rows f).map (·.2.2) = none
  have : findR rows f = none := by
    unfold findR
    rw [List.find?_eq_none]
    intro r hr hc
    have := List.all_eq_true.mp h r hr
    rw [of_decide_eq_true hc, hf] at this
    cases this
  rw [this]
  rfl
theorem fn_hit {gis : List (Str × D)} {exs : List Str} {rows : List TR} {f : Str} {r : TR} (h : findR rows f = some r) : (tabF gis exs rows).fn f = some r.2.2 := by
  show (findR rows f).map (·.2.2) = _
  rw [h]
  rfl
theorem find_0 {rows : List TR} {f : Str} {ps : List Str} {ff : FF} : findR ((f, ps, ff) :: rows) f = some (f, ps, ff) := by
  unfold findR
  rw [List.find?_cons]
  simp
theorem find_s {rows : List TR} {f g : Str} {ps : List Str} {ff : FF} {r : TR} (hne : g ≠ f) (h : findR rows f = some r) : findR ((g, ps, ff) :: rows) f = some r := by
  unfold findR at h ⊢
  rw [List.find?_cons]
  have : decide (g = f) = false := decide_eq_false hne
  simp only [this]
  exact h
theorem callD1 {run : List D → R DL} {xs : List DL} : callD ⟨run, []⟩ xs = (run (xs.map (·.1))).bind fun r => .ok (r.1, callL xs r.2) := by
  unfold callD
  rw [List.append_nil]
theorem dfs_nil : ∀ r ∈ ([] : List TR), r.2.2.dfs = [] := fun _ h => nomatch h
theorem dfs_cons {rows : List TR} {f : Str} {ps : List Str} {run : List D → R DL} (h : ∀ r ∈ rows, r.2.2.dfs = []) : ∀ r ∈ ((f, ps, ⟨run, []⟩) :: rows : List TR), r.2.2.dfs = [] := fun r hr => by
  rcases List.mem_cons.mp hr with rfl | hr
  · rfl
  · exact h r hr
/-! loops -/
/-- a loop that builds a value up -/
theorem loop_fold {α β : Type} {g : G} {b : En → Out} (φ : β → D) (st : α → En → Prop) (f : α → β → α) : ∀ (xs : List β) (a : α) (ρ : En), st a ρ → (∀ a ρ x, x ∈ xs → st a ρ → ∃ ρ1 ρ2, bdG g (φ x) (.n 0) ρ = .ok ρ1 ∧ b ρ1 = .nx ρ2 ∧ st (f a x) ρ2) →
    ∃ ρ', loopF g b (xs.map φ) ρ = .nx ρ' ∧ st (xs.foldl f a) ρ'
  | [], a, ρ, h, _ => ⟨ρ, rfl, h⟩
  | x :: r, a, ρ, h, s => by
    obtain ⟨ρ1, ρ2, e1, e2, h2⟩ := s a ρ x List.mem_cons_self h
    obtain ⟨ρ', e3, h3⟩ := loop_fold φ st f r (f a x) ρ2 h2 fun a ρ y hy => s a ρ y (List.mem_cons_of_mem _ hy)
    exact ⟨ρ', by simp only [List.map_cons, loopF, e1, e2, e3], h3⟩
theorem go_fold {α β : Type} {Φ : Fi} {h : Nat → Nat} {F : Nat} {g : G} {it : I} {b r : Ss} {ρ ρ0 : En} {R0 : R DL} {ds : List D} (φ : β → D) (st : α → En → Prop) (f : α → β → α) (xs : List β) (a : α) (e : evIF Φ ρ it = .ok (ρ0, ds)) (hds : ds = xs.map φ) (h0 : st a ρ0)
    (s : ∀ a ρ x, x ∈ xs → st a ρ → ∃ ρ1, bdG g (φ x) (.n 0) ρ = .ok ρ1 ∧ ∃ ρ2, execs Φ h F b ρ1 = .nx ρ2 ∧ st (f a x) ρ2) (fin : ∀ ρ, st (xs.foldl f a) ρ → outOf (execs Φ h F r ρ) = R0) :
    outOf (execs Φ h F (.cons (.forS g it b) r) ρ) = R0 := by
  obtain ⟨ρ', e1, h1⟩ := loop_fold (g := g) (b := execs Φ h F b) φ st f xs a ρ0 h0 fun a ρ x hx hp => by
    obtain ⟨ρ1, e1, ρ2, e2, h2⟩ := s a ρ x hx hp
    exact ⟨ρ1, ρ2, e1, e2, h2⟩
  simp only [execs, exec, e, toOut, hds, e1]
  exact fin ρ' h1
/-- the same within a body: what the statement gives -/
theorem ex_fold {α β : Type} {Φ : Fi} {h : Nat → Nat} {F : Nat} {g : G} {it : I} {b : Ss} {ρ ρ0 : En} {ds : List D} (φ : β → D) (st : α → En → Prop) (f : α → β → α) (xs : List β) (a : α) (e : evIF Φ ρ it = .ok (ρ0, ds)) (hds : ds = xs.map φ) (h0 : st a ρ0)
    (s : ∀ a ρ x, x ∈ xs → st a ρ → ∃ ρ1, bdG g (φ x) (.n 0) ρ = .ok ρ1 ∧ ∃ ρ2, execs Φ h F b ρ1 = .nx ρ2 ∧ st (f a x) ρ2) : ∃ ρ', exec Φ h F (.forS g it b) ρ = .nx ρ' ∧ st (xs.foldl f a) ρ' := by
  obtain ⟨ρ', e1, h1⟩ := loop_fold (g := g) (b := execs Φ h F b) φ st f xs a ρ0 h0 fun a ρ x hx hp => by
    obtain ⟨ρ1, e1, ρ2, e2, h2⟩ := s a ρ x hx hp
    exact ⟨ρ1, ρ2, e1, e2, h2⟩
  exact ⟨ρ', by simp only [exec, e, toOut, hds, e1], h1⟩
/-- a loop that looks each over: it goes on, or it errs or returns -/
theorem loop_chk {β : Type} {g : G} {b : En → Out} (φ : β → D) (P : En → Prop) (f : β → Option Out) : ∀ (xs : List β) (ρ : En), P ρ → (∀ x ∈ xs, ∀ o, f x = some o → ∀ ρ', o ≠ .nx ρ') → (∀ x ∈ xs, ∀ ρ, P ρ → ∃ ρ1, bdG g (φ x) (.n 0) ρ = .ok ρ1 ∧ (f x = none → ∃ ρ2, b ρ1 = .nx ρ2 ∧ P ρ2) ∧ (∀ o, f x = some o → b ρ1 = o)) →
    (xs.findSome? f = none → ∃ ρ', loopF g b (xs.map φ) ρ = .nx ρ' ∧ P ρ') ∧ (∀ o, xs.findSome? f = some o → loopF g b (xs.map φ) ρ = o)
  | [], ρ, h, _, _ => ⟨fun _ => ⟨ρ, rfl, h⟩, fun o e => nomatch e⟩
  | x :: r, ρ, h, hn, s => by
    obtain ⟨ρ1, e1, s1, s2⟩ := s x List.mem_cons_self ρ h
    cases hf : f x with
    | none =>
      obtain ⟨ρ2, e2, h2⟩ := s1 hf
      have ih := loop_chk φ P f r ρ2 h2 (fun y hy => hn y (List.mem_cons_of_mem _ hy)) fun y hy => s y (List.mem_cons_of_mem _ hy)
      simp only [List.findSome?_cons, hf, List.map_cons, loopF, e1, e2]
      exact ih
    | some o =>
      have e2 := s2 o hf
      have hno := hn x List.mem_cons_self o hf
      refine ⟨fun e => ?_, fun o' e => ?_⟩
      · simp only [List.findSome?_cons, hf] at e
        cases e
      · simp only [List.findSome?_cons, hf, Option.some.injEq] at e
        subst e
        cases o with
        | nx ρ' => exact absurd rfl (hno ρ')
        | ret x => simp only [List.map_cons, loopF, e1, e2]
        | err C x => simp only [List.map_cons, loopF, e1, e2]
        | stuck => simp only [List.map_cons, loopF, e1, e2]
/-! comprehensions -/
theorem lc_map {β : Type} {bd : D → R En} {t : En → R Bool} {f : En → R DL} (φ : β → D) (y : β → DL) : ∀ (xs : List β), (∀ x ∈ xs, ∃ η, bd (φ x) = .ok η ∧ t η = .ok true ∧ f η = .ok (y x) ∧ isBo (y x) = false) → lcR bd t f (xs.map φ) = .ok (xs.map fun x => ((y x).1, nl (y x).1 (y x).2))
  | [], _ => rfl
  | x :: r, h => by
    obtain ⟨η, e1, e2, e3, e4⟩ := h x List.mem_cons_self
    have ih := lc_map (bd := bd) (t := t) (f := f) φ y r fun z hz => h z (List.mem_cons_of_mem _ hz)
    simp only [List.map_cons, lcR, e1, e2, e3, e4, bind_o, if_true, Bool.false_eq_true, if_false, ih]
theorem mnL_sc : ∀ (xs : List DL), (∀ x ∈ xs, x.1.sc = true) → mnL xs = .al
  | [], _ => rfl
  | x :: r, h => by
    have h1 := h x List.mem_cons_self
    have h2 := mnL_sc r fun y hy => h y (List.mem_cons_of_mem _ hy)
    simp only [mnL, h2, nl, h1, if_true]
    try rfl
theorem dsp_sc (xs : List DL) (h : ∀ x ∈ xs, x.1.sc = true) : dsp xs = .al := by
  unfold dsp
  rw [mnL_sc xs h]
  try rfl
/-! the head's facts, asked by the list -/
open He (ga fAd)
def gloB (fa : List He.Fa) (x : Str) : Bool := fa.any fun f => match f with
  | .glo y => decide (y = x)
  | _ => false
def freeB (fa : List He.Fa) (x : Str) : Bool := fa.any fun f => match f with
  | .free y => decide (y = x)
  | _ => false
def intB (fa : List He.Fa) (x : Str) (i : Int) : Bool := fa.any fun f => match f with
  | .int y j => decide (y = x) && decide (j = i)
  | _ => false
section
variable {K : PySem.W.Frag} {h : Heap} {mg : Str → Option Value} {fa : List He.Fa} {fn : List He.DefD}
theorem fact_mem (c : SaysD fa fn K) {f : He.Fa} (h : f ∈ fa) : f.ok K = true := by
  obtain ⟨i, hi, e⟩ := List.getElem_of_mem h
  exact c.fact i (f := f) (by rw [List.getElem?_eq_getElem hi, e])
theorem glo_of (X : K.In h) (G : h.Ns mainGlobals mg) (c : SaysD fa fn K) {x : Str} (hb : gloB fa x = true) : mg x = some (.ref (ga K x)) := by
  obtain ⟨f, hf, e⟩ := List.any_eq_true.mp hb
  split at e
  · have e := of_decide_eq_true e
    subst e
    exact He.glo_ok X G (fact_mem c hf)
  · cases e
theorem md_free (X : K.In h) (G : h.Ns mainGlobals mg) (c : SaysD fa fn K) {x : Str} (hb : freeB fa x = true) : mg x = none := by
  obtain ⟨f, hf, e⟩ := List.any_eq_true.mp hb
  split at e
  · have e := of_decide_eq_true e
    subst e
    exact He.free_ok X G (fact_mem c hf)
  · cases e
theorem int_of (X : K.In h) (G : h.Ns mainGlobals mg) (c : SaysD fa fn K) {x : Str} {i : Int} (hb : intB fa x i = true) : ∃ t, mg x = some (.int i t) := by
  obtain ⟨f, hf, e⟩ := List.any_eq_true.mp hb
  split at e
  · obtain ⟨e1, e2⟩ := Bool.and_eq_true_iff.mp e
    have e1 := of_decide_eq_true e1
    have e2 := of_decide_eq_true e2
    subst e1 e2
    exact He.int_ok X G (fact_mem c hf)
  · cases e
def bltNames : List Str := ["len", "int", "abs", "max", "min", "list", "tuple", "sum", "any", "all", "str", "repr", "sorted", "range", "enumerate", "zip"]
theorem blt_names {x : Str} (h : (blt K x).isSome = true) : x ∈ bltNames := by
  refine Classical.byContradiction fun n => ?_
  have e : ∀ y ∈ bltNames, x ≠ y := fun y hy z => n (z ▸ hy)
  unfold blt at h
  rw [if_neg (e "len" (by simp [bltNames])), if_neg (e "int" (by simp [bltNames])), if_neg (e "abs" (by simp [bltNames])), if_neg (e "max" (by simp [bltNames])), if_neg (e "min" (by simp [bltNames])), if_neg (e "list" (by simp [bltNames])), if_neg (e "tuple" (by simp [bltNames])), if_neg (e "sum" (by simp [bltNames])), if_neg (e "any" (by simp [bltNames])), if_neg (e "all" (by simp [bltNames])), if_neg (e "str" (by simp [bltNames])), if_neg (e "repr" (by simp [bltNames])), if_neg (e "sorted" (by simp [bltNames]))] at h
  cases h
theorem look_mem {α β : Type} [BEq α] [LawfulBEq α] {l : List (α × β)} {x : α} {v : β} (h : l.lookup x = some v) : (x, v) ∈ l := by
  induction l with
  | nil => cases h
  | cons p r ih =>
    obtain ⟨y, u⟩ := p
    rw [List.lookup_cons] at h
    split at h
    · rename_i q
      cases h
      rw [eq_of_beq q]
      exact List.mem_cons_self
    · exact List.mem_cons_of_mem _ (ih h)
theorem md_of (X : K.In h) (G : h.Ns mainGlobals mg) (c : SaysD fa fn K) {gis : List (Str × D)} (h1 : bltNames.all (freeB fa) = true) (h2 : gis.all (topB K) = true) : Md K mg gis := by
  have fr : ∀ x ∈ bltNames, mg x = none := fun x hx => md_free X G c (List.all_eq_true.mp h1 x hx)
  refine ⟨fun x i hi => gv_ok X G (List.all_eq_true.mp h2 (x, i) (look_mem hi)), fun x hx => fr x (blt_names hx), fr _ (by simp [bltNames]), fr _ (by simp [bltNames]), fr _ (by simp [bltNames])⟩
theorem fn_hitT {ca : CA} {gis : List (Str × D)} {rows : List TR} {f : Str} {r : TR} (h : findR rows f = some r) : (tabT K ca gis rows).fn f = some (feOf K ca r) := by
  show (findR rows f).map (feOf K ca) = _
  rw [h]
  rfl
theorem binds_ini {fd : FuncData} {ps : Arguments} (e1 : fd.params = ps) (e2 : fd.defaults = .none) {p1 p2 : Pos} (hp : ps = ⟨[], [⟨"self", none, p1⟩, ⟨"at", none, p2⟩], none, [], [], none, []⟩) : Binds K fd [("self" : Str), ("at" : Str)] [] := by
  subst hp
  refine .all fun us hl => ?_
  obtain ⟨name, qual, params, body, scope, gl, cl, df, kd, doc, pm, an, code, ct, bl⟩ := fd
  dsimp only at e1 e2
  subst e1 e2
  exact match us, hl with
  | [_, _], _ => rfl
end
end M

/-! MiniHx: rules to reckon with lists of ints. -/
namespace M
open PySem PySem.Spec PyProof.Rows L2
theorem flat_int : ∀ {xs : List Int}, flat (xs.map D.int) = true
  | [] => rfl
  | x :: r => by
    show (D.sc (.int x) && flat (r.map D.int)) = true
    rw [flat_int]
    rfl
theorem pys_int : ∀ {xs : List Int}, D.pys (xs.map D.int) = xs.map PyData.int
  | [] => rfl
  | x :: r => by
    show (D.int x).py :: D.pys (r.map D.int) = _
    rw [pys_int]
    rfl
theorem okEs_int : ∀ {xs : List Int}, D.okEs (xs.map D.int) = true
  | [] => rfl
  | x :: r => by
    show (D.okE (.int x) && D.okEs (r.map D.int)) = true
    rw [okEs_int]
    rfl
theorem okE_lst {ds : List D} : (D.nd .lst ds).okE = D.okEs ds := rfl
theorem okE_tup {ds : List D} : (D.nd .tup ds).okE = D.okEs ds := rfl
theorem py_lst {ds : List D} : (D.nd .lst ds).py = .list (D.pys ds) := rfl
theorem py_tup {ds : List D} : (D.nd .tup ds).py = .tuple (D.pys ds) := rfl
theorem depthAll_int : ∀ {xs : List Int}, PyData.depthAll (xs.map PyData.int) = 0
  | [] => rfl
  | x :: r => by
    show max (PyData.depth (.int x)) (PyData.depthAll (r.map PyData.int)) = 0
    rw [depthAll_int]
    rfl
theorem depth_int {xs : List Int} : PyData.depth (.list (xs.map PyData.int)) = 1 := by
  show PyData.depthAll (xs.map PyData.int) + 1 = 1
  rw [depthAll_int]
theorem eqvAll_int : ∀ {xs ys : List Int}, PyData.eqvAll (xs.map PyData.int) (ys.map PyData.int) = decide (xs = ys)
  | [], [] => rfl
  | [], _ :: _ => rfl
  | _ :: _, [] => rfl
  | x :: r, y :: q => by
    show ((x == y) && PyData.eqvAll (r.map PyData.int) (q.map PyData.int)) = _
    rw [eqvAll_int, show (x == y) = decide (x = y) from rfl, ← Bool.decide_and]
    congr 1
    simp
theorem eqv_int {xs ys : List Int} : PyData.eqv (.list (xs.map PyData.int)) (.list (ys.map PyData.int)) = decide (xs = ys) := eqvAll_int
/-- lists of ints compared -/
theorem ne_ints {xs ys : List Int} : opC .ne (.nd .lst (xs.map D.int)) (.nd .lst (ys.map D.int)) = .ok (.bl (!decide (xs = ys))) := by
  rw [c_ne_nd, py_lst, py_lst, pys_int, pys_int, eqv_int, okE_lst, okE_lst, okEs_int, okEs_int, depth_int, depth_int]
  exact gd_pos ⟨rfl, rfl, by decide, by decide⟩
theorem eq_ints {xs ys : List Int} : opC .eq (.nd .lst (xs.map D.int)) (.nd .lst (ys.map D.int)) = .ok (.bl (decide (xs = ys))) := by
  rw [c_eq_nd, py_lst, py_lst, pys_int, pys_int, eqv_int, okE_lst, okE_lst, okEs_int, okEs_int, depth_int, depth_int]
  exact gd_pos ⟨rfl, rfl, by decide, by decide⟩
/-! repr -/
theorem textFrom_le (m : Nat) : ∀ (ts : List Str) (k : Nat) (acc : Str), (∀ t ∈ ts, t.length ≤ m) → (textFrom k acc ts).length ≤ acc.length + ts.length * (m + 2)
  | [], k, acc, _ => by
    show acc.length ≤ _
    omega
  | t :: r, k, acc, h => by
    have h1 := h t List.mem_cons_self
    have ih := textFrom_le m r (k + 1) (acc ++ (if k > 0 then ", " else "" : String) ++ t) fun y hy => h y (List.mem_cons_of_mem _ hy)
    have e : (acc ++ (if k > 0 then ", " else "" : String) ++ t).length = acc.length + (if k > 0 then 2 else 0) + t.length := by
      rw [strLen_append, strLen_append]
      split <;> rfl
    rw [e] at ih
    have h2 : (if k > 0 then 2 else 0 : Nat) ≤ 2 := by split <;> omega
    show (textFrom (k + 1) _ r).length ≤ _
    rw [List.length_cons, Nat.add_mul, Nat.one_mul]
    refine Nat.le_trans ih ?_
    omega
theorem showable_int : ∀ {xs : List Int}, (∀ x ∈ xs, x.natAbs < 2 ^ 64) → PyData.showableAll (xs.map PyData.int) = true
  | [], _ => rfl
  | x :: r, h => by
    show (PyData.showable (.int x) && PyData.showableAll (r.map PyData.int)) = true
    rw [showable_int fun y hy => h y (List.mem_cons_of_mem _ hy), Bool.and_true]
    show decide (x.natAbs.log2 < 1920) = true
    refine decide_eq_true ?_
    have hx := h x List.mem_cons_self
    by_cases c : x.natAbs = 0
    · rw [c]; decide
    · have := (Nat.log2_lt c).mpr hx
      omega
theorem shownAll_int : ∀ {xs : List Int}, PyData.shownAll (xs.map PyData.int) = xs.map fun x => (toString x : Str)
  | [] => rfl
  | x :: r => by
    show PyData.shown (.int x) :: PyData.shownAll (r.map PyData.int) = _
    rw [shownAll_int]
    rfl
/-- repr of a list of ints -/
def shI (xs : List Int) : Str := (PyData.list (xs.map PyData.int)).shown
theorem repr_ints {xs : List Int} {l : Lv} (h : ∀ x ∈ xs, x.natAbs < 2 ^ 64) (hl : xs.length ≤ 10000) : bltD "repr" [(.nd .lst (xs.map D.int), l)] = .ok (.str (shI xs), .al) := by
  rw [b_repr, okE_lst, okEs_int, py_lst, pys_int]
  refine gd_pos ⟨rfl, showable_int h, by rw [depth_int]; decide, ?_⟩
  show (listText (PyData.shownAll (xs.map PyData.int))).length ≤ sizeLine
  rw [shownAll_int]
  unfold listText
  have h1 := textFrom_le 21 (xs.map fun x => (toString x : Str)) 0 "[" fun t ht => by
    obtain ⟨x, hx, rfl⟩ := List.mem_map.mp ht
    have := int_text_length_le10 (a := x) (k := 20) (by decide) (Nat.lt_of_lt_of_le (h x hx) (by decide))
    rw [PySem.ofString_length]
    exact this
  rw [strLen_append]
  rw [List.length_map] at h1
  have e1 : ("[" : Str).length = 1 := by rfl
  have e2 : ("]" : Str).length = 1 := by rfl
  rw [sizeLine_eq]
  have : xs.length * 23 ≤ 10000 * 23 := Nat.mul_le_mul_right _ hl
  omega
/-! indices -/
theorem atI_nat {α : Type} {xs : List α} {k : Nat} : atI xs (k : Int) = xs[k]? := by
  unfold atI ixN
  rw [if_pos (by omega)]
  by_cases c : k < xs.length
  · rw [if_pos (by omega)]
    show xs[(k : Int).toNat]? = _
    rw [Int.toNat_natCast]
  · rw [if_neg (by omega)]
    show none = _
    rw [List.getElem?_eq_none (by omega)]
theorem atI_in {α : Type} {xs : List α} {i : Int} (h0 : 0 ≤ i) (h : i < xs.length) : ∃ x, atI xs i = some x ∧ x ∈ xs := by
  have e : (i.toNat : Int) = i := Int.toNat_of_nonneg h0
  have hl : i.toNat < xs.length := by omega
  refine ⟨xs[i.toNat], ?_, List.getElem_mem hl⟩
  have e2 : atI xs i = xs[i.toNat]? := by rw [← atI_nat, e]
  exact e2.trans (List.getElem?_eq_getElem hl)
theorem atI_map {α β : Type} {f : α → β} {xs : List α} {i : Int} : atI (xs.map f) i = (atI xs i).map f := by
  unfold atI
  rw [List.length_map]
  cases ixN xs.length i with
  | none => rfl
  | some j =>
    show (xs.map f)[j]? = _
    rw [List.getElem?_map]
    rfl
theorem nmin_00 : Nat.min 0 0 = 0 := rfl
theorem nmin_01 : Nat.min 0 1 = 0 := rfl
theorem nmin_10 : Nat.min 1 0 = 0 := rfl
theorem nmin_11 : Nat.min 1 1 = 1 := rfl
theorem wl_int {i : Int} {l : Lv} : wl (.n 1) (.int i, l) = .n 1 := rfl
theorem wl_str {i : Str} {l : Lv} : wl (.n 1) (.str i, l) = .n 1 := rfl
theorem wl_bl {i : Bool} {l : Lv} : wl (.n 1) (.bl i, l) = .n 1 := rfl
theorem wl_non {l : Lv} : wl (.n 1) (.non, l) = .n 1 := rfl
theorem wl_al {d : D} : wl (.n 1) (d, .al) = .n 1 := by
  unfold wl nl
  split <;> rfl
theorem wl_n {k : Kd} {ds : List D} {n : Nat} : wl (.n 1) (.nd k ds, .n n) = .n 1 := by
  show ((Lv.n 0).min (nl (.nd k ds) (.n n))).up = .n 1
  rw [nl_nd]
  show (Lv.n (Nat.min 0 n)).up = .n 1
  rw [show Nat.min 0 n = 0 from Nat.zero_min n]
  rfl
/-! loops within, comprehensions -/
theorem ex_range {Φ : Fi} {h : Nat → Nat} {F : Nat} {g : G} {it : I} {b : Ss} {ρ ρ0 : En} {n : Nat} {φ : Nat → D} (P : Nat → En → Prop) (e : evIF Φ ρ it = .ok (ρ0, (List.range n).map φ)) (h0 : P 0 ρ0)
    (st : ∀ i ρ, i < n → P i ρ → ∃ ρ1, bdG g (φ i) (.n 0) ρ = .ok ρ1 ∧ ∃ ρ2, execs Φ h F b ρ1 = .nx ρ2 ∧ P (i + 1) ρ2) : ∃ ρ', exec Φ h F (.forS g it b) ρ = .nx ρ' ∧ P n ρ' := by
  obtain ⟨ρ', e1, h1⟩ := loop_range (g := g) (b := execs Φ h F b) P h0 fun i ρ c hp => by
    obtain ⟨ρ1, e1, ρ2, e2, h2⟩ := st i ρ c hp
    exact ⟨ρ1, ρ2, e1, e2, h2⟩
  exact ⟨ρ', by simp only [M.exec, e, toOut, e1], h1⟩
theorem ex_list {Φ : Fi} {h : Nat → Nat} {F : Nat} {g : G} {it : I} {b : Ss} {ρ ρ0 : En} {ds : List D} (P : Nat → En → Prop) (e : evIF Φ ρ it = .ok (ρ0, ds)) (h0 : P 0 ρ0)
    (st : ∀ i d ρ, ds[i]? = some d → P i ρ → ∃ ρ1, bdG g d (.n 0) ρ = .ok ρ1 ∧ ∃ ρ2, execs Φ h F b ρ1 = .nx ρ2 ∧ P (i + 1) ρ2) : ∃ ρ', exec Φ h F (.forS g it b) ρ = .nx ρ' ∧ P ds.length ρ' := by
  obtain ⟨ρ', e1, h1⟩ := loop_inv (g := g) (b := execs Φ h F b) P ds 0 ρ0 h0 fun i d ρ c hp => by
    rw [Nat.zero_add] at hp ⊢
    obtain ⟨ρ1, e1, ρ2, e2, h2⟩ := st i d ρ c hp
    exact ⟨ρ1, ρ2, e1, e2, h2⟩
  rw [Nat.zero_add] at h1
  exact ⟨ρ', by simp only [M.exec, e, toOut, e1], h1⟩
theorem lc_pick {β : Type} {bd : D → R En} {t : En → R Bool} {f : En → R DL} (φ : β → D) (p : β → Bool) (y : β → DL) : ∀ (xs : List β), (∀ x ∈ xs, ∃ η, bd (φ x) = .ok η ∧ t η = .ok (p x) ∧ (p x = true → f η = .ok (y x) ∧ isBo (y x) = false)) →
    lcR bd t f (xs.map φ) = .ok ((xs.filter p).map fun x => ((y x).1, nl (y x).1 (y x).2))
  | [], _ => rfl
  | x :: r, h => by
    obtain ⟨η, e1, e2, e3⟩ := h x List.mem_cons_self
    have ih := lc_pick (bd := bd) (t := t) (f := f) φ p y r fun z hz => h z (List.mem_cons_of_mem _ hz)
    cases hp : p x with
    | true =>
      obtain ⟨e3, e4⟩ := e3 hp
      rw [hp] at e2
      simp only [List.map_cons, lcR, e1, e2, e3, e4, bind_o, if_true, Bool.false_eq_true, if_false, ih, List.filter_cons_of_pos hp]
    | false =>
      rw [hp] at e2
      simp only [List.map_cons, lcR, e1, e2, bind_o, Bool.false_eq_true, if_false, ih, List.filter_cons_of_neg (show ¬ p x = true by rw [hp]; exact Bool.false_ne_true)]
theorem ev_lc {β : Type} {Φ : Fi} {own : List Nat} {g : G} {it : I} {c : Es} {elt : E} {η : En} {l : Lv} (φ : β → D) (p : β → Bool) (y : β → DL) (xs : List β) (he : evI Φ it η = .ok (xs.map φ, l)) (hg : inG own g = true)
    (h : ∀ x ∈ xs, ∃ η', bdG g (φ x) l (wipeE η own) = .ok η' ∧ evTs Φ c η' = .ok (p x) ∧ (p x = true → ev Φ elt η' = .ok (y x) ∧ isBo (y x) = false)) (hz : (xs.filter p).length ≤ sizeLine) :
    ev Φ (.lc own g it c elt) η = .ok (.nd .lst ((xs.filter p).map fun x => (y x).1), dsp ((xs.filter p).map fun x => ((y x).1, nl (y x).1 (y x).2))) := by
  have e := lc_pick (bd := fun d => bdG g d l (wipeE η own)) (t := evTs Φ c) (f := ev Φ elt) φ p y xs h
  have ev0 : ev Φ (.lc own g it c elt) η = (evI Φ it η).bind fun its => if inG own g = true then
      (R.pure' (lcR (fun d => bdG g d its.2 (wipeE η own)) (evTs Φ c) (ev Φ elt) its.1)).bind fun xs => gd (xs.length ≤ sizeLine) (.ok (.nd .lst (xs.map (·.1)), dsp xs)) else .stuck := by
    simp only [ev]
  rw [ev0, he, bind_o]
  simp only [hg, if_true]
  rw [e]
  show gd _ _ = _
  rw [gd_pos (by rw [List.length_map]; exact hz), List.map_map]
  rfl
/-- a comprehension without ifs, of scalars -/
theorem ev_lcS {β : Type} {Φ : Fi} {own : List Nat} {g : G} {it : I} {elt : E} {η : En} {l : Lv} (φ : β → D) (y : β → D) (xs : List β) (he : evI Φ it η = .ok (xs.map φ, l)) (hg : inG own g = true)
    (h : ∀ x ∈ xs, ∃ η', bdG g (φ x) l (wipeE η own) = .ok η' ∧ ev Φ elt η' = .ok (y x, .al)) (hs : ∀ x ∈ xs, (y x).sc = true) (hz : xs.length ≤ sizeLine) :
    ev Φ (.lc own g it .nil elt) η = .ok (.nd .lst (xs.map y), .al) := by
  have e := ev_lc (Φ := Φ) (own := own) (g := g) (it := it) (c := .nil) (elt := elt) (η := η) (l := l) φ (fun _ => true) (fun x => (y x, .al)) xs he hg (fun x hx => ?_) (Nat.le_trans (List.length_filter_le _ _) hz)
  · rw [e]
    have : xs.filter (fun _ => true) = xs := List.filter_eq_self.mpr fun _ _ => rfl
    rw [this, dsp_sc]
    intro x hx
    obtain ⟨z, hz, rfl⟩ := List.mem_map.mp hx
    exact hs z hz
  · obtain ⟨η', e1, e2⟩ := h x hx
    exact ⟨η', e1, by simp only [evTs], fun _ => ⟨e2, isBo_al⟩⟩
/-- append, of a list that is one's own -/
theorem sz_lt {n : Nat} (h : n < 1000000) : n < sizeLine := by rw [sizeLine_eq]; omega
end M

/-! MiniHy: what is so behind statements; what is so of what a def gives. -/
namespace M
open PySem PySem.Spec PyProof.Rows L2
def XS (Φ : Fi) (h : Nat → Nat) (F : Nat) (b : Ss) (ρ : En) (Q : En → Prop) : Prop := ∃ ρ2, execs Φ h F b ρ = .nx ρ2 ∧ Q ρ2
def RS (Φ : Fi) (h : Nat → Nat) (F : Nat) (b : Ss) (ρ : En) (Q : DL → Prop) : Prop := ∃ x, outOf (execs Φ h F b ρ) = .ok x ∧ Q x
section
variable {Φ : Fi} {h : Nat → Nat} {F : Nat} {ρ ρ0 ρ1 : En} {s : S} {r a b : Ss} {Q : En → Prop} {Z : DL → Prop} {c : E} {g : G} {it : I}
theorem xs_nil (q : Q ρ) : XS Φ h F .nil ρ Q := ⟨ρ, by simp only [M.execs], q⟩
theorem xs_cons (e : exec Φ h F s ρ = .nx ρ1) (k : XS Φ h F r ρ1 Q) : XS Φ h F (.cons s r) ρ Q := by
  obtain ⟨ρ2, e2, q⟩ := k
  exact ⟨ρ2, by simp only [M.execs, e, e2], q⟩
theorem xs_imp {Q' : En → Prop} (k : XS Φ h F b ρ Q) (i : ∀ ρ, Q ρ → Q' ρ) : XS Φ h F b ρ Q' := by
  obtain ⟨ρ2, e2, q⟩ := k
  exact ⟨ρ2, e2, i _ q⟩
theorem xs_one (k : XS Φ h F b ρ Q) (e : exec Φ h F s ρ = execs Φ h F b ρ) (k2 : ∀ ρ, Q ρ → XS Φ h F r ρ Q') : XS Φ h F (.cons s r) ρ Q' := by
  obtain ⟨ρ2, e2, q⟩ := k
  exact xs_cons (e.trans e2) (k2 _ q)
theorem xs_ift {Q' : En → Prop} (e : evT Φ c (vw ρ) = .ok true) (k : XS Φ h F a ρ Q) (k2 : ∀ ρ, Q ρ → XS Φ h F r ρ Q') : XS Φ h F (.cons (.ifs c a b) r) ρ Q' :=
  xs_one k (by simp only [M.exec, e, toOut, if_true]) k2
theorem xs_iff {Q' : En → Prop} (e : evT Φ c (vw ρ) = .ok false) (k : XS Φ h F b ρ Q) (k2 : ∀ ρ, Q ρ → XS Φ h F r ρ Q') : XS Φ h F (.cons (.ifs c a b) r) ρ Q' :=
  xs_one k (by simp only [M.exec, e, toOut, Bool.false_eq_true, if_false]) k2
theorem xs_range {n : Nat} {φ : Nat → D} {Q' : En → Prop} (P : Nat → En → Prop) (e : evIF Φ ρ it = .ok (ρ0, (List.range n).map φ)) (h0 : P 0 ρ0) (st : ∀ i ρ, i < n → P i ρ → ∃ ρ1, bdG g (φ i) (.n 0) ρ = .ok ρ1 ∧ XS Φ h F b ρ1 (P (i + 1)))
    (k2 : ∀ ρ, P n ρ → XS Φ h F r ρ Q') : XS Φ h F (.cons (.forS g it b) r) ρ Q' := by
  obtain ⟨ρ', e1, q⟩ := ex_range (h := h) (F := F) (g := g) (b := b) P e h0 st
  exact xs_cons e1 (k2 _ q)
theorem xs_list {ds : List D} {Q' : En → Prop} (P : Nat → En → Prop) (e : evIF Φ ρ it = .ok (ρ0, ds)) (h0 : P 0 ρ0) (st : ∀ i d ρ, ds[i]? = some d → P i ρ → ∃ ρ1, bdG g d (.n 0) ρ = .ok ρ1 ∧ XS Φ h F b ρ1 (P (i + 1)))
    (k2 : ∀ ρ, P ds.length ρ → XS Φ h F r ρ Q') : XS Φ h F (.cons (.forS g it b) r) ρ Q' := by
  obtain ⟨ρ', e1, q⟩ := ex_list (h := h) (F := F) (g := g) (b := b) P e h0 st
  exact xs_cons e1 (k2 _ q)
theorem xs_fold {α β : Type} {ds : List D} {Q' : En → Prop} (φ : β → D) (st : α → En → Prop) (f : α → β → α) (xs : List β) (a0 : α) (e : evIF Φ ρ it = .ok (ρ0, ds)) (hds : ds = xs.map φ) (h0 : st a0 ρ0)
    (s : ∀ a ρ x, x ∈ xs → st a ρ → ∃ ρ1, bdG g (φ x) (.n 0) ρ = .ok ρ1 ∧ XS Φ h F b ρ1 (st (f a x))) (k2 : ∀ ρ, st (xs.foldl f a0) ρ → XS Φ h F r ρ Q') : XS Φ h F (.cons (.forS g it b) r) ρ Q' := by
  obtain ⟨ρ', e1, q⟩ := ex_fold (h := h) (F := F) (g := g) (b := b) φ st f xs a0 e hds h0 s
  exact xs_cons e1 (k2 _ q)
theorem rs_nx (e : exec Φ h F s ρ = .nx ρ1) (k : RS Φ h F r ρ1 Z) : RS Φ h F (.cons s r) ρ Z := by
  obtain ⟨x, e2, q⟩ := k
  exact ⟨x, by simp only [M.execs, e]; exact e2, q⟩
theorem rs_ret {x : DL} (e : exec Φ h F s ρ = .ret x) (q : Z x) : RS Φ h F (.cons s r) ρ Z := ⟨x, by simp only [M.execs, e, outOf], q⟩
/-- what a statement leaves, then the rest -/
theorem rs_xs (k : XS Φ h F (.cons s .nil) ρ Q) (k2 : ∀ ρ, Q ρ → RS Φ h F r ρ Z) : RS Φ h F (.cons s r) ρ Z := by
  obtain ⟨ρ2, e, q⟩ := k
  have e1 : exec Φ h F s ρ = .nx ρ2 := by
    simp only [M.execs] at e
    split at e
    · rename_i ρ' e'
      rw [e']
      exact e
    · rename_i o hn
      rw [e] at hn
      exact absurd rfl (hn ρ2)
  exact rs_nx e1 (k2 _ q)
theorem x_asg {i : Nat} {e : E} {x : DL} (he : ev Φ e (vw ρ) = .ok x) (hb : isBo x = false) : exec Φ h F (.asg (.nm i) e) ρ = .nx (setS h ρ i x) := by
  simp only [M.exec, evF_o he hb, toOut]
theorem x_ret {e : E} {x : DL} (hv : ∀ i, e ≠ .var i) (he : ev Φ e (vw ρ) = .ok x) (hb : isBo x = false) : exec Φ h F (.ret e) ρ = .ret (x.1, nl x.1 x.2) := by
  cases e <;> first | exact absurd rfl (hv _) | simp only [M.exec, evF_o he hb, toOut]
theorem ev_bin {o : BO} {a b : E} {η : En} : ev Φ (.bin o a b) η = (ev Φ a η).bind fun x => (ev Φ b η).bind fun y => opB o x y := by simp only [ev]
theorem evT_cmp_o {o : CO} {a b : E} {η : En} {x y : DL} {r : Bool} (h1 : ev Φ a η = .ok x) (h2 : ev Φ b η = .ok y) (h3 : opC o x.1 y.1 = .ok (.bl r)) : evT Φ (.cmp o a b) η = .ok r := by simp only [evT, h1, h2, bind_o, h3]
theorem evIF_of {e : E} {ds : List D} (he : ev Φ e (vw ρ) = .ok (.nd .lst ds, .al)) : evIF Φ ρ (.of e) = .ok (ρ, ds) := by
  unfold evIF
  have : evI Φ (.of e) (vw ρ) = .ok (ds, .n 0) := by
    simp only [evI, he, bind_o, D.asQ]
    rfl
  rw [this]
theorem ev_cmp {o : CO} {a b : E} {η : En} : ev Φ (.cmp o a b) η = (ev Φ a η).bind fun x => (ev Φ b η).bind fun y => obl (opC o x.1 y.1) := by simp only [ev]
theorem x_ret_lc {own : List Nat} {it : I} {c : Es} {elt : E} {x : DL} (he : ev Φ (.lc own g it c elt) (vw ρ) = .ok x) (hb : isBo x = false) : exec Φ h F (.ret (.lc own g it c elt)) ρ = .ret (x.1, nl x.1 x.2) := by
  simp only [M.exec, evF_o he hb, toOut]
theorem go_ret {x : DL} {R0 : R DL} (e : exec Φ h F s ρ = .ret x) (q : R.ok x = R0) : outOf (execs Φ h F (.cons s r) ρ) = R0 := by
  simp only [M.execs, e, outOf]
  exact q
theorem rs_run {N : List Str} {Fu : List D → Nat} {n : Nat} {ds : List D} (hl : ds.length = n) (k : RS Φ h (Fu ds) b (startE N ds) Z) : ∃ x, runOf Φ h Fu N b n ds = .ok x ∧ Z x := by
  obtain ⟨x, e, q⟩ := k
  exact ⟨x, runOf_at hl e, q⟩
end
end M

namespace K07
open PySem L2 M
def gis : List (Str × D) := [("MOST_WHEELS", .int 16), ("TEN", .int 10), ("MOST_COLUMNS", .int 8), ("WAYS", .nd .tk [.str "halves", .str "one by one"])]
def exs : List Str := ["WheelError", "BadManner", "BadNumber", "TooMany"]
def rows0 : List TR := []
theorem z0 : ∀ r ∈ rows0, r.2.2.dfs = [] := dfs_nil
def N_power : List Str := ["base", "many", "found", "_"]
noncomputable def Φ_power : Fi := tabF gis exs rows0
def h_power : Nat → Nat := fun i => if i = 2 then 1 else 0
theorem h_power_0 : h_power 0 = 0 := rfl
theorem h_power_1 : h_power 1 = 0 := rfl
theorem h_power_2 : h_power 2 = 1 := rfl
theorem h_power_3 : h_power 3 = 0 := rfl
def b_power : Ss := (.cons (.asg (.nm 2) (.cst (.int 1))) (.cons (.forS (.nm 3) (.rng1 (.var 1)) (.cons (.asg (.nm 2) (.bin .mul (.var 2) (.var 0))) .nil)) (.cons (.ret (.var 2)) .nil)))
noncomputable def run_power : List D → R DL := runOf Φ_power h_power (fun _ => 0) N_power b_power 2
noncomputable def rows1 : List TR := ("power", ["base", "many"], ⟨run_power, []⟩) :: rows0
theorem z1 : ∀ r ∈ rows1, r.2.2.dfs = [] := dfs_cons z0
theorem B_power : Blt Φ_power := blt_tab (by rfl)
def N_check_wheels : List Str := ["many"]
noncomputable def Φ_check_wheels : Fi := tabF gis exs rows1
def h_check_wheels : Nat → Nat := fun i => 0
theorem h_check_wheels_0 : h_check_wheels 0 = 0 := rfl
def b_check_wheels : Ss := (.cons (.ifs (.no (.chain .le .le (.cst (.int 1)) (.var 0) (.glo "MOST_WHEELS"))) (.cons (.rais "BadNumber" (.var 0)) .nil) .nil) .nil)
noncomputable def run_check_wheels : List D → R DL := runOf Φ_check_wheels h_check_wheels (fun _ => 0) N_check_wheels b_check_wheels 1
noncomputable def rows2 : List TR := ("check_wheels", ["many"], ⟨run_check_wheels, []⟩) :: rows1
theorem z2 : ∀ r ∈ rows2, r.2.2.dfs = [] := dfs_cons z1
theorem B_check_wheels : Blt Φ_check_wheels := blt_tab (by rfl)
theorem g_check_wheels_MOST_WHEELS : Φ_check_wheels.gl "MOST_WHEELS" = some (.int 16) := by rfl
theorem x_check_wheels_BadNumber : Φ_check_wheels.ex "BadNumber" = true := by rfl
def N_showing : List Str := ["base", "many", "number", "left", "found", "_"]
noncomputable def Φ_showing : Fi := tabF gis exs rows2
def h_showing : Nat → Nat := fun i => if i = 4 then 1 else 0
theorem h_showing_0 : h_showing 0 = 0 := rfl
theorem h_showing_1 : h_showing 1 = 0 := rfl
theorem h_showing_2 : h_showing 2 = 0 := rfl
theorem h_showing_3 : h_showing 3 = 0 := rfl
theorem h_showing_4 : h_showing 4 = 1 := rfl
theorem h_showing_5 : h_showing 5 = 0 := rfl
def b_showing : Ss := (.cons (.asg (.nm 3) (.bin .mod (.var 2) (.call "power" (.cons (.var 0) (.cons (.var 1) .nil))))) (.cons (.asg (.nm 4) (.lst .nil)) (.cons (.forS (.nm 5) (.rng1 (.var 1)) (.cons (.ex (.meth (.var 4) "append" (.cons (.bin .mod (.var 3) (.var 0)) .nil))) (.cons (.asg (.nm 3) (.bin .fdiv (.var 3) (.var 0))) .nil))) (.cons (.ret (.var 4)) .nil))))
noncomputable def run_showing : List D → R DL := runOf Φ_showing h_showing (fun _ => 0) N_showing b_showing 3
noncomputable def rows3 : List TR := ("showing", ["base", "many", "number"], ⟨run_showing, []⟩) :: rows2
theorem z3 : ∀ r ∈ rows3, r.2.2.dfs = [] := dfs_cons z2
theorem B_showing : Blt Φ_showing := blt_tab (by rfl)
theorem c_showing_power {ne : Bool} {r : R (List DL)} : callE Φ_showing "power" ne r = r.bind fun xs => callD ⟨run_power, []⟩ xs := callE_f (fn_hit (r := ("power", ["base", "many"], ⟨run_power, []⟩)) (find_s (by decide) find_0))
def N_differences : List Str := ["numbers", "n", "found", "_", "one", "two"]
noncomputable def Φ_differences : Fi := tabF gis exs rows3
def h_differences : Nat → Nat := fun i => if i = 2 then 1 else 0
theorem h_differences_0 : h_differences 0 = 0 := rfl
theorem h_differences_1 : h_differences 1 = 0 := rfl
theorem h_differences_2 : h_differences 2 = 1 := rfl
theorem h_differences_3 : h_differences 3 = 0 := rfl
theorem h_differences_4 : h_differences 4 = 0 := rfl
theorem h_differences_5 : h_differences 5 = 0 := rfl
def b_differences : Ss := (.cons (.asg (.nm 2) (.call "list" (.cons (.var 0) .nil))) (.cons (.forS (.nm 3) (.rng1 (.var 1)) (.cons (.asg (.nm 2) (.lc [4, 5] (.tp (.cons (.nm 4) (.cons (.nm 5) .nil))) (.zip (.var 2) (.sl (.var 2) (.so (.cst (.int 1))) .no)) .nil (.bin .sub (.var 5) (.var 4)))) .nil)) (.cons (.ret (.var 2)) .nil)))
noncomputable def run_differences : List D → R DL := runOf Φ_differences h_differences (fun _ => 0) N_differences b_differences 2
noncomputable def rows4 : List TR := ("differences", ["numbers", "n"], ⟨run_differences, []⟩) :: rows3
theorem z4 : ∀ r ∈ rows4, r.2.2.dfs = [] := dfs_cons z3
theorem B_differences : Blt Φ_differences := blt_tab (by rfl)
def N_value_at : List Str := ["numbers", "x", "found", "factor", "k"]
noncomputable def Φ_value_at : Fi := tabF gis exs rows4
def h_value_at : Nat → Nat := fun i => if i = 2 then 1 else 0
theorem h_value_at_0 : h_value_at 0 = 0 := rfl
theorem h_value_at_1 : h_value_at 1 = 0 := rfl
theorem h_value_at_2 : h_value_at 2 = 1 := rfl
theorem h_value_at_3 : h_value_at 3 = 0 := rfl
theorem h_value_at_4 : h_value_at 4 = 0 := rfl
def b_value_at : Ss := (.cons (.asg (.tp (.cons (.nm 2) (.cons (.nm 3) .nil))) (.tup (.cons (.cst (.int 0)) (.cons (.cst (.int 1)) .nil)))) (.cons (.forS (.nm 4) (.rng1 (.call "len" (.cons (.var 0) .nil))) (.cons (.asg (.nm 2) (.bin .add (.var 2) (.bin .mul (.var 3) (.idx (.call "differences" (.cons (.var 0) (.cons (.var 4) .nil))) (.cst (.int 0)))))) (.cons (.asg (.nm 3) (.bin .fdiv (.bin .mul (.var 3) (.bin .sub (.var 1) (.var 4))) (.bin .add (.var 4) (.cst (.int 1))))) .nil))) (.cons (.ret (.var 2)) .nil)))
noncomputable def run_value_at : List D → R DL := runOf Φ_value_at h_value_at (fun _ => 0) N_value_at b_value_at 2
noncomputable def rows5 : List TR := ("value_at", ["numbers", "x"], ⟨run_value_at, []⟩) :: rows4
theorem z5 : ∀ r ∈ rows5, r.2.2.dfs = [] := dfs_cons z4
theorem B_value_at : Blt Φ_value_at := blt_tab (by rfl)
theorem c_value_at_differences {ne : Bool} {r : R (List DL)} : callE Φ_value_at "differences" ne r = r.bind fun xs => callD ⟨run_differences, []⟩ xs := callE_f (fn_hit (r := ("differences", ["numbers", "n"], ⟨run_differences, []⟩)) find_0)
def N_laid : List Str := ["numbers", "wheels", "manner", "x", "found", "k", "first", "row", "j"]
noncomputable def Φ_laid : Fi := tabF gis exs rows5
def h_laid : Nat → Nat := fun i => if i = 4 then 1 else 0
theorem h_laid_0 : h_laid 0 = 0 := rfl
theorem h_laid_1 : h_laid 1 = 0 := rfl
theorem h_laid_2 : h_laid 2 = 0 := rfl
theorem h_laid_3 : h_laid 3 = 0 := rfl
theorem h_laid_4 : h_laid 4 = 1 := rfl
theorem h_laid_5 : h_laid 5 = 0 := rfl
theorem h_laid_6 : h_laid 6 = 0 := rfl
theorem h_laid_7 : h_laid 7 = 0 := rfl
theorem h_laid_8 : h_laid 8 = 0 := rfl
def b_laid : Ss := (.cons (.ifs (.no (.chain .le .le (.cst (.int 1)) (.call "len" (.cons (.var 0) .nil)) (.glo "MOST_COLUMNS"))) (.cons (.rais "TooMany" (.call "len" (.cons (.var 0) .nil))) .nil) .nil) (.cons (.ex (.call "check_wheels" (.cons (.var 1) .nil))) (.cons (.ifs (.cmp .notin (.var 2) (.glo "WAYS")) (.cons (.rais "BadManner" (.cst (.int 0))) .nil) .nil) (.cons (.asg (.nm 4) (.lst .nil)) (.cons (.forS (.nm 5) (.rng1 (.call "len" (.cons (.var 0) .nil))) (.cons (.asg (.nm 6) (.ife (.cmp .eq (.var 2) (.cst (.str "halves"))) (.bin .sub (.var 3) (.bin .fdiv (.var 5) (.cst (.int 2)))) (.var 3))) (.cons (.asg (.nm 7) (.lc [8] (.nm 8) (.rng1 (.bin .add (.var 5) (.cst (.int 1)))) .nil (.call "value_at" (.cons (.var 0) (.cons (.bin .add (.var 6) (.var 8)) .nil))))) (.cons (.ex (.meth (.var 4) "append" (.cons (.call "showing" (.cons (.glo "TEN") (.cons (.var 1) (.cons (.idx (.call "differences" (.cons (.var 7) (.cons (.var 5) .nil))) (.cst (.int 0))) .nil)))) .nil))) .nil)))) (.cons (.ret (.var 4)) .nil))))))
noncomputable def run_laid : List D → R DL := runOf Φ_laid h_laid (fun _ => 0) N_laid b_laid 4
noncomputable def rows6 : List TR := ("laid", ["numbers", "wheels", "manner", "x"], ⟨run_laid, []⟩) :: rows5
theorem z6 : ∀ r ∈ rows6, r.2.2.dfs = [] := dfs_cons z5
theorem B_laid : Blt Φ_laid := blt_tab (by rfl)
theorem c_laid_check_wheels {ne : Bool} {r : R (List DL)} : callE Φ_laid "check_wheels" ne r = r.bind fun xs => callD ⟨run_check_wheels, []⟩ xs := callE_f (fn_hit (r := ("check_wheels", ["many"], ⟨run_check_wheels, []⟩)) (find_s (by decide) (find_s (by decide) (find_s (by decide) find_0))))
theorem c_laid_differences {ne : Bool} {r : R (List DL)} : callE Φ_laid "differences" ne r = r.bind fun xs => callD ⟨run_differences, []⟩ xs := callE_f (fn_hit (r := ("differences", ["numbers", "n"], ⟨run_differences, []⟩)) (find_s (by decide) find_0))
theorem c_laid_showing {ne : Bool} {r : R (List DL)} : callE Φ_laid "showing" ne r = r.bind fun xs => callD ⟨run_showing, []⟩ xs := callE_f (fn_hit (r := ("showing", ["base", "many", "number"], ⟨run_showing, []⟩)) (find_s (by decide) (find_s (by decide) find_0)))
theorem c_laid_value_at {ne : Bool} {r : R (List DL)} : callE Φ_laid "value_at" ne r = r.bind fun xs => callD ⟨run_value_at, []⟩ xs := callE_f (fn_hit (r := ("value_at", ["numbers", "x"], ⟨run_value_at, []⟩)) find_0)
theorem g_laid_TEN : Φ_laid.gl "TEN" = some (.int 10) := by rfl
theorem g_laid_MOST_COLUMNS : Φ_laid.gl "MOST_COLUMNS" = some (.int 8) := by rfl
theorem g_laid_WAYS : Φ_laid.gl "WAYS" = some (.nd .tk [.str "halves", .str "one by one"]) := by rfl
theorem x_laid_BadManner : Φ_laid.ex "BadManner" = true := by rfl
theorem x_laid_TooMany : Φ_laid.ex "TooMany" = true := by rfl
def N_law_draws : List Str := ["script", "draws", "k", "rest", "turn", "stirred"]
noncomputable def Φ_law_draws : Fi := tabF gis exs rows6
def h_law_draws : Nat → Nat := fun i => if i = 1 then 1 else 0
theorem h_law_draws_0 : h_law_draws 0 = 0 := rfl
theorem h_law_draws_1 : h_law_draws 1 = 1 := rfl
theorem h_law_draws_2 : h_law_draws 2 = 0 := rfl
theorem h_law_draws_3 : h_law_draws 3 = 0 := rfl
theorem h_law_draws_4 : h_law_draws 4 = 0 := rfl
theorem h_law_draws_5 : h_law_draws 5 = 0 := rfl
def b_law_draws : Ss := (.cons (.asg (.nm 1) (.lst .nil)) (.cons (.forS (.nm 2) (.rng1 (.call "min" (.cons (.cst (.int 63)) (.cons (.call "len" (.cons (.var 0) .nil)) .nil)))) (.cons (.asg (.nm 3) (.call "abs" (.cons (.idx (.var 0) (.var 2)) .nil))) (.cons (.ifs (.cmp .ge (.var 3) (.bin .pow (.cst (.int 10)) (.cst (.int 18)))) (.cons (.forS (.nm 4) (.rng1 (.cst (.int 60))) (.cons (.ifs (.cmp .gt (.var 3) (.cst (.int 0))) (.cons (.ex (.meth (.var 1) "append" (.cons (.bin .mod (.call "int" (.cons (.var 3) .nil)) (.cst (.int 65536))) .nil))) (.cons (.asg (.nm 3) (.bin .fdiv (.var 3) (.cst (.int 65536)))) .nil)) .nil) .nil)) .nil) (.cons (.asg (.nm 5) (.bin .mod (.call "int" (.cons (.bin .add (.bin .mul (.var 3) (.cst (.int 48271))) (.bin .mul (.bin .add (.var 2) (.cst (.int 1))) (.cst (.int 69621)))) .nil)) (.cst (.int 2147483647)))) (.cons (.asg (.nm 5) (.bin .mod (.call "int" (.cons (.bin .add (.bin .add (.bin .mul (.var 5) (.cst (.int 16807))) (.bin .mul (.cst (.int 11)) (.var 2))) (.cst (.int 5))) .nil)) (.cst (.int 2147483629)))) (.cons (.ex (.meth (.var 1) "append" (.cons (.bin .mod (.call "int" (.cons (.var 5) .nil)) (.cst (.int 65536))) .nil))) (.cons (.ex (.meth (.var 1) "append" (.cons (.bin .mod (.call "int" (.cons (.bin .fdiv (.var 5) (.cst (.int 65536))) .nil)) (.cst (.int 32768))) .nil))) .nil))))) .nil))) (.cons (.ret (.var 1)) .nil)))
noncomputable def run_law_draws : List D → R DL := runOf Φ_law_draws h_law_draws (fun _ => 0) N_law_draws b_law_draws 1
noncomputable def rows7 : List TR := ("_law_draws", ["script"], ⟨run_law_draws, []⟩) :: rows6
theorem z7 : ∀ r ∈ rows7, r.2.2.dfs = [] := dfs_cons z6
theorem B_law_draws : Blt Φ_law_draws := blt_tab (by rfl)
def N_law_mix : List Str := ["draws", "k", "many", "cell"]
noncomputable def Φ_law_mix : Fi := tabF gis exs rows7
def h_law_mix : Nat → Nat := fun i => 0
theorem h_law_mix_0 : h_law_mix 0 = 0 := rfl
theorem h_law_mix_1 : h_law_mix 1 = 0 := rfl
theorem h_law_mix_2 : h_law_mix 2 = 0 := rfl
theorem h_law_mix_3 : h_law_mix 3 = 0 := rfl
def b_law_mix : Ss := (.cons (.asg (.nm 3) (.cst (.int 0))) (.cons (.ifs (.cmp .gt (.call "len" (.cons (.var 0) .nil)) (.cst (.int 0))) (.cons (.asg (.nm 3) (.idx (.var 0) (.bin .mod (.call "int" (.cons (.var 1) .nil)) (.call "len" (.cons (.var 0) .nil))))) .nil) .nil) (.cons (.ifs (.cmp .lt (.var 1) (.call "len" (.cons (.var 0) .nil))) (.cons (.ret (.bin .mod (.call "int" (.cons (.var 3) .nil)) (.var 2))) .nil) .nil) (.cons (.ret (.bin .mod (.call "int" (.cons (.bin .fdiv (.call "int" (.cons (.bin .add (.bin .mul (.var 3) (.cst (.int 7919))) (.bin .mul (.var 1) (.cst (.int 104729)))) .nil)) (.cst (.int 3))) .nil)) (.var 2))) .nil))))
noncomputable def run_law_mix : List D → R DL := runOf Φ_law_mix h_law_mix (fun _ => 0) N_law_mix b_law_mix 3
noncomputable def rows8 : List TR := ("_law_mix", ["draws", "k", "many"], ⟨run_law_mix, []⟩) :: rows7
theorem z8 : ∀ r ∈ rows8, r.2.2.dfs = [] := dfs_cons z7
theorem B_law_mix : Blt Φ_law_mix := blt_tab (by rfl)
def N_law_power : List Str := ["base", "many", "found", "turn"]
noncomputable def Φ_law_power : Fi := tabF gis exs rows8
def h_law_power : Nat → Nat := fun i => if i = 2 then 1 else 0
theorem h_law_power_0 : h_law_power 0 = 0 := rfl
theorem h_law_power_1 : h_law_power 1 = 0 := rfl
theorem h_law_power_2 : h_law_power 2 = 1 := rfl
theorem h_law_power_3 : h_law_power 3 = 0 := rfl
def b_law_power : Ss := (.cons (.asg (.nm 2) (.cst (.int 1))) (.cons (.forS (.nm 3) (.rng1 (.var 1)) (.cons (.asg (.nm 2) (.bin .mul (.var 2) (.var 0))) .nil)) (.cons (.ret (.var 2)) .nil)))
noncomputable def run_law_power : List D → R DL := runOf Φ_law_power h_law_power (fun _ => 0) N_law_power b_law_power 2
noncomputable def rows9 : List TR := ("_law_power", ["base", "many"], ⟨run_law_power, []⟩) :: rows8
theorem z9 : ∀ r ∈ rows9, r.2.2.dfs = [] := dfs_cons z8
theorem B_law_power : Blt Φ_law_power := blt_tab (by rfl)
def N_law_differences : List Str := ["numbers", "n", "found", "turn", "k"]
noncomputable def Φ_law_differences : Fi := tabF gis exs rows9
def h_law_differences : Nat → Nat := fun i => if i = 2 then 1 else 0
theorem h_law_differences_0 : h_law_differences 0 = 0 := rfl
theorem h_law_differences_1 : h_law_differences 1 = 0 := rfl
theorem h_law_differences_2 : h_law_differences 2 = 1 := rfl
theorem h_law_differences_3 : h_law_differences 3 = 0 := rfl
theorem h_law_differences_4 : h_law_differences 4 = 0 := rfl
def b_law_differences : Ss := (.cons (.asg (.nm 2) (.call "list" (.cons (.var 0) .nil))) (.cons (.forS (.nm 3) (.rng1 (.var 1)) (.cons (.asg (.nm 2) (.lc [4] (.nm 4) (.rng1 (.bin .sub (.call "len" (.cons (.var 2) .nil)) (.cst (.int 1)))) .nil (.bin .sub (.idx (.var 2) (.bin .add (.var 4) (.cst (.int 1)))) (.idx (.var 2) (.var 4))))) .nil)) (.cons (.ret (.var 2)) .nil)))
noncomputable def run_law_differences : List D → R DL := runOf Φ_law_differences h_law_differences (fun _ => 0) N_law_differences b_law_differences 2
noncomputable def rows10 : List TR := ("_law_differences", ["numbers", "n"], ⟨run_law_differences, []⟩) :: rows9
theorem z10 : ∀ r ∈ rows10, r.2.2.dfs = [] := dfs_cons z9
theorem B_law_differences : Blt Φ_law_differences := blt_tab (by rfl)
def N_law_value : List Str := ["numbers", "x", "rows", "k", "turn"]
noncomputable def Φ_law_value : Fi := tabF gis exs rows10
def h_law_value : Nat → Nat := fun i => if i = 2 then 1 else 0
theorem h_law_value_0 : h_law_value 0 = 0 := rfl
theorem h_law_value_1 : h_law_value 1 = 0 := rfl
theorem h_law_value_2 : h_law_value 2 = 1 := rfl
theorem h_law_value_3 : h_law_value 3 = 0 := rfl
theorem h_law_value_4 : h_law_value 4 = 0 := rfl
def b_law_value : Ss := (.cons (.asg (.nm 2) (.lc [3] (.nm 3) (.rng1 (.call "len" (.cons (.var 0) .nil))) .nil (.idx (.call "_law_differences" (.cons (.var 0) (.cons (.var 3) .nil))) (.cst (.int 0))))) (.cons (.forS (.nm 4) (.rng1 (.call "abs" (.cons (.var 1) .nil))) (.cons (.ifs (.cmp .gt (.var 1) (.cst (.int 0))) (.cons (.forS (.nm 3) (.rng1 (.bin .sub (.call "len" (.cons (.var 2) .nil)) (.cst (.int 1)))) (.cons (.asg (.sb (.var 2) (.var 3)) (.bin .add (.idx (.var 2) (.var 3)) (.idx (.var 2) (.bin .add (.var 3) (.cst (.int 1)))))) .nil)) .nil) (.cons (.forS (.nm 3) (.rng3 (.bin .sub (.call "len" (.cons (.var 2) .nil)) (.cst (.int 2))) (.neg (.cst (.int 1))) (.neg (.cst (.int 1)))) (.cons (.asg (.sb (.var 2) (.var 3)) (.bin .sub (.idx (.var 2) (.var 3)) (.idx (.var 2) (.bin .add (.var 3) (.cst (.int 1)))))) .nil)) .nil)) .nil)) (.cons (.ret (.idx (.var 2) (.cst (.int 0)))) .nil)))
noncomputable def run_law_value : List D → R DL := runOf Φ_law_value h_law_value (fun _ => 0) N_law_value b_law_value 2
noncomputable def rows11 : List TR := ("_law_value", ["numbers", "x"], ⟨run_law_value, []⟩) :: rows10
theorem z11 : ∀ r ∈ rows11, r.2.2.dfs = [] := dfs_cons z10
theorem B_law_value : Blt Φ_law_value := blt_tab (by rfl)
theorem c_law_value_law_differences {ne : Bool} {r : R (List DL)} : callE Φ_law_value "_law_differences" ne r = r.bind fun xs => callD ⟨run_law_differences, []⟩ xs := callE_f (fn_hit (r := ("_law_differences", ["numbers", "n"], ⟨run_law_differences, []⟩)) find_0)
def N_law_number : List Str := ["dial", "k"]
noncomputable def Φ_law_number : Fi := tabF gis exs rows11
def h_law_number : Nat → Nat := fun i => 0
theorem h_law_number_0 : h_law_number 0 = 0 := rfl
theorem h_law_number_1 : h_law_number 1 = 0 := rfl
def b_law_number : Ss := (.cons (.ret (.call "sum" (.cons (.lc [1] (.nm 1) (.rng1 (.call "len" (.cons (.var 0) .nil))) .nil (.bin .mul (.idx (.var 0) (.var 1)) (.call "_law_power" (.cons (.cst (.int 10)) (.cons (.var 1) .nil))))) .nil))) .nil)
noncomputable def run_law_number : List D → R DL := runOf Φ_law_number h_law_number (fun _ => 0) N_law_number b_law_number 1
noncomputable def rows12 : List TR := ("_law_number", ["dial"], ⟨run_law_number, []⟩) :: rows11
theorem z12 : ∀ r ∈ rows12, r.2.2.dfs = [] := dfs_cons z11
theorem B_law_number : Blt Φ_law_number := blt_tab (by rfl)
theorem c_law_number_law_power {ne : Bool} {r : R (List DL)} : callE Φ_law_number "_law_power" ne r = r.bind fun xs => callD ⟨run_law_power, []⟩ xs := callE_f (fn_hit (r := ("_law_power", ["base", "many"], ⟨run_law_power, []⟩)) (find_s (by decide) (find_s (by decide) find_0)))
def N_law_shown : List Str := ["many", "number", "k"]
noncomputable def Φ_law_shown : Fi := tabF gis exs rows12
def h_law_shown : Nat → Nat := fun i => 0
theorem h_law_shown_0 : h_law_shown 0 = 0 := rfl
theorem h_law_shown_1 : h_law_shown 1 = 0 := rfl
theorem h_law_shown_2 : h_law_shown 2 = 0 := rfl
def b_law_shown : Ss := (.cons (.ret (.lc [2] (.nm 2) (.rng1 (.var 0)) .nil (.bin .mod (.call "int" (.cons (.bin .fdiv (.var 1) (.call "_law_power" (.cons (.cst (.int 10)) (.cons (.var 2) .nil)))) .nil)) (.cst (.int 10))))) .nil)
noncomputable def run_law_shown : List D → R DL := runOf Φ_law_shown h_law_shown (fun _ => 0) N_law_shown b_law_shown 2
noncomputable def rows13 : List TR := ("_law_shown", ["many", "number"], ⟨run_law_shown, []⟩) :: rows12
theorem z13 : ∀ r ∈ rows13, r.2.2.dfs = [] := dfs_cons z12
theorem B_law_shown : Blt Φ_law_shown := blt_tab (by rfl)
theorem c_law_shown_law_power {ne : Bool} {r : R (List DL)} : callE Φ_law_shown "_law_power" ne r = r.bind fun xs => callD ⟨run_law_power, []⟩ xs := callE_f (fn_hit (r := ("_law_power", ["base", "many"], ⟨run_law_power, []⟩)) (find_s (by decide) (find_s (by decide) (find_s (by decide) find_0))))
def N_law_error : List Str := ["numbers", "wheels", "manner", "names", "name", "is_it", "e"]
noncomputable def Φ_law_error : Fi := tabF gis exs rows13
def h_law_error : Nat → Nat := fun i => 0
theorem h_law_error_0 : h_law_error 0 = 0 := rfl
theorem h_law_error_1 : h_law_error 1 = 0 := rfl
theorem h_law_error_2 : h_law_error 2 = 0 := rfl
theorem h_law_error_3 : h_law_error 3 = 0 := rfl
theorem h_law_error_4 : h_law_error 4 = 0 := rfl
theorem h_law_error_5 : h_law_error 5 = 0 := rfl
theorem h_law_error_6 : h_law_error 6 = 0 := rfl
def t_law_error : TryT := ⟨(.cons (.ex (.call "laid" (.cons (.var 0) (.cons (.var 1) (.cons (.var 2) (.cons (.cst (.int 0)) .nil)))))) .nil), (.cons (.ret (.cst .non)) .nil), "WheelError", 6, 3, 4, 5, [4, 5], [("many", "TooMany"), ("manner", "BadManner"), ("number", "BadNumber")]⟩
def sb (C D : Str) : Bool := ([("WheelError", "WheelError"), ("BadManner", "WheelError"), ("BadManner", "BadManner"), ("BadNumber", "WheelError"), ("BadNumber", "BadNumber"), ("TooMany", "WheelError"), ("TooMany", "TooMany")] : List (Str × Str)).contains (C, D)
noncomputable def run_law_error : List D → R DL := runTry Φ_law_error h_law_error (fun _ => 0) N_law_error exs sb t_law_error 3
noncomputable def rows14 : List TR := ("_law_error", ["numbers", "wheels", "manner"], ⟨run_law_error, []⟩) :: rows13
theorem z14 : ∀ r ∈ rows14, r.2.2.dfs = [] := dfs_cons z13
theorem B_law_error : Blt Φ_law_error := blt_tab (by rfl)
theorem c_law_error_laid {ne : Bool} {r : R (List DL)} : callE Φ_law_error "laid" ne r = r.bind fun xs => callD ⟨run_laid, []⟩ xs := callE_f (fn_hit (r := ("laid", ["numbers", "wheels", "manner", "x"], ⟨run_laid, []⟩)) (find_s (by decide) (find_s (by decide) (find_s (by decide) (find_s (by decide) (find_s (by decide) (find_s (by decide) (find_s (by decide) find_0))))))))
def N_law_faults : List Str := ["rows", "row"]
noncomputable def Φ_law_faults : Fi := tabF gis exs rows14
def h_law_faults : Nat → Nat := fun i => 0
theorem h_law_faults_0 : h_law_faults 0 = 0 := rfl
theorem h_law_faults_1 : h_law_faults 1 = 0 := rfl
def b_law_faults : Ss := (.cons (.asg (.nm 0) (.lst (.cons (.tup (.cons (.lst .nil) (.cons (.cst (.int 0)) (.cons (.cst (.str "x")) (.cons (.tup (.cons (.cst (.str "many")) (.cons (.cst (.int 0)) .nil))) .nil))))) (.cons (.tup (.cons (.bin .mul (.lst (.cons (.cst (.int 1)) .nil)) (.cst (.int 9))) (.cons (.cst (.int 0)) (.cons (.cst (.str "x")) (.cons (.tup (.cons (.cst (.str "many")) (.cons (.cst (.int 9)) .nil))) .nil))))) (.cons (.tup (.cons (.lst (.cons (.cst (.int 1)) .nil)) (.cons (.cst (.int 0)) (.cons (.cst (.str "x")) (.cons (.tup (.cons (.cst (.str "number")) (.cons (.cst (.int 0)) .nil))) .nil))))) (.cons (.tup (.cons (.lst (.cons (.cst (.int 1)) .nil)) (.cons (.cst (.int 17)) (.cons (.cst (.str "x")) (.cons (.tup (.cons (.cst (.str "number")) (.cons (.cst (.int 17)) .nil))) .nil))))) (.cons (.tup (.cons (.lst (.cons (.cst (.int 1)) .nil)) (.cons (.cst (.int 16)) (.cons (.cst (.str "half")) (.cons (.tup (.cons (.cst (.str "manner")) (.cons (.cst (.int 0)) .nil))) .nil))))) (.cons (.tup (.cons (.bin .mul (.lst (.cons (.cst (.int 1)) .nil)) (.cst (.int 8))) (.cons (.cst (.int 16)) (.cons (.cst (.str "halves")) (.cons (.cst .non) .nil))))) .nil)))))))) (.cons (.ret (.cmp .eq (.lc [1] (.nm 1) (.of (.var 0)) (.cons (.cmp .ne (.call "_law_error" (.cons (.idx (.var 1) (.cst (.int 0))) (.cons (.idx (.var 1) (.cst (.int 1))) (.cons (.idx (.var 1) (.cst (.int 2))) .nil)))) (.idx (.var 1) (.cst (.int 3)))) .nil) (.var 1)) (.lst .nil))) .nil))
noncomputable def run_law_faults : List D → R DL := runOf Φ_law_faults h_law_faults (fun _ => 0) N_law_faults b_law_faults 0
noncomputable def rows15 : List TR := ("_law_faults", [], ⟨run_law_faults, []⟩) :: rows14
theorem z15 : ∀ r ∈ rows15, r.2.2.dfs = [] := dfs_cons z14
theorem B_law_faults : Blt Φ_law_faults := blt_tab (by rfl)
theorem c_law_faults_law_error {ne : Bool} {r : R (List DL)} : callE Φ_law_faults "_law_error" ne r = r.bind fun xs => callD ⟨run_law_error, []⟩ xs := callE_f (fn_hit (r := ("_law_error", ["numbers", "wheels", "manner"], ⟨run_law_error, []⟩)) find_0)
def N_law : List Str := ["script", "draws", "turn", "numbers", "t", "size", "kept", "n", "x", "wheels", "manner", "due", "k", "first", "row", "j"]
noncomputable def Φ_law : Fi := tabF gis exs rows15
def h_law : Nat → Nat := fun i => if i = 3 then 1 else if i = 11 then 1 else 0
theorem h_law_0 : h_law 0 = 0 := rfl
theorem h_law_1 : h_law 1 = 0 := rfl
theorem h_law_2 : h_law 2 = 0 := rfl
theorem h_law_3 : h_law 3 = 1 := rfl
theorem h_law_4 : h_law 4 = 0 := rfl
theorem h_law_5 : h_law 5 = 0 := rfl
theorem h_law_6 : h_law 6 = 0 := rfl
theorem h_law_7 : h_law 7 = 0 := rfl
theorem h_law_8 : h_law 8 = 0 := rfl
theorem h_law_9 : h_law 9 = 0 := rfl
theorem h_law_10 : h_law 10 = 0 := rfl
theorem h_law_11 : h_law 11 = 1 := rfl
theorem h_law_12 : h_law 12 = 0 := rfl
theorem h_law_13 : h_law 13 = 0 := rfl
theorem h_law_14 : h_law 14 = 0 := rfl
theorem h_law_15 : h_law 15 = 0 := rfl
def b_law : Ss := (.cons (.asg (.nm 1) (.call "_law_draws" (.cons (.var 0) .nil))) (.cons (.forS (.nm 2) (.rng1 (.cst (.int 3))) (.cons (.asg (.nm 3) (.lst .nil)) (.cons (.forS (.nm 4) (.rng1 (.bin .add (.cst (.int 1)) (.call "_law_mix" (.cons (.var 1) (.cons (.bin .add (.cst (.int 1)) (.var 2)) (.cons (.cst (.int 8)) .nil)))))) (.cons (.asg (.nm 5) (.bin .sub (.call "_law_mix" (.cons (.var 1) (.cons (.bin .add (.bin .add (.cst (.int 20)) (.bin .mul (.cst (.int 30)) (.var 2))) (.var 4)) (.cons (.idx (.lst (.cons (.cst (.int 9)) (.cons (.cst (.int 65536)) .nil))) (.call "_law_mix" (.cons (.var 1) (.cons (.cst (.int 4)) (.cons (.cst (.int 2)) .nil))))) .nil)))) (.cst (.int 4)))) (.cons (.asg (.nm 5) (.idx (.lst (.cons (.var 5) (.cons (.bin .mul (.var 5) (.var 5)) .nil))) (.call "_law_mix" (.cons (.var 1) (.cons (.bin .add (.cst (.int 5)) (.var 2)) (.cons (.cst (.int 2)) .nil)))))) (.cons (.ex (.meth (.var 3) "append" (.cons (.bin .mul (.var 5) (.idx (.lst (.cons (.cst (.int 1)) (.cons (.neg (.cst (.int 1))) .nil))) (.call "_law_mix" (.cons (.var 1) (.cons (.bin .add (.bin .add (.cst (.int 30)) (.bin .mul (.cst (.int 30)) (.var 2))) (.var 4)) (.cons (.cst (.int 2)) .nil)))))) .nil))) .nil)))) (.cons (.asg (.nm 6) (.call "repr" (.cons (.var 3) .nil))) (.cons (.forS (.nm 7) (.rng1 (.cst (.int 10))) (.cons (.ifs (.cmp .ne (.call "differences" (.cons (.var 3) (.cons (.var 7) .nil))) (.call "_law_differences" (.cons (.var 3) (.cons (.var 7) .nil)))) (.cons (.ret (.cst (.bl false))) .nil) .nil) .nil)) (.cons (.forS (.nm 8) (.of (.bin .add (.lc [4] (.nm 4) (.rng1 (.cst (.int 3))) .nil (.bin .sub (.call "_law_mix" (.cons (.var 1) (.cons (.bin .add (.cst (.int 200)) (.var 4)) (.cons (.idx (.lst (.cons (.cst (.int 12)) (.cons (.cst (.int 200)) .nil))) (.call "_law_mix" (.cons (.var 1) (.cons (.cst (.int 6)) (.cons (.cst (.int 2)) .nil))))) .nil)))) (.idx (.lst (.cons (.cst (.int 4)) (.cons (.cst (.int 90)) .nil))) (.call "_law_mix" (.cons (.var 1) (.cons (.bin .add (.cst (.int 7)) (.var 4)) (.cons (.cst (.int 2)) .nil))))))) (.rgl (.call "len" (.cons (.var 3) .nil))))) (.cons (.ifs (.cmp .ne (.call "value_at" (.cons (.var 3) (.cons (.var 8) .nil))) (.call "_law_value" (.cons (.var 3) (.cons (.var 8) .nil)))) (.cons (.ret (.cst (.bl false))) .nil) .nil) .nil)) (.cons (.ifs (.cmp .ne (.lc [8] (.nm 8) (.rng1 (.call "len" (.cons (.var 3) .nil))) .nil (.call "value_at" (.cons (.var 3) (.cons (.var 8) .nil)))) (.var 3)) (.cons (.ret (.cst (.bl false))) .nil) .nil) (.cons (.par2 9 8 (.bin .add (.cst (.int 1)) (.call "_law_mix" (.cons (.var 1) (.cons (.bin .add (.cst (.int 12)) (.var 2)) (.cons (.cst (.int 16)) .nil))))) (.bin .sub (.call "_law_mix" (.cons (.var 1) (.cons (.bin .add (.cst (.int 15)) (.var 2)) (.cons (.cst (.int 60)) .nil)))) (.cst (.int 30)))) (.cons (.forS (.nm 10) (.of (.lst (.cons (.cst (.str "halves")) (.cons (.cst (.str "one by one")) .nil)))) (.cons (.asg (.nm 11) (.lst .nil)) (.cons (.forS (.nm 12) (.rng1 (.call "len" (.cons (.var 3) .nil))) (.cons (.asg (.nm 13) (.bin .sub (.var 8) (.bin .mul (.call "int" (.cons (.cmp .eq (.var 10) (.cst (.str "halves"))) .nil)) (.bin .fdiv (.var 12) (.cst (.int 2)))))) (.cons (.asg (.nm 14) (.lc [15] (.nm 15) (.rng1 (.bin .add (.var 12) (.cst (.int 1)))) .nil (.call "_law_value" (.cons (.var 3) (.cons (.bin .add (.var 13) (.var 15)) .nil))))) (.cons (.ex (.meth (.var 11) "append" (.cons (.call "_law_shown" (.cons (.var 9) (.cons (.idx (.call "_law_differences" (.cons (.var 14) (.cons (.var 12) .nil))) (.cst (.int 0))) .nil))) .nil))) .nil)))) (.cons (.ifs (.bor (.cons (.cmp .ne (.call "laid" (.cons (.var 3) (.cons (.var 9) (.cons (.var 10) (.cons (.var 8) .nil))))) (.var 11)) (.cons (.cmp .ne (.call "repr" (.cons (.var 3) .nil)) (.var 6)) .nil))) (.cons (.ret (.cst (.bl false))) .nil) .nil) .nil)))) .nil))))))))) (.cons (.ret (.call "_law_faults" .nil)) .nil)))
noncomputable def run_law : List D → R DL := runOf Φ_law h_law (fun _ => 0) N_law b_law 1
noncomputable def rows16 : List TR := ("law", ["script"], ⟨run_law, []⟩) :: rows15
theorem z16 : ∀ r ∈ rows16, r.2.2.dfs = [] := dfs_cons z15
theorem B_law : Blt Φ_law := blt_tab (by rfl)
theorem c_law_law_differences {ne : Bool} {r : R (List DL)} : callE Φ_law "_law_differences" ne r = r.bind fun xs => callD ⟨run_law_differences, []⟩ xs := callE_f (fn_hit (r := ("_law_differences", ["numbers", "n"], ⟨run_law_differences, []⟩)) (find_s (by decide) (find_s (by decide) (find_s (by decide) (find_s (by decide) (find_s (by decide) find_0))))))
theorem c_law_law_draws {ne : Bool} {r : R (List DL)} : callE Φ_law "_law_draws" ne r = r.bind fun xs => callD ⟨run_law_draws, []⟩ xs := callE_f (fn_hit (r := ("_law_draws", ["script"], ⟨run_law_draws, []⟩)) (find_s (by decide) (find_s (by decide) (find_s (by decide) (find_s (by decide) (find_s (by decide) (find_s (by decide) (find_s (by decide) (find_s (by decide) find_0)))))))))
theorem c_law_law_faults {ne : Bool} {r : R (List DL)} : callE Φ_law "_law_faults" ne r = r.bind fun xs => callD ⟨run_law_faults, []⟩ xs := callE_f (fn_hit (r := ("_law_faults", [], ⟨run_law_faults, []⟩)) find_0)
theorem c_law_law_mix {ne : Bool} {r : R (List DL)} : callE Φ_law "_law_mix" ne r = r.bind fun xs => callD ⟨run_law_mix, []⟩ xs := callE_f (fn_hit (r := ("_law_mix", ["draws", "k", "many"], ⟨run_law_mix, []⟩)) (find_s (by decide) (find_s (by decide) (find_s (by decide) (find_s (by decide) (find_s (by decide) (find_s (by decide) (find_s (by decide) find_0))))))))
theorem c_law_law_shown {ne : Bool} {r : R (List DL)} : callE Φ_law "_law_shown" ne r = r.bind fun xs => callD ⟨run_law_shown, []⟩ xs := callE_f (fn_hit (r := ("_law_shown", ["many", "number"], ⟨run_law_shown, []⟩)) (find_s (by decide) (find_s (by decide) find_0)))
theorem c_law_law_value {ne : Bool} {r : R (List DL)} : callE Φ_law "_law_value" ne r = r.bind fun xs => callD ⟨run_law_value, []⟩ xs := callE_f (fn_hit (r := ("_law_value", ["numbers", "x"], ⟨run_law_value, []⟩)) (find_s (by decide) (find_s (by decide) (find_s (by decide) (find_s (by decide) find_0)))))
theorem c_law_differences {ne : Bool} {r : R (List DL)} : callE Φ_law "differences" ne r = r.bind fun xs => callD ⟨run_differences, []⟩ xs := callE_f (fn_hit (r := ("differences", ["numbers", "n"], ⟨run_differences, []⟩)) (find_s (by decide) (find_s (by decide) (find_s (by decide) (find_s (by decide) (find_s (by decide) (find_s (by decide) (find_s (by decide) (find_s (by decide) (find_s (by decide) (find_s (by decide) (find_s (by decide) find_0))))))))))))
theorem c_law_laid {ne : Bool} {r : R (List DL)} : callE Φ_law "laid" ne r = r.bind fun xs => callD ⟨run_laid, []⟩ xs := callE_f (fn_hit (r := ("laid", ["numbers", "wheels", "manner", "x"], ⟨run_laid, []⟩)) (find_s (by decide) (find_s (by decide) (find_s (by decide) (find_s (by decide) (find_s (by decide) (find_s (by decide) (find_s (by decide) (find_s (by decide) (find_s (by decide) find_0))))))))))
theorem c_law_value_at {ne : Bool} {r : R (List DL)} : callE Φ_law "value_at" ne r = r.bind fun xs => callD ⟨run_value_at, []⟩ xs := callE_f (fn_hit (r := ("value_at", ["numbers", "x"], ⟨run_value_at, []⟩)) (find_s (by decide) (find_s (by decide) (find_s (by decide) (find_s (by decide) (find_s (by decide) (find_s (by decide) (find_s (by decide) (find_s (by decide) (find_s (by decide) (find_s (by decide) find_0)))))))))))
end K07

namespace K07
open PySem PySem.Spec PyProof.Rows L2
def top (i : Nat) : Stmt := PySem.Challenge.pw_wheelsreckon_k07_whole_polynomials_that.main.body.getD i (.Pass ⟨0, 0, 0, 0⟩)
abbrev sf7 : Stmt := top 7
def df7 : He.DefD := ⟨("power", none), "power", "power", defArgs sf7, defBody sf7, defScope sf7, [], []⟩ -- power
abbrev sf8 : Stmt := top 8
def df8 : He.DefD := ⟨("check_wheels", none), "check_wheels", "check_wheels", defArgs sf8, defBody sf8, defScope sf8, [], []⟩ -- check_wheels
abbrev sf9 : Stmt := top 9
def df9 : He.DefD := ⟨("showing", none), "showing", "showing", defArgs sf9, defBody sf9, defScope sf9, [], []⟩ -- showing
abbrev sf14 : Stmt := top 14
def df14 : He.DefD := ⟨("differences", none), "differences", "differences", defArgs sf14, defBody sf14, defScope sf14, [], []⟩ -- differences
abbrev sf15 : Stmt := top 15
def df15 : He.DefD := ⟨("value_at", none), "value_at", "value_at", defArgs sf15, defBody sf15, defScope sf15, [], []⟩ -- value_at
abbrev sf16 : Stmt := top 16
def df16 : He.DefD := ⟨("laid", none), "laid", "laid", defArgs sf16, defBody sf16, defScope sf16, [], []⟩ -- laid
abbrev sf18 : Stmt := top 18
def df18 : He.DefD := ⟨("_law_draws", none), "_law_draws", "_law_draws", defArgs sf18, defBody sf18, defScope sf18, [], []⟩ -- _law_draws
abbrev sf19 : Stmt := top 19
def df19 : He.DefD := ⟨("_law_mix", none), "_law_mix", "_law_mix", defArgs sf19, defBody sf19, defScope sf19, [], []⟩ -- _law_mix
abbrev sf20 : Stmt := top 20
def df20 : He.DefD := ⟨("_law_power", none), "_law_power", "_law_power", defArgs sf20, defBody sf20, defScope sf20, [], []⟩ -- _law_power
abbrev sf21 : Stmt := top 21
def df21 : He.DefD := ⟨("_law_differences", none), "_law_differences", "_law_differences", defArgs sf21, defBody sf21, defScope sf21, [], []⟩ -- _law_differences
abbrev sf22 : Stmt := top 22
def df22 : He.DefD := ⟨("_law_value", none), "_law_value", "_law_value", defArgs sf22, defBody sf22, defScope sf22, [], []⟩ -- _law_value
abbrev sf23 : Stmt := top 23
def df23 : He.DefD := ⟨("_law_number", none), "_law_number", "_law_number", defArgs sf23, defBody sf23, defScope sf23, [], []⟩ -- _law_number
abbrev sf24 : Stmt := top 24
def df24 : He.DefD := ⟨("_law_shown", none), "_law_shown", "_law_shown", defArgs sf24, defBody sf24, defScope sf24, [], []⟩ -- _law_shown
abbrev sf25 : Stmt := top 25
def df25 : He.DefD := ⟨("_law_error", none), "_law_error", "_law_error", defArgs sf25, defBody sf25, defScope sf25, [], []⟩ -- _law_error
abbrev sf26 : Stmt := top 26
def df26 : He.DefD := ⟨("_law_faults", none), "_law_faults", "_law_faults", defArgs sf26, defBody sf26, defScope sf26, [], []⟩ -- _law_faults
abbrev sf27 : Stmt := top 27
def df27 : He.DefD := ⟨("law", none), "law", "law", defArgs sf27, defBody sf27, defScope sf27, [], []⟩ -- law
def fn : List He.DefD := [df7, df8, df9, df14, df15, df16, df18, df19, df20, df21, df22, df23, df24, df25, df26, df27]
def fa : List He.Fa := [.free "abs", .free "int", .free "isinstance", .free "len", .free "list", .free "min", .free "range", .free "repr", .free "sum", .free "super", .free "zip", .free "enumerate", .free "max", .free "tuple", .free "any", .free "all", .free "str", .free "sorted", .int "MOST_WHEELS" 16, .int "TEN" 10, .int "MOST_COLUMNS" 8, .glo "power", .glo "check_wheels", .glo "showing", .glo "differences", .glo "value_at", .glo "laid", .glo "_law_draws", .glo "_law_mix", .glo "_law_power", .glo "_law_differences", .glo "_law_value", .glo "_law_number", .glo "_law_shown", .glo "_law_error", .glo "_law_faults", .glo "law", .glo "WheelError", .glo "BadManner", .glo "BadNumber", .glo "TooMany"]
abbrev sini : Stmt := inClass (top 1) 0
def dini : He.DefD := ⟨("WheelError", some "__init__"), "__init__", "WheelError.__init__", defArgs sini, defBody sini, defScope sini, [], []⟩
def kits0 : List (Str × Str × Bool) := [("WheelError", "WheelError", true), ("WheelError", "BadManner", false), ("WheelError", "BadNumber", false), ("WheelError", "TooMany", false), ("BadManner", "WheelError", true), ("BadManner", "BadManner", true), ("BadManner", "BadNumber", false), ("BadManner", "TooMany", false), ("BadNumber", "WheelError", true), ("BadNumber", "BadManner", false), ("BadNumber", "BadNumber", true), ("BadNumber", "TooMany", false), ("TooMany", "WheelError", true), ("TooMany", "BadManner", false), ("TooMany", "BadNumber", false), ("TooMany", "TooMany", true)]
def kits : List (Str × Str × Bool) := kits0
def ex (K : PySem.W.Frag) : Bool := (kits.all (M.subB K) && exs.all (M.isB K)) && gis.all (M.topB K)
abbrev RowL : PySem.W.OpenRow := PySem.W.OpenLaw.row PySem.Challenge.rw_wheelsreckon_k07_whole_polynomials_that
def file : Str := RowL.prog.main.file
abbrev hk : PySem.W.Hook := M.hookM 5 fa fn file exs ex dini
def ob (s : PySem.W.SharedT) : M.AlM := M.obsMG 5 fa fn file exs ex (HandSHeadRun.getT s)
theorem ob_eq (s : PySem.W.SharedT) : ob s = hk.obs s.abs := M.obsMG_eq (HandSHeadRun.getT_eq s)
def loose0 : List PySem.Str := ["WheelError", "BadManner", "BadNumber", "TooMany", "MOST_WHEELS", "power", "check_wheels", "showing", "TEN", "MOST_COLUMNS", "WAYS", "differences", "value_at", "laid", "_law_draws", "_law_mix", "_law_power", "_law_differences", "_law_value", "_law_number"]
def loose1 : List PySem.Str := ["_law_shown", "_law_error", "_law_faults"]
def loose : List PySem.Str := loose0 ++ loose1
theorem run (w : World) : HandSHeadRun.RunEq RowL (PySem.W.view RowL.prog [27]) hk ob 3680 loose w := by
  intro os
  kernel_rfl


open M
theorem tr_power : trB N_power (defScope (top 7)) (defBody (top 7)) = some b_power := by kernel_rfl
theorem fs_power : FnScope N_power ["base", "many"] (defScope (top 7)) := ⟨rfl, rfl, rfl, by decide +kernel, rfl, by decide +kernel, by decide +kernel⟩
theorem tr_check_wheels : trB N_check_wheels (defScope (top 8)) (defBody (top 8)) = some b_check_wheels := by kernel_rfl
theorem fs_check_wheels : FnScope N_check_wheels ["many"] (defScope (top 8)) := ⟨rfl, rfl, rfl, by decide +kernel, rfl, by decide +kernel, by decide +kernel⟩
theorem tr_showing : trB N_showing (defScope (top 9)) (defBody (top 9)) = some b_showing := by kernel_rfl
theorem fs_showing : FnScope N_showing ["base", "many", "number"] (defScope (top 9)) := ⟨rfl, rfl, rfl, by decide +kernel, rfl, by decide +kernel, by decide +kernel⟩
theorem tr_differences : trB N_differences (defScope (top 14)) (defBody (top 14)) = some b_differences := by kernel_rfl
theorem fs_differences : FnScope N_differences ["numbers", "n"] (defScope (top 14)) := ⟨rfl, rfl, rfl, by decide +kernel, rfl, by decide +kernel, by decide +kernel⟩
theorem tr_value_at : trB N_value_at (defScope (top 15)) (defBody (top 15)) = some b_value_at := by kernel_rfl
theorem fs_value_at : FnScope N_value_at ["numbers", "x"] (defScope (top 15)) := ⟨rfl, rfl, rfl, by decide +kernel, rfl, by decide +kernel, by decide +kernel⟩
theorem tr_laid : trB N_laid (defScope (top 16)) (defBody (top 16)) = some b_laid := by kernel_rfl
theorem fs_laid : FnScope N_laid ["numbers", "wheels", "manner", "x"] (defScope (top 16)) := ⟨rfl, rfl, rfl, by decide +kernel, rfl, by decide +kernel, by decide +kernel⟩
theorem tr_law_draws : trB N_law_draws (defScope (top 18)) (defBody (top 18)) = some b_law_draws := by kernel_rfl
theorem fs_law_draws : FnScope N_law_draws ["script"] (defScope (top 18)) := ⟨rfl, rfl, rfl, by decide +kernel, rfl, by decide +kernel, by decide +kernel⟩
theorem tr_law_mix : trB N_law_mix (defScope (top 19)) (defBody (top 19)) = some b_law_mix := by kernel_rfl
theorem fs_law_mix : FnScope N_law_mix ["draws", "k", "many"] (defScope (top 19)) := ⟨rfl, rfl, rfl, by decide +kernel, rfl, by decide +kernel, by decide +kernel⟩
theorem tr_law_power : trB N_law_power (defScope (top 20)) (defBody (top 20)) = some b_law_power := by kernel_rfl
theorem fs_law_power : FnScope N_law_power ["base", "many"] (defScope (top 20)) := ⟨rfl, rfl, rfl, by decide +kernel, rfl, by decide +kernel, by decide +kernel⟩
theorem tr_law_differences : trB N_law_differences (defScope (top 21)) (defBody (top 21)) = some b_law_differences := by kernel_rfl
theorem fs_law_differences : FnScope N_law_differences ["numbers", "n"] (defScope (top 21)) := ⟨rfl, rfl, rfl, by decide +kernel, rfl, by decide +kernel, by decide +kernel⟩
theorem tr_law_value : trB N_law_value (defScope (top 22)) (defBody (top 22)) = some b_law_value := by kernel_rfl
theorem fs_law_value : FnScope N_law_value ["numbers", "x"] (defScope (top 22)) := ⟨rfl, rfl, rfl, by decide +kernel, rfl, by decide +kernel, by decide +kernel⟩
theorem tr_law_number : trB N_law_number (defScope (top 23)) (defBody (top 23)) = some b_law_number := by kernel_rfl
theorem fs_law_number : FnScope N_law_number ["dial"] (defScope (top 23)) := ⟨rfl, rfl, rfl, by decide +kernel, rfl, by decide +kernel, by decide +kernel⟩
theorem tr_law_shown : trB N_law_shown (defScope (top 24)) (defBody (top 24)) = some b_law_shown := by kernel_rfl
theorem fs_law_shown : FnScope N_law_shown ["many", "number"] (defScope (top 24)) := ⟨rfl, rfl, rfl, by decide +kernel, rfl, by decide +kernel, by decide +kernel⟩
theorem tr_law_error : trTry N_law_error (defScope (top 25)) (defBody (top 25)) = some t_law_error := by kernel_rfl
theorem fs_law_error : FnScope N_law_error ["numbers", "wheels", "manner"] (defScope (top 25)) := ⟨rfl, rfl, rfl, by decide +kernel, rfl, by decide +kernel, by decide +kernel⟩
theorem tr_law_faults : trB N_law_faults (defScope (top 26)) (defBody (top 26)) = some b_law_faults := by kernel_rfl
theorem fs_law_faults : FnScope N_law_faults [] (defScope (top 26)) := ⟨rfl, rfl, rfl, by decide +kernel, rfl, by decide +kernel, by decide +kernel⟩
theorem tr_law : trB N_law (defScope (top 27)) (defBody (top 27)) = some b_law := by kernel_rfl
theorem fs_law : FnScope N_law ["script"] (defScope (top 27)) := ⟨rfl, rfl, rfl, by decide +kernel, rfl, by decide +kernel, by decide +kernel⟩
end K07

namespace K07
open PySem L2 M
theorem fold_pow (b : Int) : ∀ n : Nat, (List.range n).foldl (fun a (_ : Nat) => a * b) 1 = b ^ n
  | 0 => (Int.pow_zero b).symm
  | n + 1 => by
    rw [List.range_succ, List.foldl_append, fold_pow b n, Int.pow_succ]
    rfl
theorem S_power (b n : Int) (hb : -(2 ^ 64) < b ∧ b < 2 ^ 64) (hn : -(2 ^ 62) ≤ n ∧ n < 2 ^ 62) : run_power [.int b, .int n] = .ok (.int (b ^ n.toNat), .al) := by
  refine runOf_at rfl ?_
  show outOf (execs Φ_power _ _ b_power [some (.int b, .n 0), some (.int n, .n 0), none, none]) = _
  have hr : (-(2 ^ 62) ≤ n ∧ n < 2 ^ 62) = True := eq_true hn
  unfold b_power
  refine go_nx (by simp only [M.exec, ev, evT, evs, evP, evI, evIF, evAnd, evOr, evAndV, evOrV, evTs, evF_q, evF'_int, evF'_bl, evF'_str, evF'_non, evF'_n, evF'_al, evF'_bo, evF'_err, evF'_stuck, evS_q, evS'_int, evS'_bl, evS'_str, evS'_n, evS'_al, frzV_nil, frzV_cons, frz1, evars, evarss, evarsI, gd_T, gdO_T, nl_int, nl_bl, nl_str, nl_non, nl_nd, isBo_int, isBo_bl, isBo_str, isBo_non, isBo_n, isBo_al, isBo_nd, vw1_int, vw1_bl, vw1_str, vw1_non, vw1_0, vw1_1, vw1_one, vw1_al, vw1_none, vw_nil, vw_cons, bind_o, bind_e, bind_s, toOut_o, toOut_e, pure_o, cl_int, cl_bl, cl_str, cl_non, cl_al, cl_n, setS, appF, sbF, isApp, neEs_c, callL_al, blt_len, blt_int, blt_abs, blt_max, blt_min, blt_list, blt_tuple, blt_sum, blt_any, blt_all, blt_str, blt_repr, b_len_lst, b_len_lk, b_len_tup, b_int, b_int_bl, b_abs, b_max, b_min, b_list, c_eq_int, c_ne_int, c_eq_str, c_ne_str, c_lt, c_le, c_gt, c_ge, k_lt, k_le, k_gt, k_ge, obl_o, o_add, o_sub, o_mul, o_fdiv, o_mod, o_pow, o_cat, o_rep, M.ix_lst, M.ix_lk, M.ix_tup, frz_n0, frz_bo, frz_al, frz_n1, x_nil, Vd, truD, D.asL, D.asQ, D.asT, opR, opS, List.set, List.map, List.getElem?_cons_zero, List.getElem?_cons_succ, Out.nx.injEq, exists_eq_left', exists_eq_left, Bool.false_eq_true, if_false, if_true, Lv.own, Bool.not_true, Bool.not_false, ite_true, ite_false, reduceIte, bdG, bdGs, callD1, cp, lf, flat_int, callL, List.any_cons, List.any_nil, Bool.or_false, Bool.false_or, Bool.true_or, nmin_00, nmin_01, nmin_10, nmin_11, wl_int, wl_str, wl_bl, wl_non, wl_n, ne_ints, eq_ints, Lv.up, Lv.min, mnL, dsp, List.map_cons, List.map_nil, eq_self, Option.map_some, D.v, List.length_map]; rfl) ?_
  refine go_fold (ρ0 := ?w) (fun k : Nat => D.int (0 + (k : Nat))) (fun a ρ => ∃ u, ρ = [some (.int b, .n 0), some (.int n, .n 0), some (.int a, .n 0), u]) (fun a _ => a * b) (List.range n.toNat) 1 ?e rfl ?h0 ?s ?fin
  case e => simp only [M.exec, ev, evT, evs, evP, evI, evIF, evAnd, evOr, evAndV, evOrV, evTs, evF_q, evF'_int, evF'_bl, evF'_str, evF'_non, evF'_n, evF'_al, evF'_bo, evF'_err, evF'_stuck, evS_q, evS'_int, evS'_bl, evS'_str, evS'_n, evS'_al, frzV_nil, frzV_cons, frz1, evars, evarss, evarsI, gd_T, gdO_T, nl_int, nl_bl, nl_str, nl_non, nl_nd, isBo_int, isBo_bl, isBo_str, isBo_non, isBo_n, isBo_al, isBo_nd, vw1_int, vw1_bl, vw1_str, vw1_non, vw1_0, vw1_1, vw1_one, vw1_al, vw1_none, vw_nil, vw_cons, bind_o, bind_e, bind_s, toOut_o, toOut_e, pure_o, cl_int, cl_bl, cl_str, cl_non, cl_al, cl_n, setS, appF, sbF, isApp, neEs_c, callL_al, blt_len, blt_int, blt_abs, blt_max, blt_min, blt_list, blt_tuple, blt_sum, blt_any, blt_all, blt_str, blt_repr, b_len_lst, b_len_lk, b_len_tup, b_int, b_int_bl, b_abs, b_max, b_min, b_list, c_eq_int, c_ne_int, c_eq_str, c_ne_str, c_lt, c_le, c_gt, c_ge, k_lt, k_le, k_gt, k_ge, obl_o, o_add, o_sub, o_mul, o_fdiv, o_mod, o_pow, o_cat, o_rep, M.ix_lst, M.ix_lk, M.ix_tup, frz_n0, frz_bo, frz_al, frz_n1, x_nil, Vd, truD, D.asL, D.asQ, D.asT, opR, opS, List.set, List.map, List.getElem?_cons_zero, List.getElem?_cons_succ, Out.nx.injEq, exists_eq_left', exists_eq_left, Bool.false_eq_true, if_false, if_true, Lv.own, Bool.not_true, Bool.not_false, ite_true, ite_false, reduceIte, bdG, bdGs, callD1, cp, lf, flat_int, callL, List.any_cons, List.any_nil, Bool.or_false, Bool.false_or, Bool.true_or, nmin_00, nmin_01, nmin_10, nmin_11, wl_int, wl_str, wl_bl, wl_non, wl_n, ne_ints, eq_ints, Lv.up, Lv.min, mnL, dsp, List.map_cons, List.map_nil, eq_self, Option.map_some, D.v, List.length_map, hr]; rfl
  case h0 => exact ⟨_, rfl⟩
  case s =>
    rintro a ρ k hk ⟨u, rfl⟩
    refine ⟨_, rfl, ?_⟩
    have hm : (CMul a b ∨ CMulW a b) = True := eq_true (.inl (.inr hb))
    simp only [M.execs, M.exec, ev, evT, evs, evP, evI, evIF, evAnd, evOr, evAndV, evOrV, evTs, evF_q, evF'_int, evF'_bl, evF'_str, evF'_non, evF'_n, evF'_al, evF'_bo, evF'_err, evF'_stuck, evS_q, evS'_int, evS'_bl, evS'_str, evS'_n, evS'_al, frzV_nil, frzV_cons, frz1, evars, evarss, evarsI, gd_T, gdO_T, nl_int, nl_bl, nl_str, nl_non, nl_nd, isBo_int, isBo_bl, isBo_str, isBo_non, isBo_n, isBo_al, isBo_nd, vw1_int, vw1_bl, vw1_str, vw1_non, vw1_0, vw1_1, vw1_one, vw1_al, vw1_none, vw_nil, vw_cons, bind_o, bind_e, bind_s, toOut_o, toOut_e, pure_o, cl_int, cl_bl, cl_str, cl_non, cl_al, cl_n, setS, appF, sbF, isApp, neEs_c, callL_al, blt_len, blt_int, blt_abs, blt_max, blt_min, blt_list, blt_tuple, blt_sum, blt_any, blt_all, blt_str, blt_repr, b_len_lst, b_len_lk, b_len_tup, b_int, b_int_bl, b_abs, b_max, b_min, b_list, c_eq_int, c_ne_int, c_eq_str, c_ne_str, c_lt, c_le, c_gt, c_ge, k_lt, k_le, k_gt, k_ge, obl_o, o_add, o_sub, o_mul, o_fdiv, o_mod, o_pow, o_cat, o_rep, M.ix_lst, M.ix_lk, M.ix_tup, frz_n0, frz_bo, frz_al, frz_n1, x_nil, Vd, truD, D.asL, D.asQ, D.asT, opR, opS, List.set, List.map, List.getElem?_cons_zero, List.getElem?_cons_succ, Out.nx.injEq, exists_eq_left', exists_eq_left, Bool.false_eq_true, if_false, if_true, Lv.own, Bool.not_true, Bool.not_false, ite_true, ite_false, reduceIte, bdG, bdGs, callD1, cp, lf, flat_int, callL, List.any_cons, List.any_nil, Bool.or_false, Bool.false_or, Bool.true_or, nmin_00, nmin_01, nmin_10, nmin_11, wl_int, wl_str, wl_bl, wl_non, wl_n, ne_ints, eq_ints, Lv.up, Lv.min, mnL, dsp, List.map_cons, List.map_nil, eq_self, Option.map_some, D.v, List.length_map, hm]
    exact ⟨_, rfl⟩
  case fin =>
    rintro ρ ⟨u, rfl⟩
    simp only [M.execs, M.exec, ev, evT, evs, evP, evI, evIF, evAnd, evOr, evAndV, evOrV, evTs, evF_q, evF'_int, evF'_bl, evF'_str, evF'_non, evF'_n, evF'_al, evF'_bo, evF'_err, evF'_stuck, evS_q, evS'_int, evS'_bl, evS'_str, evS'_n, evS'_al, frzV_nil, frzV_cons, frz1, evars, evarss, evarsI, gd_T, gdO_T, nl_int, nl_bl, nl_str, nl_non, nl_nd, isBo_int, isBo_bl, isBo_str, isBo_non, isBo_n, isBo_al, isBo_nd, vw1_int, vw1_bl, vw1_str, vw1_non, vw1_0, vw1_1, vw1_one, vw1_al, vw1_none, vw_nil, vw_cons, bind_o, bind_e, bind_s, toOut_o, toOut_e, pure_o, cl_int, cl_bl, cl_str, cl_non, cl_al, cl_n, setS, appF, sbF, isApp, neEs_c, callL_al, blt_len, blt_int, blt_abs, blt_max, blt_min, blt_list, blt_tuple, blt_sum, blt_any, blt_all, blt_str, blt_repr, b_len_lst, b_len_lk, b_len_tup, b_int, b_int_bl, b_abs, b_max, b_min, b_list, c_eq_int, c_ne_int, c_eq_str, c_ne_str, c_lt, c_le, c_gt, c_ge, k_lt, k_le, k_gt, k_ge, obl_o, o_add, o_sub, o_mul, o_fdiv, o_mod, o_pow, o_cat, o_rep, M.ix_lst, M.ix_lk, M.ix_tup, frz_n0, frz_bo, frz_al, frz_n1, x_nil, Vd, truD, D.asL, D.asQ, D.asT, opR, opS, List.set, List.map, List.getElem?_cons_zero, List.getElem?_cons_succ, Out.nx.injEq, exists_eq_left', exists_eq_left, Bool.false_eq_true, if_false, if_true, Lv.own, Bool.not_true, Bool.not_false, ite_true, ite_false, reduceIte, bdG, bdGs, callD1, cp, lf, flat_int, callL, List.any_cons, List.any_nil, Bool.or_false, Bool.false_or, Bool.true_or, nmin_00, nmin_01, nmin_10, nmin_11, wl_int, wl_str, wl_bl, wl_non, wl_n, ne_ints, eq_ints, Lv.up, Lv.min, mnL, dsp, List.map_cons, List.map_nil, eq_self, Option.map_some, D.v, List.length_map, outOf, fold_pow]
theorem S_lpower (b n : Int) (hb : -(2 ^ 64) < b ∧ b < 2 ^ 64) (hn : -(2 ^ 62) ≤ n ∧ n < 2 ^ 62) : run_law_power [.int b, .int n] = .ok (.int (b ^ n.toNat), .al) := by
  refine runOf_at rfl ?_
  show outOf (execs Φ_law_power _ _ b_law_power [some (.int b, .n 0), some (.int n, .n 0), none, none]) = _
  have hr : (-(2 ^ 62) ≤ n ∧ n < 2 ^ 62) = True := eq_true hn
  unfold b_law_power
  refine go_nx (by simp only [M.exec, ev, evT, evs, evP, evI, evIF, evAnd, evOr, evAndV, evOrV, evTs, evF_q, evF'_int, evF'_bl, evF'_str, evF'_non, evF'_n, evF'_al, evF'_bo, evF'_err, evF'_stuck, evS_q, evS'_int, evS'_bl, evS'_str, evS'_n, evS'_al, frzV_nil, frzV_cons, frz1, evars, evarss, evarsI, gd_T, gdO_T, nl_int, nl_bl, nl_str, nl_non, nl_nd, isBo_int, isBo_bl, isBo_str, isBo_non, isBo_n, isBo_al, isBo_nd, vw1_int, vw1_bl, vw1_str, vw1_non, vw1_0, vw1_1, vw1_one, vw1_al, vw1_none, vw_nil, vw_cons, bind_o, bind_e, bind_s, toOut_o, toOut_e, pure_o, cl_int, cl_bl, cl_str, cl_non, cl_al, cl_n, setS, appF, sbF, isApp, neEs_c, callL_al, blt_len, blt_int, blt_abs, blt_max, blt_min, blt_list, blt_tuple, blt_sum, blt_any, blt_all, blt_str, blt_repr, b_len_lst, b_len_lk, b_len_tup, b_int, b_int_bl, b_abs, b_max, b_min, b_list, c_eq_int, c_ne_int, c_eq_str, c_ne_str, c_lt, c_le, c_gt, c_ge, k_lt, k_le, k_gt, k_ge, obl_o, o_add, o_sub, o_mul, o_fdiv, o_mod, o_pow, o_cat, o_rep, M.ix_lst, M.ix_lk, M.ix_tup, frz_n0, frz_bo, frz_al, frz_n1, x_nil, Vd, truD, D.asL, D.asQ, D.asT, opR, opS, List.set, List.map, List.getElem?_cons_zero, List.getElem?_cons_succ, Out.nx.injEq, exists_eq_left', exists_eq_left, Bool.false_eq_true, if_false, if_true, Lv.own, Bool.not_true, Bool.not_false, ite_true, ite_false, reduceIte, bdG, bdGs, callD1, cp, lf, flat_int, callL, List.any_cons, List.any_nil, Bool.or_false, Bool.false_or, Bool.true_or, nmin_00, nmin_01, nmin_10, nmin_11, wl_int, wl_str, wl_bl, wl_non, wl_n, ne_ints, eq_ints, Lv.up, Lv.min, mnL, dsp, List.map_cons, List.map_nil, eq_self, Option.map_some, D.v, List.length_map]; rfl) ?_
  refine go_fold (ρ0 := ?w) (fun k : Nat => D.int (0 + (k : Nat))) (fun a ρ => ∃ u, ρ = [some (.int b, .n 0), some (.int n, .n 0), some (.int a, .n 0), u]) (fun a _ => a * b) (List.range n.toNat) 1 ?e rfl ?h0 ?s ?fin
  case e => simp only [M.exec, ev, evT, evs, evP, evI, evIF, evAnd, evOr, evAndV, evOrV, evTs, evF_q, evF'_int, evF'_bl, evF'_str, evF'_non, evF'_n, evF'_al, evF'_bo, evF'_err, evF'_stuck, evS_q, evS'_int, evS'_bl, evS'_str, evS'_n, evS'_al, frzV_nil, frzV_cons, frz1, evars, evarss, evarsI, gd_T, gdO_T, nl_int, nl_bl, nl_str, nl_non, nl_nd, isBo_int, isBo_bl, isBo_str, isBo_non, isBo_n, isBo_al, isBo_nd, vw1_int, vw1_bl, vw1_str, vw1_non, vw1_0, vw1_1, vw1_one, vw1_al, vw1_none, vw_nil, vw_cons, bind_o, bind_e, bind_s, toOut_o, toOut_e, pure_o, cl_int, cl_bl, cl_str, cl_non, cl_al, cl_n, setS, appF, sbF, isApp, neEs_c, callL_al, blt_len, blt_int, blt_abs, blt_max, blt_min, blt_list, blt_tuple, blt_sum, blt_any, blt_all, blt_str, blt_repr, b_len_lst, b_len_lk, b_len_tup, b_int, b_int_bl, b_abs, b_max, b_min, b_list, c_eq_int, c_ne_int, c_eq_str, c_ne_str, c_lt, c_le, c_gt, c_ge, k_lt, k_le, k_gt, k_ge, obl_o, o_add, o_sub, o_mul, o_fdiv, o_mod, o_pow, o_cat, o_rep, M.ix_lst, M.ix_lk, M.ix_tup, frz_n0, frz_bo, frz_al, frz_n1, x_nil, Vd, truD, D.asL, D.asQ, D.asT, opR, opS, List.set, List.map, List.getElem?_cons_zero, List.getElem?_cons_succ, Out.nx.injEq, exists_eq_left', exists_eq_left, Bool.false_eq_true, if_false, if_true, Lv.own, Bool.not_true, Bool.not_false, ite_true, ite_false, reduceIte, bdG, bdGs, callD1, cp, lf, flat_int, callL, List.any_cons, List.any_nil, Bool.or_false, Bool.false_or, Bool.true_or, nmin_00, nmin_01, nmin_10, nmin_11, wl_int, wl_str, wl_bl, wl_non, wl_n, ne_ints, eq_ints, Lv.up, Lv.min, mnL, dsp, List.map_cons, List.map_nil, eq_self, Option.map_some, D.v, List.length_map, hr]; rfl
  case h0 => exact ⟨_, rfl⟩
  case s =>
    rintro a ρ k hk ⟨u, rfl⟩
    refine ⟨_, rfl, ?_⟩
    have hm : (CMul a b ∨ CMulW a b) = True := eq_true (.inl (.inr hb))
    simp only [M.execs, M.exec, ev, evT, evs, evP, evI, evIF, evAnd, evOr, evAndV, evOrV, evTs, evF_q, evF'_int, evF'_bl, evF'_str, evF'_non, evF'_n, evF'_al, evF'_bo, evF'_err, evF'_stuck, evS_q, evS'_int, evS'_bl, evS'_str, evS'_n, evS'_al, frzV_nil, frzV_cons, frz1, evars, evarss, evarsI, gd_T, gdO_T, nl_int, nl_bl, nl_str, nl_non, nl_nd, isBo_int, isBo_bl, isBo_str, isBo_non, isBo_n, isBo_al, isBo_nd, vw1_int, vw1_bl, vw1_str, vw1_non, vw1_0, vw1_1, vw1_one, vw1_al, vw1_none, vw_nil, vw_cons, bind_o, bind_e, bind_s, toOut_o, toOut_e, pure_o, cl_int, cl_bl, cl_str, cl_non, cl_al, cl_n, setS, appF, sbF, isApp, neEs_c, callL_al, blt_len, blt_int, blt_abs, blt_max, blt_min, blt_list, blt_tuple, blt_sum, blt_any, blt_all, blt_str, blt_repr, b_len_lst, b_len_lk, b_len_tup, b_int, b_int_bl, b_abs, b_max, b_min, b_list, c_eq_int, c_ne_int, c_eq_str, c_ne_str, c_lt, c_le, c_gt, c_ge, k_lt, k_le, k_gt, k_ge, obl_o, o_add, o_sub, o_mul, o_fdiv, o_mod, o_pow, o_cat, o_rep, M.ix_lst, M.ix_lk, M.ix_tup, frz_n0, frz_bo, frz_al, frz_n1, x_nil, Vd, truD, D.asL, D.asQ, D.asT, opR, opS, List.set, List.map, List.getElem?_cons_zero, List.getElem?_cons_succ, Out.nx.injEq, exists_eq_left', exists_eq_left, Bool.false_eq_true, if_false, if_true, Lv.own, Bool.not_true, Bool.not_false, ite_true, ite_false, reduceIte, bdG, bdGs, callD1, cp, lf, flat_int, callL, List.any_cons, List.any_nil, Bool.or_false, Bool.false_or, Bool.true_or, nmin_00, nmin_01, nmin_10, nmin_11, wl_int, wl_str, wl_bl, wl_non, wl_n, ne_ints, eq_ints, Lv.up, Lv.min, mnL, dsp, List.map_cons, List.map_nil, eq_self, Option.map_some, D.v, List.length_map, hm]
    exact ⟨_, rfl⟩
  case fin =>
    rintro ρ ⟨u, rfl⟩
    simp only [M.execs, M.exec, ev, evT, evs, evP, evI, evIF, evAnd, evOr, evAndV, evOrV, evTs, evF_q, evF'_int, evF'_bl, evF'_str, evF'_non, evF'_n, evF'_al, evF'_bo, evF'_err, evF'_stuck, evS_q, evS'_int, evS'_bl, evS'_str, evS'_n, evS'_al, frzV_nil, frzV_cons, frz1, evars, evarss, evarsI, gd_T, gdO_T, nl_int, nl_bl, nl_str, nl_non, nl_nd, isBo_int, isBo_bl, isBo_str, isBo_non, isBo_n, isBo_al, isBo_nd, vw1_int, vw1_bl, vw1_str, vw1_non, vw1_0, vw1_1, vw1_one, vw1_al, vw1_none, vw_nil, vw_cons, bind_o, bind_e, bind_s, toOut_o, toOut_e, pure_o, cl_int, cl_bl, cl_str, cl_non, cl_al, cl_n, setS, appF, sbF, isApp, neEs_c, callL_al, blt_len, blt_int, blt_abs, blt_max, blt_min, blt_list, blt_tuple, blt_sum, blt_any, blt_all, blt_str, blt_repr, b_len_lst, b_len_lk, b_len_tup, b_int, b_int_bl, b_abs, b_max, b_min, b_list, c_eq_int, c_ne_int, c_eq_str, c_ne_str, c_lt, c_le, c_gt, c_ge, k_lt, k_le, k_gt, k_ge, obl_o, o_add, o_sub, o_mul, o_fdiv, o_mod, o_pow, o_cat, o_rep, M.ix_lst, M.ix_lk, M.ix_tup, frz_n0, frz_bo, frz_al, frz_n1, x_nil, Vd, truD, D.asL, D.asQ, D.asT, opR, opS, List.set, List.map, List.getElem?_cons_zero, List.getElem?_cons_succ, Out.nx.injEq, exists_eq_left', exists_eq_left, Bool.false_eq_true, if_false, if_true, Lv.own, Bool.not_true, Bool.not_false, ite_true, ite_false, reduceIte, bdG, bdGs, callD1, cp, lf, flat_int, callL, List.any_cons, List.any_nil, Bool.or_false, Bool.false_or, Bool.true_or, nmin_00, nmin_01, nmin_10, nmin_11, wl_int, wl_str, wl_bl, wl_non, wl_n, ne_ints, eq_ints, Lv.up, Lv.min, mnL, dsp, List.map_cons, List.map_nil, eq_self, Option.map_some, D.v, List.length_map, outOf, fold_pow]
theorem S_check_wheels (n : Int) : run_check_wheels [.int n] = if 1 ≤ n ∧ n ≤ 16 then .ok (.non, .al) else .err "BadNumber" (.int n) := by
  refine runOf_at rfl ?_
  show outOf (execs Φ_check_wheels _ _ b_check_wheels [some (.int n, .n 0)]) = _
  unfold b_check_wheels
  by_cases h1 : 1 ≤ n <;> by_cases h2 : n ≤ 16 <;> simp only [M.execs, M.exec, ev, evT, evs, evP, evI, evIF, evAnd, evOr, evAndV, evOrV, evTs, evF_q, evF'_int, evF'_bl, evF'_str, evF'_non, evF'_n, evF'_al, evF'_bo, evF'_err, evF'_stuck, evS_q, evS'_int, evS'_bl, evS'_str, evS'_n, evS'_al, frzV_nil, frzV_cons, frz1, evars, evarss, evarsI, gd_T, gdO_T, nl_int, nl_bl, nl_str, nl_non, nl_nd, isBo_int, isBo_bl, isBo_str, isBo_non, isBo_n, isBo_al, isBo_nd, vw1_int, vw1_bl, vw1_str, vw1_non, vw1_0, vw1_1, vw1_one, vw1_al, vw1_none, vw_nil, vw_cons, bind_o, bind_e, bind_s, toOut_o, toOut_e, pure_o, cl_int, cl_bl, cl_str, cl_non, cl_al, cl_n, setS, appF, sbF, isApp, neEs_c, callL_al, blt_len, blt_int, blt_abs, blt_max, blt_min, blt_list, blt_tuple, blt_sum, blt_any, blt_all, blt_str, blt_repr, b_len_lst, b_len_lk, b_len_tup, b_int, b_int_bl, b_abs, b_max, b_min, b_list, c_eq_int, c_ne_int, c_eq_str, c_ne_str, c_lt, c_le, c_gt, c_ge, k_lt, k_le, k_gt, k_ge, obl_o, o_add, o_sub, o_mul, o_fdiv, o_mod, o_pow, o_cat, o_rep, M.ix_lst, M.ix_lk, M.ix_tup, frz_n0, frz_bo, frz_al, frz_n1, x_nil, Vd, truD, D.asL, D.asQ, D.asT, opR, opS, List.set, List.map, List.getElem?_cons_zero, List.getElem?_cons_succ, Out.nx.injEq, exists_eq_left', exists_eq_left, Bool.false_eq_true, if_false, if_true, Lv.own, Bool.not_true, Bool.not_false, ite_true, ite_false, reduceIte, bdG, bdGs, callD1, cp, lf, flat_int, callL, List.any_cons, List.any_nil, Bool.or_false, Bool.false_or, Bool.true_or, nmin_00, nmin_01, nmin_10, nmin_11, wl_int, wl_str, wl_bl, wl_non, wl_n, ne_ints, eq_ints, Lv.up, Lv.min, mnL, dsp, List.map_cons, List.map_nil, eq_self, Option.map_some, D.v, List.length_map, g_check_wheels_MOST_WHEELS, x_check_wheels_BadNumber, h1, h2, decide_true, decide_false, outOf, and_self, and_true, and_false, true_and, false_and, D.v]
abbrev I (ds : List Int) : D := .nd .lst (ds.map D.int)
theorem I_app (xs : List Int) (y : Int) : I (xs ++ [y]) = .nd .lst (xs.map D.int ++ [.int y]) := by
  rw [I, List.map_append]
  rfl
def dig (b M : Int) (n : Nat) : List Int := (List.range n).map fun k => (M.fdiv (b ^ k)).fmod b
theorem dig_len (b M : Int) (n : Nat) : (dig b M n).length = n := by rw [dig, List.length_map, List.length_range]
theorem dig_succ (b M : Int) (n : Nat) : dig b M (n + 1) = dig b M n ++ [(M.fdiv (b ^ n)).fmod b] := by rw [dig, List.range_succ, List.map_append]; rfl
theorem fdiv_pow {b M : Int} (hb : 0 < b) (i : Nat) : (M.fdiv (b ^ i)).fdiv b = M.fdiv (b ^ (i + 1)) := by
  have h1 : 0 ≤ b ^ i := Int.le_of_lt (Int.pow_pos hb)
  rw [Int.fdiv_eq_ediv_of_nonneg _ h1, Int.fdiv_eq_ediv_of_nonneg _ (Int.le_of_lt hb), Int.fdiv_eq_ediv_of_nonneg _ (Int.le_of_lt (Int.pow_pos hb)), Int.pow_succ, Int.ediv_ediv_of_nonneg h1]
theorem dig_mod {b M : Int} (hb : 0 < b) (n : Nat) : dig b (M.fmod (b ^ n)) n = dig b M n := by
  unfold dig
  refine List.map_congr_left fun k hk => ?_
  have hk := List.mem_range.mp hk
  have hp : ∀ j : Nat, 0 < b ^ j := fun j => Int.pow_pos hb
  rw [Int.fmod_eq_emod_of_nonneg _ (Int.le_of_lt (hp n)), Int.fdiv_eq_ediv_of_nonneg _ (Int.le_of_lt (hp k)), Int.fdiv_eq_ediv_of_nonneg _ (Int.le_of_lt (hp k)), Int.fmod_eq_emod_of_nonneg _ (Int.le_of_lt hb), Int.fmod_eq_emod_of_nonneg _ (Int.le_of_lt hb)]
  obtain ⟨j, rfl⟩ : ∃ j, n = k + (j + 1) := ⟨n - k - 1, by omega⟩
  have e : M % b ^ (k + (j + 1)) = M - b ^ k * (b * (b ^ j * (M / b ^ (k + (j + 1))))) := by
    rw [Int.emod_def, Int.pow_add, Int.pow_succ]
    simp only [Int.mul_assoc, Int.mul_comm, Int.mul_left_comm]
  rw [e]
  have e2 : (M - b ^ k * (b * (b ^ j * (M / b ^ (k + (j + 1)))))) / b ^ k = M / b ^ k - b * (b ^ j * (M / b ^ (k + (j + 1)))) := by
    rw [Int.sub_eq_add_neg, ← Int.mul_neg, Int.add_mul_ediv_left _ _ (Int.ne_of_gt (hp k)), Int.sub_eq_add_neg]
  rw [e2, Int.sub_eq_add_neg, ← Int.mul_neg, Int.add_mul_emod_self_left]
theorem S_showing (b n m : Int) (hb : 2 ≤ b ∧ b ≤ 12) (hn : 1 ≤ n ∧ n ≤ 16) : run_showing [.int b, .int n, .int m] = .ok (I (dig b m n.toNat), .n 1) := by
  refine runOf_at rfl ?_
  show outOf (execs Φ_showing _ _ b_showing [some (.int b, .n 0), some (.int n, .n 0), some (.int m, .n 0), none, none, none]) = _
  have hr : (-(2 ^ 62) ≤ n ∧ n < 2 ^ 62) = True := eq_true ⟨by omega, by omega⟩
  have sp := S_power b n ⟨by omega, by omega⟩ ⟨by omega, by omega⟩
  have hz : (b ^ n.toNat ≠ 0) = True := eq_true (Int.ne_of_gt (Int.pow_pos (by omega)))
  have hb0 : (b ≠ 0) = True := eq_true (by omega)
  unfold b_showing
  refine go_nx (by simp only [M.exec, ev, evT, evs, evP, evI, evIF, evAnd, evOr, evAndV, evOrV, evTs, evF_q, evF'_int, evF'_bl, evF'_str, evF'_non, evF'_n, evF'_al, evF'_bo, evF'_err, evF'_stuck, evS_q, evS'_int, evS'_bl, evS'_str, evS'_n, evS'_al, frzV_nil, frzV_cons, frz1, evars, evarss, evarsI, gd_T, gdO_T, nl_int, nl_bl, nl_str, nl_non, nl_nd, isBo_int, isBo_bl, isBo_str, isBo_non, isBo_n, isBo_al, isBo_nd, vw1_int, vw1_bl, vw1_str, vw1_non, vw1_0, vw1_1, vw1_one, vw1_al, vw1_none, vw_nil, vw_cons, bind_o, bind_e, bind_s, toOut_o, toOut_e, pure_o, cl_int, cl_bl, cl_str, cl_non, cl_al, cl_n, setS, appF, sbF, isApp, neEs_c, callL_al, blt_len, blt_int, blt_abs, blt_max, blt_min, blt_list, blt_tuple, blt_sum, blt_any, blt_all, blt_str, blt_repr, b_len_lst, b_len_lk, b_len_tup, b_int, b_int_bl, b_abs, b_max, b_min, b_list, c_eq_int, c_ne_int, c_eq_str, c_ne_str, c_lt, c_le, c_gt, c_ge, k_lt, k_le, k_gt, k_ge, obl_o, o_add, o_sub, o_mul, o_fdiv, o_mod, o_pow, o_cat, o_rep, M.ix_lst, M.ix_lk, M.ix_tup, frz_n0, frz_bo, frz_al, frz_n1, x_nil, Vd, truD, D.asL, D.asQ, D.asT, opR, opS, List.set, List.map, List.getElem?_cons_zero, List.getElem?_cons_succ, Out.nx.injEq, exists_eq_left', exists_eq_left, Bool.false_eq_true, if_false, if_true, Lv.own, Bool.not_true, Bool.not_false, ite_true, ite_false, reduceIte, bdG, bdGs, callD1, cp, lf, flat_int, callL, List.any_cons, List.any_nil, Bool.or_false, Bool.false_or, Bool.true_or, nmin_00, nmin_01, nmin_10, nmin_11, wl_int, wl_str, wl_bl, wl_non, wl_n, ne_ints, eq_ints, Lv.up, Lv.min, mnL, dsp, List.map_cons, List.map_nil, eq_self, Option.map_some, D.v, List.length_map, c_showing_power, sp, hz, h_showing_3, h_showing_4]; rfl) ?_
  refine go_nx (by simp only [M.exec, ev, evT, evs, evP, evI, evIF, evAnd, evOr, evAndV, evOrV, evTs, evF_q, evF'_int, evF'_bl, evF'_str, evF'_non, evF'_n, evF'_al, evF'_bo, evF'_err, evF'_stuck, evS_q, evS'_int, evS'_bl, evS'_str, evS'_n, evS'_al, frzV_nil, frzV_cons, frz1, evars, evarss, evarsI, gd_T, gdO_T, nl_int, nl_bl, nl_str, nl_non, nl_nd, isBo_int, isBo_bl, isBo_str, isBo_non, isBo_n, isBo_al, isBo_nd, vw1_int, vw1_bl, vw1_str, vw1_non, vw1_0, vw1_1, vw1_one, vw1_al, vw1_none, vw_nil, vw_cons, bind_o, bind_e, bind_s, toOut_o, toOut_e, pure_o, cl_int, cl_bl, cl_str, cl_non, cl_al, cl_n, setS, appF, sbF, isApp, neEs_c, callL_al, blt_len, blt_int, blt_abs, blt_max, blt_min, blt_list, blt_tuple, blt_sum, blt_any, blt_all, blt_str, blt_repr, b_len_lst, b_len_lk, b_len_tup, b_int, b_int_bl, b_abs, b_max, b_min, b_list, c_eq_int, c_ne_int, c_eq_str, c_ne_str, c_lt, c_le, c_gt, c_ge, k_lt, k_le, k_gt, k_ge, obl_o, o_add, o_sub, o_mul, o_fdiv, o_mod, o_pow, o_cat, o_rep, M.ix_lst, M.ix_lk, M.ix_tup, frz_n0, frz_bo, frz_al, frz_n1, x_nil, Vd, truD, D.asL, D.asQ, D.asT, opR, opS, List.set, List.map, List.getElem?_cons_zero, List.getElem?_cons_succ, Out.nx.injEq, exists_eq_left', exists_eq_left, Bool.false_eq_true, if_false, if_true, Lv.own, Bool.not_true, Bool.not_false, ite_true, ite_false, reduceIte, bdG, bdGs, callD1, cp, lf, flat_int, callL, List.any_cons, List.any_nil, Bool.or_false, Bool.false_or, Bool.true_or, nmin_00, nmin_01, nmin_10, nmin_11, wl_int, wl_str, wl_bl, wl_non, wl_n, ne_ints, eq_ints, Lv.up, Lv.min, mnL, dsp, List.map_cons, List.map_nil, eq_self, Option.map_some, D.v, List.length_map, h_showing_3, h_showing_4, List.length_nil, Nat.zero_le]; rfl) ?_
  refine go_range (ρ0 := ?w) (n := n.toNat) (φ := fun k => D.int (0 + (k : Nat))) (fun i ρ => ∃ u, ρ = [some (.int b, .n 0), some (.int n, .n 0), some (.int m, .n 0), some (.int ((m.fmod (b ^ n.toNat)).fdiv (b ^ i)), .n 0), some (I (dig b (m.fmod (b ^ n.toNat)) i), .n 1), u]) ?e ?h0 ?s ?fin
  case e => simp only [M.exec, ev, evT, evs, evP, evI, evIF, evAnd, evOr, evAndV, evOrV, evTs, evF_q, evF'_int, evF'_bl, evF'_str, evF'_non, evF'_n, evF'_al, evF'_bo, evF'_err, evF'_stuck, evS_q, evS'_int, evS'_bl, evS'_str, evS'_n, evS'_al, frzV_nil, frzV_cons, frz1, evars, evarss, evarsI, gd_T, gdO_T, nl_int, nl_bl, nl_str, nl_non, nl_nd, isBo_int, isBo_bl, isBo_str, isBo_non, isBo_n, isBo_al, isBo_nd, vw1_int, vw1_bl, vw1_str, vw1_non, vw1_0, vw1_1, vw1_one, vw1_al, vw1_none, vw_nil, vw_cons, bind_o, bind_e, bind_s, toOut_o, toOut_e, pure_o, cl_int, cl_bl, cl_str, cl_non, cl_al, cl_n, setS, appF, sbF, isApp, neEs_c, callL_al, blt_len, blt_int, blt_abs, blt_max, blt_min, blt_list, blt_tuple, blt_sum, blt_any, blt_all, blt_str, blt_repr, b_len_lst, b_len_lk, b_len_tup, b_int, b_int_bl, b_abs, b_max, b_min, b_list, c_eq_int, c_ne_int, c_eq_str, c_ne_str, c_lt, c_le, c_gt, c_ge, k_lt, k_le, k_gt, k_ge, obl_o, o_add, o_sub, o_mul, o_fdiv, o_mod, o_pow, o_cat, o_rep, M.ix_lst, M.ix_lk, M.ix_tup, frz_n0, frz_bo, frz_al, frz_n1, x_nil, Vd, truD, D.asL, D.asQ, D.asT, opR, opS, List.set, List.map, List.getElem?_cons_zero, List.getElem?_cons_succ, Out.nx.injEq, exists_eq_left', exists_eq_left, Bool.false_eq_true, if_false, if_true, Lv.own, Bool.not_true, Bool.not_false, ite_true, ite_false, reduceIte, bdG, bdGs, callD1, cp, lf, flat_int, callL, List.any_cons, List.any_nil, Bool.or_false, Bool.false_or, Bool.true_or, nmin_00, nmin_01, nmin_10, nmin_11, wl_int, wl_str, wl_bl, wl_non, wl_n, ne_ints, eq_ints, Lv.up, Lv.min, mnL, dsp, List.map_cons, List.map_nil, eq_self, Option.map_some, D.v, List.length_map, hr]; rfl
  case h0 =>
    refine ⟨none, ?_⟩
    rw [Int.pow_zero, Int.fdiv_one]
    rfl
  case s =>
    rintro i ρ hi ⟨u, rfl⟩
    refine ⟨_, rfl, ?_⟩
    have hd : ∀ x : Int, (CDivN x b ∨ CDivW x b) = True := fun x => eq_true (.inl ⟨by omega, by omega⟩)
    have hl : ((dig b (m.fmod (b ^ n.toNat)) i).length < sizeLine) = True := eq_true (sz_lt (by rw [dig_len]; omega))
    simp only [M.execs, M.exec, ev, evT, evs, evP, evI, evIF, evAnd, evOr, evAndV, evOrV, evTs, evF_q, evF'_int, evF'_bl, evF'_str, evF'_non, evF'_n, evF'_al, evF'_bo, evF'_err, evF'_stuck, evS_q, evS'_int, evS'_bl, evS'_str, evS'_n, evS'_al, frzV_nil, frzV_cons, frz1, evars, evarss, evarsI, gd_T, gdO_T, nl_int, nl_bl, nl_str, nl_non, nl_nd, isBo_int, isBo_bl, isBo_str, isBo_non, isBo_n, isBo_al, isBo_nd, vw1_int, vw1_bl, vw1_str, vw1_non, vw1_0, vw1_1, vw1_one, vw1_al, vw1_none, vw_nil, vw_cons, bind_o, bind_e, bind_s, toOut_o, toOut_e, pure_o, cl_int, cl_bl, cl_str, cl_non, cl_al, cl_n, setS, appF, sbF, isApp, neEs_c, callL_al, blt_len, blt_int, blt_abs, blt_max, blt_min, blt_list, blt_tuple, blt_sum, blt_any, blt_all, blt_str, blt_repr, b_len_lst, b_len_lk, b_len_tup, b_int, b_int_bl, b_abs, b_max, b_min, b_list, c_eq_int, c_ne_int, c_eq_str, c_ne_str, c_lt, c_le, c_gt, c_ge, k_lt, k_le, k_gt, k_ge, obl_o, o_add, o_sub, o_mul, o_fdiv, o_mod, o_pow, o_cat, o_rep, M.ix_lst, M.ix_lk, M.ix_tup, frz_n0, frz_bo, frz_al, frz_n1, x_nil, Vd, truD, D.asL, D.asQ, D.asT, opR, opS, List.set, List.map, List.getElem?_cons_zero, List.getElem?_cons_succ, Out.nx.injEq, exists_eq_left', exists_eq_left, Bool.false_eq_true, if_false, if_true, Lv.own, Bool.not_true, Bool.not_false, ite_true, ite_false, reduceIte, bdG, bdGs, callD1, cp, lf, flat_int, callL, List.any_cons, List.any_nil, Bool.or_false, Bool.false_or, Bool.true_or, nmin_00, nmin_01, nmin_10, nmin_11, wl_int, wl_str, wl_bl, wl_non, wl_n, ne_ints, eq_ints, Lv.up, Lv.min, mnL, dsp, List.map_cons, List.map_nil, eq_self, Option.map_some, D.v, List.length_map, hd, hb0, hl, h_showing_3, h_showing_4]
    refine ⟨some (.int (0 + (i : Nat)), .n 0), ?_⟩
    rw [fdiv_pow (by omega), dig_succ, I, List.map_append]
    rfl
  case fin =>
    rintro ρ ⟨u, rfl⟩
    simp only [M.execs, M.exec, ev, evT, evs, evP, evI, evIF, evAnd, evOr, evAndV, evOrV, evTs, evF_q, evF'_int, evF'_bl, evF'_str, evF'_non, evF'_n, evF'_al, evF'_bo, evF'_err, evF'_stuck, evS_q, evS'_int, evS'_bl, evS'_str, evS'_n, evS'_al, frzV_nil, frzV_cons, frz1, evars, evarss, evarsI, gd_T, gdO_T, nl_int, nl_bl, nl_str, nl_non, nl_nd, isBo_int, isBo_bl, isBo_str, isBo_non, isBo_n, isBo_al, isBo_nd, vw1_int, vw1_bl, vw1_str, vw1_non, vw1_0, vw1_1, vw1_one, vw1_al, vw1_none, vw_nil, vw_cons, bind_o, bind_e, bind_s, toOut_o, toOut_e, pure_o, cl_int, cl_bl, cl_str, cl_non, cl_al, cl_n, setS, appF, sbF, isApp, neEs_c, callL_al, blt_len, blt_int, blt_abs, blt_max, blt_min, blt_list, blt_tuple, blt_sum, blt_any, blt_all, blt_str, blt_repr, b_len_lst, b_len_lk, b_len_tup, b_int, b_int_bl, b_abs, b_max, b_min, b_list, c_eq_int, c_ne_int, c_eq_str, c_ne_str, c_lt, c_le, c_gt, c_ge, k_lt, k_le, k_gt, k_ge, obl_o, o_add, o_sub, o_mul, o_fdiv, o_mod, o_pow, o_cat, o_rep, M.ix_lst, M.ix_lk, M.ix_tup, frz_n0, frz_bo, frz_al, frz_n1, x_nil, Vd, truD, D.asL, D.asQ, D.asT, opR, opS, List.set, List.map, List.getElem?_cons_zero, List.getElem?_cons_succ, Out.nx.injEq, exists_eq_left', exists_eq_left, Bool.false_eq_true, if_false, if_true, Lv.own, Bool.not_true, Bool.not_false, ite_true, ite_false, reduceIte, bdG, bdGs, callD1, cp, lf, flat_int, callL, List.any_cons, List.any_nil, Bool.or_false, Bool.false_or, Bool.true_or, nmin_00, nmin_01, nmin_10, nmin_11, wl_int, wl_str, wl_bl, wl_non, wl_n, ne_ints, eq_ints, Lv.up, Lv.min, mnL, dsp, List.map_cons, List.map_nil, eq_self, Option.map_some, D.v, List.length_map, outOf]
    rw [dig_mod (by omega)]
theorem S_draws (ns : List Int) : ∃ ds : List Int, run_law_draws [.nd .lk (ns.map D.int)] = .ok (I ds, .n 1) := by
  suffices h : RS Φ_law_draws h_law_draws 0 b_law_draws (startE N_law_draws [.nd .lk (ns.map D.int)]) (fun x => ∃ ds : List Int, x = (I ds, .n 1)) by
    obtain ⟨x, e, ds, rfl⟩ := rs_run (Fu := fun _ => 0) (N := N_law_draws) (n := 1) (ds := [.nd .lk (ns.map D.int)]) rfl h
    exact ⟨ds, e⟩
  show RS _ _ _ _ [some (.nd .lk (ns.map D.int), .n 0), none, none, none, none, none] _
  unfold b_law_draws
  refine rs_nx (by simp only [M.exec, ev, evT, evs, evP, evI, evIF, evAnd, evOr, evAndV, evOrV, evTs, evF_q, evF'_int, evF'_bl, evF'_str, evF'_non, evF'_n, evF'_al, evF'_bo, evF'_err, evF'_stuck, evS_q, evS'_int, evS'_bl, evS'_str, evS'_n, evS'_al, frzV_nil, frzV_cons, frz1, evars, evarss, evarsI, gd_T, gdO_T, nl_int, nl_bl, nl_str, nl_non, nl_nd, isBo_int, isBo_bl, isBo_str, isBo_non, isBo_n, isBo_al, isBo_nd, vw1_int, vw1_bl, vw1_str, vw1_non, vw1_0, vw1_1, vw1_one, vw1_al, vw1_none, vw_nil, vw_cons, bind_o, bind_e, bind_s, toOut_o, toOut_e, pure_o, cl_int, cl_bl, cl_str, cl_non, cl_al, cl_n, setS, appF, sbF, isApp, neEs_c, callL_al, blt_len, blt_int, blt_abs, blt_max, blt_min, blt_list, blt_tuple, blt_sum, blt_any, blt_all, blt_str, blt_repr, b_len_lst, b_len_lk, b_len_tup, b_int, b_int_bl, b_abs, b_max, b_min, b_list, c_eq_int, c_ne_int, c_eq_str, c_ne_str, c_lt, c_le, c_gt, c_ge, k_lt, k_le, k_gt, k_ge, obl_o, o_add, o_sub, o_mul, o_fdiv, o_mod, o_pow, o_cat, o_rep, M.ix_lst, M.ix_lk, M.ix_tup, frz_n0, frz_bo, frz_al, frz_n1, x_nil, Vd, truD, D.asL, D.asQ, D.asT, opR, opS, List.set, List.map, List.getElem?_cons_zero, List.getElem?_cons_succ, Out.nx.injEq, exists_eq_left', exists_eq_left, Bool.false_eq_true, if_false, if_true, Lv.own, Bool.not_true, Bool.not_false, ite_true, ite_false, reduceIte, bdG, bdGs, callD1, cp, lf, flat_int, callL, List.any_cons, List.any_nil, Bool.or_false, Bool.false_or, Bool.true_or, nmin_00, nmin_01, nmin_10, nmin_11, wl_int, wl_str, wl_bl, wl_non, wl_n, ne_ints, eq_ints, Lv.up, Lv.min, mnL, dsp, List.map_cons, List.map_nil, eq_self, Option.map_some, D.v, List.length_map, h_law_draws_1, List.length_nil, Nat.zero_le]; rfl) ?_
  let S := D.nd .lk (ns.map D.int)
  obtain ⟨m, hm, hm2⟩ : ∃ m : Nat, m ≤ ns.length ∧ m ≤ 63 ∧ (if (ns.length : Int) < 63 then (ns.length : Int) else 63) = (m : Nat) := by
    by_cases c : (ns.length : Int) < 63
    · exact ⟨ns.length, Nat.le_refl _, by omega, if_pos c⟩
    · exact ⟨63, by omega, Nat.le_refl _, if_neg c⟩
  refine rs_xs (Q := fun ρ => ∃ (ds : List Int) (u2 u3 u4 u5 : Option DL), ρ = [some (S, .n 0), some (I ds, .n 1), u2, u3, u4, u5] ∧ ds.length ≤ 60 * m) ?loop ?fin
  case fin =>
    rintro ρ ⟨ds, u2, u3, u4, u5, rfl, _⟩
    exact rs_ret (by simp only [M.exec, ev, evT, evs, evP, evI, evIF, evAnd, evOr, evAndV, evOrV, evTs, evF_q, evF'_int, evF'_bl, evF'_str, evF'_non, evF'_n, evF'_al, evF'_bo, evF'_err, evF'_stuck, evS_q, evS'_int, evS'_bl, evS'_str, evS'_n, evS'_al, frzV_nil, frzV_cons, frz1, evars, evarss, evarsI, gd_T, gdO_T, nl_int, nl_bl, nl_str, nl_non, nl_nd, isBo_int, isBo_bl, isBo_str, isBo_non, isBo_n, isBo_al, isBo_nd, vw1_int, vw1_bl, vw1_str, vw1_non, vw1_0, vw1_1, vw1_one, vw1_al, vw1_none, vw_nil, vw_cons, bind_o, bind_e, bind_s, toOut_o, toOut_e, pure_o, cl_int, cl_bl, cl_str, cl_non, cl_al, cl_n, setS, appF, sbF, isApp, neEs_c, callL_al, blt_len, blt_int, blt_abs, blt_max, blt_min, blt_list, blt_tuple, blt_sum, blt_any, blt_all, blt_str, blt_repr, b_len_lst, b_len_lk, b_len_tup, b_int, b_int_bl, b_abs, b_max, b_min, b_list, c_eq_int, c_ne_int, c_eq_str, c_ne_str, c_lt, c_le, c_gt, c_ge, k_lt, k_le, k_gt, k_ge, obl_o, o_add, o_sub, o_mul, o_fdiv, o_mod, o_pow, o_cat, o_rep, M.ix_lst, M.ix_lk, M.ix_tup, frz_n0, frz_bo, frz_al, frz_n1, x_nil, Vd, truD, D.asL, D.asQ, D.asT, opR, opS, List.set, List.map, List.getElem?_cons_zero, List.getElem?_cons_succ, Out.nx.injEq, exists_eq_left', exists_eq_left, Bool.false_eq_true, if_false, if_true, Lv.own, Bool.not_true, Bool.not_false, ite_true, ite_false, reduceIte, bdG, bdGs, callD1, cp, lf, flat_int, callL, List.any_cons, List.any_nil, Bool.or_false, Bool.false_or, Bool.true_or, nmin_00, nmin_01, nmin_10, nmin_11, wl_int, wl_str, wl_bl, wl_non, wl_n, ne_ints, eq_ints, Lv.up, Lv.min, mnL, dsp, List.map_cons, List.map_nil, eq_self, Option.map_some, D.v, List.length_map]) ⟨ds, rfl⟩
  case loop =>
    have hr : (-(2 ^ 62) ≤ (m : Int) ∧ (m : Int) < 2 ^ 62) = True := eq_true ⟨by omega, by omega⟩
    refine xs_range (ρ0 := ?w) (n := m) (φ := fun k => D.int (0 + (k : Nat))) (fun i ρ => ∃ (ds : List Int) (u2 u3 u4 u5 : Option DL), ρ = [some (S, .n 0), some (I ds, .n 1), u2, u3, u4, u5] ∧ ds.length ≤ 60 * i) ?e ?h0 ?s ?k
    case e =>
      simp only [M.exec, ev, evT, evs, evP, evI, evIF, evAnd, evOr, evAndV, evOrV, evTs, evF_q, evF'_int, evF'_bl, evF'_str, evF'_non, evF'_n, evF'_al, evF'_bo, evF'_err, evF'_stuck, evS_q, evS'_int, evS'_bl, evS'_str, evS'_n, evS'_al, frzV_nil, frzV_cons, frz1, evars, evarss, evarsI, gd_T, gdO_T, nl_int, nl_bl, nl_str, nl_non, nl_nd, isBo_int, isBo_bl, isBo_str, isBo_non, isBo_n, isBo_al, isBo_nd, vw1_int, vw1_bl, vw1_str, vw1_non, vw1_0, vw1_1, vw1_one, vw1_al, vw1_none, vw_nil, vw_cons, bind_o, bind_e, bind_s, toOut_o, toOut_e, pure_o, cl_int, cl_bl, cl_str, cl_non, cl_al, cl_n, setS, appF, sbF, isApp, neEs_c, callL_al, blt_len, blt_int, blt_abs, blt_max, blt_min, blt_list, blt_tuple, blt_sum, blt_any, blt_all, blt_str, blt_repr, b_len_lst, b_len_lk, b_len_tup, b_int, b_int_bl, b_abs, b_max, b_min, b_list, c_eq_int, c_ne_int, c_eq_str, c_ne_str, c_lt, c_le, c_gt, c_ge, k_lt, k_le, k_gt, k_ge, obl_o, o_add, o_sub, o_mul, o_fdiv, o_mod, o_pow, o_cat, o_rep, M.ix_lst, M.ix_lk, M.ix_tup, frz_n0, frz_bo, frz_al, frz_n1, x_nil, Vd, truD, D.asL, D.asQ, D.asT, opR, opS, List.set, List.map, List.getElem?_cons_zero, List.getElem?_cons_succ, Out.nx.injEq, exists_eq_left', exists_eq_left, Bool.false_eq_true, if_false, if_true, Lv.own, Bool.not_true, Bool.not_false, ite_true, ite_false, reduceIte, bdG, bdGs, callD1, cp, lf, flat_int, callL, List.any_cons, List.any_nil, Bool.or_false, Bool.false_or, Bool.true_or, nmin_00, nmin_01, nmin_10, nmin_11, wl_int, wl_str, wl_bl, wl_non, wl_n, ne_ints, eq_ints, Lv.up, Lv.min, mnL, dsp, List.map_cons, List.map_nil, eq_self, Option.map_some, D.v, List.length_map, callE_b B_law_draws, hm2.2, hr, Int.toNat_natCast]
      rfl
    case h0 => exact ⟨[], none, none, none, none, rfl, Nat.zero_le _⟩
    case k => exact fun ρ h => xs_nil h
    case s =>
      rintro i ρ hi ⟨ds, u2, u3, u4, u5, rfl, hl⟩
      refine ⟨_, rfl, ?_⟩
      have hat : atI (ns.map D.int) (0 + (i : Nat)) = some (.int ns[i]) := by
        rw [Int.zero_add, M.atI_nat, List.getElem?_map, List.getElem?_eq_getElem (by omega)]
        rfl
      refine xs_cons (by simp only [M.exec, ev, evT, evs, evP, evI, evIF, evAnd, evOr, evAndV, evOrV, evTs, evF_q, evF'_int, evF'_bl, evF'_str, evF'_non, evF'_n, evF'_al, evF'_bo, evF'_err, evF'_stuck, evS_q, evS'_int, evS'_bl, evS'_str, evS'_n, evS'_al, frzV_nil, frzV_cons, frz1, evars, evarss, evarsI, gd_T, gdO_T, nl_int, nl_bl, nl_str, nl_non, nl_nd, isBo_int, isBo_bl, isBo_str, isBo_non, isBo_n, isBo_al, isBo_nd, vw1_int, vw1_bl, vw1_str, vw1_non, vw1_0, vw1_1, vw1_one, vw1_al, vw1_none, vw_nil, vw_cons, bind_o, bind_e, bind_s, toOut_o, toOut_e, pure_o, cl_int, cl_bl, cl_str, cl_non, cl_al, cl_n, setS, appF, sbF, isApp, neEs_c, callL_al, blt_len, blt_int, blt_abs, blt_max, blt_min, blt_list, blt_tuple, blt_sum, blt_any, blt_all, blt_str, blt_repr, b_len_lst, b_len_lk, b_len_tup, b_int, b_int_bl, b_abs, b_max, b_min, b_list, c_eq_int, c_ne_int, c_eq_str, c_ne_str, c_lt, c_le, c_gt, c_ge, k_lt, k_le, k_gt, k_ge, obl_o, o_add, o_sub, o_mul, o_fdiv, o_mod, o_pow, o_cat, o_rep, M.ix_lst, M.ix_lk, M.ix_tup, frz_n0, frz_bo, frz_al, frz_n1, x_nil, Vd, truD, D.asL, D.asQ, D.asT, opR, opS, List.set, List.map, List.getElem?_cons_zero, List.getElem?_cons_succ, Out.nx.injEq, exists_eq_left', exists_eq_left, Bool.false_eq_true, if_false, if_true, Lv.own, Bool.not_true, Bool.not_false, ite_true, ite_false, reduceIte, bdG, bdGs, callD1, cp, lf, flat_int, callL, List.any_cons, List.any_nil, Bool.or_false, Bool.false_or, Bool.true_or, nmin_00, nmin_01, nmin_10, nmin_11, wl_int, wl_str, wl_bl, wl_non, wl_n, ne_ints, eq_ints, Lv.up, Lv.min, mnL, dsp, List.map_cons, List.map_nil, eq_self, Option.map_some, D.v, List.length_map, callE_b B_law_draws, S, hat, h_law_draws_3]; rfl) ?_
      generalize (if ns[i] < 0 then -ns[i] else ns[i]) = rest
      have hp : CPow 10 18 = True := eq_true ⟨by decide, by decide, by decide⟩
      by_cases c : (10 : Int) ^ (18 : Int).toNat ≤ rest
      · refine xs_ift (Q := fun ρ => ∃ (ds' : List Int) (u2 u3 u4 u5 : Option DL), ρ = [some (S, .n 0), some (I ds', .n 1), u2, u3, u4, u5] ∧ ds'.length ≤ 60 * (i + 1)) (by simp only [M.exec, ev, evT, evs, evP, evI, evIF, evAnd, evOr, evAndV, evOrV, evTs, evF_q, evF'_int, evF'_bl, evF'_str, evF'_non, evF'_n, evF'_al, evF'_bo, evF'_err, evF'_stuck, evS_q, evS'_int, evS'_bl, evS'_str, evS'_n, evS'_al, frzV_nil, frzV_cons, frz1, evars, evarss, evarsI, gd_T, gdO_T, nl_int, nl_bl, nl_str, nl_non, nl_nd, isBo_int, isBo_bl, isBo_str, isBo_non, isBo_n, isBo_al, isBo_nd, vw1_int, vw1_bl, vw1_str, vw1_non, vw1_0, vw1_1, vw1_one, vw1_al, vw1_none, vw_nil, vw_cons, bind_o, bind_e, bind_s, toOut_o, toOut_e, pure_o, cl_int, cl_bl, cl_str, cl_non, cl_al, cl_n, setS, appF, sbF, isApp, neEs_c, callL_al, blt_len, blt_int, blt_abs, blt_max, blt_min, blt_list, blt_tuple, blt_sum, blt_any, blt_all, blt_str, blt_repr, b_len_lst, b_len_lk, b_len_tup, b_int, b_int_bl, b_abs, b_max, b_min, b_list, c_eq_int, c_ne_int, c_eq_str, c_ne_str, c_lt, c_le, c_gt, c_ge, k_lt, k_le, k_gt, k_ge, obl_o, o_add, o_sub, o_mul, o_fdiv, o_mod, o_pow, o_cat, o_rep, M.ix_lst, M.ix_lk, M.ix_tup, frz_n0, frz_bo, frz_al, frz_n1, x_nil, Vd, truD, D.asL, D.asQ, D.asT, opR, opS, List.set, List.map, List.getElem?_cons_zero, List.getElem?_cons_succ, Out.nx.injEq, exists_eq_left', exists_eq_left, Bool.false_eq_true, if_false, if_true, Lv.own, Bool.not_true, Bool.not_false, ite_true, ite_false, reduceIte, bdG, bdGs, callD1, cp, lf, flat_int, callL, List.any_cons, List.any_nil, Bool.or_false, Bool.false_or, Bool.true_or, nmin_00, nmin_01, nmin_10, nmin_11, wl_int, wl_str, wl_bl, wl_non, wl_n, ne_ints, eq_ints, Lv.up, Lv.min, mnL, dsp, List.map_cons, List.map_nil, eq_self, Option.map_some, D.v, List.length_map, hp, c, decide_true]) ?_ fun ρ h => xs_nil h
        refine xs_range (ρ0 := ?w2) (n := 60) (φ := fun k => D.int (0 + (k : Nat))) (fun j ρ => ∃ (ds' : List Int) (r : Int) (u4 : Option DL), ρ = [some (S, .n 0), some (I ds', .n 1), some (.int (0 + (i : Nat)), .n 0), some (.int r, .n 0), u4, u5] ∧ ds'.length ≤ ds.length + j) ?e2 ?h2 ?s2 ?k2
        case e2 =>
          have h60 : (-(2 ^ 62) ≤ (60 : Int) ∧ (60 : Int) < 2 ^ 62) = True := eq_true ⟨by decide, by decide⟩
          simp only [M.exec, ev, evT, evs, evP, evI, evIF, evAnd, evOr, evAndV, evOrV, evTs, evF_q, evF'_int, evF'_bl, evF'_str, evF'_non, evF'_n, evF'_al, evF'_bo, evF'_err, evF'_stuck, evS_q, evS'_int, evS'_bl, evS'_str, evS'_n, evS'_al, frzV_nil, frzV_cons, frz1, evars, evarss, evarsI, gd_T, gdO_T, nl_int, nl_bl, nl_str, nl_non, nl_nd, isBo_int, isBo_bl, isBo_str, isBo_non, isBo_n, isBo_al, isBo_nd, vw1_int, vw1_bl, vw1_str, vw1_non, vw1_0, vw1_1, vw1_one, vw1_al, vw1_none, vw_nil, vw_cons, bind_o, bind_e, bind_s, toOut_o, toOut_e, pure_o, cl_int, cl_bl, cl_str, cl_non, cl_al, cl_n, setS, appF, sbF, isApp, neEs_c, callL_al, blt_len, blt_int, blt_abs, blt_max, blt_min, blt_list, blt_tuple, blt_sum, blt_any, blt_all, blt_str, blt_repr, b_len_lst, b_len_lk, b_len_tup, b_int, b_int_bl, b_abs, b_max, b_min, b_list, c_eq_int, c_ne_int, c_eq_str, c_ne_str, c_lt, c_le, c_gt, c_ge, k_lt, k_le, k_gt, k_ge, obl_o, o_add, o_sub, o_mul, o_fdiv, o_mod, o_pow, o_cat, o_rep, M.ix_lst, M.ix_lk, M.ix_tup, frz_n0, frz_bo, frz_al, frz_n1, x_nil, Vd, truD, D.asL, D.asQ, D.asT, opR, opS, List.set, List.map, List.getElem?_cons_zero, List.getElem?_cons_succ, Out.nx.injEq, exists_eq_left', exists_eq_left, Bool.false_eq_true, if_false, if_true, Lv.own, Bool.not_true, Bool.not_false, ite_true, ite_false, reduceIte, bdG, bdGs, callD1, cp, lf, flat_int, callL, List.any_cons, List.any_nil, Bool.or_false, Bool.false_or, Bool.true_or, nmin_00, nmin_01, nmin_10, nmin_11, wl_int, wl_str, wl_bl, wl_non, wl_n, ne_ints, eq_ints, Lv.up, Lv.min, mnL, dsp, List.map_cons, List.map_nil, eq_self, Option.map_some, D.v, List.length_map, h60]
          rfl
        case h2 => exact ⟨ds, rest, u4, rfl, Nat.le_refl _⟩
        case k2 =>
          rintro ρ ⟨ds', r, u4, rfl, hl'⟩
          exact xs_nil ⟨ds', _, _, _, _, rfl, by omega⟩
        case s2 =>
          rintro j ρ hj ⟨ds', r, u4, rfl, hl'⟩
          refine ⟨_, rfl, ?_⟩
          have hd : ∀ x : Int, (CDivN x 65536 ∨ CDivW x 65536) = True := fun x => eq_true (.inl ⟨by decide, by decide⟩)
          have h6 : ((65536 : Int) ≠ 0) = True := eq_true (by decide)
          have hz : (ds'.length < sizeLine) = True := eq_true (sz_lt (by omega))
          by_cases c2 : 0 < r
          · refine xs_ift (Q := fun ρ => ∃ (ds' : List Int) (r : Int) (u4 : Option DL), ρ = [some (S, .n 0), some (I ds', .n 1), some (.int (0 + (i : Nat)), .n 0), some (.int r, .n 0), u4, u5] ∧ ds'.length ≤ ds.length + (j + 1)) (by simp only [M.exec, ev, evT, evs, evP, evI, evIF, evAnd, evOr, evAndV, evOrV, evTs, evF_q, evF'_int, evF'_bl, evF'_str, evF'_non, evF'_n, evF'_al, evF'_bo, evF'_err, evF'_stuck, evS_q, evS'_int, evS'_bl, evS'_str, evS'_n, evS'_al, frzV_nil, frzV_cons, frz1, evars, evarss, evarsI, gd_T, gdO_T, nl_int, nl_bl, nl_str, nl_non, nl_nd, isBo_int, isBo_bl, isBo_str, isBo_non, isBo_n, isBo_al, isBo_nd, vw1_int, vw1_bl, vw1_str, vw1_non, vw1_0, vw1_1, vw1_one, vw1_al, vw1_none, vw_nil, vw_cons, bind_o, bind_e, bind_s, toOut_o, toOut_e, pure_o, cl_int, cl_bl, cl_str, cl_non, cl_al, cl_n, setS, appF, sbF, isApp, neEs_c, callL_al, blt_len, blt_int, blt_abs, blt_max, blt_min, blt_list, blt_tuple, blt_sum, blt_any, blt_all, blt_str, blt_repr, b_len_lst, b_len_lk, b_len_tup, b_int, b_int_bl, b_abs, b_max, b_min, b_list, c_eq_int, c_ne_int, c_eq_str, c_ne_str, c_lt, c_le, c_gt, c_ge, k_lt, k_le, k_gt, k_ge, obl_o, o_add, o_sub, o_mul, o_fdiv, o_mod, o_pow, o_cat, o_rep, M.ix_lst, M.ix_lk, M.ix_tup, frz_n0, frz_bo, frz_al, frz_n1, x_nil, Vd, truD, D.asL, D.asQ, D.asT, opR, opS, List.set, List.map, List.getElem?_cons_zero, List.getElem?_cons_succ, Out.nx.injEq, exists_eq_left', exists_eq_left, Bool.false_eq_true, if_false, if_true, Lv.own, Bool.not_true, Bool.not_false, ite_true, ite_false, reduceIte, bdG, bdGs, callD1, cp, lf, flat_int, callL, List.any_cons, List.any_nil, Bool.or_false, Bool.false_or, Bool.true_or, nmin_00, nmin_01, nmin_10, nmin_11, wl_int, wl_str, wl_bl, wl_non, wl_n, ne_ints, eq_ints, Lv.up, Lv.min, mnL, dsp, List.map_cons, List.map_nil, eq_self, Option.map_some, D.v, List.length_map, c2, decide_true]) ?_ fun ρ h => xs_nil h
            refine xs_cons (by simp only [M.exec, ev, evT, evs, evP, evI, evIF, evAnd, evOr, evAndV, evOrV, evTs, evF_q, evF'_int, evF'_bl, evF'_str, evF'_non, evF'_n, evF'_al, evF'_bo, evF'_err, evF'_stuck, evS_q, evS'_int, evS'_bl, evS'_str, evS'_n, evS'_al, frzV_nil, frzV_cons, frz1, evars, evarss, evarsI, gd_T, gdO_T, nl_int, nl_bl, nl_str, nl_non, nl_nd, isBo_int, isBo_bl, isBo_str, isBo_non, isBo_n, isBo_al, isBo_nd, vw1_int, vw1_bl, vw1_str, vw1_non, vw1_0, vw1_1, vw1_one, vw1_al, vw1_none, vw_nil, vw_cons, bind_o, bind_e, bind_s, toOut_o, toOut_e, pure_o, cl_int, cl_bl, cl_str, cl_non, cl_al, cl_n, setS, appF, sbF, isApp, neEs_c, callL_al, blt_len, blt_int, blt_abs, blt_max, blt_min, blt_list, blt_tuple, blt_sum, blt_any, blt_all, blt_str, blt_repr, b_len_lst, b_len_lk, b_len_tup, b_int, b_int_bl, b_abs, b_max, b_min, b_list, c_eq_int, c_ne_int, c_eq_str, c_ne_str, c_lt, c_le, c_gt, c_ge, k_lt, k_le, k_gt, k_ge, obl_o, o_add, o_sub, o_mul, o_fdiv, o_mod, o_pow, o_cat, o_rep, M.ix_lst, M.ix_lk, M.ix_tup, frz_n0, frz_bo, frz_al, frz_n1, x_nil, Vd, truD, D.asL, D.asQ, D.asT, opR, opS, List.set, List.map, List.getElem?_cons_zero, List.getElem?_cons_succ, Out.nx.injEq, exists_eq_left', exists_eq_left, Bool.false_eq_true, if_false, if_true, Lv.own, Bool.not_true, Bool.not_false, ite_true, ite_false, reduceIte, bdG, bdGs, callD1, cp, lf, flat_int, callL, List.any_cons, List.any_nil, Bool.or_false, Bool.false_or, Bool.true_or, nmin_00, nmin_01, nmin_10, nmin_11, wl_int, wl_str, wl_bl, wl_non, wl_n, ne_ints, eq_ints, Lv.up, Lv.min, mnL, dsp, List.map_cons, List.map_nil, eq_self, Option.map_some, D.v, List.length_map, callE_b B_law_draws, h6, hz]; rfl) (xs_cons (by simp only [M.exec, ev, evT, evs, evP, evI, evIF, evAnd, evOr, evAndV, evOrV, evTs, evF_q, evF'_int, evF'_bl, evF'_str, evF'_non, evF'_n, evF'_al, evF'_bo, evF'_err, evF'_stuck, evS_q, evS'_int, evS'_bl, evS'_str, evS'_n, evS'_al, frzV_nil, frzV_cons, frz1, evars, evarss, evarsI, gd_T, gdO_T, nl_int, nl_bl, nl_str, nl_non, nl_nd, isBo_int, isBo_bl, isBo_str, isBo_non, isBo_n, isBo_al, isBo_nd, vw1_int, vw1_bl, vw1_str, vw1_non, vw1_0, vw1_1, vw1_one, vw1_al, vw1_none, vw_nil, vw_cons, bind_o, bind_e, bind_s, toOut_o, toOut_e, pure_o, cl_int, cl_bl, cl_str, cl_non, cl_al, cl_n, setS, appF, sbF, isApp, neEs_c, callL_al, blt_len, blt_int, blt_abs, blt_max, blt_min, blt_list, blt_tuple, blt_sum, blt_any, blt_all, blt_str, blt_repr, b_len_lst, b_len_lk, b_len_tup, b_int, b_int_bl, b_abs, b_max, b_min, b_list, c_eq_int, c_ne_int, c_eq_str, c_ne_str, c_lt, c_le, c_gt, c_ge, k_lt, k_le, k_gt, k_ge, obl_o, o_add, o_sub, o_mul, o_fdiv, o_mod, o_pow, o_cat, o_rep, M.ix_lst, M.ix_lk, M.ix_tup, frz_n0, frz_bo, frz_al, frz_n1, x_nil, Vd, truD, D.asL, D.asQ, D.asT, opR, opS, List.set, List.map, List.getElem?_cons_zero, List.getElem?_cons_succ, Out.nx.injEq, exists_eq_left', exists_eq_left, Bool.false_eq_true, if_false, if_true, Lv.own, Bool.not_true, Bool.not_false, ite_true, ite_false, reduceIte, bdG, bdGs, callD1, cp, lf, flat_int, callL, List.any_cons, List.any_nil, Bool.or_false, Bool.false_or, Bool.true_or, nmin_00, nmin_01, nmin_10, nmin_11, wl_int, wl_str, wl_bl, wl_non, wl_n, ne_ints, eq_ints, Lv.up, Lv.min, mnL, dsp, List.map_cons, List.map_nil, eq_self, Option.map_some, D.v, List.length_map, hd, h_law_draws_3]; rfl) (xs_nil ⟨ds' ++ [r.fmod 65536], r.fdiv 65536, some (.int (0 + (j : Nat)), .n 0), ?_, ?_⟩))
            · rw [I, List.map_append]; rfl
            · rw [List.length_append, List.length_singleton]; omega
          · exact xs_iff (Q := fun ρ => ∃ (ds' : List Int) (r : Int) (u4 : Option DL), ρ = [some (S, .n 0), some (I ds', .n 1), some (.int (0 + (i : Nat)), .n 0), some (.int r, .n 0), u4, u5] ∧ ds'.length ≤ ds.length + (j + 1)) (by simp only [M.exec, ev, evT, evs, evP, evI, evIF, evAnd, evOr, evAndV, evOrV, evTs, evF_q, evF'_int, evF'_bl, evF'_str, evF'_non, evF'_n, evF'_al, evF'_bo, evF'_err, evF'_stuck, evS_q, evS'_int, evS'_bl, evS'_str, evS'_n, evS'_al, frzV_nil, frzV_cons, frz1, evars, evarss, evarsI, gd_T, gdO_T, nl_int, nl_bl, nl_str, nl_non, nl_nd, isBo_int, isBo_bl, isBo_str, isBo_non, isBo_n, isBo_al, isBo_nd, vw1_int, vw1_bl, vw1_str, vw1_non, vw1_0, vw1_1, vw1_one, vw1_al, vw1_none, vw_nil, vw_cons, bind_o, bind_e, bind_s, toOut_o, toOut_e, pure_o, cl_int, cl_bl, cl_str, cl_non, cl_al, cl_n, setS, appF, sbF, isApp, neEs_c, callL_al, blt_len, blt_int, blt_abs, blt_max, blt_min, blt_list, blt_tuple, blt_sum, blt_any, blt_all, blt_str, blt_repr, b_len_lst, b_len_lk, b_len_tup, b_int, b_int_bl, b_abs, b_max, b_min, b_list, c_eq_int, c_ne_int, c_eq_str, c_ne_str, c_lt, c_le, c_gt, c_ge, k_lt, k_le, k_gt, k_ge, obl_o, o_add, o_sub, o_mul, o_fdiv, o_mod, o_pow, o_cat, o_rep, M.ix_lst, M.ix_lk, M.ix_tup, frz_n0, frz_bo, frz_al, frz_n1, x_nil, Vd, truD, D.asL, D.asQ, D.asT, opR, opS, List.set, List.map, List.getElem?_cons_zero, List.getElem?_cons_succ, Out.nx.injEq, exists_eq_left', exists_eq_left, Bool.false_eq_true, if_false, if_true, Lv.own, Bool.not_true, Bool.not_false, ite_true, ite_false, reduceIte, bdG, bdGs, callD1, cp, lf, flat_int, callL, List.any_cons, List.any_nil, Bool.or_false, Bool.false_or, Bool.true_or, nmin_00, nmin_01, nmin_10, nmin_11, wl_int, wl_str, wl_bl, wl_non, wl_n, ne_ints, eq_ints, Lv.up, Lv.min, mnL, dsp, List.map_cons, List.map_nil, eq_self, Option.map_some, D.v, List.length_map, c2, decide_false]) (xs_nil ⟨ds', r, _, rfl, by omega⟩) fun ρ h => xs_nil h
      · refine xs_iff (Q := fun ρ => ∃ (ds' : List Int) (u2 u3 u4 u5 : Option DL), ρ = [some (S, .n 0), some (I ds', .n 1), u2, u3, u4, u5] ∧ ds'.length ≤ 60 * (i + 1)) (by simp only [M.exec, ev, evT, evs, evP, evI, evIF, evAnd, evOr, evAndV, evOrV, evTs, evF_q, evF'_int, evF'_bl, evF'_str, evF'_non, evF'_n, evF'_al, evF'_bo, evF'_err, evF'_stuck, evS_q, evS'_int, evS'_bl, evS'_str, evS'_n, evS'_al, frzV_nil, frzV_cons, frz1, evars, evarss, evarsI, gd_T, gdO_T, nl_int, nl_bl, nl_str, nl_non, nl_nd, isBo_int, isBo_bl, isBo_str, isBo_non, isBo_n, isBo_al, isBo_nd, vw1_int, vw1_bl, vw1_str, vw1_non, vw1_0, vw1_1, vw1_one, vw1_al, vw1_none, vw_nil, vw_cons, bind_o, bind_e, bind_s, toOut_o, toOut_e, pure_o, cl_int, cl_bl, cl_str, cl_non, cl_al, cl_n, setS, appF, sbF, isApp, neEs_c, callL_al, blt_len, blt_int, blt_abs, blt_max, blt_min, blt_list, blt_tuple, blt_sum, blt_any, blt_all, blt_str, blt_repr, b_len_lst, b_len_lk, b_len_tup, b_int, b_int_bl, b_abs, b_max, b_min, b_list, c_eq_int, c_ne_int, c_eq_str, c_ne_str, c_lt, c_le, c_gt, c_ge, k_lt, k_le, k_gt, k_ge, obl_o, o_add, o_sub, o_mul, o_fdiv, o_mod, o_pow, o_cat, o_rep, M.ix_lst, M.ix_lk, M.ix_tup, frz_n0, frz_bo, frz_al, frz_n1, x_nil, Vd, truD, D.asL, D.asQ, D.asT, opR, opS, List.set, List.map, List.getElem?_cons_zero, List.getElem?_cons_succ, Out.nx.injEq, exists_eq_left', exists_eq_left, Bool.false_eq_true, if_false, if_true, Lv.own, Bool.not_true, Bool.not_false, ite_true, ite_false, reduceIte, bdG, bdGs, callD1, cp, lf, flat_int, callL, List.any_cons, List.any_nil, Bool.or_false, Bool.false_or, Bool.true_or, nmin_00, nmin_01, nmin_10, nmin_11, wl_int, wl_str, wl_bl, wl_non, wl_n, ne_ints, eq_ints, Lv.up, Lv.min, mnL, dsp, List.map_cons, List.map_nil, eq_self, Option.map_some, D.v, List.length_map, hp, c, decide_false]) ?_ fun ρ h => xs_nil h
        have m1 : ∀ x : Int, (CMul x 48271 ∨ CMulW x 48271) = True := fun x => eq_true (.inl (.inr ⟨by decide, by decide⟩))
        have m2 : ∀ x : Int, (CMul x 69621 ∨ CMulW x 69621) = True := fun x => eq_true (.inl (.inr ⟨by decide, by decide⟩))
        have m3 : ∀ x : Int, (CMul x 16807 ∨ CMulW x 16807) = True := fun x => eq_true (.inl (.inr ⟨by decide, by decide⟩))
        have m4 : ∀ x : Int, (CMul 11 x ∨ CMulW 11 x) = True := fun x => eq_true (.inl (.inl ⟨by decide, by decide⟩))
        have d1 : ∀ x : Int, (CDivN x 65536 ∨ CDivW x 65536) = True := fun x => eq_true (.inl ⟨by decide, by decide⟩)
        have n1 : ((2147483647 : Int) ≠ 0) = True := eq_true (by decide)
        have n2 : ((2147483629 : Int) ≠ 0) = True := eq_true (by decide)
        have n3 : ((65536 : Int) ≠ 0) = True := eq_true (by decide)
        have n4 : ((32768 : Int) ≠ 0) = True := eq_true (by decide)
        have hz : (ds.length < sizeLine) = True := eq_true (sz_lt (by omega))
        refine xs_cons (by simp only [M.exec, ev, evT, evs, evP, evI, evIF, evAnd, evOr, evAndV, evOrV, evTs, evF_q, evF'_int, evF'_bl, evF'_str, evF'_non, evF'_n, evF'_al, evF'_bo, evF'_err, evF'_stuck, evS_q, evS'_int, evS'_bl, evS'_str, evS'_n, evS'_al, frzV_nil, frzV_cons, frz1, evars, evarss, evarsI, gd_T, gdO_T, nl_int, nl_bl, nl_str, nl_non, nl_nd, isBo_int, isBo_bl, isBo_str, isBo_non, isBo_n, isBo_al, isBo_nd, vw1_int, vw1_bl, vw1_str, vw1_non, vw1_0, vw1_1, vw1_one, vw1_al, vw1_none, vw_nil, vw_cons, bind_o, bind_e, bind_s, toOut_o, toOut_e, pure_o, cl_int, cl_bl, cl_str, cl_non, cl_al, cl_n, setS, appF, sbF, isApp, neEs_c, callL_al, blt_len, blt_int, blt_abs, blt_max, blt_min, blt_list, blt_tuple, blt_sum, blt_any, blt_all, blt_str, blt_repr, b_len_lst, b_len_lk, b_len_tup, b_int, b_int_bl, b_abs, b_max, b_min, b_list, c_eq_int, c_ne_int, c_eq_str, c_ne_str, c_lt, c_le, c_gt, c_ge, k_lt, k_le, k_gt, k_ge, obl_o, o_add, o_sub, o_mul, o_fdiv, o_mod, o_pow, o_cat, o_rep, M.ix_lst, M.ix_lk, M.ix_tup, frz_n0, frz_bo, frz_al, frz_n1, x_nil, Vd, truD, D.asL, D.asQ, D.asT, opR, opS, List.set, List.map, List.getElem?_cons_zero, List.getElem?_cons_succ, Out.nx.injEq, exists_eq_left', exists_eq_left, Bool.false_eq_true, if_false, if_true, Lv.own, Bool.not_true, Bool.not_false, ite_true, ite_false, reduceIte, bdG, bdGs, callD1, cp, lf, flat_int, callL, List.any_cons, List.any_nil, Bool.or_false, Bool.false_or, Bool.true_or, nmin_00, nmin_01, nmin_10, nmin_11, wl_int, wl_str, wl_bl, wl_non, wl_n, ne_ints, eq_ints, Lv.up, Lv.min, mnL, dsp, List.map_cons, List.map_nil, eq_self, Option.map_some, D.v, List.length_map, callE_b B_law_draws, m1, m2, n1, h_law_draws_5]; rfl) (xs_cons (by simp only [M.exec, ev, evT, evs, evP, evI, evIF, evAnd, evOr, evAndV, evOrV, evTs, evF_q, evF'_int, evF'_bl, evF'_str, evF'_non, evF'_n, evF'_al, evF'_bo, evF'_err, evF'_stuck, evS_q, evS'_int, evS'_bl, evS'_str, evS'_n, evS'_al, frzV_nil, frzV_cons, frz1, evars, evarss, evarsI, gd_T, gdO_T, nl_int, nl_bl, nl_str, nl_non, nl_nd, isBo_int, isBo_bl, isBo_str, isBo_non, isBo_n, isBo_al, isBo_nd, vw1_int, vw1_bl, vw1_str, vw1_non, vw1_0, vw1_1, vw1_one, vw1_al, vw1_none, vw_nil, vw_cons, bind_o, bind_e, bind_s, toOut_o, toOut_e, pure_o, cl_int, cl_bl, cl_str, cl_non, cl_al, cl_n, setS, appF, sbF, isApp, neEs_c, callL_al, blt_len, blt_int, blt_abs, blt_max, blt_min, blt_list, blt_tuple, blt_sum, blt_any, blt_all, blt_str, blt_repr, b_len_lst, b_len_lk, b_len_tup, b_int, b_int_bl, b_abs, b_max, b_min, b_list, c_eq_int, c_ne_int, c_eq_str, c_ne_str, c_lt, c_le, c_gt, c_ge, k_lt, k_le, k_gt, k_ge, obl_o, o_add, o_sub, o_mul, o_fdiv, o_mod, o_pow, o_cat, o_rep, M.ix_lst, M.ix_lk, M.ix_tup, frz_n0, frz_bo, frz_al, frz_n1, x_nil, Vd, truD, D.asL, D.asQ, D.asT, opR, opS, List.set, List.map, List.getElem?_cons_zero, List.getElem?_cons_succ, Out.nx.injEq, exists_eq_left', exists_eq_left, Bool.false_eq_true, if_false, if_true, Lv.own, Bool.not_true, Bool.not_false, ite_true, ite_false, reduceIte, bdG, bdGs, callD1, cp, lf, flat_int, callL, List.any_cons, List.any_nil, Bool.or_false, Bool.false_or, Bool.true_or, nmin_00, nmin_01, nmin_10, nmin_11, wl_int, wl_str, wl_bl, wl_non, wl_n, ne_ints, eq_ints, Lv.up, Lv.min, mnL, dsp, List.map_cons, List.map_nil, eq_self, Option.map_some, D.v, List.length_map, callE_b B_law_draws, m3, m4, n2, h_law_draws_5]; rfl) ?_)
        generalize ((_ : Int) + 5).fmod 2147483629 = st
        refine xs_cons (by simp only [M.exec, ev, evT, evs, evP, evI, evIF, evAnd, evOr, evAndV, evOrV, evTs, evF_q, evF'_int, evF'_bl, evF'_str, evF'_non, evF'_n, evF'_al, evF'_bo, evF'_err, evF'_stuck, evS_q, evS'_int, evS'_bl, evS'_str, evS'_n, evS'_al, frzV_nil, frzV_cons, frz1, evars, evarss, evarsI, gd_T, gdO_T, nl_int, nl_bl, nl_str, nl_non, nl_nd, isBo_int, isBo_bl, isBo_str, isBo_non, isBo_n, isBo_al, isBo_nd, vw1_int, vw1_bl, vw1_str, vw1_non, vw1_0, vw1_1, vw1_one, vw1_al, vw1_none, vw_nil, vw_cons, bind_o, bind_e, bind_s, toOut_o, toOut_e, pure_o, cl_int, cl_bl, cl_str, cl_non, cl_al, cl_n, setS, appF, sbF, isApp, neEs_c, callL_al, blt_len, blt_int, blt_abs, blt_max, blt_min, blt_list, blt_tuple, blt_sum, blt_any, blt_all, blt_str, blt_repr, b_len_lst, b_len_lk, b_len_tup, b_int, b_int_bl, b_abs, b_max, b_min, b_list, c_eq_int, c_ne_int, c_eq_str, c_ne_str, c_lt, c_le, c_gt, c_ge, k_lt, k_le, k_gt, k_ge, obl_o, o_add, o_sub, o_mul, o_fdiv, o_mod, o_pow, o_cat, o_rep, M.ix_lst, M.ix_lk, M.ix_tup, frz_n0, frz_bo, frz_al, frz_n1, x_nil, Vd, truD, D.asL, D.asQ, D.asT, opR, opS, List.set, List.map, List.getElem?_cons_zero, List.getElem?_cons_succ, Out.nx.injEq, exists_eq_left', exists_eq_left, Bool.false_eq_true, if_false, if_true, Lv.own, Bool.not_true, Bool.not_false, ite_true, ite_false, reduceIte, bdG, bdGs, callD1, cp, lf, flat_int, callL, List.any_cons, List.any_nil, Bool.or_false, Bool.false_or, Bool.true_or, nmin_00, nmin_01, nmin_10, nmin_11, wl_int, wl_str, wl_bl, wl_non, wl_n, ne_ints, eq_ints, Lv.up, Lv.min, mnL, dsp, List.map_cons, List.map_nil, eq_self, Option.map_some, D.v, List.length_map, callE_b B_law_draws, n3, hz]; rfl) ?_
        have hz2 : ((List.map D.int ds ++ [D.int (st.fmod 65536)]).length < sizeLine) = True := eq_true (sz_lt (by rw [List.length_append, List.length_map, List.length_singleton]; omega))
        refine xs_cons (by simp only [M.exec, ev, evT, evs, evP, evI, evIF, evAnd, evOr, evAndV, evOrV, evTs, evF_q, evF'_int, evF'_bl, evF'_str, evF'_non, evF'_n, evF'_al, evF'_bo, evF'_err, evF'_stuck, evS_q, evS'_int, evS'_bl, evS'_str, evS'_n, evS'_al, frzV_nil, frzV_cons, frz1, evars, evarss, evarsI, gd_T, gdO_T, nl_int, nl_bl, nl_str, nl_non, nl_nd, isBo_int, isBo_bl, isBo_str, isBo_non, isBo_n, isBo_al, isBo_nd, vw1_int, vw1_bl, vw1_str, vw1_non, vw1_0, vw1_1, vw1_one, vw1_al, vw1_none, vw_nil, vw_cons, bind_o, bind_e, bind_s, toOut_o, toOut_e, pure_o, cl_int, cl_bl, cl_str, cl_non, cl_al, cl_n, setS, appF, sbF, isApp, neEs_c, callL_al, blt_len, blt_int, blt_abs, blt_max, blt_min, blt_list, blt_tuple, blt_sum, blt_any, blt_all, blt_str, blt_repr, b_len_lst, b_len_lk, b_len_tup, b_int, b_int_bl, b_abs, b_max, b_min, b_list, c_eq_int, c_ne_int, c_eq_str, c_ne_str, c_lt, c_le, c_gt, c_ge, k_lt, k_le, k_gt, k_ge, obl_o, o_add, o_sub, o_mul, o_fdiv, o_mod, o_pow, o_cat, o_rep, M.ix_lst, M.ix_lk, M.ix_tup, frz_n0, frz_bo, frz_al, frz_n1, x_nil, Vd, truD, D.asL, D.asQ, D.asT, opR, opS, List.set, List.map, List.getElem?_cons_zero, List.getElem?_cons_succ, Out.nx.injEq, exists_eq_left', exists_eq_left, Bool.false_eq_true, if_false, if_true, Lv.own, Bool.not_true, Bool.not_false, ite_true, ite_false, reduceIte, bdG, bdGs, callD1, cp, lf, flat_int, callL, List.any_cons, List.any_nil, Bool.or_false, Bool.false_or, Bool.true_or, nmin_00, nmin_01, nmin_10, nmin_11, wl_int, wl_str, wl_bl, wl_non, wl_n, ne_ints, eq_ints, Lv.up, Lv.min, mnL, dsp, List.map_cons, List.map_nil, eq_self, Option.map_some, D.v, List.length_map, callE_b B_law_draws, n4, d1, hz2]; rfl) (xs_nil ⟨ds ++ [st.fmod 65536] ++ [(st.fdiv 65536).fmod 32768], some (.int (0 + (i : Nat)), .n 0), some (.int rest, .n 0), u4, some (.int st, .n 0), ?_, ?_⟩)
        · rw [I, List.map_append, List.map_append]; rfl
        · rw [List.length_append, List.length_append, List.length_singleton, List.length_singleton]; omega
def cellV (ds : List Int) (k : Int) : Int := if 0 < ds.length then ((atI ds (k.fmod ds.length)).getD 0) else 0
def mixV (ds : List Int) (k many : Int) : Int := if k < ds.length then (cellV ds k).fmod many else ((cellV ds k * 7919 + k * 104729).fdiv 3).fmod many
theorem mixV_in {ds : List Int} {k many : Int} (h : 0 < many) : 0 ≤ mixV ds k many ∧ mixV ds k many < many := by
  unfold mixV
  split <;> exact ⟨Int.fmod_nonneg_of_pos _ h, Int.fmod_lt_of_pos _ h⟩
theorem S_mix (ds : List Int) (k many : Int) (h : 0 < many) : run_law_mix [I ds, .int k, .int many] = .ok (.int (mixV ds k many), .al) := by
  refine runOf_at rfl ?_
  show outOf (execs Φ_law_mix _ _ b_law_mix [some (I ds, .n 0), some (.int k, .n 0), some (.int many, .n 0), none]) = _
  unfold b_law_mix
  have m1 : ∀ x : Int, (CMul x 7919 ∨ CMulW x 7919) = True := fun x => eq_true (.inl (.inr ⟨by decide, by decide⟩))
  have m2 : ∀ x : Int, (CMul x 104729 ∨ CMulW x 104729) = True := fun x => eq_true (.inl (.inr ⟨by decide, by decide⟩))
  have d1 : ∀ x : Int, (CDivN x 3 ∨ CDivW x 3) = True := fun x => eq_true (.inl ⟨by decide, by decide⟩)
  have n1 : (many ≠ 0) = True := eq_true (by omega)
  refine go_nx (by simp only [M.exec, ev, evT, evs, evP, evI, evIF, evAnd, evOr, evAndV, evOrV, evTs, evF_q, evF'_int, evF'_bl, evF'_str, evF'_non, evF'_n, evF'_al, evF'_bo, evF'_err, evF'_stuck, evS_q, evS'_int, evS'_bl, evS'_str, evS'_n, evS'_al, frzV_nil, frzV_cons, frz1, evars, evarss, evarsI, gd_T, gdO_T, nl_int, nl_bl, nl_str, nl_non, nl_nd, isBo_int, isBo_bl, isBo_str, isBo_non, isBo_n, isBo_al, isBo_nd, vw1_int, vw1_bl, vw1_str, vw1_non, vw1_0, vw1_1, vw1_one, vw1_al, vw1_none, vw_nil, vw_cons, bind_o, bind_e, bind_s, toOut_o, toOut_e, pure_o, cl_int, cl_bl, cl_str, cl_non, cl_al, cl_n, setS, appF, sbF, isApp, neEs_c, callL_al, blt_len, blt_int, blt_abs, blt_max, blt_min, blt_list, blt_tuple, blt_sum, blt_any, blt_all, blt_str, blt_repr, b_len_lst, b_len_lk, b_len_tup, b_int, b_int_bl, b_abs, b_max, b_min, b_list, c_eq_int, c_ne_int, c_eq_str, c_ne_str, c_lt, c_le, c_gt, c_ge, k_lt, k_le, k_gt, k_ge, obl_o, o_add, o_sub, o_mul, o_fdiv, o_mod, o_pow, o_cat, o_rep, M.ix_lst, M.ix_lk, M.ix_tup, frz_n0, frz_bo, frz_al, frz_n1, x_nil, Vd, truD, D.asL, D.asQ, D.asT, opR, opS, List.set, List.map, List.getElem?_cons_zero, List.getElem?_cons_succ, Out.nx.injEq, exists_eq_left', exists_eq_left, Bool.false_eq_true, if_false, if_true, Lv.own, Bool.not_true, Bool.not_false, ite_true, ite_false, reduceIte, bdG, bdGs, callD1, cp, lf, flat_int, callL, List.any_cons, List.any_nil, Bool.or_false, Bool.false_or, Bool.true_or, nmin_00, nmin_01, nmin_10, nmin_11, wl_int, wl_str, wl_bl, wl_non, wl_n, ne_ints, eq_ints, Lv.up, Lv.min, mnL, dsp, List.map_cons, List.map_nil, eq_self, Option.map_some, D.v, List.length_map]; rfl) ?_
  refine go_nx (ρ' := [some (I ds, .n 0), some (.int k, .n 0), some (.int many, .n 0), some (.int (cellV ds k), .n 0)]) ?_ ?_
  · unfold cellV
    by_cases c : 0 < ds.length
    · have c' : (0 < (ds.length : Int)) = True := eq_true (by omega)
      have n2 : ((ds.length : Int) ≠ 0) = True := eq_true (by omega)
      have hk := Int.fmod_nonneg_of_pos k (b := (ds.length : Int)) (by omega)
      have hk2 := Int.fmod_lt_of_pos k (b := (ds.length : Int)) (by omega)
      obtain ⟨x, hx, _⟩ := atI_in hk hk2
      have hat : atI (ds.map D.int) (k.fmod ds.length) = some (.int x) := by rw [atI_map, hx]; rfl
      rw [if_pos c, hx]
      simp only [M.execs, M.exec, ev, evT, evs, evP, evI, evIF, evAnd, evOr, evAndV, evOrV, evTs, evF_q, evF'_int, evF'_bl, evF'_str, evF'_non, evF'_n, evF'_al, evF'_bo, evF'_err, evF'_stuck, evS_q, evS'_int, evS'_bl, evS'_str, evS'_n, evS'_al, frzV_nil, frzV_cons, frz1, evars, evarss, evarsI, gd_T, gdO_T, nl_int, nl_bl, nl_str, nl_non, nl_nd, isBo_int, isBo_bl, isBo_str, isBo_non, isBo_n, isBo_al, isBo_nd, vw1_int, vw1_bl, vw1_str, vw1_non, vw1_0, vw1_1, vw1_one, vw1_al, vw1_none, vw_nil, vw_cons, bind_o, bind_e, bind_s, toOut_o, toOut_e, pure_o, cl_int, cl_bl, cl_str, cl_non, cl_al, cl_n, setS, appF, sbF, isApp, neEs_c, callL_al, blt_len, blt_int, blt_abs, blt_max, blt_min, blt_list, blt_tuple, blt_sum, blt_any, blt_all, blt_str, blt_repr, b_len_lst, b_len_lk, b_len_tup, b_int, b_int_bl, b_abs, b_max, b_min, b_list, c_eq_int, c_ne_int, c_eq_str, c_ne_str, c_lt, c_le, c_gt, c_ge, k_lt, k_le, k_gt, k_ge, obl_o, o_add, o_sub, o_mul, o_fdiv, o_mod, o_pow, o_cat, o_rep, M.ix_lst, M.ix_lk, M.ix_tup, frz_n0, frz_bo, frz_al, frz_n1, x_nil, Vd, truD, D.asL, D.asQ, D.asT, opR, opS, List.set, List.map, List.getElem?_cons_zero, List.getElem?_cons_succ, Out.nx.injEq, exists_eq_left', exists_eq_left, Bool.false_eq_true, if_false, if_true, Lv.own, Bool.not_true, Bool.not_false, ite_true, ite_false, reduceIte, bdG, bdGs, callD1, cp, lf, flat_int, callL, List.any_cons, List.any_nil, Bool.or_false, Bool.false_or, Bool.true_or, nmin_00, nmin_01, nmin_10, nmin_11, wl_int, wl_str, wl_bl, wl_non, wl_n, ne_ints, eq_ints, Lv.up, Lv.min, mnL, dsp, List.map_cons, List.map_nil, eq_self, Option.map_some, D.v, List.length_map, callE_b B_law_mix, c', n2, hat, decide_true, h_law_mix_3]
      rfl
    · have c' : (0 < (ds.length : Int)) = False := eq_false (by omega)
      rw [if_neg c]
      simp only [M.execs, M.exec, ev, evT, evs, evP, evI, evIF, evAnd, evOr, evAndV, evOrV, evTs, evF_q, evF'_int, evF'_bl, evF'_str, evF'_non, evF'_n, evF'_al, evF'_bo, evF'_err, evF'_stuck, evS_q, evS'_int, evS'_bl, evS'_str, evS'_n, evS'_al, frzV_nil, frzV_cons, frz1, evars, evarss, evarsI, gd_T, gdO_T, nl_int, nl_bl, nl_str, nl_non, nl_nd, isBo_int, isBo_bl, isBo_str, isBo_non, isBo_n, isBo_al, isBo_nd, vw1_int, vw1_bl, vw1_str, vw1_non, vw1_0, vw1_1, vw1_one, vw1_al, vw1_none, vw_nil, vw_cons, bind_o, bind_e, bind_s, toOut_o, toOut_e, pure_o, cl_int, cl_bl, cl_str, cl_non, cl_al, cl_n, setS, appF, sbF, isApp, neEs_c, callL_al, blt_len, blt_int, blt_abs, blt_max, blt_min, blt_list, blt_tuple, blt_sum, blt_any, blt_all, blt_str, blt_repr, b_len_lst, b_len_lk, b_len_tup, b_int, b_int_bl, b_abs, b_max, b_min, b_list, c_eq_int, c_ne_int, c_eq_str, c_ne_str, c_lt, c_le, c_gt, c_ge, k_lt, k_le, k_gt, k_ge, obl_o, o_add, o_sub, o_mul, o_fdiv, o_mod, o_pow, o_cat, o_rep, M.ix_lst, M.ix_lk, M.ix_tup, frz_n0, frz_bo, frz_al, frz_n1, x_nil, Vd, truD, D.asL, D.asQ, D.asT, opR, opS, List.set, List.map, List.getElem?_cons_zero, List.getElem?_cons_succ, Out.nx.injEq, exists_eq_left', exists_eq_left, Bool.false_eq_true, if_false, if_true, Lv.own, Bool.not_true, Bool.not_false, ite_true, ite_false, reduceIte, bdG, bdGs, callD1, cp, lf, flat_int, callL, List.any_cons, List.any_nil, Bool.or_false, Bool.false_or, Bool.true_or, nmin_00, nmin_01, nmin_10, nmin_11, wl_int, wl_str, wl_bl, wl_non, wl_n, ne_ints, eq_ints, Lv.up, Lv.min, mnL, dsp, List.map_cons, List.map_nil, eq_self, Option.map_some, D.v, List.length_map, callE_b B_law_mix, c', decide_false]
  · unfold mixV
    by_cases c : k < (ds.length : Int)
    · rw [if_pos c]
      simp only [M.execs, M.exec, ev, evT, evs, evP, evI, evIF, evAnd, evOr, evAndV, evOrV, evTs, evF_q, evF'_int, evF'_bl, evF'_str, evF'_non, evF'_n, evF'_al, evF'_bo, evF'_err, evF'_stuck, evS_q, evS'_int, evS'_bl, evS'_str, evS'_n, evS'_al, frzV_nil, frzV_cons, frz1, evars, evarss, evarsI, gd_T, gdO_T, nl_int, nl_bl, nl_str, nl_non, nl_nd, isBo_int, isBo_bl, isBo_str, isBo_non, isBo_n, isBo_al, isBo_nd, vw1_int, vw1_bl, vw1_str, vw1_non, vw1_0, vw1_1, vw1_one, vw1_al, vw1_none, vw_nil, vw_cons, bind_o, bind_e, bind_s, toOut_o, toOut_e, pure_o, cl_int, cl_bl, cl_str, cl_non, cl_al, cl_n, setS, appF, sbF, isApp, neEs_c, callL_al, blt_len, blt_int, blt_abs, blt_max, blt_min, blt_list, blt_tuple, blt_sum, blt_any, blt_all, blt_str, blt_repr, b_len_lst, b_len_lk, b_len_tup, b_int, b_int_bl, b_abs, b_max, b_min, b_list, c_eq_int, c_ne_int, c_eq_str, c_ne_str, c_lt, c_le, c_gt, c_ge, k_lt, k_le, k_gt, k_ge, obl_o, o_add, o_sub, o_mul, o_fdiv, o_mod, o_pow, o_cat, o_rep, M.ix_lst, M.ix_lk, M.ix_tup, frz_n0, frz_bo, frz_al, frz_n1, x_nil, Vd, truD, D.asL, D.asQ, D.asT, opR, opS, List.set, List.map, List.getElem?_cons_zero, List.getElem?_cons_succ, Out.nx.injEq, exists_eq_left', exists_eq_left, Bool.false_eq_true, if_false, if_true, Lv.own, Bool.not_true, Bool.not_false, ite_true, ite_false, reduceIte, bdG, bdGs, callD1, cp, lf, flat_int, callL, List.any_cons, List.any_nil, Bool.or_false, Bool.false_or, Bool.true_or, nmin_00, nmin_01, nmin_10, nmin_11, wl_int, wl_str, wl_bl, wl_non, wl_n, ne_ints, eq_ints, Lv.up, Lv.min, mnL, dsp, List.map_cons, List.map_nil, eq_self, Option.map_some, D.v, List.length_map, callE_b B_law_mix, c, decide_true, n1, outOf]
    · rw [if_neg c]
      simp only [M.execs, M.exec, ev, evT, evs, evP, evI, evIF, evAnd, evOr, evAndV, evOrV, evTs, evF_q, evF'_int, evF'_bl, evF'_str, evF'_non, evF'_n, evF'_al, evF'_bo, evF'_err, evF'_stuck, evS_q, evS'_int, evS'_bl, evS'_str, evS'_n, evS'_al, frzV_nil, frzV_cons, frz1, evars, evarss, evarsI, gd_T, gdO_T, nl_int, nl_bl, nl_str, nl_non, nl_nd, isBo_int, isBo_bl, isBo_str, isBo_non, isBo_n, isBo_al, isBo_nd, vw1_int, vw1_bl, vw1_str, vw1_non, vw1_0, vw1_1, vw1_one, vw1_al, vw1_none, vw_nil, vw_cons, bind_o, bind_e, bind_s, toOut_o, toOut_e, pure_o, cl_int, cl_bl, cl_str, cl_non, cl_al, cl_n, setS, appF, sbF, isApp, neEs_c, callL_al, blt_len, blt_int, blt_abs, blt_max, blt_min, blt_list, blt_tuple, blt_sum, blt_any, blt_all, blt_str, blt_repr, b_len_lst, b_len_lk, b_len_tup, b_int, b_int_bl, b_abs, b_max, b_min, b_list, c_eq_int, c_ne_int, c_eq_str, c_ne_str, c_lt, c_le, c_gt, c_ge, k_lt, k_le, k_gt, k_ge, obl_o, o_add, o_sub, o_mul, o_fdiv, o_mod, o_pow, o_cat, o_rep, M.ix_lst, M.ix_lk, M.ix_tup, frz_n0, frz_bo, frz_al, frz_n1, x_nil, Vd, truD, D.asL, D.asQ, D.asT, opR, opS, List.set, List.map, List.getElem?_cons_zero, List.getElem?_cons_succ, Out.nx.injEq, exists_eq_left', exists_eq_left, Bool.false_eq_true, if_false, if_true, Lv.own, Bool.not_true, Bool.not_false, ite_true, ite_false, reduceIte, bdG, bdGs, callD1, cp, lf, flat_int, callL, List.any_cons, List.any_nil, Bool.or_false, Bool.false_or, Bool.true_or, nmin_00, nmin_01, nmin_10, nmin_11, wl_int, wl_str, wl_bl, wl_non, wl_n, ne_ints, eq_ints, Lv.up, Lv.min, mnL, dsp, List.map_cons, List.map_nil, eq_self, Option.map_some, D.v, List.length_map, callE_b B_law_mix, c, decide_false, n1, m1, m2, d1, outOf]
end K07

/-! the mathematics of k07: Newton's row -/
namespace K07
/-- differences of a list -/
def dif : List Int → List Int
  | [] => []
  | [_] => []
  | a :: b :: r => (b - a) :: dif (b :: r)
theorem dif_len : ∀ xs : List Int, (dif xs).length = xs.length - 1
  | [] => rfl
  | [_] => rfl
  | a :: b :: r => by
    show (dif (b :: r)).length + 1 = _
    rw [dif_len (b :: r)]
    simp
theorem dif_get : ∀ (xs : List Int) (k : Nat), k + 1 < xs.length → (dif xs)[k]?.getD 0 = xs[k + 1]?.getD 0 - xs[k]?.getD 0
  | [], k, h => by simp at h
  | [_], k, h => by simp at h
  | a :: b :: r, 0, h => rfl
  | a :: b :: r, k + 1, h => by
    show (dif (b :: r))[k]?.getD 0 = _
    rw [dif_get (b :: r) k (by simpa using h)]
    rfl
def difs (xs : List Int) : Nat → List Int
  | 0 => xs
  | n + 1 => dif (difs xs n)
theorem difs_len (xs : List Int) : ∀ n, (difs xs n).length = xs.length - n
  | 0 => rfl
  | n + 1 => by
    show (dif (difs xs n)).length = _
    rw [dif_len, difs_len xs n]
    omega
/-- the k-th difference at place i -/
def dk (xs : List Int) (k i : Nat) : Int := (difs xs k)[i]?.getD 0
theorem dk_succ (xs : List Int) (k i : Nat) (h : i + 1 + k < xs.length) : dk xs (k + 1) i = dk xs k (i + 1) - dk xs k i := by
  unfold dk
  show (dif (difs xs k))[i]?.getD 0 = _
  exact dif_get _ _ (by rw [difs_len]; omega)
theorem dk_bound (xs : List Int) (M : Nat) (h : ∀ x ∈ xs, x.natAbs ≤ M) : ∀ (k i : Nat), i + k < xs.length → (dk xs k i).natAbs ≤ 2 ^ k * M
  | 0, i, hi => by
    unfold dk
    show (xs[i]?.getD 0).natAbs ≤ _
    rw [List.getElem?_eq_getElem (by omega)]
    have := h _ (List.getElem_mem (l := xs) (n := i) (by omega))
    simpa using this
  | k + 1, i, hi => by
    rw [dk_succ xs k i (by omega)]
    have a := dk_bound xs M h k (i + 1) (by omega)
    have b := dk_bound xs M h k i (by omega)
    rw [Nat.pow_succ, Nat.mul_comm (2 ^ k) 2, Nat.mul_assoc]
    omega
/-! falling factorials, binomials of any integer -/
def ff (x : Int) : Nat → Int
  | 0 => 1
  | k + 1 => ff x k * (x - k)
def fac : Nat → Int
  | 0 => 1
  | k + 1 => (k + 1 : Nat) * fac k
theorem fac_pos : ∀ k, 0 < fac k
  | 0 => by decide
  | k + 1 => Int.mul_pos (by omega) (fac_pos k)
theorem ff_step (x : Int) : ∀ k, ff (x + 1) (k + 1) = ff x k * (x + 1)
  | 0 => by
    show 1 * (x + 1 - (0 : Nat)) = 1 * (x + 1)
    omega
  | k + 1 => by
    show ff (x + 1) (k + 1) * (x + 1 - (k + 1 : Nat)) = ff x k * (x - k) * (x + 1)
    rw [ff_step x k, show x + 1 - ((k + 1 : Nat) : Int) = x - k by omega, Int.mul_assoc, Int.mul_assoc, Int.mul_comm (x + 1)]
theorem ff_pascal (x : Int) (k : Nat) : ff (x + 1) (k + 1) = ff x (k + 1) + (k + 1 : Nat) * ff x k := by
  rw [ff_step]
  show _ = ff x k * (x - k) + _
  rw [Int.mul_comm ((k + 1 : Nat) : Int), ← Int.mul_add]
  congr 1
  omega
theorem ff_zero : ∀ k, ff 0 (k + 1) = 0
  | 0 => rfl
  | k + 1 => by
    show ff 0 (k + 1) * _ = 0
    rw [ff_zero k, Int.zero_mul]
theorem int_ind {P : Int → Prop} (h0 : P 0) (up : ∀ x, P x → P (x + 1)) (down : ∀ x, P (x + 1) → P x) : ∀ x, P x := by
  have a : ∀ n : Nat, P (n : Int) := fun n => by
    induction n with
    | zero => exact h0
    | succ n ih => exact up _ ih
  have b : ∀ n : Nat, P (-(n : Int)) := fun n => by
    induction n with
    | zero => exact h0
    | succ n ih =>
      refine down _ ?_
      rw [show -((n + 1 : Nat) : Int) + 1 = -(n : Int) by omega]
      exact ih
  intro x
  by_cases c : 0 ≤ x
  · rw [← Int.toNat_of_nonneg c]; exact a _
  · have := b (-x).toNat
    rw [Int.toNat_of_nonneg (by omega), Int.neg_neg] at this
    exact this
theorem fac_dvd : ∀ (k : Nat) (x : Int), fac k ∣ ff x k
  | 0, x => ⟨1, rfl⟩
  | k + 1, x => by
    refine int_ind (P := fun x => fac (k + 1) ∣ ff x (k + 1)) ?_ (fun x h => ?_) (fun x h => ?_) x
    · rw [ff_zero]; exact ⟨0, by rw [Int.mul_zero]⟩
    · rw [ff_pascal]
      exact Int.dvd_add h (Int.mul_dvd_mul (Int.dvd_refl _) (fac_dvd k x))
    · rw [ff_pascal] at h
      have h2 : fac (k + 1) ∣ ((k + 1 : Nat) : Int) * ff x k := Int.mul_dvd_mul (Int.dvd_refl _) (fac_dvd k x)
      have := Int.dvd_sub h h2
      rwa [Int.add_sub_cancel] at this
def bi (x : Int) (k : Nat) : Int := ff x k / fac k
theorem bi_fac (x : Int) (k : Nat) : bi x k * fac k = ff x k := Int.ediv_mul_cancel (fac_dvd k x)
theorem bi_zero (x : Int) : bi x 0 = 1 := rfl
theorem bi_succ (x : Int) (k : Nat) : (bi x k * (x - k)).fdiv ((k : Int) + 1) = bi x (k + 1) := by
  have h1 : bi x k * (x - k) * fac k = bi x (k + 1) * ((k : Int) + 1) * fac k := by
    rw [Int.mul_right_comm, bi_fac, Int.mul_assoc, show ((k : Int) + 1) * fac k = fac (k + 1) from rfl, bi_fac]
    rfl
  have h2 := Int.eq_of_mul_eq_mul_right (Int.ne_of_gt (fac_pos k)) h1
  rw [h2, Int.fdiv_eq_ediv_of_nonneg _ (by omega), Int.mul_ediv_cancel _ (by omega)]
theorem bi_pascal (x : Int) (k : Nat) : bi (x + 1) (k + 1) = bi x (k + 1) + bi x k := by
  have h : bi (x + 1) (k + 1) * fac (k + 1) = (bi x (k + 1) + bi x k) * fac (k + 1) := by
    rw [bi_fac, ff_pascal, Int.add_mul, bi_fac]
    congr 1
    rw [show fac (k + 1) = ((k + 1 : Nat) : Int) * fac k from rfl, Int.mul_left_comm, bi_fac]
  exact Int.eq_of_mul_eq_mul_right (Int.ne_of_gt (fac_pos _)) h
theorem bi_0 (k : Nat) : bi 0 (k + 1) = 0 := by
  unfold bi
  rw [ff_zero, Int.zero_ediv]
/-- the sum of c_k bi x k -/
def vs (x : Int) : List Int → Nat → Int
  | [], _ => 0
  | c :: r, k => bi x k * c + vs x r (k + 1)
theorem vs_pascal (x : Int) : ∀ (cs : List Int) (k : Nat), vs (x + 1) cs (k + 1) = vs x cs (k + 1) + vs x cs k
  | [], _ => rfl
  | c :: r, k => by
    show bi (x + 1) (k + 1) * c + vs (x + 1) r (k + 1 + 1) = bi x (k + 1) * c + vs x r (k + 1 + 1) + (bi x k * c + vs x r (k + 1))
    rw [vs_pascal x r (k + 1), bi_pascal, Int.add_mul]
    omega
theorem vs_step (x c : Int) (r : List Int) : vs (x + 1) (c :: r) 0 = vs x (c :: r) 0 + vs x r 0 := by
  show bi (x + 1) 0 * c + vs (x + 1) r (0 + 1) = bi x 0 * c + vs x r (0 + 1) + vs x r 0
  rw [vs_pascal x r 0, bi_zero, bi_zero]
  omega
theorem vs_0 : ∀ (cs : List Int) (k : Nat), vs 0 cs (k + 1) = 0
  | [], _ => rfl
  | c :: r, k => by
    show bi 0 (k + 1) * c + vs 0 r (k + 2) = 0
    rw [bi_0, vs_0 r (k + 1)]
    omega
theorem vs_00 (c : Int) (r : List Int) : vs 0 (c :: r) 0 = c := by
  show bi 0 0 * c + vs 0 r 1 = c
  rw [vs_0 r 0, bi_zero]
  omega
theorem vs_append (x : Int) : ∀ (cs : List Int) (c : Int) (k : Nat), vs x (cs ++ [c]) k = vs x cs k + bi x (k + cs.length) * c
  | [], c, k => by
    show bi x k * c + 0 = 0 + bi x (k + 0) * c
    rw [Nat.add_zero]
    omega
  | d :: r, c, k => by
    show bi x k * d + vs x (r ++ [c]) (k + 1) = bi x k * d + vs x r (k + 1) + bi x (k + (r.length + 1)) * c
    rw [vs_append x r c (k + 1), show k + 1 + r.length = k + (r.length + 1) by omega]
    omega
/-- the first differences' heads -/
def heads (xs : List Int) : List Int := (List.range xs.length).map fun k => dk xs k 0
theorem heads_len (xs : List Int) : (heads xs).length = xs.length := by rw [heads, List.length_map, List.length_range]
theorem heads_get (xs : List Int) (k : Nat) (h : k < xs.length) : (heads xs)[k]? = some (dk xs k 0) := by
  rw [heads, List.getElem?_map, List.getElem?_range h]
  rfl
theorem heads_drop (xs : List Int) (j : Nat) (h : j < xs.length) : (heads xs).drop j = dk xs j 0 :: (heads xs).drop (j + 1) := by
  have h2 : j < (heads xs).length := by rw [heads_len]; exact h
  rw [List.drop_eq_getElem_cons h2]
  congr 1
  have := heads_get xs j h
  rw [List.getElem?_eq_getElem h2] at this
  exact Option.some.inj this
/-- the row at place x -/
def V (xs : List Int) (x : Int) (j : Nat) : Int := vs x ((heads xs).drop j) 0
theorem V_step (xs : List Int) (x : Int) (j : Nat) (h : j < xs.length) : V xs (x + 1) j = V xs x j + V xs x (j + 1) := by
  unfold V
  rw [heads_drop xs j h, vs_step]
theorem V_end (xs : List Int) (x : Int) (j : Nat) (h : xs.length ≤ j) : V xs x j = 0 := by
  unfold V
  rw [List.drop_eq_nil_of_le (by rw [heads_len]; exact h)]
  rfl
theorem V_0 (xs : List Int) (j : Nat) (h : j < xs.length) : V xs 0 j = dk xs j 0 := by
  unfold V
  rw [heads_drop xs j h, vs_00]
/-- at the places 0.. it is the row itself -/
theorem V_at (xs : List Int) : ∀ (i j : Nat), i + j < xs.length → V xs (i : Nat) j = dk xs j i
  | 0, j, h => V_0 xs j (by omega)
  | i + 1, j, h => by
    rw [show ((i + 1 : Nat) : Int) = (i : Int) + 1 by omega, V_step xs _ j (by omega), V_at xs i j (by omega), V_at xs i (j + 1) (by omega), dk_succ xs j i (by omega)]
    omega
end K07

namespace K07
open PySem L2 M
theorem tail1 (xs : List Int) : List.take (xs.length - HT.sIx xs.length 0 (some 1)) (List.drop (HT.sIx xs.length 0 (some 1)) (List.map D.int xs)) = (xs.drop 1).map D.int := by
  have : HT.sIx xs.length 0 (some 1) = min 1 xs.length := by
    show HT.sIx _ _ (some ((1 : Nat) : Int)) = _
    rw [HT.sIx_nat]
  rw [this]
  cases xs with
  | nil => rfl
  | cons x r =>
    have : min 1 (x :: r).length = 1 := by rw [List.length_cons]; omega
    rw [this, List.take_of_length_le (by rw [List.length_drop, List.length_map]; exact Nat.le_refl _), List.map_drop]
theorem zip_int : ∀ xs ys : List Int, List.zipWith (fun d e => D.nd .tup [d, e]) (xs.map D.int) (ys.map D.int) = (xs.zip ys).map fun p => D.nd .tup [.int p.1, .int p.2]
  | [], _ => rfl
  | _ :: _, [] => rfl
  | x :: r, y :: q => by
    show D.nd .tup [.int x, .int y] :: List.zipWith _ (r.map D.int) (q.map D.int) = _
    rw [zip_int r q]
    rfl
theorem dif_zip : ∀ xs : List Int, (xs.zip (xs.drop 1)).map (fun p => p.2 - p.1) = dif xs
  | [] => rfl
  | [_] => rfl
  | a :: b :: r => by
    show (b - a) :: ((b :: r).zip ((b :: r).drop 1)).map (fun p => p.2 - p.1) = _
    rw [dif_zip (b :: r)]
    rfl
theorem S_differences (xs : List Int) (n : Int) (h0 : 0 ≤ n) (h1 : n < 2 ^ 62) (hl : xs.length ≤ 1000) : run_differences [I xs, .int n] = .ok (I (difs xs n.toNat), .n 1) := by
  refine runOf_at rfl ?_
  show outOf (execs Φ_differences _ _ b_differences [some (I xs, .n 0), some (.int n, .n 0), none, none, none, none]) = _
  unfold b_differences
  have hr : (-(2 ^ 62) ≤ n ∧ n < 2 ^ 62) = True := eq_true ⟨by omega, by omega⟩
  refine go_nx (by simp only [M.exec, ev, evT, evs, evP, evI, evIF, evAnd, evOr, evAndV, evOrV, evTs, evF_q, evF'_int, evF'_bl, evF'_str, evF'_non, evF'_n, evF'_al, evF'_bo, evF'_err, evF'_stuck, evS_q, evS'_int, evS'_bl, evS'_str, evS'_n, evS'_al, frzV_nil, frzV_cons, frz1, evars, evarss, evarsI, gd_T, gdO_T, nl_int, nl_bl, nl_str, nl_non, nl_nd, isBo_int, isBo_bl, isBo_str, isBo_non, isBo_n, isBo_al, isBo_nd, vw1_int, vw1_bl, vw1_str, vw1_non, vw1_0, vw1_1, vw1_one, vw1_al, vw1_none, vw_nil, vw_cons, bind_o, bind_e, bind_s, toOut_o, toOut_e, pure_o, cl_int, cl_bl, cl_str, cl_non, cl_al, cl_n, setS, appF, sbF, isApp, neEs_c, callL_al, blt_len, blt_int, blt_abs, blt_max, blt_min, blt_list, blt_tuple, blt_sum, blt_any, blt_all, blt_str, blt_repr, b_len_lst, b_len_lk, b_len_tup, b_int, b_int_bl, b_abs, b_max, b_min, b_list, c_eq_int, c_ne_int, c_eq_str, c_ne_str, c_lt, c_le, c_gt, c_ge, k_lt, k_le, k_gt, k_ge, obl_o, o_add, o_sub, o_mul, o_fdiv, o_mod, o_pow, o_cat, o_rep, M.ix_lst, M.ix_lk, M.ix_tup, frz_n0, frz_bo, frz_al, frz_n1, x_nil, Vd, truD, D.asL, D.asQ, D.asT, opR, opS, List.set, List.map, List.getElem?_cons_zero, List.getElem?_cons_succ, Out.nx.injEq, exists_eq_left', exists_eq_left, Bool.false_eq_true, if_false, if_true, Lv.own, Bool.not_true, Bool.not_false, ite_true, ite_false, reduceIte, bdG, bdGs, callD1, cp, lf, flat_int, callL, List.any_cons, List.any_nil, Bool.or_false, Bool.false_or, Bool.true_or, nmin_00, nmin_01, nmin_10, nmin_11, wl_int, wl_str, wl_bl, wl_non, wl_n, ne_ints, eq_ints, Lv.up, Lv.min, mnL, dsp, List.map_cons, List.map_nil, eq_self, Option.map_some, D.v, List.length_map, callE_b B_differences, h_differences_2]; rfl) ?_
  refine go_range (ρ0 := ?w) (n := n.toNat) (φ := fun k => D.int (0 + (k : Nat))) (fun i ρ => ∃ u, ρ = [some (I xs, .n 0), some (.int n, .n 0), some (I (difs xs i), .n 1), u, none, none]) ?e ?h0 ?s ?fin
  case e => simp only [M.exec, ev, evT, evs, evP, evI, evIF, evAnd, evOr, evAndV, evOrV, evTs, evF_q, evF'_int, evF'_bl, evF'_str, evF'_non, evF'_n, evF'_al, evF'_bo, evF'_err, evF'_stuck, evS_q, evS'_int, evS'_bl, evS'_str, evS'_n, evS'_al, frzV_nil, frzV_cons, frz1, evars, evarss, evarsI, gd_T, gdO_T, nl_int, nl_bl, nl_str, nl_non, nl_nd, isBo_int, isBo_bl, isBo_str, isBo_non, isBo_n, isBo_al, isBo_nd, vw1_int, vw1_bl, vw1_str, vw1_non, vw1_0, vw1_1, vw1_one, vw1_al, vw1_none, vw_nil, vw_cons, bind_o, bind_e, bind_s, toOut_o, toOut_e, pure_o, cl_int, cl_bl, cl_str, cl_non, cl_al, cl_n, setS, appF, sbF, isApp, neEs_c, callL_al, blt_len, blt_int, blt_abs, blt_max, blt_min, blt_list, blt_tuple, blt_sum, blt_any, blt_all, blt_str, blt_repr, b_len_lst, b_len_lk, b_len_tup, b_int, b_int_bl, b_abs, b_max, b_min, b_list, c_eq_int, c_ne_int, c_eq_str, c_ne_str, c_lt, c_le, c_gt, c_ge, k_lt, k_le, k_gt, k_ge, obl_o, o_add, o_sub, o_mul, o_fdiv, o_mod, o_pow, o_cat, o_rep, M.ix_lst, M.ix_lk, M.ix_tup, frz_n0, frz_bo, frz_al, frz_n1, x_nil, Vd, truD, D.asL, D.asQ, D.asT, opR, opS, List.set, List.map, List.getElem?_cons_zero, List.getElem?_cons_succ, Out.nx.injEq, exists_eq_left', exists_eq_left, Bool.false_eq_true, if_false, if_true, Lv.own, Bool.not_true, Bool.not_false, ite_true, ite_false, reduceIte, bdG, bdGs, callD1, cp, lf, flat_int, callL, List.any_cons, List.any_nil, Bool.or_false, Bool.false_or, Bool.true_or, nmin_00, nmin_01, nmin_10, nmin_11, wl_int, wl_str, wl_bl, wl_non, wl_n, ne_ints, eq_ints, Lv.up, Lv.min, mnL, dsp, List.map_cons, List.map_nil, eq_self, Option.map_some, D.v, List.length_map, hr]; rfl
  case h0 => exact ⟨none, rfl⟩
  case s =>
    rintro i ρ hi ⟨u, rfl⟩
    refine ⟨_, rfl, ?_⟩
    refine xs_cons (x_asg (ev_lcS (l := .bo) (fun p : Int × Int => D.nd .tup [.int p.1, .int p.2]) (fun p => .int (p.2 - p.1)) ((difs xs i).zip ((difs xs i).drop 1)) ?he rfl ?h (fun _ _ => rfl) ?hz) isBo_al) (xs_nil ⟨some (.int (0 + (i : Nat)), .n 0), ?_⟩)
    case he =>
      simp only [M.exec, ev, evT, evs, evP, evI, evIF, evAnd, evOr, evAndV, evOrV, evTs, evF_q, evF'_int, evF'_bl, evF'_str, evF'_non, evF'_n, evF'_al, evF'_bo, evF'_err, evF'_stuck, evS_q, evS'_int, evS'_bl, evS'_str, evS'_n, evS'_al, frzV_nil, frzV_cons, frz1, evars, evarss, evarsI, gd_T, gdO_T, nl_int, nl_bl, nl_str, nl_non, nl_nd, isBo_int, isBo_bl, isBo_str, isBo_non, isBo_n, isBo_al, isBo_nd, vw1_int, vw1_bl, vw1_str, vw1_non, vw1_0, vw1_1, vw1_one, vw1_al, vw1_none, vw_nil, vw_cons, bind_o, bind_e, bind_s, toOut_o, toOut_e, pure_o, cl_int, cl_bl, cl_str, cl_non, cl_al, cl_n, setS, appF, sbF, isApp, neEs_c, callL_al, blt_len, blt_int, blt_abs, blt_max, blt_min, blt_list, blt_tuple, blt_sum, blt_any, blt_all, blt_str, blt_repr, b_len_lst, b_len_lk, b_len_tup, b_int, b_int_bl, b_abs, b_max, b_min, b_list, c_eq_int, c_ne_int, c_eq_str, c_ne_str, c_lt, c_le, c_gt, c_ge, k_lt, k_le, k_gt, k_ge, obl_o, o_add, o_sub, o_mul, o_fdiv, o_mod, o_pow, o_cat, o_rep, M.ix_lst, M.ix_lk, M.ix_tup, frz_n0, frz_bo, frz_al, frz_n1, x_nil, Vd, truD, D.asL, D.asQ, D.asT, opR, opS, List.set, List.map, List.getElem?_cons_zero, List.getElem?_cons_succ, Out.nx.injEq, exists_eq_left', exists_eq_left, Bool.false_eq_true, if_false, if_true, Lv.own, Bool.not_true, Bool.not_false, ite_true, ite_false, reduceIte, bdG, bdGs, callD1, cp, lf, flat_int, callL, List.any_cons, List.any_nil, Bool.or_false, Bool.false_or, Bool.true_or, nmin_00, nmin_01, nmin_10, nmin_11, wl_int, wl_str, wl_bl, wl_non, wl_n, ne_ints, eq_ints, Lv.up, Lv.min, mnL, dsp, List.map_cons, List.map_nil, eq_self, Option.map_some, D.v, List.length_map, HT.sIx_none, tail1, zip_int]
    case h =>
      intro p hp
      refine ⟨_, rfl, ?_⟩
      simp only [M.exec, ev, evT, evs, evP, evI, evIF, evAnd, evOr, evAndV, evOrV, evTs, evF_q, evF'_int, evF'_bl, evF'_str, evF'_non, evF'_n, evF'_al, evF'_bo, evF'_err, evF'_stuck, evS_q, evS'_int, evS'_bl, evS'_str, evS'_n, evS'_al, frzV_nil, frzV_cons, frz1, evars, evarss, evarsI, gd_T, gdO_T, nl_int, nl_bl, nl_str, nl_non, nl_nd, isBo_int, isBo_bl, isBo_str, isBo_non, isBo_n, isBo_al, isBo_nd, vw1_int, vw1_bl, vw1_str, vw1_non, vw1_0, vw1_1, vw1_one, vw1_al, vw1_none, vw_nil, vw_cons, bind_o, bind_e, bind_s, toOut_o, toOut_e, pure_o, cl_int, cl_bl, cl_str, cl_non, cl_al, cl_n, setS, appF, sbF, isApp, neEs_c, callL_al, blt_len, blt_int, blt_abs, blt_max, blt_min, blt_list, blt_tuple, blt_sum, blt_any, blt_all, blt_str, blt_repr, b_len_lst, b_len_lk, b_len_tup, b_int, b_int_bl, b_abs, b_max, b_min, b_list, c_eq_int, c_ne_int, c_eq_str, c_ne_str, c_lt, c_le, c_gt, c_ge, k_lt, k_le, k_gt, k_ge, obl_o, o_add, o_sub, o_mul, o_fdiv, o_mod, o_pow, o_cat, o_rep, M.ix_lst, M.ix_lk, M.ix_tup, frz_n0, frz_bo, frz_al, frz_n1, x_nil, Vd, truD, D.asL, D.asQ, D.asT, opR, opS, List.set, List.map, List.getElem?_cons_zero, List.getElem?_cons_succ, Out.nx.injEq, exists_eq_left', exists_eq_left, Bool.false_eq_true, if_false, if_true, Lv.own, Bool.not_true, Bool.not_false, ite_true, ite_false, reduceIte, bdG, bdGs, callD1, cp, lf, flat_int, callL, List.any_cons, List.any_nil, Bool.or_false, Bool.false_or, Bool.true_or, nmin_00, nmin_01, nmin_10, nmin_11, wl_int, wl_str, wl_bl, wl_non, wl_n, ne_ints, eq_ints, Lv.up, Lv.min, mnL, dsp, List.map_cons, List.map_nil, eq_self, Option.map_some, D.v, List.length_map, wipeE]
    case hz =>
      rw [List.length_zip, difs_len]
      exact Nat.le_of_lt (sz_lt (by omega))
    · have := dif_zip (difs xs i)
      show [some (I xs, .n 0), some (.int n, .n 0), some (D.nd .lst (List.map (fun p : Int × Int => D.int (p.2 - p.1)) _), cl (h_differences 2) _ .al), _, none, none] = _
      rw [show (fun p : Int × Int => D.int (p.2 - p.1)) = D.int ∘ (fun p : Int × Int => p.2 - p.1) from rfl, ← List.map_map, this]
      rfl
  case fin =>
    rintro ρ ⟨u, rfl⟩
    simp only [M.execs, M.exec, ev, evT, evs, evP, evI, evIF, evAnd, evOr, evAndV, evOrV, evTs, evF_q, evF'_int, evF'_bl, evF'_str, evF'_non, evF'_n, evF'_al, evF'_bo, evF'_err, evF'_stuck, evS_q, evS'_int, evS'_bl, evS'_str, evS'_n, evS'_al, frzV_nil, frzV_cons, frz1, evars, evarss, evarsI, gd_T, gdO_T, nl_int, nl_bl, nl_str, nl_non, nl_nd, isBo_int, isBo_bl, isBo_str, isBo_non, isBo_n, isBo_al, isBo_nd, vw1_int, vw1_bl, vw1_str, vw1_non, vw1_0, vw1_1, vw1_one, vw1_al, vw1_none, vw_nil, vw_cons, bind_o, bind_e, bind_s, toOut_o, toOut_e, pure_o, cl_int, cl_bl, cl_str, cl_non, cl_al, cl_n, setS, appF, sbF, isApp, neEs_c, callL_al, blt_len, blt_int, blt_abs, blt_max, blt_min, blt_list, blt_tuple, blt_sum, blt_any, blt_all, blt_str, blt_repr, b_len_lst, b_len_lk, b_len_tup, b_int, b_int_bl, b_abs, b_max, b_min, b_list, c_eq_int, c_ne_int, c_eq_str, c_ne_str, c_lt, c_le, c_gt, c_ge, k_lt, k_le, k_gt, k_ge, obl_o, o_add, o_sub, o_mul, o_fdiv, o_mod, o_pow, o_cat, o_rep, M.ix_lst, M.ix_lk, M.ix_tup, frz_n0, frz_bo, frz_al, frz_n1, x_nil, Vd, truD, D.asL, D.asQ, D.asT, opR, opS, List.set, List.map, List.getElem?_cons_zero, List.getElem?_cons_succ, Out.nx.injEq, exists_eq_left', exists_eq_left, Bool.false_eq_true, if_false, if_true, Lv.own, Bool.not_true, Bool.not_false, ite_true, ite_false, reduceIte, bdG, bdGs, callD1, cp, lf, flat_int, callL, List.any_cons, List.any_nil, Bool.or_false, Bool.false_or, Bool.true_or, nmin_00, nmin_01, nmin_10, nmin_11, wl_int, wl_str, wl_bl, wl_non, wl_n, ne_ints, eq_ints, Lv.up, Lv.min, mnL, dsp, List.map_cons, List.map_nil, eq_self, Option.map_some, D.v, List.length_map, outOf]
theorem at0 (xs : List Int) (k : Nat) (h : k < xs.length) : atI ((difs xs k).map D.int) 0 = some (.int (dk xs k 0)) := by
  rw [atI_map]
  have : atI (difs xs k) ((0 : Nat) : Int) = (difs xs k)[0]? := M.atI_nat
  rw [show (0 : Int) = ((0 : Nat) : Int) from rfl, this]
  unfold dk
  rw [List.getElem?_eq_getElem (by rw [difs_len]; omega)]
  rfl
/-- rows that are not too large -/
def Sm (xs : List Int) : Prop := (∀ x ∈ xs, x.natAbs ≤ 2 ^ 40) ∧ xs.length ≤ 16
theorem Sm.dk {xs : List Int} (h : Sm xs) {k : Nat} (hk : k < xs.length) : -(2 ^ 64) < dk xs k 0 ∧ dk xs k 0 < 2 ^ 64 := by
  have := dk_bound xs (2 ^ 40) h.1 k 0 (by omega)
  have h2 : 2 ^ k ≤ 2 ^ 16 := Nat.pow_le_pow_right (by decide) (by have := h.2; omega)
  have h3 : 2 ^ k * 2 ^ 40 ≤ 2 ^ 16 * 2 ^ 40 := Nat.mul_le_mul_right _ h2
  omega
theorem S_value_at (xs : List Int) (x : Int) (hs : Sm xs) (hx : -(2 ^ 30) < x ∧ x < 2 ^ 30) : run_value_at [I xs, .int x] = .ok (.int (V xs x 0), .al) := by
  refine runOf_at rfl ?_
  show outOf (execs Φ_value_at _ _ b_value_at [some (I xs, .n 0), some (.int x, .n 0), none, none, none]) = _
  unfold b_value_at
  have hl := hs.2
  have z2 : (0 + 1 + 1 ≤ sizeLine) = True := eq_true (by decide)
  have hr : (-(2 ^ 62) ≤ (xs.length : Int) ∧ (xs.length : Int) < 2 ^ 62) = True := eq_true ⟨by omega, by omega⟩
  refine go_nx (by simp only [M.exec, ev, evT, evs, evP, evI, evIF, evAnd, evOr, evAndV, evOrV, evTs, evF_q, evF'_int, evF'_bl, evF'_str, evF'_non, evF'_n, evF'_al, evF'_bo, evF'_err, evF'_stuck, evS_q, evS'_int, evS'_bl, evS'_str, evS'_n, evS'_al, frzV_nil, frzV_cons, frz1, evars, evarss, evarsI, gd_T, gdO_T, nl_int, nl_bl, nl_str, nl_non, nl_nd, isBo_int, isBo_bl, isBo_str, isBo_non, isBo_n, isBo_al, isBo_nd, vw1_int, vw1_bl, vw1_str, vw1_non, vw1_0, vw1_1, vw1_one, vw1_al, vw1_none, vw_nil, vw_cons, bind_o, bind_e, bind_s, toOut_o, toOut_e, pure_o, cl_int, cl_bl, cl_str, cl_non, cl_al, cl_n, setS, appF, sbF, isApp, neEs_c, callL_al, blt_len, blt_int, blt_abs, blt_max, blt_min, blt_list, blt_tuple, blt_sum, blt_any, blt_all, blt_str, blt_repr, b_len_lst, b_len_lk, b_len_tup, b_int, b_int_bl, b_abs, b_max, b_min, b_list, c_eq_int, c_ne_int, c_eq_str, c_ne_str, c_lt, c_le, c_gt, c_ge, k_lt, k_le, k_gt, k_ge, obl_o, o_add, o_sub, o_mul, o_fdiv, o_mod, o_pow, o_cat, o_rep, M.ix_lst, M.ix_lk, M.ix_tup, frz_n0, frz_bo, frz_al, frz_n1, x_nil, Vd, truD, D.asL, D.asQ, D.asT, opR, opS, List.set, List.map, List.getElem?_cons_zero, List.getElem?_cons_succ, Out.nx.injEq, exists_eq_left', exists_eq_left, Bool.false_eq_true, if_false, if_true, Lv.own, Bool.not_true, Bool.not_false, ite_true, ite_false, reduceIte, bdG, bdGs, callD1, cp, lf, flat_int, callL, List.any_cons, List.any_nil, Bool.or_false, Bool.false_or, Bool.true_or, nmin_00, nmin_01, nmin_10, nmin_11, wl_int, wl_str, wl_bl, wl_non, wl_n, ne_ints, eq_ints, Lv.up, Lv.min, mnL, dsp, List.map_cons, List.map_nil, eq_self, Option.map_some, D.v, List.length_map, z2, List.length_cons, List.length_nil]; rfl) ?_
  refine go_range (ρ0 := ?w) (n := xs.length) (φ := fun k => D.int (0 + (k : Nat))) (fun i ρ => ∃ u, ρ = [some (I xs, .n 0), some (.int x, .n 0), some (.int (vs x ((heads xs).take i) 0), .n 0), some (.int (bi x i), .n 0), u]) ?e ?h0 ?s ?fin
  case e => simp only [M.exec, ev, evT, evs, evP, evI, evIF, evAnd, evOr, evAndV, evOrV, evTs, evF_q, evF'_int, evF'_bl, evF'_str, evF'_non, evF'_n, evF'_al, evF'_bo, evF'_err, evF'_stuck, evS_q, evS'_int, evS'_bl, evS'_str, evS'_n, evS'_al, frzV_nil, frzV_cons, frz1, evars, evarss, evarsI, gd_T, gdO_T, nl_int, nl_bl, nl_str, nl_non, nl_nd, isBo_int, isBo_bl, isBo_str, isBo_non, isBo_n, isBo_al, isBo_nd, vw1_int, vw1_bl, vw1_str, vw1_non, vw1_0, vw1_1, vw1_one, vw1_al, vw1_none, vw_nil, vw_cons, bind_o, bind_e, bind_s, toOut_o, toOut_e, pure_o, cl_int, cl_bl, cl_str, cl_non, cl_al, cl_n, setS, appF, sbF, isApp, neEs_c, callL_al, blt_len, blt_int, blt_abs, blt_max, blt_min, blt_list, blt_tuple, blt_sum, blt_any, blt_all, blt_str, blt_repr, b_len_lst, b_len_lk, b_len_tup, b_int, b_int_bl, b_abs, b_max, b_min, b_list, c_eq_int, c_ne_int, c_eq_str, c_ne_str, c_lt, c_le, c_gt, c_ge, k_lt, k_le, k_gt, k_ge, obl_o, o_add, o_sub, o_mul, o_fdiv, o_mod, o_pow, o_cat, o_rep, M.ix_lst, M.ix_lk, M.ix_tup, frz_n0, frz_bo, frz_al, frz_n1, x_nil, Vd, truD, D.asL, D.asQ, D.asT, opR, opS, List.set, List.map, List.getElem?_cons_zero, List.getElem?_cons_succ, Out.nx.injEq, exists_eq_left', exists_eq_left, Bool.false_eq_true, if_false, if_true, Lv.own, Bool.not_true, Bool.not_false, ite_true, ite_false, reduceIte, bdG, bdGs, callD1, cp, lf, flat_int, callL, List.any_cons, List.any_nil, Bool.or_false, Bool.false_or, Bool.true_or, nmin_00, nmin_01, nmin_10, nmin_11, wl_int, wl_str, wl_bl, wl_non, wl_n, ne_ints, eq_ints, Lv.up, Lv.min, mnL, dsp, List.map_cons, List.map_nil, eq_self, Option.map_some, D.v, List.length_map, callE_b B_value_at, hr, Int.toNat_natCast]; rfl
  case h0 => exact ⟨none, rfl⟩
  case s =>
    rintro i ρ hi ⟨u, rfl⟩
    refine ⟨_, rfl, ?_⟩
    have s1 := S_differences xs (0 + (i : Nat)) (by omega) (by omega) (by omega)
    have hk : (0 + (i : Int)).toNat = i := by omega
    rw [hk] at s1
    have m1 : (CMul (bi x i) (dk xs i 0) ∨ CMulW (bi x i) (dk xs i 0)) = True := eq_true (.inl (.inr (hs.dk hi)))
    have m2 : (CMul (bi x i) (x - (0 + (i : Int))) ∨ CMulW (bi x i) (x - (0 + (i : Int)))) = True := eq_true (.inl (.inr ⟨by omega, by omega⟩))
    have d1 : ∀ z : Int, (CDivN z (0 + (i : Int) + 1) ∨ CDivW z (0 + (i : Int) + 1)) = True := fun z => eq_true (.inl ⟨by omega, by omega⟩)
    refine xs_cons (by simp only [M.exec, ev, evT, evs, evP, evI, evIF, evAnd, evOr, evAndV, evOrV, evTs, evF_q, evF'_int, evF'_bl, evF'_str, evF'_non, evF'_n, evF'_al, evF'_bo, evF'_err, evF'_stuck, evS_q, evS'_int, evS'_bl, evS'_str, evS'_n, evS'_al, frzV_nil, frzV_cons, frz1, evars, evarss, evarsI, gd_T, gdO_T, nl_int, nl_bl, nl_str, nl_non, nl_nd, isBo_int, isBo_bl, isBo_str, isBo_non, isBo_n, isBo_al, isBo_nd, vw1_int, vw1_bl, vw1_str, vw1_non, vw1_0, vw1_1, vw1_one, vw1_al, vw1_none, vw_nil, vw_cons, bind_o, bind_e, bind_s, toOut_o, toOut_e, pure_o, cl_int, cl_bl, cl_str, cl_non, cl_al, cl_n, setS, appF, sbF, isApp, neEs_c, callL_al, blt_len, blt_int, blt_abs, blt_max, blt_min, blt_list, blt_tuple, blt_sum, blt_any, blt_all, blt_str, blt_repr, b_len_lst, b_len_lk, b_len_tup, b_int, b_int_bl, b_abs, b_max, b_min, b_list, c_eq_int, c_ne_int, c_eq_str, c_ne_str, c_lt, c_le, c_gt, c_ge, k_lt, k_le, k_gt, k_ge, obl_o, o_add, o_sub, o_mul, o_fdiv, o_mod, o_pow, o_cat, o_rep, M.ix_lst, M.ix_lk, M.ix_tup, frz_n0, frz_bo, frz_al, frz_n1, x_nil, Vd, truD, D.asL, D.asQ, D.asT, opR, opS, List.set, List.map, List.getElem?_cons_zero, List.getElem?_cons_succ, Out.nx.injEq, exists_eq_left', exists_eq_left, Bool.false_eq_true, if_false, if_true, Lv.own, Bool.not_true, Bool.not_false, ite_true, ite_false, reduceIte, bdG, bdGs, callD1, cp, lf, flat_int, callL, List.any_cons, List.any_nil, Bool.or_false, Bool.false_or, Bool.true_or, nmin_00, nmin_01, nmin_10, nmin_11, wl_int, wl_str, wl_bl, wl_non, wl_n, ne_ints, eq_ints, Lv.up, Lv.min, mnL, dsp, List.map_cons, List.map_nil, eq_self, Option.map_some, D.v, List.length_map, c_value_at_differences, s1, at0 xs i hi, m1, h_value_at_2]; rfl) (xs_cons (by simp only [M.exec, ev, evT, evs, evP, evI, evIF, evAnd, evOr, evAndV, evOrV, evTs, evF_q, evF'_int, evF'_bl, evF'_str, evF'_non, evF'_n, evF'_al, evF'_bo, evF'_err, evF'_stuck, evS_q, evS'_int, evS'_bl, evS'_str, evS'_n, evS'_al, frzV_nil, frzV_cons, frz1, evars, evarss, evarsI, gd_T, gdO_T, nl_int, nl_bl, nl_str, nl_non, nl_nd, isBo_int, isBo_bl, isBo_str, isBo_non, isBo_n, isBo_al, isBo_nd, vw1_int, vw1_bl, vw1_str, vw1_non, vw1_0, vw1_1, vw1_one, vw1_al, vw1_none, vw_nil, vw_cons, bind_o, bind_e, bind_s, toOut_o, toOut_e, pure_o, cl_int, cl_bl, cl_str, cl_non, cl_al, cl_n, setS, appF, sbF, isApp, neEs_c, callL_al, blt_len, blt_int, blt_abs, blt_max, blt_min, blt_list, blt_tuple, blt_sum, blt_any, blt_all, blt_str, blt_repr, b_len_lst, b_len_lk, b_len_tup, b_int, b_int_bl, b_abs, b_max, b_min, b_list, c_eq_int, c_ne_int, c_eq_str, c_ne_str, c_lt, c_le, c_gt, c_ge, k_lt, k_le, k_gt, k_ge, obl_o, o_add, o_sub, o_mul, o_fdiv, o_mod, o_pow, o_cat, o_rep, M.ix_lst, M.ix_lk, M.ix_tup, frz_n0, frz_bo, frz_al, frz_n1, x_nil, Vd, truD, D.asL, D.asQ, D.asT, opR, opS, List.set, List.map, List.getElem?_cons_zero, List.getElem?_cons_succ, Out.nx.injEq, exists_eq_left', exists_eq_left, Bool.false_eq_true, if_false, if_true, Lv.own, Bool.not_true, Bool.not_false, ite_true, ite_false, reduceIte, bdG, bdGs, callD1, cp, lf, flat_int, callL, List.any_cons, List.any_nil, Bool.or_false, Bool.false_or, Bool.true_or, nmin_00, nmin_01, nmin_10, nmin_11, wl_int, wl_str, wl_bl, wl_non, wl_n, ne_ints, eq_ints, Lv.up, Lv.min, mnL, dsp, List.map_cons, List.map_nil, eq_self, Option.map_some, D.v, List.length_map, m2, d1, h_value_at_3]; rfl) (xs_nil ⟨some (.int (0 + (i : Nat)), .n 0), ?_⟩))
    have e1 : (heads xs).take (i + 1) = (heads xs).take i ++ [dk xs i 0] := by
      rw [List.take_succ, heads_get xs i hi]
      rfl
    rw [e1, vs_append, List.length_take, heads_len, Nat.min_eq_left (by omega), Nat.zero_add, ← bi_succ x i, Int.zero_add]
    try rfl
  case fin =>
    rintro ρ ⟨u, rfl⟩
    simp only [M.execs, M.exec, ev, evT, evs, evP, evI, evIF, evAnd, evOr, evAndV, evOrV, evTs, evF_q, evF'_int, evF'_bl, evF'_str, evF'_non, evF'_n, evF'_al, evF'_bo, evF'_err, evF'_stuck, evS_q, evS'_int, evS'_bl, evS'_str, evS'_n, evS'_al, frzV_nil, frzV_cons, frz1, evars, evarss, evarsI, gd_T, gdO_T, nl_int, nl_bl, nl_str, nl_non, nl_nd, isBo_int, isBo_bl, isBo_str, isBo_non, isBo_n, isBo_al, isBo_nd, vw1_int, vw1_bl, vw1_str, vw1_non, vw1_0, vw1_1, vw1_one, vw1_al, vw1_none, vw_nil, vw_cons, bind_o, bind_e, bind_s, toOut_o, toOut_e, pure_o, cl_int, cl_bl, cl_str, cl_non, cl_al, cl_n, setS, appF, sbF, isApp, neEs_c, callL_al, blt_len, blt_int, blt_abs, blt_max, blt_min, blt_list, blt_tuple, blt_sum, blt_any, blt_all, blt_str, blt_repr, b_len_lst, b_len_lk, b_len_tup, b_int, b_int_bl, b_abs, b_max, b_min, b_list, c_eq_int, c_ne_int, c_eq_str, c_ne_str, c_lt, c_le, c_gt, c_ge, k_lt, k_le, k_gt, k_ge, obl_o, o_add, o_sub, o_mul, o_fdiv, o_mod, o_pow, o_cat, o_rep, M.ix_lst, M.ix_lk, M.ix_tup, frz_n0, frz_bo, frz_al, frz_n1, x_nil, Vd, truD, D.asL, D.asQ, D.asT, opR, opS, List.set, List.map, List.getElem?_cons_zero, List.getElem?_cons_succ, Out.nx.injEq, exists_eq_left', exists_eq_left, Bool.false_eq_true, if_false, if_true, Lv.own, Bool.not_true, Bool.not_false, ite_true, ite_false, reduceIte, bdG, bdGs, callD1, cp, lf, flat_int, callL, List.any_cons, List.any_nil, Bool.or_false, Bool.false_or, Bool.true_or, nmin_00, nmin_01, nmin_10, nmin_11, wl_int, wl_str, wl_bl, wl_non, wl_n, ne_ints, eq_ints, Lv.up, Lv.min, mnL, dsp, List.map_cons, List.map_nil, eq_self, Option.map_some, D.v, List.length_map, outOf]
    all_goals (rw [List.take_of_length_le (by rw [heads_len]; exact Nat.le_refl _)]; try rfl)
theorem range_dif (xs : List Int) : (List.range (xs.length - 1)).map (fun k => (xs[k + 1]?.getD 0) - (xs[k]?.getD 0)) = dif xs := by
  refine List.ext_getElem? fun i => ?_
  rw [List.getElem?_map]
  by_cases h : i < xs.length - 1
  · rw [List.getElem?_range h, List.getElem?_eq_getElem (by rw [dif_len]; exact h)]
    have := dif_get xs i (by omega)
    rw [List.getElem?_eq_getElem (by rw [dif_len]; exact h)] at this
    exact congrArg some this.symm
  · rw [List.getElem?_eq_none (by rw [List.length_range]; omega), List.getElem?_eq_none (by rw [dif_len]; omega)]
    rfl
theorem atI_d {xs : List Int} {k : Nat} (h : k < xs.length) : atI (xs.map D.int) (k : Int) = some (.int (xs[k]?.getD 0)) := by
  rw [M.atI_nat, List.getElem?_map, List.getElem?_eq_getElem h]
  rfl
theorem S_ldifferences (xs : List Int) (n : Int) (h0 : 0 ≤ n) (h1 : n < 2 ^ 62) (hl : xs.length ≤ 1000) : run_law_differences [I xs, .int n] = .ok (I (difs xs n.toNat), .n 1) := by
  refine runOf_at rfl ?_
  show outOf (execs Φ_law_differences _ _ b_law_differences [some (I xs, .n 0), some (.int n, .n 0), none, none, none]) = _
  unfold b_law_differences
  have hr : (-(2 ^ 62) ≤ n ∧ n < 2 ^ 62) = True := eq_true ⟨by omega, by omega⟩
  refine go_nx (by simp only [M.exec, ev, evT, evs, evP, evI, evIF, evAnd, evOr, evAndV, evOrV, evTs, evF_q, evF'_int, evF'_bl, evF'_str, evF'_non, evF'_n, evF'_al, evF'_bo, evF'_err, evF'_stuck, evS_q, evS'_int, evS'_bl, evS'_str, evS'_n, evS'_al, frzV_nil, frzV_cons, frz1, evars, evarss, evarsI, gd_T, gdO_T, nl_int, nl_bl, nl_str, nl_non, nl_nd, isBo_int, isBo_bl, isBo_str, isBo_non, isBo_n, isBo_al, isBo_nd, vw1_int, vw1_bl, vw1_str, vw1_non, vw1_0, vw1_1, vw1_one, vw1_al, vw1_none, vw_nil, vw_cons, bind_o, bind_e, bind_s, toOut_o, toOut_e, pure_o, cl_int, cl_bl, cl_str, cl_non, cl_al, cl_n, setS, appF, sbF, isApp, neEs_c, callL_al, blt_len, blt_int, blt_abs, blt_max, blt_min, blt_list, blt_tuple, blt_sum, blt_any, blt_all, blt_str, blt_repr, b_len_lst, b_len_lk, b_len_tup, b_int, b_int_bl, b_abs, b_max, b_min, b_list, c_eq_int, c_ne_int, c_eq_str, c_ne_str, c_lt, c_le, c_gt, c_ge, k_lt, k_le, k_gt, k_ge, obl_o, o_add, o_sub, o_mul, o_fdiv, o_mod, o_pow, o_cat, o_rep, M.ix_lst, M.ix_lk, M.ix_tup, frz_n0, frz_bo, frz_al, frz_n1, x_nil, Vd, truD, D.asL, D.asQ, D.asT, opR, opS, List.set, List.map, List.getElem?_cons_zero, List.getElem?_cons_succ, Out.nx.injEq, exists_eq_left', exists_eq_left, Bool.false_eq_true, if_false, if_true, Lv.own, Bool.not_true, Bool.not_false, ite_true, ite_false, reduceIte, bdG, bdGs, callD1, cp, lf, flat_int, callL, List.any_cons, List.any_nil, Bool.or_false, Bool.false_or, Bool.true_or, nmin_00, nmin_01, nmin_10, nmin_11, wl_int, wl_str, wl_bl, wl_non, wl_n, ne_ints, eq_ints, Lv.up, Lv.min, mnL, dsp, List.map_cons, List.map_nil, eq_self, Option.map_some, D.v, List.length_map, callE_b B_law_differences, h_law_differences_2]; rfl) ?_
  refine go_range (ρ0 := ?w) (n := n.toNat) (φ := fun k => D.int (0 + (k : Nat))) (fun i ρ => ∃ u, ρ = [some (I xs, .n 0), some (.int n, .n 0), some (I (difs xs i), .n 1), u, none]) ?e ?h0 ?s ?fin
  case e => simp only [M.exec, ev, evT, evs, evP, evI, evIF, evAnd, evOr, evAndV, evOrV, evTs, evF_q, evF'_int, evF'_bl, evF'_str, evF'_non, evF'_n, evF'_al, evF'_bo, evF'_err, evF'_stuck, evS_q, evS'_int, evS'_bl, evS'_str, evS'_n, evS'_al, frzV_nil, frzV_cons, frz1, evars, evarss, evarsI, gd_T, gdO_T, nl_int, nl_bl, nl_str, nl_non, nl_nd, isBo_int, isBo_bl, isBo_str, isBo_non, isBo_n, isBo_al, isBo_nd, vw1_int, vw1_bl, vw1_str, vw1_non, vw1_0, vw1_1, vw1_one, vw1_al, vw1_none, vw_nil, vw_cons, bind_o, bind_e, bind_s, toOut_o, toOut_e, pure_o, cl_int, cl_bl, cl_str, cl_non, cl_al, cl_n, setS, appF, sbF, isApp, neEs_c, callL_al, blt_len, blt_int, blt_abs, blt_max, blt_min, blt_list, blt_tuple, blt_sum, blt_any, blt_all, blt_str, blt_repr, b_len_lst, b_len_lk, b_len_tup, b_int, b_int_bl, b_abs, b_max, b_min, b_list, c_eq_int, c_ne_int, c_eq_str, c_ne_str, c_lt, c_le, c_gt, c_ge, k_lt, k_le, k_gt, k_ge, obl_o, o_add, o_sub, o_mul, o_fdiv, o_mod, o_pow, o_cat, o_rep, M.ix_lst, M.ix_lk, M.ix_tup, frz_n0, frz_bo, frz_al, frz_n1, x_nil, Vd, truD, D.asL, D.asQ, D.asT, opR, opS, List.set, List.map, List.getElem?_cons_zero, List.getElem?_cons_succ, Out.nx.injEq, exists_eq_left', exists_eq_left, Bool.false_eq_true, if_false, if_true, Lv.own, Bool.not_true, Bool.not_false, ite_true, ite_false, reduceIte, bdG, bdGs, callD1, cp, lf, flat_int, callL, List.any_cons, List.any_nil, Bool.or_false, Bool.false_or, Bool.true_or, nmin_00, nmin_01, nmin_10, nmin_11, wl_int, wl_str, wl_bl, wl_non, wl_n, ne_ints, eq_ints, Lv.up, Lv.min, mnL, dsp, List.map_cons, List.map_nil, eq_self, Option.map_some, D.v, List.length_map, hr]; rfl
  case h0 => exact ⟨none, rfl⟩
  case s =>
    rintro i ρ hi ⟨u, rfl⟩
    refine ⟨_, rfl, ?_⟩
    have hdl : (difs xs i).length ≤ 1000 := by rw [difs_len]; omega
    generalize hq : difs xs i = ys at hdl
    have hr2 : (-(2 ^ 62) ≤ (ys.length : Int) - 1 ∧ (ys.length : Int) - 1 < 2 ^ 62) = True := eq_true ⟨by omega, by omega⟩
    have ht : ((ys.length : Int) - 1).toNat = ys.length - 1 := by omega
    refine xs_cons (x_asg (ev_lcS (l := .n 0) (fun k : Nat => D.int (0 + (k : Nat))) (fun k => .int ((ys[k + 1]?.getD 0) - (ys[k]?.getD 0))) (List.range (ys.length - 1)) ?he rfl ?h (fun _ _ => rfl) ?hz) isBo_al) (xs_nil ⟨some (.int (0 + (i : Nat)), .n 0), ?_⟩)
    case he =>
      simp only [M.exec, ev, evT, evs, evP, evI, evIF, evAnd, evOr, evAndV, evOrV, evTs, evF_q, evF'_int, evF'_bl, evF'_str, evF'_non, evF'_n, evF'_al, evF'_bo, evF'_err, evF'_stuck, evS_q, evS'_int, evS'_bl, evS'_str, evS'_n, evS'_al, frzV_nil, frzV_cons, frz1, evars, evarss, evarsI, gd_T, gdO_T, nl_int, nl_bl, nl_str, nl_non, nl_nd, isBo_int, isBo_bl, isBo_str, isBo_non, isBo_n, isBo_al, isBo_nd, vw1_int, vw1_bl, vw1_str, vw1_non, vw1_0, vw1_1, vw1_one, vw1_al, vw1_none, vw_nil, vw_cons, bind_o, bind_e, bind_s, toOut_o, toOut_e, pure_o, cl_int, cl_bl, cl_str, cl_non, cl_al, cl_n, setS, appF, sbF, isApp, neEs_c, callL_al, blt_len, blt_int, blt_abs, blt_max, blt_min, blt_list, blt_tuple, blt_sum, blt_any, blt_all, blt_str, blt_repr, b_len_lst, b_len_lk, b_len_tup, b_int, b_int_bl, b_abs, b_max, b_min, b_list, c_eq_int, c_ne_int, c_eq_str, c_ne_str, c_lt, c_le, c_gt, c_ge, k_lt, k_le, k_gt, k_ge, obl_o, o_add, o_sub, o_mul, o_fdiv, o_mod, o_pow, o_cat, o_rep, M.ix_lst, M.ix_lk, M.ix_tup, frz_n0, frz_bo, frz_al, frz_n1, x_nil, Vd, truD, D.asL, D.asQ, D.asT, opR, opS, List.set, List.map, List.getElem?_cons_zero, List.getElem?_cons_succ, Out.nx.injEq, exists_eq_left', exists_eq_left, Bool.false_eq_true, if_false, if_true, Lv.own, Bool.not_true, Bool.not_false, ite_true, ite_false, reduceIte, bdG, bdGs, callD1, cp, lf, flat_int, callL, List.any_cons, List.any_nil, Bool.or_false, Bool.false_or, Bool.true_or, nmin_00, nmin_01, nmin_10, nmin_11, wl_int, wl_str, wl_bl, wl_non, wl_n, ne_ints, eq_ints, Lv.up, Lv.min, mnL, dsp, List.map_cons, List.map_nil, eq_self, Option.map_some, D.v, List.length_map, callE_b B_law_differences, hr2, ht]
    case h =>
      intro k hk
      have hk := List.mem_range.mp hk
      refine ⟨_, rfl, ?_⟩
      have a1 : atI (ys.map D.int) (0 + (k : Int)) = some (.int (ys[k]?.getD 0)) := by rw [Int.zero_add]; exact atI_d (by omega)
      have a2 : atI (ys.map D.int) (0 + (k : Int) + 1) = some (.int (ys[k + 1]?.getD 0)) := by
        rw [Int.zero_add, show (k : Int) + 1 = ((k + 1 : Nat) : Int) by omega]
        exact atI_d (by omega)
      simp only [M.exec, ev, evT, evs, evP, evI, evIF, evAnd, evOr, evAndV, evOrV, evTs, evF_q, evF'_int, evF'_bl, evF'_str, evF'_non, evF'_n, evF'_al, evF'_bo, evF'_err, evF'_stuck, evS_q, evS'_int, evS'_bl, evS'_str, evS'_n, evS'_al, frzV_nil, frzV_cons, frz1, evars, evarss, evarsI, gd_T, gdO_T, nl_int, nl_bl, nl_str, nl_non, nl_nd, isBo_int, isBo_bl, isBo_str, isBo_non, isBo_n, isBo_al, isBo_nd, vw1_int, vw1_bl, vw1_str, vw1_non, vw1_0, vw1_1, vw1_one, vw1_al, vw1_none, vw_nil, vw_cons, bind_o, bind_e, bind_s, toOut_o, toOut_e, pure_o, cl_int, cl_bl, cl_str, cl_non, cl_al, cl_n, setS, appF, sbF, isApp, neEs_c, callL_al, blt_len, blt_int, blt_abs, blt_max, blt_min, blt_list, blt_tuple, blt_sum, blt_any, blt_all, blt_str, blt_repr, b_len_lst, b_len_lk, b_len_tup, b_int, b_int_bl, b_abs, b_max, b_min, b_list, c_eq_int, c_ne_int, c_eq_str, c_ne_str, c_lt, c_le, c_gt, c_ge, k_lt, k_le, k_gt, k_ge, obl_o, o_add, o_sub, o_mul, o_fdiv, o_mod, o_pow, o_cat, o_rep, M.ix_lst, M.ix_lk, M.ix_tup, frz_n0, frz_bo, frz_al, frz_n1, x_nil, Vd, truD, D.asL, D.asQ, D.asT, opR, opS, List.set, List.map, List.getElem?_cons_zero, List.getElem?_cons_succ, Out.nx.injEq, exists_eq_left', exists_eq_left, Bool.false_eq_true, if_false, if_true, Lv.own, Bool.not_true, Bool.not_false, ite_true, ite_false, reduceIte, bdG, bdGs, callD1, cp, lf, flat_int, callL, List.any_cons, List.any_nil, Bool.or_false, Bool.false_or, Bool.true_or, nmin_00, nmin_01, nmin_10, nmin_11, wl_int, wl_str, wl_bl, wl_non, wl_n, ne_ints, eq_ints, Lv.up, Lv.min, mnL, dsp, List.map_cons, List.map_nil, eq_self, Option.map_some, D.v, List.length_map, wipeE, a1, a2]
    case hz =>
      rw [List.length_range]
      exact Nat.le_of_lt (sz_lt (by omega))
    · have := range_dif ys
      show [some (I xs, .n 0), some (.int n, .n 0), some (D.nd .lst (List.map (fun k => D.int ((ys[k + 1]?.getD 0) - (ys[k]?.getD 0))) _), cl (h_law_differences 2) _ .al), _, none] = _
      rw [show (fun k => D.int ((ys[k + 1]?.getD 0) - (ys[k]?.getD 0))) = D.int ∘ (fun k => (ys[k + 1]?.getD 0) - (ys[k]?.getD 0)) from rfl, ← List.map_map, this]
      show _ = ([some (I xs, .n 0), some (.int n, .n 0), some (I (dif (difs xs i)), .n 1), _, none] : En)
      rw [hq]
      rfl
  case fin =>
    rintro ρ ⟨u, rfl⟩
    simp only [M.execs, M.exec, ev, evT, evs, evP, evI, evIF, evAnd, evOr, evAndV, evOrV, evTs, evF_q, evF'_int, evF'_bl, evF'_str, evF'_non, evF'_n, evF'_al, evF'_bo, evF'_err, evF'_stuck, evS_q, evS'_int, evS'_bl, evS'_str, evS'_n, evS'_al, frzV_nil, frzV_cons, frz1, evars, evarss, evarsI, gd_T, gdO_T, nl_int, nl_bl, nl_str, nl_non, nl_nd, isBo_int, isBo_bl, isBo_str, isBo_non, isBo_n, isBo_al, isBo_nd, vw1_int, vw1_bl, vw1_str, vw1_non, vw1_0, vw1_1, vw1_one, vw1_al, vw1_none, vw_nil, vw_cons, bind_o, bind_e, bind_s, toOut_o, toOut_e, pure_o, cl_int, cl_bl, cl_str, cl_non, cl_al, cl_n, setS, appF, sbF, isApp, neEs_c, callL_al, blt_len, blt_int, blt_abs, blt_max, blt_min, blt_list, blt_tuple, blt_sum, blt_any, blt_all, blt_str, blt_repr, b_len_lst, b_len_lk, b_len_tup, b_int, b_int_bl, b_abs, b_max, b_min, b_list, c_eq_int, c_ne_int, c_eq_str, c_ne_str, c_lt, c_le, c_gt, c_ge, k_lt, k_le, k_gt, k_ge, obl_o, o_add, o_sub, o_mul, o_fdiv, o_mod, o_pow, o_cat, o_rep, M.ix_lst, M.ix_lk, M.ix_tup, frz_n0, frz_bo, frz_al, frz_n1, x_nil, Vd, truD, D.asL, D.asQ, D.asT, opR, opS, List.set, List.map, List.getElem?_cons_zero, List.getElem?_cons_succ, Out.nx.injEq, exists_eq_left', exists_eq_left, Bool.false_eq_true, if_false, if_true, Lv.own, Bool.not_true, Bool.not_false, ite_true, ite_false, reduceIte, bdG, bdGs, callD1, cp, lf, flat_int, callL, List.any_cons, List.any_nil, Bool.or_false, Bool.false_or, Bool.true_or, nmin_00, nmin_01, nmin_10, nmin_11, wl_int, wl_str, wl_bl, wl_non, wl_n, ne_ints, eq_ints, Lv.up, Lv.min, mnL, dsp, List.map_cons, List.map_nil, eq_self, Option.map_some, D.v, List.length_map, outOf]
end K07

namespace K07
open PySem L2 M
/-- the row at place x -/
def Vr (xs : List Int) (f : Nat → Int) : List Int := (List.range xs.length).map f
theorem Vr_len (xs : List Int) (f : Nat → Int) : (Vr xs f).length = xs.length := by rw [Vr, List.length_map, List.length_range]
theorem Vr_get (xs : List Int) (f : Nat → Int) {k : Nat} (h : k < xs.length) : (Vr xs f)[k]?.getD 0 = f k := by
  rw [Vr, List.getElem?_map, List.getElem?_range h]
  rfl
theorem Vr_set (xs : List Int) (f g : Nat → Int) {k : Nat} (h : ∀ j, j < xs.length → g j = if j = k then g k else f j) : (Vr xs f).set k (g k) = Vr xs g := by
  refine List.ext_getElem? fun i => ?_
  rw [List.getElem?_set]
  by_cases hi : i < xs.length
  · have e1 : (Vr xs g)[i]? = some (g i) := by rw [Vr, List.getElem?_map, List.getElem?_range hi]; rfl
    have e2 : (Vr xs f)[i]? = some (f i) := by rw [Vr, List.getElem?_map, List.getElem?_range hi]; rfl
    rw [e1, e2, h i hi]
    by_cases c : k = i
    · rw [if_pos c, if_pos (by rw [Vr_len, c]; exact hi), if_pos c.symm, c]
    · rw [if_neg c, if_neg (fun z => c z.symm)]
  · rw [List.getElem?_eq_none (by rw [Vr_len]; omega), List.getElem?_eq_none (by rw [Vr_len]; omega)]
    by_cases c : k = i
    · rw [if_pos c, if_neg (by rw [Vr_len, c]; exact hi)]
    · rw [if_neg c]
theorem Vr_eq (xs : List Int) {f g : Nat → Int} (h : ∀ j, j < xs.length → f j = g j) : Vr xs f = Vr xs g := List.map_congr_left fun j hj => h j (List.mem_range.mp hj)
theorem ixN_nat {n k : Nat} (h : k < n) : ixN n (k : Int) = some k := by
  unfold ixN
  rw [if_pos (by omega), if_pos (by omega), Int.toNat_natCast]
theorem I_set (xs : List Int) (k : Nat) (v : Int) : I (xs.set k v) = .nd .lst ((xs.map D.int).set k (.int v)) := by
  rw [I, List.map_set]
def up (xs : List Int) (y : Int) (k : Nat) : Nat → Int := fun j => if j < k then V xs (y + 1) j else V xs y j
def dn (xs : List Int) (y : Int) (t : Nat) : Nat → Int := fun j => if xs.length ≤ j + 1 + t then V xs (y - 1) j else V xs y j
theorem V_back (xs : List Int) (y : Int) (j : Nat) (h : j < xs.length) : V xs (y - 1) j = V xs y j - V xs (y - 1) (j + 1) := by
  have := V_step xs (y - 1) j h
  rw [Int.sub_add_cancel] at this
  omega
theorem S_lvalue (xs : List Int) (x : Int) (hl : xs.length ≤ 16) (h1 : 1 ≤ xs.length) (hx : -(2 ^ 30) < x ∧ x < 2 ^ 30) : run_law_value [I xs, .int x] = .ok (.int (V xs x 0), .al) := by
  refine runOf_at rfl ?_
  show outOf (execs Φ_law_value _ _ b_law_value [some (I xs, .n 0), some (.int x, .n 0), none, none, none]) = _
  unfold b_law_value
  have hr : (-(2 ^ 62) ≤ (xs.length : Int) ∧ (xs.length : Int) < 2 ^ 62) = True := eq_true ⟨by omega, by omega⟩
  refine go_nx (ρ' := [some (I xs, .n 0), some (.int x, .n 0), some (I (Vr xs (V xs 0)), .n 1), none, none]) ?rows ?_
  case rows =>
    refine (x_asg (ev_lcS (l := .n 0) (fun k : Nat => D.int (0 + (k : Nat))) (fun k => .int (dk xs k 0)) (List.range xs.length) ?he rfl ?h (fun _ _ => rfl) ?hz) isBo_al).trans ?hq
    case he => simp only [M.exec, ev, evT, evs, evP, evI, evIF, evAnd, evOr, evAndV, evOrV, evTs, evF_q, evF'_int, evF'_bl, evF'_str, evF'_non, evF'_n, evF'_al, evF'_bo, evF'_err, evF'_stuck, evS_q, evS'_int, evS'_bl, evS'_str, evS'_n, evS'_al, frzV_nil, frzV_cons, frz1, evars, evarss, evarsI, gd_T, gdO_T, nl_int, nl_bl, nl_str, nl_non, nl_nd, isBo_int, isBo_bl, isBo_str, isBo_non, isBo_n, isBo_al, isBo_nd, vw1_int, vw1_bl, vw1_str, vw1_non, vw1_0, vw1_1, vw1_one, vw1_al, vw1_none, vw_nil, vw_cons, bind_o, bind_e, bind_s, toOut_o, toOut_e, pure_o, cl_int, cl_bl, cl_str, cl_non, cl_al, cl_n, setS, appF, sbF, isApp, neEs_c, callL_al, blt_len, blt_int, blt_abs, blt_max, blt_min, blt_list, blt_tuple, blt_sum, blt_any, blt_all, blt_str, blt_repr, b_len_lst, b_len_lk, b_len_tup, b_int, b_int_bl, b_abs, b_max, b_min, b_list, c_eq_int, c_ne_int, c_eq_str, c_ne_str, c_lt, c_le, c_gt, c_ge, k_lt, k_le, k_gt, k_ge, obl_o, o_add, o_sub, o_mul, o_fdiv, o_mod, o_pow, o_cat, o_rep, M.ix_lst, M.ix_lk, M.ix_tup, frz_n0, frz_bo, frz_al, frz_n1, x_nil, Vd, truD, D.asL, D.asQ, D.asT, opR, opS, List.set, List.map, List.getElem?_cons_zero, List.getElem?_cons_succ, Out.nx.injEq, exists_eq_left', exists_eq_left, Bool.false_eq_true, if_false, if_true, Lv.own, Bool.not_true, Bool.not_false, ite_true, ite_false, reduceIte, bdG, bdGs, callD1, cp, lf, flat_int, callL, List.any_cons, List.any_nil, Bool.or_false, Bool.false_or, Bool.true_or, nmin_00, nmin_01, nmin_10, nmin_11, wl_int, wl_str, wl_bl, wl_non, wl_n, ne_ints, eq_ints, Lv.up, Lv.min, mnL, dsp, List.map_cons, List.map_nil, eq_self, Option.map_some, D.v, List.length_map, callE_b B_law_value, hr, Int.toNat_natCast]
    case h =>
      intro k hk
      have hk := List.mem_range.mp hk
      refine ⟨_, rfl, ?_⟩
      have s1 := S_ldifferences xs (0 + (k : Nat)) (by omega) (by omega) (by omega)
      have hk2 : (0 + (k : Int)).toNat = k := by omega
      rw [hk2] at s1
      simp only [M.exec, ev, evT, evs, evP, evI, evIF, evAnd, evOr, evAndV, evOrV, evTs, evF_q, evF'_int, evF'_bl, evF'_str, evF'_non, evF'_n, evF'_al, evF'_bo, evF'_err, evF'_stuck, evS_q, evS'_int, evS'_bl, evS'_str, evS'_n, evS'_al, frzV_nil, frzV_cons, frz1, evars, evarss, evarsI, gd_T, gdO_T, nl_int, nl_bl, nl_str, nl_non, nl_nd, isBo_int, isBo_bl, isBo_str, isBo_non, isBo_n, isBo_al, isBo_nd, vw1_int, vw1_bl, vw1_str, vw1_non, vw1_0, vw1_1, vw1_one, vw1_al, vw1_none, vw_nil, vw_cons, bind_o, bind_e, bind_s, toOut_o, toOut_e, pure_o, cl_int, cl_bl, cl_str, cl_non, cl_al, cl_n, setS, appF, sbF, isApp, neEs_c, callL_al, blt_len, blt_int, blt_abs, blt_max, blt_min, blt_list, blt_tuple, blt_sum, blt_any, blt_all, blt_str, blt_repr, b_len_lst, b_len_lk, b_len_tup, b_int, b_int_bl, b_abs, b_max, b_min, b_list, c_eq_int, c_ne_int, c_eq_str, c_ne_str, c_lt, c_le, c_gt, c_ge, k_lt, k_le, k_gt, k_ge, obl_o, o_add, o_sub, o_mul, o_fdiv, o_mod, o_pow, o_cat, o_rep, M.ix_lst, M.ix_lk, M.ix_tup, frz_n0, frz_bo, frz_al, frz_n1, x_nil, Vd, truD, D.asL, D.asQ, D.asT, opR, opS, List.set, List.map, List.getElem?_cons_zero, List.getElem?_cons_succ, Out.nx.injEq, exists_eq_left', exists_eq_left, Bool.false_eq_true, if_false, if_true, Lv.own, Bool.not_true, Bool.not_false, ite_true, ite_false, reduceIte, bdG, bdGs, callD1, cp, lf, flat_int, callL, List.any_cons, List.any_nil, Bool.or_false, Bool.false_or, Bool.true_or, nmin_00, nmin_01, nmin_10, nmin_11, wl_int, wl_str, wl_bl, wl_non, wl_n, ne_ints, eq_ints, Lv.up, Lv.min, mnL, dsp, List.map_cons, List.map_nil, eq_self, Option.map_some, D.v, List.length_map, wipeE, c_law_value_law_differences, s1, at0 xs k hk]
    case hz => rw [List.length_range]; exact Nat.le_of_lt (sz_lt (by omega))
    case hq =>
      have e : (Vr xs (V xs 0)).map D.int = (List.range xs.length).map fun k => D.int (dk xs k 0) := by
        rw [Vr, List.map_map]
        refine List.map_congr_left fun k hk => ?_
        show D.int (V xs 0 k) = _
        rw [V_0 xs k (List.mem_range.mp hk)]
      have e2 : I (Vr xs (V xs 0)) = .nd .lst ((List.range xs.length).map fun k => D.int (dk xs k 0)) := by rw [I, e]
      rw [e2]
      rfl
  have ha : (-(2 ^ 62) ≤ (if x < 0 then -x else x) ∧ (if x < 0 then -x else x) < 2 ^ 62) = True := eq_true ⟨by omega, by omega⟩
  have hlv : ∀ f, (Vr xs f).length = xs.length := Vr_len xs
  by_cases c : 0 < x
  · refine go_range (ρ0 := ?w) (n := x.toNat) (φ := fun k => D.int (0 + (k : Nat))) (fun i ρ => ∃ u3 u4, ρ = [some (I xs, .n 0), some (.int x, .n 0), some (I (Vr xs (V xs i)), .n 1), u3, u4]) ?e ?h0 ?s ?fin
    case e =>
      have e1 : (if x < 0 then -x else x) = x := if_neg (by omega)
      rw [e1] at ha
      simp only [M.exec, ev, evT, evs, evP, evI, evIF, evAnd, evOr, evAndV, evOrV, evTs, evF_q, evF'_int, evF'_bl, evF'_str, evF'_non, evF'_n, evF'_al, evF'_bo, evF'_err, evF'_stuck, evS_q, evS'_int, evS'_bl, evS'_str, evS'_n, evS'_al, frzV_nil, frzV_cons, frz1, evars, evarss, evarsI, gd_T, gdO_T, nl_int, nl_bl, nl_str, nl_non, nl_nd, isBo_int, isBo_bl, isBo_str, isBo_non, isBo_n, isBo_al, isBo_nd, vw1_int, vw1_bl, vw1_str, vw1_non, vw1_0, vw1_1, vw1_one, vw1_al, vw1_none, vw_nil, vw_cons, bind_o, bind_e, bind_s, toOut_o, toOut_e, pure_o, cl_int, cl_bl, cl_str, cl_non, cl_al, cl_n, setS, appF, sbF, isApp, neEs_c, callL_al, blt_len, blt_int, blt_abs, blt_max, blt_min, blt_list, blt_tuple, blt_sum, blt_any, blt_all, blt_str, blt_repr, b_len_lst, b_len_lk, b_len_tup, b_int, b_int_bl, b_abs, b_max, b_min, b_list, c_eq_int, c_ne_int, c_eq_str, c_ne_str, c_lt, c_le, c_gt, c_ge, k_lt, k_le, k_gt, k_ge, obl_o, o_add, o_sub, o_mul, o_fdiv, o_mod, o_pow, o_cat, o_rep, M.ix_lst, M.ix_lk, M.ix_tup, frz_n0, frz_bo, frz_al, frz_n1, x_nil, Vd, truD, D.asL, D.asQ, D.asT, opR, opS, List.set, List.map, List.getElem?_cons_zero, List.getElem?_cons_succ, Out.nx.injEq, exists_eq_left', exists_eq_left, Bool.false_eq_true, if_false, if_true, Lv.own, Bool.not_true, Bool.not_false, ite_true, ite_false, reduceIte, bdG, bdGs, callD1, cp, lf, flat_int, callL, List.any_cons, List.any_nil, Bool.or_false, Bool.false_or, Bool.true_or, nmin_00, nmin_01, nmin_10, nmin_11, wl_int, wl_str, wl_bl, wl_non, wl_n, ne_ints, eq_ints, Lv.up, Lv.min, mnL, dsp, List.map_cons, List.map_nil, eq_self, Option.map_some, D.v, List.length_map, callE_b B_law_value, e1, ha]
      rfl
    case h0 => exact ⟨_, _, rfl⟩
    case s =>
      rintro i ρ hi ⟨u3, u4, rfl⟩
      refine ⟨_, rfl, ?_⟩
      have hr2 : (-(2 ^ 62) ≤ (xs.length : Int) - 1 ∧ (xs.length : Int) - 1 < 2 ^ 62) = True := eq_true ⟨by omega, by omega⟩
      have ht : ((xs.length : Int) - 1).toNat = xs.length - 1 := by omega
      refine xs_ift (Q := fun ρ => ∃ u3 u4, ρ = [some (I xs, .n 0), some (.int x, .n 0), some (I (Vr xs (V xs (i + 1 : Nat))), .n 1), u3, u4]) (by simp only [M.exec, ev, evT, evs, evP, evI, evIF, evAnd, evOr, evAndV, evOrV, evTs, evF_q, evF'_int, evF'_bl, evF'_str, evF'_non, evF'_n, evF'_al, evF'_bo, evF'_err, evF'_stuck, evS_q, evS'_int, evS'_bl, evS'_str, evS'_n, evS'_al, frzV_nil, frzV_cons, frz1, evars, evarss, evarsI, gd_T, gdO_T, nl_int, nl_bl, nl_str, nl_non, nl_nd, isBo_int, isBo_bl, isBo_str, isBo_non, isBo_n, isBo_al, isBo_nd, vw1_int, vw1_bl, vw1_str, vw1_non, vw1_0, vw1_1, vw1_one, vw1_al, vw1_none, vw_nil, vw_cons, bind_o, bind_e, bind_s, toOut_o, toOut_e, pure_o, cl_int, cl_bl, cl_str, cl_non, cl_al, cl_n, setS, appF, sbF, isApp, neEs_c, callL_al, blt_len, blt_int, blt_abs, blt_max, blt_min, blt_list, blt_tuple, blt_sum, blt_any, blt_all, blt_str, blt_repr, b_len_lst, b_len_lk, b_len_tup, b_int, b_int_bl, b_abs, b_max, b_min, b_list, c_eq_int, c_ne_int, c_eq_str, c_ne_str, c_lt, c_le, c_gt, c_ge, k_lt, k_le, k_gt, k_ge, obl_o, o_add, o_sub, o_mul, o_fdiv, o_mod, o_pow, o_cat, o_rep, M.ix_lst, M.ix_lk, M.ix_tup, frz_n0, frz_bo, frz_al, frz_n1, x_nil, Vd, truD, D.asL, D.asQ, D.asT, opR, opS, List.set, List.map, List.getElem?_cons_zero, List.getElem?_cons_succ, Out.nx.injEq, exists_eq_left', exists_eq_left, Bool.false_eq_true, if_false, if_true, Lv.own, Bool.not_true, Bool.not_false, ite_true, ite_false, reduceIte, bdG, bdGs, callD1, cp, lf, flat_int, callL, List.any_cons, List.any_nil, Bool.or_false, Bool.false_or, Bool.true_or, nmin_00, nmin_01, nmin_10, nmin_11, wl_int, wl_str, wl_bl, wl_non, wl_n, ne_ints, eq_ints, Lv.up, Lv.min, mnL, dsp, List.map_cons, List.map_nil, eq_self, Option.map_some, D.v, List.length_map, c, decide_true]) ?_ fun ρ h => xs_nil h
      refine xs_range (ρ0 := ?w2) (n := xs.length - 1) (φ := fun k => D.int (0 + (k : Nat))) (fun k ρ => ∃ u3, ρ = [some (I xs, .n 0), some (.int x, .n 0), some (I (Vr xs (up xs i k)), .n 1), u3, some (.int (0 + (i : Nat)), .n 0)]) ?e2 ?h2 ?s2 ?k2
      case e2 => simp only [M.exec, ev, evT, evs, evP, evI, evIF, evAnd, evOr, evAndV, evOrV, evTs, evF_q, evF'_int, evF'_bl, evF'_str, evF'_non, evF'_n, evF'_al, evF'_bo, evF'_err, evF'_stuck, evS_q, evS'_int, evS'_bl, evS'_str, evS'_n, evS'_al, frzV_nil, frzV_cons, frz1, evars, evarss, evarsI, gd_T, gdO_T, nl_int, nl_bl, nl_str, nl_non, nl_nd, isBo_int, isBo_bl, isBo_str, isBo_non, isBo_n, isBo_al, isBo_nd, vw1_int, vw1_bl, vw1_str, vw1_non, vw1_0, vw1_1, vw1_one, vw1_al, vw1_none, vw_nil, vw_cons, bind_o, bind_e, bind_s, toOut_o, toOut_e, pure_o, cl_int, cl_bl, cl_str, cl_non, cl_al, cl_n, setS, appF, sbF, isApp, neEs_c, callL_al, blt_len, blt_int, blt_abs, blt_max, blt_min, blt_list, blt_tuple, blt_sum, blt_any, blt_all, blt_str, blt_repr, b_len_lst, b_len_lk, b_len_tup, b_int, b_int_bl, b_abs, b_max, b_min, b_list, c_eq_int, c_ne_int, c_eq_str, c_ne_str, c_lt, c_le, c_gt, c_ge, k_lt, k_le, k_gt, k_ge, obl_o, o_add, o_sub, o_mul, o_fdiv, o_mod, o_pow, o_cat, o_rep, M.ix_lst, M.ix_lk, M.ix_tup, frz_n0, frz_bo, frz_al, frz_n1, x_nil, Vd, truD, D.asL, D.asQ, D.asT, opR, opS, List.set, List.map, List.getElem?_cons_zero, List.getElem?_cons_succ, Out.nx.injEq, exists_eq_left', exists_eq_left, Bool.false_eq_true, if_false, if_true, Lv.own, Bool.not_true, Bool.not_false, ite_true, ite_false, reduceIte, bdG, bdGs, callD1, cp, lf, flat_int, callL, List.any_cons, List.any_nil, Bool.or_false, Bool.false_or, Bool.true_or, nmin_00, nmin_01, nmin_10, nmin_11, wl_int, wl_str, wl_bl, wl_non, wl_n, ne_ints, eq_ints, Lv.up, Lv.min, mnL, dsp, List.map_cons, List.map_nil, eq_self, Option.map_some, D.v, List.length_map, callE_b B_law_value, hlv, hr2, ht]; rfl
      case h2 => exact ⟨u3, rfl⟩
      case k2 =>
        rintro ρ ⟨u3, rfl⟩
        refine xs_nil ⟨u3, some (.int (0 + (i : Nat)), .n 0), ?_⟩
        have e : Vr xs (up xs i (xs.length - 1)) = Vr xs (V xs (i + 1 : Nat)) := Vr_eq xs fun j hj => by
          unfold up
          rw [show ((i + 1 : Nat) : Int) = (i : Int) + 1 by omega]
          by_cases c2 : j < xs.length - 1
          · rw [if_pos c2]
          · rw [if_neg c2, V_step xs _ j hj, V_end xs _ (j + 1) (by omega), Int.add_zero]
        rw [e]
      case s2 =>
        rintro k ρ hk ⟨u3, rfl⟩
        refine ⟨_, rfl, ?_⟩
        have a1 : atI ((Vr xs (up xs i k)).map D.int) (0 + (k : Int)) = some (.int (up xs i k k)) := by
          rw [Int.zero_add, atI_d (by rw [Vr_len]; omega), Vr_get xs _ (by omega)]
        have a2 : atI ((Vr xs (up xs i k)).map D.int) (0 + (k : Int) + 1) = some (.int (up xs i k (k + 1))) := by
          rw [Int.zero_add, show (k : Int) + 1 = ((k + 1 : Nat) : Int) by omega, atI_d (by rw [Vr_len]; omega), Vr_get xs _ (by omega)]
        have hix : ixN xs.length (0 + (k : Int)) = some k := by rw [Int.zero_add]; exact ixN_nat (by omega)
        refine xs_cons (by simp only [M.exec, ev, evT, evs, evP, evI, evIF, evAnd, evOr, evAndV, evOrV, evTs, evF_q, evF'_int, evF'_bl, evF'_str, evF'_non, evF'_n, evF'_al, evF'_bo, evF'_err, evF'_stuck, evS_q, evS'_int, evS'_bl, evS'_str, evS'_n, evS'_al, frzV_nil, frzV_cons, frz1, evars, evarss, evarsI, gd_T, gdO_T, nl_int, nl_bl, nl_str, nl_non, nl_nd, isBo_int, isBo_bl, isBo_str, isBo_non, isBo_n, isBo_al, isBo_nd, vw1_int, vw1_bl, vw1_str, vw1_non, vw1_0, vw1_1, vw1_one, vw1_al, vw1_none, vw_nil, vw_cons, bind_o, bind_e, bind_s, toOut_o, toOut_e, pure_o, cl_int, cl_bl, cl_str, cl_non, cl_al, cl_n, setS, appF, sbF, isApp, neEs_c, callL_al, blt_len, blt_int, blt_abs, blt_max, blt_min, blt_list, blt_tuple, blt_sum, blt_any, blt_all, blt_str, blt_repr, b_len_lst, b_len_lk, b_len_tup, b_int, b_int_bl, b_abs, b_max, b_min, b_list, c_eq_int, c_ne_int, c_eq_str, c_ne_str, c_lt, c_le, c_gt, c_ge, k_lt, k_le, k_gt, k_ge, obl_o, o_add, o_sub, o_mul, o_fdiv, o_mod, o_pow, o_cat, o_rep, M.ix_lst, M.ix_lk, M.ix_tup, frz_n0, frz_bo, frz_al, frz_n1, x_nil, Vd, truD, D.asL, D.asQ, D.asT, opR, opS, List.set, List.map, List.getElem?_cons_zero, List.getElem?_cons_succ, Out.nx.injEq, exists_eq_left', exists_eq_left, Bool.false_eq_true, if_false, if_true, Lv.own, Bool.not_true, Bool.not_false, ite_true, ite_false, reduceIte, bdG, bdGs, callD1, cp, lf, flat_int, callL, List.any_cons, List.any_nil, Bool.or_false, Bool.false_or, Bool.true_or, nmin_00, nmin_01, nmin_10, nmin_11, wl_int, wl_str, wl_bl, wl_non, wl_n, ne_ints, eq_ints, Lv.up, Lv.min, mnL, dsp, List.map_cons, List.map_nil, eq_self, Option.map_some, D.v, List.length_map, a1, a2, hlv, hix]; rfl) (xs_nil ⟨some (.int (0 + (k : Nat)), .n 0), ?_⟩)
        have e : (Vr xs (up xs i k)).set k (up xs i k k + up xs i k (k + 1)) = Vr xs (up xs i (k + 1)) := by
          have h1 : up xs i k k + up xs i k (k + 1) = up xs i (k + 1) k := by
            unfold up
            rw [if_neg (by omega), if_neg (by omega), if_pos (by omega), V_step xs _ k (by omega)]
          rw [h1]
          refine Vr_set xs _ _ fun j hj => ?_
          by_cases c2 : j = k
          · rw [if_pos c2, c2]
          · rw [if_neg c2]
            unfold up
            by_cases c3 : j < k
            · rw [if_pos (by omega), if_pos c3]
            · rw [if_neg (by omega), if_neg c3]
        rw [← e, I_set]
    case fin =>
      rintro ρ ⟨u3, u4, rfl⟩
      have a0 : atI ((Vr xs (V xs (x.toNat : Nat))).map D.int) 0 = some (.int (V xs x 0)) := by
        have := atI_d (xs := Vr xs (V xs (x.toNat : Nat))) (k := 0) (by rw [Vr_len]; omega)
        rw [Vr_get xs _ (by omega), Int.toNat_of_nonneg (by omega)] at this
        rw [Int.toNat_of_nonneg (by omega)]
        exact this
      simp only [M.execs, M.exec, ev, evT, evs, evP, evI, evIF, evAnd, evOr, evAndV, evOrV, evTs, evF_q, evF'_int, evF'_bl, evF'_str, evF'_non, evF'_n, evF'_al, evF'_bo, evF'_err, evF'_stuck, evS_q, evS'_int, evS'_bl, evS'_str, evS'_n, evS'_al, frzV_nil, frzV_cons, frz1, evars, evarss, evarsI, gd_T, gdO_T, nl_int, nl_bl, nl_str, nl_non, nl_nd, isBo_int, isBo_bl, isBo_str, isBo_non, isBo_n, isBo_al, isBo_nd, vw1_int, vw1_bl, vw1_str, vw1_non, vw1_0, vw1_1, vw1_one, vw1_al, vw1_none, vw_nil, vw_cons, bind_o, bind_e, bind_s, toOut_o, toOut_e, pure_o, cl_int, cl_bl, cl_str, cl_non, cl_al, cl_n, setS, appF, sbF, isApp, neEs_c, callL_al, blt_len, blt_int, blt_abs, blt_max, blt_min, blt_list, blt_tuple, blt_sum, blt_any, blt_all, blt_str, blt_repr, b_len_lst, b_len_lk, b_len_tup, b_int, b_int_bl, b_abs, b_max, b_min, b_list, c_eq_int, c_ne_int, c_eq_str, c_ne_str, c_lt, c_le, c_gt, c_ge, k_lt, k_le, k_gt, k_ge, obl_o, o_add, o_sub, o_mul, o_fdiv, o_mod, o_pow, o_cat, o_rep, M.ix_lst, M.ix_lk, M.ix_tup, frz_n0, frz_bo, frz_al, frz_n1, x_nil, Vd, truD, D.asL, D.asQ, D.asT, opR, opS, List.set, List.map, List.getElem?_cons_zero, List.getElem?_cons_succ, Out.nx.injEq, exists_eq_left', exists_eq_left, Bool.false_eq_true, if_false, if_true, Lv.own, Bool.not_true, Bool.not_false, ite_true, ite_false, reduceIte, bdG, bdGs, callD1, cp, lf, flat_int, callL, List.any_cons, List.any_nil, Bool.or_false, Bool.false_or, Bool.true_or, nmin_00, nmin_01, nmin_10, nmin_11, wl_int, wl_str, wl_bl, wl_non, wl_n, ne_ints, eq_ints, Lv.up, Lv.min, mnL, dsp, List.map_cons, List.map_nil, eq_self, Option.map_some, D.v, List.length_map, a0, outOf]
  · refine go_range (ρ0 := ?wb) (n := (-x).toNat) (φ := fun k => D.int (0 + (k : Nat))) (fun i ρ => ∃ u3 u4, ρ = [some (I xs, .n 0), some (.int x, .n 0), some (I (Vr xs (V xs (-(i : Nat)))), .n 1), u3, u4]) ?eb ?h0b ?sb ?finb
    case eb =>
      have e1 : (if x < 0 then -x else x) = -x := by
        by_cases c2 : x < 0
        · exact if_pos c2
        · rw [if_neg c2]; omega
      rw [e1] at ha
      simp only [M.exec, ev, evT, evs, evP, evI, evIF, evAnd, evOr, evAndV, evOrV, evTs, evF_q, evF'_int, evF'_bl, evF'_str, evF'_non, evF'_n, evF'_al, evF'_bo, evF'_err, evF'_stuck, evS_q, evS'_int, evS'_bl, evS'_str, evS'_n, evS'_al, frzV_nil, frzV_cons, frz1, evars, evarss, evarsI, gd_T, gdO_T, nl_int, nl_bl, nl_str, nl_non, nl_nd, isBo_int, isBo_bl, isBo_str, isBo_non, isBo_n, isBo_al, isBo_nd, vw1_int, vw1_bl, vw1_str, vw1_non, vw1_0, vw1_1, vw1_one, vw1_al, vw1_none, vw_nil, vw_cons, bind_o, bind_e, bind_s, toOut_o, toOut_e, pure_o, cl_int, cl_bl, cl_str, cl_non, cl_al, cl_n, setS, appF, sbF, isApp, neEs_c, callL_al, blt_len, blt_int, blt_abs, blt_max, blt_min, blt_list, blt_tuple, blt_sum, blt_any, blt_all, blt_str, blt_repr, b_len_lst, b_len_lk, b_len_tup, b_int, b_int_bl, b_abs, b_max, b_min, b_list, c_eq_int, c_ne_int, c_eq_str, c_ne_str, c_lt, c_le, c_gt, c_ge, k_lt, k_le, k_gt, k_ge, obl_o, o_add, o_sub, o_mul, o_fdiv, o_mod, o_pow, o_cat, o_rep, M.ix_lst, M.ix_lk, M.ix_tup, frz_n0, frz_bo, frz_al, frz_n1, x_nil, Vd, truD, D.asL, D.asQ, D.asT, opR, opS, List.set, List.map, List.getElem?_cons_zero, List.getElem?_cons_succ, Out.nx.injEq, exists_eq_left', exists_eq_left, Bool.false_eq_true, if_false, if_true, Lv.own, Bool.not_true, Bool.not_false, ite_true, ite_false, reduceIte, bdG, bdGs, callD1, cp, lf, flat_int, callL, List.any_cons, List.any_nil, Bool.or_false, Bool.false_or, Bool.true_or, nmin_00, nmin_01, nmin_10, nmin_11, wl_int, wl_str, wl_bl, wl_non, wl_n, ne_ints, eq_ints, Lv.up, Lv.min, mnL, dsp, List.map_cons, List.map_nil, eq_self, Option.map_some, D.v, List.length_map, callE_b B_law_value, e1, ha]
      rfl
    case h0b => exact ⟨_, _, rfl⟩
    case sb =>
      rintro i ρ hi ⟨u3, u4, rfl⟩
      refine ⟨_, rfl, ?_⟩
      have hg := RgC.neg (i := (xs.length : Int) - 2) (j := -1) (by omega) (by omega) (by decide) (by decide)
      have ht : ((xs.length : Int) - 2 - -1).toNat = xs.length - 1 := by omega
      rw [ht] at hg
      have hg2 : (Builtin.Range.rangeSize ((xs.length : Int) - 2) (-1) (-1)).toNat = xs.length - 1 := by rw [hg.2.2.2, Int.toNat_natCast]
      have hg1 : RgC ((xs.length : Int) - 2) (-1) (-1) (xs.length - 1) = True := eq_true hg
      refine xs_iff (Q := fun ρ => ∃ u3 u4, ρ = [some (I xs, .n 0), some (.int x, .n 0), some (I (Vr xs (V xs (-((i + 1 : Nat) : Int)))), .n 1), u3, u4]) (by simp only [M.exec, ev, evT, evs, evP, evI, evIF, evAnd, evOr, evAndV, evOrV, evTs, evF_q, evF'_int, evF'_bl, evF'_str, evF'_non, evF'_n, evF'_al, evF'_bo, evF'_err, evF'_stuck, evS_q, evS'_int, evS'_bl, evS'_str, evS'_n, evS'_al, frzV_nil, frzV_cons, frz1, evars, evarss, evarsI, gd_T, gdO_T, nl_int, nl_bl, nl_str, nl_non, nl_nd, isBo_int, isBo_bl, isBo_str, isBo_non, isBo_n, isBo_al, isBo_nd, vw1_int, vw1_bl, vw1_str, vw1_non, vw1_0, vw1_1, vw1_one, vw1_al, vw1_none, vw_nil, vw_cons, bind_o, bind_e, bind_s, toOut_o, toOut_e, pure_o, cl_int, cl_bl, cl_str, cl_non, cl_al, cl_n, setS, appF, sbF, isApp, neEs_c, callL_al, blt_len, blt_int, blt_abs, blt_max, blt_min, blt_list, blt_tuple, blt_sum, blt_any, blt_all, blt_str, blt_repr, b_len_lst, b_len_lk, b_len_tup, b_int, b_int_bl, b_abs, b_max, b_min, b_list, c_eq_int, c_ne_int, c_eq_str, c_ne_str, c_lt, c_le, c_gt, c_ge, k_lt, k_le, k_gt, k_ge, obl_o, o_add, o_sub, o_mul, o_fdiv, o_mod, o_pow, o_cat, o_rep, M.ix_lst, M.ix_lk, M.ix_tup, frz_n0, frz_bo, frz_al, frz_n1, x_nil, Vd, truD, D.asL, D.asQ, D.asT, opR, opS, List.set, List.map, List.getElem?_cons_zero, List.getElem?_cons_succ, Out.nx.injEq, exists_eq_left', exists_eq_left, Bool.false_eq_true, if_false, if_true, Lv.own, Bool.not_true, Bool.not_false, ite_true, ite_false, reduceIte, bdG, bdGs, callD1, cp, lf, flat_int, callL, List.any_cons, List.any_nil, Bool.or_false, Bool.false_or, Bool.true_or, nmin_00, nmin_01, nmin_10, nmin_11, wl_int, wl_str, wl_bl, wl_non, wl_n, ne_ints, eq_ints, Lv.up, Lv.min, mnL, dsp, List.map_cons, List.map_nil, eq_self, Option.map_some, D.v, List.length_map, c, decide_false]) ?_ fun ρ h => xs_nil h
      refine xs_range (ρ0 := ?wb2) (n := xs.length - 1) (φ := fun k => D.int ((xs.length : Int) - 2 + (k : Nat) * (-1))) (fun k ρ => ∃ u3, ρ = [some (I xs, .n 0), some (.int x, .n 0), some (I (Vr xs (dn xs (-(i : Nat)) k)), .n 1), u3, some (.int (0 + (i : Nat)), .n 0)]) ?eb2 ?hb2 ?sb2 ?kb2
      case eb2 => simp only [M.exec, ev, evT, evs, evP, evI, evIF, evAnd, evOr, evAndV, evOrV, evTs, evF_q, evF'_int, evF'_bl, evF'_str, evF'_non, evF'_n, evF'_al, evF'_bo, evF'_err, evF'_stuck, evS_q, evS'_int, evS'_bl, evS'_str, evS'_n, evS'_al, frzV_nil, frzV_cons, frz1, evars, evarss, evarsI, gd_T, gdO_T, nl_int, nl_bl, nl_str, nl_non, nl_nd, isBo_int, isBo_bl, isBo_str, isBo_non, isBo_n, isBo_al, isBo_nd, vw1_int, vw1_bl, vw1_str, vw1_non, vw1_0, vw1_1, vw1_one, vw1_al, vw1_none, vw_nil, vw_cons, bind_o, bind_e, bind_s, toOut_o, toOut_e, pure_o, cl_int, cl_bl, cl_str, cl_non, cl_al, cl_n, setS, appF, sbF, isApp, neEs_c, callL_al, blt_len, blt_int, blt_abs, blt_max, blt_min, blt_list, blt_tuple, blt_sum, blt_any, blt_all, blt_str, blt_repr, b_len_lst, b_len_lk, b_len_tup, b_int, b_int_bl, b_abs, b_max, b_min, b_list, c_eq_int, c_ne_int, c_eq_str, c_ne_str, c_lt, c_le, c_gt, c_ge, k_lt, k_le, k_gt, k_ge, obl_o, o_add, o_sub, o_mul, o_fdiv, o_mod, o_pow, o_cat, o_rep, M.ix_lst, M.ix_lk, M.ix_tup, frz_n0, frz_bo, frz_al, frz_n1, x_nil, Vd, truD, D.asL, D.asQ, D.asT, opR, opS, List.set, List.map, List.getElem?_cons_zero, List.getElem?_cons_succ, Out.nx.injEq, exists_eq_left', exists_eq_left, Bool.false_eq_true, if_false, if_true, Lv.own, Bool.not_true, Bool.not_false, ite_true, ite_false, reduceIte, bdG, bdGs, callD1, cp, lf, flat_int, callL, List.any_cons, List.any_nil, Bool.or_false, Bool.false_or, Bool.true_or, nmin_00, nmin_01, nmin_10, nmin_11, wl_int, wl_str, wl_bl, wl_non, wl_n, ne_ints, eq_ints, Lv.up, Lv.min, mnL, dsp, List.map_cons, List.map_nil, eq_self, Option.map_some, D.v, List.length_map, callE_b B_law_value, hlv, hg1, hg2]; rfl
      case hb2 =>
        refine ⟨u3, ?_⟩
        have e : Vr xs (dn xs (-(i : Nat)) 0) = Vr xs (V xs (-(i : Nat))) := Vr_eq xs fun j hj => by
          unfold dn
          by_cases c2 : xs.length ≤ j + 1 + 0
          · rw [if_pos c2, V_back xs _ j hj, V_end xs _ (j + 1) (by omega), Int.sub_zero]
          · rw [if_neg c2]
        rw [e]
      case kb2 =>
        rintro ρ ⟨u3, rfl⟩
        refine xs_nil ⟨u3, some (.int (0 + (i : Nat)), .n 0), ?_⟩
        have e : Vr xs (dn xs (-(i : Nat)) (xs.length - 1)) = Vr xs (V xs (-((i + 1 : Nat) : Int))) := Vr_eq xs fun j hj => by
          unfold dn
          rw [if_pos (by omega), show -((i + 1 : Nat) : Int) = -(i : Int) - 1 by omega]
        rw [e]
      case sb2 =>
        rintro t ρ ht2 ⟨u3, rfl⟩
        refine ⟨_, rfl, ?_⟩
        obtain ⟨k, hk, hk2⟩ : ∃ k : Nat, (xs.length : Int) - 2 + (t : Int) * (-1) = (k : Nat) ∧ k + 2 + t = xs.length := ⟨xs.length - 2 - t, by omega, by omega⟩
        have a1 : atI ((Vr xs (dn xs (-(i : Nat)) t)).map D.int) ((k : Nat) : Int) = some (.int (dn xs (-(i : Nat)) t k)) := by
          rw [atI_d (by rw [Vr_len]; omega), Vr_get xs _ (by omega)]
        have a2 : atI ((Vr xs (dn xs (-(i : Nat)) t)).map D.int) ((k : Int) + 1) = some (.int (dn xs (-(i : Nat)) t (k + 1))) := by
          rw [show (k : Int) + 1 = ((k + 1 : Nat) : Int) by omega, atI_d (by rw [Vr_len]; omega), Vr_get xs _ (by omega)]
        have hix : ixN xs.length (k : Int) = some k := ixN_nat (by omega)
        rw [hk]
        refine xs_cons (by simp only [M.exec, ev, evT, evs, evP, evI, evIF, evAnd, evOr, evAndV, evOrV, evTs, evF_q, evF'_int, evF'_bl, evF'_str, evF'_non, evF'_n, evF'_al, evF'_bo, evF'_err, evF'_stuck, evS_q, evS'_int, evS'_bl, evS'_str, evS'_n, evS'_al, frzV_nil, frzV_cons, frz1, evars, evarss, evarsI, gd_T, gdO_T, nl_int, nl_bl, nl_str, nl_non, nl_nd, isBo_int, isBo_bl, isBo_str, isBo_non, isBo_n, isBo_al, isBo_nd, vw1_int, vw1_bl, vw1_str, vw1_non, vw1_0, vw1_1, vw1_one, vw1_al, vw1_none, vw_nil, vw_cons, bind_o, bind_e, bind_s, toOut_o, toOut_e, pure_o, cl_int, cl_bl, cl_str, cl_non, cl_al, cl_n, setS, appF, sbF, isApp, neEs_c, callL_al, blt_len, blt_int, blt_abs, blt_max, blt_min, blt_list, blt_tuple, blt_sum, blt_any, blt_all, blt_str, blt_repr, b_len_lst, b_len_lk, b_len_tup, b_int, b_int_bl, b_abs, b_max, b_min, b_list, c_eq_int, c_ne_int, c_eq_str, c_ne_str, c_lt, c_le, c_gt, c_ge, k_lt, k_le, k_gt, k_ge, obl_o, o_add, o_sub, o_mul, o_fdiv, o_mod, o_pow, o_cat, o_rep, M.ix_lst, M.ix_lk, M.ix_tup, frz_n0, frz_bo, frz_al, frz_n1, x_nil, Vd, truD, D.asL, D.asQ, D.asT, opR, opS, List.set, List.map, List.getElem?_cons_zero, List.getElem?_cons_succ, Out.nx.injEq, exists_eq_left', exists_eq_left, Bool.false_eq_true, if_false, if_true, Lv.own, Bool.not_true, Bool.not_false, ite_true, ite_false, reduceIte, bdG, bdGs, callD1, cp, lf, flat_int, callL, List.any_cons, List.any_nil, Bool.or_false, Bool.false_or, Bool.true_or, nmin_00, nmin_01, nmin_10, nmin_11, wl_int, wl_str, wl_bl, wl_non, wl_n, ne_ints, eq_ints, Lv.up, Lv.min, mnL, dsp, List.map_cons, List.map_nil, eq_self, Option.map_some, D.v, List.length_map, a1, a2, hlv, hix]; rfl) (xs_nil ⟨some (.int (k : Nat), .n 0), ?_⟩)
        have e : (Vr xs (dn xs (-(i : Nat)) t)).set k (dn xs (-(i : Nat)) t k - dn xs (-(i : Nat)) t (k + 1)) = Vr xs (dn xs (-(i : Nat)) (t + 1)) := by
          have h1 : dn xs (-(i : Nat)) t k - dn xs (-(i : Nat)) t (k + 1) = dn xs (-(i : Nat)) (t + 1) k := by
            unfold dn
            rw [if_neg (by omega), if_pos (by omega), if_pos (by omega), V_back xs _ k (by omega)]
          rw [h1]
          refine Vr_set xs _ _ fun j hj => ?_
          by_cases c2 : j = k
          · rw [if_pos c2, c2]
          · rw [if_neg c2]
            unfold dn
            by_cases c3 : xs.length ≤ j + 1 + t
            · rw [if_pos (by omega), if_pos c3]
            · rw [if_neg (by omega), if_neg c3]
        rw [← e, I_set]
    case finb =>
      rintro ρ ⟨u3, u4, rfl⟩
      have e0 : -(((-x).toNat : Nat) : Int) = x := by omega
      have a0 : atI ((Vr xs (V xs x)).map D.int) 0 = some (.int (V xs x 0)) := by
        have := atI_d (xs := Vr xs (V xs x)) (k := 0) (by rw [Vr_len]; omega)
        rw [Vr_get xs _ (by omega)] at this
        exact this
      rw [e0]
      simp only [M.execs, M.exec, ev, evT, evs, evP, evI, evIF, evAnd, evOr, evAndV, evOrV, evTs, evF_q, evF'_int, evF'_bl, evF'_str, evF'_non, evF'_n, evF'_al, evF'_bo, evF'_err, evF'_stuck, evS_q, evS'_int, evS'_bl, evS'_str, evS'_n, evS'_al, frzV_nil, frzV_cons, frz1, evars, evarss, evarsI, gd_T, gdO_T, nl_int, nl_bl, nl_str, nl_non, nl_nd, isBo_int, isBo_bl, isBo_str, isBo_non, isBo_n, isBo_al, isBo_nd, vw1_int, vw1_bl, vw1_str, vw1_non, vw1_0, vw1_1, vw1_one, vw1_al, vw1_none, vw_nil, vw_cons, bind_o, bind_e, bind_s, toOut_o, toOut_e, pure_o, cl_int, cl_bl, cl_str, cl_non, cl_al, cl_n, setS, appF, sbF, isApp, neEs_c, callL_al, blt_len, blt_int, blt_abs, blt_max, blt_min, blt_list, blt_tuple, blt_sum, blt_any, blt_all, blt_str, blt_repr, b_len_lst, b_len_lk, b_len_tup, b_int, b_int_bl, b_abs, b_max, b_min, b_list, c_eq_int, c_ne_int, c_eq_str, c_ne_str, c_lt, c_le, c_gt, c_ge, k_lt, k_le, k_gt, k_ge, obl_o, o_add, o_sub, o_mul, o_fdiv, o_mod, o_pow, o_cat, o_rep, M.ix_lst, M.ix_lk, M.ix_tup, frz_n0, frz_bo, frz_al, frz_n1, x_nil, Vd, truD, D.asL, D.asQ, D.asT, opR, opS, List.set, List.map, List.getElem?_cons_zero, List.getElem?_cons_succ, Out.nx.injEq, exists_eq_left', exists_eq_left, Bool.false_eq_true, if_false, if_true, Lv.own, Bool.not_true, Bool.not_false, ite_true, ite_false, reduceIte, bdG, bdGs, callD1, cp, lf, flat_int, callL, List.any_cons, List.any_nil, Bool.or_false, Bool.false_or, Bool.true_or, nmin_00, nmin_01, nmin_10, nmin_11, wl_int, wl_str, wl_bl, wl_non, wl_n, ne_ints, eq_ints, Lv.up, Lv.min, mnL, dsp, List.map_cons, List.map_nil, eq_self, Option.map_some, D.v, List.length_map, a0, outOf]
theorem S_lshown (n m : Int) (hn : 1 ≤ n ∧ n ≤ 16) : run_law_shown [.int n, .int m] = .ok (I (dig 10 m n.toNat), .al) := by
  refine runOf_at rfl ?_
  show outOf (execs Φ_law_shown _ _ b_law_shown [some (.int n, .n 0), some (.int m, .n 0), none]) = _
  unfold b_law_shown
  have hr : (-(2 ^ 62) ≤ n ∧ n < 2 ^ 62) = True := eq_true ⟨by omega, by omega⟩
  refine go_ret (x_ret_lc (ev_lcS (l := .n 0) (fun k : Nat => D.int (0 + (k : Nat))) (fun k => .int ((m.fdiv (10 ^ k)).fmod 10)) (List.range n.toNat) (by simp only [M.exec, ev, evT, evs, evP, evI, evIF, evAnd, evOr, evAndV, evOrV, evTs, evF_q, evF'_int, evF'_bl, evF'_str, evF'_non, evF'_n, evF'_al, evF'_bo, evF'_err, evF'_stuck, evS_q, evS'_int, evS'_bl, evS'_str, evS'_n, evS'_al, frzV_nil, frzV_cons, frz1, evars, evarss, evarsI, gd_T, gdO_T, nl_int, nl_bl, nl_str, nl_non, nl_nd, isBo_int, isBo_bl, isBo_str, isBo_non, isBo_n, isBo_al, isBo_nd, vw1_int, vw1_bl, vw1_str, vw1_non, vw1_0, vw1_1, vw1_one, vw1_al, vw1_none, vw_nil, vw_cons, bind_o, bind_e, bind_s, toOut_o, toOut_e, pure_o, cl_int, cl_bl, cl_str, cl_non, cl_al, cl_n, setS, appF, sbF, isApp, neEs_c, callL_al, blt_len, blt_int, blt_abs, blt_max, blt_min, blt_list, blt_tuple, blt_sum, blt_any, blt_all, blt_str, blt_repr, b_len_lst, b_len_lk, b_len_tup, b_int, b_int_bl, b_abs, b_max, b_min, b_list, c_eq_int, c_ne_int, c_eq_str, c_ne_str, c_lt, c_le, c_gt, c_ge, k_lt, k_le, k_gt, k_ge, obl_o, o_add, o_sub, o_mul, o_fdiv, o_mod, o_pow, o_cat, o_rep, M.ix_lst, M.ix_lk, M.ix_tup, frz_n0, frz_bo, frz_al, frz_n1, x_nil, Vd, truD, D.asL, D.asQ, D.asT, opR, opS, List.set, List.map, List.getElem?_cons_zero, List.getElem?_cons_succ, Out.nx.injEq, exists_eq_left', exists_eq_left, Bool.false_eq_true, if_false, if_true, Lv.own, Bool.not_true, Bool.not_false, ite_true, ite_false, reduceIte, bdG, bdGs, callD1, cp, lf, flat_int, callL, List.any_cons, List.any_nil, Bool.or_false, Bool.false_or, Bool.true_or, nmin_00, nmin_01, nmin_10, nmin_11, wl_int, wl_str, wl_bl, wl_non, wl_n, ne_ints, eq_ints, Lv.up, Lv.min, mnL, dsp, List.map_cons, List.map_nil, eq_self, Option.map_some, D.v, List.length_map, hr]) rfl ?h (fun _ _ => rfl) (by rw [List.length_range]; exact Nat.le_of_lt (sz_lt (by omega)))) isBo_al) ?_
  case h =>
    intro k hk
    have hk := List.mem_range.mp hk
    refine ⟨_, rfl, ?_⟩
    have sp := S_lpower 10 (0 + (k : Nat)) (by decide) ⟨by omega, by omega⟩
    have hk2 : (0 + (k : Int)).toNat = k := by omega
    rw [hk2] at sp
    have hp : (0 : Int) < 10 ^ k := Int.pow_pos (by decide)
    have hd : (CDivN m (10 ^ k) ∨ CDivW m (10 ^ k)) = True := eq_true (.inr ⟨hp, ?_⟩)
    · have hb0 : ((10 : Int) ≠ 0) = True := eq_true (by decide)
      simp only [M.exec, ev, evT, evs, evP, evI, evIF, evAnd, evOr, evAndV, evOrV, evTs, evF_q, evF'_int, evF'_bl, evF'_str, evF'_non, evF'_n, evF'_al, evF'_bo, evF'_err, evF'_stuck, evS_q, evS'_int, evS'_bl, evS'_str, evS'_n, evS'_al, frzV_nil, frzV_cons, frz1, evars, evarss, evarsI, gd_T, gdO_T, nl_int, nl_bl, nl_str, nl_non, nl_nd, isBo_int, isBo_bl, isBo_str, isBo_non, isBo_n, isBo_al, isBo_nd, vw1_int, vw1_bl, vw1_str, vw1_non, vw1_0, vw1_1, vw1_one, vw1_al, vw1_none, vw_nil, vw_cons, bind_o, bind_e, bind_s, toOut_o, toOut_e, pure_o, cl_int, cl_bl, cl_str, cl_non, cl_al, cl_n, setS, appF, sbF, isApp, neEs_c, callL_al, blt_len, blt_int, blt_abs, blt_max, blt_min, blt_list, blt_tuple, blt_sum, blt_any, blt_all, blt_str, blt_repr, b_len_lst, b_len_lk, b_len_tup, b_int, b_int_bl, b_abs, b_max, b_min, b_list, c_eq_int, c_ne_int, c_eq_str, c_ne_str, c_lt, c_le, c_gt, c_ge, k_lt, k_le, k_gt, k_ge, obl_o, o_add, o_sub, o_mul, o_fdiv, o_mod, o_pow, o_cat, o_rep, M.ix_lst, M.ix_lk, M.ix_tup, frz_n0, frz_bo, frz_al, frz_n1, x_nil, Vd, truD, D.asL, D.asQ, D.asT, opR, opS, List.set, List.map, List.getElem?_cons_zero, List.getElem?_cons_succ, Out.nx.injEq, exists_eq_left', exists_eq_left, Bool.false_eq_true, if_false, if_true, Lv.own, Bool.not_true, Bool.not_false, ite_true, ite_false, reduceIte, bdG, bdGs, callD1, cp, lf, flat_int, callL, List.any_cons, List.any_nil, Bool.or_false, Bool.false_or, Bool.true_or, nmin_00, nmin_01, nmin_10, nmin_11, wl_int, wl_str, wl_bl, wl_non, wl_n, ne_ints, eq_ints, Lv.up, Lv.min, mnL, dsp, List.map_cons, List.map_nil, eq_self, Option.map_some, D.v, List.length_map, wipeE, callE_b B_law_shown, c_law_shown_law_power, sp, hd, hb0]
    · have h2 : ((10 : Int) ^ k).natAbs ≤ 12 ^ 16 := by
        rw [Int.natAbs_pow]
        exact Nat.le_trans (Nat.pow_le_pow_left (show (10 : Int).natAbs ≤ 12 by decide) k) (Nat.pow_le_pow_right (by decide) (by omega))
      have h3 : ((10 : Int) ^ k).natAbs < 2 ^ 9000 := Nat.lt_of_le_of_lt h2 (Nat.lt_of_lt_of_le (show 12 ^ 16 < 2 ^ 60 by decide) (Nat.pow_le_pow_right (by decide) (by decide)))
      exact (Nat.log2_lt (by omega)).mpr h3
  rw [I, dig, List.map_map]
  rfl
end K07

namespace K07
open PySem L2 M
mutual
theorem eqv_self : ∀ d : D, d.okE = true → PyData.eqv d.py d.py = true
  | .non, _ => rfl
  | .bl b, _ => by
    show (b == b) = true
    simp
  | .int i, _ => by
    show (i == i) = true
    simp
  | .str x, _ => by
    show (x == x) = true
    simp
  | .nd .lst ds, h => eqvs_self ds h
  | .nd .lk ds, h => eqvs_self ds h
  | .nd .tup ds, h => eqvs_self ds h
  | .nd .tk ds, h => eqvs_self ds h
  | .nd (.dic _) _, h => nomatch h
  | .nd (.dit _) _, h => nomatch h
  | .nd (.ins _ _) _, h => nomatch h
theorem eqvs_self : ∀ ds : List D, D.okEs ds = true → PyData.eqvAll (D.pys ds) (D.pys ds) = true
  | [], _ => rfl
  | d :: r, h => by
    obtain ⟨h1, h2⟩ := Bool.and_eq_true_iff.mp (show (d.okE && D.okEs r) = true from h)
    show (PyData.eqv d.py d.py && PyData.eqvAll (D.pys r) (D.pys r)) = true
    rw [eqv_self d h1, eqvs_self r h2]
    rfl
end
theorem ne_self {k : Kd} {ds : List D} (h : (D.nd k ds).okE = true) (hd : (D.nd k ds).py.depth ≤ 64) : opC .ne (.nd k ds) (.nd k ds) = .ok (.bl false) := by
  rw [c_ne_nd, eqv_self _ h]
  exact gd_pos ⟨h, h, hd, hd⟩
theorem okEs_I (f : Nat → List Int) : ∀ l : List Nat, D.okEs (l.map fun k => I (f k)) = true
  | [] => rfl
  | k :: r => by
    show (D.okEs ((f k).map D.int) && D.okEs (r.map fun k => I (f k))) = true
    rw [okEs_int, okEs_I f r]
    rfl
theorem dep_I (f : Nat → List Int) : ∀ l : List Nat, PyData.depthAll (D.pys (l.map fun k => I (f k))) ≤ 1
  | [] => by
    show 0 ≤ 1
    decide
  | k :: r => by
    show max (PyData.depth (.list (D.pys ((f k).map D.int)))) (PyData.depthAll (D.pys (r.map fun k => I (f k)))) ≤ 1
    rw [pys_int, depth_int]
    have := dep_I f r
    omega
theorem ne_II (f : Nat → List Int) (l : List Nat) : opC .ne (.nd .lst (l.map fun k => I (f k))) (.nd .lst (l.map fun k => I (f k))) = .ok (.bl false) := by
  refine ne_self (okEs_I f l) ?_
  show PyData.depthAll _ + 1 ≤ 64
  have := dep_I f l
  omega
/-- the columns of a laid engine -/
def f0 (hv : Bool) (x : Int) (k : Nat) : Int := if hv = true then x - (0 + (k : Int)).fdiv 2 else x
def rowV (xs : List Int) (y : Int) (k : Nat) : List Int := (List.range (k + 1)).map fun j => V xs (y + (0 + (j : Nat))) 0
def ld (xs : List Int) (w x : Int) (hv : Bool) (k : Nat) : List Int := dig 10 (dk (rowV xs (f0 hv x k) k) k 0) w.toNat
theorem rowV_len (xs : List Int) (y : Int) (k : Nat) : (rowV xs y k).length = k + 1 := by rw [rowV, List.length_map, List.length_range]
def ways : D := .nd .tk [.str "halves", .str "one by one"]
theorem notin_w (m : Str) : opC .notin (.str m) ways = .ok (.bl (!inV (.str m) [.str "halves", .str "one by one"])) := by
  show gd _ _ = _
  rw [gd_pos ⟨rfl, rfl⟩]
  rfl
theorem L_many (xs : List Int) (w x : Int) (m : Str) (h : ¬ (1 ≤ (xs.length : Int) ∧ (xs.length : Int) ≤ 8)) : run_laid [I xs, .int w, .str m, .int x] = .err "TooMany" (.int (xs.length : Nat)) := by
  refine runOf_at rfl ?_
  show outOf (execs Φ_laid _ _ b_laid [some (I xs, .n 0), some (.int w, .n 0), some (.str m, .n 0), some (.int x, .n 0), none, none, none, none, none]) = _
  unfold b_laid
  refine go_out (o := .err "TooMany" (.int (xs.length : Nat))) ?_ (fun _ z => nomatch z) rfl
  by_cases h1 : 1 ≤ (xs.length : Int)
  · have h2 : ¬ (xs.length : Int) ≤ 8 := fun z => h ⟨h1, z⟩
    simp only [M.execs, M.exec, ev, evT, evs, evP, evI, evIF, evAnd, evOr, evAndV, evOrV, evTs, evF_q, evF'_int, evF'_bl, evF'_str, evF'_non, evF'_n, evF'_al, evF'_bo, evF'_err, evF'_stuck, evS_q, evS'_int, evS'_bl, evS'_str, evS'_n, evS'_al, frzV_nil, frzV_cons, frz1, evars, evarss, evarsI, gd_T, gdO_T, nl_int, nl_bl, nl_str, nl_non, nl_nd, isBo_int, isBo_bl, isBo_str, isBo_non, isBo_n, isBo_al, isBo_nd, vw1_int, vw1_bl, vw1_str, vw1_non, vw1_0, vw1_1, vw1_one, vw1_al, vw1_none, vw_nil, vw_cons, bind_o, bind_e, bind_s, toOut_o, toOut_e, pure_o, cl_int, cl_bl, cl_str, cl_non, cl_al, cl_n, setS, appF, sbF, isApp, neEs_c, callL_al, blt_len, blt_int, blt_abs, blt_max, blt_min, blt_list, blt_tuple, blt_sum, blt_any, blt_all, blt_str, blt_repr, b_len_lst, b_len_lk, b_len_tup, b_int, b_int_bl, b_abs, b_max, b_min, b_list, c_eq_int, c_ne_int, c_eq_str, c_ne_str, c_lt, c_le, c_gt, c_ge, k_lt, k_le, k_gt, k_ge, obl_o, o_add, o_sub, o_mul, o_fdiv, o_mod, o_pow, o_cat, o_rep, M.ix_lst, M.ix_lk, M.ix_tup, frz_n0, frz_bo, frz_al, frz_n1, x_nil, Vd, truD, D.asL, D.asQ, D.asT, opR, opS, List.set, List.map, List.getElem?_cons_zero, List.getElem?_cons_succ, Out.nx.injEq, exists_eq_left', exists_eq_left, Bool.false_eq_true, if_false, if_true, Lv.own, Bool.not_true, Bool.not_false, ite_true, ite_false, reduceIte, bdG, bdGs, callD1, cp, lf, flat_int, callL, List.any_cons, List.any_nil, Bool.or_false, Bool.false_or, Bool.true_or, nmin_00, nmin_01, nmin_10, nmin_11, wl_int, wl_str, wl_bl, wl_non, wl_n, ne_ints, eq_ints, Lv.up, Lv.min, mnL, dsp, List.map_cons, List.map_nil, eq_self, Option.map_some, D.v, List.length_map, callE_b B_laid, g_laid_MOST_COLUMNS, x_laid_TooMany, h1, h2, decide_true, decide_false]
  · simp only [M.execs, M.exec, ev, evT, evs, evP, evI, evIF, evAnd, evOr, evAndV, evOrV, evTs, evF_q, evF'_int, evF'_bl, evF'_str, evF'_non, evF'_n, evF'_al, evF'_bo, evF'_err, evF'_stuck, evS_q, evS'_int, evS'_bl, evS'_str, evS'_n, evS'_al, frzV_nil, frzV_cons, frz1, evars, evarss, evarsI, gd_T, gdO_T, nl_int, nl_bl, nl_str, nl_non, nl_nd, isBo_int, isBo_bl, isBo_str, isBo_non, isBo_n, isBo_al, isBo_nd, vw1_int, vw1_bl, vw1_str, vw1_non, vw1_0, vw1_1, vw1_one, vw1_al, vw1_none, vw_nil, vw_cons, bind_o, bind_e, bind_s, toOut_o, toOut_e, pure_o, cl_int, cl_bl, cl_str, cl_non, cl_al, cl_n, setS, appF, sbF, isApp, neEs_c, callL_al, blt_len, blt_int, blt_abs, blt_max, blt_min, blt_list, blt_tuple, blt_sum, blt_any, blt_all, blt_str, blt_repr, b_len_lst, b_len_lk, b_len_tup, b_int, b_int_bl, b_abs, b_max, b_min, b_list, c_eq_int, c_ne_int, c_eq_str, c_ne_str, c_lt, c_le, c_gt, c_ge, k_lt, k_le, k_gt, k_ge, obl_o, o_add, o_sub, o_mul, o_fdiv, o_mod, o_pow, o_cat, o_rep, M.ix_lst, M.ix_lk, M.ix_tup, frz_n0, frz_bo, frz_al, frz_n1, x_nil, Vd, truD, D.asL, D.asQ, D.asT, opR, opS, List.set, List.map, List.getElem?_cons_zero, List.getElem?_cons_succ, Out.nx.injEq, exists_eq_left', exists_eq_left, Bool.false_eq_true, if_false, if_true, Lv.own, Bool.not_true, Bool.not_false, ite_true, ite_false, reduceIte, bdG, bdGs, callD1, cp, lf, flat_int, callL, List.any_cons, List.any_nil, Bool.or_false, Bool.false_or, Bool.true_or, nmin_00, nmin_01, nmin_10, nmin_11, wl_int, wl_str, wl_bl, wl_non, wl_n, ne_ints, eq_ints, Lv.up, Lv.min, mnL, dsp, List.map_cons, List.map_nil, eq_self, Option.map_some, D.v, List.length_map, callE_b B_laid, g_laid_MOST_COLUMNS, x_laid_TooMany, h1, decide_false]
theorem L_num (xs : List Int) (w x : Int) (m : Str) (h : 1 ≤ (xs.length : Int) ∧ (xs.length : Int) ≤ 8) (hw : ¬ (1 ≤ w ∧ w ≤ 16)) : run_laid [I xs, .int w, .str m, .int x] = .err "BadNumber" (.int w) := by
  refine runOf_at rfl ?_
  show outOf (execs Φ_laid _ _ b_laid [some (I xs, .n 0), some (.int w, .n 0), some (.str m, .n 0), some (.int x, .n 0), none, none, none, none, none]) = _
  unfold b_laid
  refine go_nx (by simp only [M.execs, M.exec, ev, evT, evs, evP, evI, evIF, evAnd, evOr, evAndV, evOrV, evTs, evF_q, evF'_int, evF'_bl, evF'_str, evF'_non, evF'_n, evF'_al, evF'_bo, evF'_err, evF'_stuck, evS_q, evS'_int, evS'_bl, evS'_str, evS'_n, evS'_al, frzV_nil, frzV_cons, frz1, evars, evarss, evarsI, gd_T, gdO_T, nl_int, nl_bl, nl_str, nl_non, nl_nd, isBo_int, isBo_bl, isBo_str, isBo_non, isBo_n, isBo_al, isBo_nd, vw1_int, vw1_bl, vw1_str, vw1_non, vw1_0, vw1_1, vw1_one, vw1_al, vw1_none, vw_nil, vw_cons, bind_o, bind_e, bind_s, toOut_o, toOut_e, pure_o, cl_int, cl_bl, cl_str, cl_non, cl_al, cl_n, setS, appF, sbF, isApp, neEs_c, callL_al, blt_len, blt_int, blt_abs, blt_max, blt_min, blt_list, blt_tuple, blt_sum, blt_any, blt_all, blt_str, blt_repr, b_len_lst, b_len_lk, b_len_tup, b_int, b_int_bl, b_abs, b_max, b_min, b_list, c_eq_int, c_ne_int, c_eq_str, c_ne_str, c_lt, c_le, c_gt, c_ge, k_lt, k_le, k_gt, k_ge, obl_o, o_add, o_sub, o_mul, o_fdiv, o_mod, o_pow, o_cat, o_rep, M.ix_lst, M.ix_lk, M.ix_tup, frz_n0, frz_bo, frz_al, frz_n1, x_nil, Vd, truD, D.asL, D.asQ, D.asT, opR, opS, List.set, List.map, List.getElem?_cons_zero, List.getElem?_cons_succ, Out.nx.injEq, exists_eq_left', exists_eq_left, Bool.false_eq_true, if_false, if_true, Lv.own, Bool.not_true, Bool.not_false, ite_true, ite_false, reduceIte, bdG, bdGs, callD1, cp, lf, flat_int, callL, List.any_cons, List.any_nil, Bool.or_false, Bool.false_or, Bool.true_or, nmin_00, nmin_01, nmin_10, nmin_11, wl_int, wl_str, wl_bl, wl_non, wl_n, ne_ints, eq_ints, Lv.up, Lv.min, mnL, dsp, List.map_cons, List.map_nil, eq_self, Option.map_some, D.v, List.length_map, callE_b B_laid, g_laid_MOST_COLUMNS, x_laid_TooMany, h.1, h.2, decide_true]; rfl) ?_
  exact go_out (o := .err "BadNumber" (.int w)) (by simp only [M.exec, ev, evT, evs, evP, evI, evIF, evAnd, evOr, evAndV, evOrV, evTs, evF_q, evF'_int, evF'_bl, evF'_str, evF'_non, evF'_n, evF'_al, evF'_bo, evF'_err, evF'_stuck, evS_q, evS'_int, evS'_bl, evS'_str, evS'_n, evS'_al, frzV_nil, frzV_cons, frz1, evars, evarss, evarsI, gd_T, gdO_T, nl_int, nl_bl, nl_str, nl_non, nl_nd, isBo_int, isBo_bl, isBo_str, isBo_non, isBo_n, isBo_al, isBo_nd, vw1_int, vw1_bl, vw1_str, vw1_non, vw1_0, vw1_1, vw1_one, vw1_al, vw1_none, vw_nil, vw_cons, bind_o, bind_e, bind_s, toOut_o, toOut_e, pure_o, cl_int, cl_bl, cl_str, cl_non, cl_al, cl_n, setS, appF, sbF, isApp, neEs_c, callL_al, blt_len, blt_int, blt_abs, blt_max, blt_min, blt_list, blt_tuple, blt_sum, blt_any, blt_all, blt_str, blt_repr, b_len_lst, b_len_lk, b_len_tup, b_int, b_int_bl, b_abs, b_max, b_min, b_list, c_eq_int, c_ne_int, c_eq_str, c_ne_str, c_lt, c_le, c_gt, c_ge, k_lt, k_le, k_gt, k_ge, obl_o, o_add, o_sub, o_mul, o_fdiv, o_mod, o_pow, o_cat, o_rep, M.ix_lst, M.ix_lk, M.ix_tup, frz_n0, frz_bo, frz_al, frz_n1, x_nil, Vd, truD, D.asL, D.asQ, D.asT, opR, opS, List.set, List.map, List.getElem?_cons_zero, List.getElem?_cons_succ, Out.nx.injEq, exists_eq_left', exists_eq_left, Bool.false_eq_true, if_false, if_true, Lv.own, Bool.not_true, Bool.not_false, ite_true, ite_false, reduceIte, bdG, bdGs, callD1, cp, lf, flat_int, callL, List.any_cons, List.any_nil, Bool.or_false, Bool.false_or, Bool.true_or, nmin_00, nmin_01, nmin_10, nmin_11, wl_int, wl_str, wl_bl, wl_non, wl_n, ne_ints, eq_ints, Lv.up, Lv.min, mnL, dsp, List.map_cons, List.map_nil, eq_self, Option.map_some, D.v, List.length_map, c_laid_check_wheels, S_check_wheels, if_neg hw]) (fun _ z => nomatch z) rfl
theorem L_man (xs : List Int) (w x : Int) (m : Str) (h : 1 ≤ (xs.length : Int) ∧ (xs.length : Int) ≤ 8) (hw : 1 ≤ w ∧ w ≤ 16) (hm : opC .notin (.str m) ways = .ok (.bl true)) : run_laid [I xs, .int w, .str m, .int x] = .err "BadManner" (.int 0) := by
  refine runOf_at rfl ?_
  show outOf (execs Φ_laid _ _ b_laid [some (I xs, .n 0), some (.int w, .n 0), some (.str m, .n 0), some (.int x, .n 0), none, none, none, none, none]) = _
  unfold b_laid
  unfold ways at hm
  refine go_nx (by simp only [M.execs, M.exec, ev, evT, evs, evP, evI, evIF, evAnd, evOr, evAndV, evOrV, evTs, evF_q, evF'_int, evF'_bl, evF'_str, evF'_non, evF'_n, evF'_al, evF'_bo, evF'_err, evF'_stuck, evS_q, evS'_int, evS'_bl, evS'_str, evS'_n, evS'_al, frzV_nil, frzV_cons, frz1, evars, evarss, evarsI, gd_T, gdO_T, nl_int, nl_bl, nl_str, nl_non, nl_nd, isBo_int, isBo_bl, isBo_str, isBo_non, isBo_n, isBo_al, isBo_nd, vw1_int, vw1_bl, vw1_str, vw1_non, vw1_0, vw1_1, vw1_one, vw1_al, vw1_none, vw_nil, vw_cons, bind_o, bind_e, bind_s, toOut_o, toOut_e, pure_o, cl_int, cl_bl, cl_str, cl_non, cl_al, cl_n, setS, appF, sbF, isApp, neEs_c, callL_al, blt_len, blt_int, blt_abs, blt_max, blt_min, blt_list, blt_tuple, blt_sum, blt_any, blt_all, blt_str, blt_repr, b_len_lst, b_len_lk, b_len_tup, b_int, b_int_bl, b_abs, b_max, b_min, b_list, c_eq_int, c_ne_int, c_eq_str, c_ne_str, c_lt, c_le, c_gt, c_ge, k_lt, k_le, k_gt, k_ge, obl_o, o_add, o_sub, o_mul, o_fdiv, o_mod, o_pow, o_cat, o_rep, M.ix_lst, M.ix_lk, M.ix_tup, frz_n0, frz_bo, frz_al, frz_n1, x_nil, Vd, truD, D.asL, D.asQ, D.asT, opR, opS, List.set, List.map, List.getElem?_cons_zero, List.getElem?_cons_succ, Out.nx.injEq, exists_eq_left', exists_eq_left, Bool.false_eq_true, if_false, if_true, Lv.own, Bool.not_true, Bool.not_false, ite_true, ite_false, reduceIte, bdG, bdGs, callD1, cp, lf, flat_int, callL, List.any_cons, List.any_nil, Bool.or_false, Bool.false_or, Bool.true_or, nmin_00, nmin_01, nmin_10, nmin_11, wl_int, wl_str, wl_bl, wl_non, wl_n, ne_ints, eq_ints, Lv.up, Lv.min, mnL, dsp, List.map_cons, List.map_nil, eq_self, Option.map_some, D.v, List.length_map, callE_b B_laid, g_laid_MOST_COLUMNS, x_laid_TooMany, h.1, h.2, decide_true]; rfl) ?_
  refine go_nx (by simp only [M.exec, ev, evT, evs, evP, evI, evIF, evAnd, evOr, evAndV, evOrV, evTs, evF_q, evF'_int, evF'_bl, evF'_str, evF'_non, evF'_n, evF'_al, evF'_bo, evF'_err, evF'_stuck, evS_q, evS'_int, evS'_bl, evS'_str, evS'_n, evS'_al, frzV_nil, frzV_cons, frz1, evars, evarss, evarsI, gd_T, gdO_T, nl_int, nl_bl, nl_str, nl_non, nl_nd, isBo_int, isBo_bl, isBo_str, isBo_non, isBo_n, isBo_al, isBo_nd, vw1_int, vw1_bl, vw1_str, vw1_non, vw1_0, vw1_1, vw1_one, vw1_al, vw1_none, vw_nil, vw_cons, bind_o, bind_e, bind_s, toOut_o, toOut_e, pure_o, cl_int, cl_bl, cl_str, cl_non, cl_al, cl_n, setS, appF, sbF, isApp, neEs_c, callL_al, blt_len, blt_int, blt_abs, blt_max, blt_min, blt_list, blt_tuple, blt_sum, blt_any, blt_all, blt_str, blt_repr, b_len_lst, b_len_lk, b_len_tup, b_int, b_int_bl, b_abs, b_max, b_min, b_list, c_eq_int, c_ne_int, c_eq_str, c_ne_str, c_lt, c_le, c_gt, c_ge, k_lt, k_le, k_gt, k_ge, obl_o, o_add, o_sub, o_mul, o_fdiv, o_mod, o_pow, o_cat, o_rep, M.ix_lst, M.ix_lk, M.ix_tup, frz_n0, frz_bo, frz_al, frz_n1, x_nil, Vd, truD, D.asL, D.asQ, D.asT, opR, opS, List.set, List.map, List.getElem?_cons_zero, List.getElem?_cons_succ, Out.nx.injEq, exists_eq_left', exists_eq_left, Bool.false_eq_true, if_false, if_true, Lv.own, Bool.not_true, Bool.not_false, ite_true, ite_false, reduceIte, bdG, bdGs, callD1, cp, lf, flat_int, callL, List.any_cons, List.any_nil, Bool.or_false, Bool.false_or, Bool.true_or, nmin_00, nmin_01, nmin_10, nmin_11, wl_int, wl_str, wl_bl, wl_non, wl_n, ne_ints, eq_ints, Lv.up, Lv.min, mnL, dsp, List.map_cons, List.map_nil, eq_self, Option.map_some, D.v, List.length_map, c_laid_check_wheels, S_check_wheels, if_pos hw]; rfl) ?_
  exact go_out (o := .err "BadManner" (.int 0)) (by simp only [M.execs, M.exec, ev, evT, evs, evP, evI, evIF, evAnd, evOr, evAndV, evOrV, evTs, evF_q, evF'_int, evF'_bl, evF'_str, evF'_non, evF'_n, evF'_al, evF'_bo, evF'_err, evF'_stuck, evS_q, evS'_int, evS'_bl, evS'_str, evS'_n, evS'_al, frzV_nil, frzV_cons, frz1, evars, evarss, evarsI, gd_T, gdO_T, nl_int, nl_bl, nl_str, nl_non, nl_nd, isBo_int, isBo_bl, isBo_str, isBo_non, isBo_n, isBo_al, isBo_nd, vw1_int, vw1_bl, vw1_str, vw1_non, vw1_0, vw1_1, vw1_one, vw1_al, vw1_none, vw_nil, vw_cons, bind_o, bind_e, bind_s, toOut_o, toOut_e, pure_o, cl_int, cl_bl, cl_str, cl_non, cl_al, cl_n, setS, appF, sbF, isApp, neEs_c, callL_al, blt_len, blt_int, blt_abs, blt_max, blt_min, blt_list, blt_tuple, blt_sum, blt_any, blt_all, blt_str, blt_repr, b_len_lst, b_len_lk, b_len_tup, b_int, b_int_bl, b_abs, b_max, b_min, b_list, c_eq_int, c_ne_int, c_eq_str, c_ne_str, c_lt, c_le, c_gt, c_ge, k_lt, k_le, k_gt, k_ge, obl_o, o_add, o_sub, o_mul, o_fdiv, o_mod, o_pow, o_cat, o_rep, M.ix_lst, M.ix_lk, M.ix_tup, frz_n0, frz_bo, frz_al, frz_n1, x_nil, Vd, truD, D.asL, D.asQ, D.asT, opR, opS, List.set, List.map, List.getElem?_cons_zero, List.getElem?_cons_succ, Out.nx.injEq, exists_eq_left', exists_eq_left, Bool.false_eq_true, if_false, if_true, Lv.own, Bool.not_true, Bool.not_false, ite_true, ite_false, reduceIte, bdG, bdGs, callD1, cp, lf, flat_int, callL, List.any_cons, List.any_nil, Bool.or_false, Bool.false_or, Bool.true_or, nmin_00, nmin_01, nmin_10, nmin_11, wl_int, wl_str, wl_bl, wl_non, wl_n, ne_ints, eq_ints, Lv.up, Lv.min, mnL, dsp, List.map_cons, List.map_nil, eq_self, Option.map_some, D.v, List.length_map, g_laid_WAYS, x_laid_BadManner, hm]) (fun _ z => nomatch z) rfl
theorem L_ok (xs : List Int) (w x : Int) (m : Str) (hv : Bool) (h : 1 ≤ (xs.length : Int) ∧ (xs.length : Int) ≤ 8) (hs : Sm xs) (hw : 1 ≤ w ∧ w ≤ 16) (hx : -(2 ^ 20) < x ∧ x < 2 ^ 20) (hm : opC .notin (.str m) ways = .ok (.bl false)) (hd : decide (m = ("halves" : Str)) = hv) :
    run_laid [I xs, .int w, .str m, .int x] = .ok (.nd .lst ((List.range xs.length).map fun k => I (ld xs w x hv k)), .n 1) := by
  refine runOf_at rfl ?_
  show outOf (execs Φ_laid _ _ b_laid [some (I xs, .n 0), some (.int w, .n 0), some (.str m, .n 0), some (.int x, .n 0), none, none, none, none, none]) = _
  unfold b_laid
  unfold ways at hm
  have hr : (-(2 ^ 62) ≤ (xs.length : Int) ∧ (xs.length : Int) < 2 ^ 62) = True := eq_true ⟨by omega, by omega⟩
  refine go_nx (by simp only [M.execs, M.exec, ev, evT, evs, evP, evI, evIF, evAnd, evOr, evAndV, evOrV, evTs, evF_q, evF'_int, evF'_bl, evF'_str, evF'_non, evF'_n, evF'_al, evF'_bo, evF'_err, evF'_stuck, evS_q, evS'_int, evS'_bl, evS'_str, evS'_n, evS'_al, frzV_nil, frzV_cons, frz1, evars, evarss, evarsI, gd_T, gdO_T, nl_int, nl_bl, nl_str, nl_non, nl_nd, isBo_int, isBo_bl, isBo_str, isBo_non, isBo_n, isBo_al, isBo_nd, vw1_int, vw1_bl, vw1_str, vw1_non, vw1_0, vw1_1, vw1_one, vw1_al, vw1_none, vw_nil, vw_cons, bind_o, bind_e, bind_s, toOut_o, toOut_e, pure_o, cl_int, cl_bl, cl_str, cl_non, cl_al, cl_n, setS, appF, sbF, isApp, neEs_c, callL_al, blt_len, blt_int, blt_abs, blt_max, blt_min, blt_list, blt_tuple, blt_sum, blt_any, blt_all, blt_str, blt_repr, b_len_lst, b_len_lk, b_len_tup, b_int, b_int_bl, b_abs, b_max, b_min, b_list, c_eq_int, c_ne_int, c_eq_str, c_ne_str, c_lt, c_le, c_gt, c_ge, k_lt, k_le, k_gt, k_ge, obl_o, o_add, o_sub, o_mul, o_fdiv, o_mod, o_pow, o_cat, o_rep, M.ix_lst, M.ix_lk, M.ix_tup, frz_n0, frz_bo, frz_al, frz_n1, x_nil, Vd, truD, D.asL, D.asQ, D.asT, opR, opS, List.set, List.map, List.getElem?_cons_zero, List.getElem?_cons_succ, Out.nx.injEq, exists_eq_left', exists_eq_left, Bool.false_eq_true, if_false, if_true, Lv.own, Bool.not_true, Bool.not_false, ite_true, ite_false, reduceIte, bdG, bdGs, callD1, cp, lf, flat_int, callL, List.any_cons, List.any_nil, Bool.or_false, Bool.false_or, Bool.true_or, nmin_00, nmin_01, nmin_10, nmin_11, wl_int, wl_str, wl_bl, wl_non, wl_n, ne_ints, eq_ints, Lv.up, Lv.min, mnL, dsp, List.map_cons, List.map_nil, eq_self, Option.map_some, D.v, List.length_map, callE_b B_laid, g_laid_MOST_COLUMNS, x_laid_TooMany, h.1, h.2, decide_true]; rfl) ?_
  refine go_nx (by simp only [M.exec, ev, evT, evs, evP, evI, evIF, evAnd, evOr, evAndV, evOrV, evTs, evF_q, evF'_int, evF'_bl, evF'_str, evF'_non, evF'_n, evF'_al, evF'_bo, evF'_err, evF'_stuck, evS_q, evS'_int, evS'_bl, evS'_str, evS'_n, evS'_al, frzV_nil, frzV_cons, frz1, evars, evarss, evarsI, gd_T, gdO_T, nl_int, nl_bl, nl_str, nl_non, nl_nd, isBo_int, isBo_bl, isBo_str, isBo_non, isBo_n, isBo_al, isBo_nd, vw1_int, vw1_bl, vw1_str, vw1_non, vw1_0, vw1_1, vw1_one, vw1_al, vw1_none, vw_nil, vw_cons, bind_o, bind_e, bind_s, toOut_o, toOut_e, pure_o, cl_int, cl_bl, cl_str, cl_non, cl_al, cl_n, setS, appF, sbF, isApp, neEs_c, callL_al, blt_len, blt_int, blt_abs, blt_max, blt_min, blt_list, blt_tuple, blt_sum, blt_any, blt_all, blt_str, blt_repr, b_len_lst, b_len_lk, b_len_tup, b_int, b_int_bl, b_abs, b_max, b_min, b_list, c_eq_int, c_ne_int, c_eq_str, c_ne_str, c_lt, c_le, c_gt, c_ge, k_lt, k_le, k_gt, k_ge, obl_o, o_add, o_sub, o_mul, o_fdiv, o_mod, o_pow, o_cat, o_rep, M.ix_lst, M.ix_lk, M.ix_tup, frz_n0, frz_bo, frz_al, frz_n1, x_nil, Vd, truD, D.asL, D.asQ, D.asT, opR, opS, List.set, List.map, List.getElem?_cons_zero, List.getElem?_cons_succ, Out.nx.injEq, exists_eq_left', exists_eq_left, Bool.false_eq_true, if_false, if_true, Lv.own, Bool.not_true, Bool.not_false, ite_true, ite_false, reduceIte, bdG, bdGs, callD1, cp, lf, flat_int, callL, List.any_cons, List.any_nil, Bool.or_false, Bool.false_or, Bool.true_or, nmin_00, nmin_01, nmin_10, nmin_11, wl_int, wl_str, wl_bl, wl_non, wl_n, ne_ints, eq_ints, Lv.up, Lv.min, mnL, dsp, List.map_cons, List.map_nil, eq_self, Option.map_some, D.v, List.length_map, c_laid_check_wheels, S_check_wheels, if_pos hw]; rfl) ?_
  refine go_nx (by simp only [M.execs, M.exec, ev, evT, evs, evP, evI, evIF, evAnd, evOr, evAndV, evOrV, evTs, evF_q, evF'_int, evF'_bl, evF'_str, evF'_non, evF'_n, evF'_al, evF'_bo, evF'_err, evF'_stuck, evS_q, evS'_int, evS'_bl, evS'_str, evS'_n, evS'_al, frzV_nil, frzV_cons, frz1, evars, evarss, evarsI, gd_T, gdO_T, nl_int, nl_bl, nl_str, nl_non, nl_nd, isBo_int, isBo_bl, isBo_str, isBo_non, isBo_n, isBo_al, isBo_nd, vw1_int, vw1_bl, vw1_str, vw1_non, vw1_0, vw1_1, vw1_one, vw1_al, vw1_none, vw_nil, vw_cons, bind_o, bind_e, bind_s, toOut_o, toOut_e, pure_o, cl_int, cl_bl, cl_str, cl_non, cl_al, cl_n, setS, appF, sbF, isApp, neEs_c, callL_al, blt_len, blt_int, blt_abs, blt_max, blt_min, blt_list, blt_tuple, blt_sum, blt_any, blt_all, blt_str, blt_repr, b_len_lst, b_len_lk, b_len_tup, b_int, b_int_bl, b_abs, b_max, b_min, b_list, c_eq_int, c_ne_int, c_eq_str, c_ne_str, c_lt, c_le, c_gt, c_ge, k_lt, k_le, k_gt, k_ge, obl_o, o_add, o_sub, o_mul, o_fdiv, o_mod, o_pow, o_cat, o_rep, M.ix_lst, M.ix_lk, M.ix_tup, frz_n0, frz_bo, frz_al, frz_n1, x_nil, Vd, truD, D.asL, D.asQ, D.asT, opR, opS, List.set, List.map, List.getElem?_cons_zero, List.getElem?_cons_succ, Out.nx.injEq, exists_eq_left', exists_eq_left, Bool.false_eq_true, if_false, if_true, Lv.own, Bool.not_true, Bool.not_false, ite_true, ite_false, reduceIte, bdG, bdGs, callD1, cp, lf, flat_int, callL, List.any_cons, List.any_nil, Bool.or_false, Bool.false_or, Bool.true_or, nmin_00, nmin_01, nmin_10, nmin_11, wl_int, wl_str, wl_bl, wl_non, wl_n, ne_ints, eq_ints, Lv.up, Lv.min, mnL, dsp, List.map_cons, List.map_nil, eq_self, Option.map_some, D.v, List.length_map, g_laid_WAYS, x_laid_BadManner, hm]; rfl) ?_
  refine go_nx (by simp only [M.exec, ev, evT, evs, evP, evI, evIF, evAnd, evOr, evAndV, evOrV, evTs, evF_q, evF'_int, evF'_bl, evF'_str, evF'_non, evF'_n, evF'_al, evF'_bo, evF'_err, evF'_stuck, evS_q, evS'_int, evS'_bl, evS'_str, evS'_n, evS'_al, frzV_nil, frzV_cons, frz1, evars, evarss, evarsI, gd_T, gdO_T, nl_int, nl_bl, nl_str, nl_non, nl_nd, isBo_int, isBo_bl, isBo_str, isBo_non, isBo_n, isBo_al, isBo_nd, vw1_int, vw1_bl, vw1_str, vw1_non, vw1_0, vw1_1, vw1_one, vw1_al, vw1_none, vw_nil, vw_cons, bind_o, bind_e, bind_s, toOut_o, toOut_e, pure_o, cl_int, cl_bl, cl_str, cl_non, cl_al, cl_n, setS, appF, sbF, isApp, neEs_c, callL_al, blt_len, blt_int, blt_abs, blt_max, blt_min, blt_list, blt_tuple, blt_sum, blt_any, blt_all, blt_str, blt_repr, b_len_lst, b_len_lk, b_len_tup, b_int, b_int_bl, b_abs, b_max, b_min, b_list, c_eq_int, c_ne_int, c_eq_str, c_ne_str, c_lt, c_le, c_gt, c_ge, k_lt, k_le, k_gt, k_ge, obl_o, o_add, o_sub, o_mul, o_fdiv, o_mod, o_pow, o_cat, o_rep, M.ix_lst, M.ix_lk, M.ix_tup, frz_n0, frz_bo, frz_al, frz_n1, x_nil, Vd, truD, D.asL, D.asQ, D.asT, opR, opS, List.set, List.map, List.getElem?_cons_zero, List.getElem?_cons_succ, Out.nx.injEq, exists_eq_left', exists_eq_left, Bool.false_eq_true, if_false, if_true, Lv.own, Bool.not_true, Bool.not_false, ite_true, ite_false, reduceIte, bdG, bdGs, callD1, cp, lf, flat_int, callL, List.any_cons, List.any_nil, Bool.or_false, Bool.false_or, Bool.true_or, nmin_00, nmin_01, nmin_10, nmin_11, wl_int, wl_str, wl_bl, wl_non, wl_n, ne_ints, eq_ints, Lv.up, Lv.min, mnL, dsp, List.map_cons, List.map_nil, eq_self, Option.map_some, D.v, List.length_map, h_laid_4, List.length_nil, Nat.zero_le]; rfl) ?_
  refine go_range (ρ0 := ?w) (n := xs.length) (φ := fun k => D.int (0 + (k : Nat))) (fun i ρ => ∃ u5 u6 u7, ρ = [some (I xs, .n 0), some (.int w, .n 0), some (.str m, .n 0), some (.int x, .n 0), some (.nd .lst ((List.range i).map fun k => I (ld xs w x hv k)), .n 1), u5, u6, u7, none]) ?e ?h0 ?s ?fin
  case e => simp only [M.exec, ev, evT, evs, evP, evI, evIF, evAnd, evOr, evAndV, evOrV, evTs, evF_q, evF'_int, evF'_bl, evF'_str, evF'_non, evF'_n, evF'_al, evF'_bo, evF'_err, evF'_stuck, evS_q, evS'_int, evS'_bl, evS'_str, evS'_n, evS'_al, frzV_nil, frzV_cons, frz1, evars, evarss, evarsI, gd_T, gdO_T, nl_int, nl_bl, nl_str, nl_non, nl_nd, isBo_int, isBo_bl, isBo_str, isBo_non, isBo_n, isBo_al, isBo_nd, vw1_int, vw1_bl, vw1_str, vw1_non, vw1_0, vw1_1, vw1_one, vw1_al, vw1_none, vw_nil, vw_cons, bind_o, bind_e, bind_s, toOut_o, toOut_e, pure_o, cl_int, cl_bl, cl_str, cl_non, cl_al, cl_n, setS, appF, sbF, isApp, neEs_c, callL_al, blt_len, blt_int, blt_abs, blt_max, blt_min, blt_list, blt_tuple, blt_sum, blt_any, blt_all, blt_str, blt_repr, b_len_lst, b_len_lk, b_len_tup, b_int, b_int_bl, b_abs, b_max, b_min, b_list, c_eq_int, c_ne_int, c_eq_str, c_ne_str, c_lt, c_le, c_gt, c_ge, k_lt, k_le, k_gt, k_ge, obl_o, o_add, o_sub, o_mul, o_fdiv, o_mod, o_pow, o_cat, o_rep, M.ix_lst, M.ix_lk, M.ix_tup, frz_n0, frz_bo, frz_al, frz_n1, x_nil, Vd, truD, D.asL, D.asQ, D.asT, opR, opS, List.set, List.map, List.getElem?_cons_zero, List.getElem?_cons_succ, Out.nx.injEq, exists_eq_left', exists_eq_left, Bool.false_eq_true, if_false, if_true, Lv.own, Bool.not_true, Bool.not_false, ite_true, ite_false, reduceIte, bdG, bdGs, callD1, cp, lf, flat_int, callL, List.any_cons, List.any_nil, Bool.or_false, Bool.false_or, Bool.true_or, nmin_00, nmin_01, nmin_10, nmin_11, wl_int, wl_str, wl_bl, wl_non, wl_n, ne_ints, eq_ints, Lv.up, Lv.min, mnL, dsp, List.map_cons, List.map_nil, eq_self, Option.map_some, D.v, List.length_map, callE_b B_laid, hr, Int.toNat_natCast]; rfl
  case h0 => exact ⟨_, _, _, rfl⟩
  case s =>
    rintro i ρ hi ⟨u5, u6, u7, rfl⟩
    refine ⟨_, rfl, ?_⟩
    have d2 : ∀ z : Int, (CDivN z 2 ∨ CDivW z 2) = True := fun z => eq_true (.inl ⟨by decide, by decide⟩)
    have hf : -(2 ^ 21) < f0 hv x i ∧ f0 hv x i < 2 ^ 21 := by
      unfold f0
      have : (0 + (i : Int)).fdiv 2 = (i : Int) / 2 := by rw [Int.zero_add, Int.fdiv_eq_ediv_of_nonneg _ (by decide)]
      rw [this]
      split <;> omega
    refine xs_cons (ρ1 := [some (I xs, .n 0), some (.int w, .n 0), some (.str m, .n 0), some (.int x, .n 0), some (.nd .lst ((List.range i).map fun k => I (ld xs w x hv k)), .n 1), some (.int (0 + (i : Nat)), .n 0), some (.int (f0 hv x i), .n 0), u7, none]) ?_ ?_
    · unfold f0
      cases hv
      · simp only [M.exec, ev, evT, evs, evP, evI, evIF, evAnd, evOr, evAndV, evOrV, evTs, evF_q, evF'_int, evF'_bl, evF'_str, evF'_non, evF'_n, evF'_al, evF'_bo, evF'_err, evF'_stuck, evS_q, evS'_int, evS'_bl, evS'_str, evS'_n, evS'_al, frzV_nil, frzV_cons, frz1, evars, evarss, evarsI, gd_T, gdO_T, nl_int, nl_bl, nl_str, nl_non, nl_nd, isBo_int, isBo_bl, isBo_str, isBo_non, isBo_n, isBo_al, isBo_nd, vw1_int, vw1_bl, vw1_str, vw1_non, vw1_0, vw1_1, vw1_one, vw1_al, vw1_none, vw_nil, vw_cons, bind_o, bind_e, bind_s, toOut_o, toOut_e, pure_o, cl_int, cl_bl, cl_str, cl_non, cl_al, cl_n, setS, appF, sbF, isApp, neEs_c, callL_al, blt_len, blt_int, blt_abs, blt_max, blt_min, blt_list, blt_tuple, blt_sum, blt_any, blt_all, blt_str, blt_repr, b_len_lst, b_len_lk, b_len_tup, b_int, b_int_bl, b_abs, b_max, b_min, b_list, c_eq_int, c_ne_int, c_eq_str, c_ne_str, c_lt, c_le, c_gt, c_ge, k_lt, k_le, k_gt, k_ge, obl_o, o_add, o_sub, o_mul, o_fdiv, o_mod, o_pow, o_cat, o_rep, M.ix_lst, M.ix_lk, M.ix_tup, frz_n0, frz_bo, frz_al, frz_n1, x_nil, Vd, truD, D.asL, D.asQ, D.asT, opR, opS, List.set, List.map, List.getElem?_cons_zero, List.getElem?_cons_succ, Out.nx.injEq, exists_eq_left', exists_eq_left, Bool.false_eq_true, if_false, if_true, Lv.own, Bool.not_true, Bool.not_false, ite_true, ite_false, reduceIte, bdG, bdGs, callD1, cp, lf, flat_int, callL, List.any_cons, List.any_nil, Bool.or_false, Bool.false_or, Bool.true_or, nmin_00, nmin_01, nmin_10, nmin_11, wl_int, wl_str, wl_bl, wl_non, wl_n, ne_ints, eq_ints, Lv.up, Lv.min, mnL, dsp, List.map_cons, List.map_nil, eq_self, Option.map_some, D.v, List.length_map, hd, d2, h_laid_6]
      · simp only [M.exec, ev, evT, evs, evP, evI, evIF, evAnd, evOr, evAndV, evOrV, evTs, evF_q, evF'_int, evF'_bl, evF'_str, evF'_non, evF'_n, evF'_al, evF'_bo, evF'_err, evF'_stuck, evS_q, evS'_int, evS'_bl, evS'_str, evS'_n, evS'_al, frzV_nil, frzV_cons, frz1, evars, evarss, evarsI, gd_T, gdO_T, nl_int, nl_bl, nl_str, nl_non, nl_nd, isBo_int, isBo_bl, isBo_str, isBo_non, isBo_n, isBo_al, isBo_nd, vw1_int, vw1_bl, vw1_str, vw1_non, vw1_0, vw1_1, vw1_one, vw1_al, vw1_none, vw_nil, vw_cons, bind_o, bind_e, bind_s, toOut_o, toOut_e, pure_o, cl_int, cl_bl, cl_str, cl_non, cl_al, cl_n, setS, appF, sbF, isApp, neEs_c, callL_al, blt_len, blt_int, blt_abs, blt_max, blt_min, blt_list, blt_tuple, blt_sum, blt_any, blt_all, blt_str, blt_repr, b_len_lst, b_len_lk, b_len_tup, b_int, b_int_bl, b_abs, b_max, b_min, b_list, c_eq_int, c_ne_int, c_eq_str, c_ne_str, c_lt, c_le, c_gt, c_ge, k_lt, k_le, k_gt, k_ge, obl_o, o_add, o_sub, o_mul, o_fdiv, o_mod, o_pow, o_cat, o_rep, M.ix_lst, M.ix_lk, M.ix_tup, frz_n0, frz_bo, frz_al, frz_n1, x_nil, Vd, truD, D.asL, D.asQ, D.asT, opR, opS, List.set, List.map, List.getElem?_cons_zero, List.getElem?_cons_succ, Out.nx.injEq, exists_eq_left', exists_eq_left, Bool.false_eq_true, if_false, if_true, Lv.own, Bool.not_true, Bool.not_false, ite_true, ite_false, reduceIte, bdG, bdGs, callD1, cp, lf, flat_int, callL, List.any_cons, List.any_nil, Bool.or_false, Bool.false_or, Bool.true_or, nmin_00, nmin_01, nmin_10, nmin_11, wl_int, wl_str, wl_bl, wl_non, wl_n, ne_ints, eq_ints, Lv.up, Lv.min, mnL, dsp, List.map_cons, List.map_nil, eq_self, Option.map_some, D.v, List.length_map, hd, d2, h_laid_6]
    · have hr2 : (-(2 ^ 62) ≤ (0 + (i : Int) + 1) ∧ (0 + (i : Int) + 1) < 2 ^ 62) = True := eq_true ⟨by omega, by omega⟩
      have ht : (0 + (i : Int) + 1).toNat = i + 1 := by omega
      have hdig : ld xs w x hv i = dig 10 (dk (rowV xs (f0 hv x i) i) i 0) w.toNat := rfl
      refine xs_cons (ρ1 := [some (I xs, .n 0), some (.int w, .n 0), some (.str m, .n 0), some (.int x, .n 0), some (.nd .lst ((List.range i).map fun k => I (ld xs w x hv k)), .n 1), some (.int (0 + (i : Nat)), .n 0), some (.int (f0 hv x i), .n 0), some (I (rowV xs (f0 hv x i) i), .n 0), none]) ?row ?_
      case row =>
        refine (x_asg (ev_lcS (l := .n 0) (fun j : Nat => D.int (0 + (j : Nat))) (fun j => .int (V xs (f0 hv x i + (0 + (j : Nat))) 0)) (List.range (i + 1)) ?he rfl ?h (fun _ _ => rfl) ?hz) isBo_al).trans ?hq
        case he => simp only [M.exec, ev, evT, evs, evP, evI, evIF, evAnd, evOr, evAndV, evOrV, evTs, evF_q, evF'_int, evF'_bl, evF'_str, evF'_non, evF'_n, evF'_al, evF'_bo, evF'_err, evF'_stuck, evS_q, evS'_int, evS'_bl, evS'_str, evS'_n, evS'_al, frzV_nil, frzV_cons, frz1, evars, evarss, evarsI, gd_T, gdO_T, nl_int, nl_bl, nl_str, nl_non, nl_nd, isBo_int, isBo_bl, isBo_str, isBo_non, isBo_n, isBo_al, isBo_nd, vw1_int, vw1_bl, vw1_str, vw1_non, vw1_0, vw1_1, vw1_one, vw1_al, vw1_none, vw_nil, vw_cons, bind_o, bind_e, bind_s, toOut_o, toOut_e, pure_o, cl_int, cl_bl, cl_str, cl_non, cl_al, cl_n, setS, appF, sbF, isApp, neEs_c, callL_al, blt_len, blt_int, blt_abs, blt_max, blt_min, blt_list, blt_tuple, blt_sum, blt_any, blt_all, blt_str, blt_repr, b_len_lst, b_len_lk, b_len_tup, b_int, b_int_bl, b_abs, b_max, b_min, b_list, c_eq_int, c_ne_int, c_eq_str, c_ne_str, c_lt, c_le, c_gt, c_ge, k_lt, k_le, k_gt, k_ge, obl_o, o_add, o_sub, o_mul, o_fdiv, o_mod, o_pow, o_cat, o_rep, M.ix_lst, M.ix_lk, M.ix_tup, frz_n0, frz_bo, frz_al, frz_n1, x_nil, Vd, truD, D.asL, D.asQ, D.asT, opR, opS, List.set, List.map, List.getElem?_cons_zero, List.getElem?_cons_succ, Out.nx.injEq, exists_eq_left', exists_eq_left, Bool.false_eq_true, if_false, if_true, Lv.own, Bool.not_true, Bool.not_false, ite_true, ite_false, reduceIte, bdG, bdGs, callD1, cp, lf, flat_int, callL, List.any_cons, List.any_nil, Bool.or_false, Bool.false_or, Bool.true_or, nmin_00, nmin_01, nmin_10, nmin_11, wl_int, wl_str, wl_bl, wl_non, wl_n, ne_ints, eq_ints, Lv.up, Lv.min, mnL, dsp, List.map_cons, List.map_nil, eq_self, Option.map_some, D.v, List.length_map, hr2, ht]
        case h =>
          intro j hj
          have hj := List.mem_range.mp hj
          refine ⟨_, rfl, ?_⟩
          have sv := S_value_at xs (f0 hv x i + (0 + (j : Nat))) hs ⟨by omega, by omega⟩
          simp only [M.exec, ev, evT, evs, evP, evI, evIF, evAnd, evOr, evAndV, evOrV, evTs, evF_q, evF'_int, evF'_bl, evF'_str, evF'_non, evF'_n, evF'_al, evF'_bo, evF'_err, evF'_stuck, evS_q, evS'_int, evS'_bl, evS'_str, evS'_n, evS'_al, frzV_nil, frzV_cons, frz1, evars, evarss, evarsI, gd_T, gdO_T, nl_int, nl_bl, nl_str, nl_non, nl_nd, isBo_int, isBo_bl, isBo_str, isBo_non, isBo_n, isBo_al, isBo_nd, vw1_int, vw1_bl, vw1_str, vw1_non, vw1_0, vw1_1, vw1_one, vw1_al, vw1_none, vw_nil, vw_cons, bind_o, bind_e, bind_s, toOut_o, toOut_e, pure_o, cl_int, cl_bl, cl_str, cl_non, cl_al, cl_n, setS, appF, sbF, isApp, neEs_c, callL_al, blt_len, blt_int, blt_abs, blt_max, blt_min, blt_list, blt_tuple, blt_sum, blt_any, blt_all, blt_str, blt_repr, b_len_lst, b_len_lk, b_len_tup, b_int, b_int_bl, b_abs, b_max, b_min, b_list, c_eq_int, c_ne_int, c_eq_str, c_ne_str, c_lt, c_le, c_gt, c_ge, k_lt, k_le, k_gt, k_ge, obl_o, o_add, o_sub, o_mul, o_fdiv, o_mod, o_pow, o_cat, o_rep, M.ix_lst, M.ix_lk, M.ix_tup, frz_n0, frz_bo, frz_al, frz_n1, x_nil, Vd, truD, D.asL, D.asQ, D.asT, opR, opS, List.set, List.map, List.getElem?_cons_zero, List.getElem?_cons_succ, Out.nx.injEq, exists_eq_left', exists_eq_left, Bool.false_eq_true, if_false, if_true, Lv.own, Bool.not_true, Bool.not_false, ite_true, ite_false, reduceIte, bdG, bdGs, callD1, cp, lf, flat_int, callL, List.any_cons, List.any_nil, Bool.or_false, Bool.false_or, Bool.true_or, nmin_00, nmin_01, nmin_10, nmin_11, wl_int, wl_str, wl_bl, wl_non, wl_n, ne_ints, eq_ints, Lv.up, Lv.min, mnL, dsp, List.map_cons, List.map_nil, eq_self, Option.map_some, D.v, List.length_map, wipeE, c_laid_value_at, sv]
        case hz => rw [List.length_range]; exact Nat.le_of_lt (sz_lt (by omega))
        case hq =>
          have e2 : I (rowV xs (f0 hv x i) i) = .nd .lst ((List.range (i + 1)).map fun j => D.int (V xs (f0 hv x i + (0 + (j : Nat))) 0)) := by rw [I, rowV, List.map_map]; rfl
          rw [e2]
          rfl
      have s1 := S_differences (rowV xs (f0 hv x i) i) (0 + (i : Nat)) (by omega) (by omega) (by rw [rowV_len]; omega)
      have hk : (0 + (i : Int)).toNat = i := by omega
      rw [hk] at s1
      have a0 := at0 (rowV xs (f0 hv x i) i) i (by rw [rowV_len]; omega)
      have s2 := S_showing 10 w (dk (rowV xs (f0 hv x i) i) i 0) (by decide) hw
      rw [← hdig] at s2
      have hl : ((List.range i).length < sizeLine) = True := eq_true (sz_lt (by rw [List.length_range]; omega))
      refine xs_cons (by simp only [M.exec, ev, evT, evs, evP, evI, evIF, evAnd, evOr, evAndV, evOrV, evTs, evF_q, evF'_int, evF'_bl, evF'_str, evF'_non, evF'_n, evF'_al, evF'_bo, evF'_err, evF'_stuck, evS_q, evS'_int, evS'_bl, evS'_str, evS'_n, evS'_al, frzV_nil, frzV_cons, frz1, evars, evarss, evarsI, gd_T, gdO_T, nl_int, nl_bl, nl_str, nl_non, nl_nd, isBo_int, isBo_bl, isBo_str, isBo_non, isBo_n, isBo_al, isBo_nd, vw1_int, vw1_bl, vw1_str, vw1_non, vw1_0, vw1_1, vw1_one, vw1_al, vw1_none, vw_nil, vw_cons, bind_o, bind_e, bind_s, toOut_o, toOut_e, pure_o, cl_int, cl_bl, cl_str, cl_non, cl_al, cl_n, setS, appF, sbF, isApp, neEs_c, callL_al, blt_len, blt_int, blt_abs, blt_max, blt_min, blt_list, blt_tuple, blt_sum, blt_any, blt_all, blt_str, blt_repr, b_len_lst, b_len_lk, b_len_tup, b_int, b_int_bl, b_abs, b_max, b_min, b_list, c_eq_int, c_ne_int, c_eq_str, c_ne_str, c_lt, c_le, c_gt, c_ge, k_lt, k_le, k_gt, k_ge, obl_o, o_add, o_sub, o_mul, o_fdiv, o_mod, o_pow, o_cat, o_rep, M.ix_lst, M.ix_lk, M.ix_tup, frz_n0, frz_bo, frz_al, frz_n1, x_nil, Vd, truD, D.asL, D.asQ, D.asT, opR, opS, List.set, List.map, List.getElem?_cons_zero, List.getElem?_cons_succ, Out.nx.injEq, exists_eq_left', exists_eq_left, Bool.false_eq_true, if_false, if_true, Lv.own, Bool.not_true, Bool.not_false, ite_true, ite_false, reduceIte, bdG, bdGs, callD1, cp, lf, flat_int, callL, List.any_cons, List.any_nil, Bool.or_false, Bool.false_or, Bool.true_or, nmin_00, nmin_01, nmin_10, nmin_11, wl_int, wl_str, wl_bl, wl_non, wl_n, ne_ints, eq_ints, Lv.up, Lv.min, mnL, dsp, List.map_cons, List.map_nil, eq_self, Option.map_some, D.v, List.length_map, c_laid_differences, c_laid_showing, g_laid_TEN, s1, a0, s2, hl]; rfl) (xs_nil ⟨some (.int (0 + (i : Nat)), .n 0), some (.int (f0 hv x i), .n 0), some (I (rowV xs (f0 hv x i) i), .n 0), ?_⟩)
      rw [List.range_succ, List.map_append]
      rfl
  case fin =>
    rintro ρ ⟨u5, u6, u7, rfl⟩
    simp only [M.execs, M.exec, ev, evT, evs, evP, evI, evIF, evAnd, evOr, evAndV, evOrV, evTs, evF_q, evF'_int, evF'_bl, evF'_str, evF'_non, evF'_n, evF'_al, evF'_bo, evF'_err, evF'_stuck, evS_q, evS'_int, evS'_bl, evS'_str, evS'_n, evS'_al, frzV_nil, frzV_cons, frz1, evars, evarss, evarsI, gd_T, gdO_T, nl_int, nl_bl, nl_str, nl_non, nl_nd, isBo_int, isBo_bl, isBo_str, isBo_non, isBo_n, isBo_al, isBo_nd, vw1_int, vw1_bl, vw1_str, vw1_non, vw1_0, vw1_1, vw1_one, vw1_al, vw1_none, vw_nil, vw_cons, bind_o, bind_e, bind_s, toOut_o, toOut_e, pure_o, cl_int, cl_bl, cl_str, cl_non, cl_al, cl_n, setS, appF, sbF, isApp, neEs_c, callL_al, blt_len, blt_int, blt_abs, blt_max, blt_min, blt_list, blt_tuple, blt_sum, blt_any, blt_all, blt_str, blt_repr, b_len_lst, b_len_lk, b_len_tup, b_int, b_int_bl, b_abs, b_max, b_min, b_list, c_eq_int, c_ne_int, c_eq_str, c_ne_str, c_lt, c_le, c_gt, c_ge, k_lt, k_le, k_gt, k_ge, obl_o, o_add, o_sub, o_mul, o_fdiv, o_mod, o_pow, o_cat, o_rep, M.ix_lst, M.ix_lk, M.ix_tup, frz_n0, frz_bo, frz_al, frz_n1, x_nil, Vd, truD, D.asL, D.asQ, D.asT, opR, opS, List.set, List.map, List.getElem?_cons_zero, List.getElem?_cons_succ, Out.nx.injEq, exists_eq_left', exists_eq_left, Bool.false_eq_true, if_false, if_true, Lv.own, Bool.not_true, Bool.not_false, ite_true, ite_false, reduceIte, bdG, bdGs, callD1, cp, lf, flat_int, callL, List.any_cons, List.any_nil, Bool.or_false, Bool.false_or, Bool.true_or, nmin_00, nmin_01, nmin_10, nmin_11, wl_int, wl_str, wl_bl, wl_non, wl_n, ne_ints, eq_ints, Lv.up, Lv.min, mnL, dsp, List.map_cons, List.map_nil, eq_self, Option.map_some, D.v, List.length_map, outOf]
end K07

namespace K07
open PySem L2 M
def errV : R DL → R DL
  | .ok _ => .ok (.non, .al)
  | .err C x => if exs.contains C = true then (match dV x with
    | some d => .ok (.nd .tup [.str (tellX sb t_law_error.cs C), d], .al)
    | none => .stuck) else .stuck
  | .stuck => .stuck
theorem S_error (xs : List Int) (w : Int) (m : Str) : run_law_error [I xs, .int w, .str m] = errV (run_laid [I xs, .int w, .str m, .int 0]) := by
  unfold run_law_error runTry
  refine (if_pos rfl).trans ?_
  show outOf (outTry exs sb t_law_error.cs (fun ρ => execs Φ_law_error h_law_error 0 t_law_error.b2 ρ) (execs Φ_law_error h_law_error 0 (.cons (.ex (.call "laid" (.cons (.var 0) (.cons (.var 1) (.cons (.var 2) (.cons (.cst (.int 0)) .nil)))))) .nil) [some (I xs, .n 0), some (.int w, .n 0), some (.str m, .n 0), none, none, none, none])) = _
  cases h : run_laid [I xs, .int w, .str m, .int 0] with
  | ok x =>
    simp only [M.execs, M.exec, ev, evT, evs, evP, evI, evIF, evAnd, evOr, evAndV, evOrV, evTs, evF_q, evF'_int, evF'_bl, evF'_str, evF'_non, evF'_n, evF'_al, evF'_bo, evF'_err, evF'_stuck, evS_q, evS'_int, evS'_bl, evS'_str, evS'_n, evS'_al, frzV_nil, frzV_cons, frz1, evars, evarss, evarsI, gd_T, gdO_T, nl_int, nl_bl, nl_str, nl_non, nl_nd, isBo_int, isBo_bl, isBo_str, isBo_non, isBo_n, isBo_al, isBo_nd, vw1_int, vw1_bl, vw1_str, vw1_non, vw1_0, vw1_1, vw1_one, vw1_al, vw1_none, vw_nil, vw_cons, bind_o, bind_e, bind_s, toOut_o, toOut_e, pure_o, cl_int, cl_bl, cl_str, cl_non, cl_al, cl_n, setS, appF, sbF, isApp, neEs_c, callL_al, blt_len, blt_int, blt_abs, blt_max, blt_min, blt_list, blt_tuple, blt_sum, blt_any, blt_all, blt_str, blt_repr, b_len_lst, b_len_lk, b_len_tup, b_int, b_int_bl, b_abs, b_max, b_min, b_list, c_eq_int, c_ne_int, c_eq_str, c_ne_str, c_lt, c_le, c_gt, c_ge, k_lt, k_le, k_gt, k_ge, obl_o, o_add, o_sub, o_mul, o_fdiv, o_mod, o_pow, o_cat, o_rep, M.ix_lst, M.ix_lk, M.ix_tup, frz_n0, frz_bo, frz_al, frz_n1, x_nil, Vd, truD, D.asL, D.asQ, D.asT, opR, opS, List.set, List.map, List.getElem?_cons_zero, List.getElem?_cons_succ, Out.nx.injEq, exists_eq_left', exists_eq_left, Bool.false_eq_true, if_false, if_true, Lv.own, Bool.not_true, Bool.not_false, ite_true, ite_false, reduceIte, bdG, bdGs, callD1, cp, lf, flat_int, callL, List.any_cons, List.any_nil, Bool.or_false, Bool.false_or, Bool.true_or, nmin_00, nmin_01, nmin_10, nmin_11, wl_int, wl_str, wl_bl, wl_non, wl_n, ne_ints, eq_ints, Lv.up, Lv.min, mnL, dsp, List.map_cons, List.map_nil, eq_self, Option.map_some, D.v, List.length_map, c_law_error_laid, h, outTry]
    show outOf (execs Φ_law_error h_law_error 0 (.cons (.ret (.cst .non)) .nil) _) = _
    simp only [M.execs, M.exec, ev, evT, evs, evP, evI, evIF, evAnd, evOr, evAndV, evOrV, evTs, evF_q, evF'_int, evF'_bl, evF'_str, evF'_non, evF'_n, evF'_al, evF'_bo, evF'_err, evF'_stuck, evS_q, evS'_int, evS'_bl, evS'_str, evS'_n, evS'_al, frzV_nil, frzV_cons, frz1, evars, evarss, evarsI, gd_T, gdO_T, nl_int, nl_bl, nl_str, nl_non, nl_nd, isBo_int, isBo_bl, isBo_str, isBo_non, isBo_n, isBo_al, isBo_nd, vw1_int, vw1_bl, vw1_str, vw1_non, vw1_0, vw1_1, vw1_one, vw1_al, vw1_none, vw_nil, vw_cons, bind_o, bind_e, bind_s, toOut_o, toOut_e, pure_o, cl_int, cl_bl, cl_str, cl_non, cl_al, cl_n, setS, appF, sbF, isApp, neEs_c, callL_al, blt_len, blt_int, blt_abs, blt_max, blt_min, blt_list, blt_tuple, blt_sum, blt_any, blt_all, blt_str, blt_repr, b_len_lst, b_len_lk, b_len_tup, b_int, b_int_bl, b_abs, b_max, b_min, b_list, c_eq_int, c_ne_int, c_eq_str, c_ne_str, c_lt, c_le, c_gt, c_ge, k_lt, k_le, k_gt, k_ge, obl_o, o_add, o_sub, o_mul, o_fdiv, o_mod, o_pow, o_cat, o_rep, M.ix_lst, M.ix_lk, M.ix_tup, frz_n0, frz_bo, frz_al, frz_n1, x_nil, Vd, truD, D.asL, D.asQ, D.asT, opR, opS, List.set, List.map, List.getElem?_cons_zero, List.getElem?_cons_succ, Out.nx.injEq, exists_eq_left', exists_eq_left, Bool.false_eq_true, if_false, if_true, Lv.own, Bool.not_true, Bool.not_false, ite_true, ite_false, reduceIte, bdG, bdGs, callD1, cp, lf, flat_int, callL, List.any_cons, List.any_nil, Bool.or_false, Bool.false_or, Bool.true_or, nmin_00, nmin_01, nmin_10, nmin_11, wl_int, wl_str, wl_bl, wl_non, wl_n, ne_ints, eq_ints, Lv.up, Lv.min, mnL, dsp, List.map_cons, List.map_nil, eq_self, Option.map_some, D.v, List.length_map, outOf, errV]
  | err C x =>
    simp only [M.execs, M.exec, ev, evT, evs, evP, evI, evIF, evAnd, evOr, evAndV, evOrV, evTs, evF_q, evF'_int, evF'_bl, evF'_str, evF'_non, evF'_n, evF'_al, evF'_bo, evF'_err, evF'_stuck, evS_q, evS'_int, evS'_bl, evS'_str, evS'_n, evS'_al, frzV_nil, frzV_cons, frz1, evars, evarss, evarsI, gd_T, gdO_T, nl_int, nl_bl, nl_str, nl_non, nl_nd, isBo_int, isBo_bl, isBo_str, isBo_non, isBo_n, isBo_al, isBo_nd, vw1_int, vw1_bl, vw1_str, vw1_non, vw1_0, vw1_1, vw1_one, vw1_al, vw1_none, vw_nil, vw_cons, bind_o, bind_e, bind_s, toOut_o, toOut_e, pure_o, cl_int, cl_bl, cl_str, cl_non, cl_al, cl_n, setS, appF, sbF, isApp, neEs_c, callL_al, blt_len, blt_int, blt_abs, blt_max, blt_min, blt_list, blt_tuple, blt_sum, blt_any, blt_all, blt_str, blt_repr, b_len_lst, b_len_lk, b_len_tup, b_int, b_int_bl, b_abs, b_max, b_min, b_list, c_eq_int, c_ne_int, c_eq_str, c_ne_str, c_lt, c_le, c_gt, c_ge, k_lt, k_le, k_gt, k_ge, obl_o, o_add, o_sub, o_mul, o_fdiv, o_mod, o_pow, o_cat, o_rep, M.ix_lst, M.ix_lk, M.ix_tup, frz_n0, frz_bo, frz_al, frz_n1, x_nil, Vd, truD, D.asL, D.asQ, D.asT, opR, opS, List.set, List.map, List.getElem?_cons_zero, List.getElem?_cons_succ, Out.nx.injEq, exists_eq_left', exists_eq_left, Bool.false_eq_true, if_false, if_true, Lv.own, Bool.not_true, Bool.not_false, ite_true, ite_false, reduceIte, bdG, bdGs, callD1, cp, lf, flat_int, callL, List.any_cons, List.any_nil, Bool.or_false, Bool.false_or, Bool.true_or, nmin_00, nmin_01, nmin_10, nmin_11, wl_int, wl_str, wl_bl, wl_non, wl_n, ne_ints, eq_ints, Lv.up, Lv.min, mnL, dsp, List.map_cons, List.map_nil, eq_self, Option.map_some, D.v, List.length_map, c_law_error_laid, h]
    unfold errV outTry
    by_cases c : exs.contains C = true
    · simp only [c, if_true]
      cases dV x <;> rfl
    · simp only [c, if_false, outOf]
      simp
  | stuck =>
    simp only [M.execs, M.exec, ev, evT, evs, evP, evI, evIF, evAnd, evOr, evAndV, evOrV, evTs, evF_q, evF'_int, evF'_bl, evF'_str, evF'_non, evF'_n, evF'_al, evF'_bo, evF'_err, evF'_stuck, evS_q, evS'_int, evS'_bl, evS'_str, evS'_n, evS'_al, frzV_nil, frzV_cons, frz1, evars, evarss, evarsI, gd_T, gdO_T, nl_int, nl_bl, nl_str, nl_non, nl_nd, isBo_int, isBo_bl, isBo_str, isBo_non, isBo_n, isBo_al, isBo_nd, vw1_int, vw1_bl, vw1_str, vw1_non, vw1_0, vw1_1, vw1_one, vw1_al, vw1_none, vw_nil, vw_cons, bind_o, bind_e, bind_s, toOut_o, toOut_e, pure_o, cl_int, cl_bl, cl_str, cl_non, cl_al, cl_n, setS, appF, sbF, isApp, neEs_c, callL_al, blt_len, blt_int, blt_abs, blt_max, blt_min, blt_list, blt_tuple, blt_sum, blt_any, blt_all, blt_str, blt_repr, b_len_lst, b_len_lk, b_len_tup, b_int, b_int_bl, b_abs, b_max, b_min, b_list, c_eq_int, c_ne_int, c_eq_str, c_ne_str, c_lt, c_le, c_gt, c_ge, k_lt, k_le, k_gt, k_ge, obl_o, o_add, o_sub, o_mul, o_fdiv, o_mod, o_pow, o_cat, o_rep, M.ix_lst, M.ix_lk, M.ix_tup, frz_n0, frz_bo, frz_al, frz_n1, x_nil, Vd, truD, D.asL, D.asQ, D.asT, opR, opS, List.set, List.map, List.getElem?_cons_zero, List.getElem?_cons_succ, Out.nx.injEq, exists_eq_left', exists_eq_left, Bool.false_eq_true, if_false, if_true, Lv.own, Bool.not_true, Bool.not_false, ite_true, ite_false, reduceIte, bdG, bdGs, callD1, cp, lf, flat_int, callL, List.any_cons, List.any_nil, Bool.or_false, Bool.false_or, Bool.true_or, nmin_00, nmin_01, nmin_10, nmin_11, wl_int, wl_str, wl_bl, wl_non, wl_n, ne_ints, eq_ints, Lv.up, Lv.min, mnL, dsp, List.map_cons, List.map_nil, eq_self, Option.map_some, D.v, List.length_map, c_law_error_laid, h, toOut]
    rfl
def frow (a : D) (w : Int) (m : Str) (e : D) : D := .nd .tup [a, .int w, .str m, e]
def pr (x : Str) (i : Int) : D := .nd .tup [.str x, .int i]
def R1 : List D := [frow (I []) 0 "x" (pr "many" 0), frow (.nd .lst (List.replicate 9 [D.int 1]).flatten) 0 "x" (pr "many" 9), frow (I [1]) 0 "x" (pr "number" 0), frow (I [1]) 17 "x" (pr "number" 17), frow (I [1]) 16 "half" (pr "manner" 0), frow (.nd .lst (List.replicate 8 [D.int 1]).flatten) 16 "halves" .non]
def RowOk (r : D) : Prop := ∃ (a : D) (w : Int) (m : Str) (e e' : D), r = frow a w m e ∧ run_law_error [a, .int w, .str m] = .ok (e', .al) ∧ opC .ne e' e = .ok (.bl false)
theorem ne_pr (x : Str) (i : Int) (h : PyData.strOk x = true) : opC .ne (pr x i) (pr x i) = .ok (.bl false) := by
  refine ne_self ?_ (show 1 ≤ 64 by decide)
  show (PyData.strOk x && (true && true)) = true
  rw [h]
  rfl
theorem row0 (xs : List Int) (a : D) (w : Int) (m : Str) (x : Str) (i : Int) (ht : a = I xs) (h : errV (run_laid [I xs, .int w, .str m, .int 0]) = .ok (pr x i, .al)) (hx : PyData.strOk x = true) : RowOk (frow a w m (pr x i)) := by
  subst ht
  exact ⟨I xs, w, m, pr x i, pr x i, rfl, (S_error xs w m).trans h, ne_pr x i hx⟩
theorem rows_ok : ∀ r ∈ R1, RowOk r := by
  intro r hr
  simp only [R1, List.mem_cons, List.not_mem_nil, or_false] at hr
  rcases hr with rfl | rfl | rfl | rfl | rfl | rfl
  · exact row0 [] _ _ _ _ _ rfl (by rw [L_many _ _ _ _ (by decide)]; rfl) (by decide +kernel)
  · exact row0 (List.replicate 9 1) _ _ _ _ _ rfl (by rw [L_many _ _ _ _ (by decide)]; rfl) (by decide +kernel)
  · exact row0 [1] _ _ _ _ _ rfl (by rw [L_num _ _ _ _ (by decide) (by decide)]; rfl) (by decide +kernel)
  · exact row0 [1] _ _ _ _ _ rfl (by rw [L_num _ _ _ _ (by decide) (by decide)]; rfl) (by decide +kernel)
  · exact row0 [1] _ _ _ _ _ rfl (by rw [L_man _ _ _ _ (by decide) (by decide) ((notin_w _).trans (by rfl))]; rfl) (by decide +kernel)
  · refine ⟨I (List.replicate 8 1), 16, "halves", .non, .non, rfl, (S_error _ _ _).trans ?_, by rfl⟩
    rw [L_ok (List.replicate 8 1) 16 0 "halves" true (by decide) ⟨by decide, by decide⟩ (by decide) (by decide) ((notin_w _).trans (by rfl)) (by decide +kernel)]
    rfl
theorem S_faults : run_law_faults [] = .ok (.bl true, .al) := by
  refine runOf_at rfl ?_
  show outOf (execs Φ_law_faults _ _ b_law_faults [none, none]) = _
  unfold b_law_faults
  have f1 : flat (List.replicate (Int.toNat 9) [D.int 1]).flatten = true := by rfl
  have f2 : flat (List.replicate (Int.toNat 8) [D.int 1]).flatten = true := by rfl
  have r9 : (-2 ^ 63 ≤ (9 : Int) ∧ (9 : Int) < 2 ^ 63 ∧ (0 + 1) * Int.toNat 9 ≤ sizeLine) = True := eq_true ⟨by decide, by decide, by decide⟩
  have r8 : (-2 ^ 63 ≤ (8 : Int) ∧ (8 : Int) < 2 ^ 63 ∧ (0 + 1) * Int.toNat 8 ≤ sizeLine) = True := eq_true ⟨by decide, by decide, by decide⟩
  have z1 : (1 ≤ sizeLine) = True := eq_true (by decide)
  have z2 : (2 ≤ sizeLine) = True := eq_true (by decide)
  have z4 : (4 ≤ sizeLine) = True := eq_true (by decide)
  have z6 : (6 ≤ sizeLine) = True := eq_true (by decide)
  refine go_nx (ρ' := [some (.nd .lst R1, .n 0), none]) (by
    simp only [M.exec, ev, evT, evs, evP, evI, evIF, evAnd, evOr, evAndV, evOrV, evTs, evF_q, evF'_int, evF'_bl, evF'_str, evF'_non, evF'_n, evF'_al, evF'_bo, evF'_err, evF'_stuck, evS_q, evS'_int, evS'_bl, evS'_str, evS'_n, evS'_al, frzV_nil, frzV_cons, frz1, evars, evarss, evarsI, gd_T, gdO_T, nl_int, nl_bl, nl_str, nl_non, nl_nd, isBo_int, isBo_bl, isBo_str, isBo_non, isBo_n, isBo_al, isBo_nd, vw1_int, vw1_bl, vw1_str, vw1_non, vw1_0, vw1_1, vw1_one, vw1_al, vw1_none, vw_nil, vw_cons, bind_o, bind_e, bind_s, toOut_o, toOut_e, pure_o, cl_int, cl_bl, cl_str, cl_non, cl_al, cl_n, setS, appF, sbF, isApp, neEs_c, callL_al, blt_len, blt_int, blt_abs, blt_max, blt_min, blt_list, blt_tuple, blt_sum, blt_any, blt_all, blt_str, blt_repr, b_len_lst, b_len_lk, b_len_tup, b_int, b_int_bl, b_abs, b_max, b_min, b_list, c_eq_int, c_ne_int, c_eq_str, c_ne_str, c_lt, c_le, c_gt, c_ge, k_lt, k_le, k_gt, k_ge, obl_o, o_add, o_sub, o_mul, o_fdiv, o_mod, o_pow, o_cat, o_rep, M.ix_lst, M.ix_lk, M.ix_tup, frz_n0, frz_bo, frz_al, frz_n1, x_nil, Vd, truD, D.asL, D.asQ, D.asT, opR, opS, List.set, List.map, List.getElem?_cons_zero, List.getElem?_cons_succ, Out.nx.injEq, exists_eq_left', exists_eq_left, Bool.false_eq_true, if_false, if_true, Lv.own, Bool.not_true, Bool.not_false, ite_true, ite_false, reduceIte, bdG, bdGs, callD1, cp, lf, flat_int, callL, List.any_cons, List.any_nil, Bool.or_false, Bool.false_or, Bool.true_or, nmin_00, nmin_01, nmin_10, nmin_11, wl_int, wl_str, wl_bl, wl_non, wl_n, ne_ints, eq_ints, Lv.up, Lv.min, mnL, dsp, List.map_cons, List.map_nil, eq_self, Option.map_some, D.v, List.length_map, z1, z2, z4, z6, Nat.zero_le, List.length_cons, List.length_nil, f1, f2, r9, r8, h_law_faults_0]
    rfl) ?_
  have e := ev_lc (Φ := Φ_law_faults) (own := [1]) (g := .nm 1) (it := .of (.var 0)) (c := .cons (.cmp .ne (.call "_law_error" (.cons (.idx (.var 1) (.cst (.int 0))) (.cons (.idx (.var 1) (.cst (.int 1))) (.cons (.idx (.var 1) (.cst (.int 2))) .nil)))) (.idx (.var 1) (.cst (.int 3)))) .nil) (elt := .var 1) (η := [some (.nd .lst R1, .n 0), none]) (l := .n 0)
    id (fun _ => false) (fun d => (d, .al)) R1 (by simp only [M.exec, ev, evT, evs, evP, evI, evIF, evAnd, evOr, evAndV, evOrV, evTs, evF_q, evF'_int, evF'_bl, evF'_str, evF'_non, evF'_n, evF'_al, evF'_bo, evF'_err, evF'_stuck, evS_q, evS'_int, evS'_bl, evS'_str, evS'_n, evS'_al, frzV_nil, frzV_cons, frz1, evars, evarss, evarsI, gd_T, gdO_T, nl_int, nl_bl, nl_str, nl_non, nl_nd, isBo_int, isBo_bl, isBo_str, isBo_non, isBo_n, isBo_al, isBo_nd, vw1_int, vw1_bl, vw1_str, vw1_non, vw1_0, vw1_1, vw1_one, vw1_al, vw1_none, vw_nil, vw_cons, bind_o, bind_e, bind_s, toOut_o, toOut_e, pure_o, cl_int, cl_bl, cl_str, cl_non, cl_al, cl_n, setS, appF, sbF, isApp, neEs_c, callL_al, blt_len, blt_int, blt_abs, blt_max, blt_min, blt_list, blt_tuple, blt_sum, blt_any, blt_all, blt_str, blt_repr, b_len_lst, b_len_lk, b_len_tup, b_int, b_int_bl, b_abs, b_max, b_min, b_list, c_eq_int, c_ne_int, c_eq_str, c_ne_str, c_lt, c_le, c_gt, c_ge, k_lt, k_le, k_gt, k_ge, obl_o, o_add, o_sub, o_mul, o_fdiv, o_mod, o_pow, o_cat, o_rep, M.ix_lst, M.ix_lk, M.ix_tup, frz_n0, frz_bo, frz_al, frz_n1, x_nil, Vd, truD, D.asL, D.asQ, D.asT, opR, opS, List.set, List.map, List.getElem?_cons_zero, List.getElem?_cons_succ, Out.nx.injEq, exists_eq_left', exists_eq_left, Bool.false_eq_true, if_false, if_true, Lv.own, Bool.not_true, Bool.not_false, ite_true, ite_false, reduceIte, bdG, bdGs, callD1, cp, lf, flat_int, callL, List.any_cons, List.any_nil, Bool.or_false, Bool.false_or, Bool.true_or, nmin_00, nmin_01, nmin_10, nmin_11, wl_int, wl_str, wl_bl, wl_non, wl_n, ne_ints, eq_ints, Lv.up, Lv.min, mnL, dsp, List.map_cons, List.map_nil, eq_self, Option.map_some, D.v, List.length_map, List.map_id]) rfl (fun r hr => ?h) (by
      rw [List.filter_eq_nil_iff.mpr (fun _ _ => Bool.false_ne_true)]
      exact Nat.zero_le _)
  case h =>
    refine ⟨_, rfl, ?_, fun h => nomatch h⟩
    obtain ⟨a, w, m, ex, ex', rfl, h1, h2⟩ := rows_ok r hr
    have a0 : atI [a, .int w, .str m, ex] 0 = some a := by rfl
    have a1 : atI [a, .int w, .str m, ex] 1 = some (.int w) := by rfl
    have a2 : atI [a, .int w, .str m, ex] 2 = some (.str m) := by rfl
    have a3 : atI [a, .int w, .str m, ex] 3 = some ex := by rfl
    simp only [M.exec, ev, evT, evs, evP, evI, evIF, evAnd, evOr, evAndV, evOrV, evTs, evF_q, evF'_int, evF'_bl, evF'_str, evF'_non, evF'_n, evF'_al, evF'_bo, evF'_err, evF'_stuck, evS_q, evS'_int, evS'_bl, evS'_str, evS'_n, evS'_al, frzV_nil, frzV_cons, frz1, evars, evarss, evarsI, gd_T, gdO_T, nl_int, nl_bl, nl_str, nl_non, nl_nd, isBo_int, isBo_bl, isBo_str, isBo_non, isBo_n, isBo_al, isBo_nd, vw1_int, vw1_bl, vw1_str, vw1_non, vw1_0, vw1_1, vw1_one, vw1_al, vw1_none, vw_nil, vw_cons, bind_o, bind_e, bind_s, toOut_o, toOut_e, pure_o, cl_int, cl_bl, cl_str, cl_non, cl_al, cl_n, setS, appF, sbF, isApp, neEs_c, callL_al, blt_len, blt_int, blt_abs, blt_max, blt_min, blt_list, blt_tuple, blt_sum, blt_any, blt_all, blt_str, blt_repr, b_len_lst, b_len_lk, b_len_tup, b_int, b_int_bl, b_abs, b_max, b_min, b_list, c_eq_int, c_ne_int, c_eq_str, c_ne_str, c_lt, c_le, c_gt, c_ge, k_lt, k_le, k_gt, k_ge, obl_o, o_add, o_sub, o_mul, o_fdiv, o_mod, o_pow, o_cat, o_rep, M.ix_lst, M.ix_lk, M.ix_tup, frz_n0, frz_bo, frz_al, frz_n1, x_nil, Vd, truD, D.asL, D.asQ, D.asT, opR, opS, List.set, List.map, List.getElem?_cons_zero, List.getElem?_cons_succ, Out.nx.injEq, exists_eq_left', exists_eq_left, Bool.false_eq_true, if_false, if_true, Lv.own, Bool.not_true, Bool.not_false, ite_true, ite_false, reduceIte, bdG, bdGs, callD1, cp, lf, flat_int, callL, List.any_cons, List.any_nil, Bool.or_false, Bool.false_or, Bool.true_or, nmin_00, nmin_01, nmin_10, nmin_11, wl_int, wl_str, wl_bl, wl_non, wl_n, ne_ints, eq_ints, Lv.up, Lv.min, mnL, dsp, List.map_cons, List.map_nil, eq_self, Option.map_some, D.v, List.length_map, wipeE, id, frow, a0, a1, a2, a3, c_law_faults_law_error, h1, h2]
  rw [List.filter_eq_nil_iff.mpr (fun _ _ => Bool.false_ne_true)] at e
  refine go_ret (x_ret (x := (.bl true, .al)) (fun _ z => nomatch z) ?_ isBo_al) rfl
  rw [ev_cmp]
  show (ev Φ_law_faults _ [some (.nd .lst R1, .n 0), none]).bind _ = _
  rw [e]
  simp only [M.exec, ev, evT, evs, evP, evI, evIF, evAnd, evOr, evAndV, evOrV, evTs, evF_q, evF'_int, evF'_bl, evF'_str, evF'_non, evF'_n, evF'_al, evF'_bo, evF'_err, evF'_stuck, evS_q, evS'_int, evS'_bl, evS'_str, evS'_n, evS'_al, frzV_nil, frzV_cons, frz1, evars, evarss, evarsI, gd_T, gdO_T, nl_int, nl_bl, nl_str, nl_non, nl_nd, isBo_int, isBo_bl, isBo_str, isBo_non, isBo_n, isBo_al, isBo_nd, vw1_int, vw1_bl, vw1_str, vw1_non, vw1_0, vw1_1, vw1_one, vw1_al, vw1_none, vw_nil, vw_cons, bind_o, bind_e, bind_s, toOut_o, toOut_e, pure_o, cl_int, cl_bl, cl_str, cl_non, cl_al, cl_n, setS, appF, sbF, isApp, neEs_c, callL_al, blt_len, blt_int, blt_abs, blt_max, blt_min, blt_list, blt_tuple, blt_sum, blt_any, blt_all, blt_str, blt_repr, b_len_lst, b_len_lk, b_len_tup, b_int, b_int_bl, b_abs, b_max, b_min, b_list, c_eq_int, c_ne_int, c_eq_str, c_ne_str, c_lt, c_le, c_gt, c_ge, k_lt, k_le, k_gt, k_ge, obl_o, o_add, o_sub, o_mul, o_fdiv, o_mod, o_pow, o_cat, o_rep, M.ix_lst, M.ix_lk, M.ix_tup, frz_n0, frz_bo, frz_al, frz_n1, x_nil, Vd, truD, D.asL, D.asQ, D.asT, opR, opS, List.set, List.map, List.getElem?_cons_zero, List.getElem?_cons_succ, Out.nx.injEq, exists_eq_left', exists_eq_left, Bool.false_eq_true, if_false, if_true, Lv.own, Bool.not_true, Bool.not_false, ite_true, ite_false, reduceIte, bdG, bdGs, callD1, cp, lf, flat_int, callL, List.any_cons, List.any_nil, Bool.or_false, Bool.false_or, Bool.true_or, nmin_00, nmin_01, nmin_10, nmin_11, wl_int, wl_str, wl_bl, wl_non, wl_n, ne_ints, eq_ints, Lv.up, Lv.min, mnL, dsp, List.map_cons, List.map_nil, eq_self, Option.map_some, D.v, List.length_map, Nat.zero_le, List.length_nil]
  have := eq_ints (xs := []) (ys := [])
  rw [show opC .eq (.nd .lst []) (.nd .lst []) = .ok (.bl true) from this]
  rfl
end K07

namespace K07
open PySem L2 M
def wy (hv : Bool) : Str := if hv = true then "halves" else "one by one"
theorem pick2 (a b p : Int) (h : 0 ≤ p ∧ p < 2) : ∃ y, atI [D.int a, D.int b] p = some (.int y) ∧ (y = a ∨ y = b) := by
  have : p = 0 ∨ p = 1 := by omega
  rcases this with rfl | rfl
  · exact ⟨a, rfl, .inl rfl⟩
  · exact ⟨b, rfl, .inr rfl⟩
theorem law_true (ns : List Int) (hl : ns.length ≤ 63) (hb : ∀ k ∈ ns, Builtin.Int.intBits k ≤ 1048576) : run_law [.nd .lk (ns.map D.int)] = .ok (.bl true, .al) := by
  obtain ⟨ds, hd⟩ := S_draws ns
  let S := D.nd .lk (ns.map D.int)
  suffices h : RS Φ_law h_law 0 b_law (startE N_law [S]) (fun x => x = (.bl true, .al)) by
    obtain ⟨x, e, rfl⟩ := rs_run (Fu := fun _ => 0) (N := N_law) (n := 1) (ds := [S]) rfl h
    exact e
  show RS _ _ _ _ [some (S, .n 0), none, none, none, none, none, none, none, none, none, none, none, none, none, none, none] _
  unfold b_law
  have z2 : (0 + 1 + 1 ≤ sizeLine) = True := eq_true (by decide)
  have m30 : ∀ y : Int, (CMul 30 y ∨ CMulW 30 y) = True := fun y => eq_true (.inl (.inl (by decide)))
  have r3 : (-(2 ^ 62) ≤ (3 : Int) ∧ (3 : Int) < 2 ^ 62) = True := eq_true (by decide)
  have r10 : (-(2 ^ 62) ≤ (10 : Int) ∧ (10 : Int) < 2 ^ 62) = True := eq_true (by decide)
  refine rs_nx (by simp only [M.exec, ev, evT, evs, evP, evI, evIF, evAnd, evOr, evAndV, evOrV, evTs, evF_q, evF'_int, evF'_bl, evF'_str, evF'_non, evF'_n, evF'_al, evF'_bo, evF'_err, evF'_stuck, evS_q, evS'_int, evS'_bl, evS'_str, evS'_n, evS'_al, frzV_nil, frzV_cons, frz1, evars, evarss, evarsI, gd_T, gdO_T, nl_int, nl_bl, nl_str, nl_non, nl_nd, isBo_int, isBo_bl, isBo_str, isBo_non, isBo_n, isBo_al, isBo_nd, vw1_int, vw1_bl, vw1_str, vw1_non, vw1_0, vw1_1, vw1_one, vw1_al, vw1_none, vw_nil, vw_cons, bind_o, bind_e, bind_s, toOut_o, toOut_e, pure_o, cl_int, cl_bl, cl_str, cl_non, cl_al, cl_n, setS, appF, sbF, isApp, neEs_c, callL_al, blt_len, blt_int, blt_abs, blt_max, blt_min, blt_list, blt_tuple, blt_sum, blt_any, blt_all, blt_str, blt_repr, b_len_lst, b_len_lk, b_len_tup, b_int, b_int_bl, b_abs, b_max, b_min, b_list, c_eq_int, c_ne_int, c_eq_str, c_ne_str, c_lt, c_le, c_gt, c_ge, k_lt, k_le, k_gt, k_ge, obl_o, o_add, o_sub, o_mul, o_fdiv, o_mod, o_pow, o_cat, o_rep, M.ix_lst, M.ix_lk, M.ix_tup, frz_n0, frz_bo, frz_al, frz_n1, x_nil, Vd, truD, D.asL, D.asQ, D.asT, opR, opS, List.set, List.map, List.getElem?_cons_zero, List.getElem?_cons_succ, Out.nx.injEq, exists_eq_left', exists_eq_left, Bool.false_eq_true, if_false, if_true, Lv.own, Bool.not_true, Bool.not_false, ite_true, ite_false, reduceIte, bdG, bdGs, callD1, cp, lf, flat_int, callL, List.any_cons, List.any_nil, Bool.or_false, Bool.false_or, Bool.true_or, nmin_00, nmin_01, nmin_10, nmin_11, wl_int, wl_str, wl_bl, wl_non, wl_n, ne_ints, eq_ints, Lv.up, Lv.min, mnL, dsp, List.map_cons, List.map_nil, eq_self, Option.map_some, D.v, List.length_map, c_law_law_draws, S, hd, h_law_1]; rfl) ?_
  refine rs_xs (Q := fun ρ => ∃ u2 u3 u4 u5 u6 u7 u8 u9 u10 u11 u12 u13 u14 : Option DL, ρ = [some (S, .n 0), some (I ds, .n 0), u2, u3, u4, u5, u6, u7, u8, u9, u10, u11, u12, u13, u14, none]) ?loop ?fin
  case fin =>
    rintro ρ ⟨u2, u3, u4, u5, u6, u7, u8, u9, u10, u11, u12, u13, u14, rfl⟩
    exact rs_ret (x := (.bl true, .al)) (by simp only [M.exec, ev, evT, evs, evP, evI, evIF, evAnd, evOr, evAndV, evOrV, evTs, evF_q, evF'_int, evF'_bl, evF'_str, evF'_non, evF'_n, evF'_al, evF'_bo, evF'_err, evF'_stuck, evS_q, evS'_int, evS'_bl, evS'_str, evS'_n, evS'_al, frzV_nil, frzV_cons, frz1, evars, evarss, evarsI, gd_T, gdO_T, nl_int, nl_bl, nl_str, nl_non, nl_nd, isBo_int, isBo_bl, isBo_str, isBo_non, isBo_n, isBo_al, isBo_nd, vw1_int, vw1_bl, vw1_str, vw1_non, vw1_0, vw1_1, vw1_one, vw1_al, vw1_none, vw_nil, vw_cons, bind_o, bind_e, bind_s, toOut_o, toOut_e, pure_o, cl_int, cl_bl, cl_str, cl_non, cl_al, cl_n, setS, appF, sbF, isApp, neEs_c, callL_al, blt_len, blt_int, blt_abs, blt_max, blt_min, blt_list, blt_tuple, blt_sum, blt_any, blt_all, blt_str, blt_repr, b_len_lst, b_len_lk, b_len_tup, b_int, b_int_bl, b_abs, b_max, b_min, b_list, c_eq_int, c_ne_int, c_eq_str, c_ne_str, c_lt, c_le, c_gt, c_ge, k_lt, k_le, k_gt, k_ge, obl_o, o_add, o_sub, o_mul, o_fdiv, o_mod, o_pow, o_cat, o_rep, M.ix_lst, M.ix_lk, M.ix_tup, frz_n0, frz_bo, frz_al, frz_n1, x_nil, Vd, truD, D.asL, D.asQ, D.asT, opR, opS, List.set, List.map, List.getElem?_cons_zero, List.getElem?_cons_succ, Out.nx.injEq, exists_eq_left', exists_eq_left, Bool.false_eq_true, if_false, if_true, Lv.own, Bool.not_true, Bool.not_false, ite_true, ite_false, reduceIte, bdG, bdGs, callD1, cp, lf, flat_int, callL, List.any_cons, List.any_nil, Bool.or_false, Bool.false_or, Bool.true_or, nmin_00, nmin_01, nmin_10, nmin_11, wl_int, wl_str, wl_bl, wl_non, wl_n, ne_ints, eq_ints, Lv.up, Lv.min, mnL, dsp, List.map_cons, List.map_nil, eq_self, Option.map_some, D.v, List.length_map, c_law_law_faults, S_faults]) rfl
  case loop =>
    refine xs_range (ρ0 := ?w) (n := 3) (φ := fun k => D.int (0 + (k : Nat))) (fun i ρ => ∃ u2 u3 u4 u5 u6 u7 u8 u9 u10 u11 u12 u13 u14 : Option DL, ρ = [some (S, .n 0), some (I ds, .n 0), u2, u3, u4, u5, u6, u7, u8, u9, u10, u11, u12, u13, u14, none]) ?e ?h0 ?s ?k
    case e => simp only [M.exec, ev, evT, evs, evP, evI, evIF, evAnd, evOr, evAndV, evOrV, evTs, evF_q, evF'_int, evF'_bl, evF'_str, evF'_non, evF'_n, evF'_al, evF'_bo, evF'_err, evF'_stuck, evS_q, evS'_int, evS'_bl, evS'_str, evS'_n, evS'_al, frzV_nil, frzV_cons, frz1, evars, evarss, evarsI, gd_T, gdO_T, nl_int, nl_bl, nl_str, nl_non, nl_nd, isBo_int, isBo_bl, isBo_str, isBo_non, isBo_n, isBo_al, isBo_nd, vw1_int, vw1_bl, vw1_str, vw1_non, vw1_0, vw1_1, vw1_one, vw1_al, vw1_none, vw_nil, vw_cons, bind_o, bind_e, bind_s, toOut_o, toOut_e, pure_o, cl_int, cl_bl, cl_str, cl_non, cl_al, cl_n, setS, appF, sbF, isApp, neEs_c, callL_al, blt_len, blt_int, blt_abs, blt_max, blt_min, blt_list, blt_tuple, blt_sum, blt_any, blt_all, blt_str, blt_repr, b_len_lst, b_len_lk, b_len_tup, b_int, b_int_bl, b_abs, b_max, b_min, b_list, c_eq_int, c_ne_int, c_eq_str, c_ne_str, c_lt, c_le, c_gt, c_ge, k_lt, k_le, k_gt, k_ge, obl_o, o_add, o_sub, o_mul, o_fdiv, o_mod, o_pow, o_cat, o_rep, M.ix_lst, M.ix_lk, M.ix_tup, frz_n0, frz_bo, frz_al, frz_n1, x_nil, Vd, truD, D.asL, D.asQ, D.asT, opR, opS, List.set, List.map, List.getElem?_cons_zero, List.getElem?_cons_succ, Out.nx.injEq, exists_eq_left', exists_eq_left, Bool.false_eq_true, if_false, if_true, Lv.own, Bool.not_true, Bool.not_false, ite_true, ite_false, reduceIte, bdG, bdGs, callD1, cp, lf, flat_int, callL, List.any_cons, List.any_nil, Bool.or_false, Bool.false_or, Bool.true_or, nmin_00, nmin_01, nmin_10, nmin_11, wl_int, wl_str, wl_bl, wl_non, wl_n, ne_ints, eq_ints, Lv.up, Lv.min, mnL, dsp, List.map_cons, List.map_nil, eq_self, Option.map_some, D.v, List.length_map, r3]; rfl
    case h0 => exact ⟨_, _, _, _, _, _, _, _, _, _, _, _, _, rfl⟩
    case k => exact fun ρ h => xs_nil h
    case s =>
      rintro i ρ hi ⟨u2, u3, u4, u5, u6, u7, u8, u9, u10, u11, u12, u13, u14, rfl⟩
      refine ⟨_, rfl, ?_⟩
      generalize (0 + (i : Nat) : Int) = t
      refine xs_cons (by simp only [M.exec, ev, evT, evs, evP, evI, evIF, evAnd, evOr, evAndV, evOrV, evTs, evF_q, evF'_int, evF'_bl, evF'_str, evF'_non, evF'_n, evF'_al, evF'_bo, evF'_err, evF'_stuck, evS_q, evS'_int, evS'_bl, evS'_str, evS'_n, evS'_al, frzV_nil, frzV_cons, frz1, evars, evarss, evarsI, gd_T, gdO_T, nl_int, nl_bl, nl_str, nl_non, nl_nd, isBo_int, isBo_bl, isBo_str, isBo_non, isBo_n, isBo_al, isBo_nd, vw1_int, vw1_bl, vw1_str, vw1_non, vw1_0, vw1_1, vw1_one, vw1_al, vw1_none, vw_nil, vw_cons, bind_o, bind_e, bind_s, toOut_o, toOut_e, pure_o, cl_int, cl_bl, cl_str, cl_non, cl_al, cl_n, setS, appF, sbF, isApp, neEs_c, callL_al, blt_len, blt_int, blt_abs, blt_max, blt_min, blt_list, blt_tuple, blt_sum, blt_any, blt_all, blt_str, blt_repr, b_len_lst, b_len_lk, b_len_tup, b_int, b_int_bl, b_abs, b_max, b_min, b_list, c_eq_int, c_ne_int, c_eq_str, c_ne_str, c_lt, c_le, c_gt, c_ge, k_lt, k_le, k_gt, k_ge, obl_o, o_add, o_sub, o_mul, o_fdiv, o_mod, o_pow, o_cat, o_rep, M.ix_lst, M.ix_lk, M.ix_tup, frz_n0, frz_bo, frz_al, frz_n1, x_nil, Vd, truD, D.asL, D.asQ, D.asT, opR, opS, List.set, List.map, List.getElem?_cons_zero, List.getElem?_cons_succ, Out.nx.injEq, exists_eq_left', exists_eq_left, Bool.false_eq_true, if_false, if_true, Lv.own, Bool.not_true, Bool.not_false, ite_true, ite_false, reduceIte, bdG, bdGs, callD1, cp, lf, flat_int, callL, List.any_cons, List.any_nil, Bool.or_false, Bool.false_or, Bool.true_or, nmin_00, nmin_01, nmin_10, nmin_11, wl_int, wl_str, wl_bl, wl_non, wl_n, ne_ints, eq_ints, Lv.up, Lv.min, mnL, dsp, List.map_cons, List.map_nil, eq_self, Option.map_some, D.v, List.length_map, h_law_3, List.length_nil, Nat.zero_le]; rfl) ?_
      have s1 := S_mix ds (1 + t) 8 (by decide)
      have q1 := mixV_in (ds := ds) (k := 1 + t) (many := 8) (by decide)
      generalize mixV ds (1 + t) 8 = p1 at s1 q1
      obtain ⟨n, rfl⟩ : ∃ n : Nat, p1 = (n : Int) := ⟨p1.toNat, by omega⟩
      have hr : (-(2 ^ 62) ≤ (1 + (n : Int)) ∧ (1 + (n : Int)) < 2 ^ 62) = True := eq_true ⟨by omega, by omega⟩
      have hn : (1 + (n : Int)).toNat = 1 + n := by omega
      -- the numbers
      refine xs_range (ρ0 := ?wn) (n := 1 + n) (φ := fun k => D.int (0 + (k : Nat))) (fun i ρ => ∃ (ys : List Int) (u4 u5 : Option DL), ρ = [some (S, .n 0), some (I ds, .n 0), some (.int t, .n 0), some (I ys, .n 1), u4, u5, u6, u7, u8, u9, u10, u11, u12, u13, u14, none] ∧ ys.length = i ∧ ∀ y ∈ ys, y.natAbs ≤ 2 ^ 40) ?en ?hn ?sn ?kn
      case en => simp only [M.exec, ev, evT, evs, evP, evI, evIF, evAnd, evOr, evAndV, evOrV, evTs, evF_q, evF'_int, evF'_bl, evF'_str, evF'_non, evF'_n, evF'_al, evF'_bo, evF'_err, evF'_stuck, evS_q, evS'_int, evS'_bl, evS'_str, evS'_n, evS'_al, frzV_nil, frzV_cons, frz1, evars, evarss, evarsI, gd_T, gdO_T, nl_int, nl_bl, nl_str, nl_non, nl_nd, isBo_int, isBo_bl, isBo_str, isBo_non, isBo_n, isBo_al, isBo_nd, vw1_int, vw1_bl, vw1_str, vw1_non, vw1_0, vw1_1, vw1_one, vw1_al, vw1_none, vw_nil, vw_cons, bind_o, bind_e, bind_s, toOut_o, toOut_e, pure_o, cl_int, cl_bl, cl_str, cl_non, cl_al, cl_n, setS, appF, sbF, isApp, neEs_c, callL_al, blt_len, blt_int, blt_abs, blt_max, blt_min, blt_list, blt_tuple, blt_sum, blt_any, blt_all, blt_str, blt_repr, b_len_lst, b_len_lk, b_len_tup, b_int, b_int_bl, b_abs, b_max, b_min, b_list, c_eq_int, c_ne_int, c_eq_str, c_ne_str, c_lt, c_le, c_gt, c_ge, k_lt, k_le, k_gt, k_ge, obl_o, o_add, o_sub, o_mul, o_fdiv, o_mod, o_pow, o_cat, o_rep, M.ix_lst, M.ix_lk, M.ix_tup, frz_n0, frz_bo, frz_al, frz_n1, x_nil, Vd, truD, D.asL, D.asQ, D.asT, opR, opS, List.set, List.map, List.getElem?_cons_zero, List.getElem?_cons_succ, Out.nx.injEq, exists_eq_left', exists_eq_left, Bool.false_eq_true, if_false, if_true, Lv.own, Bool.not_true, Bool.not_false, ite_true, ite_false, reduceIte, bdG, bdGs, callD1, cp, lf, flat_int, callL, List.any_cons, List.any_nil, Bool.or_false, Bool.false_or, Bool.true_or, nmin_00, nmin_01, nmin_10, nmin_11, wl_int, wl_str, wl_bl, wl_non, wl_n, ne_ints, eq_ints, Lv.up, Lv.min, mnL, dsp, List.map_cons, List.map_nil, eq_self, Option.map_some, D.v, List.length_map, c_law_law_mix, s1, hr, hn]; rfl
      case hn => exact ⟨[], _, _, rfl, rfl, fun _ h => nomatch h⟩
      case sn =>
        rintro j ρ hj ⟨ys, u4, u5, rfl, hyl, hy⟩
        refine ⟨_, rfl, ?_⟩
        generalize (0 + (j : Nat) : Int) = t2
        have s2 := S_mix ds 4 2 (by decide)
        have q2 := mixV_in (ds := ds) (k := 4) (many := 2) (by decide)
        generalize mixV ds 4 2 = p2 at s2 q2
        obtain ⟨mm, a1, hmm⟩ := pick2 9 65536 p2 q2
        have s3 := S_mix ds (20 + 30 * t + t2) mm (by omega)
        have q3 := mixV_in (ds := ds) (k := 20 + 30 * t + t2) (many := mm) (by omega)
        generalize mixV ds (20 + 30 * t + t2) mm = p3 at s3 q3
        refine xs_cons (by simp only [M.exec, ev, evT, evs, evP, evI, evIF, evAnd, evOr, evAndV, evOrV, evTs, evF_q, evF'_int, evF'_bl, evF'_str, evF'_non, evF'_n, evF'_al, evF'_bo, evF'_err, evF'_stuck, evS_q, evS'_int, evS'_bl, evS'_str, evS'_n, evS'_al, frzV_nil, frzV_cons, frz1, evars, evarss, evarsI, gd_T, gdO_T, nl_int, nl_bl, nl_str, nl_non, nl_nd, isBo_int, isBo_bl, isBo_str, isBo_non, isBo_n, isBo_al, isBo_nd, vw1_int, vw1_bl, vw1_str, vw1_non, vw1_0, vw1_1, vw1_one, vw1_al, vw1_none, vw_nil, vw_cons, bind_o, bind_e, bind_s, toOut_o, toOut_e, pure_o, cl_int, cl_bl, cl_str, cl_non, cl_al, cl_n, setS, appF, sbF, isApp, neEs_c, callL_al, blt_len, blt_int, blt_abs, blt_max, blt_min, blt_list, blt_tuple, blt_sum, blt_any, blt_all, blt_str, blt_repr, b_len_lst, b_len_lk, b_len_tup, b_int, b_int_bl, b_abs, b_max, b_min, b_list, c_eq_int, c_ne_int, c_eq_str, c_ne_str, c_lt, c_le, c_gt, c_ge, k_lt, k_le, k_gt, k_ge, obl_o, o_add, o_sub, o_mul, o_fdiv, o_mod, o_pow, o_cat, o_rep, M.ix_lst, M.ix_lk, M.ix_tup, frz_n0, frz_bo, frz_al, frz_n1, x_nil, Vd, truD, D.asL, D.asQ, D.asT, opR, opS, List.set, List.map, List.getElem?_cons_zero, List.getElem?_cons_succ, Out.nx.injEq, exists_eq_left', exists_eq_left, Bool.false_eq_true, if_false, if_true, Lv.own, Bool.not_true, Bool.not_false, ite_true, ite_false, reduceIte, bdG, bdGs, callD1, cp, lf, flat_int, callL, List.any_cons, List.any_nil, Bool.or_false, Bool.false_or, Bool.true_or, nmin_00, nmin_01, nmin_10, nmin_11, wl_int, wl_str, wl_bl, wl_non, wl_n, ne_ints, eq_ints, Lv.up, Lv.min, mnL, dsp, List.map_cons, List.map_nil, eq_self, Option.map_some, D.v, List.length_map, c_law_law_mix, s2, a1, s3, m30, z2, List.length_cons, List.length_nil, h_law_5]; rfl) ?_
        have hz : -(2 ^ 17) < p3 - 4 ∧ p3 - 4 < 2 ^ 17 := by omega
        generalize p3 - 4 = z at hz
        have s4 := S_mix ds (5 + t) 2 (by decide)
        have q4 := mixV_in (ds := ds) (k := 5 + t) (many := 2) (by decide)
        generalize mixV ds (5 + t) 2 = p4 at s4 q4
        obtain ⟨z2', a2, hz2⟩ := pick2 z (z * z) p4 q4
        have mz : (CMul z z ∨ CMulW z z) = True := eq_true (.inl (.inl ⟨by omega, by omega⟩))
        refine xs_cons (by simp only [M.exec, ev, evT, evs, evP, evI, evIF, evAnd, evOr, evAndV, evOrV, evTs, evF_q, evF'_int, evF'_bl, evF'_str, evF'_non, evF'_n, evF'_al, evF'_bo, evF'_err, evF'_stuck, evS_q, evS'_int, evS'_bl, evS'_str, evS'_n, evS'_al, frzV_nil, frzV_cons, frz1, evars, evarss, evarsI, gd_T, gdO_T, nl_int, nl_bl, nl_str, nl_non, nl_nd, isBo_int, isBo_bl, isBo_str, isBo_non, isBo_n, isBo_al, isBo_nd, vw1_int, vw1_bl, vw1_str, vw1_non, vw1_0, vw1_1, vw1_one, vw1_al, vw1_none, vw_nil, vw_cons, bind_o, bind_e, bind_s, toOut_o, toOut_e, pure_o, cl_int, cl_bl, cl_str, cl_non, cl_al, cl_n, setS, appF, sbF, isApp, neEs_c, callL_al, blt_len, blt_int, blt_abs, blt_max, blt_min, blt_list, blt_tuple, blt_sum, blt_any, blt_all, blt_str, blt_repr, b_len_lst, b_len_lk, b_len_tup, b_int, b_int_bl, b_abs, b_max, b_min, b_list, c_eq_int, c_ne_int, c_eq_str, c_ne_str, c_lt, c_le, c_gt, c_ge, k_lt, k_le, k_gt, k_ge, obl_o, o_add, o_sub, o_mul, o_fdiv, o_mod, o_pow, o_cat, o_rep, M.ix_lst, M.ix_lk, M.ix_tup, frz_n0, frz_bo, frz_al, frz_n1, x_nil, Vd, truD, D.asL, D.asQ, D.asT, opR, opS, List.set, List.map, List.getElem?_cons_zero, List.getElem?_cons_succ, Out.nx.injEq, exists_eq_left', exists_eq_left, Bool.false_eq_true, if_false, if_true, Lv.own, Bool.not_true, Bool.not_false, ite_true, ite_false, reduceIte, bdG, bdGs, callD1, cp, lf, flat_int, callL, List.any_cons, List.any_nil, Bool.or_false, Bool.false_or, Bool.true_or, nmin_00, nmin_01, nmin_10, nmin_11, wl_int, wl_str, wl_bl, wl_non, wl_n, ne_ints, eq_ints, Lv.up, Lv.min, mnL, dsp, List.map_cons, List.map_nil, eq_self, Option.map_some, D.v, List.length_map, c_law_law_mix, s4, a2, mz, z2, List.length_cons, List.length_nil, h_law_5]; rfl) ?_
        have hb2 : z2'.natAbs ≤ 2 ^ 40 := by
          rcases hz2 with rfl | rfl
          · omega
          · rw [Int.natAbs_mul]
            have h1 : z.natAbs ≤ 2 ^ 17 := by omega
            exact Nat.le_trans (Nat.mul_le_mul h1 h1) (by decide)
        have s5 := S_mix ds (30 + 30 * t + t2) 2 (by decide)
        have q5 := mixV_in (ds := ds) (k := 30 + 30 * t + t2) (many := 2) (by decide)
        generalize mixV ds (30 + 30 * t + t2) 2 = p5 at s5 q5
        obtain ⟨sg, a3, hsg⟩ := pick2 1 (-1) p5 q5
        have ms : (CMul z2' sg ∨ CMulW z2' sg) = True := eq_true (.inl (.inr ⟨by omega, by omega⟩))
        have hlz : (ys.length < sizeLine) = True := eq_true (sz_lt (by omega))
        refine xs_cons (by simp only [M.exec, ev, evT, evs, evP, evI, evIF, evAnd, evOr, evAndV, evOrV, evTs, evF_q, evF'_int, evF'_bl, evF'_str, evF'_non, evF'_n, evF'_al, evF'_bo, evF'_err, evF'_stuck, evS_q, evS'_int, evS'_bl, evS'_str, evS'_n, evS'_al, frzV_nil, frzV_cons, frz1, evars, evarss, evarsI, gd_T, gdO_T, nl_int, nl_bl, nl_str, nl_non, nl_nd, isBo_int, isBo_bl, isBo_str, isBo_non, isBo_n, isBo_al, isBo_nd, vw1_int, vw1_bl, vw1_str, vw1_non, vw1_0, vw1_1, vw1_one, vw1_al, vw1_none, vw_nil, vw_cons, bind_o, bind_e, bind_s, toOut_o, toOut_e, pure_o, cl_int, cl_bl, cl_str, cl_non, cl_al, cl_n, setS, appF, sbF, isApp, neEs_c, callL_al, blt_len, blt_int, blt_abs, blt_max, blt_min, blt_list, blt_tuple, blt_sum, blt_any, blt_all, blt_str, blt_repr, b_len_lst, b_len_lk, b_len_tup, b_int, b_int_bl, b_abs, b_max, b_min, b_list, c_eq_int, c_ne_int, c_eq_str, c_ne_str, c_lt, c_le, c_gt, c_ge, k_lt, k_le, k_gt, k_ge, obl_o, o_add, o_sub, o_mul, o_fdiv, o_mod, o_pow, o_cat, o_rep, M.ix_lst, M.ix_lk, M.ix_tup, frz_n0, frz_bo, frz_al, frz_n1, x_nil, Vd, truD, D.asL, D.asQ, D.asT, opR, opS, List.set, List.map, List.getElem?_cons_zero, List.getElem?_cons_succ, Out.nx.injEq, exists_eq_left', exists_eq_left, Bool.false_eq_true, if_false, if_true, Lv.own, Bool.not_true, Bool.not_false, ite_true, ite_false, reduceIte, bdG, bdGs, callD1, cp, lf, flat_int, callL, List.any_cons, List.any_nil, Bool.or_false, Bool.false_or, Bool.true_or, nmin_00, nmin_01, nmin_10, nmin_11, wl_int, wl_str, wl_bl, wl_non, wl_n, ne_ints, eq_ints, Lv.up, Lv.min, mnL, dsp, List.map_cons, List.map_nil, eq_self, Option.map_some, D.v, List.length_map, c_law_law_mix, s5, a3, ms, m30, z2, hlz, List.length_cons, List.length_nil]; rfl) (xs_nil ⟨ys ++ [z2' * sg], some (.int t2, .n 0), some (.int z2', .n 0), by rw [I_app], by rw [List.length_append, hyl]; rfl, fun y hy' => ?_⟩)
        rcases List.mem_append.mp hy' with h | h
        · exact hy y h
        · rw [List.mem_singleton] at h
          rw [h]
          rcases hsg with rfl | rfl
          · rw [Int.mul_one]; exact hb2
          · rw [Int.mul_neg, Int.mul_one, Int.natAbs_neg]; exact hb2
      case kn =>
        rintro ρ ⟨ys, u4, u5, rfl, hyl, hy⟩
        have hs : Sm ys := ⟨hy, by omega⟩
        have hr0 : ∀ l, bltD "repr" [(D.nd .lst (ys.map D.int), l)] = .ok (.str (shI ys), .al) := fun l => repr_ints (fun y h => by have := hy y h; omega) (by omega)
        refine xs_cons (by simp only [M.exec, ev, evT, evs, evP, evI, evIF, evAnd, evOr, evAndV, evOrV, evTs, evF_q, evF'_int, evF'_bl, evF'_str, evF'_non, evF'_n, evF'_al, evF'_bo, evF'_err, evF'_stuck, evS_q, evS'_int, evS'_bl, evS'_str, evS'_n, evS'_al, frzV_nil, frzV_cons, frz1, evars, evarss, evarsI, gd_T, gdO_T, nl_int, nl_bl, nl_str, nl_non, nl_nd, isBo_int, isBo_bl, isBo_str, isBo_non, isBo_n, isBo_al, isBo_nd, vw1_int, vw1_bl, vw1_str, vw1_non, vw1_0, vw1_1, vw1_one, vw1_al, vw1_none, vw_nil, vw_cons, bind_o, bind_e, bind_s, toOut_o, toOut_e, pure_o, cl_int, cl_bl, cl_str, cl_non, cl_al, cl_n, setS, appF, sbF, isApp, neEs_c, callL_al, blt_len, blt_int, blt_abs, blt_max, blt_min, blt_list, blt_tuple, blt_sum, blt_any, blt_all, blt_str, blt_repr, b_len_lst, b_len_lk, b_len_tup, b_int, b_int_bl, b_abs, b_max, b_min, b_list, c_eq_int, c_ne_int, c_eq_str, c_ne_str, c_lt, c_le, c_gt, c_ge, k_lt, k_le, k_gt, k_ge, obl_o, o_add, o_sub, o_mul, o_fdiv, o_mod, o_pow, o_cat, o_rep, M.ix_lst, M.ix_lk, M.ix_tup, frz_n0, frz_bo, frz_al, frz_n1, x_nil, Vd, truD, D.asL, D.asQ, D.asT, opR, opS, List.set, List.map, List.getElem?_cons_zero, List.getElem?_cons_succ, Out.nx.injEq, exists_eq_left', exists_eq_left, Bool.false_eq_true, if_false, if_true, Lv.own, Bool.not_true, Bool.not_false, ite_true, ite_false, reduceIte, bdG, bdGs, callD1, cp, lf, flat_int, callL, List.any_cons, List.any_nil, Bool.or_false, Bool.false_or, Bool.true_or, nmin_00, nmin_01, nmin_10, nmin_11, wl_int, wl_str, wl_bl, wl_non, wl_n, ne_ints, eq_ints, Lv.up, Lv.min, mnL, dsp, List.map_cons, List.map_nil, eq_self, Option.map_some, D.v, List.length_map, callE_b B_law, hr0, h_law_6]; rfl) ?_
        -- differences
        refine xs_range (ρ0 := ?wd) (n := 10) (φ := fun k => D.int (0 + (k : Nat))) (fun i ρ => ∃ (u7 : Option DL), ρ = [some (S, .n 0), some (I ds, .n 0), some (.int t, .n 0), some (I ys, .n 1), u4, u5, some (.str (shI ys), .n 0), u7, u8, u9, u10, u11, u12, u13, u14, none]) ?ed ?hd ?sd ?kd
        case ed => simp only [M.exec, ev, evT, evs, evP, evI, evIF, evAnd, evOr, evAndV, evOrV, evTs, evF_q, evF'_int, evF'_bl, evF'_str, evF'_non, evF'_n, evF'_al, evF'_bo, evF'_err, evF'_stuck, evS_q, evS'_int, evS'_bl, evS'_str, evS'_n, evS'_al, frzV_nil, frzV_cons, frz1, evars, evarss, evarsI, gd_T, gdO_T, nl_int, nl_bl, nl_str, nl_non, nl_nd, isBo_int, isBo_bl, isBo_str, isBo_non, isBo_n, isBo_al, isBo_nd, vw1_int, vw1_bl, vw1_str, vw1_non, vw1_0, vw1_1, vw1_one, vw1_al, vw1_none, vw_nil, vw_cons, bind_o, bind_e, bind_s, toOut_o, toOut_e, pure_o, cl_int, cl_bl, cl_str, cl_non, cl_al, cl_n, setS, appF, sbF, isApp, neEs_c, callL_al, blt_len, blt_int, blt_abs, blt_max, blt_min, blt_list, blt_tuple, blt_sum, blt_any, blt_all, blt_str, blt_repr, b_len_lst, b_len_lk, b_len_tup, b_int, b_int_bl, b_abs, b_max, b_min, b_list, c_eq_int, c_ne_int, c_eq_str, c_ne_str, c_lt, c_le, c_gt, c_ge, k_lt, k_le, k_gt, k_ge, obl_o, o_add, o_sub, o_mul, o_fdiv, o_mod, o_pow, o_cat, o_rep, M.ix_lst, M.ix_lk, M.ix_tup, frz_n0, frz_bo, frz_al, frz_n1, x_nil, Vd, truD, D.asL, D.asQ, D.asT, opR, opS, List.set, List.map, List.getElem?_cons_zero, List.getElem?_cons_succ, Out.nx.injEq, exists_eq_left', exists_eq_left, Bool.false_eq_true, if_false, if_true, Lv.own, Bool.not_true, Bool.not_false, ite_true, ite_false, reduceIte, bdG, bdGs, callD1, cp, lf, flat_int, callL, List.any_cons, List.any_nil, Bool.or_false, Bool.false_or, Bool.true_or, nmin_00, nmin_01, nmin_10, nmin_11, wl_int, wl_str, wl_bl, wl_non, wl_n, ne_ints, eq_ints, Lv.up, Lv.min, mnL, dsp, List.map_cons, List.map_nil, eq_self, Option.map_some, D.v, List.length_map, r10]; rfl
        case hd => exact ⟨_, rfl⟩
        case sd =>
          rintro j ρ hj ⟨u7, rfl⟩
          refine ⟨_, rfl, ?_⟩
          have d1 := S_differences ys (0 + (j : Nat)) (by omega) (by omega) (by omega)
          have d2 := S_ldifferences ys (0 + (j : Nat)) (by omega) (by omega) (by omega)
          exact xs_iff (Q := fun ρ => ρ = [some (S, .n 0), some (I ds, .n 0), some (.int t, .n 0), some (I ys, .n 1), u4, u5, some (.str (shI ys), .n 0), some (.int (0 + (j : Nat)), .n 0), u8, u9, u10, u11, u12, u13, u14, none]) (by simp only [M.exec, ev, evT, evs, evP, evI, evIF, evAnd, evOr, evAndV, evOrV, evTs, evF_q, evF'_int, evF'_bl, evF'_str, evF'_non, evF'_n, evF'_al, evF'_bo, evF'_err, evF'_stuck, evS_q, evS'_int, evS'_bl, evS'_str, evS'_n, evS'_al, frzV_nil, frzV_cons, frz1, evars, evarss, evarsI, gd_T, gdO_T, nl_int, nl_bl, nl_str, nl_non, nl_nd, isBo_int, isBo_bl, isBo_str, isBo_non, isBo_n, isBo_al, isBo_nd, vw1_int, vw1_bl, vw1_str, vw1_non, vw1_0, vw1_1, vw1_one, vw1_al, vw1_none, vw_nil, vw_cons, bind_o, bind_e, bind_s, toOut_o, toOut_e, pure_o, cl_int, cl_bl, cl_str, cl_non, cl_al, cl_n, setS, appF, sbF, isApp, neEs_c, callL_al, blt_len, blt_int, blt_abs, blt_max, blt_min, blt_list, blt_tuple, blt_sum, blt_any, blt_all, blt_str, blt_repr, b_len_lst, b_len_lk, b_len_tup, b_int, b_int_bl, b_abs, b_max, b_min, b_list, c_eq_int, c_ne_int, c_eq_str, c_ne_str, c_lt, c_le, c_gt, c_ge, k_lt, k_le, k_gt, k_ge, obl_o, o_add, o_sub, o_mul, o_fdiv, o_mod, o_pow, o_cat, o_rep, M.ix_lst, M.ix_lk, M.ix_tup, frz_n0, frz_bo, frz_al, frz_n1, x_nil, Vd, truD, D.asL, D.asQ, D.asT, opR, opS, List.set, List.map, List.getElem?_cons_zero, List.getElem?_cons_succ, Out.nx.injEq, exists_eq_left', exists_eq_left, Bool.false_eq_true, if_false, if_true, Lv.own, Bool.not_true, Bool.not_false, ite_true, ite_false, reduceIte, bdG, bdGs, callD1, cp, lf, flat_int, callL, List.any_cons, List.any_nil, Bool.or_false, Bool.false_or, Bool.true_or, nmin_00, nmin_01, nmin_10, nmin_11, wl_int, wl_str, wl_bl, wl_non, wl_n, ne_ints, eq_ints, Lv.up, Lv.min, mnL, dsp, List.map_cons, List.map_nil, eq_self, Option.map_some, D.v, List.length_map, c_law_differences, c_law_law_differences, d1, d2, decide_true]) (xs_nil rfl) fun ρ h => xs_nil ⟨_, h⟩
        case kd =>
          rintro ρ ⟨u7, rfl⟩
          -- values
          have s2 := S_mix ds 6 2 (by decide)
          have q2 := mixV_in (ds := ds) (k := 6) (many := 2) (by decide)
          generalize mixV ds 6 2 = p2 at s2 q2
          obtain ⟨mm, a1, hmm⟩ := pick2 12 200 p2 q2
          let g : Nat → Int := fun k => mixV ds (200 + (0 + (k : Nat))) mm - (if mixV ds (7 + (0 + (k : Nat))) 2 = 0 then 4 else 90)
          have hg : ∀ k, (g k).natAbs ≤ 300 := fun k => by
            have := mixV_in (ds := ds) (k := 200 + (0 + (k : Nat))) (many := mm) (by omega)
            show (mixV ds (200 + (0 + (k : Nat))) mm - (if mixV ds (7 + (0 + (k : Nat))) 2 = 0 then 4 else 90)).natAbs ≤ 300
            split <;> omega
          have e1 := ev_lcS (Φ := Φ_law) (own := [4]) (g := .nm 4) (it := .rng1 (.cst (.int 3))) (elt := (.bin .sub (.call "_law_mix" (.cons (.var 1) (.cons (.bin .add (.cst (.int 200)) (.var 4)) (.cons (.idx (.lst (.cons (.cst (.int 12)) (.cons (.cst (.int 200)) .nil))) (.call "_law_mix" (.cons (.var 1) (.cons (.cst (.int 6)) (.cons (.cst (.int 2)) .nil))))) .nil)))) (.idx (.lst (.cons (.cst (.int 4)) (.cons (.cst (.int 90)) .nil))) (.call "_law_mix" (.cons (.var 1) (.cons (.bin .add (.cst (.int 7)) (.var 4)) (.cons (.cst (.int 2)) .nil)))))))
            (η := vw [some (S, .n 0), some (I ds, .n 0), some (.int t, .n 0), some (I ys, .n 1), u4, u5, some (.str (shI ys), .n 0), u7, u8, u9, u10, u11, u12, u13, u14, none]) (l := .n 0)
            (fun k : Nat => D.int (0 + (k : Nat))) (fun k => .int (g k)) (List.range 3) (by simp only [M.exec, ev, evT, evs, evP, evI, evIF, evAnd, evOr, evAndV, evOrV, evTs, evF_q, evF'_int, evF'_bl, evF'_str, evF'_non, evF'_n, evF'_al, evF'_bo, evF'_err, evF'_stuck, evS_q, evS'_int, evS'_bl, evS'_str, evS'_n, evS'_al, frzV_nil, frzV_cons, frz1, evars, evarss, evarsI, gd_T, gdO_T, nl_int, nl_bl, nl_str, nl_non, nl_nd, isBo_int, isBo_bl, isBo_str, isBo_non, isBo_n, isBo_al, isBo_nd, vw1_int, vw1_bl, vw1_str, vw1_non, vw1_0, vw1_1, vw1_one, vw1_al, vw1_none, vw_nil, vw_cons, bind_o, bind_e, bind_s, toOut_o, toOut_e, pure_o, cl_int, cl_bl, cl_str, cl_non, cl_al, cl_n, setS, appF, sbF, isApp, neEs_c, callL_al, blt_len, blt_int, blt_abs, blt_max, blt_min, blt_list, blt_tuple, blt_sum, blt_any, blt_all, blt_str, blt_repr, b_len_lst, b_len_lk, b_len_tup, b_int, b_int_bl, b_abs, b_max, b_min, b_list, c_eq_int, c_ne_int, c_eq_str, c_ne_str, c_lt, c_le, c_gt, c_ge, k_lt, k_le, k_gt, k_ge, obl_o, o_add, o_sub, o_mul, o_fdiv, o_mod, o_pow, o_cat, o_rep, M.ix_lst, M.ix_lk, M.ix_tup, frz_n0, frz_bo, frz_al, frz_n1, x_nil, Vd, truD, D.asL, D.asQ, D.asT, opR, opS, List.set, List.map, List.getElem?_cons_zero, List.getElem?_cons_succ, Out.nx.injEq, exists_eq_left', exists_eq_left, Bool.false_eq_true, if_false, if_true, Lv.own, Bool.not_true, Bool.not_false, ite_true, ite_false, reduceIte, bdG, bdGs, callD1, cp, lf, flat_int, callL, List.any_cons, List.any_nil, Bool.or_false, Bool.false_or, Bool.true_or, nmin_00, nmin_01, nmin_10, nmin_11, wl_int, wl_str, wl_bl, wl_non, wl_n, ne_ints, eq_ints, Lv.up, Lv.min, mnL, dsp, List.map_cons, List.map_nil, eq_self, Option.map_some, D.v, List.length_map, r3]; rfl) rfl ?hlc (fun _ _ => rfl) (by decide)
          case hlc =>
            intro k hk
            refine ⟨_, rfl, ?_⟩
            have s3 := S_mix ds (200 + (0 + (k : Nat))) mm (by omega)
            have s4 := S_mix ds (7 + (0 + (k : Nat))) 2 (by decide)
            have q4 := mixV_in (ds := ds) (k := 7 + (0 + (k : Nat))) (many := 2) (by decide)
            have a2 : atI [D.int 4, D.int 90] (mixV ds (7 + (0 + (k : Nat))) 2) = some (.int (if mixV ds (7 + (0 + (k : Nat))) 2 = 0 then 4 else 90)) := by
              have : mixV ds (7 + (0 + (k : Nat))) 2 = 0 ∨ mixV ds (7 + (0 + (k : Nat))) 2 = 1 := by omega
              rcases this with h | h <;> rw [h] <;> rfl
            simp only [M.exec, ev, evT, evs, evP, evI, evIF, evAnd, evOr, evAndV, evOrV, evTs, evF_q, evF'_int, evF'_bl, evF'_str, evF'_non, evF'_n, evF'_al, evF'_bo, evF'_err, evF'_stuck, evS_q, evS'_int, evS'_bl, evS'_str, evS'_n, evS'_al, frzV_nil, frzV_cons, frz1, evars, evarss, evarsI, gd_T, gdO_T, nl_int, nl_bl, nl_str, nl_non, nl_nd, isBo_int, isBo_bl, isBo_str, isBo_non, isBo_n, isBo_al, isBo_nd, vw1_int, vw1_bl, vw1_str, vw1_non, vw1_0, vw1_1, vw1_one, vw1_al, vw1_none, vw_nil, vw_cons, bind_o, bind_e, bind_s, toOut_o, toOut_e, pure_o, cl_int, cl_bl, cl_str, cl_non, cl_al, cl_n, setS, appF, sbF, isApp, neEs_c, callL_al, blt_len, blt_int, blt_abs, blt_max, blt_min, blt_list, blt_tuple, blt_sum, blt_any, blt_all, blt_str, blt_repr, b_len_lst, b_len_lk, b_len_tup, b_int, b_int_bl, b_abs, b_max, b_min, b_list, c_eq_int, c_ne_int, c_eq_str, c_ne_str, c_lt, c_le, c_gt, c_ge, k_lt, k_le, k_gt, k_ge, obl_o, o_add, o_sub, o_mul, o_fdiv, o_mod, o_pow, o_cat, o_rep, M.ix_lst, M.ix_lk, M.ix_tup, frz_n0, frz_bo, frz_al, frz_n1, x_nil, Vd, truD, D.asL, D.asQ, D.asT, opR, opS, List.set, List.map, List.getElem?_cons_zero, List.getElem?_cons_succ, Out.nx.injEq, exists_eq_left', exists_eq_left, Bool.false_eq_true, if_false, if_true, Lv.own, Bool.not_true, Bool.not_false, ite_true, ite_false, reduceIte, bdG, bdGs, callD1, cp, lf, flat_int, callL, List.any_cons, List.any_nil, Bool.or_false, Bool.false_or, Bool.true_or, nmin_00, nmin_01, nmin_10, nmin_11, wl_int, wl_str, wl_bl, wl_non, wl_n, ne_ints, eq_ints, Lv.up, Lv.min, mnL, dsp, List.map_cons, List.map_nil, eq_self, Option.map_some, D.v, List.length_map, wipeE, c_law_law_mix, s2, a1, s3, s4, a2, z2, List.length_cons, List.length_nil]
            rfl
          let L : List Int := (List.range 3).map g ++ (List.range ys.length).map fun i => (0 + (i : Nat) : Int)
          have hL : ∀ x ∈ L, x.natAbs ≤ 300 := fun x hx => by
            rcases List.mem_append.mp hx with h | h
            · obtain ⟨k, _, rfl⟩ := List.mem_map.mp h
              exact hg k
            · obtain ⟨k, hk, rfl⟩ := List.mem_map.mp h
              have := List.mem_range.mp hk
              show (0 + (k : Int)).natAbs ≤ 300
              omega
          have e2 : L.map D.int = (List.range 3).map (fun k => D.int (g k)) ++ (List.range ys.length).map (fun i => D.int (0 + (i : Nat))) := by
            show List.map D.int (_ ++ _) = _
            rw [List.map_append, List.map_map, List.map_map]
            rfl
          have hrg : RgOk 0 (ys.length : Int) = True := eq_true (RgOk.of_le (by omega) (by omega) (by omega) (by omega))
          have hsub : ((ys.length : Int) - 0).toNat = ys.length := by omega
          refine xs_fold (ρ0 := ?wv) (fun z : Int => D.int z) (fun (_ : Unit) ρ => ∃ (u8 : Option DL), ρ = [some (S, .n 0), some (I ds, .n 0), some (.int t, .n 0), some (I ys, .n 1), u4, u5, some (.str (shI ys), .n 0), u7, u8, u9, u10, u11, u12, u13, u14, none]) (fun _ _ => ()) L () ?ev rfl ?hv ?sv ?kv
          case ev =>
            refine evIF_of ?_
            rw [ev_bin, e1, bind_o]
            have hl3 : ((List.range 3).length + (List.range ys.length).length ≤ sizeLine) = True := eq_true (Nat.le_of_lt (sz_lt (by rw [List.length_range, List.length_range]; omega)))
            have hfl : flat (L.map D.int) = true := flat_int
            rw [e2] at hfl ⊢
            simp only [M.exec, ev, evT, evs, evP, evI, evIF, evAnd, evOr, evAndV, evOrV, evTs, evF_q, evF'_int, evF'_bl, evF'_str, evF'_non, evF'_n, evF'_al, evF'_bo, evF'_err, evF'_stuck, evS_q, evS'_int, evS'_bl, evS'_str, evS'_n, evS'_al, frzV_nil, frzV_cons, frz1, evars, evarss, evarsI, gd_T, gdO_T, nl_int, nl_bl, nl_str, nl_non, nl_nd, isBo_int, isBo_bl, isBo_str, isBo_non, isBo_n, isBo_al, isBo_nd, vw1_int, vw1_bl, vw1_str, vw1_non, vw1_0, vw1_1, vw1_one, vw1_al, vw1_none, vw_nil, vw_cons, bind_o, bind_e, bind_s, toOut_o, toOut_e, pure_o, cl_int, cl_bl, cl_str, cl_non, cl_al, cl_n, setS, appF, sbF, isApp, neEs_c, callL_al, blt_len, blt_int, blt_abs, blt_max, blt_min, blt_list, blt_tuple, blt_sum, blt_any, blt_all, blt_str, blt_repr, b_len_lst, b_len_lk, b_len_tup, b_int, b_int_bl, b_abs, b_max, b_min, b_list, c_eq_int, c_ne_int, c_eq_str, c_ne_str, c_lt, c_le, c_gt, c_ge, k_lt, k_le, k_gt, k_ge, obl_o, o_add, o_sub, o_mul, o_fdiv, o_mod, o_pow, o_cat, o_rep, M.ix_lst, M.ix_lk, M.ix_tup, frz_n0, frz_bo, frz_al, frz_n1, x_nil, Vd, truD, D.asL, D.asQ, D.asT, opR, opS, List.set, List.map, List.getElem?_cons_zero, List.getElem?_cons_succ, Out.nx.injEq, exists_eq_left', exists_eq_left, Bool.false_eq_true, if_false, if_true, Lv.own, Bool.not_true, Bool.not_false, ite_true, ite_false, reduceIte, bdG, bdGs, callD1, cp, lf, flat_int, callL, List.any_cons, List.any_nil, Bool.or_false, Bool.false_or, Bool.true_or, nmin_00, nmin_01, nmin_10, nmin_11, wl_int, wl_str, wl_bl, wl_non, wl_n, ne_ints, eq_ints, Lv.up, Lv.min, mnL, dsp, List.map_cons, List.map_nil, eq_self, Option.map_some, D.v, List.length_map, callE_b B_law, opRg, hrg, hsub, hl3, hfl]
          case hv => exact ⟨_, rfl⟩
          case sv =>
            rintro _ ρ x hx ⟨u8, rfl⟩
            refine ⟨_, rfl, ?_⟩
            have hx := hL x hx
            have v1 := S_value_at ys x hs ⟨by omega, by omega⟩
            have v2 := S_lvalue ys x (by omega) (by omega) ⟨by omega, by omega⟩
            exact xs_iff (Q := fun ρ => ρ = [some (S, .n 0), some (I ds, .n 0), some (.int t, .n 0), some (I ys, .n 1), u4, u5, some (.str (shI ys), .n 0), u7, some (.int x, .n 0), u9, u10, u11, u12, u13, u14, none]) (by simp only [M.exec, ev, evT, evs, evP, evI, evIF, evAnd, evOr, evAndV, evOrV, evTs, evF_q, evF'_int, evF'_bl, evF'_str, evF'_non, evF'_n, evF'_al, evF'_bo, evF'_err, evF'_stuck, evS_q, evS'_int, evS'_bl, evS'_str, evS'_n, evS'_al, frzV_nil, frzV_cons, frz1, evars, evarss, evarsI, gd_T, gdO_T, nl_int, nl_bl, nl_str, nl_non, nl_nd, isBo_int, isBo_bl, isBo_str, isBo_non, isBo_n, isBo_al, isBo_nd, vw1_int, vw1_bl, vw1_str, vw1_non, vw1_0, vw1_1, vw1_one, vw1_al, vw1_none, vw_nil, vw_cons, bind_o, bind_e, bind_s, toOut_o, toOut_e, pure_o, cl_int, cl_bl, cl_str, cl_non, cl_al, cl_n, setS, appF, sbF, isApp, neEs_c, callL_al, blt_len, blt_int, blt_abs, blt_max, blt_min, blt_list, blt_tuple, blt_sum, blt_any, blt_all, blt_str, blt_repr, b_len_lst, b_len_lk, b_len_tup, b_int, b_int_bl, b_abs, b_max, b_min, b_list, c_eq_int, c_ne_int, c_eq_str, c_ne_str, c_lt, c_le, c_gt, c_ge, k_lt, k_le, k_gt, k_ge, obl_o, o_add, o_sub, o_mul, o_fdiv, o_mod, o_pow, o_cat, o_rep, M.ix_lst, M.ix_lk, M.ix_tup, frz_n0, frz_bo, frz_al, frz_n1, x_nil, Vd, truD, D.asL, D.asQ, D.asT, opR, opS, List.set, List.map, List.getElem?_cons_zero, List.getElem?_cons_succ, Out.nx.injEq, exists_eq_left', exists_eq_left, Bool.false_eq_true, if_false, if_true, Lv.own, Bool.not_true, Bool.not_false, ite_true, ite_false, reduceIte, bdG, bdGs, callD1, cp, lf, flat_int, callL, List.any_cons, List.any_nil, Bool.or_false, Bool.false_or, Bool.true_or, nmin_00, nmin_01, nmin_10, nmin_11, wl_int, wl_str, wl_bl, wl_non, wl_n, ne_ints, eq_ints, Lv.up, Lv.min, mnL, dsp, List.map_cons, List.map_nil, eq_self, Option.map_some, D.v, List.length_map, c_law_value_at, c_law_law_value, v1, v2, decide_true]) (xs_nil rfl) fun ρ h => xs_nil ⟨_, h⟩
          case kv =>
            rintro ρ ⟨u8, rfl⟩
            -- the row itself
            have hr5 : (-(2 ^ 62) ≤ (ys.length : Int) ∧ (ys.length : Int) < 2 ^ 62) = True := eq_true ⟨by omega, by omega⟩
            have e3 : (List.range ys.length).map (fun k => D.int (V ys (0 + (k : Nat)) 0)) = ys.map D.int := by
              refine List.ext_getElem? fun k => ?_
              rw [List.getElem?_map, List.getElem?_map]
              by_cases h : k < ys.length
              · rw [List.getElem?_range h, List.getElem?_eq_getElem h]
                show some (D.int (V ys (0 + (k : Nat)) 0)) = some (D.int ys[k])
                rw [Int.zero_add, V_at ys k 0 (by omega)]
                unfold dk
                show some (D.int (ys[k]?.getD 0)) = _
                rw [List.getElem?_eq_getElem h]
                rfl
              · rw [List.getElem?_eq_none (by rw [List.length_range]; omega), List.getElem?_eq_none (by omega)]
                rfl
            refine xs_iff (Q := fun ρ => ρ = [some (S, .n 0), some (I ds, .n 0), some (.int t, .n 0), some (I ys, .n 1), u4, u5, some (.str (shI ys), .n 0), u7, u8, u9, u10, u11, u12, u13, u14, none])
              (evT_cmp_o (y := (I ys, .bo)) (ev_lcS (l := .n 0) (fun k : Nat => D.int (0 + (k : Nat))) (fun k => D.int (V ys (0 + (k : Nat)) 0)) (List.range ys.length) (by simp only [M.exec, ev, evT, evs, evP, evI, evIF, evAnd, evOr, evAndV, evOrV, evTs, evF_q, evF'_int, evF'_bl, evF'_str, evF'_non, evF'_n, evF'_al, evF'_bo, evF'_err, evF'_stuck, evS_q, evS'_int, evS'_bl, evS'_str, evS'_n, evS'_al, frzV_nil, frzV_cons, frz1, evars, evarss, evarsI, gd_T, gdO_T, nl_int, nl_bl, nl_str, nl_non, nl_nd, isBo_int, isBo_bl, isBo_str, isBo_non, isBo_n, isBo_al, isBo_nd, vw1_int, vw1_bl, vw1_str, vw1_non, vw1_0, vw1_1, vw1_one, vw1_al, vw1_none, vw_nil, vw_cons, bind_o, bind_e, bind_s, toOut_o, toOut_e, pure_o, cl_int, cl_bl, cl_str, cl_non, cl_al, cl_n, setS, appF, sbF, isApp, neEs_c, callL_al, blt_len, blt_int, blt_abs, blt_max, blt_min, blt_list, blt_tuple, blt_sum, blt_any, blt_all, blt_str, blt_repr, b_len_lst, b_len_lk, b_len_tup, b_int, b_int_bl, b_abs, b_max, b_min, b_list, c_eq_int, c_ne_int, c_eq_str, c_ne_str, c_lt, c_le, c_gt, c_ge, k_lt, k_le, k_gt, k_ge, obl_o, o_add, o_sub, o_mul, o_fdiv, o_mod, o_pow, o_cat, o_rep, M.ix_lst, M.ix_lk, M.ix_tup, frz_n0, frz_bo, frz_al, frz_n1, x_nil, Vd, truD, D.asL, D.asQ, D.asT, opR, opS, List.set, List.map, List.getElem?_cons_zero, List.getElem?_cons_succ, Out.nx.injEq, exists_eq_left', exists_eq_left, Bool.false_eq_true, if_false, if_true, Lv.own, Bool.not_true, Bool.not_false, ite_true, ite_false, reduceIte, bdG, bdGs, callD1, cp, lf, flat_int, callL, List.any_cons, List.any_nil, Bool.or_false, Bool.false_or, Bool.true_or, nmin_00, nmin_01, nmin_10, nmin_11, wl_int, wl_str, wl_bl, wl_non, wl_n, ne_ints, eq_ints, Lv.up, Lv.min, mnL, dsp, List.map_cons, List.map_nil, eq_self, Option.map_some, D.v, List.length_map, callE_b B_law, hr5, Int.toNat_natCast]) rfl ?hrow (fun _ _ => rfl) (by rw [List.length_range]; exact Nat.le_of_lt (sz_lt (by omega)))) (by simp only [M.exec, ev, evT, evs, evP, evI, evIF, evAnd, evOr, evAndV, evOrV, evTs, evF_q, evF'_int, evF'_bl, evF'_str, evF'_non, evF'_n, evF'_al, evF'_bo, evF'_err, evF'_stuck, evS_q, evS'_int, evS'_bl, evS'_str, evS'_n, evS'_al, frzV_nil, frzV_cons, frz1, evars, evarss, evarsI, gd_T, gdO_T, nl_int, nl_bl, nl_str, nl_non, nl_nd, isBo_int, isBo_bl, isBo_str, isBo_non, isBo_n, isBo_al, isBo_nd, vw1_int, vw1_bl, vw1_str, vw1_non, vw1_0, vw1_1, vw1_one, vw1_al, vw1_none, vw_nil, vw_cons, bind_o, bind_e, bind_s, toOut_o, toOut_e, pure_o, cl_int, cl_bl, cl_str, cl_non, cl_al, cl_n, setS, appF, sbF, isApp, neEs_c, callL_al, blt_len, blt_int, blt_abs, blt_max, blt_min, blt_list, blt_tuple, blt_sum, blt_any, blt_all, blt_str, blt_repr, b_len_lst, b_len_lk, b_len_tup, b_int, b_int_bl, b_abs, b_max, b_min, b_list, c_eq_int, c_ne_int, c_eq_str, c_ne_str, c_lt, c_le, c_gt, c_ge, k_lt, k_le, k_gt, k_ge, obl_o, o_add, o_sub, o_mul, o_fdiv, o_mod, o_pow, o_cat, o_rep, M.ix_lst, M.ix_lk, M.ix_tup, frz_n0, frz_bo, frz_al, frz_n1, x_nil, Vd, truD, D.asL, D.asQ, D.asT, opR, opS, List.set, List.map, List.getElem?_cons_zero, List.getElem?_cons_succ, Out.nx.injEq, exists_eq_left', exists_eq_left, Bool.false_eq_true, if_false, if_true, Lv.own, Bool.not_true, Bool.not_false, ite_true, ite_false, reduceIte, bdG, bdGs, callD1, cp, lf, flat_int, callL, List.any_cons, List.any_nil, Bool.or_false, Bool.false_or, Bool.true_or, nmin_00, nmin_01, nmin_10, nmin_11, wl_int, wl_str, wl_bl, wl_non, wl_n, ne_ints, eq_ints, Lv.up, Lv.min, mnL, dsp, List.map_cons, List.map_nil, eq_self, Option.map_some, D.v, List.length_map]) ?hcmp) (xs_nil rfl) ?knext
            case hrow =>
              intro k hk
              have hk := List.mem_range.mp hk
              refine ⟨_, rfl, ?_⟩
              have v1 := S_value_at ys (0 + (k : Nat)) hs ⟨by omega, by omega⟩
              simp only [M.exec, ev, evT, evs, evP, evI, evIF, evAnd, evOr, evAndV, evOrV, evTs, evF_q, evF'_int, evF'_bl, evF'_str, evF'_non, evF'_n, evF'_al, evF'_bo, evF'_err, evF'_stuck, evS_q, evS'_int, evS'_bl, evS'_str, evS'_n, evS'_al, frzV_nil, frzV_cons, frz1, evars, evarss, evarsI, gd_T, gdO_T, nl_int, nl_bl, nl_str, nl_non, nl_nd, isBo_int, isBo_bl, isBo_str, isBo_non, isBo_n, isBo_al, isBo_nd, vw1_int, vw1_bl, vw1_str, vw1_non, vw1_0, vw1_1, vw1_one, vw1_al, vw1_none, vw_nil, vw_cons, bind_o, bind_e, bind_s, toOut_o, toOut_e, pure_o, cl_int, cl_bl, cl_str, cl_non, cl_al, cl_n, setS, appF, sbF, isApp, neEs_c, callL_al, blt_len, blt_int, blt_abs, blt_max, blt_min, blt_list, blt_tuple, blt_sum, blt_any, blt_all, blt_str, blt_repr, b_len_lst, b_len_lk, b_len_tup, b_int, b_int_bl, b_abs, b_max, b_min, b_list, c_eq_int, c_ne_int, c_eq_str, c_ne_str, c_lt, c_le, c_gt, c_ge, k_lt, k_le, k_gt, k_ge, obl_o, o_add, o_sub, o_mul, o_fdiv, o_mod, o_pow, o_cat, o_rep, M.ix_lst, M.ix_lk, M.ix_tup, frz_n0, frz_bo, frz_al, frz_n1, x_nil, Vd, truD, D.asL, D.asQ, D.asT, opR, opS, List.set, List.map, List.getElem?_cons_zero, List.getElem?_cons_succ, Out.nx.injEq, exists_eq_left', exists_eq_left, Bool.false_eq_true, if_false, if_true, Lv.own, Bool.not_true, Bool.not_false, ite_true, ite_false, reduceIte, bdG, bdGs, callD1, cp, lf, flat_int, callL, List.any_cons, List.any_nil, Bool.or_false, Bool.false_or, Bool.true_or, nmin_00, nmin_01, nmin_10, nmin_11, wl_int, wl_str, wl_bl, wl_non, wl_n, ne_ints, eq_ints, Lv.up, Lv.min, mnL, dsp, List.map_cons, List.map_nil, eq_self, Option.map_some, D.v, List.length_map, wipeE, c_law_value_at, v1]
            case hcmp =>
              show opC .ne (.nd .lst ((List.range ys.length).map (fun k => D.int (V ys (0 + (k : Nat)) 0)))) (.nd .lst (ys.map D.int)) = _
              rw [e3, ne_ints]
              simp
            case knext =>
              rintro ρ rfl
              have s5 := S_mix ds (12 + t) 16 (by decide)
              have q5 := mixV_in (ds := ds) (k := 12 + t) (many := 16) (by decide)
              generalize mixV ds (12 + t) 16 = p5 at s5 q5
              have s6 := S_mix ds (15 + t) 60 (by decide)
              have q6 := mixV_in (ds := ds) (k := 15 + t) (many := 60) (by decide)
              generalize mixV ds (15 + t) 60 = p6 at s6 q6
              refine xs_cons (by simp only [M.exec, ev, evT, evs, evP, evI, evIF, evAnd, evOr, evAndV, evOrV, evTs, evF_q, evF'_int, evF'_bl, evF'_str, evF'_non, evF'_n, evF'_al, evF'_bo, evF'_err, evF'_stuck, evS_q, evS'_int, evS'_bl, evS'_str, evS'_n, evS'_al, frzV_nil, frzV_cons, frz1, evars, evarss, evarsI, gd_T, gdO_T, nl_int, nl_bl, nl_str, nl_non, nl_nd, isBo_int, isBo_bl, isBo_str, isBo_non, isBo_n, isBo_al, isBo_nd, vw1_int, vw1_bl, vw1_str, vw1_non, vw1_0, vw1_1, vw1_one, vw1_al, vw1_none, vw_nil, vw_cons, bind_o, bind_e, bind_s, toOut_o, toOut_e, pure_o, cl_int, cl_bl, cl_str, cl_non, cl_al, cl_n, setS, appF, sbF, isApp, neEs_c, callL_al, blt_len, blt_int, blt_abs, blt_max, blt_min, blt_list, blt_tuple, blt_sum, blt_any, blt_all, blt_str, blt_repr, b_len_lst, b_len_lk, b_len_tup, b_int, b_int_bl, b_abs, b_max, b_min, b_list, c_eq_int, c_ne_int, c_eq_str, c_ne_str, c_lt, c_le, c_gt, c_ge, k_lt, k_le, k_gt, k_ge, obl_o, o_add, o_sub, o_mul, o_fdiv, o_mod, o_pow, o_cat, o_rep, M.ix_lst, M.ix_lk, M.ix_tup, frz_n0, frz_bo, frz_al, frz_n1, x_nil, Vd, truD, D.asL, D.asQ, D.asT, opR, opS, List.set, List.map, List.getElem?_cons_zero, List.getElem?_cons_succ, Out.nx.injEq, exists_eq_left', exists_eq_left, Bool.false_eq_true, if_false, if_true, Lv.own, Bool.not_true, Bool.not_false, ite_true, ite_false, reduceIte, bdG, bdGs, callD1, cp, lf, flat_int, callL, List.any_cons, List.any_nil, Bool.or_false, Bool.false_or, Bool.true_or, nmin_00, nmin_01, nmin_10, nmin_11, wl_int, wl_str, wl_bl, wl_non, wl_n, ne_ints, eq_ints, Lv.up, Lv.min, mnL, dsp, List.map_cons, List.map_nil, eq_self, Option.map_some, D.v, List.length_map, c_law_law_mix, s5, s6, h_law_9, h_law_8]; rfl) ?_
              have hw : 1 ≤ 1 + p5 ∧ 1 + p5 ≤ 16 := ⟨by omega, by omega⟩
              generalize 1 + p5 = w at hw
              have hx : -(2 ^ 20) < p6 - 30 ∧ p6 - 30 < 2 ^ 20 := ⟨by omega, by omega⟩
              generalize p6 - 30 = x at hx
              have hl8 : 1 ≤ (ys.length : Int) ∧ (ys.length : Int) ≤ 8 := ⟨by omega, by omega⟩
              refine xs_fold (ρ0 := ?wm) (fun hv : Bool => D.str (wy hv)) (fun (_ : Unit) ρ => ∃ (u10 u11 u12 u13 u14 : Option DL), ρ = [some (S, .n 0), some (I ds, .n 0), some (.int t, .n 0), some (I ys, .n 1), u4, u5, some (.str (shI ys), .n 0), u7, some (.int x, .n 0), some (.int w, .n 0), u10, u11, u12, u13, u14, none]) (fun _ _ => ()) [true, false] () ?em rfl ?hm ?sm ?km
              case em =>
                refine evIF_of ?_
                simp only [M.exec, ev, evT, evs, evP, evI, evIF, evAnd, evOr, evAndV, evOrV, evTs, evF_q, evF'_int, evF'_bl, evF'_str, evF'_non, evF'_n, evF'_al, evF'_bo, evF'_err, evF'_stuck, evS_q, evS'_int, evS'_bl, evS'_str, evS'_n, evS'_al, frzV_nil, frzV_cons, frz1, evars, evarss, evarsI, gd_T, gdO_T, nl_int, nl_bl, nl_str, nl_non, nl_nd, isBo_int, isBo_bl, isBo_str, isBo_non, isBo_n, isBo_al, isBo_nd, vw1_int, vw1_bl, vw1_str, vw1_non, vw1_0, vw1_1, vw1_one, vw1_al, vw1_none, vw_nil, vw_cons, bind_o, bind_e, bind_s, toOut_o, toOut_e, pure_o, cl_int, cl_bl, cl_str, cl_non, cl_al, cl_n, setS, appF, sbF, isApp, neEs_c, callL_al, blt_len, blt_int, blt_abs, blt_max, blt_min, blt_list, blt_tuple, blt_sum, blt_any, blt_all, blt_str, blt_repr, b_len_lst, b_len_lk, b_len_tup, b_int, b_int_bl, b_abs, b_max, b_min, b_list, c_eq_int, c_ne_int, c_eq_str, c_ne_str, c_lt, c_le, c_gt, c_ge, k_lt, k_le, k_gt, k_ge, obl_o, o_add, o_sub, o_mul, o_fdiv, o_mod, o_pow, o_cat, o_rep, M.ix_lst, M.ix_lk, M.ix_tup, frz_n0, frz_bo, frz_al, frz_n1, x_nil, Vd, truD, D.asL, D.asQ, D.asT, opR, opS, List.set, List.map, List.getElem?_cons_zero, List.getElem?_cons_succ, Out.nx.injEq, exists_eq_left', exists_eq_left, Bool.false_eq_true, if_false, if_true, Lv.own, Bool.not_true, Bool.not_false, ite_true, ite_false, reduceIte, bdG, bdGs, callD1, cp, lf, flat_int, callL, List.any_cons, List.any_nil, Bool.or_false, Bool.false_or, Bool.true_or, nmin_00, nmin_01, nmin_10, nmin_11, wl_int, wl_str, wl_bl, wl_non, wl_n, ne_ints, eq_ints, Lv.up, Lv.min, mnL, dsp, List.map_cons, List.map_nil, eq_self, Option.map_some, D.v, List.length_map, z2, List.length_cons, List.length_nil]
                rfl
              case hm => exact ⟨_, _, _, _, _, rfl⟩
              case km =>
                rintro ρ ⟨u10, u11, u12, u13, u14, rfl⟩
                exact xs_nil ⟨_, _, _, _, _, _, _, _, _, _, _, _, _, rfl⟩
              case sm =>
                rintro _ ρ hv _ ⟨u10, u11, u12, u13, u14, rfl⟩
                refine ⟨_, rfl, ?_⟩
                have hdw : decide (wy hv = ("halves" : Str)) = hv := by cases hv <;> rfl
                have hnw : opC .notin (.str (wy hv)) ways = .ok (.bl false) := by cases hv <;> exact (notin_w _).trans (by rfl)
                refine xs_cons (by simp only [M.exec, ev, evT, evs, evP, evI, evIF, evAnd, evOr, evAndV, evOrV, evTs, evF_q, evF'_int, evF'_bl, evF'_str, evF'_non, evF'_n, evF'_al, evF'_bo, evF'_err, evF'_stuck, evS_q, evS'_int, evS'_bl, evS'_str, evS'_n, evS'_al, frzV_nil, frzV_cons, frz1, evars, evarss, evarsI, gd_T, gdO_T, nl_int, nl_bl, nl_str, nl_non, nl_nd, isBo_int, isBo_bl, isBo_str, isBo_non, isBo_n, isBo_al, isBo_nd, vw1_int, vw1_bl, vw1_str, vw1_non, vw1_0, vw1_1, vw1_one, vw1_al, vw1_none, vw_nil, vw_cons, bind_o, bind_e, bind_s, toOut_o, toOut_e, pure_o, cl_int, cl_bl, cl_str, cl_non, cl_al, cl_n, setS, appF, sbF, isApp, neEs_c, callL_al, blt_len, blt_int, blt_abs, blt_max, blt_min, blt_list, blt_tuple, blt_sum, blt_any, blt_all, blt_str, blt_repr, b_len_lst, b_len_lk, b_len_tup, b_int, b_int_bl, b_abs, b_max, b_min, b_list, c_eq_int, c_ne_int, c_eq_str, c_ne_str, c_lt, c_le, c_gt, c_ge, k_lt, k_le, k_gt, k_ge, obl_o, o_add, o_sub, o_mul, o_fdiv, o_mod, o_pow, o_cat, o_rep, M.ix_lst, M.ix_lk, M.ix_tup, frz_n0, frz_bo, frz_al, frz_n1, x_nil, Vd, truD, D.asL, D.asQ, D.asT, opR, opS, List.set, List.map, List.getElem?_cons_zero, List.getElem?_cons_succ, Out.nx.injEq, exists_eq_left', exists_eq_left, Bool.false_eq_true, if_false, if_true, Lv.own, Bool.not_true, Bool.not_false, ite_true, ite_false, reduceIte, bdG, bdGs, callD1, cp, lf, flat_int, callL, List.any_cons, List.any_nil, Bool.or_false, Bool.false_or, Bool.true_or, nmin_00, nmin_01, nmin_10, nmin_11, wl_int, wl_str, wl_bl, wl_non, wl_n, ne_ints, eq_ints, Lv.up, Lv.min, mnL, dsp, List.map_cons, List.map_nil, eq_self, Option.map_some, D.v, List.length_map, h_law_11, List.length_nil, Nat.zero_le]; rfl) ?_
                refine xs_range (ρ0 := ?wk) (n := ys.length) (φ := fun k => D.int (0 + (k : Nat))) (fun i ρ => ∃ (u12 u13 u14 : Option DL), ρ = [some (S, .n 0), some (I ds, .n 0), some (.int t, .n 0), some (I ys, .n 1), u4, u5, some (.str (shI ys), .n 0), u7, some (.int x, .n 0), some (.int w, .n 0), some (.str (wy hv), .n 0), some (.nd .lst ((List.range i).map fun k => I (ld ys w x hv k)), .n 1), u12, u13, u14, none]) ?ek ?hk ?sk ?kk
                case ek => simp only [M.exec, ev, evT, evs, evP, evI, evIF, evAnd, evOr, evAndV, evOrV, evTs, evF_q, evF'_int, evF'_bl, evF'_str, evF'_non, evF'_n, evF'_al, evF'_bo, evF'_err, evF'_stuck, evS_q, evS'_int, evS'_bl, evS'_str, evS'_n, evS'_al, frzV_nil, frzV_cons, frz1, evars, evarss, evarsI, gd_T, gdO_T, nl_int, nl_bl, nl_str, nl_non, nl_nd, isBo_int, isBo_bl, isBo_str, isBo_non, isBo_n, isBo_al, isBo_nd, vw1_int, vw1_bl, vw1_str, vw1_non, vw1_0, vw1_1, vw1_one, vw1_al, vw1_none, vw_nil, vw_cons, bind_o, bind_e, bind_s, toOut_o, toOut_e, pure_o, cl_int, cl_bl, cl_str, cl_non, cl_al, cl_n, setS, appF, sbF, isApp, neEs_c, callL_al, blt_len, blt_int, blt_abs, blt_max, blt_min, blt_list, blt_tuple, blt_sum, blt_any, blt_all, blt_str, blt_repr, b_len_lst, b_len_lk, b_len_tup, b_int, b_int_bl, b_abs, b_max, b_min, b_list, c_eq_int, c_ne_int, c_eq_str, c_ne_str, c_lt, c_le, c_gt, c_ge, k_lt, k_le, k_gt, k_ge, obl_o, o_add, o_sub, o_mul, o_fdiv, o_mod, o_pow, o_cat, o_rep, M.ix_lst, M.ix_lk, M.ix_tup, frz_n0, frz_bo, frz_al, frz_n1, x_nil, Vd, truD, D.asL, D.asQ, D.asT, opR, opS, List.set, List.map, List.getElem?_cons_zero, List.getElem?_cons_succ, Out.nx.injEq, exists_eq_left', exists_eq_left, Bool.false_eq_true, if_false, if_true, Lv.own, Bool.not_true, Bool.not_false, ite_true, ite_false, reduceIte, bdG, bdGs, callD1, cp, lf, flat_int, callL, List.any_cons, List.any_nil, Bool.or_false, Bool.false_or, Bool.true_or, nmin_00, nmin_01, nmin_10, nmin_11, wl_int, wl_str, wl_bl, wl_non, wl_n, ne_ints, eq_ints, Lv.up, Lv.min, mnL, dsp, List.map_cons, List.map_nil, eq_self, Option.map_some, D.v, List.length_map, callE_b B_law, hr5, Int.toNat_natCast]; rfl
                case hk => exact ⟨_, _, _, rfl⟩
                case sk =>
                  rintro k ρ hk ⟨u12, u13, u14, rfl⟩
                  refine ⟨_, rfl, ?_⟩
                  have d2 : ∀ z : Int, (CDivN z 2 ∨ CDivW z 2) = True := fun z => eq_true (.inl ⟨by decide, by decide⟩)
                  have m0 : ∀ z : Int, (CMul 0 z ∨ CMulW 0 z) = True := fun z => eq_true (.inl (.inl (by decide)))
                  have m1 : ∀ z : Int, (CMul 1 z ∨ CMulW 1 z) = True := fun z => eq_true (.inl (.inl (by decide)))
                  have hf : -(2 ^ 21) < f0 hv x k ∧ f0 hv x k < 2 ^ 21 := by
                    unfold f0
                    have : (0 + (k : Int)).fdiv 2 = (k : Int) / 2 := by rw [Int.zero_add, Int.fdiv_eq_ediv_of_nonneg _ (by decide)]
                    rw [this]
                    split <;> omega
                  refine xs_cons (ρ1 := [some (S, .n 0), some (I ds, .n 0), some (.int t, .n 0), some (I ys, .n 1), u4, u5, some (.str (shI ys), .n 0), u7, some (.int x, .n 0), some (.int w, .n 0), some (.str (wy hv), .n 0), some (.nd .lst ((List.range k).map fun k => I (ld ys w x hv k)), .n 1), some (.int (0 + (k : Nat)), .n 0), some (.int (f0 hv x k), .n 0), u14, none]) ?_ ?_
                  · unfold f0
                    cases hv
                    · simp only [M.exec, ev, evT, evs, evP, evI, evIF, evAnd, evOr, evAndV, evOrV, evTs, evF_q, evF'_int, evF'_bl, evF'_str, evF'_non, evF'_n, evF'_al, evF'_bo, evF'_err, evF'_stuck, evS_q, evS'_int, evS'_bl, evS'_str, evS'_n, evS'_al, frzV_nil, frzV_cons, frz1, evars, evarss, evarsI, gd_T, gdO_T, nl_int, nl_bl, nl_str, nl_non, nl_nd, isBo_int, isBo_bl, isBo_str, isBo_non, isBo_n, isBo_al, isBo_nd, vw1_int, vw1_bl, vw1_str, vw1_non, vw1_0, vw1_1, vw1_one, vw1_al, vw1_none, vw_nil, vw_cons, bind_o, bind_e, bind_s, toOut_o, toOut_e, pure_o, cl_int, cl_bl, cl_str, cl_non, cl_al, cl_n, setS, appF, sbF, isApp, neEs_c, callL_al, blt_len, blt_int, blt_abs, blt_max, blt_min, blt_list, blt_tuple, blt_sum, blt_any, blt_all, blt_str, blt_repr, b_len_lst, b_len_lk, b_len_tup, b_int, b_int_bl, b_abs, b_max, b_min, b_list, c_eq_int, c_ne_int, c_eq_str, c_ne_str, c_lt, c_le, c_gt, c_ge, k_lt, k_le, k_gt, k_ge, obl_o, o_add, o_sub, o_mul, o_fdiv, o_mod, o_pow, o_cat, o_rep, M.ix_lst, M.ix_lk, M.ix_tup, frz_n0, frz_bo, frz_al, frz_n1, x_nil, Vd, truD, D.asL, D.asQ, D.asT, opR, opS, List.set, List.map, List.getElem?_cons_zero, List.getElem?_cons_succ, Out.nx.injEq, exists_eq_left', exists_eq_left, Bool.false_eq_true, if_false, if_true, Lv.own, Bool.not_true, Bool.not_false, ite_true, ite_false, reduceIte, bdG, bdGs, callD1, cp, lf, flat_int, callL, List.any_cons, List.any_nil, Bool.or_false, Bool.false_or, Bool.true_or, nmin_00, nmin_01, nmin_10, nmin_11, wl_int, wl_str, wl_bl, wl_non, wl_n, ne_ints, eq_ints, Lv.up, Lv.min, mnL, dsp, List.map_cons, List.map_nil, eq_self, Option.map_some, D.v, List.length_map, callE_b B_law, hdw, d2, m0, m1, h_law_13, Int.zero_mul, Int.sub_zero]
                    · simp only [M.exec, ev, evT, evs, evP, evI, evIF, evAnd, evOr, evAndV, evOrV, evTs, evF_q, evF'_int, evF'_bl, evF'_str, evF'_non, evF'_n, evF'_al, evF'_bo, evF'_err, evF'_stuck, evS_q, evS'_int, evS'_bl, evS'_str, evS'_n, evS'_al, frzV_nil, frzV_cons, frz1, evars, evarss, evarsI, gd_T, gdO_T, nl_int, nl_bl, nl_str, nl_non, nl_nd, isBo_int, isBo_bl, isBo_str, isBo_non, isBo_n, isBo_al, isBo_nd, vw1_int, vw1_bl, vw1_str, vw1_non, vw1_0, vw1_1, vw1_one, vw1_al, vw1_none, vw_nil, vw_cons, bind_o, bind_e, bind_s, toOut_o, toOut_e, pure_o, cl_int, cl_bl, cl_str, cl_non, cl_al, cl_n, setS, appF, sbF, isApp, neEs_c, callL_al, blt_len, blt_int, blt_abs, blt_max, blt_min, blt_list, blt_tuple, blt_sum, blt_any, blt_all, blt_str, blt_repr, b_len_lst, b_len_lk, b_len_tup, b_int, b_int_bl, b_abs, b_max, b_min, b_list, c_eq_int, c_ne_int, c_eq_str, c_ne_str, c_lt, c_le, c_gt, c_ge, k_lt, k_le, k_gt, k_ge, obl_o, o_add, o_sub, o_mul, o_fdiv, o_mod, o_pow, o_cat, o_rep, M.ix_lst, M.ix_lk, M.ix_tup, frz_n0, frz_bo, frz_al, frz_n1, x_nil, Vd, truD, D.asL, D.asQ, D.asT, opR, opS, List.set, List.map, List.getElem?_cons_zero, List.getElem?_cons_succ, Out.nx.injEq, exists_eq_left', exists_eq_left, Bool.false_eq_true, if_false, if_true, Lv.own, Bool.not_true, Bool.not_false, ite_true, ite_false, reduceIte, bdG, bdGs, callD1, cp, lf, flat_int, callL, List.any_cons, List.any_nil, Bool.or_false, Bool.false_or, Bool.true_or, nmin_00, nmin_01, nmin_10, nmin_11, wl_int, wl_str, wl_bl, wl_non, wl_n, ne_ints, eq_ints, Lv.up, Lv.min, mnL, dsp, List.map_cons, List.map_nil, eq_self, Option.map_some, D.v, List.length_map, callE_b B_law, hdw, d2, m0, m1, h_law_13, Int.one_mul]
                  have hr2 : (-(2 ^ 62) ≤ (0 + (k : Int) + 1) ∧ (0 + (k : Int) + 1) < 2 ^ 62) = True := eq_true ⟨by omega, by omega⟩
                  have ht : (0 + (k : Int) + 1).toNat = k + 1 := by omega
                  have hdig : ld ys w x hv k = dig 10 (dk (rowV ys (f0 hv x k) k) k 0) w.toNat := rfl
                  refine xs_cons (ρ1 := [some (S, .n 0), some (I ds, .n 0), some (.int t, .n 0), some (I ys, .n 1), u4, u5, some (.str (shI ys), .n 0), u7, some (.int x, .n 0), some (.int w, .n 0), some (.str (wy hv), .n 0), some (.nd .lst ((List.range k).map fun k => I (ld ys w x hv k)), .n 1), some (.int (0 + (k : Nat)), .n 0), some (.int (f0 hv x k), .n 0), some (I (rowV ys (f0 hv x k) k), .n 0), none]) ?row ?_
                  case row =>
                    refine (x_asg (ev_lcS (l := .n 0) (fun j : Nat => D.int (0 + (j : Nat))) (fun j => .int (V ys (f0 hv x k + (0 + (j : Nat))) 0)) (List.range (k + 1)) ?he rfl ?hh (fun _ _ => rfl) ?hz) isBo_al).trans ?hq
                    case he => simp only [M.exec, ev, evT, evs, evP, evI, evIF, evAnd, evOr, evAndV, evOrV, evTs, evF_q, evF'_int, evF'_bl, evF'_str, evF'_non, evF'_n, evF'_al, evF'_bo, evF'_err, evF'_stuck, evS_q, evS'_int, evS'_bl, evS'_str, evS'_n, evS'_al, frzV_nil, frzV_cons, frz1, evars, evarss, evarsI, gd_T, gdO_T, nl_int, nl_bl, nl_str, nl_non, nl_nd, isBo_int, isBo_bl, isBo_str, isBo_non, isBo_n, isBo_al, isBo_nd, vw1_int, vw1_bl, vw1_str, vw1_non, vw1_0, vw1_1, vw1_one, vw1_al, vw1_none, vw_nil, vw_cons, bind_o, bind_e, bind_s, toOut_o, toOut_e, pure_o, cl_int, cl_bl, cl_str, cl_non, cl_al, cl_n, setS, appF, sbF, isApp, neEs_c, callL_al, blt_len, blt_int, blt_abs, blt_max, blt_min, blt_list, blt_tuple, blt_sum, blt_any, blt_all, blt_str, blt_repr, b_len_lst, b_len_lk, b_len_tup, b_int, b_int_bl, b_abs, b_max, b_min, b_list, c_eq_int, c_ne_int, c_eq_str, c_ne_str, c_lt, c_le, c_gt, c_ge, k_lt, k_le, k_gt, k_ge, obl_o, o_add, o_sub, o_mul, o_fdiv, o_mod, o_pow, o_cat, o_rep, M.ix_lst, M.ix_lk, M.ix_tup, frz_n0, frz_bo, frz_al, frz_n1, x_nil, Vd, truD, D.asL, D.asQ, D.asT, opR, opS, List.set, List.map, List.getElem?_cons_zero, List.getElem?_cons_succ, Out.nx.injEq, exists_eq_left', exists_eq_left, Bool.false_eq_true, if_false, if_true, Lv.own, Bool.not_true, Bool.not_false, ite_true, ite_false, reduceIte, bdG, bdGs, callD1, cp, lf, flat_int, callL, List.any_cons, List.any_nil, Bool.or_false, Bool.false_or, Bool.true_or, nmin_00, nmin_01, nmin_10, nmin_11, wl_int, wl_str, wl_bl, wl_non, wl_n, ne_ints, eq_ints, Lv.up, Lv.min, mnL, dsp, List.map_cons, List.map_nil, eq_self, Option.map_some, D.v, List.length_map, hr2, ht]
                    case hh =>
                      intro j hj
                      have hj := List.mem_range.mp hj
                      refine ⟨_, rfl, ?_⟩
                      have sv := S_lvalue ys (f0 hv x k + (0 + (j : Nat))) (by omega) (by omega) ⟨by omega, by omega⟩
                      simp only [M.exec, ev, evT, evs, evP, evI, evIF, evAnd, evOr, evAndV, evOrV, evTs, evF_q, evF'_int, evF'_bl, evF'_str, evF'_non, evF'_n, evF'_al, evF'_bo, evF'_err, evF'_stuck, evS_q, evS'_int, evS'_bl, evS'_str, evS'_n, evS'_al, frzV_nil, frzV_cons, frz1, evars, evarss, evarsI, gd_T, gdO_T, nl_int, nl_bl, nl_str, nl_non, nl_nd, isBo_int, isBo_bl, isBo_str, isBo_non, isBo_n, isBo_al, isBo_nd, vw1_int, vw1_bl, vw1_str, vw1_non, vw1_0, vw1_1, vw1_one, vw1_al, vw1_none, vw_nil, vw_cons, bind_o, bind_e, bind_s, toOut_o, toOut_e, pure_o, cl_int, cl_bl, cl_str, cl_non, cl_al, cl_n, setS, appF, sbF, isApp, neEs_c, callL_al, blt_len, blt_int, blt_abs, blt_max, blt_min, blt_list, blt_tuple, blt_sum, blt_any, blt_all, blt_str, blt_repr, b_len_lst, b_len_lk, b_len_tup, b_int, b_int_bl, b_abs, b_max, b_min, b_list, c_eq_int, c_ne_int, c_eq_str, c_ne_str, c_lt, c_le, c_gt, c_ge, k_lt, k_le, k_gt, k_ge, obl_o, o_add, o_sub, o_mul, o_fdiv, o_mod, o_pow, o_cat, o_rep, M.ix_lst, M.ix_lk, M.ix_tup, frz_n0, frz_bo, frz_al, frz_n1, x_nil, Vd, truD, D.asL, D.asQ, D.asT, opR, opS, List.set, List.map, List.getElem?_cons_zero, List.getElem?_cons_succ, Out.nx.injEq, exists_eq_left', exists_eq_left, Bool.false_eq_true, if_false, if_true, Lv.own, Bool.not_true, Bool.not_false, ite_true, ite_false, reduceIte, bdG, bdGs, callD1, cp, lf, flat_int, callL, List.any_cons, List.any_nil, Bool.or_false, Bool.false_or, Bool.true_or, nmin_00, nmin_01, nmin_10, nmin_11, wl_int, wl_str, wl_bl, wl_non, wl_n, ne_ints, eq_ints, Lv.up, Lv.min, mnL, dsp, List.map_cons, List.map_nil, eq_self, Option.map_some, D.v, List.length_map, wipeE, c_law_law_value, sv]
                    case hz => rw [List.length_range]; exact Nat.le_of_lt (sz_lt (by omega))
                    case hq =>
                      have e2 : I (rowV ys (f0 hv x k) k) = .nd .lst ((List.range (k + 1)).map fun j => D.int (V ys (f0 hv x k + (0 + (j : Nat))) 0)) := by rw [I, rowV, List.map_map]; rfl
                      rw [e2]
                      rfl
                  have s7 := S_ldifferences (rowV ys (f0 hv x k) k) (0 + (k : Nat)) (by omega) (by omega) (by rw [rowV_len]; omega)
                  have hk2 : (0 + (k : Int)).toNat = k := by omega
                  rw [hk2] at s7
                  have a0 := at0 (rowV ys (f0 hv x k) k) k (by rw [rowV_len]; omega)
                  have s8 := S_lshown w (dk (rowV ys (f0 hv x k) k) k 0) hw
                  rw [← hdig] at s8
                  have hlk : ((List.range k).length < sizeLine) = True := eq_true (sz_lt (by rw [List.length_range]; omega))
                  refine xs_cons (by simp only [M.exec, ev, evT, evs, evP, evI, evIF, evAnd, evOr, evAndV, evOrV, evTs, evF_q, evF'_int, evF'_bl, evF'_str, evF'_non, evF'_n, evF'_al, evF'_bo, evF'_err, evF'_stuck, evS_q, evS'_int, evS'_bl, evS'_str, evS'_n, evS'_al, frzV_nil, frzV_cons, frz1, evars, evarss, evarsI, gd_T, gdO_T, nl_int, nl_bl, nl_str, nl_non, nl_nd, isBo_int, isBo_bl, isBo_str, isBo_non, isBo_n, isBo_al, isBo_nd, vw1_int, vw1_bl, vw1_str, vw1_non, vw1_0, vw1_1, vw1_one, vw1_al, vw1_none, vw_nil, vw_cons, bind_o, bind_e, bind_s, toOut_o, toOut_e, pure_o, cl_int, cl_bl, cl_str, cl_non, cl_al, cl_n, setS, appF, sbF, isApp, neEs_c, callL_al, blt_len, blt_int, blt_abs, blt_max, blt_min, blt_list, blt_tuple, blt_sum, blt_any, blt_all, blt_str, blt_repr, b_len_lst, b_len_lk, b_len_tup, b_int, b_int_bl, b_abs, b_max, b_min, b_list, c_eq_int, c_ne_int, c_eq_str, c_ne_str, c_lt, c_le, c_gt, c_ge, k_lt, k_le, k_gt, k_ge, obl_o, o_add, o_sub, o_mul, o_fdiv, o_mod, o_pow, o_cat, o_rep, M.ix_lst, M.ix_lk, M.ix_tup, frz_n0, frz_bo, frz_al, frz_n1, x_nil, Vd, truD, D.asL, D.asQ, D.asT, opR, opS, List.set, List.map, List.getElem?_cons_zero, List.getElem?_cons_succ, Out.nx.injEq, exists_eq_left', exists_eq_left, Bool.false_eq_true, if_false, if_true, Lv.own, Bool.not_true, Bool.not_false, ite_true, ite_false, reduceIte, bdG, bdGs, callD1, cp, lf, flat_int, callL, List.any_cons, List.any_nil, Bool.or_false, Bool.false_or, Bool.true_or, nmin_00, nmin_01, nmin_10, nmin_11, wl_int, wl_str, wl_bl, wl_non, wl_n, ne_ints, eq_ints, Lv.up, Lv.min, mnL, dsp, List.map_cons, List.map_nil, eq_self, Option.map_some, D.v, List.length_map, c_law_law_differences, c_law_law_shown, s7, a0, s8, hlk, wl_al]; rfl) (xs_nil ⟨some (.int (0 + (k : Nat)), .n 0), some (.int (f0 hv x k), .n 0), some (I (rowV ys (f0 hv x k) k), .n 0), ?_⟩)
                  rw [List.range_succ, List.map_append]
                  rfl
                case kk =>
                  rintro ρ ⟨u12, u13, u14, rfl⟩
                  have l1 := L_ok ys w x (wy hv) hv hl8 hs hw hx hnw hdw
                  exact xs_iff (Q := fun ρ => ρ = [some (S, .n 0), some (I ds, .n 0), some (.int t, .n 0), some (I ys, .n 1), u4, u5, some (.str (shI ys), .n 0), u7, some (.int x, .n 0), some (.int w, .n 0), some (.str (wy hv), .n 0), some (.nd .lst ((List.range ys.length).map fun k => I (ld ys w x hv k)), .n 1), u12, u13, u14, none])
                    (by simp only [M.exec, ev, evT, evs, evP, evI, evIF, evAnd, evOr, evAndV, evOrV, evTs, evF_q, evF'_int, evF'_bl, evF'_str, evF'_non, evF'_n, evF'_al, evF'_bo, evF'_err, evF'_stuck, evS_q, evS'_int, evS'_bl, evS'_str, evS'_n, evS'_al, frzV_nil, frzV_cons, frz1, evars, evarss, evarsI, gd_T, gdO_T, nl_int, nl_bl, nl_str, nl_non, nl_nd, isBo_int, isBo_bl, isBo_str, isBo_non, isBo_n, isBo_al, isBo_nd, vw1_int, vw1_bl, vw1_str, vw1_non, vw1_0, vw1_1, vw1_one, vw1_al, vw1_none, vw_nil, vw_cons, bind_o, bind_e, bind_s, toOut_o, toOut_e, pure_o, cl_int, cl_bl, cl_str, cl_non, cl_al, cl_n, setS, appF, sbF, isApp, neEs_c, callL_al, blt_len, blt_int, blt_abs, blt_max, blt_min, blt_list, blt_tuple, blt_sum, blt_any, blt_all, blt_str, blt_repr, b_len_lst, b_len_lk, b_len_tup, b_int, b_int_bl, b_abs, b_max, b_min, b_list, c_eq_int, c_ne_int, c_eq_str, c_ne_str, c_lt, c_le, c_gt, c_ge, k_lt, k_le, k_gt, k_ge, obl_o, o_add, o_sub, o_mul, o_fdiv, o_mod, o_pow, o_cat, o_rep, M.ix_lst, M.ix_lk, M.ix_tup, frz_n0, frz_bo, frz_al, frz_n1, x_nil, Vd, truD, D.asL, D.asQ, D.asT, opR, opS, List.set, List.map, List.getElem?_cons_zero, List.getElem?_cons_succ, Out.nx.injEq, exists_eq_left', exists_eq_left, Bool.false_eq_true, if_false, if_true, Lv.own, Bool.not_true, Bool.not_false, ite_true, ite_false, reduceIte, bdG, bdGs, callD1, cp, lf, flat_int, callL, List.any_cons, List.any_nil, Bool.or_false, Bool.false_or, Bool.true_or, nmin_00, nmin_01, nmin_10, nmin_11, wl_int, wl_str, wl_bl, wl_non, wl_n, ne_ints, eq_ints, Lv.up, Lv.min, mnL, dsp, List.map_cons, List.map_nil, eq_self, Option.map_some, D.v, List.length_map, callE_b B_law, c_law_laid, l1, ne_II, hr0, decide_true]) (xs_nil rfl) fun ρ h => xs_nil ⟨_, _, _, _, _, h⟩
end K07

namespace K07
open PySem PySem.Spec PyProof.Rows L2 M
section
variable {P : Program} {w : World} {K : PySem.W.Frag} {h base : Heap} {mg : Str → Option Value}
theorem table (X : K.In h) (G : h.Ns mainGlobals mg) (c : SaysM fa fn file exs ex dini K) (xo : XOk P w K mg exs) (hmx : ∀ x ∈ exs, mg x = some (.ref (He.ga K x))) : ∃ fd : FuncData, He.ga K "law" = He.ga K "law" ∧ (∀ (s : Shared) (v : Value), BindsTo s fd ⟨[v], []⟩ [("script", v)]) ∧ fdOf K (He.ga K "law") = fd ∧ TbOk P w K mg base 17 (tabT K (caOf K exs) gis rows16) := by
  obtain ⟨hex, hgl⟩ := Bool.and_eq_true_iff.mp c.ext
  have md : Md K mg gis := md_of X G c.d (by rfl) hgl
  have t0 : TbOk P w K mg base 1 (tabT K (caOf K exs) gis rows0) := tab_nil md
  obtain ⟨fd0, F0⟩ := c.d.def_ 0 (d := df7) rfl
  have b0 : Binds K fd0 ["base", "many"] [] := FunD.bindsN (ps := ["base", "many"]) F0 fun _ _ _ _ _ _ us hl => match us, hl with | [_, _], _ => rfl
  have t1 : TbOk P w K mg base 2 (tabT K (caOf K exs) gis rows1) := tab_step (name := "power") (run := run_power) md (by decide) t0 z0 xo F0 ⟨fs_power, tr_power⟩ b0 (glo_of X G c.d (by rfl)) (fun ds hs => runOf_len ds hs) (fun ds hs => runOf_ok ds hs)
  obtain ⟨fd1, F1⟩ := c.d.def_ 1 (d := df8) rfl
  have b1 : Binds K fd1 ["many"] [] := FunD.bindsN (ps := ["many"]) F1 fun _ _ _ _ _ _ us hl => match us, hl with | [_], _ => rfl
  have t2 : TbOk P w K mg base 3 (tabT K (caOf K exs) gis rows2) := tab_step (name := "check_wheels") (run := run_check_wheels) md (by decide) t1 z1 xo F1 ⟨fs_check_wheels, tr_check_wheels⟩ b1 (glo_of X G c.d (by rfl)) (fun ds hs => runOf_len ds hs) (fun ds hs => runOf_ok ds hs)
  obtain ⟨fd2, F2⟩ := c.d.def_ 2 (d := df9) rfl
  have b2 : Binds K fd2 ["base", "many", "number"] [] := FunD.bindsN (ps := ["base", "many", "number"]) F2 fun _ _ _ _ _ _ us hl => match us, hl with | [_, _, _], _ => rfl
  have t3 : TbOk P w K mg base 4 (tabT K (caOf K exs) gis rows3) := tab_step (name := "showing") (run := run_showing) md (by decide) t2 z2 xo F2 ⟨fs_showing, tr_showing⟩ b2 (glo_of X G c.d (by rfl)) (fun ds hs => runOf_len ds hs) (fun ds hs => runOf_ok ds hs)
  obtain ⟨fd3, F3⟩ := c.d.def_ 3 (d := df14) rfl
  have b3 : Binds K fd3 ["numbers", "n"] [] := FunD.bindsN (ps := ["numbers", "n"]) F3 fun _ _ _ _ _ _ us hl => match us, hl with | [_, _], _ => rfl
  have t4 : TbOk P w K mg base 5 (tabT K (caOf K exs) gis rows4) := tab_step (name := "differences") (run := run_differences) md (by decide) t3 z3 xo F3 ⟨fs_differences, tr_differences⟩ b3 (glo_of X G c.d (by rfl)) (fun ds hs => runOf_len ds hs) (fun ds hs => runOf_ok ds hs)
  obtain ⟨fd4, F4⟩ := c.d.def_ 4 (d := df15) rfl
  have b4 : Binds K fd4 ["numbers", "x"] [] := FunD.bindsN (ps := ["numbers", "x"]) F4 fun _ _ _ _ _ _ us hl => match us, hl with | [_, _], _ => rfl
  have t5 : TbOk P w K mg base 6 (tabT K (caOf K exs) gis rows5) := tab_step (name := "value_at") (run := run_value_at) md (by decide) t4 z4 xo F4 ⟨fs_value_at, tr_value_at⟩ b4 (glo_of X G c.d (by rfl)) (fun ds hs => runOf_len ds hs) (fun ds hs => runOf_ok ds hs)
  obtain ⟨fd5, F5⟩ := c.d.def_ 5 (d := df16) rfl
  have b5 : Binds K fd5 ["numbers", "wheels", "manner", "x"] [] := FunD.bindsN (ps := ["numbers", "wheels", "manner", "x"]) F5 fun _ _ _ _ _ _ us hl => match us, hl with | [_, _, _, _], _ => rfl
  have t6 : TbOk P w K mg base 7 (tabT K (caOf K exs) gis rows6) := tab_step (name := "laid") (run := run_laid) md (by decide) t5 z5 xo F5 ⟨fs_laid, tr_laid⟩ b5 (glo_of X G c.d (by rfl)) (fun ds hs => runOf_len ds hs) (fun ds hs => runOf_ok ds hs)
  obtain ⟨fd6, F6⟩ := c.d.def_ 6 (d := df18) rfl
  have b6 : Binds K fd6 ["script"] [] := FunD.bindsN (ps := ["script"]) F6 fun _ _ _ _ _ _ us hl => match us, hl with | [_], _ => rfl
  have t7 : TbOk P w K mg base 8 (tabT K (caOf K exs) gis rows7) := tab_step (name := "_law_draws") (run := run_law_draws) md (by decide) t6 z6 xo F6 ⟨fs_law_draws, tr_law_draws⟩ b6 (glo_of X G c.d (by rfl)) (fun ds hs => runOf_len ds hs) (fun ds hs => runOf_ok ds hs)
  obtain ⟨fd7, F7⟩ := c.d.def_ 7 (d := df19) rfl
  have b7 : Binds K fd7 ["draws", "k", "many"] [] := FunD.bindsN (ps := ["draws", "k", "many"]) F7 fun _ _ _ _ _ _ us hl => match us, hl with | [_, _, _], _ => rfl
  have t8 : TbOk P w K mg base 9 (tabT K (caOf K exs) gis rows8) := tab_step (name := "_law_mix") (run := run_law_mix) md (by decide) t7 z7 xo F7 ⟨fs_law_mix, tr_law_mix⟩ b7 (glo_of X G c.d (by rfl)) (fun ds hs => runOf_len ds hs) (fun ds hs => runOf_ok ds hs)
  obtain ⟨fd8, F8⟩ := c.d.def_ 8 (d := df20) rfl
  have b8 : Binds K fd8 ["base", "many"] [] := FunD.bindsN (ps := ["base", "many"]) F8 fun _ _ _ _ _ _ us hl => match us, hl with | [_, _], _ => rfl
  have t9 : TbOk P w K mg base 10 (tabT K (caOf K exs) gis rows9) := tab_step (name := "_law_power") (run := run_law_power) md (by decide) t8 z8 xo F8 ⟨fs_law_power, tr_law_power⟩ b8 (glo_of X G c.d (by rfl)) (fun ds hs => runOf_len ds hs) (fun ds hs => runOf_ok ds hs)
  obtain ⟨fd9, F9⟩ := c.d.def_ 9 (d := df21) rfl
  have b9 : Binds K fd9 ["numbers", "n"] [] := FunD.bindsN (ps := ["numbers", "n"]) F9 fun _ _ _ _ _ _ us hl => match us, hl with | [_, _], _ => rfl
  have t10 : TbOk P w K mg base 11 (tabT K (caOf K exs) gis rows10) := tab_step (name := "_law_differences") (run := run_law_differences) md (by decide) t9 z9 xo F9 ⟨fs_law_differences, tr_law_differences⟩ b9 (glo_of X G c.d (by rfl)) (fun ds hs => runOf_len ds hs) (fun ds hs => runOf_ok ds hs)
  obtain ⟨fd10, F10⟩ := c.d.def_ 10 (d := df22) rfl
  have b10 : Binds K fd10 ["numbers", "x"] [] := FunD.bindsN (ps := ["numbers", "x"]) F10 fun _ _ _ _ _ _ us hl => match us, hl with | [_, _], _ => rfl
  have t11 : TbOk P w K mg base 12 (tabT K (caOf K exs) gis rows11) := tab_step (name := "_law_value") (run := run_law_value) md (by decide) t10 z10 xo F10 ⟨fs_law_value, tr_law_value⟩ b10 (glo_of X G c.d (by rfl)) (fun ds hs => runOf_len ds hs) (fun ds hs => runOf_ok ds hs)
  obtain ⟨fd11, F11⟩ := c.d.def_ 11 (d := df23) rfl
  have b11 : Binds K fd11 ["dial"] [] := FunD.bindsN (ps := ["dial"]) F11 fun _ _ _ _ _ _ us hl => match us, hl with | [_], _ => rfl
  have t12 : TbOk P w K mg base 13 (tabT K (caOf K exs) gis rows12) := tab_step (name := "_law_number") (run := run_law_number) md (by decide) t11 z11 xo F11 ⟨fs_law_number, tr_law_number⟩ b11 (glo_of X G c.d (by rfl)) (fun ds hs => runOf_len ds hs) (fun ds hs => runOf_ok ds hs)
  obtain ⟨fd12, F12⟩ := c.d.def_ 12 (d := df24) rfl
  have b12 : Binds K fd12 ["many", "number"] [] := FunD.bindsN (ps := ["many", "number"]) F12 fun _ _ _ _ _ _ us hl => match us, hl with | [_, _], _ => rfl
  have t13 : TbOk P w K mg base 14 (tabT K (caOf K exs) gis rows13) := tab_step (name := "_law_shown") (run := run_law_shown) md (by decide) t12 z12 xo F12 ⟨fs_law_shown, tr_law_shown⟩ b12 (glo_of X G c.d (by rfl)) (fun ds hs => runOf_len ds hs) (fun ds hs => runOf_ok ds hs)
  obtain ⟨fd13, F13⟩ := c.d.def_ 13 (d := df25) rfl
  have b13 : Binds K fd13 ["numbers", "wheels", "manner"] [] := FunD.bindsN (ps := ["numbers", "wheels", "manner"]) F13 fun _ _ _ _ _ _ us hl => match us, hl with | [_, _, _], _ => rfl
  have t14 : TbOk P w K mg base 15 (tabT K (caOf K exs) gis rows14) := tab_try (name := "_law_error") (sb := sb) (run := run_law_error) md (by decide) t13 z13 xo F13 fs_law_error tr_law_error b13 (glo_of X G c.d (by rfl)) hmx (md_free X G c.d (x := "isinstance") (by rfl)) (xc_of (kits := kits) c hex (by rfl)) (by rfl) (fun ds hs => runTry_len ds hs) (fun ds hs => runTry_ok ds hs)
  obtain ⟨fd14, F14⟩ := c.d.def_ 14 (d := df26) rfl
  have b14 : Binds K fd14 [] [] := FunD.bindsN (ps := []) F14 fun _ _ _ _ _ _ us hl => match us, hl with | [], _ => rfl
  have t15 : TbOk P w K mg base 16 (tabT K (caOf K exs) gis rows15) := tab_step (name := "_law_faults") (run := run_law_faults) md (by decide) t14 z14 xo F14 ⟨fs_law_faults, tr_law_faults⟩ b14 (glo_of X G c.d (by rfl)) (fun ds hs => runOf_len ds hs) (fun ds hs => runOf_ok ds hs)
  obtain ⟨fd15, F15⟩ := c.d.def_ 15 (d := df27) rfl
  have b15 : Binds K fd15 ["script"] [] := FunD.bindsN (ps := ["script"]) F15 fun _ _ _ _ _ _ us hl => match us, hl with | [_], _ => rfl
  have t16 : TbOk P w K mg base 17 (tabT K (caOf K exs) gis rows16) := tab_step (name := "law") (run := run_law) md (by decide) t15 z15 xo F15 ⟨fs_law, tr_law⟩ b15 (glo_of X G c.d (by rfl)) (fun ds hs => runOf_len ds hs) (fun ds hs => runOf_ok ds hs)
  exact ⟨fd15, rfl, fun s v => FunD.bindsA (ps := ["script"]) F15 (fun _ _ _ _ _ _ us hl => match us, hl with | [_], _ => rfl) s [v] rfl, fd_eq F15, t16⟩
end
end K07
open PySem PySem.W PySem.Calls PyProof.Rows
theorem PySem.Challenge.cw_wheelsreckon_k07_whole_polynomials_that_holds : PySem.Challenge.rw_wheelsreckon_k07_whole_polynomials_that.Holds := by
  w_on; o_law
  refine HandSHeadRun.head_any (r := OpenLaw.row PySem.Challenge.rw_wheelsreckon_k07_whole_polynomials_that) (q := view (OpenLaw.row PySem.Challenge.rw_wheelsreckon_k07_whole_polynomials_that).prog [27]) (H := K07.hk) (ob := K07.ob) (M := 3680) (loose := K07.loose) (d := HandSHeadRun.topDef (OpenLaw.row PySem.Challenge.rw_wheelsreckon_k07_whole_polynomials_that).prog 27) (kwd := []) K07.ob_eq
    (by kernel_rfl) (fun s => by kernel_rfl) K07.run (by kernel_rfl) (by kernel_rfl) (by kernel_rfl) (by rfl) (by first | assumption | decide +kernel) (by decide +kernel) ⟨rfl, rfl, rfl, rfl, rfl, by decide +kernel⟩ ?hw ?hc
  case hw => w_witness2
  case hc =>
    refine M.walkG (l := PySem.Challenge.rw_wheelsreckon_k07_whole_polynomials_that) (n := 63) (k := 17) (x := "script") rfl (by decide) (by kernel_rfl) ⟨⟨rfl, by decide, by decide⟩, rfl⟩ ?F
    intro w mg fa h Y G hmg0
    obtain ⟨K, KX, c⟩ := Y
    have hmg : mg ("law" : PySem.Str) = some (.ref fa) := by
      have e : (HandSHeadRun.topDef (OpenLaw.row PySem.Challenge.rw_wheelsreckon_k07_whole_polynomials_that).prog 27).name = ("law" : PySem.Str) := by kernel_rfl
      rw [← e]
      exact hmg0
    have hmx : ∀ x ∈ K07.exs, mg x = some (.ref (He.ga K x)) := fun x hx => M.glo_of KX G c.d (List.all_eq_true.mp (show (K07.exs.all fun x => M.gloB K07.fa x) = true by rfl) x hx)
    have xo : M.XOk (PySem.Challenge.rw_wheelsreckon_k07_whole_polynomials_that).prog w K mg K07.exs := M.xok_of c (M.SaysM.ini c rfl (by rfl) ⟨_, _, _, _, _, _, _, _, _, _, rfl, rfl⟩ rfl rfl rfl rfl rfl rfl rfl rfl ⟨_, rfl, rfl⟩) ?hb (M.md_free KX G c.d (x := "super") (by rfl)) hmx (by rfl)
    case hb =>
      intro fd e1 e2
      exact M.binds_ini e1 e2 rfl
    have T0 := fun base => K07.table (P := (PySem.Challenge.rw_wheelsreckon_k07_whole_polynomials_that).prog) (w := w) (base := base) KX G c xo hmx
    obtain ⟨fd, -, hb, efd, -⟩ := T0 h
    refine ⟨K, fd, M.spF K (M.caOf K K07.exs) K07.run_law, KX, hb, fun H a ns hl hbt hS => M.spF_law hS (K07.law_true ns hl hbt), fun base _ _ => ?_⟩
    obtain ⟨_, -, -, -, tb⟩ := T0 base
    obtain ⟨e1, -, -, -, Fg⟩ := tb.fn "law" (M.feOf K (M.caOf K K07.exs) ("law", ["script"], ⟨K07.run_law, []⟩)) (M.fn_hitT M.find_0)
    have e2 : fa = He.ga K "law" := by
      have := hmg.symm.trans e1
      cases this
      rfl
    rw [e2, ← efd]
    exact Fg

